/- The machine answers, at each function of the program that is reached, what its plain function answers. Conditions: none. -/
import Derived.Test.YtfjmlccolihpmaaProg
import Derived.KernelRfl
import Derived.Test.YtfjmlccolihpmaaSimRs
import Derived.Test.YtfjmlccolihpmaaTfaT
namespace Go.Proofs.Ytfjmlccolihpmaa
open Go Go.Sim Go.Pw Go.Proofs
set_option linter.unusedVariables false
set_option linter.unusedSimpArgs false
set_option maxRecDepth 100000
set_option maxHeartbeats 4000000
noncomputable section
noncomputable abbrev u_S_Point (x:S_Point):List AV:=[I x.X,I x.Y]
noncomputable def e_S_Point (x:S_Point):AV:= .agg (u_S_Point x)
noncomputable abbrev u_S_Face (x:S_Face):List AV:=[Y x.Name,W 1 eI x.Ring]
noncomputable def e_S_Face (x:S_Face):AV:= .agg (u_S_Face x)
noncomputable abbrev u_S_Drawing (x:S_Drawing):List AV:=[I x.Width,I x.Height,W 2 e_S_Point x.Points,W 2 e_S_Face x.Faces]
noncomputable def e_S_Drawing (x:S_Drawing):AV:= .agg (u_S_Drawing x)
noncomputable abbrev u_S_l23Map (x:S_l23Map):List AV:=[W 1 (eL 1 eI) x.near,W 1 eB x.border]
noncomputable abbrev u_S_l23Search (x:S_l23Search):List AV:=[.cp (u_S_l23Map x.m) 0,W 1 eI x.order,V x.first,W 1 eI x.best,I x.count,I x.nodes,I x.budget]
noncomputable def e_S_l23Search (x:S_l23Search):AV:= .agg (u_S_l23Search x)
noncomputable abbrev u_S_assemblySearch (x:S_assemblySearch):List AV:=[W 1 (eL 1 eI) x.sides.near,W 1 eB x.sides.border,I x.left,I x.found,W 1 eI x.first,V x.one]
noncomputable def e_S_assemblySearch (x:S_assemblySearch):AV:= .agg (u_S_assemblySearch x)
noncomputable abbrev u_Ar2_Int (x:Ar2_Int):List AV:=[I x.e0,I x.e1]
noncomputable def e_Ar2_Int (x:Ar2_Int):AV:= .agg (u_Ar2_Int x)
noncomputable def fc7:FCfg:={par:=[.cst false,.cst false],inn:=[(7,some ([1,2,6,7,8],[2,6,8])),(13,some ([1,2,6,7,8,9,10,11],[2,6,8,9])),(18,some ([1,2,6,7,9,12],[2,6,9]))],out:=[(8,some ([1,2,6,7,8,9,10,44],[2,6,8,9])),(10,some ([1,2,6,7,8,9,10,49],[2,6,8,9])),(14,some ([1,2,6,7,9,65],[2,6,9])),(25,some ([9,12,92],[9]))],loopK:=[],frz:=[],sch:=[(10,.first 0 [3,4] [1,2]<| .first 1 [2,3,4] []<| .fork 2 (.fork 3 (.first 4 [] []<| .done) (.stop)) (.stop))],shut:=[13]}
noncomputable def fc10:FCfg:={par:=[.cst false,.cst false],inn:=[(4,some ([6,7],[]))],out:=[(2,some ([6,7,22],[]))],loopK:=[],frz:=[4],sch:=[],shut:=[]}
noncomputable def fc37:FCfg:={par:=[.cst false,.cst false],inn:=[],out:=[],loopK:=[],frz:=[],sch:=[],shut:=[]}
noncomputable def fc38:FCfg:={par:=[.cst false,.cst false],inn:=[],out:=[],loopK:=[],frz:=[],sch:=[],shut:=[]}
noncomputable def fc39:FCfg:={par:=[.cst false],inn:=[(3,some ([1,2,3],[1,2,3])),(4,some ([1,2,3],[1,2,3])),(5,some ([1,2,3],[1,2,3])),(6,some ([2,3],[2,3]))],out:=[],loopK:=[],frz:=[],sch:=[],shut:=[]}
noncomputable def fc40:FCfg:={par:=[.cst false,.cst false],inn:=[(8,some ([],[]))],out:=[(6,some ([0,1,5,25],[]))],loopK:=[(4,([0,1,5],[]))],frz:=[],sch:=[(6,.first 0 [2,3,8] [1,4,5,6,7]<| .first 1 [2,3,8] [4,5,6,7]<| .first 2 [3,8] [4,5,6,7]<| .first 3 [8] [4,5,6,7]<| .first 4 [6,7,8] [5]<| .first 5 [6,7,8] []<| .first 6 [7,8] []<| .first 7 [8] []<| .first 8 [] []<| .done)],shut:=[]}
noncomputable def fc41:FCfg:={par:=[.cst false,.cst false],inn:=[],out:=[],loopK:=[],frz:=[],sch:=[],shut:=[]}
noncomputable def fc42:FCfg:={par:=[.ws,.cst false],inn:=[],out:=[],loopK:=[],frz:=[],sch:=[],shut:=[]}
noncomputable def fc43:FCfg:={par:=[.row,.cst false],inn:=[(5,some ([0,1,5],[0])),(6,some ([1],[0]))],out:=[],loopK:=[(2,([0,1,5],[0]))],frz:=[],sch:=[],shut:=[]}
noncomputable def fc44:FCfg:={par:=[.cst false,.cst false],inn:=[(7,some ([1],[]))],out:=[],loopK:=[(2,([0,1,5],[]))],frz:=[],sch:=[],shut:=[]}
noncomputable def fc51:FCfg:={par:=[.cut 4],inn:=[(11,some ([],[]))],out:=[(1,some ([0,32],[])),(6,some ([0,3,75],[])),(9,some ([0,3,95],[]))],loopK:=[(4,([0,3],[]))],frz:=[],sch:=[(6,.first 0 (rg [1,4,5,34]) [4]<| .first 1 (rg [2,4,5,34]) [4]<| .first 2 (rg [3,4,5,34]) [4]<| .first 3 (rg [5,34]) [4]<| .first 4 (rg [5,34]) []<| .first 5 (rg [6,34]) []<| .first 6 (rg [7,34]) []<| .first 7 (rg [8,34]) []<| .fork 8 (.first 9 (rg [10,34]) []<| .first 10 (rg [11,34]) []<| .first 11 (rg [12,34]) []<| .first 12 (rg [13,34]) []<| .first 13 (rg [14,34]) []<| .first 14 [15,16,17,20,21,22,31,32,33] (rg [18,20,23,31])<| .first 15 [16,17,20,21,22,31,32,33] (rg [18,20,23,31])<| .first 16 [17,20,21,22,31,32,33] (rg [18,20,23,31])<| .first 17 [20,21,22,31,32,33] (rg [18,20,23,31])<| .first 18 [19,20,21,22,31,32,33] (rg [23,31])<| .first 19 [20,21,22,31,32,33] (rg [23,31])<| .first 20 [21,22,31,32,33] (rg [23,31])<| .first 21 [22,31,32,33] (rg [23,31])<| .first 22 [31,32,33] (rg [23,31])<| .first 23 (rg [24,27,28,34]) [27]<| .first 24 (rg [25,27,28,34]) [27]<| .first 25 [26,28,29,30,31,32,33] [27]<| .first 26 (rg [28,34]) [27]<| .first 27 (rg [28,34]) []<| .first 28 [29,30,31,32,33] []<| .first 29 [30,31,32,33] []<| .first 30 [31,32,33] []<| .first 31 [32,33] []<| .first 32 [33] []<| .first 33 [] []<| .done) (.stop))],shut:=[]}
noncomputable def fc53:FCfg:={par:=[.cst false,.cst false,.cst false],inn:=[(6,some ([8],[22])),(7,some ([8],[22]))],out:=[],loopK:=[],frz:=[],sch:=[],shut:=[]}
noncomputable def fc54:FCfg:={par:=[.cst false],inn:=[(6,some ([1,3,4,32,33,34],[1,4])),(9,some ([1],[1])),(12,some ([1,5,6,63,64,65],[1,6])),(18,some ([],[]))],out:=[(1,some ([1,30],[1])),(6,some ([1,32,33,34,60],[1])),(12,some ([1,6,63,64,65,89],[1,6])),(15,some ([1,63,64,65,104],[1]))],loopK:=[(4,([1,32,33,34],[1])),(10,([1,63,64,65],[1]))],frz:=[],sch:=[(6,.first 0 (rg [1,2,4,22]) [2,3]<| .first 1 (rg [4,22]) [2,3]<| .first 2 (rg [3,22]) []<| .first 3 (rg [4,22]) []<| .fork 4 (.first 5 (rg [6,22]) []<| .first 6 (rg [7,22]) []<| .first 7 (rg [8,9,11,22]) [9,10]<| .first 8 (rg [11,22]) [9,10]<| .first 9 (rg [10,22]) []<| .first 10 (rg [11,22]) []<| .fork 11 (.first 12 (rg [13,22]) []<| .first 13 (rg [14,22]) []<| .first 14 (rg [15,22]) []<| .first 15 [16,18,20,21] [17,19]<| .first 16 [18,20,21] [17,19]<| .first 17 [18,20,21] [19]<| .first 19 [20,21] [18]<| .fork 18 (.fork 20 (.first 21 [] []<| .done) (.stop)) (.stop)) (.stop)) (.stop)),(12,.first 0 (rg [1,20]) []<| .first 1 (rg [2,20]) []<| .fork 2 (.first 3 (rg [4,20]) []<| .first 4 (rg [5,20]) []<| .first 5 (rg [6,20]) []<| .first 6 (rg [7,20]) []<| .first 7 (rg [8,20]) []<| .first 8 [9,12,13,14,17,18,19] [10,11,15,16]<| .first 9 [12,13,14,17,18,19] [10,11,15,16]<| .first 10 [11,12,13,14,17,18,19] [15,16]<| .first 11 [12,13,14,17,18,19] [15,16]<| .first 12 [13,14,17,18,19] [15,16]<| .first 13 [14,17,18,19] [15,16]<| .first 14 [17,18,19] [15,16]<| .first 15 [16,17,18,19] []<| .first 16 [17,18,19] []<| .first 17 [18,19] []<| .first 18 [19] []<| .first 19 [] []<| .done) (.stop))],shut:=[]}
noncomputable def fc55:FCfg:={par:=[.cst false],inn:=[(9,some ([1,2,3,4,5,6,7,18,19,25,26,27],[1,2,3,5,7])),(10,some ([1,2,3,4,5,7,8,18,19,25,26,27],[1,2,3,5,7,8])),(12,some ([1,2,3,4,5,18,19,25,26,27],[1,2,3,5])),(13,some ([1,2,3,18,19],[1,2,3])),(14,some ([2,3],[2,3]))],out:=[(1,some ([1,2,3],[1,2,3])),(10,some ([1,2,3,4,5,18,19,25,26,27,75],[1,2,3,5]))],loopK:=[(3,([1,2,3,18,19],[1,2,3])),(7,([1,2,3,4,5,18,19,25,26,27],[1,2,3,5]))],frz:=[],sch:=[(1,.first 0 [1,6,8] [2,3,4,5,7]<| .first 2 [3,4,5,6,8] [1,7]<| .first 3 [4,5,6,8] [1,7]<| .first 4 [5,6,8] [1,7]<| .fork 1 (.fork 5 (.fork 6 (.fork 7 (.fork 8 (.done) (.stop)) (.stop)) (.fork 7 (.fork 6 (.fork 8 (.done) (.stop)) (.stop)) (.stop))) (.fork 7 (.fork 5 (.fork 6 (.fork 8 (.done) (.stop)) (.stop)) (.stop)) (.stop))) (.fork 5 (.fork 1 (.fork 6 (.fork 7 (.fork 8 (.done) (.stop)) (.stop)) (.fork 7 (.fork 6 (.fork 8 (.done) (.stop)) (.stop)) (.stop))) (.fork 7 (.fork 1 (.fork 6 (.fork 8 (.done) (.stop)) (.stop)) (.stop)) (.stop))) (.fork 7 (.fork 1 (.fork 5 (.fork 6 (.fork 8 (.done) (.stop)) (.stop)) (.stop)) (.fork 5 (.fork 1 (.fork 6 (.fork 8 (.done) (.stop)) (.stop)) (.stop)) (.stop))) (.stop))))],shut:=[]}
noncomputable def fc56:FCfg:={par:=[.cst false,.cst false],inn:=[(7,some ([1,2,5,10,11],[2,5])),(8,some ([5],[5]))],out:=[(5,some ([1,2,5,6,10,11,24],[2,5]))],loopK:=[(3,([1,2,5,10,11],[2,5]))],frz:=[],sch:=[],shut:=[]}
noncomputable def fc58:FCfg:={par:=[.cst false,.cst false,.cst false],inn:=[],out:=[],loopK:=[],frz:=[],sch:=[],shut:=[]}
noncomputable def fc59:FCfg:={par:=[.cst false,.cst false],inn:=[],out:=[],loopK:=[],frz:=[],sch:=[],shut:=[]}
noncomputable def fc60:FCfg:={par:=[.cst false,.cst false],inn:=[],out:=[],loopK:=[],frz:=[],sch:=[],shut:=[]}
noncomputable def fc63:FCfg:={par:=[.cst false],inn:=[(2,some ([1,3],[1,3])),(5,some ([3,5,11,12,13],[3,5])),(7,some ([3],[3])),(14,some ([3,6,7,8,28,29,33,34],[3,6,8])),(16,some ([3,6,7,28,29,33,34],[3,6])),(17,some ([3,6,28,29],[3,6])),(18,some ([6],[6]))],out:=[(5,some ([3,11,12,13],[3])),(14,some ([3,6,7,8,28,29,33,34,47],[3,6,8])),(15,some ([3,6,7,28,29,33,34],[3,6]))],loopK:=[(3,([3,11,12,13],[3])),(9,([3,6,28,29],[3,6])),(12,([3,6,7,28,29,33,34],[3,6]))],frz:=[2],sch:=[(5,.first 1 [2,3,4,5,6] [0]<| .first 2 [3,4,5,6] [0]<| .first 0 [5,6] [3,4]<| .fork 3 (.fork 4 (.fork 5 (.fork 6 (.done) (.stop)) (.stop)) (.stop)) (.stop)),(15,.first 0 [9,10] (rg [1,9])<| .first 1 [9,10] (rg [2,9])<| .first 2 [4,5,8,9,10] [3,6,7]<| .first 3 [4,5,8,9,10] [6,7]<| .first 6 [7,8,9,10] [4,5]<| .first 4 [5,8,9,10] [7]<| .first 5 [8,9,10] [7]<| .fork 7 (.fork 8 (.first 9 [10] []<| .fork 10 (.done) (.stop)) (.stop)) (.stop))],shut:=[]}
noncomputable def fc65:FCfg:={par:=[.cst false,.cst false,.cst false],inn:=[],out:=[(1,some ([6],[]))],loopK:=[],frz:=[],sch:=[],shut:=[]}
noncomputable def fc69:FCfg:={par:=[.cst false],inn:=[],out:=[],loopK:=[],frz:=[],sch:=[],shut:=[]}
noncomputable def fc79:FCfg:={par:=[.cst false,.cst false,.cst false],inn:=[],out:=[(1,some ([6],[]))],loopK:=[],frz:=[],sch:=[],shut:=[]}
noncomputable def fc82:FCfg:={par:=[.cst false,.cst false],inn:=[],out:=[],loopK:=[],frz:=[],sch:=[],shut:=[]}
noncomputable def fc83:FCfg:={par:=[.cst false,.cst false],inn:=[(10,some ([1],[]))],out:=[],loopK:=[(5,([0,1,5],[]))],frz:=[],sch:=[],shut:=[]}
noncomputable def fc84:FCfg:={par:=[.cut 4,.cst false,.cst false],inn:=[(6,some ([1,8],[20])),(7,some ([1,8],[20]))],out:=[],loopK:=[],frz:=[],sch:=[],shut:=[]}
noncomputable def fc85:FCfg:={par:=[.cst false],inn:=[(4,some ([0,3,4],[3])),(6,some ([3],[3]))],out:=[],loopK:=[(3,([0,3,4],[3]))],frz:=[],sch:=[],shut:=[]}
noncomputable def fc86:FCfg:={par:=[.cst false],inn:=[(4,some ([0,3,4],[3])),(6,some ([3],[3]))],out:=[],loopK:=[(3,([0,3,4],[3]))],frz:=[],sch:=[],shut:=[]}
noncomputable def fc87:FCfg:={par:=[.cst false,.cst false],inn:=[(8,some ([],[]))],out:=[(6,some ([0,1,5,26],[]))],loopK:=[(4,([0,1,5],[]))],frz:=[],sch:=[(6,.first 0 [2,3,8,9] [1,4,5,6,7]<| .first 1 [2,3,8,9] [4,5,6,7]<| .first 2 [3,8,9] [4,5,6,7]<| .first 3 [8,9] [4,5,6,7]<| .first 4 [6,7,8,9] [5]<| .first 5 [6,7,8,9] []<| .first 6 [7,8,9] []<| .first 7 [8,9] []<| .fork 8 (.first 9 [] []<| .done) (.stop))],shut:=[]}
noncomputable def fc88:FCfg:={par:=[.cst false,.cst false],inn:=[(8,some ([],[]))],out:=[(6,some ([0,1,5,26],[]))],loopK:=[(4,([0,1,5],[]))],frz:=[],sch:=[(6,.first 0 [2,3,8,9] [1,4,5,6,7]<| .first 1 [2,3,8,9] [4,5,6,7]<| .first 2 [3,8,9] [4,5,6,7]<| .first 3 [8,9] [4,5,6,7]<| .first 4 [6,7,8,9] [5]<| .first 5 [6,7,8,9] []<| .first 6 [7,8,9] []<| .first 7 [8,9] []<| .fork 8 (.first 9 [] []<| .done) (.stop))],shut:=[]}
noncomputable def fc89:FCfg:={par:=[.row,.cst false],inn:=[(5,some ([0,1,5],[])),(7,some ([0,1,5],[])),(8,some ([1],[]))],out:=[],loopK:=[(2,([0,1,5],[]))],frz:=[],sch:=[],shut:=[]}
noncomputable def fc90:FCfg:={par:=[.ws,.cst false],inn:=[(5,some ([0,1,5],[])),(7,some ([1],[]))],out:=[],loopK:=[(2,([0,1,5],[]))],frz:=[],sch:=[],shut:=[]}
noncomputable def fc94:FCfg:={par:=[.cst false],inn:=[(7,some ([3],[]))],out:=[],loopK:=[(4,([0,3],[]))],frz:=[],sch:=[],shut:=[]}
noncomputable def fc97:FCfg:={par:=[.cst false,.cst false,.cst false],inn:=[],out:=[(1,some ([6],[]))],loopK:=[],frz:=[],sch:=[],shut:=[]}
noncomputable def fc98:FCfg:={par:=[.cut 4],inn:=[(5,some ([0,3],[])),(13,some ([],[]))],out:=[(6,some ([0,3,49],[])),(11,some ([0,3,4,69],[]))],loopK:=[(4,([0,3],[])),(9,([0,3,4],[]))],frz:=[],sch:=[(6,.first 0 (rg [1,4,5,8,12,30]) [4,8,9,10,11]<| .first 1 (rg [2,4,5,8,12,30]) [4,8,9,10,11]<| .first 2 (rg [3,4,5,8,12,30]) [4,8,9,10,11]<| .first 3 (rg [5,8,12,30]) [4,8,9,10,11]<| .first 4 (rg [5,8,12,30]) [8,9,10,11]<| .first 5 (rg [6,8,12,30]) [8,9,10,11]<| .first 6 (rg [7,8,12,30]) [8,9,10,11]<| .first 7 (rg [12,30]) [8,9,10,11]<| .first 8 (rg [9,30]) []<| .first 9 (rg [10,30]) []<| .first 10 (rg [11,30]) []<| .first 11 (rg [12,30]) []<| .fork 12 (.first 13 (rg [14,30]) []<| .first 14 (rg [15,30]) []<| .first 15 [16,17,18,20,21,22,27,28,29] [19,23,24,25,26]<| .first 16 [17,18,20,21,22,27,28,29] [19,23,24,25,26]<| .first 17 [18,20,21,22,27,28,29] [19,23,24,25,26]<| .first 18 [20,21,22,27,28,29] [19,23,24,25,26]<| .first 19 [20,21,22,27,28,29] [23,24,25,26]<| .first 20 [21,22,27,28,29] [23,24,25,26]<| .first 21 [22,27,28,29] [23,24,25,26]<| .first 22 [27,28,29] [23,24,25,26]<| .first 23 (rg [24,30]) []<| .first 24 [25,26,27,28,29] []<| .first 25 [26,27,28,29] []<| .first 26 [27,28,29] []<| .fork 27 (.first 28 [29] []<| .first 29 [] []<| .done) (.stop)) (.stop)),(11,.first 0 [1,2,3,5,6,14] (rg [4,5,7,14])<| .first 1 [2,3,5,6,14] (rg [4,5,7,14])<| .first 2 [3,5,6,14] (rg [4,5,7,14])<| .first 3 [5,6,14] (rg [4,5,7,14])<| .first 4 [5,6,14] (rg [7,14])<| .first 5 [6,14] (rg [7,14])<| .first 6 [14] (rg [7,14])<| .first 7 [8,9,10,12,13,14] [11]<| .first 8 [9,10,12,13,14] [11]<| .first 9 [10,12,13,14] [11]<| .first 10 [12,13,14] [11]<| .first 11 [12,13,14] []<| .first 12 [13,14] []<| .first 13 [14] []<| .first 14 [] []<| .done)],shut:=[]}
noncomputable def fc99:FCfg:={par:=[.cst false],inn:=[(8,some ([],[]))],out:=[(1,some ([0,16],[])),(6,some ([0,3,34],[]))],loopK:=[(4,([0,3],[]))],frz:=[],sch:=[],shut:=[]}
noncomputable def fc100:FCfg:={par:=[.cut 4,.cst false],inn:=[(8,some ([6],[6]))],out:=[(5,some ([0,1,6,7,26],[6])),(7,some ([0,1,6,7],[6]))],loopK:=[(3,([0,1,6,7],[6]))],frz:=[],sch:=[(5,.first 0 [2,3,10,11] [1,4,5,6,7,8,9]<| .first 1 [2,3,10,11] [4,5,6,7,8,9]<| .first 2 [3,10,11] [4,5,6,7,8,9]<| .first 3 [10,11] [4,5,6,7,8,9]<| .first 4 (rg [5,12]) []<| .first 5 [6,7,8,9,10,11] []<| .first 6 [7,8,9,10,11] []<| .first 7 [8,9,10,11] []<| .first 8 [9,10,11] []<| .first 9 [10,11] []<| .fork 10 (.first 11 [] []<| .done) (.stop)),(7,.first 0 [12,13] (rg [1,12])<| .first 1 (rg [2,5,9,14]) [5,6,7,8]<| .first 2 [3,4,9,10,11,12,13] [5,6,7,8]<| .first 3 [4,9,10,11,12,13] [5,6,7,8]<| .first 4 [9,10,11,12,13] [5,6,7,8]<| .first 5 (rg [7,14]) [6]<| .first 6 (rg [7,14]) []<| .first 7 (rg [8,14]) []<| .first 8 [9,10,11,12,13] []<| .first 9 [10,11,12,13] []<| .first 10 [11,12,13] []<| .fork 11 (.fork 12 (.fork 13 (.done) (.stop)) (.stop)) (.stop))],shut:=[]}
noncomputable def fc101:FCfg:={par:=[.cst false],inn:=[(9,some ([0,3],[])),(11,some ([0,3,5],[])),(13,some ([0,3,5,6],[6])),(14,some ([0,3,5,6,7],[6,7])),(15,some ([0,3,5,6,7,8],[6,7,8])),(22,some ([0],[]))],out:=[(2,some ([0,3,17],[])),(15,some ([0,3,5,6,7,66],[6,7])),(20,some ([0,3,5,6,7,9,95],[6,7]))],loopK:=[(5,([0,3,4],[])),(10,([0,3,5],[])),(18,([0,3,5,6,7,9],[6,7]))],frz:=[],sch:=[(20,.first 0 (rg [1,2,3,4,5,22]) [2,4]<| .first 1 (rg [3,4,5,22]) [2,4]<| .first 2 (rg [3,4,5,22]) [4]<| .first 3 (rg [5,22]) [4]<| .first 4 (rg [5,22]) []<| .first 5 (rg [6,22]) []<| .first 6 (rg [7,22]) []<| .first 7 [20,21] (rg [8,20])<| .first 8 [20,21] (rg [9,20])<| .first 9 [11,12,20,21] (rg [10,11,13,20])<| .first 10 [11,12,20,21] (rg [13,20])<| .first 11 [12,20,21] (rg [13,20])<| .first 12 [20,21] (rg [13,20])<| .first 13 [18,19,20,21] [14,15,16,17]<| .first 14 [15,17,18,19,20,21] [16]<| .first 15 [17,18,19,20,21] [16]<| .first 16 [17,18,19,20,21] []<| .first 17 [18,19,20,21] []<| .first 18 [19,20,21] []<| .first 19 [20,21] []<| .fork 20 (.first 21 [] []<| .done) (.stop))],shut:=[]}
noncomputable def fc104:FCfg:={par:=[.ptr [.imm,.imm,.imm,.imm,.sh,.imm],.mv],inn:=[(2,some ([0,1],[0,1])),(7,some ([0],[0])),(8,some ([0],[0])),(13,some ([],[0])),(14,some ([0,1,53,54,55],[0,1,53])),(15,some ([],[0]))],out:=[],loopK:=[(10,([0,1,53,54,55],[0,1,53]))],frz:=[],sch:=[],shut:=[]}
noncomputable def fc105:FCfg:={par:=[.cst false,.cst false],inn:=[],out:=[],loopK:=[],frz:=[],sch:=[],shut:=[]}
noncomputable def fc106:FCfg:={par:=[.cst false],inn:=[(8,some ([],[]))],out:=[(1,some ([0,21],[])),(6,some ([0,3,49],[]))],loopK:=[(4,([0,3],[]))],frz:=[],sch:=[],shut:=[]}
noncomputable def fc107:FCfg:={par:=[.cst false,.cst false],inn:=[(9,some ([6],[6]))],out:=[],loopK:=[(3,([0,6,10,11,12],[6]))],frz:=[],sch:=[],shut:=[]}
noncomputable def fc108:FCfg:={par:=[.cst false],inn:=[(15,some ([0,3,23,24],[])),(16,some ([0],[]))],out:=[(2,some ([0,3,21],[])),(7,some ([0,3,4,5,6,7,23,24],[5,6,7])),(8,some ([0,3,4,5,6,23,24,59],[5,6])),(13,some ([0,3,4,5,6,8,23,24,88],[5,6]))],loopK:=[(5,([0,3,23,24],[])),(11,([0,3,4,5,6,8,23,24],[5,6]))],frz:=[],sch:=[(7,.first 0 [2,3,21,22,23] (rg [1,2,4,21])<| .first 1 [2,3,21,22,23] (rg [4,21])<| .first 2 [3,21,22,23] (rg [4,21])<| .first 3 [21,22,23] (rg [4,21])<| .first 4 [9,10,22,23] (rg [5,9,11,22])<| .first 5 [6,8,9,10,22,23] (rg [7,8,11,22])<| .first 6 [8,9,10,22,23] (rg [7,8,11,22])<| .first 7 [8,9,10,22,23] (rg [11,22])<| .first 8 [9,10,22,23] (rg [11,22])<| .first 9 [10,22,23] (rg [11,22])<| .first 10 [22,23] (rg [11,22])<| .first 11 [16,17,23] (rg [12,16,18,23])<| .first 12 [13,15,16,17,23] [14,18,19,20,21,22]<| .first 13 [15,16,17,23] [14,18,19,20,21,22]<| .first 14 [15,16,17,23] [18,19,20,21,22]<| .first 15 [16,17,23] [18,19,20,21,22]<| .first 16 [17,23] [18,19,20,21,22]<| .first 17 [23] [18,19,20,21,22]<| .fork 18 (.fork 19 (.fork 20 (.fork 21 (.fork 22 (.fork 23 (.done) (.stop)) (.stop)) (.stop)) (.stop)) (.fork 20 (.fork 19 (.fork 21 (.fork 22 (.fork 23 (.done) (.stop)) (.stop)) (.stop)) (.stop)) (.stop))) (.fork 19 (.fork 18 (.fork 20 (.fork 21 (.fork 22 (.fork 23 (.done) (.stop)) (.stop)) (.stop)) (.stop)) (.fork 20 (.fork 18 (.fork 21 (.fork 22 (.fork 23 (.done) (.stop)) (.stop)) (.stop)) (.stop)) (.stop))) (.fork 20 (.fork 18 (.fork 19 (.fork 21 (.fork 22 (.fork 23 (.done) (.stop)) (.stop)) (.stop)) (.stop)) (.fork 19 (.fork 18 (.fork 21 (.fork 22 (.fork 23 (.done) (.stop)) (.stop)) (.stop)) (.stop)) (.stop))) (.stop)))),(13,.first 0 (rg [1,2,3,4,5,22]) [2,4]<| .first 1 (rg [3,4,5,22]) [2,4]<| .first 2 (rg [3,4,5,22]) [4]<| .first 3 (rg [5,22]) [4]<| .first 4 (rg [5,22]) []<| .first 5 (rg [6,22]) []<| .first 6 (rg [7,22]) []<| .first 7 [20,21] (rg [8,20])<| .first 8 [20,21] (rg [9,20])<| .first 9 [11,12,20,21] (rg [10,11,13,20])<| .first 10 [11,12,20,21] (rg [13,20])<| .first 11 [12,20,21] (rg [13,20])<| .first 12 [20,21] (rg [13,20])<| .first 13 [18,19,20,21] [14,15,16,17]<| .first 14 [15,17,18,19,20,21] [16]<| .first 15 [17,18,19,20,21] [16]<| .first 16 [17,18,19,20,21] []<| .first 17 [18,19,20,21] []<| .first 18 [19,20,21] []<| .first 19 [20,21] []<| .fork 20 (.first 21 [] []<| .done) (.stop))],shut:=[]}
noncomputable def fc109:FCfg:={par:=[.cst false,.cst false],inn:=[],out:=[(1,some ([5],[5]))],loopK:=[],frz:=[],sch:=[(1,.first 0 [1,8,9,10,11,12,13] [2,3,4,5,6,7]<| .first 1 (rg [8,14]) [2,3,4,5,6,7]<| .first 2 (rg [3,4,5,14]) [4]<| .first 3 (rg [5,14]) [4]<| .first 4 (rg [5,14]) []<| .first 5 (rg [6,14]) []<| .first 6 (rg [7,14]) []<| .first 7 (rg [8,14]) []<| .fork 8 (.first 9 [10,11,12,13] []<| .first 10 [12,13] [11]<| .first 11 [13] [12]<| .fork 12 (.fork 13 (.done) (.stop)) (.stop)) (.stop))],shut:=[]}
noncomputable def fc110:FCfg:={par:=[.cst false,.cst false,.cst false],inn:=[],out:=[(1,some ([6],[]))],loopK:=[],frz:=[],sch:=[],shut:=[]}
noncomputable def fc111:FCfg:={par:=[.cst false,.cst false],inn:=[(7,some ([],[]))],out:=[],loopK:=[(2,([0,1,7,8],[]))],frz:=[],sch:=[],shut:=[]}
noncomputable def fc112:FCfg:={par:=[.cst false,.cst false],inn:=[(7,some ([],[]))],out:=[],loopK:=[(2,([0,1,7,8],[]))],frz:=[],sch:=[],shut:=[]}
noncomputable def fc113:FCfg:={par:=[.cst false],inn:=[(8,some ([3],[3]))],out:=[],loopK:=[(3,([0,3,8,9,10],[3]))],frz:=[],sch:=[],shut:=[]}
noncomputable def fc114:FCfg:={par:=[.cst false,.cst false],inn:=[],out:=[],loopK:=[],frz:=[],sch:=[],shut:=[]}
noncomputable def fc115:FCfg:={par:=[.cst false],inn:=[],out:=[(1,some ([4],[]))],loopK:=[],frz:=[],sch:=[(1,.first 0 [2,3,5,6] [1,4]<| .first 1 [2,3,5,6] [4]<| .first 2 [3,5,6] [4]<| .first 3 [5,6] [4]<| .first 4 [5,6] []<| .fork 5 (.fork 6 (.done) (.stop)) (.stop))],shut:=[]}
noncomputable def fc116:FCfg:={par:=[.cst false,.cst false],inn:=[],out:=[],loopK:=[],frz:=[],sch:=[],shut:=[]}
noncomputable def fc117:FCfg:={par:=[.cst false],inn:=[],out:=[],loopK:=[],frz:=[],sch:=[],shut:=[]}
noncomputable def fc135:FCfg:={par:=[.cst false,.cst false],inn:=[],out:=[],loopK:=[],frz:=[],sch:=[],shut:=[]}
noncomputable def fc136:FCfg:={par:=[.cut 4],inn:=[(7,some ([3],[6]))],out:=[(5,some ([0,3,4],[6])),(6,some ([0,3,4],[6]))],loopK:=[(3,([0,3,4],[6]))],frz:=[],sch:=[(5,.first 0 [10,11,12] (rg [1,10])<| .first 1 [2,3,4,9,10,11,12] [5,6,7,8]<| .first 5 (rg [7,13]) [2,3,4,6]<| .first 6 (rg [7,13]) [2,3,4]<| .first 2 [3,4,9,10,11,12] [7,8]<| .first 3 [4,9,10,11,12] [7,8]<| .first 4 [9,10,11,12] [7,8]<| .fork 7 (.fork 8 (.fork 9 (.first 10 [11,12] []<| .first 11 [12] []<| .fork 12 (.done) (.stop)) (.stop)) (.stop)) (.stop)),(6,.first 0 [10,11,12] (rg [1,10])<| .first 1 [2,3,4,9,10,11,12] [5,6,7,8]<| .first 5 (rg [7,13]) [2,3,4,6]<| .first 6 (rg [7,13]) [2,3,4]<| .first 2 [3,4,9,10,11,12] [7,8]<| .first 3 [4,9,10,11,12] [7,8]<| .first 4 [9,10,11,12] [7,8]<| .fork 7 (.fork 8 (.fork 9 (.first 10 [11,12] []<| .first 11 [12] []<| .fork 12 (.done) (.stop)) (.stop)) (.stop)) (.stop))],shut:=[]}
noncomputable def fc137:FCfg:={par:=[.ptr [.imm,.sh,.imm,.sh,.imm,.imm,.imm]],inn:=[(2,some ([0],[0])),(6,some ([0],[0])),(8,some ([0],[0])),(15,some ([0,3,4,5],[0,3])),(18,some ([],[0]))],out:=[(2,some ([0,21],[0])),(4,some ([0,35],[0])),(9,some ([0,3],[0,3])),(13,some ([0,3,4],[0,3])),(15,some ([0,3,4,5],[0,3]))],loopK:=[(11,([0,3,4],[0,3]))],frz:=[],sch:=[(2,.first 0 [1,2,3,8] [4,5,6,7]<| .first 1 [2,3,8] [4,5,6,7]<| .first 2 [3,8] [4,5,6,7]<| .first 3 [8] [4,5,6,7]<| .first 4 [5,6,7,8] []<| .first 5 [6,7,8] []<| .first 6 [7,8] []<| .first 7 [8] []<| .first 8 [] []<| .done),(4,.first 0 [1,2,3,4,13] (rg [5,13])<| .first 1 [2,3,4,13] (rg [5,13])<| .first 2 [3,4,13] (rg [5,13])<| .first 3 [4,13] (rg [5,13])<| .first 4 [13] (rg [5,13])<| .first 5 (rg [6,14]) []<| .first 6 (rg [7,14]) []<| .first 7 (rg [8,14]) []<| .first 8 [9,10,11,12,13] []<| .first 9 [10,11,12,13] []<| .first 10 [11,12,13] []<| .first 11 [12,13] []<| .first 12 [13] []<| .first 13 [] []<| .done),(9,.first 0 [1,2,3,8,9] [4,5,6,7]<| .first 1 [2,3,8,9] [4,5,6,7]<| .first 2 [3,8,9] [4,5,6,7]<| .first 3 [8,9] [4,5,6,7]<| .first 4 [5,6,7,8,9] []<| .first 5 [6,7,8,9] []<| .first 6 [7,8,9] []<| .first 7 [8,9] []<| .fork 8 (.fork 9 (.done) (.stop)) (.stop)),(13,.first 0 [11,12,13] (rg [1,11])<| .first 1 [2,3,4,10,11,12,13] [5,6,7,8,9]<| .first 5 (rg [7,14]) [2,3,4,6]<| .first 6 (rg [7,14]) [2,3,4]<| .first 7 (rg [8,14]) [2,3,4]<| .first 8 [9,10,11,12,13] [2,3,4]<| .first 2 [3,4,10,11,12,13] [9]<| .first 3 [4,10,11,12,13] [9]<| .first 4 [10,11,12,13] [9]<| .fork 9 (.fork 10 (.first 11 [12,13] []<| .first 12 [13] []<| .fork 13 (.done) (.stop)) (.stop)) (.stop)),(15,.first 0 [12,13,14] (rg [1,12])<| .first 1 [2,3,4,11,12,13,14] [5,6,7,8,9,10]<| .first 2 [3,4,11,12,13,14] [5,6,7,8,9,10]<| .first 3 [4,11,12,13,14] [5,6,7,8,9,10]<| .first 4 [11,12,13,14] [5,6,7,8,9,10]<| .first 5 (rg [6,15]) []<| .first 6 (rg [7,15]) []<| .first 7 (rg [8,15]) []<| .first 8 (rg [9,15]) []<| .first 9 [10,11,12,13,14] []<| .first 10 [11,12,13,14] []<| .fork 11 (.first 12 [13,14] []<| .first 13 [14] []<| .fork 14 (.done) (.stop)) (.stop))],shut:=[]}
noncomputable def fc138:FCfg:={par:=[.cst false],inn:=[(3,some ([1,2,3],[1,2,3])),(4,some ([2,3],[2,3]))],out:=[],loopK:=[],frz:=[],sch:=[],shut:=[]}
noncomputable def fc139:FCfg:={par:=[.cst false],inn:=[(3,some ([1,2,3],[1,2,3])),(4,some ([2,3],[2,3]))],out:=[],loopK:=[],frz:=[],sch:=[],shut:=[]}
noncomputable def fc140:FCfg:={par:=[.cst false,.cst false],inn:=[],out:=[],loopK:=[],frz:=[],sch:=[],shut:=[]}
noncomputable def fc141:FCfg:={par:=[.cst false,.cst false],inn:=[],out:=[],loopK:=[],frz:=[],sch:=[],shut:=[]}
noncomputable def fc142:FCfg:={par:=[.cst false],inn:=[],out:=[(1,some ([2],[]))],loopK:=[],frz:=[],sch:=[],shut:=[]}
noncomputable def fc143:FCfg:={par:=[.cst false],inn:=[],out:=[(1,some ([2],[]))],loopK:=[],frz:=[],sch:=[],shut:=[]}
noncomputable def fc144:FCfg:={par:=[.cst false],inn:=[],out:=[(1,some ([2],[]))],loopK:=[],frz:=[],sch:=[],shut:=[]}
noncomputable def fc145:FCfg:={par:=[.cst false,.cst false,.cst false],inn:=[],out:=[(1,some ([6],[]))],loopK:=[],frz:=[],sch:=[(1,.first 0 (rg [3,36]) [1,2]<| .first 1 (rg [3,36]) [2]<| .first 2 (rg [3,36]) []<| .fork 3 (.first 4 (rg [5,36]) []<| .first 5 (rg [6,36]) []<| .first 6 (rg [7,8,18,36]) (rg [8,18])<| .first 7 (rg [18,36]) (rg [8,18])<| .first 8 (rg [9,10,12,13,17,36]) [10,11,13,14,15,16]<| .first 9 (rg [12,13,17,36]) [10,11,13,14,15,16]<| .first 10 (rg [11,13,17,36]) [13,14,15,16]<| .first 11 (rg [12,13,17,36]) [13,14,15,16]<| .first 13 (rg [14,15,17,36]) [12,15,16]<| .first 14 (rg [17,36]) [12,15,16]<| .first 15 (rg [16,36]) [12]<| .first 16 (rg [17,36]) [12]<| .fork 12 (.fork 17 (.fork 18 (.first 19 (rg [20,36]) []<| .first 20 (rg [21,36]) []<| .first 21 [22,33,34,35] (rg [23,33])<| .first 22 [33,34,35] (rg [23,33])<| .first 23 [24,27,32,33,34,35] [25,26,28,29,30,31]<| .first 24 [27,32,33,34,35] [25,26,28,29,30,31]<| .first 25 [26,27,32,33,34,35] [28,29,30,31]<| .first 26 [27,32,33,34,35] [28,29,30,31]<| .first 28 [29,32,33,34,35] [27,30,31]<| .first 29 [32,33,34,35] [27,30,31]<| .first 30 [31,32,33,34,35] [27]<| .first 31 [32,33,34,35] [27]<| .fork 27 (.fork 32 (.fork 33 (.first 34 [35] []<| .fork 35 (.done) (.stop)) (.stop)) (.stop)) (.stop)) (.stop)) (.stop)) (.stop)) (.stop))],shut:=[]}
noncomputable def fc146:FCfg:={par:=[.cst false,.cst false,.cst false,.cst false],inn:=[],out:=[(1,some ([8],[]))],loopK:=[],frz:=[],sch:=[],shut:=[]}
noncomputable def fc147:FCfg:={par:=[.cst false],inn:=[(6,some ([0,3,4,5],[5])),(7,some ([3],[]))],out:=[(6,some ([0,3,4],[]))],loopK:=[(3,([0,3,4],[]))],frz:=[],sch:=[(6,.first 0 [18,19] (rg [1,18])<| .first 1 [3,4,5,8,17,18,19] (rg [2,3,6,8,9,17])<| .first 2 [3,4,5,8,17,18,19] (rg [6,8,9,17])<| .first 3 [4,5,8,17,18,19] (rg [6,8,9,17])<| .first 4 [5,8,17,18,19] (rg [6,8,9,17])<| .first 5 [8,17,18,19] (rg [6,8,9,17])<| .first 6 [7,8,17,18,19] (rg [9,17])<| .first 7 [8,17,18,19] (rg [9,17])<| .first 8 [17,18,19] (rg [9,17])<| .first 9 [11,12,13,16,17,18,19] [10,14,15]<| .first 10 [11,12,13,16,17,18,19] [14,15]<| .first 11 [12,13,16,17,18,19] [14,15]<| .first 12 [13,16,17,18,19] [14,15]<| .first 13 [16,17,18,19] [14,15]<| .first 14 [15,16,17,18,19] []<| .first 15 [16,17,18,19] []<| .first 16 [17,18,19] []<| .first 17 [18,19] []<| .first 18 [19] []<| .fork 19 (.done) (.stop))],shut:=[]}
noncomputable def fc149:FCfg:={par:=[.cst false,.cst false],inn:=[(7,some ([],[]))],out:=[(4,some ([0,3,5,7,8,16],[3]))],loopK:=[(2,([0,3,7,8],[3]))],frz:=[],sch:=[(4,.first 0 [5] [1,2,3,4]<| .first 1 [3,4,5] [2]<| .first 2 [3,4,5] []<| .first 3 [4,5] []<| .first 4 [5] []<| .first 5 [] []<| .done)],shut:=[]}
noncomputable def fc150:FCfg:={par:=[.cst false],inn:=[(4,some ([4,5,6,7],[4])),(7,some ([],[]))],out:=[],loopK:=[(2,([5,6,7],[]))],frz:=[],sch:=[],shut:=[]}
noncomputable def fc151:FCfg:={par:=[.cst false,.cst false,.cst false],inn:=[],out:=[(1,some ([6],[]))],loopK:=[],frz:=[],sch:=[],shut:=[]}
noncomputable def fc152:FCfg:={par:=[.cst false,.cst false,.cst false,.cst false],inn:=[],out:=[(1,some ([8],[]))],loopK:=[],frz:=[],sch:=[],shut:=[]}
noncomputable def fc153:FCfg:={par:=[.cst false],inn:=[(5,some ([0,3,4,5,7,8,9],[5])),(6,some ([0,3,5,6,7,8,9],[5,6])),(8,some ([3],[]))],out:=[],loopK:=[(3,([0,3,7,8,9],[]))],frz:=[],sch:=[],shut:=[]}
noncomputable def fc154:FCfg:={par:=[.cst false],inn:=[],out:=[],loopK:=[],frz:=[],sch:=[],shut:=[]}
noncomputable def fc155:FCfg:={par:=[.cst false,.cst false],inn:=[(7,some ([],[]))],out:=[],loopK:=[(2,([0,1,7,8],[]))],frz:=[],sch:=[],shut:=[]}
noncomputable def fc156:FCfg:={par:=[.cst false,.cst false],inn:=[(7,some ([],[]))],out:=[(4,some ([0,3,5,7,8,16],[3]))],loopK:=[(2,([0,3,7,8],[3]))],frz:=[],sch:=[(4,.first 0 [5] [1,2,3,4]<| .first 1 [3,4,5] [2]<| .first 2 [3,4,5] []<| .first 3 [4,5] []<| .first 4 [5] []<| .first 5 [] []<| .done)],shut:=[]}
noncomputable def fc160:FCfg:={par:=[.cst false,.cst false],inn:=[],out:=[],loopK:=[],frz:=[],sch:=[],shut:=[]}
noncomputable def fc161:FCfg:={par:=[.cst false,.cst false],inn:=[],out:=[],loopK:=[],frz:=[],sch:=[],shut:=[]}
noncomputable def fc163:FCfg:={par:=[.cut 4,.cst false],inn:=[(5,some ([0,1,5,6,7],[5])),(11,some ([0,1,5,6,7,8],[5])),(13,some ([5],[5]))],out:=[(10,some ([0,1,5,6,7,8,9],[5])),(11,some ([0,1,5,6,7,63],[5]))],loopK:=[(4,([0,1,5,6,7],[5])),(8,([0,1,5,6,7,8,9],[5]))],frz:=[],sch:=[(10,.first 0 (rg [1,25]) []<| .first 1 (rg [2,25]) []<| .first 2 [3,4,5,7,8,9,22,23,24] (rg [6,7,10,22])<| .first 3 [4,5,7,8,9,22,23,24] (rg [6,7,10,22])<| .first 4 [5,7,8,9,22,23,24] (rg [6,7,10,22])<| .first 5 [7,8,9,22,23,24] (rg [6,7,10,22])<| .first 6 [7,8,9,22,23,24] (rg [10,22])<| .first 7 [8,9,22,23,24] (rg [10,22])<| .first 8 [9,22,23,24] (rg [10,22])<| .first 9 [22,23,24] (rg [10,22])<| .first 10 [12,13,22,23,24] (rg [11,12,14,22])<| .first 11 [12,13,22,23,24] (rg [14,22])<| .first 12 [13,22,23,24] (rg [14,22])<| .first 13 [22,23,24] (rg [14,22])<| .first 14 [20,21,22,23,24] [15,16,17,18,19]<| .first 15 [16,19,20,21,22,23,24] [17,18]<| .first 16 (rg [19,25]) [17,18]<| .first 17 (rg [18,25]) []<| .first 18 (rg [19,25]) []<| .first 19 [20,21,22,23,24] []<| .first 20 [21,22,23,24] []<| .first 21 [22,23,24] []<| .fork 22 (.first 23 [24] []<| .fork 24 (.done) (.stop)) (.stop))],shut:=[]}
noncomputable def fc171:FCfg:={par:=[.cst false,.cst false],inn:=[],out:=[],loopK:=[],frz:=[],sch:=[],shut:=[]}
noncomputable def fc172:FCfg:={par:=[.cut 4,.cst false],inn:=[(7,some ([],[]))],out:=[(5,some ([0,5,6,29],[5]))],loopK:=[(3,([0,5,6],[5]))],frz:=[],sch:=[(5,.first 0 [13] (rg [1,13])<| .first 1 [3,4,13] (rg [2,3,5,13])<| .first 2 [3,4,13] (rg [5,13])<| .first 3 [4,13] (rg [5,13])<| .first 4 [13] (rg [5,13])<| .first 5 [11,12,13] [6,7,8,9,10]<| .first 6 [7,10,11,12,13] [8,9]<| .first 7 [10,11,12,13] [8,9]<| .first 8 [9,10,11,12,13] []<| .first 9 [10,11,12,13] []<| .first 10 [11,12,13] []<| .first 11 [12,13] []<| .first 12 [13] []<| .fork 13 (.done) (.stop))],shut:=[]}
noncomputable def fc173:FCfg:={par:=[.cut 2,.cst false],inn:=[(4,some ([0,1,5,6],[5])),(7,some ([5],[5]))],out:=[(5,some ([0,1,5,6,27],[5]))],loopK:=[(3,([0,1,5,6],[5]))],frz:=[],sch:=[],shut:=[]}
noncomputable def fc174:FCfg:={par:=[.cst false],inn:=[(4,some ([0,3,4],[3])),(6,some ([3],[3]))],out:=[],loopK:=[(3,([0,3,4],[3]))],frz:=[],sch:=[],shut:=[]}
noncomputable def fc175:FCfg:={par:=[.cst false,.cst false,.cst false],inn:=[],out:=[],loopK:=[],frz:=[],sch:=[],shut:=[]}
noncomputable def fc176:FCfg:={par:=[.cst false,.cst false,.cst false,.cst false],inn:=[],out:=[(1,some ([8],[]))],loopK:=[],frz:=[],sch:=[(1,.first 0 (rg [3,4,7,23]) [1,2,4,5,6]<| .first 1 (rg [3,4,7,23]) [2,4,5,6]<| .first 2 (rg [3,4,7,23]) [4,5,6]<| .first 4 (rg [7,23]) [3,5,6]<| .first 5 (rg [7,23]) [3,6]<| .first 6 (rg [7,23]) [3]<| .fork 3 (.fork 7 (.first 8 (rg [9,23]) []<| .first 9 (rg [10,23]) []<| .first 10 (rg [11,23]) []<| .first 11 [14,18,19,20,21,22] [12,13,15,16,17]<| .first 12 [14,18,19,20,21,22] [13,15,16,17]<| .first 13 [14,18,19,20,21,22] [15,16,17]<| .first 15 [18,19,20,21,22] [14,16,17]<| .first 16 [18,19,20,21,22] [14,17]<| .first 17 [18,19,20,21,22] [14]<| .fork 14 (.fork 18 (.first 19 [20,21,22] []<| .first 20 [21,22] []<| .first 21 [22] []<| .fork 22 (.done) (.stop)) (.stop)) (.stop)) (.stop)) (.stop))],shut:=[]}
noncomputable def fc177:FCfg:={par:=[.cst false],inn:=[],out:=[(1,some ([2],[]))],loopK:=[],frz:=[],sch:=[],shut:=[]}
noncomputable def fc178:FCfg:={par:=[.cst false,.cst false,.cst false],inn:=[],out:=[],loopK:=[],frz:=[],sch:=[],shut:=[]}
noncomputable def fc179:FCfg:={par:=[.cst false,.cst false,.cst false,.cst false],inn:=[],out:=[(1,some ([8],[]))],loopK:=[],frz:=[],sch:=[(1,.first 0 (rg [3,4,7,23]) [1,2,4,5,6]<| .first 1 (rg [3,4,7,23]) [2,4,5,6]<| .first 2 (rg [3,4,7,23]) [4,5,6]<| .first 4 (rg [7,23]) [3,5,6]<| .first 5 (rg [7,23]) [3,6]<| .first 6 (rg [7,23]) [3]<| .fork 3 (.fork 7 (.first 8 (rg [9,23]) []<| .first 9 (rg [10,23]) []<| .first 10 (rg [11,23]) []<| .first 11 [14,18,19,20,21,22] [12,13,15,16,17]<| .first 12 [14,18,19,20,21,22] [13,15,16,17]<| .first 13 [14,18,19,20,21,22] [15,16,17]<| .first 15 [18,19,20,21,22] [14,16,17]<| .first 16 [18,19,20,21,22] [14,17]<| .first 17 [18,19,20,21,22] [14]<| .fork 14 (.fork 18 (.first 19 [20,21,22] []<| .first 20 [21,22] []<| .first 21 [22] []<| .fork 22 (.done) (.stop)) (.stop)) (.stop)) (.stop)) (.stop))],shut:=[]}
noncomputable def fc182:FCfg:={par:=[.cst false,.cst false,.cst false],inn:=[(8,some ([],[]))],out:=[(6,some ([0,1,2,7,45],[]))],loopK:=[(2,([0,1,2,7],[]))],frz:=[],sch:=[],shut:=[]}
noncomputable def fc197:FCfg:={par:=[.cut 4,.cst false],inn:=[],out:=[],loopK:=[],frz:=[],sch:=[],shut:=[]}
noncomputable def fc198:FCfg:={par:=[.cut 4,.cst false,.cst false],inn:=[],out:=[(1,some ([6],[]))],loopK:=[],frz:=[],sch:=[(1,.first 0 (rg [1,2,4,41]) [2,3]<| .first 1 (rg [4,41]) [2,3]<| .first 2 (rg [3,41]) []<| .first 3 (rg [4,41]) []<| .first 4 (rg [5,41]) []<| .first 5 (rg [6,41]) []<| .first 6 (rg [7,41]) []<| .first 7 (rg [8,41]) []<| .first 8 (rg [9,41]) []<| .first 9 (rg [10,41]) []<| .first 10 (rg [11,12,16,41]) [12,13,14,15]<| .first 11 (rg [16,41]) [12,13,14,15]<| .first 12 (rg [13,41]) []<| .first 13 (rg [14,41]) []<| .first 14 (rg [15,41]) []<| .first 15 (rg [16,41]) []<| .first 16 (rg [17,41]) []<| .first 17 (rg [18,41]) []<| .first 18 (rg [19,41]) []<| .first 19 (rg [20,41]) []<| .first 20 (rg [21,22,24,41]) [22,23]<| .first 21 (rg [24,41]) [22,23]<| .first 22 (rg [23,41]) []<| .first 23 (rg [24,41]) []<| .first 24 (rg [25,41]) []<| .first 25 (rg [26,41]) []<| .first 26 (rg [27,41]) []<| .first 27 (rg [28,41]) []<| .first 28 (rg [29,41]) []<| .first 29 (rg [30,41]) []<| .first 30 [31,36,37,38,39,40] [32,33,34,35]<| .first 31 [36,37,38,39,40] [32,33,34,35]<| .first 32 (rg [33,41]) []<| .first 33 (rg [34,41]) []<| .first 34 (rg [35,41]) []<| .first 35 [36,37,38,39,40] []<| .first 36 [37,38,39,40] []<| .first 37 [38,39,40] []<| .first 38 [39,40] []<| .first 39 [40] []<| .fork 40 (.done) (.stop))],shut:=[]}
noncomputable def fc199:FCfg:={par:=[.cst false,.cst false],inn:=[(6,some ([],[]))],out:=[],loopK:=[(2,([0,1,5],[]))],frz:=[],sch:=[],shut:=[]}
noncomputable def fc200:FCfg:={par:=[.cut 2,.cst false,.cst false],inn:=[],out:=[],loopK:=[],frz:=[],sch:=[],shut:=[]}
noncomputable def fc201:FCfg:={par:=[.cst false,.cst false,.cst false],inn:=[],out:=[],loopK:=[],frz:=[],sch:=[],shut:=[]}
noncomputable def fc210:FCfg:={par:=[.cut 2,.cst false,.cst false],inn:=[(8,some ([],[]))],out:=[],loopK:=[(4,([0,1,2,7],[]))],frz:=[],sch:=[],shut:=[]}
noncomputable def fc211:FCfg:={par:=[.cut 2,.cst false,.cst false],inn:=[(8,some ([],[]))],out:=[],loopK:=[(4,([0,1,2,7],[]))],frz:=[],sch:=[],shut:=[]}
noncomputable def fcs:List (Nat×FCfg):=[(7,fc7),(10,fc10),(37,fc37),(38,fc38),(39,fc39),(40,fc40),(41,fc41),(42,fc42),(43,fc43),(44,fc44),(51,fc51),(53,fc53),(54,fc54),(55,fc55),(56,fc56),(58,fc58),(59,fc59),(60,fc60),(63,fc63),(65,fc65),(69,fc69),(79,fc79),(82,fc82),(83,fc83),(84,fc84),(85,fc85),(86,fc86),(87,fc87),(88,fc88),(89,fc89),(90,fc90),(94,fc94),(97,fc97),(98,fc98),(99,fc99),(100,fc100),(101,fc101),(104,fc104),(105,fc105),(106,fc106),(107,fc107),(108,fc108),(109,fc109),(110,fc110),(111,fc111),(112,fc112),(113,fc113),(114,fc114),(115,fc115),(116,fc116),(117,fc117),(135,fc135),(136,fc136),(137,fc137),(138,fc138),(139,fc139),(140,fc140),(141,fc141),(142,fc142),(143,fc143),(144,fc144),(145,fc145),(146,fc146),(147,fc147),(149,fc149),(150,fc150),(151,fc151),(152,fc152),(153,fc153),(154,fc154),(155,fc155),(156,fc156),(160,fc160),(161,fc161),(163,fc163),(171,fc171),(172,fc172),(173,fc173),(174,fc174),(175,fc175),(176,fc176),(177,fc177),(178,fc178),(179,fc179),(182,fc182),(197,fc197),(198,fc198),(199,fc199),(200,fc200),(201,fc201),(210,fc210),(211,fc211)]
noncomputable def ons:List (Nat×Bool):=[(7,true),(10,true),(37,true),(38,true),(39,true),(40,true),(41,true),(42,true),(43,true),(44,true),(51,true),(53,true),(54,true),(55,true),(56,true),(58,true),(59,true),(60,true),(63,true),(65,true),(69,true),(79,true),(82,true),(83,true),(84,true),(85,true),(86,true),(87,true),(88,true),(89,true),(90,true),(94,true),(97,true),(98,true),(99,true),(100,true),(101,true),(104,true),(105,true),(106,true),(107,true),(108,true),(109,true),(110,true),(111,true),(112,true),(113,true),(114,true),(115,true),(116,true),(117,true),(135,true),(136,true),(137,true),(138,true),(139,true),(140,true),(141,true),(142,true),(143,true),(144,true),(145,true),(146,true),(147,true),(149,true),(150,true),(151,true),(152,true),(153,true),(154,true),(155,true),(156,true),(160,true),(161,true),(163,true),(171,true),(172,true),(173,true),(174,true),(175,true),(176,true),(177,true),(178,true),(179,true),(182,true),(197,true),(198,true),(199,true),(200,true),(201,true),(210,true),(211,true)]
noncomputable def cfg:Cfg:=mkCfg ons fcs [(131,some (extCloneN 1 8))] [(61,26)] [] [(39,29),(39,42)] [(10,33)]
theorem c7:cfg.fc 7=fc7:=rfl
instance C7:Cf cfg 7 fc7:=⟨c7⟩
instance Z7:Zf cfg 7:=⟨rfl⟩
theorem z7:(cfg.fc 7).frz=[]:=rfl
theorem c10:cfg.fc 10=fc10:=rfl
instance C10:Cf cfg 10 fc10:=⟨c10⟩
theorem z10:(cfg.fc 10).frz=[4]:=rfl
theorem c37:cfg.fc 37=fc37:=rfl
instance C37:Cf cfg 37 fc37:=⟨c37⟩
instance Z37:Zf cfg 37:=⟨rfl⟩
theorem c38:cfg.fc 38=fc38:=rfl
instance C38:Cf cfg 38 fc38:=⟨c38⟩
instance Z38:Zf cfg 38:=⟨rfl⟩
theorem c39:cfg.fc 39=fc39:=rfl
instance C39:Cf cfg 39 fc39:=⟨c39⟩
instance Z39:Zf cfg 39:=⟨rfl⟩
theorem c40:cfg.fc 40=fc40:=rfl
instance C40:Cf cfg 40 fc40:=⟨c40⟩
instance Z40:Zf cfg 40:=⟨rfl⟩
theorem c41:cfg.fc 41=fc41:=rfl
instance C41:Cf cfg 41 fc41:=⟨c41⟩
instance Z41:Zf cfg 41:=⟨rfl⟩
theorem c42:cfg.fc 42=fc42:=rfl
instance C42:Cf cfg 42 fc42:=⟨c42⟩
instance Z42:Zf cfg 42:=⟨rfl⟩
theorem c43:cfg.fc 43=fc43:=rfl
instance C43:Cf cfg 43 fc43:=⟨c43⟩
instance Z43:Zf cfg 43:=⟨rfl⟩
theorem c44:cfg.fc 44=fc44:=rfl
instance C44:Cf cfg 44 fc44:=⟨c44⟩
instance Z44:Zf cfg 44:=⟨rfl⟩
theorem c51:cfg.fc 51=fc51:=rfl
instance C51:Cf cfg 51 fc51:=⟨c51⟩
instance Z51:Zf cfg 51:=⟨rfl⟩
theorem z51:(cfg.fc 51).frz=[]:=rfl
theorem c53:cfg.fc 53=fc53:=rfl
instance C53:Cf cfg 53 fc53:=⟨c53⟩
instance Z53:Zf cfg 53:=⟨rfl⟩
theorem c54:cfg.fc 54=fc54:=rfl
instance C54:Cf cfg 54 fc54:=⟨c54⟩
instance Z54:Zf cfg 54:=⟨rfl⟩
theorem z54:(cfg.fc 54).frz=[]:=rfl
theorem c55:cfg.fc 55=fc55:=rfl
instance C55:Cf cfg 55 fc55:=⟨c55⟩
instance Z55:Zf cfg 55:=⟨rfl⟩
theorem z55:(cfg.fc 55).frz=[]:=rfl
theorem c56:cfg.fc 56=fc56:=rfl
instance C56:Cf cfg 56 fc56:=⟨c56⟩
instance Z56:Zf cfg 56:=⟨rfl⟩
theorem c58:cfg.fc 58=fc58:=rfl
instance C58:Cf cfg 58 fc58:=⟨c58⟩
instance Z58:Zf cfg 58:=⟨rfl⟩
theorem c59:cfg.fc 59=fc59:=rfl
instance C59:Cf cfg 59 fc59:=⟨c59⟩
instance Z59:Zf cfg 59:=⟨rfl⟩
theorem c60:cfg.fc 60=fc60:=rfl
instance C60:Cf cfg 60 fc60:=⟨c60⟩
instance Z60:Zf cfg 60:=⟨rfl⟩
theorem c63:cfg.fc 63=fc63:=rfl
instance C63:Cf cfg 63 fc63:=⟨c63⟩
theorem z63:(cfg.fc 63).frz=[2]:=rfl
theorem c65:cfg.fc 65=fc65:=rfl
instance C65:Cf cfg 65 fc65:=⟨c65⟩
instance Z65:Zf cfg 65:=⟨rfl⟩
theorem c69:cfg.fc 69=fc69:=rfl
instance C69:Cf cfg 69 fc69:=⟨c69⟩
instance Z69:Zf cfg 69:=⟨rfl⟩
theorem c79:cfg.fc 79=fc79:=rfl
instance C79:Cf cfg 79 fc79:=⟨c79⟩
instance Z79:Zf cfg 79:=⟨rfl⟩
theorem c82:cfg.fc 82=fc82:=rfl
instance C82:Cf cfg 82 fc82:=⟨c82⟩
instance Z82:Zf cfg 82:=⟨rfl⟩
theorem c83:cfg.fc 83=fc83:=rfl
instance C83:Cf cfg 83 fc83:=⟨c83⟩
instance Z83:Zf cfg 83:=⟨rfl⟩
theorem c84:cfg.fc 84=fc84:=rfl
instance C84:Cf cfg 84 fc84:=⟨c84⟩
instance Z84:Zf cfg 84:=⟨rfl⟩
theorem c85:cfg.fc 85=fc85:=rfl
instance C85:Cf cfg 85 fc85:=⟨c85⟩
instance Z85:Zf cfg 85:=⟨rfl⟩
theorem c86:cfg.fc 86=fc86:=rfl
instance C86:Cf cfg 86 fc86:=⟨c86⟩
instance Z86:Zf cfg 86:=⟨rfl⟩
theorem c87:cfg.fc 87=fc87:=rfl
instance C87:Cf cfg 87 fc87:=⟨c87⟩
instance Z87:Zf cfg 87:=⟨rfl⟩
theorem z87:(cfg.fc 87).frz=[]:=rfl
theorem c88:cfg.fc 88=fc88:=rfl
instance C88:Cf cfg 88 fc88:=⟨c88⟩
instance Z88:Zf cfg 88:=⟨rfl⟩
theorem z88:(cfg.fc 88).frz=[]:=rfl
theorem c89:cfg.fc 89=fc89:=rfl
instance C89:Cf cfg 89 fc89:=⟨c89⟩
instance Z89:Zf cfg 89:=⟨rfl⟩
theorem c90:cfg.fc 90=fc90:=rfl
instance C90:Cf cfg 90 fc90:=⟨c90⟩
instance Z90:Zf cfg 90:=⟨rfl⟩
theorem c94:cfg.fc 94=fc94:=rfl
instance C94:Cf cfg 94 fc94:=⟨c94⟩
instance Z94:Zf cfg 94:=⟨rfl⟩
theorem c97:cfg.fc 97=fc97:=rfl
instance C97:Cf cfg 97 fc97:=⟨c97⟩
instance Z97:Zf cfg 97:=⟨rfl⟩
theorem c98:cfg.fc 98=fc98:=rfl
instance C98:Cf cfg 98 fc98:=⟨c98⟩
instance Z98:Zf cfg 98:=⟨rfl⟩
theorem z98:(cfg.fc 98).frz=[]:=rfl
theorem c99:cfg.fc 99=fc99:=rfl
instance C99:Cf cfg 99 fc99:=⟨c99⟩
instance Z99:Zf cfg 99:=⟨rfl⟩
theorem c100:cfg.fc 100=fc100:=rfl
instance C100:Cf cfg 100 fc100:=⟨c100⟩
instance Z100:Zf cfg 100:=⟨rfl⟩
theorem z100:(cfg.fc 100).frz=[]:=rfl
theorem c101:cfg.fc 101=fc101:=rfl
instance C101:Cf cfg 101 fc101:=⟨c101⟩
instance Z101:Zf cfg 101:=⟨rfl⟩
theorem z101:(cfg.fc 101).frz=[]:=rfl
theorem c104:cfg.fc 104=fc104:=rfl
instance C104:Cf cfg 104 fc104:=⟨c104⟩
instance Z104:Zf cfg 104:=⟨rfl⟩
theorem c105:cfg.fc 105=fc105:=rfl
instance C105:Cf cfg 105 fc105:=⟨c105⟩
instance Z105:Zf cfg 105:=⟨rfl⟩
theorem c106:cfg.fc 106=fc106:=rfl
instance C106:Cf cfg 106 fc106:=⟨c106⟩
instance Z106:Zf cfg 106:=⟨rfl⟩
theorem c107:cfg.fc 107=fc107:=rfl
instance C107:Cf cfg 107 fc107:=⟨c107⟩
instance Z107:Zf cfg 107:=⟨rfl⟩
theorem c108:cfg.fc 108=fc108:=rfl
instance C108:Cf cfg 108 fc108:=⟨c108⟩
instance Z108:Zf cfg 108:=⟨rfl⟩
theorem z108:(cfg.fc 108).frz=[]:=rfl
theorem c109:cfg.fc 109=fc109:=rfl
instance C109:Cf cfg 109 fc109:=⟨c109⟩
instance Z109:Zf cfg 109:=⟨rfl⟩
theorem z109:(cfg.fc 109).frz=[]:=rfl
theorem c110:cfg.fc 110=fc110:=rfl
instance C110:Cf cfg 110 fc110:=⟨c110⟩
instance Z110:Zf cfg 110:=⟨rfl⟩
theorem c111:cfg.fc 111=fc111:=rfl
instance C111:Cf cfg 111 fc111:=⟨c111⟩
instance Z111:Zf cfg 111:=⟨rfl⟩
theorem c112:cfg.fc 112=fc112:=rfl
instance C112:Cf cfg 112 fc112:=⟨c112⟩
instance Z112:Zf cfg 112:=⟨rfl⟩
theorem c113:cfg.fc 113=fc113:=rfl
instance C113:Cf cfg 113 fc113:=⟨c113⟩
instance Z113:Zf cfg 113:=⟨rfl⟩
theorem c114:cfg.fc 114=fc114:=rfl
instance C114:Cf cfg 114 fc114:=⟨c114⟩
instance Z114:Zf cfg 114:=⟨rfl⟩
theorem c115:cfg.fc 115=fc115:=rfl
instance C115:Cf cfg 115 fc115:=⟨c115⟩
instance Z115:Zf cfg 115:=⟨rfl⟩
theorem z115:(cfg.fc 115).frz=[]:=rfl
theorem c116:cfg.fc 116=fc116:=rfl
instance C116:Cf cfg 116 fc116:=⟨c116⟩
instance Z116:Zf cfg 116:=⟨rfl⟩
theorem c117:cfg.fc 117=fc117:=rfl
instance C117:Cf cfg 117 fc117:=⟨c117⟩
instance Z117:Zf cfg 117:=⟨rfl⟩
theorem c135:cfg.fc 135=fc135:=rfl
instance C135:Cf cfg 135 fc135:=⟨c135⟩
instance Z135:Zf cfg 135:=⟨rfl⟩
theorem c136:cfg.fc 136=fc136:=rfl
instance C136:Cf cfg 136 fc136:=⟨c136⟩
instance Z136:Zf cfg 136:=⟨rfl⟩
theorem z136:(cfg.fc 136).frz=[]:=rfl
theorem c137:cfg.fc 137=fc137:=rfl
instance C137:Cf cfg 137 fc137:=⟨c137⟩
instance Z137:Zf cfg 137:=⟨rfl⟩
theorem z137:(cfg.fc 137).frz=[]:=rfl
theorem c138:cfg.fc 138=fc138:=rfl
instance C138:Cf cfg 138 fc138:=⟨c138⟩
instance Z138:Zf cfg 138:=⟨rfl⟩
theorem c139:cfg.fc 139=fc139:=rfl
instance C139:Cf cfg 139 fc139:=⟨c139⟩
instance Z139:Zf cfg 139:=⟨rfl⟩
theorem c140:cfg.fc 140=fc140:=rfl
instance C140:Cf cfg 140 fc140:=⟨c140⟩
instance Z140:Zf cfg 140:=⟨rfl⟩
theorem c141:cfg.fc 141=fc141:=rfl
instance C141:Cf cfg 141 fc141:=⟨c141⟩
instance Z141:Zf cfg 141:=⟨rfl⟩
theorem c142:cfg.fc 142=fc142:=rfl
instance C142:Cf cfg 142 fc142:=⟨c142⟩
instance Z142:Zf cfg 142:=⟨rfl⟩
theorem c143:cfg.fc 143=fc143:=rfl
instance C143:Cf cfg 143 fc143:=⟨c143⟩
instance Z143:Zf cfg 143:=⟨rfl⟩
theorem c144:cfg.fc 144=fc144:=rfl
instance C144:Cf cfg 144 fc144:=⟨c144⟩
instance Z144:Zf cfg 144:=⟨rfl⟩
theorem c145:cfg.fc 145=fc145:=rfl
instance C145:Cf cfg 145 fc145:=⟨c145⟩
instance Z145:Zf cfg 145:=⟨rfl⟩
theorem z145:(cfg.fc 145).frz=[]:=rfl
theorem c146:cfg.fc 146=fc146:=rfl
instance C146:Cf cfg 146 fc146:=⟨c146⟩
instance Z146:Zf cfg 146:=⟨rfl⟩
theorem c147:cfg.fc 147=fc147:=rfl
instance C147:Cf cfg 147 fc147:=⟨c147⟩
instance Z147:Zf cfg 147:=⟨rfl⟩
theorem z147:(cfg.fc 147).frz=[]:=rfl
theorem c149:cfg.fc 149=fc149:=rfl
instance C149:Cf cfg 149 fc149:=⟨c149⟩
instance Z149:Zf cfg 149:=⟨rfl⟩
theorem c150:cfg.fc 150=fc150:=rfl
instance C150:Cf cfg 150 fc150:=⟨c150⟩
instance Z150:Zf cfg 150:=⟨rfl⟩
theorem c151:cfg.fc 151=fc151:=rfl
instance C151:Cf cfg 151 fc151:=⟨c151⟩
instance Z151:Zf cfg 151:=⟨rfl⟩
theorem c152:cfg.fc 152=fc152:=rfl
instance C152:Cf cfg 152 fc152:=⟨c152⟩
instance Z152:Zf cfg 152:=⟨rfl⟩
theorem c153:cfg.fc 153=fc153:=rfl
instance C153:Cf cfg 153 fc153:=⟨c153⟩
instance Z153:Zf cfg 153:=⟨rfl⟩
theorem c154:cfg.fc 154=fc154:=rfl
instance C154:Cf cfg 154 fc154:=⟨c154⟩
instance Z154:Zf cfg 154:=⟨rfl⟩
theorem c155:cfg.fc 155=fc155:=rfl
instance C155:Cf cfg 155 fc155:=⟨c155⟩
instance Z155:Zf cfg 155:=⟨rfl⟩
theorem c156:cfg.fc 156=fc156:=rfl
instance C156:Cf cfg 156 fc156:=⟨c156⟩
instance Z156:Zf cfg 156:=⟨rfl⟩
theorem c160:cfg.fc 160=fc160:=rfl
instance C160:Cf cfg 160 fc160:=⟨c160⟩
instance Z160:Zf cfg 160:=⟨rfl⟩
theorem c161:cfg.fc 161=fc161:=rfl
instance C161:Cf cfg 161 fc161:=⟨c161⟩
instance Z161:Zf cfg 161:=⟨rfl⟩
theorem c163:cfg.fc 163=fc163:=rfl
instance C163:Cf cfg 163 fc163:=⟨c163⟩
instance Z163:Zf cfg 163:=⟨rfl⟩
theorem z163:(cfg.fc 163).frz=[]:=rfl
theorem c171:cfg.fc 171=fc171:=rfl
instance C171:Cf cfg 171 fc171:=⟨c171⟩
instance Z171:Zf cfg 171:=⟨rfl⟩
theorem c172:cfg.fc 172=fc172:=rfl
instance C172:Cf cfg 172 fc172:=⟨c172⟩
instance Z172:Zf cfg 172:=⟨rfl⟩
theorem z172:(cfg.fc 172).frz=[]:=rfl
theorem c173:cfg.fc 173=fc173:=rfl
instance C173:Cf cfg 173 fc173:=⟨c173⟩
instance Z173:Zf cfg 173:=⟨rfl⟩
theorem c174:cfg.fc 174=fc174:=rfl
instance C174:Cf cfg 174 fc174:=⟨c174⟩
instance Z174:Zf cfg 174:=⟨rfl⟩
theorem c175:cfg.fc 175=fc175:=rfl
instance C175:Cf cfg 175 fc175:=⟨c175⟩
instance Z175:Zf cfg 175:=⟨rfl⟩
theorem c176:cfg.fc 176=fc176:=rfl
instance C176:Cf cfg 176 fc176:=⟨c176⟩
instance Z176:Zf cfg 176:=⟨rfl⟩
theorem z176:(cfg.fc 176).frz=[]:=rfl
theorem c177:cfg.fc 177=fc177:=rfl
instance C177:Cf cfg 177 fc177:=⟨c177⟩
instance Z177:Zf cfg 177:=⟨rfl⟩
theorem c178:cfg.fc 178=fc178:=rfl
instance C178:Cf cfg 178 fc178:=⟨c178⟩
instance Z178:Zf cfg 178:=⟨rfl⟩
theorem c179:cfg.fc 179=fc179:=rfl
instance C179:Cf cfg 179 fc179:=⟨c179⟩
instance Z179:Zf cfg 179:=⟨rfl⟩
theorem z179:(cfg.fc 179).frz=[]:=rfl
theorem c182:cfg.fc 182=fc182:=rfl
instance C182:Cf cfg 182 fc182:=⟨c182⟩
instance Z182:Zf cfg 182:=⟨rfl⟩
theorem c197:cfg.fc 197=fc197:=rfl
instance C197:Cf cfg 197 fc197:=⟨c197⟩
instance Z197:Zf cfg 197:=⟨rfl⟩
theorem c198:cfg.fc 198=fc198:=rfl
instance C198:Cf cfg 198 fc198:=⟨c198⟩
instance Z198:Zf cfg 198:=⟨rfl⟩
theorem z198:(cfg.fc 198).frz=[]:=rfl
theorem c199:cfg.fc 199=fc199:=rfl
instance C199:Cf cfg 199 fc199:=⟨c199⟩
instance Z199:Zf cfg 199:=⟨rfl⟩
theorem c200:cfg.fc 200=fc200:=rfl
instance C200:Cf cfg 200 fc200:=⟨c200⟩
instance Z200:Zf cfg 200:=⟨rfl⟩
theorem c201:cfg.fc 201=fc201:=rfl
instance C201:Cf cfg 201 fc201:=⟨c201⟩
instance Z201:Zf cfg 201:=⟨rfl⟩
theorem c210:cfg.fc 210=fc210:=rfl
instance C210:Cf cfg 210 fc210:=⟨c210⟩
instance Z210:Zf cfg 210:=⟨rfl⟩
theorem c211:cfg.fc 211=fc211:=rfl
instance C211:Cf cfg 211 fc211:=⟨c211⟩
instance Z211:Zf cfg 211:=⟨rfl⟩
noncomputable abbrev Pg:=Try.prog
theorem bF131:buildF Pg 131=some ([.im 0 (.sc (.pointer none)),.nil,.im 0 (.sc (.bool false)),.nil,z0,z0,z0],[(0,1),(1,1),(2,1),(3,1),(4,1),(5,1),(6,1)]):=kr
theorem bF165:buildF Pg 165=some ([z0,z0],[(0,1),(1,1)]):=kr
theorem bF208:buildF Pg 208=some ([.nil,.nil],[(0,1),(1,1)]):=kr
theorem bF88:buildF Pg 88=some ([.nil,.nil],[(0,1),(1,1)]):=kr
theorem bF90:buildF Pg 90=some ([.nil,.nil,z0,z0,.nil,.im 0 (.sc (.bool false))],[(0,2),(2,1),(3,1),(4,1),(5,1)]):=kr
theorem eF162:elemSz Pg 162=some (165,2):=kr
theorem eF23:elemSz Pg 23=some (155,2):=kr
theorem eF24:elemSz Pg 24=some (148,2):=kr
theorem eF28:elemSz Pg 28=some (2,1):=kr
theorem eF85:elemSz Pg 85=some (28,1):=kr
theorem fF131_0:fieldF Pg 131 0=some 0:=kr
theorem fF131_1:fieldF Pg 131 1=some 1:=kr
theorem fF131_2:fieldF Pg 131 2=some 2:=kr
theorem fF131_3:fieldF Pg 131 3=some 3:=kr
theorem fF131_4:fieldF Pg 131 4=some 4:=kr
theorem fF131_5:fieldF Pg 131 5=some 5:=kr
theorem fF131_6:fieldF Pg 131 6=some 6:=kr
theorem fF148_0:fieldF Pg 148 0=some 0:=kr
theorem fF148_1:fieldF Pg 148 1=some 1:=kr
theorem fF155_0:fieldF Pg 155 0=some 0:=kr
theorem fF155_1:fieldF Pg 155 1=some 1:=kr
theorem fF176_0:fieldF Pg 176 0=some 0:=kr
theorem fF176_1:fieldF Pg 176 1=some 1:=kr
theorem fF179_0:fieldF Pg 179 0=some 0:=kr
theorem fF179_1:fieldF Pg 179 1=some 1:=kr
theorem fF208_0:fieldF Pg 208 0=some 0:=kr
theorem fF208_1:fieldF Pg 208 1=some 1:=kr
theorem fF26_0:fieldF Pg 26 0=some 0:=kr
theorem fF26_1:fieldF Pg 26 1=some 1:=kr
theorem fF26_2:fieldF Pg 26 2=some 2:=kr
theorem fF26_3:fieldF Pg 26 3=some 3:=kr
theorem fF63_0:fieldF Pg 63 0=some 0:=kr
theorem fF63_1:fieldF Pg 63 1=some 1:=kr
theorem fF63_2:fieldF Pg 63 2=some 2:=kr
theorem fF63_3:fieldF Pg 63 3=some 3:=kr
theorem fF88_0:fieldF Pg 88 0=some 0:=kr
theorem fF88_1:fieldF Pg 88 1=some 1:=kr
theorem fF90_0:fieldF Pg 90 0=some 0:=kr
theorem fF90_1:fieldF Pg 90 1=some 2:=kr
theorem fF90_2:fieldF Pg 90 2=some 3:=kr
theorem fF90_3:fieldF Pg 90 3=some 4:=kr
theorem fF90_4:fieldF Pg 90 4=some 5:=kr
theorem kF100_81_28:callK Pg cfg 100 0 [81,28]=[(.cut 4,[none]),(.cst false,[some 1])]:=kr
theorem kF101_23:callK Pg cfg 101 0 [23]=[(.cst false,[some 2])]:=kr
theorem kF104_82_28:callK Pg cfg 104 0 [82,28]=[(.ptr [.imm,.imm,.imm,.imm,.sh,.imm],[none]),(.mv,[some 1])]:=kr
theorem kF105_23_155:callK Pg cfg 105 0 [23,155]=[(.cst false,[some 2]),(.cst false,[none,none])]:=kr
theorem kF106_9:callK Pg cfg 106 0 [9]=[(.cst false,[none])]:=kr
theorem kF107_23_28:callK Pg cfg 107 0 [23,28]=[(.cst false,[some 2]),(.cst false,[some 1])]:=kr
theorem kF108_23:callK Pg cfg 108 0 [23]=[(.cst false,[some 2])]:=kr
theorem kF109_26_2:callK Pg cfg 109 0 [26,2]=[(.cst false,[none,none,some 2,some 2]),(.cst false,[none])]:=kr
theorem kF10_26_2:callK Pg cfg 10 0 [26,2]=[(.cst false,[none,none,some 2,some 2]),(.cst false,[none])]:=kr
theorem kF110_88_28_2:callK Pg cfg 110 0 [88,28,2]=[(.cst false,[some 1,some 1]),(.cst false,[some 1]),(.cst false,[none])]:=kr
theorem kF111_28_2:callK Pg cfg 111 0 [28,2]=[(.cst false,[some 1]),(.cst false,[none])]:=kr
theorem kF112_28_97:callK Pg cfg 112 0 [28,97]=[(.cst false,[some 1]),(.cst false,[none])]:=kr
theorem kF113_28:callK Pg cfg 113 0 [28]=[(.cst false,[some 1])]:=kr
theorem kF114_162_167:callK Pg cfg 114 0 [162,167]=[(.cst false,[some 2]),(.cst false,[none])]:=kr
theorem kF115_165_0_0:callK Pg cfg 115 0 [165,0,0]=[(.cst false,[none,none]),(.cst false,[none]),(.cst false,[none])]:=kr
theorem kF116_162_165:callK Pg cfg 116 0 [162,165]=[(.cst false,[some 2]),(.cst false,[none,none])]:=kr
theorem kF117_2_0:callK Pg cfg 117 0 [2,0]=[(.cst false,[none]),(.cst false,[none])]:=kr
theorem kF131_28:callK Pg cfg 131 0 [28]=[(.cst false,[some 1])]:=kr
theorem kF135_176_3:callK Pg cfg 135 0 [176,3]=[(.cst false,[none,some 1]),(.cst false,[none])]:=kr
theorem kF136_81:callK Pg cfg 136 0 [81]=[(.cut 4,[none])]:=kr
theorem kF137_126:callK Pg cfg 137 0 [126]=[(.ptr [.imm,.sh,.imm,.sh,.imm,.imm,.imm],[none])]:=kr
theorem kF138_179:callK Pg cfg 138 0 [179]=[(.cst false,[none,none])]:=kr
theorem kF139_176:callK Pg cfg 139 0 [176]=[(.cst false,[none,some 1])]:=kr
theorem kF140_155_155:callK Pg cfg 140 0 [155,155]=[(.cst false,[none,none]),(.cst false,[none,none])]:=kr
theorem kF141_148_148:callK Pg cfg 141 0 [148,148]=[(.cst false,[none,some 1]),(.cst false,[none,some 1])]:=kr
theorem kF142_5:callK Pg cfg 142 0 [5]=[(.cst false,[none])]:=kr
theorem kF143_5:callK Pg cfg 143 0 [5]=[(.cst false,[none])]:=kr
theorem kF144_155:callK Pg cfg 144 0 [155]=[(.cst false,[none,none])]:=kr
theorem kF145_155_155_155:callK Pg cfg 145 0 [155,155,155]=[(.cst false,[none,none]),(.cst false,[none,none]),(.cst false,[none,none])]:=kr
theorem kF146_155_155_155_155:callK Pg cfg 146 0 [155,155,155,155]=[(.cst false,[none,none]),(.cst false,[none,none]),(.cst false,[none,none]),(.cst false,[none,none])]:=kr
theorem kF147_23:callK Pg cfg 147 0 [23]=[(.cst false,[some 2])]:=kr
theorem kF149_23_155:callK Pg cfg 149 0 [23,155]=[(.cst false,[some 2]),(.cst false,[none,none])]:=kr
theorem kF150_23:callK Pg cfg 150 0 [23]=[(.cst false,[some 2])]:=kr
theorem kF151_155_155_155:callK Pg cfg 151 0 [155,155,155]=[(.cst false,[none,none]),(.cst false,[none,none]),(.cst false,[none,none])]:=kr
theorem kF152_155_155_155_155:callK Pg cfg 152 0 [155,155,155,155]=[(.cst false,[none,none]),(.cst false,[none,none]),(.cst false,[none,none]),(.cst false,[none,none])]:=kr
theorem kF153_23:callK Pg cfg 153 0 [23]=[(.cst false,[some 2])]:=kr
theorem kF154_2_0:callK Pg cfg 154 0 [2,0]=[(.cst false,[none]),(.cst false,[none])]:=kr
theorem kF155_162_167:callK Pg cfg 155 0 [162,167]=[(.cst false,[some 2]),(.cst false,[none])]:=kr
theorem kF156_162_165:callK Pg cfg 156 0 [162,165]=[(.cst false,[some 2]),(.cst false,[none,none])]:=kr
theorem kF160_2_2:callK Pg cfg 160 0 [2,2]=[(.cst false,[none]),(.cst false,[none])]:=kr
theorem kF161_2_2:callK Pg cfg 161 0 [2,2]=[(.cst false,[none]),(.cst false,[none])]:=kr
theorem kF163_81_2:callK Pg cfg 163 0 [81,2]=[(.cut 4,[none]),(.cst false,[none])]:=kr
theorem kF171_28_3:callK Pg cfg 171 0 [28,3]=[(.cst false,[some 1]),(.cst false,[none])]:=kr
theorem kF172_81_2:callK Pg cfg 172 0 [81,2]=[(.cut 4,[none]),(.cst false,[none])]:=kr
theorem kF173_129_28:callK Pg cfg 173 0 [129,28]=[(.cut 2,[none]),(.cst false,[some 1])]:=kr
theorem kF174_28:callK Pg cfg 174 0 [28]=[(.cst false,[some 1])]:=kr
theorem kF175_155_155_155:callK Pg cfg 175 0 [155,155,155]=[(.cst false,[none,none]),(.cst false,[none,none]),(.cst false,[none,none])]:=kr
theorem kF176_155_155_155_155:callK Pg cfg 176 0 [155,155,155,155]=[(.cst false,[none,none]),(.cst false,[none,none]),(.cst false,[none,none]),(.cst false,[none,none])]:=kr
theorem kF177_155:callK Pg cfg 177 0 [155]=[(.cst false,[none,none])]:=kr
theorem kF178_155_155_155:callK Pg cfg 178 0 [155,155,155]=[(.cst false,[none,none]),(.cst false,[none,none]),(.cst false,[none,none])]:=kr
theorem kF179_155_155_155_155:callK Pg cfg 179 0 [155,155,155,155]=[(.cst false,[none,none]),(.cst false,[none,none]),(.cst false,[none,none]),(.cst false,[none,none])]:=kr
theorem kF182_28_2_2:callK Pg cfg 182 0 [28,2,2]=[(.cst false,[some 1]),(.cst false,[none]),(.cst false,[none])]:=kr
theorem kF197_81_2:callK Pg cfg 197 0 [81,2]=[(.cut 4,[none]),(.cst false,[none])]:=kr
theorem kF198_81_155_155:callK Pg cfg 198 0 [81,155,155]=[(.cut 4,[none]),(.cst false,[none,none]),(.cst false,[none,none])]:=kr
theorem kF199_28_2:callK Pg cfg 199 0 [28,2]=[(.cst false,[some 1]),(.cst false,[none])]:=kr
theorem kF200_129_28_2:callK Pg cfg 200 0 [129,28,2]=[(.cut 2,[none]),(.cst false,[some 1]),(.cst false,[none])]:=kr
theorem kF201_155_155_155:callK Pg cfg 201 0 [155,155,155]=[(.cst false,[none,none]),(.cst false,[none,none]),(.cst false,[none,none])]:=kr
theorem kF210_129_28_2:callK Pg cfg 210 0 [129,28,2]=[(.cut 2,[none]),(.cst false,[some 1]),(.cst false,[none])]:=kr
theorem kF211_129_28_2:callK Pg cfg 211 0 [129,28,2]=[(.cut 2,[none]),(.cst false,[some 1]),(.cst false,[none])]:=kr
theorem kF37_63_3:callK Pg cfg 37 0 [63,3]=[(.cst false,[none,none,some 2,some 2]),(.cst false,[none])]:=kr
theorem kF38_26_2:callK Pg cfg 38 0 [26,2]=[(.cst false,[none,none,some 2,some 2]),(.cst false,[none])]:=kr
theorem kF39_63:callK Pg cfg 39 0 [63]=[(.cst false,[none,none,some 2,some 2])]:=kr
theorem kF40_28_28:callK Pg cfg 40 0 [28,28]=[(.cst false,[some 1]),(.cst false,[some 1])]:=kr
theorem kF41_26_26:callK Pg cfg 41 0 [26,26]=[(.cst false,[none,none,some 2,some 2]),(.cst false,[none,none,some 2,some 2])]:=kr
theorem kF42_26_3:callK Pg cfg 42 0 [26,3]=[(.ws,[none,none,some 2,some 2]),(.cst false,[none])]:=kr
theorem kF43_28_3:callK Pg cfg 43 0 [28,3]=[(.row,[some 1]),(.cst false,[none])]:=kr
theorem kF44_28_3:callK Pg cfg 44 0 [28,3]=[(.cst false,[some 1]),(.cst false,[none])]:=kr
theorem kF51_81:callK Pg cfg 51 0 [81]=[(.cut 4,[none])]:=kr
theorem kF53_26_2_4:callK Pg cfg 53 0 [26,2,4]=[(.cst false,[none,none,some 2,some 2]),(.cst false,[none]),(.cst false,[none])]:=kr
theorem kF54_26:callK Pg cfg 54 0 [26]=[(.cst false,[none,none,some 2,some 2])]:=kr
theorem kF55_26:callK Pg cfg 55 0 [26]=[(.cst false,[none,none,some 2,some 2])]:=kr
theorem kF56_88_28:callK Pg cfg 56 0 [88,28]=[(.cst false,[some 1,some 1]),(.cst false,[some 1])]:=kr
theorem kF58_88_28_2:callK Pg cfg 58 0 [88,28,2]=[(.cst false,[some 1,some 1]),(.cst false,[some 1]),(.cst false,[none])]:=kr
theorem kF59_28_2:callK Pg cfg 59 0 [28,2]=[(.cst false,[some 1]),(.cst false,[none])]:=kr
theorem kF60_28_97:callK Pg cfg 60 0 [28,97]=[(.cst false,[some 1]),(.cst false,[none])]:=kr
theorem kF63_26:callK Pg cfg 63 0 [26]=[(.cst false,[none,none,some 2,some 2])]:=kr
theorem kF65_88_28_2:callK Pg cfg 65 0 [88,28,2]=[(.cst false,[some 1,some 1]),(.cst false,[some 1]),(.cst false,[none])]:=kr
theorem kF69_28:callK Pg cfg 69 0 [28]=[(.cst false,[some 1])]:=kr
theorem kF79_2_2_2:callK Pg cfg 79 0 [2,2,2]=[(.cst false,[none]),(.cst false,[none]),(.cst false,[none])]:=kr
theorem kF82_60_3:callK Pg cfg 82 0 [60,3]=[(.cst false,[some 2]),(.cst false,[none])]:=kr
theorem kF83_61_3:callK Pg cfg 83 0 [61,3]=[(.cst false,[some 2]),(.cst false,[none])]:=kr
theorem kF84_81_2_4:callK Pg cfg 84 0 [81,2,4]=[(.cut 4,[none]),(.cst false,[none]),(.cst false,[none])]:=kr
theorem kF85_60:callK Pg cfg 85 0 [60]=[(.cst false,[some 2])]:=kr
theorem kF86_61:callK Pg cfg 86 0 [61]=[(.cst false,[some 2])]:=kr
theorem kF87_23_23:callK Pg cfg 87 0 [23,23]=[(.cst false,[some 2]),(.cst false,[some 2])]:=kr
theorem kF88_24_24:callK Pg cfg 88 0 [24,24]=[(.cst false,[some 2]),(.cst false,[some 2])]:=kr
theorem kF89_23_3:callK Pg cfg 89 0 [23,3]=[(.row,[some 2]),(.cst false,[none])]:=kr
theorem kF90_24_3:callK Pg cfg 90 0 [24,3]=[(.ws,[some 2]),(.cst false,[none])]:=kr
theorem kF94_3:callK Pg cfg 94 0 [3]=[(.cst false,[none])]:=kr
theorem kF97_2_2_2:callK Pg cfg 97 0 [2,2,2]=[(.cst false,[none]),(.cst false,[none]),(.cst false,[none])]:=kr
theorem kF98_81:callK Pg cfg 98 0 [81]=[(.cut 4,[none])]:=kr
theorem kF99_9:callK Pg cfg 99 0 [9]=[(.cst false,[none])]:=kr
theorem qEF155:∀(a0:Int) (a1:Int) (b0:Int) (b1:Int),binAgg Pg 155 .eql [.int .i64 a0,.int .i64 a1] [.int .i64 b0,.int .i64 b1]=some (.bool ((a0==b0)&&(a1==b1))):=by intros;kernel_rfl
theorem qEF165:∀(a0:Int) (a1:Int) (b0:Int) (b1:Int),binAgg Pg 165 .eql [.int .i64 a0,.int .i64 a1] [.int .i64 b0,.int .i64 b1]=some (.bool ((a0==b0)&&(a1==b1))):=by intros;kernel_rfl
theorem rF10:resK Pg (Try.f10.results.toList.zip Try.f10.resultTypes.toList)=[(.tmp 4,[some 1],none),(.tmp 5,[none],none)]:=kr
theorem rF100:resK Pg (Try.f100.results.toList.zip Try.f100.resultTypes.toList)=[(.tmp 4,[some 2],none),(.tmp 5,[none],none)]:=kr
theorem rF101:resK Pg (Try.f101.results.toList.zip Try.f101.resultTypes.toList)=[(.tmp 2,[none],none)]:=kr
theorem rF104:resK Pg (Try.f104.results.toList.zip Try.f104.resultTypes.toList)=[(.tmp 4,[none],none)]:=kr
theorem rF105:resK Pg (Try.f105.results.toList.zip Try.f105.resultTypes.toList)=[(.tmp 4,[none],none)]:=kr
theorem rF106:resK Pg (Try.f106.results.toList.zip Try.f106.resultTypes.toList)=[(.tmp 2,[none],none)]:=kr
theorem rF107:resK Pg (Try.f107.results.toList.zip Try.f107.resultTypes.toList)=[(.tmp 4,[some 2],none),(.tmp 5,[none],none)]:=kr
theorem rF108:resK Pg (Try.f108.results.toList.zip Try.f108.resultTypes.toList)=[(.tmp 2,[none],none)]:=kr
theorem rF109:resK Pg (Try.f109.results.toList.zip Try.f109.resultTypes.toList)=[(.tmp 4,[some 2],none)]:=kr
theorem rF110:resK Pg (Try.f110.results.toList.zip Try.f110.resultTypes.toList)=[(.tmp 6,[none],none)]:=kr
theorem rF111:resK Pg (Try.f111.results.toList.zip Try.f111.resultTypes.toList)=[(.tmp 4,[none],none)]:=kr
theorem rF112:resK Pg (Try.f112.results.toList.zip Try.f112.resultTypes.toList)=[(.tmp 4,[none],none)]:=kr
theorem rF113:resK Pg (Try.f113.results.toList.zip Try.f113.resultTypes.toList)=[(.tmp 2,[some 2],none)]:=kr
theorem rF114:resK Pg (Try.f114.results.toList.zip Try.f114.resultTypes.toList)=[(.tmp 4,[none],none)]:=kr
theorem rF115:resK Pg (Try.f115.results.toList.zip Try.f115.resultTypes.toList)=[(.tmp 4,[none],none)]:=kr
theorem rF116:resK Pg (Try.f116.results.toList.zip Try.f116.resultTypes.toList)=[(.tmp 4,[none],none)]:=kr
theorem rF117:resK Pg (Try.f117.results.toList.zip Try.f117.resultTypes.toList)=[(.tmp 3,[none],none)]:=kr
theorem rF131:resK Pg (Try.f131.results.toList.zip Try.f131.resultTypes.toList)=[(.tmp 2,[some 1],none)]:=kr
theorem rF135:resK Pg (Try.f135.results.toList.zip Try.f135.resultTypes.toList)=[(.tmp 4,[none],none)]:=kr
theorem rF136:resK Pg (Try.f136.results.toList.zip Try.f136.resultTypes.toList)=[(.tmp 2,[none],none)]:=kr
theorem rF137:resK Pg (Try.f137.results.toList.zip Try.f137.resultTypes.toList)=[(.tmp 2,[none],none)]:=kr
theorem rF138:resK Pg (Try.f138.results.toList.zip Try.f138.resultTypes.toList)=[(.cell 2 155,[none,none],some (true,2))]:=kr
theorem rF139:resK Pg (Try.f139.results.toList.zip Try.f139.resultTypes.toList)=[(.cell 2 148,[none,some 1],some (true,2))]:=kr
theorem rF140:resK Pg (Try.f140.results.toList.zip Try.f140.resultTypes.toList)=[(.tmp 4,[none],none)]:=kr
theorem rF141:resK Pg (Try.f141.results.toList.zip Try.f141.resultTypes.toList)=[(.tmp 4,[none],none)]:=kr
theorem rF142:resK Pg (Try.f142.results.toList.zip Try.f142.resultTypes.toList)=[(.tmp 2,[none],none)]:=kr
theorem rF143:resK Pg (Try.f143.results.toList.zip Try.f143.resultTypes.toList)=[(.tmp 2,[none],none)]:=kr
theorem rF144:resK Pg (Try.f144.results.toList.zip Try.f144.resultTypes.toList)=[(.tmp 2,[none],none)]:=kr
theorem rF145:resK Pg (Try.f145.results.toList.zip Try.f145.resultTypes.toList)=[(.tmp 6,[none],none)]:=kr
theorem rF146:resK Pg (Try.f146.results.toList.zip Try.f146.resultTypes.toList)=[(.tmp 8,[none],none)]:=kr
theorem rF147:resK Pg (Try.f147.results.toList.zip Try.f147.resultTypes.toList)=[(.tmp 2,[none],none)]:=kr
theorem rF149:resK Pg (Try.f149.results.toList.zip Try.f149.resultTypes.toList)=[(.tmp 4,[none],none)]:=kr
theorem rF150:resK Pg (Try.f150.results.toList.zip Try.f150.resultTypes.toList)=[(.tmp 2,[none],none)]:=kr
theorem rF151:resK Pg (Try.f151.results.toList.zip Try.f151.resultTypes.toList)=[(.tmp 6,[none],none)]:=kr
theorem rF152:resK Pg (Try.f152.results.toList.zip Try.f152.resultTypes.toList)=[(.tmp 8,[none],none)]:=kr
theorem rF153:resK Pg (Try.f153.results.toList.zip Try.f153.resultTypes.toList)=[(.tmp 2,[none],none)]:=kr
theorem rF154:resK Pg (Try.f154.results.toList.zip Try.f154.resultTypes.toList)=[(.tmp 3,[none],none)]:=kr
theorem rF155:resK Pg (Try.f155.results.toList.zip Try.f155.resultTypes.toList)=[(.tmp 4,[none],none)]:=kr
theorem rF156:resK Pg (Try.f156.results.toList.zip Try.f156.resultTypes.toList)=[(.tmp 4,[none],none)]:=kr
theorem rF160:resK Pg (Try.f160.results.toList.zip Try.f160.resultTypes.toList)=[(.tmp 4,[none],none)]:=kr
theorem rF161:resK Pg (Try.f161.results.toList.zip Try.f161.resultTypes.toList)=[(.tmp 4,[none],none)]:=kr
theorem rF163:resK Pg (Try.f163.results.toList.zip Try.f163.resultTypes.toList)=[(.tmp 4,[some 1],none)]:=kr
theorem rF171:resK Pg (Try.f171.results.toList.zip Try.f171.resultTypes.toList)=[(.tmp 4,[none],none)]:=kr
theorem rF172:resK Pg (Try.f172.results.toList.zip Try.f172.resultTypes.toList)=[(.tmp 4,[none],none)]:=kr
theorem rF173:resK Pg (Try.f173.results.toList.zip Try.f173.resultTypes.toList)=[(.tmp 4,[some 1],none)]:=kr
theorem rF174:resK Pg (Try.f174.results.toList.zip Try.f174.resultTypes.toList)=[(.tmp 2,[some 1],none)]:=kr
theorem rF175:resK Pg (Try.f175.results.toList.zip Try.f175.resultTypes.toList)=[(.tmp 6,[none],none)]:=kr
theorem rF176:resK Pg (Try.f176.results.toList.zip Try.f176.resultTypes.toList)=[(.tmp 8,[none],none)]:=kr
theorem rF177:resK Pg (Try.f177.results.toList.zip Try.f177.resultTypes.toList)=[(.tmp 2,[none],none)]:=kr
theorem rF178:resK Pg (Try.f178.results.toList.zip Try.f178.resultTypes.toList)=[(.tmp 6,[none],none)]:=kr
theorem rF179:resK Pg (Try.f179.results.toList.zip Try.f179.resultTypes.toList)=[(.tmp 8,[none],none)]:=kr
theorem rF182:resK Pg (Try.f182.results.toList.zip Try.f182.resultTypes.toList)=[(.tmp 6,[none],none)]:=kr
theorem rF197:resK Pg (Try.f197.results.toList.zip Try.f197.resultTypes.toList)=[(.tmp 4,[some 2],none)]:=kr
theorem rF198:resK Pg (Try.f198.results.toList.zip Try.f198.resultTypes.toList)=[(.tmp 6,[none],none)]:=kr
theorem rF199:resK Pg (Try.f199.results.toList.zip Try.f199.resultTypes.toList)=[(.tmp 4,[none],none)]:=kr
theorem rF200:resK Pg (Try.f200.results.toList.zip Try.f200.resultTypes.toList)=[(.tmp 6,[none],none)]:=kr
theorem rF201:resK Pg (Try.f201.results.toList.zip Try.f201.resultTypes.toList)=[(.tmp 6,[none],none)]:=kr
theorem rF210:resK Pg (Try.f210.results.toList.zip Try.f210.resultTypes.toList)=[(.tmp 6,[none],none)]:=kr
theorem rF211:resK Pg (Try.f211.results.toList.zip Try.f211.resultTypes.toList)=[(.tmp 6,[none],none)]:=kr
theorem rF37:resK Pg (Try.f37.results.toList.zip Try.f37.resultTypes.toList)=[(.tmp 4,[none],none)]:=kr
theorem rF38:resK Pg (Try.f38.results.toList.zip Try.f38.resultTypes.toList)=[(.tmp 4,[some 1],none),(.tmp 5,[none],none)]:=kr
theorem rF39:resK Pg (Try.f39.results.toList.zip Try.f39.resultTypes.toList)=[(.cell 2 26,[none,none,some 2,some 2],some (true,4))]:=kr
theorem rF40:resK Pg (Try.f40.results.toList.zip Try.f40.resultTypes.toList)=[(.tmp 4,[none],none)]:=kr
theorem rF41:resK Pg (Try.f41.results.toList.zip Try.f41.resultTypes.toList)=[(.tmp 4,[none],none)]:=kr
theorem rF42:resK Pg (Try.f42.results.toList.zip Try.f42.resultTypes.toList)=[(.tmp 4,[none],none)]:=kr
theorem rF43:resK Pg (Try.f43.results.toList.zip Try.f43.resultTypes.toList)=[(.tmp 4,[none],none)]:=kr
theorem rF44:resK Pg (Try.f44.results.toList.zip Try.f44.resultTypes.toList)=[(.tmp 4,[none],none)]:=kr
theorem rF51:resK Pg (Try.f51.results.toList.zip Try.f51.resultTypes.toList)=[(.tmp 2,[none],none)]:=kr
theorem rF53:resK Pg (Try.f53.results.toList.zip Try.f53.resultTypes.toList)=[(.tmp 6,[none],none),(.tmp 7,[none],none)]:=kr
theorem rF54:resK Pg (Try.f54.results.toList.zip Try.f54.resultTypes.toList)=[(.tmp 2,[none],none)]:=kr
theorem rF55:resK Pg (Try.f55.results.toList.zip Try.f55.resultTypes.toList)=[(.cell 2 88,[some 1,some 1],some (true,2))]:=kr
theorem rF56:resK Pg (Try.f56.results.toList.zip Try.f56.resultTypes.toList)=[(.tmp 4,[some 1],none)]:=kr
theorem rF58:resK Pg (Try.f58.results.toList.zip Try.f58.resultTypes.toList)=[(.tmp 6,[none],none)]:=kr
theorem rF59:resK Pg (Try.f59.results.toList.zip Try.f59.resultTypes.toList)=[(.tmp 4,[none],none)]:=kr
theorem rF60:resK Pg (Try.f60.results.toList.zip Try.f60.resultTypes.toList)=[(.tmp 4,[none],none)]:=kr
theorem rF63:resK Pg (Try.f63.results.toList.zip Try.f63.resultTypes.toList)=[(.tmp 2,[some 1],none)]:=kr
theorem rF65:resK Pg (Try.f65.results.toList.zip Try.f65.resultTypes.toList)=[(.tmp 6,[none],none)]:=kr
theorem rF69:resK Pg (Try.f69.results.toList.zip Try.f69.resultTypes.toList)=[(.tmp 2,[some 1],none)]:=kr
theorem rF7:resK Pg (Try.f7.results.toList.zip Try.f7.resultTypes.toList)=[(.tmp 4,[none],none)]:=kr
theorem rF79:resK Pg (Try.f79.results.toList.zip Try.f79.resultTypes.toList)=[(.tmp 6,[none],none)]:=kr
theorem rF82:resK Pg (Try.f82.results.toList.zip Try.f82.resultTypes.toList)=[(.tmp 4,[none],none)]:=kr
theorem rF83:resK Pg (Try.f83.results.toList.zip Try.f83.resultTypes.toList)=[(.tmp 4,[none],none)]:=kr
theorem rF84:resK Pg (Try.f84.results.toList.zip Try.f84.resultTypes.toList)=[(.tmp 6,[none],none),(.tmp 7,[none],none)]:=kr
theorem rF85:resK Pg (Try.f85.results.toList.zip Try.f85.resultTypes.toList)=[(.tmp 2,[some 2],none)]:=kr
theorem rF86:resK Pg (Try.f86.results.toList.zip Try.f86.resultTypes.toList)=[(.tmp 2,[some 2],none)]:=kr
theorem rF87:resK Pg (Try.f87.results.toList.zip Try.f87.resultTypes.toList)=[(.tmp 4,[none],none)]:=kr
theorem rF88:resK Pg (Try.f88.results.toList.zip Try.f88.resultTypes.toList)=[(.tmp 4,[none],none)]:=kr
theorem rF89:resK Pg (Try.f89.results.toList.zip Try.f89.resultTypes.toList)=[(.tmp 4,[none],none)]:=kr
theorem rF90:resK Pg (Try.f90.results.toList.zip Try.f90.resultTypes.toList)=[(.tmp 4,[none],none)]:=kr
theorem rF94:resK Pg (Try.f94.results.toList.zip Try.f94.resultTypes.toList)=[(.tmp 2,[none],none)]:=kr
theorem rF97:resK Pg (Try.f97.results.toList.zip Try.f97.resultTypes.toList)=[(.tmp 6,[none],none)]:=kr
theorem rF98:resK Pg (Try.f98.results.toList.zip Try.f98.resultTypes.toList)=[(.tmp 2,[none],none)]:=kr
theorem rF99:resK Pg (Try.f99.results.toList.zip Try.f99.resultTypes.toList)=[(.tmp 2,[none],none)]:=kr
theorem sF161:sliceF Pg 161=some (162,1,[some 2],false,24,[.nil]):=kr
theorem sF162:sliceF Pg 162=some (165,2,[none,none],true,16,[z0,z0]):=kr
theorem sF22:sliceF Pg 22=some (5,1,[none],false,1,[.im 0 (.sc (.int .u8 0))]):=kr
theorem sF23:sliceF Pg 23=some (155,2,[none,none],true,16,[z0,z0]):=kr
theorem sF24:sliceF Pg 24=some (148,2,[none,some 1],true,40,[z1,.nil]):=kr
theorem sF28:sliceF Pg 28=some (2,1,[none],false,8,[z0]):=kr
theorem sF60:sliceF Pg 60=some (179,2,[none,none],true,16,[z0,z0]):=kr
theorem sF61:sliceF Pg 61=some (176,2,[none,some 1],true,40,[z1,.nil]):=kr
theorem sF85:sliceF Pg 85=some (28,1,[some 1],false,24,[.nil]):=kr
theorem sF86:sliceF Pg 86=some (4,1,[none],false,1,[.im 0 (.sc (.bool false))]):=kr
theorem tF129:tyF Pg 129=some ([.im 0 (.sc (.pointer none))],[none],false,1):=kr
theorem tF131:tyF Pg 131=some ([.im 0 (.sc (.pointer none)),.nil,.im 0 (.sc (.bool false)),.nil,z0,z0,z0],[none,some 1,none,some 1,none,none,none],true,7):=kr
theorem tF148:tyF Pg 148=some ([z1,.nil],[none,some 1],true,2):=kr
theorem tF155:tyF Pg 155=some ([z0,z0],[none,none],true,2):=kr
theorem tF161:tyF Pg 161=some ([.nil],[some 1],false,1):=kr
theorem tF162:tyF Pg 162=some ([.nil],[some 2],false,1):=kr
theorem tF165:tyF Pg 165=some ([z0,z0],[none,none],true,2):=kr
theorem tF176:tyF Pg 176=some ([z1,.nil],[none,some 1],true,2):=kr
theorem tF179:tyF Pg 179=some ([z0,z0],[none,none],true,2):=kr
theorem tF2:tyF Pg 2=some ([z0],[none],false,1):=kr
theorem tF208:tyF Pg 208=some ([.nil,.nil],[some 1,some 1],true,2):=kr
theorem tF23:tyF Pg 23=some ([.nil],[some 2],false,1):=kr
theorem tF24:tyF Pg 24=some ([.nil],[some 2],false,1):=kr
theorem tF26:tyF Pg 26=some ([z0,z0,.nil,.nil],[none,none,some 2,some 2],true,4):=kr
theorem tF28:tyF Pg 28=some ([.nil],[some 1],false,1):=kr
theorem tF3:tyF Pg 3=some ([z0],[none],false,1):=kr
theorem tF4:tyF Pg 4=some ([.im 0 (.sc (.bool false))],[none],false,1):=kr
theorem tF60:tyF Pg 60=some ([.nil],[some 2],false,1):=kr
theorem tF61:tyF Pg 61=some ([.nil],[some 2],false,1):=kr
theorem tF63:tyF Pg 63=some ([z0,z0,.nil,.nil],[none,none,some 2,some 2],true,4):=kr
theorem tF85:tyF Pg 85=some ([.nil],[some 1],false,1):=kr
theorem tF86:tyF Pg 86=some ([.nil],[some 1],false,1):=kr
theorem tF88:tyF Pg 88=some ([.nil,.nil],[some 1,some 1],true,2):=kr
theorem tF9:tyF Pg 9=some ([z1],[none],false,1):=kr
theorem tF90:tyF Pg 90=some ([.nil,.nil,z0,z0,.nil,.im 0 (.sc (.bool false))],[some 1,some 1,none,none,some 1,none],true,6):=kr
theorem uF161:Pg.underlying 161=some (.slice 162):=kr
theorem uF162:Pg.underlying 162=some (.slice 165):=kr
theorem uF22:Pg.underlying 22=some (.slice 5):=kr
theorem uF23:Pg.underlying 23=some (.slice 155):=kr
theorem uF24:Pg.underlying 24=some (.slice 148):=kr
theorem uF28:Pg.underlying 28=some (.slice 2):=kr
theorem uF3:Pg.underlying 3=some (.int .i64):=kr
theorem uF5:Pg.underlying 5=some (.int .u8):=kr
theorem uF60:Pg.underlying 60=some (.slice 179):=kr
theorem uF61:Pg.underlying 61=some (.slice 176):=kr
theorem uF85:Pg.underlying 85=some (.slice 28):=kr
theorem uF86:Pg.underlying 86=some (.slice 4):=kr
theorem uF9:Pg.underlying 9=some .string:=kr
abbrev FX (i:Nat) (a:List Arg) (r:Res×List Out):Prop:=FL Try.prog cfg i a=some r
theorem L_laws_szPointS {a_0:(List S_Point)} {left_1:Int} {r:Int} (h:laws_szPointS a_0 left_1=some r):FX 82 [.im 2 false [W 2 e_S_Point a_0],.im 2 false [I left_1]] (B0 [(false,[.im 0 (I r)])]):=by
 unfold laws_szPointS at h
 refine gn 12 Try.func82 rfl ?_
 refine gs<|g0 j j (q (oAsI j j)<|nl)<|us<|gs<|g0 j j (q (oMv j j)<|q (oMv j j)<|q (oLnI j j uF60 j)<|q (oBi j j j j)<|q (oAsI j j)<|nl)<|us<|gs<|gs<|g0 j j (q (oMv j j)<|q (oBi j j j j)<|nl)<|us<|gc h j iDec (fun hc1 h=>?_) fun hc1 h=>?_
 ·refine gs<|g0 j j (q (oAsI j j)<|nl)<|us<|Go.ret (Unw.ret ?_)
  cases h
  exact fr rF82 j
 ·refine Go.skip<|us<|gs<|g0 j j (q (oMv j j)<|q (oAsI j j)<|nl)<|us<|Go.ret (Unw.ret ?_)
  cases h
  exact fr rF82 j
theorem L_laws_szInt64S {a_0:(List Int)} {left_1:Int} {r:Int} (h:laws_szInt64S a_0 left_1=some r):FX 171 [.im 2 false [W 1 eI a_0],.im 2 false [I left_1]] (B0 [(false,[.im 0 (I r)])]):=by
 unfold laws_szInt64S at h
 refine gn 12 Try.func171 rfl ?_
 refine gs<|g0 j j (q (oAsI j j)<|nl)<|us<|gs<|g0 j j (q (oMv j j)<|q (oMv j j)<|q (oLnI j j uF28 j)<|q (oBi j j j j)<|q (oAsI j j)<|nl)<|us<|gs<|gs<|g0 j j (q (oMv j j)<|q (oBi j j j j)<|nl)<|us<|gc h j iDec (fun hc1 h=>?_) fun hc1 h=>?_
 ·refine gs<|g0 j j (q (oAsI j j)<|nl)<|us<|Go.ret (Unw.ret ?_)
  cases h
  exact fr rF171 j
 ·refine Go.skip<|us<|gs<|g0 j j (q (oMv j j)<|q (oAsI j j)<|nl)<|us<|Go.ret (Unw.ret ?_)
  cases h
  exact fr rF171 j
theorem L_laws_szFace {a_0:S_Face} {left_1:Int} {r:Int} (h:laws_szFace a_0 left_1=some r):FX 135 [.im 2 true (u_S_Face a_0),.im 2 false [I left_1]] (B0 [(false,[.im 0 (I r)])]):=by
 unfold laws_szFace at h
 refine gn 19 Try.func135 rfl ?_
 refine gs<|g0 j j (q (oBx j tF176 j (tkI (tkI tk0)))<|q (oAsI j j)<|nl)<|us<|gs<|g0 j j (q (oMv j j)<|q (oFA (r':=.mp 2 0 0) j fF176_0 j j)<|q (oLd (cs:=[.im 0 _]) j tF9 j j)<|q (oLnS j j uF9 j)<|q (oBi j j j j)<|q (oAsI j j)<|nl)<|us<|gs<|gs<|g0 j j (q (oMv j j)<|q (oBi j j j j)<|nl)<|us<|gc h j iDec (fun hc1 h=>?_) fun hc1 h=>?_
 ·refine gs<|g0 j j (q (oAsI j j)<|nl)<|us<|Go.ret (Unw.ret ?_)
  cases h
  exact fr rF135 j
 ·refine Go.skip<|us<|gs<|?_
  obtain ⟨x15,hx15,h⟩:=bs h
  refine g0 j j (q (oFA (r':=.mp 2 0 1) j fF176_1 j j)<|q (oLd (cs:=[.im 2 _]) j tF28 j j)<|q (oMv j j)<|q (oCa (xs:=[.v false [.im 2 _],.v false [.im 0 _]]) (vs:=[(false,[.im 0 _])]) (v:=.v false [.im 0 _]) (L_laws_szInt64S hx15) (.inl j) j kF171_28_3 j (ppC j (ppC j pp0)) j j pb0 j j j)<|q (oAsI j j)<|nl)<|us<|gs<|gs<|g0 j j (q (oMv j j)<|q (oBi j j j j)<|nl)<|us<|gc h j iDec (fun hc2 h=>?_) fun hc2 h=>?_
  ·refine gs<|g0 j j (q (oAsI j j)<|nl)<|us<|Go.ret (Unw.ret ?_)
   cases h
   exact fr rF135 j
  ·refine Go.skip<|us<|gs<|g0 j j (q (oMv j j)<|q (oAsI j j)<|nl)<|us<|Go.ret (Unw.ret ?_)
   cases h
   exact fr rF135 j
theorem L_laws_szFaceS {a_0:(List S_Face)} {left_1:Int} {r:Int} (h:laws_szFaceS a_0 left_1=some r):FX 83 [.im 2 false [W 2 e_S_Face a_0],.im 2 false [I left_1]] (B0 [(false,[.im 0 (I r)])]):=by
 unfold laws_szFaceS at h
 refine gn 27 Try.func83 rfl ?_
 refine gs<|g0 j j (q (oAsI j j)<|nl)<|us<|gs<|g0 j j (q (oMv j j)<|q (oMv j j)<|q (oLnI j j uF61 j)<|q (oBi j j j j)<|q (oAsI j j)<|nl)<|us<|gs<|gs<|g0 j j (q (oMv j j)<|q (oBi j j j j)<|nl)<|us<|gc h j iDec (fun hc1 h=>?_) fun hc1 h=>?_
 ·refine gs<|g0 j j (q (oAsI j j)<|nl)<|us<|Go.ret (Unw.ret ?_)
  cases h
  exact fr rF83 j
 ·refine Go.skip<|us<|gs<|gs<|g0 j j (q (oAsI j j)<|nl)<|us<|Go.block<|?_
  obtain ⟨o,hl,h⟩:=bs h
  refine gl c83 j _ (fun (s:(Int×Int))=>match s with | (left_1_l5,i_5_l5)=>mk [(0,D 2 (W 2 e_S_Face a_0)),(1,iv left_1_l5),(5,iv i_5_l5)] []) (fun (o:(Int ⊕ Int)) (p:Ex×St)=>match o with | (.inl left_1_e0_5)=>p.1= .exit 0∧p.2.norm ([1],[])=mk [(1,iv left_1_e0_5)] [] | (.inr r2)=>p.1= .ret∧fin Try.prog cfg 83 Try.f83 [.im 2 false [W 2 e_S_Face a_0],.im 2 false [I left_1]] p.2=some (B0 [(false,[.im 0 (I r2)])])) hl (by kernel_rfl) ?_ ?_ ?_
  ·intro o p hp e
   rcases o with left_1_e0_5 | r2<;>exact nomatch (hp.1.symm.trans e)
  ·rintro ⟨left_1_l5,i_5_l5⟩ o h
   unfold laws_szFaceS_l5 at h
   dsimp only at h
   refine gs<|gs<|g0 j j (q (oMv j j)<|q (oMv j j)<|q (oLnI j j uF61 j)<|q (oBi j j j j)<|nl)<|us<|gc h j iDec (fun hc6 h=>?_) fun hc6 h=>?_
   ·refine Go.skip<|us<|gs<|Go.block<|gs<|?_
    obtain ⟨x20,hx20,h⟩:=bs h
    obtain ⟨x23,hx23,h⟩:=bs h
    refine g0 j j (q (oMv j j)<|q (oMv j j)<|q (oIAI j hx20 sF61 j j)<|q (oLd (cs:=[.im 2 _,.im 2 _]) j tF176 j j)<|q (oMv j j)<|q (oCa (xs:=[.v true [.im 2 _,.im 2 _],.v false [.im 0 _]]) (vs:=[(false,[.im 0 _])]) (v:=.v false [.im 0 _]) (L_laws_szFace hx23) (.inl j) j kF135_176_3 j (ppC j (ppC j pp0)) j j pb0 j j j)<|q (oAsI j j)<|nl)<|us<|gs<|g0 j j (q (oMv j j)<|q (oBi j j j j)<|nl)<|us<|gc h j iDec (fun hc7 h=>?_) fun hc7 h=>?_
    ·refine gs<|g0 j j (q (oAsI j j)<|nl)<|us<|Go.ret (Unw.ret ?_)
     cases h
     exact ⟨j,(fo rF83 j)⟩
    ·refine Go.skip<|Unw.blk<|us<|g0 j j (q (oMv j j)<|q (oBi j j j j)<|q (oAsI j j)<|nl)<|Unw.nil<|?_
     cases h
     exact ⟨j,(by kernel_rfl)⟩
   ·refine Go.exit<|ux<|Unw.nil<|?_
    cases h
    exact ⟨j,(by kernel_rfl)⟩
  ·rintro ⟨e,st⟩ hp
   rcases o with left_1_e0_5 | r2
   ·dsimp only at h
    obtain ⟨he,hst⟩:=hp
    obtain rfl:e= .exit 0:=he
    refine Unw.blkx<|us<|gs<|g2 c83 j j hst (q (oMv j j)<|q (oAsI j j)<|nl)<|us<|Go.ret (Unw.ret ?_)
    cases h
    exact fr rF83 j
   ·dsimp only at h
    obtain ⟨he,hfin⟩:=hp
    obtain rfl:e= .ret:=he
    cases h
    exact Unw.ret (Fin_ret hfin)
theorem L_laws_szDrawing {a_0:S_Drawing} {left_1:Int} {r:Int} (h:laws_szDrawing a_0 left_1=some r):FX 37 [.im 2 true (u_S_Drawing a_0),.im 2 false [I left_1]] (B0 [(false,[.im 0 (I r)])]):=by
 unfold laws_szDrawing at h
 refine gn 18 Try.func37 rfl ?_
 refine gs<|g0 j j (q (oBx j tF63 j (tkI (tkI (tkI (tkI tk0)))))<|q (oAsI j j)<|nl)<|us<|gs<|?_
 obtain ⟨x8,hx8,h⟩:=bs h
 refine g0 j j (q (oFA (r':=.mp 2 0 2) j fF63_2 j j)<|q (oLd (cs:=[.im 2 _]) j tF60 j j)<|q (oMv j j)<|q (oCa (xs:=[.v false [.im 2 _],.v false [.im 2 _]]) (vs:=[(false,[.im 0 _])]) (v:=.v false [.im 0 _]) (L_laws_szPointS hx8) (.inl j) j kF82_60_3 j (ppC j (ppC j pp0)) j j pb0 j j j)<|q (oAsI j j)<|nl)<|us<|gs<|gs<|g0 j j (q (oMv j j)<|q (oBi j j j j)<|nl)<|us<|gc h j iDec (fun hc1 h=>?_) fun hc1 h=>?_
 ·refine gs<|g0 j j (q (oAsI j j)<|nl)<|us<|Go.ret (Unw.ret ?_)
  cases h
  exact fr rF37 j
 ·refine Go.skip<|us<|gs<|?_
  obtain ⟨x14,hx14,h⟩:=bs h
  refine g0 j j (q (oFA (r':=.mp 2 0 3) j fF63_3 j j)<|q (oLd (cs:=[.im 2 _]) j tF61 j j)<|q (oMv j j)<|q (oCa (xs:=[.v false [.im 2 _],.v false [.im 0 _]]) (vs:=[(false,[.im 0 _])]) (v:=.v false [.im 0 _]) (L_laws_szFaceS hx14) (.inl j) j kF83_61_3 j (ppC j (ppC j pp0)) j j pb0 j j j)<|q (oAsI j j)<|nl)<|us<|gs<|gs<|g0 j j (q (oMv j j)<|q (oBi j j j j)<|nl)<|us<|gc h j iDec (fun hc2 h=>?_) fun hc2 h=>?_
  ·refine gs<|g0 j j (q (oAsI j j)<|nl)<|us<|Go.ret (Unw.ret ?_)
   cases h
   exact fr rF37 j
  ·refine Go.skip<|us<|gs<|g0 j j (q (oMv j j)<|q (oAsI j j)<|nl)<|us<|Go.ret (Unw.ret ?_)
   cases h
   exact fr rF37 j
theorem L_laws_toPoint {a_0:S_Point} {r:S_Point} (h:laws_toPoint a_0=some r):FX 138 [.im 2 true (u_S_Point a_0)] (B0 [(true,J 0 (u_S_Point r))]):=by
 unfold laws_toPoint at h
 refine gn 11 Try.func138 rfl ?_
 refine gs<|g0 j j (q (oBx j tF179 j (tkI (tkI tk0)))<|q (oAl j tF155 (tkI (tkI tk0)))<|nl)<|us<|gs<|g0 j j (q (oAl j tF155 (tkI (tkI tk0)))<|nl)<|us<|gs<|g0 j j (q (oFA (r':=.mp 1 0 0) j fF179_0 j j)<|q (oLd (cs:=[.im 0 _]) j tF2 j j)<|q (oFA (r':=.mp 3 0 0) j fF155_0 j j)<|q (oSt tF2 j j j (tkI tk0) j j j)<|nl)<|us<|gs<|g1 j j (mk [(1,M 1),(2,M 2),(3,M 3)] [(1,Oa (G 0 (u_S_Point a_0))),(2,Oa [C (I 0),C (I 0)]),(3,Oa [C (I a_0.X),C (I 0)])]) (q (oFA (r':=.mp 1 0 1) j fF179_1 j j)<|q (oLd (cs:=[.im 0 _]) j tF2 j j)<|q (oFA (r':=.mp 3 0 1) j fF155_1 j j)<|q (oSt tF2 j j j (tkI tk0) j j j)<|nl)<|us<|gs<|g1 j j (mk [(2,M 2),(3,M 3)] [(2,Oa [C (I 0),C (I 0)]),(3,Oa (G 0 (u_S_Point a_0)))]) (q (oLd (cs:=[.im 0 _,.im 0 _]) j tF155 j j)<|q (oSt tF155 j j j (tkI (tkI tk0)) j j j)<|nl)<|us<|Go.ret (Unw.ret ?_)
 cases h
 exact fr rF138 j
theorem L_laws_toPointS {a_0:(List S_Point)} {r:(List S_Point)} (h:laws_toPointS a_0=some r):FX 85 [.im 2 false [W 2 e_S_Point a_0]] (B0 [(false,[.ow 0 2 (List.map e_S_Point r)])]):=by
 unfold laws_toPointS at h
 refine gn 23 Try.func85 rfl ?_
 refine gs<|g0 j j (q (oAsN j j eF23)<|nl)<|us<|gs<|?_
 obtain ⟨x7,hx7,h⟩:=bs h
 refine g0 j j (q (oMv j j)<|q (oLnI j j uF60 j)<|q (oMk (en:=e_S_Point) j hx7 j sF23 j j (fxI (fxI fx0)) j (flat0 (L:=[_]) j fun _=>j))<|q (oAsO j j j j j)<|nl)<|us<|gs<|gs<|g0 j j (q (oAsI j j)<|nl)<|us<|Go.block<|?_
 obtain ⟨o,hl,h⟩:=bs h
 refine gl c85 j _ (fun (s:(Int×(List S_Point)))=>match s with | (i_4_l3,out_o3_l3)=>mk [(0,D 2 (W 2 e_S_Point a_0)),(3,H 3 0),(4,iv i_4_l3)] [(3,Oc [Z (W 2 e_S_Point out_o3_l3)])]) (fun (out_o3_e0_3:(List S_Point)) (p:Ex×St)=>p.1= .exit 0∧p.2.norm ([3],[3])=mk [(3,H 3 0)] [(3,Oc [Z (W 2 e_S_Point out_o3_e0_3)])]) hl (by kernel_rfl) ?_ ?_ ?_
 ·intro o p hp e
  exact nomatch (hp.1.symm.trans e)
 ·rintro ⟨i_4_l3,out_o3_l3⟩ o h
  unfold laws_toPointS_l3 at h
  dsimp only at h
  refine gs<|gs<|g0 j j (q (oMv j j)<|q (oMv j j)<|q (oLnI j j uF60 j)<|q (oBi j j j j)<|nl)<|us<|gc h j iDec (fun hc3 h=>?_) fun hc3 h=>?_
  ·refine Go.skip<|us<|gs<|Go.block<|?_
   obtain ⟨x18,hx18,h⟩:=bs h
   obtain ⟨x20,hx20,h⟩:=bs h
   obtain ⟨x21,hx21,h⟩:=bs h
   refine g0 j j (q (oMv j j)<|q (oMv j j)<|q (oMv j j)<|q (oMv j j)<|q (oIAI j hx18 sF60 j j)<|q (oLd (cs:=[.im 2 _,.im 2 _]) j tF179 j j)<|q (oCa (xs:=[.v true [.im 2 _,.im 2 _]]) (vs:=[(true,[.im 0 _,.im 0 _])]) (v:=.v true [.im 0 _,.im 0 _]) (L_laws_toPoint hx20) (.inl j) j kF138_179 j (ppC j pp0) j j pb0 j j j)<|q (oIAO j hx21 sF23 j j j j)<|q (oStE (v':=x20) tF155 j j j (fxI (fxI fx0)) j j (rd_get hx21) j)<|nl)<|Unw.blk<|us<|g1 j j (mk [(0,D 2 (W 2 e_S_Point a_0)),(3,H 3 0),(4,iv i_4_l3)] [(3,Oc [Z (W 2 e_S_Point (out_o3_l3.set i_4_l3.toNat x20))])]) (q (oMv j j)<|q (oBi j j j j)<|q (oAsI j j)<|nl)<|Unw.nil<|?_
   cases h
   exact ⟨j,(by kernel_rfl)⟩
  ·refine Go.exit<|ux<|Unw.nil<|?_
   cases h
   exact ⟨j,(by kernel_rfl)⟩
 ·rintro ⟨e,st⟩ hp
  obtain ⟨out_o3_e0_3,rfl⟩:∃y,y=o:=⟨o,rfl⟩
  obtain ⟨he,hst⟩:=hp
  obtain rfl:e= .exit 0:=he
  refine Unw.blkx<|us<|gs<|g2 c85 j j hst (q (oMv j j)<|q (oAsO j j j j j)<|nl)<|us<|Go.ret (Unw.ret ?_)
  cases h
  exact fr rF85 j
theorem L_laws_toInt64S {a_0:(List Int)} {r:(List Int)} (h:laws_toInt64S a_0=some r):FX 174 [.im 2 false [W 1 eI a_0]] (B0 [(false,[.ow 0 1 (List.map eI r)])]):=by
 unfold laws_toInt64S at h
 refine gn 22 Try.func174 rfl ?_
 refine gs<|g0 j j (q (oAsN j j eF28)<|nl)<|us<|gs<|?_
 obtain ⟨x7,hx7,h⟩:=bs h
 refine g0 j j (q (oMv j j)<|q (oLnI j j uF28 j)<|q (oMk (en:=eI) j hx7 j sF28 j j (fxI fx0) j (flat0 (L:=[_]) j fun _=>j))<|q (oAsO j j j j j)<|nl)<|us<|gs<|gs<|g0 j j (q (oAsI j j)<|nl)<|us<|Go.block<|?_
 obtain ⟨o,hl,h⟩:=bs h
 refine gl c174 j _ (fun (s:(Int×(List Int)))=>match s with | (i_4_l3,out_o3_l3)=>mk [(0,D 2 (W 1 eI a_0)),(3,H 3 0),(4,iv i_4_l3)] [(3,Oc [Z (W 1 eI out_o3_l3)])]) (fun (out_o3_e0_3:(List Int)) (p:Ex×St)=>p.1= .exit 0∧p.2.norm ([3],[3])=mk [(3,H 3 0)] [(3,Oc [Z (W 1 eI out_o3_e0_3)])]) hl (by kernel_rfl) ?_ ?_ ?_
 ·intro o p hp e
  exact nomatch (hp.1.symm.trans e)
 ·rintro ⟨i_4_l3,out_o3_l3⟩ o h
  unfold laws_toInt64S_l3 at h
  dsimp only at h
  refine gs<|gs<|g0 j j (q (oMv j j)<|q (oMv j j)<|q (oLnI j j uF28 j)<|q (oBi j j j j)<|nl)<|us<|gc h j iDec (fun hc3 h=>?_) fun hc3 h=>?_
  ·refine Go.skip<|us<|gs<|Go.block<|?_
   obtain ⟨x18,hx18,h⟩:=bs h
   obtain ⟨x20,hx20,h⟩:=bs h
   refine g0 j j (q (oMv j j)<|q (oMv j j)<|q (oMv j j)<|q (oMv j j)<|q (oIAI j hx18 sF28 j j)<|q (oLd (cs:=[.im 2 _]) j tF2 j j)<|q (oIAO j hx20 sF28 j j j j)<|q (oStE (v':=x18) tF2 j j j (fxI fx0) j j (rd_get hx20) j)<|nl)<|Unw.blk<|us<|g1 j j (mk [(0,D 2 (W 1 eI a_0)),(3,H 3 0),(4,iv i_4_l3)] [(3,Oc [Z (W 1 eI (out_o3_l3.set i_4_l3.toNat x18))])]) (q (oMv j j)<|q (oBi j j j j)<|q (oAsI j j)<|nl)<|Unw.nil<|?_
   cases h
   exact ⟨j,(by kernel_rfl)⟩
  ·refine Go.exit<|ux<|Unw.nil<|?_
   cases h
   exact ⟨j,(by kernel_rfl)⟩
 ·rintro ⟨e,st⟩ hp
  obtain ⟨out_o3_e0_3,rfl⟩:∃y,y=o:=⟨o,rfl⟩
  obtain ⟨he,hst⟩:=hp
  obtain rfl:e= .exit 0:=he
  refine Unw.blkx<|us<|gs<|g2 c174 j j hst (q (oMv j j)<|q (oAsO j j j j j)<|nl)<|us<|Go.ret (Unw.ret ?_)
  cases h
  exact fr rF174 j
theorem L_laws_toFace {a_0:S_Face} {r:S_Face} (h:laws_toFace a_0=some r):FX 139 [.im 2 true (u_S_Face a_0)] (B0 [(true,[.im 0 (Y r.Name),.ow 0 1 (List.map eI r.Ring)])]):=by
 unfold laws_toFace at h
 refine gn 12 Try.func139 rfl ?_
 refine gs<|g0 j j (q (oBx j tF176 j (tkI (tkI tk0)))<|q (oAl j tF148 (tkI (tkN tk0)))<|nl)<|us<|gs<|g0 j j (q (oAl j tF148 (tkI (tkN tk0)))<|nl)<|us<|gs<|g0 j j (q (oFA (r':=.mp 1 0 0) j fF176_0 j j)<|q (oLd (cs:=[.im 0 _]) j tF9 j j)<|q (oFA (r':=.mp 3 0 0) j fF148_0 j j)<|q (oSt tF9 j j j (tkI tk0) j j j)<|nl)<|us<|gs<|?_
 obtain ⟨x9,hx9,h⟩:=bs h
 refine g1 j j (mk [(1,M 1),(2,M 2),(3,M 3)] [(1,Oa (G 2 (u_S_Face a_0))),(2,Oa [C (Y (⟨#[]⟩:ByteArray)),Z (W 1 eI ([]:List Int))]),(3,Oa [C (Y a_0.Name),Z (W 1 eI ([]:List Int))])]) (q (oFA (r':=.mp 1 0 1) j fF176_1 j j)<|q (oLd (cs:=[.im 2 _]) j tF28 j j)<|q (oCr (xs:=[.v false [.im 2 _]]) (vs:=[(false,[.own 9 0 0])]) (v:=.v false [.own 9 0 0]) (c:=⟨.sh,0,_⟩) (cs:=[]) (L_laws_toInt64S hx9) (.inl j) j kF174_28 j (ppC j pp0) j j pb0 j j j)<|q (oFA (r':=.mp 3 0 1) j fF148_1 j j)<|q (oSt tF28 j j j (tkO j j tk0) j j j)<|nl)<|us<|gs<|g1 j j (mk [(2,M 2),(3,M 3)] [(2,Oa [C (Y (⟨#[]⟩:ByteArray)),Z (W 1 eI ([]:List Int))]),(3,Oa [C (Y a_0.Name),Z (W 1 eI x9)])]) (q (oLd (cs:=[.im 0 _,.own 3 0 1]) j tF148 j j)<|q (oSt tF148 j j j (tkI (tkO j j tk0)) j j j)<|nl)<|us<|Go.ret (Unw.ret ?_)
 cases h
 exact fr rF139 j
theorem L_laws_toFaceS {a_0:(List S_Face)} {r:(List S_Face)} (h:laws_toFaceS a_0=some r):FX 86 [.im 2 false [W 2 e_S_Face a_0]] (B0 [(false,[.ow 0 2 (List.map e_S_Face r)])]):=by
 unfold laws_toFaceS at h
 refine gn 23 Try.func86 rfl ?_
 refine gs<|g0 j j (q (oAsN j j eF24)<|nl)<|us<|gs<|?_
 obtain ⟨x7,hx7,h⟩:=bs h
 refine g0 j j (q (oMv j j)<|q (oLnI j j uF61 j)<|q (oMk (en:=e_S_Face) j hx7 j sF24 j j (fxI (fxN fx0)) j (flat1 j))<|q (oAsO j j j j j)<|nl)<|us<|gs<|gs<|g0 j j (q (oAsI j j)<|nl)<|us<|Go.block<|?_
 obtain ⟨o,hl,h⟩:=bs h
 refine gl c86 j _ (fun (s:(Int×(List S_Face)))=>match s with | (i_4_l3,out_o3_l3)=>mk [(0,D 2 (W 2 e_S_Face a_0)),(3,H 3 0),(4,iv i_4_l3)] [(3,Oc [Z (W 2 e_S_Face out_o3_l3)])]) (fun (out_o3_e0_3:(List S_Face)) (p:Ex×St)=>p.1= .exit 0∧p.2.norm ([3],[3])=mk [(3,H 3 0)] [(3,Oc [Z (W 2 e_S_Face out_o3_e0_3)])]) hl (by kernel_rfl) ?_ ?_ ?_
 ·intro o p hp e
  exact nomatch (hp.1.symm.trans e)
 ·rintro ⟨i_4_l3,out_o3_l3⟩ o h
  unfold laws_toFaceS_l3 at h
  dsimp only at h
  refine gs<|gs<|g0 j j (q (oMv j j)<|q (oMv j j)<|q (oLnI j j uF61 j)<|q (oBi j j j j)<|nl)<|us<|gc h j iDec (fun hc3 h=>?_) fun hc3 h=>?_
  ·refine Go.skip<|us<|gs<|Go.block<|?_
   obtain ⟨x18,hx18,h⟩:=bs h
   obtain ⟨x20,hx20,h⟩:=bs h
   obtain ⟨x21,hx21,h⟩:=bs h
   refine g0 j j (q (oMv j j)<|q (oMv j j)<|q (oMv j j)<|q (oMv j j)<|q (oIAI j hx18 sF61 j j)<|q (oLd (cs:=[.im 2 _,.im 2 _]) j tF176 j j)<|q (oCr (xs:=[.v true [.im 2 _,.im 2 _]]) (vs:=[(true,[.im 0 _,.own 20 0 0])]) (v:=.v true [.im 0 _,.own 20 0 0]) (c:=⟨.sh,0,_⟩) (cs:=[]) (L_laws_toFace hx20) (.inl j) j kF139_176 j (ppC j pp0) j j pb0 j j j)<|q (oIAO j hx21 sF24 j j j j)<|q (oStE (v':=x20) tF148 j j j (fxI (fxO j j fx0)) j j (rd_get hx21) j)<|nl)<|Unw.blk<|us<|g1 j j (mk [(0,D 2 (W 2 e_S_Face a_0)),(3,H 3 0),(4,iv i_4_l3)] [(3,Oc [Z (W 2 e_S_Face (out_o3_l3.set i_4_l3.toNat x20))])]) (q (oMv j j)<|q (oBi j j j j)<|q (oAsI j j)<|nl)<|Unw.nil<|?_
   cases h
   exact ⟨j,(by kernel_rfl)⟩
  ·refine Go.exit<|ux<|Unw.nil<|?_
   cases h
   exact ⟨j,(by kernel_rfl)⟩
 ·rintro ⟨e,st⟩ hp
  obtain ⟨out_o3_e0_3,rfl⟩:∃y,y=o:=⟨o,rfl⟩
  obtain ⟨he,hst⟩:=hp
  obtain rfl:e= .exit 0:=he
  refine Unw.blkx<|us<|gs<|g2 c86 j j hst (q (oMv j j)<|q (oAsO j j j j j)<|nl)<|us<|Go.ret (Unw.ret ?_)
  cases h
  exact fr rF86 j
theorem L_laws_toDrawing {a_0:S_Drawing} {r:S_Drawing} (h:laws_toDrawing a_0=some r):FX 39 [.im 2 true (u_S_Drawing a_0)] (B0 [(true,[.im 0 (I r.Width),.im 0 (I r.Height),.ow 0 2 (List.map e_S_Point r.Points),.ow 0 2 (List.map e_S_Face r.Faces)])]):=by
 unfold laws_toDrawing at h
 refine gn 19 Try.func39 rfl ?_
 refine gs<|g0 j j (q (oBx j tF63 j (tkI (tkI (tkI (tkI tk0)))))<|q (oAl j tF26 (tkI (tkI (tkN (tkN tk0)))))<|nl)<|us<|gs<|g0 j j (q (oAl j tF26 (tkI (tkI (tkN (tkN tk0)))))<|nl)<|us<|gs<|g0 j j (q (oFA (r':=.mp 1 0 0) j fF63_0 j j)<|q (oLd (cs:=[.im 0 _]) j tF2 j j)<|q (oFA (r':=.mp 3 0 0) j fF26_0 j j)<|q (oSt tF2 j j j (tkI tk0) j j j)<|nl)<|us<|gs<|g1 j j (mk [(1,M 1),(2,M 2),(3,M 3)] [(1,Oa (G 2 (u_S_Drawing a_0))),(2,Oa [C (I 0),C (I 0),Z (W 2 e_S_Point ([]:List S_Point)),Z (W 2 e_S_Face ([]:List S_Face))]),(3,Oa [C (I a_0.Width),C (I 0),Z (W 2 e_S_Point ([]:List S_Point)),Z (W 2 e_S_Face ([]:List S_Face))])]) (q (oFA (r':=.mp 1 0 1) j fF63_1 j j)<|q (oLd (cs:=[.im 0 _]) j tF2 j j)<|q (oFA (r':=.mp 3 0 1) j fF26_1 j j)<|q (oSt tF2 j j j (tkI tk0) j j j)<|nl)<|us<|gs<|?_
 obtain ⟨x12,hx12,h⟩:=bs h
 refine g1 j j (mk [(1,M 1),(2,M 2),(3,M 3)] [(1,Oa (G 2 (u_S_Drawing a_0))),(2,Oa [C (I 0),C (I 0),Z (W 2 e_S_Point ([]:List S_Point)),Z (W 2 e_S_Face ([]:List S_Face))]),(3,Oa [C (I a_0.Width),C (I a_0.Height),Z (W 2 e_S_Point ([]:List S_Point)),Z (W 2 e_S_Face ([]:List S_Face))])]) (q (oFA (r':=.mp 1 0 2) j fF63_2 j j)<|q (oLd (cs:=[.im 2 _]) j tF60 j j)<|q (oCr (xs:=[.v false [.im 2 _]]) (vs:=[(false,[.own 12 0 0])]) (v:=.v false [.own 12 0 0]) (c:=⟨.sh,0,_⟩) (cs:=[]) (L_laws_toPointS hx12) (.inl j) j kF85_60 j (ppC j pp0) j j pb0 j j j)<|q (oFA (r':=.mp 3 0 2) j fF26_2 j j)<|q (oSt tF23 j j j (tkO j j tk0) j j j)<|nl)<|us<|gs<|?_
 obtain ⟨x16,hx16,h⟩:=bs h
 refine g1 j j (mk [(1,M 1),(2,M 2),(3,M 3)] [(1,Oa (G 2 (u_S_Drawing a_0))),(2,Oa [C (I 0),C (I 0),Z (W 2 e_S_Point ([]:List S_Point)),Z (W 2 e_S_Face ([]:List S_Face))]),(3,Oa [C (I a_0.Width),C (I a_0.Height),Z (W 2 e_S_Point x12),Z (W 2 e_S_Face ([]:List S_Face))])]) (q (oFA (r':=.mp 1 0 3) j fF63_3 j j)<|q (oLd (cs:=[.im 2 _]) j tF61 j j)<|q (oCr (xs:=[.v false [.im 2 _]]) (vs:=[(false,[.own 16 0 0])]) (v:=.v false [.own 16 0 0]) (c:=⟨.sh,0,_⟩) (cs:=[]) (L_laws_toFaceS hx16) (.inl j) j kF86_61 j (ppC j pp0) j j pb0 j j j)<|q (oFA (r':=.mp 3 0 3) j fF26_3 j j)<|q (oSt tF24 j j j (tkO j j tk0) j j j)<|nl)<|us<|gs<|g1 j j (mk [(2,M 2),(3,M 3)] [(2,Oa [C (I 0),C (I 0),Z (W 2 e_S_Point ([]:List S_Point)),Z (W 2 e_S_Face ([]:List S_Face))]),(3,Oa [C (I a_0.Width),C (I a_0.Height),Z (W 2 e_S_Point x12),Z (W 2 e_S_Face x16)])]) (q (oLd (cs:=[.im 0 _,.im 0 _,.own 3 0 2,.own 3 0 3]) j tF26 j j)<|q (oSt tF26 j j j (tkI (tkI (tkO j j (tkO j j tk0)))) j j j)<|nl)<|us<|Go.ret (Unw.ret ?_)
 cases h
 exact fr rF39 j
theorem L_spec_l00In {n_0:Int} {low_1:Int} {high_2:Int} {r:Bool} (h:spec_l00In n_0 low_1 high_2=some r):FX 97 [.im 2 false [I n_0],.im 2 false [I low_1],.im 2 false [I high_2]] (B0 [(false,[.im 0 (V r)])]):=by
 unfold spec_l00In at h
 refine gn 15 Try.func97 rfl ?_
 refine gs<|g0 j j (q (oAsI j j)<|nl)<|us<|gs<|gX c97 j j j (mk [(6,bv ((decide (n_0≥low_1))&&(decide (n_0≤high_2))))] []) ?_ ?_
 ·refine xq (oMv j j)<|xq (oMv j j)<|xq (oBi j j j j)<|xq (oMv j j)<|?_
  by_cases hc1:n_0≥low_1
  ·exact xqT rfl rfl (iDec.2 hc1) (oMv rfl rfl)<|xqT rfl rfl (iDec.2 hc1) (oMv rfl rfl)<|xqT rfl rfl (iDec.2 hc1) (oBi rfl rfl rfl rfl)<|xq (oPkT rfl rfl (iDec.2 hc1) rfl)<|xq (oAsI rfl rfl)<|xn (Eq.trans (b:=(fun t_6_m1:Bool=>mk [(6,bv t_6_m1)] []) (decide (n_0≤high_2))) (by kernel_rfl) (congrArg (fun t_6_m1:Bool=>mk [(6,bv t_6_m1)] []) (by first | rfl | (simp [(iDec.2 hc1)];done) | (simp [(iDec.2 hc1)];omega))))
  ·exact xsgF rfl rfl (byF iDec hc1) rfl<|xsgF rfl rfl (byF iDec hc1) rfl<|xsgF rfl rfl (byF iDec hc1) rfl<|xq (oPkF rfl rfl (byF iDec hc1) rfl)<|xq (oAsI rfl rfl)<|xn (Eq.trans (b:=(fun t_6_m1:Bool=>mk [(6,bv t_6_m1)] []) false) (by kernel_rfl) (congrArg (fun t_6_m1:Bool=>mk [(6,bv t_6_m1)] []) (by first | rfl | (simp [(byF iDec hc1)];done) | (simp [(byF iDec hc1)];omega))))
 ·refine us<|Go.ret (Unw.ret ?_)
  cases h
  exact fr rF97 j
theorem L_spec_l05Points {d_0:S_Drawing} {r:Bool} (h:spec_l05Points d_0=some r):FX 98 [.im 2 false [.cp (u_S_Drawing d_0) 0]] (B0 [(false,[.im 0 (V r)])]):=by
 unfold spec_l05Points at h
 refine gn 70 Try.func98 rfl ?_
 refine gs<|g0 j j (q (oAsI j j)<|nl)<|us<|gs<|gs<|g0 j j (q (oMv j j)<|q (oNl j j j)<|q (oFA (r':=.im 2 _) j fF26_2 j j)<|q (oLd (cs:=[.im 2 _]) j tF23 j j)<|q (oLnI j j uF23 j)<|q (oBi j j j j)<|nl)<|us<|gc h j iDec (fun hc1 h=>?_) fun hc1 h=>?_
 ·refine gs<|g0 j j (q (oAsI j j)<|nl)<|us<|Go.ret (Unw.ret ?_)
  cases h
  exact fr rF98 j
 ·refine Go.skip<|us<|gs<|gs<|g0 j j (q (oAsI j j)<|nl)<|us<|Go.block<|?_
  obtain ⟨o,hl,h⟩:=bs h
  refine gl c98 j _ (fun (i_3_l4:Int)=>mk [(0,D 2 (.cp (u_S_Drawing d_0) 0)),(3,iv i_3_l4)] []) (fun (o:(Unit ⊕ Bool)) (p:Ex×St)=>match o with | (.inl _)=>p.1= .exit 0∧p.2.norm ([],[])=mk [] [] | (.inr r2)=>p.1= .ret∧fin Try.prog cfg 98 Try.f98 [.im 2 false [.cp (u_S_Drawing d_0) 0]] p.2=some (B0 [(false,[.im 0 (V r2)])])) hl (by kernel_rfl) ?_ ?_ ?_
  ·intro o p hp e
   rcases o with u | r2<;>exact nomatch (hp.1.symm.trans e)
  ·rintro i_3_l4 o h
   unfold spec_l05Points_l4 at h
   refine gs<|gs<|g0 j j (q (oMv j j)<|q (oMv j j)<|q (oNl j j j)<|q (oFA (r':=.im 2 _) j fF26_2 j j)<|q (oLd (cs:=[.im 2 _]) j tF23 j j)<|q (oLnI j j uF23 j)<|q (oBi j j j j)<|nl)<|us<|gc h j iDec (fun hc18 h=>?_) fun hc18 h=>?_
   ·refine Go.skip<|us<|gs<|Go.block<|gs<|gs<|?_
    obtain ⟨x25,hx25,h⟩:=bs h
    obtain ⟨x32,hx32,h⟩:=bs h
    obtain ⟨t_49_m6,hm27,h⟩:=bs h
    refine gd c98 j j j j (mk [(0,D 2 (.cp (u_S_Drawing d_0) 0)),(3,iv i_3_l4),(49,bv t_49_m6)] []) ?_ ?_
    ·refine t j j (oMv j j)<|t j j (oNl j j j)<|t j j (oFA (r':=.im 2 _) j fF26_2 j j)<|t j j (oLd (cs:=[.im 2 _]) j tF23 j j)<|t j j (oMv j j)<|t j j (oIAI j hx25 sF23 j j)<|t j j (oFA (r':=.im 2 _) j fF155_0 j j)<|t j j (oLd (cs:=[.im 2 _]) j tF2 j j)<|t j j (oMv j j)<|t j j (oNl j j j)<|t j j (oFA (r':=.im 2 _) j fF26_0 j j)<|?_
     refine ic hm27 (fun hc19 hm27=>?_) fun hc19 hm27=>?_
     ·obtain ⟨x40,hx40,hm27⟩:=bs hm27
      obtain ⟨x47,hx47,hm27⟩:=bs hm27
      cases hm27
      exact t j j (oLd (cs:=[.im 2 _]) j tF2 j j)<|sS (dN z98 j (oCa (xs:=[.v false [.im 2 _],.v false [.im 0 _],.v false [.im 2 _]]) (vs:=[(false,[.im 0 _])]) (v:=.v false [.im 0 _]) (L_spec_l00In hx32) (.inl j) j kF97_2_2_2 j (ppC j (ppC j (ppC j pp0))) j j pb0 j j j)) trivial (t j j (oUn j j j)<|t j j (oMv j j)<|tT j j j j (nF (iR.2 hc19)) (oMv j j)<|tT j j j j (nF (iR.2 hc19)) (oNl j j j)<|tT j j j j (nF (iR.2 hc19)) (oFA (r':=.im 2 _) j fF26_2 j j)<|tT j j j j (nF (iR.2 hc19)) (oLd (cs:=[.im 2 _]) j tF23 j j)<|tT j j j j (nF (iR.2 hc19)) (oMv j j)<|tT j j j j (nF (iR.2 hc19)) (oIAI j hx40 sF23 j j)<|tT j j j j (nF (iR.2 hc19)) (oFA (r':=.im 2 _) j fF155_1 j j)<|tT j j j j (nF (iR.2 hc19)) (oLd (cs:=[.im 2 _]) j tF2 j j)<|tT j j j j (nF (iR.2 hc19)) (oMv j j)<|tT j j j j (nF (iR.2 hc19)) (oNl j j j)<|tT j j j j (nF (iR.2 hc19)) (oFA (r':=.im 2 _) j fF26_1 j j)<|tT j j j j (nF (iR.2 hc19)) (oLd (cs:=[.im 2 _]) j tF2 j j)<|sS (dT z98 j j j (nF (iR.2 hc19)) (oCa (xs:=[.v false [.im 2 _],.v false [.im 0 _],.v false [.im 2 _]]) (vs:=[(false,[.im 0 _])]) (v:=.v false [.im 0 _]) (L_spec_l00In hx47) (.inl j) j kF97_2_2_2 j (ppC j (ppC j (ppC j pp0))) j j pb0 j j j)) trivial (tT j j j j (nF (iR.2 hc19)) (oUn j j j)<|t j j (oPkF j j (nF (iR.2 hc19)) j)<|sD (by kernel_rfl)))
     ·cases hm27
      exact t j j (oLd (cs:=[.im 2 _]) j tF2 j j)<|sS (dN z98 j (oCa (xs:=[.v false [.im 2 _],.v false [.im 0 _],.v false [.im 2 _]]) (vs:=[(false,[.im 0 _])]) (v:=.v false [.im 0 _]) (L_spec_l00In hx32) (.inl j) j kF97_2_2_2 j (ppC j (ppC j (ppC j pp0))) j j pb0 j j j)) trivial (t j j (oUn j j j)<|t j j (oMv j j)<|tF j j j j (nT (byF iR hc19)) j<|tF j j j j (nT (byF iR hc19)) j<|tF j j j j (nT (byF iR hc19)) j<|tF j j j j (nT (byF iR hc19)) j<|tF j j j j (nT (byF iR hc19)) j<|tF j j j j (nT (byF iR hc19)) j<|tF j j j j (nT (byF iR hc19)) j<|tF j j j j (nT (byF iR hc19)) j<|tF j j j j (nT (byF iR hc19)) j<|tF j j j j (nT (byF iR hc19)) j<|tF j j j j (nT (byF iR hc19)) j<|tF j j j j (nT (byF iR hc19)) j<|sS (dF j j j (nT (byF iR hc19)) j) trivial (tF j j j j (nT (byF iR hc19)) j<|t j j (oPkT j j (nT (byF iR hc19)) j)<|sD (by kernel_rfl)))
    ·refine us<|gc h j iR (fun hc20 h=>?_) fun hc20 h=>?_
     ·refine gs<|g0 j j (q (oAsI j j)<|nl)<|us<|Go.ret (Unw.ret ?_)
      cases h
      exact ⟨j,(fo rF98 j)⟩
     ·refine Go.skip<|us<|gs<|g0 j j (q (oAsI j j)<|nl)<|us<|Go.block<|?_
      obtain ⟨o,hl,h⟩:=bs h
      refine gl c98 j _ (fun (k_4_l9:Int)=>mk [(0,D 2 (.cp (u_S_Drawing d_0) 0)),(3,iv i_3_l4),(4,iv k_4_l9)] []) (fun (o:(Unit ⊕ Bool)) (p:Ex×St)=>match o with | (.inl _)=>p.1= .exit 2∧p.2.norm ([0,3],[])=mk [(0,D 2 (.cp (u_S_Drawing d_0) 0)),(3,iv i_3_l4)] [] | (.inr r2)=>p.1= .ret∧fin Try.prog cfg 98 Try.f98 [.im 2 false [.cp (u_S_Drawing d_0) 0]] p.2=some (B0 [(false,[.im 0 (V r2)])])) hl (by kernel_rfl) ?_ ?_ ?_
      ·intro o p hp e
       rcases o with u | r2<;>exact nomatch (hp.1.symm.trans e)
      ·rintro k_4_l9 o h
       unfold spec_l05Points_l9 at h
       refine gs<|gs<|g0 j j (q (oMv j j)<|q (oMv j j)<|q (oBi j j j j)<|nl)<|us<|gc h j iDec (fun hc25 h=>?_) fun hc25 h=>?_
       ·refine Go.skip<|us<|gs<|Go.block<|gs<|?_
        obtain ⟨x60,hx60,h⟩:=bs h
        obtain ⟨x67,hx67,h⟩:=bs h
        refine gd c98 j j j j (mk [(0,D 2 (.cp (u_S_Drawing d_0) 0)),(3,iv i_3_l4),(4,iv k_4_l9),(69,bv ((x60.X==x67.X)&&(x60.Y==x67.Y)))] []) (t j j (oMv j j)<|t j j (oNl j j j)<|t j j (oFA (r':=.im 2 _) j fF26_2 j j)<|t j j (oLd (cs:=[.im 2 _]) j tF23 j j)<|t j j (oMv j j)<|t j j (oIAI j hx60 sF23 j j)<|t j j (oLd (cs:=[.im 2 _,.im 2 _]) j tF155 j j)<|t j j (oMv j j)<|t j j (oNl j j j)<|t j j (oFA (r':=.im 2 _) j fF26_2 j j)<|t j j (oLd (cs:=[.im 2 _]) j tF23 j j)<|t j j (oMv j j)<|t j j (oIAI j hx67 sF23 j j)<|t j j (oLd (cs:=[.im 2 _,.im 2 _]) j tF155 j j)<|t j j (oBa j (qEF155 x60.X x60.Y x67.X x67.Y) j j j j)<|sD (by kernel_rfl))<|us<|gc h j (iAnd iEq iEq) (fun hc26 h=>?_) fun hc26 h=>?_
        ·refine gs<|g0 j j (q (oAsI j j)<|nl)<|us<|Go.ret (Unw.ret ?_)
         cases h
         exact ⟨j,(fo rF98 j)⟩
        ·refine Go.skip<|Unw.blk<|us<|g0 j j (q (oMv j j)<|q (oBi j j j j)<|q (oAsI j j)<|nl)<|Unw.nil<|?_
         cases h
         exact ⟨j,(by kernel_rfl)⟩
       ·refine Go.exit<|ux<|Unw.nil<|?_
        cases h
        exact ⟨j,(by kernel_rfl)⟩
      ·rintro ⟨e,st⟩ hp
       rcases o with u | r2
       ·dsimp only at h
        obtain ⟨he,hst⟩:=hp
        obtain rfl:e= .exit 2:=he
        refine Unw.blkx<|Unw.blk<|us<|g2 c98 j j hst (q (oMv j j)<|q (oBi j j j j)<|q (oAsI j j)<|nl)<|Unw.nil<|?_
        cases h
        exact ⟨j,(by kernel_rfl)⟩
       ·dsimp only at h
        obtain ⟨he,hfin⟩:=hp
        obtain rfl:e= .ret:=he
        cases h
        exact Unw.ret ⟨j,hfin⟩
   ·refine Go.exit<|ux<|Unw.nil<|?_
    cases h
    exact ⟨j,(by kernel_rfl)⟩
  ·rintro ⟨e,st⟩ hp
   rcases o with u | r2
   ·dsimp only at h
    obtain ⟨he,hst⟩:=hp
    obtain rfl:e= .exit 0:=he
    refine Unw.blkx<|us<|gs<|g2 c98 j j hst (q (oAsI j j)<|nl)<|us<|Go.ret (Unw.ret ?_)
    cases h
    exact fr rF98 j
   ·dsimp only at h
    obtain ⟨he,hfin⟩:=hp
    obtain rfl:e= .ret:=he
    cases h
    exact Unw.ret (Fin_ret hfin)
theorem L_spec_l01Small {c_0:Int} {r:Bool} (h:spec_l01Small c_0=some r):FX 142 [.im 2 false [.sc (.int .u8 c_0)]] (B0 [(false,[.im 0 (V r)])]):=by
 unfold spec_l01Small at h
 refine gn 9 Try.func142 rfl ?_
 refine gs<|g0 j j (q (oAsI j j)<|nl)<|us<|gs<|gX c142 j j j (mk [(2,bv ((decide (c_0≥97))&&(decide (c_0≤122))))] []) ?_ ?_
 ·refine xq (oMv j j)<|xq (oBi j j j j)<|xq (oMv j j)<|?_
  by_cases hc1:c_0≥97
  ·exact xqT rfl rfl (iDec.2 hc1) (oMv rfl rfl)<|xqT rfl rfl (iDec.2 hc1) (oBi rfl rfl rfl rfl)<|xq (oPkT rfl rfl (iDec.2 hc1) rfl)<|xq (oAsI rfl rfl)<|xn (Eq.trans (b:=(fun t_2_m1:Bool=>mk [(2,bv t_2_m1)] []) (decide (c_0≤122))) (by kernel_rfl) (congrArg (fun t_2_m1:Bool=>mk [(2,bv t_2_m1)] []) (by first | rfl | (simp [(iDec.2 hc1)];done) | (simp [(iDec.2 hc1)];omega))))
  ·exact xsgF rfl rfl (byF iDec hc1) rfl<|xsgF rfl rfl (byF iDec hc1) rfl<|xq (oPkF rfl rfl (byF iDec hc1) rfl)<|xq (oAsI rfl rfl)<|xn (Eq.trans (b:=(fun t_2_m1:Bool=>mk [(2,bv t_2_m1)] []) false) (by kernel_rfl) (congrArg (fun t_2_m1:Bool=>mk [(2,bv t_2_m1)] []) (by first | rfl | (simp [(byF iDec hc1)];done) | (simp [(byF iDec hc1)];omega))))
 ·refine us<|Go.ret (Unw.ret ?_)
  cases h
  exact fr rF142 j
theorem L_spec_l01Digit {c_0:Int} {r:Bool} (h:spec_l01Digit c_0=some r):FX 143 [.im 2 false [.sc (.int .u8 c_0)]] (B0 [(false,[.im 0 (V r)])]):=by
 unfold spec_l01Digit at h
 refine gn 9 Try.func143 rfl ?_
 refine gs<|g0 j j (q (oAsI j j)<|nl)<|us<|gs<|gX c143 j j j (mk [(2,bv ((decide (c_0≥48))&&(decide (c_0≤57))))] []) ?_ ?_
 ·refine xq (oMv j j)<|xq (oBi j j j j)<|xq (oMv j j)<|?_
  by_cases hc1:c_0≥48
  ·exact xqT rfl rfl (iDec.2 hc1) (oMv rfl rfl)<|xqT rfl rfl (iDec.2 hc1) (oBi rfl rfl rfl rfl)<|xq (oPkT rfl rfl (iDec.2 hc1) rfl)<|xq (oAsI rfl rfl)<|xn (Eq.trans (b:=(fun t_2_m1:Bool=>mk [(2,bv t_2_m1)] []) (decide (c_0≤57))) (by kernel_rfl) (congrArg (fun t_2_m1:Bool=>mk [(2,bv t_2_m1)] []) (by first | rfl | (simp [(iDec.2 hc1)];done) | (simp [(iDec.2 hc1)];omega))))
  ·exact xsgF rfl rfl (byF iDec hc1) rfl<|xsgF rfl rfl (byF iDec hc1) rfl<|xq (oPkF rfl rfl (byF iDec hc1) rfl)<|xq (oAsI rfl rfl)<|xn (Eq.trans (b:=(fun t_2_m1:Bool=>mk [(2,bv t_2_m1)] []) false) (by kernel_rfl) (congrArg (fun t_2_m1:Bool=>mk [(2,bv t_2_m1)] []) (by first | rfl | (simp [(byF iDec hc1)];done) | (simp [(byF iDec hc1)];omega))))
 ·refine us<|Go.ret (Unw.ret ?_)
  cases h
  exact fr rF143 j
theorem L_spec_l01Name {s_0:ByteArray} {r:Bool} (h:spec_l01Name s_0=some r):FX 99 [.im 2 false [Y s_0]] (B0 [(false,[.im 0 (V r)])]):=by
 unfold spec_l01Name at h
 refine gn 35 Try.func99 rfl ?_
 refine gs<|g0 j j (q (oAsI j j)<|nl)<|us<|gs<|gs<|?_
 obtain ⟨t_16_m1,hm16,h⟩:=bs h
 refine gX c99 j j j (mk [(0,sv s_0),(16,bv t_16_m1)] []) ?_ ?_
 ·refine xq (oMv j j)<|xq (oBi j j j j)<|xq (oMv j j)<|?_
  refine ic hm16 (fun hc1 hm16=>?_) fun hc1 hm16=>?_
  ·cases hm16
   exact xsgF j j (iStr.2 hc1) j<|xsgF j j (iStr.2 hc1) j<|xsgF j j (iStr.2 hc1) j<|xq (oPkT j j (iStr.2 hc1) j)<|xq (oMv j j)<|xsgF j j j j<|xsgF j j j j<|xsgF j j j j<|xsgF j j j j<|xq (oPkT j j j j)<|xn
  ·refine xqT j j (byF iStr hc1) (oMv j j)<|xqT j j (byF iStr hc1) (oLnS j j uF9 j)<|xqT j j (byF iStr hc1) (oBi j j j j)<|xq (oPkF j j (byF iStr hc1) j)<|xq (oMv j j)<|?_
   refine ic hm16 (fun hc2 hm16=>?_) fun hc2 hm16=>?_
   ·cases hm16
    exact xsgF j j (iDec.2 hc2) j<|xsgF j j (iDec.2 hc2) j<|xsgF j j (iDec.2 hc2) j<|xsgF j j (iDec.2 hc2) j<|xq (oPkT j j (iDec.2 hc2) j)<|xn
   ·obtain ⟨x13,hx13,hm16⟩:=bs hm16
    obtain ⟨x14,hx14,hm16⟩:=bs hm16
    cases hm16
    exact xqT j j (byF iDec hc2) (oMv j j)<|xqT j j (byF iDec hc2) (oIx j hx13 uF9 j j)<|xqT j j (byF iDec hc2) (oCa (xs:=[.v false [.im 0 _]]) (vs:=[(false,[.im 0 _])]) (v:=.v false [.im 0 _]) (L_spec_l01Small hx14) (.inl j) j kF142_5 j (ppC j pp0) j j pb0 j j j)<|xqT j j (byF iDec hc2) (oUn j j j)<|xq (oPkF j j (byF iDec hc2) j)<|xn
 ·refine us<|gc h j iR (fun hc3 h=>?_) fun hc3 h=>?_
  ·refine gs<|g0 j j (q (oAsI j j)<|nl)<|us<|Go.ret (Unw.ret ?_)
   cases h
   exact fr rF99 j
  ·refine Go.skip<|us<|gs<|gs<|g0 j j (q (oAsI j j)<|nl)<|us<|Go.block<|?_
   obtain ⟨o,hl,h⟩:=bs h
   refine gl c99 j _ (fun (i_3_l4:Int)=>mk [(0,sv s_0),(3,iv i_3_l4)] []) (fun (o:(Unit ⊕ Bool)) (p:Ex×St)=>match o with | (.inl _)=>p.1= .exit 0∧p.2.norm ([],[])=mk [] [] | (.inr r2)=>p.1= .ret∧fin Try.prog cfg 99 Try.f99 [.im 2 false [Y s_0]] p.2=some (B0 [(false,[.im 0 (V r2)])])) hl (by kernel_rfl) ?_ ?_ ?_
   ·intro o p hp e
    rcases o with u | r2<;>exact nomatch (hp.1.symm.trans e)
   ·rintro i_3_l4 o h
    unfold spec_l01Name_l4 at h
    refine gs<|gs<|g0 j j (q (oMv j j)<|q (oMv j j)<|q (oLnS j j uF9 j)<|q (oBi j j j j)<|nl)<|us<|gc h j iDec (fun hc12 h=>?_) fun hc12 h=>?_
    ·refine Go.skip<|us<|gs<|Go.block<|gs<|?_
     obtain ⟨x25,hx25,h⟩:=bs h
     obtain ⟨x26,hx26,h⟩:=bs h
     obtain ⟨t_34_m6,hm15,h⟩:=bs h
     refine gX c99 j j j (mk [(0,sv s_0),(3,iv i_3_l4),(34,bv t_34_m6)] []) ?_ ?_
     ·refine xq (oMv j j)<|xq (oMv j j)<|xq (oIx j hx25 uF9 j j)<|xq (oCa (xs:=[.v false [.im 0 _]]) (vs:=[(false,[.im 0 _])]) (v:=.v false [.im 0 _]) (L_spec_l01Small hx26) (.inl j) j kF142_5 j (ppC j pp0) j j pb0 j j j)<|xq (oUn j j j)<|xq (oMv j j)<|?_
      refine ic hm15 (fun hc13 hm15=>?_) fun hc13 hm15=>?_
      ·cases hm15
       exact xsgF j j (nF (iR.2 hc13)) j<|xsgF j j (nF (iR.2 hc13)) j<|xsgF j j (nF (iR.2 hc13)) j<|xsgF j j (nF (iR.2 hc13)) j<|xsgF j j (nF (iR.2 hc13)) j<|xq (oPkF j j (nF (iR.2 hc13)) j)<|xn
      ·obtain ⟨x31,hx31,hm15⟩:=bs hm15
       obtain ⟨x32,hx32,hm15⟩:=bs hm15
       cases hm15
       exact xqT j j (nT (byF iR hc13)) (oMv j j)<|xqT j j (nT (byF iR hc13)) (oMv j j)<|xqT j j (nT (byF iR hc13)) (oIx j hx31 uF9 j j)<|xqT j j (nT (byF iR hc13)) (oCa (xs:=[.v false [.im 0 _]]) (vs:=[(false,[.im 0 _])]) (v:=.v false [.im 0 _]) (L_spec_l01Digit hx32) (.inl j) j kF143_5 j (ppC j pp0) j j pb0 j j j)<|xqT j j (nT (byF iR hc13)) (oUn j j j)<|xq (oPkT j j (nT (byF iR hc13)) j)<|xn
     ·refine us<|gc h j iR (fun hc14 h=>?_) fun hc14 h=>?_
      ·refine gs<|g0 j j (q (oAsI j j)<|nl)<|us<|Go.ret (Unw.ret ?_)
       cases h
       exact ⟨j,(fo rF99 j)⟩
      ·refine Go.skip<|Unw.blk<|us<|g0 j j (q (oMv j j)<|q (oBi j j j j)<|q (oAsI j j)<|nl)<|Unw.nil<|?_
       cases h
       exact ⟨j,(by kernel_rfl)⟩
    ·refine Go.exit<|ux<|Unw.nil<|?_
     cases h
     exact ⟨j,(by kernel_rfl)⟩
   ·rintro ⟨e,st⟩ hp
    rcases o with u | r2
    ·dsimp only at h
     obtain ⟨he,hst⟩:=hp
     obtain rfl:e= .exit 0:=he
     refine Unw.blkx<|us<|gs<|g2 c99 j j hst (q (oAsI j j)<|nl)<|us<|Go.ret (Unw.ret ?_)
     cases h
     exact fr rF99 j
    ·dsimp only at h
     obtain ⟨he,hfin⟩:=hp
     obtain rfl:e= .ret:=he
     cases h
     exact Unw.ret (Fin_ret hfin)
theorem L_spec_l05Ring {d_0:S_Drawing} {ring_1:(List Int)} {r:((List S_Point)×Bool)} (h:spec_l05Ring d_0 ring_1=some r):FX 100 [.im 2 false [.cp (u_S_Drawing d_0) 0],.im 2 false [W 1 eI ring_1]] (B0 [(false,[.ow 0 2 (List.map e_S_Point r.1)]),(false,[.im 0 (V r.2)])]):=by
 unfold spec_l05Ring at h
 refine gn 41 Try.func100 rfl ?_
 refine gs<|g0 j j (q (oAsN j j eF23)<|q (oAsI j j)<|nl)<|us<|gs<|g0 j j (q (oBS (es:=List.map e_S_Point ([]:List S_Point)) j sF23 j pt0 (flat0 j fun _=>j))<|q (oAsO j j j j j)<|nl)<|us<|gs<|gs<|g0 j j (q (oAsI j j)<|nl)<|us<|Go.block<|?_
 obtain ⟨o,hl,h⟩:=bs h
 refine gl c100 j _ (fun (s:(Int×(List S_Point)))=>match s with | (i_7_l3,out_o6_l3)=>mk [(0,D 2 (.cp (u_S_Drawing d_0) 0)),(1,D 2 (W 1 eI ring_1)),(6,H 6 0),(7,iv i_7_l3)] [(6,Oc [Z (W 2 e_S_Point out_o6_l3)])]) (fun (o:((List S_Point) ⊕ ((List S_Point)×Bool))) (p:Ex×St)=>match o with | (.inl out_o6_e0_3)=>p.1= .exit 0∧p.2.norm ([6],[6])=mk [(6,H 6 0)] [(6,Oc [Z (W 2 e_S_Point out_o6_e0_3)])] | (.inr r2)=>p.1= .ret∧fin Try.prog cfg 100 Try.f100 [.im 2 false [.cp (u_S_Drawing d_0) 0],.im 2 false [W 1 eI ring_1]] p.2=some (B0 [(false,[.ow 0 2 (List.map e_S_Point r2.1)]),(false,[.im 0 (V r2.2)])])) hl (by kernel_rfl) ?_ ?_ ?_
 ·intro o p hp e
  rcases o with out_o6_e0_3 | r2<;>exact nomatch (hp.1.symm.trans e)
 ·rintro ⟨i_7_l3,out_o6_l3⟩ o h
  unfold spec_l05Ring_l3 at h
  dsimp only at h
  refine gs<|gs<|g0 j j (q (oMv j j)<|q (oMv j j)<|q (oLnI j j uF28 j)<|q (oBi j j j j)<|nl)<|us<|gc h j iDec (fun hc5 h=>?_) fun hc5 h=>?_
  ·refine Go.skip<|us<|gs<|Go.block<|gs<|gs<|?_
   obtain ⟨x17,hx17,h⟩:=bs h
   obtain ⟨x25,hx25,h⟩:=bs h
   refine gd c100 j j j j (mk [(0,D 2 (.cp (u_S_Drawing d_0) 0)),(1,D 2 (W 1 eI ring_1)),(6,H 6 0),(7,iv i_7_l3),(26,bv (!x25))] [(6,Oc [Z (W 2 e_S_Point out_o6_l3)])]) (t j j (oMv j j)<|t j j (oMv j j)<|t j j (oIAI j hx17 sF28 j j)<|t j j (oLd (cs:=[.im 2 _]) j tF2 j j)<|t j j (oMv j j)<|t j j (oNl j j j)<|t j j (oFA (r':=.im 2 _) j fF26_2 j j)<|t j j (oLd (cs:=[.im 2 _]) j tF23 j j)<|t j j (oLnI j j uF23 j)<|t j j (oBi j j j j)<|sS (dN z100 j (oCa (xs:=[.v false [.im 2 _],.v false [.im 0 _],.v false [.im 0 _]]) (vs:=[(false,[.im 0 _])]) (v:=.v false [.im 0 _]) (L_spec_l00In hx25) (.inl j) j kF97_2_2_2 j (ppC j (ppC j (ppC j pp0))) j j pb0 j j j)) trivial (t j j (oUn j j j)<|sD (by kernel_rfl)))<|us<|?_
   by_cases hc6:x25=true
   ·rw [if_pos hc6] at h
    refine gF j (nF (iR.2 hc6))<|Go.skip<|us<|?_
    obtain ⟨x34,hx34,h⟩:=bs h
    obtain ⟨x36,hx36,h⟩:=bs h
    obtain ⟨x39,hx39,h⟩:=bs h
    refine gd c100 j j j j (mk [(0,D 2 (.cp (u_S_Drawing d_0) 0)),(1,D 2 (W 1 eI ring_1)),(6,H 6 0),(7,iv i_7_l3)] [(6,Oc [Z (W 2 e_S_Point x39)])]) (t j j (oMv j j)<|t j j (oMv j j)<|t j j (oNl j j j)<|t j j (oFA (r':=.im 2 _) j fF26_2 j j)<|t j j (oLd (cs:=[.im 2 _]) j tF23 j j)<|t j j (oMv j j)<|t j j (oMv j j)<|t j j (oIAI j hx34 sF28 j j)<|t j j (oLd (cs:=[.im 2 _]) j tF2 j j)<|t j j (oIAI j hx36 sF23 j j)<|t j j (oLd (cs:=[.im 2 _,.im 2 _]) j tF155 j j)<|sS (dN z100 j (oBS (es:=List.map e_S_Point ([x36]:List S_Point)) j sF23 j (ptC j (fxI (fxI fx0)) j pt0) (flat0 j fun _=>j))) trivial (sS (dN z100 j (oApO (en:=e_S_Point) (M:=([x36]:List S_Point)) j hx39 j sF23 j j uF23 (.inl ⟨_,j⟩) j j j j (el_own j j) (flat0 j fun _=>j))) trivial (sS (dN z100 j (oAsO j j j j j)) trivial (sD (by kernel_rfl)))))<|Unw.blk<|us<|g0 j j (q (oMv j j)<|q (oBi j j j j)<|q (oAsI j j)<|nl)<|Unw.nil<|?_
    cases h
    exact ⟨j,(by kernel_rfl)⟩
   ·rw [if_neg hc6] at h
    refine gT j (nT (byF iR hc6))<|gs<|g0 j j (q (oAsN j j eF23)<|q (oAsI j j)<|nl)<|us<|Go.ret (Unw.ret ?_)
    cases h
    exact ⟨j,(fo rF100 j)⟩
  ·refine Go.exit<|ux<|Unw.nil<|?_
   cases h
   exact ⟨j,(by kernel_rfl)⟩
 ·rintro ⟨e,st⟩ hp
  rcases o with out_o6_e0_3 | r2
  ·dsimp only at h
   obtain ⟨he,hst⟩:=hp
   obtain rfl:e= .exit 0:=he
   refine Unw.blkx<|us<|gs<|g2 c100 j j hst (q (oMv j j)<|q (oAsO j j j j j)<|q (oAsI j j)<|nl)<|us<|Go.ret (Unw.ret ?_)
   cases h
   exact fr rF100 j
  ·dsimp only at h
   obtain ⟨he,hfin⟩:=hp
   obtain rfl:e= .ret:=he
   cases h
   exact Unw.ret (Fin_ret hfin)
theorem L_spec_l02Ok {p_0:S_Point} {r:Bool} (h:spec_l02Ok p_0=some r):FX 144 [.im 2 true (u_S_Point p_0)] (B0 [(false,[.im 0 (V r)])]):=by
 unfold spec_l02Ok at h
 refine gn 11 Try.func144 rfl ?_
 refine gs<|g0 j j (q (oBx j tF155 j (tkI (tkI tk0)))<|q (oAsI j j)<|nl)<|us<|gs<|?_
 obtain ⟨x5,hx5,h⟩:=bs h
 obtain ⟨t_2_m1,hm2,h⟩:=bs h
 refine gX c144 j j j (mk [(2,bv t_2_m1)] []) ?_ ?_
 ·refine xq (oFA (r':=.mp 1 0 0) j fF155_0 j j)<|xq (oLd (cs:=[.im 0 _]) j tF2 j j)<|xq (oCa (xs:=[.v false [.im 0 _],.v false [.im 0 _],.v false [.im 0 _]]) (vs:=[(false,[.im 0 _])]) (v:=.v false [.im 0 _]) (L_spec_l00In hx5) (.inl j) j kF97_2_2_2 j (ppC j (ppC j (ppC j pp0))) j j pb0 j j j)<|xq (oMv j j)<|?_
  refine ic hm2 (fun hc1 hm2=>?_) fun hc1 hm2=>?_
  ·obtain ⟨x9,hx9,hm2⟩:=bs hm2
   cases hm2
   exact xqT j j (iR.2 hc1) (oFA (r':=.mp 1 0 1) j fF155_1 j j)<|xqT j j (iR.2 hc1) (oLd (cs:=[.im 0 _]) j tF2 j j)<|xqT j j (iR.2 hc1) (oCa (xs:=[.v false [.im 0 _],.v false [.im 0 _],.v false [.im 0 _]]) (vs:=[(false,[.im 0 _])]) (v:=.v false [.im 0 _]) (L_spec_l00In hx9) (.inl j) j kF97_2_2_2 j (ppC j (ppC j (ppC j pp0))) j j pb0 j j j)<|xq (oPkT j j (iR.2 hc1) j)<|xq (oAsI j j)<|xn
  ·cases hm2
   exact xsgF j j (byF iR hc1) j<|xsgF j j (byF iR hc1) j<|xsgF j j (byF iR hc1) j<|xq (oPkF j j (byF iR hc1) j)<|xq (oAsI j j)<|xn
 ·refine us<|Go.ret (Unw.ret ?_)
  cases h
  exact fr rF144 j
theorem L_spec_l02Cross {a_0:S_Point} {b_1:S_Point} {c_2:S_Point} {r:Int} (h:spec_l02Cross a_0 b_1 c_2=some r):FX 201 [.im 2 true (u_S_Point a_0),.im 2 true (u_S_Point b_1),.im 2 true (u_S_Point c_2)] (B0 [(false,[.im 0 (I r)])]):=by
 unfold spec_l02Cross at h
 refine gn 30 Try.func201 rfl ?_
 refine gs<|g0 j j (q (oBx j tF155 j (tkI (tkI tk0)))<|q (oBx j tF155 j (tkI (tkI tk0)))<|q (oBx j tF155 j (tkI (tkI tk0)))<|q (oAsI j j)<|nl)<|us<|gs<|g0 j j (q (oFA (r':=.mp 4 0 0) j fF155_0 j j)<|q (oLd (cs:=[.im 0 _]) j tF2 j j)<|q (oFA (r':=.mp 3 0 0) j fF155_0 j j)<|q (oLd (cs:=[.im 0 _]) j tF2 j j)<|q (oBi j j j j)<|q (oFA (r':=.mp 5 0 1) j fF155_1 j j)<|q (oLd (cs:=[.im 0 _]) j tF2 j j)<|q (oFA (r':=.mp 3 0 1) j fF155_1 j j)<|q (oLd (cs:=[.im 0 _]) j tF2 j j)<|q (oBi j j j j)<|q (oBi j j j j)<|q (oFA (r':=.mp 4 0 1) j fF155_1 j j)<|q (oLd (cs:=[.im 0 _]) j tF2 j j)<|q (oFA (r':=.mp 3 0 1) j fF155_1 j j)<|q (oLd (cs:=[.im 0 _]) j tF2 j j)<|q (oBi j j j j)<|q (oFA (r':=.mp 5 0 0) j fF155_0 j j)<|q (oLd (cs:=[.im 0 _]) j tF2 j j)<|q (oFA (r':=.mp 3 0 0) j fF155_0 j j)<|q (oLd (cs:=[.im 0 _]) j tF2 j j)<|q (oBi j j j j)<|q (oBi j j j j)<|q (oBi j j j j)<|q (oAsI j j)<|nl)<|us<|Go.ret (Unw.ret ?_)
 cases h
 exact fr rF201 j
theorem L_spec_l02Side {a_0:S_Point} {b_1:S_Point} {c_2:S_Point} {r:Int} (h:spec_l02Side a_0 b_1 c_2=some r):FX 175 [.im 2 true (u_S_Point a_0),.im 2 true (u_S_Point b_1),.im 2 true (u_S_Point c_2)] (B0 [(false,[.im 0 (I r)])]):=by
 unfold spec_l02Side at h
 refine gn 16 Try.func175 rfl ?_
 refine gs<|g0 j j (q (oBx j tF155 j (tkI (tkI tk0)))<|q (oBx j tF155 j (tkI (tkI tk0)))<|q (oBx j tF155 j (tkI (tkI tk0)))<|q (oAsI j j)<|nl)<|us<|gs<|?_
 obtain ⟨x11,hx11,h⟩:=bs h
 refine g0 j j (q (oLd (cs:=[.im 0 _,.im 0 _]) j tF155 j j)<|q (oLd (cs:=[.im 0 _,.im 0 _]) j tF155 j j)<|q (oLd (cs:=[.im 0 _,.im 0 _]) j tF155 j j)<|q (oCa (xs:=[.v true [.im 0 _,.im 0 _],.v true [.im 0 _,.im 0 _],.v true [.im 0 _,.im 0 _]]) (vs:=[(false,[.im 0 _])]) (v:=.v false [.im 0 _]) (L_spec_l02Cross hx11) (.inl j) j kF201_155_155_155 j (ppC j (ppC j (ppC j pp0))) j j pb0 j j j)<|q (oAsI j j)<|nl)<|us<|gs<|gs<|g0 j j (q (oMv j j)<|q (oBi j j j j)<|nl)<|us<|gc h j iDec (fun hc1 h=>?_) fun hc1 h=>?_
 ·refine gs<|g0 j j (q (oAsI j j)<|nl)<|us<|Go.ret (Unw.ret ?_)
  cases h
  exact fr rF175 j
 ·refine Go.skip<|us<|gs<|gs<|g0 j j (q (oMv j j)<|q (oBi j j j j)<|nl)<|us<|gc h j iDec (fun hc2 h=>?_) fun hc2 h=>?_
  ·refine gs<|g0 j j (q (oAsI j j)<|nl)<|us<|Go.ret (Unw.ret ?_)
   cases h
   exact fr rF175 j
  ·refine Go.skip<|us<|gs<|g0 j j (q (oAsI j j)<|nl)<|us<|Go.ret (Unw.ret ?_)
   cases h
   exact fr rF175 j
theorem L_spec_l00Min {a_0:Int} {b_1:Int} {r:Int} (h:spec_l00Min a_0 b_1=some r):FX 160 [.im 2 false [I a_0],.im 2 false [I b_1]] (B0 [(false,[.im 0 (I r)])]):=by
 unfold spec_l00Min at h
 refine gn 10 Try.func160 rfl ?_
 refine gs<|g0 j j (q (oAsI j j)<|nl)<|us<|gs<|gs<|g0 j j (q (oMv j j)<|q (oMv j j)<|q (oBi j j j j)<|nl)<|us<|gc h j iDec (fun hc1 h=>?_) fun hc1 h=>?_
 ·refine gs<|g0 j j (q (oMv j j)<|q (oAsI j j)<|nl)<|us<|Go.ret (Unw.ret ?_)
  cases h
  exact fr rF160 j
 ·refine Go.skip<|us<|gs<|g0 j j (q (oMv j j)<|q (oAsI j j)<|nl)<|us<|Go.ret (Unw.ret ?_)
  cases h
  exact fr rF160 j
theorem L_spec_l00Max {a_0:Int} {b_1:Int} {r:Int} (h:spec_l00Max a_0 b_1=some r):FX 161 [.im 2 false [I a_0],.im 2 false [I b_1]] (B0 [(false,[.im 0 (I r)])]):=by
 unfold spec_l00Max at h
 refine gn 10 Try.func161 rfl ?_
 refine gs<|g0 j j (q (oAsI j j)<|nl)<|us<|gs<|gs<|g0 j j (q (oMv j j)<|q (oMv j j)<|q (oBi j j j j)<|nl)<|us<|gc h j iDec (fun hc1 h=>?_) fun hc1 h=>?_
 ·refine gs<|g0 j j (q (oMv j j)<|q (oAsI j j)<|nl)<|us<|Go.ret (Unw.ret ?_)
  cases h
  exact fr rF161 j
 ·refine Go.skip<|us<|gs<|g0 j j (q (oMv j j)<|q (oAsI j j)<|nl)<|us<|Go.ret (Unw.ret ?_)
  cases h
  exact fr rF161 j
theorem L_spec_l02On {a_0:S_Point} {b_1:S_Point} {p_2:S_Point} {r:Bool} (h:spec_l02On a_0 b_1 p_2=some r):FX 145 [.im 2 true (u_S_Point a_0),.im 2 true (u_S_Point b_1),.im 2 true (u_S_Point p_2)] (B0 [(false,[.im 0 (V r)])]):=by
 unfold spec_l02On at h
 refine gn 42 Try.func145 rfl ?_
 refine gs<|g0 j j (q (oBx j tF155 j (tkI (tkI tk0)))<|q (oBx j tF155 j (tkI (tkI tk0)))<|q (oBx j tF155 j (tkI (tkI tk0)))<|q (oAsI j j)<|nl)<|us<|gs<|?_
 obtain ⟨x10,hx10,h⟩:=bs h
 obtain ⟨t_6_m1,hm3,h⟩:=bs h
 refine gd c145 j j j j (mk [(6,bv t_6_m1)] []) ?_ ?_
 ·refine t j j (oLd (cs:=[.im 0 _,.im 0 _]) j tF155 j j)<|t j j (oLd (cs:=[.im 0 _,.im 0 _]) j tF155 j j)<|?_
  refine ic hm3 (fun hc1 hm3=>?_) fun hc1 hm3=>?_
  ·obtain ⟨x19,hx19,hm3⟩:=bs hm3
   obtain ⟨x24,hx24,hm3⟩:=bs hm3
   obtain ⟨x25,hx25,hm3⟩:=bs hm3
   refine ic hm3 (fun hc2 hm3=>?_) fun hc2 hm3=>?_
   ·obtain ⟨x34,hx34,hm3⟩:=bs hm3
    obtain ⟨x39,hx39,hm3⟩:=bs hm3
    obtain ⟨x40,hx40,hm3⟩:=bs hm3
    cases hm3
    exact t j j (oLd (cs:=[.im 0 _,.im 0 _]) j tF155 j j)<|sS (dN z145 j (oCa (xs:=[.v true [.im 0 _,.im 0 _],.v true [.im 0 _,.im 0 _],.v true [.im 0 _,.im 0 _]]) (vs:=[(false,[.im 0 _])]) (v:=.v false [.im 0 _]) (L_spec_l02Side hx10) (.inl j) j kF175_155_155_155 j (ppC j (ppC j (ppC j pp0))) j j pb0 j j j)) trivial (t j j (oBi j j j j)<|t j j (oMv j j)<|tT j j j j (iEq.2 hc1) (oFA (r':=.mp 5 0 0) j fF155_0 j j)<|tT j j j j (iEq.2 hc1) (oLd (cs:=[.im 0 _]) j tF2 j j)<|tT j j j j (iEq.2 hc1) (oFA (r':=.mp 3 0 0) j fF155_0 j j)<|tT j j j j (iEq.2 hc1) (oLd (cs:=[.im 0 _]) j tF2 j j)<|tT j j j j (iEq.2 hc1) (oFA (r':=.mp 4 0 0) j fF155_0 j j)<|tT j j j j (iEq.2 hc1) (oLd (cs:=[.im 0 _]) j tF2 j j)<|tT j j j j (iEq.2 hc1) (oFA (r':=.mp 3 0 0) j fF155_0 j j)<|tT j j j j (iEq.2 hc1) (oLd (cs:=[.im 0 _]) j tF2 j j)<|tT j j j j (iEq.2 hc1) (oFA (r':=.mp 4 0 0) j fF155_0 j j)<|tT j j j j (iEq.2 hc1) (oLd (cs:=[.im 0 _]) j tF2 j j)<|sS (dT z145 j j j (iEq.2 hc1) (oCa (xs:=[.v false [.im 0 _],.v false [.im 0 _]]) (vs:=[(false,[.im 0 _])]) (v:=.v false [.im 0 _]) (L_spec_l00Min hx19) (.inl j) j kF160_2_2 j (ppC j (ppC j pp0)) j j pb0 j j j)) trivial (sS (dT z145 j j j (iEq.2 hc1) (oCa (xs:=[.v false [.im 0 _],.v false [.im 0 _]]) (vs:=[(false,[.im 0 _])]) (v:=.v false [.im 0 _]) (L_spec_l00Max hx24) (.inl j) j kF161_2_2 j (ppC j (ppC j pp0)) j j pb0 j j j)) trivial (sS (dT z145 j j j (iEq.2 hc1) (oCa (xs:=[.v false [.im 0 _],.v false [.im 0 _],.v false [.im 0 _]]) (vs:=[(false,[.im 0 _])]) (v:=.v false [.im 0 _]) (L_spec_l00In hx25) (.inl j) j kF97_2_2_2 j (ppC j (ppC j (ppC j pp0))) j j pb0 j j j)) trivial (t j j (oPkT j j (iEq.2 hc1) j)<|t j j (oMv j j)<|tT j j j j (iR.2 hc2) (oFA (r':=.mp 5 0 1) j fF155_1 j j)<|tT j j j j (iR.2 hc2) (oLd (cs:=[.im 0 _]) j tF2 j j)<|tT j j j j (iR.2 hc2) (oFA (r':=.mp 3 0 1) j fF155_1 j j)<|tT j j j j (iR.2 hc2) (oLd (cs:=[.im 0 _]) j tF2 j j)<|tT j j j j (iR.2 hc2) (oFA (r':=.mp 4 0 1) j fF155_1 j j)<|tT j j j j (iR.2 hc2) (oLd (cs:=[.im 0 _]) j tF2 j j)<|tT j j j j (iR.2 hc2) (oFA (r':=.mp 3 0 1) j fF155_1 j j)<|tT j j j j (iR.2 hc2) (oLd (cs:=[.im 0 _]) j tF2 j j)<|tT j j j j (iR.2 hc2) (oFA (r':=.mp 4 0 1) j fF155_1 j j)<|tT j j j j (iR.2 hc2) (oLd (cs:=[.im 0 _]) j tF2 j j)<|sS (dT z145 j j j (iR.2 hc2) (oCa (xs:=[.v false [.im 0 _],.v false [.im 0 _]]) (vs:=[(false,[.im 0 _])]) (v:=.v false [.im 0 _]) (L_spec_l00Min hx34) (.inl j) j kF160_2_2 j (ppC j (ppC j pp0)) j j pb0 j j j)) trivial (sS (dT z145 j j j (iR.2 hc2) (oCa (xs:=[.v false [.im 0 _],.v false [.im 0 _]]) (vs:=[(false,[.im 0 _])]) (v:=.v false [.im 0 _]) (L_spec_l00Max hx39) (.inl j) j kF161_2_2 j (ppC j (ppC j pp0)) j j pb0 j j j)) trivial (sS (dT z145 j j j (iR.2 hc2) (oCa (xs:=[.v false [.im 0 _],.v false [.im 0 _],.v false [.im 0 _]]) (vs:=[(false,[.im 0 _])]) (v:=.v false [.im 0 _]) (L_spec_l00In hx40) (.inl j) j kF97_2_2_2 j (ppC j (ppC j (ppC j pp0))) j j pb0 j j j)) trivial (t j j (oPkT j j (iR.2 hc2) j)<|sS (dN z145 j (oAsI j j)) trivial (sD (by kernel_rfl)))))))))
   ·cases hm3
    exact t j j (oLd (cs:=[.im 0 _,.im 0 _]) j tF155 j j)<|sS (dN z145 j (oCa (xs:=[.v true [.im 0 _,.im 0 _],.v true [.im 0 _,.im 0 _],.v true [.im 0 _,.im 0 _]]) (vs:=[(false,[.im 0 _])]) (v:=.v false [.im 0 _]) (L_spec_l02Side hx10) (.inl j) j kF175_155_155_155 j (ppC j (ppC j (ppC j pp0))) j j pb0 j j j)) trivial (t j j (oBi j j j j)<|t j j (oMv j j)<|tT j j j j (iEq.2 hc1) (oFA (r':=.mp 5 0 0) j fF155_0 j j)<|tT j j j j (iEq.2 hc1) (oLd (cs:=[.im 0 _]) j tF2 j j)<|tT j j j j (iEq.2 hc1) (oFA (r':=.mp 3 0 0) j fF155_0 j j)<|tT j j j j (iEq.2 hc1) (oLd (cs:=[.im 0 _]) j tF2 j j)<|tT j j j j (iEq.2 hc1) (oFA (r':=.mp 4 0 0) j fF155_0 j j)<|tT j j j j (iEq.2 hc1) (oLd (cs:=[.im 0 _]) j tF2 j j)<|tT j j j j (iEq.2 hc1) (oFA (r':=.mp 3 0 0) j fF155_0 j j)<|tT j j j j (iEq.2 hc1) (oLd (cs:=[.im 0 _]) j tF2 j j)<|tT j j j j (iEq.2 hc1) (oFA (r':=.mp 4 0 0) j fF155_0 j j)<|tT j j j j (iEq.2 hc1) (oLd (cs:=[.im 0 _]) j tF2 j j)<|sS (dT z145 j j j (iEq.2 hc1) (oCa (xs:=[.v false [.im 0 _],.v false [.im 0 _]]) (vs:=[(false,[.im 0 _])]) (v:=.v false [.im 0 _]) (L_spec_l00Min hx19) (.inl j) j kF160_2_2 j (ppC j (ppC j pp0)) j j pb0 j j j)) trivial (sS (dT z145 j j j (iEq.2 hc1) (oCa (xs:=[.v false [.im 0 _],.v false [.im 0 _]]) (vs:=[(false,[.im 0 _])]) (v:=.v false [.im 0 _]) (L_spec_l00Max hx24) (.inl j) j kF161_2_2 j (ppC j (ppC j pp0)) j j pb0 j j j)) trivial (sS (dT z145 j j j (iEq.2 hc1) (oCa (xs:=[.v false [.im 0 _],.v false [.im 0 _],.v false [.im 0 _]]) (vs:=[(false,[.im 0 _])]) (v:=.v false [.im 0 _]) (L_spec_l00In hx25) (.inl j) j kF97_2_2_2 j (ppC j (ppC j (ppC j pp0))) j j pb0 j j j)) trivial (t j j (oPkT j j (iEq.2 hc1) j)<|t j j (oMv j j)<|tF j j j j (byF iR hc2) j<|tF j j j j (byF iR hc2) j<|tF j j j j (byF iR hc2) j<|tF j j j j (byF iR hc2) j<|tF j j j j (byF iR hc2) j<|tF j j j j (byF iR hc2) j<|tF j j j j (byF iR hc2) j<|tF j j j j (byF iR hc2) j<|tF j j j j (byF iR hc2) j<|tF j j j j (byF iR hc2) j<|sS (dF j j j (byF iR hc2) j) trivial (sS (dF j j j (byF iR hc2) j) trivial (sS (dF j j j (byF iR hc2) j) trivial (t j j (oPkF j j (byF iR hc2) j)<|sS (dN z145 j (oAsI j j)) trivial (sD (by kernel_rfl)))))))))
  ·cases hm3
   exact t j j (oLd (cs:=[.im 0 _,.im 0 _]) j tF155 j j)<|sS (dN z145 j (oCa (xs:=[.v true [.im 0 _,.im 0 _],.v true [.im 0 _,.im 0 _],.v true [.im 0 _,.im 0 _]]) (vs:=[(false,[.im 0 _])]) (v:=.v false [.im 0 _]) (L_spec_l02Side hx10) (.inl j) j kF175_155_155_155 j (ppC j (ppC j (ppC j pp0))) j j pb0 j j j)) trivial (t j j (oBi j j j j)<|t j j (oMv j j)<|tF j j j j (byF iEq hc1) j<|tF j j j j (byF iEq hc1) j<|tF j j j j (byF iEq hc1) j<|tF j j j j (byF iEq hc1) j<|tF j j j j (byF iEq hc1) j<|tF j j j j (byF iEq hc1) j<|tF j j j j (byF iEq hc1) j<|tF j j j j (byF iEq hc1) j<|tF j j j j (byF iEq hc1) j<|tF j j j j (byF iEq hc1) j<|sS (dF j j j (byF iEq hc1) j) trivial (sS (dF j j j (byF iEq hc1) j) trivial (sS (dF j j j (byF iEq hc1) j) trivial (t j j (oPkF j j (byF iEq hc1) j)<|t j j (oMv j j)<|tF j j j j j j<|tF j j j j j j<|tF j j j j j j<|tF j j j j j j<|tF j j j j j j<|tF j j j j j j<|tF j j j j j j<|tF j j j j j j<|tF j j j j j j<|tF j j j j j j<|sS (dF j j j j j) trivial (sS (dF j j j j j) trivial (sS (dF j j j j j) trivial (t j j (oPkF j j j j)<|sS (dN z145 j (oAsI j j)) trivial (sD (by kernel_rfl)))))))))
 ·refine us<|Go.ret (Unw.ret ?_)
  cases h
  exact fr rF145 j
theorem L_spec_l02Crosses {a_0:S_Point} {b_1:S_Point} {c_2:S_Point} {d_3:S_Point} {r:Bool} (h:spec_l02Crosses a_0 b_1 c_2 d_3=some r):FX 176 [.im 2 true (u_S_Point a_0),.im 2 true (u_S_Point b_1),.im 2 true (u_S_Point c_2),.im 2 true (u_S_Point d_3)] (B0 [(false,[.im 0 (V r)])]):=by
 unfold spec_l02Crosses at h
 refine gn 31 Try.func176 rfl ?_
 refine gs<|g0 j j (q (oBx j tF155 j (tkI (tkI tk0)))<|q (oBx j tF155 j (tkI (tkI tk0)))<|q (oBx j tF155 j (tkI (tkI tk0)))<|q (oBx j tF155 j (tkI (tkI tk0)))<|q (oAsI j j)<|nl)<|us<|gs<|?_
 obtain ⟨x12,hx12,h⟩:=bs h
 obtain ⟨x16,hx16,h⟩:=bs h
 obtain ⟨t_8_m1,hm2,h⟩:=bs h
 refine gd c176 j j j j (mk [(8,bv t_8_m1)] []) ?_ ?_
 ·refine t j j (oLd (cs:=[.im 0 _,.im 0 _]) j tF155 j j)<|t j j (oLd (cs:=[.im 0 _,.im 0 _]) j tF155 j j)<|t j j (oLd (cs:=[.im 0 _,.im 0 _]) j tF155 j j)<|t j j (oLd (cs:=[.im 0 _,.im 0 _]) j tF155 j j)<|t j j (oLd (cs:=[.im 0 _,.im 0 _]) j tF155 j j)<|?_
  refine ic hm2 (fun hc1 hm2=>?_) fun hc1 hm2=>?_
  ·obtain ⟨x23,hx23,hm2⟩:=bs hm2
   obtain ⟨x27,hx27,hm2⟩:=bs hm2
   cases hm2
   exact t j j (oLd (cs:=[.im 0 _,.im 0 _]) j tF155 j j)<|sS (dN z176 j (oCa (xs:=[.v true [.im 0 _,.im 0 _],.v true [.im 0 _,.im 0 _],.v true [.im 0 _,.im 0 _]]) (vs:=[(false,[.im 0 _])]) (v:=.v false [.im 0 _]) (L_spec_l02Side hx12) (.inl j) j kF175_155_155_155 j (ppC j (ppC j (ppC j pp0))) j j pb0 j j j)) trivial (sS (dN z176 j (oCa (xs:=[.v true [.im 0 _,.im 0 _],.v true [.im 0 _,.im 0 _],.v true [.im 0 _,.im 0 _]]) (vs:=[(false,[.im 0 _])]) (v:=.v false [.im 0 _]) (L_spec_l02Side hx16) (.inl j) j kF175_155_155_155 j (ppC j (ppC j (ppC j pp0))) j j pb0 j j j)) trivial (t j j (oBi j j j j)<|t j j (oBi j j j j)<|t j j (oMv j j)<|tT j j j j (iDec.2 hc1) (oLd (cs:=[.im 0 _,.im 0 _]) j tF155 j j)<|tT j j j j (iDec.2 hc1) (oLd (cs:=[.im 0 _,.im 0 _]) j tF155 j j)<|tT j j j j (iDec.2 hc1) (oLd (cs:=[.im 0 _,.im 0 _]) j tF155 j j)<|tT j j j j (iDec.2 hc1) (oLd (cs:=[.im 0 _,.im 0 _]) j tF155 j j)<|tT j j j j (iDec.2 hc1) (oLd (cs:=[.im 0 _,.im 0 _]) j tF155 j j)<|tT j j j j (iDec.2 hc1) (oLd (cs:=[.im 0 _,.im 0 _]) j tF155 j j)<|sS (dT z176 j j j (iDec.2 hc1) (oCa (xs:=[.v true [.im 0 _,.im 0 _],.v true [.im 0 _,.im 0 _],.v true [.im 0 _,.im 0 _]]) (vs:=[(false,[.im 0 _])]) (v:=.v false [.im 0 _]) (L_spec_l02Side hx23) (.inl j) j kF175_155_155_155 j (ppC j (ppC j (ppC j pp0))) j j pb0 j j j)) trivial (sS (dT z176 j j j (iDec.2 hc1) (oCa (xs:=[.v true [.im 0 _,.im 0 _],.v true [.im 0 _,.im 0 _],.v true [.im 0 _,.im 0 _]]) (vs:=[(false,[.im 0 _])]) (v:=.v false [.im 0 _]) (L_spec_l02Side hx27) (.inl j) j kF175_155_155_155 j (ppC j (ppC j (ppC j pp0))) j j pb0 j j j)) trivial (tT j j j j (iDec.2 hc1) (oBi j j j j)<|tT j j j j (iDec.2 hc1) (oBi j j j j)<|t j j (oPkT j j (iDec.2 hc1) j)<|sS (dN z176 j (oAsI j j)) trivial (sD (by kernel_rfl))))))
  ·cases hm2
   exact t j j (oLd (cs:=[.im 0 _,.im 0 _]) j tF155 j j)<|sS (dN z176 j (oCa (xs:=[.v true [.im 0 _,.im 0 _],.v true [.im 0 _,.im 0 _],.v true [.im 0 _,.im 0 _]]) (vs:=[(false,[.im 0 _])]) (v:=.v false [.im 0 _]) (L_spec_l02Side hx12) (.inl j) j kF175_155_155_155 j (ppC j (ppC j (ppC j pp0))) j j pb0 j j j)) trivial (sS (dN z176 j (oCa (xs:=[.v true [.im 0 _,.im 0 _],.v true [.im 0 _,.im 0 _],.v true [.im 0 _,.im 0 _]]) (vs:=[(false,[.im 0 _])]) (v:=.v false [.im 0 _]) (L_spec_l02Side hx16) (.inl j) j kF175_155_155_155 j (ppC j (ppC j (ppC j pp0))) j j pb0 j j j)) trivial (t j j (oBi j j j j)<|t j j (oBi j j j j)<|t j j (oMv j j)<|tF j j j j (byF iDec hc1) j<|tF j j j j (byF iDec hc1) j<|tF j j j j (byF iDec hc1) j<|tF j j j j (byF iDec hc1) j<|tF j j j j (byF iDec hc1) j<|tF j j j j (byF iDec hc1) j<|sS (dF j j j (byF iDec hc1) j) trivial (sS (dF j j j (byF iDec hc1) j) trivial (tF j j j j (byF iDec hc1) j<|tF j j j j (byF iDec hc1) j<|t j j (oPkF j j (byF iDec hc1) j)<|sS (dN z176 j (oAsI j j)) trivial (sD (by kernel_rfl))))))
 ·refine us<|Go.ret (Unw.ret ?_)
  cases h
  exact fr rF176 j
theorem L_spec_l03Meet {a_0:S_Point} {b_1:S_Point} {c_2:S_Point} {d_3:S_Point} {r:Bool} (h:spec_l03Meet a_0 b_1 c_2 d_3=some r):FX 146 [.im 2 true (u_S_Point a_0),.im 2 true (u_S_Point b_1),.im 2 true (u_S_Point c_2),.im 2 true (u_S_Point d_3)] (B0 [(false,[.im 0 (V r)])]):=by
 unfold spec_l03Meet at h
 refine gn 38 Try.func146 rfl ?_
 refine gs<|g0 j j (q (oBx j tF155 j (tkI (tkI tk0)))<|q (oBx j tF155 j (tkI (tkI tk0)))<|q (oBx j tF155 j (tkI (tkI tk0)))<|q (oBx j tF155 j (tkI (tkI tk0)))<|q (oAsI j j)<|nl)<|us<|gs<|?_
 obtain ⟨x13,hx13,h⟩:=bs h
 obtain ⟨t_8_m1,hm5,h⟩:=bs h
 refine gX c146 j j j (mk [(8,bv t_8_m1)] []) ?_ ?_
 ·refine xq (oLd (cs:=[.im 0 _,.im 0 _]) j tF155 j j)<|xq (oLd (cs:=[.im 0 _,.im 0 _]) j tF155 j j)<|xq (oLd (cs:=[.im 0 _,.im 0 _]) j tF155 j j)<|xq (oLd (cs:=[.im 0 _,.im 0 _]) j tF155 j j)<|xq (oCa (xs:=[.v true [.im 0 _,.im 0 _],.v true [.im 0 _,.im 0 _],.v true [.im 0 _,.im 0 _],.v true [.im 0 _,.im 0 _]]) (vs:=[(false,[.im 0 _])]) (v:=.v false [.im 0 _]) (L_spec_l02Crosses hx13) (.inl j) j kF176_155_155_155_155 j (ppC j (ppC j (ppC j (ppC j pp0)))) j j pb0 j j j)<|xq (oMv j j)<|?_
  refine ic hm5 (fun hc1 hm5=>?_) fun hc1 hm5=>?_
  ·cases hm5
   exact xsgF j j (iR.2 hc1) j<|xsgF j j (iR.2 hc1) j<|xsgF j j (iR.2 hc1) j<|xsgF j j (iR.2 hc1) j<|xq (oPkT j j (iR.2 hc1) j)<|xq (oMv j j)<|xsgF j j j j<|xsgF j j j j<|xsgF j j j j<|xsgF j j j j<|xq (oPkT j j j j)<|xq (oMv j j)<|xsgF j j j j<|xsgF j j j j<|xsgF j j j j<|xsgF j j j j<|xq (oPkT j j j j)<|xq (oMv j j)<|xsgF j j j j<|xsgF j j j j<|xsgF j j j j<|xsgF j j j j<|xq (oPkT j j j j)<|xq (oAsI j j)<|xn
  ·obtain ⟨x18,hx18,hm5⟩:=bs hm5
   refine xqT j j (byF iR hc1) (oLd (cs:=[.im 0 _,.im 0 _]) j tF155 j j)<|xqT j j (byF iR hc1) (oLd (cs:=[.im 0 _,.im 0 _]) j tF155 j j)<|xqT j j (byF iR hc1) (oLd (cs:=[.im 0 _,.im 0 _]) j tF155 j j)<|xqT j j (byF iR hc1) (oCa (xs:=[.v true [.im 0 _,.im 0 _],.v true [.im 0 _,.im 0 _],.v true [.im 0 _,.im 0 _]]) (vs:=[(false,[.im 0 _])]) (v:=.v false [.im 0 _]) (L_spec_l02On hx18) (.inl j) j kF145_155_155_155 j (ppC j (ppC j (ppC j pp0))) j j pb0 j j j)<|xq (oPkF j j (byF iR hc1) j)<|xq (oMv j j)<|?_
   refine ic hm5 (fun hc2 hm5=>?_) fun hc2 hm5=>?_
   ·cases hm5
    exact xsgF j j (iR.2 hc2) j<|xsgF j j (iR.2 hc2) j<|xsgF j j (iR.2 hc2) j<|xsgF j j (iR.2 hc2) j<|xq (oPkT j j (iR.2 hc2) j)<|xq (oMv j j)<|xsgF j j j j<|xsgF j j j j<|xsgF j j j j<|xsgF j j j j<|xq (oPkT j j j j)<|xq (oMv j j)<|xsgF j j j j<|xsgF j j j j<|xsgF j j j j<|xsgF j j j j<|xq (oPkT j j j j)<|xq (oAsI j j)<|xn
   ·obtain ⟨x24,hx24,hm5⟩:=bs hm5
    refine xqT j j (byF iR hc2) (oLd (cs:=[.im 0 _,.im 0 _]) j tF155 j j)<|xqT j j (byF iR hc2) (oLd (cs:=[.im 0 _,.im 0 _]) j tF155 j j)<|xqT j j (byF iR hc2) (oLd (cs:=[.im 0 _,.im 0 _]) j tF155 j j)<|xqT j j (byF iR hc2) (oCa (xs:=[.v true [.im 0 _,.im 0 _],.v true [.im 0 _,.im 0 _],.v true [.im 0 _,.im 0 _]]) (vs:=[(false,[.im 0 _])]) (v:=.v false [.im 0 _]) (L_spec_l02On hx24) (.inl j) j kF145_155_155_155 j (ppC j (ppC j (ppC j pp0))) j j pb0 j j j)<|xq (oPkF j j (byF iR hc2) j)<|xq (oMv j j)<|?_
    refine ic hm5 (fun hc3 hm5=>?_) fun hc3 hm5=>?_
    ·cases hm5
     exact xsgF j j (iR.2 hc3) j<|xsgF j j (iR.2 hc3) j<|xsgF j j (iR.2 hc3) j<|xsgF j j (iR.2 hc3) j<|xq (oPkT j j (iR.2 hc3) j)<|xq (oMv j j)<|xsgF j j j j<|xsgF j j j j<|xsgF j j j j<|xsgF j j j j<|xq (oPkT j j j j)<|xq (oAsI j j)<|xn
    ·obtain ⟨x30,hx30,hm5⟩:=bs hm5
     refine xqT j j (byF iR hc3) (oLd (cs:=[.im 0 _,.im 0 _]) j tF155 j j)<|xqT j j (byF iR hc3) (oLd (cs:=[.im 0 _,.im 0 _]) j tF155 j j)<|xqT j j (byF iR hc3) (oLd (cs:=[.im 0 _,.im 0 _]) j tF155 j j)<|xqT j j (byF iR hc3) (oCa (xs:=[.v true [.im 0 _,.im 0 _],.v true [.im 0 _,.im 0 _],.v true [.im 0 _,.im 0 _]]) (vs:=[(false,[.im 0 _])]) (v:=.v false [.im 0 _]) (L_spec_l02On hx30) (.inl j) j kF145_155_155_155 j (ppC j (ppC j (ppC j pp0))) j j pb0 j j j)<|xq (oPkF j j (byF iR hc3) j)<|xq (oMv j j)<|?_
     refine ic hm5 (fun hc4 hm5=>?_) fun hc4 hm5=>?_
     ·cases hm5
      exact xsgF j j (iR.2 hc4) j<|xsgF j j (iR.2 hc4) j<|xsgF j j (iR.2 hc4) j<|xsgF j j (iR.2 hc4) j<|xq (oPkT j j (iR.2 hc4) j)<|xq (oAsI j j)<|xn
     ·obtain ⟨x36,hx36,hm5⟩:=bs hm5
      cases hm5
      exact xqT j j (byF iR hc4) (oLd (cs:=[.im 0 _,.im 0 _]) j tF155 j j)<|xqT j j (byF iR hc4) (oLd (cs:=[.im 0 _,.im 0 _]) j tF155 j j)<|xqT j j (byF iR hc4) (oLd (cs:=[.im 0 _,.im 0 _]) j tF155 j j)<|xqT j j (byF iR hc4) (oCa (xs:=[.v true [.im 0 _,.im 0 _],.v true [.im 0 _,.im 0 _],.v true [.im 0 _,.im 0 _]]) (vs:=[(false,[.im 0 _])]) (v:=.v false [.im 0 _]) (L_spec_l02On hx36) (.inl j) j kF145_155_155_155 j (ppC j (ppC j (ppC j pp0))) j j pb0 j j j)<|xq (oPkF j j (byF iR hc4) j)<|xq (oAsI j j)<|xn
 ·refine us<|Go.ret (Unw.ret ?_)
  cases h
  exact fr rF146 j
theorem L_spec_l03Area {p_0:(List S_Point)} {r:Int} (h:spec_l03Area p_0=some r):FX 147 [.im 2 false [W 2 e_S_Point p_0]] (B0 [(false,[.im 0 (I r)])]):=by
 unfold spec_l03Area at h
 refine gn 40 Try.func147 rfl ?_
 refine gs<|g0 j j (q (oAsI j j)<|nl)<|us<|gs<|g0 j j (q (oAsI j j)<|nl)<|us<|gs<|gs<|g0 j j (q (oAsI j j)<|nl)<|us<|Go.block<|?_
 obtain ⟨o,hl,h⟩:=bs h
 refine gl c147 j _ (fun (s:(Int×Int))=>match s with | (sum_3_l3,i_4_l3)=>mk [(0,D 2 (W 2 e_S_Point p_0)),(3,iv sum_3_l3),(4,iv i_4_l3)] []) (fun (sum_3_e0_3:Int) (p:Ex×St)=>p.1= .exit 0∧p.2.norm ([3],[])=mk [(3,iv sum_3_e0_3)] []) hl (by kernel_rfl) ?_ ?_ ?_
 ·intro o p hp e
  exact nomatch (hp.1.symm.trans e)
 ·rintro ⟨sum_3_l3,i_4_l3⟩ o h
  unfold spec_l03Area_l3 at h
  dsimp only at h
  refine gs<|gs<|g0 j j (q (oMv j j)<|q (oMv j j)<|q (oLnI j j uF23 j)<|q (oBi j j j j)<|nl)<|us<|gc h j iDec (fun hc3 h=>?_) fun hc3 h=>?_
  ·refine Go.skip<|us<|gs<|Go.block<|gs<|?_
   obtain ⟨x17,hx17,h⟩:=bs h
   obtain ⟨x18,hx18,h⟩:=bs h
   refine g0 j j (q (oMv j j)<|q (oMv j j)<|q (oBi j j j j)<|q (oMv j j)<|q (oLnI j j uF23 j)<|q (oRem j hx17 j j)<|q (oIAI j hx18 sF23 j j)<|q (oLd (cs:=[.im 2 _,.im 2 _]) j tF155 j j)<|q (oAl j tF155 (tkI (tkI tk0)))<|q (oSt tF155 j j j (tkI (tkI tk0)) j j j)<|nl)<|us<|?_
   obtain ⟨x23,hx23,h⟩:=bs h
   obtain ⟨x31,hx31,h⟩:=bs h
   refine gd c147 j j j (st1:=mk [(0,D 2 (W 2 e_S_Point p_0)),(3,iv sum_3_l3),(4,iv i_4_l3),(5,M 5)] [(5,Oa (G 0 (u_S_Point x18)))]) (by kernel_rfl) (mk [(0,D 2 (W 2 e_S_Point p_0)),(3,iv (w64 (sum_3_l3+(w64 ((w64 (x23.X*x18.Y)) - (w64 (x31.Y*x18.X))))))),(4,iv i_4_l3)] []) (t j j (oMv j j)<|t j j (oMv j j)<|t j j (oMv j j)<|t j j (oIAI j hx23 sF23 j j)<|t j j (oFA (r':=.im 2 _) j fF155_0 j j)<|t j j (oLd (cs:=[.im 2 _]) j tF2 j j)<|t j j (oFA (r':=.mp 5 0 1) j fF155_1 j j)<|t j j (oLd (cs:=[.im 0 _]) j tF2 j j)<|t j j (oBi j j j j)<|t j j (oMv j j)<|t j j (oMv j j)<|t j j (oIAI j hx31 sF23 j j)<|t j j (oFA (r':=.im 2 _) j fF155_1 j j)<|t j j (oLd (cs:=[.im 2 _]) j tF2 j j)<|t j j (oFA (r':=.mp 5 0 0) j fF155_0 j j)<|t j j (oLd (cs:=[.im 0 _]) j tF2 j j)<|t j j (oBi j j j j)<|t j j (oBi j j j j)<|t j j (oBi j j j j)<|sS (dN z147 j (oAsI j j)) trivial (sD (by kernel_rfl)))<|Unw.blk<|us<|g0 j j (q (oMv j j)<|q (oBi j j j j)<|q (oAsI j j)<|nl)<|Unw.nil<|?_
   cases h
   exact ⟨j,(by kernel_rfl)⟩
  ·refine Go.exit<|ux<|Unw.nil<|?_
   cases h
   exact ⟨j,(by kernel_rfl)⟩
 ·rintro ⟨e,st⟩ hp
  obtain ⟨sum_3_e0_3,rfl⟩:∃y,y=o:=⟨o,rfl⟩
  obtain ⟨he,hst⟩:=hp
  obtain rfl:e= .exit 0:=he
  refine Unw.blkx<|us<|gs<|g2 c147 j j hst (q (oMv j j)<|q (oAsI j j)<|nl)<|us<|Go.ret (Unw.ret ?_)
  cases h
  exact fr rF147 j
theorem L_spec_l03Ok {p_0:(List S_Point)} {r:Bool} (h:spec_l03Ok p_0=some r):FX 101 [.im 2 false [W 2 e_S_Point p_0]] (B0 [(false,[.im 0 (V r)])]):=by
 unfold spec_l03Ok at h
 refine gn 99 Try.func101 rfl ?_
 refine gs<|g0 j j (q (oAsI j j)<|nl)<|us<|gs<|g0 j j (q (oMv j j)<|q (oLnI j j uF23 j)<|q (oAsI j j)<|nl)<|us<|gs<|gs<|gX c101 j j j (mk [(0,D 2 (W 2 e_S_Point p_0)),(3,iv (p_0.length:Int)),(17,bv ((decide ((p_0.length:Int) <3))||(decide ((p_0.length:Int) >24))))] []) ?_ ?_
 ·refine xq (oMv j j)<|xq (oBi j j j j)<|xq (oMv j j)<|?_
  by_cases hc1:(p_0.length:Int) <3
  ·exact xsgF rfl rfl (iDec.2 hc1) rfl<|xsgF rfl rfl (iDec.2 hc1) rfl<|xq (oPkT rfl rfl (iDec.2 hc1) rfl)<|xn (Eq.trans (b:=(fun t_17_m2:Bool=>mk [(0,D 2 (W 2 e_S_Point p_0)),(3,iv (p_0.length:Int)),(17,bv t_17_m2)] []) true) (by kernel_rfl) (congrArg (fun t_17_m2:Bool=>mk [(0,D 2 (W 2 e_S_Point p_0)),(3,iv (p_0.length:Int)),(17,bv t_17_m2)] []) (by first | rfl | (simp [(iDec.2 hc1)];done) | (simp [(iDec.2 hc1)];omega))))
  ·exact xqT rfl rfl (byF iDec hc1) (oMv rfl rfl)<|xqT rfl rfl (byF iDec hc1) (oBi rfl rfl rfl rfl)<|xq (oPkF rfl rfl (byF iDec hc1) rfl)<|xn (Eq.trans (b:=(fun t_17_m2:Bool=>mk [(0,D 2 (W 2 e_S_Point p_0)),(3,iv (p_0.length:Int)),(17,bv t_17_m2)] []) (decide ((p_0.length:Int) >24))) (by kernel_rfl) (congrArg (fun t_17_m2:Bool=>mk [(0,D 2 (W 2 e_S_Point p_0)),(3,iv (p_0.length:Int)),(17,bv t_17_m2)] []) (by first | rfl | (simp [(byF iDec hc1)];done) | (simp [(byF iDec hc1)];omega))))
 ·refine us<|gc h j (iOr iDec iDec) (fun hc2 h=>?_) fun hc2 h=>?_
  ·refine gs<|g0 j j (q (oAsI j j)<|nl)<|us<|Go.ret (Unw.ret ?_)
   cases h
   exact fr rF101 j
  ·refine Go.skip<|us<|gs<|gs<|g0 j j (q (oAsI j j)<|nl)<|us<|Go.block<|?_
   obtain ⟨o,hl,h⟩:=bs h
   refine gl c101 j _ (fun (i_4_l5:Int)=>mk [(0,D 2 (W 2 e_S_Point p_0)),(3,iv (p_0.length:Int)),(4,iv i_4_l5)] []) (fun (o:(Unit ⊕ Bool)) (p:Ex×St)=>match o with | (.inl _)=>p.1= .exit 0∧p.2.norm ([0,3],[])=mk [(0,D 2 (W 2 e_S_Point p_0)),(3,iv (p_0.length:Int))] [] | (.inr r2)=>p.1= .ret∧fin Try.prog cfg 101 Try.f101 [.im 2 false [W 2 e_S_Point p_0]] p.2=some (B0 [(false,[.im 0 (V r2)])])) hl (by kernel_rfl) ?_ ?_ ?_
   ·intro o p hp e
    rcases o with u | r2<;>exact nomatch (hp.1.symm.trans e)
   ·rintro i_4_l5 o h
    unfold spec_l03Ok_l5 at h
    refine gs<|gs<|g0 j j (q (oMv j j)<|q (oMv j j)<|q (oBi j j j j)<|nl)<|us<|gc h j iDec (fun hc50 h=>?_) fun hc50 h=>?_
    ·refine Go.skip<|us<|gs<|Go.block<|gs<|?_
     obtain ⟨x25,hx25,h⟩:=bs h
     obtain ⟨x27,hx27,h⟩:=bs h
     refine g0 j j (q (oMv j j)<|q (oMv j j)<|q (oIAI j hx25 sF23 j j)<|q (oLd (cs:=[.im 2 _,.im 2 _]) j tF155 j j)<|q (oCa (xs:=[.v true [.im 2 _,.im 2 _]]) (vs:=[(false,[.im 0 _])]) (v:=.v false [.im 0 _]) (L_spec_l02Ok hx27) (.inl j) j kF144_155 j (ppC j pp0) j j pb0 j j j)<|q (oUn j j j)<|nl)<|us<|?_
     by_cases hc51:x27=true
     ·rw [if_pos hc51] at h
      refine gF j (nF (iR.2 hc51))<|Go.skip<|Unw.blk<|us<|g0 j j (q (oMv j j)<|q (oBi j j j j)<|q (oAsI j j)<|nl)<|Unw.nil<|?_
      cases h
      exact ⟨j,(by kernel_rfl)⟩
     ·rw [if_neg hc51] at h
      refine gT j (nT (byF iR hc51))<|gs<|g0 j j (q (oAsI j j)<|nl)<|us<|Go.ret (Unw.ret ?_)
      cases h
      exact ⟨j,(fo rF101 j)⟩
    ·refine Go.exit<|ux<|Unw.nil<|?_
     cases h
     exact ⟨j,(by kernel_rfl)⟩
   ·rintro ⟨e,st⟩ hp
    rcases o with u | r2
    ·dsimp only at h
     obtain ⟨he,hst⟩:=hp
     obtain rfl:e= .exit 0:=he
     refine Unw.blkx<|us<|gs<|gs<|g2 c101 j j hst (q (oAsI j j)<|nl)<|us<|Go.block<|?_
     obtain ⟨o,hl,h⟩:=bs h
     refine gl c101 j _ (fun (i_5_l10:Int)=>mk [(0,D 2 (W 2 e_S_Point p_0)),(3,iv (p_0.length:Int)),(5,iv i_5_l10)] []) (fun (o:(Unit ⊕ Bool)) (p:Ex×St)=>match o with | (.inl _)=>p.1= .exit 2∧p.2.norm ([0],[])=mk [(0,D 2 (W 2 e_S_Point p_0))] [] | (.inr r2)=>p.1= .ret∧fin Try.prog cfg 101 Try.f101 [.im 2 false [W 2 e_S_Point p_0]] p.2=some (B0 [(false,[.im 0 (V r2)])])) hl (by kernel_rfl) ?_ ?_ ?_
     ·intro o p hp e
      rcases o with u | r2<;>exact nomatch (hp.1.symm.trans e)
     ·rintro i_5_l10 o h
      unfold spec_l03Ok_l10 at h
      refine gs<|gs<|g0 j j (q (oMv j j)<|q (oMv j j)<|q (oBi j j j j)<|nl)<|us<|gc h j iDec (fun hc33 h=>?_) fun hc33 h=>?_
      ·refine Go.skip<|us<|gs<|Go.block<|gs<|?_
       obtain ⟨x36,hx36,h⟩:=bs h
       refine g0 j j (q (oMv j j)<|q (oMv j j)<|q (oIAI j hx36 sF23 j j)<|q (oLd (cs:=[.im 2 _,.im 2 _]) j tF155 j j)<|q (oAl j tF155 (tkI (tkI tk0)))<|q (oSt tF155 j j j (tkI (tkI tk0)) j j j)<|nl)<|us<|gs<|?_
       obtain ⟨x42,hx42,h⟩:=bs h
       obtain ⟨x43,hx43,h⟩:=bs h
       refine g1 j j (mk [(0,D 2 (W 2 e_S_Point p_0)),(3,iv (p_0.length:Int)),(5,iv i_5_l10),(6,M 6)] [(6,Oa (G 0 (u_S_Point x36)))]) (q (oMv j j)<|q (oMv j j)<|q (oBi j j j j)<|q (oMv j j)<|q (oRem j hx42 j j)<|q (oIAI j hx43 sF23 j j)<|q (oLd (cs:=[.im 2 _,.im 2 _]) j tF155 j j)<|q (oAl j tF155 (tkI (tkI tk0)))<|q (oSt tF155 j j j (tkI (tkI tk0)) j j j)<|nl)<|us<|gs<|?_
       obtain ⟨x49,hx49,h⟩:=bs h
       obtain ⟨x50,hx50,h⟩:=bs h
       refine g1 j j (mk [(0,D 2 (W 2 e_S_Point p_0)),(3,iv (p_0.length:Int)),(5,iv i_5_l10),(6,M 6),(7,M 7)] [(6,Oa (G 0 (u_S_Point x36))),(7,Oa (G 0 (u_S_Point x43)))]) (q (oMv j j)<|q (oMv j j)<|q (oBi j j j j)<|q (oMv j j)<|q (oRem j hx49 j j)<|q (oIAI j hx50 sF23 j j)<|q (oLd (cs:=[.im 2 _,.im 2 _]) j tF155 j j)<|q (oAl j tF155 (tkI (tkI tk0)))<|q (oSt tF155 j j j (tkI (tkI tk0)) j j j)<|nl)<|us<|gs<|gs<|?_
       obtain ⟨t_66_m15,hm49,h⟩:=bs h
       refine gX c101 j j (st1:=mk [(0,D 2 (W 2 e_S_Point p_0)),(3,iv (p_0.length:Int)),(5,iv i_5_l10),(6,M 6),(7,M 7),(8,M 8)] [(6,Oa (G 0 (u_S_Point x36))),(7,Oa (G 0 (u_S_Point x43))),(8,Oa (G 0 (u_S_Point x50)))]) (by kernel_rfl) (mk [(0,D 2 (W 2 e_S_Point p_0)),(3,iv (p_0.length:Int)),(5,iv i_5_l10),(6,M 6),(7,M 7),(66,bv t_66_m15)] [(6,Oa (G 0 (u_S_Point x36))),(7,Oa (G 0 (u_S_Point x43)))]) ?_ ?_
       ·refine xq (oLd (cs:=[.im 0 _,.im 0 _]) j tF155 j j)<|xq (oLd (cs:=[.im 0 _,.im 0 _]) j tF155 j j)<|xq (oBa j (qEF155 x36.X x36.Y x43.X x43.Y) j j j j)<|xq (oMv j j)<|?_
        refine ic hm49 (fun hc34 hm49=>?_) fun hc34 hm49=>?_
        ·cases hm49
         exact xsgF j j ((iAnd iEq iEq).2 hc34) j<|xsgF j j ((iAnd iEq iEq).2 hc34) j<|xsgF j j ((iAnd iEq iEq).2 hc34) j<|xsgF j j ((iAnd iEq iEq).2 hc34) j<|xq (oPkT j j ((iAnd iEq iEq).2 hc34) j)<|xq (oMv j j)<|xsgF j j j j<|xsgF j j j j<|xsgF j j j j<|xsgF j j j j<|xq (oPkT j j j j)<|xn
        ·obtain ⟨x59,hx59,hm49⟩:=bs hm49
         refine xqT j j (byF (iAnd iEq iEq) hc34) (oLd (cs:=[.im 0 _,.im 0 _]) j tF155 j j)<|xqT j j (byF (iAnd iEq iEq) hc34) (oLd (cs:=[.im 0 _,.im 0 _]) j tF155 j j)<|xqT j j (byF (iAnd iEq iEq) hc34) (oLd (cs:=[.im 0 _,.im 0 _]) j tF155 j j)<|xqT j j (byF (iAnd iEq iEq) hc34) (oCa (xs:=[.v true [.im 0 _,.im 0 _],.v true [.im 0 _,.im 0 _],.v true [.im 0 _,.im 0 _]]) (vs:=[(false,[.im 0 _])]) (v:=.v false [.im 0 _]) (L_spec_l02On hx59) (.inl j) j kF145_155_155_155 j (ppC j (ppC j (ppC j pp0))) j j pb0 j j j)<|xq (oPkF j j (byF (iAnd iEq iEq) hc34) j)<|xq (oMv j j)<|?_
         refine ic hm49 (fun hc35 hm49=>?_) fun hc35 hm49=>?_
         ·cases hm49
          exact xsgF j j (iR.2 hc35) j<|xsgF j j (iR.2 hc35) j<|xsgF j j (iR.2 hc35) j<|xsgF j j (iR.2 hc35) j<|xq (oPkT j j (iR.2 hc35) j)<|xn
         ·obtain ⟨x65,hx65,hm49⟩:=bs hm49
          cases hm49
          exact xqT j j (byF iR hc35) (oLd (cs:=[.im 0 _,.im 0 _]) j tF155 j j)<|xqT j j (byF iR hc35) (oLd (cs:=[.im 0 _,.im 0 _]) j tF155 j j)<|xqT j j (byF iR hc35) (oLd (cs:=[.im 0 _,.im 0 _]) j tF155 j j)<|xqT j j (byF iR hc35) (oCa (xs:=[.v true [.im 0 _,.im 0 _],.v true [.im 0 _,.im 0 _],.v true [.im 0 _,.im 0 _]]) (vs:=[(false,[.im 0 _])]) (v:=.v false [.im 0 _]) (L_spec_l02On hx65) (.inl j) j kF145_155_155_155 j (ppC j (ppC j (ppC j pp0))) j j pb0 j j j)<|xq (oPkF j j (byF iR hc35) j)<|xn
       ·refine us<|gc h j iR (fun hc36 h=>?_) fun hc36 h=>?_
        ·refine gs<|g0 j j (q (oAsI j j)<|nl)<|us<|Go.ret (Unw.ret ?_)
         cases h
         exact ⟨j,(fo rF101 j)⟩
        ·refine Go.skip<|us<|gs<|g0 j j (q (oMv j j)<|q (oBi j j j j)<|q (oAsI j j)<|nl)<|us<|Go.block<|?_
         obtain ⟨o,hl,h⟩:=bs h
         refine gl c101 j _ (fun (k_9_l18:Int)=>mk [(0,D 2 (W 2 e_S_Point p_0)),(3,iv (p_0.length:Int)),(5,iv i_5_l10),(6,M 6),(7,M 7),(9,iv k_9_l18)] [(6,Oa (G 0 (u_S_Point x36))),(7,Oa (G 0 (u_S_Point x43)))]) (fun (o:(Unit ⊕ Bool)) (p:Ex×St)=>match o with | (.inl _)=>p.1= .exit 4∧p.2.norm ([0,3,5],[])=mk [(0,D 2 (W 2 e_S_Point p_0)),(3,iv (p_0.length:Int)),(5,iv i_5_l10)] [] | (.inr r2)=>p.1= .ret∧fin Try.prog cfg 101 Try.f101 [.im 2 false [W 2 e_S_Point p_0]] p.2=some (B0 [(false,[.im 0 (V r2)])])) hl (by kernel_rfl) ?_ ?_ ?_
         ·intro o p hp e
          rcases o with u | r2<;>exact nomatch (hp.1.symm.trans e)
         ·rintro k_9_l18 o h
          unfold spec_l03Ok_l18 at h
          refine gs<|gs<|g0 j j (q (oMv j j)<|q (oMv j j)<|q (oBi j j j j)<|nl)<|us<|gc h j iDec (fun hc45 h=>?_) fun hc45 h=>?_
          ·refine Go.skip<|us<|gs<|Go.block<|gs<|?_
           obtain ⟨x77,hx77,h⟩:=bs h
           obtain ⟨t_95_m20,hm48,h⟩:=bs h
           refine gd c101 j j j j (mk [(0,D 2 (W 2 e_S_Point p_0)),(3,iv (p_0.length:Int)),(5,iv i_5_l10),(6,M 6),(7,M 7),(9,iv k_9_l18),(95,bv t_95_m20)] [(6,Oa (G 0 (u_S_Point x36))),(7,Oa (G 0 (u_S_Point x43)))]) ?_ ?_
           ·refine t j j (oMv j j)<|t j j (oBi j j j j)<|t j j (oMv j j)<|t j j (oRem j hx77 j j)<|t j j (oMv j j)<|t j j (oBi j j j j)<|t j j (oMv j j)<|?_
            refine ic hm48 (fun hc46 hm48=>?_) fun hc46 hm48=>?_
            ·obtain ⟨x85,hx85,hm48⟩:=bs hm48
             obtain ⟨x91,hx91,hm48⟩:=bs hm48
             obtain ⟨x92,hx92,hm48⟩:=bs hm48
             obtain ⟨x94,hx94,hm48⟩:=bs hm48
             cases hm48
             exact tT j j j j (iNe.2 hc46) (oLd (cs:=[.im 0 _,.im 0 _]) j tF155 j j)<|tT j j j j (iNe.2 hc46) (oLd (cs:=[.im 0 _,.im 0 _]) j tF155 j j)<|tT j j j j (iNe.2 hc46) (oMv j j)<|tT j j j j (iNe.2 hc46) (oMv j j)<|tT j j j j (iNe.2 hc46) (oIAI j hx85 sF23 j j)<|tT j j j j (iNe.2 hc46) (oLd (cs:=[.im 2 _,.im 2 _]) j tF155 j j)<|tT j j j j (iNe.2 hc46) (oMv j j)<|tT j j j j (iNe.2 hc46) (oMv j j)<|tT j j j j (iNe.2 hc46) (oBi j j j j)<|tT j j j j (iNe.2 hc46) (oMv j j)<|tT j j j j (iNe.2 hc46) (oRem j hx91 j j)<|tT j j j j (iNe.2 hc46) (oIAI j hx92 sF23 j j)<|tT j j j j (iNe.2 hc46) (oLd (cs:=[.im 2 _,.im 2 _]) j tF155 j j)<|sS (dT z101 j j j (iNe.2 hc46) (oCa (xs:=[.v true [.im 0 _,.im 0 _],.v true [.im 0 _,.im 0 _],.v true [.im 2 _,.im 2 _],.v true [.im 2 _,.im 2 _]]) (vs:=[(false,[.im 0 _])]) (v:=.v false [.im 0 _]) (L_spec_l03Meet hx94) (.inl j) j kF146_155_155_155_155 j (ppC j (ppC j (ppC j (ppC j pp0)))) j j pb0 j j j)) trivial (t j j (oPkT j j (iNe.2 hc46) j)<|sD (by kernel_rfl))
            ·cases hm48
             exact tF j j j j (byF iNe hc46) j<|tF j j j j (byF iNe hc46) j<|tF j j j j (byF iNe hc46) j<|tF j j j j (byF iNe hc46) j<|tF j j j j (byF iNe hc46) j<|tF j j j j (byF iNe hc46) j<|tF j j j j (byF iNe hc46) j<|tF j j j j (byF iNe hc46) j<|tF j j j j (byF iNe hc46) j<|tF j j j j (byF iNe hc46) j<|tF j j j j (byF iNe hc46) j<|tF j j j j (byF iNe hc46) j<|tF j j j j (byF iNe hc46) j<|sS (dF j j j (byF iNe hc46) j) trivial (t j j (oPkF j j (byF iNe hc46) j)<|sD (by kernel_rfl))
           ·refine us<|gc h j iR (fun hc47 h=>?_) fun hc47 h=>?_
            ·refine gs<|g0 j j (q (oAsI j j)<|nl)<|us<|Go.ret (Unw.ret ?_)
             cases h
             exact ⟨j,(fo rF101 j)⟩
            ·refine Go.skip<|Unw.blk<|us<|g0 j j (q (oMv j j)<|q (oBi j j j j)<|q (oAsI j j)<|nl)<|Unw.nil<|?_
             cases h
             exact ⟨j,(by kernel_rfl)⟩
          ·refine Go.exit<|ux<|Unw.nil<|?_
           cases h
           exact ⟨j,(by kernel_rfl)⟩
         ·rintro ⟨e,st⟩ hp
          rcases o with u | r2
          ·dsimp only at h
           obtain ⟨he,hst⟩:=hp
           obtain rfl:e= .exit 4:=he
           refine Unw.blkx<|Unw.blk<|us<|g2 c101 j j hst (q (oMv j j)<|q (oBi j j j j)<|q (oAsI j j)<|nl)<|Unw.nil<|?_
           cases h
           exact ⟨j,(by kernel_rfl)⟩
          ·dsimp only at h
           obtain ⟨he,hfin⟩:=hp
           obtain rfl:e= .ret:=he
           cases h
           exact Unw.ret ⟨j,hfin⟩
      ·refine Go.exit<|ux<|Unw.nil<|?_
       cases h
       exact ⟨j,(by kernel_rfl)⟩
     ·rintro ⟨e,st⟩ hp
      rcases o with u | r2
      ·dsimp only at h
       obtain ⟨he,hst⟩:=hp
       obtain rfl:e= .exit 2:=he
       refine Unw.blkx<|us<|gs<|?_
       obtain ⟨x97,hx97,h⟩:=bs h
       refine g2 c101 j j hst (q (oMv j j)<|q (oCa (xs:=[.v false [.im 2 _]]) (vs:=[(false,[.im 0 _])]) (v:=.v false [.im 0 _]) (L_spec_l03Area hx97) (.inl j) j kF147_23 j (ppC j pp0) j j pb0 j j j)<|q (oBi j j j j)<|q (oAsI j j)<|nl)<|us<|Go.ret (Unw.ret ?_)
       cases h
       exact fr rF101 j
      ·dsimp only at h
       obtain ⟨he,hfin⟩:=hp
       obtain rfl:e= .ret:=he
       cases h
       exact Unw.ret (Fin_ret hfin)
    ·dsimp only at h
     obtain ⟨he,hfin⟩:=hp
     obtain rfl:e= .ret:=he
     cases h
     exact Unw.ret (Fin_ret hfin)
theorem L_spec_l05Ok {d_0:S_Drawing} {r:Bool} (h:spec_l05Ok d_0=some r):FX 51 [.im 2 false [.cp (u_S_Drawing d_0) 0]] (B0 [(false,[.im 0 (V r)])]):=by
 unfold spec_l05Ok at h
 refine gn 96 Try.func51 rfl ?_
 refine gs<|g0 j j (q (oAsI j j)<|nl)<|us<|gs<|gs<|?_
 obtain ⟨x10,hx10,h⟩:=bs h
 obtain ⟨t_32_m1,hm29,h⟩:=bs h
 refine gX c51 j j j (mk [(0,D 2 (.cp (u_S_Drawing d_0) 0)),(32,bv t_32_m1)] []) ?_ ?_
 ·refine xq (oMv j j)<|xq (oNl j j j)<|xq (oFA (r':=.im 2 _) j fF26_0 j j)<|xq (oLd (cs:=[.im 2 _]) j tF2 j j)<|xq (oCa (xs:=[.v false [.im 2 _],.v false [.im 0 _],.v false [.im 0 _]]) (vs:=[(false,[.im 0 _])]) (v:=.v false [.im 0 _]) (L_spec_l00In hx10) (.inl j) j kF97_2_2_2 j (ppC j (ppC j (ppC j pp0))) j j pb0 j j j)<|xq (oUn j j j)<|xq (oMv j j)<|?_
  refine ic hm29 (fun hc1 hm29=>?_) fun hc1 hm29=>?_
  ·obtain ⟨x17,hx17,hm29⟩:=bs hm29
   refine xqT j j (nF (iR.2 hc1)) (oMv j j)<|xqT j j (nF (iR.2 hc1)) (oNl j j j)<|xqT j j (nF (iR.2 hc1)) (oFA (r':=.im 2 _) j fF26_1 j j)<|xqT j j (nF (iR.2 hc1)) (oLd (cs:=[.im 2 _]) j tF2 j j)<|xqT j j (nF (iR.2 hc1)) (oCa (xs:=[.v false [.im 2 _],.v false [.im 0 _],.v false [.im 0 _]]) (vs:=[(false,[.im 0 _])]) (v:=.v false [.im 0 _]) (L_spec_l00In hx17) (.inl j) j kF97_2_2_2 j (ppC j (ppC j (ppC j pp0))) j j pb0 j j j)<|xqT j j (nF (iR.2 hc1)) (oUn j j j)<|xq (oPkF j j (nF (iR.2 hc1)) j)<|xq (oMv j j)<|?_
   refine ic hm29 (fun hc2 hm29=>?_) fun hc2 hm29=>?_
   ·obtain ⟨x22,hx22,hm29⟩:=bs hm29
    refine xqT j j (nF (iR.2 hc2)) (oMv j j)<|xqT j j (nF (iR.2 hc2)) (oCa (xs:=[.v false [.im 2 _]]) (vs:=[(false,[.im 0 _])]) (v:=.v false [.im 0 _]) (L_spec_l05Points hx22) (.inl j) j kF98_81 j (ppC j pp0) j j pb0 j j j)<|xqT j j (nF (iR.2 hc2)) (oUn j j j)<|xq (oPkF j j (nF (iR.2 hc2)) j)<|xq (oMv j j)<|?_
    refine ic hm29 (fun hc3 hm29=>?_) fun hc3 hm29=>?_
    ·cases hm29
     exact xqT j j (nF (iR.2 hc3)) (oMv j j)<|xqT j j (nF (iR.2 hc3)) (oNl j j j)<|xqT j j (nF (iR.2 hc3)) (oFA (r':=.im 2 _) j fF26_3 j j)<|xqT j j (nF (iR.2 hc3)) (oLd (cs:=[.im 2 _]) j tF24 j j)<|xqT j j (nF (iR.2 hc3)) (oLnI j j uF24 j)<|xqT j j (nF (iR.2 hc3)) (oBi j j j j)<|xq (oPkF j j (nF (iR.2 hc3)) j)<|xn
    ·cases hm29
     exact xsgF j j (nT (byF iR hc3)) j<|xsgF j j (nT (byF iR hc3)) j<|xsgF j j (nT (byF iR hc3)) j<|xsgF j j (nT (byF iR hc3)) j<|xsgF j j (nT (byF iR hc3)) j<|xsgF j j (nT (byF iR hc3)) j<|xq (oPkT j j (nT (byF iR hc3)) j)<|xn
   ·cases hm29
    exact xsgF j j (nT (byF iR hc2)) j<|xsgF j j (nT (byF iR hc2)) j<|xsgF j j (nT (byF iR hc2)) j<|xq (oPkT j j (nT (byF iR hc2)) j)<|xq (oMv j j)<|xsgF j j j j<|xsgF j j j j<|xsgF j j j j<|xsgF j j j j<|xsgF j j j j<|xsgF j j j j<|xq (oPkT j j j j)<|xn
  ·cases hm29
   exact xsgF j j (nT (byF iR hc1)) j<|xsgF j j (nT (byF iR hc1)) j<|xsgF j j (nT (byF iR hc1)) j<|xsgF j j (nT (byF iR hc1)) j<|xsgF j j (nT (byF iR hc1)) j<|xsgF j j (nT (byF iR hc1)) j<|xq (oPkT j j (nT (byF iR hc1)) j)<|xq (oMv j j)<|xsgF j j j j<|xsgF j j j j<|xsgF j j j j<|xq (oPkT j j j j)<|xq (oMv j j)<|xsgF j j j j<|xsgF j j j j<|xsgF j j j j<|xsgF j j j j<|xsgF j j j j<|xsgF j j j j<|xq (oPkT j j j j)<|xn
 ·refine us<|gc h j iR (fun hc4 h=>?_) fun hc4 h=>?_
  ·refine gs<|g0 j j (q (oAsI j j)<|nl)<|us<|Go.ret (Unw.ret ?_)
   cases h
   exact fr rF51 j
  ·refine Go.skip<|us<|gs<|gs<|g0 j j (q (oAsI j j)<|nl)<|us<|Go.block<|?_
   obtain ⟨o,hl,h⟩:=bs h
   refine gl c51 j _ (fun (i_3_l4:Int)=>mk [(0,D 2 (.cp (u_S_Drawing d_0) 0)),(3,iv i_3_l4)] []) (fun (o:(Unit ⊕ Bool)) (p:Ex×St)=>match o with | (.inl _)=>p.1= .exit 0∧p.2.norm ([],[])=mk [] [] | (.inr r2)=>p.1= .ret∧fin Try.prog cfg 51 Try.f51 [.im 2 false [.cp (u_S_Drawing d_0) 0]] p.2=some (B0 [(false,[.im 0 (V r2)])])) hl (by kernel_rfl) ?_ ?_ ?_
   ·intro o p hp e
    rcases o with u | r2<;>exact nomatch (hp.1.symm.trans e)
   ·rintro i_3_l4 o h
    unfold spec_l05Ok_l4 at h
    refine gs<|gs<|g0 j j (q (oMv j j)<|q (oMv j j)<|q (oNl j j j)<|q (oFA (r':=.im 2 _) j fF26_3 j j)<|q (oLd (cs:=[.im 2 _]) j tF24 j j)<|q (oLnI j j uF24 j)<|q (oBi j j j j)<|nl)<|us<|gc h j iDec (fun hc21 h=>?_) fun hc21 h=>?_
    ·refine Go.skip<|us<|gs<|Go.block<|gs<|gs<|?_
     obtain ⟨x47,hx47,h⟩:=bs h
     obtain ⟨x50,hx50,h⟩:=bs h
     obtain ⟨t_75_m6,hm28,h⟩:=bs h
     refine gd c51 j j j j (mk [(0,D 2 (.cp (u_S_Drawing d_0) 0)),(3,iv i_3_l4),(75,bv t_75_m6)] []) ?_ ?_
     ·refine t j j (oMv j j)<|t j j (oNl j j j)<|t j j (oFA (r':=.im 2 _) j fF26_3 j j)<|t j j (oLd (cs:=[.im 2 _]) j tF24 j j)<|t j j (oMv j j)<|t j j (oIAI j hx47 sF24 j j)<|t j j (oFA (r':=.im 2 _) j fF148_0 j j)<|?_
      refine ic hm28 (fun hc22 hm28=>?_) fun hc22 hm28=>?_
      ·refine ic hm28 (fun hc23 hm28=>?_) fun hc23 hm28=>?_
       ·obtain ⟨x62,hx62,hm28⟩:=bs hm28
        obtain ⟨x70,hx70,hm28⟩:=bs hm28
        cases hm28
        exact t j j (oLd (cs:=[.im 2 _]) j tF9 j j)<|sS (dN z51 j (oCa (xs:=[.v false [.im 2 _]]) (vs:=[(false,[.im 0 _])]) (v:=.v false [.im 0 _]) (L_spec_l01Name hx50) (.inl j) j kF99_9 j (ppC j pp0) j j pb0 j j j)) trivial (t j j (oUn j j j)<|t j j (oMv j j)<|tT j j j j (nF (iR.2 hc22)) (oMv j j)<|tT j j j j (nF (iR.2 hc22)) (oBi j j j j)<|tT j j j j (nF (iR.2 hc22)) (oMv j j)<|tT j j j j (iDec.2 hc23) (oMv j j)<|tT j j j j (iDec.2 hc23) (oNl j j j)<|tT j j j j (iDec.2 hc23) (oFA (r':=.im 2 _) j fF26_3 j j)<|tT j j j j (iDec.2 hc23) (oLd (cs:=[.im 2 _]) j tF24 j j)<|tT j j j j (iDec.2 hc23) (oMv j j)<|tT j j j j (iDec.2 hc23) (oBi j j j j)<|tT j j j j (iDec.2 hc23) (oIAI j hx62 sF24 j j)<|tT j j j j (iDec.2 hc23) (oFA (r':=.im 2 _) j fF148_0 j j)<|tT j j j j (iDec.2 hc23) (oLd (cs:=[.im 2 _]) j tF9 j j)<|tT j j j j (iDec.2 hc23) (oMv j j)<|tT j j j j (iDec.2 hc23) (oNl j j j)<|tT j j j j (iDec.2 hc23) (oFA (r':=.im 2 _) j fF26_3 j j)<|tT j j j j (iDec.2 hc23) (oLd (cs:=[.im 2 _]) j tF24 j j)<|tT j j j j (iDec.2 hc23) (oMv j j)<|tT j j j j (iDec.2 hc23) (oIAI j hx70 sF24 j j)<|tT j j j j (iDec.2 hc23) (oFA (r':=.im 2 _) j fF148_0 j j)<|tT j j j j (iDec.2 hc23) (oLd (cs:=[.im 2 _]) j tF9 j j)<|tT j j j j (iDec.2 hc23) (oBi j j j j)<|tT j j j j (nF (iR.2 hc22)) (oPkT j j (iDec.2 hc23) j)<|t j j (oPkF j j (nF (iR.2 hc22)) j)<|sD (by kernel_rfl))
       ·cases hm28
        exact t j j (oLd (cs:=[.im 2 _]) j tF9 j j)<|sS (dN z51 j (oCa (xs:=[.v false [.im 2 _]]) (vs:=[(false,[.im 0 _])]) (v:=.v false [.im 0 _]) (L_spec_l01Name hx50) (.inl j) j kF99_9 j (ppC j pp0) j j pb0 j j j)) trivial (t j j (oUn j j j)<|t j j (oMv j j)<|tT j j j j (nF (iR.2 hc22)) (oMv j j)<|tT j j j j (nF (iR.2 hc22)) (oBi j j j j)<|tT j j j j (nF (iR.2 hc22)) (oMv j j)<|tF j j j j (byF iDec hc23) j<|tF j j j j (byF iDec hc23) j<|tF j j j j (byF iDec hc23) j<|tF j j j j (byF iDec hc23) j<|tF j j j j (byF iDec hc23) j<|tF j j j j (byF iDec hc23) j<|tF j j j j (byF iDec hc23) j<|tF j j j j (byF iDec hc23) j<|tF j j j j (byF iDec hc23) j<|tF j j j j (byF iDec hc23) j<|tF j j j j (byF iDec hc23) j<|tF j j j j (byF iDec hc23) j<|tF j j j j (byF iDec hc23) j<|tF j j j j (byF iDec hc23) j<|tF j j j j (byF iDec hc23) j<|tF j j j j (byF iDec hc23) j<|tF j j j j (byF iDec hc23) j<|tF j j j j (byF iDec hc23) j<|tT j j j j (nF (iR.2 hc22)) (oPkF j j (byF iDec hc23) j)<|t j j (oPkF j j (nF (iR.2 hc22)) j)<|sD (by kernel_rfl))
      ·cases hm28
       exact t j j (oLd (cs:=[.im 2 _]) j tF9 j j)<|sS (dN z51 j (oCa (xs:=[.v false [.im 2 _]]) (vs:=[(false,[.im 0 _])]) (v:=.v false [.im 0 _]) (L_spec_l01Name hx50) (.inl j) j kF99_9 j (ppC j pp0) j j pb0 j j j)) trivial (t j j (oUn j j j)<|t j j (oMv j j)<|tF j j j j (nT (byF iR hc22)) j<|tF j j j j (nT (byF iR hc22)) j<|tF j j j j (nT (byF iR hc22)) j<|sT j (dU j j j j)<|sT j (dU j j j j)<|sT j (dU j j j j)<|sT j (dU j j j j)<|sT j (dU j j j j)<|sT j (dU j j j j)<|sT j (dU j j j j)<|sT j (dU j j j j)<|sT j (dU j j j j)<|sT j (dU j j j j)<|sT j (dU j j j j)<|sT j (dU j j j j)<|sT j (dU j j j j)<|sT j (dU j j j j)<|sT j (dU j j j j)<|sT j (dU j j j j)<|sT j (dU j j j j)<|sT j (dU j j j j)<|tF j j j j (nT (byF iR hc22)) j<|t j j (oPkT j j (nT (byF iR hc22)) j)<|sD (by kernel_rfl))
     ·refine us<|gc h j iR (fun hc24 h=>?_) fun hc24 h=>?_
      ·refine gs<|g0 j j (q (oAsI j j)<|nl)<|us<|Go.ret (Unw.ret ?_)
       cases h
       exact ⟨j,(fo rF51 j)⟩
      ·refine Go.skip<|us<|gs<|?_
       obtain ⟨x83,hx83,h⟩:=bs h
       obtain ⟨x86,hx86,h⟩:=bs h
       refine g0 j j (q (oMv j j)<|q (oMv j j)<|q (oNl j j j)<|q (oFA (r':=.im 2 _) j fF26_3 j j)<|q (oLd (cs:=[.im 2 _]) j tF24 j j)<|q (oMv j j)<|q (oIAI j hx83 sF24 j j)<|q (oFA (r':=.im 2 _) j fF148_1 j j)<|q (oLd (cs:=[.im 2 _]) j tF28 j j)<|q (oCr (xs:=[.v false [.im 2 _],.v false [.im 2 _]]) (vs:=[(false,[.own 86 0 0]),(false,[.im 0 _])]) (v:=.tup [(false,[.own 86 0 0]),(false,[.im 0 _])]) (c:=⟨.sh,0,_⟩) (cs:=[]) (L_spec_l05Ring hx86) (.inl j) j kF100_81_28 j (ppC j (ppC j pp0)) j j pb0 j j j)<|q (oMvT j j)<|q (oEx j j j)<|q (oEx j j j)<|q (oAsO j j j j j)<|q (oAsI j j)<|nl)<|us<|gs<|?_
       obtain ⟨t_95_m9,hm27,h⟩:=bs h
       refine gX c51 j j j (mk [(0,D 2 (.cp (u_S_Drawing d_0) 0)),(3,iv i_3_l4),(95,bv t_95_m9)] []) ?_ ?_
       ·refine xq (oMv j j)<|xq (oUn j j j)<|xq (oMv j j)<|?_
        refine ic hm27 (fun hc25 hm27=>?_) fun hc25 hm27=>?_
        ·obtain ⟨x93,hx93,hm27⟩:=bs hm27
         cases hm27
         exact xqT j j (nF (iR.2 hc25)) (oMv j j)<|xqT j j (nF (iR.2 hc25)) (oCa (xs:=[.v false [.own 4 0 0]]) (vs:=[(false,[.im 0 _])]) (v:=.v false [.im 0 _]) (L_spec_l03Ok hx93) (.inl j) j kF101_23 j (ppC j pp0) j j pb0 j j j)<|xqT j j (nF (iR.2 hc25)) (oUn j j j)<|xq (oPkF j j (nF (iR.2 hc25)) j)<|xn
        ·cases hm27
         exact xsgF j j (nT (byF iR hc25)) j<|xsgF j j (nT (byF iR hc25)) j<|xsgF j j (nT (byF iR hc25)) j<|xq (oPkT j j (nT (byF iR hc25)) j)<|xn
       ·refine us<|gc h j iR (fun hc26 h=>?_) fun hc26 h=>?_
        ·refine gs<|g0 j j (q (oAsI j j)<|nl)<|us<|Go.ret (Unw.ret ?_)
         cases h
         exact ⟨j,(fo rF51 j)⟩
        ·refine Go.skip<|Unw.blk<|us<|g0 j j (q (oMv j j)<|q (oBi j j j j)<|q (oAsI j j)<|nl)<|Unw.nil<|?_
         cases h
         exact ⟨j,(by kernel_rfl)⟩
    ·refine Go.exit<|ux<|Unw.nil<|?_
     cases h
     exact ⟨j,(by kernel_rfl)⟩
   ·rintro ⟨e,st⟩ hp
    rcases o with u | r2
    ·dsimp only at h
     obtain ⟨he,hst⟩:=hp
     obtain rfl:e= .exit 0:=he
     refine Unw.blkx<|us<|gs<|g2 c51 j j hst (q (oAsI j j)<|nl)<|us<|Go.ret (Unw.ret ?_)
     cases h
     exact fr rF51 j
    ·dsimp only at h
     obtain ⟨he,hfin⟩:=hp
     obtain rfl:e= .ret:=he
     cases h
     exact Unw.ret (Fin_ret hfin)
theorem L_spec_l05HasEdge {ring_0:(List Int)} {i_1:Int} {k_2:Int} {r:Bool} (h:spec_l05HasEdge ring_0 i_1 k_2=some r):FX 182 [.im 2 false [W 1 eI ring_0],.im 2 false [I i_1],.im 2 false [I k_2]] (B0 [(false,[.im 0 (V r)])]):=by
 unfold spec_l05HasEdge at h
 refine gn 46 Try.func182 rfl ?_
 refine gs<|g0 j j (q (oAsI j j)<|nl)<|us<|gs<|gs<|g0 j j (q (oAsI j j)<|nl)<|us<|Go.block<|?_
 obtain ⟨o,hl,h⟩:=bs h
 refine gl c182 j _ (fun (j_7_l2:Int)=>mk [(0,D 2 (W 1 eI ring_0)),(1,iv i_1),(2,iv k_2),(7,iv j_7_l2)] []) (fun (o:(Unit ⊕ Bool)) (p:Ex×St)=>match o with | (.inl _)=>p.1= .exit 0∧p.2.norm ([],[])=mk [] [] | (.inr r2)=>p.1= .ret∧fin Try.prog cfg 182 Try.f182 [.im 2 false [W 1 eI ring_0],.im 2 false [I i_1],.im 2 false [I k_2]] p.2=some (B0 [(false,[.im 0 (V r2)])])) hl (by kernel_rfl) ?_ ?_ ?_
 ·intro o p hp e
  rcases o with u | r2<;>exact nomatch (hp.1.symm.trans e)
 ·rintro j_7_l2 o h
  unfold spec_l05HasEdge_l2 at h
  refine gs<|gs<|g0 j j (q (oMv j j)<|q (oMv j j)<|q (oLnI j j uF28 j)<|q (oBi j j j j)<|nl)<|us<|gc h j iDec (fun hc15 h=>?_) fun hc15 h=>?_
  ·refine Go.skip<|us<|gs<|Go.block<|gs<|?_
   obtain ⟨x18,hx18,h⟩:=bs h
   refine g0 j j (q (oMv j j)<|q (oMv j j)<|q (oIAI j hx18 sF28 j j)<|q (oLd (cs:=[.im 2 _]) j tF2 j j)<|q (oAsI j j)<|nl)<|us<|gs<|?_
   obtain ⟨x25,hx25,h⟩:=bs h
   obtain ⟨x26,hx26,h⟩:=bs h
   refine g0 j j (q (oMv j j)<|q (oMv j j)<|q (oBi j j j j)<|q (oMv j j)<|q (oLnI j j uF28 j)<|q (oRem j hx25 j j)<|q (oIAI j hx26 sF28 j j)<|q (oLd (cs:=[.im 2 _]) j tF2 j j)<|q (oAsI j j)<|nl)<|us<|gs<|?_
   obtain ⟨t_45_m6,hm21,h⟩:=bs h
   refine gX c182 j j j (mk [(0,D 2 (W 1 eI ring_0)),(1,iv i_1),(2,iv k_2),(7,iv j_7_l2),(45,bv t_45_m6)] []) ?_ ?_
   ·refine xq (oMv j j)<|xq (oMv j j)<|xq (oBi j j j j)<|xq (oMv j j)<|?_
    refine ic hm21 (fun hc16 hm21=>?_) fun hc16 hm21=>?_
    ·refine xqT j j (iEq.2 hc16) (oMv j j)<|xqT j j (iEq.2 hc16) (oMv j j)<|xqT j j (iEq.2 hc16) (oBi j j j j)<|xq (oPkT j j (iEq.2 hc16) j)<|xq (oMv j j)<|?_
     refine ic hm21 (fun hc17 hm21=>?_) fun hc17 hm21=>?_
     ·cases hm21
      exact xsgF j j (iEq.2 hc17) j<|xsgF j j (iEq.2 hc17) j<|xsgF j j (iEq.2 hc17) j<|xsgF j j (iEq.2 hc17) j<|xsgU j j j<|xsgU j j j<|xsgU j j j<|xsgF j j (iEq.2 hc17) j<|xq (oPkT j j (iEq.2 hc17) j)<|xn
     ·refine xqT j j (byF iEq hc17) (oMv j j)<|xqT j j (byF iEq hc17) (oMv j j)<|xqT j j (byF iEq hc17) (oBi j j j j)<|xqT j j (byF iEq hc17) (oMv j j)<|?_
      refine ic hm21 (fun hc18 hm21=>?_) fun hc18 hm21=>?_
      ·cases hm21
       exact xqT j j (iEq.2 hc18) (oMv j j)<|xqT j j (iEq.2 hc18) (oMv j j)<|xqT j j (iEq.2 hc18) (oBi j j j j)<|xqT j j (byF iEq hc17) (oPkT j j (iEq.2 hc18) j)<|xq (oPkF j j (byF iEq hc17) j)<|xn
      ·cases hm21
       exact xsgF j j (byF iEq hc18) j<|xsgF j j (byF iEq hc18) j<|xsgF j j (byF iEq hc18) j<|xqT j j (byF iEq hc17) (oPkF j j (byF iEq hc18) j)<|xq (oPkF j j (byF iEq hc17) j)<|xn
    ·refine xsgF j j (byF iEq hc16) j<|xsgF j j (byF iEq hc16) j<|xsgF j j (byF iEq hc16) j<|xq (oPkF j j (byF iEq hc16) j)<|xq (oMv j j)<|xqT j j j (oMv j j)<|xqT j j j (oMv j j)<|xqT j j j (oBi j j j j)<|xqT j j j (oMv j j)<|?_
     refine ic hm21 (fun hc19 hm21=>?_) fun hc19 hm21=>?_
     ·cases hm21
      exact xqT j j (iEq.2 hc19) (oMv j j)<|xqT j j (iEq.2 hc19) (oMv j j)<|xqT j j (iEq.2 hc19) (oBi j j j j)<|xqT j j j (oPkT j j (iEq.2 hc19) j)<|xq (oPkF j j j j)<|xn
     ·cases hm21
      exact xsgF j j (byF iEq hc19) j<|xsgF j j (byF iEq hc19) j<|xsgF j j (byF iEq hc19) j<|xqT j j j (oPkF j j (byF iEq hc19) j)<|xq (oPkF j j j j)<|xn
   ·refine us<|gc h j iR (fun hc20 h=>?_) fun hc20 h=>?_
    ·refine gs<|g0 j j (q (oAsI j j)<|nl)<|us<|Go.ret (Unw.ret ?_)
     cases h
     exact ⟨j,(fo rF182 j)⟩
    ·refine Go.skip<|Unw.blk<|us<|g0 j j (q (oMv j j)<|q (oBi j j j j)<|q (oAsI j j)<|nl)<|Unw.nil<|?_
     cases h
     exact ⟨j,(by kernel_rfl)⟩
  ·refine Go.exit<|ux<|Unw.nil<|?_
   cases h
   exact ⟨j,(by kernel_rfl)⟩
 ·rintro ⟨e,st⟩ hp
  rcases o with u | r2
  ·dsimp only at h
   obtain ⟨he,hst⟩:=hp
   obtain rfl:e= .exit 0:=he
   refine Unw.blkx<|us<|gs<|g2 c182 j j hst (q (oAsI j j)<|nl)<|us<|Go.ret (Unw.ret ?_)
   cases h
   exact fr rF182 j
  ·dsimp only at h
   obtain ⟨he,hfin⟩:=hp
   obtain rfl:e= .ret:=he
   cases h
   exact Unw.ret (Fin_ret hfin)
theorem L_spec_l05Near {d_0:S_Drawing} {k_1:Int} {r:(List Int)} (h:spec_l05Near d_0 k_1=some r):FX 163 [.im 2 false [.cp (u_S_Drawing d_0) 0],.im 2 false [I k_1]] (B0 [(false,[.ow 0 1 (List.map eI r)])]):=by
 unfold spec_l05Near at h
 refine gn 69 Try.func163 rfl ?_
 refine gs<|g0 j j (q (oAsN j j eF28)<|nl)<|us<|gs<|g0 j j (q (oBS (es:=List.map eI ([]:List Int)) j sF28 j pt0 (flat0 j fun _=>j))<|q (oAsO j j j j j)<|nl)<|us<|gs<|?_
 obtain ⟨x16,hx16,h⟩:=bs h
 refine g0 j j (q (oMv j j)<|q (oNl j j j)<|q (oFA (r':=.im 2 _) j fF26_3 j j)<|q (oLd (cs:=[.im 2 _]) j tF24 j j)<|q (oMv j j)<|q (oIAI j hx16 sF24 j j)<|q (oFA (r':=.im 2 _) j fF148_1 j j)<|q (oLd (cs:=[.im 2 _]) j tF28 j j)<|q (oAsI j j)<|nl)<|us<|gs<|gs<|g0 j j (q (oAsI j j)<|nl)<|us<|Go.block<|?_
 obtain ⟨o,hl,h⟩:=bs h
 refine gl c163 j _ (fun (s:(Int×(List Int)))=>match s with | (f_7_l4,out_o5_l4)=>mk [(0,D 2 (.cp (u_S_Drawing d_0) 0)),(1,iv k_1),(5,H 5 0),(6,D 2 (W 1 eI x16.Ring)),(7,iv f_7_l4)] [(5,Oc [Z (W 1 eI out_o5_l4)])]) (fun (out_o5_e0_4:(List Int)) (p:Ex×St)=>p.1= .exit 0∧p.2.norm ([5],[5])=mk [(5,H 5 0)] [(5,Oc [Z (W 1 eI out_o5_e0_4)])]) hl (by kernel_rfl) ?_ ?_ ?_
 ·intro o p hp e
  exact nomatch (hp.1.symm.trans e)
 ·rintro ⟨f_7_l4,out_o5_l4⟩ o h
  unfold spec_l05Near_l4 at h
  dsimp only at h
  refine gs<|gs<|g0 j j (q (oMv j j)<|q (oMv j j)<|q (oNl j j j)<|q (oFA (r':=.im 2 _) j fF26_3 j j)<|q (oLd (cs:=[.im 2 _]) j tF24 j j)<|q (oLnI j j uF24 j)<|q (oBi j j j j)<|nl)<|us<|gc h j iDec (fun hc15 h=>?_) fun hc15 h=>?_
  ·refine Go.skip<|us<|gs<|Go.join (fun st=>∃out_o5_r5,spec_l05Near_k5 f_7_l4 out_o5_r5=some o∧st.norm ([0,1,5,6,7],[5])=mk [(0,D 2 (.cp (u_S_Drawing d_0) 0)),(1,iv k_1),(5,H 5 0),(6,D 2 (W 1 eI x16.Ring)),(7,iv f_7_l4)] [(5,Oc [Z (W 1 eI out_o5_r5)])]) ?_ ?_
   ·rintro st ⟨out_o5_r5,h,hst⟩
    unfold spec_l05Near_k5 at h
    refine us<|g2 c163 j j hst (q (oMv j j)<|q (oBi j j j j)<|q (oAsI j j)<|nl)<|Unw.nil<|?_
    cases h
    exact ⟨j,(by kernel_rfl)⟩
   ·intro K22
    refine Go.block<|gs<|g0 j j (q (oAsI j j)<|nl)<|us<|gs<|gs<|g0 j j (q (oAsI j j)<|nl)<|us<|Go.block<|?_
    obtain ⟨o,hl,h⟩:=bs h
    refine gl c163 j _ (fun (s:(Bool×Int))=>match s with | (found_8_l8,j_9_l8)=>mk [(0,D 2 (.cp (u_S_Drawing d_0) 0)),(1,iv k_1),(5,H 5 0),(6,D 2 (W 1 eI x16.Ring)),(7,iv f_7_l4),(8,bv found_8_l8),(9,iv j_9_l8)] [(5,Oc [Z (W 1 eI out_o5_l4)])]) (fun (found_8_e2_8:Bool) (p:Ex×St)=>p.1= .exit 2∧p.2.norm ([0,1,5,6,7,8],[5])=mk [(0,D 2 (.cp (u_S_Drawing d_0) 0)),(1,iv k_1),(5,H 5 0),(6,D 2 (W 1 eI x16.Ring)),(7,iv f_7_l4),(8,bv found_8_e2_8)] [(5,Oc [Z (W 1 eI out_o5_l4)])]) hl (by kernel_rfl) ?_ ?_ ?_
    ·intro o p hp e
     exact nomatch (hp.1.symm.trans e)
    ·rintro ⟨found_8_l8,j_9_l8⟩ o h
     unfold spec_l05Near_l8 at h
     dsimp only at h
     refine gs<|gs<|g0 j j (q (oMv j j)<|q (oMv j j)<|q (oLnI j j uF28 j)<|q (oBi j j j j)<|nl)<|us<|gc h j iDec (fun hc29 h=>?_) fun hc29 h=>?_
     ·refine Go.skip<|us<|gs<|Go.block<|?_
      obtain ⟨found_8_m10,hm31,h⟩:=bs h
      refine gd c163 j j j j (mk [(0,D 2 (.cp (u_S_Drawing d_0) 0)),(1,iv k_1),(5,H 5 0),(6,D 2 (W 1 eI x16.Ring)),(7,iv f_7_l4),(8,bv found_8_m10),(9,iv j_9_l8)] [(5,Oc [Z (W 1 eI out_o5_l4)])]) ?_ ?_
      ·refine t j j (oMv j j)<|t j j (oMv j j)<|?_
       refine ic hm31 (fun hc30 hm31=>?_) fun hc30 hm31=>?_
       ·cases hm31
        exact tF j j j j (iR.2 hc30) j<|tF j j j j (iR.2 hc30) j<|tF j j j j (iR.2 hc30) j<|tF j j j j (iR.2 hc30) j<|tF j j j j (iR.2 hc30) j<|tF j j j j (iR.2 hc30) j<|tF j j j j (iR.2 hc30) j<|tF j j j j (iR.2 hc30) j<|tF j j j j (iR.2 hc30) j<|tF j j j j (iR.2 hc30) j<|tF j j j j (iR.2 hc30) j<|tF j j j j (iR.2 hc30) j<|tF j j j j (iR.2 hc30) j<|tF j j j j (iR.2 hc30) j<|tF j j j j (iR.2 hc30) j<|tF j j j j (iR.2 hc30) j<|tF j j j j (iR.2 hc30) j<|tF j j j j (iR.2 hc30) j<|tF j j j j (iR.2 hc30) j<|tF j j j j (iR.2 hc30) j<|sS (dF j j j (iR.2 hc30) j) trivial (t j j (oPkT j j (iR.2 hc30) j)<|sS (dN z163 j (oAsI j j)) trivial (sD (by kernel_rfl)))
       ·obtain ⟨x41,hx41,hm31⟩:=bs hm31
        obtain ⟨x46,hx46,hm31⟩:=bs hm31
        obtain ⟨x53,hx53,hm31⟩:=bs hm31
        obtain ⟨x54,hx54,hm31⟩:=bs hm31
        obtain ⟨x56,hx56,hm31⟩:=bs hm31
        cases hm31
        exact tT j j j j (byF iR hc30) (oMv j j)<|tT j j j j (byF iR hc30) (oNl j j j)<|tT j j j j (byF iR hc30) (oFA (r':=.im 2 _) j fF26_3 j j)<|tT j j j j (byF iR hc30) (oLd (cs:=[.im 2 _]) j tF24 j j)<|tT j j j j (byF iR hc30) (oMv j j)<|tT j j j j (byF iR hc30) (oIAI j hx41 sF24 j j)<|tT j j j j (byF iR hc30) (oFA (r':=.im 2 _) j fF148_1 j j)<|tT j j j j (byF iR hc30) (oLd (cs:=[.im 2 _]) j tF28 j j)<|tT j j j j (byF iR hc30) (oMv j j)<|tT j j j j (byF iR hc30) (oMv j j)<|tT j j j j (byF iR hc30) (oIAI j hx46 sF28 j j)<|tT j j j j (byF iR hc30) (oLd (cs:=[.im 2 _]) j tF2 j j)<|tT j j j j (byF iR hc30) (oMv j j)<|tT j j j j (byF iR hc30) (oMv j j)<|tT j j j j (byF iR hc30) (oBi j j j j)<|tT j j j j (byF iR hc30) (oMv j j)<|tT j j j j (byF iR hc30) (oLnI j j uF28 j)<|tT j j j j (byF iR hc30) (oRem j hx53 j j)<|tT j j j j (byF iR hc30) (oIAI j hx54 sF28 j j)<|tT j j j j (byF iR hc30) (oLd (cs:=[.im 2 _]) j tF2 j j)<|sS (dT z163 j j j (byF iR hc30) (oCa (xs:=[.v false [.im 2 _],.v false [.im 2 _],.v false [.im 2 _]]) (vs:=[(false,[.im 0 _])]) (v:=.v false [.im 0 _]) (L_spec_l05HasEdge hx56) (.inl j) j kF182_28_2_2 j (ppC j (ppC j (ppC j pp0))) j j pb0 j j j)) trivial (t j j (oPkF j j (byF iR hc30) j)<|sS (dN z163 j (oAsI j j)) trivial (sD (by kernel_rfl)))
      ·refine Unw.blk<|us<|g0 j j (q (oMv j j)<|q (oBi j j j j)<|q (oAsI j j)<|nl)<|Unw.nil<|?_
       cases h
       exact ⟨j,(by kernel_rfl)⟩
     ·refine Go.exit<|ux<|Unw.nil<|?_
      cases h
      exact ⟨j,(by kernel_rfl)⟩
    ·rintro ⟨e,st⟩ hp
     obtain ⟨found_8_e2_8,rfl⟩:∃y,y=o:=⟨o,rfl⟩
     obtain ⟨he,hst⟩:=hp
     obtain rfl:e= .exit 2:=he
     refine Unw.blkx<|us<|gs<|gX c163 j j hst (mk [(0,D 2 (.cp (u_S_Drawing d_0) 0)),(1,iv k_1),(5,H 5 0),(6,D 2 (W 1 eI x16.Ring)),(7,iv f_7_l4),(63,bv ((f_7_l4 != k_1)&&found_8_e2_8))] [(5,Oc [Z (W 1 eI out_o5_l4)])]) ?_ ?_
     ·refine xq (oMv j j)<|xq (oMv j j)<|xq (oBi j j j j)<|xq (oMv j j)<|?_
      by_cases hc27:f_7_l4≠k_1
      ·exact xqT rfl rfl (iNe.2 hc27) (oMv rfl rfl)<|xq (oPkT rfl rfl (iNe.2 hc27) rfl)<|xn (Eq.trans (b:=(fun t_63_m11:Bool=>mk [(0,D 2 (.cp (u_S_Drawing d_0) 0)),(1,iv k_1),(5,H 5 0),(6,D 2 (W 1 eI x16.Ring)),(7,iv f_7_l4),(63,bv t_63_m11)] [(5,Oc [Z (W 1 eI out_o5_l4)])]) found_8_e2_8) (by kernel_rfl) (congrArg (fun t_63_m11:Bool=>mk [(0,D 2 (.cp (u_S_Drawing d_0) 0)),(1,iv k_1),(5,H 5 0),(6,D 2 (W 1 eI x16.Ring)),(7,iv f_7_l4),(63,bv t_63_m11)] [(5,Oc [Z (W 1 eI out_o5_l4)])]) (by first | rfl | (simp [(iNe.2 hc27)];done) | (simp [(iNe.2 hc27)];omega))))
      ·exact xsgF rfl rfl (byF iNe hc27) rfl<|xq (oPkF rfl rfl (byF iNe hc27) rfl)<|xn (Eq.trans (b:=(fun t_63_m11:Bool=>mk [(0,D 2 (.cp (u_S_Drawing d_0) 0)),(1,iv k_1),(5,H 5 0),(6,D 2 (W 1 eI x16.Ring)),(7,iv f_7_l4),(63,bv t_63_m11)] [(5,Oc [Z (W 1 eI out_o5_l4)])]) false) (by kernel_rfl) (congrArg (fun t_63_m11:Bool=>mk [(0,D 2 (.cp (u_S_Drawing d_0) 0)),(1,iv k_1),(5,H 5 0),(6,D 2 (W 1 eI x16.Ring)),(7,iv f_7_l4),(63,bv t_63_m11)] [(5,Oc [Z (W 1 eI out_o5_l4)])]) (by first | rfl | (simp [(byF iNe hc27)];done) | (simp [(byF iNe hc27)];omega))))
     ·refine us<|gc h j (iAnd iNe iR) (fun hc28 h=>?_) fun hc28 h=>?_
      ·obtain ⟨x67,hx67,h⟩:=bs h
       exact g0 j j (q (oMv j j)<|q (oMv j j)<|q (oBS (es:=List.map eI ([f_7_l4]:List Int)) j sF28 j (ptC j (fxI fx0) j pt0) (flat0 j fun _=>j))<|q (oApO (en:=eI) (M:=([f_7_l4]:List Int)) j hx67 j sF28 j j uF28 (.inl ⟨_,j⟩) j j j j (el_own j j) (flat0 j fun _=>j))<|q (oAsO j j j j j)<|nl)<|Unw.blk<|K22 _ ⟨x67,h,(by kernel_rfl)⟩
      ·exact Go.skip<|Unw.blk<|K22 _ ⟨out_o5_l4,h,(by kernel_rfl)⟩
  ·refine Go.exit<|ux<|Unw.nil<|?_
   cases h
   exact ⟨j,(by kernel_rfl)⟩
 ·rintro ⟨e,st⟩ hp
  obtain ⟨out_o5_e0_4,rfl⟩:∃y,y=o:=⟨o,rfl⟩
  obtain ⟨he,hst⟩:=hp
  obtain rfl:e= .exit 0:=he
  refine Unw.blkx<|us<|gs<|g2 c163 j j hst (q (oMv j j)<|q (oAsO j j j j j)<|nl)<|us<|Go.ret (Unw.ret ?_)
  cases h
  exact fr rF163 j
theorem L_spec_l05Polygon {d_0:S_Drawing} {k_1:Int} {r:(List S_Point)} (h:spec_l05Polygon d_0 k_1=some r):FX 197 [.im 2 false [.cp (u_S_Drawing d_0) 0],.im 2 false [I k_1]] (B0 [(false,[.ow 0 2 (List.map e_S_Point r)])]):=by
 unfold spec_l05Polygon at h
 refine gn 21 Try.func197 rfl ?_
 refine gs<|g0 j j (q (oAsN j j eF23)<|nl)<|us<|gs<|?_
 obtain ⟨x14,hx14,h⟩:=bs h
 obtain ⟨x17,hx17,h⟩:=bs h
 refine g0 j j (q (oMv j j)<|q (oMv j j)<|q (oNl j j j)<|q (oFA (r':=.im 2 _) j fF26_3 j j)<|q (oLd (cs:=[.im 2 _]) j tF24 j j)<|q (oMv j j)<|q (oIAI j hx14 sF24 j j)<|q (oFA (r':=.im 2 _) j fF148_1 j j)<|q (oLd (cs:=[.im 2 _]) j tF28 j j)<|q (oCr (xs:=[.v false [.im 2 _],.v false [.im 2 _]]) (vs:=[(false,[.own 17 0 0]),(false,[.im 0 _])]) (v:=.tup [(false,[.own 17 0 0]),(false,[.im 0 _])]) (c:=⟨.sh,0,_⟩) (cs:=[]) (L_spec_l05Ring hx17) (.inl j) j kF100_81_28 j (ppC j (ppC j pp0)) j j pb0 j j j)<|q (oMvT j j)<|q (oEx j j j)<|q (oEx j j j)<|q (oAsO j j j j j)<|q (oAsI j j)<|nl)<|us<|gs<|g0 j j (q (oMv j j)<|q (oAsO j j j j j)<|nl)<|us<|Go.ret (Unw.ret ?_)
 cases h
 exact fr rF197 j
theorem L_spec_l23Edge {d_0:S_Drawing} {a_1:S_Point} {b_2:S_Point} {r:Bool} (h:spec_l23Edge d_0 a_1 b_2=some r):FX 198 [.im 2 false [.cp (u_S_Drawing d_0) 0],.im 2 true (u_S_Point a_1),.im 2 true (u_S_Point b_2)] (B0 [(false,[.im 0 (V r)])]):=by
 unfold spec_l23Edge at h
 refine gn 47 Try.func198 rfl ?_
 refine gs<|g0 j j (q (oBx j tF155 j (tkI (tkI tk0)))<|q (oBx j tF155 j (tkI (tkI tk0)))<|q (oAsI j j)<|nl)<|us<|gs<|?_
 obtain ⟨t_6_m1,hm8,h⟩:=bs h
 refine gd c198 j j j j (mk [(6,bv t_6_m1)] []) ?_ ?_
 ·refine t j j (oFA (r':=.mp 4 0 0) j fF155_0 j j)<|t j j (oLd (cs:=[.im 0 _]) j tF2 j j)<|t j j (oFA (r':=.mp 5 0 0) j fF155_0 j j)<|t j j (oLd (cs:=[.im 0 _]) j tF2 j j)<|t j j (oBi j j j j)<|t j j (oMv j j)<|?_
  refine ic hm8 (fun hc1 hm8=>?_) fun hc1 hm8=>?_
  ·refine tT j j j j (iEq.2 hc1) (oFA (r':=.mp 4 0 0) j fF155_0 j j)<|tT j j j j (iEq.2 hc1) (oLd (cs:=[.im 0 _]) j tF2 j j)<|tT j j j j (iEq.2 hc1) (oBi j j j j)<|tT j j j j (iEq.2 hc1) (oMv j j)<|?_
   refine ic hm8 (fun hc2 hm8=>?_) fun hc2 hm8=>?_
   ·cases hm8
    exact tF j j j j (iEq.2 hc2) j<|tF j j j j (iEq.2 hc2) j<|tF j j j j (iEq.2 hc2) j<|tF j j j j (iEq.2 hc2) j<|tF j j j j (iEq.2 hc2) j<|tF j j j j (iEq.2 hc2) j<|tF j j j j (iEq.2 hc2) j<|tT j j j j (iEq.2 hc1) (oPkT j j (iEq.2 hc2) j)<|t j j (oPkT j j (iEq.2 hc1) j)<|t j j (oMv j j)<|tF j j j j j j<|tF j j j j j j<|tF j j j j j j<|tF j j j j j j<|tF j j j j j j<|tF j j j j j j<|sT j (dU j j j j)<|sT j (dU j j j j)<|sT j (dU j j j j)<|sT j (dU j j j j)<|sT j (dU j j j j)<|sT j (dU j j j j)<|sT j (dU j j j j)<|sT j (dU j j j j)<|sT j (dU j j j j)<|sT j (dU j j j j)<|sT j (dU j j j j)<|sT j (dU j j j j)<|tF j j j j j j<|t j j (oPkT j j j j)<|sS (dN z198 j (oAsI j j)) trivial (sD (by kernel_rfl))
   ·refine tT j j j j (byF iEq hc2) (oFA (r':=.mp 4 0 0) j fF155_0 j j)<|tT j j j j (byF iEq hc2) (oLd (cs:=[.im 0 _]) j tF2 j j)<|tT j j j j (byF iEq hc2) (oMv j j)<|tT j j j j (byF iEq hc2) (oNl j j j)<|tT j j j j (byF iEq hc2) (oFA (r':=.im 2 _) j fF26_0 j j)<|tT j j j j (byF iEq hc2) (oLd (cs:=[.im 2 _]) j tF2 j j)<|tT j j j j (byF iEq hc2) (oBi j j j j)<|tT j j j j (iEq.2 hc1) (oPkF j j (byF iEq hc2) j)<|t j j (oPkT j j (iEq.2 hc1) j)<|t j j (oMv j j)<|?_
    refine ic hm8 (fun hc3 hm8=>?_) fun hc3 hm8=>?_
    ·cases hm8
     exact tF j j j j (iEq.2 hc3) j<|tF j j j j (iEq.2 hc3) j<|tF j j j j (iEq.2 hc3) j<|tF j j j j (iEq.2 hc3) j<|tF j j j j (iEq.2 hc3) j<|tF j j j j (iEq.2 hc3) j<|sT j (dU j j j j)<|sT j (dU j j j j)<|sT j (dU j j j j)<|sT j (dU j j j j)<|sT j (dU j j j j)<|sT j (dU j j j j)<|sT j (dU j j j j)<|sT j (dU j j j j)<|sT j (dU j j j j)<|sT j (dU j j j j)<|sT j (dU j j j j)<|sT j (dU j j j j)<|tF j j j j (iEq.2 hc3) j<|t j j (oPkT j j (iEq.2 hc3) j)<|sS (dN z198 j (oAsI j j)) trivial (sD (by kernel_rfl))
    ·refine tT j j j j (byF iEq hc3) (oFA (r':=.mp 4 0 1) j fF155_1 j j)<|tT j j j j (byF iEq hc3) (oLd (cs:=[.im 0 _]) j tF2 j j)<|tT j j j j (byF iEq hc3) (oFA (r':=.mp 5 0 1) j fF155_1 j j)<|tT j j j j (byF iEq hc3) (oLd (cs:=[.im 0 _]) j tF2 j j)<|tT j j j j (byF iEq hc3) (oBi j j j j)<|tT j j j j (byF iEq hc3) (oMv j j)<|?_
     refine ic hm8 (fun hc4 hm8=>?_) fun hc4 hm8=>?_
     ·refine tT j j j j (iEq.2 hc4) (oFA (r':=.mp 4 0 1) j fF155_1 j j)<|tT j j j j (iEq.2 hc4) (oLd (cs:=[.im 0 _]) j tF2 j j)<|tT j j j j (iEq.2 hc4) (oBi j j j j)<|tT j j j j (iEq.2 hc4) (oMv j j)<|?_
      refine ic hm8 (fun hc5 hm8=>?_) fun hc5 hm8=>?_
      ·cases hm8
       exact tF j j j j (iEq.2 hc5) j<|tF j j j j (iEq.2 hc5) j<|tF j j j j (iEq.2 hc5) j<|tF j j j j (iEq.2 hc5) j<|tF j j j j (iEq.2 hc5) j<|tF j j j j (iEq.2 hc5) j<|tF j j j j (iEq.2 hc5) j<|tT j j j j (iEq.2 hc4) (oPkT j j (iEq.2 hc5) j)<|tT j j j j (byF iEq hc3) (oPkT j j (iEq.2 hc4) j)<|t j j (oPkF j j (byF iEq hc3) j)<|sS (dN z198 j (oAsI j j)) trivial (sD (by kernel_rfl))
      ·cases hm8
       exact tT j j j j (byF iEq hc5) (oFA (r':=.mp 4 0 1) j fF155_1 j j)<|tT j j j j (byF iEq hc5) (oLd (cs:=[.im 0 _]) j tF2 j j)<|tT j j j j (byF iEq hc5) (oMv j j)<|tT j j j j (byF iEq hc5) (oNl j j j)<|tT j j j j (byF iEq hc5) (oFA (r':=.im 2 _) j fF26_1 j j)<|tT j j j j (byF iEq hc5) (oLd (cs:=[.im 2 _]) j tF2 j j)<|tT j j j j (byF iEq hc5) (oBi j j j j)<|tT j j j j (iEq.2 hc4) (oPkF j j (byF iEq hc5) j)<|tT j j j j (byF iEq hc3) (oPkT j j (iEq.2 hc4) j)<|t j j (oPkF j j (byF iEq hc3) j)<|sS (dN z198 j (oAsI j j)) trivial (sD (by kernel_rfl))
     ·cases hm8
      exact tF j j j j (byF iEq hc4) j<|tF j j j j (byF iEq hc4) j<|tF j j j j (byF iEq hc4) j<|tF j j j j (byF iEq hc4) j<|sT j (dU j j j j)<|sT j (dU j j j j)<|sT j (dU j j j j)<|sT j (dU j j j j)<|sT j (dU j j j j)<|sT j (dU j j j j)<|sT j (dU j j j j)<|tF j j j j (byF iEq hc4) j<|tT j j j j (byF iEq hc3) (oPkF j j (byF iEq hc4) j)<|t j j (oPkF j j (byF iEq hc3) j)<|sS (dN z198 j (oAsI j j)) trivial (sD (by kernel_rfl))
  ·refine tF j j j j (byF iEq hc1) j<|tF j j j j (byF iEq hc1) j<|tF j j j j (byF iEq hc1) j<|tF j j j j (byF iEq hc1) j<|sT j (dU j j j j)<|sT j (dU j j j j)<|sT j (dU j j j j)<|sT j (dU j j j j)<|sT j (dU j j j j)<|sT j (dU j j j j)<|sT j (dU j j j j)<|tF j j j j (byF iEq hc1) j<|t j j (oPkF j j (byF iEq hc1) j)<|t j j (oMv j j)<|tT j j j j j (oFA (r':=.mp 4 0 1) j fF155_1 j j)<|tT j j j j j (oLd (cs:=[.im 0 _]) j tF2 j j)<|tT j j j j j (oFA (r':=.mp 5 0 1) j fF155_1 j j)<|tT j j j j j (oLd (cs:=[.im 0 _]) j tF2 j j)<|tT j j j j j (oBi j j j j)<|tT j j j j j (oMv j j)<|?_
   refine ic hm8 (fun hc6 hm8=>?_) fun hc6 hm8=>?_
   ·refine tT j j j j (iEq.2 hc6) (oFA (r':=.mp 4 0 1) j fF155_1 j j)<|tT j j j j (iEq.2 hc6) (oLd (cs:=[.im 0 _]) j tF2 j j)<|tT j j j j (iEq.2 hc6) (oBi j j j j)<|tT j j j j (iEq.2 hc6) (oMv j j)<|?_
    refine ic hm8 (fun hc7 hm8=>?_) fun hc7 hm8=>?_
    ·cases hm8
     exact tF j j j j (iEq.2 hc7) j<|tF j j j j (iEq.2 hc7) j<|tF j j j j (iEq.2 hc7) j<|tF j j j j (iEq.2 hc7) j<|tF j j j j (iEq.2 hc7) j<|tF j j j j (iEq.2 hc7) j<|tF j j j j (iEq.2 hc7) j<|tT j j j j (iEq.2 hc6) (oPkT j j (iEq.2 hc7) j)<|tT j j j j j (oPkT j j (iEq.2 hc6) j)<|t j j (oPkF j j j j)<|sS (dN z198 j (oAsI j j)) trivial (sD (by kernel_rfl))
    ·cases hm8
     exact tT j j j j (byF iEq hc7) (oFA (r':=.mp 4 0 1) j fF155_1 j j)<|tT j j j j (byF iEq hc7) (oLd (cs:=[.im 0 _]) j tF2 j j)<|tT j j j j (byF iEq hc7) (oMv j j)<|tT j j j j (byF iEq hc7) (oNl j j j)<|tT j j j j (byF iEq hc7) (oFA (r':=.im 2 _) j fF26_1 j j)<|tT j j j j (byF iEq hc7) (oLd (cs:=[.im 2 _]) j tF2 j j)<|tT j j j j (byF iEq hc7) (oBi j j j j)<|tT j j j j (iEq.2 hc6) (oPkF j j (byF iEq hc7) j)<|tT j j j j j (oPkT j j (iEq.2 hc6) j)<|t j j (oPkF j j j j)<|sS (dN z198 j (oAsI j j)) trivial (sD (by kernel_rfl))
   ·cases hm8
    exact tF j j j j (byF iEq hc6) j<|tF j j j j (byF iEq hc6) j<|tF j j j j (byF iEq hc6) j<|tF j j j j (byF iEq hc6) j<|sT j (dU j j j j)<|sT j (dU j j j j)<|sT j (dU j j j j)<|sT j (dU j j j j)<|sT j (dU j j j j)<|sT j (dU j j j j)<|sT j (dU j j j j)<|tF j j j j (byF iEq hc6) j<|tT j j j j j (oPkF j j (byF iEq hc6) j)<|t j j (oPkF j j j j)<|sS (dN z198 j (oAsI j j)) trivial (sD (by kernel_rfl))
 ·refine us<|Go.ret (Unw.ret ?_)
  cases h
  exact fr rF198 j
theorem L_spec_l23Border {d_0:S_Drawing} {k_1:Int} {r:Bool} (h:spec_l23Border d_0 k_1=some r):FX 172 [.im 2 false [.cp (u_S_Drawing d_0) 0],.im 2 false [I k_1]] (B0 [(false,[.im 0 (V r)])]):=by
 unfold spec_l23Border at h
 refine gn 30 Try.func172 rfl ?_
 refine gs<|g0 j j (q (oAsI j j)<|nl)<|us<|gs<|?_
 obtain ⟨x9,hx9,h⟩:=bs h
 refine g0 j j (q (oMv j j)<|q (oMv j j)<|q (oCr (xs:=[.v false [.im 2 _],.v false [.im 2 _]]) (vs:=[(false,[.own 9 0 0])]) (v:=.v false [.own 9 0 0]) (c:=⟨.sh,0,_⟩) (cs:=[]) (L_spec_l05Polygon hx9) (.inl j) j kF197_81_2 j (ppC j (ppC j pp0)) j j pb0 j j j)<|q (oAsO j j j j j)<|nl)<|us<|gs<|gs<|g0 j j (q (oAsI j j)<|nl)<|us<|Go.block<|?_
 obtain ⟨o,hl,h⟩:=bs h
 refine gl c172 j _ (fun (i_6_l3:Int)=>mk [(0,D 2 (.cp (u_S_Drawing d_0) 0)),(5,H 5 0),(6,iv i_6_l3)] [(5,Oc [Z (W 2 e_S_Point x9)])]) (fun (o:(Unit ⊕ Bool)) (p:Ex×St)=>match o with | (.inl _)=>p.1= .exit 0∧p.2.norm ([],[])=mk [] [] | (.inr r2)=>p.1= .ret∧fin Try.prog cfg 172 Try.f172 [.im 2 false [.cp (u_S_Drawing d_0) 0],.im 2 false [I k_1]] p.2=some (B0 [(false,[.im 0 (V r2)])])) hl (by kernel_rfl) ?_ ?_ ?_
 ·intro o p hp e
  rcases o with u | r2<;>exact nomatch (hp.1.symm.trans e)
 ·rintro i_6_l3 o h
  unfold spec_l23Border_l3 at h
  refine gs<|gs<|g0 j j (q (oMv j j)<|q (oMv j j)<|q (oLnO j j uF23 j j j (fun e=>nomatch e))<|q (oBi j j j j)<|nl)<|us<|gc h j iDec (fun hc5 h=>?_) fun hc5 h=>?_
  ·refine Go.skip<|us<|gs<|Go.block<|gs<|?_
   obtain ⟨x19,hx19,h⟩:=bs h
   obtain ⟨x26,hx26,h⟩:=bs h
   obtain ⟨x27,hx27,h⟩:=bs h
   obtain ⟨x29,hx29,h⟩:=bs h
   refine gd c172 j j j j (mk [(0,D 2 (.cp (u_S_Drawing d_0) 0)),(5,H 5 0),(6,iv i_6_l3),(29,bv x29)] [(5,Oc [Z (W 2 e_S_Point x9)])]) (t j j (oMv j j)<|t j j (oMv j j)<|t j j (oMv j j)<|t j j (oIAO j hx19 sF23 j j j j)<|t j j (oLdE (cs:=[.im 0 _,.im 0 _]) j tF155 j j j j (rd_get hx19) j j)<|t j j (oMv j j)<|t j j (oMv j j)<|t j j (oBi j j j j)<|t j j (oMv j j)<|t j j (oLnO j j uF23 j j j (fun e=>nomatch e))<|t j j (oRem j hx26 j j)<|t j j (oIAO j hx27 sF23 j j j j)<|t j j (oLdE (cs:=[.im 0 _,.im 0 _]) j tF155 j j j j (rd_get hx27) j j)<|sS (dN z172 j (oCa (xs:=[.v false [.im 2 _],.v true [.im 0 _,.im 0 _],.v true [.im 0 _,.im 0 _]]) (vs:=[(false,[.im 0 _])]) (v:=.v false [.im 0 _]) (L_spec_l23Edge hx29) (.inl j) j kF198_81_155_155 j (ppC j (ppC j (ppC j pp0))) j j pb0 j j j)) trivial (sD (by kernel_rfl)))<|us<|gc h j iR (fun hc6 h=>?_) fun hc6 h=>?_
   ·refine gs<|g0 j j (q (oAsI j j)<|nl)<|us<|Go.ret (Unw.ret ?_)
    cases h
    exact ⟨j,(fo rF172 j)⟩
   ·refine Go.skip<|Unw.blk<|us<|g0 j j (q (oMv j j)<|q (oBi j j j j)<|q (oAsI j j)<|nl)<|Unw.nil<|?_
    cases h
    exact ⟨j,(by kernel_rfl)⟩
  ·refine Go.exit<|ux<|Unw.nil<|?_
   cases h
   exact ⟨j,(by kernel_rfl)⟩
 ·rintro ⟨e,st⟩ hp
  rcases o with u | r2
  ·dsimp only at h
   obtain ⟨he,hst⟩:=hp
   obtain rfl:e= .exit 0:=he
   refine Unw.blkx<|us<|gs<|g2 c172 j j hst (q (oAsI j j)<|nl)<|us<|Go.ret (Unw.ret ?_)
   cases h
   exact fr rF172 j
  ·dsimp only at h
   obtain ⟨he,hfin⟩:=hp
   obtain rfl:e= .ret:=he
   cases h
   exact Unw.ret (Fin_ret hfin)
theorem L_spec_l23Of {d_0:S_Drawing} {r:S_l23Map} (h:spec_l23Of d_0=some r):FX 136 [.im 2 false [.cp (u_S_Drawing d_0) 0]] (B0 [(false,[.pt true [⟨.sh,0,W 1 (eL 1 eI) r.near⟩,⟨.sh,0,W 1 eB r.border⟩]])]):=by
 unfold spec_l23Of at h
 refine gn 41 Try.func136 rfl ?_
 refine gs<|g0 j j (q (oAsI j j)<|nl)<|us<|gs<|g0 j j (q (oBu (cs:=[.nil,.nil]) j bF208 j)<|q (oBx j tF208 j (tkN (tkN tk0)))<|q (oAsP j j)<|nl)<|us<|gs<|gs<|g0 j j (q (oAsI j j)<|nl)<|us<|Go.block<|?_
 obtain ⟨o,hl,h⟩:=bs h
 refine gl c136 j _ (fun (s:(Int×(List (List Int))×(List Bool)))=>match s with | (k_4_l3,o_o6_0_l3,o_o6_1_l3)=>mk [(0,D 2 (.cp (u_S_Drawing d_0) 0)),(3,M 6),(4,iv k_4_l3)] [(6,Oa [Z (W 1 (eL 1 eI) o_o6_0_l3),Z (W 1 eB o_o6_1_l3)])]) (fun (o:((List (List Int))×(List Bool))) (p:Ex×St)=>match o with | (o_o6_0_e0_3,o_o6_1_e0_3)=>p.1= .exit 0∧p.2.norm ([3],[6])=mk [(3,M 6)] [(6,Oa [Z (W 1 (eL 1 eI) o_o6_0_e0_3),Z (W 1 eB o_o6_1_e0_3)])]) hl (by kernel_rfl) ?_ ?_ ?_
 ·intro o p hp e
  obtain ⟨o_o6_0_e0_3,o_o6_1_e0_3⟩:=o
  exact nomatch (hp.1.symm.trans e)
 ·rintro ⟨k_4_l3,o_o6_0_l3,o_o6_1_l3⟩ o h
  unfold spec_l23Of_l3 at h
  dsimp only at h
  refine gs<|gs<|g0 j j (q (oMv j j)<|q (oMv j j)<|q (oNl j j j)<|q (oFA (r':=.im 2 _) j fF26_3 j j)<|q (oLd (cs:=[.im 2 _]) j tF24 j j)<|q (oLnI j j uF24 j)<|q (oBi j j j j)<|nl)<|us<|gc h j iDec (fun hc3 h=>?_) fun hc3 h=>?_
  ·refine Go.skip<|us<|gs<|Go.block<|gs<|?_
   obtain ⟨x23,hx23,h⟩:=bs h
   obtain ⟨x25,hx25,h⟩:=bs h
   refine gd c136 j j j j (mk [(0,D 2 (.cp (u_S_Drawing d_0) 0)),(3,M 6),(4,iv k_4_l3)] [(6,Oa [Z (W 1 (eL 1 eI) x25),Z (W 1 eB o_o6_1_l3)])]) (t j j (oMv j j)<|t j j (oMv j j)<|t j j (oMv j j)<|t j j (oMv j j)<|sK (O:=[6]) j j j (dN z136 j (oNl j j j))<|sK (O:=[6]) j j j (dN z136 j (oFA (r':=.mp 6 0 0) j fF208_0 j j))<|sK (O:=[6]) j j j (dN z136 j (oLd (cs:=[.own 6 0 0]) j tF85 j j))<|sS (dN z136 j (oCr (xs:=[.v false [.im 2 _],.v false [.im 0 _]]) (vs:=[(false,[.own 23 0 0])]) (v:=.v false [.own 23 0 0]) (c:=⟨.sh,0,_⟩) (cs:=[]) (L_spec_l05Near hx23) (.inl j) j kF163_81_2 j (ppC j (ppC j pp0)) j j pb0 j j j)) (kY ⟨j,trivial⟩ (kY ⟨j,trivial⟩ (kY ⟨j,trivial⟩ trivial))) (sS (dN z136 j (oBS (es:=List.map (eL 1 eI) ([x23]:List (List Int))) j sF85 j (ptC j (fxO j j fx0) j pt0) (flat1 j))) (kY ⟨j,trivial⟩ (kY ⟨j,trivial⟩ (kY ⟨j,trivial⟩ trivial))) (sS (dN z136 j (oApO (en:=(eL 1 eI)) (M:=([x23]:List (List Int))) j hx25 j sF85 j j uF85 (.inl ⟨_,j⟩) j j j j (el_own j j) (flat1 j))) (kN j (kN j (kN j trivial))) (t j j (oNl j j j)<|t j j (oFA (r':=.mp 6 0 0) j fF208_0 j j)<|sS (dN z136 j (oSt tF85 j j j (tkO j j tk0) j j j)) (kN j (kN j (kN j trivial))) (sD (by kernel_rfl))))))<|us<|?_
   obtain ⟨x35,hx35,h⟩:=bs h
   obtain ⟨x37,hx37,h⟩:=bs h
   refine gd c136 j j j j (mk [(0,D 2 (.cp (u_S_Drawing d_0) 0)),(3,M 6),(4,iv k_4_l3)] [(6,Oa [Z (W 1 (eL 1 eI) x25),Z (W 1 eB x37)])]) (t j j (oMv j j)<|t j j (oMv j j)<|t j j (oMv j j)<|t j j (oMv j j)<|sK (O:=[6]) j j j (dN z136 j (oNl j j j))<|sK (O:=[6]) j j j (dN z136 j (oFA (r':=.mp 6 0 1) j fF208_1 j j))<|sK (O:=[6]) j j j (dN z136 j (oLd (cs:=[.own 6 0 1]) j tF86 j j))<|sS (dN z136 j (oCa (xs:=[.v false [.im 2 _],.v false [.im 0 _]]) (vs:=[(false,[.im 0 _])]) (v:=.v false [.im 0 _]) (L_spec_l23Border hx35) (.inl j) j kF172_81_2 j (ppC j (ppC j pp0)) j j pb0 j j j)) (kY ⟨j,trivial⟩ (kY ⟨j,trivial⟩ (kY ⟨j,trivial⟩ trivial))) (sS (dN z136 j (oBS (es:=List.map eB ([x35]:List Bool)) j sF86 j (ptC j (fxI fx0) j pt0) (flat0 j fun _=>j))) (kY ⟨j,trivial⟩ (kY ⟨j,trivial⟩ (kY ⟨j,trivial⟩ trivial))) (sS (dN z136 j (oApO (en:=eB) (M:=([x35]:List Bool)) j hx37 j sF86 j j uF86 (.inl ⟨_,j⟩) j j j j (el_own j j) (flat0 j fun _=>j))) (kN j (kN j (kN j trivial))) (t j j (oNl j j j)<|t j j (oFA (r':=.mp 6 0 1) j fF208_1 j j)<|sS (dN z136 j (oSt tF86 j j j (tkO j j tk0) j j j)) (kN j (kN j (kN j trivial))) (sD (by kernel_rfl))))))<|Unw.blk<|us<|g0 j j (q (oMv j j)<|q (oBi j j j j)<|q (oAsI j j)<|nl)<|Unw.nil<|?_
   cases h
   exact ⟨j,(by kernel_rfl)⟩
  ·refine Go.exit<|ux<|Unw.nil<|?_
   cases h
   exact ⟨j,(by kernel_rfl)⟩
 ·rintro ⟨e,st⟩ hp
  obtain ⟨o_o6_0_e0_3,o_o6_1_e0_3⟩:=o
  dsimp only at h
  obtain ⟨he,hst⟩:=hp
  obtain rfl:e= .exit 0:=he
  refine Unw.blkx<|us<|gs<|g2 c136 j j hst (q (oMv j j)<|q (oAsP j j)<|nl)<|us<|Go.ret (Unw.ret ?_)
  cases h
  exact fr rF136 j
theorem L_spec_l00Own {list_0:(List Int)} {r:(List Int)} (h:spec_l00Own list_0=some r):FX 69 [.im 2 false [W 1 eI list_0]] (B0 [(false,[.ow 0 1 (List.map eI r)])]):=by
 unfold spec_l00Own at h
 refine gn 6 Try.func69 rfl ?_
 refine gs<|g0 j j (q (oAsN j j eF28)<|nl)<|us<|gs<|?_
 obtain ⟨x5,hx5,h⟩:=bs h
 refine g0 j j (q (oBS (es:=List.map eI ([]:List Int)) j sF28 j pt0 (flat0 j fun _=>j))<|q (oMv j j)<|q (oApO (en:=eI) (M:=list_0) j hx5 j sF28 j j uF28 (.inl ⟨_,j⟩) j j j j el_im (flat0 j fun _=>j))<|q (oAsO j j j j j)<|nl)<|us<|Go.ret (Unw.ret ?_)
 cases h
 exact fr rF69 j
theorem L_spec_l00Has {list_0:(List Int)} {n_1:Int} {r:Bool} (h:spec_l00Has list_0 n_1=some r):FX 199 [.im 2 false [W 1 eI list_0],.im 2 false [I n_1]] (B0 [(false,[.im 0 (V r)])]):=by
 unfold spec_l00Has at h
 refine gn 18 Try.func199 rfl ?_
 refine gs<|g0 j j (q (oAsI j j)<|nl)<|us<|gs<|gs<|g0 j j (q (oAsI j j)<|nl)<|us<|Go.block<|?_
 obtain ⟨o,hl,h⟩:=bs h
 refine gl c199 j _ (fun (i_5_l2:Int)=>mk [(0,D 2 (W 1 eI list_0)),(1,iv n_1),(5,iv i_5_l2)] []) (fun (o:(Unit ⊕ Bool)) (p:Ex×St)=>match o with | (.inl _)=>p.1= .exit 0∧p.2.norm ([],[])=mk [] [] | (.inr r2)=>p.1= .ret∧fin Try.prog cfg 199 Try.f199 [.im 2 false [W 1 eI list_0],.im 2 false [I n_1]] p.2=some (B0 [(false,[.im 0 (V r2)])])) hl (by kernel_rfl) ?_ ?_ ?_
 ·intro o p hp e
  rcases o with u | r2<;>exact nomatch (hp.1.symm.trans e)
 ·rintro i_5_l2 o h
  unfold spec_l00Has_l2 at h
  refine gs<|gs<|g0 j j (q (oMv j j)<|q (oMv j j)<|q (oLnI j j uF28 j)<|q (oBi j j j j)<|nl)<|us<|gc h j iDec (fun hc5 h=>?_) fun hc5 h=>?_
  ·refine Go.skip<|us<|gs<|Go.block<|gs<|?_
   obtain ⟨x14,hx14,h⟩:=bs h
   refine g0 j j (q (oMv j j)<|q (oMv j j)<|q (oIAI j hx14 sF28 j j)<|q (oLd (cs:=[.im 2 _]) j tF2 j j)<|q (oMv j j)<|q (oBi j j j j)<|nl)<|us<|gc h j iEq (fun hc6 h=>?_) fun hc6 h=>?_
   ·refine gs<|g0 j j (q (oAsI j j)<|nl)<|us<|Go.ret (Unw.ret ?_)
    cases h
    exact ⟨j,(fo rF199 j)⟩
   ·refine Go.skip<|Unw.blk<|us<|g0 j j (q (oMv j j)<|q (oBi j j j j)<|q (oAsI j j)<|nl)<|Unw.nil<|?_
    cases h
    exact ⟨j,(by kernel_rfl)⟩
  ·refine Go.exit<|ux<|Unw.nil<|?_
   cases h
   exact ⟨j,(by kernel_rfl)⟩
 ·rintro ⟨e,st⟩ hp
  rcases o with u | r2
  ·dsimp only at h
   obtain ⟨he,hst⟩:=hp
   obtain rfl:e= .exit 0:=he
   refine Unw.blkx<|us<|gs<|g2 c199 j j hst (q (oAsI j j)<|nl)<|us<|Go.ret (Unw.ret ?_)
   cases h
   exact fr rF199 j
  ·dsimp only at h
   obtain ⟨he,hfin⟩:=hp
   obtain rfl:e= .ret:=he
   cases h
   exact Unw.ret (Fin_ret hfin)
theorem L_spec_l23Held {m_0:S_l23Map} {placed_1:(List Int)} {k_2:Int} {r:Bool} (h:spec_l23Held m_0 placed_1 k_2=some r):FX 210 [.im 2 false [.cp (u_S_l23Map m_0) 0],.im 2 false [W 1 eI placed_1],.im 2 false [I k_2]] (B0 [(false,[.im 0 (V r)])]):=by
 unfold spec_l23Held at h
 refine gn 35 Try.func210 rfl ?_
 refine gs<|g0 j j (q (oAsI j j)<|nl)<|us<|gs<|gs<|g0 j j (q (oMv j j)<|q (oLnI j j uF28 j)<|q (oBi j j j j)<|nl)<|us<|gc h j iEq (fun hc1 h=>?_) fun hc1 h=>?_
 ·refine gs<|g0 j j (q (oAsI j j)<|nl)<|us<|Go.ret (Unw.ret ?_)
  cases h
  exact fr rF210 j
 ·refine Go.skip<|us<|gs<|gs<|g0 j j (q (oAsI j j)<|nl)<|us<|Go.block<|?_
  obtain ⟨o,hl,h⟩:=bs h
  refine gl c210 j _ (fun (j_7_l4:Int)=>mk [(0,D 2 (.cp (u_S_l23Map m_0) 0)),(1,D 2 (W 1 eI placed_1)),(2,iv k_2),(7,iv j_7_l4)] []) (fun (o:(Unit ⊕ Bool)) (p:Ex×St)=>match o with | (.inl _)=>p.1= .exit 0∧p.2.norm ([],[])=mk [] [] | (.inr r2)=>p.1= .ret∧fin Try.prog cfg 210 Try.f210 [.im 2 false [.cp (u_S_l23Map m_0) 0],.im 2 false [W 1 eI placed_1],.im 2 false [I k_2]] p.2=some (B0 [(false,[.im 0 (V r2)])])) hl (by kernel_rfl) ?_ ?_ ?_
  ·intro o p hp e
   rcases o with u | r2<;>exact nomatch (hp.1.symm.trans e)
  ·rintro j_7_l4 o h
   unfold spec_l23Held_l4 at h
   refine gs<|gs<|?_
   obtain ⟨x17,hx17,h⟩:=bs h
   refine g0 j j (q (oMv j j)<|q (oMv j j)<|q (oNl j j j)<|q (oFA (r':=.im 2 _) j fF208_0 j j)<|q (oLd (cs:=[.im 2 _]) j tF85 j j)<|q (oMv j j)<|q (oIAI j hx17 sF85 j j)<|q (oLd (cs:=[.im 2 _]) j tF28 j j)<|q (oLnI j j uF28 j)<|q (oBi j j j j)<|nl)<|us<|gc h j iDec (fun hc6 h=>?_) fun hc6 h=>?_
   ·refine Go.skip<|us<|gs<|Go.block<|gs<|?_
    obtain ⟨x29,hx29,h⟩:=bs h
    obtain ⟨x32,hx32,h⟩:=bs h
    obtain ⟨x34,hx34,h⟩:=bs h
    refine g0 j j (q (oMv j j)<|q (oMv j j)<|q (oNl j j j)<|q (oFA (r':=.im 2 _) j fF208_0 j j)<|q (oLd (cs:=[.im 2 _]) j tF85 j j)<|q (oMv j j)<|q (oIAI j hx29 sF85 j j)<|q (oLd (cs:=[.im 2 _]) j tF28 j j)<|q (oMv j j)<|q (oIAI j hx32 sF28 j j)<|q (oLd (cs:=[.im 2 _]) j tF2 j j)<|q (oCa (xs:=[.v false [.im 2 _],.v false [.im 2 _]]) (vs:=[(false,[.im 0 _])]) (v:=.v false [.im 0 _]) (L_spec_l00Has hx34) (.inl j) j kF199_28_2 j (ppC j (ppC j pp0)) j j pb0 j j j)<|nl)<|us<|gc h j iR (fun hc7 h=>?_) fun hc7 h=>?_
    ·refine gs<|g0 j j (q (oAsI j j)<|nl)<|us<|Go.ret (Unw.ret ?_)
     cases h
     exact ⟨j,(fo rF210 j)⟩
    ·refine Go.skip<|Unw.blk<|us<|g0 j j (q (oMv j j)<|q (oBi j j j j)<|q (oAsI j j)<|nl)<|Unw.nil<|?_
     cases h
     exact ⟨j,(by kernel_rfl)⟩
   ·refine Go.exit<|ux<|Unw.nil<|?_
    cases h
    exact ⟨j,(by kernel_rfl)⟩
  ·rintro ⟨e,st⟩ hp
   rcases o with u | r2
   ·dsimp only at h
    obtain ⟨he,hst⟩:=hp
    obtain rfl:e= .exit 0:=he
    refine Unw.blkx<|us<|gs<|g2 c210 j j hst (q (oAsI j j)<|nl)<|us<|Go.ret (Unw.ret ?_)
    cases h
    exact fr rF210 j
   ·dsimp only at h
    obtain ⟨he,hfin⟩:=hp
    obtain rfl:e= .ret:=he
    cases h
    exact Unw.ret (Fin_ret hfin)
theorem L_spec_l23Trapped {m_0:S_l23Map} {placed_1:(List Int)} {k_2:Int} {r:Bool} (h:spec_l23Trapped m_0 placed_1 k_2=some r):FX 211 [.im 2 false [.cp (u_S_l23Map m_0) 0],.im 2 false [W 1 eI placed_1],.im 2 false [I k_2]] (B0 [(false,[.im 0 (V r)])]):=by
 unfold spec_l23Trapped at h
 refine gn 40 Try.func211 rfl ?_
 refine gs<|g0 j j (q (oAsI j j)<|nl)<|us<|gs<|gs<|?_
 obtain ⟨x13,hx13,h⟩:=bs h
 refine g0 j j (q (oMv j j)<|q (oNl j j j)<|q (oFA (r':=.im 2 _) j fF208_1 j j)<|q (oLd (cs:=[.im 2 _]) j tF86 j j)<|q (oMv j j)<|q (oIAI j hx13 sF86 j j)<|q (oLd (cs:=[.im 2 _]) j tF4 j j)<|nl)<|us<|gc h j iR (fun hc1 h=>?_) fun hc1 h=>?_
 ·refine gs<|g0 j j (q (oAsI j j)<|nl)<|us<|Go.ret (Unw.ret ?_)
  cases h
  exact fr rF211 j
 ·refine Go.skip<|us<|gs<|gs<|g0 j j (q (oAsI j j)<|nl)<|us<|Go.block<|?_
  obtain ⟨o,hl,h⟩:=bs h
  refine gl c211 j _ (fun (j_7_l4:Int)=>mk [(0,D 2 (.cp (u_S_l23Map m_0) 0)),(1,D 2 (W 1 eI placed_1)),(2,iv k_2),(7,iv j_7_l4)] []) (fun (o:(Unit ⊕ Bool)) (p:Ex×St)=>match o with | (.inl _)=>p.1= .exit 0∧p.2.norm ([],[])=mk [] [] | (.inr r2)=>p.1= .ret∧fin Try.prog cfg 211 Try.f211 [.im 2 false [.cp (u_S_l23Map m_0) 0],.im 2 false [W 1 eI placed_1],.im 2 false [I k_2]] p.2=some (B0 [(false,[.im 0 (V r2)])])) hl (by kernel_rfl) ?_ ?_ ?_
  ·intro o p hp e
   rcases o with u | r2<;>exact nomatch (hp.1.symm.trans e)
  ·rintro j_7_l4 o h
   unfold spec_l23Trapped_l4 at h
   refine gs<|gs<|?_
   obtain ⟨x21,hx21,h⟩:=bs h
   refine g0 j j (q (oMv j j)<|q (oMv j j)<|q (oNl j j j)<|q (oFA (r':=.im 2 _) j fF208_0 j j)<|q (oLd (cs:=[.im 2 _]) j tF85 j j)<|q (oMv j j)<|q (oIAI j hx21 sF85 j j)<|q (oLd (cs:=[.im 2 _]) j tF28 j j)<|q (oLnI j j uF28 j)<|q (oBi j j j j)<|nl)<|us<|gc h j iDec (fun hc6 h=>?_) fun hc6 h=>?_
   ·refine Go.skip<|us<|gs<|Go.block<|gs<|?_
    obtain ⟨x33,hx33,h⟩:=bs h
    obtain ⟨x36,hx36,h⟩:=bs h
    obtain ⟨x38,hx38,h⟩:=bs h
    refine g0 j j (q (oMv j j)<|q (oMv j j)<|q (oNl j j j)<|q (oFA (r':=.im 2 _) j fF208_0 j j)<|q (oLd (cs:=[.im 2 _]) j tF85 j j)<|q (oMv j j)<|q (oIAI j hx33 sF85 j j)<|q (oLd (cs:=[.im 2 _]) j tF28 j j)<|q (oMv j j)<|q (oIAI j hx36 sF28 j j)<|q (oLd (cs:=[.im 2 _]) j tF2 j j)<|q (oCa (xs:=[.v false [.im 2 _],.v false [.im 2 _]]) (vs:=[(false,[.im 0 _])]) (v:=.v false [.im 0 _]) (L_spec_l00Has hx38) (.inl j) j kF199_28_2 j (ppC j (ppC j pp0)) j j pb0 j j j)<|q (oUn j j j)<|nl)<|us<|?_
    by_cases hc7:x38=true
    ·rw [if_pos hc7] at h
     refine gF j (nF (iR.2 hc7))<|Go.skip<|Unw.blk<|us<|g0 j j (q (oMv j j)<|q (oBi j j j j)<|q (oAsI j j)<|nl)<|Unw.nil<|?_
     cases h
     exact ⟨j,(by kernel_rfl)⟩
    ·rw [if_neg hc7] at h
     refine gT j (nT (byF iR hc7))<|gs<|g0 j j (q (oAsI j j)<|nl)<|us<|Go.ret (Unw.ret ?_)
     cases h
     exact ⟨j,(fo rF211 j)⟩
   ·refine Go.exit<|ux<|Unw.nil<|?_
    cases h
    exact ⟨j,(by kernel_rfl)⟩
  ·rintro ⟨e,st⟩ hp
   rcases o with u | r2
   ·dsimp only at h
    obtain ⟨he,hst⟩:=hp
    obtain rfl:e= .exit 0:=he
    refine Unw.blkx<|us<|gs<|g2 c211 j j hst (q (oAsI j j)<|nl)<|us<|Go.ret (Unw.ret ?_)
    cases h
    exact fr rF211 j
   ·dsimp only at h
    obtain ⟨he,hfin⟩:=hp
    obtain rfl:e= .ret:=he
    cases h
    exact Unw.ret (Fin_ret hfin)
theorem L_spec_l23Kind {m_0:S_l23Map} {placed_1:(List Int)} {k_2:Int} {r:Int} (h:spec_l23Kind m_0 placed_1 k_2=some r):FX 200 [.im 2 false [.cp (u_S_l23Map m_0) 0],.im 2 false [W 1 eI placed_1],.im 2 false [I k_2]] (B0 [(false,[.im 0 (I r)])]):=by
 unfold spec_l23Kind at h
 refine gn 16 Try.func200 rfl ?_
 refine gs<|g0 j j (q (oAsI j j)<|nl)<|us<|gs<|gs<|?_
 obtain ⟨x10,hx10,h⟩:=bs h
 refine g0 j j (q (oMv j j)<|q (oMv j j)<|q (oMv j j)<|q (oCa (xs:=[.v false [.im 2 _],.v false [.im 2 _],.v false [.im 2 _]]) (vs:=[(false,[.im 0 _])]) (v:=.v false [.im 0 _]) (L_spec_l23Held hx10) (.inl j) j kF210_129_28_2 j (ppC j (ppC j (ppC j pp0))) j j pb0 j j j)<|q (oUn j j j)<|nl)<|us<|?_
 by_cases hc1:x10=true
 ·rw [if_pos hc1] at h
  refine gF j (nF (iR.2 hc1))<|Go.skip<|us<|gs<|gs<|?_
  obtain ⟨x15,hx15,h⟩:=bs h
  refine g0 j j (q (oMv j j)<|q (oMv j j)<|q (oMv j j)<|q (oCa (xs:=[.v false [.im 2 _],.v false [.im 2 _],.v false [.im 2 _]]) (vs:=[(false,[.im 0 _])]) (v:=.v false [.im 0 _]) (L_spec_l23Trapped hx15) (.inl j) j kF211_129_28_2 j (ppC j (ppC j (ppC j pp0))) j j pb0 j j j)<|nl)<|us<|gc h j iR (fun hc2 h=>?_) fun hc2 h=>?_
  ·refine gs<|g0 j j (q (oAsI j j)<|nl)<|us<|Go.ret (Unw.ret ?_)
   cases h
   exact fr rF200 j
  ·refine Go.skip<|us<|gs<|g0 j j (q (oAsI j j)<|nl)<|us<|Go.ret (Unw.ret ?_)
   cases h
   exact fr rF200 j
 ·rw [if_neg hc1] at h
  refine gT j (nT (byF iR hc1))<|gs<|g0 j j (q (oAsI j j)<|nl)<|us<|Go.ret (Unw.ret ?_)
  cases h
  exact fr rF200 j
theorem L_spec_l23Next {m_0:S_l23Map} {placed_1:(List Int)} {r:(List Int)} (h:spec_l23Next m_0 placed_1=some r):FX 173 [.im 2 false [.cp (u_S_l23Map m_0) 0],.im 2 false [W 1 eI placed_1]] (B0 [(false,[.ow 0 1 (List.map eI r)])]):=by
 unfold spec_l23Next at h
 refine gn 33 Try.func173 rfl ?_
 refine gs<|g0 j j (q (oAsN j j eF28)<|nl)<|us<|gs<|g0 j j (q (oBS (es:=List.map eI ([]:List Int)) j sF28 j pt0 (flat0 j fun _=>j))<|q (oAsO j j j j j)<|nl)<|us<|gs<|gs<|g0 j j (q (oAsI j j)<|nl)<|us<|Go.block<|?_
 obtain ⟨o,hl,h⟩:=bs h
 refine gl c173 j _ (fun (s:(Int×(List Int)))=>match s with | (k_6_l3,out_o5_l3)=>mk [(0,D 2 (.cp (u_S_l23Map m_0) 0)),(1,D 2 (W 1 eI placed_1)),(5,H 5 0),(6,iv k_6_l3)] [(5,Oc [Z (W 1 eI out_o5_l3)])]) (fun (out_o5_e0_3:(List Int)) (p:Ex×St)=>p.1= .exit 0∧p.2.norm ([5],[5])=mk [(5,H 5 0)] [(5,Oc [Z (W 1 eI out_o5_e0_3)])]) hl (by kernel_rfl) ?_ ?_ ?_
 ·intro o p hp e
  exact nomatch (hp.1.symm.trans e)
 ·rintro ⟨k_6_l3,out_o5_l3⟩ o h
  unfold spec_l23Next_l3 at h
  dsimp only at h
  refine gs<|gs<|g0 j j (q (oMv j j)<|q (oMv j j)<|q (oNl j j j)<|q (oFA (r':=.im 2 _) j fF208_0 j j)<|q (oLd (cs:=[.im 2 _]) j tF85 j j)<|q (oLnI j j uF85 j)<|q (oBi j j j j)<|nl)<|us<|gc h j iDec (fun hc9 h=>?_) fun hc9 h=>?_
  ·refine Go.skip<|us<|gs<|Go.join (fun st=>∃out_o5_r4,spec_l23Next_k4 k_6_l3 out_o5_r4=some o∧st.norm ([0,1,5,6],[5])=mk [(0,D 2 (.cp (u_S_l23Map m_0) 0)),(1,D 2 (W 1 eI placed_1)),(5,H 5 0),(6,iv k_6_l3)] [(5,Oc [Z (W 1 eI out_o5_r4)])]) ?_ ?_
   ·rintro st ⟨out_o5_r4,h,hst⟩
    unfold spec_l23Next_k4 at h
    refine us<|g2 c173 j j hst (q (oMv j j)<|q (oBi j j j j)<|q (oAsI j j)<|nl)<|Unw.nil<|?_
    cases h
    exact ⟨j,(by kernel_rfl)⟩
   ·intro K13
    refine Go.block<|gs<|?_
    obtain ⟨x19,hx19,h⟩:=bs h
    obtain ⟨t_27_m5,hm16,h⟩:=bs h
    refine gX c173 j j j (mk [(0,D 2 (.cp (u_S_l23Map m_0) 0)),(1,D 2 (W 1 eI placed_1)),(5,H 5 0),(6,iv k_6_l3),(27,bv t_27_m5)] [(5,Oc [Z (W 1 eI out_o5_l3)])]) ?_ ?_
    ·refine xq (oMv j j)<|xq (oMv j j)<|xq (oCa (xs:=[.v false [.im 2 _],.v false [.im 0 _]]) (vs:=[(false,[.im 0 _])]) (v:=.v false [.im 0 _]) (L_spec_l00Has hx19) (.inl j) j kF199_28_2 j (ppC j (ppC j pp0)) j j pb0 j j j)<|xq (oUn j j j)<|xq (oMv j j)<|?_
     refine ic hm16 (fun hc14 hm16=>?_) fun hc14 hm16=>?_
     ·cases hm16
      exact xsgF j j (nF (iR.2 hc14)) j<|xsgF j j (nF (iR.2 hc14)) j<|xsgF j j (nF (iR.2 hc14)) j<|xsgF j j (nF (iR.2 hc14)) j<|xsgF j j (nF (iR.2 hc14)) j<|xq (oPkF j j (nF (iR.2 hc14)) j)<|xn
     ·obtain ⟨x25,hx25,hm16⟩:=bs hm16
      cases hm16
      exact xqT j j (nT (byF iR hc14)) (oMv j j)<|xqT j j (nT (byF iR hc14)) (oMv j j)<|xqT j j (nT (byF iR hc14)) (oMv j j)<|xqT j j (nT (byF iR hc14)) (oCa (xs:=[.v false [.im 2 _],.v false [.im 2 _],.v false [.im 0 _]]) (vs:=[(false,[.im 0 _])]) (v:=.v false [.im 0 _]) (L_spec_l23Kind hx25) (.inl j) j kF200_129_28_2 j (ppC j (ppC j (ppC j pp0))) j j pb0 j j j)<|xqT j j (nT (byF iR hc14)) (oBi j j j j)<|xq (oPkT j j (nT (byF iR hc14)) j)<|xn
    ·refine us<|gc h j iR (fun hc15 h=>?_) fun hc15 h=>?_
     ·obtain ⟨x31,hx31,h⟩:=bs h
      exact g0 j j (q (oMv j j)<|q (oMv j j)<|q (oBS (es:=List.map eI ([k_6_l3]:List Int)) j sF28 j (ptC j (fxI fx0) j pt0) (flat0 j fun _=>j))<|q (oApO (en:=eI) (M:=([k_6_l3]:List Int)) j hx31 j sF28 j j uF28 (.inl ⟨_,j⟩) j j j j (el_own j j) (flat0 j fun _=>j))<|q (oAsO j j j j j)<|nl)<|Unw.blk<|K13 _ ⟨x31,h,(by kernel_rfl)⟩
     ·exact Go.skip<|Unw.blk<|K13 _ ⟨out_o5_l3,h,(by kernel_rfl)⟩
  ·refine Go.exit<|ux<|Unw.nil<|?_
   cases h
   exact ⟨j,(by kernel_rfl)⟩
 ·rintro ⟨e,st⟩ hp
  obtain ⟨out_o5_e0_3,rfl⟩:∃y,y=o:=⟨o,rfl⟩
  obtain ⟨he,hst⟩:=hp
  obtain rfl:e= .exit 0:=he
  refine Unw.blkx<|us<|gs<|g2 c173 j j hst (q (oMv j j)<|q (oAsO j j j j j)<|nl)<|us<|Go.ret (Unw.ret ?_)
  cases h
  exact fr rF173 j
theorem L_spec_l23Search_visit_F {self:S_l23Search→Option (Bool×S_l23Search)} (ih:∀{x_0:S_l23Search} {r:(Bool×S_l23Search)},self x_0=some r→FX 137 [.ptr true [(.imm,.cp (u_S_l23Map x_0.m) 0),(.sh,W 1 eI x_0.order),(.imm,V x_0.first),(.sh,W 1 eI x_0.best),(.imm,I x_0.count),(.imm,I x_0.nodes),(.imm,I x_0.budget)]] ([(false,[.im 0 (V r.1)])],[.ptr true [(.imm,.cp (u_S_l23Map r.2.m) 0),(.sh,W 1 eI r.2.order),(.imm,V r.2.first),(.sh,W 1 eI r.2.best),(.imm,I r.2.count),(.imm,I r.2.nodes),(.imm,I r.2.budget)]])) {x_0:S_l23Search} {r:(Bool×S_l23Search)} (h:spec_l23Search_visit_F self x_0=some r):FX 137 [.ptr true [(.imm,.cp (u_S_l23Map x_0.m) 0),(.sh,W 1 eI x_0.order),(.imm,V x_0.first),(.sh,W 1 eI x_0.best),(.imm,I x_0.count),(.imm,I x_0.nodes),(.imm,I x_0.budget)]] ([(false,[.im 0 (V r.1)])],[.ptr true [(.imm,.cp (u_S_l23Map r.2.m) 0),(.sh,W 1 eI r.2.order),(.imm,V r.2.first),(.sh,W 1 eI r.2.best),(.imm,I r.2.count),(.imm,I r.2.nodes),(.imm,I r.2.budget)]]):=by
 unfold spec_l23Search_visit_F at h
 refine FL_goS (A:=[(0,M 0)]) (B:=[(0,Od [Ct 1 (.cp (u_S_l23Map x_0.m) 0),Z (W 1 eI x_0.order),C (V x_0.first),Z (W 1 eI x_0.best),C (I x_0.count),C (I x_0.nodes),C (I x_0.budget)])]) (nt:=107) rfl rfl Try.func137 rfl rfl rfl rfl ?_
 refine gs<|g0 j j (q (oAsI j j)<|nl)<|us<|gs<|g0 j j (q (oMv j j)<|q (oNl j j j)<|q (oFA (r':=.mp 0 0 5) j fF131_5 j j)<|q (oLd (cs:=[.im 0 _]) j tF2 j j)<|q (oBi j j j j)<|q (oNl j j j)<|q (oFA (r':=.mp 0 0 5) j fF131_5 j j)<|q (oSt tF2 j j j (tkI tk0) j j j)<|nl)<|us<|gs<|gs<|gd c137 j j j (st1:=mk [(0,M 0)] [(0,Od [Ct 1 (.cp (u_S_l23Map x_0.m) 0),Z (W 1 eI x_0.order),C (V x_0.first),Z (W 1 eI x_0.best),C (I x_0.count),C (I (w64 (x_0.nodes+1))),C (I x_0.budget)])]) (by kernel_rfl) (mk [(0,M 0),(21,bv (decide ((w64 (x_0.nodes+1)) >x_0.budget)))] [(0,Od [Ct 1 (.cp (u_S_l23Map x_0.m) 0),Z (W 1 eI x_0.order),C (V x_0.first),Z (W 1 eI x_0.best),C (I x_0.count),C (I (w64 (x_0.nodes+1))),C (I x_0.budget)])]) (t j j (oMv j j)<|t j j (oNl j j j)<|t j j (oFA (r':=.mp 0 0 5) j fF131_5 j j)<|t j j (oLd (cs:=[.im 0 _]) j tF2 j j)<|t j j (oMv j j)<|t j j (oNl j j j)<|t j j (oFA (r':=.mp 0 0 6) j fF131_6 j j)<|t j j (oLd (cs:=[.im 0 _]) j tF2 j j)<|t j j (oBi j j j j)<|sD (by kernel_rfl))<|us<|gc h j iDec (fun hc1 h=>?_) fun hc1 h=>?_
 ·refine gs<|g0 j j (q (oAsI j j)<|nl)<|us<|Go.ret (Unw.ret ?_)
  cases h
  exact fr rF137 j
 ·refine Go.skip<|us<|gs<|gs<|gd c137 j j j j (mk [(0,M 0),(35,bv ((x_0.order.length:Int)==(x_0.m.near.length:Int)))] [(0,Od [Ct 1 (.cp (u_S_l23Map x_0.m) 0),Z (W 1 eI x_0.order),C (V x_0.first),Z (W 1 eI x_0.best),C (I x_0.count),C (I (w64 (x_0.nodes+1))),C (I x_0.budget)])]) (t j j (oMv j j)<|t j j (oNl j j j)<|t j j (oFA (r':=.mp 0 0 1) j fF131_1 j j)<|t j j (oLd (cs:=[.own 0 0 1]) j tF28 j j)<|t j j (oLnO j j uF28 j j j (fun e=>nomatch e))<|t j j (oMv j j)<|t j j (oNl j j j)<|t j j (oFA (r':=.mp 0 0 0) j fF131_0 j j)<|t j j (oLd (cs:=[.im 1 _]) j tF129 j j)<|t j j (oNl j j j)<|t j j (oFA (r':=.im 1 _) j fF208_0 j j)<|t j j (oLd (cs:=[.im 1 _]) j tF85 j j)<|t j j (oLnI j j uF85 j)<|t j j (oBi j j j j)<|sD (by kernel_rfl))<|us<|gc h j iEq (fun hc2 h=>?_) fun hc2 h=>?_
  ·refine gs<|g0 j j (q (oMv j j)<|q (oNl j j j)<|q (oFA (r':=.mp 0 0 4) j fF131_4 j j)<|q (oLd (cs:=[.im 0 _]) j tF2 j j)<|q (oBi j j j j)<|q (oNl j j j)<|q (oFA (r':=.mp 0 0 4) j fF131_4 j j)<|q (oSt tF2 j j j (tkI tk0) j j j)<|nl)<|us<|gs<|gs<|g1 j j (mk [(0,M 0)] [(0,Od [Ct 1 (.cp (u_S_l23Map x_0.m) 0),Z (W 1 eI x_0.order),C (V x_0.first),Z (W 1 eI x_0.best),C (I (w64 (x_0.count+1))),C (I (w64 (x_0.nodes+1))),C (I x_0.budget)])]) (q (oMv j j)<|q (oNl j j j)<|q (oFA (r':=.mp 0 0 4) j fF131_4 j j)<|q (oLd (cs:=[.im 0 _]) j tF2 j j)<|q (oBi j j j j)<|nl)<|us<|Go.join (fun st=>∃x_o0_3_r8,spec_l23Search_visit_k8 self x_0 x_o0_3_r8=some r∧st.norm ([0],[0])=mk [(0,M 0)] [(0,Od [Ct 1 (.cp (u_S_l23Map x_0.m) 0),Z (W 1 eI x_0.order),C (V x_0.first),Z (W 1 eI x_o0_3_r8),C (I (w64 (x_0.count+1))),C (I (w64 (x_0.nodes+1))),C (I x_0.budget)])]) ?_ ?_
   ·rintro st ⟨x_o0_3_r8,h,hst⟩
    unfold spec_l23Search_visit_k8 at h
    refine us<|gs<|g2 c137 j j hst (q (oMv j j)<|q (oNl j j j)<|q (oFA (r':=.mp 0 0 2) j fF131_2 j j)<|q (oLd (cs:=[.im 0 _]) j tF4 j j)<|q (oUn j j j)<|q (oAsI j j)<|nl)<|us<|Go.ret (Unw.ret ?_)
    cases h
    exact fr rF137 j
   ·intro K4
    refine gc h j iEq (fun hc5 h=>?_) fun hc5 h=>?_
    ·obtain ⟨x53,hx53,h⟩:=bs h
     exact g0 j j (q (oMv j j)<|q (oMv j j)<|q (oNl j j j)<|q (oFA (r':=.mp 0 0 1) j fF131_1 j j)<|q (oLd (cs:=[.own 0 0 1]) j tF28 j j)<|q (oCr (xs:=[.v false [.own 0 0 1]]) (vs:=[(false,[.own 53 0 0])]) (v:=.v false [.own 53 0 0]) (c:=⟨.sh,0,_⟩) (cs:=[]) (L_spec_l00Own hx53) (.inl j) j kF69_28 j (ppC j pp0) j j pb0 j j j)<|q (oNl j j j)<|q (oFA (r':=.mp 0 0 3) j fF131_3 j j)<|q (oSt tF28 j j j (tkO j j tk0) j j j)<|nl)<|K4 _ ⟨x53,h,(by kernel_rfl)⟩
    ·exact Go.skip<|K4 _ ⟨x_0.best,h,(by kernel_rfl)⟩
  ·refine Go.skip<|us<|gs<|?_
   obtain ⟨x69,hx69,h⟩:=bs h
   refine gd c137 j j j j (mk [(0,M 0),(3,H 3 0)] [(0,Od [Ct 1 (.cp (u_S_l23Map x_0.m) 0),Z (W 1 eI x_0.order),C (V x_0.first),Z (W 1 eI x_0.best),C (I x_0.count),C (I (w64 (x_0.nodes+1))),C (I x_0.budget)]),(3,Oc [Z (W 1 eI x69)])]) (t j j (oMv j j)<|t j j (oNl j j j)<|t j j (oFA (r':=.mp 0 0 0) j fF131_0 j j)<|t j j (oLd (cs:=[.im 1 _]) j tF129 j j)<|t j j (oMv j j)<|t j j (oNl j j j)<|t j j (oFA (r':=.mp 0 0 1) j fF131_1 j j)<|t j j (oLd (cs:=[.own 0 0 1]) j tF28 j j)<|sS (dN z137 j (oCr (xs:=[.v false [.im 1 _],.v false [.own 0 0 1]]) (vs:=[(false,[.own 69 0 0])]) (v:=.v false [.own 69 0 0]) (c:=⟨.sh,0,_⟩) (cs:=[]) (L_spec_l23Next hx69) (.inl j) j kF173_129_28 j (ppC j (ppC j pp0)) j j pb0 j j j)) trivial (sS (dN z137 j (oAsO j j j j j)) trivial (sD (by kernel_rfl))))<|us<|gs<|gs<|g0 j j (q (oAsI j j)<|nl)<|us<|Go.block<|?_
   obtain ⟨o,hl,h⟩:=bs h
   refine gl c137 j _ (fun (s:(Int×(List (List Int))×(List Bool)×(List Int)×Bool×(List Int)×Int×Int×Int))=>match s with | (i_4_l11,x_o0_0_0_l11,x_o0_0_1_l11,x_o0_1_l11,x_o0_2_l11,x_o0_3_l11,x_o0_4_l11,x_o0_5_l11,x_o0_6_l11)=>mk [(0,M 0),(3,H 3 0),(4,iv i_4_l11)] [(0,Od [Ct 1 (.cp [W 1 (eL 1 eI) x_o0_0_0_l11,W 1 eB x_o0_0_1_l11] 0),Z (W 1 eI x_o0_1_l11),C (V x_o0_2_l11),Z (W 1 eI x_o0_3_l11),C (I x_o0_4_l11),C (I x_o0_5_l11),C (I x_o0_6_l11)]),(3,Oc [Z (W 1 eI x69)])]) (fun (o:(((List (List Int))×(List Bool)×(List Int)×Bool×(List Int)×Int×Int×Int) ⊕ (Bool×S_l23Search))) (p:Ex×St)=>match o with | (.inl (x_o0_0_0_e0_11,x_o0_0_1_e0_11,x_o0_1_e0_11,x_o0_2_e0_11,x_o0_3_e0_11,x_o0_4_e0_11,x_o0_5_e0_11,x_o0_6_e0_11))=>p.1= .exit 0∧p.2.norm ([],[0])=mk [] [(0,Od [Ct 1 (.cp [W 1 (eL 1 eI) x_o0_0_0_e0_11,W 1 eB x_o0_0_1_e0_11] 0),Z (W 1 eI x_o0_1_e0_11),C (V x_o0_2_e0_11),Z (W 1 eI x_o0_3_e0_11),C (I x_o0_4_e0_11),C (I x_o0_5_e0_11),C (I x_o0_6_e0_11)])] | (.inr r2)=>p.1= .ret∧fin Try.prog cfg 137 Try.f137 [.ptr true [(.imm,.cp (u_S_l23Map x_0.m) 0),(.sh,W 1 eI x_0.order),(.imm,V x_0.first),(.sh,W 1 eI x_0.best),(.imm,I x_0.count),(.imm,I x_0.nodes),(.imm,I x_0.budget)]] p.2=some ([(false,[.im 0 (V r2.1)])],[.ptr true [(.imm,.cp (u_S_l23Map r2.2.m) 0),(.sh,W 1 eI r2.2.order),(.imm,V r2.2.first),(.sh,W 1 eI r2.2.best),(.imm,I r2.2.count),(.imm,I r2.2.nodes),(.imm,I r2.2.budget)]])) hl (by kernel_rfl) ?_ ?_ ?_
   ·intro o p hp e
    rcases o with ⟨x_o0_0_0_e0_11,x_o0_0_1_e0_11,x_o0_1_e0_11,x_o0_2_e0_11,x_o0_3_e0_11,x_o0_4_e0_11,x_o0_5_e0_11,x_o0_6_e0_11⟩ | r2<;>exact nomatch (hp.1.symm.trans e)
   ·rintro ⟨i_4_l11,x_o0_0_0_l11,x_o0_0_1_l11,x_o0_1_l11,x_o0_2_l11,x_o0_3_l11,x_o0_4_l11,x_o0_5_l11,x_o0_6_l11⟩ o h
    unfold spec_l23Search_visit_l11 at h
    dsimp only at h
    refine gs<|gs<|g0 j j (q (oMv j j)<|q (oMv j j)<|q (oLnO j j uF28 j j j (fun e=>nomatch e))<|q (oBi j j j j)<|nl)<|us<|gc h j iDec (fun hc10 h=>?_) fun hc10 h=>?_
    ·refine Go.skip<|us<|gs<|Go.block<|gs<|?_
     obtain ⟨x83,hx83,h⟩:=bs h
     obtain ⟨x86,hx86,h⟩:=bs h
     refine gd c137 j j j j (mk [(0,M 0),(3,H 3 0),(4,iv i_4_l11)] [(0,Od [Ct 1 (.cp [W 1 (eL 1 eI) x_o0_0_0_l11,W 1 eB x_o0_0_1_l11] 0),Z (W 1 eI x86),C (V x_o0_2_l11),Z (W 1 eI x_o0_3_l11),C (I x_o0_4_l11),C (I x_o0_5_l11),C (I x_o0_6_l11)]),(3,Oc [Z (W 1 eI x69)])]) (t j j (oMv j j)<|t j j (oMv j j)<|t j j (oMv j j)<|t j j (oMv j j)<|t j j (oIAO j hx83 sF28 j j j j)<|t j j (oLdE (cs:=[.im 0 _]) j tF2 j j j j (rd_get hx83) j j)<|sK (O:=[0]) j j j (dN z137 j (oNl j j j))<|sK (O:=[0]) j j j (dN z137 j (oFA (r':=.mp 0 0 1) j fF131_1 j j))<|sK (O:=[0]) j j j (dN z137 j (oLd (cs:=[.own 0 0 1]) j tF28 j j))<|sS (dN z137 j (oBS (es:=List.map eI ([x83]:List Int)) j sF28 j (ptC j (fxI fx0) j pt0) (flat0 j fun _=>j))) (kY ⟨j,trivial⟩ (kY ⟨j,trivial⟩ (kY ⟨j,trivial⟩ trivial))) (sS (dN z137 j (oApO (en:=eI) (M:=([x83]:List Int)) j hx86 j sF28 j j uF28 (.inl ⟨_,j⟩) j j j j (el_own j j) (flat0 j fun _=>j))) (kN j (kN j (kN j trivial))) (t j j (oNl j j j)<|t j j (oFA (r':=.mp 0 0 1) j fF131_1 j j)<|sS (dN z137 j (oSt tF28 j j j (tkO j j tk0) j j j)) (kN j (kN j (kN j trivial))) (sD (by kernel_rfl)))))<|us<|gs<|?_
     obtain ⟨x90,hx90,h⟩:=bs h
     refine g0 j j (q (oMv j j)<|q (oCa (xs:=[.v false [.mp 0 0 0]]) (vs:=[(false,[.im 0 _])]) (v:=.v false [.im 0 _]) (ih hx90) (.inl j) j kF137_126 j (ppPx (ob':=⟨0,0,true,true,false,true,[Ct 1 (.cp [W 1 (eL 1 eI) x_o0_0_0_l11,W 1 eB x_o0_0_1_l11] 0),Z (W 1 eI x86),C (V x_o0_2_l11),Z (W 1 eI x_o0_3_l11),C (I x_o0_4_l11),C (I x_o0_5_l11),C (I x_o0_6_l11)]⟩) j j j (by kernel_rfl) pp0) j j (pbPx (ob':=⟨0,1,true,true,false,true,[⟨.imm,1,1,.cp (u_S_l23Map x90.2.m) 0⟩,⟨.sh,1,0,W 1 eI x90.2.order⟩,⟨.imm,1,0,V x90.2.first⟩,⟨.sh,1,0,W 1 eI x90.2.best⟩,⟨.imm,1,0,I x90.2.count⟩,⟨.imm,1,0,I x90.2.nodes⟩,⟨.imm,1,0,I x90.2.budget⟩]⟩) j j (by kernel_rfl) pb0) j j j)<|q (oAsI j j)<|nl)<|us<|gs<|?_
     obtain ⟨x102,hx102,h⟩:=bs h
     refine gd c137 j j j (st1:=mk [(0,M 0),(3,H 3 0),(4,iv i_4_l11),(5,bv x90.1)] [(0,Od [Ct 1 (.cp (u_S_l23Map x90.2.m) 0),Z (W 1 eI x90.2.order),C (V x90.2.first),Z (W 1 eI x90.2.best),C (I x90.2.count),C (I x90.2.nodes),C (I x90.2.budget)]),(3,Oc [Z (W 1 eI x69)])]) (by kernel_rfl) (mk [(0,M 0),(3,H 3 0),(4,iv i_4_l11),(5,bv x90.1)] [(0,Od [Ct 1 (.cp (u_S_l23Map x90.2.m) 0),Z (W 1 eI ((x90.2.order.take ((w64 ((x90.2.order.length:Int) - 1)).toNat)).drop 0)),C (V x90.2.first),Z (W 1 eI x90.2.best),C (I x90.2.count),C (I x90.2.nodes),C (I x90.2.budget)]),(3,Oc [Z (W 1 eI x69)])]) (t j j (oMv j j)<|t j j (oMv j j)<|t j j (oNl j j j)<|t j j (oFA (r':=.mp 0 0 1) j fF131_1 j j)<|t j j (oLd (cs:=[.own 0 0 1]) j tF28 j j)<|t j j (oMv j j)<|t j j (oNl j j j)<|t j j (oFA (r':=.mp 0 0 1) j fF131_1 j j)<|t j j (oLd (cs:=[.own 0 0 1]) j tF28 j j)<|t j j (oLnO j j uF28 j j j (fun e=>nomatch e))<|t j j (oBi j j j j)<|sS (dN z137 j (oSlO j hx102 sF28 j j j bn0 (bn1 j) j j j)) trivial (t j j (oNl j j j)<|t j j (oFA (r':=.mp 0 0 1) j fF131_1 j j)<|sS (dN z137 j (oSt tF28 j j j (tkSM j j tk0) j j j)) trivial (sD (by kernel_rfl))))<|us<|gs<|g0 j j (q (oMv j j)<|q (oUn j j j)<|nl)<|us<|?_
     by_cases hc11:x90.1=true
     ·rw [if_pos hc11] at h
      refine gF j (nF (iR.2 hc11))<|Go.skip<|Unw.blk<|us<|g0 j j (q (oMv j j)<|q (oBi j j j j)<|q (oAsI j j)<|nl)<|Unw.nil<|?_
      cases h
      exact ⟨j,(by kernel_rfl)⟩
     ·rw [if_neg hc11] at h
      refine gT j (nT (byF iR hc11))<|gs<|g0 j j (q (oAsI j j)<|nl)<|us<|Go.ret (Unw.ret ?_)
      cases h
      exact ⟨j,(fo rF137 j)⟩
    ·refine Go.exit<|ux<|Unw.nil<|?_
     cases h
     exact ⟨j,(by kernel_rfl)⟩
   ·rintro ⟨e,st⟩ hp
    rcases o with ⟨x_o0_0_0_e0_11,x_o0_0_1_e0_11,x_o0_1_e0_11,x_o0_2_e0_11,x_o0_3_e0_11,x_o0_4_e0_11,x_o0_5_e0_11,x_o0_6_e0_11⟩ | r2
    ·dsimp only at h
     obtain ⟨he,hst⟩:=hp
     obtain rfl:e= .exit 0:=he
     refine Unw.blkx<|us<|gs<|g2 c137 j j hst (q (oAsI j j)<|nl)<|us<|Go.ret (Unw.ret ?_)
     cases h
     exact fr rF137 j
    ·dsimp only at h
     obtain ⟨he,hfin⟩:=hp
     obtain rfl:e= .ret:=he
     cases h
     exact Unw.ret (Fin_ret hfin)
theorem L_spec_l23Search_visit {x_0:S_l23Search} {r:(Bool×S_l23Search)} (h:spec_l23Search_visit x_0=some r):FX 137 [.ptr true [(.imm,.cp (u_S_l23Map x_0.m) 0),(.sh,W 1 eI x_0.order),(.imm,V x_0.first),(.sh,W 1 eI x_0.best),(.imm,I x_0.count),(.imm,I x_0.nodes),(.imm,I x_0.budget)]] ([(false,[.im 0 (V r.1)])],[.ptr true [(.imm,.cp (u_S_l23Map r.2.m) 0),(.sh,W 1 eI r.2.order),(.imm,V r.2.first),(.sh,W 1 eI r.2.best),(.imm,I r.2.count),(.imm,I r.2.nodes),(.imm,I r.2.budget)]]):=by
 unfold spec_l23Search_visit at h
 obtain ⟨n,hn⟩:=fixO_iter h
 clear h
 induction n generalizing x_0 r with
 | zero=>cases hn
 | succ n ihn=>exact L_spec_l23Search_visit_F (self:=iterO _ n) (fun h=>ihn h) hn
theorem L_spec_l23Run {d_0:S_Drawing} {budget_1:Int} {first_2:Bool} {r:((Option S_l23Search)×Int)} (h:spec_l23Run d_0 budget_1 first_2=some r):FX 84 [.im 2 false [.cp (u_S_Drawing d_0) 0],.im 2 false [I budget_1],.im 2 false [V first_2]] (B0 [(false,[.im 0 (eO e_S_l23Search r.1)]),(false,[.im 0 (I r.2)])]):=by
 unfold spec_l23Run at h
 refine gn 30 Try.func84 rfl ?_
 refine gs<|g0 j j (q (oAsI j j)<|q (oAsI j j)<|nl)<|us<|gs<|gs<|?_
 obtain ⟨x10,hx10,h⟩:=bs h
 refine g0 j j (q (oMv j j)<|q (oCa (xs:=[.v false [.im 2 _]]) (vs:=[(false,[.im 0 _])]) (v:=.v false [.im 0 _]) (L_spec_l05Ok hx10) (.inl j) j kF51_81 j (ppC j pp0) j j pb0 j j j)<|q (oUn j j j)<|nl)<|us<|?_
 by_cases hc1:x10=true
 ·rw [if_pos hc1] at h
  refine gF j (nF (iR.2 hc1))<|Go.skip<|us<|gs<|gs<|?_
  obtain ⟨x13,hx13,h⟩:=bs h
  refine g0 j j (q (oMv j j)<|q (oCa (xs:=[.v false [.im 2 _],.v false [.im 0 _],.v false [.im 0 _]]) (vs:=[(false,[.im 0 _])]) (v:=.v false [.im 0 _]) (L_spec_l00In hx13) (.inl j) j kF97_2_2_2 j (ppC j (ppC j (ppC j pp0))) j j pb0 j j j)<|q (oUn j j j)<|nl)<|us<|?_
  by_cases hc2:x13=true
  ·rw [if_pos hc2] at h
   refine gF j (nF (iR.2 hc2))<|Go.skip<|us<|gs<|?_
   obtain ⟨x16,hx16,h⟩:=bs h
   refine g0 j j (q (oMv j j)<|q (oCp (xs:=[.v false [.im 2 _]]) (L_spec_l23Of hx16) (.inl j) j kF136_81 j (ppC j pp0) j j pb0 j)<|q (oMv j j)<|q (oMv j j)<|q (oBu (cs:=[.mp 16 0 0,.nil,.im 2 _,.nil,.im 0 _,.im 0 _,.im 2 _]) j bF131 j)<|q (oBx j tF131 j (tkP j j j (tkN (tkI (tkN (tkI (tkI (tkI tk0))))))))<|q (oAsP j j)<|nl)<|us<|gs<|?_
   obtain ⟨x22,hx22,h⟩:=bs h
   refine g1 j j (mk [(1,iv budget_1),(8,M 20)] [(20,Oa [C (.cp (u_S_l23Map x16) 0),Z (W 1 eI ([]:List Int)),C (V first_2),Z (W 1 eI ([]:List Int)),C (I 0),C (I 0),C (I budget_1)])]) (q (oMv j j)<|q (oCa (xs:=[.v false [.mp 20 0 0]]) (vs:=[(false,[.im 0 _])]) (v:=.v false [.im 0 _]) (L_spec_l23Search_visit hx22) (.inl j) j kF137_126 j (ppPx (ob':=⟨0,0,false,true,false,true,[C (.cp (u_S_l23Map x16) 0),Z (W 1 eI ([]:List Int)),C (V first_2),Z (W 1 eI ([]:List Int)),C (I 0),C (I 0),C (I budget_1)]⟩) j j j (by kernel_rfl) pp0) j j (pbPx (ob':=⟨0,1,false,true,false,true,[⟨.imm,1,0,.cp (u_S_l23Map x22.2.m) 0⟩,⟨.sh,1,0,W 1 eI x22.2.order⟩,⟨.imm,1,0,V x22.2.first⟩,⟨.sh,1,0,W 1 eI x22.2.best⟩,⟨.imm,1,0,I x22.2.count⟩,⟨.imm,1,0,I x22.2.nodes⟩,⟨.imm,1,0,I x22.2.budget⟩]⟩) j j (by kernel_rfl) pb0) j j j)<|nl)<|us<|gs<|gs<|g1 j j (mk [(1,iv budget_1),(8,M 20)] [(20,Oa [C (.cp (u_S_l23Map x22.2.m) 0),Z (W 1 eI x22.2.order),C (V x22.2.first),Z (W 1 eI x22.2.best),C (I x22.2.count),C (I x22.2.nodes),C (I x22.2.budget)])]) (q (oMv j j)<|q (oNl j j j)<|q (oFA (r':=.mp 20 0 5) j fF131_5 j j)<|q (oLd (cs:=[.im 0 _]) j tF2 j j)<|q (oMv j j)<|q (oBi j j j j)<|nl)<|us<|gc h j iDec (fun hc3 h=>?_) fun hc3 h=>?_
   ·refine gs<|g0 j j (q (oAsI j j)<|q (oAsI j j)<|nl)<|us<|Go.ret (Unw.ret ?_)
    cases h
    exact fr rF84 j
   ·refine Go.skip<|us<|gs<|g0 j j (q (oMv j j)<|q (oAsP j j)<|q (oAsI j j)<|nl)<|us<|Go.ret (Unw.ret ?_)
    cases h
    exact fr rF84 j
  ·rw [if_neg hc2] at h
   refine gT j (nT (byF iR hc2))<|gs<|g0 j j (q (oAsI j j)<|q (oAsI j j)<|nl)<|us<|Go.ret (Unw.ret ?_)
   cases h
   exact fr rF84 j
 ·rw [if_neg hc1] at h
  refine gT j (nT (byF iR hc1))<|gs<|g0 j j (q (oAsI j j)<|q (oAsI j j)<|nl)<|us<|Go.ret (Unw.ret ?_)
  cases h
  exact fr rF84 j
theorem L_spec_FirstAssembly {d_0:S_Drawing} {budget_1:Int} {r:((List Int)×Int)} (h:spec_FirstAssembly d_0 budget_1=some r):FX 38 [.im 2 true (u_S_Drawing d_0),.im 2 false [I budget_1]] (B0 [(false,[.ow 0 1 (List.map eI r.1)]),(false,[.im 0 (I r.2)])]):=by
 unfold spec_FirstAssembly at h
 refine gn 26 Try.func38 rfl ?_
 refine gs<|g0 j j (q (oBx j tF26 j (tkI (tkI (tkI (tkI tk0)))))<|q (oAsN j j eF28)<|q (oAsI j j)<|nl)<|us<|gs<|?_
 obtain ⟨x10,hx10,h⟩:=bs h
 refine g0 j j (q (oMv j j)<|q (oCa (xs:=[.v false [.mp 2 0 0],.v false [.im 2 _],.v false [.im 0 _]]) (vs:=[(false,[.im 0 (eO e_S_l23Search x10.1)]),(false,[.im 0 (I x10.2)])]) (v:=.tup [(false,[.im 0 _]),(false,[.im 0 _])]) (L_spec_l23Run hx10) (.inl j) j kF84_81_2_4 j (ppC j (ppC j (ppC j pp0))) j j pb0 j (by cases x10.1<;>kernel_rfl) j)<|q (oMvT j j)<|q (oEx j j j)<|q (oEx j j j)<|q (oAsI j j)<|q (oAsI j j)<|nl)<|us<|gs<|gs<|g0 j j (q (oMv j j)<|q (oBi j j j j)<|nl)<|us<|gc h j iNe (fun hc1 h=>?_) fun hc1 h=>?_
 ·refine gs<|g0 j j (q (oMv j j)<|q (oAsN j j eF28)<|q (oAsI j j)<|nl)<|us<|Go.ret (Unw.ret ?_)
  cases h
  exact fr rF38 j
 ·refine Go.skip<|us<|gs<|gs<|?_
  revert h
  cases x10.1 with
  | none=>
   intro h
   cases h
  | some ohc2=>
   intro h
   refine g0 j j (q (oMv j j)<|q (oNl j j j)<|q (oFA (r':=.im 0 _) j fF131_4 j j)<|q (oLd (cs:=[.im 0 _]) j tF2 j j)<|q (oBi j j j j)<|nl)<|us<|gc h j iEq (fun hc3 h=>?_) fun hc3 h=>?_
   ·refine gs<|g0 j j (q (oAsN j j eF28)<|q (oAsI j j)<|nl)<|us<|Go.ret (Unw.ret ?_)
    cases h
    exact fr rF38 j
   ·refine Go.skip<|us<|gs<|?_
    obtain ⟨x25,hx25,h⟩:=bs h
    refine g0 j j (q (oMv j j)<|q (oNl j j j)<|q (oFA (r':=.im 0 _) j fF131_3 j j)<|q (oLd (cs:=[.im 0 _]) j tF28 j j)<|q (oCr (xs:=[.v false [.im 0 _]]) (vs:=[(false,[.own 25 0 0])]) (v:=.v false [.own 25 0 0]) (c:=⟨.sh,0,_⟩) (cs:=[]) (L_spec_l00Own hx25) (.inl j) j kF69_28 j (ppC j pp0) j j pb0 j j j)<|q (oAsO j j j j j)<|q (oAsI j j)<|nl)<|us<|Go.ret (Unw.ret ?_)
    cases h
    exact fr rF38 j
theorem L_impl_within {n_0:Int} {low_1:Int} {high_2:Int} {r:Bool} (h:impl_within n_0 low_1 high_2=some r):FX 79 [.im 2 false [I n_0],.im 2 false [I low_1],.im 2 false [I high_2]] (B0 [(false,[.im 0 (V r)])]):=by
 unfold impl_within at h
 refine gn 15 Try.func79 rfl ?_
 refine gs<|g0 j j (q (oAsI j j)<|nl)<|us<|gs<|gX c79 j j j (mk [(6,bv ((decide (n_0≥low_1))&&(decide (n_0≤high_2))))] []) ?_ ?_
 ·refine xq (oMv j j)<|xq (oMv j j)<|xq (oBi j j j j)<|xq (oMv j j)<|?_
  by_cases hc1:n_0≥low_1
  ·exact xqT rfl rfl (iDec.2 hc1) (oMv rfl rfl)<|xqT rfl rfl (iDec.2 hc1) (oMv rfl rfl)<|xqT rfl rfl (iDec.2 hc1) (oBi rfl rfl rfl rfl)<|xq (oPkT rfl rfl (iDec.2 hc1) rfl)<|xq (oAsI rfl rfl)<|xn (Eq.trans (b:=(fun t_6_m1:Bool=>mk [(6,bv t_6_m1)] []) (decide (n_0≤high_2))) (by kernel_rfl) (congrArg (fun t_6_m1:Bool=>mk [(6,bv t_6_m1)] []) (by first | rfl | (simp [(iDec.2 hc1)];done) | (simp [(iDec.2 hc1)];omega))))
  ·exact xsgF rfl rfl (byF iDec hc1) rfl<|xsgF rfl rfl (byF iDec hc1) rfl<|xsgF rfl rfl (byF iDec hc1) rfl<|xq (oPkF rfl rfl (byF iDec hc1) rfl)<|xq (oAsI rfl rfl)<|xn (Eq.trans (b:=(fun t_6_m1:Bool=>mk [(6,bv t_6_m1)] []) false) (by kernel_rfl) (congrArg (fun t_6_m1:Bool=>mk [(6,bv t_6_m1)] []) (by first | rfl | (simp [(byF iDec hc1)];done) | (simp [(byF iDec hc1)];omega))))
 ·refine us<|Go.ret (Unw.ret ?_)
  cases h
  exact fr rF79 j
theorem L_slices_Index_impl_Point_impl_Point {s_0:(List S_Point)} {v_1:S_Point} {r:Int} (h:slices_Index_impl_Point_impl_Point s_0 v_1=some r):FX 149 [.im 2 false [W 2 e_S_Point s_0],.im 2 true (u_S_Point v_1)] (B0 [(false,[.im 0 (I r)])]):=by
 unfold slices_Index_impl_Point_impl_Point at h
 refine gn 19 Try.func149 rfl ?_
 refine gs<|g0 j j (q (oBx j tF155 j (tkI (tkI tk0)))<|q (oAsI j j)<|nl)<|us<|gs<|gs<|g0 j j (q (oMv j j)<|q (oLnI j j uF23 j)<|q (oMv j j)<|nl)<|us<|Go.block<|?_
 obtain ⟨o,hl,h⟩:=bs h
 refine gl c149 j _ (fun (t_8_l2:Int)=>mk [(0,D 2 (W 2 e_S_Point s_0)),(3,M 3),(7,iv (s_0.length:Int)),(8,iv t_8_l2)] [(3,Oa (G 0 (u_S_Point v_1)))]) (fun (o:(Unit ⊕ Int)) (p:Ex×St)=>match o with | (.inl _)=>p.1= .exit 0∧p.2.norm ([],[])=mk [] [] | (.inr r2)=>p.1= .ret∧fin Try.prog cfg 149 Try.f149 [.im 2 false [W 2 e_S_Point s_0],.im 2 true (u_S_Point v_1)] p.2=some (B0 [(false,[.im 0 (I r2)])])) hl (by kernel_rfl) ?_ ?_ ?_
 ·intro o p hp e
  rcases o with u | r2<;>exact nomatch (hp.1.symm.trans e)
 ·rintro t_8_l2 o h
  unfold slices_Index_impl_Point_impl_Point_l2 at h
  refine gs<|g0 j j (q (oBi j j j j)<|nl)<|us<|gs<|gc h j iDec (fun hc5 h=>?_) fun hc5 h=>?_
  ·refine Go.skip<|us<|gs<|Go.block<|gs<|g0 j j (q (oMv j j)<|q (oAsI j j)<|nl)<|us<|gs<|?_
   obtain ⟨x14,hx14,h⟩:=bs h
   refine gd c149 j j j j (mk [(0,D 2 (W 2 e_S_Point s_0)),(3,M 3),(5,iv t_8_l2),(7,iv (s_0.length:Int)),(8,iv t_8_l2),(16,bv ((v_1.X==x14.X)&&(v_1.Y==x14.Y)))] [(3,Oa (G 0 (u_S_Point v_1)))]) (t j j (oLd (cs:=[.im 0 _,.im 0 _]) j tF155 j j)<|t j j (oMv j j)<|t j j (oMv j j)<|t j j (oIAI j hx14 sF23 j j)<|t j j (oLd (cs:=[.im 2 _,.im 2 _]) j tF155 j j)<|t j j (oBa j (qEF155 v_1.X v_1.Y x14.X x14.Y) j j j j)<|sD (by kernel_rfl))<|us<|gc h j (iAnd iEq iEq) (fun hc6 h=>?_) fun hc6 h=>?_
   ·refine gs<|g0 j j (q (oMv j j)<|q (oAsI j j)<|nl)<|us<|Go.ret (Unw.ret ?_)
    cases h
    exact ⟨j,(fo rF149 j)⟩
   ·refine Go.skip<|Unw.blk<|us<|g0 j j (q (oBi j j j j)<|q (oMv j j)<|nl)<|Unw.nil<|?_
    cases h
    exact ⟨j,(by kernel_rfl)⟩
  ·refine Go.exit<|ux<|Unw.nil<|?_
   cases h
   exact ⟨j,(by kernel_rfl)⟩
 ·rintro ⟨e,st⟩ hp
  rcases o with u | r2
  ·dsimp only at h
   obtain ⟨he,hst⟩:=hp
   obtain rfl:e= .exit 0:=he
   refine Unw.blkx<|us<|gs<|g2 c149 j j hst (q (oAsI j j)<|nl)<|us<|Go.ret (Unw.ret ?_)
   cases h
   exact fr rF149 j
  ·dsimp only at h
   obtain ⟨he,hfin⟩:=hp
   obtain rfl:e= .ret:=he
   cases h
   exact Unw.ret (Fin_ret hfin)
theorem L_slices_Contains_impl_Point_impl_Point {s_0:(List S_Point)} {v_1:S_Point} {r:Bool} (h:slices_Contains_impl_Point_impl_Point s_0 v_1=some r):FX 105 [.im 2 false [W 2 e_S_Point s_0],.im 2 true (u_S_Point v_1)] (B0 [(false,[.im 0 (V r)])]):=by
 unfold slices_Contains_impl_Point_impl_Point at h
 refine gn 9 Try.func105 rfl ?_
 refine gs<|g0 j j (q (oBx j tF155 j (tkI (tkI tk0)))<|q (oAsI j j)<|nl)<|us<|gs<|?_
 obtain ⟨x7,hx7,h⟩:=bs h
 refine g0 j j (q (oMv j j)<|q (oLd (cs:=[.im 0 _,.im 0 _]) j tF155 j j)<|q (oCa (xs:=[.v false [.im 2 _],.v true [.im 0 _,.im 0 _]]) (vs:=[(false,[.im 0 _])]) (v:=.v false [.im 0 _]) (L_slices_Index_impl_Point_impl_Point hx7) (.inl j) j kF149_23_155 j (ppC j (ppC j pp0)) j j pb0 j j j)<|q (oBi j j j j)<|q (oAsI j j)<|nl)<|us<|Go.ret (Unw.ret ?_)
 cases h
 exact fr rF105 j
end
end Go.Proofs.Ytfjmlccolihpmaa
