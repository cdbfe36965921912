/- The machine answers, at each function of the program that is reached, what its plain function answers. Conditions: none. -/
import Derived.Test.YtdibfdcmbjaejaaProg
import Derived.KernelRfl
import Derived.Test.YtdibfdcmbjaejaaSimRs
import Derived.Test.YtdibfdcmbjaejaaTtpT
namespace Go.Proofs.Ytdibfdcmbjaejaa
open Go Go.Sim Go.Pw Go.Proofs
set_option linter.unusedVariables false
set_option linter.unusedSimpArgs false
set_option maxRecDepth 100000
set_option maxHeartbeats 4000000
noncomputable section
noncomputable abbrev u_S_Point (x:S_Point):List AV:=[I x.X,I x.Y]
noncomputable def e_S_Point (x:S_Point):AV:= .agg (u_S_Point x)
noncomputable abbrev u_S_Face (x:S_Face):List AV:=[Y x.Name,W 1 eI x.Ring]
noncomputable def e_S_Face (x:S_Face):AV:= .agg (u_S_Face x)
noncomputable abbrev u_S_Drawing (x:S_Drawing):List AV:=[I x.Width,I x.Height,W 2 e_S_Point x.Points,W 2 e_S_Face x.Faces]
noncomputable abbrev u_S_l00Src (x:S_l00Src):List AV:=[W 1 (eK .u8) x.code,I x.at_,.sc (.int .u64 x.seed)]
noncomputable abbrev u_S_sides (x:S_sides):List AV:=[W 1 (eL 1 eI) x.near,W 1 eB x.border]
noncomputable abbrev u_Ar2_Int (x:Ar2_Int):List AV:=[I x.e0,I x.e1]
noncomputable def e_Ar2_Int (x:Ar2_Int):AV:= .agg (u_Ar2_Int x)
noncomputable abbrev u_S_assemblySearch (x:S_assemblySearch):List AV:=[W 1 (eL 1 eI) x.sides.near,W 1 eB x.sides.border,I x.left,I x.found,W 1 eI x.first,V x.one]
noncomputable def e_S_assemblySearch (x:S_assemblySearch):AV:= .agg (u_S_assemblySearch x)
noncomputable def fc3:FCfg:={par:=[.cst false],inn:=[(4,some ([3],[3])),(21,some ([],[]))],out:=[(7,some ([3,4,5,6,8,49],[3,4,6,8])),(11,some ([2],[])),(12,some ([3,4,8,78],[3,4,8])),(17,some ([3,4,8,12,120],[3,4,8])),(19,some ([3,4,8,12,137],[3,4,8]))],loopK:=[(15,([3,4,8,12],[3,4,8]))],frz:=[],sch:=[(17,.first 0 (rg [2,36]) [1]<| .first 1 (rg [2,36]) []<| .first 2 (rg [3,36]) []<| .first 3 (rg [4,36]) []<| .first 4 (rg [5,36]) []<| .first 5 (rg [6,36]) []<| .first 6 (rg [8,10,13,36]) [7,10,11,12]<| .first 7 (rg [8,10,13,36]) [10,11,12]<| .first 8 (rg [9,10,13,36]) [10,11,12]<| .first 9 (rg [13,36]) [10,11,12]<| .first 10 (rg [11,36]) []<| .first 11 (rg [12,36]) []<| .first 12 (rg [13,36]) []<| .first 13 (rg [14,36]) []<| .first 14 (rg [15,36]) []<| .first 15 (rg [16,36]) []<| .first 16 (rg [18,19,23,36]) [17,19,20,21,22]<| .first 17 (rg [18,19,23,36]) [19,20,21,22]<| .first 19 (rg [21,36]) [18,20]<| .first 20 (rg [21,36]) [18]<| .first 21 (rg [22,36]) [18]<| .first 22 (rg [23,36]) [18]<| .fork 18 (.fork 23 (.first 24 (rg [25,36]) []<| .first 25 (rg [26,36]) []<| .first 27 [29,34,35] [26,28,30,31,32,33]<| .first 28 [29,34,35] [26,30,31,32,33]<| .first 30 [32,33,34,35] [26,29,31]<| .first 31 [32,33,34,35] [26,29]<| .first 32 [33,34,35] [26,29]<| .first 33 [34,35] [26,29]<| .first 26 [34,35] [29]<| .fork 29 (.fork 34 (.first 35 [] []<| .done) (.stop)) (.stop)) (.stop)) (.stop)),(19,.first 0 (rg [5,17]) [1,2,3,4]<| .first 1 (rg [3,17]) [2]<| .first 2 (rg [3,17]) []<| .first 3 (rg [4,17]) []<| .first 4 (rg [5,17]) []<| .fork 5 (.first 6 (rg [7,17]) []<| .first 8 [10,15,16] [7,9,11,12,13,14]<| .first 9 [10,15,16] [7,11,12,13,14]<| .first 11 [13,14,15,16] [7,10,12]<| .first 12 [13,14,15,16] [7,10]<| .first 7 [15,16] [10,13,14]<| .first 13 [14,15,16] [10]<| .first 14 [15,16] [10]<| .fork 10 (.fork 15 (.first 16 [] []<| .done) (.stop)) (.stop)) (.stop))],shut:=[]}
noncomputable def fc7:FCfg:={par:=[.cst false],inn:=[(3,some ([2,3,4],[2,4,6]))],out:=[],loopK:=[],frz:=[],sch:=[],shut:=[]}
noncomputable def fc8:FCfg:={par:=[.cst false],inn:=[(8,some ([1,4,5,6],[1,4,5])),(11,some ([5],[5])),(12,some ([5],[5]))],out:=[(6,some ([1,4,5,6,47],[1,4,5]))],loopK:=[(4,([1,4,5],[1,4,5])),(6,([1,4,5,6],[1,4,5]))],frz:=[],sch:=[],shut:=[]}
noncomputable def fc9:FCfg:={par:=[.cst false],inn:=[(7,some ([1,4,6,7],[1,4])),(13,some ([1,4,6,7,34,35,36],[1,4])),(14,some ([1,4],[1,4])),(20,some ([4,10,52,53],[4,10])),(21,some ([10],[10]))],out:=[],loopK:=[(6,([1,4,6,7],[1,4])),(9,([1,4,6,7,34,35,36],[1,4])),(16,([4,10,52,53],[4,10]))],frz:=[],sch:=[],shut:=[]}
noncomputable def fc10:FCfg:={par:=[.cst false],inn:=[(9,some ([4,13,14,15],[4,12])),(10,some ([4],[4]))],out:=[],loopK:=[(5,([4,13,14,15],[4,12]))],frz:=[],sch:=[],shut:=[]}
noncomputable def fc11:FCfg:={par:=[.cst false,.cst false],inn:=[(4,some ([6,7],[]))],out:=[(2,some ([6,7,22],[]))],loopK:=[],frz:=[4],sch:=[],shut:=[]}
noncomputable def fc12:FCfg:={par:=[.cst false,.cst false],inn:=[(6,some ([],[]))],out:=[],loopK:=[(2,([0,1,5],[]))],frz:=[],sch:=[],shut:=[]}
noncomputable def fc13:FCfg:={par:=[.cst false,.cst false,.cst false],inn:=[],out:=[(1,some ([6],[]))],loopK:=[],frz:=[],sch:=[],shut:=[]}
noncomputable def fc39:FCfg:={par:=[.cst false],inn:=[],out:=[],loopK:=[],frz:=[],sch:=[],shut:=[]}
noncomputable def fc40:FCfg:={par:=[.ptr [.imm,.imm,.imm]],inn:=[(2,some ([0,2],[0,2])),(3,some ([0,2],[0,2]))],out:=[],loopK:=[],frz:=[],sch:=[],shut:=[]}
noncomputable def fc41:FCfg:={par:=[.cut 4],inn:=[(11,some ([],[]))],out:=[(1,some ([0,32],[])),(6,some ([0,3,75],[])),(9,some ([0,3,95],[]))],loopK:=[(4,([0,3],[]))],frz:=[],sch:=[(6,.first 0 (rg [1,4,5,34]) [4]<| .first 1 (rg [2,4,5,34]) [4]<| .first 2 (rg [3,4,5,34]) [4]<| .first 3 (rg [5,34]) [4]<| .first 4 (rg [5,34]) []<| .first 5 (rg [6,34]) []<| .first 6 (rg [7,34]) []<| .first 7 (rg [8,34]) []<| .fork 8 (.first 9 (rg [10,34]) []<| .first 10 (rg [11,34]) []<| .first 11 (rg [12,34]) []<| .first 12 (rg [13,34]) []<| .first 13 (rg [14,34]) []<| .first 14 [15,16,17,20,21,22,31,32,33] (rg [18,20,23,31])<| .first 15 [16,17,20,21,22,31,32,33] (rg [18,20,23,31])<| .first 16 [17,20,21,22,31,32,33] (rg [18,20,23,31])<| .first 17 [20,21,22,31,32,33] (rg [18,20,23,31])<| .first 18 [19,20,21,22,31,32,33] (rg [23,31])<| .first 19 [20,21,22,31,32,33] (rg [23,31])<| .first 20 [21,22,31,32,33] (rg [23,31])<| .first 21 [22,31,32,33] (rg [23,31])<| .first 22 [31,32,33] (rg [23,31])<| .first 23 (rg [24,27,28,34]) [27]<| .first 24 (rg [25,27,28,34]) [27]<| .first 25 [26,28,29,30,31,32,33] [27]<| .first 26 (rg [28,34]) [27]<| .first 27 (rg [28,34]) []<| .first 28 [29,30,31,32,33] []<| .first 29 [30,31,32,33] []<| .first 30 [31,32,33] []<| .first 31 [32,33] []<| .first 32 [33] []<| .first 33 [] []<| .done) (.stop))],shut:=[]}
noncomputable def fc42:FCfg:={par:=[.ptr [.imm,.imm,.imm]],inn:=[(2,some ([0,2,3],[0,2,3])),(3,some ([0,2,3],[0,2,3])),(4,some ([2,3],[0,2,3]))],out:=[],loopK:=[],frz:=[],sch:=[],shut:=[]}
noncomputable def fc43:FCfg:={par:=[.cst false],inn:=[(6,some ([1,3,4,32,33,34],[1,4])),(9,some ([1],[1])),(12,some ([1,5,6,63,64,65],[1,6])),(18,some ([],[]))],out:=[(1,some ([1,30],[1])),(6,some ([1,32,33,34,60],[1])),(12,some ([1,6,63,64,65,89],[1,6])),(15,some ([1,63,64,65,104],[1]))],loopK:=[(4,([1,32,33,34],[1])),(10,([1,63,64,65],[1]))],frz:=[],sch:=[(6,.first 0 (rg [1,2,4,22]) [2,3]<| .first 1 (rg [4,22]) [2,3]<| .first 2 (rg [3,22]) []<| .first 3 (rg [4,22]) []<| .fork 4 (.first 5 (rg [6,22]) []<| .first 6 (rg [7,22]) []<| .first 7 (rg [8,9,11,22]) [9,10]<| .first 8 (rg [11,22]) [9,10]<| .first 9 (rg [10,22]) []<| .first 10 (rg [11,22]) []<| .fork 11 (.first 12 (rg [13,22]) []<| .first 13 (rg [14,22]) []<| .first 14 (rg [15,22]) []<| .first 15 [16,18,20,21] [17,19]<| .first 16 [18,20,21] [17,19]<| .first 17 [18,20,21] [19]<| .first 19 [20,21] [18]<| .fork 18 (.fork 20 (.first 21 [] []<| .done) (.stop)) (.stop)) (.stop)) (.stop)),(12,.first 0 (rg [1,20]) []<| .first 1 (rg [2,20]) []<| .fork 2 (.first 3 (rg [4,20]) []<| .first 4 (rg [5,20]) []<| .first 5 (rg [6,20]) []<| .first 6 (rg [7,20]) []<| .first 7 (rg [8,20]) []<| .first 8 [9,12,13,14,17,18,19] [10,11,15,16]<| .first 9 [12,13,14,17,18,19] [10,11,15,16]<| .first 10 [11,12,13,14,17,18,19] [15,16]<| .first 11 [12,13,14,17,18,19] [15,16]<| .first 12 [13,14,17,18,19] [15,16]<| .first 13 [14,17,18,19] [15,16]<| .first 14 [17,18,19] [15,16]<| .first 15 [16,17,18,19] []<| .first 16 [17,18,19] []<| .first 17 [18,19] []<| .first 18 [19] []<| .first 19 [] []<| .done) (.stop))],shut:=[]}
noncomputable def fc44:FCfg:={par:=[.cst false],inn:=[(9,some ([1,2,3,4,5,6,7,18,19,25,26,27],[1,2,3,5,7])),(10,some ([1,2,3,4,5,7,8,18,19,25,26,27],[1,2,3,5,7,8])),(12,some ([1,2,3,4,5,18,19,25,26,27],[1,2,3,5])),(13,some ([1,2,3,18,19],[1,2,3])),(14,some ([2,3],[2,3]))],out:=[(1,some ([1,2,3],[1,2,3])),(10,some ([1,2,3,4,5,18,19,25,26,27,75],[1,2,3,5]))],loopK:=[(3,([1,2,3,18,19],[1,2,3])),(7,([1,2,3,4,5,18,19,25,26,27],[1,2,3,5]))],frz:=[],sch:=[(1,.first 0 [1,6,8] [2,3,4,5,7]<| .first 2 [3,4,5,6,8] [1,7]<| .first 3 [4,5,6,8] [1,7]<| .first 4 [5,6,8] [1,7]<| .fork 1 (.fork 5 (.fork 6 (.fork 7 (.fork 8 (.done) (.stop)) (.stop)) (.fork 7 (.fork 6 (.fork 8 (.done) (.stop)) (.stop)) (.stop))) (.fork 7 (.fork 5 (.fork 6 (.fork 8 (.done) (.stop)) (.stop)) (.stop)) (.stop))) (.fork 5 (.fork 1 (.fork 6 (.fork 7 (.fork 8 (.done) (.stop)) (.stop)) (.fork 7 (.fork 6 (.fork 8 (.done) (.stop)) (.stop)) (.stop))) (.fork 7 (.fork 1 (.fork 6 (.fork 8 (.done) (.stop)) (.stop)) (.stop)) (.stop))) (.fork 7 (.fork 1 (.fork 5 (.fork 6 (.fork 8 (.done) (.stop)) (.stop)) (.stop)) (.fork 5 (.fork 1 (.fork 6 (.fork 8 (.done) (.stop)) (.stop)) (.stop)) (.stop))) (.stop))))],shut:=[]}
noncomputable def fc45:FCfg:={par:=[.cst false,.cst false],inn:=[],out:=[],loopK:=[],frz:=[],sch:=[],shut:=[]}
noncomputable def fc46:FCfg:={par:=[.cst false,.cst false],inn:=[],out:=[],loopK:=[],frz:=[],sch:=[],shut:=[]}
noncomputable def fc47:FCfg:={par:=[.cst false],inn:=[],out:=[],loopK:=[],frz:=[],sch:=[],shut:=[]}
noncomputable def fc48:FCfg:={par:=[.row],inn:=[],out:=[(3,some ([0,2,3],[0]))],loopK:=[(1,([0,2,3],[0]))],frz:=[],sch:=[(3,.first 0 [12,13,14,15] (rg [1,12])<| .first 1 [12,13,14,15] (rg [2,12])<| .first 2 [14,15] (rg [3,14])<| .first 3 [14,15] (rg [4,14])<| .first 4 [6,7,12,13,14,15] [5,8,9,10,11]<| .first 5 [6,7,12,13,14,15] [8,9,10,11]<| .first 6 [7,12,13,14,15] [8,9,10,11]<| .first 7 [12,13,14,15] [8,9,10,11]<| .first 8 (rg [10,16]) [9]<| .first 9 (rg [10,16]) []<| .first 10 [11,12,13,14,15] []<| .first 11 [12,13,14,15] []<| .first 12 [13,14,15] []<| .fork 13 (.first 14 [15] []<| .fork 15 (.done) (.stop)) (.stop))],shut:=[]}
noncomputable def fc49:FCfg:={par:=[.cst false],inn:=[(2,some ([1,3],[1,3])),(5,some ([3,5,11,12,13],[3,5])),(7,some ([3],[3])),(14,some ([3,6,7,8,28,29,33,34],[3,6,8])),(16,some ([3,6,7,28,29,33,34],[3,6])),(17,some ([3,6,28,29],[3,6])),(18,some ([6],[6]))],out:=[(5,some ([3,11,12,13],[3])),(14,some ([3,6,7,8,28,29,33,34,47],[3,6,8])),(15,some ([3,6,7,28,29,33,34],[3,6]))],loopK:=[(3,([3,11,12,13],[3])),(9,([3,6,28,29],[3,6])),(12,([3,6,7,28,29,33,34],[3,6]))],frz:=[2],sch:=[(5,.first 1 [2,3,4,5,6] [0]<| .first 2 [3,4,5,6] [0]<| .first 0 [5,6] [3,4]<| .fork 3 (.fork 4 (.fork 5 (.fork 6 (.done) (.stop)) (.stop)) (.stop)) (.stop)),(15,.first 0 [9,10] (rg [1,9])<| .first 1 [9,10] (rg [2,9])<| .first 2 [4,5,8,9,10] [3,6,7]<| .first 3 [4,5,8,9,10] [6,7]<| .first 6 [7,8,9,10] [4,5]<| .first 4 [5,8,9,10] [7]<| .first 5 [8,9,10] [7]<| .fork 7 (.fork 8 (.first 9 [10] []<| .fork 10 (.done) (.stop)) (.stop)) (.stop))],shut:=[]}
noncomputable def fc50:FCfg:={par:=[.cst false,.cst false,.cst false],inn:=[(6,some ([8],[22])),(7,some ([8],[22]))],out:=[],loopK:=[],frz:=[],sch:=[],shut:=[]}
noncomputable def fc51:FCfg:={par:=[.cst false,.cst false,.cst false],inn:=[],out:=[(2,some ([6],[]))],loopK:=[],frz:=[],sch:=[],shut:=[]}
noncomputable def fc52:FCfg:={par:=[.cst false,.cst false,.cst false],inn:=[],out:=[(1,some ([6],[]))],loopK:=[],frz:=[],sch:=[],shut:=[]}
noncomputable def fc60:FCfg:={par:=[.ptr [.imm,.imm,.imm]],inn:=[(2,some ([0,2,3],[0,2,3])),(4,some ([0,2,3,4,13],[0,2,3])),(20,some ([0,2,3],[0,2,3])),(21,some ([2,3,5],[0,2,3])),(23,some ([2,3,5,6],[0,2,3])),(25,some ([2,3,5,6],[0,2,3])),(29,some ([2,3],[0,2,3]))],out:=[(11,some ([2,3],[0,2,3])),(13,some ([2,3],[0,2,3])),(15,some ([2,3],[0,2,3])),(17,some ([2,3],[0,2,3])),(28,some ([2,3],[0,2,3]))],loopK:=[(22,([2,3,5,6],[0,2,3]))],frz:=[],sch:=[(11,.first 2 [4,10,11,12] [0,1,3,5,6,7,8,9]<| .first 3 [4,10,11,12] [0,1,5,6,7,8,9]<| .first 0 [1,10,11,12] [4,5,6,7,8,9]<| .first 1 [10,11,12] [4,5,6,7,8,9]<| .first 5 (rg [6,13]) [4]<| .first 6 (rg [7,13]) [4]<| .first 7 [8,9,10,11,12] [4]<| .first 8 [9,10,11,12] [4]<| .fork 4 (.fork 9 (.first 10 [11,12] []<| .first 11 [12] []<| .fork 12 (.done) (.stop)) (.stop)) (.fork 9 (.fork 4 (.first 10 [11,12] []<| .first 11 [12] []<| .fork 12 (.done) (.stop)) (.stop)) (.stop))),(13,.first 2 [4,6,7,8,9] [0,1,3,5]<| .first 3 [4,6,7,8,9] [0,1,5]<| .first 5 [6,7,8,9] [0,1,4]<| .first 0 [1,7,8,9] [4,6]<| .first 1 [7,8,9] [4,6]<| .fork 4 (.fork 6 (.first 7 [8,9] []<| .first 8 [9] []<| .fork 9 (.done) (.stop)) (.stop)) (.stop)),(15,.first 2 [4,10,11,12,13,14] [0,1,3,5,6,7,8,9]<| .first 3 [4,10,11,12,13,14] [0,1,5,6,7,8,9]<| .first 5 [10,11,12,13,14] [0,1,4,6,7,8,9]<| .first 0 [1,12,13,14] [4,6,7,8,9,10,11]<| .first 1 [12,13,14] [4,6,7,8,9,10,11]<| .first 6 (rg [7,15]) [4]<| .first 7 (rg [8,15]) [4]<| .first 8 (rg [9,15]) [4]<| .fork 4 (.fork 9 (.fork 10 (.fork 11 (.first 12 [13,14] []<| .first 13 [14] []<| .fork 14 (.done) (.stop)) (.stop)) (.stop)) (.stop)) (.fork 9 (.fork 4 (.fork 10 (.fork 11 (.first 12 [13,14] []<| .first 13 [14] []<| .fork 14 (.done) (.stop)) (.stop)) (.stop)) (.stop)) (.stop))),(17,.first 0 [1,6,7] [2,3,4,5]<| .first 1 [6,7] [2,3,4,5]<| .first 2 [3,4,5,6,7] []<| .first 3 [4,5,6,7] []<| .first 4 [5,6,7] []<| .first 5 [6,7] []<| .first 6 [7] []<| .fork 7 (.done) (.stop)),(28,.first 2 (rg [6,10,11,16]) [0,1,3,4,5,10]<| .first 3 (rg [4,10,11,16]) [0,1,10]<| .first 4 (rg [5,10,11,16]) [0,1,10]<| .first 5 (rg [6,10,11,16]) [0,1,10]<| .first 10 [11,12,13,14,15] [0,1,6,7,8,9]<| .first 0 [1,7,8,9,12,13,14,15] [6,11]<| .first 1 [7,8,9,12,13,14,15] [6,11]<| .fork 6 (.first 7 [8,9,12,13,14,15] [11]<| .first 8 [9,12,13,14,15] [11]<| .first 9 [12,13,14,15] [11]<| .fork 11 (.first 12 [13,14,15] []<| .first 13 [14,15] []<| .first 14 [15] []<| .fork 15 (.done) (.stop)) (.stop)) (.stop))],shut:=[]}
noncomputable def fc66:FCfg:={par:=[.cst false,.cst false,.cst false],inn:=[],out:=[(1,some ([6],[]))],loopK:=[],frz:=[],sch:=[],shut:=[]}
noncomputable def fc83:FCfg:={par:=[.ptr [.imm,.imm,.imm],.cst false],inn:=[],out:=[],loopK:=[],frz:=[],sch:=[],shut:=[]}
noncomputable def fc84:FCfg:={par:=[.ptr [.imm,.imm,.imm]],inn:=[(2,some ([0,2,3],[0,2])),(3,some ([0,2,3,4],[0,2])),(4,some ([0,2,3,4,5],[0,2])),(5,some ([0,2,6],[0,2,6])),(6,some ([0,2,6],[0,2,6])),(7,some ([0,2,6],[0,2,6])),(8,some ([0,2,6],[0,2,6])),(9,some ([2,6],[0,2,6])),(10,some ([2,6],[0,2,6]))],out:=[],loopK:=[],frz:=[],sch:=[],shut:=[]}
noncomputable def fc85:FCfg:={par:=[.cst false,.cst false,.cst false],inn:=[],out:=[(1,some ([6],[]))],loopK:=[],frz:=[],sch:=[],shut:=[]}
noncomputable def fc86:FCfg:={par:=[.cut 4],inn:=[(5,some ([0,3],[])),(13,some ([],[]))],out:=[(6,some ([0,3,49],[])),(11,some ([0,3,4,69],[]))],loopK:=[(4,([0,3],[])),(9,([0,3,4],[]))],frz:=[],sch:=[(6,.first 0 (rg [1,4,5,8,12,30]) [4,8,9,10,11]<| .first 1 (rg [2,4,5,8,12,30]) [4,8,9,10,11]<| .first 2 (rg [3,4,5,8,12,30]) [4,8,9,10,11]<| .first 3 (rg [5,8,12,30]) [4,8,9,10,11]<| .first 4 (rg [5,8,12,30]) [8,9,10,11]<| .first 5 (rg [6,8,12,30]) [8,9,10,11]<| .first 6 (rg [7,8,12,30]) [8,9,10,11]<| .first 7 (rg [12,30]) [8,9,10,11]<| .first 8 (rg [9,30]) []<| .first 9 (rg [10,30]) []<| .first 10 (rg [11,30]) []<| .first 11 (rg [12,30]) []<| .fork 12 (.first 13 (rg [14,30]) []<| .first 14 (rg [15,30]) []<| .first 15 [16,17,18,20,21,22,27,28,29] [19,23,24,25,26]<| .first 16 [17,18,20,21,22,27,28,29] [19,23,24,25,26]<| .first 17 [18,20,21,22,27,28,29] [19,23,24,25,26]<| .first 18 [20,21,22,27,28,29] [19,23,24,25,26]<| .first 19 [20,21,22,27,28,29] [23,24,25,26]<| .first 20 [21,22,27,28,29] [23,24,25,26]<| .first 21 [22,27,28,29] [23,24,25,26]<| .first 22 [27,28,29] [23,24,25,26]<| .first 23 (rg [24,30]) []<| .first 24 [25,26,27,28,29] []<| .first 25 [26,27,28,29] []<| .first 26 [27,28,29] []<| .fork 27 (.first 28 [29] []<| .first 29 [] []<| .done) (.stop)) (.stop)),(11,.first 0 [1,2,3,5,6,14] (rg [4,5,7,14])<| .first 1 [2,3,5,6,14] (rg [4,5,7,14])<| .first 2 [3,5,6,14] (rg [4,5,7,14])<| .first 3 [5,6,14] (rg [4,5,7,14])<| .first 4 [5,6,14] (rg [7,14])<| .first 5 [6,14] (rg [7,14])<| .first 6 [14] (rg [7,14])<| .first 7 [8,9,10,12,13,14] [11]<| .first 8 [9,10,12,13,14] [11]<| .first 9 [10,12,13,14] [11]<| .first 10 [12,13,14] [11]<| .first 11 [12,13,14] []<| .first 12 [13,14] []<| .first 13 [14] []<| .first 14 [] []<| .done)],shut:=[]}
noncomputable def fc87:FCfg:={par:=[.cst false],inn:=[(8,some ([],[]))],out:=[(1,some ([0,16],[])),(6,some ([0,3,34],[]))],loopK:=[(4,([0,3],[]))],frz:=[],sch:=[],shut:=[]}
noncomputable def fc88:FCfg:={par:=[.cut 4,.cst false],inn:=[(8,some ([6],[6]))],out:=[(5,some ([0,1,6,7,26],[6])),(7,some ([0,1,6,7],[6]))],loopK:=[(3,([0,1,6,7],[6]))],frz:=[],sch:=[(5,.first 0 [2,3,10,11] [1,4,5,6,7,8,9]<| .first 1 [2,3,10,11] [4,5,6,7,8,9]<| .first 2 [3,10,11] [4,5,6,7,8,9]<| .first 3 [10,11] [4,5,6,7,8,9]<| .first 4 (rg [5,12]) []<| .first 5 [6,7,8,9,10,11] []<| .first 6 [7,8,9,10,11] []<| .first 7 [8,9,10,11] []<| .first 8 [9,10,11] []<| .first 9 [10,11] []<| .fork 10 (.first 11 [] []<| .done) (.stop)),(7,.first 0 [12,13] (rg [1,12])<| .first 1 (rg [2,5,9,14]) [5,6,7,8]<| .first 2 [3,4,9,10,11,12,13] [5,6,7,8]<| .first 3 [4,9,10,11,12,13] [5,6,7,8]<| .first 4 [9,10,11,12,13] [5,6,7,8]<| .first 5 (rg [7,14]) [6]<| .first 6 (rg [7,14]) []<| .first 7 (rg [8,14]) []<| .first 8 [9,10,11,12,13] []<| .first 9 [10,11,12,13] []<| .first 10 [11,12,13] []<| .fork 11 (.fork 12 (.fork 13 (.done) (.stop)) (.stop)) (.stop))],shut:=[]}
noncomputable def fc89:FCfg:={par:=[.cst false],inn:=[(9,some ([0,3],[])),(11,some ([0,3,5],[])),(13,some ([0,3,5,6],[6])),(14,some ([0,3,5,6,7],[6,7])),(15,some ([0,3,5,6,7,8],[6,7,8])),(22,some ([0],[]))],out:=[(2,some ([0,3,17],[])),(15,some ([0,3,5,6,7,66],[6,7])),(20,some ([0,3,5,6,7,9,95],[6,7]))],loopK:=[(5,([0,3,4],[])),(10,([0,3,5],[])),(18,([0,3,5,6,7,9],[6,7]))],frz:=[],sch:=[(20,.first 0 (rg [1,2,3,4,5,22]) [2,4]<| .first 1 (rg [3,4,5,22]) [2,4]<| .first 2 (rg [3,4,5,22]) [4]<| .first 3 (rg [5,22]) [4]<| .first 4 (rg [5,22]) []<| .first 5 (rg [6,22]) []<| .first 6 (rg [7,22]) []<| .first 7 [20,21] (rg [8,20])<| .first 8 [20,21] (rg [9,20])<| .first 9 [11,12,20,21] (rg [10,11,13,20])<| .first 10 [11,12,20,21] (rg [13,20])<| .first 11 [12,20,21] (rg [13,20])<| .first 12 [20,21] (rg [13,20])<| .first 13 [18,19,20,21] [14,15,16,17]<| .first 14 [15,17,18,19,20,21] [16]<| .first 15 [17,18,19,20,21] [16]<| .first 16 [17,18,19,20,21] []<| .first 17 [18,19,20,21] []<| .first 18 [19,20,21] []<| .first 19 [20,21] []<| .fork 20 (.first 21 [] []<| .done) (.stop))],shut:=[]}
noncomputable def fc90:FCfg:={par:=[.ptr [.imm,.imm,.imm]],inn:=[(2,some ([0,2,3],[0,2])),(3,some ([0,2,3,4],[0,2])),(9,some ([0,2,3,4,5,6],[0,2,5,6])),(13,some ([2,3,4,5,6],[0,2,5,6])),(16,some ([2,3,4,5,6,9,10],[0,2,5,6,9])),(21,some ([2,3,4,9],[0,2,9])),(23,some ([2,3,4,9,12],[0,2,9])),(29,some ([2,9],[0,2,9]))],out:=[(8,some ([0,2,3,4,5,6,7],[0,2,5,6])),(12,some ([0,2,3,4,5,6,8],[0,2,5,6])),(13,some ([2,3,4,5,6,9],[0,2,5,6,9])),(20,some ([2,3,4,5,6,9,10,11],[0,2,5,6,9])),(28,some ([2,3,4,9,12,13],[0,2,9]))],loopK:=[(6,([0,2,3,4,5,6,7],[0,2,5,6])),(10,([0,2,3,4,5,6,8],[0,2,5,6])),(15,([2,3,4,5,6,9,10],[0,2,5,6,9])),(18,([2,3,4,5,6,9,10,11],[0,2,5,6,9])),(22,([2,3,4,9,12],[0,2,9])),(25,([2,3,4,9,12,13],[0,2,9]))],frz:=[],sch:=[(8,.first 0 [10,11] (rg [1,10])<| .first 1 [3,4,5,8,9,10,11] [2,6,7]<| .first 2 [3,4,5,8,9,10,11] [6,7]<| .first 6 [7,8,9,10,11] [3,4,5]<| .first 3 [4,5,8,9,10,11] [7]<| .first 4 [5,8,9,10,11] [7]<| .first 5 [8,9,10,11] [7]<| .fork 7 (.first 8 [9,10,11] []<| .fork 9 (.fork 10 (.fork 11 (.done) (.stop)) (.stop)) (.stop)) (.stop)),(12,.first 0 [10,11] (rg [1,10])<| .first 1 [3,4,5,8,9,10,11] [2,6,7]<| .first 2 [3,4,5,8,9,10,11] [6,7]<| .first 6 [7,8,9,10,11] [3,4,5]<| .first 3 [4,5,8,9,10,11] [7]<| .first 4 [5,8,9,10,11] [7]<| .first 5 [8,9,10,11] [7]<| .fork 7 (.first 8 [9,10,11] []<| .fork 9 (.fork 10 (.fork 11 (.done) (.stop)) (.stop)) (.stop)) (.stop)),(13,.first 0 [2,3,8,10] [1,4,5,6,7,9]<| .first 1 [2,3,8,10] [4,5,6,7,9]<| .first 2 [3,8,10] [4,5,6,7,9]<| .first 3 [8,10] [4,5,6,7,9]<| .first 4 [6,7,8,10] [5,9]<| .first 5 [6,7,8,10] [9]<| .first 6 [7,8,10] [9]<| .first 7 [8,10] [9]<| .fork 8 (.fork 9 (.fork 10 (.done) (.stop)) (.stop)) (.fork 9 (.fork 8 (.fork 10 (.done) (.stop)) (.stop)) (.stop))),(20,.first 2 [4,5,10,11,12,13,14] [0,1,3,6,7,8,9]<| .first 3 [4,5,10,11,12,13,14] [0,1,6,7,8,9]<| .first 4 [5,10,11,12,13,14] [0,1,6,7,8,9]<| .first 5 [10,11,12,13,14] [0,1,6,7,8,9]<| .first 6 (rg [8,15]) [0,1,7]<| .first 7 (rg [8,15]) [0,1]<| .first 8 (rg [9,15]) [0,1]<| .first 9 [10,11,12,13,14] [0,1]<| .first 0 [1,12,13,14] [10,11]<| .first 1 [12,13,14] [10,11]<| .fork 10 (.fork 11 (.fork 12 (.first 13 [14] []<| .fork 14 (.done) (.stop)) (.stop)) (.stop)) (.stop)),(28,.first 2 [3,4,6,7,20,21,22,23,24] (rg [0,2,5,6,8,20])<| .first 5 [6,7,20,21,22,23,24] (rg [0,2,3,5,8,20])<| .first 8 (rg [19,25]) (rg [0,2,3,5,6,8,9,19])<| .first 9 [10,19,20,21,22,23,24] (rg [0,2,3,5,6,8,11,19])<| .first 10 (rg [19,25]) (rg [0,2,3,5,6,8,11,19])<| .first 11 (rg [13,15,19,25]) [0,1,3,4,6,7,12,15,16,17,18]<| .first 12 (rg [13,15,19,25]) [0,1,3,4,6,7,15,16,17,18]<| .first 13 [14,19,20,21,22,23,24] [0,1,3,4,6,7,15,16,17,18]<| .first 14 (rg [19,25]) [0,1,3,4,6,7,15,16,17,18]<| .first 15 (rg [17,25]) [0,1,3,4,6,7,16]<| .first 16 (rg [17,25]) [0,1,3,4,6,7]<| .first 17 (rg [18,25]) [0,1,3,4,6,7]<| .first 18 (rg [19,25]) [0,1,3,4,6,7]<| .first 0 [1,22,23,24] [3,4,6,7,19,20,21]<| .first 1 [22,23,24] [3,4,6,7,19,20,21]<| .fork 3 (.first 4 [7,20,21,22,23,24] [6,19]<| .fork 6 (.first 7 [20,21,22,23,24] [19]<| .fork 19 (.fork 20 (.fork 21 (.fork 22 (.first 23 [24] []<| .fork 24 (.done) (.stop)) (.stop)) (.stop)) (.stop)) (.stop)) (.fork 19 (.fork 6 (.first 7 [20,21,22,23,24] []<| .fork 20 (.fork 21 (.fork 22 (.first 23 [24] []<| .fork 24 (.done) (.stop)) (.stop)) (.stop)) (.stop)) (.stop)) (.stop))) (.fork 19 (.fork 3 (.first 4 [7,20,21,22,23,24] [6]<| .fork 6 (.first 7 [20,21,22,23,24] []<| .fork 20 (.fork 21 (.fork 22 (.first 23 [24] []<| .fork 24 (.done) (.stop)) (.stop)) (.stop)) (.stop)) (.stop)) (.stop)) (.stop)))],shut:=[]}
noncomputable def fc91:FCfg:={par:=[.ptr [.imm,.imm,.imm],.mvs],inn:=[(2,some ([0,3,4,5],[0,3,4,5])),(4,some ([0,3,4,5,6],[0,3,4,5])),(6,some ([0,3,4,5,6,7],[0,3,4,5,7])),(10,some ([4,5],[0,4,5]))],out:=[(6,some ([0,3,4,5,6,7,34],[0,3,4,5,7])),(7,some ([0,3,4,5,6,7],[0,3,4,5,7])),(8,some ([0,3,4,5,6],[0,3,4,5]))],loopK:=[(3,([0,3,4,5,6],[0,3,4,5]))],frz:=[],sch:=[(7,.first 4 (rg [5,8,16,22]) (rg [0,4,8,16])<| .first 5 (rg [6,8,16,22]) (rg [0,4,8,16])<| .first 6 (rg [7,8,16,22]) (rg [0,4,8,16])<| .first 7 (rg [16,22]) (rg [0,4,8,16])<| .first 8 (rg [9,12,16,22]) (rg [0,4,12,16])<| .first 9 (rg [10,12,16,22]) (rg [0,4,12,16])<| .first 10 [11,16,17,18,19,20,21] (rg [0,4,12,16])<| .first 11 (rg [16,22]) (rg [0,4,12,16])<| .first 12 (rg [13,22]) [0,1,2,3]<| .first 13 (rg [14,22]) [0,1,2,3]<| .first 14 (rg [15,22]) [0,1,2,3]<| .first 15 (rg [16,22]) [0,1,2,3]<| .first 0 [1,19,20,21] [2,3,16,17,18]<| .first 1 [19,20,21] [2,3,16,17,18]<| .first 2 [3,17,18,19,20,21] [16]<| .first 3 [17,18,19,20,21] [16]<| .fork 16 (.fork 17 (.fork 18 (.fork 19 (.first 20 [21] []<| .fork 21 (.done) (.stop)) (.stop)) (.stop)) (.stop)) (.stop)),(8,.first 5 (rg [6,9,17,23]) (rg [0,5,9,17])<| .first 6 (rg [7,9,17,23]) (rg [0,5,9,17])<| .first 7 (rg [8,9,17,23]) (rg [0,5,9,17])<| .first 8 (rg [17,23]) (rg [0,5,9,17])<| .first 9 (rg [10,13,17,23]) (rg [0,5,13,17])<| .first 10 (rg [11,13,17,23]) (rg [0,5,13,17])<| .first 11 [12,17,18,19,20,21,22] (rg [0,5,13,17])<| .first 12 (rg [17,23]) (rg [0,5,13,17])<| .first 13 (rg [14,23]) [0,1,2,3,4]<| .first 14 (rg [15,23]) [0,1,2,3,4]<| .first 15 (rg [16,23]) [0,1,2,3,4]<| .first 16 (rg [17,23]) [0,1,2,3,4]<| .first 0 [1,20,21,22] [2,3,4,17,18,19]<| .first 1 [20,21,22] [2,3,4,17,18,19]<| .first 2 [3,4,18,19,20,21,22] [17]<| .first 3 [4,18,19,20,21,22] [17]<| .first 4 [18,19,20,21,22] [17]<| .fork 17 (.fork 18 (.fork 19 (.fork 20 (.first 21 [22] []<| .fork 22 (.done) (.stop)) (.stop)) (.stop)) (.stop)) (.stop))],shut:=[]}
noncomputable def fc92:FCfg:={par:=[.cst false,.cst false],inn:=[],out:=[],loopK:=[],frz:=[],sch:=[],shut:=[]}
noncomputable def fc93:FCfg:={par:=[.cst false],inn:=[(8,some ([],[]))],out:=[(1,some ([0,21],[])),(6,some ([0,3,49],[]))],loopK:=[(4,([0,3],[]))],frz:=[],sch:=[],shut:=[]}
noncomputable def fc94:FCfg:={par:=[.cst false,.cst false],inn:=[(9,some ([6],[6]))],out:=[],loopK:=[(3,([0,6,10,11,12],[6]))],frz:=[],sch:=[],shut:=[]}
noncomputable def fc95:FCfg:={par:=[.cst false],inn:=[(15,some ([0,3,23,24],[])),(16,some ([0],[]))],out:=[(2,some ([0,3,21],[])),(7,some ([0,3,4,5,6,7,23,24],[5,6,7])),(8,some ([0,3,4,5,6,23,24,59],[5,6])),(13,some ([0,3,4,5,6,8,23,24,88],[5,6]))],loopK:=[(5,([0,3,23,24],[])),(11,([0,3,4,5,6,8,23,24],[5,6]))],frz:=[],sch:=[(7,.first 0 [2,3,21,22,23] (rg [1,2,4,21])<| .first 1 [2,3,21,22,23] (rg [4,21])<| .first 2 [3,21,22,23] (rg [4,21])<| .first 3 [21,22,23] (rg [4,21])<| .first 4 [9,10,22,23] (rg [5,9,11,22])<| .first 5 [6,8,9,10,22,23] (rg [7,8,11,22])<| .first 6 [8,9,10,22,23] (rg [7,8,11,22])<| .first 7 [8,9,10,22,23] (rg [11,22])<| .first 8 [9,10,22,23] (rg [11,22])<| .first 9 [10,22,23] (rg [11,22])<| .first 10 [22,23] (rg [11,22])<| .first 11 [16,17,23] (rg [12,16,18,23])<| .first 12 [13,15,16,17,23] [14,18,19,20,21,22]<| .first 13 [15,16,17,23] [14,18,19,20,21,22]<| .first 14 [15,16,17,23] [18,19,20,21,22]<| .first 15 [16,17,23] [18,19,20,21,22]<| .first 16 [17,23] [18,19,20,21,22]<| .first 17 [23] [18,19,20,21,22]<| .fork 18 (.fork 19 (.fork 20 (.fork 21 (.fork 22 (.fork 23 (.done) (.stop)) (.stop)) (.stop)) (.stop)) (.fork 20 (.fork 19 (.fork 21 (.fork 22 (.fork 23 (.done) (.stop)) (.stop)) (.stop)) (.stop)) (.stop))) (.fork 19 (.fork 18 (.fork 20 (.fork 21 (.fork 22 (.fork 23 (.done) (.stop)) (.stop)) (.stop)) (.stop)) (.fork 20 (.fork 18 (.fork 21 (.fork 22 (.fork 23 (.done) (.stop)) (.stop)) (.stop)) (.stop)) (.stop))) (.fork 20 (.fork 18 (.fork 19 (.fork 21 (.fork 22 (.fork 23 (.done) (.stop)) (.stop)) (.stop)) (.stop)) (.fork 19 (.fork 18 (.fork 21 (.fork 22 (.fork 23 (.done) (.stop)) (.stop)) (.stop)) (.stop)) (.stop))) (.stop)))),(13,.first 0 (rg [1,2,3,4,5,22]) [2,4]<| .first 1 (rg [3,4,5,22]) [2,4]<| .first 2 (rg [3,4,5,22]) [4]<| .first 3 (rg [5,22]) [4]<| .first 4 (rg [5,22]) []<| .first 5 (rg [6,22]) []<| .first 6 (rg [7,22]) []<| .first 7 [20,21] (rg [8,20])<| .first 8 [20,21] (rg [9,20])<| .first 9 [11,12,20,21] (rg [10,11,13,20])<| .first 10 [11,12,20,21] (rg [13,20])<| .first 11 [12,20,21] (rg [13,20])<| .first 12 [20,21] (rg [13,20])<| .first 13 [18,19,20,21] [14,15,16,17]<| .first 14 [15,17,18,19,20,21] [16]<| .first 15 [17,18,19,20,21] [16]<| .first 16 [17,18,19,20,21] []<| .first 17 [18,19,20,21] []<| .first 18 [19,20,21] []<| .first 19 [20,21] []<| .fork 20 (.first 21 [] []<| .done) (.stop))],shut:=[]}
noncomputable def fc96:FCfg:={par:=[.cst false,.cst false],inn:=[],out:=[(1,some ([5],[5]))],loopK:=[],frz:=[],sch:=[(1,.first 0 [1,8,9,10,11,12,13] [2,3,4,5,6,7]<| .first 1 (rg [8,14]) [2,3,4,5,6,7]<| .first 2 (rg [3,4,5,14]) [4]<| .first 3 (rg [5,14]) [4]<| .first 4 (rg [5,14]) []<| .first 5 (rg [6,14]) []<| .first 6 (rg [7,14]) []<| .first 7 (rg [8,14]) []<| .fork 8 (.first 9 [10,11,12,13] []<| .first 10 [12,13] [11]<| .first 11 [13] [12]<| .fork 12 (.fork 13 (.done) (.stop)) (.stop)) (.stop))],shut:=[]}
noncomputable def fc97:FCfg:={par:=[.cst false,.cst false],inn:=[(7,some ([],[]))],out:=[],loopK:=[(2,([0,1,7,8],[]))],frz:=[],sch:=[],shut:=[]}
noncomputable def fc98:FCfg:={par:=[.cst false,.cst false],inn:=[(7,some ([],[]))],out:=[],loopK:=[(2,([0,1,7,8],[]))],frz:=[],sch:=[],shut:=[]}
noncomputable def fc99:FCfg:={par:=[.cst false],inn:=[(8,some ([3],[3]))],out:=[],loopK:=[(3,([0,3,8,9,10],[3]))],frz:=[],sch:=[],shut:=[]}
noncomputable def fc100:FCfg:={par:=[.cst false,.cst false],inn:=[],out:=[],loopK:=[],frz:=[],sch:=[],shut:=[]}
noncomputable def fc101:FCfg:={par:=[.cst false],inn:=[],out:=[(1,some ([4],[]))],loopK:=[],frz:=[],sch:=[(1,.first 0 [2,3,5,6] [1,4]<| .first 1 [2,3,5,6] [4]<| .first 2 [3,5,6] [4]<| .first 3 [5,6] [4]<| .first 4 [5,6] []<| .fork 5 (.fork 6 (.done) (.stop)) (.stop))],shut:=[]}
noncomputable def fc102:FCfg:={par:=[.cst false,.cst false],inn:=[],out:=[],loopK:=[],frz:=[],sch:=[],shut:=[]}
noncomputable def fc103:FCfg:={par:=[.ptr [.imm,.imm,.imm,.imm,.sh,.imm],.mv],inn:=[(2,some ([0,1],[0,1])),(7,some ([0],[0])),(8,some ([0],[0])),(13,some ([],[0])),(14,some ([0,1,53,54,55],[0,1,53])),(15,some ([],[0]))],out:=[],loopK:=[(10,([0,1,53,54,55],[0,1,53]))],frz:=[],sch:=[],shut:=[]}
noncomputable def fc104:FCfg:={par:=[.cst false,.cst false],inn:=[(7,some ([],[]))],out:=[(4,some ([0,1,7,8,9,25],[]))],loopK:=[(2,([0,1,7,8,9],[]))],frz:=[],sch:=[],shut:=[]}
noncomputable def fc105:FCfg:={par:=[.cst false],inn:=[],out:=[],loopK:=[],frz:=[],sch:=[],shut:=[]}
noncomputable def fc106:FCfg:={par:=[.ptr [.imm,.imm,.imm],.cst false],inn:=[(4,some ([0,1,5],[0])),(6,some ([1,5],[0]))],out:=[],loopK:=[],frz:=[],sch:=[],shut:=[]}
noncomputable def fc115:FCfg:={par:=[.ptr [.imm,.imm,.imm],.cst false],inn:=[],out:=[],loopK:=[],frz:=[],sch:=[],shut:=[]}
noncomputable def fc116:FCfg:={par:=[.ptr [.imm,.imm,.imm]],inn:=[],out:=[],loopK:=[],frz:=[],sch:=[],shut:=[]}
noncomputable def fc137:FCfg:={par:=[.cst false,.cst false],inn:=[],out:=[],loopK:=[],frz:=[],sch:=[],shut:=[]}
noncomputable def fc143:FCfg:={par:=[.cst false],inn:=[],out:=[(1,some ([2],[]))],loopK:=[],frz:=[],sch:=[],shut:=[]}
noncomputable def fc144:FCfg:={par:=[.cst false],inn:=[],out:=[(1,some ([2],[]))],loopK:=[],frz:=[],sch:=[],shut:=[]}
noncomputable def fc145:FCfg:={par:=[.cst false],inn:=[],out:=[(1,some ([2],[]))],loopK:=[],frz:=[],sch:=[],shut:=[]}
noncomputable def fc146:FCfg:={par:=[.cst false,.cst false,.cst false],inn:=[],out:=[(1,some ([6],[]))],loopK:=[],frz:=[],sch:=[(1,.first 0 (rg [3,36]) [1,2]<| .first 1 (rg [3,36]) [2]<| .first 2 (rg [3,36]) []<| .fork 3 (.first 4 (rg [5,36]) []<| .first 5 (rg [6,36]) []<| .first 6 (rg [7,8,18,36]) (rg [8,18])<| .first 7 (rg [18,36]) (rg [8,18])<| .first 8 (rg [9,10,12,13,17,36]) [10,11,13,14,15,16]<| .first 9 (rg [12,13,17,36]) [10,11,13,14,15,16]<| .first 10 (rg [11,13,17,36]) [13,14,15,16]<| .first 11 (rg [12,13,17,36]) [13,14,15,16]<| .first 13 (rg [14,15,17,36]) [12,15,16]<| .first 14 (rg [17,36]) [12,15,16]<| .first 15 (rg [16,36]) [12]<| .first 16 (rg [17,36]) [12]<| .fork 12 (.fork 17 (.fork 18 (.first 19 (rg [20,36]) []<| .first 20 (rg [21,36]) []<| .first 21 [22,33,34,35] (rg [23,33])<| .first 22 [33,34,35] (rg [23,33])<| .first 23 [24,27,32,33,34,35] [25,26,28,29,30,31]<| .first 24 [27,32,33,34,35] [25,26,28,29,30,31]<| .first 25 [26,27,32,33,34,35] [28,29,30,31]<| .first 26 [27,32,33,34,35] [28,29,30,31]<| .first 28 [29,32,33,34,35] [27,30,31]<| .first 29 [32,33,34,35] [27,30,31]<| .first 30 [31,32,33,34,35] [27]<| .first 31 [32,33,34,35] [27]<| .fork 27 (.fork 32 (.fork 33 (.first 34 [35] []<| .fork 35 (.done) (.stop)) (.stop)) (.stop)) (.stop)) (.stop)) (.stop)) (.stop)) (.stop))],shut:=[]}
noncomputable def fc147:FCfg:={par:=[.cst false,.cst false,.cst false,.cst false],inn:=[],out:=[(1,some ([8],[]))],loopK:=[],frz:=[],sch:=[],shut:=[]}
noncomputable def fc148:FCfg:={par:=[.cst false],inn:=[(6,some ([0,3,4,5],[5])),(7,some ([3],[]))],out:=[(6,some ([0,3,4],[]))],loopK:=[(3,([0,3,4],[]))],frz:=[],sch:=[(6,.first 0 [18,19] (rg [1,18])<| .first 1 [3,4,5,8,17,18,19] (rg [2,3,6,8,9,17])<| .first 2 [3,4,5,8,17,18,19] (rg [6,8,9,17])<| .first 3 [4,5,8,17,18,19] (rg [6,8,9,17])<| .first 4 [5,8,17,18,19] (rg [6,8,9,17])<| .first 5 [8,17,18,19] (rg [6,8,9,17])<| .first 6 [7,8,17,18,19] (rg [9,17])<| .first 7 [8,17,18,19] (rg [9,17])<| .first 8 [17,18,19] (rg [9,17])<| .first 9 [11,12,13,16,17,18,19] [10,14,15]<| .first 10 [11,12,13,16,17,18,19] [14,15]<| .first 11 [12,13,16,17,18,19] [14,15]<| .first 12 [13,16,17,18,19] [14,15]<| .first 13 [16,17,18,19] [14,15]<| .first 14 [15,16,17,18,19] []<| .first 15 [16,17,18,19] []<| .first 16 [17,18,19] []<| .first 17 [18,19] []<| .first 18 [19] []<| .fork 19 (.done) (.stop))],shut:=[]}
noncomputable def fc149:FCfg:={par:=[.cst false],inn:=[(10,some ([0,3,4,5],[3])),(11,some ([0,3],[3])),(13,some ([3],[3])),(18,some ([6],[6]))],out:=[],loopK:=[(5,([0,3,4],[3])),(15,([3,6,7],[3,6]))],frz:=[],sch:=[],shut:=[]}
noncomputable def fc150:FCfg:={par:=[.cst false,.cst false],inn:=[(7,some ([],[]))],out:=[(4,some ([0,3,5,7,8,16],[3]))],loopK:=[(2,([0,3,7,8],[3]))],frz:=[],sch:=[(4,.first 0 [5] [1,2,3,4]<| .first 1 [3,4,5] [2]<| .first 2 [3,4,5] []<| .first 3 [4,5] []<| .first 4 [5] []<| .first 5 [] []<| .done)],shut:=[]}
noncomputable def fc151:FCfg:={par:=[.cst false],inn:=[(4,some ([4,5,6,7],[4])),(7,some ([],[]))],out:=[],loopK:=[(2,([5,6,7],[]))],frz:=[],sch:=[],shut:=[]}
noncomputable def fc152:FCfg:={par:=[.cst false,.cst false,.cst false],inn:=[],out:=[(1,some ([6],[]))],loopK:=[],frz:=[],sch:=[],shut:=[]}
noncomputable def fc153:FCfg:={par:=[.cst false,.cst false,.cst false,.cst false],inn:=[],out:=[(1,some ([8],[]))],loopK:=[],frz:=[],sch:=[],shut:=[]}
noncomputable def fc154:FCfg:={par:=[.cst false],inn:=[(5,some ([0,3,4,5,7,8,9],[5])),(6,some ([0,3,5,6,7,8,9],[5,6])),(8,some ([3],[]))],out:=[],loopK:=[(3,([0,3,7,8,9],[]))],frz:=[],sch:=[],shut:=[]}
noncomputable def fc155:FCfg:={par:=[.cst false,.cst false],inn:=[(7,some ([],[]))],out:=[],loopK:=[(2,([0,1,7,8],[]))],frz:=[],sch:=[],shut:=[]}
noncomputable def fc156:FCfg:={par:=[.cst false,.cst false],inn:=[(7,some ([],[]))],out:=[(4,some ([0,3,5,7,8,16],[3]))],loopK:=[(2,([0,3,7,8],[3]))],frz:=[],sch:=[(4,.first 0 [5] [1,2,3,4]<| .first 1 [3,4,5] [2]<| .first 2 [3,4,5] []<| .first 3 [4,5] []<| .first 4 [5] []<| .first 5 [] []<| .done)],shut:=[]}
noncomputable def fc157:FCfg:={par:=[.cst false,.cst false],inn:=[(7,some ([1,2,5,10,11],[2,5])),(8,some ([5],[5]))],out:=[(5,some ([1,2,5,6,10,11,24],[2,5]))],loopK:=[(3,([1,2,5,10,11],[2,5]))],frz:=[],sch:=[],shut:=[]}
noncomputable def fc158:FCfg:={par:=[.ptr [.imm,.imm,.imm]],inn:=[(4,some ([0,3],[0])),(5,some ([0,3],[0])),(6,some ([0,3],[0]))],out:=[(2,some ([0,3,13],[0])),(3,some ([0,3],[0])),(6,some ([0,3,53],[0]))],loopK:=[],frz:=[],sch:=[(2,.first 0 [1,2,3,9] [4,5,6,7,8]<| .first 1 [2,3,9] [4,5,6,7,8]<| .first 2 [3,9] [4,5,6,7,8]<| .first 3 [9] [4,5,6,7,8]<| .first 4 [5,6,7,8,9] []<| .first 5 [6,7,8,9] []<| .first 6 [7,8,9] []<| .first 7 [8,9] []<| .first 8 [9] []<| .first 9 [] []<| .done),(3,.first 0 [1,2,3,8,9,10,11] [4,5,6,7]<| .first 1 [2,3,8,9,10,11] [4,5,6,7]<| .first 2 [3,8,9,10,11] [4,5,6,7]<| .first 3 [8,9,10,11] [4,5,6,7]<| .first 4 (rg [5,12]) []<| .first 5 [6,7,8,9,10,11] []<| .first 6 [7,8,9,10,11] []<| .first 7 [8,9,10,11] []<| .first 8 [9,10,11] []<| .first 9 [10,11] []<| .fork 10 (.fork 11 (.done) (.stop)) (.stop)),(6,.first 0 [1,2,3,9] [4,5,6,7,8]<| .first 1 [2,3,9] [4,5,6,7,8]<| .first 2 [3,9] [4,5,6,7,8]<| .first 3 [9] [4,5,6,7,8]<| .first 4 [5,6,7,8,9] []<| .first 5 [6,7,8,9] []<| .first 6 [7,8,9] []<| .first 7 [8,9] []<| .first 8 [9] []<| .first 9 [] []<| .done)],shut:=[]}
noncomputable def fc160:FCfg:={par:=[.cst false,.cst false],inn:=[],out:=[],loopK:=[],frz:=[],sch:=[],shut:=[]}
noncomputable def fc163:FCfg:={par:=[.ptr [.imm,.imm,.imm],.cst false],inn:=[],out:=[],loopK:=[],frz:=[],sch:=[],shut:=[]}
noncomputable def fc189:FCfg:={par:=[.cst false,.cst false,.cst false],inn:=[],out:=[],loopK:=[],frz:=[],sch:=[],shut:=[]}
noncomputable def fc190:FCfg:={par:=[.cst false,.cst false,.cst false,.cst false],inn:=[],out:=[(1,some ([8],[]))],loopK:=[],frz:=[],sch:=[(1,.first 0 (rg [3,4,7,23]) [1,2,4,5,6]<| .first 1 (rg [3,4,7,23]) [2,4,5,6]<| .first 2 (rg [3,4,7,23]) [4,5,6]<| .first 4 (rg [7,23]) [3,5,6]<| .first 5 (rg [7,23]) [3,6]<| .first 6 (rg [7,23]) [3]<| .fork 3 (.fork 7 (.first 8 (rg [9,23]) []<| .first 9 (rg [10,23]) []<| .first 10 (rg [11,23]) []<| .first 11 [14,18,19,20,21,22] [12,13,15,16,17]<| .first 12 [14,18,19,20,21,22] [13,15,16,17]<| .first 13 [14,18,19,20,21,22] [15,16,17]<| .first 15 [18,19,20,21,22] [14,16,17]<| .first 16 [18,19,20,21,22] [14,17]<| .first 17 [18,19,20,21,22] [14]<| .fork 14 (.fork 18 (.first 19 [20,21,22] []<| .first 20 [21,22] []<| .first 21 [22] []<| .fork 22 (.done) (.stop)) (.stop)) (.stop)) (.stop)) (.stop))],shut:=[]}
noncomputable def fc191:FCfg:={par:=[.cst false],inn:=[],out:=[(1,some ([2],[]))],loopK:=[],frz:=[],sch:=[],shut:=[]}
noncomputable def fc192:FCfg:={par:=[.cst false,.cst false,.cst false],inn:=[],out:=[],loopK:=[],frz:=[],sch:=[],shut:=[]}
noncomputable def fc193:FCfg:={par:=[.cst false,.cst false,.cst false,.cst false],inn:=[],out:=[(1,some ([8],[]))],loopK:=[],frz:=[],sch:=[(1,.first 0 (rg [3,4,7,23]) [1,2,4,5,6]<| .first 1 (rg [3,4,7,23]) [2,4,5,6]<| .first 2 (rg [3,4,7,23]) [4,5,6]<| .first 4 (rg [7,23]) [3,5,6]<| .first 5 (rg [7,23]) [3,6]<| .first 6 (rg [7,23]) [3]<| .fork 3 (.fork 7 (.first 8 (rg [9,23]) []<| .first 9 (rg [10,23]) []<| .first 10 (rg [11,23]) []<| .first 11 [14,18,19,20,21,22] [12,13,15,16,17]<| .first 12 [14,18,19,20,21,22] [13,15,16,17]<| .first 13 [14,18,19,20,21,22] [15,16,17]<| .first 15 [18,19,20,21,22] [14,16,17]<| .first 16 [18,19,20,21,22] [14,17]<| .first 17 [18,19,20,21,22] [14]<| .fork 14 (.fork 18 (.first 19 [20,21,22] []<| .first 20 [21,22] []<| .first 21 [22] []<| .fork 22 (.done) (.stop)) (.stop)) (.stop)) (.stop)) (.stop))],shut:=[]}
noncomputable def fc194:FCfg:={par:=[.cst false,.cst false,.cst false],inn:=[],out:=[],loopK:=[],frz:=[],sch:=[],shut:=[]}
noncomputable def fc207:FCfg:={par:=[.cst false,.cst false,.cst false],inn:=[],out:=[],loopK:=[],frz:=[],sch:=[],shut:=[]}
noncomputable def fc208:FCfg:={par:=[.cst false,.cst false,.cst false],inn:=[],out:=[(1,some ([6],[]))],loopK:=[],frz:=[],sch:=[],shut:=[]}
noncomputable def fc211:FCfg:={par:=[.cst false],inn:=[],out:=[],loopK:=[],frz:=[],sch:=[],shut:=[]}
noncomputable def fcs:List (Nat×FCfg):=[(3,fc3),(7,fc7),(8,fc8),(9,fc9),(10,fc10),(11,fc11),(12,fc12),(13,fc13),(39,fc39),(40,fc40),(41,fc41),(42,fc42),(43,fc43),(44,fc44),(45,fc45),(46,fc46),(47,fc47),(48,fc48),(49,fc49),(50,fc50),(51,fc51),(52,fc52),(60,fc60),(66,fc66),(83,fc83),(84,fc84),(85,fc85),(86,fc86),(87,fc87),(88,fc88),(89,fc89),(90,fc90),(91,fc91),(92,fc92),(93,fc93),(94,fc94),(95,fc95),(96,fc96),(97,fc97),(98,fc98),(99,fc99),(100,fc100),(101,fc101),(102,fc102),(103,fc103),(104,fc104),(105,fc105),(106,fc106),(115,fc115),(116,fc116),(137,fc137),(143,fc143),(144,fc144),(145,fc145),(146,fc146),(147,fc147),(148,fc148),(149,fc149),(150,fc150),(151,fc151),(152,fc152),(153,fc153),(154,fc154),(155,fc155),(156,fc156),(157,fc157),(158,fc158),(160,fc160),(163,fc163),(189,fc189),(190,fc190),(191,fc191),(192,fc192),(193,fc193),(194,fc194),(207,fc207),(208,fc208),(211,fc211)]
noncomputable def ons:List (Nat×Bool):=[(3,true),(7,true),(8,true),(9,true),(10,true),(11,true),(12,true),(13,true),(39,true),(40,true),(41,true),(42,true),(43,true),(44,true),(45,true),(46,true),(47,true),(48,true),(49,true),(50,true),(51,true),(52,true),(60,true),(66,true),(83,true),(84,true),(85,true),(86,true),(87,true),(88,true),(89,true),(90,true),(91,true),(92,true),(93,true),(94,true),(95,true),(96,true),(97,true),(98,true),(99,true),(100,true),(101,true),(102,true),(103,true),(104,true),(105,true),(106,true),(115,true),(116,true),(137,true),(143,true),(144,true),(145,true),(146,true),(147,true),(148,true),(149,true),(150,true),(151,true),(152,true),(153,true),(154,true),(155,true),(156,true),(157,true),(158,true),(160,true),(163,true),(189,true),(190,true),(191,true),(192,true),(193,true),(194,true),(207,true),(208,true),(211,true)]
noncomputable def cfg:Cfg:=mkCfg ons fcs [(119,some (extCloneN 1 8))] [(61,26)]
theorem c3:cfg.fc 3=fc3:=rfl
instance C3:Cf cfg 3 fc3:=⟨c3⟩
instance Z3:Zf cfg 3:=⟨rfl⟩
theorem z3:(cfg.fc 3).frz=[]:=rfl
theorem c7:cfg.fc 7=fc7:=rfl
instance C7:Cf cfg 7 fc7:=⟨c7⟩
instance Z7:Zf cfg 7:=⟨rfl⟩
theorem c8:cfg.fc 8=fc8:=rfl
instance C8:Cf cfg 8 fc8:=⟨c8⟩
instance Z8:Zf cfg 8:=⟨rfl⟩
theorem c9:cfg.fc 9=fc9:=rfl
instance C9:Cf cfg 9 fc9:=⟨c9⟩
instance Z9:Zf cfg 9:=⟨rfl⟩
theorem c10:cfg.fc 10=fc10:=rfl
instance C10:Cf cfg 10 fc10:=⟨c10⟩
instance Z10:Zf cfg 10:=⟨rfl⟩
theorem c11:cfg.fc 11=fc11:=rfl
instance C11:Cf cfg 11 fc11:=⟨c11⟩
theorem z11:(cfg.fc 11).frz=[4]:=rfl
theorem c12:cfg.fc 12=fc12:=rfl
instance C12:Cf cfg 12 fc12:=⟨c12⟩
instance Z12:Zf cfg 12:=⟨rfl⟩
theorem c13:cfg.fc 13=fc13:=rfl
instance C13:Cf cfg 13 fc13:=⟨c13⟩
instance Z13:Zf cfg 13:=⟨rfl⟩
theorem c39:cfg.fc 39=fc39:=rfl
instance C39:Cf cfg 39 fc39:=⟨c39⟩
instance Z39:Zf cfg 39:=⟨rfl⟩
theorem c40:cfg.fc 40=fc40:=rfl
instance C40:Cf cfg 40 fc40:=⟨c40⟩
instance Z40:Zf cfg 40:=⟨rfl⟩
theorem c41:cfg.fc 41=fc41:=rfl
instance C41:Cf cfg 41 fc41:=⟨c41⟩
instance Z41:Zf cfg 41:=⟨rfl⟩
theorem z41:(cfg.fc 41).frz=[]:=rfl
theorem c42:cfg.fc 42=fc42:=rfl
instance C42:Cf cfg 42 fc42:=⟨c42⟩
instance Z42:Zf cfg 42:=⟨rfl⟩
theorem c43:cfg.fc 43=fc43:=rfl
instance C43:Cf cfg 43 fc43:=⟨c43⟩
instance Z43:Zf cfg 43:=⟨rfl⟩
theorem z43:(cfg.fc 43).frz=[]:=rfl
theorem c44:cfg.fc 44=fc44:=rfl
instance C44:Cf cfg 44 fc44:=⟨c44⟩
instance Z44:Zf cfg 44:=⟨rfl⟩
theorem z44:(cfg.fc 44).frz=[]:=rfl
theorem c45:cfg.fc 45=fc45:=rfl
instance C45:Cf cfg 45 fc45:=⟨c45⟩
instance Z45:Zf cfg 45:=⟨rfl⟩
theorem c46:cfg.fc 46=fc46:=rfl
instance C46:Cf cfg 46 fc46:=⟨c46⟩
instance Z46:Zf cfg 46:=⟨rfl⟩
theorem c47:cfg.fc 47=fc47:=rfl
instance C47:Cf cfg 47 fc47:=⟨c47⟩
instance Z47:Zf cfg 47:=⟨rfl⟩
theorem c48:cfg.fc 48=fc48:=rfl
instance C48:Cf cfg 48 fc48:=⟨c48⟩
instance Z48:Zf cfg 48:=⟨rfl⟩
theorem z48:(cfg.fc 48).frz=[]:=rfl
theorem c49:cfg.fc 49=fc49:=rfl
instance C49:Cf cfg 49 fc49:=⟨c49⟩
theorem z49:(cfg.fc 49).frz=[2]:=rfl
theorem c50:cfg.fc 50=fc50:=rfl
instance C50:Cf cfg 50 fc50:=⟨c50⟩
instance Z50:Zf cfg 50:=⟨rfl⟩
theorem c51:cfg.fc 51=fc51:=rfl
instance C51:Cf cfg 51 fc51:=⟨c51⟩
instance Z51:Zf cfg 51:=⟨rfl⟩
theorem c52:cfg.fc 52=fc52:=rfl
instance C52:Cf cfg 52 fc52:=⟨c52⟩
instance Z52:Zf cfg 52:=⟨rfl⟩
theorem c60:cfg.fc 60=fc60:=rfl
instance C60:Cf cfg 60 fc60:=⟨c60⟩
instance Z60:Zf cfg 60:=⟨rfl⟩
theorem z60:(cfg.fc 60).frz=[]:=rfl
theorem c66:cfg.fc 66=fc66:=rfl
instance C66:Cf cfg 66 fc66:=⟨c66⟩
instance Z66:Zf cfg 66:=⟨rfl⟩
theorem c83:cfg.fc 83=fc83:=rfl
instance C83:Cf cfg 83 fc83:=⟨c83⟩
instance Z83:Zf cfg 83:=⟨rfl⟩
theorem c84:cfg.fc 84=fc84:=rfl
instance C84:Cf cfg 84 fc84:=⟨c84⟩
instance Z84:Zf cfg 84:=⟨rfl⟩
theorem c85:cfg.fc 85=fc85:=rfl
instance C85:Cf cfg 85 fc85:=⟨c85⟩
instance Z85:Zf cfg 85:=⟨rfl⟩
theorem c86:cfg.fc 86=fc86:=rfl
instance C86:Cf cfg 86 fc86:=⟨c86⟩
instance Z86:Zf cfg 86:=⟨rfl⟩
theorem z86:(cfg.fc 86).frz=[]:=rfl
theorem c87:cfg.fc 87=fc87:=rfl
instance C87:Cf cfg 87 fc87:=⟨c87⟩
instance Z87:Zf cfg 87:=⟨rfl⟩
theorem c88:cfg.fc 88=fc88:=rfl
instance C88:Cf cfg 88 fc88:=⟨c88⟩
instance Z88:Zf cfg 88:=⟨rfl⟩
theorem z88:(cfg.fc 88).frz=[]:=rfl
theorem c89:cfg.fc 89=fc89:=rfl
instance C89:Cf cfg 89 fc89:=⟨c89⟩
instance Z89:Zf cfg 89:=⟨rfl⟩
theorem z89:(cfg.fc 89).frz=[]:=rfl
theorem c90:cfg.fc 90=fc90:=rfl
instance C90:Cf cfg 90 fc90:=⟨c90⟩
instance Z90:Zf cfg 90:=⟨rfl⟩
theorem z90:(cfg.fc 90).frz=[]:=rfl
theorem c91:cfg.fc 91=fc91:=rfl
instance C91:Cf cfg 91 fc91:=⟨c91⟩
instance Z91:Zf cfg 91:=⟨rfl⟩
theorem z91:(cfg.fc 91).frz=[]:=rfl
theorem c92:cfg.fc 92=fc92:=rfl
instance C92:Cf cfg 92 fc92:=⟨c92⟩
instance Z92:Zf cfg 92:=⟨rfl⟩
theorem c93:cfg.fc 93=fc93:=rfl
instance C93:Cf cfg 93 fc93:=⟨c93⟩
instance Z93:Zf cfg 93:=⟨rfl⟩
theorem c94:cfg.fc 94=fc94:=rfl
instance C94:Cf cfg 94 fc94:=⟨c94⟩
instance Z94:Zf cfg 94:=⟨rfl⟩
theorem c95:cfg.fc 95=fc95:=rfl
instance C95:Cf cfg 95 fc95:=⟨c95⟩
instance Z95:Zf cfg 95:=⟨rfl⟩
theorem z95:(cfg.fc 95).frz=[]:=rfl
theorem c96:cfg.fc 96=fc96:=rfl
instance C96:Cf cfg 96 fc96:=⟨c96⟩
instance Z96:Zf cfg 96:=⟨rfl⟩
theorem z96:(cfg.fc 96).frz=[]:=rfl
theorem c97:cfg.fc 97=fc97:=rfl
instance C97:Cf cfg 97 fc97:=⟨c97⟩
instance Z97:Zf cfg 97:=⟨rfl⟩
theorem c98:cfg.fc 98=fc98:=rfl
instance C98:Cf cfg 98 fc98:=⟨c98⟩
instance Z98:Zf cfg 98:=⟨rfl⟩
theorem c99:cfg.fc 99=fc99:=rfl
instance C99:Cf cfg 99 fc99:=⟨c99⟩
instance Z99:Zf cfg 99:=⟨rfl⟩
theorem c100:cfg.fc 100=fc100:=rfl
instance C100:Cf cfg 100 fc100:=⟨c100⟩
instance Z100:Zf cfg 100:=⟨rfl⟩
theorem c101:cfg.fc 101=fc101:=rfl
instance C101:Cf cfg 101 fc101:=⟨c101⟩
instance Z101:Zf cfg 101:=⟨rfl⟩
theorem z101:(cfg.fc 101).frz=[]:=rfl
theorem c102:cfg.fc 102=fc102:=rfl
instance C102:Cf cfg 102 fc102:=⟨c102⟩
instance Z102:Zf cfg 102:=⟨rfl⟩
theorem c103:cfg.fc 103=fc103:=rfl
instance C103:Cf cfg 103 fc103:=⟨c103⟩
instance Z103:Zf cfg 103:=⟨rfl⟩
theorem c104:cfg.fc 104=fc104:=rfl
instance C104:Cf cfg 104 fc104:=⟨c104⟩
instance Z104:Zf cfg 104:=⟨rfl⟩
theorem c105:cfg.fc 105=fc105:=rfl
instance C105:Cf cfg 105 fc105:=⟨c105⟩
instance Z105:Zf cfg 105:=⟨rfl⟩
theorem c106:cfg.fc 106=fc106:=rfl
instance C106:Cf cfg 106 fc106:=⟨c106⟩
instance Z106:Zf cfg 106:=⟨rfl⟩
theorem c115:cfg.fc 115=fc115:=rfl
instance C115:Cf cfg 115 fc115:=⟨c115⟩
instance Z115:Zf cfg 115:=⟨rfl⟩
theorem c116:cfg.fc 116=fc116:=rfl
instance C116:Cf cfg 116 fc116:=⟨c116⟩
instance Z116:Zf cfg 116:=⟨rfl⟩
theorem c137:cfg.fc 137=fc137:=rfl
instance C137:Cf cfg 137 fc137:=⟨c137⟩
instance Z137:Zf cfg 137:=⟨rfl⟩
theorem c143:cfg.fc 143=fc143:=rfl
instance C143:Cf cfg 143 fc143:=⟨c143⟩
instance Z143:Zf cfg 143:=⟨rfl⟩
theorem c144:cfg.fc 144=fc144:=rfl
instance C144:Cf cfg 144 fc144:=⟨c144⟩
instance Z144:Zf cfg 144:=⟨rfl⟩
theorem c145:cfg.fc 145=fc145:=rfl
instance C145:Cf cfg 145 fc145:=⟨c145⟩
instance Z145:Zf cfg 145:=⟨rfl⟩
theorem c146:cfg.fc 146=fc146:=rfl
instance C146:Cf cfg 146 fc146:=⟨c146⟩
instance Z146:Zf cfg 146:=⟨rfl⟩
theorem z146:(cfg.fc 146).frz=[]:=rfl
theorem c147:cfg.fc 147=fc147:=rfl
instance C147:Cf cfg 147 fc147:=⟨c147⟩
instance Z147:Zf cfg 147:=⟨rfl⟩
theorem c148:cfg.fc 148=fc148:=rfl
instance C148:Cf cfg 148 fc148:=⟨c148⟩
instance Z148:Zf cfg 148:=⟨rfl⟩
theorem z148:(cfg.fc 148).frz=[]:=rfl
theorem c149:cfg.fc 149=fc149:=rfl
instance C149:Cf cfg 149 fc149:=⟨c149⟩
instance Z149:Zf cfg 149:=⟨rfl⟩
theorem c150:cfg.fc 150=fc150:=rfl
instance C150:Cf cfg 150 fc150:=⟨c150⟩
instance Z150:Zf cfg 150:=⟨rfl⟩
theorem c151:cfg.fc 151=fc151:=rfl
instance C151:Cf cfg 151 fc151:=⟨c151⟩
instance Z151:Zf cfg 151:=⟨rfl⟩
theorem c152:cfg.fc 152=fc152:=rfl
instance C152:Cf cfg 152 fc152:=⟨c152⟩
instance Z152:Zf cfg 152:=⟨rfl⟩
theorem c153:cfg.fc 153=fc153:=rfl
instance C153:Cf cfg 153 fc153:=⟨c153⟩
instance Z153:Zf cfg 153:=⟨rfl⟩
theorem c154:cfg.fc 154=fc154:=rfl
instance C154:Cf cfg 154 fc154:=⟨c154⟩
instance Z154:Zf cfg 154:=⟨rfl⟩
theorem c155:cfg.fc 155=fc155:=rfl
instance C155:Cf cfg 155 fc155:=⟨c155⟩
instance Z155:Zf cfg 155:=⟨rfl⟩
theorem c156:cfg.fc 156=fc156:=rfl
instance C156:Cf cfg 156 fc156:=⟨c156⟩
instance Z156:Zf cfg 156:=⟨rfl⟩
theorem c157:cfg.fc 157=fc157:=rfl
instance C157:Cf cfg 157 fc157:=⟨c157⟩
instance Z157:Zf cfg 157:=⟨rfl⟩
theorem c158:cfg.fc 158=fc158:=rfl
instance C158:Cf cfg 158 fc158:=⟨c158⟩
instance Z158:Zf cfg 158:=⟨rfl⟩
theorem z158:(cfg.fc 158).frz=[]:=rfl
theorem c160:cfg.fc 160=fc160:=rfl
instance C160:Cf cfg 160 fc160:=⟨c160⟩
instance Z160:Zf cfg 160:=⟨rfl⟩
theorem c163:cfg.fc 163=fc163:=rfl
instance C163:Cf cfg 163 fc163:=⟨c163⟩
instance Z163:Zf cfg 163:=⟨rfl⟩
theorem c189:cfg.fc 189=fc189:=rfl
instance C189:Cf cfg 189 fc189:=⟨c189⟩
instance Z189:Zf cfg 189:=⟨rfl⟩
theorem c190:cfg.fc 190=fc190:=rfl
instance C190:Cf cfg 190 fc190:=⟨c190⟩
instance Z190:Zf cfg 190:=⟨rfl⟩
theorem z190:(cfg.fc 190).frz=[]:=rfl
theorem c191:cfg.fc 191=fc191:=rfl
instance C191:Cf cfg 191 fc191:=⟨c191⟩
instance Z191:Zf cfg 191:=⟨rfl⟩
theorem c192:cfg.fc 192=fc192:=rfl
instance C192:Cf cfg 192 fc192:=⟨c192⟩
instance Z192:Zf cfg 192:=⟨rfl⟩
theorem c193:cfg.fc 193=fc193:=rfl
instance C193:Cf cfg 193 fc193:=⟨c193⟩
instance Z193:Zf cfg 193:=⟨rfl⟩
theorem z193:(cfg.fc 193).frz=[]:=rfl
theorem c194:cfg.fc 194=fc194:=rfl
instance C194:Cf cfg 194 fc194:=⟨c194⟩
instance Z194:Zf cfg 194:=⟨rfl⟩
theorem c207:cfg.fc 207=fc207:=rfl
instance C207:Cf cfg 207 fc207:=⟨c207⟩
instance Z207:Zf cfg 207:=⟨rfl⟩
theorem c208:cfg.fc 208=fc208:=rfl
instance C208:Cf cfg 208 fc208:=⟨c208⟩
instance Z208:Zf cfg 208:=⟨rfl⟩
theorem c211:cfg.fc 211=fc211:=rfl
instance C211:Cf cfg 211 fc211:=⟨c211⟩
instance Z211:Zf cfg 211:=⟨rfl⟩
noncomputable abbrev Pg:=Try.prog
theorem bF136:buildF Pg 136=some ([.nil,z0,.im 0 (.sc (.int .u64 0))],[(0,1),(1,1),(2,1)]):=kr
theorem bF139:buildF Pg 139=some ([z1,.nil],[(0,1),(1,1)]):=kr
theorem bF145:buildF Pg 145=some ([z0,z0],[(0,1),(1,1)]):=kr
theorem bF155:buildF Pg 155=some ([z0,z0],[(0,1),(1,1)]):=kr
theorem bF26:buildF Pg 26=some ([z0,z0,.nil,.nil],[(0,1),(1,1),(2,1),(3,1)]):=kr
theorem bF83:buildF Pg 83=some ([.nil,.nil],[(0,1),(1,1)]):=kr
theorem bF93:buildF Pg 93=some ([.nil,.nil,z0,z0,.nil,.im 0 (.sc (.bool false))],[(0,2),(2,1),(3,1),(4,1),(5,1)]):=kr
theorem eF152:elemSz Pg 152=some (155,2):=kr
theorem eF23:elemSz Pg 23=some (145,2):=kr
theorem eF28:elemSz Pg 28=some (2,1):=kr
theorem eF80:elemSz Pg 80=some (28,1):=kr
theorem fF136_0:fieldF Pg 136 0=some 0:=kr
theorem fF136_1:fieldF Pg 136 1=some 1:=kr
theorem fF136_2:fieldF Pg 136 2=some 2:=kr
theorem fF139_0:fieldF Pg 139 0=some 0:=kr
theorem fF139_1:fieldF Pg 139 1=some 1:=kr
theorem fF145_0:fieldF Pg 145 0=some 0:=kr
theorem fF145_1:fieldF Pg 145 1=some 1:=kr
theorem fF26_0:fieldF Pg 26 0=some 0:=kr
theorem fF26_1:fieldF Pg 26 1=some 1:=kr
theorem fF26_2:fieldF Pg 26 2=some 2:=kr
theorem fF26_3:fieldF Pg 26 3=some 3:=kr
theorem fF83_0:fieldF Pg 83 0=some 0:=kr
theorem fF83_1:fieldF Pg 83 1=some 1:=kr
theorem fF93_0:fieldF Pg 93 0=some 0:=kr
theorem fF93_1:fieldF Pg 93 1=some 2:=kr
theorem fF93_2:fieldF Pg 93 2=some 3:=kr
theorem fF93_3:fieldF Pg 93 3=some 4:=kr
theorem fF93_4:fieldF Pg 93 4=some 5:=kr
theorem kF100_152_157:callK Pg cfg 100 0 [152,157]=[(.cst false,[some 2]),(.cst false,[none])]:=kr
theorem kF101_155_0_0:callK Pg cfg 101 0 [155,0,0]=[(.cst false,[none,none]),(.cst false,[none]),(.cst false,[none])]:=kr
theorem kF102_152_155:callK Pg cfg 102 0 [152,155]=[(.cst false,[some 2]),(.cst false,[none,none])]:=kr
theorem kF103_89_28:callK Pg cfg 103 0 [89,28]=[(.ptr [.imm,.imm,.imm,.imm,.sh,.imm],[none]),(.mv,[some 1])]:=kr
theorem kF104_28_3:callK Pg cfg 104 0 [28,3]=[(.cst false,[some 1]),(.cst false,[none])]:=kr
theorem kF105_2_0:callK Pg cfg 105 0 [2,0]=[(.cst false,[none]),(.cst false,[none])]:=kr
theorem kF106_74_2:callK Pg cfg 106 0 [74,2]=[(.ptr [.imm,.imm,.imm],[none]),(.cst false,[none])]:=kr
theorem kF10_26:callK Pg cfg 10 0 [26]=[(.cst false,[none,none,some 2,some 2])]:=kr
theorem kF115_74_28:callK Pg cfg 115 0 [74,28]=[(.ptr [.imm,.imm,.imm],[none]),(.cst false,[some 1])]:=kr
theorem kF116_74:callK Pg cfg 116 0 [74]=[(.ptr [.imm,.imm,.imm],[none])]:=kr
theorem kF119_28:callK Pg cfg 119 0 [28]=[(.cst false,[some 1])]:=kr
theorem kF11_26_2:callK Pg cfg 11 0 [26,2]=[(.cst false,[none,none,some 2,some 2]),(.cst false,[none])]:=kr
theorem kF12_28_2:callK Pg cfg 12 0 [28,2]=[(.cst false,[some 1]),(.cst false,[none])]:=kr
theorem kF137_2_2:callK Pg cfg 137 0 [2,2]=[(.cst false,[none]),(.cst false,[none])]:=kr
theorem kF13_26_28_2:callK Pg cfg 13 0 [26,28,2]=[(.cst false,[none,none,some 2,some 2]),(.cst false,[some 1]),(.cst false,[none])]:=kr
theorem kF143_5:callK Pg cfg 143 0 [5]=[(.cst false,[none])]:=kr
theorem kF144_5:callK Pg cfg 144 0 [5]=[(.cst false,[none])]:=kr
theorem kF145_145:callK Pg cfg 145 0 [145]=[(.cst false,[none,none])]:=kr
theorem kF146_145_145_145:callK Pg cfg 146 0 [145,145,145]=[(.cst false,[none,none]),(.cst false,[none,none]),(.cst false,[none,none])]:=kr
theorem kF147_145_145_145_145:callK Pg cfg 147 0 [145,145,145,145]=[(.cst false,[none,none]),(.cst false,[none,none]),(.cst false,[none,none]),(.cst false,[none,none])]:=kr
theorem kF148_23:callK Pg cfg 148 0 [23]=[(.cst false,[some 2])]:=kr
theorem kF149_2:callK Pg cfg 149 0 [2]=[(.cst false,[none])]:=kr
theorem kF150_23_145:callK Pg cfg 150 0 [23,145]=[(.cst false,[some 2]),(.cst false,[none,none])]:=kr
theorem kF151_23:callK Pg cfg 151 0 [23]=[(.cst false,[some 2])]:=kr
theorem kF152_145_145_145:callK Pg cfg 152 0 [145,145,145]=[(.cst false,[none,none]),(.cst false,[none,none]),(.cst false,[none,none])]:=kr
theorem kF153_145_145_145_145:callK Pg cfg 153 0 [145,145,145,145]=[(.cst false,[none,none]),(.cst false,[none,none]),(.cst false,[none,none]),(.cst false,[none,none])]:=kr
theorem kF154_23:callK Pg cfg 154 0 [23]=[(.cst false,[some 2])]:=kr
theorem kF155_152_157:callK Pg cfg 155 0 [152,157]=[(.cst false,[some 2]),(.cst false,[none])]:=kr
theorem kF156_152_155:callK Pg cfg 156 0 [152,155]=[(.cst false,[some 2]),(.cst false,[none,none])]:=kr
theorem kF157_83_28:callK Pg cfg 157 0 [83,28]=[(.cst false,[some 1,some 1]),(.cst false,[some 1])]:=kr
theorem kF158_74:callK Pg cfg 158 0 [74]=[(.ptr [.imm,.imm,.imm],[none])]:=kr
theorem kF160_2_2:callK Pg cfg 160 0 [2,2]=[(.cst false,[none]),(.cst false,[none])]:=kr
theorem kF163_74_175:callK Pg cfg 163 0 [74,175]=[(.ptr [.imm,.imm,.imm],[none]),(.cst false,[some 1])]:=kr
theorem kF189_145_145_145:callK Pg cfg 189 0 [145,145,145]=[(.cst false,[none,none]),(.cst false,[none,none]),(.cst false,[none,none])]:=kr
theorem kF190_145_145_145_145:callK Pg cfg 190 0 [145,145,145,145]=[(.cst false,[none,none]),(.cst false,[none,none]),(.cst false,[none,none]),(.cst false,[none,none])]:=kr
theorem kF191_145:callK Pg cfg 191 0 [145]=[(.cst false,[none,none])]:=kr
theorem kF192_145_145_145:callK Pg cfg 192 0 [145,145,145]=[(.cst false,[none,none]),(.cst false,[none,none]),(.cst false,[none,none])]:=kr
theorem kF193_145_145_145_145:callK Pg cfg 193 0 [145,145,145,145]=[(.cst false,[none,none]),(.cst false,[none,none]),(.cst false,[none,none]),(.cst false,[none,none])]:=kr
theorem kF194_83_28_2:callK Pg cfg 194 0 [83,28,2]=[(.cst false,[some 1,some 1]),(.cst false,[some 1]),(.cst false,[none])]:=kr
theorem kF207_145_145_145:callK Pg cfg 207 0 [145,145,145]=[(.cst false,[none,none]),(.cst false,[none,none]),(.cst false,[none,none])]:=kr
theorem kF208_83_28_2:callK Pg cfg 208 0 [83,28,2]=[(.cst false,[some 1,some 1]),(.cst false,[some 1]),(.cst false,[none])]:=kr
theorem kF211_2_0:callK Pg cfg 211 0 [2,0]=[(.cst false,[none]),(.cst false,[none])]:=kr
theorem kF39_22:callK Pg cfg 39 0 [22]=[(.cst false,[some 1])]:=kr
theorem kF40_74:callK Pg cfg 40 0 [74]=[(.ptr [.imm,.imm,.imm],[none])]:=kr
theorem kF41_78:callK Pg cfg 41 0 [78]=[(.cut 4,[none])]:=kr
theorem kF42_74:callK Pg cfg 42 0 [74]=[(.ptr [.imm,.imm,.imm],[none])]:=kr
theorem kF43_26:callK Pg cfg 43 0 [26]=[(.cst false,[none,none,some 2,some 2])]:=kr
theorem kF44_26:callK Pg cfg 44 0 [26]=[(.cst false,[none,none,some 2,some 2])]:=kr
theorem kF45_28_2:callK Pg cfg 45 0 [28,2]=[(.cst false,[some 1]),(.cst false,[none])]:=kr
theorem kF46_28_86:callK Pg cfg 46 0 [28,86]=[(.cst false,[some 1]),(.cst false,[none])]:=kr
theorem kF47_2_0:callK Pg cfg 47 0 [2,0]=[(.cst false,[none]),(.cst false,[none])]:=kr
theorem kF48_28:callK Pg cfg 48 0 [28]=[(.row,[some 1])]:=kr
theorem kF49_26:callK Pg cfg 49 0 [26]=[(.cst false,[none,none,some 2,some 2])]:=kr
theorem kF50_26_2_4:callK Pg cfg 50 0 [26,2,4]=[(.cst false,[none,none,some 2,some 2]),(.cst false,[none]),(.cst false,[none])]:=kr
theorem kF51_26_28_2:callK Pg cfg 51 0 [26,28,2]=[(.cst false,[none,none,some 2,some 2]),(.cst false,[some 1]),(.cst false,[none])]:=kr
theorem kF52_83_28_2:callK Pg cfg 52 0 [83,28,2]=[(.cst false,[some 1,some 1]),(.cst false,[some 1]),(.cst false,[none])]:=kr
theorem kF60_74:callK Pg cfg 60 0 [74]=[(.ptr [.imm,.imm,.imm],[none])]:=kr
theorem kF66_2_2_2:callK Pg cfg 66 0 [2,2,2]=[(.cst false,[none]),(.cst false,[none]),(.cst false,[none])]:=kr
theorem kF7_22:callK Pg cfg 7 0 [22]=[(.cst false,[some 1])]:=kr
theorem kF83_74_2:callK Pg cfg 83 0 [74,2]=[(.ptr [.imm,.imm,.imm],[none]),(.cst false,[none])]:=kr
theorem kF84_74:callK Pg cfg 84 0 [74]=[(.ptr [.imm,.imm,.imm],[none])]:=kr
theorem kF85_2_2_2:callK Pg cfg 85 0 [2,2,2]=[(.cst false,[none]),(.cst false,[none]),(.cst false,[none])]:=kr
theorem kF86_78:callK Pg cfg 86 0 [78]=[(.cut 4,[none])]:=kr
theorem kF87_9:callK Pg cfg 87 0 [9]=[(.cst false,[none])]:=kr
theorem kF88_78_28:callK Pg cfg 88 0 [78,28]=[(.cut 4,[none]),(.cst false,[some 1])]:=kr
theorem kF89_23:callK Pg cfg 89 0 [23]=[(.cst false,[some 2])]:=kr
theorem kF8_26:callK Pg cfg 8 0 [26]=[(.cst false,[none,none,some 2,some 2])]:=kr
theorem kF90_74:callK Pg cfg 90 0 [74]=[(.ptr [.imm,.imm,.imm],[none])]:=kr
theorem kF91_74_26:callK Pg cfg 91 0 [74,26]=[(.ptr [.imm,.imm,.imm],[none]),(.mvs,[none,none,some 2,some 2])]:=kr
theorem kF92_23_145:callK Pg cfg 92 0 [23,145]=[(.cst false,[some 2]),(.cst false,[none,none])]:=kr
theorem kF93_9:callK Pg cfg 93 0 [9]=[(.cst false,[none])]:=kr
theorem kF94_23_28:callK Pg cfg 94 0 [23,28]=[(.cst false,[some 2]),(.cst false,[some 1])]:=kr
theorem kF95_23:callK Pg cfg 95 0 [23]=[(.cst false,[some 2])]:=kr
theorem kF96_26_2:callK Pg cfg 96 0 [26,2]=[(.cst false,[none,none,some 2,some 2]),(.cst false,[none])]:=kr
theorem kF97_28_2:callK Pg cfg 97 0 [28,2]=[(.cst false,[some 1]),(.cst false,[none])]:=kr
theorem kF98_28_86:callK Pg cfg 98 0 [28,86]=[(.cst false,[some 1]),(.cst false,[none])]:=kr
theorem kF99_28:callK Pg cfg 99 0 [28]=[(.cst false,[some 1])]:=kr
theorem kF9_26:callK Pg cfg 9 0 [26]=[(.cst false,[none,none,some 2,some 2])]:=kr
theorem qEF145:∀(a0:Int) (a1:Int) (b0:Int) (b1:Int),binAgg Pg 145 .eql [.int .i64 a0,.int .i64 a1] [.int .i64 b0,.int .i64 b1]=some (.bool ((a0==b0)&&(a1==b1))):=by intros;kernel_rfl
theorem qEF155:∀(a0:Int) (a1:Int) (b0:Int) (b1:Int),binAgg Pg 155 .eql [.int .i64 a0,.int .i64 a1] [.int .i64 b0,.int .i64 b1]=some (.bool ((a0==b0)&&(a1==b1))):=by intros;kernel_rfl
theorem rF10:resK Pg (Try.f10.results.toList.zip Try.f10.resultTypes.toList)=[(.tmp 2,[some 1],none),(.tmp 3,[none],none)]:=kr
theorem rF100:resK Pg (Try.f100.results.toList.zip Try.f100.resultTypes.toList)=[(.tmp 4,[none],none)]:=kr
theorem rF101:resK Pg (Try.f101.results.toList.zip Try.f101.resultTypes.toList)=[(.tmp 4,[none],none)]:=kr
theorem rF102:resK Pg (Try.f102.results.toList.zip Try.f102.resultTypes.toList)=[(.tmp 4,[none],none)]:=kr
theorem rF103:resK Pg (Try.f103.results.toList.zip Try.f103.resultTypes.toList)=[(.tmp 4,[none],none)]:=kr
theorem rF104:resK Pg (Try.f104.results.toList.zip Try.f104.resultTypes.toList)=[(.tmp 4,[none],none)]:=kr
theorem rF105:resK Pg (Try.f105.results.toList.zip Try.f105.resultTypes.toList)=[(.tmp 3,[none],none)]:=kr
theorem rF106:resK Pg (Try.f106.results.toList.zip Try.f106.resultTypes.toList)=[(.tmp 4,[none],none)]:=kr
theorem rF11:resK Pg (Try.f11.results.toList.zip Try.f11.resultTypes.toList)=[(.tmp 4,[some 1],none),(.tmp 5,[none],none)]:=kr
theorem rF115:resK Pg (Try.f115.results.toList.zip Try.f115.resultTypes.toList)=[(.tmp 4,[none],none)]:=kr
theorem rF116:resK Pg (Try.f116.results.toList.zip Try.f116.resultTypes.toList)=[(.tmp 2,[none],none)]:=kr
theorem rF119:resK Pg (Try.f119.results.toList.zip Try.f119.resultTypes.toList)=[(.tmp 2,[some 1],none)]:=kr
theorem rF12:resK Pg (Try.f12.results.toList.zip Try.f12.resultTypes.toList)=[(.tmp 4,[none],none)]:=kr
theorem rF13:resK Pg (Try.f13.results.toList.zip Try.f13.resultTypes.toList)=[(.tmp 6,[none],none)]:=kr
theorem rF137:resK Pg (Try.f137.results.toList.zip Try.f137.resultTypes.toList)=[(.tmp 4,[none],none)]:=kr
theorem rF143:resK Pg (Try.f143.results.toList.zip Try.f143.resultTypes.toList)=[(.tmp 2,[none],none)]:=kr
theorem rF144:resK Pg (Try.f144.results.toList.zip Try.f144.resultTypes.toList)=[(.tmp 2,[none],none)]:=kr
theorem rF145:resK Pg (Try.f145.results.toList.zip Try.f145.resultTypes.toList)=[(.tmp 2,[none],none)]:=kr
theorem rF146:resK Pg (Try.f146.results.toList.zip Try.f146.resultTypes.toList)=[(.tmp 6,[none],none)]:=kr
theorem rF147:resK Pg (Try.f147.results.toList.zip Try.f147.resultTypes.toList)=[(.tmp 8,[none],none)]:=kr
theorem rF148:resK Pg (Try.f148.results.toList.zip Try.f148.resultTypes.toList)=[(.tmp 2,[none],none)]:=kr
theorem rF149:resK Pg (Try.f149.results.toList.zip Try.f149.resultTypes.toList)=[(.tmp 2,[none],none)]:=kr
theorem rF150:resK Pg (Try.f150.results.toList.zip Try.f150.resultTypes.toList)=[(.tmp 4,[none],none)]:=kr
theorem rF151:resK Pg (Try.f151.results.toList.zip Try.f151.resultTypes.toList)=[(.tmp 2,[none],none)]:=kr
theorem rF152:resK Pg (Try.f152.results.toList.zip Try.f152.resultTypes.toList)=[(.tmp 6,[none],none)]:=kr
theorem rF153:resK Pg (Try.f153.results.toList.zip Try.f153.resultTypes.toList)=[(.tmp 8,[none],none)]:=kr
theorem rF154:resK Pg (Try.f154.results.toList.zip Try.f154.resultTypes.toList)=[(.tmp 2,[none],none)]:=kr
theorem rF155:resK Pg (Try.f155.results.toList.zip Try.f155.resultTypes.toList)=[(.tmp 4,[none],none)]:=kr
theorem rF156:resK Pg (Try.f156.results.toList.zip Try.f156.resultTypes.toList)=[(.tmp 4,[none],none)]:=kr
theorem rF157:resK Pg (Try.f157.results.toList.zip Try.f157.resultTypes.toList)=[(.tmp 4,[some 1],none)]:=kr
theorem rF158:resK Pg (Try.f158.results.toList.zip Try.f158.resultTypes.toList)=[(.tmp 2,[none],none)]:=kr
theorem rF160:resK Pg (Try.f160.results.toList.zip Try.f160.resultTypes.toList)=[(.tmp 4,[none],none)]:=kr
theorem rF163:resK Pg (Try.f163.results.toList.zip Try.f163.resultTypes.toList)=[(.tmp 4,[none],none)]:=kr
theorem rF189:resK Pg (Try.f189.results.toList.zip Try.f189.resultTypes.toList)=[(.tmp 6,[none],none)]:=kr
theorem rF190:resK Pg (Try.f190.results.toList.zip Try.f190.resultTypes.toList)=[(.tmp 8,[none],none)]:=kr
theorem rF191:resK Pg (Try.f191.results.toList.zip Try.f191.resultTypes.toList)=[(.tmp 2,[none],none)]:=kr
theorem rF192:resK Pg (Try.f192.results.toList.zip Try.f192.resultTypes.toList)=[(.tmp 6,[none],none)]:=kr
theorem rF193:resK Pg (Try.f193.results.toList.zip Try.f193.resultTypes.toList)=[(.tmp 8,[none],none)]:=kr
theorem rF194:resK Pg (Try.f194.results.toList.zip Try.f194.resultTypes.toList)=[(.tmp 6,[none],none)]:=kr
theorem rF207:resK Pg (Try.f207.results.toList.zip Try.f207.resultTypes.toList)=[(.tmp 6,[none],none)]:=kr
theorem rF208:resK Pg (Try.f208.results.toList.zip Try.f208.resultTypes.toList)=[(.tmp 6,[none],none)]:=kr
theorem rF211:resK Pg (Try.f211.results.toList.zip Try.f211.resultTypes.toList)=[(.tmp 3,[none],none)]:=kr
theorem rF3:resK Pg (Try.f3.results.toList.zip Try.f3.resultTypes.toList)=[(.tmp 2,[none],none)]:=kr
theorem rF39:resK Pg (Try.f39.results.toList.zip Try.f39.resultTypes.toList)=[(.tmp 2,[none],none)]:=kr
theorem rF40:resK Pg (Try.f40.results.toList.zip Try.f40.resultTypes.toList)=[(.cell 2 26,[none,none,some 2,some 2],some (true,4))]:=kr
theorem rF41:resK Pg (Try.f41.results.toList.zip Try.f41.resultTypes.toList)=[(.tmp 2,[none],none)]:=kr
theorem rF42:resK Pg (Try.f42.results.toList.zip Try.f42.resultTypes.toList)=[(.cell 2 26,[none,none,some 2,some 2],some (true,4))]:=kr
theorem rF43:resK Pg (Try.f43.results.toList.zip Try.f43.resultTypes.toList)=[(.tmp 2,[none],none)]:=kr
theorem rF44:resK Pg (Try.f44.results.toList.zip Try.f44.resultTypes.toList)=[(.cell 2 83,[some 1,some 1],some (true,2))]:=kr
theorem rF45:resK Pg (Try.f45.results.toList.zip Try.f45.resultTypes.toList)=[(.tmp 4,[none],none)]:=kr
theorem rF46:resK Pg (Try.f46.results.toList.zip Try.f46.resultTypes.toList)=[(.tmp 4,[none],none)]:=kr
theorem rF47:resK Pg (Try.f47.results.toList.zip Try.f47.resultTypes.toList)=[(.tmp 3,[none],none)]:=kr
theorem rF48:resK Pg (Try.f48.results.toList.zip Try.f48.resultTypes.toList)=[]:=kr
theorem rF49:resK Pg (Try.f49.results.toList.zip Try.f49.resultTypes.toList)=[(.tmp 2,[some 1],none)]:=kr
theorem rF50:resK Pg (Try.f50.results.toList.zip Try.f50.resultTypes.toList)=[(.tmp 6,[none],none),(.tmp 7,[none],none)]:=kr
theorem rF51:resK Pg (Try.f51.results.toList.zip Try.f51.resultTypes.toList)=[(.tmp 6,[none],none)]:=kr
theorem rF52:resK Pg (Try.f52.results.toList.zip Try.f52.resultTypes.toList)=[(.tmp 6,[none],none)]:=kr
theorem rF60:resK Pg (Try.f60.results.toList.zip Try.f60.resultTypes.toList)=[(.cell 2 26,[none,none,some 2,some 2],some (true,4))]:=kr
theorem rF66:resK Pg (Try.f66.results.toList.zip Try.f66.resultTypes.toList)=[(.tmp 6,[none],none)]:=kr
theorem rF7:resK Pg (Try.f7.results.toList.zip Try.f7.resultTypes.toList)=[(.cell 2 26,[none,none,some 2,some 2],some (true,4))]:=kr
theorem rF8:resK Pg (Try.f8.results.toList.zip Try.f8.resultTypes.toList)=[(.tmp 2,[some 1],none),(.tmp 3,[none],none)]:=kr
theorem rF83:resK Pg (Try.f83.results.toList.zip Try.f83.resultTypes.toList)=[(.tmp 4,[none],none)]:=kr
theorem rF84:resK Pg (Try.f84.results.toList.zip Try.f84.resultTypes.toList)=[(.cell 2 26,[none,none,some 2,some 2],some (true,4))]:=kr
theorem rF85:resK Pg (Try.f85.results.toList.zip Try.f85.resultTypes.toList)=[(.tmp 6,[none],none)]:=kr
theorem rF86:resK Pg (Try.f86.results.toList.zip Try.f86.resultTypes.toList)=[(.tmp 2,[none],none)]:=kr
theorem rF87:resK Pg (Try.f87.results.toList.zip Try.f87.resultTypes.toList)=[(.tmp 2,[none],none)]:=kr
theorem rF88:resK Pg (Try.f88.results.toList.zip Try.f88.resultTypes.toList)=[(.tmp 4,[some 2],none),(.tmp 5,[none],none)]:=kr
theorem rF89:resK Pg (Try.f89.results.toList.zip Try.f89.resultTypes.toList)=[(.tmp 2,[none],none)]:=kr
theorem rF9:resK Pg (Try.f9.results.toList.zip Try.f9.resultTypes.toList)=[(.tmp 2,[some 1],none),(.tmp 3,[none],none)]:=kr
theorem rF90:resK Pg (Try.f90.results.toList.zip Try.f90.resultTypes.toList)=[(.cell 2 26,[none,none,some 2,some 2],some (true,4))]:=kr
theorem rF91:resK Pg (Try.f91.results.toList.zip Try.f91.resultTypes.toList)=[(.cell 4 26,[none,none,some 2,some 2],some (true,4))]:=kr
theorem rF92:resK Pg (Try.f92.results.toList.zip Try.f92.resultTypes.toList)=[(.tmp 4,[none],none)]:=kr
theorem rF93:resK Pg (Try.f93.results.toList.zip Try.f93.resultTypes.toList)=[(.tmp 2,[none],none)]:=kr
theorem rF94:resK Pg (Try.f94.results.toList.zip Try.f94.resultTypes.toList)=[(.tmp 4,[some 2],none),(.tmp 5,[none],none)]:=kr
theorem rF95:resK Pg (Try.f95.results.toList.zip Try.f95.resultTypes.toList)=[(.tmp 2,[none],none)]:=kr
theorem rF96:resK Pg (Try.f96.results.toList.zip Try.f96.resultTypes.toList)=[(.tmp 4,[some 2],none)]:=kr
theorem rF97:resK Pg (Try.f97.results.toList.zip Try.f97.resultTypes.toList)=[(.tmp 4,[none],none)]:=kr
theorem rF98:resK Pg (Try.f98.results.toList.zip Try.f98.resultTypes.toList)=[(.tmp 4,[none],none)]:=kr
theorem rF99:resK Pg (Try.f99.results.toList.zip Try.f99.resultTypes.toList)=[(.tmp 2,[some 2],none)]:=kr
theorem sF151:sliceF Pg 151=some (152,1,[some 2],false,24,[.nil]):=kr
theorem sF152:sliceF Pg 152=some (155,2,[none,none],true,16,[z0,z0]):=kr
theorem sF175:sliceF Pg 175=some (9,1,[none],false,16,[z1]):=kr
theorem sF22:sliceF Pg 22=some (5,1,[none],false,1,[.im 0 (.sc (.int .u8 0))]):=kr
theorem sF23:sliceF Pg 23=some (145,2,[none,none],true,16,[z0,z0]):=kr
theorem sF24:sliceF Pg 24=some (139,2,[none,some 1],true,40,[z1,.nil]):=kr
theorem sF28:sliceF Pg 28=some (2,1,[none],false,8,[z0]):=kr
theorem sF80:sliceF Pg 80=some (28,1,[some 1],false,24,[.nil]):=kr
theorem sF81:sliceF Pg 81=some (4,1,[none],false,1,[.im 0 (.sc (.bool false))]):=kr
theorem tF134:tyF Pg 134=some ([.im 0 (.sc (.int .u64 0))],[none],false,1):=kr
theorem tF136:tyF Pg 136=some ([.nil,z0,.im 0 (.sc (.int .u64 0))],[some 1,none,none],true,3):=kr
theorem tF139:tyF Pg 139=some ([z1,.nil],[none,some 1],true,2):=kr
theorem tF145:tyF Pg 145=some ([z0,z0],[none,none],true,2):=kr
theorem tF151:tyF Pg 151=some ([.nil],[some 1],false,1):=kr
theorem tF152:tyF Pg 152=some ([.nil],[some 2],false,1):=kr
theorem tF155:tyF Pg 155=some ([z0,z0],[none,none],true,2):=kr
theorem tF2:tyF Pg 2=some ([z0],[none],false,1):=kr
theorem tF22:tyF Pg 22=some ([.nil],[some 1],false,1):=kr
theorem tF23:tyF Pg 23=some ([.nil],[some 2],false,1):=kr
theorem tF24:tyF Pg 24=some ([.nil],[some 2],false,1):=kr
theorem tF26:tyF Pg 26=some ([z0,z0,.nil,.nil],[none,none,some 2,some 2],true,4):=kr
theorem tF28:tyF Pg 28=some ([.nil],[some 1],false,1):=kr
theorem tF3:tyF Pg 3=some ([z0],[none],false,1):=kr
theorem tF4:tyF Pg 4=some ([.im 0 (.sc (.bool false))],[none],false,1):=kr
theorem tF5:tyF Pg 5=some ([.im 0 (.sc (.int .u8 0))],[none],false,1):=kr
theorem tF80:tyF Pg 80=some ([.nil],[some 1],false,1):=kr
theorem tF81:tyF Pg 81=some ([.nil],[some 1],false,1):=kr
theorem tF83:tyF Pg 83=some ([.nil,.nil],[some 1,some 1],true,2):=kr
theorem tF9:tyF Pg 9=some ([z1],[none],false,1):=kr
theorem tF93:tyF Pg 93=some ([.nil,.nil,z0,z0,.nil,.im 0 (.sc (.bool false))],[some 1,some 1,none,none,some 1,none],true,6):=kr
theorem uF134:Pg.underlying 134=some (.int .u64):=kr
theorem uF151:Pg.underlying 151=some (.slice 152):=kr
theorem uF152:Pg.underlying 152=some (.slice 155):=kr
theorem uF175:Pg.underlying 175=some (.slice 9):=kr
theorem uF2:Pg.underlying 2=some (.int .i64):=kr
theorem uF22:Pg.underlying 22=some (.slice 5):=kr
theorem uF23:Pg.underlying 23=some (.slice 145):=kr
theorem uF24:Pg.underlying 24=some (.slice 139):=kr
theorem uF28:Pg.underlying 28=some (.slice 2):=kr
theorem uF3:Pg.underlying 3=some (.int .i64):=kr
theorem uF5:Pg.underlying 5=some (.int .u8):=kr
theorem uF80:Pg.underlying 80=some (.slice 28):=kr
theorem uF81:Pg.underlying 81=some (.slice 4):=kr
theorem uF9:Pg.underlying 9=some .string:=kr
theorem vF83_1:fieldV Pg 83 1=some (1,false,1):=kr
abbrev FX (i:Nat) (a:List Arg) (r:Res×List Out):Prop:=FL Try.prog cfg i a=some r
theorem L_spec_l00From {code_0:(List Int)} {r:S_l00Src} (h:spec_l00From code_0=some r):FX 39 [.im 2 false [W 1 (eK .u8) code_0]] (B0 [(false,[.pt true [⟨.imm,2,W 1 (eK .u8) r.code⟩,⟨.imm,0,I r.at_⟩,⟨.imm,0,.sc (.int .u64 r.seed)⟩]])]):=by
 unfold spec_l00From at h
 refine gn 6 Try.func39 rfl ?_
 refine gs<|g0 j j (q (oAsI j j)<|nl)<|us<|gs<|g0 j j (q (oMv j j)<|q (oBu (cs:=[.im 2 _,.im 0 _,.im 0 _]) j bF136 j)<|q (oBx j tF136 j (tkI (tkI (tkI tk0))))<|q (oAsP j j)<|nl)<|us<|Go.ret (Unw.ret ?_)
 cases h
 exact fr rF39 j
theorem L_spec_l00Src_next {s_0:S_l00Src} {r:(Int×S_l00Src)} (h:spec_l00Src_next s_0=some r):FX 158 [.ptr true [(.imm,W 1 (eK .u8) s_0.code),(.imm,I s_0.at_),(.imm,.sc (.int .u64 s_0.seed))]] ([(false,[.im 0 (I r.1)])],[.ptr true [(.imm,W 1 (eK .u8) r.2.code),(.imm,I r.2.at_),(.imm,.sc (.int .u64 r.2.seed))]]):=by
 unfold spec_l00Src_next at h
 refine FL_goS (A:=[(0,M 0)]) (B:=[(0,Od (G 1 (u_S_l00Src s_0)))]) (nt:=62) rfl rfl Try.func158 rfl rfl rfl rfl ?_
 refine gs<|g0 j j (q (oAsI j j)<|nl)<|us<|gs<|g0 j j (q (oAsI j j)<|nl)<|us<|gs<|gs<|gd c158 j j j j (mk [(0,M 0),(3,iv 0),(13,bv (decide (s_0.at_< (s_0.code.length:Int))))] [(0,Od (G 1 (u_S_l00Src s_0)))]) (t j j (oMv j j)<|t j j (oNl j j j)<|t j j (oFA (r':=.mp 0 0 1) j fF136_1 j j)<|t j j (oLd (cs:=[.im 0 _]) j tF3 j j)<|t j j (oMv j j)<|t j j (oNl j j j)<|t j j (oFA (r':=.mp 0 0 0) j fF136_0 j j)<|t j j (oLd (cs:=[.im 1 _]) j tF22 j j)<|t j j (oLnI j j uF22 j)<|t j j (oBi j j j j)<|sD (by kernel_rfl))<|us<|Go.join (fun st=>∃b_3_r4,spec_l00Src_next_k4 s_0 b_3_r4=some r∧st.norm ([0,3],[0])=mk [(0,M 0),(3,iv b_3_r4)] [(0,Od (G 1 (u_S_l00Src s_0)))]) ?_ ?_
 ·rintro st ⟨b_3_r4,h,hst⟩
  unfold spec_l00Src_next_k4 at h
  refine us<|gs<|g2 c158 j j hst (q (oMv j j)<|q (oNl j j j)<|q (oFA (r':=.mp 0 0 1) j fF136_1 j j)<|q (oLd (cs:=[.im 0 _]) j tF3 j j)<|q (oBi j j j j)<|q (oNl j j j)<|q (oFA (r':=.mp 0 0 1) j fF136_1 j j)<|q (oSt tF3 j j j (tkI tk0) j j j)<|nl)<|us<|gs<|g1 j j (mk [(0,M 0),(3,iv b_3_r4)] [(0,Od [Ct 1 (W 1 (eK .u8) s_0.code),C (I (w64 (s_0.at_+1))),C (.sc (.int .u64 s_0.seed))])]) (q (oMv j j)<|q (oMv j j)<|q (oNl j j j)<|q (oFA (r':=.mp 0 0 2) j fF136_2 j j)<|q (oLd (cs:=[.im 0 _]) j tF134 j j)<|q (oBi j j j j)<|q (oMv j j)<|q (oCvI j uF3 uF134 j)<|q (oBi j j j j)<|q (oBi j j j j)<|q (oNl j j j)<|q (oFA (r':=.mp 0 0 2) j fF136_2 j j)<|q (oSt tF134 j j j (tkI tk0) j j j)<|nl)<|us<|gs<|gs<|gd c158 j j j (st1:=mk [(0,M 0),(3,iv b_3_r4)] [(0,Od [Ct 1 (W 1 (eK .u8) s_0.code),C (I (w64 (s_0.at_+1))),C (.sc (.int .u64 (IntKind.wrap .u64 ((IntKind.wrap .u64 ((IntKind.wrap .u64 (s_0.seed*6364136223846793005))+(IntKind.wrap .u64 (b_3_r4))))+1442695040888963407))))])]) (by kernel_rfl) (mk [(0,M 0),(3,iv b_3_r4),(53,bv (decide ((w64 (s_0.at_+1))≤(s_0.code.length:Int))))] [(0,Od [Ct 1 (W 1 (eK .u8) s_0.code),C (I (w64 (s_0.at_+1))),C (.sc (.int .u64 (IntKind.wrap .u64 ((IntKind.wrap .u64 ((IntKind.wrap .u64 (s_0.seed*6364136223846793005))+(IntKind.wrap .u64 (b_3_r4))))+1442695040888963407))))])]) (t j j (oMv j j)<|t j j (oNl j j j)<|t j j (oFA (r':=.mp 0 0 1) j fF136_1 j j)<|t j j (oLd (cs:=[.im 0 _]) j tF3 j j)<|t j j (oMv j j)<|t j j (oNl j j j)<|t j j (oFA (r':=.mp 0 0 0) j fF136_0 j j)<|t j j (oLd (cs:=[.im 1 _]) j tF22 j j)<|t j j (oLnI j j uF22 j)<|t j j (oBi j j j j)<|sD (by kernel_rfl))<|us<|gc h j iDec (fun hc2 h=>?_) fun hc2 h=>?_
  ·refine gs<|g0 j j (q (oMv j j)<|q (oAsI j j)<|nl)<|us<|Go.ret (Unw.ret ?_)
   cases h
   exact fr rF158 j
  ·refine Go.skip<|us<|gs<|?_
   obtain ⟨x59,hx59,h⟩:=bs h
   refine g0 j j (q (oMv j j)<|q (oNl j j j)<|q (oFA (r':=.mp 0 0 2) j fF136_2 j j)<|q (oLd (cs:=[.im 0 _]) j tF134 j j)<|q (oShr j hx59 j j)<|q (oBi j j j j)<|q (oCvI j uF134 uF2 j)<|q (oAsI j j)<|nl)<|us<|Go.ret (Unw.ret ?_)
   cases h
   exact fr rF158 j
 ·intro K3
  refine gc h j iDec (fun hc4 h=>?_) fun hc4 h=>?_
  ·obtain ⟨x22,hx22,h⟩:=bs h
   exact gd c158 j j j j (mk [(0,M 0),(3,iv (w64 (x22)))] [(0,Od (G 1 (u_S_l00Src s_0)))]) (t j j (oMv j j)<|t j j (oNl j j j)<|t j j (oFA (r':=.mp 0 0 0) j fF136_0 j j)<|t j j (oLd (cs:=[.im 1 _]) j tF22 j j)<|t j j (oMv j j)<|t j j (oNl j j j)<|t j j (oFA (r':=.mp 0 0 1) j fF136_1 j j)<|t j j (oLd (cs:=[.im 0 _]) j tF3 j j)<|t j j (oIAI j hx22 sF22 j j)<|t j j (oLd (cs:=[.im 1 _]) j tF5 j j)<|sS (dN z158 j (oCvI j uF5 uF3 j)) trivial (sS (dN z158 j (oAsI j j)) trivial (sD (by kernel_rfl))))<|K3 _ ⟨(w64 (x22)),h,(by kernel_rfl)⟩
  ·exact Go.skip<|K3 _ ⟨0,h,(by kernel_rfl)⟩
theorem L_spec_l00Src_pick {s_0:S_l00Src} {n_1:Int} {r:(Int×S_l00Src)} (h:spec_l00Src_pick s_0 n_1=some r):FX 106 [.ptr true [(.imm,W 1 (eK .u8) s_0.code),(.imm,I s_0.at_),(.imm,.sc (.int .u64 s_0.seed))],.im 2 false [I n_1]] ([(false,[.im 0 (I r.1)])],[.ptr true [(.imm,W 1 (eK .u8) r.2.code),(.imm,I r.2.at_),(.imm,.sc (.int .u64 r.2.seed))]]):=by
 unfold spec_l00Src_pick at h
 refine FL_goS (A:=[(0,M 0),(1,D 2 (I n_1))]) (B:=[(0,Od (G 1 (u_S_l00Src s_0))),(1,none)]) (nt:=20) rfl rfl Try.func106 rfl rfl rfl rfl ?_
 refine gs<|g0 j j (q (oAsI j j)<|nl)<|us<|gs<|gs<|g0 j j (q (oMv j j)<|q (oBi j j j j)<|nl)<|us<|gc h j iDec (fun hc1 h=>?_) fun hc1 h=>?_
 ·refine gs<|g0 j j (q (oAsI j j)<|nl)<|us<|Go.ret (Unw.ret ?_)
  cases h
  exact fr rF106 j
 ·refine Go.skip<|us<|gs<|?_
  obtain ⟨x9,hx9,h⟩:=bs h
  refine g0 j j (q (oMv j j)<|q (oCa (xs:=[.v false [.mp 0 0 0]]) (vs:=[(false,[.im 0 _])]) (v:=.v false [.im 0 _]) (L_spec_l00Src_next hx9) (.inl j) j kF158_74 j (ppP j j j pp0) j j (pbP j j pb0) j j j)<|q (oAsI j j)<|nl)<|us<|gs<|gs<|g1 j j (mk [(0,M 0),(1,iv n_1),(5,iv x9.1)] [(0,Od (G 1 (u_S_l00Src x9.2)))]) (q (oMv j j)<|q (oBi j j j j)<|nl)<|us<|Go.join (fun st=>∃x_5_r6,∃s_o0_0_r6,∃s_o0_1_r6,∃s_o0_2_r6,spec_l00Src_pick_k6 n_1 x_5_r6 s_o0_0_r6 s_o0_1_r6 s_o0_2_r6=some r∧st.norm ([1,5],[0])=mk [(1,iv n_1),(5,iv x_5_r6)] [(0,Od [Ct 1 (W 1 (eK .u8) s_o0_0_r6),C (I s_o0_1_r6),C (.sc (.int .u64 s_o0_2_r6))])]) ?_ ?_
  ·rintro st ⟨x_5_r6,s_o0_0_r6,s_o0_1_r6,s_o0_2_r6,h,hst⟩
   unfold spec_l00Src_pick_k6 at h
   refine us<|gs<|?_
   obtain ⟨x19,hx19,h⟩:=bs h
   refine g2 c106 j j hst (q (oMv j j)<|q (oMv j j)<|q (oRem j hx19 j j)<|q (oAsI j j)<|nl)<|us<|Go.ret (Unw.ret ?_)
   cases h
   exact fr rF106 j
  ·intro K3
   refine gc h j iDec (fun hc4 h=>?_) fun hc4 h=>?_
   ·obtain ⟨x15,hx15,h⟩:=bs h
    exact g0 j j (q (oMv j j)<|q (oBi j j j j)<|q (oMv j j)<|q (oCa (xs:=[.v false [.mp 0 0 0]]) (vs:=[(false,[.im 0 _])]) (v:=.v false [.im 0 _]) (L_spec_l00Src_next hx15) (.inl j) j kF158_74 j (ppP j j j pp0) j j (pbP j j pb0) j j j)<|q (oBi j j j j)<|q (oAsI j j)<|nl)<|K3 _ ⟨(w64 ((w64 (x9.1*256))+x15.1)),x15.2.code,x15.2.at_,x15.2.seed,h,(by kernel_rfl)⟩
   ·exact Go.skip<|K3 _ ⟨x9.1,x9.2.code,x9.2.at_,x9.2.seed,h,(by kernel_rfl)⟩
theorem L_spec_l00Src_one {s_0:S_l00Src} {n_1:Int} {r:(Bool×S_l00Src)} (h:spec_l00Src_one s_0 n_1=some r):FX 83 [.ptr true [(.imm,W 1 (eK .u8) s_0.code),(.imm,I s_0.at_),(.imm,.sc (.int .u64 s_0.seed))],.im 2 false [I n_1]] ([(false,[.im 0 (V r.1)])],[.ptr true [(.imm,W 1 (eK .u8) r.2.code),(.imm,I r.2.at_),(.imm,.sc (.int .u64 r.2.seed))]]):=by
 unfold spec_l00Src_one at h
 refine FL_goS (A:=[(0,M 0),(1,D 2 (I n_1))]) (B:=[(0,Od (G 1 (u_S_l00Src s_0))),(1,none)]) (nt:=9) rfl rfl Try.func83 rfl rfl rfl rfl ?_
 refine gs<|g0 j j (q (oAsI j j)<|nl)<|us<|gs<|?_
 obtain ⟨x7,hx7,h⟩:=bs h
 refine g0 j j (q (oMv j j)<|q (oMv j j)<|q (oCa (xs:=[.v false [.mp 0 0 0],.v false [.im 2 _]]) (vs:=[(false,[.im 0 _])]) (v:=.v false [.im 0 _]) (L_spec_l00Src_pick hx7) (.inl j) j kF106_74_2 j (ppP j j j (ppC j pp0)) j j (pbP j j pb0) j j j)<|q (oBi j j j j)<|q (oAsI j j)<|nl)<|us<|Go.ret (Unw.ret ?_)
 cases h
 exact fr rF83 j
theorem L_spec_l23Ring {s_0:S_l00Src} {r:(S_Drawing×S_l00Src)} (h:spec_l23Ring s_0=some r):FX 84 [.ptr true [(.imm,W 1 (eK .u8) s_0.code),(.imm,I s_0.at_),(.imm,.sc (.int .u64 s_0.seed))]] ([(true,[.im 0 (I r.1.Width),.im 0 (I r.1.Height),.ow 0 2 (List.map e_S_Point r.1.Points),.ow 0 2 (List.map e_S_Face r.1.Faces)])],[.ptr true [(.imm,W 1 (eK .u8) r.2.code),(.imm,I r.2.at_),(.imm,.sc (.int .u64 r.2.seed))]]):=by
 unfold spec_l23Ring at h
 refine FL_goS (A:=[(0,M 0)]) (B:=[(0,Od (G 1 (u_S_l00Src s_0)))]) (nt:=69) rfl rfl Try.func84 rfl rfl rfl rfl ?_
 refine gs<|g0 j j (q (oAl j tF26 (tkI (tkI (tkN (tkN tk0)))))<|nl)<|us<|gs<|?_
 obtain ⟨x8,hx8,h⟩:=bs h
 refine g0 j j (q (oMv j j)<|q (oCa (xs:=[.v false [.mp 0 0 0],.v false [.im 0 _]]) (vs:=[(false,[.im 0 _])]) (v:=.v false [.im 0 _]) (L_spec_l00Src_pick hx8) (.inl j) j kF106_74_2 j (ppP j j j (ppC j pp0)) j j (pbP j j pb0) j j j)<|q (oBi j j j j)<|q (oAsI j j)<|nl)<|us<|gs<|?_
 obtain ⟨x13,hx13,h⟩:=bs h
 refine g1 j j (mk [(0,M 0),(2,M 2),(3,iv (w64 (20+x8.1)))] [(0,Od (G 1 (u_S_l00Src x8.2))),(2,Oa [C (I 0),C (I 0),Z (W 2 e_S_Point ([]:List S_Point)),Z (W 2 e_S_Face ([]:List S_Face))])]) (q (oMv j j)<|q (oBi j j j j)<|q (oMv j j)<|q (oCa (xs:=[.v false [.mp 0 0 0],.v false [.im 0 _]]) (vs:=[(false,[.im 0 _])]) (v:=.v false [.im 0 _]) (L_spec_l00Src_pick hx13) (.inl j) j kF106_74_2 j (ppP j j j (ppC j pp0)) j j (pbP j j pb0) j j j)<|q (oBi j j j j)<|q (oAsI j j)<|nl)<|us<|gs<|?_
 obtain ⟨x18,hx18,h⟩:=bs h
 refine g1 j j (mk [(0,M 0),(2,M 2),(3,iv (w64 (20+x8.1))),(4,iv (w64 ((w64 ((w64 (20+x8.1))+20))+x13.1)))] [(0,Od (G 1 (u_S_l00Src x13.2))),(2,Oa [C (I 0),C (I 0),Z (W 2 e_S_Point ([]:List S_Point)),Z (W 2 e_S_Face ([]:List S_Face))])]) (q (oMv j j)<|q (oBi j j j j)<|q (oMv j j)<|q (oCa (xs:=[.v false [.mp 0 0 0],.v false [.im 0 _]]) (vs:=[(false,[.im 0 _])]) (v:=.v false [.im 0 _]) (L_spec_l00Src_pick hx18) (.inl j) j kF106_74_2 j (ppP j j j (ppC j pp0)) j j (pbP j j pb0) j j j)<|q (oBi j j j j)<|q (oAsI j j)<|nl)<|us<|gs<|g1 j j (mk [(0,M 0),(2,M 2),(3,iv (w64 (20+x8.1))),(4,iv (w64 ((w64 ((w64 (20+x8.1))+20))+x13.1))),(5,iv (w64 ((w64 ((w64 ((w64 ((w64 (20+x8.1))+20))+x13.1))+20))+x18.1)))] [(0,Od (G 1 (u_S_l00Src x18.2))),(2,Oa [C (I 0),C (I 0),Z (W 2 e_S_Point ([]:List S_Point)),Z (W 2 e_S_Face ([]:List S_Face))])]) (q (oMv j j)<|q (oMv j j)<|q (oBu (cs:=[.im 0 _,.im 0 _]) j bF145 j)<|q (oMv j j)<|q (oBu (cs:=[.im 0 _,.im 0 _]) j bF145 j)<|q (oMv j j)<|q (oMv j j)<|q (oBu (cs:=[.im 0 _,.im 0 _]) j bF145 j)<|q (oMv j j)<|q (oBu (cs:=[.im 0 _,.im 0 _]) j bF145 j)<|q (oMv j j)<|q (oMv j j)<|q (oBu (cs:=[.im 0 _,.im 0 _]) j bF145 j)<|q (oMv j j)<|q (oMv j j)<|q (oBu (cs:=[.im 0 _,.im 0 _]) j bF145 j)<|q (oMv j j)<|q (oMv j j)<|q (oBu (cs:=[.im 0 _,.im 0 _]) j bF145 j)<|q (oMv j j)<|q (oMv j j)<|q (oBu (cs:=[.im 0 _,.im 0 _]) j bF145 j)<|q (oBS (es:=List.map e_S_Point ([(⟨0,0⟩:S_Point),(⟨(w64 ((w64 ((w64 ((w64 ((w64 (20+x8.1))+20))+x13.1))+20))+x18.1)),0⟩:S_Point),(⟨(w64 ((w64 ((w64 ((w64 ((w64 (20+x8.1))+20))+x13.1))+20))+x18.1)),(w64 ((w64 ((w64 ((w64 ((w64 (20+x8.1))+20))+x13.1))+20))+x18.1))⟩:S_Point),(⟨0,(w64 ((w64 ((w64 ((w64 ((w64 (20+x8.1))+20))+x13.1))+20))+x18.1))⟩:S_Point),(⟨(w64 (20+x8.1)),(w64 (20+x8.1))⟩:S_Point),(⟨(w64 ((w64 ((w64 (20+x8.1))+20))+x13.1)),(w64 (20+x8.1))⟩:S_Point),(⟨(w64 ((w64 ((w64 (20+x8.1))+20))+x13.1)),(w64 ((w64 ((w64 (20+x8.1))+20))+x13.1))⟩:S_Point),(⟨(w64 (20+x8.1)),(w64 ((w64 ((w64 (20+x8.1))+20))+x13.1))⟩:S_Point)]:List S_Point)) j sF23 j (ptC j (fxI (fxI fx0)) j (ptC j (fxI (fxI fx0)) j (ptC j (fxI (fxI fx0)) j (ptC j (fxI (fxI fx0)) j (ptC j (fxI (fxI fx0)) j (ptC j (fxI (fxI fx0)) j (ptC j (fxI (fxI fx0)) j (ptC j (fxI (fxI fx0)) j pt0)))))))) (flat0 j fun _=>j))<|q (oBu (cs:=[.im 0 _,.im 0 _,.own 42 0 0,.nil]) j bF26 j)<|q (oAl j tF26 (tkI (tkI (tkN (tkN tk0)))))<|q (oSt tF26 j j j (tkI (tkI (tkO j j (tkN tk0)))) j j j)<|nl)<|us<|gs<|g1 j j (mk [(0,M 0),(2,M 2),(6,M 6)] [(0,Od (G 1 (u_S_l00Src x18.2))),(2,Oa [C (I 0),C (I 0),Z (W 2 e_S_Point ([]:List S_Point)),Z (W 2 e_S_Face ([]:List S_Face))]),(6,Oa [C (I (w64 ((w64 ((w64 ((w64 ((w64 (20+x8.1))+20))+x13.1))+20))+x18.1))),C (I (w64 ((w64 ((w64 ((w64 ((w64 (20+x8.1))+20))+x13.1))+20))+x18.1))),Z (W 2 e_S_Point ([(⟨0,0⟩:S_Point),(⟨(w64 ((w64 ((w64 ((w64 ((w64 (20+x8.1))+20))+x13.1))+20))+x18.1)),0⟩:S_Point),(⟨(w64 ((w64 ((w64 ((w64 ((w64 (20+x8.1))+20))+x13.1))+20))+x18.1)),(w64 ((w64 ((w64 ((w64 ((w64 (20+x8.1))+20))+x13.1))+20))+x18.1))⟩:S_Point),(⟨0,(w64 ((w64 ((w64 ((w64 ((w64 (20+x8.1))+20))+x13.1))+20))+x18.1))⟩:S_Point),(⟨(w64 (20+x8.1)),(w64 (20+x8.1))⟩:S_Point),(⟨(w64 ((w64 ((w64 (20+x8.1))+20))+x13.1)),(w64 (20+x8.1))⟩:S_Point),(⟨(w64 ((w64 ((w64 (20+x8.1))+20))+x13.1)),(w64 ((w64 ((w64 (20+x8.1))+20))+x13.1))⟩:S_Point),(⟨(w64 (20+x8.1)),(w64 ((w64 ((w64 (20+x8.1))+20))+x13.1))⟩:S_Point)]:List S_Point)),Z (W 2 e_S_Face ([]:List S_Face))])]) (q (oBS (es:=List.map eI ([0,1,5,4]:List Int)) j sF28 j (ptC j (fxI fx0) j (ptC j (fxI fx0) j (ptC j (fxI fx0) j (ptC j (fxI fx0) j pt0)))) (flat0 j fun _=>j))<|q (oBu (cs:=[.im 0 _,.own 44 0 0]) j bF139 j)<|q (oBS (es:=List.map eI ([1,2,6,5]:List Int)) j sF28 j (ptC j (fxI fx0) j (ptC j (fxI fx0) j (ptC j (fxI fx0) j (ptC j (fxI fx0) j pt0)))) (flat0 j fun _=>j))<|q (oBu (cs:=[.im 0 _,.own 46 0 0]) j bF139 j)<|q (oBS (es:=List.map eI ([2,3,7,6]:List Int)) j sF28 j (ptC j (fxI fx0) j (ptC j (fxI fx0) j (ptC j (fxI fx0) j (ptC j (fxI fx0) j pt0)))) (flat0 j fun _=>j))<|q (oBu (cs:=[.im 0 _,.own 48 0 0]) j bF139 j)<|q (oBS (es:=List.map eI ([3,0,4,7]:List Int)) j sF28 j (ptC j (fxI fx0) j (ptC j (fxI fx0) j (ptC j (fxI fx0) j (ptC j (fxI fx0) j pt0)))) (flat0 j fun _=>j))<|q (oBu (cs:=[.im 0 _,.own 50 0 0]) j bF139 j)<|q (oBS (es:=List.map eI ([4,5,6,7]:List Int)) j sF28 j (ptC j (fxI fx0) j (ptC j (fxI fx0) j (ptC j (fxI fx0) j (ptC j (fxI fx0) j pt0)))) (flat0 j fun _=>j))<|q (oBu (cs:=[.im 0 _,.own 52 0 0]) j bF139 j)<|q (oBS (es:=List.map e_S_Face ([(⟨(⟨#[97]⟩:ByteArray),([0,1,5,4]:List Int)⟩:S_Face),(⟨(⟨#[98]⟩:ByteArray),([1,2,6,5]:List Int)⟩:S_Face),(⟨(⟨#[99]⟩:ByteArray),([2,3,7,6]:List Int)⟩:S_Face),(⟨(⟨#[100]⟩:ByteArray),([3,0,4,7]:List Int)⟩:S_Face),(⟨(⟨#[101]⟩:ByteArray),([4,5,6,7]:List Int)⟩:S_Face)]:List S_Face)) j sF24 j (ptC j (fxI (fxO j j fx0)) j (ptC j (fxI (fxO j j fx0)) j (ptC j (fxI (fxO j j fx0)) j (ptC j (fxI (fxO j j fx0)) j (ptC j (fxI (fxO j j fx0)) j pt0))))) (flat1 j))<|q (oFA (r':=.mp 6 0 3) j fF26_3 j j)<|q (oSt tF24 j j j (tkO j j tk0) j j j)<|nl)<|us<|gs<|gs<|?_
 obtain ⟨x57,hx57,h⟩:=bs h
 refine g1 j j (mk [(0,M 0),(2,M 2),(6,M 6)] [(0,Od (G 1 (u_S_l00Src x18.2))),(2,Oa [C (I 0),C (I 0),Z (W 2 e_S_Point ([]:List S_Point)),Z (W 2 e_S_Face ([]:List S_Face))]),(6,Oa [C (I (w64 ((w64 ((w64 ((w64 ((w64 (20+x8.1))+20))+x13.1))+20))+x18.1))),C (I (w64 ((w64 ((w64 ((w64 ((w64 (20+x8.1))+20))+x13.1))+20))+x18.1))),Z (W 2 e_S_Point ([(⟨0,0⟩:S_Point),(⟨(w64 ((w64 ((w64 ((w64 ((w64 (20+x8.1))+20))+x13.1))+20))+x18.1)),0⟩:S_Point),(⟨(w64 ((w64 ((w64 ((w64 ((w64 (20+x8.1))+20))+x13.1))+20))+x18.1)),(w64 ((w64 ((w64 ((w64 ((w64 (20+x8.1))+20))+x13.1))+20))+x18.1))⟩:S_Point),(⟨0,(w64 ((w64 ((w64 ((w64 ((w64 (20+x8.1))+20))+x13.1))+20))+x18.1))⟩:S_Point),(⟨(w64 (20+x8.1)),(w64 (20+x8.1))⟩:S_Point),(⟨(w64 ((w64 ((w64 (20+x8.1))+20))+x13.1)),(w64 (20+x8.1))⟩:S_Point),(⟨(w64 ((w64 ((w64 (20+x8.1))+20))+x13.1)),(w64 ((w64 ((w64 (20+x8.1))+20))+x13.1))⟩:S_Point),(⟨(w64 (20+x8.1)),(w64 ((w64 ((w64 (20+x8.1))+20))+x13.1))⟩:S_Point)]:List S_Point)),Z (W 2 e_S_Face ([(⟨(⟨#[97]⟩:ByteArray),([0,1,5,4]:List Int)⟩:S_Face),(⟨(⟨#[98]⟩:ByteArray),([1,2,6,5]:List Int)⟩:S_Face),(⟨(⟨#[99]⟩:ByteArray),([2,3,7,6]:List Int)⟩:S_Face),(⟨(⟨#[100]⟩:ByteArray),([3,0,4,7]:List Int)⟩:S_Face),(⟨(⟨#[101]⟩:ByteArray),([4,5,6,7]:List Int)⟩:S_Face)]:List S_Face))])]) (q (oMv j j)<|q (oCa (xs:=[.v false [.mp 0 0 0],.v false [.im 0 _]]) (vs:=[(false,[.im 0 _])]) (v:=.v false [.im 0 _]) (L_spec_l00Src_one hx57) (.inl j) j kF83_74_2 j (ppP j j j (ppC j pp0)) j j (pbP j j pb0) j j j)<|nl)<|us<|Go.join (fun st=>∃d_o6_3_r8,spec_l23Ring_k8 x13 x18 x57 x8 d_o6_3_r8=some r∧st.norm ([0,2,6],[0,2,6])=mk [(0,M 0),(2,M 2),(6,M 6)] [(0,Od (G 1 (u_S_l00Src x57.2))),(2,Oa [C (I 0),C (I 0),Z (W 2 e_S_Point ([]:List S_Point)),Z (W 2 e_S_Face ([]:List S_Face))]),(6,Oa [C (I (w64 ((w64 ((w64 ((w64 ((w64 (20+x8.1))+20))+x13.1))+20))+x18.1))),C (I (w64 ((w64 ((w64 ((w64 ((w64 (20+x8.1))+20))+x13.1))+20))+x18.1))),Z (W 2 e_S_Point ([(⟨0,0⟩:S_Point),(⟨(w64 ((w64 ((w64 ((w64 ((w64 (20+x8.1))+20))+x13.1))+20))+x18.1)),0⟩:S_Point),(⟨(w64 ((w64 ((w64 ((w64 ((w64 (20+x8.1))+20))+x13.1))+20))+x18.1)),(w64 ((w64 ((w64 ((w64 ((w64 (20+x8.1))+20))+x13.1))+20))+x18.1))⟩:S_Point),(⟨0,(w64 ((w64 ((w64 ((w64 ((w64 (20+x8.1))+20))+x13.1))+20))+x18.1))⟩:S_Point),(⟨(w64 (20+x8.1)),(w64 (20+x8.1))⟩:S_Point),(⟨(w64 ((w64 ((w64 (20+x8.1))+20))+x13.1)),(w64 (20+x8.1))⟩:S_Point),(⟨(w64 ((w64 ((w64 (20+x8.1))+20))+x13.1)),(w64 ((w64 ((w64 (20+x8.1))+20))+x13.1))⟩:S_Point),(⟨(w64 (20+x8.1)),(w64 ((w64 ((w64 (20+x8.1))+20))+x13.1))⟩:S_Point)]:List S_Point)),Z (W 2 e_S_Face d_o6_3_r8)])]) ?_ ?_
 ·rintro st ⟨d_o6_3_r8,h,hst⟩
  unfold spec_l23Ring_k8 at h
  refine us<|gs<|gs<|?_
  obtain ⟨x63,hx63,h⟩:=bs h
  refine g2 c84 j j hst (q (oMv j j)<|q (oCa (xs:=[.v false [.mp 0 0 0],.v false [.im 0 _]]) (vs:=[(false,[.im 0 _])]) (v:=.v false [.im 0 _]) (L_spec_l00Src_one hx63) (.inl j) j kF83_74_2 j (ppP j j j (ppC j pp0)) j j (pbP j j pb0) j j j)<|nl)<|us<|Go.join (fun st=>∃d_o6_3_r10,spec_l23Ring_k10 x13 x18 x63 x8 d_o6_3_r10=some r∧st.norm ([2,6],[0,2,6])=mk [(2,M 2),(6,M 6)] [(0,Od (G 1 (u_S_l00Src x63.2))),(2,Oa [C (I 0),C (I 0),Z (W 2 e_S_Point ([]:List S_Point)),Z (W 2 e_S_Face ([]:List S_Face))]),(6,Oa [C (I (w64 ((w64 ((w64 ((w64 ((w64 (20+x8.1))+20))+x13.1))+20))+x18.1))),C (I (w64 ((w64 ((w64 ((w64 ((w64 (20+x8.1))+20))+x13.1))+20))+x18.1))),Z (W 2 e_S_Point ([(⟨0,0⟩:S_Point),(⟨(w64 ((w64 ((w64 ((w64 ((w64 (20+x8.1))+20))+x13.1))+20))+x18.1)),0⟩:S_Point),(⟨(w64 ((w64 ((w64 ((w64 ((w64 (20+x8.1))+20))+x13.1))+20))+x18.1)),(w64 ((w64 ((w64 ((w64 ((w64 (20+x8.1))+20))+x13.1))+20))+x18.1))⟩:S_Point),(⟨0,(w64 ((w64 ((w64 ((w64 ((w64 (20+x8.1))+20))+x13.1))+20))+x18.1))⟩:S_Point),(⟨(w64 (20+x8.1)),(w64 (20+x8.1))⟩:S_Point),(⟨(w64 ((w64 ((w64 (20+x8.1))+20))+x13.1)),(w64 (20+x8.1))⟩:S_Point),(⟨(w64 ((w64 ((w64 (20+x8.1))+20))+x13.1)),(w64 ((w64 ((w64 (20+x8.1))+20))+x13.1))⟩:S_Point),(⟨(w64 (20+x8.1)),(w64 ((w64 ((w64 (20+x8.1))+20))+x13.1))⟩:S_Point)]:List S_Point)),Z (W 2 e_S_Face d_o6_3_r10)])]) ?_ ?_
  ·rintro st ⟨d_o6_3_r10,h,hst⟩
   unfold spec_l23Ring_k10 at h
   refine us<|gs<|g2 c84 j j hst (q (oLd (cs:=[.im 0 _,.im 0 _,.own 6 0 2,.own 6 0 3]) j tF26 j j)<|q (oSt tF26 j j j (tkI (tkI (tkO j j (tkO j j tk0)))) j j j)<|nl)<|us<|Go.ret (Unw.ret ?_)
   cases h
   exact fr rF84 j
  ·intro K3
   refine gc h j iR (fun hc4 h=>?_) fun hc4 h=>?_
   ·exact g1 j j (mk [(2,M 2),(6,M 6)] [(0,Od (G 1 (u_S_l00Src x63.2))),(2,Oa [C (I 0),C (I 0),Z (W 2 e_S_Point ([]:List S_Point)),Z (W 2 e_S_Face ([]:List S_Face))]),(6,Oa [C (I (w64 ((w64 ((w64 ((w64 ((w64 (20+x8.1))+20))+x13.1))+20))+x18.1))),C (I (w64 ((w64 ((w64 ((w64 ((w64 (20+x8.1))+20))+x13.1))+20))+x18.1))),Z (W 2 e_S_Point ([(⟨0,0⟩:S_Point),(⟨(w64 ((w64 ((w64 ((w64 ((w64 (20+x8.1))+20))+x13.1))+20))+x18.1)),0⟩:S_Point),(⟨(w64 ((w64 ((w64 ((w64 ((w64 (20+x8.1))+20))+x13.1))+20))+x18.1)),(w64 ((w64 ((w64 ((w64 ((w64 (20+x8.1))+20))+x13.1))+20))+x18.1))⟩:S_Point),(⟨0,(w64 ((w64 ((w64 ((w64 ((w64 (20+x8.1))+20))+x13.1))+20))+x18.1))⟩:S_Point),(⟨(w64 (20+x8.1)),(w64 (20+x8.1))⟩:S_Point),(⟨(w64 ((w64 ((w64 (20+x8.1))+20))+x13.1)),(w64 (20+x8.1))⟩:S_Point),(⟨(w64 ((w64 ((w64 (20+x8.1))+20))+x13.1)),(w64 ((w64 ((w64 (20+x8.1))+20))+x13.1))⟩:S_Point),(⟨(w64 (20+x8.1)),(w64 ((w64 ((w64 (20+x8.1))+20))+x13.1))⟩:S_Point)]:List S_Point)),Z (W 2 e_S_Face d_o6_3_r8)])]) (q (oBS (es:=List.map eI ([4,5,6,7]:List Int)) j sF28 j (ptC j (fxI fx0) j (ptC j (fxI fx0) j (ptC j (fxI fx0) j (ptC j (fxI fx0) j pt0)))) (flat0 j fun _=>j))<|q (oBu (cs:=[.im 0 _,.own 64 0 0]) j bF139 j)<|q (oBS (es:=List.map e_S_Face ([(⟨(⟨#[101]⟩:ByteArray),([4,5,6,7]:List Int)⟩:S_Face)]:List S_Face)) j sF24 j (ptC j (fxI (fxO j j fx0)) j pt0) (flat1 j))<|q (oFA (r':=.mp 6 0 3) j fF26_3 j j)<|q (oSt tF24 j j j (tkO j j tk0) j j j)<|nl)<|K3 _ ⟨([(⟨(⟨#[101]⟩:ByteArray),([4,5,6,7]:List Int)⟩:S_Face)]:List S_Face),h,(by kernel_rfl)⟩
   ·exact Go.skip<|K3 _ ⟨d_o6_3_r8,h,(by kernel_rfl)⟩
 ·intro K5
  refine gc h j iR (fun hc6 h=>?_) fun hc6 h=>?_
  ·obtain ⟨x60,hx60,h⟩:=bs h
   exact g1 j j (mk [(0,M 0),(2,M 2),(6,M 6)] [(0,Od (G 1 (u_S_l00Src x57.2))),(2,Oa [C (I 0),C (I 0),Z (W 2 e_S_Point ([]:List S_Point)),Z (W 2 e_S_Face ([]:List S_Face))]),(6,Oa [C (I (w64 ((w64 ((w64 ((w64 ((w64 (20+x8.1))+20))+x13.1))+20))+x18.1))),C (I (w64 ((w64 ((w64 ((w64 ((w64 (20+x8.1))+20))+x13.1))+20))+x18.1))),Z (W 2 e_S_Point ([(⟨0,0⟩:S_Point),(⟨(w64 ((w64 ((w64 ((w64 ((w64 (20+x8.1))+20))+x13.1))+20))+x18.1)),0⟩:S_Point),(⟨(w64 ((w64 ((w64 ((w64 ((w64 (20+x8.1))+20))+x13.1))+20))+x18.1)),(w64 ((w64 ((w64 ((w64 ((w64 (20+x8.1))+20))+x13.1))+20))+x18.1))⟩:S_Point),(⟨0,(w64 ((w64 ((w64 ((w64 ((w64 (20+x8.1))+20))+x13.1))+20))+x18.1))⟩:S_Point),(⟨(w64 (20+x8.1)),(w64 (20+x8.1))⟩:S_Point),(⟨(w64 ((w64 ((w64 (20+x8.1))+20))+x13.1)),(w64 (20+x8.1))⟩:S_Point),(⟨(w64 ((w64 ((w64 (20+x8.1))+20))+x13.1)),(w64 ((w64 ((w64 (20+x8.1))+20))+x13.1))⟩:S_Point),(⟨(w64 (20+x8.1)),(w64 ((w64 ((w64 (20+x8.1))+20))+x13.1))⟩:S_Point)]:List S_Point)),Z (W 2 e_S_Face ([(⟨(⟨#[97]⟩:ByteArray),([0,1,5,4]:List Int)⟩:S_Face),(⟨(⟨#[98]⟩:ByteArray),([1,2,6,5]:List Int)⟩:S_Face),(⟨(⟨#[99]⟩:ByteArray),([2,3,7,6]:List Int)⟩:S_Face),(⟨(⟨#[100]⟩:ByteArray),([3,0,4,7]:List Int)⟩:S_Face),(⟨(⟨#[101]⟩:ByteArray),([4,5,6,7]:List Int)⟩:S_Face)]:List S_Face))])]) (q (oFA (r':=.mp 6 0 3) j fF26_3 j j)<|q (oLd (cs:=[.own 6 0 3]) j tF24 j j)<|q (oSlO j hx60 sF24 j j j (bn1 j) bn0 j j j)<|q (oFA (r':=.mp 6 0 3) j fF26_3 j j)<|q (oSt tF24 j j j (tkSM j j tk0) j j j)<|nl)<|K5 _ ⟨((([(⟨(⟨#[97]⟩:ByteArray),([0,1,5,4]:List Int)⟩:S_Face),(⟨(⟨#[98]⟩:ByteArray),([1,2,6,5]:List Int)⟩:S_Face),(⟨(⟨#[99]⟩:ByteArray),([2,3,7,6]:List Int)⟩:S_Face),(⟨(⟨#[100]⟩:ByteArray),([3,0,4,7]:List Int)⟩:S_Face),(⟨(⟨#[101]⟩:ByteArray),([4,5,6,7]:List Int)⟩:S_Face)]:List S_Face).take ((([(⟨(⟨#[97]⟩:ByteArray),([0,1,5,4]:List Int)⟩:S_Face),(⟨(⟨#[98]⟩:ByteArray),([1,2,6,5]:List Int)⟩:S_Face),(⟨(⟨#[99]⟩:ByteArray),([2,3,7,6]:List Int)⟩:S_Face),(⟨(⟨#[100]⟩:ByteArray),([3,0,4,7]:List Int)⟩:S_Face),(⟨(⟨#[101]⟩:ByteArray),([4,5,6,7]:List Int)⟩:S_Face)]:List S_Face).length:Int).toNat)).drop ((1:Int).toNat)),h,(by kernel_rfl)⟩
  ·exact Go.skip<|K5 _ ⟨([(⟨(⟨#[97]⟩:ByteArray),([0,1,5,4]:List Int)⟩:S_Face),(⟨(⟨#[98]⟩:ByteArray),([1,2,6,5]:List Int)⟩:S_Face),(⟨(⟨#[99]⟩:ByteArray),([2,3,7,6]:List Int)⟩:S_Face),(⟨(⟨#[100]⟩:ByteArray),([3,0,4,7]:List Int)⟩:S_Face),(⟨(⟨#[101]⟩:ByteArray),([4,5,6,7]:List Int)⟩:S_Face)]:List S_Face),h,(by kernel_rfl)⟩
theorem L_spec_l01Dec {n_0:Int} {r:ByteArray} (h:spec_l01Dec n_0=some r):FX 149 [.im 2 false [I n_0]] (B0 [(false,[.im 0 (Y r)])]):=by
 unfold spec_l01Dec at h
 refine gn 50 Try.func149 rfl ?_
 refine gs<|g0 j j (q (oAsI j j)<|nl)<|us<|gs<|gs<|g0 j j (q (oMv j j)<|q (oBi j j j j)<|nl)<|us<|gc h j iEq (fun hc1 h=>?_) fun hc1 h=>?_
 ·refine gs<|g0 j j (q (oAsI j j)<|nl)<|us<|Go.ret (Unw.ret ?_)
  cases h
  exact fr rF149 j
 ·refine Go.skip<|us<|gs<|g0 j j (q (oBS (es:=List.map (eK .u8) ([]:List Int)) j sF22 j pt0 (flat0 j fun _=>j))<|q (oAsO j j j j j)<|nl)<|us<|gs<|gs<|g0 j j (q (oMv j j)<|q (oAsI j j)<|nl)<|us<|Go.block<|?_
  obtain ⟨o,hl,h⟩:=bs h
  refine gl c149 j _ (fun (s:(Int×(List Int)))=>match s with | (m_4_l5,digits_o3_l5)=>mk [(0,iv n_0),(3,H 3 0),(4,iv m_4_l5)] [(3,Oc [Z (W 1 (eK .u8) digits_o3_l5)])]) (fun (digits_o3_e0_5:(List Int)) (p:Ex×St)=>p.1= .exit 0∧p.2.norm ([0,3],[3])=mk [(0,iv n_0),(3,H 3 0)] [(3,Oc [Z (W 1 (eK .u8) digits_o3_e0_5)])]) hl (by kernel_rfl) ?_ ?_ ?_
  ·intro o p hp e
   exact nomatch (hp.1.symm.trans e)
  ·rintro ⟨m_4_l5,digits_o3_l5⟩ o h
   unfold spec_l01Dec_l5 at h
   dsimp only at h
   refine gs<|gs<|g0 j j (q (oMv j j)<|q (oBi j j j j)<|nl)<|us<|gc h j iNe (fun hc12 h=>?_) fun hc12 h=>?_
   ·refine Go.skip<|us<|gs<|Go.block<|gs<|?_
    obtain ⟨x17,hx17,h⟩:=bs h
    refine g0 j j (q (oMv j j)<|q (oRem j hx17 j j)<|q (oAsI j j)<|nl)<|us<|gs<|gs<|g0 j j (q (oMv j j)<|q (oBi j j j j)<|nl)<|us<|Go.join (fun st=>∃d_5_r10,spec_l01Dec_k10 digits_o3_l5 m_4_l5 d_5_r10=some o∧st.norm ([0,3,4,5],[3])=mk [(0,iv n_0),(3,H 3 0),(4,iv m_4_l5),(5,iv d_5_r10)] [(3,Oc [Z (W 1 (eK .u8) digits_o3_l5)])]) ?_ ?_
    ·rintro st ⟨d_5_r10,h,hst⟩
     unfold spec_l01Dec_k10 at h
     refine us<|?_
     obtain ⟨x27,hx27,h⟩:=bs h
     refine g2 c149 j j hst (q (oMv j j)<|q (oMv j j)<|q (oBi j j j j)<|q (oCvI j uF2 uF5 j)<|q (oBS (es:=List.map (eK .u8) ([(IntKind.wrap .u8 ((w64 (48+d_5_r10))))]:List Int)) j sF22 j (ptC j (fxI fx0) j pt0) (flat0 j fun _=>j))<|q (oApO (en:=(eK .u8)) (M:=([(IntKind.wrap .u8 ((w64 (48+d_5_r10))))]:List Int)) j hx27 j sF22 j j uF22 (.inl ⟨_,j⟩) j j j j (el_own j j) (flat0 j fun _=>j))<|q (oAsO j j j j j)<|nl)<|Unw.blk<|us<|?_
     obtain ⟨x15,hx15,h⟩:=bs h
     refine g0 j j (q (oMv j j)<|q (oQuo j hx15 j j)<|q (oAsI j j)<|nl)<|Unw.nil<|?_
     cases h
     exact ⟨j,(by kernel_rfl)⟩
    ·intro K14
     refine gc h j iDec (fun hc15 h=>?_) fun hc15 h=>?_
     ·exact g0 j j (q (oMv j j)<|q (oUn j j j)<|q (oAsI j j)<|nl)<|K14 _ ⟨(w64 (0 - x17)),h,(by kernel_rfl)⟩
     ·exact Go.skip<|K14 _ ⟨x17,h,(by kernel_rfl)⟩
   ·refine Go.exit<|ux<|Unw.nil<|?_
    cases h
    exact ⟨j,(by kernel_rfl)⟩
  ·rintro ⟨e,st⟩ hp
   obtain ⟨digits_o3_e0_5,rfl⟩:∃y,y=o:=⟨o,rfl⟩
   obtain ⟨he,hst⟩:=hp
   obtain rfl:e= .exit 0:=he
   refine Unw.blkx<|us<|gs<|gs<|g2 c149 j j hst (q (oMv j j)<|q (oBi j j j j)<|nl)<|us<|Go.join (fun st=>∃digits_o3_r13,spec_l01Dec_k13 digits_o3_r13=some r∧st.norm ([3],[3])=mk [(3,H 3 0)] [(3,Oc [Z (W 1 (eK .u8) digits_o3_r13)])]) ?_ ?_
   ·rintro st ⟨digits_o3_r13,h,hst⟩
    unfold spec_l01Dec_k13 at h
    refine us<|gs<|g2 c149 j j hst (q (oBS (es:=List.map (eK .u8) ([]:List Int)) j sF22 j pt0 (flat0 j fun _=>j))<|q (oAsO j j j j j)<|nl)<|us<|gs<|gs<|g0 j j (q (oMv j j)<|q (oLnO j j uF22 j j j (fun e=>nomatch e))<|q (oBi j j j j)<|q (oAsI j j)<|nl)<|us<|Go.block<|?_
    obtain ⟨o,hl,h⟩:=bs h
    refine gl c149 j _ (fun (s:(Int×(List Int)))=>match s with | (i_7_l15,out_o6_l15)=>mk [(3,H 3 0),(6,H 6 0),(7,iv i_7_l15)] [(3,Oc [Z (W 1 (eK .u8) digits_o3_r13)]),(6,Oc [Z (W 1 (eK .u8) out_o6_l15)])]) (fun (out_o6_e2_15:(List Int)) (p:Ex×St)=>p.1= .exit 2∧p.2.norm ([6],[6])=mk [(6,H 6 0)] [(6,Oc [Z (W 1 (eK .u8) out_o6_e2_15)])]) hl (by kernel_rfl) ?_ ?_ ?_
    ·intro o p hp e
     exact nomatch (hp.1.symm.trans e)
    ·rintro ⟨i_7_l15,out_o6_l15⟩ o h
     unfold spec_l01Dec_l15 at h
     dsimp only at h
     refine gs<|gs<|g0 j j (q (oMv j j)<|q (oBi j j j j)<|nl)<|us<|gc h j iDec (fun hc9 h=>?_) fun hc9 h=>?_
     ·refine Go.skip<|us<|gs<|Go.block<|?_
      obtain ⟨x44,hx44,h⟩:=bs h
      obtain ⟨x47,hx47,h⟩:=bs h
      refine g0 j j (q (oMv j j)<|q (oMv j j)<|q (oMv j j)<|q (oIAO j hx44 sF22 j j j j)<|q (oLdE (cs:=[.im 0 _]) j tF5 j j j j (rd_get hx44) j j)<|q (oBS (es:=List.map (eK .u8) ([x44]:List Int)) j sF22 j (ptC j (fxI fx0) j pt0) (flat0 j fun _=>j))<|q (oApO (en:=(eK .u8)) (M:=([x44]:List Int)) j hx47 j sF22 j j uF22 (.inl ⟨_,j⟩) j j j j (el_own j j) (flat0 j fun _=>j))<|q (oAsO j j j j j)<|nl)<|Unw.blk<|us<|g0 j j (q (oMv j j)<|q (oBi j j j j)<|q (oAsI j j)<|nl)<|Unw.nil<|?_
      cases h
      exact ⟨j,(by kernel_rfl)⟩
     ·refine Go.exit<|ux<|Unw.nil<|?_
      cases h
      exact ⟨j,(by kernel_rfl)⟩
    ·rintro ⟨e,st⟩ hp
     obtain ⟨out_o6_e2_15,rfl⟩:∃y,y=o:=⟨o,rfl⟩
     obtain ⟨he,hst⟩:=hp
     obtain rfl:e= .exit 2:=he
     refine Unw.blkx<|us<|gs<|g2 c149 j j hst (q (oMv j j)<|q (oCvB (l:=out_o6_e2_15) j uF22 uF5 uF9 j (el_own j j))<|q (oAsI j j)<|nl)<|us<|Go.ret (Unw.ret ?_)
     cases h
     exact fr rF149 j
   ·intro K10
    refine gc h j iDec (fun hc11 h=>?_) fun hc11 h=>?_
    ·obtain ⟨x32,hx32,h⟩:=bs h
     exact g0 j j (q (oMv j j)<|q (oBS (es:=List.map (eK .u8) ([45]:List Int)) j sF22 j (ptC j (fxI fx0) j pt0) (flat0 j fun _=>j))<|q (oApO (en:=(eK .u8)) (M:=([45]:List Int)) j hx32 j sF22 j j uF22 (.inl ⟨_,j⟩) j j j j (el_own j j) (flat0 j fun _=>j))<|q (oAsO j j j j j)<|nl)<|K10 _ ⟨x32,h,(by kernel_rfl)⟩
    ·exact Go.skip<|K10 _ ⟨digits_o3_e0_5,h,(by kernel_rfl)⟩
theorem L_spec_l05Grid {s_0:S_l00Src} {r:(S_Drawing×S_l00Src)} (h:spec_l05Grid s_0=some r):FX 90 [.ptr true [(.imm,W 1 (eK .u8) s_0.code),(.imm,I s_0.at_),(.imm,.sc (.int .u64 s_0.seed))]] ([(true,[.im 0 (I r.1.Width),.im 0 (I r.1.Height),.ow 0 2 (List.map e_S_Point r.1.Points),.ow 0 2 (List.map e_S_Face r.1.Faces)])],[.ptr true [(.imm,W 1 (eK .u8) r.2.code),(.imm,I r.2.at_),(.imm,.sc (.int .u64 r.2.seed))]]):=by
 unfold spec_l05Grid at h
 refine FL_goS (A:=[(0,M 0)]) (B:=[(0,Od (G 1 (u_S_l00Src s_0)))]) (nt:=129) rfl rfl Try.func90 rfl rfl rfl rfl ?_
 refine gs<|g0 j j (q (oAl j tF26 (tkI (tkI (tkN (tkN tk0)))))<|nl)<|us<|gs<|?_
 obtain ⟨x16,hx16,h⟩:=bs h
 refine g0 j j (q (oMv j j)<|q (oCa (xs:=[.v false [.mp 0 0 0],.v false [.im 0 _]]) (vs:=[(false,[.im 0 _])]) (v:=.v false [.im 0 _]) (L_spec_l00Src_pick hx16) (.inl j) j kF106_74_2 j (ppP j j j (ppC j pp0)) j j (pbP j j pb0) j j j)<|q (oBi j j j j)<|q (oAsI j j)<|nl)<|us<|gs<|?_
 obtain ⟨x19,hx19,h⟩:=bs h
 refine g1 j j (mk [(0,M 0),(2,M 2),(3,iv (w64 (1+x16.1)))] [(0,Od (G 1 (u_S_l00Src x16.2))),(2,Oa [C (I 0),C (I 0),Z (W 2 e_S_Point ([]:List S_Point)),Z (W 2 e_S_Face ([]:List S_Face))])]) (q (oMv j j)<|q (oCa (xs:=[.v false [.mp 0 0 0],.v false [.im 0 _]]) (vs:=[(false,[.im 0 _])]) (v:=.v false [.im 0 _]) (L_spec_l00Src_pick hx19) (.inl j) j kF106_74_2 j (ppP j j j (ppC j pp0)) j j (pbP j j pb0) j j j)<|q (oBi j j j j)<|q (oAsI j j)<|nl)<|us<|gs<|g1 j j (mk [(0,M 0),(2,M 2),(3,iv (w64 (1+x16.1))),(4,iv (w64 (1+x19.1)))] [(0,Od (G 1 (u_S_l00Src x19.2))),(2,Oa [C (I 0),C (I 0),Z (W 2 e_S_Point ([]:List S_Point)),Z (W 2 e_S_Face ([]:List S_Face))])]) (q (oBS (es:=List.map eI ([0]:List Int)) j sF28 j (ptC j (fxI fx0) j pt0) (flat0 j fun _=>j))<|q (oAsO j j j j j)<|nl)<|us<|gs<|g0 j j (q (oBS (es:=List.map eI ([0]:List Int)) j sF28 j (ptC j (fxI fx0) j pt0) (flat0 j fun _=>j))<|q (oAsO j j j j j)<|nl)<|us<|gs<|gs<|g0 j j (q (oAsI j j)<|nl)<|us<|Go.block<|?_
 obtain ⟨o,hl,h⟩:=bs h
 refine gl c90 j _ (fun (s:(Int×(List Int)×Int×Int×(List Int)))=>match s with | (i_7_l6,s_o0_0_l6,s_o0_1_l6,s_o0_2_l6,xs_o5_l6)=>mk [(0,M 0),(2,M 2),(3,iv (w64 (1+x16.1))),(4,iv (w64 (1+x19.1))),(5,H 5 0),(6,H 6 0),(7,iv i_7_l6)] [(0,Od [Ct 1 (W 1 (eK .u8) s_o0_0_l6),C (I s_o0_1_l6),C (.sc (.int .u64 s_o0_2_l6))]),(2,Oa [C (I 0),C (I 0),Z (W 2 e_S_Point ([]:List S_Point)),Z (W 2 e_S_Face ([]:List S_Face))]),(5,Oc [Z (W 1 eI xs_o5_l6)]),(6,Oc [Z (W 1 eI ([0]:List Int))])]) (fun (o:((List Int)×Int×Int×(List Int))) (p:Ex×St)=>match o with | (s_o0_0_e0_6,s_o0_1_e0_6,s_o0_2_e0_6,xs_o5_e0_6)=>p.1= .exit 0∧p.2.norm ([0,2,3,4,5,6],[0,2,5,6])=mk [(0,M 0),(2,M 2),(3,iv (w64 (1+x16.1))),(4,iv (w64 (1+x19.1))),(5,H 5 0),(6,H 6 0)] [(0,Od [Ct 1 (W 1 (eK .u8) s_o0_0_e0_6),C (I s_o0_1_e0_6),C (.sc (.int .u64 s_o0_2_e0_6))]),(2,Oa [C (I 0),C (I 0),Z (W 2 e_S_Point ([]:List S_Point)),Z (W 2 e_S_Face ([]:List S_Face))]),(5,Oc [Z (W 1 eI xs_o5_e0_6)]),(6,Oc [Z (W 1 eI ([0]:List Int))])]) hl (by kernel_rfl) ?_ ?_ ?_
 ·intro o p hp e
  obtain ⟨s_o0_0_e0_6,s_o0_1_e0_6,s_o0_2_e0_6,xs_o5_e0_6⟩:=o
  exact nomatch (hp.1.symm.trans e)
 ·rintro ⟨i_7_l6,s_o0_0_l6,s_o0_1_l6,s_o0_2_l6,xs_o5_l6⟩ o h
  unfold spec_l05Grid_l6 at h
  dsimp only at h
  refine gs<|gs<|g0 j j (q (oMv j j)<|q (oMv j j)<|q (oBi j j j j)<|nl)<|us<|gc h j iDec (fun hc26 h=>?_) fun hc26 h=>?_
  ·refine Go.skip<|us<|gs<|Go.block<|?_
   obtain ⟨x31,hx31,h⟩:=bs h
   obtain ⟨x35,hx35,h⟩:=bs h
   obtain ⟨x38,hx38,h⟩:=bs h
   refine gd c90 j j j j (mk [(0,M 0),(2,M 2),(3,iv (w64 (1+x16.1))),(4,iv (w64 (1+x19.1))),(5,H 5 0),(6,H 6 0),(7,iv i_7_l6)] [(0,Od (G 1 (u_S_l00Src x35.2))),(2,Oa [C (I 0),C (I 0),Z (W 2 e_S_Point ([]:List S_Point)),Z (W 2 e_S_Face ([]:List S_Face))]),(5,Oc [Z (W 1 eI x38)]),(6,Oc [Z (W 1 eI ([0]:List Int))])]) (t j j (oMv j j)<|t j j (oMv j j)<|t j j (oMv j j)<|t j j (oMv j j)<|sK (O:=[5]) j j j (dN z90 j (oIAO j hx31 sF28 j j j j))<|sK (O:=[5]) j j j (dN z90 j (oLdE (cs:=[.im 0 _]) j tF2 j j j j (rd_get hx31) j j))<|t j j (oBi j j j j)<|sS (dN z90 j (oCa (xs:=[.v false [.mp 0 0 0],.v false [.im 0 _]]) (vs:=[(false,[.im 0 _])]) (v:=.v false [.im 0 _]) (L_spec_l00Src_pick hx35) (.inl j) j kF106_74_2 j (ppP j j j (ppC j pp0)) j j (pbP j j pb0) j j j)) (kY ⟨j,trivial⟩ (kY ⟨j,trivial⟩ trivial)) (t j j (oBi j j j j)<|sS (dN z90 j (oBS (es:=List.map eI ([(w64 ((w64 (x31+20))+x35.1))]:List Int)) j sF28 j (ptC j (fxI fx0) j pt0) (flat0 j fun _=>j))) (kN j (kN j trivial)) (sS (dN z90 j (oApO (en:=eI) (M:=([(w64 ((w64 (x31+20))+x35.1))]:List Int)) j hx38 j sF28 j j uF28 (.inl ⟨_,j⟩) j j j j (el_own j j) (flat0 j fun _=>j))) (kN j (kN j trivial)) (sS (dN z90 j (oAsO j j j j j)) (kN j (kN j trivial)) (sD (by kernel_rfl))))))<|Unw.blk<|us<|g0 j j (q (oMv j j)<|q (oBi j j j j)<|q (oAsI j j)<|nl)<|Unw.nil<|?_
   cases h
   exact ⟨j,(by kernel_rfl)⟩
  ·refine Go.exit<|ux<|Unw.nil<|?_
   cases h
   exact ⟨j,(by kernel_rfl)⟩
 ·rintro ⟨e,st⟩ hp
  obtain ⟨s_o0_0_e0_6,s_o0_1_e0_6,s_o0_2_e0_6,xs_o5_e0_6⟩:=o
  dsimp only at h
  obtain ⟨he,hst⟩:=hp
  obtain rfl:e= .exit 0:=he
  refine Unw.blkx<|us<|gs<|gs<|g2 c90 j j hst (q (oAsI j j)<|nl)<|us<|Go.block<|?_
  obtain ⟨o,hl,h⟩:=bs h
  refine gl c90 j _ (fun (s:(Int×(List Int)×Int×Int×(List Int)))=>match s with | (i_8_l10,s_o0_0_l10,s_o0_1_l10,s_o0_2_l10,ys_o6_l10)=>mk [(0,M 0),(2,M 2),(3,iv (w64 (1+x16.1))),(4,iv (w64 (1+x19.1))),(5,H 5 0),(6,H 6 0),(8,iv i_8_l10)] [(0,Od [Ct 1 (W 1 (eK .u8) s_o0_0_l10),C (I s_o0_1_l10),C (.sc (.int .u64 s_o0_2_l10))]),(2,Oa [C (I 0),C (I 0),Z (W 2 e_S_Point ([]:List S_Point)),Z (W 2 e_S_Face ([]:List S_Face))]),(5,Oc [Z (W 1 eI xs_o5_e0_6)]),(6,Oc [Z (W 1 eI ys_o6_l10)])]) (fun (o:((List Int)×Int×Int×(List Int))) (p:Ex×St)=>match o with | (s_o0_0_e2_10,s_o0_1_e2_10,s_o0_2_e2_10,ys_o6_e2_10)=>p.1= .exit 2∧p.2.norm ([2,3,4,5,6],[0,2,5,6])=mk [(2,M 2),(3,iv (w64 (1+x16.1))),(4,iv (w64 (1+x19.1))),(5,H 5 0),(6,H 6 0)] [(0,Od [Ct 1 (W 1 (eK .u8) s_o0_0_e2_10),C (I s_o0_1_e2_10),C (.sc (.int .u64 s_o0_2_e2_10))]),(2,Oa [C (I 0),C (I 0),Z (W 2 e_S_Point ([]:List S_Point)),Z (W 2 e_S_Face ([]:List S_Face))]),(5,Oc [Z (W 1 eI xs_o5_e0_6)]),(6,Oc [Z (W 1 eI ys_o6_e2_10)])]) hl (by kernel_rfl) ?_ ?_ ?_
  ·intro o p hp e
   obtain ⟨s_o0_0_e2_10,s_o0_1_e2_10,s_o0_2_e2_10,ys_o6_e2_10⟩:=o
   exact nomatch (hp.1.symm.trans e)
  ·rintro ⟨i_8_l10,s_o0_0_l10,s_o0_1_l10,s_o0_2_l10,ys_o6_l10⟩ o h
   unfold spec_l05Grid_l10 at h
   dsimp only at h
   refine gs<|gs<|g0 j j (q (oMv j j)<|q (oMv j j)<|q (oBi j j j j)<|nl)<|us<|gc h j iDec (fun hc25 h=>?_) fun hc25 h=>?_
   ·refine Go.skip<|us<|gs<|Go.block<|?_
    obtain ⟨x47,hx47,h⟩:=bs h
    obtain ⟨x51,hx51,h⟩:=bs h
    obtain ⟨x54,hx54,h⟩:=bs h
    refine gd c90 j j j j (mk [(0,M 0),(2,M 2),(3,iv (w64 (1+x16.1))),(4,iv (w64 (1+x19.1))),(5,H 5 0),(6,H 6 0),(8,iv i_8_l10)] [(0,Od (G 1 (u_S_l00Src x51.2))),(2,Oa [C (I 0),C (I 0),Z (W 2 e_S_Point ([]:List S_Point)),Z (W 2 e_S_Face ([]:List S_Face))]),(5,Oc [Z (W 1 eI xs_o5_e0_6)]),(6,Oc [Z (W 1 eI x54)])]) (t j j (oMv j j)<|t j j (oMv j j)<|t j j (oMv j j)<|t j j (oMv j j)<|sK (O:=[6]) j j j (dN z90 j (oIAO j hx47 sF28 j j j j))<|sK (O:=[6]) j j j (dN z90 j (oLdE (cs:=[.im 0 _]) j tF2 j j j j (rd_get hx47) j j))<|t j j (oBi j j j j)<|sS (dN z90 j (oCa (xs:=[.v false [.mp 0 0 0],.v false [.im 0 _]]) (vs:=[(false,[.im 0 _])]) (v:=.v false [.im 0 _]) (L_spec_l00Src_pick hx51) (.inl j) j kF106_74_2 j (ppP j j j (ppC j pp0)) j j (pbP j j pb0) j j j)) (kY ⟨j,trivial⟩ (kY ⟨j,trivial⟩ trivial)) (t j j (oBi j j j j)<|sS (dN z90 j (oBS (es:=List.map eI ([(w64 ((w64 (x47+20))+x51.1))]:List Int)) j sF28 j (ptC j (fxI fx0) j pt0) (flat0 j fun _=>j))) (kN j (kN j trivial)) (sS (dN z90 j (oApO (en:=eI) (M:=([(w64 ((w64 (x47+20))+x51.1))]:List Int)) j hx54 j sF28 j j uF28 (.inl ⟨_,j⟩) j j j j (el_own j j) (flat0 j fun _=>j))) (kN j (kN j trivial)) (sS (dN z90 j (oAsO j j j j j)) (kN j (kN j trivial)) (sD (by kernel_rfl))))))<|Unw.blk<|us<|g0 j j (q (oMv j j)<|q (oBi j j j j)<|q (oAsI j j)<|nl)<|Unw.nil<|?_
    cases h
    exact ⟨j,(by kernel_rfl)⟩
   ·refine Go.exit<|ux<|Unw.nil<|?_
    cases h
    exact ⟨j,(by kernel_rfl)⟩
  ·rintro ⟨e,st⟩ hp
   obtain ⟨s_o0_0_e2_10,s_o0_1_e2_10,s_o0_2_e2_10,ys_o6_e2_10⟩:=o
   dsimp only at h
   obtain ⟨he,hst⟩:=hp
   obtain rfl:e= .exit 2:=he
   refine Unw.blkx<|us<|gs<|?_
   obtain ⟨x57,hx57,h⟩:=bs h
   obtain ⟨x61,hx61,h⟩:=bs h
   refine gd c90 j j j hst (mk [(2,M 2),(3,iv (w64 (1+x16.1))),(4,iv (w64 (1+x19.1))),(5,H 5 0),(6,H 6 0),(9,M 9)] [(0,Od [Ct 1 (W 1 (eK .u8) s_o0_0_e2_10),C (I s_o0_1_e2_10),C (.sc (.int .u64 s_o0_2_e2_10))]),(2,Oa [C (I 0),C (I 0),Z (W 2 e_S_Point ([]:List S_Point)),Z (W 2 e_S_Face ([]:List S_Face))]),(5,Oc [Z (W 1 eI xs_o5_e0_6)]),(6,Oc [Z (W 1 eI ys_o6_e2_10)]),(9,Oa [C (I x57),C (I x61),Z (W 2 e_S_Point ([]:List S_Point)),Z (W 2 e_S_Face ([]:List S_Face))])]) (t j j (oMv j j)<|t j j (oMv j j)<|t j j (oIAO j hx57 sF28 j j j j)<|t j j (oLdE (cs:=[.im 0 _]) j tF2 j j j j (rd_get hx57) j j)<|t j j (oMv j j)<|t j j (oMv j j)<|t j j (oIAO j hx61 sF28 j j j j)<|t j j (oLdE (cs:=[.im 0 _]) j tF2 j j j j (rd_get hx61) j j)<|sF (dN z90 j (oBu (cs:=[.im 0 _,.im 0 _,.nil,.nil]) j bF26 j)) trivial (sS (dN z90 j (oAl j tF26 (tkI (tkI (tkN (tkN tk0)))))) trivial (sS (dN z90 j (oSt tF26 j j j (tkI (tkI (tkN (tkN tk0)))) j j j)) trivial (sD (by kernel_rfl)))) (sS (dN z90 j (oAl j tF26 (tkI (tkI (tkN (tkN tk0)))))) trivial (sS (dN z90 j (oBu (cs:=[.im 0 _,.im 0 _,.nil,.nil]) j bF26 j)) trivial (sS (dN z90 j (oSt tF26 j j j (tkI (tkI (tkN (tkN tk0)))) j j j)) trivial (sD (by kernel_rfl))))))<|us<|gs<|gs<|g0 j j (q (oAsI j j)<|nl)<|us<|Go.block<|?_
   obtain ⟨o,hl,h⟩:=bs h
   refine gl c90 j _ (fun (s:(Int×(List S_Point)))=>match s with | (y_10_l15,d_o9_2_l15)=>mk [(2,M 2),(3,iv (w64 (1+x16.1))),(4,iv (w64 (1+x19.1))),(5,H 5 0),(6,H 6 0),(9,M 9),(10,iv y_10_l15)] [(0,Od [Ct 1 (W 1 (eK .u8) s_o0_0_e2_10),C (I s_o0_1_e2_10),C (.sc (.int .u64 s_o0_2_e2_10))]),(2,Oa [C (I 0),C (I 0),Z (W 2 e_S_Point ([]:List S_Point)),Z (W 2 e_S_Face ([]:List S_Face))]),(5,Oc [Z (W 1 eI xs_o5_e0_6)]),(6,Oc [Z (W 1 eI ys_o6_e2_10)]),(9,Oa [C (I x57),C (I x61),Z (W 2 e_S_Point d_o9_2_l15),Z (W 2 e_S_Face ([]:List S_Face))])]) (fun (d_o9_2_e4_15:(List S_Point)) (p:Ex×St)=>p.1= .exit 4∧p.2.norm ([2,3,4,9],[0,2,9])=mk [(2,M 2),(3,iv (w64 (1+x16.1))),(4,iv (w64 (1+x19.1))),(9,M 9)] [(0,Od [Ct 1 (W 1 (eK .u8) s_o0_0_e2_10),C (I s_o0_1_e2_10),C (.sc (.int .u64 s_o0_2_e2_10))]),(2,Oa [C (I 0),C (I 0),Z (W 2 e_S_Point ([]:List S_Point)),Z (W 2 e_S_Face ([]:List S_Face))]),(9,Oa [C (I x57),C (I x61),Z (W 2 e_S_Point d_o9_2_e4_15),Z (W 2 e_S_Face ([]:List S_Face))])]) hl (by kernel_rfl) ?_ ?_ ?_
   ·intro o p hp e
    exact nomatch (hp.1.symm.trans e)
   ·rintro ⟨y_10_l15,d_o9_2_l15⟩ o h
    unfold spec_l05Grid_l15 at h
    dsimp only at h
    refine gs<|gs<|g0 j j (q (oMv j j)<|q (oMv j j)<|q (oBi j j j j)<|nl)<|us<|gc h j iDec (fun hc21 h=>?_) fun hc21 h=>?_
    ·refine Go.skip<|us<|gs<|Go.block<|gs<|g0 j j (q (oAsI j j)<|nl)<|us<|Go.block<|?_
     obtain ⟨o,hl,h⟩:=bs h
     refine gl c90 j _ (fun (s:(Int×(List S_Point)))=>match s with | (x_11_l18,d_o9_2_l18)=>mk [(2,M 2),(3,iv (w64 (1+x16.1))),(4,iv (w64 (1+x19.1))),(5,H 5 0),(6,H 6 0),(9,M 9),(10,iv y_10_l15),(11,iv x_11_l18)] [(0,Od [Ct 1 (W 1 (eK .u8) s_o0_0_e2_10),C (I s_o0_1_e2_10),C (.sc (.int .u64 s_o0_2_e2_10))]),(2,Oa [C (I 0),C (I 0),Z (W 2 e_S_Point ([]:List S_Point)),Z (W 2 e_S_Face ([]:List S_Face))]),(5,Oc [Z (W 1 eI xs_o5_e0_6)]),(6,Oc [Z (W 1 eI ys_o6_e2_10)]),(9,Oa [C (I x57),C (I x61),Z (W 2 e_S_Point d_o9_2_l18),Z (W 2 e_S_Face ([]:List S_Face))])]) (fun (d_o9_2_e6_18:(List S_Point)) (p:Ex×St)=>p.1= .exit 6∧p.2.norm ([2,3,4,5,6,9,10],[0,2,5,6,9])=mk [(2,M 2),(3,iv (w64 (1+x16.1))),(4,iv (w64 (1+x19.1))),(5,H 5 0),(6,H 6 0),(9,M 9),(10,iv y_10_l15)] [(0,Od [Ct 1 (W 1 (eK .u8) s_o0_0_e2_10),C (I s_o0_1_e2_10),C (.sc (.int .u64 s_o0_2_e2_10))]),(2,Oa [C (I 0),C (I 0),Z (W 2 e_S_Point ([]:List S_Point)),Z (W 2 e_S_Face ([]:List S_Face))]),(5,Oc [Z (W 1 eI xs_o5_e0_6)]),(6,Oc [Z (W 1 eI ys_o6_e2_10)]),(9,Oa [C (I x57),C (I x61),Z (W 2 e_S_Point d_o9_2_e6_18),Z (W 2 e_S_Face ([]:List S_Face))])]) hl (by kernel_rfl) ?_ ?_ ?_
     ·intro o p hp e
      exact nomatch (hp.1.symm.trans e)
     ·rintro ⟨x_11_l18,d_o9_2_l18⟩ o h
      unfold spec_l05Grid_l18 at h
      dsimp only at h
      refine gs<|gs<|g0 j j (q (oMv j j)<|q (oMv j j)<|q (oBi j j j j)<|nl)<|us<|gc h j iDec (fun hc24 h=>?_) fun hc24 h=>?_
      ·refine Go.skip<|us<|gs<|Go.block<|?_
       obtain ⟨x78,hx78,h⟩:=bs h
       obtain ⟨x82,hx82,h⟩:=bs h
       obtain ⟨x86,hx86,h⟩:=bs h
       refine gd c90 j j j j (mk [(2,M 2),(3,iv (w64 (1+x16.1))),(4,iv (w64 (1+x19.1))),(5,H 5 0),(6,H 6 0),(9,M 9),(10,iv y_10_l15),(11,iv x_11_l18)] [(0,Od [Ct 1 (W 1 (eK .u8) s_o0_0_e2_10),C (I s_o0_1_e2_10),C (.sc (.int .u64 s_o0_2_e2_10))]),(2,Oa [C (I 0),C (I 0),Z (W 2 e_S_Point ([]:List S_Point)),Z (W 2 e_S_Face ([]:List S_Face))]),(5,Oc [Z (W 1 eI xs_o5_e0_6)]),(6,Oc [Z (W 1 eI ys_o6_e2_10)]),(9,Oa [C (I x57),C (I x61),Z (W 2 e_S_Point x86),Z (W 2 e_S_Face ([]:List S_Face))])]) (t j j (oMv j j)<|t j j (oMv j j)<|t j j (oIAO j hx78 sF28 j j j j)<|t j j (oLdE (cs:=[.im 0 _]) j tF2 j j j j (rd_get hx78) j j)<|t j j (oMv j j)<|t j j (oMv j j)<|t j j (oIAO j hx82 sF28 j j j j)<|t j j (oLdE (cs:=[.im 0 _]) j tF2 j j j j (rd_get hx82) j j)<|sK (O:=[9]) j j j (dN z90 j (oFA (r':=.mp 9 0 2) j fF26_2 j j))<|sK (O:=[9]) j j j (dN z90 j (oLd (cs:=[.own 9 0 2]) j tF23 j j))<|sS (dN z90 j (oBu (cs:=[.im 0 _,.im 0 _]) j bF145 j)) (kY ⟨j,trivial⟩ (kY ⟨j,trivial⟩ trivial)) (sS (dN z90 j (oBS (es:=List.map e_S_Point ([(⟨x78,x82⟩:S_Point)]:List S_Point)) j sF23 j (ptC j (fxI (fxI fx0)) j pt0) (flat0 j fun _=>j))) (kY ⟨j,trivial⟩ (kY ⟨j,trivial⟩ trivial)) (sS (dN z90 j (oApO (en:=e_S_Point) (M:=([(⟨x78,x82⟩:S_Point)]:List S_Point)) j hx86 j sF23 j j uF23 (.inl ⟨_,j⟩) j j j j (el_own j j) (flat0 j fun _=>j))) (kN j (kN j trivial)) (t j j (oFA (r':=.mp 9 0 2) j fF26_2 j j)<|sS (dN z90 j (oSt tF23 j j j (tkO j j tk0) j j j)) (kN j (kN j trivial)) (sD (by kernel_rfl))))))<|Unw.blk<|us<|g0 j j (q (oMv j j)<|q (oBi j j j j)<|q (oAsI j j)<|nl)<|Unw.nil<|?_
       cases h
       exact ⟨j,(by kernel_rfl)⟩
      ·refine Go.exit<|ux<|Unw.nil<|?_
       cases h
       exact ⟨j,(by kernel_rfl)⟩
     ·rintro ⟨e,st⟩ hp
      obtain ⟨d_o9_2_e6_18,rfl⟩:∃y,y=o:=⟨o,rfl⟩
      obtain ⟨he,hst⟩:=hp
      obtain rfl:e= .exit 6:=he
      refine Unw.blkx<|Unw.blk<|us<|g2 c90 j j hst (q (oMv j j)<|q (oBi j j j j)<|q (oAsI j j)<|nl)<|Unw.nil<|?_
      cases h
      exact ⟨j,(by kernel_rfl)⟩
    ·refine Go.exit<|ux<|Unw.nil<|?_
     cases h
     exact ⟨j,(by kernel_rfl)⟩
   ·rintro ⟨e,st⟩ hp
    obtain ⟨d_o9_2_e4_15,rfl⟩:∃y,y=o:=⟨o,rfl⟩
    obtain ⟨he,hst⟩:=hp
    obtain rfl:e= .exit 4:=he
    refine Unw.blkx<|us<|gs<|gs<|g2 c90 j j hst (q (oAsI j j)<|nl)<|us<|Go.block<|?_
    obtain ⟨o,hl,h⟩:=bs h
    refine gl c90 j _ (fun (s:(Int×(List S_Face)))=>match s with | (y_12_l22,d_o9_3_l22)=>mk [(2,M 2),(3,iv (w64 (1+x16.1))),(4,iv (w64 (1+x19.1))),(9,M 9),(12,iv y_12_l22)] [(0,Od [Ct 1 (W 1 (eK .u8) s_o0_0_e2_10),C (I s_o0_1_e2_10),C (.sc (.int .u64 s_o0_2_e2_10))]),(2,Oa [C (I 0),C (I 0),Z (W 2 e_S_Point ([]:List S_Point)),Z (W 2 e_S_Face ([]:List S_Face))]),(9,Oa [C (I x57),C (I x61),Z (W 2 e_S_Point d_o9_2_e4_15),Z (W 2 e_S_Face d_o9_3_l22)])]) (fun (d_o9_3_e8_22:(List S_Face)) (p:Ex×St)=>p.1= .exit 8∧p.2.norm ([2,9],[0,2,9])=mk [(2,M 2),(9,M 9)] [(0,Od [Ct 1 (W 1 (eK .u8) s_o0_0_e2_10),C (I s_o0_1_e2_10),C (.sc (.int .u64 s_o0_2_e2_10))]),(2,Oa [C (I 0),C (I 0),Z (W 2 e_S_Point ([]:List S_Point)),Z (W 2 e_S_Face ([]:List S_Face))]),(9,Oa [C (I x57),C (I x61),Z (W 2 e_S_Point d_o9_2_e4_15),Z (W 2 e_S_Face d_o9_3_e8_22)])]) hl (by kernel_rfl) ?_ ?_ ?_
    ·intro o p hp e
     exact nomatch (hp.1.symm.trans e)
    ·rintro ⟨y_12_l22,d_o9_3_l22⟩ o h
     unfold spec_l05Grid_l22 at h
     dsimp only at h
     refine gs<|gs<|g0 j j (q (oMv j j)<|q (oMv j j)<|q (oBi j j j j)<|nl)<|us<|gc h j iDec (fun hc17 h=>?_) fun hc17 h=>?_
     ·refine Go.skip<|us<|gs<|Go.block<|gs<|g0 j j (q (oAsI j j)<|nl)<|us<|Go.block<|?_
      obtain ⟨o,hl,h⟩:=bs h
      refine gl c90 j _ (fun (s:(Int×(List S_Face)))=>match s with | (x_13_l25,d_o9_3_l25)=>mk [(2,M 2),(3,iv (w64 (1+x16.1))),(4,iv (w64 (1+x19.1))),(9,M 9),(12,iv y_12_l22),(13,iv x_13_l25)] [(0,Od [Ct 1 (W 1 (eK .u8) s_o0_0_e2_10),C (I s_o0_1_e2_10),C (.sc (.int .u64 s_o0_2_e2_10))]),(2,Oa [C (I 0),C (I 0),Z (W 2 e_S_Point ([]:List S_Point)),Z (W 2 e_S_Face ([]:List S_Face))]),(9,Oa [C (I x57),C (I x61),Z (W 2 e_S_Point d_o9_2_e4_15),Z (W 2 e_S_Face d_o9_3_l25)])]) (fun (d_o9_3_e10_25:(List S_Face)) (p:Ex×St)=>p.1= .exit 10∧p.2.norm ([2,3,4,9,12],[0,2,9])=mk [(2,M 2),(3,iv (w64 (1+x16.1))),(4,iv (w64 (1+x19.1))),(9,M 9),(12,iv y_12_l22)] [(0,Od [Ct 1 (W 1 (eK .u8) s_o0_0_e2_10),C (I s_o0_1_e2_10),C (.sc (.int .u64 s_o0_2_e2_10))]),(2,Oa [C (I 0),C (I 0),Z (W 2 e_S_Point ([]:List S_Point)),Z (W 2 e_S_Face ([]:List S_Face))]),(9,Oa [C (I x57),C (I x61),Z (W 2 e_S_Point d_o9_2_e4_15),Z (W 2 e_S_Face d_o9_3_e10_25)])]) hl (by kernel_rfl) ?_ ?_ ?_
      ·intro o p hp e
       exact nomatch (hp.1.symm.trans e)
      ·rintro ⟨x_13_l25,d_o9_3_l25⟩ o h
       unfold spec_l05Grid_l25 at h
       dsimp only at h
       refine gs<|gs<|g0 j j (q (oMv j j)<|q (oMv j j)<|q (oBi j j j j)<|nl)<|us<|gc h j iDec (fun hc20 h=>?_) fun hc20 h=>?_
       ·refine Go.skip<|us<|gs<|Go.block<|gs<|g0 j j (q (oMv j j)<|q (oMv j j)<|q (oBi j j j j)<|q (oBi j j j j)<|q (oMv j j)<|q (oBi j j j j)<|q (oAsI j j)<|nl)<|us<|?_
        obtain ⟨x107,hx107,h⟩:=bs h
        obtain ⟨x108,hx108,h⟩:=bs h
        obtain ⟨x110,hx110,h⟩:=bs h
        obtain ⟨x111,hx111,h⟩:=bs h
        obtain ⟨x126,hx126,h⟩:=bs h
        refine gd c90 j j j j (mk [(2,M 2),(3,iv (w64 (1+x16.1))),(4,iv (w64 (1+x19.1))),(9,M 9),(12,iv y_12_l22),(13,iv x_13_l25)] [(0,Od [Ct 1 (W 1 (eK .u8) s_o0_0_e2_10),C (I s_o0_1_e2_10),C (.sc (.int .u64 s_o0_2_e2_10))]),(2,Oa [C (I 0),C (I 0),Z (W 2 e_S_Point ([]:List S_Point)),Z (W 2 e_S_Face ([]:List S_Face))]),(9,Oa [C (I x57),C (I x61),Z (W 2 e_S_Point d_o9_2_e4_15),Z (W 2 e_S_Face x126)])]) (t j j (oMv j j)<|t j j (oMv j j)<|t j j (oMv j j)<|t j j (oMv j j)<|t j j (oBi j j j j)<|t j j (oMv j j)<|t j j (oMv j j)<|t j j (oBi j j j j)<|t j j (oBi j j j j)<|t j j (oMv j j)<|t j j (oMv j j)<|t j j (oBi j j j j)<|t j j (oBi j j j j)<|sK (O:=[9]) j j j (dN z90 j (oFA (r':=.mp 9 0 3) j fF26_3 j j))<|sK (O:=[9]) j j j (dN z90 j (oLd (cs:=[.own 9 0 3]) j tF24 j j))<|sF (dN z90 j (oCa (xs:=[.v false [.im 0 _]]) (vs:=[(false,[.im 0 _])]) (v:=.v false [.im 0 _]) (L_spec_l01Dec hx107) (.inl j) j kF149_2 j (ppC j pp0) j j pb0 j j j)) (kY ⟨j,trivial⟩ (kY ⟨j,trivial⟩ trivial)) (t j j (oCat j hx108 j j)<|sF (dN z90 j (oCa (xs:=[.v false [.im 0 _]]) (vs:=[(false,[.im 0 _])]) (v:=.v false [.im 0 _]) (L_spec_l01Dec hx110) (.inl j) j kF149_2 j (ppC j pp0) j j pb0 j j j)) (kY ⟨j,trivial⟩ (kY ⟨j,trivial⟩ trivial)) (t j j (oCat j hx111 j j)<|sS (dN z90 j (oBS (es:=List.map eI ([(w64 ((w64 (y_12_l22* (w64 ((w64 (1+x16.1))+1))))+x_13_l25)),(w64 ((w64 ((w64 (y_12_l22* (w64 ((w64 (1+x16.1))+1))))+x_13_l25))+1)),(w64 ((w64 ((w64 ((w64 (y_12_l22* (w64 ((w64 (1+x16.1))+1))))+x_13_l25))+(w64 (1+x16.1))))+2)),(w64 ((w64 ((w64 ((w64 (y_12_l22* (w64 ((w64 (1+x16.1))+1))))+x_13_l25))+(w64 (1+x16.1))))+1))]:List Int)) j sF28 j (ptC j (fxI fx0) j (ptC j (fxI fx0) j (ptC j (fxI fx0) j (ptC j (fxI fx0) j pt0)))) (flat0 j fun _=>j))) (kY ⟨j,trivial⟩ (kY ⟨j,trivial⟩ trivial)) (sS (dN z90 j (oBu (cs:=[.im 0 _,.own 123 0 0]) j bF139 j)) (kY ⟨j,trivial⟩ (kY ⟨j,trivial⟩ trivial)) (sS (dN z90 j (oBS (es:=List.map e_S_Face ([(⟨x111,([(w64 ((w64 (y_12_l22* (w64 ((w64 (1+x16.1))+1))))+x_13_l25)),(w64 ((w64 ((w64 (y_12_l22* (w64 ((w64 (1+x16.1))+1))))+x_13_l25))+1)),(w64 ((w64 ((w64 ((w64 (y_12_l22* (w64 ((w64 (1+x16.1))+1))))+x_13_l25))+(w64 (1+x16.1))))+2)),(w64 ((w64 ((w64 ((w64 (y_12_l22* (w64 ((w64 (1+x16.1))+1))))+x_13_l25))+(w64 (1+x16.1))))+1))]:List Int)⟩:S_Face)]:List S_Face)) j sF24 j (ptC j (fxI (fxO j j fx0)) j pt0) (flat1 j))) (kY ⟨j,trivial⟩ (kY ⟨j,trivial⟩ trivial)) (sS (dN z90 j (oApO (en:=e_S_Face) (M:=([(⟨x111,([(w64 ((w64 (y_12_l22* (w64 ((w64 (1+x16.1))+1))))+x_13_l25)),(w64 ((w64 ((w64 (y_12_l22* (w64 ((w64 (1+x16.1))+1))))+x_13_l25))+1)),(w64 ((w64 ((w64 ((w64 (y_12_l22* (w64 ((w64 (1+x16.1))+1))))+x_13_l25))+(w64 (1+x16.1))))+2)),(w64 ((w64 ((w64 ((w64 (y_12_l22* (w64 ((w64 (1+x16.1))+1))))+x_13_l25))+(w64 (1+x16.1))))+1))]:List Int)⟩:S_Face)]:List S_Face)) j hx126 j sF24 j j uF24 (.inl ⟨_,j⟩) j j j j (el_own j j) (flat1 j))) (kN j (kN j trivial)) (t j j (oFA (r':=.mp 9 0 3) j fF26_3 j j)<|sS (dN z90 j (oSt tF24 j j j (tkO j j tk0) j j j)) (kN j (kN j trivial)) (sD (by kernel_rfl))))))) (sS (dN z90 j (oBS (es:=List.map eI ([(w64 ((w64 (y_12_l22* (w64 ((w64 (1+x16.1))+1))))+x_13_l25)),(w64 ((w64 ((w64 (y_12_l22* (w64 ((w64 (1+x16.1))+1))))+x_13_l25))+1)),(w64 ((w64 ((w64 ((w64 (y_12_l22* (w64 ((w64 (1+x16.1))+1))))+x_13_l25))+(w64 (1+x16.1))))+2)),(w64 ((w64 ((w64 ((w64 (y_12_l22* (w64 ((w64 (1+x16.1))+1))))+x_13_l25))+(w64 (1+x16.1))))+1))]:List Int)) j sF28 j (ptC j (fxI fx0) j (ptC j (fxI fx0) j (ptC j (fxI fx0) j (ptC j (fxI fx0) j pt0)))) (flat0 j fun _=>j))) (kY ⟨j,trivial⟩ (kY ⟨j,trivial⟩ trivial)) (sS (dN z90 j (oCa (xs:=[.v false [.im 0 _]]) (vs:=[(false,[.im 0 _])]) (v:=.v false [.im 0 _]) (L_spec_l01Dec hx110) (.inl j) j kF149_2 j (ppC j pp0) j j pb0 j j j)) (kY ⟨j,trivial⟩ (kY ⟨j,trivial⟩ trivial)) (t j j (oCat j hx111 j j)<|sS (dN z90 j (oBu (cs:=[.im 0 _,.own 123 0 0]) j bF139 j)) (kY ⟨j,trivial⟩ (kY ⟨j,trivial⟩ trivial)) (sS (dN z90 j (oBS (es:=List.map e_S_Face ([(⟨x111,([(w64 ((w64 (y_12_l22* (w64 ((w64 (1+x16.1))+1))))+x_13_l25)),(w64 ((w64 ((w64 (y_12_l22* (w64 ((w64 (1+x16.1))+1))))+x_13_l25))+1)),(w64 ((w64 ((w64 ((w64 (y_12_l22* (w64 ((w64 (1+x16.1))+1))))+x_13_l25))+(w64 (1+x16.1))))+2)),(w64 ((w64 ((w64 ((w64 (y_12_l22* (w64 ((w64 (1+x16.1))+1))))+x_13_l25))+(w64 (1+x16.1))))+1))]:List Int)⟩:S_Face)]:List S_Face)) j sF24 j (ptC j (fxI (fxO j j fx0)) j pt0) (flat1 j))) (kY ⟨j,trivial⟩ (kY ⟨j,trivial⟩ trivial)) (sS (dN z90 j (oApO (en:=e_S_Face) (M:=([(⟨x111,([(w64 ((w64 (y_12_l22* (w64 ((w64 (1+x16.1))+1))))+x_13_l25)),(w64 ((w64 ((w64 (y_12_l22* (w64 ((w64 (1+x16.1))+1))))+x_13_l25))+1)),(w64 ((w64 ((w64 ((w64 (y_12_l22* (w64 ((w64 (1+x16.1))+1))))+x_13_l25))+(w64 (1+x16.1))))+2)),(w64 ((w64 ((w64 ((w64 (y_12_l22* (w64 ((w64 (1+x16.1))+1))))+x_13_l25))+(w64 (1+x16.1))))+1))]:List Int)⟩:S_Face)]:List S_Face)) j hx126 j sF24 j j uF24 (.inl ⟨_,j⟩) j j j j (el_own j j) (flat1 j))) (kN j (kN j trivial)) (t j j (oFA (r':=.mp 9 0 3) j fF26_3 j j)<|sS (dN z90 j (oSt tF24 j j j (tkO j j tk0) j j j)) (kN j (kN j trivial)) (sD (by kernel_rfl))))))))) (sS (dN z90 j (oBS (es:=List.map eI ([(w64 ((w64 (y_12_l22* (w64 ((w64 (1+x16.1))+1))))+x_13_l25)),(w64 ((w64 ((w64 (y_12_l22* (w64 ((w64 (1+x16.1))+1))))+x_13_l25))+1)),(w64 ((w64 ((w64 ((w64 (y_12_l22* (w64 ((w64 (1+x16.1))+1))))+x_13_l25))+(w64 (1+x16.1))))+2)),(w64 ((w64 ((w64 ((w64 (y_12_l22* (w64 ((w64 (1+x16.1))+1))))+x_13_l25))+(w64 (1+x16.1))))+1))]:List Int)) j sF28 j (ptC j (fxI fx0) j (ptC j (fxI fx0) j (ptC j (fxI fx0) j (ptC j (fxI fx0) j pt0)))) (flat0 j fun _=>j))) (kY ⟨j,trivial⟩ (kY ⟨j,trivial⟩ trivial)) (sS (dN z90 j (oCa (xs:=[.v false [.im 0 _]]) (vs:=[(false,[.im 0 _])]) (v:=.v false [.im 0 _]) (L_spec_l01Dec hx107) (.inl j) j kF149_2 j (ppC j pp0) j j pb0 j j j)) (kY ⟨j,trivial⟩ (kY ⟨j,trivial⟩ trivial)) (t j j (oCat j hx108 j j)<|sS (dN z90 j (oCa (xs:=[.v false [.im 0 _]]) (vs:=[(false,[.im 0 _])]) (v:=.v false [.im 0 _]) (L_spec_l01Dec hx110) (.inl j) j kF149_2 j (ppC j pp0) j j pb0 j j j)) (kY ⟨j,trivial⟩ (kY ⟨j,trivial⟩ trivial)) (t j j (oCat j hx111 j j)<|sS (dN z90 j (oBu (cs:=[.im 0 _,.own 123 0 0]) j bF139 j)) (kY ⟨j,trivial⟩ (kY ⟨j,trivial⟩ trivial)) (sS (dN z90 j (oBS (es:=List.map e_S_Face ([(⟨x111,([(w64 ((w64 (y_12_l22* (w64 ((w64 (1+x16.1))+1))))+x_13_l25)),(w64 ((w64 ((w64 (y_12_l22* (w64 ((w64 (1+x16.1))+1))))+x_13_l25))+1)),(w64 ((w64 ((w64 ((w64 (y_12_l22* (w64 ((w64 (1+x16.1))+1))))+x_13_l25))+(w64 (1+x16.1))))+2)),(w64 ((w64 ((w64 ((w64 (y_12_l22* (w64 ((w64 (1+x16.1))+1))))+x_13_l25))+(w64 (1+x16.1))))+1))]:List Int)⟩:S_Face)]:List S_Face)) j sF24 j (ptC j (fxI (fxO j j fx0)) j pt0) (flat1 j))) (kY ⟨j,trivial⟩ (kY ⟨j,trivial⟩ trivial)) (sS (dN z90 j (oApO (en:=e_S_Face) (M:=([(⟨x111,([(w64 ((w64 (y_12_l22* (w64 ((w64 (1+x16.1))+1))))+x_13_l25)),(w64 ((w64 ((w64 (y_12_l22* (w64 ((w64 (1+x16.1))+1))))+x_13_l25))+1)),(w64 ((w64 ((w64 ((w64 (y_12_l22* (w64 ((w64 (1+x16.1))+1))))+x_13_l25))+(w64 (1+x16.1))))+2)),(w64 ((w64 ((w64 ((w64 (y_12_l22* (w64 ((w64 (1+x16.1))+1))))+x_13_l25))+(w64 (1+x16.1))))+1))]:List Int)⟩:S_Face)]:List S_Face)) j hx126 j sF24 j j uF24 (.inl ⟨_,j⟩) j j j j (el_own j j) (flat1 j))) (kN j (kN j trivial)) (t j j (oFA (r':=.mp 9 0 3) j fF26_3 j j)<|sS (dN z90 j (oSt tF24 j j j (tkO j j tk0) j j j)) (kN j (kN j trivial)) (sD (by kernel_rfl))))))))))<|Unw.blk<|us<|g0 j j (q (oMv j j)<|q (oBi j j j j)<|q (oAsI j j)<|nl)<|Unw.nil<|?_
        cases h
        exact ⟨j,(by kernel_rfl)⟩
       ·refine Go.exit<|ux<|Unw.nil<|?_
        cases h
        exact ⟨j,(by kernel_rfl)⟩
      ·rintro ⟨e,st⟩ hp
       obtain ⟨d_o9_3_e10_25,rfl⟩:∃y,y=o:=⟨o,rfl⟩
       obtain ⟨he,hst⟩:=hp
       obtain rfl:e= .exit 10:=he
       refine Unw.blkx<|Unw.blk<|us<|g2 c90 j j hst (q (oMv j j)<|q (oBi j j j j)<|q (oAsI j j)<|nl)<|Unw.nil<|?_
       cases h
       exact ⟨j,(by kernel_rfl)⟩
     ·refine Go.exit<|ux<|Unw.nil<|?_
      cases h
      exact ⟨j,(by kernel_rfl)⟩
    ·rintro ⟨e,st⟩ hp
     obtain ⟨d_o9_3_e8_22,rfl⟩:∃y,y=o:=⟨o,rfl⟩
     obtain ⟨he,hst⟩:=hp
     obtain rfl:e= .exit 8:=he
     refine Unw.blkx<|us<|gs<|g2 c90 j j hst (q (oLd (cs:=[.im 0 _,.im 0 _,.own 9 0 2,.own 9 0 3]) j tF26 j j)<|q (oSt tF26 j j j (tkI (tkI (tkO j j (tkO j j tk0)))) j j j)<|nl)<|us<|Go.ret (Unw.ret ?_)
     cases h
     exact fr rF90 j
theorem L_spec_l05Cut {s_0:S_l00Src} {d_1:S_Drawing} {r:(S_Drawing×S_l00Src)} (h:spec_l05Cut s_0 d_1=some r):FX 91 [.ptr true [(.imm,W 1 (eK .u8) s_0.code),(.imm,I s_0.at_),(.imm,.sc (.int .u64 s_0.seed))],.mvs [(.imm,I d_1.Width),(.imm,I d_1.Height),(.sh,W 2 e_S_Point d_1.Points),(.sh,W 2 e_S_Face d_1.Faces)]] ([(true,[.im 0 (I r.1.Width),.im 0 (I r.1.Height),.ow 0 2 (List.map e_S_Point r.1.Points),.ow 0 2 (List.map e_S_Face r.1.Faces)])],[.ptr true [(.imm,W 1 (eK .u8) r.2.code),(.imm,I r.2.at_),(.imm,.sc (.int .u64 r.2.seed))]]):=by
 unfold spec_l05Cut at h
 refine FL_goS (A:=[(0,M 0),(1,.v true [.im 0 (I d_1.Width),.im 0 (I d_1.Height),.own 1 0 2,.own 1 0 3])]) (B:=[(0,Od (G 1 (u_S_l00Src s_0))),(1,some ⟨0,0,false,false,false,true,[C (I d_1.Width),C (I d_1.Height),Z (W 2 e_S_Point d_1.Points),Z (W 2 e_S_Face d_1.Faces)]⟩)]) (nt:=85) rfl rfl Try.func91 rfl rfl rfl rfl ?_
 refine gs<|g0 j j (q (oBx j tF26 j (tkI (tkI (tkO j j (tkO j j tk0)))))<|q (oAl j tF26 (tkI (tkI (tkN (tkN tk0)))))<|nl)<|us<|gs<|g0 j j (q (oFA (r':=.mp 3 0 0) j fF26_0 j j)<|q (oLd (cs:=[.im 0 _]) j tF2 j j)<|q (oFA (r':=.mp 3 0 1) j fF26_1 j j)<|q (oLd (cs:=[.im 0 _]) j tF2 j j)<|q (oFA (r':=.mp 3 0 2) j fF26_2 j j)<|q (oLd (cs:=[.own 3 0 2]) j tF23 j j)<|q (oBu (cs:=[.im 0 _,.im 0 _,.own 3 0 2,.nil]) j bF26 j)<|q (oAl j tF26 (tkI (tkI (tkN (tkN tk0)))))<|q (oSt tF26 j j j (tkI (tkI (tkO j j (tkN tk0)))) j j j)<|nl)<|us<|gs<|gs<|g1 j j (mk [(0,M 0),(3,M 3),(4,M 4),(5,M 5)] [(0,Od (G 1 (u_S_l00Src s_0))),(3,Oa [C (I d_1.Width),C (I d_1.Height),⟨.gone,0,0,V false⟩,Z (W 2 e_S_Face d_1.Faces)]),(4,Oa [C (I 0),C (I 0),Z (W 2 e_S_Point ([]:List S_Point)),Z (W 2 e_S_Face ([]:List S_Face))]),(5,Oa [C (I d_1.Width),C (I d_1.Height),Z (W 2 e_S_Point d_1.Points),Z (W 2 e_S_Face ([]:List S_Face))])]) (q (oAsI j j)<|nl)<|us<|Go.block<|?_
 obtain ⟨o,hl,h⟩:=bs h
 refine gl c91 j _ (fun (s:(Int×(List Int)×Int×Int×(List S_Face)))=>match s with | (i_6_l3,s_o0_0_l3,s_o0_1_l3,s_o0_2_l3,out_o5_3_l3)=>mk [(0,M 0),(3,M 3),(4,M 4),(5,M 5),(6,iv i_6_l3)] [(0,Od [Ct 1 (W 1 (eK .u8) s_o0_0_l3),C (I s_o0_1_l3),C (.sc (.int .u64 s_o0_2_l3))]),(3,Oa [C (I d_1.Width),C (I d_1.Height),⟨.gone,0,0,V false⟩,Z (W 2 e_S_Face d_1.Faces)]),(4,Oa [C (I 0),C (I 0),Z (W 2 e_S_Point ([]:List S_Point)),Z (W 2 e_S_Face ([]:List S_Face))]),(5,Oa [C (I d_1.Width),C (I d_1.Height),Z (W 2 e_S_Point d_1.Points),Z (W 2 e_S_Face out_o5_3_l3)])]) (fun (o:((List Int)×Int×Int×(List S_Face))) (p:Ex×St)=>match o with | (s_o0_0_e0_3,s_o0_1_e0_3,s_o0_2_e0_3,out_o5_3_e0_3)=>p.1= .exit 0∧p.2.norm ([4,5],[0,4,5])=mk [(4,M 4),(5,M 5)] [(0,Od [Ct 1 (W 1 (eK .u8) s_o0_0_e0_3),C (I s_o0_1_e0_3),C (.sc (.int .u64 s_o0_2_e0_3))]),(4,Oa [C (I 0),C (I 0),Z (W 2 e_S_Point ([]:List S_Point)),Z (W 2 e_S_Face ([]:List S_Face))]),(5,Oa [C (I d_1.Width),C (I d_1.Height),Z (W 2 e_S_Point d_1.Points),Z (W 2 e_S_Face out_o5_3_e0_3)])]) hl (by kernel_rfl) ?_ ?_ ?_
 ·intro o p hp e
  obtain ⟨s_o0_0_e0_3,s_o0_1_e0_3,s_o0_2_e0_3,out_o5_3_e0_3⟩:=o
  exact nomatch (hp.1.symm.trans e)
 ·rintro ⟨i_6_l3,s_o0_0_l3,s_o0_1_l3,s_o0_2_l3,out_o5_3_l3⟩ o h
  unfold spec_l05Cut_l3 at h
  dsimp only at h
  refine gs<|gs<|g0 j j (q (oMv j j)<|q (oFA (r':=.mp 3 0 3) j fF26_3 j j)<|q (oLd (cs:=[.own 3 0 3]) j tF24 j j)<|q (oLnO j j uF24 j j j (fun e=>nomatch e))<|q (oBi j j j j)<|nl)<|us<|gc h j iDec (fun hc9 h=>?_) fun hc9 h=>?_
  ·refine Go.skip<|us<|gs<|Go.join (fun st=>∃out_o5_3_r4,∃s_o0_0_r4,∃s_o0_1_r4,∃s_o0_2_r4,spec_l05Cut_k4 i_6_l3 out_o5_3_r4 s_o0_0_r4 s_o0_1_r4 s_o0_2_r4=some o∧st.norm ([0,3,4,5,6],[0,3,4,5])=mk [(0,M 0),(3,M 3),(4,M 4),(5,M 5),(6,iv i_6_l3)] [(0,Od [Ct 1 (W 1 (eK .u8) s_o0_0_r4),C (I s_o0_1_r4),C (.sc (.int .u64 s_o0_2_r4))]),(3,Oa [C (I d_1.Width),C (I d_1.Height),⟨.gone,0,0,V false⟩,Z (W 2 e_S_Face d_1.Faces)]),(4,Oa [C (I 0),C (I 0),Z (W 2 e_S_Point ([]:List S_Point)),Z (W 2 e_S_Face ([]:List S_Face))]),(5,Oa [C (I d_1.Width),C (I d_1.Height),Z (W 2 e_S_Point d_1.Points),Z (W 2 e_S_Face out_o5_3_r4)])]) ?_ ?_
   ·rintro st ⟨out_o5_3_r4,s_o0_0_r4,s_o0_1_r4,s_o0_2_r4,h,hst⟩
    unfold spec_l05Cut_k4 at h
    refine us<|g2 c91 j j hst (q (oMv j j)<|q (oBi j j j j)<|q (oAsI j j)<|nl)<|Unw.nil<|?_
    cases h
    exact ⟨j,(by kernel_rfl)⟩
   ·intro K13
    refine Go.block<|gs<|?_
    obtain ⟨x25,hx25,h⟩:=bs h
    refine g0 j j (q (oFA (r':=.mp 3 0 3) j fF26_3 j j)<|q (oLd (cs:=[.own 3 0 3]) j tF24 j j)<|q (oMv j j)<|q (oIAO j hx25 sF24 j j j j)<|q (oLdE (cs:=[.im 0 _,.im 0 _]) j tF139 j j j j (rd_get hx25) j j)<|q (oAl j tF139 (tkI (tkN tk0)))<|q (oSt tF139 j j j (tkI (tkI tk0)) j j j)<|nl)<|us<|gs<|?_
    obtain ⟨⟨t_34_m6,s_o0_0_m6,s_o0_1_m6,s_o0_2_m6⟩,hm16,h⟩:=bs h
    dsimp only at h
    refine gX c91 j j (st1:=mk [(0,M 0),(3,M 3),(4,M 4),(5,M 5),(6,iv i_6_l3),(7,M 7)] [(0,Od [Ct 1 (W 1 (eK .u8) s_o0_0_l3),C (I s_o0_1_l3),C (.sc (.int .u64 s_o0_2_l3))]),(3,Oa [C (I d_1.Width),C (I d_1.Height),⟨.gone,0,0,V false⟩,Z (W 2 e_S_Face d_1.Faces)]),(4,Oa [C (I 0),C (I 0),Z (W 2 e_S_Point ([]:List S_Point)),Z (W 2 e_S_Face ([]:List S_Face))]),(5,Oa [C (I d_1.Width),C (I d_1.Height),Z (W 2 e_S_Point d_1.Points),Z (W 2 e_S_Face out_o5_3_l3)]),(7,Oa (G 0 (u_S_Face x25)))]) (by kernel_rfl) (mk [(0,M 0),(3,M 3),(4,M 4),(5,M 5),(6,iv i_6_l3),(7,M 7),(34,bv t_34_m6)] [(0,Od [Ct 1 (W 1 (eK .u8) s_o0_0_m6),C (I s_o0_1_m6),C (.sc (.int .u64 s_o0_2_m6))]),(3,Oa [C (I d_1.Width),C (I d_1.Height),⟨.gone,0,0,V false⟩,Z (W 2 e_S_Face d_1.Faces)]),(4,Oa [C (I 0),C (I 0),Z (W 2 e_S_Point ([]:List S_Point)),Z (W 2 e_S_Face ([]:List S_Face))]),(5,Oa [C (I d_1.Width),C (I d_1.Height),Z (W 2 e_S_Point d_1.Points),Z (W 2 e_S_Face out_o5_3_l3)]),(7,Oa (G 0 (u_S_Face x25)))]) ?_ ?_
    ·refine xq (oFA (r':=.mp 7 0 1) j fF139_1 j j)<|xq (oLd (cs:=[.im 0 _]) j tF28 j j)<|xq (oLnI j j uF28 j)<|xq (oBi j j j j)<|xq (oMv j j)<|?_
     refine ic hm16 (fun hc14 hm16=>?_) fun hc14 hm16=>?_
     ·obtain ⟨x33,hx33,hm16⟩:=bs hm16
      cases hm16
      exact xqT j j (iEq.2 hc14) (oMv j j)<|xqT j j (iEq.2 hc14) (oCa (xs:=[.v false [.mp 0 0 0],.v false [.im 0 _]]) (vs:=[(false,[.im 0 _])]) (v:=.v false [.im 0 _]) (L_spec_l00Src_one hx33) (.inl j) j kF83_74_2 j (ppP j j j (ppC j pp0)) j j (pbP j j pb0) j j j)<|xq (oPkT j j (iEq.2 hc14) j)<|xn
     ·cases hm16
      exact xsgF j j (byF iEq hc14) j<|xsgF j j (byF iEq hc14) j<|xq (oPkF j j (byF iEq hc14) j)<|xn
    ·refine us<|gc h j iR (fun hc15 h=>?_) fun hc15 h=>?_
     ·refine gs<|?_
      obtain ⟨x41,hx41,h⟩:=bs h
      obtain ⟨x45,hx45,h⟩:=bs h
      obtain ⟨x49,hx49,h⟩:=bs h
      obtain ⟨x54,hx54,h⟩:=bs h
      refine gd c91 j j j j (mk [(0,M 0),(3,M 3),(4,M 4),(5,M 5),(6,iv i_6_l3),(7,M 7)] [(0,Od [Ct 1 (W 1 (eK .u8) s_o0_0_m6),C (I s_o0_1_m6),C (.sc (.int .u64 s_o0_2_m6))]),(3,Oa [C (I d_1.Width),C (I d_1.Height),⟨.gone,0,0,V false⟩,Z (W 2 e_S_Face d_1.Faces)]),(4,Oa [C (I 0),C (I 0),Z (W 2 e_S_Point ([]:List S_Point)),Z (W 2 e_S_Face ([]:List S_Face))]),(5,Oa [C (I d_1.Width),C (I d_1.Height),Z (W 2 e_S_Point d_1.Points),Z (W 2 e_S_Face x54)]),(7,Oa (G 0 (u_S_Face x25)))]) (t j j (oFA (r':=.mp 7 0 1) j fF139_1 j j)<|t j j (oLd (cs:=[.im 0 _]) j tF28 j j)<|t j j (oIAI j hx41 sF28 j j)<|t j j (oLd (cs:=[.im 0 _]) j tF2 j j)<|t j j (oFA (r':=.mp 7 0 1) j fF139_1 j j)<|t j j (oLd (cs:=[.im 0 _]) j tF28 j j)<|t j j (oIAI j hx45 sF28 j j)<|t j j (oLd (cs:=[.im 0 _]) j tF2 j j)<|t j j (oFA (r':=.mp 7 0 1) j fF139_1 j j)<|t j j (oLd (cs:=[.im 0 _]) j tF28 j j)<|t j j (oIAI j hx49 sF28 j j)<|t j j (oLd (cs:=[.im 0 _]) j tF2 j j)<|sK (O:=[5]) j j j (dN z91 j (oFA (r':=.mp 5 0 3) j fF26_3 j j))<|sK (O:=[5]) j j j (dN z91 j (oLd (cs:=[.own 5 0 3]) j tF24 j j))<|sK (O:=[7]) j j j (dN z91 j (oFA (r':=.mp 7 0 0) j fF139_0 j j))<|sK (O:=[7]) j j j (dN z91 j (oLd (cs:=[.im 0 _]) j tF9 j j))<|sS (dN z91 j (oBS (es:=List.map eI ([x41,x45,x49]:List Int)) j sF28 j (ptC j (fxI fx0) j (ptC j (fxI fx0) j (ptC j (fxI fx0) j pt0))) (flat0 j fun _=>j))) (kY ⟨j,trivial⟩ (kY ⟨j,trivial⟩ (kY ⟨j,trivial⟩ (kY ⟨j,trivial⟩ trivial)))) (sS (dN z91 j (oBu (cs:=[.im 0 _,.own 51 0 0]) j bF139 j)) (kN j (kN j (kY ⟨j,trivial⟩ (kY ⟨j,trivial⟩ trivial)))) (sS (dN z91 j (oBS (es:=List.map e_S_Face ([(⟨x25.Name,([x41,x45,x49]:List Int)⟩:S_Face)]:List S_Face)) j sF24 j (ptC j (fxI (fxO j j fx0)) j pt0) (flat1 j))) (kN j (kN j (kY ⟨j,trivial⟩ (kY ⟨j,trivial⟩ trivial)))) (sS (dN z91 j (oApO (en:=e_S_Face) (M:=([(⟨x25.Name,([x41,x45,x49]:List Int)⟩:S_Face)]:List S_Face)) j hx54 j sF24 j j uF24 (.inl ⟨_,j⟩) j j j j (el_own j j) (flat1 j))) (kN j (kN j (kN j (kN j trivial)))) (t j j (oFA (r':=.mp 5 0 3) j fF26_3 j j)<|sS (dN z91 j (oSt tF24 j j j (tkO j j tk0) j j j)) (kN j (kN j (kN j (kN j trivial)))) (sD (by kernel_rfl)))))))<|us<|?_
      obtain ⟨x63,hx63,h⟩:=bs h
      obtain ⟨x67,hx67,h⟩:=bs h
      obtain ⟨x71,hx71,h⟩:=bs h
      obtain ⟨x60,hx60,h⟩:=bs h
      obtain ⟨x76,hx76,h⟩:=bs h
      exact gd c91 j j j j (mk [(0,M 0),(3,M 3),(4,M 4),(5,M 5),(6,iv i_6_l3)] [(0,Od [Ct 1 (W 1 (eK .u8) s_o0_0_m6),C (I s_o0_1_m6),C (.sc (.int .u64 s_o0_2_m6))]),(3,Oa [C (I d_1.Width),C (I d_1.Height),⟨.gone,0,0,V false⟩,Z (W 2 e_S_Face d_1.Faces)]),(4,Oa [C (I 0),C (I 0),Z (W 2 e_S_Point ([]:List S_Point)),Z (W 2 e_S_Face ([]:List S_Face))]),(5,Oa [C (I d_1.Width),C (I d_1.Height),Z (W 2 e_S_Point d_1.Points),Z (W 2 e_S_Face x76)])]) (t j j (oFA (r':=.mp 7 0 1) j fF139_1 j j)<|t j j (oLd (cs:=[.im 0 _]) j tF28 j j)<|t j j (oIAI j hx63 sF28 j j)<|t j j (oLd (cs:=[.im 0 _]) j tF2 j j)<|t j j (oFA (r':=.mp 7 0 1) j fF139_1 j j)<|t j j (oLd (cs:=[.im 0 _]) j tF28 j j)<|t j j (oIAI j hx67 sF28 j j)<|t j j (oLd (cs:=[.im 0 _]) j tF2 j j)<|t j j (oFA (r':=.mp 7 0 1) j fF139_1 j j)<|t j j (oLd (cs:=[.im 0 _]) j tF28 j j)<|t j j (oIAI j hx71 sF28 j j)<|t j j (oLd (cs:=[.im 0 _]) j tF2 j j)<|sK (O:=[5]) j j j (dN z91 j (oFA (r':=.mp 5 0 3) j fF26_3 j j))<|sK (O:=[5]) j j j (dN z91 j (oLd (cs:=[.own 5 0 3]) j tF24 j j))<|sK (O:=[7]) j j j (dN z91 j (oFA (r':=.mp 7 0 0) j fF139_0 j j))<|sK (O:=[7]) j j j (dN z91 j (oLd (cs:=[.im 0 _]) j tF9 j j))<|t j j (oCat j hx60 j j)<|sS (dN z91 j (oBS (es:=List.map eI ([x63,x67,x71]:List Int)) j sF28 j (ptC j (fxI fx0) j (ptC j (fxI fx0) j (ptC j (fxI fx0) j pt0))) (flat0 j fun _=>j))) (kY ⟨j,trivial⟩ (kY ⟨j,trivial⟩ (kY ⟨j,trivial⟩ (kY ⟨j,trivial⟩ trivial)))) (sS (dN z91 j (oBu (cs:=[.im 0 _,.own 73 0 0]) j bF139 j)) (kN j (kN j (kY ⟨j,trivial⟩ (kY ⟨j,trivial⟩ trivial)))) (sS (dN z91 j (oBS (es:=List.map e_S_Face ([(⟨x60,([x63,x67,x71]:List Int)⟩:S_Face)]:List S_Face)) j sF24 j (ptC j (fxI (fxO j j fx0)) j pt0) (flat1 j))) (kN j (kN j (kY ⟨j,trivial⟩ (kY ⟨j,trivial⟩ trivial)))) (sS (dN z91 j (oApO (en:=e_S_Face) (M:=([(⟨x60,([x63,x67,x71]:List Int)⟩:S_Face)]:List S_Face)) j hx76 j sF24 j j uF24 (.inl ⟨_,j⟩) j j j j (el_own j j) (flat1 j))) (kN j (kN j (kN j (kN j trivial)))) (t j j (oFA (r':=.mp 5 0 3) j fF26_3 j j)<|sS (dN z91 j (oSt tF24 j j j (tkO j j tk0) j j j)) (kN j (kN j (kN j (kN j trivial)))) (sD (by kernel_rfl)))))))<|Unw.blk<|K13 _ ⟨x76,s_o0_0_m6,s_o0_1_m6,s_o0_2_m6,h,(by kernel_rfl)⟩
     ·obtain ⟨x82,hx82,h⟩:=bs h
      exact g0 j j (q (oFA (r':=.mp 5 0 3) j fF26_3 j j)<|q (oLd (cs:=[.own 5 0 3]) j tF24 j j)<|q (oLd (cs:=[.im 0 _,.im 0 _]) j tF139 j j)<|q (oBS (es:=List.map e_S_Face ([x25]:List S_Face)) j sF24 j (ptC j (fxI (fxI fx0)) j pt0) (flat1 j))<|q (oApO (en:=e_S_Face) (M:=([x25]:List S_Face)) j hx82 j sF24 j j uF24 (.inl ⟨_,j⟩) j j j j (el_own j j) (flat1 j))<|q (oFA (r':=.mp 5 0 3) j fF26_3 j j)<|q (oSt tF24 j j j (tkO j j tk0) j j j)<|nl)<|Unw.blk<|K13 _ ⟨x82,s_o0_0_m6,s_o0_1_m6,s_o0_2_m6,h,(by kernel_rfl)⟩
  ·refine Go.exit<|ux<|Unw.nil<|?_
   cases h
   exact ⟨j,(by kernel_rfl)⟩
 ·rintro ⟨e,st⟩ hp
  obtain ⟨s_o0_0_e0_3,s_o0_1_e0_3,s_o0_2_e0_3,out_o5_3_e0_3⟩:=o
  dsimp only at h
  obtain ⟨he,hst⟩:=hp
  obtain rfl:e= .exit 0:=he
  refine Unw.blkx<|us<|gs<|g2 c91 j j hst (q (oLd (cs:=[.im 0 _,.im 0 _,.own 5 0 2,.own 5 0 3]) j tF26 j j)<|q (oSt tF26 j j j (tkI (tkI (tkO j j (tkO j j tk0)))) j j j)<|nl)<|us<|Go.ret (Unw.ret ?_)
  cases h
  exact fr rF91 j
theorem L_spec_l05Draw {s_0:S_l00Src} {r:(S_Drawing×S_l00Src)} (h:spec_l05Draw s_0=some r):FX 42 [.ptr true [(.imm,W 1 (eK .u8) s_0.code),(.imm,I s_0.at_),(.imm,.sc (.int .u64 s_0.seed))]] ([(true,[.im 0 (I r.1.Width),.im 0 (I r.1.Height),.ow 0 2 (List.map e_S_Point r.1.Points),.ow 0 2 (List.map e_S_Face r.1.Faces)])],[.ptr true [(.imm,W 1 (eK .u8) r.2.code),(.imm,I r.2.at_),(.imm,.sc (.int .u64 r.2.seed))]]):=by
 unfold spec_l05Draw at h
 refine FL_goS (A:=[(0,M 0)]) (B:=[(0,Od (G 1 (u_S_l00Src s_0)))]) (nt:=12) rfl rfl Try.func42 rfl rfl rfl rfl ?_
 refine gs<|g0 j j (q (oAl j tF26 (tkI (tkI (tkN (tkN tk0)))))<|nl)<|us<|gs<|?_
 obtain ⟨x5,hx5,h⟩:=bs h
 refine g0 j j (q (oMv j j)<|q (oCr (xs:=[.v false [.mp 0 0 0]]) (vs:=[(true,[.im 0 _,.im 0 _,.own 5 0 0,.own 5 0 1])]) (v:=.v true [.im 0 _,.im 0 _,.own 5 0 0,.own 5 0 1]) (c:=⟨.sh,0,_⟩) (cs:=[⟨.sh,0,_⟩]) (L_spec_l05Grid hx5) (.inl j) j kF90_74 j (ppP j j j pp0) j j (pbP j j pb0) j j j)<|q (oAl j tF26 (tkI (tkI (tkN (tkN tk0)))))<|q (oSt tF26 j j j (tkI (tkI (tkO j j (tkO j j tk0)))) j j j)<|nl)<|us<|gs<|gs<|?_
 obtain ⟨x7,hx7,h⟩:=bs h
 refine g1 j j (mk [(0,M 0),(2,M 2),(3,M 3)] [(0,Od (G 1 (u_S_l00Src x5.2))),(2,Oa [C (I 0),C (I 0),Z (W 2 e_S_Point ([]:List S_Point)),Z (W 2 e_S_Face ([]:List S_Face))]),(3,Oa [C (I x5.1.Width),C (I x5.1.Height),Z (W 2 e_S_Point x5.1.Points),Z (W 2 e_S_Face x5.1.Faces)])]) (q (oMv j j)<|q (oCa (xs:=[.v false [.mp 0 0 0],.v false [.im 0 _]]) (vs:=[(false,[.im 0 _])]) (v:=.v false [.im 0 _]) (L_spec_l00Src_one hx7) (.inl j) j kF83_74_2 j (ppP j j j (ppC j pp0)) j j (pbP j j pb0) j j j)<|nl)<|us<|Go.join (fun st=>∃s_o0_0_r4,∃s_o0_1_r4,∃s_o0_2_r4,∃d_o3_0_r4,∃d_o3_1_r4,∃d_o3_2_r4,∃d_o3_3_r4,spec_l05Draw_k4 s_o0_0_r4 s_o0_1_r4 s_o0_2_r4 d_o3_0_r4 d_o3_1_r4 d_o3_2_r4 d_o3_3_r4=some r∧st.norm ([2,3],[0,2,3])=mk [(2,M 2),(3,M 3)] [(0,Od [Ct 1 (W 1 (eK .u8) s_o0_0_r4),C (I s_o0_1_r4),C (.sc (.int .u64 s_o0_2_r4))]),(2,Oa [C (I 0),C (I 0),Z (W 2 e_S_Point ([]:List S_Point)),Z (W 2 e_S_Face ([]:List S_Face))]),(3,Oa [C (I d_o3_0_r4),C (I d_o3_1_r4),Z (W 2 e_S_Point d_o3_2_r4),Z (W 2 e_S_Face d_o3_3_r4)])]) ?_ ?_
 ·rintro st ⟨s_o0_0_r4,s_o0_1_r4,s_o0_2_r4,d_o3_0_r4,d_o3_1_r4,d_o3_2_r4,d_o3_3_r4,h,hst⟩
  unfold spec_l05Draw_k4 at h
  refine us<|gs<|g2 c42 j j hst (q (oLd (cs:=[.im 0 _,.im 0 _,.own 3 0 2,.own 3 0 3]) j tF26 j j)<|q (oSt tF26 j j j (tkI (tkI (tkO j j (tkO j j tk0)))) j j j)<|nl)<|us<|Go.ret (Unw.ret ?_)
  cases h
  exact fr rF42 j
 ·intro K2
  refine gc h j iR (fun hc3 h=>?_) fun hc3 h=>?_
  ·obtain ⟨x10,hx10,h⟩:=bs h
   exact g1 j j (mk [(0,M 0),(2,M 2),(3,M 3)] [(0,Od (G 1 (u_S_l00Src x7.2))),(2,Oa [C (I 0),C (I 0),Z (W 2 e_S_Point ([]:List S_Point)),Z (W 2 e_S_Face ([]:List S_Face))]),(3,Oa [C (I x5.1.Width),C (I x5.1.Height),Z (W 2 e_S_Point x5.1.Points),Z (W 2 e_S_Face x5.1.Faces)])]) (q (oMv j j)<|q (oLd (cs:=[.im 0 _,.im 0 _,.own 3 0 2,.own 3 0 3]) j tF26 j j)<|q (oCr (xs:=[.v false [.mp 0 0 0],.v true [.im 0 _,.im 0 _,.own 3 0 2,.own 3 0 3]]) (vs:=[(true,[.im 0 _,.im 0 _,.own 10 0 0,.own 10 0 1])]) (v:=.v true [.im 0 _,.im 0 _,.own 10 0 0,.own 10 0 1]) (c:=⟨.sh,0,_⟩) (cs:=[⟨.sh,0,_⟩]) (L_spec_l05Cut hx10) (.inl j) j kF91_74_26 j (ppP j j j (ppS (tkI (tkI (tkO j j (tkO j j tk0)))) j pp0)) j j (pbP j j pb0) j j j)<|q (oSt tF26 j j j (tkI (tkI (tkO j j (tkO j j tk0)))) j j j)<|nl)<|K2 _ ⟨x10.2.code,x10.2.at_,x10.2.seed,x10.1.Width,x10.1.Height,x10.1.Points,x10.1.Faces,h,(by kernel_rfl)⟩
  ·exact Go.skip<|K2 _ ⟨x7.2.code,x7.2.at_,x7.2.seed,x5.1.Width,x5.1.Height,x5.1.Points,x5.1.Faces,h,(by kernel_rfl)⟩
theorem L_spec_l00Src_among {s_0:S_l00Src} {list_1:(List Int)} {r:(Int×S_l00Src)} (h:spec_l00Src_among s_0 list_1=some r):FX 115 [.ptr true [(.imm,W 1 (eK .u8) s_0.code),(.imm,I s_0.at_),(.imm,.sc (.int .u64 s_0.seed))],.im 2 false [W 1 eI list_1]] ([(false,[.im 0 (I r.1)])],[.ptr true [(.imm,W 1 (eK .u8) r.2.code),(.imm,I r.2.at_),(.imm,.sc (.int .u64 r.2.seed))]]):=by
 unfold spec_l00Src_among at h
 refine FL_goS (A:=[(0,M 0),(1,D 2 (W 1 eI list_1))]) (B:=[(0,Od (G 1 (u_S_l00Src s_0))),(1,none)]) (nt:=12) rfl rfl Try.func115 rfl rfl rfl rfl ?_
 refine gs<|g0 j j (q (oAsI j j)<|nl)<|us<|gs<|?_
 obtain ⟨x9,hx9,h⟩:=bs h
 obtain ⟨x10,hx10,h⟩:=bs h
 refine g0 j j (q (oMv j j)<|q (oMv j j)<|q (oMv j j)<|q (oLnI j j uF28 j)<|q (oCa (xs:=[.v false [.mp 0 0 0],.v false [.im 0 _]]) (vs:=[(false,[.im 0 _])]) (v:=.v false [.im 0 _]) (L_spec_l00Src_pick hx9) (.inl j) j kF106_74_2 j (ppP j j j (ppC j pp0)) j j (pbP j j pb0) j j j)<|q (oIAI j hx10 sF28 j j)<|q (oLd (cs:=[.im 2 _]) j tF2 j j)<|q (oAsI j j)<|nl)<|us<|Go.ret (Unw.ret ?_)
 cases h
 exact fr rF115 j
theorem L_spec_l00Src_text {s_0:S_l00Src} {list_1:(List ByteArray)} {r:(ByteArray×S_l00Src)} (h:spec_l00Src_text s_0 list_1=some r):FX 163 [.ptr true [(.imm,W 1 (eK .u8) s_0.code),(.imm,I s_0.at_),(.imm,.sc (.int .u64 s_0.seed))],.im 2 false [W 1 eS list_1]] ([(false,[.im 0 (Y r.1)])],[.ptr true [(.imm,W 1 (eK .u8) r.2.code),(.imm,I r.2.at_),(.imm,.sc (.int .u64 r.2.seed))]]):=by
 unfold spec_l00Src_text at h
 refine FL_goS (A:=[(0,M 0),(1,D 2 (W 1 eS list_1))]) (B:=[(0,Od (G 1 (u_S_l00Src s_0))),(1,none)]) (nt:=12) rfl rfl Try.func163 rfl rfl rfl rfl ?_
 refine gs<|g0 j j (q (oAsI j j)<|nl)<|us<|gs<|?_
 obtain ⟨x9,hx9,h⟩:=bs h
 obtain ⟨x10,hx10,h⟩:=bs h
 refine g0 j j (q (oMv j j)<|q (oMv j j)<|q (oMv j j)<|q (oLnI j j uF175 j)<|q (oCa (xs:=[.v false [.mp 0 0 0],.v false [.im 0 _]]) (vs:=[(false,[.im 0 _])]) (v:=.v false [.im 0 _]) (L_spec_l00Src_pick hx9) (.inl j) j kF106_74_2 j (ppP j j j (ppC j pp0)) j j (pbP j j pb0) j j j)<|q (oIAI j hx10 sF175 j j)<|q (oLd (cs:=[.im 2 _]) j tF9 j j)<|q (oAsI j j)<|nl)<|us<|Go.ret (Unw.ret ?_)
 cases h
 exact fr rF163 j
theorem L_spec_l01DrawName {s_0:S_l00Src} {r:(ByteArray×S_l00Src)} (h:spec_l01DrawName s_0=some r):FX 116 [.ptr true [(.imm,W 1 (eK .u8) s_0.code),(.imm,I s_0.at_),(.imm,.sc (.int .u64 s_0.seed))]] ([(false,[.im 0 (Y r.1)])],[.ptr true [(.imm,W 1 (eK .u8) r.2.code),(.imm,I r.2.at_),(.imm,.sc (.int .u64 r.2.seed))]]):=by
 unfold spec_l01DrawName at h
 refine FL_goS (A:=[(0,M 0)]) (B:=[(0,Od (G 1 (u_S_l00Src s_0)))]) (nt:=6) rfl rfl Try.func116 rfl rfl rfl rfl ?_
 refine gs<|g0 j j (q (oAsI j j)<|nl)<|us<|gs<|?_
 obtain ⟨x5,hx5,h⟩:=bs h
 refine g0 j j (q (oMv j j)<|q (oBS (es:=List.map eS ([(⟨#[97]⟩:ByteArray),(⟨#[98]⟩:ByteArray),(⟨#[99]⟩:ByteArray),(⟨#[111,97,107]⟩:ByteArray),(⟨#[115,116,97,114,55]⟩:ByteArray),(⟨#[114,111,115,101]⟩:ByteArray),(⟨#[120,57]⟩:ByteArray),(⟨#[97,98,99,100,101,102,103,104,105,106]⟩:ByteArray),(⟨#[97,98,99,100,101,102,103,104,105,106,107]⟩:ByteArray),(⟨#[65]⟩:ByteArray),(⟨#[]⟩:ByteArray),(⟨#[49,97]⟩:ByteArray),(⟨#[97,45,98]⟩:ByteArray)]:List ByteArray)) j sF175 j (ptC j (fxI fx0) j (ptC j (fxI fx0) j (ptC j (fxI fx0) j (ptC j (fxI fx0) j (ptC j (fxI fx0) j (ptC j (fxI fx0) j (ptC j (fxI fx0) j (ptC j (fxI fx0) j (ptC j (fxI fx0) j (ptC j (fxI fx0) j (ptC j (fxI fx0) j (ptC j (fxI fx0) j (ptC j (fxI fx0) j pt0))))))))))))) (flat0 j fun _=>j))<|q (oCa (xs:=[.v false [.mp 0 0 0],.v false [.own 4 0 0]]) (vs:=[(false,[.im 0 _])]) (v:=.v false [.im 0 _]) (L_spec_l00Src_text hx5) (.inl j) j kF163_74_175 j (ppP j j j (ppC j pp0)) j j (pbP j j pb0) j j j)<|q (oAsI j j)<|nl)<|us<|Go.ret (Unw.ret ?_)
 cases h
 exact fr rF116 j
theorem L_spec_l05Bent {s_0:S_l00Src} {r:(S_Drawing×S_l00Src)} (h:spec_l05Bent s_0=some r):FX 60 [.ptr true [(.imm,W 1 (eK .u8) s_0.code),(.imm,I s_0.at_),(.imm,.sc (.int .u64 s_0.seed))]] ([(true,[.im 0 (I r.1.Width),.im 0 (I r.1.Height),.ow 0 2 (List.map e_S_Point r.1.Points),.ow 0 2 (List.map e_S_Face r.1.Faces)])],[.ptr true [(.imm,W 1 (eK .u8) r.2.code),(.imm,I r.2.at_),(.imm,.sc (.int .u64 r.2.seed))]]):=by
 unfold spec_l05Bent at h
 refine FL_goS (A:=[(0,M 0)]) (B:=[(0,Od (G 1 (u_S_l00Src s_0)))]) (nt:=153) rfl rfl Try.func60 rfl rfl rfl rfl ?_
 refine gs<|g0 j j (q (oAl j tF26 (tkI (tkI (tkN (tkN tk0)))))<|nl)<|us<|gs<|?_
 obtain ⟨x8,hx8,h⟩:=bs h
 refine g0 j j (q (oMv j j)<|q (oCr (xs:=[.v false [.mp 0 0 0]]) (vs:=[(true,[.im 0 _,.im 0 _,.own 8 0 0,.own 8 0 1])]) (v:=.v true [.im 0 _,.im 0 _,.own 8 0 0,.own 8 0 1]) (c:=⟨.sh,0,_⟩) (cs:=[⟨.sh,0,_⟩]) (L_spec_l05Draw hx8) (.inl j) j kF42_74 j (ppP j j j pp0) j j (pbP j j pb0) j j j)<|q (oAl j tF26 (tkI (tkI (tkN (tkN tk0)))))<|q (oSt tF26 j j j (tkI (tkI (tkO j j (tkO j j tk0)))) j j j)<|nl)<|us<|gs<|g1 j j (mk [(0,M 0),(2,M 2),(3,M 3)] [(0,Od (G 1 (u_S_l00Src x8.2))),(2,Oa [C (I 0),C (I 0),Z (W 2 e_S_Point ([]:List S_Point)),Z (W 2 e_S_Face ([]:List S_Face))]),(3,Oa [C (I x8.1.Width),C (I x8.1.Height),Z (W 2 e_S_Point x8.1.Points),Z (W 2 e_S_Face x8.1.Faces)])]) (q (oFA (r':=.mp 3 0 3) j fF26_3 j j)<|q (oLd (cs:=[.own 3 0 3]) j tF24 j j)<|q (oLnO j j uF24 j j j (fun e=>nomatch e))<|q (oAsI j j)<|nl)<|us<|gs<|gs<|?_
 obtain ⟨x13,hx13,h⟩:=bs h
 refine g0 j j (q (oMv j j)<|q (oCa (xs:=[.v false [.mp 0 0 0],.v false [.im 0 _]]) (vs:=[(false,[.im 0 _])]) (v:=.v false [.im 0 _]) (L_spec_l00Src_pick hx13) (.inl j) j kF106_74_2 j (ppP j j j (ppC j pp0)) j j (pbP j j pb0) j j j)<|nl)<|us<|Go.join (fun st=>∃s_o0_0_r29,∃s_o0_1_r29,∃s_o0_2_r29,∃d_o3_0_r29,∃d_o3_1_r29,∃d_o3_2_r29,∃d_o3_3_r29,spec_l05Bent_k29 s_o0_0_r29 s_o0_1_r29 s_o0_2_r29 d_o3_0_r29 d_o3_1_r29 d_o3_2_r29 d_o3_3_r29=some r∧st.norm ([2,3],[0,2,3])=mk [(2,M 2),(3,M 3)] [(0,Od [Ct 1 (W 1 (eK .u8) s_o0_0_r29),C (I s_o0_1_r29),C (.sc (.int .u64 s_o0_2_r29))]),(2,Oa [C (I 0),C (I 0),Z (W 2 e_S_Point ([]:List S_Point)),Z (W 2 e_S_Face ([]:List S_Face))]),(3,Oa [C (I d_o3_0_r29),C (I d_o3_1_r29),Z (W 2 e_S_Point d_o3_2_r29),Z (W 2 e_S_Face d_o3_3_r29)])]) ?_ ?_
 ·rintro st ⟨s_o0_0_r29,s_o0_1_r29,s_o0_2_r29,d_o3_0_r29,d_o3_1_r29,d_o3_2_r29,d_o3_3_r29,h,hst⟩
  unfold spec_l05Bent_k29 at h
  refine us<|gs<|g2 c60 j j hst (q (oLd (cs:=[.im 0 _,.im 0 _,.own 3 0 2,.own 3 0 3]) j tF26 j j)<|q (oSt tF26 j j j (tkI (tkI (tkO j j (tkO j j tk0)))) j j j)<|nl)<|us<|Go.ret (Unw.ret ?_)
  cases h
  exact fr rF60 j
 ·intro K14
  refine Go.block<|gs<|g1 j j (mk [(0,M 0),(2,M 2),(3,M 3),(4,iv (x8.1.Faces.length:Int)),(13,iv x13.1)] [(0,Od (G 1 (u_S_l00Src x13.2))),(2,Oa [C (I 0),C (I 0),Z (W 2 e_S_Point ([]:List S_Point)),Z (W 2 e_S_Face ([]:List S_Face))]),(3,Oa [C (I x8.1.Width),C (I x8.1.Height),Z (W 2 e_S_Point x8.1.Points),Z (W 2 e_S_Face x8.1.Faces)])]) (q (oBi j j j j)<|q (oAsI j j)<|nl)<|us<|gc h j iEq (fun hc15 h=>?_) fun hc15 h=>?_
  ·obtain ⟨x18,hx18,h⟩:=bs h
   exact g0 j j (q (oFA (r':=.mp 3 0 3) j fF26_3 j j)<|q (oLd (cs:=[.own 3 0 3]) j tF24 j j)<|q (oSlO j hx18 sF24 j j j (bn1 j) bn0 j j j)<|q (oFA (r':=.mp 3 0 3) j fF26_3 j j)<|q (oSt tF24 j j j (tkSM j j tk0) j j j)<|nl)<|Unw.blk<|K14 _ ⟨x13.2.code,x13.2.at_,x13.2.seed,x8.1.Width,x8.1.Height,x8.1.Points,((x8.1.Faces.take ((x8.1.Faces.length:Int).toNat)).drop ((1:Int).toNat)),h,(by kernel_rfl)⟩
  ·refine gs<|g0 j j (q (oBi j j j j)<|q (oAsI j j)<|nl)<|us<|gc h j iEq (fun hc16 h=>?_) fun hc16 h=>?_
   ·obtain ⟨x26,hx26,h⟩:=bs h
    exact g0 j j (q (oFA (r':=.mp 3 0 2) j fF26_2 j j)<|q (oLd (cs:=[.own 3 0 2]) j tF23 j j)<|q (oBu (cs:=[.im 0 _,.im 0 _]) j bF145 j)<|q (oBS (es:=List.map e_S_Point ([(⟨7,3⟩:S_Point)]:List S_Point)) j sF23 j (ptC j (fxI (fxI fx0)) j pt0) (flat0 j fun _=>j))<|q (oApO (en:=e_S_Point) (M:=([(⟨7,3⟩:S_Point)]:List S_Point)) j hx26 j sF23 j j uF23 (.inl ⟨_,j⟩) j j j j (el_own j j) (flat0 j fun _=>j))<|q (oFA (r':=.mp 3 0 2) j fF26_2 j j)<|q (oSt tF23 j j j (tkO j j tk0) j j j)<|nl)<|Unw.blk<|K14 _ ⟨x13.2.code,x13.2.at_,x13.2.seed,x8.1.Width,x8.1.Height,x26,x8.1.Faces,h,(by kernel_rfl)⟩
   ·refine gs<|g0 j j (q (oBi j j j j)<|q (oAsI j j)<|nl)<|us<|gc h j iEq (fun hc17 h=>?_) fun hc17 h=>?_
    ·obtain ⟨x35,hx35,h⟩:=bs h
     exact g0 j j (q (oMv j j)<|q (oFA (r':=.mp 3 0 0) j fF26_0 j j)<|q (oLd (cs:=[.im 0 _]) j tF2 j j)<|q (oBi j j j j)<|q (oBS (es:=List.map eI ([(w64 (x8.1.Width+5)),9,10,20000,20001]:List Int)) j sF28 j (ptC j (fxI fx0) j (ptC j (fxI fx0) j (ptC j (fxI fx0) j (ptC j (fxI fx0) j (ptC j (fxI fx0) j pt0))))) (flat0 j fun _=>j))<|q (oCa (xs:=[.v false [.mp 0 0 0],.v false [.own 34 0 0]]) (vs:=[(false,[.im 0 _])]) (v:=.v false [.im 0 _]) (L_spec_l00Src_among hx35) (.inl j) j kF115_74_28 j (ppP j j j (ppC j pp0)) j j (pbP j j pb0) j j j)<|q (oFA (r':=.mp 3 0 0) j fF26_0 j j)<|q (oSt tF2 j j j (tkI tk0) j j j)<|nl)<|Unw.blk<|K14 _ ⟨x35.2.code,x35.2.at_,x35.2.seed,x35.1,x8.1.Height,x8.1.Points,x8.1.Faces,h,(by kernel_rfl)⟩
    ·refine gs<|g0 j j (q (oBi j j j j)<|q (oAsI j j)<|nl)<|us<|gc h j iEq (fun hc18 h=>?_) fun hc18 h=>?_
     ·obtain ⟨x43,hx43,h⟩:=bs h
      obtain ⟨x49,hx49,h⟩:=bs h
      exact gd c60 j j j j (mk [(2,M 2),(3,M 3)] [(0,Od (G 1 (u_S_l00Src x43.2))),(2,Oa [C (I 0),C (I 0),Z (W 2 e_S_Point ([]:List S_Point)),Z (W 2 e_S_Face ([]:List S_Face))]),(3,Oa [C (I x8.1.Width),C (I x8.1.Height),Z (W 2 e_S_Point x8.1.Points),Z (W 2 e_S_Face (x8.1.Faces.set x43.1.toNat (⟨x49.Name,([0,1,(w64 ((x8.1.Points.length:Int) - 1))]:List Int)⟩:S_Face)))])]) (t j j (oMv j j)<|t j j (oMv j j)<|sK (O:=[3]) j j j (dN z60 j (oFA (r':=.mp 3 0 3) j fF26_3 j j))<|sK (O:=[3]) j j j (dN z60 j (oLd (cs:=[.own 3 0 3]) j tF24 j j))<|sK (O:=[3]) j j j (dN z60 j (oFA (r':=.mp 3 0 2) j fF26_2 j j))<|sK (O:=[3]) j j j (dN z60 j (oLd (cs:=[.own 3 0 2]) j tF23 j j))<|sK (O:=[3]) j j j (dN z60 j (oLnO j j uF23 j j j (fun e=>nomatch e)))<|t j j (oBi j j j j)<|sF (dN z60 j (oCa (xs:=[.v false [.mp 0 0 0],.v false [.im 0 _]]) (vs:=[(false,[.im 0 _])]) (v:=.v false [.im 0 _]) (L_spec_l00Src_pick hx43) (.inl j) j kF106_74_2 j (ppP j j j (ppC j pp0)) j j (pbP j j pb0) j j j)) (kY ⟨j,trivial⟩ (kY ⟨j,trivial⟩ (kY ⟨j,trivial⟩ (kY ⟨j,trivial⟩ (kY ⟨j,trivial⟩ trivial))))) (sS (dN z60 j (oBS (es:=List.map eI ([0,1,(w64 ((x8.1.Points.length:Int) - 1))]:List Int)) j sF28 j (ptC j (fxI fx0) j (ptC j (fxI fx0) j (ptC j (fxI fx0) j pt0))) (flat0 j fun _=>j))) (kN j (kN j (kN j (kY ⟨j,trivial⟩ (kY ⟨j,trivial⟩ trivial))))) (t j j (oIAO j hx49 sF24 j j j j)<|t j j (oFA (r':=.mpe 3 0 3 _ 1) j fF139_1 j j)<|sS (dN z60 j (oStE (v':=(⟨x49.Name,([0,1,(w64 ((x8.1.Points.length:Int) - 1))]:List Int)⟩:S_Face)) tF28 j j j (fxO j j fx0) j j (rd_get hx49) j)) (kN j (kN j (kN j (kN j (kN j trivial))))) (sD (by kernel_rfl)))) (sS (dN z60 j (oBS (es:=List.map eI ([0,1,(w64 ((x8.1.Points.length:Int) - 1))]:List Int)) j sF28 j (ptC j (fxI fx0) j (ptC j (fxI fx0) j (ptC j (fxI fx0) j pt0))) (flat0 j fun _=>j))) (kN j (kN j (kN j (kY ⟨j,trivial⟩ (kY ⟨j,trivial⟩ trivial))))) (sS (dN z60 j (oCa (xs:=[.v false [.mp 0 0 0],.v false [.im 0 _]]) (vs:=[(false,[.im 0 _])]) (v:=.v false [.im 0 _]) (L_spec_l00Src_pick hx43) (.inl j) j kF106_74_2 j (ppP j j j (ppC j pp0)) j j (pbP j j pb0) j j j)) (kY ⟨j,trivial⟩ (kY ⟨j,trivial⟩ (kY ⟨j,trivial⟩ (kY ⟨j,trivial⟩ (kY ⟨j,trivial⟩ trivial))))) (t j j (oIAO j hx49 sF24 j j j j)<|t j j (oFA (r':=.mpe 3 0 3 _ 1) j fF139_1 j j)<|sS (dN z60 j (oStE (v':=(⟨x49.Name,([0,1,(w64 ((x8.1.Points.length:Int) - 1))]:List Int)⟩:S_Face)) tF28 j j j (fxO j j fx0) j j (rd_get hx49) j)) (kN j (kN j (kN j (kN j (kN j trivial))))) (sD (by kernel_rfl))))))<|Unw.blk<|K14 _ ⟨x43.2.code,x43.2.at_,x43.2.seed,x8.1.Width,x8.1.Height,x8.1.Points,(x8.1.Faces.set x43.1.toNat (⟨x49.Name,([0,1,(w64 ((x8.1.Points.length:Int) - 1))]:List Int)⟩:S_Face)),h,(by kernel_rfl)⟩
     ·refine gs<|g0 j j (q (oBi j j j j)<|q (oAsI j j)<|nl)<|us<|gc h j iEq (fun hc19 h=>?_) fun hc19 h=>?_
      ·obtain ⟨x57,hx57,h⟩:=bs h
       obtain ⟨x59,hx59,h⟩:=bs h
       obtain ⟨x60,hx60,h⟩:=bs h
       exact gd c60 j j j j (mk [(2,M 2),(3,M 3)] [(0,Od (G 1 (u_S_l00Src x59.2))),(2,Oa [C (I 0),C (I 0),Z (W 2 e_S_Point ([]:List S_Point)),Z (W 2 e_S_Face ([]:List S_Face))]),(3,Oa [C (I x8.1.Width),C (I x8.1.Height),Z (W 2 e_S_Point x8.1.Points),Z (W 2 e_S_Face (x8.1.Faces.set x57.1.toNat (⟨x59.1,x60.Ring⟩:S_Face)))])]) (t j j (oMv j j)<|t j j (oMv j j)<|t j j (oMv j j)<|sK (O:=[3]) j j j (dN z60 j (oFA (r':=.mp 3 0 3) j fF26_3 j j))<|sK (O:=[3]) j j j (dN z60 j (oLd (cs:=[.own 3 0 3]) j tF24 j j))<|sS (dN z60 j (oCa (xs:=[.v false [.mp 0 0 0],.v false [.im 0 _]]) (vs:=[(false,[.im 0 _])]) (v:=.v false [.im 0 _]) (L_spec_l00Src_pick hx57) (.inl j) j kF106_74_2 j (ppP j j j (ppC j pp0)) j j (pbP j j pb0) j j j)) (kY ⟨j,trivial⟩ (kY ⟨j,trivial⟩ trivial)) (sS (dN z60 j (oCa (xs:=[.v false [.mp 0 0 0]]) (vs:=[(false,[.im 0 _])]) (v:=.v false [.im 0 _]) (L_spec_l01DrawName hx59) (.inl j) j kF116_74 j (ppP j j j pp0) j j (pbP j j pb0) j j j)) (kY ⟨j,trivial⟩ (kY ⟨j,trivial⟩ trivial)) (t j j (oIAO j hx60 sF24 j j j j)<|t j j (oFA (r':=.mpe 3 0 3 _ 0) j fF139_0 j j)<|sS (dN z60 j (oStE (v':=(⟨x59.1,x60.Ring⟩:S_Face)) tF9 j j j (fxI fx0) j j (rd_get hx60) j)) (kN j (kN j trivial)) (sD (by kernel_rfl)))))<|Unw.blk<|K14 _ ⟨x59.2.code,x59.2.at_,x59.2.seed,x8.1.Width,x8.1.Height,x8.1.Points,(x8.1.Faces.set x57.1.toNat (⟨x59.1,x60.Ring⟩:S_Face)),h,(by kernel_rfl)⟩
      ·refine gs<|g0 j j (q (oBi j j j j)<|q (oAsI j j)<|nl)<|us<|gc h j iEq (fun hc20 h=>?_) fun hc20 h=>?_
       ·obtain ⟨x68,hx68,h⟩:=bs h
        obtain ⟨x74,hx74,h⟩:=bs h
        obtain ⟨x76,hx76,h⟩:=bs h
        exact gd c60 j j j j (mk [(2,M 2),(3,M 3)] [(0,Od (G 1 (u_S_l00Src x74.2))),(2,Oa [C (I 0),C (I 0),Z (W 2 e_S_Point ([]:List S_Point)),Z (W 2 e_S_Face ([]:List S_Face))]),(3,Oa [C (I x8.1.Width),C (I x8.1.Height),Z (W 2 e_S_Point x8.1.Points),Z (W 2 e_S_Face (x8.1.Faces.set x68.1.toNat (⟨x76.Name,([0,x74.1]:List Int)⟩:S_Face)))])]) (t j j (oMv j j)<|t j j (oMv j j)<|t j j (oMv j j)<|sK (O:=[3]) j j j (dN z60 j (oFA (r':=.mp 3 0 3) j fF26_3 j j))<|sK (O:=[3]) j j j (dN z60 j (oLd (cs:=[.own 3 0 3]) j tF24 j j))<|sK (O:=[3]) j j j (dN z60 j (oFA (r':=.mp 3 0 2) j fF26_2 j j))<|sK (O:=[3]) j j j (dN z60 j (oLd (cs:=[.own 3 0 2]) j tF23 j j))<|sK (O:=[3]) j j j (dN z60 j (oLnO j j uF23 j j j (fun e=>nomatch e)))<|sF (dN z60 j (oCa (xs:=[.v false [.mp 0 0 0],.v false [.im 0 _]]) (vs:=[(false,[.im 0 _])]) (v:=.v false [.im 0 _]) (L_spec_l00Src_pick hx68) (.inl j) j kF106_74_2 j (ppP j j j (ppC j pp0)) j j (pbP j j pb0) j j j)) (kY ⟨j,trivial⟩ (kY ⟨j,trivial⟩ (kY ⟨j,trivial⟩ (kY ⟨j,trivial⟩ (kY ⟨j,trivial⟩ trivial))))) (sS (dN z60 j (oBS (es:=List.map eI ([1,(-1),(x8.1.Points.length:Int)]:List Int)) j sF28 j (ptC j (fxI fx0) j (ptC j (fxI fx0) j (ptC j (fxI fx0) j pt0))) (flat0 j fun _=>j))) (kN j (kN j (kN j (kY ⟨j,trivial⟩ (kY ⟨j,trivial⟩ trivial))))) (sS (dN z60 j (oCa (xs:=[.v false [.mp 0 0 0],.v false [.own 73 0 0]]) (vs:=[(false,[.im 0 _])]) (v:=.v false [.im 0 _]) (L_spec_l00Src_among hx74) (.inl j) j kF115_74_28 j (ppP j j j (ppC j pp0)) j j (pbP j j pb0) j j j)) (kN j (kN j (kN j (kY ⟨j,trivial⟩ (kY ⟨j,trivial⟩ trivial))))) (sS (dN z60 j (oBS (es:=List.map eI ([0,x74.1]:List Int)) j sF28 j (ptC j (fxI fx0) j (ptC j (fxI fx0) j pt0)) (flat0 j fun _=>j))) (kN j (kN j (kN j (kY ⟨j,trivial⟩ (kY ⟨j,trivial⟩ trivial))))) (t j j (oIAO j hx76 sF24 j j j j)<|t j j (oFA (r':=.mpe 3 0 3 _ 1) j fF139_1 j j)<|sS (dN z60 j (oStE (v':=(⟨x76.Name,([0,x74.1]:List Int)⟩:S_Face)) tF28 j j j (fxO j j fx0) j j (rd_get hx76) j)) (kN j (kN j (kN j (kN j (kN j trivial))))) (sD (by kernel_rfl)))))) (sS (dN z60 j (oBS (es:=List.map eI ([1,(-1),(x8.1.Points.length:Int)]:List Int)) j sF28 j (ptC j (fxI fx0) j (ptC j (fxI fx0) j (ptC j (fxI fx0) j pt0))) (flat0 j fun _=>j))) (kN j (kN j (kN j (kY ⟨j,trivial⟩ (kY ⟨j,trivial⟩ trivial))))) (sS (dN z60 j (oCa (xs:=[.v false [.mp 0 0 0],.v false [.im 0 _]]) (vs:=[(false,[.im 0 _])]) (v:=.v false [.im 0 _]) (L_spec_l00Src_pick hx68) (.inl j) j kF106_74_2 j (ppP j j j (ppC j pp0)) j j (pbP j j pb0) j j j)) (kY ⟨j,trivial⟩ (kY ⟨j,trivial⟩ (kY ⟨j,trivial⟩ (kY ⟨j,trivial⟩ (kY ⟨j,trivial⟩ trivial))))) (sS (dN z60 j (oCa (xs:=[.v false [.mp 0 0 0],.v false [.own 73 0 0]]) (vs:=[(false,[.im 0 _])]) (v:=.v false [.im 0 _]) (L_spec_l00Src_among hx74) (.inl j) j kF115_74_28 j (ppP j j j (ppC j pp0)) j j (pbP j j pb0) j j j)) (kN j (kN j (kN j (kY ⟨j,trivial⟩ (kY ⟨j,trivial⟩ trivial))))) (sS (dN z60 j (oBS (es:=List.map eI ([0,x74.1]:List Int)) j sF28 j (ptC j (fxI fx0) j (ptC j (fxI fx0) j pt0)) (flat0 j fun _=>j))) (kN j (kN j (kN j (kY ⟨j,trivial⟩ (kY ⟨j,trivial⟩ trivial))))) (t j j (oIAO j hx76 sF24 j j j j)<|t j j (oFA (r':=.mpe 3 0 3 _ 1) j fF139_1 j j)<|sS (dN z60 j (oStE (v':=(⟨x76.Name,([0,x74.1]:List Int)⟩:S_Face)) tF28 j j j (fxO j j fx0) j j (rd_get hx76) j)) (kN j (kN j (kN j (kN j (kN j trivial))))) (sD (by kernel_rfl))))))))<|Unw.blk<|K14 _ ⟨x74.2.code,x74.2.at_,x74.2.seed,x8.1.Width,x8.1.Height,x8.1.Points,(x8.1.Faces.set x68.1.toNat (⟨x76.Name,([0,x74.1]:List Int)⟩:S_Face)),h,(by kernel_rfl)⟩
       ·refine gs<|g0 j j (q (oBi j j j j)<|q (oAsI j j)<|nl)<|us<|gc h j iEq (fun hc21 h=>?_) fun hc21 h=>?_
        ·obtain ⟨x84,hx84,h⟩:=bs h
         obtain ⟨x86,hx86,h⟩:=bs h
         exact gd c60 j j j j (mk [(2,M 2),(3,M 3)] [(0,Od (G 1 (u_S_l00Src x13.2))),(2,Oa [C (I 0),C (I 0),Z (W 2 e_S_Point ([]:List S_Point)),Z (W 2 e_S_Face ([]:List S_Face))]),(3,Oa [C (I x8.1.Width),C (I x8.1.Height),Z (W 2 e_S_Point (x8.1.Points.set ((1:Int).toNat) x84)),Z (W 2 e_S_Face x8.1.Faces)])]) (t j j (oFA (r':=.mp 3 0 2) j fF26_2 j j)<|t j j (oLd (cs:=[.own 3 0 2]) j tF23 j j)<|t j j (oFA (r':=.mp 3 0 2) j fF26_2 j j)<|t j j (oLd (cs:=[.own 3 0 2]) j tF23 j j)<|t j j (oIAO j hx84 sF23 j j j j)<|t j j (oLdE (cs:=[.im 0 _,.im 0 _]) j tF145 j j j j (rd_get hx84) j j)<|t j j (oIAO j hx86 sF23 j j j j)<|sS (dN z60 j (oStE (v':=x84) tF145 j j j (fxI (fxI fx0)) j j (rd_get hx86) j)) trivial (sD (by kernel_rfl)))<|Unw.blk<|K14 _ ⟨x13.2.code,x13.2.at_,x13.2.seed,x8.1.Width,x8.1.Height,(x8.1.Points.set ((1:Int).toNat) x84),x8.1.Faces,h,(by kernel_rfl)⟩
        ·refine gs<|g0 j j (q (oBi j j j j)<|q (oAsI j j)<|nl)<|us<|gc h j iEq (fun hc22 h=>?_) fun hc22 h=>?_
         ·refine gs<|g0 j j (q (oBu (cs:=[.im 0 _,.im 0 _,.nil,.nil]) j bF26 j)<|q (oSt tF26 j j j (tkI (tkI (tkN (tkN tk0)))) j j j)<|nl)<|us<|gs<|?_
          obtain ⟨x91,hx91,h⟩:=bs h
          refine g1 j j (mk [(0,M 0),(2,M 2),(3,M 3)] [(0,Od (G 1 (u_S_l00Src x13.2))),(2,Oa [C (I 0),C (I 0),Z (W 2 e_S_Point ([]:List S_Point)),Z (W 2 e_S_Face ([]:List S_Face))]),(3,Oa [C (I 480),C (I 20),Z (W 2 e_S_Point ([]:List S_Point)),Z (W 2 e_S_Face ([]:List S_Face))])]) (q (oMv j j)<|q (oCa (xs:=[.v false [.mp 0 0 0],.v false [.im 0 _]]) (vs:=[(false,[.im 0 _])]) (v:=.v false [.im 0 _]) (L_spec_l00Src_pick hx91) (.inl j) j kF106_74_2 j (ppP j j j (ppC j pp0)) j j (pbP j j pb0) j j j)<|q (oBi j j j j)<|q (oAsI j j)<|nl)<|us<|gs<|g1 j j (mk [(2,M 2),(3,M 3),(5,iv (w64 (23+x91.1)))] [(0,Od (G 1 (u_S_l00Src x91.2))),(2,Oa [C (I 0),C (I 0),Z (W 2 e_S_Point ([]:List S_Point)),Z (W 2 e_S_Face ([]:List S_Face))]),(3,Oa [C (I 480),C (I 20),Z (W 2 e_S_Point ([]:List S_Point)),Z (W 2 e_S_Face ([]:List S_Face))])]) (q (oAsI j j)<|nl)<|us<|Go.block<|?_
          obtain ⟨o,hl,h⟩:=bs h
          refine gl c60 j _ (fun (s:(Int×(List S_Point)×(List S_Face)))=>match s with | (k_6_l22,d_o3_2_l22,d_o3_3_l22)=>mk [(2,M 2),(3,M 3),(5,iv (w64 (23+x91.1))),(6,iv k_6_l22)] [(0,Od (G 1 (u_S_l00Src x91.2))),(2,Oa [C (I 0),C (I 0),Z (W 2 e_S_Point ([]:List S_Point)),Z (W 2 e_S_Face ([]:List S_Face))]),(3,Oa [C (I 480),C (I 20),Z (W 2 e_S_Point d_o3_2_l22),Z (W 2 e_S_Face d_o3_3_l22)])]) (fun (o:((List S_Point)×(List S_Face))) (p:Ex×St)=>match o with | (d_o3_2_e1_22,d_o3_3_e1_22)=>p.1= .exit 1∧p.2.norm ([2,3],[0,2,3])=mk [(2,M 2),(3,M 3)] [(0,Od (G 1 (u_S_l00Src x91.2))),(2,Oa [C (I 0),C (I 0),Z (W 2 e_S_Point ([]:List S_Point)),Z (W 2 e_S_Face ([]:List S_Face))]),(3,Oa [C (I 480),C (I 20),Z (W 2 e_S_Point d_o3_2_e1_22),Z (W 2 e_S_Face d_o3_3_e1_22)])]) hl (by kernel_rfl) ?_ ?_ ?_
          ·intro o p hp e
           obtain ⟨d_o3_2_e1_22,d_o3_3_e1_22⟩:=o
           exact nomatch (hp.1.symm.trans e)
          ·rintro ⟨k_6_l22,d_o3_2_l22,d_o3_3_l22⟩ o h
           unfold spec_l05Bent_l22 at h
           dsimp only at h
           refine gs<|gs<|g0 j j (q (oMv j j)<|q (oMv j j)<|q (oBi j j j j)<|nl)<|us<|gc h j iDec (fun hc27 h=>?_) fun hc27 h=>?_
           ·refine Go.skip<|us<|gs<|Go.join (fun st=>∃d_o3_3_r23,∃d_o3_2_r23,spec_l05Bent_k23 k_6_l22 d_o3_3_r23 d_o3_2_r23=some o∧st.norm ([2,3,5,6],[0,2,3])=mk [(2,M 2),(3,M 3),(5,iv (w64 (23+x91.1))),(6,iv k_6_l22)] [(0,Od (G 1 (u_S_l00Src x91.2))),(2,Oa [C (I 0),C (I 0),Z (W 2 e_S_Point ([]:List S_Point)),Z (W 2 e_S_Face ([]:List S_Face))]),(3,Oa [C (I 480),C (I 20),Z (W 2 e_S_Point d_o3_2_r23),Z (W 2 e_S_Face d_o3_3_r23)])]) ?_ ?_
            ·rintro st ⟨d_o3_3_r23,d_o3_2_r23,h,hst⟩
             unfold spec_l05Bent_k23 at h
             refine us<|g2 c60 j j hst (q (oMv j j)<|q (oBi j j j j)<|q (oAsI j j)<|nl)<|Unw.nil<|?_
             cases h
             exact ⟨j,(by kernel_rfl)⟩
            ·intro K29
             refine Go.block<|gs<|?_
             obtain ⟨x107,hx107,h⟩:=bs h
             refine g0 j j (q (oFA (r':=.mp 3 0 2) j fF26_2 j j)<|q (oLd (cs:=[.own 3 0 2]) j tF23 j j)<|q (oMv j j)<|q (oBi j j j j)<|q (oBu (cs:=[.im 0 _,.im 0 _]) j bF145 j)<|q (oMv j j)<|q (oBi j j j j)<|q (oBu (cs:=[.im 0 _,.im 0 _]) j bF145 j)<|q (oBS (es:=List.map e_S_Point ([(⟨(w64 (20*k_6_l22)),0⟩:S_Point),(⟨(w64 (20*k_6_l22)),10⟩:S_Point)]:List S_Point)) j sF23 j (ptC j (fxI (fxI fx0)) j (ptC j (fxI (fxI fx0)) j pt0)) (flat0 j fun _=>j))<|q (oApO (en:=e_S_Point) (M:=([(⟨(w64 (20*k_6_l22)),0⟩:S_Point),(⟨(w64 (20*k_6_l22)),10⟩:S_Point)]:List S_Point)) j hx107 j sF23 j j uF23 (.inl ⟨_,j⟩) j j j j (el_own j j) (flat0 j fun _=>j))<|q (oFA (r':=.mp 3 0 2) j fF26_2 j j)<|q (oSt tF23 j j j (tkO j j tk0) j j j)<|nl)<|us<|gs<|g1 j j (mk [(2,M 2),(3,M 3),(5,iv (w64 (23+x91.1))),(6,iv k_6_l22)] [(0,Od (G 1 (u_S_l00Src x91.2))),(2,Oa [C (I 0),C (I 0),Z (W 2 e_S_Point ([]:List S_Point)),Z (W 2 e_S_Face ([]:List S_Face))]),(3,Oa [C (I 480),C (I 20),Z (W 2 e_S_Point x107),Z (W 2 e_S_Face d_o3_3_l22)])]) (q (oMv j j)<|q (oBi j j j j)<|nl)<|us<|gc h j iDec (fun hc30 h=>?_) fun hc30 h=>?_
             ·obtain ⟨x118,hx118,h⟩:=bs h
              obtain ⟨x133,hx133,h⟩:=bs h
              exact g0 j j (q (oFA (r':=.mp 3 0 3) j fF26_3 j j)<|q (oLd (cs:=[.own 3 0 3]) j tF24 j j)<|q (oMv j j)<|q (oBi j j j j)<|q (oCvI j uF2 uF5 j)<|q (oBS (es:=List.map (eK .u8) ([(IntKind.wrap .u8 ((w64 (97+k_6_l22))))]:List Int)) j sF22 j (ptC j (fxI fx0) j pt0) (flat0 j fun _=>j))<|q (oCvB (l:=([(IntKind.wrap .u8 ((w64 (97+k_6_l22))))]:List Int)) j uF22 uF5 uF9 j (el_own j j))<|q (oCat j hx118 j j)<|q (oMv j j)<|q (oBi j j j j)<|q (oBi j j j j)<|q (oMv j j)<|q (oBi j j j j)<|q (oMv j j)<|q (oBi j j j j)<|q (oBi j j j j)<|q (oMv j j)<|q (oBi j j j j)<|q (oBi j j j j)<|q (oBS (es:=List.map eI ([(w64 ((w64 (2*k_6_l22)) - 2)),(w64 (2*k_6_l22)),(w64 ((w64 (2*k_6_l22))+1)),(w64 ((w64 (2*k_6_l22)) - 1))]:List Int)) j sF28 j (ptC j (fxI fx0) j (ptC j (fxI fx0) j (ptC j (fxI fx0) j (ptC j (fxI fx0) j pt0)))) (flat0 j fun _=>j))<|q (oBu (cs:=[.im 0 _,.own 130 0 0]) j bF139 j)<|q (oBS (es:=List.map e_S_Face ([(⟨x118,([(w64 ((w64 (2*k_6_l22)) - 2)),(w64 (2*k_6_l22)),(w64 ((w64 (2*k_6_l22))+1)),(w64 ((w64 (2*k_6_l22)) - 1))]:List Int)⟩:S_Face)]:List S_Face)) j sF24 j (ptC j (fxI (fxO j j fx0)) j pt0) (flat1 j))<|q (oApO (en:=e_S_Face) (M:=([(⟨x118,([(w64 ((w64 (2*k_6_l22)) - 2)),(w64 (2*k_6_l22)),(w64 ((w64 (2*k_6_l22))+1)),(w64 ((w64 (2*k_6_l22)) - 1))]:List Int)⟩:S_Face)]:List S_Face)) j hx133 j sF24 j j uF24 (.inl ⟨_,j⟩) j j j j (el_own j j) (flat1 j))<|q (oFA (r':=.mp 3 0 3) j fF26_3 j j)<|q (oSt tF24 j j j (tkO j j tk0) j j j)<|nl)<|Unw.blk<|K29 _ ⟨x133,x107,h,(by kernel_rfl)⟩
             ·exact Go.skip<|Unw.blk<|K29 _ ⟨d_o3_3_l22,x107,h,(by kernel_rfl)⟩
           ·refine Go.exit<|ux<|Unw.nil<|?_
            cases h
            exact ⟨j,(by kernel_rfl)⟩
          ·rintro ⟨e,st⟩ hp
           obtain ⟨d_o3_2_e1_22,d_o3_3_e1_22⟩:=o
           dsimp only at h
           obtain ⟨he,hst⟩:=hp
           obtain rfl:e= .exit 1:=he
           exact Unw.blkx<|Unw.blk<|K14 _ ⟨x91.2.code,x91.2.at_,x91.2.seed,480,20,d_o3_2_e1_22,d_o3_3_e1_22,h,hst⟩
         ·refine gs<|g0 j j (q (oBi j j j j)<|q (oAsI j j)<|nl)<|us<|gc h j iEq (fun hc31 h=>?_) fun hc31 h=>?_
          ·obtain ⟨x143,hx143,h⟩:=bs h
           obtain ⟨x144,hx144,h⟩:=bs h
           obtain ⟨x148,hx148,h⟩:=bs h
           obtain ⟨x150,hx150,h⟩:=bs h
           exact gd c60 j j j j (mk [(2,M 2),(3,M 3)] [(0,Od (G 1 (u_S_l00Src x148.2))),(2,Oa [C (I 0),C (I 0),Z (W 2 e_S_Point ([]:List S_Point)),Z (W 2 e_S_Face ([]:List S_Face))]),(3,Oa [C (I x8.1.Width),C (I x8.1.Height),Z (W 2 e_S_Point (x8.1.Points.set x143.1.toNat (⟨(w64 (x144.X+x148.1)),x150.Y⟩:S_Point))),Z (W 2 e_S_Face x8.1.Faces)])]) (t j j (oMv j j)<|t j j (oFA (r':=.mp 3 0 2) j fF26_2 j j)<|t j j (oLd (cs:=[.own 3 0 2]) j tF23 j j)<|t j j (oLnO j j uF23 j j j (fun e=>nomatch e))<|t j j (oMv j j)<|sK (O:=[3]) j j j (dN z60 j (oFA (r':=.mp 3 0 2) j fF26_2 j j))<|sK (O:=[3]) j j j (dN z60 j (oLd (cs:=[.own 3 0 2]) j tF23 j j))<|sS (dN z60 j (oCa (xs:=[.v false [.mp 0 0 0],.v false [.im 0 _]]) (vs:=[(false,[.im 0 _])]) (v:=.v false [.im 0 _]) (L_spec_l00Src_pick hx143) (.inl j) j kF106_74_2 j (ppP j j j (ppC j pp0)) j j (pbP j j pb0) j j j)) (kY ⟨j,trivial⟩ (kY ⟨j,trivial⟩ trivial)) (sK (O:=[3]) j j j (dN z60 j (oIAO j hx144 sF23 j j j j))<|sK (O:=[3]) j j j (dN z60 j (oFA (r':=.mpe 3 0 2 _ 0) j fF145_0 j j))<|sK (O:=[3]) j j j (dN z60 j (oLdE (cs:=[.im 0 _]) j tF2 j j j j (rd_get hx144) j j))<|sS (dN z60 j (oCa (xs:=[.v false [.mp 0 0 0],.v false [.im 0 _]]) (vs:=[(false,[.im 0 _])]) (v:=.v false [.im 0 _]) (L_spec_l00Src_pick hx148) (.inl j) j kF106_74_2 j (ppP j j j (ppC j pp0)) j j (pbP j j pb0) j j j)) (kY ⟨j,trivial⟩ (kY ⟨j,trivial⟩ (kY ⟨j,trivial⟩ (kY ⟨j,trivial⟩ (kY ⟨j,trivial⟩ trivial))))) (t j j (oBi j j j j)<|t j j (oIAO j hx150 sF23 j j j j)<|t j j (oFA (r':=.mpe 3 0 2 _ 0) j fF145_0 j j)<|sS (dN z60 j (oStE (v':=(⟨(w64 (x144.X+x148.1)),x150.Y⟩:S_Point)) tF2 j j j (fxI fx0) j j (rd_get hx150) j)) (kN j (kN j (kN j (kN j (kN j trivial))))) (sD (by kernel_rfl)))))<|Unw.blk<|K14 _ ⟨x148.2.code,x148.2.at_,x148.2.seed,x8.1.Width,x8.1.Height,(x8.1.Points.set x143.1.toNat (⟨(w64 (x144.X+x148.1)),x150.Y⟩:S_Point)),x8.1.Faces,h,(by kernel_rfl)⟩
          ·exact Go.skip<|Unw.blk<|K14 _ ⟨x13.2.code,x13.2.at_,x13.2.seed,x8.1.Width,x8.1.Height,x8.1.Points,x8.1.Faces,h,(by kernel_rfl)⟩
theorem L_spec_l23Draw {s_0:S_l00Src} {r:(S_Drawing×S_l00Src)} (h:spec_l23Draw s_0=some r):FX 40 [.ptr true [(.imm,W 1 (eK .u8) s_0.code),(.imm,I s_0.at_),(.imm,.sc (.int .u64 s_0.seed))]] ([(true,[.im 0 (I r.1.Width),.im 0 (I r.1.Height),.ow 0 2 (List.map e_S_Point r.1.Points),.ow 0 2 (List.map e_S_Face r.1.Faces)])],[.ptr true [(.imm,W 1 (eK .u8) r.2.code),(.imm,I r.2.at_),(.imm,.sc (.int .u64 r.2.seed))]]):=by
 unfold spec_l23Draw at h
 refine FL_goS (A:=[(0,M 0)]) (B:=[(0,Od (G 1 (u_S_l00Src s_0)))]) (nt:=9) rfl rfl Try.func40 rfl rfl rfl rfl ?_
 refine gs<|g0 j j (q (oAl j tF26 (tkI (tkI (tkN (tkN tk0)))))<|nl)<|us<|gs<|gs<|?_
 obtain ⟨x4,hx4,h⟩:=bs h
 refine g0 j j (q (oMv j j)<|q (oCa (xs:=[.v false [.mp 0 0 0],.v false [.im 0 _]]) (vs:=[(false,[.im 0 _])]) (v:=.v false [.im 0 _]) (L_spec_l00Src_one hx4) (.inl j) j kF83_74_2 j (ppP j j j (ppC j pp0)) j j (pbP j j pb0) j j j)<|nl)<|us<|gc h j iR (fun hc1 h=>?_) fun hc1 h=>?_
 ·refine gs<|?_
  obtain ⟨x6,hx6,h⟩:=bs h
  refine g1 j j (mk [(0,M 0),(2,M 2)] [(0,Od (G 1 (u_S_l00Src x4.2))),(2,Oa [C (I 0),C (I 0),Z (W 2 e_S_Point ([]:List S_Point)),Z (W 2 e_S_Face ([]:List S_Face))])]) (q (oMv j j)<|q (oCr (xs:=[.v false [.mp 0 0 0]]) (vs:=[(true,[.im 0 _,.im 0 _,.own 6 0 0,.own 6 0 1])]) (v:=.v true [.im 0 _,.im 0 _,.own 6 0 0,.own 6 0 1]) (c:=⟨.sh,0,_⟩) (cs:=[⟨.sh,0,_⟩]) (L_spec_l23Ring hx6) (.inl j) j kF84_74 j (ppP j j j pp0) j j (pbP j j pb0) j j j)<|q (oSt tF26 j j j (tkI (tkI (tkO j j (tkO j j tk0)))) j j j)<|nl)<|us<|Go.ret (Unw.ret ?_)
  cases h
  exact fr rF40 j
 ·refine Go.skip<|us<|gs<|?_
  obtain ⟨x8,hx8,h⟩:=bs h
  refine g1 j j (mk [(0,M 0),(2,M 2)] [(0,Od (G 1 (u_S_l00Src x4.2))),(2,Oa [C (I 0),C (I 0),Z (W 2 e_S_Point ([]:List S_Point)),Z (W 2 e_S_Face ([]:List S_Face))])]) (q (oMv j j)<|q (oCr (xs:=[.v false [.mp 0 0 0]]) (vs:=[(true,[.im 0 _,.im 0 _,.own 8 0 0,.own 8 0 1])]) (v:=.v true [.im 0 _,.im 0 _,.own 8 0 0,.own 8 0 1]) (c:=⟨.sh,0,_⟩) (cs:=[⟨.sh,0,_⟩]) (L_spec_l05Bent hx8) (.inl j) j kF60_74 j (ppP j j j pp0) j j (pbP j j pb0) j j j)<|q (oSt tF26 j j j (tkI (tkI (tkO j j (tkO j j tk0)))) j j j)<|nl)<|us<|Go.ret (Unw.ret ?_)
  cases h
  exact fr rF40 j
theorem L_spec_l00In {n_0:Int} {low_1:Int} {high_2:Int} {r:Bool} (h:spec_l00In n_0 low_1 high_2=some r):FX 85 [.im 2 false [I n_0],.im 2 false [I low_1],.im 2 false [I high_2]] (B0 [(false,[.im 0 (V r)])]):=by
 unfold spec_l00In at h
 refine gn 15 Try.func85 rfl ?_
 refine gs<|g0 j j (q (oAsI j j)<|nl)<|us<|gs<|gX c85 j j j (mk [(6,bv ((decide (n_0≥low_1))&&(decide (n_0≤high_2))))] []) ?_ ?_
 ·refine xq (oMv j j)<|xq (oMv j j)<|xq (oBi j j j j)<|xq (oMv j j)<|?_
  by_cases hc1:n_0≥low_1
  ·exact xqT rfl rfl (iDec.2 hc1) (oMv rfl rfl)<|xqT rfl rfl (iDec.2 hc1) (oMv rfl rfl)<|xqT rfl rfl (iDec.2 hc1) (oBi rfl rfl rfl rfl)<|xq (oPkT rfl rfl (iDec.2 hc1) rfl)<|xq (oAsI rfl rfl)<|xn (Eq.trans (b:=(fun t_6_m1:Bool=>mk [(6,bv t_6_m1)] []) (decide (n_0≤high_2))) (by kernel_rfl) (congrArg (fun t_6_m1:Bool=>mk [(6,bv t_6_m1)] []) (by first | rfl | (simp [(iDec.2 hc1)];done) | (simp [(iDec.2 hc1)];omega))))
  ·exact xsgF rfl rfl (byF iDec hc1) rfl<|xsgF rfl rfl (byF iDec hc1) rfl<|xsgF rfl rfl (byF iDec hc1) rfl<|xq (oPkF rfl rfl (byF iDec hc1) rfl)<|xq (oAsI rfl rfl)<|xn (Eq.trans (b:=(fun t_6_m1:Bool=>mk [(6,bv t_6_m1)] []) false) (by kernel_rfl) (congrArg (fun t_6_m1:Bool=>mk [(6,bv t_6_m1)] []) (by first | rfl | (simp [(byF iDec hc1)];done) | (simp [(byF iDec hc1)];omega))))
 ·refine us<|Go.ret (Unw.ret ?_)
  cases h
  exact fr rF85 j
theorem L_spec_l05Points {d_0:S_Drawing} {r:Bool} (h:spec_l05Points d_0=some r):FX 86 [.im 2 false [.cp (u_S_Drawing d_0) 0]] (B0 [(false,[.im 0 (V r)])]):=by
 unfold spec_l05Points at h
 refine gn 70 Try.func86 rfl ?_
 refine gs<|g0 j j (q (oAsI j j)<|nl)<|us<|gs<|gs<|g0 j j (q (oMv j j)<|q (oNl j j j)<|q (oFA (r':=.im 2 _) j fF26_2 j j)<|q (oLd (cs:=[.im 2 _]) j tF23 j j)<|q (oLnI j j uF23 j)<|q (oBi j j j j)<|nl)<|us<|gc h j iDec (fun hc1 h=>?_) fun hc1 h=>?_
 ·refine gs<|g0 j j (q (oAsI j j)<|nl)<|us<|Go.ret (Unw.ret ?_)
  cases h
  exact fr rF86 j
 ·refine Go.skip<|us<|gs<|gs<|g0 j j (q (oAsI j j)<|nl)<|us<|Go.block<|?_
  obtain ⟨o,hl,h⟩:=bs h
  refine gl c86 j _ (fun (i_3_l4:Int)=>mk [(0,D 2 (.cp (u_S_Drawing d_0) 0)),(3,iv i_3_l4)] []) (fun (o:(Unit ⊕ Bool)) (p:Ex×St)=>match o with | (.inl _)=>p.1= .exit 0∧p.2.norm ([],[])=mk [] [] | (.inr r2)=>p.1= .ret∧fin Try.prog cfg 86 Try.f86 [.im 2 false [.cp (u_S_Drawing d_0) 0]] p.2=some (B0 [(false,[.im 0 (V r2)])])) hl (by kernel_rfl) ?_ ?_ ?_
  ·intro o p hp e
   rcases o with u | r2<;>exact nomatch (hp.1.symm.trans e)
  ·rintro i_3_l4 o h
   unfold spec_l05Points_l4 at h
   refine gs<|gs<|g0 j j (q (oMv j j)<|q (oMv j j)<|q (oNl j j j)<|q (oFA (r':=.im 2 _) j fF26_2 j j)<|q (oLd (cs:=[.im 2 _]) j tF23 j j)<|q (oLnI j j uF23 j)<|q (oBi j j j j)<|nl)<|us<|gc h j iDec (fun hc18 h=>?_) fun hc18 h=>?_
   ·refine Go.skip<|us<|gs<|Go.block<|gs<|gs<|?_
    obtain ⟨x25,hx25,h⟩:=bs h
    obtain ⟨x32,hx32,h⟩:=bs h
    obtain ⟨t_49_m6,hm27,h⟩:=bs h
    refine gd c86 j j j j (mk [(0,D 2 (.cp (u_S_Drawing d_0) 0)),(3,iv i_3_l4),(49,bv t_49_m6)] []) ?_ ?_
    ·refine t j j (oMv j j)<|t j j (oNl j j j)<|t j j (oFA (r':=.im 2 _) j fF26_2 j j)<|t j j (oLd (cs:=[.im 2 _]) j tF23 j j)<|t j j (oMv j j)<|t j j (oIAI j hx25 sF23 j j)<|t j j (oFA (r':=.im 2 _) j fF145_0 j j)<|t j j (oLd (cs:=[.im 2 _]) j tF2 j j)<|t j j (oMv j j)<|t j j (oNl j j j)<|t j j (oFA (r':=.im 2 _) j fF26_0 j j)<|?_
     refine ic hm27 (fun hc19 hm27=>?_) fun hc19 hm27=>?_
     ·obtain ⟨x40,hx40,hm27⟩:=bs hm27
      obtain ⟨x47,hx47,hm27⟩:=bs hm27
      cases hm27
      exact t j j (oLd (cs:=[.im 2 _]) j tF2 j j)<|sS (dN z86 j (oCa (xs:=[.v false [.im 2 _],.v false [.im 0 _],.v false [.im 2 _]]) (vs:=[(false,[.im 0 _])]) (v:=.v false [.im 0 _]) (L_spec_l00In hx32) (.inl j) j kF85_2_2_2 j (ppC j (ppC j (ppC j pp0))) j j pb0 j j j)) trivial (t j j (oUn j j j)<|t j j (oMv j j)<|tT j j j j (nF (iR.2 hc19)) (oMv j j)<|tT j j j j (nF (iR.2 hc19)) (oNl j j j)<|tT j j j j (nF (iR.2 hc19)) (oFA (r':=.im 2 _) j fF26_2 j j)<|tT j j j j (nF (iR.2 hc19)) (oLd (cs:=[.im 2 _]) j tF23 j j)<|tT j j j j (nF (iR.2 hc19)) (oMv j j)<|tT j j j j (nF (iR.2 hc19)) (oIAI j hx40 sF23 j j)<|tT j j j j (nF (iR.2 hc19)) (oFA (r':=.im 2 _) j fF145_1 j j)<|tT j j j j (nF (iR.2 hc19)) (oLd (cs:=[.im 2 _]) j tF2 j j)<|tT j j j j (nF (iR.2 hc19)) (oMv j j)<|tT j j j j (nF (iR.2 hc19)) (oNl j j j)<|tT j j j j (nF (iR.2 hc19)) (oFA (r':=.im 2 _) j fF26_1 j j)<|tT j j j j (nF (iR.2 hc19)) (oLd (cs:=[.im 2 _]) j tF2 j j)<|sS (dT z86 j j j (nF (iR.2 hc19)) (oCa (xs:=[.v false [.im 2 _],.v false [.im 0 _],.v false [.im 2 _]]) (vs:=[(false,[.im 0 _])]) (v:=.v false [.im 0 _]) (L_spec_l00In hx47) (.inl j) j kF85_2_2_2 j (ppC j (ppC j (ppC j pp0))) j j pb0 j j j)) trivial (tT j j j j (nF (iR.2 hc19)) (oUn j j j)<|t j j (oPkF j j (nF (iR.2 hc19)) j)<|sD (by kernel_rfl)))
     ·cases hm27
      exact t j j (oLd (cs:=[.im 2 _]) j tF2 j j)<|sS (dN z86 j (oCa (xs:=[.v false [.im 2 _],.v false [.im 0 _],.v false [.im 2 _]]) (vs:=[(false,[.im 0 _])]) (v:=.v false [.im 0 _]) (L_spec_l00In hx32) (.inl j) j kF85_2_2_2 j (ppC j (ppC j (ppC j pp0))) j j pb0 j j j)) trivial (t j j (oUn j j j)<|t j j (oMv j j)<|tF j j j j (nT (byF iR hc19)) j<|tF j j j j (nT (byF iR hc19)) j<|tF j j j j (nT (byF iR hc19)) j<|tF j j j j (nT (byF iR hc19)) j<|tF j j j j (nT (byF iR hc19)) j<|tF j j j j (nT (byF iR hc19)) j<|tF j j j j (nT (byF iR hc19)) j<|tF j j j j (nT (byF iR hc19)) j<|tF j j j j (nT (byF iR hc19)) j<|tF j j j j (nT (byF iR hc19)) j<|tF j j j j (nT (byF iR hc19)) j<|tF j j j j (nT (byF iR hc19)) j<|sS (dF j j j (nT (byF iR hc19)) j) trivial (tF j j j j (nT (byF iR hc19)) j<|t j j (oPkT j j (nT (byF iR hc19)) j)<|sD (by kernel_rfl)))
    ·refine us<|gc h j iR (fun hc20 h=>?_) fun hc20 h=>?_
     ·refine gs<|g0 j j (q (oAsI j j)<|nl)<|us<|Go.ret (Unw.ret ?_)
      cases h
      exact ⟨j,(fo rF86 j)⟩
     ·refine Go.skip<|us<|gs<|g0 j j (q (oAsI j j)<|nl)<|us<|Go.block<|?_
      obtain ⟨o,hl,h⟩:=bs h
      refine gl c86 j _ (fun (k_4_l9:Int)=>mk [(0,D 2 (.cp (u_S_Drawing d_0) 0)),(3,iv i_3_l4),(4,iv k_4_l9)] []) (fun (o:(Unit ⊕ Bool)) (p:Ex×St)=>match o with | (.inl _)=>p.1= .exit 2∧p.2.norm ([0,3],[])=mk [(0,D 2 (.cp (u_S_Drawing d_0) 0)),(3,iv i_3_l4)] [] | (.inr r2)=>p.1= .ret∧fin Try.prog cfg 86 Try.f86 [.im 2 false [.cp (u_S_Drawing d_0) 0]] p.2=some (B0 [(false,[.im 0 (V r2)])])) hl (by kernel_rfl) ?_ ?_ ?_
      ·intro o p hp e
       rcases o with u | r2<;>exact nomatch (hp.1.symm.trans e)
      ·rintro k_4_l9 o h
       unfold spec_l05Points_l9 at h
       refine gs<|gs<|g0 j j (q (oMv j j)<|q (oMv j j)<|q (oBi j j j j)<|nl)<|us<|gc h j iDec (fun hc25 h=>?_) fun hc25 h=>?_
       ·refine Go.skip<|us<|gs<|Go.block<|gs<|?_
        obtain ⟨x60,hx60,h⟩:=bs h
        obtain ⟨x67,hx67,h⟩:=bs h
        refine gd c86 j j j j (mk [(0,D 2 (.cp (u_S_Drawing d_0) 0)),(3,iv i_3_l4),(4,iv k_4_l9),(69,bv ((x60.X==x67.X)&&(x60.Y==x67.Y)))] []) (t j j (oMv j j)<|t j j (oNl j j j)<|t j j (oFA (r':=.im 2 _) j fF26_2 j j)<|t j j (oLd (cs:=[.im 2 _]) j tF23 j j)<|t j j (oMv j j)<|t j j (oIAI j hx60 sF23 j j)<|t j j (oLd (cs:=[.im 2 _,.im 2 _]) j tF145 j j)<|t j j (oMv j j)<|t j j (oNl j j j)<|t j j (oFA (r':=.im 2 _) j fF26_2 j j)<|t j j (oLd (cs:=[.im 2 _]) j tF23 j j)<|t j j (oMv j j)<|t j j (oIAI j hx67 sF23 j j)<|t j j (oLd (cs:=[.im 2 _,.im 2 _]) j tF145 j j)<|t j j (oBa j (qEF145 x60.X x60.Y x67.X x67.Y) j j j j)<|sD (by kernel_rfl))<|us<|gc h j (iAnd iEq iEq) (fun hc26 h=>?_) fun hc26 h=>?_
        ·refine gs<|g0 j j (q (oAsI j j)<|nl)<|us<|Go.ret (Unw.ret ?_)
         cases h
         exact ⟨j,(fo rF86 j)⟩
        ·refine Go.skip<|Unw.blk<|us<|g0 j j (q (oMv j j)<|q (oBi j j j j)<|q (oAsI j j)<|nl)<|Unw.nil<|?_
         cases h
         exact ⟨j,(by kernel_rfl)⟩
       ·refine Go.exit<|ux<|Unw.nil<|?_
        cases h
        exact ⟨j,(by kernel_rfl)⟩
      ·rintro ⟨e,st⟩ hp
       rcases o with u | r2
       ·dsimp only at h
        obtain ⟨he,hst⟩:=hp
        obtain rfl:e= .exit 2:=he
        refine Unw.blkx<|Unw.blk<|us<|g2 c86 j j hst (q (oMv j j)<|q (oBi j j j j)<|q (oAsI j j)<|nl)<|Unw.nil<|?_
        cases h
        exact ⟨j,(by kernel_rfl)⟩
       ·dsimp only at h
        obtain ⟨he,hfin⟩:=hp
        obtain rfl:e= .ret:=he
        cases h
        exact Unw.ret ⟨j,hfin⟩
   ·refine Go.exit<|ux<|Unw.nil<|?_
    cases h
    exact ⟨j,(by kernel_rfl)⟩
  ·rintro ⟨e,st⟩ hp
   rcases o with u | r2
   ·dsimp only at h
    obtain ⟨he,hst⟩:=hp
    obtain rfl:e= .exit 0:=he
    refine Unw.blkx<|us<|gs<|g2 c86 j j hst (q (oAsI j j)<|nl)<|us<|Go.ret (Unw.ret ?_)
    cases h
    exact fr rF86 j
   ·dsimp only at h
    obtain ⟨he,hfin⟩:=hp
    obtain rfl:e= .ret:=he
    cases h
    exact Unw.ret (Fin_ret hfin)
theorem L_spec_l01Small {c_0:Int} {r:Bool} (h:spec_l01Small c_0=some r):FX 143 [.im 2 false [.sc (.int .u8 c_0)]] (B0 [(false,[.im 0 (V r)])]):=by
 unfold spec_l01Small at h
 refine gn 9 Try.func143 rfl ?_
 refine gs<|g0 j j (q (oAsI j j)<|nl)<|us<|gs<|gX c143 j j j (mk [(2,bv ((decide (c_0≥97))&&(decide (c_0≤122))))] []) ?_ ?_
 ·refine xq (oMv j j)<|xq (oBi j j j j)<|xq (oMv j j)<|?_
  by_cases hc1:c_0≥97
  ·exact xqT rfl rfl (iDec.2 hc1) (oMv rfl rfl)<|xqT rfl rfl (iDec.2 hc1) (oBi rfl rfl rfl rfl)<|xq (oPkT rfl rfl (iDec.2 hc1) rfl)<|xq (oAsI rfl rfl)<|xn (Eq.trans (b:=(fun t_2_m1:Bool=>mk [(2,bv t_2_m1)] []) (decide (c_0≤122))) (by kernel_rfl) (congrArg (fun t_2_m1:Bool=>mk [(2,bv t_2_m1)] []) (by first | rfl | (simp [(iDec.2 hc1)];done) | (simp [(iDec.2 hc1)];omega))))
  ·exact xsgF rfl rfl (byF iDec hc1) rfl<|xsgF rfl rfl (byF iDec hc1) rfl<|xq (oPkF rfl rfl (byF iDec hc1) rfl)<|xq (oAsI rfl rfl)<|xn (Eq.trans (b:=(fun t_2_m1:Bool=>mk [(2,bv t_2_m1)] []) false) (by kernel_rfl) (congrArg (fun t_2_m1:Bool=>mk [(2,bv t_2_m1)] []) (by first | rfl | (simp [(byF iDec hc1)];done) | (simp [(byF iDec hc1)];omega))))
 ·refine us<|Go.ret (Unw.ret ?_)
  cases h
  exact fr rF143 j
theorem L_spec_l01Digit {c_0:Int} {r:Bool} (h:spec_l01Digit c_0=some r):FX 144 [.im 2 false [.sc (.int .u8 c_0)]] (B0 [(false,[.im 0 (V r)])]):=by
 unfold spec_l01Digit at h
 refine gn 9 Try.func144 rfl ?_
 refine gs<|g0 j j (q (oAsI j j)<|nl)<|us<|gs<|gX c144 j j j (mk [(2,bv ((decide (c_0≥48))&&(decide (c_0≤57))))] []) ?_ ?_
 ·refine xq (oMv j j)<|xq (oBi j j j j)<|xq (oMv j j)<|?_
  by_cases hc1:c_0≥48
  ·exact xqT rfl rfl (iDec.2 hc1) (oMv rfl rfl)<|xqT rfl rfl (iDec.2 hc1) (oBi rfl rfl rfl rfl)<|xq (oPkT rfl rfl (iDec.2 hc1) rfl)<|xq (oAsI rfl rfl)<|xn (Eq.trans (b:=(fun t_2_m1:Bool=>mk [(2,bv t_2_m1)] []) (decide (c_0≤57))) (by kernel_rfl) (congrArg (fun t_2_m1:Bool=>mk [(2,bv t_2_m1)] []) (by first | rfl | (simp [(iDec.2 hc1)];done) | (simp [(iDec.2 hc1)];omega))))
  ·exact xsgF rfl rfl (byF iDec hc1) rfl<|xsgF rfl rfl (byF iDec hc1) rfl<|xq (oPkF rfl rfl (byF iDec hc1) rfl)<|xq (oAsI rfl rfl)<|xn (Eq.trans (b:=(fun t_2_m1:Bool=>mk [(2,bv t_2_m1)] []) false) (by kernel_rfl) (congrArg (fun t_2_m1:Bool=>mk [(2,bv t_2_m1)] []) (by first | rfl | (simp [(byF iDec hc1)];done) | (simp [(byF iDec hc1)];omega))))
 ·refine us<|Go.ret (Unw.ret ?_)
  cases h
  exact fr rF144 j
theorem L_spec_l01Name {s_0:ByteArray} {r:Bool} (h:spec_l01Name s_0=some r):FX 87 [.im 2 false [Y s_0]] (B0 [(false,[.im 0 (V r)])]):=by
 unfold spec_l01Name at h
 refine gn 35 Try.func87 rfl ?_
 refine gs<|g0 j j (q (oAsI j j)<|nl)<|us<|gs<|gs<|?_
 obtain ⟨t_16_m1,hm16,h⟩:=bs h
 refine gX c87 j j j (mk [(0,sv s_0),(16,bv t_16_m1)] []) ?_ ?_
 ·refine xq (oMv j j)<|xq (oBi j j j j)<|xq (oMv j j)<|?_
  refine ic hm16 (fun hc1 hm16=>?_) fun hc1 hm16=>?_
  ·cases hm16
   exact xsgF j j (iStr.2 hc1) j<|xsgF j j (iStr.2 hc1) j<|xsgF j j (iStr.2 hc1) j<|xq (oPkT j j (iStr.2 hc1) j)<|xq (oMv j j)<|xsgF j j j j<|xsgF j j j j<|xsgF j j j j<|xsgF j j j j<|xq (oPkT j j j j)<|xn
  ·refine xqT j j (byF iStr hc1) (oMv j j)<|xqT j j (byF iStr hc1) (oLnS j j uF9 j)<|xqT j j (byF iStr hc1) (oBi j j j j)<|xq (oPkF j j (byF iStr hc1) j)<|xq (oMv j j)<|?_
   refine ic hm16 (fun hc2 hm16=>?_) fun hc2 hm16=>?_
   ·cases hm16
    exact xsgF j j (iDec.2 hc2) j<|xsgF j j (iDec.2 hc2) j<|xsgF j j (iDec.2 hc2) j<|xsgF j j (iDec.2 hc2) j<|xq (oPkT j j (iDec.2 hc2) j)<|xn
   ·obtain ⟨x13,hx13,hm16⟩:=bs hm16
    obtain ⟨x14,hx14,hm16⟩:=bs hm16
    cases hm16
    exact xqT j j (byF iDec hc2) (oMv j j)<|xqT j j (byF iDec hc2) (oIx j hx13 uF9 j j)<|xqT j j (byF iDec hc2) (oCa (xs:=[.v false [.im 0 _]]) (vs:=[(false,[.im 0 _])]) (v:=.v false [.im 0 _]) (L_spec_l01Small hx14) (.inl j) j kF143_5 j (ppC j pp0) j j pb0 j j j)<|xqT j j (byF iDec hc2) (oUn j j j)<|xq (oPkF j j (byF iDec hc2) j)<|xn
 ·refine us<|gc h j iR (fun hc3 h=>?_) fun hc3 h=>?_
  ·refine gs<|g0 j j (q (oAsI j j)<|nl)<|us<|Go.ret (Unw.ret ?_)
   cases h
   exact fr rF87 j
  ·refine Go.skip<|us<|gs<|gs<|g0 j j (q (oAsI j j)<|nl)<|us<|Go.block<|?_
   obtain ⟨o,hl,h⟩:=bs h
   refine gl c87 j _ (fun (i_3_l4:Int)=>mk [(0,sv s_0),(3,iv i_3_l4)] []) (fun (o:(Unit ⊕ Bool)) (p:Ex×St)=>match o with | (.inl _)=>p.1= .exit 0∧p.2.norm ([],[])=mk [] [] | (.inr r2)=>p.1= .ret∧fin Try.prog cfg 87 Try.f87 [.im 2 false [Y s_0]] p.2=some (B0 [(false,[.im 0 (V r2)])])) hl (by kernel_rfl) ?_ ?_ ?_
   ·intro o p hp e
    rcases o with u | r2<;>exact nomatch (hp.1.symm.trans e)
   ·rintro i_3_l4 o h
    unfold spec_l01Name_l4 at h
    refine gs<|gs<|g0 j j (q (oMv j j)<|q (oMv j j)<|q (oLnS j j uF9 j)<|q (oBi j j j j)<|nl)<|us<|gc h j iDec (fun hc12 h=>?_) fun hc12 h=>?_
    ·refine Go.skip<|us<|gs<|Go.block<|gs<|?_
     obtain ⟨x25,hx25,h⟩:=bs h
     obtain ⟨x26,hx26,h⟩:=bs h
     obtain ⟨t_34_m6,hm15,h⟩:=bs h
     refine gX c87 j j j (mk [(0,sv s_0),(3,iv i_3_l4),(34,bv t_34_m6)] []) ?_ ?_
     ·refine xq (oMv j j)<|xq (oMv j j)<|xq (oIx j hx25 uF9 j j)<|xq (oCa (xs:=[.v false [.im 0 _]]) (vs:=[(false,[.im 0 _])]) (v:=.v false [.im 0 _]) (L_spec_l01Small hx26) (.inl j) j kF143_5 j (ppC j pp0) j j pb0 j j j)<|xq (oUn j j j)<|xq (oMv j j)<|?_
      refine ic hm15 (fun hc13 hm15=>?_) fun hc13 hm15=>?_
      ·cases hm15
       exact xsgF j j (nF (iR.2 hc13)) j<|xsgF j j (nF (iR.2 hc13)) j<|xsgF j j (nF (iR.2 hc13)) j<|xsgF j j (nF (iR.2 hc13)) j<|xsgF j j (nF (iR.2 hc13)) j<|xq (oPkF j j (nF (iR.2 hc13)) j)<|xn
      ·obtain ⟨x31,hx31,hm15⟩:=bs hm15
       obtain ⟨x32,hx32,hm15⟩:=bs hm15
       cases hm15
       exact xqT j j (nT (byF iR hc13)) (oMv j j)<|xqT j j (nT (byF iR hc13)) (oMv j j)<|xqT j j (nT (byF iR hc13)) (oIx j hx31 uF9 j j)<|xqT j j (nT (byF iR hc13)) (oCa (xs:=[.v false [.im 0 _]]) (vs:=[(false,[.im 0 _])]) (v:=.v false [.im 0 _]) (L_spec_l01Digit hx32) (.inl j) j kF144_5 j (ppC j pp0) j j pb0 j j j)<|xqT j j (nT (byF iR hc13)) (oUn j j j)<|xq (oPkT j j (nT (byF iR hc13)) j)<|xn
     ·refine us<|gc h j iR (fun hc14 h=>?_) fun hc14 h=>?_
      ·refine gs<|g0 j j (q (oAsI j j)<|nl)<|us<|Go.ret (Unw.ret ?_)
       cases h
       exact ⟨j,(fo rF87 j)⟩
      ·refine Go.skip<|Unw.blk<|us<|g0 j j (q (oMv j j)<|q (oBi j j j j)<|q (oAsI j j)<|nl)<|Unw.nil<|?_
       cases h
       exact ⟨j,(by kernel_rfl)⟩
    ·refine Go.exit<|ux<|Unw.nil<|?_
     cases h
     exact ⟨j,(by kernel_rfl)⟩
   ·rintro ⟨e,st⟩ hp
    rcases o with u | r2
    ·dsimp only at h
     obtain ⟨he,hst⟩:=hp
     obtain rfl:e= .exit 0:=he
     refine Unw.blkx<|us<|gs<|g2 c87 j j hst (q (oAsI j j)<|nl)<|us<|Go.ret (Unw.ret ?_)
     cases h
     exact fr rF87 j
    ·dsimp only at h
     obtain ⟨he,hfin⟩:=hp
     obtain rfl:e= .ret:=he
     cases h
     exact Unw.ret (Fin_ret hfin)
theorem L_spec_l05Ring {d_0:S_Drawing} {ring_1:(List Int)} {r:((List S_Point)×Bool)} (h:spec_l05Ring d_0 ring_1=some r):FX 88 [.im 2 false [.cp (u_S_Drawing d_0) 0],.im 2 false [W 1 eI ring_1]] (B0 [(false,[.ow 0 2 (List.map e_S_Point r.1)]),(false,[.im 0 (V r.2)])]):=by
 unfold spec_l05Ring at h
 refine gn 41 Try.func88 rfl ?_
 refine gs<|g0 j j (q (oAsN j j eF23)<|q (oAsI j j)<|nl)<|us<|gs<|g0 j j (q (oBS (es:=List.map e_S_Point ([]:List S_Point)) j sF23 j pt0 (flat0 j fun _=>j))<|q (oAsO j j j j j)<|nl)<|us<|gs<|gs<|g0 j j (q (oAsI j j)<|nl)<|us<|Go.block<|?_
 obtain ⟨o,hl,h⟩:=bs h
 refine gl c88 j _ (fun (s:(Int×(List S_Point)))=>match s with | (i_7_l3,out_o6_l3)=>mk [(0,D 2 (.cp (u_S_Drawing d_0) 0)),(1,D 2 (W 1 eI ring_1)),(6,H 6 0),(7,iv i_7_l3)] [(6,Oc [Z (W 2 e_S_Point out_o6_l3)])]) (fun (o:((List S_Point) ⊕ ((List S_Point)×Bool))) (p:Ex×St)=>match o with | (.inl out_o6_e0_3)=>p.1= .exit 0∧p.2.norm ([6],[6])=mk [(6,H 6 0)] [(6,Oc [Z (W 2 e_S_Point out_o6_e0_3)])] | (.inr r2)=>p.1= .ret∧fin Try.prog cfg 88 Try.f88 [.im 2 false [.cp (u_S_Drawing d_0) 0],.im 2 false [W 1 eI ring_1]] p.2=some (B0 [(false,[.ow 0 2 (List.map e_S_Point r2.1)]),(false,[.im 0 (V r2.2)])])) hl (by kernel_rfl) ?_ ?_ ?_
 ·intro o p hp e
  rcases o with out_o6_e0_3 | r2<;>exact nomatch (hp.1.symm.trans e)
 ·rintro ⟨i_7_l3,out_o6_l3⟩ o h
  unfold spec_l05Ring_l3 at h
  dsimp only at h
  refine gs<|gs<|g0 j j (q (oMv j j)<|q (oMv j j)<|q (oLnI j j uF28 j)<|q (oBi j j j j)<|nl)<|us<|gc h j iDec (fun hc5 h=>?_) fun hc5 h=>?_
  ·refine Go.skip<|us<|gs<|Go.block<|gs<|gs<|?_
   obtain ⟨x17,hx17,h⟩:=bs h
   obtain ⟨x25,hx25,h⟩:=bs h
   refine gd c88 j j j j (mk [(0,D 2 (.cp (u_S_Drawing d_0) 0)),(1,D 2 (W 1 eI ring_1)),(6,H 6 0),(7,iv i_7_l3),(26,bv (!x25))] [(6,Oc [Z (W 2 e_S_Point out_o6_l3)])]) (t j j (oMv j j)<|t j j (oMv j j)<|t j j (oIAI j hx17 sF28 j j)<|t j j (oLd (cs:=[.im 2 _]) j tF2 j j)<|t j j (oMv j j)<|t j j (oNl j j j)<|t j j (oFA (r':=.im 2 _) j fF26_2 j j)<|t j j (oLd (cs:=[.im 2 _]) j tF23 j j)<|t j j (oLnI j j uF23 j)<|t j j (oBi j j j j)<|sS (dN z88 j (oCa (xs:=[.v false [.im 2 _],.v false [.im 0 _],.v false [.im 0 _]]) (vs:=[(false,[.im 0 _])]) (v:=.v false [.im 0 _]) (L_spec_l00In hx25) (.inl j) j kF85_2_2_2 j (ppC j (ppC j (ppC j pp0))) j j pb0 j j j)) trivial (t j j (oUn j j j)<|sD (by kernel_rfl)))<|us<|?_
   by_cases hc6:x25=true
   ·rw [if_pos hc6] at h
    refine gF j (nF (iR.2 hc6))<|Go.skip<|us<|?_
    obtain ⟨x34,hx34,h⟩:=bs h
    obtain ⟨x36,hx36,h⟩:=bs h
    obtain ⟨x39,hx39,h⟩:=bs h
    refine gd c88 j j j j (mk [(0,D 2 (.cp (u_S_Drawing d_0) 0)),(1,D 2 (W 1 eI ring_1)),(6,H 6 0),(7,iv i_7_l3)] [(6,Oc [Z (W 2 e_S_Point x39)])]) (t j j (oMv j j)<|t j j (oMv j j)<|t j j (oNl j j j)<|t j j (oFA (r':=.im 2 _) j fF26_2 j j)<|t j j (oLd (cs:=[.im 2 _]) j tF23 j j)<|t j j (oMv j j)<|t j j (oMv j j)<|t j j (oIAI j hx34 sF28 j j)<|t j j (oLd (cs:=[.im 2 _]) j tF2 j j)<|t j j (oIAI j hx36 sF23 j j)<|t j j (oLd (cs:=[.im 2 _,.im 2 _]) j tF145 j j)<|sS (dN z88 j (oBS (es:=List.map e_S_Point ([x36]:List S_Point)) j sF23 j (ptC j (fxI (fxI fx0)) j pt0) (flat0 j fun _=>j))) trivial (sS (dN z88 j (oApO (en:=e_S_Point) (M:=([x36]:List S_Point)) j hx39 j sF23 j j uF23 (.inl ⟨_,j⟩) j j j j (el_own j j) (flat0 j fun _=>j))) trivial (sS (dN z88 j (oAsO j j j j j)) trivial (sD (by kernel_rfl)))))<|Unw.blk<|us<|g0 j j (q (oMv j j)<|q (oBi j j j j)<|q (oAsI j j)<|nl)<|Unw.nil<|?_
    cases h
    exact ⟨j,(by kernel_rfl)⟩
   ·rw [if_neg hc6] at h
    refine gT j (nT (byF iR hc6))<|gs<|g0 j j (q (oAsN j j eF23)<|q (oAsI j j)<|nl)<|us<|Go.ret (Unw.ret ?_)
    cases h
    exact ⟨j,(fo rF88 j)⟩
  ·refine Go.exit<|ux<|Unw.nil<|?_
   cases h
   exact ⟨j,(by kernel_rfl)⟩
 ·rintro ⟨e,st⟩ hp
  rcases o with out_o6_e0_3 | r2
  ·dsimp only at h
   obtain ⟨he,hst⟩:=hp
   obtain rfl:e= .exit 0:=he
   refine Unw.blkx<|us<|gs<|g2 c88 j j hst (q (oMv j j)<|q (oAsO j j j j j)<|q (oAsI j j)<|nl)<|us<|Go.ret (Unw.ret ?_)
   cases h
   exact fr rF88 j
  ·dsimp only at h
   obtain ⟨he,hfin⟩:=hp
   obtain rfl:e= .ret:=he
   cases h
   exact Unw.ret (Fin_ret hfin)
theorem L_spec_l02Ok {p_0:S_Point} {r:Bool} (h:spec_l02Ok p_0=some r):FX 145 [.im 2 true (u_S_Point p_0)] (B0 [(false,[.im 0 (V r)])]):=by
 unfold spec_l02Ok at h
 refine gn 11 Try.func145 rfl ?_
 refine gs<|g0 j j (q (oBx j tF145 j (tkI (tkI tk0)))<|q (oAsI j j)<|nl)<|us<|gs<|?_
 obtain ⟨x5,hx5,h⟩:=bs h
 obtain ⟨t_2_m1,hm2,h⟩:=bs h
 refine gX c145 j j j (mk [(2,bv t_2_m1)] []) ?_ ?_
 ·refine xq (oFA (r':=.mp 1 0 0) j fF145_0 j j)<|xq (oLd (cs:=[.im 0 _]) j tF2 j j)<|xq (oCa (xs:=[.v false [.im 0 _],.v false [.im 0 _],.v false [.im 0 _]]) (vs:=[(false,[.im 0 _])]) (v:=.v false [.im 0 _]) (L_spec_l00In hx5) (.inl j) j kF85_2_2_2 j (ppC j (ppC j (ppC j pp0))) j j pb0 j j j)<|xq (oMv j j)<|?_
  refine ic hm2 (fun hc1 hm2=>?_) fun hc1 hm2=>?_
  ·obtain ⟨x9,hx9,hm2⟩:=bs hm2
   cases hm2
   exact xqT j j (iR.2 hc1) (oFA (r':=.mp 1 0 1) j fF145_1 j j)<|xqT j j (iR.2 hc1) (oLd (cs:=[.im 0 _]) j tF2 j j)<|xqT j j (iR.2 hc1) (oCa (xs:=[.v false [.im 0 _],.v false [.im 0 _],.v false [.im 0 _]]) (vs:=[(false,[.im 0 _])]) (v:=.v false [.im 0 _]) (L_spec_l00In hx9) (.inl j) j kF85_2_2_2 j (ppC j (ppC j (ppC j pp0))) j j pb0 j j j)<|xq (oPkT j j (iR.2 hc1) j)<|xq (oAsI j j)<|xn
  ·cases hm2
   exact xsgF j j (byF iR hc1) j<|xsgF j j (byF iR hc1) j<|xsgF j j (byF iR hc1) j<|xq (oPkF j j (byF iR hc1) j)<|xq (oAsI j j)<|xn
 ·refine us<|Go.ret (Unw.ret ?_)
  cases h
  exact fr rF145 j
theorem L_spec_l02Cross {a_0:S_Point} {b_1:S_Point} {c_2:S_Point} {r:Int} (h:spec_l02Cross a_0 b_1 c_2=some r):FX 207 [.im 2 true (u_S_Point a_0),.im 2 true (u_S_Point b_1),.im 2 true (u_S_Point c_2)] (B0 [(false,[.im 0 (I r)])]):=by
 unfold spec_l02Cross at h
 refine gn 30 Try.func207 rfl ?_
 refine gs<|g0 j j (q (oBx j tF145 j (tkI (tkI tk0)))<|q (oBx j tF145 j (tkI (tkI tk0)))<|q (oBx j tF145 j (tkI (tkI tk0)))<|q (oAsI j j)<|nl)<|us<|gs<|g0 j j (q (oFA (r':=.mp 4 0 0) j fF145_0 j j)<|q (oLd (cs:=[.im 0 _]) j tF2 j j)<|q (oFA (r':=.mp 3 0 0) j fF145_0 j j)<|q (oLd (cs:=[.im 0 _]) j tF2 j j)<|q (oBi j j j j)<|q (oFA (r':=.mp 5 0 1) j fF145_1 j j)<|q (oLd (cs:=[.im 0 _]) j tF2 j j)<|q (oFA (r':=.mp 3 0 1) j fF145_1 j j)<|q (oLd (cs:=[.im 0 _]) j tF2 j j)<|q (oBi j j j j)<|q (oBi j j j j)<|q (oFA (r':=.mp 4 0 1) j fF145_1 j j)<|q (oLd (cs:=[.im 0 _]) j tF2 j j)<|q (oFA (r':=.mp 3 0 1) j fF145_1 j j)<|q (oLd (cs:=[.im 0 _]) j tF2 j j)<|q (oBi j j j j)<|q (oFA (r':=.mp 5 0 0) j fF145_0 j j)<|q (oLd (cs:=[.im 0 _]) j tF2 j j)<|q (oFA (r':=.mp 3 0 0) j fF145_0 j j)<|q (oLd (cs:=[.im 0 _]) j tF2 j j)<|q (oBi j j j j)<|q (oBi j j j j)<|q (oBi j j j j)<|q (oAsI j j)<|nl)<|us<|Go.ret (Unw.ret ?_)
 cases h
 exact fr rF207 j
theorem L_spec_l02Side {a_0:S_Point} {b_1:S_Point} {c_2:S_Point} {r:Int} (h:spec_l02Side a_0 b_1 c_2=some r):FX 189 [.im 2 true (u_S_Point a_0),.im 2 true (u_S_Point b_1),.im 2 true (u_S_Point c_2)] (B0 [(false,[.im 0 (I r)])]):=by
 unfold spec_l02Side at h
 refine gn 16 Try.func189 rfl ?_
 refine gs<|g0 j j (q (oBx j tF145 j (tkI (tkI tk0)))<|q (oBx j tF145 j (tkI (tkI tk0)))<|q (oBx j tF145 j (tkI (tkI tk0)))<|q (oAsI j j)<|nl)<|us<|gs<|?_
 obtain ⟨x11,hx11,h⟩:=bs h
 refine g0 j j (q (oLd (cs:=[.im 0 _,.im 0 _]) j tF145 j j)<|q (oLd (cs:=[.im 0 _,.im 0 _]) j tF145 j j)<|q (oLd (cs:=[.im 0 _,.im 0 _]) j tF145 j j)<|q (oCa (xs:=[.v true [.im 0 _,.im 0 _],.v true [.im 0 _,.im 0 _],.v true [.im 0 _,.im 0 _]]) (vs:=[(false,[.im 0 _])]) (v:=.v false [.im 0 _]) (L_spec_l02Cross hx11) (.inl j) j kF207_145_145_145 j (ppC j (ppC j (ppC j pp0))) j j pb0 j j j)<|q (oAsI j j)<|nl)<|us<|gs<|gs<|g0 j j (q (oMv j j)<|q (oBi j j j j)<|nl)<|us<|gc h j iDec (fun hc1 h=>?_) fun hc1 h=>?_
 ·refine gs<|g0 j j (q (oAsI j j)<|nl)<|us<|Go.ret (Unw.ret ?_)
  cases h
  exact fr rF189 j
 ·refine Go.skip<|us<|gs<|gs<|g0 j j (q (oMv j j)<|q (oBi j j j j)<|nl)<|us<|gc h j iDec (fun hc2 h=>?_) fun hc2 h=>?_
  ·refine gs<|g0 j j (q (oAsI j j)<|nl)<|us<|Go.ret (Unw.ret ?_)
   cases h
   exact fr rF189 j
  ·refine Go.skip<|us<|gs<|g0 j j (q (oAsI j j)<|nl)<|us<|Go.ret (Unw.ret ?_)
   cases h
   exact fr rF189 j
theorem L_spec_l00Min {a_0:Int} {b_1:Int} {r:Int} (h:spec_l00Min a_0 b_1=some r):FX 160 [.im 2 false [I a_0],.im 2 false [I b_1]] (B0 [(false,[.im 0 (I r)])]):=by
 unfold spec_l00Min at h
 refine gn 10 Try.func160 rfl ?_
 refine gs<|g0 j j (q (oAsI j j)<|nl)<|us<|gs<|gs<|g0 j j (q (oMv j j)<|q (oMv j j)<|q (oBi j j j j)<|nl)<|us<|gc h j iDec (fun hc1 h=>?_) fun hc1 h=>?_
 ·refine gs<|g0 j j (q (oMv j j)<|q (oAsI j j)<|nl)<|us<|Go.ret (Unw.ret ?_)
  cases h
  exact fr rF160 j
 ·refine Go.skip<|us<|gs<|g0 j j (q (oMv j j)<|q (oAsI j j)<|nl)<|us<|Go.ret (Unw.ret ?_)
  cases h
  exact fr rF160 j
theorem L_spec_l00Max {a_0:Int} {b_1:Int} {r:Int} (h:spec_l00Max a_0 b_1=some r):FX 137 [.im 2 false [I a_0],.im 2 false [I b_1]] (B0 [(false,[.im 0 (I r)])]):=by
 unfold spec_l00Max at h
 refine gn 10 Try.func137 rfl ?_
 refine gs<|g0 j j (q (oAsI j j)<|nl)<|us<|gs<|gs<|g0 j j (q (oMv j j)<|q (oMv j j)<|q (oBi j j j j)<|nl)<|us<|gc h j iDec (fun hc1 h=>?_) fun hc1 h=>?_
 ·refine gs<|g0 j j (q (oMv j j)<|q (oAsI j j)<|nl)<|us<|Go.ret (Unw.ret ?_)
  cases h
  exact fr rF137 j
 ·refine Go.skip<|us<|gs<|g0 j j (q (oMv j j)<|q (oAsI j j)<|nl)<|us<|Go.ret (Unw.ret ?_)
  cases h
  exact fr rF137 j
theorem L_spec_l02On {a_0:S_Point} {b_1:S_Point} {p_2:S_Point} {r:Bool} (h:spec_l02On a_0 b_1 p_2=some r):FX 146 [.im 2 true (u_S_Point a_0),.im 2 true (u_S_Point b_1),.im 2 true (u_S_Point p_2)] (B0 [(false,[.im 0 (V r)])]):=by
 unfold spec_l02On at h
 refine gn 42 Try.func146 rfl ?_
 refine gs<|g0 j j (q (oBx j tF145 j (tkI (tkI tk0)))<|q (oBx j tF145 j (tkI (tkI tk0)))<|q (oBx j tF145 j (tkI (tkI tk0)))<|q (oAsI j j)<|nl)<|us<|gs<|?_
 obtain ⟨x10,hx10,h⟩:=bs h
 obtain ⟨t_6_m1,hm3,h⟩:=bs h
 refine gd c146 j j j j (mk [(6,bv t_6_m1)] []) ?_ ?_
 ·refine t j j (oLd (cs:=[.im 0 _,.im 0 _]) j tF145 j j)<|t j j (oLd (cs:=[.im 0 _,.im 0 _]) j tF145 j j)<|?_
  refine ic hm3 (fun hc1 hm3=>?_) fun hc1 hm3=>?_
  ·obtain ⟨x19,hx19,hm3⟩:=bs hm3
   obtain ⟨x24,hx24,hm3⟩:=bs hm3
   obtain ⟨x25,hx25,hm3⟩:=bs hm3
   refine ic hm3 (fun hc2 hm3=>?_) fun hc2 hm3=>?_
   ·obtain ⟨x34,hx34,hm3⟩:=bs hm3
    obtain ⟨x39,hx39,hm3⟩:=bs hm3
    obtain ⟨x40,hx40,hm3⟩:=bs hm3
    cases hm3
    exact t j j (oLd (cs:=[.im 0 _,.im 0 _]) j tF145 j j)<|sS (dN z146 j (oCa (xs:=[.v true [.im 0 _,.im 0 _],.v true [.im 0 _,.im 0 _],.v true [.im 0 _,.im 0 _]]) (vs:=[(false,[.im 0 _])]) (v:=.v false [.im 0 _]) (L_spec_l02Side hx10) (.inl j) j kF189_145_145_145 j (ppC j (ppC j (ppC j pp0))) j j pb0 j j j)) trivial (t j j (oBi j j j j)<|t j j (oMv j j)<|tT j j j j (iEq.2 hc1) (oFA (r':=.mp 5 0 0) j fF145_0 j j)<|tT j j j j (iEq.2 hc1) (oLd (cs:=[.im 0 _]) j tF2 j j)<|tT j j j j (iEq.2 hc1) (oFA (r':=.mp 3 0 0) j fF145_0 j j)<|tT j j j j (iEq.2 hc1) (oLd (cs:=[.im 0 _]) j tF2 j j)<|tT j j j j (iEq.2 hc1) (oFA (r':=.mp 4 0 0) j fF145_0 j j)<|tT j j j j (iEq.2 hc1) (oLd (cs:=[.im 0 _]) j tF2 j j)<|tT j j j j (iEq.2 hc1) (oFA (r':=.mp 3 0 0) j fF145_0 j j)<|tT j j j j (iEq.2 hc1) (oLd (cs:=[.im 0 _]) j tF2 j j)<|tT j j j j (iEq.2 hc1) (oFA (r':=.mp 4 0 0) j fF145_0 j j)<|tT j j j j (iEq.2 hc1) (oLd (cs:=[.im 0 _]) j tF2 j j)<|sS (dT z146 j j j (iEq.2 hc1) (oCa (xs:=[.v false [.im 0 _],.v false [.im 0 _]]) (vs:=[(false,[.im 0 _])]) (v:=.v false [.im 0 _]) (L_spec_l00Min hx19) (.inl j) j kF160_2_2 j (ppC j (ppC j pp0)) j j pb0 j j j)) trivial (sS (dT z146 j j j (iEq.2 hc1) (oCa (xs:=[.v false [.im 0 _],.v false [.im 0 _]]) (vs:=[(false,[.im 0 _])]) (v:=.v false [.im 0 _]) (L_spec_l00Max hx24) (.inl j) j kF137_2_2 j (ppC j (ppC j pp0)) j j pb0 j j j)) trivial (sS (dT z146 j j j (iEq.2 hc1) (oCa (xs:=[.v false [.im 0 _],.v false [.im 0 _],.v false [.im 0 _]]) (vs:=[(false,[.im 0 _])]) (v:=.v false [.im 0 _]) (L_spec_l00In hx25) (.inl j) j kF85_2_2_2 j (ppC j (ppC j (ppC j pp0))) j j pb0 j j j)) trivial (t j j (oPkT j j (iEq.2 hc1) j)<|t j j (oMv j j)<|tT j j j j (iR.2 hc2) (oFA (r':=.mp 5 0 1) j fF145_1 j j)<|tT j j j j (iR.2 hc2) (oLd (cs:=[.im 0 _]) j tF2 j j)<|tT j j j j (iR.2 hc2) (oFA (r':=.mp 3 0 1) j fF145_1 j j)<|tT j j j j (iR.2 hc2) (oLd (cs:=[.im 0 _]) j tF2 j j)<|tT j j j j (iR.2 hc2) (oFA (r':=.mp 4 0 1) j fF145_1 j j)<|tT j j j j (iR.2 hc2) (oLd (cs:=[.im 0 _]) j tF2 j j)<|tT j j j j (iR.2 hc2) (oFA (r':=.mp 3 0 1) j fF145_1 j j)<|tT j j j j (iR.2 hc2) (oLd (cs:=[.im 0 _]) j tF2 j j)<|tT j j j j (iR.2 hc2) (oFA (r':=.mp 4 0 1) j fF145_1 j j)<|tT j j j j (iR.2 hc2) (oLd (cs:=[.im 0 _]) j tF2 j j)<|sS (dT z146 j j j (iR.2 hc2) (oCa (xs:=[.v false [.im 0 _],.v false [.im 0 _]]) (vs:=[(false,[.im 0 _])]) (v:=.v false [.im 0 _]) (L_spec_l00Min hx34) (.inl j) j kF160_2_2 j (ppC j (ppC j pp0)) j j pb0 j j j)) trivial (sS (dT z146 j j j (iR.2 hc2) (oCa (xs:=[.v false [.im 0 _],.v false [.im 0 _]]) (vs:=[(false,[.im 0 _])]) (v:=.v false [.im 0 _]) (L_spec_l00Max hx39) (.inl j) j kF137_2_2 j (ppC j (ppC j pp0)) j j pb0 j j j)) trivial (sS (dT z146 j j j (iR.2 hc2) (oCa (xs:=[.v false [.im 0 _],.v false [.im 0 _],.v false [.im 0 _]]) (vs:=[(false,[.im 0 _])]) (v:=.v false [.im 0 _]) (L_spec_l00In hx40) (.inl j) j kF85_2_2_2 j (ppC j (ppC j (ppC j pp0))) j j pb0 j j j)) trivial (t j j (oPkT j j (iR.2 hc2) j)<|sS (dN z146 j (oAsI j j)) trivial (sD (by kernel_rfl)))))))))
   ·cases hm3
    exact t j j (oLd (cs:=[.im 0 _,.im 0 _]) j tF145 j j)<|sS (dN z146 j (oCa (xs:=[.v true [.im 0 _,.im 0 _],.v true [.im 0 _,.im 0 _],.v true [.im 0 _,.im 0 _]]) (vs:=[(false,[.im 0 _])]) (v:=.v false [.im 0 _]) (L_spec_l02Side hx10) (.inl j) j kF189_145_145_145 j (ppC j (ppC j (ppC j pp0))) j j pb0 j j j)) trivial (t j j (oBi j j j j)<|t j j (oMv j j)<|tT j j j j (iEq.2 hc1) (oFA (r':=.mp 5 0 0) j fF145_0 j j)<|tT j j j j (iEq.2 hc1) (oLd (cs:=[.im 0 _]) j tF2 j j)<|tT j j j j (iEq.2 hc1) (oFA (r':=.mp 3 0 0) j fF145_0 j j)<|tT j j j j (iEq.2 hc1) (oLd (cs:=[.im 0 _]) j tF2 j j)<|tT j j j j (iEq.2 hc1) (oFA (r':=.mp 4 0 0) j fF145_0 j j)<|tT j j j j (iEq.2 hc1) (oLd (cs:=[.im 0 _]) j tF2 j j)<|tT j j j j (iEq.2 hc1) (oFA (r':=.mp 3 0 0) j fF145_0 j j)<|tT j j j j (iEq.2 hc1) (oLd (cs:=[.im 0 _]) j tF2 j j)<|tT j j j j (iEq.2 hc1) (oFA (r':=.mp 4 0 0) j fF145_0 j j)<|tT j j j j (iEq.2 hc1) (oLd (cs:=[.im 0 _]) j tF2 j j)<|sS (dT z146 j j j (iEq.2 hc1) (oCa (xs:=[.v false [.im 0 _],.v false [.im 0 _]]) (vs:=[(false,[.im 0 _])]) (v:=.v false [.im 0 _]) (L_spec_l00Min hx19) (.inl j) j kF160_2_2 j (ppC j (ppC j pp0)) j j pb0 j j j)) trivial (sS (dT z146 j j j (iEq.2 hc1) (oCa (xs:=[.v false [.im 0 _],.v false [.im 0 _]]) (vs:=[(false,[.im 0 _])]) (v:=.v false [.im 0 _]) (L_spec_l00Max hx24) (.inl j) j kF137_2_2 j (ppC j (ppC j pp0)) j j pb0 j j j)) trivial (sS (dT z146 j j j (iEq.2 hc1) (oCa (xs:=[.v false [.im 0 _],.v false [.im 0 _],.v false [.im 0 _]]) (vs:=[(false,[.im 0 _])]) (v:=.v false [.im 0 _]) (L_spec_l00In hx25) (.inl j) j kF85_2_2_2 j (ppC j (ppC j (ppC j pp0))) j j pb0 j j j)) trivial (t j j (oPkT j j (iEq.2 hc1) j)<|t j j (oMv j j)<|tF j j j j (byF iR hc2) j<|tF j j j j (byF iR hc2) j<|tF j j j j (byF iR hc2) j<|tF j j j j (byF iR hc2) j<|tF j j j j (byF iR hc2) j<|tF j j j j (byF iR hc2) j<|tF j j j j (byF iR hc2) j<|tF j j j j (byF iR hc2) j<|tF j j j j (byF iR hc2) j<|tF j j j j (byF iR hc2) j<|sS (dF j j j (byF iR hc2) j) trivial (sS (dF j j j (byF iR hc2) j) trivial (sS (dF j j j (byF iR hc2) j) trivial (t j j (oPkF j j (byF iR hc2) j)<|sS (dN z146 j (oAsI j j)) trivial (sD (by kernel_rfl)))))))))
  ·cases hm3
   exact t j j (oLd (cs:=[.im 0 _,.im 0 _]) j tF145 j j)<|sS (dN z146 j (oCa (xs:=[.v true [.im 0 _,.im 0 _],.v true [.im 0 _,.im 0 _],.v true [.im 0 _,.im 0 _]]) (vs:=[(false,[.im 0 _])]) (v:=.v false [.im 0 _]) (L_spec_l02Side hx10) (.inl j) j kF189_145_145_145 j (ppC j (ppC j (ppC j pp0))) j j pb0 j j j)) trivial (t j j (oBi j j j j)<|t j j (oMv j j)<|tF j j j j (byF iEq hc1) j<|tF j j j j (byF iEq hc1) j<|tF j j j j (byF iEq hc1) j<|tF j j j j (byF iEq hc1) j<|tF j j j j (byF iEq hc1) j<|tF j j j j (byF iEq hc1) j<|tF j j j j (byF iEq hc1) j<|tF j j j j (byF iEq hc1) j<|tF j j j j (byF iEq hc1) j<|tF j j j j (byF iEq hc1) j<|sS (dF j j j (byF iEq hc1) j) trivial (sS (dF j j j (byF iEq hc1) j) trivial (sS (dF j j j (byF iEq hc1) j) trivial (t j j (oPkF j j (byF iEq hc1) j)<|t j j (oMv j j)<|tF j j j j j j<|tF j j j j j j<|tF j j j j j j<|tF j j j j j j<|tF j j j j j j<|tF j j j j j j<|tF j j j j j j<|tF j j j j j j<|tF j j j j j j<|tF j j j j j j<|sS (dF j j j j j) trivial (sS (dF j j j j j) trivial (sS (dF j j j j j) trivial (t j j (oPkF j j j j)<|sS (dN z146 j (oAsI j j)) trivial (sD (by kernel_rfl)))))))))
 ·refine us<|Go.ret (Unw.ret ?_)
  cases h
  exact fr rF146 j
theorem L_spec_l02Crosses {a_0:S_Point} {b_1:S_Point} {c_2:S_Point} {d_3:S_Point} {r:Bool} (h:spec_l02Crosses a_0 b_1 c_2 d_3=some r):FX 190 [.im 2 true (u_S_Point a_0),.im 2 true (u_S_Point b_1),.im 2 true (u_S_Point c_2),.im 2 true (u_S_Point d_3)] (B0 [(false,[.im 0 (V r)])]):=by
 unfold spec_l02Crosses at h
 refine gn 31 Try.func190 rfl ?_
 refine gs<|g0 j j (q (oBx j tF145 j (tkI (tkI tk0)))<|q (oBx j tF145 j (tkI (tkI tk0)))<|q (oBx j tF145 j (tkI (tkI tk0)))<|q (oBx j tF145 j (tkI (tkI tk0)))<|q (oAsI j j)<|nl)<|us<|gs<|?_
 obtain ⟨x12,hx12,h⟩:=bs h
 obtain ⟨x16,hx16,h⟩:=bs h
 obtain ⟨t_8_m1,hm2,h⟩:=bs h
 refine gd c190 j j j j (mk [(8,bv t_8_m1)] []) ?_ ?_
 ·refine t j j (oLd (cs:=[.im 0 _,.im 0 _]) j tF145 j j)<|t j j (oLd (cs:=[.im 0 _,.im 0 _]) j tF145 j j)<|t j j (oLd (cs:=[.im 0 _,.im 0 _]) j tF145 j j)<|t j j (oLd (cs:=[.im 0 _,.im 0 _]) j tF145 j j)<|t j j (oLd (cs:=[.im 0 _,.im 0 _]) j tF145 j j)<|?_
  refine ic hm2 (fun hc1 hm2=>?_) fun hc1 hm2=>?_
  ·obtain ⟨x23,hx23,hm2⟩:=bs hm2
   obtain ⟨x27,hx27,hm2⟩:=bs hm2
   cases hm2
   exact t j j (oLd (cs:=[.im 0 _,.im 0 _]) j tF145 j j)<|sS (dN z190 j (oCa (xs:=[.v true [.im 0 _,.im 0 _],.v true [.im 0 _,.im 0 _],.v true [.im 0 _,.im 0 _]]) (vs:=[(false,[.im 0 _])]) (v:=.v false [.im 0 _]) (L_spec_l02Side hx12) (.inl j) j kF189_145_145_145 j (ppC j (ppC j (ppC j pp0))) j j pb0 j j j)) trivial (sS (dN z190 j (oCa (xs:=[.v true [.im 0 _,.im 0 _],.v true [.im 0 _,.im 0 _],.v true [.im 0 _,.im 0 _]]) (vs:=[(false,[.im 0 _])]) (v:=.v false [.im 0 _]) (L_spec_l02Side hx16) (.inl j) j kF189_145_145_145 j (ppC j (ppC j (ppC j pp0))) j j pb0 j j j)) trivial (t j j (oBi j j j j)<|t j j (oBi j j j j)<|t j j (oMv j j)<|tT j j j j (iDec.2 hc1) (oLd (cs:=[.im 0 _,.im 0 _]) j tF145 j j)<|tT j j j j (iDec.2 hc1) (oLd (cs:=[.im 0 _,.im 0 _]) j tF145 j j)<|tT j j j j (iDec.2 hc1) (oLd (cs:=[.im 0 _,.im 0 _]) j tF145 j j)<|tT j j j j (iDec.2 hc1) (oLd (cs:=[.im 0 _,.im 0 _]) j tF145 j j)<|tT j j j j (iDec.2 hc1) (oLd (cs:=[.im 0 _,.im 0 _]) j tF145 j j)<|tT j j j j (iDec.2 hc1) (oLd (cs:=[.im 0 _,.im 0 _]) j tF145 j j)<|sS (dT z190 j j j (iDec.2 hc1) (oCa (xs:=[.v true [.im 0 _,.im 0 _],.v true [.im 0 _,.im 0 _],.v true [.im 0 _,.im 0 _]]) (vs:=[(false,[.im 0 _])]) (v:=.v false [.im 0 _]) (L_spec_l02Side hx23) (.inl j) j kF189_145_145_145 j (ppC j (ppC j (ppC j pp0))) j j pb0 j j j)) trivial (sS (dT z190 j j j (iDec.2 hc1) (oCa (xs:=[.v true [.im 0 _,.im 0 _],.v true [.im 0 _,.im 0 _],.v true [.im 0 _,.im 0 _]]) (vs:=[(false,[.im 0 _])]) (v:=.v false [.im 0 _]) (L_spec_l02Side hx27) (.inl j) j kF189_145_145_145 j (ppC j (ppC j (ppC j pp0))) j j pb0 j j j)) trivial (tT j j j j (iDec.2 hc1) (oBi j j j j)<|tT j j j j (iDec.2 hc1) (oBi j j j j)<|t j j (oPkT j j (iDec.2 hc1) j)<|sS (dN z190 j (oAsI j j)) trivial (sD (by kernel_rfl))))))
  ·cases hm2
   exact t j j (oLd (cs:=[.im 0 _,.im 0 _]) j tF145 j j)<|sS (dN z190 j (oCa (xs:=[.v true [.im 0 _,.im 0 _],.v true [.im 0 _,.im 0 _],.v true [.im 0 _,.im 0 _]]) (vs:=[(false,[.im 0 _])]) (v:=.v false [.im 0 _]) (L_spec_l02Side hx12) (.inl j) j kF189_145_145_145 j (ppC j (ppC j (ppC j pp0))) j j pb0 j j j)) trivial (sS (dN z190 j (oCa (xs:=[.v true [.im 0 _,.im 0 _],.v true [.im 0 _,.im 0 _],.v true [.im 0 _,.im 0 _]]) (vs:=[(false,[.im 0 _])]) (v:=.v false [.im 0 _]) (L_spec_l02Side hx16) (.inl j) j kF189_145_145_145 j (ppC j (ppC j (ppC j pp0))) j j pb0 j j j)) trivial (t j j (oBi j j j j)<|t j j (oBi j j j j)<|t j j (oMv j j)<|tF j j j j (byF iDec hc1) j<|tF j j j j (byF iDec hc1) j<|tF j j j j (byF iDec hc1) j<|tF j j j j (byF iDec hc1) j<|tF j j j j (byF iDec hc1) j<|tF j j j j (byF iDec hc1) j<|sS (dF j j j (byF iDec hc1) j) trivial (sS (dF j j j (byF iDec hc1) j) trivial (tF j j j j (byF iDec hc1) j<|tF j j j j (byF iDec hc1) j<|t j j (oPkF j j (byF iDec hc1) j)<|sS (dN z190 j (oAsI j j)) trivial (sD (by kernel_rfl))))))
 ·refine us<|Go.ret (Unw.ret ?_)
  cases h
  exact fr rF190 j
theorem L_spec_l03Meet {a_0:S_Point} {b_1:S_Point} {c_2:S_Point} {d_3:S_Point} {r:Bool} (h:spec_l03Meet a_0 b_1 c_2 d_3=some r):FX 147 [.im 2 true (u_S_Point a_0),.im 2 true (u_S_Point b_1),.im 2 true (u_S_Point c_2),.im 2 true (u_S_Point d_3)] (B0 [(false,[.im 0 (V r)])]):=by
 unfold spec_l03Meet at h
 refine gn 38 Try.func147 rfl ?_
 refine gs<|g0 j j (q (oBx j tF145 j (tkI (tkI tk0)))<|q (oBx j tF145 j (tkI (tkI tk0)))<|q (oBx j tF145 j (tkI (tkI tk0)))<|q (oBx j tF145 j (tkI (tkI tk0)))<|q (oAsI j j)<|nl)<|us<|gs<|?_
 obtain ⟨x13,hx13,h⟩:=bs h
 obtain ⟨t_8_m1,hm5,h⟩:=bs h
 refine gX c147 j j j (mk [(8,bv t_8_m1)] []) ?_ ?_
 ·refine xq (oLd (cs:=[.im 0 _,.im 0 _]) j tF145 j j)<|xq (oLd (cs:=[.im 0 _,.im 0 _]) j tF145 j j)<|xq (oLd (cs:=[.im 0 _,.im 0 _]) j tF145 j j)<|xq (oLd (cs:=[.im 0 _,.im 0 _]) j tF145 j j)<|xq (oCa (xs:=[.v true [.im 0 _,.im 0 _],.v true [.im 0 _,.im 0 _],.v true [.im 0 _,.im 0 _],.v true [.im 0 _,.im 0 _]]) (vs:=[(false,[.im 0 _])]) (v:=.v false [.im 0 _]) (L_spec_l02Crosses hx13) (.inl j) j kF190_145_145_145_145 j (ppC j (ppC j (ppC j (ppC j pp0)))) j j pb0 j j j)<|xq (oMv j j)<|?_
  refine ic hm5 (fun hc1 hm5=>?_) fun hc1 hm5=>?_
  ·cases hm5
   exact xsgF j j (iR.2 hc1) j<|xsgF j j (iR.2 hc1) j<|xsgF j j (iR.2 hc1) j<|xsgF j j (iR.2 hc1) j<|xq (oPkT j j (iR.2 hc1) j)<|xq (oMv j j)<|xsgF j j j j<|xsgF j j j j<|xsgF j j j j<|xsgF j j j j<|xq (oPkT j j j j)<|xq (oMv j j)<|xsgF j j j j<|xsgF j j j j<|xsgF j j j j<|xsgF j j j j<|xq (oPkT j j j j)<|xq (oMv j j)<|xsgF j j j j<|xsgF j j j j<|xsgF j j j j<|xsgF j j j j<|xq (oPkT j j j j)<|xq (oAsI j j)<|xn
  ·obtain ⟨x18,hx18,hm5⟩:=bs hm5
   refine xqT j j (byF iR hc1) (oLd (cs:=[.im 0 _,.im 0 _]) j tF145 j j)<|xqT j j (byF iR hc1) (oLd (cs:=[.im 0 _,.im 0 _]) j tF145 j j)<|xqT j j (byF iR hc1) (oLd (cs:=[.im 0 _,.im 0 _]) j tF145 j j)<|xqT j j (byF iR hc1) (oCa (xs:=[.v true [.im 0 _,.im 0 _],.v true [.im 0 _,.im 0 _],.v true [.im 0 _,.im 0 _]]) (vs:=[(false,[.im 0 _])]) (v:=.v false [.im 0 _]) (L_spec_l02On hx18) (.inl j) j kF146_145_145_145 j (ppC j (ppC j (ppC j pp0))) j j pb0 j j j)<|xq (oPkF j j (byF iR hc1) j)<|xq (oMv j j)<|?_
   refine ic hm5 (fun hc2 hm5=>?_) fun hc2 hm5=>?_
   ·cases hm5
    exact xsgF j j (iR.2 hc2) j<|xsgF j j (iR.2 hc2) j<|xsgF j j (iR.2 hc2) j<|xsgF j j (iR.2 hc2) j<|xq (oPkT j j (iR.2 hc2) j)<|xq (oMv j j)<|xsgF j j j j<|xsgF j j j j<|xsgF j j j j<|xsgF j j j j<|xq (oPkT j j j j)<|xq (oMv j j)<|xsgF j j j j<|xsgF j j j j<|xsgF j j j j<|xsgF j j j j<|xq (oPkT j j j j)<|xq (oAsI j j)<|xn
   ·obtain ⟨x24,hx24,hm5⟩:=bs hm5
    refine xqT j j (byF iR hc2) (oLd (cs:=[.im 0 _,.im 0 _]) j tF145 j j)<|xqT j j (byF iR hc2) (oLd (cs:=[.im 0 _,.im 0 _]) j tF145 j j)<|xqT j j (byF iR hc2) (oLd (cs:=[.im 0 _,.im 0 _]) j tF145 j j)<|xqT j j (byF iR hc2) (oCa (xs:=[.v true [.im 0 _,.im 0 _],.v true [.im 0 _,.im 0 _],.v true [.im 0 _,.im 0 _]]) (vs:=[(false,[.im 0 _])]) (v:=.v false [.im 0 _]) (L_spec_l02On hx24) (.inl j) j kF146_145_145_145 j (ppC j (ppC j (ppC j pp0))) j j pb0 j j j)<|xq (oPkF j j (byF iR hc2) j)<|xq (oMv j j)<|?_
    refine ic hm5 (fun hc3 hm5=>?_) fun hc3 hm5=>?_
    ·cases hm5
     exact xsgF j j (iR.2 hc3) j<|xsgF j j (iR.2 hc3) j<|xsgF j j (iR.2 hc3) j<|xsgF j j (iR.2 hc3) j<|xq (oPkT j j (iR.2 hc3) j)<|xq (oMv j j)<|xsgF j j j j<|xsgF j j j j<|xsgF j j j j<|xsgF j j j j<|xq (oPkT j j j j)<|xq (oAsI j j)<|xn
    ·obtain ⟨x30,hx30,hm5⟩:=bs hm5
     refine xqT j j (byF iR hc3) (oLd (cs:=[.im 0 _,.im 0 _]) j tF145 j j)<|xqT j j (byF iR hc3) (oLd (cs:=[.im 0 _,.im 0 _]) j tF145 j j)<|xqT j j (byF iR hc3) (oLd (cs:=[.im 0 _,.im 0 _]) j tF145 j j)<|xqT j j (byF iR hc3) (oCa (xs:=[.v true [.im 0 _,.im 0 _],.v true [.im 0 _,.im 0 _],.v true [.im 0 _,.im 0 _]]) (vs:=[(false,[.im 0 _])]) (v:=.v false [.im 0 _]) (L_spec_l02On hx30) (.inl j) j kF146_145_145_145 j (ppC j (ppC j (ppC j pp0))) j j pb0 j j j)<|xq (oPkF j j (byF iR hc3) j)<|xq (oMv j j)<|?_
     refine ic hm5 (fun hc4 hm5=>?_) fun hc4 hm5=>?_
     ·cases hm5
      exact xsgF j j (iR.2 hc4) j<|xsgF j j (iR.2 hc4) j<|xsgF j j (iR.2 hc4) j<|xsgF j j (iR.2 hc4) j<|xq (oPkT j j (iR.2 hc4) j)<|xq (oAsI j j)<|xn
     ·obtain ⟨x36,hx36,hm5⟩:=bs hm5
      cases hm5
      exact xqT j j (byF iR hc4) (oLd (cs:=[.im 0 _,.im 0 _]) j tF145 j j)<|xqT j j (byF iR hc4) (oLd (cs:=[.im 0 _,.im 0 _]) j tF145 j j)<|xqT j j (byF iR hc4) (oLd (cs:=[.im 0 _,.im 0 _]) j tF145 j j)<|xqT j j (byF iR hc4) (oCa (xs:=[.v true [.im 0 _,.im 0 _],.v true [.im 0 _,.im 0 _],.v true [.im 0 _,.im 0 _]]) (vs:=[(false,[.im 0 _])]) (v:=.v false [.im 0 _]) (L_spec_l02On hx36) (.inl j) j kF146_145_145_145 j (ppC j (ppC j (ppC j pp0))) j j pb0 j j j)<|xq (oPkF j j (byF iR hc4) j)<|xq (oAsI j j)<|xn
 ·refine us<|Go.ret (Unw.ret ?_)
  cases h
  exact fr rF147 j
theorem L_spec_l03Area {p_0:(List S_Point)} {r:Int} (h:spec_l03Area p_0=some r):FX 148 [.im 2 false [W 2 e_S_Point p_0]] (B0 [(false,[.im 0 (I r)])]):=by
 unfold spec_l03Area at h
 refine gn 40 Try.func148 rfl ?_
 refine gs<|g0 j j (q (oAsI j j)<|nl)<|us<|gs<|g0 j j (q (oAsI j j)<|nl)<|us<|gs<|gs<|g0 j j (q (oAsI j j)<|nl)<|us<|Go.block<|?_
 obtain ⟨o,hl,h⟩:=bs h
 refine gl c148 j _ (fun (s:(Int×Int))=>match s with | (sum_3_l3,i_4_l3)=>mk [(0,D 2 (W 2 e_S_Point p_0)),(3,iv sum_3_l3),(4,iv i_4_l3)] []) (fun (sum_3_e0_3:Int) (p:Ex×St)=>p.1= .exit 0∧p.2.norm ([3],[])=mk [(3,iv sum_3_e0_3)] []) hl (by kernel_rfl) ?_ ?_ ?_
 ·intro o p hp e
  exact nomatch (hp.1.symm.trans e)
 ·rintro ⟨sum_3_l3,i_4_l3⟩ o h
  unfold spec_l03Area_l3 at h
  dsimp only at h
  refine gs<|gs<|g0 j j (q (oMv j j)<|q (oMv j j)<|q (oLnI j j uF23 j)<|q (oBi j j j j)<|nl)<|us<|gc h j iDec (fun hc3 h=>?_) fun hc3 h=>?_
  ·refine Go.skip<|us<|gs<|Go.block<|gs<|?_
   obtain ⟨x17,hx17,h⟩:=bs h
   obtain ⟨x18,hx18,h⟩:=bs h
   refine g0 j j (q (oMv j j)<|q (oMv j j)<|q (oBi j j j j)<|q (oMv j j)<|q (oLnI j j uF23 j)<|q (oRem j hx17 j j)<|q (oIAI j hx18 sF23 j j)<|q (oLd (cs:=[.im 2 _,.im 2 _]) j tF145 j j)<|q (oAl j tF145 (tkI (tkI tk0)))<|q (oSt tF145 j j j (tkI (tkI tk0)) j j j)<|nl)<|us<|?_
   obtain ⟨x23,hx23,h⟩:=bs h
   obtain ⟨x31,hx31,h⟩:=bs h
   refine gd c148 j j j (st1:=mk [(0,D 2 (W 2 e_S_Point p_0)),(3,iv sum_3_l3),(4,iv i_4_l3),(5,M 5)] [(5,Oa (G 0 (u_S_Point x18)))]) (by kernel_rfl) (mk [(0,D 2 (W 2 e_S_Point p_0)),(3,iv (w64 (sum_3_l3+(w64 ((w64 (x23.X*x18.Y)) - (w64 (x31.Y*x18.X))))))),(4,iv i_4_l3)] []) (t j j (oMv j j)<|t j j (oMv j j)<|t j j (oMv j j)<|t j j (oIAI j hx23 sF23 j j)<|t j j (oFA (r':=.im 2 _) j fF145_0 j j)<|t j j (oLd (cs:=[.im 2 _]) j tF2 j j)<|t j j (oFA (r':=.mp 5 0 1) j fF145_1 j j)<|t j j (oLd (cs:=[.im 0 _]) j tF2 j j)<|t j j (oBi j j j j)<|t j j (oMv j j)<|t j j (oMv j j)<|t j j (oIAI j hx31 sF23 j j)<|t j j (oFA (r':=.im 2 _) j fF145_1 j j)<|t j j (oLd (cs:=[.im 2 _]) j tF2 j j)<|t j j (oFA (r':=.mp 5 0 0) j fF145_0 j j)<|t j j (oLd (cs:=[.im 0 _]) j tF2 j j)<|t j j (oBi j j j j)<|t j j (oBi j j j j)<|t j j (oBi j j j j)<|sS (dN z148 j (oAsI j j)) trivial (sD (by kernel_rfl)))<|Unw.blk<|us<|g0 j j (q (oMv j j)<|q (oBi j j j j)<|q (oAsI j j)<|nl)<|Unw.nil<|?_
   cases h
   exact ⟨j,(by kernel_rfl)⟩
  ·refine Go.exit<|ux<|Unw.nil<|?_
   cases h
   exact ⟨j,(by kernel_rfl)⟩
 ·rintro ⟨e,st⟩ hp
  obtain ⟨sum_3_e0_3,rfl⟩:∃y,y=o:=⟨o,rfl⟩
  obtain ⟨he,hst⟩:=hp
  obtain rfl:e= .exit 0:=he
  refine Unw.blkx<|us<|gs<|g2 c148 j j hst (q (oMv j j)<|q (oAsI j j)<|nl)<|us<|Go.ret (Unw.ret ?_)
  cases h
  exact fr rF148 j
end
end Go.Proofs.Ytdibfdcmbjaejaa
