/- The machine answers, at each function of the program that is reached, what its plain function answers. Conditions: none. -/
import Derived.Test.YtfjmlccolihpmaaProg
import Derived.KernelRfl
import Derived.Test.YtfjmlccolihpmaaSimRs
import Derived.Test.YtfjmlccolihpmaaTaqT
namespace Go.Proofs.Ytfjmlccolihpmaa
open Go Go.Sim Go.Pw Go.Proofs
set_option linter.unusedVariables false
set_option linter.unusedSimpArgs false
set_option maxRecDepth 100000
set_option maxHeartbeats 4000000
noncomputable section
noncomputable abbrev u_S_Point (x:S_Point):List AV:=[I x.X,I x.Y]
noncomputable def e_S_Point (x:S_Point):AV:= .agg (u_S_Point x)
noncomputable abbrev u_S_Face (x:S_Face):List AV:=[Y x.Name,W 1 eI x.Ring]
noncomputable def e_S_Face (x:S_Face):AV:= .agg (u_S_Face x)
noncomputable abbrev u_S_Drawing (x:S_Drawing):List AV:=[I x.Width,I x.Height,W 2 e_S_Point x.Points,W 2 e_S_Face x.Faces]
noncomputable abbrev u_S_l00Src (x:S_l00Src):List AV:=[W 1 (eK .u8) x.code,I x.at_,.sc (.int .u64 x.seed)]
noncomputable abbrev u_S_sides (x:S_sides):List AV:=[W 1 (eL 1 eI) x.near,W 1 eB x.border]
noncomputable abbrev u_S_assemblySearch (x:S_assemblySearch):List AV:=[W 1 (eL 1 eI) x.sides.near,W 1 eB x.sides.border,I x.left,I x.found,W 1 eI x.first,V x.one]
noncomputable def e_S_assemblySearch (x:S_assemblySearch):AV:= .agg (u_S_assemblySearch x)
noncomputable abbrev u_Ar2_Int (x:Ar2_Int):List AV:=[I x.e0,I x.e1]
noncomputable def e_Ar2_Int (x:Ar2_Int):AV:= .agg (u_Ar2_Int x)
noncomputable def fc3:FCfg:={par:=[.cst false],inn:=[(4,some ([3],[3]))],out:=[(7,some ([3,4,5,8,9,63],[3,8])),(9,some ([3,4,5,89],[3])),(11,some ([3,4,96],[3])),(14,some ([4,10,11,12,13,14],[13])),(15,some ([2],[]))],loopK:=[],frz:=[],sch:=[(14,.first 1 (rg [5,12]) [0,2,3,4]<| .first 2 (rg [3,12]) [0]<| .first 3 (rg [4,12]) [0]<| .first 4 (rg [5,12]) [0]<| .first 0 [6,7,8,9,10,11] [5]<| .fork 5 (.fork 6 (.first 7 [8,9,10,11] []<| .first 8 [10,11] [9]<| .first 9 [11] [10]<| .fork 10 (.fork 11 (.done) (.stop)) (.stop)) (.stop)) (.stop)),(15,.first 0 (rg [1,32]) []<| .first 1 (rg [2,32]) []<| .first 2 (rg [3,32]) []<| .first 3 (rg [4,32]) []<| .first 4 (rg [5,32]) []<| .first 5 (rg [6,32]) []<| .first 6 (rg [7,32]) []<| .first 7 (rg [8,32]) []<| .first 8 (rg [9,32]) []<| .first 9 (rg [10,32]) []<| .first 10 (rg [11,32]) []<| .first 11 (rg [12,32]) []<| .first 12 (rg [13,32]) []<| .first 13 (rg [14,32]) []<| .first 14 (rg [15,32]) []<| .first 15 (rg [16,32]) []<| .first 16 (rg [17,32]) []<| .first 17 (rg [18,32]) []<| .first 18 (rg [19,32]) []<| .first 19 (rg [20,32]) []<| .first 20 [21,22,29,30,31] (rg [23,29])<| .first 21 [22,29,30,31] (rg [23,29])<| .first 22 [29,30,31] (rg [23,29])<| .first 23 [27,28,29,30,31] [24,25,26]<| .first 24 (rg [25,32]) []<| .first 25 (rg [26,32]) []<| .first 26 [27,28,29,30,31] []<| .first 27 [28,29,30,31] []<| .first 28 [29,30,31] []<| .first 29 [30,31] []<| .first 30 [31] []<| .fork 31 (.done) (.stop))],shut:=[]}
noncomputable def fc9:FCfg:={par:=[.cst false],inn:=[(3,some ([2,3,4],[2,4,6]))],out:=[],loopK:=[],frz:=[],sch:=[],shut:=[]}
noncomputable def fc10:FCfg:={par:=[.cst false,.cst false],inn:=[(4,some ([6,7],[]))],out:=[(2,some ([6,7,22],[]))],loopK:=[],frz:=[4],sch:=[],shut:=[]}
noncomputable def fc11:FCfg:={par:=[.cst false,.cst false],inn:=[],out:=[],loopK:=[],frz:=[],sch:=[],shut:=[]}
noncomputable def fc12:FCfg:={par:=[.cst false],inn:=[(9,some ([5],[5]))],out:=[],loopK:=[(4,([1,4,5],[1,4,5]))],frz:=[],sch:=[],shut:=[]}
noncomputable def fc13:FCfg:={par:=[.cst false,.cst false],inn:=[],out:=[(2,some ([4],[]))],loopK:=[],frz:=[],sch:=[],shut:=[]}
noncomputable def fc14:FCfg:={par:=[.cst false,.cst false],inn:=[(6,some ([1,7],[7])),(13,some ([],[]))],out:=[(9,some ([1,7,8,10,24,25,26],[7]))],loopK:=[(7,([1,7,24,25,26],[7]))],frz:=[],sch:=[(9,.first 1 [3,5,6] [0,2,4]<| .first 2 [3,5,6] [0,4]<| .first 4 [5,6] [0,3]<| .first 0 [5,6] [3]<| .fork 3 (.fork 5 (.fork 6 (.done) (.stop)) (.stop)) (.stop))],shut:=[]}
noncomputable def fc15:FCfg:={par:=[.cst false,.cst false],inn:=[],out:=[],loopK:=[],frz:=[],sch:=[],shut:=[]}
noncomputable def fc49:FCfg:={par:=[.cst false],inn:=[],out:=[],loopK:=[],frz:=[],sch:=[],shut:=[]}
noncomputable def fc50:FCfg:={par:=[.ptr [.imm,.imm,.imm]],inn:=[(2,some ([0,2],[0,2])),(3,some ([0,2],[0,2]))],out:=[],loopK:=[],frz:=[],sch:=[],shut:=[]}
noncomputable def fc51:FCfg:={par:=[.cut 4],inn:=[(11,some ([],[]))],out:=[(1,some ([0,32],[])),(6,some ([0,3,75],[])),(9,some ([0,3,95],[]))],loopK:=[(4,([0,3],[]))],frz:=[],sch:=[(6,.first 0 (rg [1,4,5,34]) [4]<| .first 1 (rg [2,4,5,34]) [4]<| .first 2 (rg [3,4,5,34]) [4]<| .first 3 (rg [5,34]) [4]<| .first 4 (rg [5,34]) []<| .first 5 (rg [6,34]) []<| .first 6 (rg [7,34]) []<| .first 7 (rg [8,34]) []<| .fork 8 (.first 9 (rg [10,34]) []<| .first 10 (rg [11,34]) []<| .first 11 (rg [12,34]) []<| .first 12 (rg [13,34]) []<| .first 13 (rg [14,34]) []<| .first 14 [15,16,17,20,21,22,31,32,33] (rg [18,20,23,31])<| .first 15 [16,17,20,21,22,31,32,33] (rg [18,20,23,31])<| .first 16 [17,20,21,22,31,32,33] (rg [18,20,23,31])<| .first 17 [20,21,22,31,32,33] (rg [18,20,23,31])<| .first 18 [19,20,21,22,31,32,33] (rg [23,31])<| .first 19 [20,21,22,31,32,33] (rg [23,31])<| .first 20 [21,22,31,32,33] (rg [23,31])<| .first 21 [22,31,32,33] (rg [23,31])<| .first 22 [31,32,33] (rg [23,31])<| .first 23 (rg [24,27,28,34]) [27]<| .first 24 (rg [25,27,28,34]) [27]<| .first 25 [26,28,29,30,31,32,33] [27]<| .first 26 (rg [28,34]) [27]<| .first 27 (rg [28,34]) []<| .first 28 [29,30,31,32,33] []<| .first 29 [30,31,32,33] []<| .first 30 [31,32,33] []<| .first 31 [32,33] []<| .first 32 [33] []<| .first 33 [] []<| .done) (.stop))],shut:=[]}
noncomputable def fc52:FCfg:={par:=[.ptr [.imm,.imm,.imm]],inn:=[(2,some ([0,2,3],[0,2,3])),(3,some ([0,2,3],[0,2,3])),(4,some ([2,3],[0,2,3]))],out:=[],loopK:=[],frz:=[],sch:=[],shut:=[]}
noncomputable def fc53:FCfg:={par:=[.cst false,.cst false,.cst false],inn:=[(6,some ([8],[22])),(7,some ([8],[22]))],out:=[],loopK:=[],frz:=[],sch:=[],shut:=[]}
noncomputable def fc54:FCfg:={par:=[.cst false],inn:=[(6,some ([1,3,4,32,33,34],[1,4])),(9,some ([1],[1])),(12,some ([1,5,6,63,64,65],[1,6])),(18,some ([],[]))],out:=[(1,some ([1,30],[1])),(6,some ([1,32,33,34,60],[1])),(12,some ([1,6,63,64,65,89],[1,6])),(15,some ([1,63,64,65,104],[1]))],loopK:=[(4,([1,32,33,34],[1])),(10,([1,63,64,65],[1]))],frz:=[],sch:=[(6,.first 0 (rg [1,2,4,22]) [2,3]<| .first 1 (rg [4,22]) [2,3]<| .first 2 (rg [3,22]) []<| .first 3 (rg [4,22]) []<| .fork 4 (.first 5 (rg [6,22]) []<| .first 6 (rg [7,22]) []<| .first 7 (rg [8,9,11,22]) [9,10]<| .first 8 (rg [11,22]) [9,10]<| .first 9 (rg [10,22]) []<| .first 10 (rg [11,22]) []<| .fork 11 (.first 12 (rg [13,22]) []<| .first 13 (rg [14,22]) []<| .first 14 (rg [15,22]) []<| .first 15 [16,18,20,21] [17,19]<| .first 16 [18,20,21] [17,19]<| .first 17 [18,20,21] [19]<| .first 19 [20,21] [18]<| .fork 18 (.fork 20 (.first 21 [] []<| .done) (.stop)) (.stop)) (.stop)) (.stop)),(12,.first 0 (rg [1,20]) []<| .first 1 (rg [2,20]) []<| .fork 2 (.first 3 (rg [4,20]) []<| .first 4 (rg [5,20]) []<| .first 5 (rg [6,20]) []<| .first 6 (rg [7,20]) []<| .first 7 (rg [8,20]) []<| .first 8 [9,12,13,14,17,18,19] [10,11,15,16]<| .first 9 [12,13,14,17,18,19] [10,11,15,16]<| .first 10 [11,12,13,14,17,18,19] [15,16]<| .first 11 [12,13,14,17,18,19] [15,16]<| .first 12 [13,14,17,18,19] [15,16]<| .first 13 [14,17,18,19] [15,16]<| .first 14 [17,18,19] [15,16]<| .first 15 [16,17,18,19] []<| .first 16 [17,18,19] []<| .first 17 [18,19] []<| .first 18 [19] []<| .first 19 [] []<| .done) (.stop))],shut:=[]}
noncomputable def fc55:FCfg:={par:=[.cst false],inn:=[(9,some ([1,2,3,4,5,6,7,18,19,25,26,27],[1,2,3,5,7])),(10,some ([1,2,3,4,5,7,8,18,19,25,26,27],[1,2,3,5,7,8])),(12,some ([1,2,3,4,5,18,19,25,26,27],[1,2,3,5])),(13,some ([1,2,3,18,19],[1,2,3])),(14,some ([2,3],[2,3]))],out:=[(1,some ([1,2,3],[1,2,3])),(10,some ([1,2,3,4,5,18,19,25,26,27,75],[1,2,3,5]))],loopK:=[(3,([1,2,3,18,19],[1,2,3])),(7,([1,2,3,4,5,18,19,25,26,27],[1,2,3,5]))],frz:=[],sch:=[(1,.first 0 [1,6,8] [2,3,4,5,7]<| .first 2 [3,4,5,6,8] [1,7]<| .first 3 [4,5,6,8] [1,7]<| .first 4 [5,6,8] [1,7]<| .fork 1 (.fork 5 (.fork 6 (.fork 7 (.fork 8 (.done) (.stop)) (.stop)) (.fork 7 (.fork 6 (.fork 8 (.done) (.stop)) (.stop)) (.stop))) (.fork 7 (.fork 5 (.fork 6 (.fork 8 (.done) (.stop)) (.stop)) (.stop)) (.stop))) (.fork 5 (.fork 1 (.fork 6 (.fork 7 (.fork 8 (.done) (.stop)) (.stop)) (.fork 7 (.fork 6 (.fork 8 (.done) (.stop)) (.stop)) (.stop))) (.fork 7 (.fork 1 (.fork 6 (.fork 8 (.done) (.stop)) (.stop)) (.stop)) (.stop))) (.fork 7 (.fork 1 (.fork 5 (.fork 6 (.fork 8 (.done) (.stop)) (.stop)) (.stop)) (.fork 5 (.fork 1 (.fork 6 (.fork 8 (.done) (.stop)) (.stop)) (.stop)) (.stop))) (.stop))))],shut:=[]}
noncomputable def fc56:FCfg:={par:=[.cst false,.cst false],inn:=[(7,some ([1,2,5,10,11],[2,5])),(8,some ([5],[5]))],out:=[(5,some ([1,2,5,6,10,11,24],[2,5]))],loopK:=[(3,([1,2,5,10,11],[2,5]))],frz:=[],sch:=[],shut:=[]}
noncomputable def fc57:FCfg:={par:=[.cst false,.cst false],inn:=[(7,some ([],[]))],out:=[(4,some ([0,1,7,8,9,25],[]))],loopK:=[(2,([0,1,7,8,9],[]))],frz:=[],sch:=[],shut:=[]}
noncomputable def fc58:FCfg:={par:=[.cst false,.cst false,.cst false],inn:=[],out:=[],loopK:=[],frz:=[],sch:=[],shut:=[]}
noncomputable def fc59:FCfg:={par:=[.cst false,.cst false],inn:=[],out:=[],loopK:=[],frz:=[],sch:=[],shut:=[]}
noncomputable def fc60:FCfg:={par:=[.cst false,.cst false],inn:=[],out:=[],loopK:=[],frz:=[],sch:=[],shut:=[]}
noncomputable def fc63:FCfg:={par:=[.cst false],inn:=[(2,some ([1,3],[1,3])),(5,some ([3,5,11,12,13],[3,5])),(7,some ([3],[3])),(14,some ([3,6,7,8,28,29,33,34],[3,6,8])),(16,some ([3,6,7,28,29,33,34],[3,6])),(17,some ([3,6,28,29],[3,6])),(18,some ([6],[6]))],out:=[(5,some ([3,11,12,13],[3])),(14,some ([3,6,7,8,28,29,33,34,47],[3,6,8])),(15,some ([3,6,7,28,29,33,34],[3,6]))],loopK:=[(3,([3,11,12,13],[3])),(9,([3,6,28,29],[3,6])),(12,([3,6,7,28,29,33,34],[3,6]))],frz:=[2],sch:=[(5,.first 1 [2,3,4,5,6] [0]<| .first 2 [3,4,5,6] [0]<| .first 0 [5,6] [3,4]<| .fork 3 (.fork 4 (.fork 5 (.fork 6 (.done) (.stop)) (.stop)) (.stop)) (.stop)),(15,.first 0 [9,10] (rg [1,9])<| .first 1 [9,10] (rg [2,9])<| .first 2 [4,5,8,9,10] [3,6,7]<| .first 3 [4,5,8,9,10] [6,7]<| .first 6 [7,8,9,10] [4,5]<| .first 4 [5,8,9,10] [7]<| .first 5 [8,9,10] [7]<| .fork 7 (.fork 8 (.first 9 [10] []<| .fork 10 (.done) (.stop)) (.stop)) (.stop))],shut:=[]}
noncomputable def fc65:FCfg:={par:=[.cst false,.cst false,.cst false],inn:=[],out:=[(1,some ([6],[]))],loopK:=[],frz:=[],sch:=[],shut:=[]}
noncomputable def fc73:FCfg:={par:=[.ptr [.imm,.imm,.imm]],inn:=[(2,some ([0,2,3],[0,2,3])),(4,some ([0,2,3,4,13],[0,2,3])),(20,some ([0,2,3],[0,2,3])),(21,some ([2,3,5],[0,2,3])),(23,some ([2,3,5,6],[0,2,3])),(25,some ([2,3,5,6],[0,2,3])),(29,some ([2,3],[0,2,3]))],out:=[(11,some ([2,3],[0,2,3])),(13,some ([2,3],[0,2,3])),(15,some ([2,3],[0,2,3])),(17,some ([2,3],[0,2,3])),(28,some ([2,3],[0,2,3]))],loopK:=[(22,([2,3,5,6],[0,2,3]))],frz:=[],sch:=[(11,.first 2 [4,10,11,12] [0,1,3,5,6,7,8,9]<| .first 3 [4,10,11,12] [0,1,5,6,7,8,9]<| .first 0 [1,10,11,12] [4,5,6,7,8,9]<| .first 1 [10,11,12] [4,5,6,7,8,9]<| .first 5 (rg [6,13]) [4]<| .first 6 (rg [7,13]) [4]<| .first 7 [8,9,10,11,12] [4]<| .first 8 [9,10,11,12] [4]<| .fork 4 (.fork 9 (.first 10 [11,12] []<| .first 11 [12] []<| .fork 12 (.done) (.stop)) (.stop)) (.fork 9 (.fork 4 (.first 10 [11,12] []<| .first 11 [12] []<| .fork 12 (.done) (.stop)) (.stop)) (.stop))),(13,.first 2 [4,6,7,8,9] [0,1,3,5]<| .first 3 [4,6,7,8,9] [0,1,5]<| .first 5 [6,7,8,9] [0,1,4]<| .first 0 [1,7,8,9] [4,6]<| .first 1 [7,8,9] [4,6]<| .fork 4 (.fork 6 (.first 7 [8,9] []<| .first 8 [9] []<| .fork 9 (.done) (.stop)) (.stop)) (.stop)),(15,.first 2 [4,10,11,12,13,14] [0,1,3,5,6,7,8,9]<| .first 3 [4,10,11,12,13,14] [0,1,5,6,7,8,9]<| .first 5 [10,11,12,13,14] [0,1,4,6,7,8,9]<| .first 0 [1,12,13,14] [4,6,7,8,9,10,11]<| .first 1 [12,13,14] [4,6,7,8,9,10,11]<| .first 6 (rg [7,15]) [4]<| .first 7 (rg [8,15]) [4]<| .first 8 (rg [9,15]) [4]<| .fork 4 (.fork 9 (.fork 10 (.fork 11 (.first 12 [13,14] []<| .first 13 [14] []<| .fork 14 (.done) (.stop)) (.stop)) (.stop)) (.stop)) (.fork 9 (.fork 4 (.fork 10 (.fork 11 (.first 12 [13,14] []<| .first 13 [14] []<| .fork 14 (.done) (.stop)) (.stop)) (.stop)) (.stop)) (.stop))),(17,.first 0 [1,6,7] [2,3,4,5]<| .first 1 [6,7] [2,3,4,5]<| .first 2 [3,4,5,6,7] []<| .first 3 [4,5,6,7] []<| .first 4 [5,6,7] []<| .first 5 [6,7] []<| .first 6 [7] []<| .fork 7 (.done) (.stop)),(28,.first 2 (rg [6,10,11,16]) [0,1,3,4,5,10]<| .first 3 (rg [4,10,11,16]) [0,1,10]<| .first 4 (rg [5,10,11,16]) [0,1,10]<| .first 5 (rg [6,10,11,16]) [0,1,10]<| .first 10 [11,12,13,14,15] [0,1,6,7,8,9]<| .first 0 [1,7,8,9,12,13,14,15] [6,11]<| .first 1 [7,8,9,12,13,14,15] [6,11]<| .fork 6 (.first 7 [8,9,12,13,14,15] [11]<| .first 8 [9,12,13,14,15] [11]<| .first 9 [12,13,14,15] [11]<| .fork 11 (.first 12 [13,14,15] []<| .first 13 [14,15] []<| .first 14 [15] []<| .fork 15 (.done) (.stop)) (.stop)) (.stop))],shut:=[]}
noncomputable def fc79:FCfg:={par:=[.cst false,.cst false,.cst false],inn:=[],out:=[(1,some ([6],[]))],loopK:=[],frz:=[],sch:=[],shut:=[]}
noncomputable def fc95:FCfg:={par:=[.ptr [.imm,.imm,.imm],.cst false],inn:=[],out:=[],loopK:=[],frz:=[],sch:=[],shut:=[]}
noncomputable def fc96:FCfg:={par:=[.ptr [.imm,.imm,.imm]],inn:=[(2,some ([0,2,3],[0,2])),(3,some ([0,2,3,4],[0,2])),(4,some ([0,2,3,4,5],[0,2])),(5,some ([0,2,6],[0,2,6])),(6,some ([0,2,6],[0,2,6])),(7,some ([0,2,6],[0,2,6])),(8,some ([0,2,6],[0,2,6])),(9,some ([2,6],[0,2,6])),(10,some ([2,6],[0,2,6]))],out:=[],loopK:=[],frz:=[],sch:=[],shut:=[]}
noncomputable def fc97:FCfg:={par:=[.cst false,.cst false,.cst false],inn:=[],out:=[(1,some ([6],[]))],loopK:=[],frz:=[],sch:=[],shut:=[]}
noncomputable def fc98:FCfg:={par:=[.cut 4],inn:=[(5,some ([0,3],[])),(13,some ([],[]))],out:=[(6,some ([0,3,49],[])),(11,some ([0,3,4,69],[]))],loopK:=[(4,([0,3],[])),(9,([0,3,4],[]))],frz:=[],sch:=[(6,.first 0 (rg [1,4,5,8,12,30]) [4,8,9,10,11]<| .first 1 (rg [2,4,5,8,12,30]) [4,8,9,10,11]<| .first 2 (rg [3,4,5,8,12,30]) [4,8,9,10,11]<| .first 3 (rg [5,8,12,30]) [4,8,9,10,11]<| .first 4 (rg [5,8,12,30]) [8,9,10,11]<| .first 5 (rg [6,8,12,30]) [8,9,10,11]<| .first 6 (rg [7,8,12,30]) [8,9,10,11]<| .first 7 (rg [12,30]) [8,9,10,11]<| .first 8 (rg [9,30]) []<| .first 9 (rg [10,30]) []<| .first 10 (rg [11,30]) []<| .first 11 (rg [12,30]) []<| .fork 12 (.first 13 (rg [14,30]) []<| .first 14 (rg [15,30]) []<| .first 15 [16,17,18,20,21,22,27,28,29] [19,23,24,25,26]<| .first 16 [17,18,20,21,22,27,28,29] [19,23,24,25,26]<| .first 17 [18,20,21,22,27,28,29] [19,23,24,25,26]<| .first 18 [20,21,22,27,28,29] [19,23,24,25,26]<| .first 19 [20,21,22,27,28,29] [23,24,25,26]<| .first 20 [21,22,27,28,29] [23,24,25,26]<| .first 21 [22,27,28,29] [23,24,25,26]<| .first 22 [27,28,29] [23,24,25,26]<| .first 23 (rg [24,30]) []<| .first 24 [25,26,27,28,29] []<| .first 25 [26,27,28,29] []<| .first 26 [27,28,29] []<| .fork 27 (.first 28 [29] []<| .first 29 [] []<| .done) (.stop)) (.stop)),(11,.first 0 [1,2,3,5,6,14] (rg [4,5,7,14])<| .first 1 [2,3,5,6,14] (rg [4,5,7,14])<| .first 2 [3,5,6,14] (rg [4,5,7,14])<| .first 3 [5,6,14] (rg [4,5,7,14])<| .first 4 [5,6,14] (rg [7,14])<| .first 5 [6,14] (rg [7,14])<| .first 6 [14] (rg [7,14])<| .first 7 [8,9,10,12,13,14] [11]<| .first 8 [9,10,12,13,14] [11]<| .first 9 [10,12,13,14] [11]<| .first 10 [12,13,14] [11]<| .first 11 [12,13,14] []<| .first 12 [13,14] []<| .first 13 [14] []<| .first 14 [] []<| .done)],shut:=[]}
noncomputable def fc99:FCfg:={par:=[.cst false],inn:=[(8,some ([],[]))],out:=[(1,some ([0,16],[])),(6,some ([0,3,34],[]))],loopK:=[(4,([0,3],[]))],frz:=[],sch:=[],shut:=[]}
noncomputable def fc100:FCfg:={par:=[.cut 4,.cst false],inn:=[(8,some ([6],[6]))],out:=[(5,some ([0,1,6,7,26],[6])),(7,some ([0,1,6,7],[6]))],loopK:=[(3,([0,1,6,7],[6]))],frz:=[],sch:=[(5,.first 0 [2,3,10,11] [1,4,5,6,7,8,9]<| .first 1 [2,3,10,11] [4,5,6,7,8,9]<| .first 2 [3,10,11] [4,5,6,7,8,9]<| .first 3 [10,11] [4,5,6,7,8,9]<| .first 4 (rg [5,12]) []<| .first 5 [6,7,8,9,10,11] []<| .first 6 [7,8,9,10,11] []<| .first 7 [8,9,10,11] []<| .first 8 [9,10,11] []<| .first 9 [10,11] []<| .fork 10 (.first 11 [] []<| .done) (.stop)),(7,.first 0 [12,13] (rg [1,12])<| .first 1 (rg [2,5,9,14]) [5,6,7,8]<| .first 2 [3,4,9,10,11,12,13] [5,6,7,8]<| .first 3 [4,9,10,11,12,13] [5,6,7,8]<| .first 4 [9,10,11,12,13] [5,6,7,8]<| .first 5 (rg [7,14]) [6]<| .first 6 (rg [7,14]) []<| .first 7 (rg [8,14]) []<| .first 8 [9,10,11,12,13] []<| .first 9 [10,11,12,13] []<| .first 10 [11,12,13] []<| .fork 11 (.fork 12 (.fork 13 (.done) (.stop)) (.stop)) (.stop))],shut:=[]}
noncomputable def fc101:FCfg:={par:=[.cst false],inn:=[(9,some ([0,3],[])),(11,some ([0,3,5],[])),(13,some ([0,3,5,6],[6])),(14,some ([0,3,5,6,7],[6,7])),(15,some ([0,3,5,6,7,8],[6,7,8])),(22,some ([0],[]))],out:=[(2,some ([0,3,17],[])),(15,some ([0,3,5,6,7,66],[6,7])),(20,some ([0,3,5,6,7,9,95],[6,7]))],loopK:=[(5,([0,3,4],[])),(10,([0,3,5],[])),(18,([0,3,5,6,7,9],[6,7]))],frz:=[],sch:=[(20,.first 0 (rg [1,2,3,4,5,22]) [2,4]<| .first 1 (rg [3,4,5,22]) [2,4]<| .first 2 (rg [3,4,5,22]) [4]<| .first 3 (rg [5,22]) [4]<| .first 4 (rg [5,22]) []<| .first 5 (rg [6,22]) []<| .first 6 (rg [7,22]) []<| .first 7 [20,21] (rg [8,20])<| .first 8 [20,21] (rg [9,20])<| .first 9 [11,12,20,21] (rg [10,11,13,20])<| .first 10 [11,12,20,21] (rg [13,20])<| .first 11 [12,20,21] (rg [13,20])<| .first 12 [20,21] (rg [13,20])<| .first 13 [18,19,20,21] [14,15,16,17]<| .first 14 [15,17,18,19,20,21] [16]<| .first 15 [17,18,19,20,21] [16]<| .first 16 [17,18,19,20,21] []<| .first 17 [18,19,20,21] []<| .first 18 [19,20,21] []<| .first 19 [20,21] []<| .fork 20 (.first 21 [] []<| .done) (.stop))],shut:=[]}
noncomputable def fc102:FCfg:={par:=[.ptr [.imm,.imm,.imm]],inn:=[(2,some ([0,2,3],[0,2])),(3,some ([0,2,3,4],[0,2])),(9,some ([0,2,3,4,5,6],[0,2,5,6])),(13,some ([2,3,4,5,6],[0,2,5,6])),(16,some ([2,3,4,5,6,9,10],[0,2,5,6,9])),(21,some ([2,3,4,9],[0,2,9])),(23,some ([2,3,4,9,12],[0,2,9])),(29,some ([2,9],[0,2,9]))],out:=[(8,some ([0,2,3,4,5,6,7],[0,2,5,6])),(12,some ([0,2,3,4,5,6,8],[0,2,5,6])),(13,some ([2,3,4,5,6,9],[0,2,5,6,9])),(20,some ([2,3,4,5,6,9,10,11],[0,2,5,6,9])),(28,some ([2,3,4,9,12,13],[0,2,9]))],loopK:=[(6,([0,2,3,4,5,6,7],[0,2,5,6])),(10,([0,2,3,4,5,6,8],[0,2,5,6])),(15,([2,3,4,5,6,9,10],[0,2,5,6,9])),(18,([2,3,4,5,6,9,10,11],[0,2,5,6,9])),(22,([2,3,4,9,12],[0,2,9])),(25,([2,3,4,9,12,13],[0,2,9]))],frz:=[],sch:=[(8,.first 0 [10,11] (rg [1,10])<| .first 1 [3,4,5,8,9,10,11] [2,6,7]<| .first 2 [3,4,5,8,9,10,11] [6,7]<| .first 6 [7,8,9,10,11] [3,4,5]<| .first 3 [4,5,8,9,10,11] [7]<| .first 4 [5,8,9,10,11] [7]<| .first 5 [8,9,10,11] [7]<| .fork 7 (.first 8 [9,10,11] []<| .fork 9 (.fork 10 (.fork 11 (.done) (.stop)) (.stop)) (.stop)) (.stop)),(12,.first 0 [10,11] (rg [1,10])<| .first 1 [3,4,5,8,9,10,11] [2,6,7]<| .first 2 [3,4,5,8,9,10,11] [6,7]<| .first 6 [7,8,9,10,11] [3,4,5]<| .first 3 [4,5,8,9,10,11] [7]<| .first 4 [5,8,9,10,11] [7]<| .first 5 [8,9,10,11] [7]<| .fork 7 (.first 8 [9,10,11] []<| .fork 9 (.fork 10 (.fork 11 (.done) (.stop)) (.stop)) (.stop)) (.stop)),(13,.first 0 [2,3,8,10] [1,4,5,6,7,9]<| .first 1 [2,3,8,10] [4,5,6,7,9]<| .first 2 [3,8,10] [4,5,6,7,9]<| .first 3 [8,10] [4,5,6,7,9]<| .first 4 [6,7,8,10] [5,9]<| .first 5 [6,7,8,10] [9]<| .first 6 [7,8,10] [9]<| .first 7 [8,10] [9]<| .fork 8 (.fork 9 (.fork 10 (.done) (.stop)) (.stop)) (.fork 9 (.fork 8 (.fork 10 (.done) (.stop)) (.stop)) (.stop))),(20,.first 2 [4,5,10,11,12,13,14] [0,1,3,6,7,8,9]<| .first 3 [4,5,10,11,12,13,14] [0,1,6,7,8,9]<| .first 4 [5,10,11,12,13,14] [0,1,6,7,8,9]<| .first 5 [10,11,12,13,14] [0,1,6,7,8,9]<| .first 6 (rg [8,15]) [0,1,7]<| .first 7 (rg [8,15]) [0,1]<| .first 8 (rg [9,15]) [0,1]<| .first 9 [10,11,12,13,14] [0,1]<| .first 0 [1,12,13,14] [10,11]<| .first 1 [12,13,14] [10,11]<| .fork 10 (.fork 11 (.fork 12 (.first 13 [14] []<| .fork 14 (.done) (.stop)) (.stop)) (.stop)) (.stop)),(28,.first 2 [3,4,6,7,20,21,22,23,24] (rg [0,2,5,6,8,20])<| .first 5 [6,7,20,21,22,23,24] (rg [0,2,3,5,8,20])<| .first 8 (rg [19,25]) (rg [0,2,3,5,6,8,9,19])<| .first 9 [10,19,20,21,22,23,24] (rg [0,2,3,5,6,8,11,19])<| .first 10 (rg [19,25]) (rg [0,2,3,5,6,8,11,19])<| .first 11 (rg [13,15,19,25]) [0,1,3,4,6,7,12,15,16,17,18]<| .first 12 (rg [13,15,19,25]) [0,1,3,4,6,7,15,16,17,18]<| .first 13 [14,19,20,21,22,23,24] [0,1,3,4,6,7,15,16,17,18]<| .first 14 (rg [19,25]) [0,1,3,4,6,7,15,16,17,18]<| .first 15 (rg [17,25]) [0,1,3,4,6,7,16]<| .first 16 (rg [17,25]) [0,1,3,4,6,7]<| .first 17 (rg [18,25]) [0,1,3,4,6,7]<| .first 18 (rg [19,25]) [0,1,3,4,6,7]<| .first 0 [1,22,23,24] [3,4,6,7,19,20,21]<| .first 1 [22,23,24] [3,4,6,7,19,20,21]<| .fork 3 (.first 4 [7,20,21,22,23,24] [6,19]<| .fork 6 (.first 7 [20,21,22,23,24] [19]<| .fork 19 (.fork 20 (.fork 21 (.fork 22 (.first 23 [24] []<| .fork 24 (.done) (.stop)) (.stop)) (.stop)) (.stop)) (.stop)) (.fork 19 (.fork 6 (.first 7 [20,21,22,23,24] []<| .fork 20 (.fork 21 (.fork 22 (.first 23 [24] []<| .fork 24 (.done) (.stop)) (.stop)) (.stop)) (.stop)) (.stop)) (.stop))) (.fork 19 (.fork 3 (.first 4 [7,20,21,22,23,24] [6]<| .fork 6 (.first 7 [20,21,22,23,24] []<| .fork 20 (.fork 21 (.fork 22 (.first 23 [24] []<| .fork 24 (.done) (.stop)) (.stop)) (.stop)) (.stop)) (.stop)) (.stop)) (.stop)))],shut:=[]}
noncomputable def fc103:FCfg:={par:=[.ptr [.imm,.imm,.imm],.mvs],inn:=[(2,some ([0,3,4,5],[0,3,4,5])),(4,some ([0,3,4,5,6],[0,3,4,5])),(6,some ([0,3,4,5,6,7],[0,3,4,5,7])),(10,some ([4,5],[0,4,5]))],out:=[(6,some ([0,3,4,5,6,7,34],[0,3,4,5,7])),(7,some ([0,3,4,5,6,7],[0,3,4,5,7])),(8,some ([0,3,4,5,6],[0,3,4,5]))],loopK:=[(3,([0,3,4,5,6],[0,3,4,5]))],frz:=[],sch:=[(7,.first 4 (rg [5,8,16,22]) (rg [0,4,8,16])<| .first 5 (rg [6,8,16,22]) (rg [0,4,8,16])<| .first 6 (rg [7,8,16,22]) (rg [0,4,8,16])<| .first 7 (rg [16,22]) (rg [0,4,8,16])<| .first 8 (rg [9,12,16,22]) (rg [0,4,12,16])<| .first 9 (rg [10,12,16,22]) (rg [0,4,12,16])<| .first 10 [11,16,17,18,19,20,21] (rg [0,4,12,16])<| .first 11 (rg [16,22]) (rg [0,4,12,16])<| .first 12 (rg [13,22]) [0,1,2,3]<| .first 13 (rg [14,22]) [0,1,2,3]<| .first 14 (rg [15,22]) [0,1,2,3]<| .first 15 (rg [16,22]) [0,1,2,3]<| .first 0 [1,19,20,21] [2,3,16,17,18]<| .first 1 [19,20,21] [2,3,16,17,18]<| .first 2 [3,17,18,19,20,21] [16]<| .first 3 [17,18,19,20,21] [16]<| .fork 16 (.fork 17 (.fork 18 (.fork 19 (.first 20 [21] []<| .fork 21 (.done) (.stop)) (.stop)) (.stop)) (.stop)) (.stop)),(8,.first 5 (rg [6,9,17,23]) (rg [0,5,9,17])<| .first 6 (rg [7,9,17,23]) (rg [0,5,9,17])<| .first 7 (rg [8,9,17,23]) (rg [0,5,9,17])<| .first 8 (rg [17,23]) (rg [0,5,9,17])<| .first 9 (rg [10,13,17,23]) (rg [0,5,13,17])<| .first 10 (rg [11,13,17,23]) (rg [0,5,13,17])<| .first 11 [12,17,18,19,20,21,22] (rg [0,5,13,17])<| .first 12 (rg [17,23]) (rg [0,5,13,17])<| .first 13 (rg [14,23]) [0,1,2,3,4]<| .first 14 (rg [15,23]) [0,1,2,3,4]<| .first 15 (rg [16,23]) [0,1,2,3,4]<| .first 16 (rg [17,23]) [0,1,2,3,4]<| .first 0 [1,20,21,22] [2,3,4,17,18,19]<| .first 1 [20,21,22] [2,3,4,17,18,19]<| .first 2 [3,4,18,19,20,21,22] [17]<| .first 3 [4,18,19,20,21,22] [17]<| .first 4 [18,19,20,21,22] [17]<| .fork 17 (.fork 18 (.fork 19 (.fork 20 (.first 21 [22] []<| .fork 22 (.done) (.stop)) (.stop)) (.stop)) (.stop)) (.stop))],shut:=[]}
noncomputable def fc104:FCfg:={par:=[.ptr [.imm,.imm,.imm,.imm,.sh,.imm],.mv],inn:=[(2,some ([0,1],[0,1])),(7,some ([0],[0])),(8,some ([0],[0])),(13,some ([],[0])),(14,some ([0,1,53,54,55],[0,1,53])),(15,some ([],[0]))],out:=[],loopK:=[(10,([0,1,53,54,55],[0,1,53]))],frz:=[],sch:=[],shut:=[]}
noncomputable def fc105:FCfg:={par:=[.cst false,.cst false],inn:=[],out:=[],loopK:=[],frz:=[],sch:=[],shut:=[]}
noncomputable def fc106:FCfg:={par:=[.cst false],inn:=[(8,some ([],[]))],out:=[(1,some ([0,21],[])),(6,some ([0,3,49],[]))],loopK:=[(4,([0,3],[]))],frz:=[],sch:=[],shut:=[]}
noncomputable def fc107:FCfg:={par:=[.cst false,.cst false],inn:=[(9,some ([6],[6]))],out:=[],loopK:=[(3,([0,6,10,11,12],[6]))],frz:=[],sch:=[],shut:=[]}
noncomputable def fc108:FCfg:={par:=[.cst false],inn:=[(15,some ([0,3,23,24],[])),(16,some ([0],[]))],out:=[(2,some ([0,3,21],[])),(7,some ([0,3,4,5,6,7,23,24],[5,6,7])),(8,some ([0,3,4,5,6,23,24,59],[5,6])),(13,some ([0,3,4,5,6,8,23,24,88],[5,6]))],loopK:=[(5,([0,3,23,24],[])),(11,([0,3,4,5,6,8,23,24],[5,6]))],frz:=[],sch:=[(7,.first 0 [2,3,21,22,23] (rg [1,2,4,21])<| .first 1 [2,3,21,22,23] (rg [4,21])<| .first 2 [3,21,22,23] (rg [4,21])<| .first 3 [21,22,23] (rg [4,21])<| .first 4 [9,10,22,23] (rg [5,9,11,22])<| .first 5 [6,8,9,10,22,23] (rg [7,8,11,22])<| .first 6 [8,9,10,22,23] (rg [7,8,11,22])<| .first 7 [8,9,10,22,23] (rg [11,22])<| .first 8 [9,10,22,23] (rg [11,22])<| .first 9 [10,22,23] (rg [11,22])<| .first 10 [22,23] (rg [11,22])<| .first 11 [16,17,23] (rg [12,16,18,23])<| .first 12 [13,15,16,17,23] [14,18,19,20,21,22]<| .first 13 [15,16,17,23] [14,18,19,20,21,22]<| .first 14 [15,16,17,23] [18,19,20,21,22]<| .first 15 [16,17,23] [18,19,20,21,22]<| .first 16 [17,23] [18,19,20,21,22]<| .first 17 [23] [18,19,20,21,22]<| .fork 18 (.fork 19 (.fork 20 (.fork 21 (.fork 22 (.fork 23 (.done) (.stop)) (.stop)) (.stop)) (.stop)) (.fork 20 (.fork 19 (.fork 21 (.fork 22 (.fork 23 (.done) (.stop)) (.stop)) (.stop)) (.stop)) (.stop))) (.fork 19 (.fork 18 (.fork 20 (.fork 21 (.fork 22 (.fork 23 (.done) (.stop)) (.stop)) (.stop)) (.stop)) (.fork 20 (.fork 18 (.fork 21 (.fork 22 (.fork 23 (.done) (.stop)) (.stop)) (.stop)) (.stop)) (.stop))) (.fork 20 (.fork 18 (.fork 19 (.fork 21 (.fork 22 (.fork 23 (.done) (.stop)) (.stop)) (.stop)) (.stop)) (.fork 19 (.fork 18 (.fork 21 (.fork 22 (.fork 23 (.done) (.stop)) (.stop)) (.stop)) (.stop)) (.stop))) (.stop)))),(13,.first 0 (rg [1,2,3,4,5,22]) [2,4]<| .first 1 (rg [3,4,5,22]) [2,4]<| .first 2 (rg [3,4,5,22]) [4]<| .first 3 (rg [5,22]) [4]<| .first 4 (rg [5,22]) []<| .first 5 (rg [6,22]) []<| .first 6 (rg [7,22]) []<| .first 7 [20,21] (rg [8,20])<| .first 8 [20,21] (rg [9,20])<| .first 9 [11,12,20,21] (rg [10,11,13,20])<| .first 10 [11,12,20,21] (rg [13,20])<| .first 11 [12,20,21] (rg [13,20])<| .first 12 [20,21] (rg [13,20])<| .first 13 [18,19,20,21] [14,15,16,17]<| .first 14 [15,17,18,19,20,21] [16]<| .first 15 [17,18,19,20,21] [16]<| .first 16 [17,18,19,20,21] []<| .first 17 [18,19,20,21] []<| .first 18 [19,20,21] []<| .first 19 [20,21] []<| .fork 20 (.first 21 [] []<| .done) (.stop))],shut:=[]}
noncomputable def fc109:FCfg:={par:=[.cst false,.cst false],inn:=[],out:=[(1,some ([5],[5]))],loopK:=[],frz:=[],sch:=[(1,.first 0 [1,8,9,10,11,12,13] [2,3,4,5,6,7]<| .first 1 (rg [8,14]) [2,3,4,5,6,7]<| .first 2 (rg [3,4,5,14]) [4]<| .first 3 (rg [5,14]) [4]<| .first 4 (rg [5,14]) []<| .first 5 (rg [6,14]) []<| .first 6 (rg [7,14]) []<| .first 7 (rg [8,14]) []<| .fork 8 (.first 9 [10,11,12,13] []<| .first 10 [12,13] [11]<| .first 11 [13] [12]<| .fork 12 (.fork 13 (.done) (.stop)) (.stop)) (.stop))],shut:=[]}
noncomputable def fc110:FCfg:={par:=[.cst false,.cst false,.cst false],inn:=[],out:=[(1,some ([6],[]))],loopK:=[],frz:=[],sch:=[],shut:=[]}
noncomputable def fc111:FCfg:={par:=[.cst false,.cst false],inn:=[(7,some ([],[]))],out:=[],loopK:=[(2,([0,1,7,8],[]))],frz:=[],sch:=[],shut:=[]}
noncomputable def fc112:FCfg:={par:=[.cst false,.cst false],inn:=[(7,some ([],[]))],out:=[],loopK:=[(2,([0,1,7,8],[]))],frz:=[],sch:=[],shut:=[]}
noncomputable def fc113:FCfg:={par:=[.cst false],inn:=[(8,some ([3],[3]))],out:=[],loopK:=[(3,([0,3,8,9,10],[3]))],frz:=[],sch:=[],shut:=[]}
noncomputable def fc114:FCfg:={par:=[.cst false,.cst false],inn:=[],out:=[],loopK:=[],frz:=[],sch:=[],shut:=[]}
noncomputable def fc115:FCfg:={par:=[.cst false],inn:=[],out:=[(1,some ([4],[]))],loopK:=[],frz:=[],sch:=[(1,.first 0 [2,3,5,6] [1,4]<| .first 1 [2,3,5,6] [4]<| .first 2 [3,5,6] [4]<| .first 3 [5,6] [4]<| .first 4 [5,6] []<| .fork 5 (.fork 6 (.done) (.stop)) (.stop))],shut:=[]}
noncomputable def fc116:FCfg:={par:=[.cst false,.cst false],inn:=[],out:=[],loopK:=[],frz:=[],sch:=[],shut:=[]}
noncomputable def fc117:FCfg:={par:=[.cst false],inn:=[],out:=[],loopK:=[],frz:=[],sch:=[],shut:=[]}
noncomputable def fc118:FCfg:={par:=[.ptr [.imm,.imm,.imm],.cst false],inn:=[(4,some ([0,1,5],[0])),(6,some ([1,5],[0]))],out:=[],loopK:=[],frz:=[],sch:=[],shut:=[]}
noncomputable def fc127:FCfg:={par:=[.ptr [.imm,.imm,.imm],.cst false],inn:=[],out:=[],loopK:=[],frz:=[],sch:=[],shut:=[]}
noncomputable def fc128:FCfg:={par:=[.ptr [.imm,.imm,.imm]],inn:=[],out:=[],loopK:=[],frz:=[],sch:=[],shut:=[]}
noncomputable def fc142:FCfg:={par:=[.cst false],inn:=[],out:=[(1,some ([2],[]))],loopK:=[],frz:=[],sch:=[],shut:=[]}
noncomputable def fc143:FCfg:={par:=[.cst false],inn:=[],out:=[(1,some ([2],[]))],loopK:=[],frz:=[],sch:=[],shut:=[]}
noncomputable def fc144:FCfg:={par:=[.cst false],inn:=[],out:=[(1,some ([2],[]))],loopK:=[],frz:=[],sch:=[],shut:=[]}
noncomputable def fc145:FCfg:={par:=[.cst false,.cst false,.cst false],inn:=[],out:=[(1,some ([6],[]))],loopK:=[],frz:=[],sch:=[(1,.first 0 (rg [3,36]) [1,2]<| .first 1 (rg [3,36]) [2]<| .first 2 (rg [3,36]) []<| .fork 3 (.first 4 (rg [5,36]) []<| .first 5 (rg [6,36]) []<| .first 6 (rg [7,8,18,36]) (rg [8,18])<| .first 7 (rg [18,36]) (rg [8,18])<| .first 8 (rg [9,10,12,13,17,36]) [10,11,13,14,15,16]<| .first 9 (rg [12,13,17,36]) [10,11,13,14,15,16]<| .first 10 (rg [11,13,17,36]) [13,14,15,16]<| .first 11 (rg [12,13,17,36]) [13,14,15,16]<| .first 13 (rg [14,15,17,36]) [12,15,16]<| .first 14 (rg [17,36]) [12,15,16]<| .first 15 (rg [16,36]) [12]<| .first 16 (rg [17,36]) [12]<| .fork 12 (.fork 17 (.fork 18 (.first 19 (rg [20,36]) []<| .first 20 (rg [21,36]) []<| .first 21 [22,33,34,35] (rg [23,33])<| .first 22 [33,34,35] (rg [23,33])<| .first 23 [24,27,32,33,34,35] [25,26,28,29,30,31]<| .first 24 [27,32,33,34,35] [25,26,28,29,30,31]<| .first 25 [26,27,32,33,34,35] [28,29,30,31]<| .first 26 [27,32,33,34,35] [28,29,30,31]<| .first 28 [29,32,33,34,35] [27,30,31]<| .first 29 [32,33,34,35] [27,30,31]<| .first 30 [31,32,33,34,35] [27]<| .first 31 [32,33,34,35] [27]<| .fork 27 (.fork 32 (.fork 33 (.first 34 [35] []<| .fork 35 (.done) (.stop)) (.stop)) (.stop)) (.stop)) (.stop)) (.stop)) (.stop)) (.stop))],shut:=[]}
noncomputable def fc146:FCfg:={par:=[.cst false,.cst false,.cst false,.cst false],inn:=[],out:=[(1,some ([8],[]))],loopK:=[],frz:=[],sch:=[],shut:=[]}
noncomputable def fc147:FCfg:={par:=[.cst false],inn:=[(6,some ([0,3,4,5],[5])),(7,some ([3],[]))],out:=[(6,some ([0,3,4],[]))],loopK:=[(3,([0,3,4],[]))],frz:=[],sch:=[(6,.first 0 [18,19] (rg [1,18])<| .first 1 [3,4,5,8,17,18,19] (rg [2,3,6,8,9,17])<| .first 2 [3,4,5,8,17,18,19] (rg [6,8,9,17])<| .first 3 [4,5,8,17,18,19] (rg [6,8,9,17])<| .first 4 [5,8,17,18,19] (rg [6,8,9,17])<| .first 5 [8,17,18,19] (rg [6,8,9,17])<| .first 6 [7,8,17,18,19] (rg [9,17])<| .first 7 [8,17,18,19] (rg [9,17])<| .first 8 [17,18,19] (rg [9,17])<| .first 9 [11,12,13,16,17,18,19] [10,14,15]<| .first 10 [11,12,13,16,17,18,19] [14,15]<| .first 11 [12,13,16,17,18,19] [14,15]<| .first 12 [13,16,17,18,19] [14,15]<| .first 13 [16,17,18,19] [14,15]<| .first 14 [15,16,17,18,19] []<| .first 15 [16,17,18,19] []<| .first 16 [17,18,19] []<| .first 17 [18,19] []<| .first 18 [19] []<| .fork 19 (.done) (.stop))],shut:=[]}
noncomputable def fc148:FCfg:={par:=[.cst false],inn:=[(10,some ([0,3,4,5],[3])),(11,some ([0,3],[3])),(13,some ([3],[3])),(18,some ([6],[6]))],out:=[],loopK:=[(5,([0,3,4],[3])),(15,([3,6,7],[3,6]))],frz:=[],sch:=[],shut:=[]}
noncomputable def fc149:FCfg:={par:=[.cst false,.cst false],inn:=[(7,some ([],[]))],out:=[(4,some ([0,3,5,7,8,16],[3]))],loopK:=[(2,([0,3,7,8],[3]))],frz:=[],sch:=[(4,.first 0 [5] [1,2,3,4]<| .first 1 [3,4,5] [2]<| .first 2 [3,4,5] []<| .first 3 [4,5] []<| .first 4 [5] []<| .first 5 [] []<| .done)],shut:=[]}
noncomputable def fc150:FCfg:={par:=[.cst false],inn:=[(4,some ([4,5,6,7],[4])),(7,some ([],[]))],out:=[],loopK:=[(2,([5,6,7],[]))],frz:=[],sch:=[],shut:=[]}
noncomputable def fc151:FCfg:={par:=[.cst false,.cst false,.cst false],inn:=[],out:=[(1,some ([6],[]))],loopK:=[],frz:=[],sch:=[],shut:=[]}
noncomputable def fc152:FCfg:={par:=[.cst false,.cst false,.cst false,.cst false],inn:=[],out:=[(1,some ([8],[]))],loopK:=[],frz:=[],sch:=[],shut:=[]}
noncomputable def fc153:FCfg:={par:=[.cst false],inn:=[(5,some ([0,3,4,5,7,8,9],[5])),(6,some ([0,3,5,6,7,8,9],[5,6])),(8,some ([3],[]))],out:=[],loopK:=[(3,([0,3,7,8,9],[]))],frz:=[],sch:=[],shut:=[]}
noncomputable def fc154:FCfg:={par:=[.cst false],inn:=[],out:=[],loopK:=[],frz:=[],sch:=[],shut:=[]}
noncomputable def fc155:FCfg:={par:=[.cst false,.cst false],inn:=[(7,some ([],[]))],out:=[],loopK:=[(2,([0,1,7,8],[]))],frz:=[],sch:=[],shut:=[]}
noncomputable def fc156:FCfg:={par:=[.cst false,.cst false],inn:=[(7,some ([],[]))],out:=[(4,some ([0,3,5,7,8,16],[3]))],loopK:=[(2,([0,3,7,8],[3]))],frz:=[],sch:=[(4,.first 0 [5] [1,2,3,4]<| .first 1 [3,4,5] [2]<| .first 2 [3,4,5] []<| .first 3 [4,5] []<| .first 4 [5] []<| .first 5 [] []<| .done)],shut:=[]}
noncomputable def fc157:FCfg:={par:=[.ptr [.imm,.imm,.imm]],inn:=[(4,some ([0,3],[0])),(5,some ([0,3],[0])),(6,some ([0,3],[0]))],out:=[(2,some ([0,3,13],[0])),(3,some ([0,3],[0])),(6,some ([0,3,53],[0]))],loopK:=[],frz:=[],sch:=[(2,.first 0 [1,2,3,9] [4,5,6,7,8]<| .first 1 [2,3,9] [4,5,6,7,8]<| .first 2 [3,9] [4,5,6,7,8]<| .first 3 [9] [4,5,6,7,8]<| .first 4 [5,6,7,8,9] []<| .first 5 [6,7,8,9] []<| .first 6 [7,8,9] []<| .first 7 [8,9] []<| .first 8 [9] []<| .first 9 [] []<| .done),(3,.first 0 [1,2,3,8,9,10,11] [4,5,6,7]<| .first 1 [2,3,8,9,10,11] [4,5,6,7]<| .first 2 [3,8,9,10,11] [4,5,6,7]<| .first 3 [8,9,10,11] [4,5,6,7]<| .first 4 (rg [5,12]) []<| .first 5 [6,7,8,9,10,11] []<| .first 6 [7,8,9,10,11] []<| .first 7 [8,9,10,11] []<| .first 8 [9,10,11] []<| .first 9 [10,11] []<| .fork 10 (.fork 11 (.done) (.stop)) (.stop)),(6,.first 0 [1,2,3,9] [4,5,6,7,8]<| .first 1 [2,3,9] [4,5,6,7,8]<| .first 2 [3,9] [4,5,6,7,8]<| .first 3 [9] [4,5,6,7,8]<| .first 4 [5,6,7,8,9] []<| .first 5 [6,7,8,9] []<| .first 6 [7,8,9] []<| .first 7 [8,9] []<| .first 8 [9] []<| .first 9 [] []<| .done)],shut:=[]}
noncomputable def fc160:FCfg:={par:=[.cst false,.cst false],inn:=[],out:=[],loopK:=[],frz:=[],sch:=[],shut:=[]}
noncomputable def fc161:FCfg:={par:=[.cst false,.cst false],inn:=[],out:=[],loopK:=[],frz:=[],sch:=[],shut:=[]}
noncomputable def fc165:FCfg:={par:=[.ptr [.imm,.imm,.imm],.cst false],inn:=[],out:=[],loopK:=[],frz:=[],sch:=[],shut:=[]}
noncomputable def fc175:FCfg:={par:=[.cst false,.cst false,.cst false],inn:=[],out:=[],loopK:=[],frz:=[],sch:=[],shut:=[]}
noncomputable def fc176:FCfg:={par:=[.cst false,.cst false,.cst false,.cst false],inn:=[],out:=[(1,some ([8],[]))],loopK:=[],frz:=[],sch:=[(1,.first 0 (rg [3,4,7,23]) [1,2,4,5,6]<| .first 1 (rg [3,4,7,23]) [2,4,5,6]<| .first 2 (rg [3,4,7,23]) [4,5,6]<| .first 4 (rg [7,23]) [3,5,6]<| .first 5 (rg [7,23]) [3,6]<| .first 6 (rg [7,23]) [3]<| .fork 3 (.fork 7 (.first 8 (rg [9,23]) []<| .first 9 (rg [10,23]) []<| .first 10 (rg [11,23]) []<| .first 11 [14,18,19,20,21,22] [12,13,15,16,17]<| .first 12 [14,18,19,20,21,22] [13,15,16,17]<| .first 13 [14,18,19,20,21,22] [15,16,17]<| .first 15 [18,19,20,21,22] [14,16,17]<| .first 16 [18,19,20,21,22] [14,17]<| .first 17 [18,19,20,21,22] [14]<| .fork 14 (.fork 18 (.first 19 [20,21,22] []<| .first 20 [21,22] []<| .first 21 [22] []<| .fork 22 (.done) (.stop)) (.stop)) (.stop)) (.stop)) (.stop))],shut:=[]}
noncomputable def fc177:FCfg:={par:=[.cst false],inn:=[],out:=[(1,some ([2],[]))],loopK:=[],frz:=[],sch:=[],shut:=[]}
noncomputable def fc178:FCfg:={par:=[.cst false,.cst false,.cst false],inn:=[],out:=[],loopK:=[],frz:=[],sch:=[],shut:=[]}
noncomputable def fc179:FCfg:={par:=[.cst false,.cst false,.cst false,.cst false],inn:=[],out:=[(1,some ([8],[]))],loopK:=[],frz:=[],sch:=[(1,.first 0 (rg [3,4,7,23]) [1,2,4,5,6]<| .first 1 (rg [3,4,7,23]) [2,4,5,6]<| .first 2 (rg [3,4,7,23]) [4,5,6]<| .first 4 (rg [7,23]) [3,5,6]<| .first 5 (rg [7,23]) [3,6]<| .first 6 (rg [7,23]) [3]<| .fork 3 (.fork 7 (.first 8 (rg [9,23]) []<| .first 9 (rg [10,23]) []<| .first 10 (rg [11,23]) []<| .first 11 [14,18,19,20,21,22] [12,13,15,16,17]<| .first 12 [14,18,19,20,21,22] [13,15,16,17]<| .first 13 [14,18,19,20,21,22] [15,16,17]<| .first 15 [18,19,20,21,22] [14,16,17]<| .first 16 [18,19,20,21,22] [14,17]<| .first 17 [18,19,20,21,22] [14]<| .fork 14 (.fork 18 (.first 19 [20,21,22] []<| .first 20 [21,22] []<| .first 21 [22] []<| .fork 22 (.done) (.stop)) (.stop)) (.stop)) (.stop)) (.stop))],shut:=[]}
noncomputable def fc201:FCfg:={par:=[.cst false,.cst false,.cst false],inn:=[],out:=[],loopK:=[],frz:=[],sch:=[],shut:=[]}
noncomputable def fcs:List (Nat×FCfg):=[(3,fc3),(9,fc9),(10,fc10),(11,fc11),(12,fc12),(13,fc13),(14,fc14),(15,fc15),(49,fc49),(50,fc50),(51,fc51),(52,fc52),(53,fc53),(54,fc54),(55,fc55),(56,fc56),(57,fc57),(58,fc58),(59,fc59),(60,fc60),(63,fc63),(65,fc65),(73,fc73),(79,fc79),(95,fc95),(96,fc96),(97,fc97),(98,fc98),(99,fc99),(100,fc100),(101,fc101),(102,fc102),(103,fc103),(104,fc104),(105,fc105),(106,fc106),(107,fc107),(108,fc108),(109,fc109),(110,fc110),(111,fc111),(112,fc112),(113,fc113),(114,fc114),(115,fc115),(116,fc116),(117,fc117),(118,fc118),(127,fc127),(128,fc128),(142,fc142),(143,fc143),(144,fc144),(145,fc145),(146,fc146),(147,fc147),(148,fc148),(149,fc149),(150,fc150),(151,fc151),(152,fc152),(153,fc153),(154,fc154),(155,fc155),(156,fc156),(157,fc157),(160,fc160),(161,fc161),(165,fc165),(175,fc175),(176,fc176),(177,fc177),(178,fc178),(179,fc179),(201,fc201)]
noncomputable def ons:List (Nat×Bool):=[(3,true),(9,true),(10,true),(11,true),(12,true),(13,true),(14,true),(15,true),(49,true),(50,true),(51,true),(52,true),(53,true),(54,true),(55,true),(56,true),(57,true),(58,true),(59,true),(60,true),(63,true),(65,true),(73,true),(79,true),(95,true),(96,true),(97,true),(98,true),(99,true),(100,true),(101,true),(102,true),(103,true),(104,true),(105,true),(106,true),(107,true),(108,true),(109,true),(110,true),(111,true),(112,true),(113,true),(114,true),(115,true),(116,true),(117,true),(118,true),(127,true),(128,true),(142,true),(143,true),(144,true),(145,true),(146,true),(147,true),(148,true),(149,true),(150,true),(151,true),(152,true),(153,true),(154,true),(155,true),(156,true),(157,true),(160,true),(161,true),(165,true),(175,true),(176,true),(177,true),(178,true),(179,true),(201,true)]
noncomputable def cfg:Cfg:=mkCfg ons fcs [(131,some (extCloneN 1 8))] [(61,26)] [] [(39,29),(39,42)]
theorem c3:cfg.fc 3=fc3:=rfl
instance C3:Cf cfg 3 fc3:=⟨c3⟩
instance Z3:Zf cfg 3:=⟨rfl⟩
theorem z3:(cfg.fc 3).frz=[]:=rfl
theorem c9:cfg.fc 9=fc9:=rfl
instance C9:Cf cfg 9 fc9:=⟨c9⟩
instance Z9:Zf cfg 9:=⟨rfl⟩
theorem c10:cfg.fc 10=fc10:=rfl
instance C10:Cf cfg 10 fc10:=⟨c10⟩
theorem z10:(cfg.fc 10).frz=[4]:=rfl
theorem c11:cfg.fc 11=fc11:=rfl
instance C11:Cf cfg 11 fc11:=⟨c11⟩
instance Z11:Zf cfg 11:=⟨rfl⟩
theorem c12:cfg.fc 12=fc12:=rfl
instance C12:Cf cfg 12 fc12:=⟨c12⟩
instance Z12:Zf cfg 12:=⟨rfl⟩
theorem c13:cfg.fc 13=fc13:=rfl
instance C13:Cf cfg 13 fc13:=⟨c13⟩
instance Z13:Zf cfg 13:=⟨rfl⟩
theorem c14:cfg.fc 14=fc14:=rfl
instance C14:Cf cfg 14 fc14:=⟨c14⟩
instance Z14:Zf cfg 14:=⟨rfl⟩
theorem z14:(cfg.fc 14).frz=[]:=rfl
theorem c15:cfg.fc 15=fc15:=rfl
instance C15:Cf cfg 15 fc15:=⟨c15⟩
instance Z15:Zf cfg 15:=⟨rfl⟩
theorem c49:cfg.fc 49=fc49:=rfl
instance C49:Cf cfg 49 fc49:=⟨c49⟩
instance Z49:Zf cfg 49:=⟨rfl⟩
theorem c50:cfg.fc 50=fc50:=rfl
instance C50:Cf cfg 50 fc50:=⟨c50⟩
instance Z50:Zf cfg 50:=⟨rfl⟩
theorem c51:cfg.fc 51=fc51:=rfl
instance C51:Cf cfg 51 fc51:=⟨c51⟩
instance Z51:Zf cfg 51:=⟨rfl⟩
theorem z51:(cfg.fc 51).frz=[]:=rfl
theorem c52:cfg.fc 52=fc52:=rfl
instance C52:Cf cfg 52 fc52:=⟨c52⟩
instance Z52:Zf cfg 52:=⟨rfl⟩
theorem c53:cfg.fc 53=fc53:=rfl
instance C53:Cf cfg 53 fc53:=⟨c53⟩
instance Z53:Zf cfg 53:=⟨rfl⟩
theorem c54:cfg.fc 54=fc54:=rfl
instance C54:Cf cfg 54 fc54:=⟨c54⟩
instance Z54:Zf cfg 54:=⟨rfl⟩
theorem z54:(cfg.fc 54).frz=[]:=rfl
theorem c55:cfg.fc 55=fc55:=rfl
instance C55:Cf cfg 55 fc55:=⟨c55⟩
instance Z55:Zf cfg 55:=⟨rfl⟩
theorem z55:(cfg.fc 55).frz=[]:=rfl
theorem c56:cfg.fc 56=fc56:=rfl
instance C56:Cf cfg 56 fc56:=⟨c56⟩
instance Z56:Zf cfg 56:=⟨rfl⟩
theorem c57:cfg.fc 57=fc57:=rfl
instance C57:Cf cfg 57 fc57:=⟨c57⟩
instance Z57:Zf cfg 57:=⟨rfl⟩
theorem c58:cfg.fc 58=fc58:=rfl
instance C58:Cf cfg 58 fc58:=⟨c58⟩
instance Z58:Zf cfg 58:=⟨rfl⟩
theorem c59:cfg.fc 59=fc59:=rfl
instance C59:Cf cfg 59 fc59:=⟨c59⟩
instance Z59:Zf cfg 59:=⟨rfl⟩
theorem c60:cfg.fc 60=fc60:=rfl
instance C60:Cf cfg 60 fc60:=⟨c60⟩
instance Z60:Zf cfg 60:=⟨rfl⟩
theorem c63:cfg.fc 63=fc63:=rfl
instance C63:Cf cfg 63 fc63:=⟨c63⟩
theorem z63:(cfg.fc 63).frz=[2]:=rfl
theorem c65:cfg.fc 65=fc65:=rfl
instance C65:Cf cfg 65 fc65:=⟨c65⟩
instance Z65:Zf cfg 65:=⟨rfl⟩
theorem c73:cfg.fc 73=fc73:=rfl
instance C73:Cf cfg 73 fc73:=⟨c73⟩
instance Z73:Zf cfg 73:=⟨rfl⟩
theorem z73:(cfg.fc 73).frz=[]:=rfl
theorem c79:cfg.fc 79=fc79:=rfl
instance C79:Cf cfg 79 fc79:=⟨c79⟩
instance Z79:Zf cfg 79:=⟨rfl⟩
theorem c95:cfg.fc 95=fc95:=rfl
instance C95:Cf cfg 95 fc95:=⟨c95⟩
instance Z95:Zf cfg 95:=⟨rfl⟩
theorem c96:cfg.fc 96=fc96:=rfl
instance C96:Cf cfg 96 fc96:=⟨c96⟩
instance Z96:Zf cfg 96:=⟨rfl⟩
theorem c97:cfg.fc 97=fc97:=rfl
instance C97:Cf cfg 97 fc97:=⟨c97⟩
instance Z97:Zf cfg 97:=⟨rfl⟩
theorem c98:cfg.fc 98=fc98:=rfl
instance C98:Cf cfg 98 fc98:=⟨c98⟩
instance Z98:Zf cfg 98:=⟨rfl⟩
theorem z98:(cfg.fc 98).frz=[]:=rfl
theorem c99:cfg.fc 99=fc99:=rfl
instance C99:Cf cfg 99 fc99:=⟨c99⟩
instance Z99:Zf cfg 99:=⟨rfl⟩
theorem c100:cfg.fc 100=fc100:=rfl
instance C100:Cf cfg 100 fc100:=⟨c100⟩
instance Z100:Zf cfg 100:=⟨rfl⟩
theorem z100:(cfg.fc 100).frz=[]:=rfl
theorem c101:cfg.fc 101=fc101:=rfl
instance C101:Cf cfg 101 fc101:=⟨c101⟩
instance Z101:Zf cfg 101:=⟨rfl⟩
theorem z101:(cfg.fc 101).frz=[]:=rfl
theorem c102:cfg.fc 102=fc102:=rfl
instance C102:Cf cfg 102 fc102:=⟨c102⟩
instance Z102:Zf cfg 102:=⟨rfl⟩
theorem z102:(cfg.fc 102).frz=[]:=rfl
theorem c103:cfg.fc 103=fc103:=rfl
instance C103:Cf cfg 103 fc103:=⟨c103⟩
instance Z103:Zf cfg 103:=⟨rfl⟩
theorem z103:(cfg.fc 103).frz=[]:=rfl
theorem c104:cfg.fc 104=fc104:=rfl
instance C104:Cf cfg 104 fc104:=⟨c104⟩
instance Z104:Zf cfg 104:=⟨rfl⟩
theorem c105:cfg.fc 105=fc105:=rfl
instance C105:Cf cfg 105 fc105:=⟨c105⟩
instance Z105:Zf cfg 105:=⟨rfl⟩
theorem c106:cfg.fc 106=fc106:=rfl
instance C106:Cf cfg 106 fc106:=⟨c106⟩
instance Z106:Zf cfg 106:=⟨rfl⟩
theorem c107:cfg.fc 107=fc107:=rfl
instance C107:Cf cfg 107 fc107:=⟨c107⟩
instance Z107:Zf cfg 107:=⟨rfl⟩
theorem c108:cfg.fc 108=fc108:=rfl
instance C108:Cf cfg 108 fc108:=⟨c108⟩
instance Z108:Zf cfg 108:=⟨rfl⟩
theorem z108:(cfg.fc 108).frz=[]:=rfl
theorem c109:cfg.fc 109=fc109:=rfl
instance C109:Cf cfg 109 fc109:=⟨c109⟩
instance Z109:Zf cfg 109:=⟨rfl⟩
theorem z109:(cfg.fc 109).frz=[]:=rfl
theorem c110:cfg.fc 110=fc110:=rfl
instance C110:Cf cfg 110 fc110:=⟨c110⟩
instance Z110:Zf cfg 110:=⟨rfl⟩
theorem c111:cfg.fc 111=fc111:=rfl
instance C111:Cf cfg 111 fc111:=⟨c111⟩
instance Z111:Zf cfg 111:=⟨rfl⟩
theorem c112:cfg.fc 112=fc112:=rfl
instance C112:Cf cfg 112 fc112:=⟨c112⟩
instance Z112:Zf cfg 112:=⟨rfl⟩
theorem c113:cfg.fc 113=fc113:=rfl
instance C113:Cf cfg 113 fc113:=⟨c113⟩
instance Z113:Zf cfg 113:=⟨rfl⟩
theorem c114:cfg.fc 114=fc114:=rfl
instance C114:Cf cfg 114 fc114:=⟨c114⟩
instance Z114:Zf cfg 114:=⟨rfl⟩
theorem c115:cfg.fc 115=fc115:=rfl
instance C115:Cf cfg 115 fc115:=⟨c115⟩
instance Z115:Zf cfg 115:=⟨rfl⟩
theorem z115:(cfg.fc 115).frz=[]:=rfl
theorem c116:cfg.fc 116=fc116:=rfl
instance C116:Cf cfg 116 fc116:=⟨c116⟩
instance Z116:Zf cfg 116:=⟨rfl⟩
theorem c117:cfg.fc 117=fc117:=rfl
instance C117:Cf cfg 117 fc117:=⟨c117⟩
instance Z117:Zf cfg 117:=⟨rfl⟩
theorem c118:cfg.fc 118=fc118:=rfl
instance C118:Cf cfg 118 fc118:=⟨c118⟩
instance Z118:Zf cfg 118:=⟨rfl⟩
theorem c127:cfg.fc 127=fc127:=rfl
instance C127:Cf cfg 127 fc127:=⟨c127⟩
instance Z127:Zf cfg 127:=⟨rfl⟩
theorem c128:cfg.fc 128=fc128:=rfl
instance C128:Cf cfg 128 fc128:=⟨c128⟩
instance Z128:Zf cfg 128:=⟨rfl⟩
theorem c142:cfg.fc 142=fc142:=rfl
instance C142:Cf cfg 142 fc142:=⟨c142⟩
instance Z142:Zf cfg 142:=⟨rfl⟩
theorem c143:cfg.fc 143=fc143:=rfl
instance C143:Cf cfg 143 fc143:=⟨c143⟩
instance Z143:Zf cfg 143:=⟨rfl⟩
theorem c144:cfg.fc 144=fc144:=rfl
instance C144:Cf cfg 144 fc144:=⟨c144⟩
instance Z144:Zf cfg 144:=⟨rfl⟩
theorem c145:cfg.fc 145=fc145:=rfl
instance C145:Cf cfg 145 fc145:=⟨c145⟩
instance Z145:Zf cfg 145:=⟨rfl⟩
theorem z145:(cfg.fc 145).frz=[]:=rfl
theorem c146:cfg.fc 146=fc146:=rfl
instance C146:Cf cfg 146 fc146:=⟨c146⟩
instance Z146:Zf cfg 146:=⟨rfl⟩
theorem c147:cfg.fc 147=fc147:=rfl
instance C147:Cf cfg 147 fc147:=⟨c147⟩
instance Z147:Zf cfg 147:=⟨rfl⟩
theorem z147:(cfg.fc 147).frz=[]:=rfl
theorem c148:cfg.fc 148=fc148:=rfl
instance C148:Cf cfg 148 fc148:=⟨c148⟩
instance Z148:Zf cfg 148:=⟨rfl⟩
theorem c149:cfg.fc 149=fc149:=rfl
instance C149:Cf cfg 149 fc149:=⟨c149⟩
instance Z149:Zf cfg 149:=⟨rfl⟩
theorem c150:cfg.fc 150=fc150:=rfl
instance C150:Cf cfg 150 fc150:=⟨c150⟩
instance Z150:Zf cfg 150:=⟨rfl⟩
theorem c151:cfg.fc 151=fc151:=rfl
instance C151:Cf cfg 151 fc151:=⟨c151⟩
instance Z151:Zf cfg 151:=⟨rfl⟩
theorem c152:cfg.fc 152=fc152:=rfl
instance C152:Cf cfg 152 fc152:=⟨c152⟩
instance Z152:Zf cfg 152:=⟨rfl⟩
theorem c153:cfg.fc 153=fc153:=rfl
instance C153:Cf cfg 153 fc153:=⟨c153⟩
instance Z153:Zf cfg 153:=⟨rfl⟩
theorem c154:cfg.fc 154=fc154:=rfl
instance C154:Cf cfg 154 fc154:=⟨c154⟩
instance Z154:Zf cfg 154:=⟨rfl⟩
theorem c155:cfg.fc 155=fc155:=rfl
instance C155:Cf cfg 155 fc155:=⟨c155⟩
instance Z155:Zf cfg 155:=⟨rfl⟩
theorem c156:cfg.fc 156=fc156:=rfl
instance C156:Cf cfg 156 fc156:=⟨c156⟩
instance Z156:Zf cfg 156:=⟨rfl⟩
theorem c157:cfg.fc 157=fc157:=rfl
instance C157:Cf cfg 157 fc157:=⟨c157⟩
instance Z157:Zf cfg 157:=⟨rfl⟩
theorem z157:(cfg.fc 157).frz=[]:=rfl
theorem c160:cfg.fc 160=fc160:=rfl
instance C160:Cf cfg 160 fc160:=⟨c160⟩
instance Z160:Zf cfg 160:=⟨rfl⟩
theorem c161:cfg.fc 161=fc161:=rfl
instance C161:Cf cfg 161 fc161:=⟨c161⟩
instance Z161:Zf cfg 161:=⟨rfl⟩
theorem c165:cfg.fc 165=fc165:=rfl
instance C165:Cf cfg 165 fc165:=⟨c165⟩
instance Z165:Zf cfg 165:=⟨rfl⟩
theorem c175:cfg.fc 175=fc175:=rfl
instance C175:Cf cfg 175 fc175:=⟨c175⟩
instance Z175:Zf cfg 175:=⟨rfl⟩
theorem c176:cfg.fc 176=fc176:=rfl
instance C176:Cf cfg 176 fc176:=⟨c176⟩
instance Z176:Zf cfg 176:=⟨rfl⟩
theorem z176:(cfg.fc 176).frz=[]:=rfl
theorem c177:cfg.fc 177=fc177:=rfl
instance C177:Cf cfg 177 fc177:=⟨c177⟩
instance Z177:Zf cfg 177:=⟨rfl⟩
theorem c178:cfg.fc 178=fc178:=rfl
instance C178:Cf cfg 178 fc178:=⟨c178⟩
instance Z178:Zf cfg 178:=⟨rfl⟩
theorem c179:cfg.fc 179=fc179:=rfl
instance C179:Cf cfg 179 fc179:=⟨c179⟩
instance Z179:Zf cfg 179:=⟨rfl⟩
theorem z179:(cfg.fc 179).frz=[]:=rfl
theorem c201:cfg.fc 201=fc201:=rfl
instance C201:Cf cfg 201 fc201:=⟨c201⟩
instance Z201:Zf cfg 201:=⟨rfl⟩
noncomputable abbrev Pg:=Try.prog
theorem bF145:buildF Pg 145=some ([.nil,z0,.im 0 (.sc (.int .u64 0))],[(0,1),(1,1),(2,1)]):=kr
theorem bF148:buildF Pg 148=some ([z1,.nil],[(0,1),(1,1)]):=kr
theorem bF155:buildF Pg 155=some ([z0,z0],[(0,1),(1,1)]):=kr
theorem bF165:buildF Pg 165=some ([z0,z0],[(0,1),(1,1)]):=kr
theorem bF26:buildF Pg 26=some ([z0,z0,.nil,.nil],[(0,1),(1,1),(2,1),(3,1)]):=kr
theorem bF88:buildF Pg 88=some ([.nil,.nil],[(0,1),(1,1)]):=kr
theorem bF90:buildF Pg 90=some ([.nil,.nil,z0,z0,.nil,.im 0 (.sc (.bool false))],[(0,2),(2,1),(3,1),(4,1),(5,1)]):=kr
theorem eF162:elemSz Pg 162=some (165,2):=kr
theorem eF23:elemSz Pg 23=some (155,2):=kr
theorem eF28:elemSz Pg 28=some (2,1):=kr
theorem eF85:elemSz Pg 85=some (28,1):=kr
theorem fF145_0:fieldF Pg 145 0=some 0:=kr
theorem fF145_1:fieldF Pg 145 1=some 1:=kr
theorem fF145_2:fieldF Pg 145 2=some 2:=kr
theorem fF148_0:fieldF Pg 148 0=some 0:=kr
theorem fF148_1:fieldF Pg 148 1=some 1:=kr
theorem fF155_0:fieldF Pg 155 0=some 0:=kr
theorem fF155_1:fieldF Pg 155 1=some 1:=kr
theorem fF26_0:fieldF Pg 26 0=some 0:=kr
theorem fF26_1:fieldF Pg 26 1=some 1:=kr
theorem fF26_2:fieldF Pg 26 2=some 2:=kr
theorem fF26_3:fieldF Pg 26 3=some 3:=kr
theorem fF88_0:fieldF Pg 88 0=some 0:=kr
theorem fF88_1:fieldF Pg 88 1=some 1:=kr
theorem fF90_0:fieldF Pg 90 0=some 0:=kr
theorem fF90_1:fieldF Pg 90 1=some 2:=kr
theorem fF90_2:fieldF Pg 90 2=some 3:=kr
theorem fF90_3:fieldF Pg 90 3=some 4:=kr
theorem fF90_4:fieldF Pg 90 4=some 5:=kr
theorem kF100_81_28:callK Pg cfg 100 0 [81,28]=[(.cut 4,[none]),(.cst false,[some 1])]:=kr
theorem kF101_23:callK Pg cfg 101 0 [23]=[(.cst false,[some 2])]:=kr
theorem kF102_77:callK Pg cfg 102 0 [77]=[(.ptr [.imm,.imm,.imm],[none])]:=kr
theorem kF103_77_26:callK Pg cfg 103 0 [77,26]=[(.ptr [.imm,.imm,.imm],[none]),(.mvs,[none,none,some 2,some 2])]:=kr
theorem kF104_82_28:callK Pg cfg 104 0 [82,28]=[(.ptr [.imm,.imm,.imm,.imm,.sh,.imm],[none]),(.mv,[some 1])]:=kr
theorem kF105_23_155:callK Pg cfg 105 0 [23,155]=[(.cst false,[some 2]),(.cst false,[none,none])]:=kr
theorem kF106_9:callK Pg cfg 106 0 [9]=[(.cst false,[none])]:=kr
theorem kF107_23_28:callK Pg cfg 107 0 [23,28]=[(.cst false,[some 2]),(.cst false,[some 1])]:=kr
theorem kF108_23:callK Pg cfg 108 0 [23]=[(.cst false,[some 2])]:=kr
theorem kF109_26_2:callK Pg cfg 109 0 [26,2]=[(.cst false,[none,none,some 2,some 2]),(.cst false,[none])]:=kr
theorem kF10_26_2:callK Pg cfg 10 0 [26,2]=[(.cst false,[none,none,some 2,some 2]),(.cst false,[none])]:=kr
theorem kF110_88_28_2:callK Pg cfg 110 0 [88,28,2]=[(.cst false,[some 1,some 1]),(.cst false,[some 1]),(.cst false,[none])]:=kr
theorem kF111_28_2:callK Pg cfg 111 0 [28,2]=[(.cst false,[some 1]),(.cst false,[none])]:=kr
theorem kF112_28_97:callK Pg cfg 112 0 [28,97]=[(.cst false,[some 1]),(.cst false,[none])]:=kr
theorem kF113_28:callK Pg cfg 113 0 [28]=[(.cst false,[some 1])]:=kr
theorem kF114_162_167:callK Pg cfg 114 0 [162,167]=[(.cst false,[some 2]),(.cst false,[none])]:=kr
theorem kF115_165_0_0:callK Pg cfg 115 0 [165,0,0]=[(.cst false,[none,none]),(.cst false,[none]),(.cst false,[none])]:=kr
theorem kF116_162_165:callK Pg cfg 116 0 [162,165]=[(.cst false,[some 2]),(.cst false,[none,none])]:=kr
theorem kF117_2_0:callK Pg cfg 117 0 [2,0]=[(.cst false,[none]),(.cst false,[none])]:=kr
theorem kF118_77_2:callK Pg cfg 118 0 [77,2]=[(.ptr [.imm,.imm,.imm],[none]),(.cst false,[none])]:=kr
theorem kF11_26_2:callK Pg cfg 11 0 [26,2]=[(.cst false,[none,none,some 2,some 2]),(.cst false,[none])]:=kr
theorem kF127_77_28:callK Pg cfg 127 0 [77,28]=[(.ptr [.imm,.imm,.imm],[none]),(.cst false,[some 1])]:=kr
theorem kF128_77:callK Pg cfg 128 0 [77]=[(.ptr [.imm,.imm,.imm],[none])]:=kr
theorem kF12_26:callK Pg cfg 12 0 [26]=[(.cst false,[none,none,some 2,some 2])]:=kr
theorem kF131_28:callK Pg cfg 131 0 [28]=[(.cst false,[some 1])]:=kr
theorem kF13_26_28:callK Pg cfg 13 0 [26,28]=[(.cst false,[none,none,some 2,some 2]),(.cst false,[some 1])]:=kr
theorem kF142_5:callK Pg cfg 142 0 [5]=[(.cst false,[none])]:=kr
theorem kF143_5:callK Pg cfg 143 0 [5]=[(.cst false,[none])]:=kr
theorem kF144_155:callK Pg cfg 144 0 [155]=[(.cst false,[none,none])]:=kr
theorem kF145_155_155_155:callK Pg cfg 145 0 [155,155,155]=[(.cst false,[none,none]),(.cst false,[none,none]),(.cst false,[none,none])]:=kr
theorem kF146_155_155_155_155:callK Pg cfg 146 0 [155,155,155,155]=[(.cst false,[none,none]),(.cst false,[none,none]),(.cst false,[none,none]),(.cst false,[none,none])]:=kr
theorem kF147_23:callK Pg cfg 147 0 [23]=[(.cst false,[some 2])]:=kr
theorem kF148_2:callK Pg cfg 148 0 [2]=[(.cst false,[none])]:=kr
theorem kF149_23_155:callK Pg cfg 149 0 [23,155]=[(.cst false,[some 2]),(.cst false,[none,none])]:=kr
theorem kF14_26_28:callK Pg cfg 14 0 [26,28]=[(.cst false,[none,none,some 2,some 2]),(.cst false,[some 1])]:=kr
theorem kF150_23:callK Pg cfg 150 0 [23]=[(.cst false,[some 2])]:=kr
theorem kF151_155_155_155:callK Pg cfg 151 0 [155,155,155]=[(.cst false,[none,none]),(.cst false,[none,none]),(.cst false,[none,none])]:=kr
theorem kF152_155_155_155_155:callK Pg cfg 152 0 [155,155,155,155]=[(.cst false,[none,none]),(.cst false,[none,none]),(.cst false,[none,none]),(.cst false,[none,none])]:=kr
theorem kF153_23:callK Pg cfg 153 0 [23]=[(.cst false,[some 2])]:=kr
theorem kF154_2_0:callK Pg cfg 154 0 [2,0]=[(.cst false,[none]),(.cst false,[none])]:=kr
theorem kF155_162_167:callK Pg cfg 155 0 [162,167]=[(.cst false,[some 2]),(.cst false,[none])]:=kr
theorem kF156_162_165:callK Pg cfg 156 0 [162,165]=[(.cst false,[some 2]),(.cst false,[none,none])]:=kr
theorem kF157_77:callK Pg cfg 157 0 [77]=[(.ptr [.imm,.imm,.imm],[none])]:=kr
theorem kF15_26_28:callK Pg cfg 15 0 [26,28]=[(.cst false,[none,none,some 2,some 2]),(.cst false,[some 1])]:=kr
theorem kF160_2_2:callK Pg cfg 160 0 [2,2]=[(.cst false,[none]),(.cst false,[none])]:=kr
theorem kF161_2_2:callK Pg cfg 161 0 [2,2]=[(.cst false,[none]),(.cst false,[none])]:=kr
theorem kF165_77_195:callK Pg cfg 165 0 [77,195]=[(.ptr [.imm,.imm,.imm],[none]),(.cst false,[some 1])]:=kr
theorem kF175_155_155_155:callK Pg cfg 175 0 [155,155,155]=[(.cst false,[none,none]),(.cst false,[none,none]),(.cst false,[none,none])]:=kr
theorem kF176_155_155_155_155:callK Pg cfg 176 0 [155,155,155,155]=[(.cst false,[none,none]),(.cst false,[none,none]),(.cst false,[none,none]),(.cst false,[none,none])]:=kr
theorem kF177_155:callK Pg cfg 177 0 [155]=[(.cst false,[none,none])]:=kr
theorem kF178_155_155_155:callK Pg cfg 178 0 [155,155,155]=[(.cst false,[none,none]),(.cst false,[none,none]),(.cst false,[none,none])]:=kr
theorem kF179_155_155_155_155:callK Pg cfg 179 0 [155,155,155,155]=[(.cst false,[none,none]),(.cst false,[none,none]),(.cst false,[none,none]),(.cst false,[none,none])]:=kr
theorem kF201_155_155_155:callK Pg cfg 201 0 [155,155,155]=[(.cst false,[none,none]),(.cst false,[none,none]),(.cst false,[none,none])]:=kr
theorem kF49_22:callK Pg cfg 49 0 [22]=[(.cst false,[some 1])]:=kr
theorem kF50_77:callK Pg cfg 50 0 [77]=[(.ptr [.imm,.imm,.imm],[none])]:=kr
theorem kF51_81:callK Pg cfg 51 0 [81]=[(.cut 4,[none])]:=kr
theorem kF52_77:callK Pg cfg 52 0 [77]=[(.ptr [.imm,.imm,.imm],[none])]:=kr
theorem kF53_26_2_4:callK Pg cfg 53 0 [26,2,4]=[(.cst false,[none,none,some 2,some 2]),(.cst false,[none]),(.cst false,[none])]:=kr
theorem kF54_26:callK Pg cfg 54 0 [26]=[(.cst false,[none,none,some 2,some 2])]:=kr
theorem kF55_26:callK Pg cfg 55 0 [26]=[(.cst false,[none,none,some 2,some 2])]:=kr
theorem kF56_88_28:callK Pg cfg 56 0 [88,28]=[(.cst false,[some 1,some 1]),(.cst false,[some 1])]:=kr
theorem kF57_28_3:callK Pg cfg 57 0 [28,3]=[(.cst false,[some 1]),(.cst false,[none])]:=kr
theorem kF58_88_28_2:callK Pg cfg 58 0 [88,28,2]=[(.cst false,[some 1,some 1]),(.cst false,[some 1]),(.cst false,[none])]:=kr
theorem kF59_28_2:callK Pg cfg 59 0 [28,2]=[(.cst false,[some 1]),(.cst false,[none])]:=kr
theorem kF60_28_97:callK Pg cfg 60 0 [28,97]=[(.cst false,[some 1]),(.cst false,[none])]:=kr
theorem kF63_26:callK Pg cfg 63 0 [26]=[(.cst false,[none,none,some 2,some 2])]:=kr
theorem kF65_88_28_2:callK Pg cfg 65 0 [88,28,2]=[(.cst false,[some 1,some 1]),(.cst false,[some 1]),(.cst false,[none])]:=kr
theorem kF73_77:callK Pg cfg 73 0 [77]=[(.ptr [.imm,.imm,.imm],[none])]:=kr
theorem kF79_2_2_2:callK Pg cfg 79 0 [2,2,2]=[(.cst false,[none]),(.cst false,[none]),(.cst false,[none])]:=kr
theorem kF95_77_2:callK Pg cfg 95 0 [77,2]=[(.ptr [.imm,.imm,.imm],[none]),(.cst false,[none])]:=kr
theorem kF96_77:callK Pg cfg 96 0 [77]=[(.ptr [.imm,.imm,.imm],[none])]:=kr
theorem kF97_2_2_2:callK Pg cfg 97 0 [2,2,2]=[(.cst false,[none]),(.cst false,[none]),(.cst false,[none])]:=kr
theorem kF98_81:callK Pg cfg 98 0 [81]=[(.cut 4,[none])]:=kr
theorem kF99_9:callK Pg cfg 99 0 [9]=[(.cst false,[none])]:=kr
theorem kF9_22:callK Pg cfg 9 0 [22]=[(.cst false,[some 1])]:=kr
theorem qEF155:∀(a0:Int) (a1:Int) (b0:Int) (b1:Int),binAgg Pg 155 .eql [.int .i64 a0,.int .i64 a1] [.int .i64 b0,.int .i64 b1]=some (.bool ((a0==b0)&&(a1==b1))):=by intros;kernel_rfl
theorem qEF165:∀(a0:Int) (a1:Int) (b0:Int) (b1:Int),binAgg Pg 165 .eql [.int .i64 a0,.int .i64 a1] [.int .i64 b0,.int .i64 b1]=some (.bool ((a0==b0)&&(a1==b1))):=by intros;kernel_rfl
theorem rF10:resK Pg (Try.f10.results.toList.zip Try.f10.resultTypes.toList)=[(.tmp 4,[some 1],none),(.tmp 5,[none],none)]:=kr
theorem rF100:resK Pg (Try.f100.results.toList.zip Try.f100.resultTypes.toList)=[(.tmp 4,[some 2],none),(.tmp 5,[none],none)]:=kr
theorem rF101:resK Pg (Try.f101.results.toList.zip Try.f101.resultTypes.toList)=[(.tmp 2,[none],none)]:=kr
theorem rF102:resK Pg (Try.f102.results.toList.zip Try.f102.resultTypes.toList)=[(.cell 2 26,[none,none,some 2,some 2],some (true,4))]:=kr
theorem rF103:resK Pg (Try.f103.results.toList.zip Try.f103.resultTypes.toList)=[(.cell 4 26,[none,none,some 2,some 2],some (true,4))]:=kr
theorem rF104:resK Pg (Try.f104.results.toList.zip Try.f104.resultTypes.toList)=[(.tmp 4,[none],none)]:=kr
theorem rF105:resK Pg (Try.f105.results.toList.zip Try.f105.resultTypes.toList)=[(.tmp 4,[none],none)]:=kr
theorem rF106:resK Pg (Try.f106.results.toList.zip Try.f106.resultTypes.toList)=[(.tmp 2,[none],none)]:=kr
theorem rF107:resK Pg (Try.f107.results.toList.zip Try.f107.resultTypes.toList)=[(.tmp 4,[some 2],none),(.tmp 5,[none],none)]:=kr
theorem rF108:resK Pg (Try.f108.results.toList.zip Try.f108.resultTypes.toList)=[(.tmp 2,[none],none)]:=kr
theorem rF109:resK Pg (Try.f109.results.toList.zip Try.f109.resultTypes.toList)=[(.tmp 4,[some 2],none)]:=kr
theorem rF11:resK Pg (Try.f11.results.toList.zip Try.f11.resultTypes.toList)=[(.tmp 4,[none],none),(.tmp 5,[none],none)]:=kr
theorem rF110:resK Pg (Try.f110.results.toList.zip Try.f110.resultTypes.toList)=[(.tmp 6,[none],none)]:=kr
theorem rF111:resK Pg (Try.f111.results.toList.zip Try.f111.resultTypes.toList)=[(.tmp 4,[none],none)]:=kr
theorem rF112:resK Pg (Try.f112.results.toList.zip Try.f112.resultTypes.toList)=[(.tmp 4,[none],none)]:=kr
theorem rF113:resK Pg (Try.f113.results.toList.zip Try.f113.resultTypes.toList)=[(.tmp 2,[some 2],none)]:=kr
theorem rF114:resK Pg (Try.f114.results.toList.zip Try.f114.resultTypes.toList)=[(.tmp 4,[none],none)]:=kr
theorem rF115:resK Pg (Try.f115.results.toList.zip Try.f115.resultTypes.toList)=[(.tmp 4,[none],none)]:=kr
theorem rF116:resK Pg (Try.f116.results.toList.zip Try.f116.resultTypes.toList)=[(.tmp 4,[none],none)]:=kr
theorem rF117:resK Pg (Try.f117.results.toList.zip Try.f117.resultTypes.toList)=[(.tmp 3,[none],none)]:=kr
theorem rF118:resK Pg (Try.f118.results.toList.zip Try.f118.resultTypes.toList)=[(.tmp 4,[none],none)]:=kr
theorem rF12:resK Pg (Try.f12.results.toList.zip Try.f12.resultTypes.toList)=[(.tmp 2,[some 1],none),(.tmp 3,[none],none)]:=kr
theorem rF127:resK Pg (Try.f127.results.toList.zip Try.f127.resultTypes.toList)=[(.tmp 4,[none],none)]:=kr
theorem rF128:resK Pg (Try.f128.results.toList.zip Try.f128.resultTypes.toList)=[(.tmp 2,[none],none)]:=kr
theorem rF13:resK Pg (Try.f13.results.toList.zip Try.f13.resultTypes.toList)=[(.tmp 4,[none],none)]:=kr
theorem rF131:resK Pg (Try.f131.results.toList.zip Try.f131.resultTypes.toList)=[(.tmp 2,[some 1],none)]:=kr
theorem rF14:resK Pg (Try.f14.results.toList.zip Try.f14.resultTypes.toList)=[(.tmp 4,[none],none),(.tmp 5,[none],none),(.tmp 6,[none],none)]:=kr
theorem rF142:resK Pg (Try.f142.results.toList.zip Try.f142.resultTypes.toList)=[(.tmp 2,[none],none)]:=kr
theorem rF143:resK Pg (Try.f143.results.toList.zip Try.f143.resultTypes.toList)=[(.tmp 2,[none],none)]:=kr
theorem rF144:resK Pg (Try.f144.results.toList.zip Try.f144.resultTypes.toList)=[(.tmp 2,[none],none)]:=kr
theorem rF145:resK Pg (Try.f145.results.toList.zip Try.f145.resultTypes.toList)=[(.tmp 6,[none],none)]:=kr
theorem rF146:resK Pg (Try.f146.results.toList.zip Try.f146.resultTypes.toList)=[(.tmp 8,[none],none)]:=kr
theorem rF147:resK Pg (Try.f147.results.toList.zip Try.f147.resultTypes.toList)=[(.tmp 2,[none],none)]:=kr
theorem rF148:resK Pg (Try.f148.results.toList.zip Try.f148.resultTypes.toList)=[(.tmp 2,[none],none)]:=kr
theorem rF149:resK Pg (Try.f149.results.toList.zip Try.f149.resultTypes.toList)=[(.tmp 4,[none],none)]:=kr
theorem rF15:resK Pg (Try.f15.results.toList.zip Try.f15.resultTypes.toList)=[(.tmp 4,[some 1],none),(.tmp 5,[none],none)]:=kr
theorem rF150:resK Pg (Try.f150.results.toList.zip Try.f150.resultTypes.toList)=[(.tmp 2,[none],none)]:=kr
theorem rF151:resK Pg (Try.f151.results.toList.zip Try.f151.resultTypes.toList)=[(.tmp 6,[none],none)]:=kr
theorem rF152:resK Pg (Try.f152.results.toList.zip Try.f152.resultTypes.toList)=[(.tmp 8,[none],none)]:=kr
theorem rF153:resK Pg (Try.f153.results.toList.zip Try.f153.resultTypes.toList)=[(.tmp 2,[none],none)]:=kr
theorem rF154:resK Pg (Try.f154.results.toList.zip Try.f154.resultTypes.toList)=[(.tmp 3,[none],none)]:=kr
theorem rF155:resK Pg (Try.f155.results.toList.zip Try.f155.resultTypes.toList)=[(.tmp 4,[none],none)]:=kr
theorem rF156:resK Pg (Try.f156.results.toList.zip Try.f156.resultTypes.toList)=[(.tmp 4,[none],none)]:=kr
theorem rF157:resK Pg (Try.f157.results.toList.zip Try.f157.resultTypes.toList)=[(.tmp 2,[none],none)]:=kr
theorem rF160:resK Pg (Try.f160.results.toList.zip Try.f160.resultTypes.toList)=[(.tmp 4,[none],none)]:=kr
theorem rF161:resK Pg (Try.f161.results.toList.zip Try.f161.resultTypes.toList)=[(.tmp 4,[none],none)]:=kr
theorem rF165:resK Pg (Try.f165.results.toList.zip Try.f165.resultTypes.toList)=[(.tmp 4,[none],none)]:=kr
theorem rF175:resK Pg (Try.f175.results.toList.zip Try.f175.resultTypes.toList)=[(.tmp 6,[none],none)]:=kr
theorem rF176:resK Pg (Try.f176.results.toList.zip Try.f176.resultTypes.toList)=[(.tmp 8,[none],none)]:=kr
theorem rF177:resK Pg (Try.f177.results.toList.zip Try.f177.resultTypes.toList)=[(.tmp 2,[none],none)]:=kr
theorem rF178:resK Pg (Try.f178.results.toList.zip Try.f178.resultTypes.toList)=[(.tmp 6,[none],none)]:=kr
theorem rF179:resK Pg (Try.f179.results.toList.zip Try.f179.resultTypes.toList)=[(.tmp 8,[none],none)]:=kr
theorem rF201:resK Pg (Try.f201.results.toList.zip Try.f201.resultTypes.toList)=[(.tmp 6,[none],none)]:=kr
theorem rF3:resK Pg (Try.f3.results.toList.zip Try.f3.resultTypes.toList)=[(.tmp 2,[none],none)]:=kr
theorem rF49:resK Pg (Try.f49.results.toList.zip Try.f49.resultTypes.toList)=[(.tmp 2,[none],none)]:=kr
theorem rF50:resK Pg (Try.f50.results.toList.zip Try.f50.resultTypes.toList)=[(.cell 2 26,[none,none,some 2,some 2],some (true,4))]:=kr
theorem rF51:resK Pg (Try.f51.results.toList.zip Try.f51.resultTypes.toList)=[(.tmp 2,[none],none)]:=kr
theorem rF52:resK Pg (Try.f52.results.toList.zip Try.f52.resultTypes.toList)=[(.cell 2 26,[none,none,some 2,some 2],some (true,4))]:=kr
theorem rF53:resK Pg (Try.f53.results.toList.zip Try.f53.resultTypes.toList)=[(.tmp 6,[none],none),(.tmp 7,[none],none)]:=kr
theorem rF54:resK Pg (Try.f54.results.toList.zip Try.f54.resultTypes.toList)=[(.tmp 2,[none],none)]:=kr
theorem rF55:resK Pg (Try.f55.results.toList.zip Try.f55.resultTypes.toList)=[(.cell 2 88,[some 1,some 1],some (true,2))]:=kr
theorem rF56:resK Pg (Try.f56.results.toList.zip Try.f56.resultTypes.toList)=[(.tmp 4,[some 1],none)]:=kr
theorem rF57:resK Pg (Try.f57.results.toList.zip Try.f57.resultTypes.toList)=[(.tmp 4,[none],none)]:=kr
theorem rF58:resK Pg (Try.f58.results.toList.zip Try.f58.resultTypes.toList)=[(.tmp 6,[none],none)]:=kr
theorem rF59:resK Pg (Try.f59.results.toList.zip Try.f59.resultTypes.toList)=[(.tmp 4,[none],none)]:=kr
theorem rF60:resK Pg (Try.f60.results.toList.zip Try.f60.resultTypes.toList)=[(.tmp 4,[none],none)]:=kr
theorem rF63:resK Pg (Try.f63.results.toList.zip Try.f63.resultTypes.toList)=[(.tmp 2,[some 1],none)]:=kr
theorem rF65:resK Pg (Try.f65.results.toList.zip Try.f65.resultTypes.toList)=[(.tmp 6,[none],none)]:=kr
theorem rF73:resK Pg (Try.f73.results.toList.zip Try.f73.resultTypes.toList)=[(.cell 2 26,[none,none,some 2,some 2],some (true,4))]:=kr
theorem rF79:resK Pg (Try.f79.results.toList.zip Try.f79.resultTypes.toList)=[(.tmp 6,[none],none)]:=kr
theorem rF9:resK Pg (Try.f9.results.toList.zip Try.f9.resultTypes.toList)=[(.cell 2 26,[none,none,some 2,some 2],some (true,4))]:=kr
theorem rF95:resK Pg (Try.f95.results.toList.zip Try.f95.resultTypes.toList)=[(.tmp 4,[none],none)]:=kr
theorem rF96:resK Pg (Try.f96.results.toList.zip Try.f96.resultTypes.toList)=[(.cell 2 26,[none,none,some 2,some 2],some (true,4))]:=kr
theorem rF97:resK Pg (Try.f97.results.toList.zip Try.f97.resultTypes.toList)=[(.tmp 6,[none],none)]:=kr
theorem rF98:resK Pg (Try.f98.results.toList.zip Try.f98.resultTypes.toList)=[(.tmp 2,[none],none)]:=kr
theorem rF99:resK Pg (Try.f99.results.toList.zip Try.f99.resultTypes.toList)=[(.tmp 2,[none],none)]:=kr
theorem sF161:sliceF Pg 161=some (162,1,[some 2],false,24,[.nil]):=kr
theorem sF162:sliceF Pg 162=some (165,2,[none,none],true,16,[z0,z0]):=kr
theorem sF195:sliceF Pg 195=some (9,1,[none],false,16,[z1]):=kr
theorem sF22:sliceF Pg 22=some (5,1,[none],false,1,[.im 0 (.sc (.int .u8 0))]):=kr
theorem sF23:sliceF Pg 23=some (155,2,[none,none],true,16,[z0,z0]):=kr
theorem sF24:sliceF Pg 24=some (148,2,[none,some 1],true,40,[z1,.nil]):=kr
theorem sF28:sliceF Pg 28=some (2,1,[none],false,8,[z0]):=kr
theorem sF85:sliceF Pg 85=some (28,1,[some 1],false,24,[.nil]):=kr
theorem sF86:sliceF Pg 86=some (4,1,[none],false,1,[.im 0 (.sc (.bool false))]):=kr
theorem tF143:tyF Pg 143=some ([.im 0 (.sc (.int .u64 0))],[none],false,1):=kr
theorem tF145:tyF Pg 145=some ([.nil,z0,.im 0 (.sc (.int .u64 0))],[some 1,none,none],true,3):=kr
theorem tF148:tyF Pg 148=some ([z1,.nil],[none,some 1],true,2):=kr
theorem tF155:tyF Pg 155=some ([z0,z0],[none,none],true,2):=kr
theorem tF161:tyF Pg 161=some ([.nil],[some 1],false,1):=kr
theorem tF162:tyF Pg 162=some ([.nil],[some 2],false,1):=kr
theorem tF165:tyF Pg 165=some ([z0,z0],[none,none],true,2):=kr
theorem tF2:tyF Pg 2=some ([z0],[none],false,1):=kr
theorem tF22:tyF Pg 22=some ([.nil],[some 1],false,1):=kr
theorem tF23:tyF Pg 23=some ([.nil],[some 2],false,1):=kr
theorem tF24:tyF Pg 24=some ([.nil],[some 2],false,1):=kr
theorem tF26:tyF Pg 26=some ([z0,z0,.nil,.nil],[none,none,some 2,some 2],true,4):=kr
theorem tF28:tyF Pg 28=some ([.nil],[some 1],false,1):=kr
theorem tF3:tyF Pg 3=some ([z0],[none],false,1):=kr
theorem tF4:tyF Pg 4=some ([.im 0 (.sc (.bool false))],[none],false,1):=kr
theorem tF5:tyF Pg 5=some ([.im 0 (.sc (.int .u8 0))],[none],false,1):=kr
theorem tF85:tyF Pg 85=some ([.nil],[some 1],false,1):=kr
theorem tF86:tyF Pg 86=some ([.nil],[some 1],false,1):=kr
theorem tF88:tyF Pg 88=some ([.nil,.nil],[some 1,some 1],true,2):=kr
theorem tF9:tyF Pg 9=some ([z1],[none],false,1):=kr
theorem tF90:tyF Pg 90=some ([.nil,.nil,z0,z0,.nil,.im 0 (.sc (.bool false))],[some 1,some 1,none,none,some 1,none],true,6):=kr
theorem uF143:Pg.underlying 143=some (.int .u64):=kr
theorem uF161:Pg.underlying 161=some (.slice 162):=kr
theorem uF162:Pg.underlying 162=some (.slice 165):=kr
theorem uF195:Pg.underlying 195=some (.slice 9):=kr
theorem uF2:Pg.underlying 2=some (.int .i64):=kr
theorem uF22:Pg.underlying 22=some (.slice 5):=kr
theorem uF23:Pg.underlying 23=some (.slice 155):=kr
theorem uF24:Pg.underlying 24=some (.slice 148):=kr
theorem uF28:Pg.underlying 28=some (.slice 2):=kr
theorem uF3:Pg.underlying 3=some (.int .i64):=kr
theorem uF4:Pg.underlying 4=some .bool:=kr
theorem uF5:Pg.underlying 5=some (.int .u8):=kr
theorem uF85:Pg.underlying 85=some (.slice 28):=kr
theorem uF9:Pg.underlying 9=some .string:=kr
abbrev FX (i:Nat) (a:List Arg) (r:Res×List Out):Prop:=FL Try.prog cfg i a=some r
theorem L_spec_l00From {code_0:(List Int)} {r:S_l00Src} (h:spec_l00From code_0=some r):FX 49 [.im 2 false [W 1 (eK .u8) code_0]] (B0 [(false,[.pt true [⟨.imm,2,W 1 (eK .u8) r.code⟩,⟨.imm,0,I r.at_⟩,⟨.imm,0,.sc (.int .u64 r.seed)⟩]])]):=by
 unfold spec_l00From at h
 refine gn 6 Try.func49 rfl ?_
 refine gs<|g0 j j (q (oAsI j j)<|nl)<|us<|gs<|g0 j j (q (oMv j j)<|q (oBu (cs:=[.im 2 _,.im 0 _,.im 0 _]) j bF145 j)<|q (oBx j tF145 j (tkI (tkI (tkI tk0))))<|q (oAsP j j)<|nl)<|us<|Go.ret (Unw.ret ?_)
 cases h
 exact fr rF49 j
theorem L_spec_l00Src_next {s_0:S_l00Src} {r:(Int×S_l00Src)} (h:spec_l00Src_next s_0=some r):FX 157 [.ptr true [(.imm,W 1 (eK .u8) s_0.code),(.imm,I s_0.at_),(.imm,.sc (.int .u64 s_0.seed))]] ([(false,[.im 0 (I r.1)])],[.ptr true [(.imm,W 1 (eK .u8) r.2.code),(.imm,I r.2.at_),(.imm,.sc (.int .u64 r.2.seed))]]):=by
 unfold spec_l00Src_next at h
 refine FL_goS (A:=[(0,M 0)]) (B:=[(0,Od (G 1 (u_S_l00Src s_0)))]) (nt:=62) rfl rfl Try.func157 rfl rfl rfl rfl ?_
 refine gs<|g0 j j (q (oAsI j j)<|nl)<|us<|gs<|g0 j j (q (oAsI j j)<|nl)<|us<|gs<|gs<|gd c157 j j j j (mk [(0,M 0),(3,iv 0),(13,bv (decide (s_0.at_< (s_0.code.length:Int))))] [(0,Od (G 1 (u_S_l00Src s_0)))]) (t j j (oMv j j)<|t j j (oNl j j j)<|t j j (oFA (r':=.mp 0 0 1) j fF145_1 j j)<|t j j (oLd (cs:=[.im 0 _]) j tF3 j j)<|t j j (oMv j j)<|t j j (oNl j j j)<|t j j (oFA (r':=.mp 0 0 0) j fF145_0 j j)<|t j j (oLd (cs:=[.im 1 _]) j tF22 j j)<|t j j (oLnI j j uF22 j)<|t j j (oBi j j j j)<|sD (by kernel_rfl))<|us<|Go.join (fun st=>∃b_3_r4,spec_l00Src_next_k4 s_0 b_3_r4=some r∧st.norm ([0,3],[0])=mk [(0,M 0),(3,iv b_3_r4)] [(0,Od (G 1 (u_S_l00Src s_0)))]) ?_ ?_
 ·rintro st ⟨b_3_r4,h,hst⟩
  unfold spec_l00Src_next_k4 at h
  refine us<|gs<|g2 c157 j j hst (q (oMv j j)<|q (oNl j j j)<|q (oFA (r':=.mp 0 0 1) j fF145_1 j j)<|q (oLd (cs:=[.im 0 _]) j tF3 j j)<|q (oBi j j j j)<|q (oNl j j j)<|q (oFA (r':=.mp 0 0 1) j fF145_1 j j)<|q (oSt tF3 j j j (tkI tk0) j j j)<|nl)<|us<|gs<|g1 j j (mk [(0,M 0),(3,iv b_3_r4)] [(0,Od [Ct 1 (W 1 (eK .u8) s_0.code),C (I (w64 (s_0.at_+1))),C (.sc (.int .u64 s_0.seed))])]) (q (oMv j j)<|q (oMv j j)<|q (oNl j j j)<|q (oFA (r':=.mp 0 0 2) j fF145_2 j j)<|q (oLd (cs:=[.im 0 _]) j tF143 j j)<|q (oBi j j j j)<|q (oMv j j)<|q (oCvI j uF3 uF143 j)<|q (oBi j j j j)<|q (oBi j j j j)<|q (oNl j j j)<|q (oFA (r':=.mp 0 0 2) j fF145_2 j j)<|q (oSt tF143 j j j (tkI tk0) j j j)<|nl)<|us<|gs<|gs<|gd c157 j j j (st1:=mk [(0,M 0),(3,iv b_3_r4)] [(0,Od [Ct 1 (W 1 (eK .u8) s_0.code),C (I (w64 (s_0.at_+1))),C (.sc (.int .u64 (IntKind.wrap .u64 ((IntKind.wrap .u64 ((IntKind.wrap .u64 (s_0.seed*6364136223846793005))+(IntKind.wrap .u64 (b_3_r4))))+1442695040888963407))))])]) (by kernel_rfl) (mk [(0,M 0),(3,iv b_3_r4),(53,bv (decide ((w64 (s_0.at_+1))≤(s_0.code.length:Int))))] [(0,Od [Ct 1 (W 1 (eK .u8) s_0.code),C (I (w64 (s_0.at_+1))),C (.sc (.int .u64 (IntKind.wrap .u64 ((IntKind.wrap .u64 ((IntKind.wrap .u64 (s_0.seed*6364136223846793005))+(IntKind.wrap .u64 (b_3_r4))))+1442695040888963407))))])]) (t j j (oMv j j)<|t j j (oNl j j j)<|t j j (oFA (r':=.mp 0 0 1) j fF145_1 j j)<|t j j (oLd (cs:=[.im 0 _]) j tF3 j j)<|t j j (oMv j j)<|t j j (oNl j j j)<|t j j (oFA (r':=.mp 0 0 0) j fF145_0 j j)<|t j j (oLd (cs:=[.im 1 _]) j tF22 j j)<|t j j (oLnI j j uF22 j)<|t j j (oBi j j j j)<|sD (by kernel_rfl))<|us<|gc h j iDec (fun hc2 h=>?_) fun hc2 h=>?_
  ·refine gs<|g0 j j (q (oMv j j)<|q (oAsI j j)<|nl)<|us<|Go.ret (Unw.ret ?_)
   cases h
   exact fr rF157 j
  ·refine Go.skip<|us<|gs<|?_
   obtain ⟨x59,hx59,h⟩:=bs h
   refine g0 j j (q (oMv j j)<|q (oNl j j j)<|q (oFA (r':=.mp 0 0 2) j fF145_2 j j)<|q (oLd (cs:=[.im 0 _]) j tF143 j j)<|q (oShr j hx59 j j)<|q (oBi j j j j)<|q (oCvI j uF143 uF2 j)<|q (oAsI j j)<|nl)<|us<|Go.ret (Unw.ret ?_)
   cases h
   exact fr rF157 j
 ·intro K3
  refine gc h j iDec (fun hc4 h=>?_) fun hc4 h=>?_
  ·obtain ⟨x22,hx22,h⟩:=bs h
   exact gd c157 j j j j (mk [(0,M 0),(3,iv (w64 (x22)))] [(0,Od (G 1 (u_S_l00Src s_0)))]) (t j j (oMv j j)<|t j j (oNl j j j)<|t j j (oFA (r':=.mp 0 0 0) j fF145_0 j j)<|t j j (oLd (cs:=[.im 1 _]) j tF22 j j)<|t j j (oMv j j)<|t j j (oNl j j j)<|t j j (oFA (r':=.mp 0 0 1) j fF145_1 j j)<|t j j (oLd (cs:=[.im 0 _]) j tF3 j j)<|t j j (oIAI j hx22 sF22 j j)<|t j j (oLd (cs:=[.im 1 _]) j tF5 j j)<|sS (dN z157 j (oCvI j uF5 uF3 j)) trivial (sS (dN z157 j (oAsI j j)) trivial (sD (by kernel_rfl))))<|K3 _ ⟨(w64 (x22)),h,(by kernel_rfl)⟩
  ·exact Go.skip<|K3 _ ⟨0,h,(by kernel_rfl)⟩
theorem L_spec_l00Src_pick {s_0:S_l00Src} {n_1:Int} {r:(Int×S_l00Src)} (h:spec_l00Src_pick s_0 n_1=some r):FX 118 [.ptr true [(.imm,W 1 (eK .u8) s_0.code),(.imm,I s_0.at_),(.imm,.sc (.int .u64 s_0.seed))],.im 2 false [I n_1]] ([(false,[.im 0 (I r.1)])],[.ptr true [(.imm,W 1 (eK .u8) r.2.code),(.imm,I r.2.at_),(.imm,.sc (.int .u64 r.2.seed))]]):=by
 unfold spec_l00Src_pick at h
 refine FL_goS (A:=[(0,M 0),(1,D 2 (I n_1))]) (B:=[(0,Od (G 1 (u_S_l00Src s_0))),(1,none)]) (nt:=20) rfl rfl Try.func118 rfl rfl rfl rfl ?_
 refine gs<|g0 j j (q (oAsI j j)<|nl)<|us<|gs<|gs<|g0 j j (q (oMv j j)<|q (oBi j j j j)<|nl)<|us<|gc h j iDec (fun hc1 h=>?_) fun hc1 h=>?_
 ·refine gs<|g0 j j (q (oAsI j j)<|nl)<|us<|Go.ret (Unw.ret ?_)
  cases h
  exact fr rF118 j
 ·refine Go.skip<|us<|gs<|?_
  obtain ⟨x9,hx9,h⟩:=bs h
  refine g0 j j (q (oMv j j)<|q (oCa (xs:=[.v false [.mp 0 0 0]]) (vs:=[(false,[.im 0 _])]) (v:=.v false [.im 0 _]) (L_spec_l00Src_next hx9) (.inl j) j kF157_77 j (ppP j j j pp0) j j (pbP j j pb0) j j j)<|q (oAsI j j)<|nl)<|us<|gs<|gs<|g1 j j (mk [(0,M 0),(1,iv n_1),(5,iv x9.1)] [(0,Od (G 1 (u_S_l00Src x9.2)))]) (q (oMv j j)<|q (oBi j j j j)<|nl)<|us<|Go.join (fun st=>∃x_5_r6,∃s_o0_0_r6,∃s_o0_1_r6,∃s_o0_2_r6,spec_l00Src_pick_k6 n_1 x_5_r6 s_o0_0_r6 s_o0_1_r6 s_o0_2_r6=some r∧st.norm ([1,5],[0])=mk [(1,iv n_1),(5,iv x_5_r6)] [(0,Od [Ct 1 (W 1 (eK .u8) s_o0_0_r6),C (I s_o0_1_r6),C (.sc (.int .u64 s_o0_2_r6))])]) ?_ ?_
  ·rintro st ⟨x_5_r6,s_o0_0_r6,s_o0_1_r6,s_o0_2_r6,h,hst⟩
   unfold spec_l00Src_pick_k6 at h
   refine us<|gs<|?_
   obtain ⟨x19,hx19,h⟩:=bs h
   refine g2 c118 j j hst (q (oMv j j)<|q (oMv j j)<|q (oRem j hx19 j j)<|q (oAsI j j)<|nl)<|us<|Go.ret (Unw.ret ?_)
   cases h
   exact fr rF118 j
  ·intro K3
   refine gc h j iDec (fun hc4 h=>?_) fun hc4 h=>?_
   ·obtain ⟨x15,hx15,h⟩:=bs h
    exact g0 j j (q (oMv j j)<|q (oBi j j j j)<|q (oMv j j)<|q (oCa (xs:=[.v false [.mp 0 0 0]]) (vs:=[(false,[.im 0 _])]) (v:=.v false [.im 0 _]) (L_spec_l00Src_next hx15) (.inl j) j kF157_77 j (ppP j j j pp0) j j (pbP j j pb0) j j j)<|q (oBi j j j j)<|q (oAsI j j)<|nl)<|K3 _ ⟨(w64 ((w64 (x9.1*256))+x15.1)),x15.2.code,x15.2.at_,x15.2.seed,h,(by kernel_rfl)⟩
   ·exact Go.skip<|K3 _ ⟨x9.1,x9.2.code,x9.2.at_,x9.2.seed,h,(by kernel_rfl)⟩
theorem L_spec_l00Src_one {s_0:S_l00Src} {n_1:Int} {r:(Bool×S_l00Src)} (h:spec_l00Src_one s_0 n_1=some r):FX 95 [.ptr true [(.imm,W 1 (eK .u8) s_0.code),(.imm,I s_0.at_),(.imm,.sc (.int .u64 s_0.seed))],.im 2 false [I n_1]] ([(false,[.im 0 (V r.1)])],[.ptr true [(.imm,W 1 (eK .u8) r.2.code),(.imm,I r.2.at_),(.imm,.sc (.int .u64 r.2.seed))]]):=by
 unfold spec_l00Src_one at h
 refine FL_goS (A:=[(0,M 0),(1,D 2 (I n_1))]) (B:=[(0,Od (G 1 (u_S_l00Src s_0))),(1,none)]) (nt:=9) rfl rfl Try.func95 rfl rfl rfl rfl ?_
 refine gs<|g0 j j (q (oAsI j j)<|nl)<|us<|gs<|?_
 obtain ⟨x7,hx7,h⟩:=bs h
 refine g0 j j (q (oMv j j)<|q (oMv j j)<|q (oCa (xs:=[.v false [.mp 0 0 0],.v false [.im 2 _]]) (vs:=[(false,[.im 0 _])]) (v:=.v false [.im 0 _]) (L_spec_l00Src_pick hx7) (.inl j) j kF118_77_2 j (ppP j j j (ppC j pp0)) j j (pbP j j pb0) j j j)<|q (oBi j j j j)<|q (oAsI j j)<|nl)<|us<|Go.ret (Unw.ret ?_)
 cases h
 exact fr rF95 j
theorem L_spec_l23Ring {s_0:S_l00Src} {r:(S_Drawing×S_l00Src)} (h:spec_l23Ring s_0=some r):FX 96 [.ptr true [(.imm,W 1 (eK .u8) s_0.code),(.imm,I s_0.at_),(.imm,.sc (.int .u64 s_0.seed))]] ([(true,[.im 0 (I r.1.Width),.im 0 (I r.1.Height),.ow 0 2 (List.map e_S_Point r.1.Points),.ow 0 2 (List.map e_S_Face r.1.Faces)])],[.ptr true [(.imm,W 1 (eK .u8) r.2.code),(.imm,I r.2.at_),(.imm,.sc (.int .u64 r.2.seed))]]):=by
 unfold spec_l23Ring at h
 refine FL_goS (A:=[(0,M 0)]) (B:=[(0,Od (G 1 (u_S_l00Src s_0)))]) (nt:=69) rfl rfl Try.func96 rfl rfl rfl rfl ?_
 refine gs<|g0 j j (q (oAl j tF26 (tkI (tkI (tkN (tkN tk0)))))<|nl)<|us<|gs<|?_
 obtain ⟨x8,hx8,h⟩:=bs h
 refine g0 j j (q (oMv j j)<|q (oCa (xs:=[.v false [.mp 0 0 0],.v false [.im 0 _]]) (vs:=[(false,[.im 0 _])]) (v:=.v false [.im 0 _]) (L_spec_l00Src_pick hx8) (.inl j) j kF118_77_2 j (ppP j j j (ppC j pp0)) j j (pbP j j pb0) j j j)<|q (oBi j j j j)<|q (oAsI j j)<|nl)<|us<|gs<|?_
 obtain ⟨x13,hx13,h⟩:=bs h
 refine g1 j j (mk [(0,M 0),(2,M 2),(3,iv (w64 (20+x8.1)))] [(0,Od (G 1 (u_S_l00Src x8.2))),(2,Oa [C (I 0),C (I 0),Z (W 2 e_S_Point ([]:List S_Point)),Z (W 2 e_S_Face ([]:List S_Face))])]) (q (oMv j j)<|q (oBi j j j j)<|q (oMv j j)<|q (oCa (xs:=[.v false [.mp 0 0 0],.v false [.im 0 _]]) (vs:=[(false,[.im 0 _])]) (v:=.v false [.im 0 _]) (L_spec_l00Src_pick hx13) (.inl j) j kF118_77_2 j (ppP j j j (ppC j pp0)) j j (pbP j j pb0) j j j)<|q (oBi j j j j)<|q (oAsI j j)<|nl)<|us<|gs<|?_
 obtain ⟨x18,hx18,h⟩:=bs h
 refine g1 j j (mk [(0,M 0),(2,M 2),(3,iv (w64 (20+x8.1))),(4,iv (w64 ((w64 ((w64 (20+x8.1))+20))+x13.1)))] [(0,Od (G 1 (u_S_l00Src x13.2))),(2,Oa [C (I 0),C (I 0),Z (W 2 e_S_Point ([]:List S_Point)),Z (W 2 e_S_Face ([]:List S_Face))])]) (q (oMv j j)<|q (oBi j j j j)<|q (oMv j j)<|q (oCa (xs:=[.v false [.mp 0 0 0],.v false [.im 0 _]]) (vs:=[(false,[.im 0 _])]) (v:=.v false [.im 0 _]) (L_spec_l00Src_pick hx18) (.inl j) j kF118_77_2 j (ppP j j j (ppC j pp0)) j j (pbP j j pb0) j j j)<|q (oBi j j j j)<|q (oAsI j j)<|nl)<|us<|gs<|g1 j j (mk [(0,M 0),(2,M 2),(3,iv (w64 (20+x8.1))),(4,iv (w64 ((w64 ((w64 (20+x8.1))+20))+x13.1))),(5,iv (w64 ((w64 ((w64 ((w64 ((w64 (20+x8.1))+20))+x13.1))+20))+x18.1)))] [(0,Od (G 1 (u_S_l00Src x18.2))),(2,Oa [C (I 0),C (I 0),Z (W 2 e_S_Point ([]:List S_Point)),Z (W 2 e_S_Face ([]:List S_Face))])]) (q (oMv j j)<|q (oMv j j)<|q (oBu (cs:=[.im 0 _,.im 0 _]) j bF155 j)<|q (oMv j j)<|q (oBu (cs:=[.im 0 _,.im 0 _]) j bF155 j)<|q (oMv j j)<|q (oMv j j)<|q (oBu (cs:=[.im 0 _,.im 0 _]) j bF155 j)<|q (oMv j j)<|q (oBu (cs:=[.im 0 _,.im 0 _]) j bF155 j)<|q (oMv j j)<|q (oMv j j)<|q (oBu (cs:=[.im 0 _,.im 0 _]) j bF155 j)<|q (oMv j j)<|q (oMv j j)<|q (oBu (cs:=[.im 0 _,.im 0 _]) j bF155 j)<|q (oMv j j)<|q (oMv j j)<|q (oBu (cs:=[.im 0 _,.im 0 _]) j bF155 j)<|q (oMv j j)<|q (oMv j j)<|q (oBu (cs:=[.im 0 _,.im 0 _]) j bF155 j)<|q (oBS (es:=List.map e_S_Point ([(⟨0,0⟩:S_Point),(⟨(w64 ((w64 ((w64 ((w64 ((w64 (20+x8.1))+20))+x13.1))+20))+x18.1)),0⟩:S_Point),(⟨(w64 ((w64 ((w64 ((w64 ((w64 (20+x8.1))+20))+x13.1))+20))+x18.1)),(w64 ((w64 ((w64 ((w64 ((w64 (20+x8.1))+20))+x13.1))+20))+x18.1))⟩:S_Point),(⟨0,(w64 ((w64 ((w64 ((w64 ((w64 (20+x8.1))+20))+x13.1))+20))+x18.1))⟩:S_Point),(⟨(w64 (20+x8.1)),(w64 (20+x8.1))⟩:S_Point),(⟨(w64 ((w64 ((w64 (20+x8.1))+20))+x13.1)),(w64 (20+x8.1))⟩:S_Point),(⟨(w64 ((w64 ((w64 (20+x8.1))+20))+x13.1)),(w64 ((w64 ((w64 (20+x8.1))+20))+x13.1))⟩:S_Point),(⟨(w64 (20+x8.1)),(w64 ((w64 ((w64 (20+x8.1))+20))+x13.1))⟩:S_Point)]:List S_Point)) j sF23 j (ptC j (fxI (fxI fx0)) j (ptC j (fxI (fxI fx0)) j (ptC j (fxI (fxI fx0)) j (ptC j (fxI (fxI fx0)) j (ptC j (fxI (fxI fx0)) j (ptC j (fxI (fxI fx0)) j (ptC j (fxI (fxI fx0)) j (ptC j (fxI (fxI fx0)) j pt0)))))))) (flat0 j fun _=>j))<|q (oBu (cs:=[.im 0 _,.im 0 _,.own 42 0 0,.nil]) j bF26 j)<|q (oAl j tF26 (tkI (tkI (tkN (tkN tk0)))))<|q (oSt tF26 j j j (tkI (tkI (tkO j j (tkN tk0)))) j j j)<|nl)<|us<|gs<|g1 j j (mk [(0,M 0),(2,M 2),(6,M 6)] [(0,Od (G 1 (u_S_l00Src x18.2))),(2,Oa [C (I 0),C (I 0),Z (W 2 e_S_Point ([]:List S_Point)),Z (W 2 e_S_Face ([]:List S_Face))]),(6,Oa [C (I (w64 ((w64 ((w64 ((w64 ((w64 (20+x8.1))+20))+x13.1))+20))+x18.1))),C (I (w64 ((w64 ((w64 ((w64 ((w64 (20+x8.1))+20))+x13.1))+20))+x18.1))),Z (W 2 e_S_Point ([(⟨0,0⟩:S_Point),(⟨(w64 ((w64 ((w64 ((w64 ((w64 (20+x8.1))+20))+x13.1))+20))+x18.1)),0⟩:S_Point),(⟨(w64 ((w64 ((w64 ((w64 ((w64 (20+x8.1))+20))+x13.1))+20))+x18.1)),(w64 ((w64 ((w64 ((w64 ((w64 (20+x8.1))+20))+x13.1))+20))+x18.1))⟩:S_Point),(⟨0,(w64 ((w64 ((w64 ((w64 ((w64 (20+x8.1))+20))+x13.1))+20))+x18.1))⟩:S_Point),(⟨(w64 (20+x8.1)),(w64 (20+x8.1))⟩:S_Point),(⟨(w64 ((w64 ((w64 (20+x8.1))+20))+x13.1)),(w64 (20+x8.1))⟩:S_Point),(⟨(w64 ((w64 ((w64 (20+x8.1))+20))+x13.1)),(w64 ((w64 ((w64 (20+x8.1))+20))+x13.1))⟩:S_Point),(⟨(w64 (20+x8.1)),(w64 ((w64 ((w64 (20+x8.1))+20))+x13.1))⟩:S_Point)]:List S_Point)),Z (W 2 e_S_Face ([]:List S_Face))])]) (q (oBS (es:=List.map eI ([0,1,5,4]:List Int)) j sF28 j (ptC j (fxI fx0) j (ptC j (fxI fx0) j (ptC j (fxI fx0) j (ptC j (fxI fx0) j pt0)))) (flat0 j fun _=>j))<|q (oBu (cs:=[.im 0 _,.own 44 0 0]) j bF148 j)<|q (oBS (es:=List.map eI ([1,2,6,5]:List Int)) j sF28 j (ptC j (fxI fx0) j (ptC j (fxI fx0) j (ptC j (fxI fx0) j (ptC j (fxI fx0) j pt0)))) (flat0 j fun _=>j))<|q (oBu (cs:=[.im 0 _,.own 46 0 0]) j bF148 j)<|q (oBS (es:=List.map eI ([2,3,7,6]:List Int)) j sF28 j (ptC j (fxI fx0) j (ptC j (fxI fx0) j (ptC j (fxI fx0) j (ptC j (fxI fx0) j pt0)))) (flat0 j fun _=>j))<|q (oBu (cs:=[.im 0 _,.own 48 0 0]) j bF148 j)<|q (oBS (es:=List.map eI ([3,0,4,7]:List Int)) j sF28 j (ptC j (fxI fx0) j (ptC j (fxI fx0) j (ptC j (fxI fx0) j (ptC j (fxI fx0) j pt0)))) (flat0 j fun _=>j))<|q (oBu (cs:=[.im 0 _,.own 50 0 0]) j bF148 j)<|q (oBS (es:=List.map eI ([4,5,6,7]:List Int)) j sF28 j (ptC j (fxI fx0) j (ptC j (fxI fx0) j (ptC j (fxI fx0) j (ptC j (fxI fx0) j pt0)))) (flat0 j fun _=>j))<|q (oBu (cs:=[.im 0 _,.own 52 0 0]) j bF148 j)<|q (oBS (es:=List.map e_S_Face ([(⟨(⟨#[97]⟩:ByteArray),([0,1,5,4]:List Int)⟩:S_Face),(⟨(⟨#[98]⟩:ByteArray),([1,2,6,5]:List Int)⟩:S_Face),(⟨(⟨#[99]⟩:ByteArray),([2,3,7,6]:List Int)⟩:S_Face),(⟨(⟨#[100]⟩:ByteArray),([3,0,4,7]:List Int)⟩:S_Face),(⟨(⟨#[101]⟩:ByteArray),([4,5,6,7]:List Int)⟩:S_Face)]:List S_Face)) j sF24 j (ptC j (fxI (fxO j j fx0)) j (ptC j (fxI (fxO j j fx0)) j (ptC j (fxI (fxO j j fx0)) j (ptC j (fxI (fxO j j fx0)) j (ptC j (fxI (fxO j j fx0)) j pt0))))) (flat1 j))<|q (oFA (r':=.mp 6 0 3) j fF26_3 j j)<|q (oSt tF24 j j j (tkO j j tk0) j j j)<|nl)<|us<|gs<|gs<|?_
 obtain ⟨x57,hx57,h⟩:=bs h
 refine g1 j j (mk [(0,M 0),(2,M 2),(6,M 6)] [(0,Od (G 1 (u_S_l00Src x18.2))),(2,Oa [C (I 0),C (I 0),Z (W 2 e_S_Point ([]:List S_Point)),Z (W 2 e_S_Face ([]:List S_Face))]),(6,Oa [C (I (w64 ((w64 ((w64 ((w64 ((w64 (20+x8.1))+20))+x13.1))+20))+x18.1))),C (I (w64 ((w64 ((w64 ((w64 ((w64 (20+x8.1))+20))+x13.1))+20))+x18.1))),Z (W 2 e_S_Point ([(⟨0,0⟩:S_Point),(⟨(w64 ((w64 ((w64 ((w64 ((w64 (20+x8.1))+20))+x13.1))+20))+x18.1)),0⟩:S_Point),(⟨(w64 ((w64 ((w64 ((w64 ((w64 (20+x8.1))+20))+x13.1))+20))+x18.1)),(w64 ((w64 ((w64 ((w64 ((w64 (20+x8.1))+20))+x13.1))+20))+x18.1))⟩:S_Point),(⟨0,(w64 ((w64 ((w64 ((w64 ((w64 (20+x8.1))+20))+x13.1))+20))+x18.1))⟩:S_Point),(⟨(w64 (20+x8.1)),(w64 (20+x8.1))⟩:S_Point),(⟨(w64 ((w64 ((w64 (20+x8.1))+20))+x13.1)),(w64 (20+x8.1))⟩:S_Point),(⟨(w64 ((w64 ((w64 (20+x8.1))+20))+x13.1)),(w64 ((w64 ((w64 (20+x8.1))+20))+x13.1))⟩:S_Point),(⟨(w64 (20+x8.1)),(w64 ((w64 ((w64 (20+x8.1))+20))+x13.1))⟩:S_Point)]:List S_Point)),Z (W 2 e_S_Face ([(⟨(⟨#[97]⟩:ByteArray),([0,1,5,4]:List Int)⟩:S_Face),(⟨(⟨#[98]⟩:ByteArray),([1,2,6,5]:List Int)⟩:S_Face),(⟨(⟨#[99]⟩:ByteArray),([2,3,7,6]:List Int)⟩:S_Face),(⟨(⟨#[100]⟩:ByteArray),([3,0,4,7]:List Int)⟩:S_Face),(⟨(⟨#[101]⟩:ByteArray),([4,5,6,7]:List Int)⟩:S_Face)]:List S_Face))])]) (q (oMv j j)<|q (oCa (xs:=[.v false [.mp 0 0 0],.v false [.im 0 _]]) (vs:=[(false,[.im 0 _])]) (v:=.v false [.im 0 _]) (L_spec_l00Src_one hx57) (.inl j) j kF95_77_2 j (ppP j j j (ppC j pp0)) j j (pbP j j pb0) j j j)<|nl)<|us<|Go.join (fun st=>∃d_o6_3_r8,spec_l23Ring_k8 x13 x18 x57 x8 d_o6_3_r8=some r∧st.norm ([0,2,6],[0,2,6])=mk [(0,M 0),(2,M 2),(6,M 6)] [(0,Od (G 1 (u_S_l00Src x57.2))),(2,Oa [C (I 0),C (I 0),Z (W 2 e_S_Point ([]:List S_Point)),Z (W 2 e_S_Face ([]:List S_Face))]),(6,Oa [C (I (w64 ((w64 ((w64 ((w64 ((w64 (20+x8.1))+20))+x13.1))+20))+x18.1))),C (I (w64 ((w64 ((w64 ((w64 ((w64 (20+x8.1))+20))+x13.1))+20))+x18.1))),Z (W 2 e_S_Point ([(⟨0,0⟩:S_Point),(⟨(w64 ((w64 ((w64 ((w64 ((w64 (20+x8.1))+20))+x13.1))+20))+x18.1)),0⟩:S_Point),(⟨(w64 ((w64 ((w64 ((w64 ((w64 (20+x8.1))+20))+x13.1))+20))+x18.1)),(w64 ((w64 ((w64 ((w64 ((w64 (20+x8.1))+20))+x13.1))+20))+x18.1))⟩:S_Point),(⟨0,(w64 ((w64 ((w64 ((w64 ((w64 (20+x8.1))+20))+x13.1))+20))+x18.1))⟩:S_Point),(⟨(w64 (20+x8.1)),(w64 (20+x8.1))⟩:S_Point),(⟨(w64 ((w64 ((w64 (20+x8.1))+20))+x13.1)),(w64 (20+x8.1))⟩:S_Point),(⟨(w64 ((w64 ((w64 (20+x8.1))+20))+x13.1)),(w64 ((w64 ((w64 (20+x8.1))+20))+x13.1))⟩:S_Point),(⟨(w64 (20+x8.1)),(w64 ((w64 ((w64 (20+x8.1))+20))+x13.1))⟩:S_Point)]:List S_Point)),Z (W 2 e_S_Face d_o6_3_r8)])]) ?_ ?_
 ·rintro st ⟨d_o6_3_r8,h,hst⟩
  unfold spec_l23Ring_k8 at h
  refine us<|gs<|gs<|?_
  obtain ⟨x63,hx63,h⟩:=bs h
  refine g2 c96 j j hst (q (oMv j j)<|q (oCa (xs:=[.v false [.mp 0 0 0],.v false [.im 0 _]]) (vs:=[(false,[.im 0 _])]) (v:=.v false [.im 0 _]) (L_spec_l00Src_one hx63) (.inl j) j kF95_77_2 j (ppP j j j (ppC j pp0)) j j (pbP j j pb0) j j j)<|nl)<|us<|Go.join (fun st=>∃d_o6_3_r10,spec_l23Ring_k10 x13 x18 x63 x8 d_o6_3_r10=some r∧st.norm ([2,6],[0,2,6])=mk [(2,M 2),(6,M 6)] [(0,Od (G 1 (u_S_l00Src x63.2))),(2,Oa [C (I 0),C (I 0),Z (W 2 e_S_Point ([]:List S_Point)),Z (W 2 e_S_Face ([]:List S_Face))]),(6,Oa [C (I (w64 ((w64 ((w64 ((w64 ((w64 (20+x8.1))+20))+x13.1))+20))+x18.1))),C (I (w64 ((w64 ((w64 ((w64 ((w64 (20+x8.1))+20))+x13.1))+20))+x18.1))),Z (W 2 e_S_Point ([(⟨0,0⟩:S_Point),(⟨(w64 ((w64 ((w64 ((w64 ((w64 (20+x8.1))+20))+x13.1))+20))+x18.1)),0⟩:S_Point),(⟨(w64 ((w64 ((w64 ((w64 ((w64 (20+x8.1))+20))+x13.1))+20))+x18.1)),(w64 ((w64 ((w64 ((w64 ((w64 (20+x8.1))+20))+x13.1))+20))+x18.1))⟩:S_Point),(⟨0,(w64 ((w64 ((w64 ((w64 ((w64 (20+x8.1))+20))+x13.1))+20))+x18.1))⟩:S_Point),(⟨(w64 (20+x8.1)),(w64 (20+x8.1))⟩:S_Point),(⟨(w64 ((w64 ((w64 (20+x8.1))+20))+x13.1)),(w64 (20+x8.1))⟩:S_Point),(⟨(w64 ((w64 ((w64 (20+x8.1))+20))+x13.1)),(w64 ((w64 ((w64 (20+x8.1))+20))+x13.1))⟩:S_Point),(⟨(w64 (20+x8.1)),(w64 ((w64 ((w64 (20+x8.1))+20))+x13.1))⟩:S_Point)]:List S_Point)),Z (W 2 e_S_Face d_o6_3_r10)])]) ?_ ?_
  ·rintro st ⟨d_o6_3_r10,h,hst⟩
   unfold spec_l23Ring_k10 at h
   refine us<|gs<|g2 c96 j j hst (q (oLd (cs:=[.im 0 _,.im 0 _,.own 6 0 2,.own 6 0 3]) j tF26 j j)<|q (oSt tF26 j j j (tkI (tkI (tkO j j (tkO j j tk0)))) j j j)<|nl)<|us<|Go.ret (Unw.ret ?_)
   cases h
   exact fr rF96 j
  ·intro K3
   refine gc h j iR (fun hc4 h=>?_) fun hc4 h=>?_
   ·exact g1 j j (mk [(2,M 2),(6,M 6)] [(0,Od (G 1 (u_S_l00Src x63.2))),(2,Oa [C (I 0),C (I 0),Z (W 2 e_S_Point ([]:List S_Point)),Z (W 2 e_S_Face ([]:List S_Face))]),(6,Oa [C (I (w64 ((w64 ((w64 ((w64 ((w64 (20+x8.1))+20))+x13.1))+20))+x18.1))),C (I (w64 ((w64 ((w64 ((w64 ((w64 (20+x8.1))+20))+x13.1))+20))+x18.1))),Z (W 2 e_S_Point ([(⟨0,0⟩:S_Point),(⟨(w64 ((w64 ((w64 ((w64 ((w64 (20+x8.1))+20))+x13.1))+20))+x18.1)),0⟩:S_Point),(⟨(w64 ((w64 ((w64 ((w64 ((w64 (20+x8.1))+20))+x13.1))+20))+x18.1)),(w64 ((w64 ((w64 ((w64 ((w64 (20+x8.1))+20))+x13.1))+20))+x18.1))⟩:S_Point),(⟨0,(w64 ((w64 ((w64 ((w64 ((w64 (20+x8.1))+20))+x13.1))+20))+x18.1))⟩:S_Point),(⟨(w64 (20+x8.1)),(w64 (20+x8.1))⟩:S_Point),(⟨(w64 ((w64 ((w64 (20+x8.1))+20))+x13.1)),(w64 (20+x8.1))⟩:S_Point),(⟨(w64 ((w64 ((w64 (20+x8.1))+20))+x13.1)),(w64 ((w64 ((w64 (20+x8.1))+20))+x13.1))⟩:S_Point),(⟨(w64 (20+x8.1)),(w64 ((w64 ((w64 (20+x8.1))+20))+x13.1))⟩:S_Point)]:List S_Point)),Z (W 2 e_S_Face d_o6_3_r8)])]) (q (oBS (es:=List.map eI ([4,5,6,7]:List Int)) j sF28 j (ptC j (fxI fx0) j (ptC j (fxI fx0) j (ptC j (fxI fx0) j (ptC j (fxI fx0) j pt0)))) (flat0 j fun _=>j))<|q (oBu (cs:=[.im 0 _,.own 64 0 0]) j bF148 j)<|q (oBS (es:=List.map e_S_Face ([(⟨(⟨#[101]⟩:ByteArray),([4,5,6,7]:List Int)⟩:S_Face)]:List S_Face)) j sF24 j (ptC j (fxI (fxO j j fx0)) j pt0) (flat1 j))<|q (oFA (r':=.mp 6 0 3) j fF26_3 j j)<|q (oSt tF24 j j j (tkO j j tk0) j j j)<|nl)<|K3 _ ⟨([(⟨(⟨#[101]⟩:ByteArray),([4,5,6,7]:List Int)⟩:S_Face)]:List S_Face),h,(by kernel_rfl)⟩
   ·exact Go.skip<|K3 _ ⟨d_o6_3_r8,h,(by kernel_rfl)⟩
 ·intro K5
  refine gc h j iR (fun hc6 h=>?_) fun hc6 h=>?_
  ·obtain ⟨x60,hx60,h⟩:=bs h
   exact g1 j j (mk [(0,M 0),(2,M 2),(6,M 6)] [(0,Od (G 1 (u_S_l00Src x57.2))),(2,Oa [C (I 0),C (I 0),Z (W 2 e_S_Point ([]:List S_Point)),Z (W 2 e_S_Face ([]:List S_Face))]),(6,Oa [C (I (w64 ((w64 ((w64 ((w64 ((w64 (20+x8.1))+20))+x13.1))+20))+x18.1))),C (I (w64 ((w64 ((w64 ((w64 ((w64 (20+x8.1))+20))+x13.1))+20))+x18.1))),Z (W 2 e_S_Point ([(⟨0,0⟩:S_Point),(⟨(w64 ((w64 ((w64 ((w64 ((w64 (20+x8.1))+20))+x13.1))+20))+x18.1)),0⟩:S_Point),(⟨(w64 ((w64 ((w64 ((w64 ((w64 (20+x8.1))+20))+x13.1))+20))+x18.1)),(w64 ((w64 ((w64 ((w64 ((w64 (20+x8.1))+20))+x13.1))+20))+x18.1))⟩:S_Point),(⟨0,(w64 ((w64 ((w64 ((w64 ((w64 (20+x8.1))+20))+x13.1))+20))+x18.1))⟩:S_Point),(⟨(w64 (20+x8.1)),(w64 (20+x8.1))⟩:S_Point),(⟨(w64 ((w64 ((w64 (20+x8.1))+20))+x13.1)),(w64 (20+x8.1))⟩:S_Point),(⟨(w64 ((w64 ((w64 (20+x8.1))+20))+x13.1)),(w64 ((w64 ((w64 (20+x8.1))+20))+x13.1))⟩:S_Point),(⟨(w64 (20+x8.1)),(w64 ((w64 ((w64 (20+x8.1))+20))+x13.1))⟩:S_Point)]:List S_Point)),Z (W 2 e_S_Face ([(⟨(⟨#[97]⟩:ByteArray),([0,1,5,4]:List Int)⟩:S_Face),(⟨(⟨#[98]⟩:ByteArray),([1,2,6,5]:List Int)⟩:S_Face),(⟨(⟨#[99]⟩:ByteArray),([2,3,7,6]:List Int)⟩:S_Face),(⟨(⟨#[100]⟩:ByteArray),([3,0,4,7]:List Int)⟩:S_Face),(⟨(⟨#[101]⟩:ByteArray),([4,5,6,7]:List Int)⟩:S_Face)]:List S_Face))])]) (q (oFA (r':=.mp 6 0 3) j fF26_3 j j)<|q (oLd (cs:=[.own 6 0 3]) j tF24 j j)<|q (oSlO j hx60 sF24 j j j (bn1 j) bn0 j j j)<|q (oFA (r':=.mp 6 0 3) j fF26_3 j j)<|q (oSt tF24 j j j (tkSM j j tk0) j j j)<|nl)<|K5 _ ⟨((([(⟨(⟨#[97]⟩:ByteArray),([0,1,5,4]:List Int)⟩:S_Face),(⟨(⟨#[98]⟩:ByteArray),([1,2,6,5]:List Int)⟩:S_Face),(⟨(⟨#[99]⟩:ByteArray),([2,3,7,6]:List Int)⟩:S_Face),(⟨(⟨#[100]⟩:ByteArray),([3,0,4,7]:List Int)⟩:S_Face),(⟨(⟨#[101]⟩:ByteArray),([4,5,6,7]:List Int)⟩:S_Face)]:List S_Face).take ((([(⟨(⟨#[97]⟩:ByteArray),([0,1,5,4]:List Int)⟩:S_Face),(⟨(⟨#[98]⟩:ByteArray),([1,2,6,5]:List Int)⟩:S_Face),(⟨(⟨#[99]⟩:ByteArray),([2,3,7,6]:List Int)⟩:S_Face),(⟨(⟨#[100]⟩:ByteArray),([3,0,4,7]:List Int)⟩:S_Face),(⟨(⟨#[101]⟩:ByteArray),([4,5,6,7]:List Int)⟩:S_Face)]:List S_Face).length:Int).toNat)).drop ((1:Int).toNat)),h,(by kernel_rfl)⟩
  ·exact Go.skip<|K5 _ ⟨([(⟨(⟨#[97]⟩:ByteArray),([0,1,5,4]:List Int)⟩:S_Face),(⟨(⟨#[98]⟩:ByteArray),([1,2,6,5]:List Int)⟩:S_Face),(⟨(⟨#[99]⟩:ByteArray),([2,3,7,6]:List Int)⟩:S_Face),(⟨(⟨#[100]⟩:ByteArray),([3,0,4,7]:List Int)⟩:S_Face),(⟨(⟨#[101]⟩:ByteArray),([4,5,6,7]:List Int)⟩:S_Face)]:List S_Face),h,(by kernel_rfl)⟩
theorem L_spec_l01Dec {n_0:Int} {r:ByteArray} (h:spec_l01Dec n_0=some r):FX 148 [.im 2 false [I n_0]] (B0 [(false,[.im 0 (Y r)])]):=by
 unfold spec_l01Dec at h
 refine gn 50 Try.func148 rfl ?_
 refine gs<|g0 j j (q (oAsI j j)<|nl)<|us<|gs<|gs<|g0 j j (q (oMv j j)<|q (oBi j j j j)<|nl)<|us<|gc h j iEq (fun hc1 h=>?_) fun hc1 h=>?_
 ·refine gs<|g0 j j (q (oAsI j j)<|nl)<|us<|Go.ret (Unw.ret ?_)
  cases h
  exact fr rF148 j
 ·refine Go.skip<|us<|gs<|g0 j j (q (oBS (es:=List.map (eK .u8) ([]:List Int)) j sF22 j pt0 (flat0 j fun _=>j))<|q (oAsO j j j j j)<|nl)<|us<|gs<|gs<|g0 j j (q (oMv j j)<|q (oAsI j j)<|nl)<|us<|Go.block<|?_
  obtain ⟨o,hl,h⟩:=bs h
  refine gl c148 j _ (fun (s:(Int×(List Int)))=>match s with | (m_4_l5,digits_o3_l5)=>mk [(0,iv n_0),(3,H 3 0),(4,iv m_4_l5)] [(3,Oc [Z (W 1 (eK .u8) digits_o3_l5)])]) (fun (digits_o3_e0_5:(List Int)) (p:Ex×St)=>p.1= .exit 0∧p.2.norm ([0,3],[3])=mk [(0,iv n_0),(3,H 3 0)] [(3,Oc [Z (W 1 (eK .u8) digits_o3_e0_5)])]) hl (by kernel_rfl) ?_ ?_ ?_
  ·intro o p hp e
   exact nomatch (hp.1.symm.trans e)
  ·rintro ⟨m_4_l5,digits_o3_l5⟩ o h
   unfold spec_l01Dec_l5 at h
   dsimp only at h
   refine gs<|gs<|g0 j j (q (oMv j j)<|q (oBi j j j j)<|nl)<|us<|gc h j iNe (fun hc12 h=>?_) fun hc12 h=>?_
   ·refine Go.skip<|us<|gs<|Go.block<|gs<|?_
    obtain ⟨x17,hx17,h⟩:=bs h
    refine g0 j j (q (oMv j j)<|q (oRem j hx17 j j)<|q (oAsI j j)<|nl)<|us<|gs<|gs<|g0 j j (q (oMv j j)<|q (oBi j j j j)<|nl)<|us<|Go.join (fun st=>∃d_5_r10,spec_l01Dec_k10 digits_o3_l5 m_4_l5 d_5_r10=some o∧st.norm ([0,3,4,5],[3])=mk [(0,iv n_0),(3,H 3 0),(4,iv m_4_l5),(5,iv d_5_r10)] [(3,Oc [Z (W 1 (eK .u8) digits_o3_l5)])]) ?_ ?_
    ·rintro st ⟨d_5_r10,h,hst⟩
     unfold spec_l01Dec_k10 at h
     refine us<|?_
     obtain ⟨x27,hx27,h⟩:=bs h
     refine g2 c148 j j hst (q (oMv j j)<|q (oMv j j)<|q (oBi j j j j)<|q (oCvI j uF2 uF5 j)<|q (oBS (es:=List.map (eK .u8) ([(IntKind.wrap .u8 ((w64 (48+d_5_r10))))]:List Int)) j sF22 j (ptC j (fxI fx0) j pt0) (flat0 j fun _=>j))<|q (oApO (en:=(eK .u8)) (M:=([(IntKind.wrap .u8 ((w64 (48+d_5_r10))))]:List Int)) j hx27 j sF22 j j uF22 (.inl ⟨_,j⟩) j j j j (el_own j j) (flat0 j fun _=>j))<|q (oAsO j j j j j)<|nl)<|Unw.blk<|us<|?_
     obtain ⟨x15,hx15,h⟩:=bs h
     refine g0 j j (q (oMv j j)<|q (oQuo j hx15 j j)<|q (oAsI j j)<|nl)<|Unw.nil<|?_
     cases h
     exact ⟨j,(by kernel_rfl)⟩
    ·intro K14
     refine gc h j iDec (fun hc15 h=>?_) fun hc15 h=>?_
     ·exact g0 j j (q (oMv j j)<|q (oUn j j j)<|q (oAsI j j)<|nl)<|K14 _ ⟨(w64 (0 - x17)),h,(by kernel_rfl)⟩
     ·exact Go.skip<|K14 _ ⟨x17,h,(by kernel_rfl)⟩
   ·refine Go.exit<|ux<|Unw.nil<|?_
    cases h
    exact ⟨j,(by kernel_rfl)⟩
  ·rintro ⟨e,st⟩ hp
   obtain ⟨digits_o3_e0_5,rfl⟩:∃y,y=o:=⟨o,rfl⟩
   obtain ⟨he,hst⟩:=hp
   obtain rfl:e= .exit 0:=he
   refine Unw.blkx<|us<|gs<|gs<|g2 c148 j j hst (q (oMv j j)<|q (oBi j j j j)<|nl)<|us<|Go.join (fun st=>∃digits_o3_r13,spec_l01Dec_k13 digits_o3_r13=some r∧st.norm ([3],[3])=mk [(3,H 3 0)] [(3,Oc [Z (W 1 (eK .u8) digits_o3_r13)])]) ?_ ?_
   ·rintro st ⟨digits_o3_r13,h,hst⟩
    unfold spec_l01Dec_k13 at h
    refine us<|gs<|g2 c148 j j hst (q (oBS (es:=List.map (eK .u8) ([]:List Int)) j sF22 j pt0 (flat0 j fun _=>j))<|q (oAsO j j j j j)<|nl)<|us<|gs<|gs<|g0 j j (q (oMv j j)<|q (oLnO j j uF22 j j j (fun e=>nomatch e))<|q (oBi j j j j)<|q (oAsI j j)<|nl)<|us<|Go.block<|?_
    obtain ⟨o,hl,h⟩:=bs h
    refine gl c148 j _ (fun (s:(Int×(List Int)))=>match s with | (i_7_l15,out_o6_l15)=>mk [(3,H 3 0),(6,H 6 0),(7,iv i_7_l15)] [(3,Oc [Z (W 1 (eK .u8) digits_o3_r13)]),(6,Oc [Z (W 1 (eK .u8) out_o6_l15)])]) (fun (out_o6_e2_15:(List Int)) (p:Ex×St)=>p.1= .exit 2∧p.2.norm ([6],[6])=mk [(6,H 6 0)] [(6,Oc [Z (W 1 (eK .u8) out_o6_e2_15)])]) hl (by kernel_rfl) ?_ ?_ ?_
    ·intro o p hp e
     exact nomatch (hp.1.symm.trans e)
    ·rintro ⟨i_7_l15,out_o6_l15⟩ o h
     unfold spec_l01Dec_l15 at h
     dsimp only at h
     refine gs<|gs<|g0 j j (q (oMv j j)<|q (oBi j j j j)<|nl)<|us<|gc h j iDec (fun hc9 h=>?_) fun hc9 h=>?_
     ·refine Go.skip<|us<|gs<|Go.block<|?_
      obtain ⟨x44,hx44,h⟩:=bs h
      obtain ⟨x47,hx47,h⟩:=bs h
      refine g0 j j (q (oMv j j)<|q (oMv j j)<|q (oMv j j)<|q (oIAO j hx44 sF22 j j j j)<|q (oLdE (cs:=[.im 0 _]) j tF5 j j j j (rd_get hx44) j j)<|q (oBS (es:=List.map (eK .u8) ([x44]:List Int)) j sF22 j (ptC j (fxI fx0) j pt0) (flat0 j fun _=>j))<|q (oApO (en:=(eK .u8)) (M:=([x44]:List Int)) j hx47 j sF22 j j uF22 (.inl ⟨_,j⟩) j j j j (el_own j j) (flat0 j fun _=>j))<|q (oAsO j j j j j)<|nl)<|Unw.blk<|us<|g0 j j (q (oMv j j)<|q (oBi j j j j)<|q (oAsI j j)<|nl)<|Unw.nil<|?_
      cases h
      exact ⟨j,(by kernel_rfl)⟩
     ·refine Go.exit<|ux<|Unw.nil<|?_
      cases h
      exact ⟨j,(by kernel_rfl)⟩
    ·rintro ⟨e,st⟩ hp
     obtain ⟨out_o6_e2_15,rfl⟩:∃y,y=o:=⟨o,rfl⟩
     obtain ⟨he,hst⟩:=hp
     obtain rfl:e= .exit 2:=he
     refine Unw.blkx<|us<|gs<|g2 c148 j j hst (q (oMv j j)<|q (oCvB (l:=out_o6_e2_15) j uF22 uF5 uF9 j (el_own j j))<|q (oAsI j j)<|nl)<|us<|Go.ret (Unw.ret ?_)
     cases h
     exact fr rF148 j
   ·intro K10
    refine gc h j iDec (fun hc11 h=>?_) fun hc11 h=>?_
    ·obtain ⟨x32,hx32,h⟩:=bs h
     exact g0 j j (q (oMv j j)<|q (oBS (es:=List.map (eK .u8) ([45]:List Int)) j sF22 j (ptC j (fxI fx0) j pt0) (flat0 j fun _=>j))<|q (oApO (en:=(eK .u8)) (M:=([45]:List Int)) j hx32 j sF22 j j uF22 (.inl ⟨_,j⟩) j j j j (el_own j j) (flat0 j fun _=>j))<|q (oAsO j j j j j)<|nl)<|K10 _ ⟨x32,h,(by kernel_rfl)⟩
    ·exact Go.skip<|K10 _ ⟨digits_o3_e0_5,h,(by kernel_rfl)⟩
theorem L_spec_l05Grid {s_0:S_l00Src} {r:(S_Drawing×S_l00Src)} (h:spec_l05Grid s_0=some r):FX 102 [.ptr true [(.imm,W 1 (eK .u8) s_0.code),(.imm,I s_0.at_),(.imm,.sc (.int .u64 s_0.seed))]] ([(true,[.im 0 (I r.1.Width),.im 0 (I r.1.Height),.ow 0 2 (List.map e_S_Point r.1.Points),.ow 0 2 (List.map e_S_Face r.1.Faces)])],[.ptr true [(.imm,W 1 (eK .u8) r.2.code),(.imm,I r.2.at_),(.imm,.sc (.int .u64 r.2.seed))]]):=by
 unfold spec_l05Grid at h
 refine FL_goS (A:=[(0,M 0)]) (B:=[(0,Od (G 1 (u_S_l00Src s_0)))]) (nt:=129) rfl rfl Try.func102 rfl rfl rfl rfl ?_
 refine gs<|g0 j j (q (oAl j tF26 (tkI (tkI (tkN (tkN tk0)))))<|nl)<|us<|gs<|?_
 obtain ⟨x16,hx16,h⟩:=bs h
 refine g0 j j (q (oMv j j)<|q (oCa (xs:=[.v false [.mp 0 0 0],.v false [.im 0 _]]) (vs:=[(false,[.im 0 _])]) (v:=.v false [.im 0 _]) (L_spec_l00Src_pick hx16) (.inl j) j kF118_77_2 j (ppP j j j (ppC j pp0)) j j (pbP j j pb0) j j j)<|q (oBi j j j j)<|q (oAsI j j)<|nl)<|us<|gs<|?_
 obtain ⟨x19,hx19,h⟩:=bs h
 refine g1 j j (mk [(0,M 0),(2,M 2),(3,iv (w64 (1+x16.1)))] [(0,Od (G 1 (u_S_l00Src x16.2))),(2,Oa [C (I 0),C (I 0),Z (W 2 e_S_Point ([]:List S_Point)),Z (W 2 e_S_Face ([]:List S_Face))])]) (q (oMv j j)<|q (oCa (xs:=[.v false [.mp 0 0 0],.v false [.im 0 _]]) (vs:=[(false,[.im 0 _])]) (v:=.v false [.im 0 _]) (L_spec_l00Src_pick hx19) (.inl j) j kF118_77_2 j (ppP j j j (ppC j pp0)) j j (pbP j j pb0) j j j)<|q (oBi j j j j)<|q (oAsI j j)<|nl)<|us<|gs<|g1 j j (mk [(0,M 0),(2,M 2),(3,iv (w64 (1+x16.1))),(4,iv (w64 (1+x19.1)))] [(0,Od (G 1 (u_S_l00Src x19.2))),(2,Oa [C (I 0),C (I 0),Z (W 2 e_S_Point ([]:List S_Point)),Z (W 2 e_S_Face ([]:List S_Face))])]) (q (oBS (es:=List.map eI ([0]:List Int)) j sF28 j (ptC j (fxI fx0) j pt0) (flat0 j fun _=>j))<|q (oAsO j j j j j)<|nl)<|us<|gs<|g0 j j (q (oBS (es:=List.map eI ([0]:List Int)) j sF28 j (ptC j (fxI fx0) j pt0) (flat0 j fun _=>j))<|q (oAsO j j j j j)<|nl)<|us<|gs<|gs<|g0 j j (q (oAsI j j)<|nl)<|us<|Go.block<|?_
 obtain ⟨o,hl,h⟩:=bs h
 refine gl c102 j _ (fun (s:(Int×(List Int)×Int×Int×(List Int)))=>match s with | (i_7_l6,s_o0_0_l6,s_o0_1_l6,s_o0_2_l6,xs_o5_l6)=>mk [(0,M 0),(2,M 2),(3,iv (w64 (1+x16.1))),(4,iv (w64 (1+x19.1))),(5,H 5 0),(6,H 6 0),(7,iv i_7_l6)] [(0,Od [Ct 1 (W 1 (eK .u8) s_o0_0_l6),C (I s_o0_1_l6),C (.sc (.int .u64 s_o0_2_l6))]),(2,Oa [C (I 0),C (I 0),Z (W 2 e_S_Point ([]:List S_Point)),Z (W 2 e_S_Face ([]:List S_Face))]),(5,Oc [Z (W 1 eI xs_o5_l6)]),(6,Oc [Z (W 1 eI ([0]:List Int))])]) (fun (o:((List Int)×Int×Int×(List Int))) (p:Ex×St)=>match o with | (s_o0_0_e0_6,s_o0_1_e0_6,s_o0_2_e0_6,xs_o5_e0_6)=>p.1= .exit 0∧p.2.norm ([0,2,3,4,5,6],[0,2,5,6])=mk [(0,M 0),(2,M 2),(3,iv (w64 (1+x16.1))),(4,iv (w64 (1+x19.1))),(5,H 5 0),(6,H 6 0)] [(0,Od [Ct 1 (W 1 (eK .u8) s_o0_0_e0_6),C (I s_o0_1_e0_6),C (.sc (.int .u64 s_o0_2_e0_6))]),(2,Oa [C (I 0),C (I 0),Z (W 2 e_S_Point ([]:List S_Point)),Z (W 2 e_S_Face ([]:List S_Face))]),(5,Oc [Z (W 1 eI xs_o5_e0_6)]),(6,Oc [Z (W 1 eI ([0]:List Int))])]) hl (by kernel_rfl) ?_ ?_ ?_
 ·intro o p hp e
  obtain ⟨s_o0_0_e0_6,s_o0_1_e0_6,s_o0_2_e0_6,xs_o5_e0_6⟩:=o
  exact nomatch (hp.1.symm.trans e)
 ·rintro ⟨i_7_l6,s_o0_0_l6,s_o0_1_l6,s_o0_2_l6,xs_o5_l6⟩ o h
  unfold spec_l05Grid_l6 at h
  dsimp only at h
  refine gs<|gs<|g0 j j (q (oMv j j)<|q (oMv j j)<|q (oBi j j j j)<|nl)<|us<|gc h j iDec (fun hc26 h=>?_) fun hc26 h=>?_
  ·refine Go.skip<|us<|gs<|Go.block<|?_
   obtain ⟨x31,hx31,h⟩:=bs h
   obtain ⟨x35,hx35,h⟩:=bs h
   obtain ⟨x38,hx38,h⟩:=bs h
   refine gd c102 j j j j (mk [(0,M 0),(2,M 2),(3,iv (w64 (1+x16.1))),(4,iv (w64 (1+x19.1))),(5,H 5 0),(6,H 6 0),(7,iv i_7_l6)] [(0,Od (G 1 (u_S_l00Src x35.2))),(2,Oa [C (I 0),C (I 0),Z (W 2 e_S_Point ([]:List S_Point)),Z (W 2 e_S_Face ([]:List S_Face))]),(5,Oc [Z (W 1 eI x38)]),(6,Oc [Z (W 1 eI ([0]:List Int))])]) (t j j (oMv j j)<|t j j (oMv j j)<|t j j (oMv j j)<|t j j (oMv j j)<|sK (O:=[5]) j j j (dN z102 j (oIAO j hx31 sF28 j j j j))<|sK (O:=[5]) j j j (dN z102 j (oLdE (cs:=[.im 0 _]) j tF2 j j j j (rd_get hx31) j j))<|t j j (oBi j j j j)<|sS (dN z102 j (oCa (xs:=[.v false [.mp 0 0 0],.v false [.im 0 _]]) (vs:=[(false,[.im 0 _])]) (v:=.v false [.im 0 _]) (L_spec_l00Src_pick hx35) (.inl j) j kF118_77_2 j (ppP j j j (ppC j pp0)) j j (pbP j j pb0) j j j)) (kY ⟨j,trivial⟩ (kY ⟨j,trivial⟩ trivial)) (t j j (oBi j j j j)<|sS (dN z102 j (oBS (es:=List.map eI ([(w64 ((w64 (x31+20))+x35.1))]:List Int)) j sF28 j (ptC j (fxI fx0) j pt0) (flat0 j fun _=>j))) (kN j (kN j trivial)) (sS (dN z102 j (oApO (en:=eI) (M:=([(w64 ((w64 (x31+20))+x35.1))]:List Int)) j hx38 j sF28 j j uF28 (.inl ⟨_,j⟩) j j j j (el_own j j) (flat0 j fun _=>j))) (kN j (kN j trivial)) (sS (dN z102 j (oAsO j j j j j)) (kN j (kN j trivial)) (sD (by kernel_rfl))))))<|Unw.blk<|us<|g0 j j (q (oMv j j)<|q (oBi j j j j)<|q (oAsI j j)<|nl)<|Unw.nil<|?_
   cases h
   exact ⟨j,(by kernel_rfl)⟩
  ·refine Go.exit<|ux<|Unw.nil<|?_
   cases h
   exact ⟨j,(by kernel_rfl)⟩
 ·rintro ⟨e,st⟩ hp
  obtain ⟨s_o0_0_e0_6,s_o0_1_e0_6,s_o0_2_e0_6,xs_o5_e0_6⟩:=o
  dsimp only at h
  obtain ⟨he,hst⟩:=hp
  obtain rfl:e= .exit 0:=he
  refine Unw.blkx<|us<|gs<|gs<|g2 c102 j j hst (q (oAsI j j)<|nl)<|us<|Go.block<|?_
  obtain ⟨o,hl,h⟩:=bs h
  refine gl c102 j _ (fun (s:(Int×(List Int)×Int×Int×(List Int)))=>match s with | (i_8_l10,s_o0_0_l10,s_o0_1_l10,s_o0_2_l10,ys_o6_l10)=>mk [(0,M 0),(2,M 2),(3,iv (w64 (1+x16.1))),(4,iv (w64 (1+x19.1))),(5,H 5 0),(6,H 6 0),(8,iv i_8_l10)] [(0,Od [Ct 1 (W 1 (eK .u8) s_o0_0_l10),C (I s_o0_1_l10),C (.sc (.int .u64 s_o0_2_l10))]),(2,Oa [C (I 0),C (I 0),Z (W 2 e_S_Point ([]:List S_Point)),Z (W 2 e_S_Face ([]:List S_Face))]),(5,Oc [Z (W 1 eI xs_o5_e0_6)]),(6,Oc [Z (W 1 eI ys_o6_l10)])]) (fun (o:((List Int)×Int×Int×(List Int))) (p:Ex×St)=>match o with | (s_o0_0_e2_10,s_o0_1_e2_10,s_o0_2_e2_10,ys_o6_e2_10)=>p.1= .exit 2∧p.2.norm ([2,3,4,5,6],[0,2,5,6])=mk [(2,M 2),(3,iv (w64 (1+x16.1))),(4,iv (w64 (1+x19.1))),(5,H 5 0),(6,H 6 0)] [(0,Od [Ct 1 (W 1 (eK .u8) s_o0_0_e2_10),C (I s_o0_1_e2_10),C (.sc (.int .u64 s_o0_2_e2_10))]),(2,Oa [C (I 0),C (I 0),Z (W 2 e_S_Point ([]:List S_Point)),Z (W 2 e_S_Face ([]:List S_Face))]),(5,Oc [Z (W 1 eI xs_o5_e0_6)]),(6,Oc [Z (W 1 eI ys_o6_e2_10)])]) hl (by kernel_rfl) ?_ ?_ ?_
  ·intro o p hp e
   obtain ⟨s_o0_0_e2_10,s_o0_1_e2_10,s_o0_2_e2_10,ys_o6_e2_10⟩:=o
   exact nomatch (hp.1.symm.trans e)
  ·rintro ⟨i_8_l10,s_o0_0_l10,s_o0_1_l10,s_o0_2_l10,ys_o6_l10⟩ o h
   unfold spec_l05Grid_l10 at h
   dsimp only at h
   refine gs<|gs<|g0 j j (q (oMv j j)<|q (oMv j j)<|q (oBi j j j j)<|nl)<|us<|gc h j iDec (fun hc25 h=>?_) fun hc25 h=>?_
   ·refine Go.skip<|us<|gs<|Go.block<|?_
    obtain ⟨x47,hx47,h⟩:=bs h
    obtain ⟨x51,hx51,h⟩:=bs h
    obtain ⟨x54,hx54,h⟩:=bs h
    refine gd c102 j j j j (mk [(0,M 0),(2,M 2),(3,iv (w64 (1+x16.1))),(4,iv (w64 (1+x19.1))),(5,H 5 0),(6,H 6 0),(8,iv i_8_l10)] [(0,Od (G 1 (u_S_l00Src x51.2))),(2,Oa [C (I 0),C (I 0),Z (W 2 e_S_Point ([]:List S_Point)),Z (W 2 e_S_Face ([]:List S_Face))]),(5,Oc [Z (W 1 eI xs_o5_e0_6)]),(6,Oc [Z (W 1 eI x54)])]) (t j j (oMv j j)<|t j j (oMv j j)<|t j j (oMv j j)<|t j j (oMv j j)<|sK (O:=[6]) j j j (dN z102 j (oIAO j hx47 sF28 j j j j))<|sK (O:=[6]) j j j (dN z102 j (oLdE (cs:=[.im 0 _]) j tF2 j j j j (rd_get hx47) j j))<|t j j (oBi j j j j)<|sS (dN z102 j (oCa (xs:=[.v false [.mp 0 0 0],.v false [.im 0 _]]) (vs:=[(false,[.im 0 _])]) (v:=.v false [.im 0 _]) (L_spec_l00Src_pick hx51) (.inl j) j kF118_77_2 j (ppP j j j (ppC j pp0)) j j (pbP j j pb0) j j j)) (kY ⟨j,trivial⟩ (kY ⟨j,trivial⟩ trivial)) (t j j (oBi j j j j)<|sS (dN z102 j (oBS (es:=List.map eI ([(w64 ((w64 (x47+20))+x51.1))]:List Int)) j sF28 j (ptC j (fxI fx0) j pt0) (flat0 j fun _=>j))) (kN j (kN j trivial)) (sS (dN z102 j (oApO (en:=eI) (M:=([(w64 ((w64 (x47+20))+x51.1))]:List Int)) j hx54 j sF28 j j uF28 (.inl ⟨_,j⟩) j j j j (el_own j j) (flat0 j fun _=>j))) (kN j (kN j trivial)) (sS (dN z102 j (oAsO j j j j j)) (kN j (kN j trivial)) (sD (by kernel_rfl))))))<|Unw.blk<|us<|g0 j j (q (oMv j j)<|q (oBi j j j j)<|q (oAsI j j)<|nl)<|Unw.nil<|?_
    cases h
    exact ⟨j,(by kernel_rfl)⟩
   ·refine Go.exit<|ux<|Unw.nil<|?_
    cases h
    exact ⟨j,(by kernel_rfl)⟩
  ·rintro ⟨e,st⟩ hp
   obtain ⟨s_o0_0_e2_10,s_o0_1_e2_10,s_o0_2_e2_10,ys_o6_e2_10⟩:=o
   dsimp only at h
   obtain ⟨he,hst⟩:=hp
   obtain rfl:e= .exit 2:=he
   refine Unw.blkx<|us<|gs<|?_
   obtain ⟨x57,hx57,h⟩:=bs h
   obtain ⟨x61,hx61,h⟩:=bs h
   refine gd c102 j j j hst (mk [(2,M 2),(3,iv (w64 (1+x16.1))),(4,iv (w64 (1+x19.1))),(5,H 5 0),(6,H 6 0),(9,M 9)] [(0,Od [Ct 1 (W 1 (eK .u8) s_o0_0_e2_10),C (I s_o0_1_e2_10),C (.sc (.int .u64 s_o0_2_e2_10))]),(2,Oa [C (I 0),C (I 0),Z (W 2 e_S_Point ([]:List S_Point)),Z (W 2 e_S_Face ([]:List S_Face))]),(5,Oc [Z (W 1 eI xs_o5_e0_6)]),(6,Oc [Z (W 1 eI ys_o6_e2_10)]),(9,Oa [C (I x57),C (I x61),Z (W 2 e_S_Point ([]:List S_Point)),Z (W 2 e_S_Face ([]:List S_Face))])]) (t j j (oMv j j)<|t j j (oMv j j)<|t j j (oIAO j hx57 sF28 j j j j)<|t j j (oLdE (cs:=[.im 0 _]) j tF2 j j j j (rd_get hx57) j j)<|t j j (oMv j j)<|t j j (oMv j j)<|t j j (oIAO j hx61 sF28 j j j j)<|t j j (oLdE (cs:=[.im 0 _]) j tF2 j j j j (rd_get hx61) j j)<|sF (dN z102 j (oBu (cs:=[.im 0 _,.im 0 _,.nil,.nil]) j bF26 j)) trivial (sS (dN z102 j (oAl j tF26 (tkI (tkI (tkN (tkN tk0)))))) trivial (sS (dN z102 j (oSt tF26 j j j (tkI (tkI (tkN (tkN tk0)))) j j j)) trivial (sD (by kernel_rfl)))) (sS (dN z102 j (oAl j tF26 (tkI (tkI (tkN (tkN tk0)))))) trivial (sS (dN z102 j (oBu (cs:=[.im 0 _,.im 0 _,.nil,.nil]) j bF26 j)) trivial (sS (dN z102 j (oSt tF26 j j j (tkI (tkI (tkN (tkN tk0)))) j j j)) trivial (sD (by kernel_rfl))))))<|us<|gs<|gs<|g0 j j (q (oAsI j j)<|nl)<|us<|Go.block<|?_
   obtain ⟨o,hl,h⟩:=bs h
   refine gl c102 j _ (fun (s:(Int×(List S_Point)))=>match s with | (y_10_l15,d_o9_2_l15)=>mk [(2,M 2),(3,iv (w64 (1+x16.1))),(4,iv (w64 (1+x19.1))),(5,H 5 0),(6,H 6 0),(9,M 9),(10,iv y_10_l15)] [(0,Od [Ct 1 (W 1 (eK .u8) s_o0_0_e2_10),C (I s_o0_1_e2_10),C (.sc (.int .u64 s_o0_2_e2_10))]),(2,Oa [C (I 0),C (I 0),Z (W 2 e_S_Point ([]:List S_Point)),Z (W 2 e_S_Face ([]:List S_Face))]),(5,Oc [Z (W 1 eI xs_o5_e0_6)]),(6,Oc [Z (W 1 eI ys_o6_e2_10)]),(9,Oa [C (I x57),C (I x61),Z (W 2 e_S_Point d_o9_2_l15),Z (W 2 e_S_Face ([]:List S_Face))])]) (fun (d_o9_2_e4_15:(List S_Point)) (p:Ex×St)=>p.1= .exit 4∧p.2.norm ([2,3,4,9],[0,2,9])=mk [(2,M 2),(3,iv (w64 (1+x16.1))),(4,iv (w64 (1+x19.1))),(9,M 9)] [(0,Od [Ct 1 (W 1 (eK .u8) s_o0_0_e2_10),C (I s_o0_1_e2_10),C (.sc (.int .u64 s_o0_2_e2_10))]),(2,Oa [C (I 0),C (I 0),Z (W 2 e_S_Point ([]:List S_Point)),Z (W 2 e_S_Face ([]:List S_Face))]),(9,Oa [C (I x57),C (I x61),Z (W 2 e_S_Point d_o9_2_e4_15),Z (W 2 e_S_Face ([]:List S_Face))])]) hl (by kernel_rfl) ?_ ?_ ?_
   ·intro o p hp e
    exact nomatch (hp.1.symm.trans e)
   ·rintro ⟨y_10_l15,d_o9_2_l15⟩ o h
    unfold spec_l05Grid_l15 at h
    dsimp only at h
    refine gs<|gs<|g0 j j (q (oMv j j)<|q (oMv j j)<|q (oBi j j j j)<|nl)<|us<|gc h j iDec (fun hc21 h=>?_) fun hc21 h=>?_
    ·refine Go.skip<|us<|gs<|Go.block<|gs<|g0 j j (q (oAsI j j)<|nl)<|us<|Go.block<|?_
     obtain ⟨o,hl,h⟩:=bs h
     refine gl c102 j _ (fun (s:(Int×(List S_Point)))=>match s with | (x_11_l18,d_o9_2_l18)=>mk [(2,M 2),(3,iv (w64 (1+x16.1))),(4,iv (w64 (1+x19.1))),(5,H 5 0),(6,H 6 0),(9,M 9),(10,iv y_10_l15),(11,iv x_11_l18)] [(0,Od [Ct 1 (W 1 (eK .u8) s_o0_0_e2_10),C (I s_o0_1_e2_10),C (.sc (.int .u64 s_o0_2_e2_10))]),(2,Oa [C (I 0),C (I 0),Z (W 2 e_S_Point ([]:List S_Point)),Z (W 2 e_S_Face ([]:List S_Face))]),(5,Oc [Z (W 1 eI xs_o5_e0_6)]),(6,Oc [Z (W 1 eI ys_o6_e2_10)]),(9,Oa [C (I x57),C (I x61),Z (W 2 e_S_Point d_o9_2_l18),Z (W 2 e_S_Face ([]:List S_Face))])]) (fun (d_o9_2_e6_18:(List S_Point)) (p:Ex×St)=>p.1= .exit 6∧p.2.norm ([2,3,4,5,6,9,10],[0,2,5,6,9])=mk [(2,M 2),(3,iv (w64 (1+x16.1))),(4,iv (w64 (1+x19.1))),(5,H 5 0),(6,H 6 0),(9,M 9),(10,iv y_10_l15)] [(0,Od [Ct 1 (W 1 (eK .u8) s_o0_0_e2_10),C (I s_o0_1_e2_10),C (.sc (.int .u64 s_o0_2_e2_10))]),(2,Oa [C (I 0),C (I 0),Z (W 2 e_S_Point ([]:List S_Point)),Z (W 2 e_S_Face ([]:List S_Face))]),(5,Oc [Z (W 1 eI xs_o5_e0_6)]),(6,Oc [Z (W 1 eI ys_o6_e2_10)]),(9,Oa [C (I x57),C (I x61),Z (W 2 e_S_Point d_o9_2_e6_18),Z (W 2 e_S_Face ([]:List S_Face))])]) hl (by kernel_rfl) ?_ ?_ ?_
     ·intro o p hp e
      exact nomatch (hp.1.symm.trans e)
     ·rintro ⟨x_11_l18,d_o9_2_l18⟩ o h
      unfold spec_l05Grid_l18 at h
      dsimp only at h
      refine gs<|gs<|g0 j j (q (oMv j j)<|q (oMv j j)<|q (oBi j j j j)<|nl)<|us<|gc h j iDec (fun hc24 h=>?_) fun hc24 h=>?_
      ·refine Go.skip<|us<|gs<|Go.block<|?_
       obtain ⟨x78,hx78,h⟩:=bs h
       obtain ⟨x82,hx82,h⟩:=bs h
       obtain ⟨x86,hx86,h⟩:=bs h
       refine gd c102 j j j j (mk [(2,M 2),(3,iv (w64 (1+x16.1))),(4,iv (w64 (1+x19.1))),(5,H 5 0),(6,H 6 0),(9,M 9),(10,iv y_10_l15),(11,iv x_11_l18)] [(0,Od [Ct 1 (W 1 (eK .u8) s_o0_0_e2_10),C (I s_o0_1_e2_10),C (.sc (.int .u64 s_o0_2_e2_10))]),(2,Oa [C (I 0),C (I 0),Z (W 2 e_S_Point ([]:List S_Point)),Z (W 2 e_S_Face ([]:List S_Face))]),(5,Oc [Z (W 1 eI xs_o5_e0_6)]),(6,Oc [Z (W 1 eI ys_o6_e2_10)]),(9,Oa [C (I x57),C (I x61),Z (W 2 e_S_Point x86),Z (W 2 e_S_Face ([]:List S_Face))])]) (t j j (oMv j j)<|t j j (oMv j j)<|t j j (oIAO j hx78 sF28 j j j j)<|t j j (oLdE (cs:=[.im 0 _]) j tF2 j j j j (rd_get hx78) j j)<|t j j (oMv j j)<|t j j (oMv j j)<|t j j (oIAO j hx82 sF28 j j j j)<|t j j (oLdE (cs:=[.im 0 _]) j tF2 j j j j (rd_get hx82) j j)<|sK (O:=[9]) j j j (dN z102 j (oFA (r':=.mp 9 0 2) j fF26_2 j j))<|sK (O:=[9]) j j j (dN z102 j (oLd (cs:=[.own 9 0 2]) j tF23 j j))<|sS (dN z102 j (oBu (cs:=[.im 0 _,.im 0 _]) j bF155 j)) (kY ⟨j,trivial⟩ (kY ⟨j,trivial⟩ trivial)) (sS (dN z102 j (oBS (es:=List.map e_S_Point ([(⟨x78,x82⟩:S_Point)]:List S_Point)) j sF23 j (ptC j (fxI (fxI fx0)) j pt0) (flat0 j fun _=>j))) (kY ⟨j,trivial⟩ (kY ⟨j,trivial⟩ trivial)) (sS (dN z102 j (oApO (en:=e_S_Point) (M:=([(⟨x78,x82⟩:S_Point)]:List S_Point)) j hx86 j sF23 j j uF23 (.inl ⟨_,j⟩) j j j j (el_own j j) (flat0 j fun _=>j))) (kN j (kN j trivial)) (t j j (oFA (r':=.mp 9 0 2) j fF26_2 j j)<|sS (dN z102 j (oSt tF23 j j j (tkO j j tk0) j j j)) (kN j (kN j trivial)) (sD (by kernel_rfl))))))<|Unw.blk<|us<|g0 j j (q (oMv j j)<|q (oBi j j j j)<|q (oAsI j j)<|nl)<|Unw.nil<|?_
       cases h
       exact ⟨j,(by kernel_rfl)⟩
      ·refine Go.exit<|ux<|Unw.nil<|?_
       cases h
       exact ⟨j,(by kernel_rfl)⟩
     ·rintro ⟨e,st⟩ hp
      obtain ⟨d_o9_2_e6_18,rfl⟩:∃y,y=o:=⟨o,rfl⟩
      obtain ⟨he,hst⟩:=hp
      obtain rfl:e= .exit 6:=he
      refine Unw.blkx<|Unw.blk<|us<|g2 c102 j j hst (q (oMv j j)<|q (oBi j j j j)<|q (oAsI j j)<|nl)<|Unw.nil<|?_
      cases h
      exact ⟨j,(by kernel_rfl)⟩
    ·refine Go.exit<|ux<|Unw.nil<|?_
     cases h
     exact ⟨j,(by kernel_rfl)⟩
   ·rintro ⟨e,st⟩ hp
    obtain ⟨d_o9_2_e4_15,rfl⟩:∃y,y=o:=⟨o,rfl⟩
    obtain ⟨he,hst⟩:=hp
    obtain rfl:e= .exit 4:=he
    refine Unw.blkx<|us<|gs<|gs<|g2 c102 j j hst (q (oAsI j j)<|nl)<|us<|Go.block<|?_
    obtain ⟨o,hl,h⟩:=bs h
    refine gl c102 j _ (fun (s:(Int×(List S_Face)))=>match s with | (y_12_l22,d_o9_3_l22)=>mk [(2,M 2),(3,iv (w64 (1+x16.1))),(4,iv (w64 (1+x19.1))),(9,M 9),(12,iv y_12_l22)] [(0,Od [Ct 1 (W 1 (eK .u8) s_o0_0_e2_10),C (I s_o0_1_e2_10),C (.sc (.int .u64 s_o0_2_e2_10))]),(2,Oa [C (I 0),C (I 0),Z (W 2 e_S_Point ([]:List S_Point)),Z (W 2 e_S_Face ([]:List S_Face))]),(9,Oa [C (I x57),C (I x61),Z (W 2 e_S_Point d_o9_2_e4_15),Z (W 2 e_S_Face d_o9_3_l22)])]) (fun (d_o9_3_e8_22:(List S_Face)) (p:Ex×St)=>p.1= .exit 8∧p.2.norm ([2,9],[0,2,9])=mk [(2,M 2),(9,M 9)] [(0,Od [Ct 1 (W 1 (eK .u8) s_o0_0_e2_10),C (I s_o0_1_e2_10),C (.sc (.int .u64 s_o0_2_e2_10))]),(2,Oa [C (I 0),C (I 0),Z (W 2 e_S_Point ([]:List S_Point)),Z (W 2 e_S_Face ([]:List S_Face))]),(9,Oa [C (I x57),C (I x61),Z (W 2 e_S_Point d_o9_2_e4_15),Z (W 2 e_S_Face d_o9_3_e8_22)])]) hl (by kernel_rfl) ?_ ?_ ?_
    ·intro o p hp e
     exact nomatch (hp.1.symm.trans e)
    ·rintro ⟨y_12_l22,d_o9_3_l22⟩ o h
     unfold spec_l05Grid_l22 at h
     dsimp only at h
     refine gs<|gs<|g0 j j (q (oMv j j)<|q (oMv j j)<|q (oBi j j j j)<|nl)<|us<|gc h j iDec (fun hc17 h=>?_) fun hc17 h=>?_
     ·refine Go.skip<|us<|gs<|Go.block<|gs<|g0 j j (q (oAsI j j)<|nl)<|us<|Go.block<|?_
      obtain ⟨o,hl,h⟩:=bs h
      refine gl c102 j _ (fun (s:(Int×(List S_Face)))=>match s with | (x_13_l25,d_o9_3_l25)=>mk [(2,M 2),(3,iv (w64 (1+x16.1))),(4,iv (w64 (1+x19.1))),(9,M 9),(12,iv y_12_l22),(13,iv x_13_l25)] [(0,Od [Ct 1 (W 1 (eK .u8) s_o0_0_e2_10),C (I s_o0_1_e2_10),C (.sc (.int .u64 s_o0_2_e2_10))]),(2,Oa [C (I 0),C (I 0),Z (W 2 e_S_Point ([]:List S_Point)),Z (W 2 e_S_Face ([]:List S_Face))]),(9,Oa [C (I x57),C (I x61),Z (W 2 e_S_Point d_o9_2_e4_15),Z (W 2 e_S_Face d_o9_3_l25)])]) (fun (d_o9_3_e10_25:(List S_Face)) (p:Ex×St)=>p.1= .exit 10∧p.2.norm ([2,3,4,9,12],[0,2,9])=mk [(2,M 2),(3,iv (w64 (1+x16.1))),(4,iv (w64 (1+x19.1))),(9,M 9),(12,iv y_12_l22)] [(0,Od [Ct 1 (W 1 (eK .u8) s_o0_0_e2_10),C (I s_o0_1_e2_10),C (.sc (.int .u64 s_o0_2_e2_10))]),(2,Oa [C (I 0),C (I 0),Z (W 2 e_S_Point ([]:List S_Point)),Z (W 2 e_S_Face ([]:List S_Face))]),(9,Oa [C (I x57),C (I x61),Z (W 2 e_S_Point d_o9_2_e4_15),Z (W 2 e_S_Face d_o9_3_e10_25)])]) hl (by kernel_rfl) ?_ ?_ ?_
      ·intro o p hp e
       exact nomatch (hp.1.symm.trans e)
      ·rintro ⟨x_13_l25,d_o9_3_l25⟩ o h
       unfold spec_l05Grid_l25 at h
       dsimp only at h
       refine gs<|gs<|g0 j j (q (oMv j j)<|q (oMv j j)<|q (oBi j j j j)<|nl)<|us<|gc h j iDec (fun hc20 h=>?_) fun hc20 h=>?_
       ·refine Go.skip<|us<|gs<|Go.block<|gs<|g0 j j (q (oMv j j)<|q (oMv j j)<|q (oBi j j j j)<|q (oBi j j j j)<|q (oMv j j)<|q (oBi j j j j)<|q (oAsI j j)<|nl)<|us<|?_
        obtain ⟨x107,hx107,h⟩:=bs h
        obtain ⟨x108,hx108,h⟩:=bs h
        obtain ⟨x110,hx110,h⟩:=bs h
        obtain ⟨x111,hx111,h⟩:=bs h
        obtain ⟨x126,hx126,h⟩:=bs h
        refine gd c102 j j j j (mk [(2,M 2),(3,iv (w64 (1+x16.1))),(4,iv (w64 (1+x19.1))),(9,M 9),(12,iv y_12_l22),(13,iv x_13_l25)] [(0,Od [Ct 1 (W 1 (eK .u8) s_o0_0_e2_10),C (I s_o0_1_e2_10),C (.sc (.int .u64 s_o0_2_e2_10))]),(2,Oa [C (I 0),C (I 0),Z (W 2 e_S_Point ([]:List S_Point)),Z (W 2 e_S_Face ([]:List S_Face))]),(9,Oa [C (I x57),C (I x61),Z (W 2 e_S_Point d_o9_2_e4_15),Z (W 2 e_S_Face x126)])]) (t j j (oMv j j)<|t j j (oMv j j)<|t j j (oMv j j)<|t j j (oMv j j)<|t j j (oBi j j j j)<|t j j (oMv j j)<|t j j (oMv j j)<|t j j (oBi j j j j)<|t j j (oBi j j j j)<|t j j (oMv j j)<|t j j (oMv j j)<|t j j (oBi j j j j)<|t j j (oBi j j j j)<|sK (O:=[9]) j j j (dN z102 j (oFA (r':=.mp 9 0 3) j fF26_3 j j))<|sK (O:=[9]) j j j (dN z102 j (oLd (cs:=[.own 9 0 3]) j tF24 j j))<|sF (dN z102 j (oCa (xs:=[.v false [.im 0 _]]) (vs:=[(false,[.im 0 _])]) (v:=.v false [.im 0 _]) (L_spec_l01Dec hx107) (.inl j) j kF148_2 j (ppC j pp0) j j pb0 j j j)) (kY ⟨j,trivial⟩ (kY ⟨j,trivial⟩ trivial)) (t j j (oCat j hx108 j j)<|sF (dN z102 j (oCa (xs:=[.v false [.im 0 _]]) (vs:=[(false,[.im 0 _])]) (v:=.v false [.im 0 _]) (L_spec_l01Dec hx110) (.inl j) j kF148_2 j (ppC j pp0) j j pb0 j j j)) (kY ⟨j,trivial⟩ (kY ⟨j,trivial⟩ trivial)) (t j j (oCat j hx111 j j)<|sS (dN z102 j (oBS (es:=List.map eI ([(w64 ((w64 (y_12_l22* (w64 ((w64 (1+x16.1))+1))))+x_13_l25)),(w64 ((w64 ((w64 (y_12_l22* (w64 ((w64 (1+x16.1))+1))))+x_13_l25))+1)),(w64 ((w64 ((w64 ((w64 (y_12_l22* (w64 ((w64 (1+x16.1))+1))))+x_13_l25))+(w64 (1+x16.1))))+2)),(w64 ((w64 ((w64 ((w64 (y_12_l22* (w64 ((w64 (1+x16.1))+1))))+x_13_l25))+(w64 (1+x16.1))))+1))]:List Int)) j sF28 j (ptC j (fxI fx0) j (ptC j (fxI fx0) j (ptC j (fxI fx0) j (ptC j (fxI fx0) j pt0)))) (flat0 j fun _=>j))) (kY ⟨j,trivial⟩ (kY ⟨j,trivial⟩ trivial)) (sS (dN z102 j (oBu (cs:=[.im 0 _,.own 123 0 0]) j bF148 j)) (kY ⟨j,trivial⟩ (kY ⟨j,trivial⟩ trivial)) (sS (dN z102 j (oBS (es:=List.map e_S_Face ([(⟨x111,([(w64 ((w64 (y_12_l22* (w64 ((w64 (1+x16.1))+1))))+x_13_l25)),(w64 ((w64 ((w64 (y_12_l22* (w64 ((w64 (1+x16.1))+1))))+x_13_l25))+1)),(w64 ((w64 ((w64 ((w64 (y_12_l22* (w64 ((w64 (1+x16.1))+1))))+x_13_l25))+(w64 (1+x16.1))))+2)),(w64 ((w64 ((w64 ((w64 (y_12_l22* (w64 ((w64 (1+x16.1))+1))))+x_13_l25))+(w64 (1+x16.1))))+1))]:List Int)⟩:S_Face)]:List S_Face)) j sF24 j (ptC j (fxI (fxO j j fx0)) j pt0) (flat1 j))) (kY ⟨j,trivial⟩ (kY ⟨j,trivial⟩ trivial)) (sS (dN z102 j (oApO (en:=e_S_Face) (M:=([(⟨x111,([(w64 ((w64 (y_12_l22* (w64 ((w64 (1+x16.1))+1))))+x_13_l25)),(w64 ((w64 ((w64 (y_12_l22* (w64 ((w64 (1+x16.1))+1))))+x_13_l25))+1)),(w64 ((w64 ((w64 ((w64 (y_12_l22* (w64 ((w64 (1+x16.1))+1))))+x_13_l25))+(w64 (1+x16.1))))+2)),(w64 ((w64 ((w64 ((w64 (y_12_l22* (w64 ((w64 (1+x16.1))+1))))+x_13_l25))+(w64 (1+x16.1))))+1))]:List Int)⟩:S_Face)]:List S_Face)) j hx126 j sF24 j j uF24 (.inl ⟨_,j⟩) j j j j (el_own j j) (flat1 j))) (kN j (kN j trivial)) (t j j (oFA (r':=.mp 9 0 3) j fF26_3 j j)<|sS (dN z102 j (oSt tF24 j j j (tkO j j tk0) j j j)) (kN j (kN j trivial)) (sD (by kernel_rfl))))))) (sS (dN z102 j (oBS (es:=List.map eI ([(w64 ((w64 (y_12_l22* (w64 ((w64 (1+x16.1))+1))))+x_13_l25)),(w64 ((w64 ((w64 (y_12_l22* (w64 ((w64 (1+x16.1))+1))))+x_13_l25))+1)),(w64 ((w64 ((w64 ((w64 (y_12_l22* (w64 ((w64 (1+x16.1))+1))))+x_13_l25))+(w64 (1+x16.1))))+2)),(w64 ((w64 ((w64 ((w64 (y_12_l22* (w64 ((w64 (1+x16.1))+1))))+x_13_l25))+(w64 (1+x16.1))))+1))]:List Int)) j sF28 j (ptC j (fxI fx0) j (ptC j (fxI fx0) j (ptC j (fxI fx0) j (ptC j (fxI fx0) j pt0)))) (flat0 j fun _=>j))) (kY ⟨j,trivial⟩ (kY ⟨j,trivial⟩ trivial)) (sS (dN z102 j (oCa (xs:=[.v false [.im 0 _]]) (vs:=[(false,[.im 0 _])]) (v:=.v false [.im 0 _]) (L_spec_l01Dec hx110) (.inl j) j kF148_2 j (ppC j pp0) j j pb0 j j j)) (kY ⟨j,trivial⟩ (kY ⟨j,trivial⟩ trivial)) (t j j (oCat j hx111 j j)<|sS (dN z102 j (oBu (cs:=[.im 0 _,.own 123 0 0]) j bF148 j)) (kY ⟨j,trivial⟩ (kY ⟨j,trivial⟩ trivial)) (sS (dN z102 j (oBS (es:=List.map e_S_Face ([(⟨x111,([(w64 ((w64 (y_12_l22* (w64 ((w64 (1+x16.1))+1))))+x_13_l25)),(w64 ((w64 ((w64 (y_12_l22* (w64 ((w64 (1+x16.1))+1))))+x_13_l25))+1)),(w64 ((w64 ((w64 ((w64 (y_12_l22* (w64 ((w64 (1+x16.1))+1))))+x_13_l25))+(w64 (1+x16.1))))+2)),(w64 ((w64 ((w64 ((w64 (y_12_l22* (w64 ((w64 (1+x16.1))+1))))+x_13_l25))+(w64 (1+x16.1))))+1))]:List Int)⟩:S_Face)]:List S_Face)) j sF24 j (ptC j (fxI (fxO j j fx0)) j pt0) (flat1 j))) (kY ⟨j,trivial⟩ (kY ⟨j,trivial⟩ trivial)) (sS (dN z102 j (oApO (en:=e_S_Face) (M:=([(⟨x111,([(w64 ((w64 (y_12_l22* (w64 ((w64 (1+x16.1))+1))))+x_13_l25)),(w64 ((w64 ((w64 (y_12_l22* (w64 ((w64 (1+x16.1))+1))))+x_13_l25))+1)),(w64 ((w64 ((w64 ((w64 (y_12_l22* (w64 ((w64 (1+x16.1))+1))))+x_13_l25))+(w64 (1+x16.1))))+2)),(w64 ((w64 ((w64 ((w64 (y_12_l22* (w64 ((w64 (1+x16.1))+1))))+x_13_l25))+(w64 (1+x16.1))))+1))]:List Int)⟩:S_Face)]:List S_Face)) j hx126 j sF24 j j uF24 (.inl ⟨_,j⟩) j j j j (el_own j j) (flat1 j))) (kN j (kN j trivial)) (t j j (oFA (r':=.mp 9 0 3) j fF26_3 j j)<|sS (dN z102 j (oSt tF24 j j j (tkO j j tk0) j j j)) (kN j (kN j trivial)) (sD (by kernel_rfl))))))))) (sS (dN z102 j (oBS (es:=List.map eI ([(w64 ((w64 (y_12_l22* (w64 ((w64 (1+x16.1))+1))))+x_13_l25)),(w64 ((w64 ((w64 (y_12_l22* (w64 ((w64 (1+x16.1))+1))))+x_13_l25))+1)),(w64 ((w64 ((w64 ((w64 (y_12_l22* (w64 ((w64 (1+x16.1))+1))))+x_13_l25))+(w64 (1+x16.1))))+2)),(w64 ((w64 ((w64 ((w64 (y_12_l22* (w64 ((w64 (1+x16.1))+1))))+x_13_l25))+(w64 (1+x16.1))))+1))]:List Int)) j sF28 j (ptC j (fxI fx0) j (ptC j (fxI fx0) j (ptC j (fxI fx0) j (ptC j (fxI fx0) j pt0)))) (flat0 j fun _=>j))) (kY ⟨j,trivial⟩ (kY ⟨j,trivial⟩ trivial)) (sS (dN z102 j (oCa (xs:=[.v false [.im 0 _]]) (vs:=[(false,[.im 0 _])]) (v:=.v false [.im 0 _]) (L_spec_l01Dec hx107) (.inl j) j kF148_2 j (ppC j pp0) j j pb0 j j j)) (kY ⟨j,trivial⟩ (kY ⟨j,trivial⟩ trivial)) (t j j (oCat j hx108 j j)<|sS (dN z102 j (oCa (xs:=[.v false [.im 0 _]]) (vs:=[(false,[.im 0 _])]) (v:=.v false [.im 0 _]) (L_spec_l01Dec hx110) (.inl j) j kF148_2 j (ppC j pp0) j j pb0 j j j)) (kY ⟨j,trivial⟩ (kY ⟨j,trivial⟩ trivial)) (t j j (oCat j hx111 j j)<|sS (dN z102 j (oBu (cs:=[.im 0 _,.own 123 0 0]) j bF148 j)) (kY ⟨j,trivial⟩ (kY ⟨j,trivial⟩ trivial)) (sS (dN z102 j (oBS (es:=List.map e_S_Face ([(⟨x111,([(w64 ((w64 (y_12_l22* (w64 ((w64 (1+x16.1))+1))))+x_13_l25)),(w64 ((w64 ((w64 (y_12_l22* (w64 ((w64 (1+x16.1))+1))))+x_13_l25))+1)),(w64 ((w64 ((w64 ((w64 (y_12_l22* (w64 ((w64 (1+x16.1))+1))))+x_13_l25))+(w64 (1+x16.1))))+2)),(w64 ((w64 ((w64 ((w64 (y_12_l22* (w64 ((w64 (1+x16.1))+1))))+x_13_l25))+(w64 (1+x16.1))))+1))]:List Int)⟩:S_Face)]:List S_Face)) j sF24 j (ptC j (fxI (fxO j j fx0)) j pt0) (flat1 j))) (kY ⟨j,trivial⟩ (kY ⟨j,trivial⟩ trivial)) (sS (dN z102 j (oApO (en:=e_S_Face) (M:=([(⟨x111,([(w64 ((w64 (y_12_l22* (w64 ((w64 (1+x16.1))+1))))+x_13_l25)),(w64 ((w64 ((w64 (y_12_l22* (w64 ((w64 (1+x16.1))+1))))+x_13_l25))+1)),(w64 ((w64 ((w64 ((w64 (y_12_l22* (w64 ((w64 (1+x16.1))+1))))+x_13_l25))+(w64 (1+x16.1))))+2)),(w64 ((w64 ((w64 ((w64 (y_12_l22* (w64 ((w64 (1+x16.1))+1))))+x_13_l25))+(w64 (1+x16.1))))+1))]:List Int)⟩:S_Face)]:List S_Face)) j hx126 j sF24 j j uF24 (.inl ⟨_,j⟩) j j j j (el_own j j) (flat1 j))) (kN j (kN j trivial)) (t j j (oFA (r':=.mp 9 0 3) j fF26_3 j j)<|sS (dN z102 j (oSt tF24 j j j (tkO j j tk0) j j j)) (kN j (kN j trivial)) (sD (by kernel_rfl))))))))))<|Unw.blk<|us<|g0 j j (q (oMv j j)<|q (oBi j j j j)<|q (oAsI j j)<|nl)<|Unw.nil<|?_
        cases h
        exact ⟨j,(by kernel_rfl)⟩
       ·refine Go.exit<|ux<|Unw.nil<|?_
        cases h
        exact ⟨j,(by kernel_rfl)⟩
      ·rintro ⟨e,st⟩ hp
       obtain ⟨d_o9_3_e10_25,rfl⟩:∃y,y=o:=⟨o,rfl⟩
       obtain ⟨he,hst⟩:=hp
       obtain rfl:e= .exit 10:=he
       refine Unw.blkx<|Unw.blk<|us<|g2 c102 j j hst (q (oMv j j)<|q (oBi j j j j)<|q (oAsI j j)<|nl)<|Unw.nil<|?_
       cases h
       exact ⟨j,(by kernel_rfl)⟩
     ·refine Go.exit<|ux<|Unw.nil<|?_
      cases h
      exact ⟨j,(by kernel_rfl)⟩
    ·rintro ⟨e,st⟩ hp
     obtain ⟨d_o9_3_e8_22,rfl⟩:∃y,y=o:=⟨o,rfl⟩
     obtain ⟨he,hst⟩:=hp
     obtain rfl:e= .exit 8:=he
     refine Unw.blkx<|us<|gs<|g2 c102 j j hst (q (oLd (cs:=[.im 0 _,.im 0 _,.own 9 0 2,.own 9 0 3]) j tF26 j j)<|q (oSt tF26 j j j (tkI (tkI (tkO j j (tkO j j tk0)))) j j j)<|nl)<|us<|Go.ret (Unw.ret ?_)
     cases h
     exact fr rF102 j
theorem L_spec_l05Cut {s_0:S_l00Src} {d_1:S_Drawing} {r:(S_Drawing×S_l00Src)} (h:spec_l05Cut s_0 d_1=some r):FX 103 [.ptr true [(.imm,W 1 (eK .u8) s_0.code),(.imm,I s_0.at_),(.imm,.sc (.int .u64 s_0.seed))],.mvs [(.imm,I d_1.Width),(.imm,I d_1.Height),(.sh,W 2 e_S_Point d_1.Points),(.sh,W 2 e_S_Face d_1.Faces)]] ([(true,[.im 0 (I r.1.Width),.im 0 (I r.1.Height),.ow 0 2 (List.map e_S_Point r.1.Points),.ow 0 2 (List.map e_S_Face r.1.Faces)])],[.ptr true [(.imm,W 1 (eK .u8) r.2.code),(.imm,I r.2.at_),(.imm,.sc (.int .u64 r.2.seed))]]):=by
 unfold spec_l05Cut at h
 refine FL_goS (A:=[(0,M 0),(1,.v true [.im 0 (I d_1.Width),.im 0 (I d_1.Height),.own 1 0 2,.own 1 0 3])]) (B:=[(0,Od (G 1 (u_S_l00Src s_0))),(1,some ⟨0,0,false,false,false,true,[C (I d_1.Width),C (I d_1.Height),Z (W 2 e_S_Point d_1.Points),Z (W 2 e_S_Face d_1.Faces)]⟩)]) (nt:=85) rfl rfl Try.func103 rfl rfl rfl rfl ?_
 refine gs<|g0 j j (q (oBx j tF26 j (tkI (tkI (tkO j j (tkO j j tk0)))))<|q (oAl j tF26 (tkI (tkI (tkN (tkN tk0)))))<|nl)<|us<|gs<|g0 j j (q (oFA (r':=.mp 3 0 0) j fF26_0 j j)<|q (oLd (cs:=[.im 0 _]) j tF2 j j)<|q (oFA (r':=.mp 3 0 1) j fF26_1 j j)<|q (oLd (cs:=[.im 0 _]) j tF2 j j)<|q (oFA (r':=.mp 3 0 2) j fF26_2 j j)<|q (oLd (cs:=[.own 3 0 2]) j tF23 j j)<|q (oBu (cs:=[.im 0 _,.im 0 _,.own 3 0 2,.nil]) j bF26 j)<|q (oAl j tF26 (tkI (tkI (tkN (tkN tk0)))))<|q (oSt tF26 j j j (tkI (tkI (tkO j j (tkN tk0)))) j j j)<|nl)<|us<|gs<|gs<|g1 j j (mk [(0,M 0),(3,M 3),(4,M 4),(5,M 5)] [(0,Od (G 1 (u_S_l00Src s_0))),(3,Oa [C (I d_1.Width),C (I d_1.Height),⟨.gone,0,0,V false⟩,Z (W 2 e_S_Face d_1.Faces)]),(4,Oa [C (I 0),C (I 0),Z (W 2 e_S_Point ([]:List S_Point)),Z (W 2 e_S_Face ([]:List S_Face))]),(5,Oa [C (I d_1.Width),C (I d_1.Height),Z (W 2 e_S_Point d_1.Points),Z (W 2 e_S_Face ([]:List S_Face))])]) (q (oAsI j j)<|nl)<|us<|Go.block<|?_
 obtain ⟨o,hl,h⟩:=bs h
 refine gl c103 j _ (fun (s:(Int×(List Int)×Int×Int×(List S_Face)))=>match s with | (i_6_l3,s_o0_0_l3,s_o0_1_l3,s_o0_2_l3,out_o5_3_l3)=>mk [(0,M 0),(3,M 3),(4,M 4),(5,M 5),(6,iv i_6_l3)] [(0,Od [Ct 1 (W 1 (eK .u8) s_o0_0_l3),C (I s_o0_1_l3),C (.sc (.int .u64 s_o0_2_l3))]),(3,Oa [C (I d_1.Width),C (I d_1.Height),⟨.gone,0,0,V false⟩,Z (W 2 e_S_Face d_1.Faces)]),(4,Oa [C (I 0),C (I 0),Z (W 2 e_S_Point ([]:List S_Point)),Z (W 2 e_S_Face ([]:List S_Face))]),(5,Oa [C (I d_1.Width),C (I d_1.Height),Z (W 2 e_S_Point d_1.Points),Z (W 2 e_S_Face out_o5_3_l3)])]) (fun (o:((List Int)×Int×Int×(List S_Face))) (p:Ex×St)=>match o with | (s_o0_0_e0_3,s_o0_1_e0_3,s_o0_2_e0_3,out_o5_3_e0_3)=>p.1= .exit 0∧p.2.norm ([4,5],[0,4,5])=mk [(4,M 4),(5,M 5)] [(0,Od [Ct 1 (W 1 (eK .u8) s_o0_0_e0_3),C (I s_o0_1_e0_3),C (.sc (.int .u64 s_o0_2_e0_3))]),(4,Oa [C (I 0),C (I 0),Z (W 2 e_S_Point ([]:List S_Point)),Z (W 2 e_S_Face ([]:List S_Face))]),(5,Oa [C (I d_1.Width),C (I d_1.Height),Z (W 2 e_S_Point d_1.Points),Z (W 2 e_S_Face out_o5_3_e0_3)])]) hl (by kernel_rfl) ?_ ?_ ?_
 ·intro o p hp e
  obtain ⟨s_o0_0_e0_3,s_o0_1_e0_3,s_o0_2_e0_3,out_o5_3_e0_3⟩:=o
  exact nomatch (hp.1.symm.trans e)
 ·rintro ⟨i_6_l3,s_o0_0_l3,s_o0_1_l3,s_o0_2_l3,out_o5_3_l3⟩ o h
  unfold spec_l05Cut_l3 at h
  dsimp only at h
  refine gs<|gs<|g0 j j (q (oMv j j)<|q (oFA (r':=.mp 3 0 3) j fF26_3 j j)<|q (oLd (cs:=[.own 3 0 3]) j tF24 j j)<|q (oLnO j j uF24 j j j (fun e=>nomatch e))<|q (oBi j j j j)<|nl)<|us<|gc h j iDec (fun hc9 h=>?_) fun hc9 h=>?_
  ·refine Go.skip<|us<|gs<|Go.join (fun st=>∃out_o5_3_r4,∃s_o0_0_r4,∃s_o0_1_r4,∃s_o0_2_r4,spec_l05Cut_k4 i_6_l3 out_o5_3_r4 s_o0_0_r4 s_o0_1_r4 s_o0_2_r4=some o∧st.norm ([0,3,4,5,6],[0,3,4,5])=mk [(0,M 0),(3,M 3),(4,M 4),(5,M 5),(6,iv i_6_l3)] [(0,Od [Ct 1 (W 1 (eK .u8) s_o0_0_r4),C (I s_o0_1_r4),C (.sc (.int .u64 s_o0_2_r4))]),(3,Oa [C (I d_1.Width),C (I d_1.Height),⟨.gone,0,0,V false⟩,Z (W 2 e_S_Face d_1.Faces)]),(4,Oa [C (I 0),C (I 0),Z (W 2 e_S_Point ([]:List S_Point)),Z (W 2 e_S_Face ([]:List S_Face))]),(5,Oa [C (I d_1.Width),C (I d_1.Height),Z (W 2 e_S_Point d_1.Points),Z (W 2 e_S_Face out_o5_3_r4)])]) ?_ ?_
   ·rintro st ⟨out_o5_3_r4,s_o0_0_r4,s_o0_1_r4,s_o0_2_r4,h,hst⟩
    unfold spec_l05Cut_k4 at h
    refine us<|g2 c103 j j hst (q (oMv j j)<|q (oBi j j j j)<|q (oAsI j j)<|nl)<|Unw.nil<|?_
    cases h
    exact ⟨j,(by kernel_rfl)⟩
   ·intro K13
    refine Go.block<|gs<|?_
    obtain ⟨x25,hx25,h⟩:=bs h
    refine g0 j j (q (oFA (r':=.mp 3 0 3) j fF26_3 j j)<|q (oLd (cs:=[.own 3 0 3]) j tF24 j j)<|q (oMv j j)<|q (oIAO j hx25 sF24 j j j j)<|q (oLdE (cs:=[.im 0 _,.im 0 _]) j tF148 j j j j (rd_get hx25) j j)<|q (oAl j tF148 (tkI (tkN tk0)))<|q (oSt tF148 j j j (tkI (tkI tk0)) j j j)<|nl)<|us<|gs<|?_
    obtain ⟨⟨t_34_m6,s_o0_0_m6,s_o0_1_m6,s_o0_2_m6⟩,hm16,h⟩:=bs h
    dsimp only at h
    refine gX c103 j j (st1:=mk [(0,M 0),(3,M 3),(4,M 4),(5,M 5),(6,iv i_6_l3),(7,M 7)] [(0,Od [Ct 1 (W 1 (eK .u8) s_o0_0_l3),C (I s_o0_1_l3),C (.sc (.int .u64 s_o0_2_l3))]),(3,Oa [C (I d_1.Width),C (I d_1.Height),⟨.gone,0,0,V false⟩,Z (W 2 e_S_Face d_1.Faces)]),(4,Oa [C (I 0),C (I 0),Z (W 2 e_S_Point ([]:List S_Point)),Z (W 2 e_S_Face ([]:List S_Face))]),(5,Oa [C (I d_1.Width),C (I d_1.Height),Z (W 2 e_S_Point d_1.Points),Z (W 2 e_S_Face out_o5_3_l3)]),(7,Oa (G 0 (u_S_Face x25)))]) (by kernel_rfl) (mk [(0,M 0),(3,M 3),(4,M 4),(5,M 5),(6,iv i_6_l3),(7,M 7),(34,bv t_34_m6)] [(0,Od [Ct 1 (W 1 (eK .u8) s_o0_0_m6),C (I s_o0_1_m6),C (.sc (.int .u64 s_o0_2_m6))]),(3,Oa [C (I d_1.Width),C (I d_1.Height),⟨.gone,0,0,V false⟩,Z (W 2 e_S_Face d_1.Faces)]),(4,Oa [C (I 0),C (I 0),Z (W 2 e_S_Point ([]:List S_Point)),Z (W 2 e_S_Face ([]:List S_Face))]),(5,Oa [C (I d_1.Width),C (I d_1.Height),Z (W 2 e_S_Point d_1.Points),Z (W 2 e_S_Face out_o5_3_l3)]),(7,Oa (G 0 (u_S_Face x25)))]) ?_ ?_
    ·refine xq (oFA (r':=.mp 7 0 1) j fF148_1 j j)<|xq (oLd (cs:=[.im 0 _]) j tF28 j j)<|xq (oLnI j j uF28 j)<|xq (oBi j j j j)<|xq (oMv j j)<|?_
     refine ic hm16 (fun hc14 hm16=>?_) fun hc14 hm16=>?_
     ·obtain ⟨x33,hx33,hm16⟩:=bs hm16
      cases hm16
      exact xqT j j (iEq.2 hc14) (oMv j j)<|xqT j j (iEq.2 hc14) (oCa (xs:=[.v false [.mp 0 0 0],.v false [.im 0 _]]) (vs:=[(false,[.im 0 _])]) (v:=.v false [.im 0 _]) (L_spec_l00Src_one hx33) (.inl j) j kF95_77_2 j (ppP j j j (ppC j pp0)) j j (pbP j j pb0) j j j)<|xq (oPkT j j (iEq.2 hc14) j)<|xn
     ·cases hm16
      exact xsgF j j (byF iEq hc14) j<|xsgF j j (byF iEq hc14) j<|xq (oPkF j j (byF iEq hc14) j)<|xn
    ·refine us<|gc h j iR (fun hc15 h=>?_) fun hc15 h=>?_
     ·refine gs<|?_
      obtain ⟨x41,hx41,h⟩:=bs h
      obtain ⟨x45,hx45,h⟩:=bs h
      obtain ⟨x49,hx49,h⟩:=bs h
      obtain ⟨x54,hx54,h⟩:=bs h
      refine gd c103 j j j j (mk [(0,M 0),(3,M 3),(4,M 4),(5,M 5),(6,iv i_6_l3),(7,M 7)] [(0,Od [Ct 1 (W 1 (eK .u8) s_o0_0_m6),C (I s_o0_1_m6),C (.sc (.int .u64 s_o0_2_m6))]),(3,Oa [C (I d_1.Width),C (I d_1.Height),⟨.gone,0,0,V false⟩,Z (W 2 e_S_Face d_1.Faces)]),(4,Oa [C (I 0),C (I 0),Z (W 2 e_S_Point ([]:List S_Point)),Z (W 2 e_S_Face ([]:List S_Face))]),(5,Oa [C (I d_1.Width),C (I d_1.Height),Z (W 2 e_S_Point d_1.Points),Z (W 2 e_S_Face x54)]),(7,Oa (G 0 (u_S_Face x25)))]) (t j j (oFA (r':=.mp 7 0 1) j fF148_1 j j)<|t j j (oLd (cs:=[.im 0 _]) j tF28 j j)<|t j j (oIAI j hx41 sF28 j j)<|t j j (oLd (cs:=[.im 0 _]) j tF2 j j)<|t j j (oFA (r':=.mp 7 0 1) j fF148_1 j j)<|t j j (oLd (cs:=[.im 0 _]) j tF28 j j)<|t j j (oIAI j hx45 sF28 j j)<|t j j (oLd (cs:=[.im 0 _]) j tF2 j j)<|t j j (oFA (r':=.mp 7 0 1) j fF148_1 j j)<|t j j (oLd (cs:=[.im 0 _]) j tF28 j j)<|t j j (oIAI j hx49 sF28 j j)<|t j j (oLd (cs:=[.im 0 _]) j tF2 j j)<|sK (O:=[5]) j j j (dN z103 j (oFA (r':=.mp 5 0 3) j fF26_3 j j))<|sK (O:=[5]) j j j (dN z103 j (oLd (cs:=[.own 5 0 3]) j tF24 j j))<|sK (O:=[7]) j j j (dN z103 j (oFA (r':=.mp 7 0 0) j fF148_0 j j))<|sK (O:=[7]) j j j (dN z103 j (oLd (cs:=[.im 0 _]) j tF9 j j))<|sS (dN z103 j (oBS (es:=List.map eI ([x41,x45,x49]:List Int)) j sF28 j (ptC j (fxI fx0) j (ptC j (fxI fx0) j (ptC j (fxI fx0) j pt0))) (flat0 j fun _=>j))) (kY ⟨j,trivial⟩ (kY ⟨j,trivial⟩ (kY ⟨j,trivial⟩ (kY ⟨j,trivial⟩ trivial)))) (sS (dN z103 j (oBu (cs:=[.im 0 _,.own 51 0 0]) j bF148 j)) (kN j (kN j (kY ⟨j,trivial⟩ (kY ⟨j,trivial⟩ trivial)))) (sS (dN z103 j (oBS (es:=List.map e_S_Face ([(⟨x25.Name,([x41,x45,x49]:List Int)⟩:S_Face)]:List S_Face)) j sF24 j (ptC j (fxI (fxO j j fx0)) j pt0) (flat1 j))) (kN j (kN j (kY ⟨j,trivial⟩ (kY ⟨j,trivial⟩ trivial)))) (sS (dN z103 j (oApO (en:=e_S_Face) (M:=([(⟨x25.Name,([x41,x45,x49]:List Int)⟩:S_Face)]:List S_Face)) j hx54 j sF24 j j uF24 (.inl ⟨_,j⟩) j j j j (el_own j j) (flat1 j))) (kN j (kN j (kN j (kN j trivial)))) (t j j (oFA (r':=.mp 5 0 3) j fF26_3 j j)<|sS (dN z103 j (oSt tF24 j j j (tkO j j tk0) j j j)) (kN j (kN j (kN j (kN j trivial)))) (sD (by kernel_rfl)))))))<|us<|?_
      obtain ⟨x63,hx63,h⟩:=bs h
      obtain ⟨x67,hx67,h⟩:=bs h
      obtain ⟨x71,hx71,h⟩:=bs h
      obtain ⟨x60,hx60,h⟩:=bs h
      obtain ⟨x76,hx76,h⟩:=bs h
      exact gd c103 j j j j (mk [(0,M 0),(3,M 3),(4,M 4),(5,M 5),(6,iv i_6_l3)] [(0,Od [Ct 1 (W 1 (eK .u8) s_o0_0_m6),C (I s_o0_1_m6),C (.sc (.int .u64 s_o0_2_m6))]),(3,Oa [C (I d_1.Width),C (I d_1.Height),⟨.gone,0,0,V false⟩,Z (W 2 e_S_Face d_1.Faces)]),(4,Oa [C (I 0),C (I 0),Z (W 2 e_S_Point ([]:List S_Point)),Z (W 2 e_S_Face ([]:List S_Face))]),(5,Oa [C (I d_1.Width),C (I d_1.Height),Z (W 2 e_S_Point d_1.Points),Z (W 2 e_S_Face x76)])]) (t j j (oFA (r':=.mp 7 0 1) j fF148_1 j j)<|t j j (oLd (cs:=[.im 0 _]) j tF28 j j)<|t j j (oIAI j hx63 sF28 j j)<|t j j (oLd (cs:=[.im 0 _]) j tF2 j j)<|t j j (oFA (r':=.mp 7 0 1) j fF148_1 j j)<|t j j (oLd (cs:=[.im 0 _]) j tF28 j j)<|t j j (oIAI j hx67 sF28 j j)<|t j j (oLd (cs:=[.im 0 _]) j tF2 j j)<|t j j (oFA (r':=.mp 7 0 1) j fF148_1 j j)<|t j j (oLd (cs:=[.im 0 _]) j tF28 j j)<|t j j (oIAI j hx71 sF28 j j)<|t j j (oLd (cs:=[.im 0 _]) j tF2 j j)<|sK (O:=[5]) j j j (dN z103 j (oFA (r':=.mp 5 0 3) j fF26_3 j j))<|sK (O:=[5]) j j j (dN z103 j (oLd (cs:=[.own 5 0 3]) j tF24 j j))<|sK (O:=[7]) j j j (dN z103 j (oFA (r':=.mp 7 0 0) j fF148_0 j j))<|sK (O:=[7]) j j j (dN z103 j (oLd (cs:=[.im 0 _]) j tF9 j j))<|t j j (oCat j hx60 j j)<|sS (dN z103 j (oBS (es:=List.map eI ([x63,x67,x71]:List Int)) j sF28 j (ptC j (fxI fx0) j (ptC j (fxI fx0) j (ptC j (fxI fx0) j pt0))) (flat0 j fun _=>j))) (kY ⟨j,trivial⟩ (kY ⟨j,trivial⟩ (kY ⟨j,trivial⟩ (kY ⟨j,trivial⟩ trivial)))) (sS (dN z103 j (oBu (cs:=[.im 0 _,.own 73 0 0]) j bF148 j)) (kN j (kN j (kY ⟨j,trivial⟩ (kY ⟨j,trivial⟩ trivial)))) (sS (dN z103 j (oBS (es:=List.map e_S_Face ([(⟨x60,([x63,x67,x71]:List Int)⟩:S_Face)]:List S_Face)) j sF24 j (ptC j (fxI (fxO j j fx0)) j pt0) (flat1 j))) (kN j (kN j (kY ⟨j,trivial⟩ (kY ⟨j,trivial⟩ trivial)))) (sS (dN z103 j (oApO (en:=e_S_Face) (M:=([(⟨x60,([x63,x67,x71]:List Int)⟩:S_Face)]:List S_Face)) j hx76 j sF24 j j uF24 (.inl ⟨_,j⟩) j j j j (el_own j j) (flat1 j))) (kN j (kN j (kN j (kN j trivial)))) (t j j (oFA (r':=.mp 5 0 3) j fF26_3 j j)<|sS (dN z103 j (oSt tF24 j j j (tkO j j tk0) j j j)) (kN j (kN j (kN j (kN j trivial)))) (sD (by kernel_rfl)))))))<|Unw.blk<|K13 _ ⟨x76,s_o0_0_m6,s_o0_1_m6,s_o0_2_m6,h,(by kernel_rfl)⟩
     ·obtain ⟨x82,hx82,h⟩:=bs h
      exact g0 j j (q (oFA (r':=.mp 5 0 3) j fF26_3 j j)<|q (oLd (cs:=[.own 5 0 3]) j tF24 j j)<|q (oLd (cs:=[.im 0 _,.im 0 _]) j tF148 j j)<|q (oBS (es:=List.map e_S_Face ([x25]:List S_Face)) j sF24 j (ptC j (fxI (fxI fx0)) j pt0) (flat1 j))<|q (oApO (en:=e_S_Face) (M:=([x25]:List S_Face)) j hx82 j sF24 j j uF24 (.inl ⟨_,j⟩) j j j j (el_own j j) (flat1 j))<|q (oFA (r':=.mp 5 0 3) j fF26_3 j j)<|q (oSt tF24 j j j (tkO j j tk0) j j j)<|nl)<|Unw.blk<|K13 _ ⟨x82,s_o0_0_m6,s_o0_1_m6,s_o0_2_m6,h,(by kernel_rfl)⟩
  ·refine Go.exit<|ux<|Unw.nil<|?_
   cases h
   exact ⟨j,(by kernel_rfl)⟩
 ·rintro ⟨e,st⟩ hp
  obtain ⟨s_o0_0_e0_3,s_o0_1_e0_3,s_o0_2_e0_3,out_o5_3_e0_3⟩:=o
  dsimp only at h
  obtain ⟨he,hst⟩:=hp
  obtain rfl:e= .exit 0:=he
  refine Unw.blkx<|us<|gs<|g2 c103 j j hst (q (oLd (cs:=[.im 0 _,.im 0 _,.own 5 0 2,.own 5 0 3]) j tF26 j j)<|q (oSt tF26 j j j (tkI (tkI (tkO j j (tkO j j tk0)))) j j j)<|nl)<|us<|Go.ret (Unw.ret ?_)
  cases h
  exact fr rF103 j
theorem L_spec_l05Draw {s_0:S_l00Src} {r:(S_Drawing×S_l00Src)} (h:spec_l05Draw s_0=some r):FX 52 [.ptr true [(.imm,W 1 (eK .u8) s_0.code),(.imm,I s_0.at_),(.imm,.sc (.int .u64 s_0.seed))]] ([(true,[.im 0 (I r.1.Width),.im 0 (I r.1.Height),.ow 0 2 (List.map e_S_Point r.1.Points),.ow 0 2 (List.map e_S_Face r.1.Faces)])],[.ptr true [(.imm,W 1 (eK .u8) r.2.code),(.imm,I r.2.at_),(.imm,.sc (.int .u64 r.2.seed))]]):=by
 unfold spec_l05Draw at h
 refine FL_goS (A:=[(0,M 0)]) (B:=[(0,Od (G 1 (u_S_l00Src s_0)))]) (nt:=12) rfl rfl Try.func52 rfl rfl rfl rfl ?_
 refine gs<|g0 j j (q (oAl j tF26 (tkI (tkI (tkN (tkN tk0)))))<|nl)<|us<|gs<|?_
 obtain ⟨x5,hx5,h⟩:=bs h
 refine g0 j j (q (oMv j j)<|q (oCr (xs:=[.v false [.mp 0 0 0]]) (vs:=[(true,[.im 0 _,.im 0 _,.own 5 0 0,.own 5 0 1])]) (v:=.v true [.im 0 _,.im 0 _,.own 5 0 0,.own 5 0 1]) (c:=⟨.sh,0,_⟩) (cs:=[⟨.sh,0,_⟩]) (L_spec_l05Grid hx5) (.inl j) j kF102_77 j (ppP j j j pp0) j j (pbP j j pb0) j j j)<|q (oAl j tF26 (tkI (tkI (tkN (tkN tk0)))))<|q (oSt tF26 j j j (tkI (tkI (tkO j j (tkO j j tk0)))) j j j)<|nl)<|us<|gs<|gs<|?_
 obtain ⟨x7,hx7,h⟩:=bs h
 refine g1 j j (mk [(0,M 0),(2,M 2),(3,M 3)] [(0,Od (G 1 (u_S_l00Src x5.2))),(2,Oa [C (I 0),C (I 0),Z (W 2 e_S_Point ([]:List S_Point)),Z (W 2 e_S_Face ([]:List S_Face))]),(3,Oa [C (I x5.1.Width),C (I x5.1.Height),Z (W 2 e_S_Point x5.1.Points),Z (W 2 e_S_Face x5.1.Faces)])]) (q (oMv j j)<|q (oCa (xs:=[.v false [.mp 0 0 0],.v false [.im 0 _]]) (vs:=[(false,[.im 0 _])]) (v:=.v false [.im 0 _]) (L_spec_l00Src_one hx7) (.inl j) j kF95_77_2 j (ppP j j j (ppC j pp0)) j j (pbP j j pb0) j j j)<|nl)<|us<|Go.join (fun st=>∃s_o0_0_r4,∃s_o0_1_r4,∃s_o0_2_r4,∃d_o3_0_r4,∃d_o3_1_r4,∃d_o3_2_r4,∃d_o3_3_r4,spec_l05Draw_k4 s_o0_0_r4 s_o0_1_r4 s_o0_2_r4 d_o3_0_r4 d_o3_1_r4 d_o3_2_r4 d_o3_3_r4=some r∧st.norm ([2,3],[0,2,3])=mk [(2,M 2),(3,M 3)] [(0,Od [Ct 1 (W 1 (eK .u8) s_o0_0_r4),C (I s_o0_1_r4),C (.sc (.int .u64 s_o0_2_r4))]),(2,Oa [C (I 0),C (I 0),Z (W 2 e_S_Point ([]:List S_Point)),Z (W 2 e_S_Face ([]:List S_Face))]),(3,Oa [C (I d_o3_0_r4),C (I d_o3_1_r4),Z (W 2 e_S_Point d_o3_2_r4),Z (W 2 e_S_Face d_o3_3_r4)])]) ?_ ?_
 ·rintro st ⟨s_o0_0_r4,s_o0_1_r4,s_o0_2_r4,d_o3_0_r4,d_o3_1_r4,d_o3_2_r4,d_o3_3_r4,h,hst⟩
  unfold spec_l05Draw_k4 at h
  refine us<|gs<|g2 c52 j j hst (q (oLd (cs:=[.im 0 _,.im 0 _,.own 3 0 2,.own 3 0 3]) j tF26 j j)<|q (oSt tF26 j j j (tkI (tkI (tkO j j (tkO j j tk0)))) j j j)<|nl)<|us<|Go.ret (Unw.ret ?_)
  cases h
  exact fr rF52 j
 ·intro K2
  refine gc h j iR (fun hc3 h=>?_) fun hc3 h=>?_
  ·obtain ⟨x10,hx10,h⟩:=bs h
   exact g1 j j (mk [(0,M 0),(2,M 2),(3,M 3)] [(0,Od (G 1 (u_S_l00Src x7.2))),(2,Oa [C (I 0),C (I 0),Z (W 2 e_S_Point ([]:List S_Point)),Z (W 2 e_S_Face ([]:List S_Face))]),(3,Oa [C (I x5.1.Width),C (I x5.1.Height),Z (W 2 e_S_Point x5.1.Points),Z (W 2 e_S_Face x5.1.Faces)])]) (q (oMv j j)<|q (oLd (cs:=[.im 0 _,.im 0 _,.own 3 0 2,.own 3 0 3]) j tF26 j j)<|q (oCr (xs:=[.v false [.mp 0 0 0],.v true [.im 0 _,.im 0 _,.own 3 0 2,.own 3 0 3]]) (vs:=[(true,[.im 0 _,.im 0 _,.own 10 0 0,.own 10 0 1])]) (v:=.v true [.im 0 _,.im 0 _,.own 10 0 0,.own 10 0 1]) (c:=⟨.sh,0,_⟩) (cs:=[⟨.sh,0,_⟩]) (L_spec_l05Cut hx10) (.inl j) j kF103_77_26 j (ppP j j j (ppS (tkI (tkI (tkO j j (tkO j j tk0)))) j pp0)) j j (pbP j j pb0) j j j)<|q (oSt tF26 j j j (tkI (tkI (tkO j j (tkO j j tk0)))) j j j)<|nl)<|K2 _ ⟨x10.2.code,x10.2.at_,x10.2.seed,x10.1.Width,x10.1.Height,x10.1.Points,x10.1.Faces,h,(by kernel_rfl)⟩
  ·exact Go.skip<|K2 _ ⟨x7.2.code,x7.2.at_,x7.2.seed,x5.1.Width,x5.1.Height,x5.1.Points,x5.1.Faces,h,(by kernel_rfl)⟩
theorem L_spec_l00Src_among {s_0:S_l00Src} {list_1:(List Int)} {r:(Int×S_l00Src)} (h:spec_l00Src_among s_0 list_1=some r):FX 127 [.ptr true [(.imm,W 1 (eK .u8) s_0.code),(.imm,I s_0.at_),(.imm,.sc (.int .u64 s_0.seed))],.im 2 false [W 1 eI list_1]] ([(false,[.im 0 (I r.1)])],[.ptr true [(.imm,W 1 (eK .u8) r.2.code),(.imm,I r.2.at_),(.imm,.sc (.int .u64 r.2.seed))]]):=by
 unfold spec_l00Src_among at h
 refine FL_goS (A:=[(0,M 0),(1,D 2 (W 1 eI list_1))]) (B:=[(0,Od (G 1 (u_S_l00Src s_0))),(1,none)]) (nt:=12) rfl rfl Try.func127 rfl rfl rfl rfl ?_
 refine gs<|g0 j j (q (oAsI j j)<|nl)<|us<|gs<|?_
 obtain ⟨x9,hx9,h⟩:=bs h
 obtain ⟨x10,hx10,h⟩:=bs h
 refine g0 j j (q (oMv j j)<|q (oMv j j)<|q (oMv j j)<|q (oLnI j j uF28 j)<|q (oCa (xs:=[.v false [.mp 0 0 0],.v false [.im 0 _]]) (vs:=[(false,[.im 0 _])]) (v:=.v false [.im 0 _]) (L_spec_l00Src_pick hx9) (.inl j) j kF118_77_2 j (ppP j j j (ppC j pp0)) j j (pbP j j pb0) j j j)<|q (oIAI j hx10 sF28 j j)<|q (oLd (cs:=[.im 2 _]) j tF2 j j)<|q (oAsI j j)<|nl)<|us<|Go.ret (Unw.ret ?_)
 cases h
 exact fr rF127 j
theorem L_spec_l00Src_text {s_0:S_l00Src} {list_1:(List ByteArray)} {r:(ByteArray×S_l00Src)} (h:spec_l00Src_text s_0 list_1=some r):FX 165 [.ptr true [(.imm,W 1 (eK .u8) s_0.code),(.imm,I s_0.at_),(.imm,.sc (.int .u64 s_0.seed))],.im 2 false [W 1 eS list_1]] ([(false,[.im 0 (Y r.1)])],[.ptr true [(.imm,W 1 (eK .u8) r.2.code),(.imm,I r.2.at_),(.imm,.sc (.int .u64 r.2.seed))]]):=by
 unfold spec_l00Src_text at h
 refine FL_goS (A:=[(0,M 0),(1,D 2 (W 1 eS list_1))]) (B:=[(0,Od (G 1 (u_S_l00Src s_0))),(1,none)]) (nt:=12) rfl rfl Try.func165 rfl rfl rfl rfl ?_
 refine gs<|g0 j j (q (oAsI j j)<|nl)<|us<|gs<|?_
 obtain ⟨x9,hx9,h⟩:=bs h
 obtain ⟨x10,hx10,h⟩:=bs h
 refine g0 j j (q (oMv j j)<|q (oMv j j)<|q (oMv j j)<|q (oLnI j j uF195 j)<|q (oCa (xs:=[.v false [.mp 0 0 0],.v false [.im 0 _]]) (vs:=[(false,[.im 0 _])]) (v:=.v false [.im 0 _]) (L_spec_l00Src_pick hx9) (.inl j) j kF118_77_2 j (ppP j j j (ppC j pp0)) j j (pbP j j pb0) j j j)<|q (oIAI j hx10 sF195 j j)<|q (oLd (cs:=[.im 2 _]) j tF9 j j)<|q (oAsI j j)<|nl)<|us<|Go.ret (Unw.ret ?_)
 cases h
 exact fr rF165 j
theorem L_spec_l01DrawName {s_0:S_l00Src} {r:(ByteArray×S_l00Src)} (h:spec_l01DrawName s_0=some r):FX 128 [.ptr true [(.imm,W 1 (eK .u8) s_0.code),(.imm,I s_0.at_),(.imm,.sc (.int .u64 s_0.seed))]] ([(false,[.im 0 (Y r.1)])],[.ptr true [(.imm,W 1 (eK .u8) r.2.code),(.imm,I r.2.at_),(.imm,.sc (.int .u64 r.2.seed))]]):=by
 unfold spec_l01DrawName at h
 refine FL_goS (A:=[(0,M 0)]) (B:=[(0,Od (G 1 (u_S_l00Src s_0)))]) (nt:=6) rfl rfl Try.func128 rfl rfl rfl rfl ?_
 refine gs<|g0 j j (q (oAsI j j)<|nl)<|us<|gs<|?_
 obtain ⟨x5,hx5,h⟩:=bs h
 refine g0 j j (q (oMv j j)<|q (oBS (es:=List.map eS ([(⟨#[97]⟩:ByteArray),(⟨#[98]⟩:ByteArray),(⟨#[99]⟩:ByteArray),(⟨#[111,97,107]⟩:ByteArray),(⟨#[115,116,97,114,55]⟩:ByteArray),(⟨#[114,111,115,101]⟩:ByteArray),(⟨#[120,57]⟩:ByteArray),(⟨#[97,98,99,100,101,102,103,104,105,106]⟩:ByteArray),(⟨#[97,98,99,100,101,102,103,104,105,106,107]⟩:ByteArray),(⟨#[65]⟩:ByteArray),(⟨#[]⟩:ByteArray),(⟨#[49,97]⟩:ByteArray),(⟨#[97,45,98]⟩:ByteArray)]:List ByteArray)) j sF195 j (ptC j (fxI fx0) j (ptC j (fxI fx0) j (ptC j (fxI fx0) j (ptC j (fxI fx0) j (ptC j (fxI fx0) j (ptC j (fxI fx0) j (ptC j (fxI fx0) j (ptC j (fxI fx0) j (ptC j (fxI fx0) j (ptC j (fxI fx0) j (ptC j (fxI fx0) j (ptC j (fxI fx0) j (ptC j (fxI fx0) j pt0))))))))))))) (flat0 j fun _=>j))<|q (oCa (xs:=[.v false [.mp 0 0 0],.v false [.own 4 0 0]]) (vs:=[(false,[.im 0 _])]) (v:=.v false [.im 0 _]) (L_spec_l00Src_text hx5) (.inl j) j kF165_77_195 j (ppP j j j (ppC j pp0)) j j (pbP j j pb0) j j j)<|q (oAsI j j)<|nl)<|us<|Go.ret (Unw.ret ?_)
 cases h
 exact fr rF128 j
theorem L_spec_l05Bent {s_0:S_l00Src} {r:(S_Drawing×S_l00Src)} (h:spec_l05Bent s_0=some r):FX 73 [.ptr true [(.imm,W 1 (eK .u8) s_0.code),(.imm,I s_0.at_),(.imm,.sc (.int .u64 s_0.seed))]] ([(true,[.im 0 (I r.1.Width),.im 0 (I r.1.Height),.ow 0 2 (List.map e_S_Point r.1.Points),.ow 0 2 (List.map e_S_Face r.1.Faces)])],[.ptr true [(.imm,W 1 (eK .u8) r.2.code),(.imm,I r.2.at_),(.imm,.sc (.int .u64 r.2.seed))]]):=by
 unfold spec_l05Bent at h
 refine FL_goS (A:=[(0,M 0)]) (B:=[(0,Od (G 1 (u_S_l00Src s_0)))]) (nt:=153) rfl rfl Try.func73 rfl rfl rfl rfl ?_
 refine gs<|g0 j j (q (oAl j tF26 (tkI (tkI (tkN (tkN tk0)))))<|nl)<|us<|gs<|?_
 obtain ⟨x8,hx8,h⟩:=bs h
 refine g0 j j (q (oMv j j)<|q (oCr (xs:=[.v false [.mp 0 0 0]]) (vs:=[(true,[.im 0 _,.im 0 _,.own 8 0 0,.own 8 0 1])]) (v:=.v true [.im 0 _,.im 0 _,.own 8 0 0,.own 8 0 1]) (c:=⟨.sh,0,_⟩) (cs:=[⟨.sh,0,_⟩]) (L_spec_l05Draw hx8) (.inl j) j kF52_77 j (ppP j j j pp0) j j (pbP j j pb0) j j j)<|q (oAl j tF26 (tkI (tkI (tkN (tkN tk0)))))<|q (oSt tF26 j j j (tkI (tkI (tkO j j (tkO j j tk0)))) j j j)<|nl)<|us<|gs<|g1 j j (mk [(0,M 0),(2,M 2),(3,M 3)] [(0,Od (G 1 (u_S_l00Src x8.2))),(2,Oa [C (I 0),C (I 0),Z (W 2 e_S_Point ([]:List S_Point)),Z (W 2 e_S_Face ([]:List S_Face))]),(3,Oa [C (I x8.1.Width),C (I x8.1.Height),Z (W 2 e_S_Point x8.1.Points),Z (W 2 e_S_Face x8.1.Faces)])]) (q (oFA (r':=.mp 3 0 3) j fF26_3 j j)<|q (oLd (cs:=[.own 3 0 3]) j tF24 j j)<|q (oLnO j j uF24 j j j (fun e=>nomatch e))<|q (oAsI j j)<|nl)<|us<|gs<|gs<|?_
 obtain ⟨x13,hx13,h⟩:=bs h
 refine g0 j j (q (oMv j j)<|q (oCa (xs:=[.v false [.mp 0 0 0],.v false [.im 0 _]]) (vs:=[(false,[.im 0 _])]) (v:=.v false [.im 0 _]) (L_spec_l00Src_pick hx13) (.inl j) j kF118_77_2 j (ppP j j j (ppC j pp0)) j j (pbP j j pb0) j j j)<|nl)<|us<|Go.join (fun st=>∃s_o0_0_r29,∃s_o0_1_r29,∃s_o0_2_r29,∃d_o3_0_r29,∃d_o3_1_r29,∃d_o3_2_r29,∃d_o3_3_r29,spec_l05Bent_k29 s_o0_0_r29 s_o0_1_r29 s_o0_2_r29 d_o3_0_r29 d_o3_1_r29 d_o3_2_r29 d_o3_3_r29=some r∧st.norm ([2,3],[0,2,3])=mk [(2,M 2),(3,M 3)] [(0,Od [Ct 1 (W 1 (eK .u8) s_o0_0_r29),C (I s_o0_1_r29),C (.sc (.int .u64 s_o0_2_r29))]),(2,Oa [C (I 0),C (I 0),Z (W 2 e_S_Point ([]:List S_Point)),Z (W 2 e_S_Face ([]:List S_Face))]),(3,Oa [C (I d_o3_0_r29),C (I d_o3_1_r29),Z (W 2 e_S_Point d_o3_2_r29),Z (W 2 e_S_Face d_o3_3_r29)])]) ?_ ?_
 ·rintro st ⟨s_o0_0_r29,s_o0_1_r29,s_o0_2_r29,d_o3_0_r29,d_o3_1_r29,d_o3_2_r29,d_o3_3_r29,h,hst⟩
  unfold spec_l05Bent_k29 at h
  refine us<|gs<|g2 c73 j j hst (q (oLd (cs:=[.im 0 _,.im 0 _,.own 3 0 2,.own 3 0 3]) j tF26 j j)<|q (oSt tF26 j j j (tkI (tkI (tkO j j (tkO j j tk0)))) j j j)<|nl)<|us<|Go.ret (Unw.ret ?_)
  cases h
  exact fr rF73 j
 ·intro K14
  refine Go.block<|gs<|g1 j j (mk [(0,M 0),(2,M 2),(3,M 3),(4,iv (x8.1.Faces.length:Int)),(13,iv x13.1)] [(0,Od (G 1 (u_S_l00Src x13.2))),(2,Oa [C (I 0),C (I 0),Z (W 2 e_S_Point ([]:List S_Point)),Z (W 2 e_S_Face ([]:List S_Face))]),(3,Oa [C (I x8.1.Width),C (I x8.1.Height),Z (W 2 e_S_Point x8.1.Points),Z (W 2 e_S_Face x8.1.Faces)])]) (q (oBi j j j j)<|q (oAsI j j)<|nl)<|us<|gc h j iEq (fun hc15 h=>?_) fun hc15 h=>?_
  ·obtain ⟨x18,hx18,h⟩:=bs h
   exact g0 j j (q (oFA (r':=.mp 3 0 3) j fF26_3 j j)<|q (oLd (cs:=[.own 3 0 3]) j tF24 j j)<|q (oSlO j hx18 sF24 j j j (bn1 j) bn0 j j j)<|q (oFA (r':=.mp 3 0 3) j fF26_3 j j)<|q (oSt tF24 j j j (tkSM j j tk0) j j j)<|nl)<|Unw.blk<|K14 _ ⟨x13.2.code,x13.2.at_,x13.2.seed,x8.1.Width,x8.1.Height,x8.1.Points,((x8.1.Faces.take ((x8.1.Faces.length:Int).toNat)).drop ((1:Int).toNat)),h,(by kernel_rfl)⟩
  ·refine gs<|g0 j j (q (oBi j j j j)<|q (oAsI j j)<|nl)<|us<|gc h j iEq (fun hc16 h=>?_) fun hc16 h=>?_
   ·obtain ⟨x26,hx26,h⟩:=bs h
    exact g0 j j (q (oFA (r':=.mp 3 0 2) j fF26_2 j j)<|q (oLd (cs:=[.own 3 0 2]) j tF23 j j)<|q (oBu (cs:=[.im 0 _,.im 0 _]) j bF155 j)<|q (oBS (es:=List.map e_S_Point ([(⟨7,3⟩:S_Point)]:List S_Point)) j sF23 j (ptC j (fxI (fxI fx0)) j pt0) (flat0 j fun _=>j))<|q (oApO (en:=e_S_Point) (M:=([(⟨7,3⟩:S_Point)]:List S_Point)) j hx26 j sF23 j j uF23 (.inl ⟨_,j⟩) j j j j (el_own j j) (flat0 j fun _=>j))<|q (oFA (r':=.mp 3 0 2) j fF26_2 j j)<|q (oSt tF23 j j j (tkO j j tk0) j j j)<|nl)<|Unw.blk<|K14 _ ⟨x13.2.code,x13.2.at_,x13.2.seed,x8.1.Width,x8.1.Height,x26,x8.1.Faces,h,(by kernel_rfl)⟩
   ·refine gs<|g0 j j (q (oBi j j j j)<|q (oAsI j j)<|nl)<|us<|gc h j iEq (fun hc17 h=>?_) fun hc17 h=>?_
    ·obtain ⟨x35,hx35,h⟩:=bs h
     exact g0 j j (q (oMv j j)<|q (oFA (r':=.mp 3 0 0) j fF26_0 j j)<|q (oLd (cs:=[.im 0 _]) j tF2 j j)<|q (oBi j j j j)<|q (oBS (es:=List.map eI ([(w64 (x8.1.Width+5)),9,10,20000,20001]:List Int)) j sF28 j (ptC j (fxI fx0) j (ptC j (fxI fx0) j (ptC j (fxI fx0) j (ptC j (fxI fx0) j (ptC j (fxI fx0) j pt0))))) (flat0 j fun _=>j))<|q (oCa (xs:=[.v false [.mp 0 0 0],.v false [.own 34 0 0]]) (vs:=[(false,[.im 0 _])]) (v:=.v false [.im 0 _]) (L_spec_l00Src_among hx35) (.inl j) j kF127_77_28 j (ppP j j j (ppC j pp0)) j j (pbP j j pb0) j j j)<|q (oFA (r':=.mp 3 0 0) j fF26_0 j j)<|q (oSt tF2 j j j (tkI tk0) j j j)<|nl)<|Unw.blk<|K14 _ ⟨x35.2.code,x35.2.at_,x35.2.seed,x35.1,x8.1.Height,x8.1.Points,x8.1.Faces,h,(by kernel_rfl)⟩
    ·refine gs<|g0 j j (q (oBi j j j j)<|q (oAsI j j)<|nl)<|us<|gc h j iEq (fun hc18 h=>?_) fun hc18 h=>?_
     ·obtain ⟨x43,hx43,h⟩:=bs h
      obtain ⟨x49,hx49,h⟩:=bs h
      exact gd c73 j j j j (mk [(2,M 2),(3,M 3)] [(0,Od (G 1 (u_S_l00Src x43.2))),(2,Oa [C (I 0),C (I 0),Z (W 2 e_S_Point ([]:List S_Point)),Z (W 2 e_S_Face ([]:List S_Face))]),(3,Oa [C (I x8.1.Width),C (I x8.1.Height),Z (W 2 e_S_Point x8.1.Points),Z (W 2 e_S_Face (x8.1.Faces.set x43.1.toNat (⟨x49.Name,([0,1,(w64 ((x8.1.Points.length:Int) - 1))]:List Int)⟩:S_Face)))])]) (t j j (oMv j j)<|t j j (oMv j j)<|sK (O:=[3]) j j j (dN z73 j (oFA (r':=.mp 3 0 3) j fF26_3 j j))<|sK (O:=[3]) j j j (dN z73 j (oLd (cs:=[.own 3 0 3]) j tF24 j j))<|sK (O:=[3]) j j j (dN z73 j (oFA (r':=.mp 3 0 2) j fF26_2 j j))<|sK (O:=[3]) j j j (dN z73 j (oLd (cs:=[.own 3 0 2]) j tF23 j j))<|sK (O:=[3]) j j j (dN z73 j (oLnO j j uF23 j j j (fun e=>nomatch e)))<|t j j (oBi j j j j)<|sF (dN z73 j (oCa (xs:=[.v false [.mp 0 0 0],.v false [.im 0 _]]) (vs:=[(false,[.im 0 _])]) (v:=.v false [.im 0 _]) (L_spec_l00Src_pick hx43) (.inl j) j kF118_77_2 j (ppP j j j (ppC j pp0)) j j (pbP j j pb0) j j j)) (kY ⟨j,trivial⟩ (kY ⟨j,trivial⟩ (kY ⟨j,trivial⟩ (kY ⟨j,trivial⟩ (kY ⟨j,trivial⟩ trivial))))) (sS (dN z73 j (oBS (es:=List.map eI ([0,1,(w64 ((x8.1.Points.length:Int) - 1))]:List Int)) j sF28 j (ptC j (fxI fx0) j (ptC j (fxI fx0) j (ptC j (fxI fx0) j pt0))) (flat0 j fun _=>j))) (kN j (kN j (kN j (kY ⟨j,trivial⟩ (kY ⟨j,trivial⟩ trivial))))) (t j j (oIAO j hx49 sF24 j j j j)<|t j j (oFA (r':=.mpe 3 0 3 _ 1) j fF148_1 j j)<|sS (dN z73 j (oStE (v':=(⟨x49.Name,([0,1,(w64 ((x8.1.Points.length:Int) - 1))]:List Int)⟩:S_Face)) tF28 j j j (fxO j j fx0) j j (rd_get hx49) j)) (kN j (kN j (kN j (kN j (kN j trivial))))) (sD (by kernel_rfl)))) (sS (dN z73 j (oBS (es:=List.map eI ([0,1,(w64 ((x8.1.Points.length:Int) - 1))]:List Int)) j sF28 j (ptC j (fxI fx0) j (ptC j (fxI fx0) j (ptC j (fxI fx0) j pt0))) (flat0 j fun _=>j))) (kN j (kN j (kN j (kY ⟨j,trivial⟩ (kY ⟨j,trivial⟩ trivial))))) (sS (dN z73 j (oCa (xs:=[.v false [.mp 0 0 0],.v false [.im 0 _]]) (vs:=[(false,[.im 0 _])]) (v:=.v false [.im 0 _]) (L_spec_l00Src_pick hx43) (.inl j) j kF118_77_2 j (ppP j j j (ppC j pp0)) j j (pbP j j pb0) j j j)) (kY ⟨j,trivial⟩ (kY ⟨j,trivial⟩ (kY ⟨j,trivial⟩ (kY ⟨j,trivial⟩ (kY ⟨j,trivial⟩ trivial))))) (t j j (oIAO j hx49 sF24 j j j j)<|t j j (oFA (r':=.mpe 3 0 3 _ 1) j fF148_1 j j)<|sS (dN z73 j (oStE (v':=(⟨x49.Name,([0,1,(w64 ((x8.1.Points.length:Int) - 1))]:List Int)⟩:S_Face)) tF28 j j j (fxO j j fx0) j j (rd_get hx49) j)) (kN j (kN j (kN j (kN j (kN j trivial))))) (sD (by kernel_rfl))))))<|Unw.blk<|K14 _ ⟨x43.2.code,x43.2.at_,x43.2.seed,x8.1.Width,x8.1.Height,x8.1.Points,(x8.1.Faces.set x43.1.toNat (⟨x49.Name,([0,1,(w64 ((x8.1.Points.length:Int) - 1))]:List Int)⟩:S_Face)),h,(by kernel_rfl)⟩
     ·refine gs<|g0 j j (q (oBi j j j j)<|q (oAsI j j)<|nl)<|us<|gc h j iEq (fun hc19 h=>?_) fun hc19 h=>?_
      ·obtain ⟨x57,hx57,h⟩:=bs h
       obtain ⟨x59,hx59,h⟩:=bs h
       obtain ⟨x60,hx60,h⟩:=bs h
       exact gd c73 j j j j (mk [(2,M 2),(3,M 3)] [(0,Od (G 1 (u_S_l00Src x59.2))),(2,Oa [C (I 0),C (I 0),Z (W 2 e_S_Point ([]:List S_Point)),Z (W 2 e_S_Face ([]:List S_Face))]),(3,Oa [C (I x8.1.Width),C (I x8.1.Height),Z (W 2 e_S_Point x8.1.Points),Z (W 2 e_S_Face (x8.1.Faces.set x57.1.toNat (⟨x59.1,x60.Ring⟩:S_Face)))])]) (t j j (oMv j j)<|t j j (oMv j j)<|t j j (oMv j j)<|sK (O:=[3]) j j j (dN z73 j (oFA (r':=.mp 3 0 3) j fF26_3 j j))<|sK (O:=[3]) j j j (dN z73 j (oLd (cs:=[.own 3 0 3]) j tF24 j j))<|sS (dN z73 j (oCa (xs:=[.v false [.mp 0 0 0],.v false [.im 0 _]]) (vs:=[(false,[.im 0 _])]) (v:=.v false [.im 0 _]) (L_spec_l00Src_pick hx57) (.inl j) j kF118_77_2 j (ppP j j j (ppC j pp0)) j j (pbP j j pb0) j j j)) (kY ⟨j,trivial⟩ (kY ⟨j,trivial⟩ trivial)) (sS (dN z73 j (oCa (xs:=[.v false [.mp 0 0 0]]) (vs:=[(false,[.im 0 _])]) (v:=.v false [.im 0 _]) (L_spec_l01DrawName hx59) (.inl j) j kF128_77 j (ppP j j j pp0) j j (pbP j j pb0) j j j)) (kY ⟨j,trivial⟩ (kY ⟨j,trivial⟩ trivial)) (t j j (oIAO j hx60 sF24 j j j j)<|t j j (oFA (r':=.mpe 3 0 3 _ 0) j fF148_0 j j)<|sS (dN z73 j (oStE (v':=(⟨x59.1,x60.Ring⟩:S_Face)) tF9 j j j (fxI fx0) j j (rd_get hx60) j)) (kN j (kN j trivial)) (sD (by kernel_rfl)))))<|Unw.blk<|K14 _ ⟨x59.2.code,x59.2.at_,x59.2.seed,x8.1.Width,x8.1.Height,x8.1.Points,(x8.1.Faces.set x57.1.toNat (⟨x59.1,x60.Ring⟩:S_Face)),h,(by kernel_rfl)⟩
      ·refine gs<|g0 j j (q (oBi j j j j)<|q (oAsI j j)<|nl)<|us<|gc h j iEq (fun hc20 h=>?_) fun hc20 h=>?_
       ·obtain ⟨x68,hx68,h⟩:=bs h
        obtain ⟨x74,hx74,h⟩:=bs h
        obtain ⟨x76,hx76,h⟩:=bs h
        exact gd c73 j j j j (mk [(2,M 2),(3,M 3)] [(0,Od (G 1 (u_S_l00Src x74.2))),(2,Oa [C (I 0),C (I 0),Z (W 2 e_S_Point ([]:List S_Point)),Z (W 2 e_S_Face ([]:List S_Face))]),(3,Oa [C (I x8.1.Width),C (I x8.1.Height),Z (W 2 e_S_Point x8.1.Points),Z (W 2 e_S_Face (x8.1.Faces.set x68.1.toNat (⟨x76.Name,([0,x74.1]:List Int)⟩:S_Face)))])]) (t j j (oMv j j)<|t j j (oMv j j)<|t j j (oMv j j)<|sK (O:=[3]) j j j (dN z73 j (oFA (r':=.mp 3 0 3) j fF26_3 j j))<|sK (O:=[3]) j j j (dN z73 j (oLd (cs:=[.own 3 0 3]) j tF24 j j))<|sK (O:=[3]) j j j (dN z73 j (oFA (r':=.mp 3 0 2) j fF26_2 j j))<|sK (O:=[3]) j j j (dN z73 j (oLd (cs:=[.own 3 0 2]) j tF23 j j))<|sK (O:=[3]) j j j (dN z73 j (oLnO j j uF23 j j j (fun e=>nomatch e)))<|sF (dN z73 j (oCa (xs:=[.v false [.mp 0 0 0],.v false [.im 0 _]]) (vs:=[(false,[.im 0 _])]) (v:=.v false [.im 0 _]) (L_spec_l00Src_pick hx68) (.inl j) j kF118_77_2 j (ppP j j j (ppC j pp0)) j j (pbP j j pb0) j j j)) (kY ⟨j,trivial⟩ (kY ⟨j,trivial⟩ (kY ⟨j,trivial⟩ (kY ⟨j,trivial⟩ (kY ⟨j,trivial⟩ trivial))))) (sS (dN z73 j (oBS (es:=List.map eI ([1,(-1),(x8.1.Points.length:Int)]:List Int)) j sF28 j (ptC j (fxI fx0) j (ptC j (fxI fx0) j (ptC j (fxI fx0) j pt0))) (flat0 j fun _=>j))) (kN j (kN j (kN j (kY ⟨j,trivial⟩ (kY ⟨j,trivial⟩ trivial))))) (sS (dN z73 j (oCa (xs:=[.v false [.mp 0 0 0],.v false [.own 73 0 0]]) (vs:=[(false,[.im 0 _])]) (v:=.v false [.im 0 _]) (L_spec_l00Src_among hx74) (.inl j) j kF127_77_28 j (ppP j j j (ppC j pp0)) j j (pbP j j pb0) j j j)) (kN j (kN j (kN j (kY ⟨j,trivial⟩ (kY ⟨j,trivial⟩ trivial))))) (sS (dN z73 j (oBS (es:=List.map eI ([0,x74.1]:List Int)) j sF28 j (ptC j (fxI fx0) j (ptC j (fxI fx0) j pt0)) (flat0 j fun _=>j))) (kN j (kN j (kN j (kY ⟨j,trivial⟩ (kY ⟨j,trivial⟩ trivial))))) (t j j (oIAO j hx76 sF24 j j j j)<|t j j (oFA (r':=.mpe 3 0 3 _ 1) j fF148_1 j j)<|sS (dN z73 j (oStE (v':=(⟨x76.Name,([0,x74.1]:List Int)⟩:S_Face)) tF28 j j j (fxO j j fx0) j j (rd_get hx76) j)) (kN j (kN j (kN j (kN j (kN j trivial))))) (sD (by kernel_rfl)))))) (sS (dN z73 j (oBS (es:=List.map eI ([1,(-1),(x8.1.Points.length:Int)]:List Int)) j sF28 j (ptC j (fxI fx0) j (ptC j (fxI fx0) j (ptC j (fxI fx0) j pt0))) (flat0 j fun _=>j))) (kN j (kN j (kN j (kY ⟨j,trivial⟩ (kY ⟨j,trivial⟩ trivial))))) (sS (dN z73 j (oCa (xs:=[.v false [.mp 0 0 0],.v false [.im 0 _]]) (vs:=[(false,[.im 0 _])]) (v:=.v false [.im 0 _]) (L_spec_l00Src_pick hx68) (.inl j) j kF118_77_2 j (ppP j j j (ppC j pp0)) j j (pbP j j pb0) j j j)) (kY ⟨j,trivial⟩ (kY ⟨j,trivial⟩ (kY ⟨j,trivial⟩ (kY ⟨j,trivial⟩ (kY ⟨j,trivial⟩ trivial))))) (sS (dN z73 j (oCa (xs:=[.v false [.mp 0 0 0],.v false [.own 73 0 0]]) (vs:=[(false,[.im 0 _])]) (v:=.v false [.im 0 _]) (L_spec_l00Src_among hx74) (.inl j) j kF127_77_28 j (ppP j j j (ppC j pp0)) j j (pbP j j pb0) j j j)) (kN j (kN j (kN j (kY ⟨j,trivial⟩ (kY ⟨j,trivial⟩ trivial))))) (sS (dN z73 j (oBS (es:=List.map eI ([0,x74.1]:List Int)) j sF28 j (ptC j (fxI fx0) j (ptC j (fxI fx0) j pt0)) (flat0 j fun _=>j))) (kN j (kN j (kN j (kY ⟨j,trivial⟩ (kY ⟨j,trivial⟩ trivial))))) (t j j (oIAO j hx76 sF24 j j j j)<|t j j (oFA (r':=.mpe 3 0 3 _ 1) j fF148_1 j j)<|sS (dN z73 j (oStE (v':=(⟨x76.Name,([0,x74.1]:List Int)⟩:S_Face)) tF28 j j j (fxO j j fx0) j j (rd_get hx76) j)) (kN j (kN j (kN j (kN j (kN j trivial))))) (sD (by kernel_rfl))))))))<|Unw.blk<|K14 _ ⟨x74.2.code,x74.2.at_,x74.2.seed,x8.1.Width,x8.1.Height,x8.1.Points,(x8.1.Faces.set x68.1.toNat (⟨x76.Name,([0,x74.1]:List Int)⟩:S_Face)),h,(by kernel_rfl)⟩
       ·refine gs<|g0 j j (q (oBi j j j j)<|q (oAsI j j)<|nl)<|us<|gc h j iEq (fun hc21 h=>?_) fun hc21 h=>?_
        ·obtain ⟨x84,hx84,h⟩:=bs h
         obtain ⟨x86,hx86,h⟩:=bs h
         exact gd c73 j j j j (mk [(2,M 2),(3,M 3)] [(0,Od (G 1 (u_S_l00Src x13.2))),(2,Oa [C (I 0),C (I 0),Z (W 2 e_S_Point ([]:List S_Point)),Z (W 2 e_S_Face ([]:List S_Face))]),(3,Oa [C (I x8.1.Width),C (I x8.1.Height),Z (W 2 e_S_Point (x8.1.Points.set ((1:Int).toNat) x84)),Z (W 2 e_S_Face x8.1.Faces)])]) (t j j (oFA (r':=.mp 3 0 2) j fF26_2 j j)<|t j j (oLd (cs:=[.own 3 0 2]) j tF23 j j)<|t j j (oFA (r':=.mp 3 0 2) j fF26_2 j j)<|t j j (oLd (cs:=[.own 3 0 2]) j tF23 j j)<|t j j (oIAO j hx84 sF23 j j j j)<|t j j (oLdE (cs:=[.im 0 _,.im 0 _]) j tF155 j j j j (rd_get hx84) j j)<|t j j (oIAO j hx86 sF23 j j j j)<|sS (dN z73 j (oStE (v':=x84) tF155 j j j (fxI (fxI fx0)) j j (rd_get hx86) j)) trivial (sD (by kernel_rfl)))<|Unw.blk<|K14 _ ⟨x13.2.code,x13.2.at_,x13.2.seed,x8.1.Width,x8.1.Height,(x8.1.Points.set ((1:Int).toNat) x84),x8.1.Faces,h,(by kernel_rfl)⟩
        ·refine gs<|g0 j j (q (oBi j j j j)<|q (oAsI j j)<|nl)<|us<|gc h j iEq (fun hc22 h=>?_) fun hc22 h=>?_
         ·refine gs<|g0 j j (q (oBu (cs:=[.im 0 _,.im 0 _,.nil,.nil]) j bF26 j)<|q (oSt tF26 j j j (tkI (tkI (tkN (tkN tk0)))) j j j)<|nl)<|us<|gs<|?_
          obtain ⟨x91,hx91,h⟩:=bs h
          refine g1 j j (mk [(0,M 0),(2,M 2),(3,M 3)] [(0,Od (G 1 (u_S_l00Src x13.2))),(2,Oa [C (I 0),C (I 0),Z (W 2 e_S_Point ([]:List S_Point)),Z (W 2 e_S_Face ([]:List S_Face))]),(3,Oa [C (I 480),C (I 20),Z (W 2 e_S_Point ([]:List S_Point)),Z (W 2 e_S_Face ([]:List S_Face))])]) (q (oMv j j)<|q (oCa (xs:=[.v false [.mp 0 0 0],.v false [.im 0 _]]) (vs:=[(false,[.im 0 _])]) (v:=.v false [.im 0 _]) (L_spec_l00Src_pick hx91) (.inl j) j kF118_77_2 j (ppP j j j (ppC j pp0)) j j (pbP j j pb0) j j j)<|q (oBi j j j j)<|q (oAsI j j)<|nl)<|us<|gs<|g1 j j (mk [(2,M 2),(3,M 3),(5,iv (w64 (23+x91.1)))] [(0,Od (G 1 (u_S_l00Src x91.2))),(2,Oa [C (I 0),C (I 0),Z (W 2 e_S_Point ([]:List S_Point)),Z (W 2 e_S_Face ([]:List S_Face))]),(3,Oa [C (I 480),C (I 20),Z (W 2 e_S_Point ([]:List S_Point)),Z (W 2 e_S_Face ([]:List S_Face))])]) (q (oAsI j j)<|nl)<|us<|Go.block<|?_
          obtain ⟨o,hl,h⟩:=bs h
          refine gl c73 j _ (fun (s:(Int×(List S_Point)×(List S_Face)))=>match s with | (k_6_l22,d_o3_2_l22,d_o3_3_l22)=>mk [(2,M 2),(3,M 3),(5,iv (w64 (23+x91.1))),(6,iv k_6_l22)] [(0,Od (G 1 (u_S_l00Src x91.2))),(2,Oa [C (I 0),C (I 0),Z (W 2 e_S_Point ([]:List S_Point)),Z (W 2 e_S_Face ([]:List S_Face))]),(3,Oa [C (I 480),C (I 20),Z (W 2 e_S_Point d_o3_2_l22),Z (W 2 e_S_Face d_o3_3_l22)])]) (fun (o:((List S_Point)×(List S_Face))) (p:Ex×St)=>match o with | (d_o3_2_e1_22,d_o3_3_e1_22)=>p.1= .exit 1∧p.2.norm ([2,3],[0,2,3])=mk [(2,M 2),(3,M 3)] [(0,Od (G 1 (u_S_l00Src x91.2))),(2,Oa [C (I 0),C (I 0),Z (W 2 e_S_Point ([]:List S_Point)),Z (W 2 e_S_Face ([]:List S_Face))]),(3,Oa [C (I 480),C (I 20),Z (W 2 e_S_Point d_o3_2_e1_22),Z (W 2 e_S_Face d_o3_3_e1_22)])]) hl (by kernel_rfl) ?_ ?_ ?_
          ·intro o p hp e
           obtain ⟨d_o3_2_e1_22,d_o3_3_e1_22⟩:=o
           exact nomatch (hp.1.symm.trans e)
          ·rintro ⟨k_6_l22,d_o3_2_l22,d_o3_3_l22⟩ o h
           unfold spec_l05Bent_l22 at h
           dsimp only at h
           refine gs<|gs<|g0 j j (q (oMv j j)<|q (oMv j j)<|q (oBi j j j j)<|nl)<|us<|gc h j iDec (fun hc27 h=>?_) fun hc27 h=>?_
           ·refine Go.skip<|us<|gs<|Go.join (fun st=>∃d_o3_3_r23,∃d_o3_2_r23,spec_l05Bent_k23 k_6_l22 d_o3_3_r23 d_o3_2_r23=some o∧st.norm ([2,3,5,6],[0,2,3])=mk [(2,M 2),(3,M 3),(5,iv (w64 (23+x91.1))),(6,iv k_6_l22)] [(0,Od (G 1 (u_S_l00Src x91.2))),(2,Oa [C (I 0),C (I 0),Z (W 2 e_S_Point ([]:List S_Point)),Z (W 2 e_S_Face ([]:List S_Face))]),(3,Oa [C (I 480),C (I 20),Z (W 2 e_S_Point d_o3_2_r23),Z (W 2 e_S_Face d_o3_3_r23)])]) ?_ ?_
            ·rintro st ⟨d_o3_3_r23,d_o3_2_r23,h,hst⟩
             unfold spec_l05Bent_k23 at h
             refine us<|g2 c73 j j hst (q (oMv j j)<|q (oBi j j j j)<|q (oAsI j j)<|nl)<|Unw.nil<|?_
             cases h
             exact ⟨j,(by kernel_rfl)⟩
            ·intro K29
             refine Go.block<|gs<|?_
             obtain ⟨x107,hx107,h⟩:=bs h
             refine g0 j j (q (oFA (r':=.mp 3 0 2) j fF26_2 j j)<|q (oLd (cs:=[.own 3 0 2]) j tF23 j j)<|q (oMv j j)<|q (oBi j j j j)<|q (oBu (cs:=[.im 0 _,.im 0 _]) j bF155 j)<|q (oMv j j)<|q (oBi j j j j)<|q (oBu (cs:=[.im 0 _,.im 0 _]) j bF155 j)<|q (oBS (es:=List.map e_S_Point ([(⟨(w64 (20*k_6_l22)),0⟩:S_Point),(⟨(w64 (20*k_6_l22)),10⟩:S_Point)]:List S_Point)) j sF23 j (ptC j (fxI (fxI fx0)) j (ptC j (fxI (fxI fx0)) j pt0)) (flat0 j fun _=>j))<|q (oApO (en:=e_S_Point) (M:=([(⟨(w64 (20*k_6_l22)),0⟩:S_Point),(⟨(w64 (20*k_6_l22)),10⟩:S_Point)]:List S_Point)) j hx107 j sF23 j j uF23 (.inl ⟨_,j⟩) j j j j (el_own j j) (flat0 j fun _=>j))<|q (oFA (r':=.mp 3 0 2) j fF26_2 j j)<|q (oSt tF23 j j j (tkO j j tk0) j j j)<|nl)<|us<|gs<|g1 j j (mk [(2,M 2),(3,M 3),(5,iv (w64 (23+x91.1))),(6,iv k_6_l22)] [(0,Od (G 1 (u_S_l00Src x91.2))),(2,Oa [C (I 0),C (I 0),Z (W 2 e_S_Point ([]:List S_Point)),Z (W 2 e_S_Face ([]:List S_Face))]),(3,Oa [C (I 480),C (I 20),Z (W 2 e_S_Point x107),Z (W 2 e_S_Face d_o3_3_l22)])]) (q (oMv j j)<|q (oBi j j j j)<|nl)<|us<|gc h j iDec (fun hc30 h=>?_) fun hc30 h=>?_
             ·obtain ⟨x118,hx118,h⟩:=bs h
              obtain ⟨x133,hx133,h⟩:=bs h
              exact g0 j j (q (oFA (r':=.mp 3 0 3) j fF26_3 j j)<|q (oLd (cs:=[.own 3 0 3]) j tF24 j j)<|q (oMv j j)<|q (oBi j j j j)<|q (oCvI j uF2 uF5 j)<|q (oBS (es:=List.map (eK .u8) ([(IntKind.wrap .u8 ((w64 (97+k_6_l22))))]:List Int)) j sF22 j (ptC j (fxI fx0) j pt0) (flat0 j fun _=>j))<|q (oCvB (l:=([(IntKind.wrap .u8 ((w64 (97+k_6_l22))))]:List Int)) j uF22 uF5 uF9 j (el_own j j))<|q (oCat j hx118 j j)<|q (oMv j j)<|q (oBi j j j j)<|q (oBi j j j j)<|q (oMv j j)<|q (oBi j j j j)<|q (oMv j j)<|q (oBi j j j j)<|q (oBi j j j j)<|q (oMv j j)<|q (oBi j j j j)<|q (oBi j j j j)<|q (oBS (es:=List.map eI ([(w64 ((w64 (2*k_6_l22)) - 2)),(w64 (2*k_6_l22)),(w64 ((w64 (2*k_6_l22))+1)),(w64 ((w64 (2*k_6_l22)) - 1))]:List Int)) j sF28 j (ptC j (fxI fx0) j (ptC j (fxI fx0) j (ptC j (fxI fx0) j (ptC j (fxI fx0) j pt0)))) (flat0 j fun _=>j))<|q (oBu (cs:=[.im 0 _,.own 130 0 0]) j bF148 j)<|q (oBS (es:=List.map e_S_Face ([(⟨x118,([(w64 ((w64 (2*k_6_l22)) - 2)),(w64 (2*k_6_l22)),(w64 ((w64 (2*k_6_l22))+1)),(w64 ((w64 (2*k_6_l22)) - 1))]:List Int)⟩:S_Face)]:List S_Face)) j sF24 j (ptC j (fxI (fxO j j fx0)) j pt0) (flat1 j))<|q (oApO (en:=e_S_Face) (M:=([(⟨x118,([(w64 ((w64 (2*k_6_l22)) - 2)),(w64 (2*k_6_l22)),(w64 ((w64 (2*k_6_l22))+1)),(w64 ((w64 (2*k_6_l22)) - 1))]:List Int)⟩:S_Face)]:List S_Face)) j hx133 j sF24 j j uF24 (.inl ⟨_,j⟩) j j j j (el_own j j) (flat1 j))<|q (oFA (r':=.mp 3 0 3) j fF26_3 j j)<|q (oSt tF24 j j j (tkO j j tk0) j j j)<|nl)<|Unw.blk<|K29 _ ⟨x133,x107,h,(by kernel_rfl)⟩
             ·exact Go.skip<|Unw.blk<|K29 _ ⟨d_o3_3_l22,x107,h,(by kernel_rfl)⟩
           ·refine Go.exit<|ux<|Unw.nil<|?_
            cases h
            exact ⟨j,(by kernel_rfl)⟩
          ·rintro ⟨e,st⟩ hp
           obtain ⟨d_o3_2_e1_22,d_o3_3_e1_22⟩:=o
           dsimp only at h
           obtain ⟨he,hst⟩:=hp
           obtain rfl:e= .exit 1:=he
           exact Unw.blkx<|Unw.blk<|K14 _ ⟨x91.2.code,x91.2.at_,x91.2.seed,480,20,d_o3_2_e1_22,d_o3_3_e1_22,h,hst⟩
         ·refine gs<|g0 j j (q (oBi j j j j)<|q (oAsI j j)<|nl)<|us<|gc h j iEq (fun hc31 h=>?_) fun hc31 h=>?_
          ·obtain ⟨x143,hx143,h⟩:=bs h
           obtain ⟨x144,hx144,h⟩:=bs h
           obtain ⟨x148,hx148,h⟩:=bs h
           obtain ⟨x150,hx150,h⟩:=bs h
           exact gd c73 j j j j (mk [(2,M 2),(3,M 3)] [(0,Od (G 1 (u_S_l00Src x148.2))),(2,Oa [C (I 0),C (I 0),Z (W 2 e_S_Point ([]:List S_Point)),Z (W 2 e_S_Face ([]:List S_Face))]),(3,Oa [C (I x8.1.Width),C (I x8.1.Height),Z (W 2 e_S_Point (x8.1.Points.set x143.1.toNat (⟨(w64 (x144.X+x148.1)),x150.Y⟩:S_Point))),Z (W 2 e_S_Face x8.1.Faces)])]) (t j j (oMv j j)<|t j j (oFA (r':=.mp 3 0 2) j fF26_2 j j)<|t j j (oLd (cs:=[.own 3 0 2]) j tF23 j j)<|t j j (oLnO j j uF23 j j j (fun e=>nomatch e))<|t j j (oMv j j)<|sK (O:=[3]) j j j (dN z73 j (oFA (r':=.mp 3 0 2) j fF26_2 j j))<|sK (O:=[3]) j j j (dN z73 j (oLd (cs:=[.own 3 0 2]) j tF23 j j))<|sS (dN z73 j (oCa (xs:=[.v false [.mp 0 0 0],.v false [.im 0 _]]) (vs:=[(false,[.im 0 _])]) (v:=.v false [.im 0 _]) (L_spec_l00Src_pick hx143) (.inl j) j kF118_77_2 j (ppP j j j (ppC j pp0)) j j (pbP j j pb0) j j j)) (kY ⟨j,trivial⟩ (kY ⟨j,trivial⟩ trivial)) (sK (O:=[3]) j j j (dN z73 j (oIAO j hx144 sF23 j j j j))<|sK (O:=[3]) j j j (dN z73 j (oFA (r':=.mpe 3 0 2 _ 0) j fF155_0 j j))<|sK (O:=[3]) j j j (dN z73 j (oLdE (cs:=[.im 0 _]) j tF2 j j j j (rd_get hx144) j j))<|sS (dN z73 j (oCa (xs:=[.v false [.mp 0 0 0],.v false [.im 0 _]]) (vs:=[(false,[.im 0 _])]) (v:=.v false [.im 0 _]) (L_spec_l00Src_pick hx148) (.inl j) j kF118_77_2 j (ppP j j j (ppC j pp0)) j j (pbP j j pb0) j j j)) (kY ⟨j,trivial⟩ (kY ⟨j,trivial⟩ (kY ⟨j,trivial⟩ (kY ⟨j,trivial⟩ (kY ⟨j,trivial⟩ trivial))))) (t j j (oBi j j j j)<|t j j (oIAO j hx150 sF23 j j j j)<|t j j (oFA (r':=.mpe 3 0 2 _ 0) j fF155_0 j j)<|sS (dN z73 j (oStE (v':=(⟨(w64 (x144.X+x148.1)),x150.Y⟩:S_Point)) tF2 j j j (fxI fx0) j j (rd_get hx150) j)) (kN j (kN j (kN j (kN j (kN j trivial))))) (sD (by kernel_rfl)))))<|Unw.blk<|K14 _ ⟨x148.2.code,x148.2.at_,x148.2.seed,x8.1.Width,x8.1.Height,(x8.1.Points.set x143.1.toNat (⟨(w64 (x144.X+x148.1)),x150.Y⟩:S_Point)),x8.1.Faces,h,(by kernel_rfl)⟩
          ·exact Go.skip<|Unw.blk<|K14 _ ⟨x13.2.code,x13.2.at_,x13.2.seed,x8.1.Width,x8.1.Height,x8.1.Points,x8.1.Faces,h,(by kernel_rfl)⟩
theorem L_spec_l23Draw {s_0:S_l00Src} {r:(S_Drawing×S_l00Src)} (h:spec_l23Draw s_0=some r):FX 50 [.ptr true [(.imm,W 1 (eK .u8) s_0.code),(.imm,I s_0.at_),(.imm,.sc (.int .u64 s_0.seed))]] ([(true,[.im 0 (I r.1.Width),.im 0 (I r.1.Height),.ow 0 2 (List.map e_S_Point r.1.Points),.ow 0 2 (List.map e_S_Face r.1.Faces)])],[.ptr true [(.imm,W 1 (eK .u8) r.2.code),(.imm,I r.2.at_),(.imm,.sc (.int .u64 r.2.seed))]]):=by
 unfold spec_l23Draw at h
 refine FL_goS (A:=[(0,M 0)]) (B:=[(0,Od (G 1 (u_S_l00Src s_0)))]) (nt:=9) rfl rfl Try.func50 rfl rfl rfl rfl ?_
 refine gs<|g0 j j (q (oAl j tF26 (tkI (tkI (tkN (tkN tk0)))))<|nl)<|us<|gs<|gs<|?_
 obtain ⟨x4,hx4,h⟩:=bs h
 refine g0 j j (q (oMv j j)<|q (oCa (xs:=[.v false [.mp 0 0 0],.v false [.im 0 _]]) (vs:=[(false,[.im 0 _])]) (v:=.v false [.im 0 _]) (L_spec_l00Src_one hx4) (.inl j) j kF95_77_2 j (ppP j j j (ppC j pp0)) j j (pbP j j pb0) j j j)<|nl)<|us<|gc h j iR (fun hc1 h=>?_) fun hc1 h=>?_
 ·refine gs<|?_
  obtain ⟨x6,hx6,h⟩:=bs h
  refine g1 j j (mk [(0,M 0),(2,M 2)] [(0,Od (G 1 (u_S_l00Src x4.2))),(2,Oa [C (I 0),C (I 0),Z (W 2 e_S_Point ([]:List S_Point)),Z (W 2 e_S_Face ([]:List S_Face))])]) (q (oMv j j)<|q (oCr (xs:=[.v false [.mp 0 0 0]]) (vs:=[(true,[.im 0 _,.im 0 _,.own 6 0 0,.own 6 0 1])]) (v:=.v true [.im 0 _,.im 0 _,.own 6 0 0,.own 6 0 1]) (c:=⟨.sh,0,_⟩) (cs:=[⟨.sh,0,_⟩]) (L_spec_l23Ring hx6) (.inl j) j kF96_77 j (ppP j j j pp0) j j (pbP j j pb0) j j j)<|q (oSt tF26 j j j (tkI (tkI (tkO j j (tkO j j tk0)))) j j j)<|nl)<|us<|Go.ret (Unw.ret ?_)
  cases h
  exact fr rF50 j
 ·refine Go.skip<|us<|gs<|?_
  obtain ⟨x8,hx8,h⟩:=bs h
  refine g1 j j (mk [(0,M 0),(2,M 2)] [(0,Od (G 1 (u_S_l00Src x4.2))),(2,Oa [C (I 0),C (I 0),Z (W 2 e_S_Point ([]:List S_Point)),Z (W 2 e_S_Face ([]:List S_Face))])]) (q (oMv j j)<|q (oCr (xs:=[.v false [.mp 0 0 0]]) (vs:=[(true,[.im 0 _,.im 0 _,.own 8 0 0,.own 8 0 1])]) (v:=.v true [.im 0 _,.im 0 _,.own 8 0 0,.own 8 0 1]) (c:=⟨.sh,0,_⟩) (cs:=[⟨.sh,0,_⟩]) (L_spec_l05Bent hx8) (.inl j) j kF73_77 j (ppP j j j pp0) j j (pbP j j pb0) j j j)<|q (oSt tF26 j j j (tkI (tkI (tkO j j (tkO j j tk0)))) j j j)<|nl)<|us<|Go.ret (Unw.ret ?_)
  cases h
  exact fr rF50 j
theorem L_spec_l00In {n_0:Int} {low_1:Int} {high_2:Int} {r:Bool} (h:spec_l00In n_0 low_1 high_2=some r):FX 97 [.im 2 false [I n_0],.im 2 false [I low_1],.im 2 false [I high_2]] (B0 [(false,[.im 0 (V r)])]):=by
 unfold spec_l00In at h
 refine gn 15 Try.func97 rfl ?_
 refine gs<|g0 j j (q (oAsI j j)<|nl)<|us<|gs<|gX c97 j j j (mk [(6,bv ((decide (n_0≥low_1))&&(decide (n_0≤high_2))))] []) ?_ ?_
 ·refine xq (oMv j j)<|xq (oMv j j)<|xq (oBi j j j j)<|xq (oMv j j)<|?_
  by_cases hc1:n_0≥low_1
  ·exact xqT rfl rfl (iDec.2 hc1) (oMv rfl rfl)<|xqT rfl rfl (iDec.2 hc1) (oMv rfl rfl)<|xqT rfl rfl (iDec.2 hc1) (oBi rfl rfl rfl rfl)<|xq (oPkT rfl rfl (iDec.2 hc1) rfl)<|xq (oAsI rfl rfl)<|xn (Eq.trans (b:=(fun t_6_m1:Bool=>mk [(6,bv t_6_m1)] []) (decide (n_0≤high_2))) (by kernel_rfl) (congrArg (fun t_6_m1:Bool=>mk [(6,bv t_6_m1)] []) (by first | rfl | (simp [(iDec.2 hc1)];done) | (simp [(iDec.2 hc1)];omega))))
  ·exact xsgF rfl rfl (byF iDec hc1) rfl<|xsgF rfl rfl (byF iDec hc1) rfl<|xsgF rfl rfl (byF iDec hc1) rfl<|xq (oPkF rfl rfl (byF iDec hc1) rfl)<|xq (oAsI rfl rfl)<|xn (Eq.trans (b:=(fun t_6_m1:Bool=>mk [(6,bv t_6_m1)] []) false) (by kernel_rfl) (congrArg (fun t_6_m1:Bool=>mk [(6,bv t_6_m1)] []) (by first | rfl | (simp [(byF iDec hc1)];done) | (simp [(byF iDec hc1)];omega))))
 ·refine us<|Go.ret (Unw.ret ?_)
  cases h
  exact fr rF97 j
theorem L_spec_l05Points {d_0:S_Drawing} {r:Bool} (h:spec_l05Points d_0=some r):FX 98 [.im 2 false [.cp (u_S_Drawing d_0) 0]] (B0 [(false,[.im 0 (V r)])]):=by
 unfold spec_l05Points at h
 refine gn 70 Try.func98 rfl ?_
 refine gs<|g0 j j (q (oAsI j j)<|nl)<|us<|gs<|gs<|g0 j j (q (oMv j j)<|q (oNl j j j)<|q (oFA (r':=.im 2 _) j fF26_2 j j)<|q (oLd (cs:=[.im 2 _]) j tF23 j j)<|q (oLnI j j uF23 j)<|q (oBi j j j j)<|nl)<|us<|gc h j iDec (fun hc1 h=>?_) fun hc1 h=>?_
 ·refine gs<|g0 j j (q (oAsI j j)<|nl)<|us<|Go.ret (Unw.ret ?_)
  cases h
  exact fr rF98 j
 ·refine Go.skip<|us<|gs<|gs<|g0 j j (q (oAsI j j)<|nl)<|us<|Go.block<|?_
  obtain ⟨o,hl,h⟩:=bs h
  refine gl c98 j _ (fun (i_3_l4:Int)=>mk [(0,D 2 (.cp (u_S_Drawing d_0) 0)),(3,iv i_3_l4)] []) (fun (o:(Unit ⊕ Bool)) (p:Ex×St)=>match o with | (.inl _)=>p.1= .exit 0∧p.2.norm ([],[])=mk [] [] | (.inr r2)=>p.1= .ret∧fin Try.prog cfg 98 Try.f98 [.im 2 false [.cp (u_S_Drawing d_0) 0]] p.2=some (B0 [(false,[.im 0 (V r2)])])) hl (by kernel_rfl) ?_ ?_ ?_
  ·intro o p hp e
   rcases o with u | r2<;>exact nomatch (hp.1.symm.trans e)
  ·rintro i_3_l4 o h
   unfold spec_l05Points_l4 at h
   refine gs<|gs<|g0 j j (q (oMv j j)<|q (oMv j j)<|q (oNl j j j)<|q (oFA (r':=.im 2 _) j fF26_2 j j)<|q (oLd (cs:=[.im 2 _]) j tF23 j j)<|q (oLnI j j uF23 j)<|q (oBi j j j j)<|nl)<|us<|gc h j iDec (fun hc18 h=>?_) fun hc18 h=>?_
   ·refine Go.skip<|us<|gs<|Go.block<|gs<|gs<|?_
    obtain ⟨x25,hx25,h⟩:=bs h
    obtain ⟨x32,hx32,h⟩:=bs h
    obtain ⟨t_49_m6,hm27,h⟩:=bs h
    refine gd c98 j j j j (mk [(0,D 2 (.cp (u_S_Drawing d_0) 0)),(3,iv i_3_l4),(49,bv t_49_m6)] []) ?_ ?_
    ·refine t j j (oMv j j)<|t j j (oNl j j j)<|t j j (oFA (r':=.im 2 _) j fF26_2 j j)<|t j j (oLd (cs:=[.im 2 _]) j tF23 j j)<|t j j (oMv j j)<|t j j (oIAI j hx25 sF23 j j)<|t j j (oFA (r':=.im 2 _) j fF155_0 j j)<|t j j (oLd (cs:=[.im 2 _]) j tF2 j j)<|t j j (oMv j j)<|t j j (oNl j j j)<|t j j (oFA (r':=.im 2 _) j fF26_0 j j)<|?_
     refine ic hm27 (fun hc19 hm27=>?_) fun hc19 hm27=>?_
     ·obtain ⟨x40,hx40,hm27⟩:=bs hm27
      obtain ⟨x47,hx47,hm27⟩:=bs hm27
      cases hm27
      exact t j j (oLd (cs:=[.im 2 _]) j tF2 j j)<|sS (dN z98 j (oCa (xs:=[.v false [.im 2 _],.v false [.im 0 _],.v false [.im 2 _]]) (vs:=[(false,[.im 0 _])]) (v:=.v false [.im 0 _]) (L_spec_l00In hx32) (.inl j) j kF97_2_2_2 j (ppC j (ppC j (ppC j pp0))) j j pb0 j j j)) trivial (t j j (oUn j j j)<|t j j (oMv j j)<|tT j j j j (nF (iR.2 hc19)) (oMv j j)<|tT j j j j (nF (iR.2 hc19)) (oNl j j j)<|tT j j j j (nF (iR.2 hc19)) (oFA (r':=.im 2 _) j fF26_2 j j)<|tT j j j j (nF (iR.2 hc19)) (oLd (cs:=[.im 2 _]) j tF23 j j)<|tT j j j j (nF (iR.2 hc19)) (oMv j j)<|tT j j j j (nF (iR.2 hc19)) (oIAI j hx40 sF23 j j)<|tT j j j j (nF (iR.2 hc19)) (oFA (r':=.im 2 _) j fF155_1 j j)<|tT j j j j (nF (iR.2 hc19)) (oLd (cs:=[.im 2 _]) j tF2 j j)<|tT j j j j (nF (iR.2 hc19)) (oMv j j)<|tT j j j j (nF (iR.2 hc19)) (oNl j j j)<|tT j j j j (nF (iR.2 hc19)) (oFA (r':=.im 2 _) j fF26_1 j j)<|tT j j j j (nF (iR.2 hc19)) (oLd (cs:=[.im 2 _]) j tF2 j j)<|sS (dT z98 j j j (nF (iR.2 hc19)) (oCa (xs:=[.v false [.im 2 _],.v false [.im 0 _],.v false [.im 2 _]]) (vs:=[(false,[.im 0 _])]) (v:=.v false [.im 0 _]) (L_spec_l00In hx47) (.inl j) j kF97_2_2_2 j (ppC j (ppC j (ppC j pp0))) j j pb0 j j j)) trivial (tT j j j j (nF (iR.2 hc19)) (oUn j j j)<|t j j (oPkF j j (nF (iR.2 hc19)) j)<|sD (by kernel_rfl)))
     ·cases hm27
      exact t j j (oLd (cs:=[.im 2 _]) j tF2 j j)<|sS (dN z98 j (oCa (xs:=[.v false [.im 2 _],.v false [.im 0 _],.v false [.im 2 _]]) (vs:=[(false,[.im 0 _])]) (v:=.v false [.im 0 _]) (L_spec_l00In hx32) (.inl j) j kF97_2_2_2 j (ppC j (ppC j (ppC j pp0))) j j pb0 j j j)) trivial (t j j (oUn j j j)<|t j j (oMv j j)<|tF j j j j (nT (byF iR hc19)) j<|tF j j j j (nT (byF iR hc19)) j<|tF j j j j (nT (byF iR hc19)) j<|tF j j j j (nT (byF iR hc19)) j<|tF j j j j (nT (byF iR hc19)) j<|tF j j j j (nT (byF iR hc19)) j<|tF j j j j (nT (byF iR hc19)) j<|tF j j j j (nT (byF iR hc19)) j<|tF j j j j (nT (byF iR hc19)) j<|tF j j j j (nT (byF iR hc19)) j<|tF j j j j (nT (byF iR hc19)) j<|tF j j j j (nT (byF iR hc19)) j<|sS (dF j j j (nT (byF iR hc19)) j) trivial (tF j j j j (nT (byF iR hc19)) j<|t j j (oPkT j j (nT (byF iR hc19)) j)<|sD (by kernel_rfl)))
    ·refine us<|gc h j iR (fun hc20 h=>?_) fun hc20 h=>?_
     ·refine gs<|g0 j j (q (oAsI j j)<|nl)<|us<|Go.ret (Unw.ret ?_)
      cases h
      exact ⟨j,(fo rF98 j)⟩
     ·refine Go.skip<|us<|gs<|g0 j j (q (oAsI j j)<|nl)<|us<|Go.block<|?_
      obtain ⟨o,hl,h⟩:=bs h
      refine gl c98 j _ (fun (k_4_l9:Int)=>mk [(0,D 2 (.cp (u_S_Drawing d_0) 0)),(3,iv i_3_l4),(4,iv k_4_l9)] []) (fun (o:(Unit ⊕ Bool)) (p:Ex×St)=>match o with | (.inl _)=>p.1= .exit 2∧p.2.norm ([0,3],[])=mk [(0,D 2 (.cp (u_S_Drawing d_0) 0)),(3,iv i_3_l4)] [] | (.inr r2)=>p.1= .ret∧fin Try.prog cfg 98 Try.f98 [.im 2 false [.cp (u_S_Drawing d_0) 0]] p.2=some (B0 [(false,[.im 0 (V r2)])])) hl (by kernel_rfl) ?_ ?_ ?_
      ·intro o p hp e
       rcases o with u | r2<;>exact nomatch (hp.1.symm.trans e)
      ·rintro k_4_l9 o h
       unfold spec_l05Points_l9 at h
       refine gs<|gs<|g0 j j (q (oMv j j)<|q (oMv j j)<|q (oBi j j j j)<|nl)<|us<|gc h j iDec (fun hc25 h=>?_) fun hc25 h=>?_
       ·refine Go.skip<|us<|gs<|Go.block<|gs<|?_
        obtain ⟨x60,hx60,h⟩:=bs h
        obtain ⟨x67,hx67,h⟩:=bs h
        refine gd c98 j j j j (mk [(0,D 2 (.cp (u_S_Drawing d_0) 0)),(3,iv i_3_l4),(4,iv k_4_l9),(69,bv ((x60.X==x67.X)&&(x60.Y==x67.Y)))] []) (t j j (oMv j j)<|t j j (oNl j j j)<|t j j (oFA (r':=.im 2 _) j fF26_2 j j)<|t j j (oLd (cs:=[.im 2 _]) j tF23 j j)<|t j j (oMv j j)<|t j j (oIAI j hx60 sF23 j j)<|t j j (oLd (cs:=[.im 2 _,.im 2 _]) j tF155 j j)<|t j j (oMv j j)<|t j j (oNl j j j)<|t j j (oFA (r':=.im 2 _) j fF26_2 j j)<|t j j (oLd (cs:=[.im 2 _]) j tF23 j j)<|t j j (oMv j j)<|t j j (oIAI j hx67 sF23 j j)<|t j j (oLd (cs:=[.im 2 _,.im 2 _]) j tF155 j j)<|t j j (oBa j (qEF155 x60.X x60.Y x67.X x67.Y) j j j j)<|sD (by kernel_rfl))<|us<|gc h j (iAnd iEq iEq) (fun hc26 h=>?_) fun hc26 h=>?_
        ·refine gs<|g0 j j (q (oAsI j j)<|nl)<|us<|Go.ret (Unw.ret ?_)
         cases h
         exact ⟨j,(fo rF98 j)⟩
        ·refine Go.skip<|Unw.blk<|us<|g0 j j (q (oMv j j)<|q (oBi j j j j)<|q (oAsI j j)<|nl)<|Unw.nil<|?_
         cases h
         exact ⟨j,(by kernel_rfl)⟩
       ·refine Go.exit<|ux<|Unw.nil<|?_
        cases h
        exact ⟨j,(by kernel_rfl)⟩
      ·rintro ⟨e,st⟩ hp
       rcases o with u | r2
       ·dsimp only at h
        obtain ⟨he,hst⟩:=hp
        obtain rfl:e= .exit 2:=he
        refine Unw.blkx<|Unw.blk<|us<|g2 c98 j j hst (q (oMv j j)<|q (oBi j j j j)<|q (oAsI j j)<|nl)<|Unw.nil<|?_
        cases h
        exact ⟨j,(by kernel_rfl)⟩
       ·dsimp only at h
        obtain ⟨he,hfin⟩:=hp
        obtain rfl:e= .ret:=he
        cases h
        exact Unw.ret ⟨j,hfin⟩
   ·refine Go.exit<|ux<|Unw.nil<|?_
    cases h
    exact ⟨j,(by kernel_rfl)⟩
  ·rintro ⟨e,st⟩ hp
   rcases o with u | r2
   ·dsimp only at h
    obtain ⟨he,hst⟩:=hp
    obtain rfl:e= .exit 0:=he
    refine Unw.blkx<|us<|gs<|g2 c98 j j hst (q (oAsI j j)<|nl)<|us<|Go.ret (Unw.ret ?_)
    cases h
    exact fr rF98 j
   ·dsimp only at h
    obtain ⟨he,hfin⟩:=hp
    obtain rfl:e= .ret:=he
    cases h
    exact Unw.ret (Fin_ret hfin)
theorem L_spec_l01Small {c_0:Int} {r:Bool} (h:spec_l01Small c_0=some r):FX 142 [.im 2 false [.sc (.int .u8 c_0)]] (B0 [(false,[.im 0 (V r)])]):=by
 unfold spec_l01Small at h
 refine gn 9 Try.func142 rfl ?_
 refine gs<|g0 j j (q (oAsI j j)<|nl)<|us<|gs<|gX c142 j j j (mk [(2,bv ((decide (c_0≥97))&&(decide (c_0≤122))))] []) ?_ ?_
 ·refine xq (oMv j j)<|xq (oBi j j j j)<|xq (oMv j j)<|?_
  by_cases hc1:c_0≥97
  ·exact xqT rfl rfl (iDec.2 hc1) (oMv rfl rfl)<|xqT rfl rfl (iDec.2 hc1) (oBi rfl rfl rfl rfl)<|xq (oPkT rfl rfl (iDec.2 hc1) rfl)<|xq (oAsI rfl rfl)<|xn (Eq.trans (b:=(fun t_2_m1:Bool=>mk [(2,bv t_2_m1)] []) (decide (c_0≤122))) (by kernel_rfl) (congrArg (fun t_2_m1:Bool=>mk [(2,bv t_2_m1)] []) (by first | rfl | (simp [(iDec.2 hc1)];done) | (simp [(iDec.2 hc1)];omega))))
  ·exact xsgF rfl rfl (byF iDec hc1) rfl<|xsgF rfl rfl (byF iDec hc1) rfl<|xq (oPkF rfl rfl (byF iDec hc1) rfl)<|xq (oAsI rfl rfl)<|xn (Eq.trans (b:=(fun t_2_m1:Bool=>mk [(2,bv t_2_m1)] []) false) (by kernel_rfl) (congrArg (fun t_2_m1:Bool=>mk [(2,bv t_2_m1)] []) (by first | rfl | (simp [(byF iDec hc1)];done) | (simp [(byF iDec hc1)];omega))))
 ·refine us<|Go.ret (Unw.ret ?_)
  cases h
  exact fr rF142 j
theorem L_spec_l01Digit {c_0:Int} {r:Bool} (h:spec_l01Digit c_0=some r):FX 143 [.im 2 false [.sc (.int .u8 c_0)]] (B0 [(false,[.im 0 (V r)])]):=by
 unfold spec_l01Digit at h
 refine gn 9 Try.func143 rfl ?_
 refine gs<|g0 j j (q (oAsI j j)<|nl)<|us<|gs<|gX c143 j j j (mk [(2,bv ((decide (c_0≥48))&&(decide (c_0≤57))))] []) ?_ ?_
 ·refine xq (oMv j j)<|xq (oBi j j j j)<|xq (oMv j j)<|?_
  by_cases hc1:c_0≥48
  ·exact xqT rfl rfl (iDec.2 hc1) (oMv rfl rfl)<|xqT rfl rfl (iDec.2 hc1) (oBi rfl rfl rfl rfl)<|xq (oPkT rfl rfl (iDec.2 hc1) rfl)<|xq (oAsI rfl rfl)<|xn (Eq.trans (b:=(fun t_2_m1:Bool=>mk [(2,bv t_2_m1)] []) (decide (c_0≤57))) (by kernel_rfl) (congrArg (fun t_2_m1:Bool=>mk [(2,bv t_2_m1)] []) (by first | rfl | (simp [(iDec.2 hc1)];done) | (simp [(iDec.2 hc1)];omega))))
  ·exact xsgF rfl rfl (byF iDec hc1) rfl<|xsgF rfl rfl (byF iDec hc1) rfl<|xq (oPkF rfl rfl (byF iDec hc1) rfl)<|xq (oAsI rfl rfl)<|xn (Eq.trans (b:=(fun t_2_m1:Bool=>mk [(2,bv t_2_m1)] []) false) (by kernel_rfl) (congrArg (fun t_2_m1:Bool=>mk [(2,bv t_2_m1)] []) (by first | rfl | (simp [(byF iDec hc1)];done) | (simp [(byF iDec hc1)];omega))))
 ·refine us<|Go.ret (Unw.ret ?_)
  cases h
  exact fr rF143 j
theorem L_spec_l01Name {s_0:ByteArray} {r:Bool} (h:spec_l01Name s_0=some r):FX 99 [.im 2 false [Y s_0]] (B0 [(false,[.im 0 (V r)])]):=by
 unfold spec_l01Name at h
 refine gn 35 Try.func99 rfl ?_
 refine gs<|g0 j j (q (oAsI j j)<|nl)<|us<|gs<|gs<|?_
 obtain ⟨t_16_m1,hm16,h⟩:=bs h
 refine gX c99 j j j (mk [(0,sv s_0),(16,bv t_16_m1)] []) ?_ ?_
 ·refine xq (oMv j j)<|xq (oBi j j j j)<|xq (oMv j j)<|?_
  refine ic hm16 (fun hc1 hm16=>?_) fun hc1 hm16=>?_
  ·cases hm16
   exact xsgF j j (iStr.2 hc1) j<|xsgF j j (iStr.2 hc1) j<|xsgF j j (iStr.2 hc1) j<|xq (oPkT j j (iStr.2 hc1) j)<|xq (oMv j j)<|xsgF j j j j<|xsgF j j j j<|xsgF j j j j<|xsgF j j j j<|xq (oPkT j j j j)<|xn
  ·refine xqT j j (byF iStr hc1) (oMv j j)<|xqT j j (byF iStr hc1) (oLnS j j uF9 j)<|xqT j j (byF iStr hc1) (oBi j j j j)<|xq (oPkF j j (byF iStr hc1) j)<|xq (oMv j j)<|?_
   refine ic hm16 (fun hc2 hm16=>?_) fun hc2 hm16=>?_
   ·cases hm16
    exact xsgF j j (iDec.2 hc2) j<|xsgF j j (iDec.2 hc2) j<|xsgF j j (iDec.2 hc2) j<|xsgF j j (iDec.2 hc2) j<|xq (oPkT j j (iDec.2 hc2) j)<|xn
   ·obtain ⟨x13,hx13,hm16⟩:=bs hm16
    obtain ⟨x14,hx14,hm16⟩:=bs hm16
    cases hm16
    exact xqT j j (byF iDec hc2) (oMv j j)<|xqT j j (byF iDec hc2) (oIx j hx13 uF9 j j)<|xqT j j (byF iDec hc2) (oCa (xs:=[.v false [.im 0 _]]) (vs:=[(false,[.im 0 _])]) (v:=.v false [.im 0 _]) (L_spec_l01Small hx14) (.inl j) j kF142_5 j (ppC j pp0) j j pb0 j j j)<|xqT j j (byF iDec hc2) (oUn j j j)<|xq (oPkF j j (byF iDec hc2) j)<|xn
 ·refine us<|gc h j iR (fun hc3 h=>?_) fun hc3 h=>?_
  ·refine gs<|g0 j j (q (oAsI j j)<|nl)<|us<|Go.ret (Unw.ret ?_)
   cases h
   exact fr rF99 j
  ·refine Go.skip<|us<|gs<|gs<|g0 j j (q (oAsI j j)<|nl)<|us<|Go.block<|?_
   obtain ⟨o,hl,h⟩:=bs h
   refine gl c99 j _ (fun (i_3_l4:Int)=>mk [(0,sv s_0),(3,iv i_3_l4)] []) (fun (o:(Unit ⊕ Bool)) (p:Ex×St)=>match o with | (.inl _)=>p.1= .exit 0∧p.2.norm ([],[])=mk [] [] | (.inr r2)=>p.1= .ret∧fin Try.prog cfg 99 Try.f99 [.im 2 false [Y s_0]] p.2=some (B0 [(false,[.im 0 (V r2)])])) hl (by kernel_rfl) ?_ ?_ ?_
   ·intro o p hp e
    rcases o with u | r2<;>exact nomatch (hp.1.symm.trans e)
   ·rintro i_3_l4 o h
    unfold spec_l01Name_l4 at h
    refine gs<|gs<|g0 j j (q (oMv j j)<|q (oMv j j)<|q (oLnS j j uF9 j)<|q (oBi j j j j)<|nl)<|us<|gc h j iDec (fun hc12 h=>?_) fun hc12 h=>?_
    ·refine Go.skip<|us<|gs<|Go.block<|gs<|?_
     obtain ⟨x25,hx25,h⟩:=bs h
     obtain ⟨x26,hx26,h⟩:=bs h
     obtain ⟨t_34_m6,hm15,h⟩:=bs h
     refine gX c99 j j j (mk [(0,sv s_0),(3,iv i_3_l4),(34,bv t_34_m6)] []) ?_ ?_
     ·refine xq (oMv j j)<|xq (oMv j j)<|xq (oIx j hx25 uF9 j j)<|xq (oCa (xs:=[.v false [.im 0 _]]) (vs:=[(false,[.im 0 _])]) (v:=.v false [.im 0 _]) (L_spec_l01Small hx26) (.inl j) j kF142_5 j (ppC j pp0) j j pb0 j j j)<|xq (oUn j j j)<|xq (oMv j j)<|?_
      refine ic hm15 (fun hc13 hm15=>?_) fun hc13 hm15=>?_
      ·cases hm15
       exact xsgF j j (nF (iR.2 hc13)) j<|xsgF j j (nF (iR.2 hc13)) j<|xsgF j j (nF (iR.2 hc13)) j<|xsgF j j (nF (iR.2 hc13)) j<|xsgF j j (nF (iR.2 hc13)) j<|xq (oPkF j j (nF (iR.2 hc13)) j)<|xn
      ·obtain ⟨x31,hx31,hm15⟩:=bs hm15
       obtain ⟨x32,hx32,hm15⟩:=bs hm15
       cases hm15
       exact xqT j j (nT (byF iR hc13)) (oMv j j)<|xqT j j (nT (byF iR hc13)) (oMv j j)<|xqT j j (nT (byF iR hc13)) (oIx j hx31 uF9 j j)<|xqT j j (nT (byF iR hc13)) (oCa (xs:=[.v false [.im 0 _]]) (vs:=[(false,[.im 0 _])]) (v:=.v false [.im 0 _]) (L_spec_l01Digit hx32) (.inl j) j kF143_5 j (ppC j pp0) j j pb0 j j j)<|xqT j j (nT (byF iR hc13)) (oUn j j j)<|xq (oPkT j j (nT (byF iR hc13)) j)<|xn
     ·refine us<|gc h j iR (fun hc14 h=>?_) fun hc14 h=>?_
      ·refine gs<|g0 j j (q (oAsI j j)<|nl)<|us<|Go.ret (Unw.ret ?_)
       cases h
       exact ⟨j,(fo rF99 j)⟩
      ·refine Go.skip<|Unw.blk<|us<|g0 j j (q (oMv j j)<|q (oBi j j j j)<|q (oAsI j j)<|nl)<|Unw.nil<|?_
       cases h
       exact ⟨j,(by kernel_rfl)⟩
    ·refine Go.exit<|ux<|Unw.nil<|?_
     cases h
     exact ⟨j,(by kernel_rfl)⟩
   ·rintro ⟨e,st⟩ hp
    rcases o with u | r2
    ·dsimp only at h
     obtain ⟨he,hst⟩:=hp
     obtain rfl:e= .exit 0:=he
     refine Unw.blkx<|us<|gs<|g2 c99 j j hst (q (oAsI j j)<|nl)<|us<|Go.ret (Unw.ret ?_)
     cases h
     exact fr rF99 j
    ·dsimp only at h
     obtain ⟨he,hfin⟩:=hp
     obtain rfl:e= .ret:=he
     cases h
     exact Unw.ret (Fin_ret hfin)
theorem L_spec_l05Ring {d_0:S_Drawing} {ring_1:(List Int)} {r:((List S_Point)×Bool)} (h:spec_l05Ring d_0 ring_1=some r):FX 100 [.im 2 false [.cp (u_S_Drawing d_0) 0],.im 2 false [W 1 eI ring_1]] (B0 [(false,[.ow 0 2 (List.map e_S_Point r.1)]),(false,[.im 0 (V r.2)])]):=by
 unfold spec_l05Ring at h
 refine gn 41 Try.func100 rfl ?_
 refine gs<|g0 j j (q (oAsN j j eF23)<|q (oAsI j j)<|nl)<|us<|gs<|g0 j j (q (oBS (es:=List.map e_S_Point ([]:List S_Point)) j sF23 j pt0 (flat0 j fun _=>j))<|q (oAsO j j j j j)<|nl)<|us<|gs<|gs<|g0 j j (q (oAsI j j)<|nl)<|us<|Go.block<|?_
 obtain ⟨o,hl,h⟩:=bs h
 refine gl c100 j _ (fun (s:(Int×(List S_Point)))=>match s with | (i_7_l3,out_o6_l3)=>mk [(0,D 2 (.cp (u_S_Drawing d_0) 0)),(1,D 2 (W 1 eI ring_1)),(6,H 6 0),(7,iv i_7_l3)] [(6,Oc [Z (W 2 e_S_Point out_o6_l3)])]) (fun (o:((List S_Point) ⊕ ((List S_Point)×Bool))) (p:Ex×St)=>match o with | (.inl out_o6_e0_3)=>p.1= .exit 0∧p.2.norm ([6],[6])=mk [(6,H 6 0)] [(6,Oc [Z (W 2 e_S_Point out_o6_e0_3)])] | (.inr r2)=>p.1= .ret∧fin Try.prog cfg 100 Try.f100 [.im 2 false [.cp (u_S_Drawing d_0) 0],.im 2 false [W 1 eI ring_1]] p.2=some (B0 [(false,[.ow 0 2 (List.map e_S_Point r2.1)]),(false,[.im 0 (V r2.2)])])) hl (by kernel_rfl) ?_ ?_ ?_
 ·intro o p hp e
  rcases o with out_o6_e0_3 | r2<;>exact nomatch (hp.1.symm.trans e)
 ·rintro ⟨i_7_l3,out_o6_l3⟩ o h
  unfold spec_l05Ring_l3 at h
  dsimp only at h
  refine gs<|gs<|g0 j j (q (oMv j j)<|q (oMv j j)<|q (oLnI j j uF28 j)<|q (oBi j j j j)<|nl)<|us<|gc h j iDec (fun hc5 h=>?_) fun hc5 h=>?_
  ·refine Go.skip<|us<|gs<|Go.block<|gs<|gs<|?_
   obtain ⟨x17,hx17,h⟩:=bs h
   obtain ⟨x25,hx25,h⟩:=bs h
   refine gd c100 j j j j (mk [(0,D 2 (.cp (u_S_Drawing d_0) 0)),(1,D 2 (W 1 eI ring_1)),(6,H 6 0),(7,iv i_7_l3),(26,bv (!x25))] [(6,Oc [Z (W 2 e_S_Point out_o6_l3)])]) (t j j (oMv j j)<|t j j (oMv j j)<|t j j (oIAI j hx17 sF28 j j)<|t j j (oLd (cs:=[.im 2 _]) j tF2 j j)<|t j j (oMv j j)<|t j j (oNl j j j)<|t j j (oFA (r':=.im 2 _) j fF26_2 j j)<|t j j (oLd (cs:=[.im 2 _]) j tF23 j j)<|t j j (oLnI j j uF23 j)<|t j j (oBi j j j j)<|sS (dN z100 j (oCa (xs:=[.v false [.im 2 _],.v false [.im 0 _],.v false [.im 0 _]]) (vs:=[(false,[.im 0 _])]) (v:=.v false [.im 0 _]) (L_spec_l00In hx25) (.inl j) j kF97_2_2_2 j (ppC j (ppC j (ppC j pp0))) j j pb0 j j j)) trivial (t j j (oUn j j j)<|sD (by kernel_rfl)))<|us<|?_
   by_cases hc6:x25=true
   ·rw [if_pos hc6] at h
    refine gF j (nF (iR.2 hc6))<|Go.skip<|us<|?_
    obtain ⟨x34,hx34,h⟩:=bs h
    obtain ⟨x36,hx36,h⟩:=bs h
    obtain ⟨x39,hx39,h⟩:=bs h
    refine gd c100 j j j j (mk [(0,D 2 (.cp (u_S_Drawing d_0) 0)),(1,D 2 (W 1 eI ring_1)),(6,H 6 0),(7,iv i_7_l3)] [(6,Oc [Z (W 2 e_S_Point x39)])]) (t j j (oMv j j)<|t j j (oMv j j)<|t j j (oNl j j j)<|t j j (oFA (r':=.im 2 _) j fF26_2 j j)<|t j j (oLd (cs:=[.im 2 _]) j tF23 j j)<|t j j (oMv j j)<|t j j (oMv j j)<|t j j (oIAI j hx34 sF28 j j)<|t j j (oLd (cs:=[.im 2 _]) j tF2 j j)<|t j j (oIAI j hx36 sF23 j j)<|t j j (oLd (cs:=[.im 2 _,.im 2 _]) j tF155 j j)<|sS (dN z100 j (oBS (es:=List.map e_S_Point ([x36]:List S_Point)) j sF23 j (ptC j (fxI (fxI fx0)) j pt0) (flat0 j fun _=>j))) trivial (sS (dN z100 j (oApO (en:=e_S_Point) (M:=([x36]:List S_Point)) j hx39 j sF23 j j uF23 (.inl ⟨_,j⟩) j j j j (el_own j j) (flat0 j fun _=>j))) trivial (sS (dN z100 j (oAsO j j j j j)) trivial (sD (by kernel_rfl)))))<|Unw.blk<|us<|g0 j j (q (oMv j j)<|q (oBi j j j j)<|q (oAsI j j)<|nl)<|Unw.nil<|?_
    cases h
    exact ⟨j,(by kernel_rfl)⟩
   ·rw [if_neg hc6] at h
    refine gT j (nT (byF iR hc6))<|gs<|g0 j j (q (oAsN j j eF23)<|q (oAsI j j)<|nl)<|us<|Go.ret (Unw.ret ?_)
    cases h
    exact ⟨j,(fo rF100 j)⟩
  ·refine Go.exit<|ux<|Unw.nil<|?_
   cases h
   exact ⟨j,(by kernel_rfl)⟩
 ·rintro ⟨e,st⟩ hp
  rcases o with out_o6_e0_3 | r2
  ·dsimp only at h
   obtain ⟨he,hst⟩:=hp
   obtain rfl:e= .exit 0:=he
   refine Unw.blkx<|us<|gs<|g2 c100 j j hst (q (oMv j j)<|q (oAsO j j j j j)<|q (oAsI j j)<|nl)<|us<|Go.ret (Unw.ret ?_)
   cases h
   exact fr rF100 j
  ·dsimp only at h
   obtain ⟨he,hfin⟩:=hp
   obtain rfl:e= .ret:=he
   cases h
   exact Unw.ret (Fin_ret hfin)
theorem L_spec_l02Ok {p_0:S_Point} {r:Bool} (h:spec_l02Ok p_0=some r):FX 144 [.im 2 true (u_S_Point p_0)] (B0 [(false,[.im 0 (V r)])]):=by
 unfold spec_l02Ok at h
 refine gn 11 Try.func144 rfl ?_
 refine gs<|g0 j j (q (oBx j tF155 j (tkI (tkI tk0)))<|q (oAsI j j)<|nl)<|us<|gs<|?_
 obtain ⟨x5,hx5,h⟩:=bs h
 obtain ⟨t_2_m1,hm2,h⟩:=bs h
 refine gX c144 j j j (mk [(2,bv t_2_m1)] []) ?_ ?_
 ·refine xq (oFA (r':=.mp 1 0 0) j fF155_0 j j)<|xq (oLd (cs:=[.im 0 _]) j tF2 j j)<|xq (oCa (xs:=[.v false [.im 0 _],.v false [.im 0 _],.v false [.im 0 _]]) (vs:=[(false,[.im 0 _])]) (v:=.v false [.im 0 _]) (L_spec_l00In hx5) (.inl j) j kF97_2_2_2 j (ppC j (ppC j (ppC j pp0))) j j pb0 j j j)<|xq (oMv j j)<|?_
  refine ic hm2 (fun hc1 hm2=>?_) fun hc1 hm2=>?_
  ·obtain ⟨x9,hx9,hm2⟩:=bs hm2
   cases hm2
   exact xqT j j (iR.2 hc1) (oFA (r':=.mp 1 0 1) j fF155_1 j j)<|xqT j j (iR.2 hc1) (oLd (cs:=[.im 0 _]) j tF2 j j)<|xqT j j (iR.2 hc1) (oCa (xs:=[.v false [.im 0 _],.v false [.im 0 _],.v false [.im 0 _]]) (vs:=[(false,[.im 0 _])]) (v:=.v false [.im 0 _]) (L_spec_l00In hx9) (.inl j) j kF97_2_2_2 j (ppC j (ppC j (ppC j pp0))) j j pb0 j j j)<|xq (oPkT j j (iR.2 hc1) j)<|xq (oAsI j j)<|xn
  ·cases hm2
   exact xsgF j j (byF iR hc1) j<|xsgF j j (byF iR hc1) j<|xsgF j j (byF iR hc1) j<|xq (oPkF j j (byF iR hc1) j)<|xq (oAsI j j)<|xn
 ·refine us<|Go.ret (Unw.ret ?_)
  cases h
  exact fr rF144 j
theorem L_spec_l02Cross {a_0:S_Point} {b_1:S_Point} {c_2:S_Point} {r:Int} (h:spec_l02Cross a_0 b_1 c_2=some r):FX 201 [.im 2 true (u_S_Point a_0),.im 2 true (u_S_Point b_1),.im 2 true (u_S_Point c_2)] (B0 [(false,[.im 0 (I r)])]):=by
 unfold spec_l02Cross at h
 refine gn 30 Try.func201 rfl ?_
 refine gs<|g0 j j (q (oBx j tF155 j (tkI (tkI tk0)))<|q (oBx j tF155 j (tkI (tkI tk0)))<|q (oBx j tF155 j (tkI (tkI tk0)))<|q (oAsI j j)<|nl)<|us<|gs<|g0 j j (q (oFA (r':=.mp 4 0 0) j fF155_0 j j)<|q (oLd (cs:=[.im 0 _]) j tF2 j j)<|q (oFA (r':=.mp 3 0 0) j fF155_0 j j)<|q (oLd (cs:=[.im 0 _]) j tF2 j j)<|q (oBi j j j j)<|q (oFA (r':=.mp 5 0 1) j fF155_1 j j)<|q (oLd (cs:=[.im 0 _]) j tF2 j j)<|q (oFA (r':=.mp 3 0 1) j fF155_1 j j)<|q (oLd (cs:=[.im 0 _]) j tF2 j j)<|q (oBi j j j j)<|q (oBi j j j j)<|q (oFA (r':=.mp 4 0 1) j fF155_1 j j)<|q (oLd (cs:=[.im 0 _]) j tF2 j j)<|q (oFA (r':=.mp 3 0 1) j fF155_1 j j)<|q (oLd (cs:=[.im 0 _]) j tF2 j j)<|q (oBi j j j j)<|q (oFA (r':=.mp 5 0 0) j fF155_0 j j)<|q (oLd (cs:=[.im 0 _]) j tF2 j j)<|q (oFA (r':=.mp 3 0 0) j fF155_0 j j)<|q (oLd (cs:=[.im 0 _]) j tF2 j j)<|q (oBi j j j j)<|q (oBi j j j j)<|q (oBi j j j j)<|q (oAsI j j)<|nl)<|us<|Go.ret (Unw.ret ?_)
 cases h
 exact fr rF201 j
theorem L_spec_l02Side {a_0:S_Point} {b_1:S_Point} {c_2:S_Point} {r:Int} (h:spec_l02Side a_0 b_1 c_2=some r):FX 175 [.im 2 true (u_S_Point a_0),.im 2 true (u_S_Point b_1),.im 2 true (u_S_Point c_2)] (B0 [(false,[.im 0 (I r)])]):=by
 unfold spec_l02Side at h
 refine gn 16 Try.func175 rfl ?_
 refine gs<|g0 j j (q (oBx j tF155 j (tkI (tkI tk0)))<|q (oBx j tF155 j (tkI (tkI tk0)))<|q (oBx j tF155 j (tkI (tkI tk0)))<|q (oAsI j j)<|nl)<|us<|gs<|?_
 obtain ⟨x11,hx11,h⟩:=bs h
 refine g0 j j (q (oLd (cs:=[.im 0 _,.im 0 _]) j tF155 j j)<|q (oLd (cs:=[.im 0 _,.im 0 _]) j tF155 j j)<|q (oLd (cs:=[.im 0 _,.im 0 _]) j tF155 j j)<|q (oCa (xs:=[.v true [.im 0 _,.im 0 _],.v true [.im 0 _,.im 0 _],.v true [.im 0 _,.im 0 _]]) (vs:=[(false,[.im 0 _])]) (v:=.v false [.im 0 _]) (L_spec_l02Cross hx11) (.inl j) j kF201_155_155_155 j (ppC j (ppC j (ppC j pp0))) j j pb0 j j j)<|q (oAsI j j)<|nl)<|us<|gs<|gs<|g0 j j (q (oMv j j)<|q (oBi j j j j)<|nl)<|us<|gc h j iDec (fun hc1 h=>?_) fun hc1 h=>?_
 ·refine gs<|g0 j j (q (oAsI j j)<|nl)<|us<|Go.ret (Unw.ret ?_)
  cases h
  exact fr rF175 j
 ·refine Go.skip<|us<|gs<|gs<|g0 j j (q (oMv j j)<|q (oBi j j j j)<|nl)<|us<|gc h j iDec (fun hc2 h=>?_) fun hc2 h=>?_
  ·refine gs<|g0 j j (q (oAsI j j)<|nl)<|us<|Go.ret (Unw.ret ?_)
   cases h
   exact fr rF175 j
  ·refine Go.skip<|us<|gs<|g0 j j (q (oAsI j j)<|nl)<|us<|Go.ret (Unw.ret ?_)
   cases h
   exact fr rF175 j
theorem L_spec_l00Min {a_0:Int} {b_1:Int} {r:Int} (h:spec_l00Min a_0 b_1=some r):FX 160 [.im 2 false [I a_0],.im 2 false [I b_1]] (B0 [(false,[.im 0 (I r)])]):=by
 unfold spec_l00Min at h
 refine gn 10 Try.func160 rfl ?_
 refine gs<|g0 j j (q (oAsI j j)<|nl)<|us<|gs<|gs<|g0 j j (q (oMv j j)<|q (oMv j j)<|q (oBi j j j j)<|nl)<|us<|gc h j iDec (fun hc1 h=>?_) fun hc1 h=>?_
 ·refine gs<|g0 j j (q (oMv j j)<|q (oAsI j j)<|nl)<|us<|Go.ret (Unw.ret ?_)
  cases h
  exact fr rF160 j
 ·refine Go.skip<|us<|gs<|g0 j j (q (oMv j j)<|q (oAsI j j)<|nl)<|us<|Go.ret (Unw.ret ?_)
  cases h
  exact fr rF160 j
theorem L_spec_l00Max {a_0:Int} {b_1:Int} {r:Int} (h:spec_l00Max a_0 b_1=some r):FX 161 [.im 2 false [I a_0],.im 2 false [I b_1]] (B0 [(false,[.im 0 (I r)])]):=by
 unfold spec_l00Max at h
 refine gn 10 Try.func161 rfl ?_
 refine gs<|g0 j j (q (oAsI j j)<|nl)<|us<|gs<|gs<|g0 j j (q (oMv j j)<|q (oMv j j)<|q (oBi j j j j)<|nl)<|us<|gc h j iDec (fun hc1 h=>?_) fun hc1 h=>?_
 ·refine gs<|g0 j j (q (oMv j j)<|q (oAsI j j)<|nl)<|us<|Go.ret (Unw.ret ?_)
  cases h
  exact fr rF161 j
 ·refine Go.skip<|us<|gs<|g0 j j (q (oMv j j)<|q (oAsI j j)<|nl)<|us<|Go.ret (Unw.ret ?_)
  cases h
  exact fr rF161 j
theorem L_spec_l02On {a_0:S_Point} {b_1:S_Point} {p_2:S_Point} {r:Bool} (h:spec_l02On a_0 b_1 p_2=some r):FX 145 [.im 2 true (u_S_Point a_0),.im 2 true (u_S_Point b_1),.im 2 true (u_S_Point p_2)] (B0 [(false,[.im 0 (V r)])]):=by
 unfold spec_l02On at h
 refine gn 42 Try.func145 rfl ?_
 refine gs<|g0 j j (q (oBx j tF155 j (tkI (tkI tk0)))<|q (oBx j tF155 j (tkI (tkI tk0)))<|q (oBx j tF155 j (tkI (tkI tk0)))<|q (oAsI j j)<|nl)<|us<|gs<|?_
 obtain ⟨x10,hx10,h⟩:=bs h
 obtain ⟨t_6_m1,hm3,h⟩:=bs h
 refine gd c145 j j j j (mk [(6,bv t_6_m1)] []) ?_ ?_
 ·refine t j j (oLd (cs:=[.im 0 _,.im 0 _]) j tF155 j j)<|t j j (oLd (cs:=[.im 0 _,.im 0 _]) j tF155 j j)<|?_
  refine ic hm3 (fun hc1 hm3=>?_) fun hc1 hm3=>?_
  ·obtain ⟨x19,hx19,hm3⟩:=bs hm3
   obtain ⟨x24,hx24,hm3⟩:=bs hm3
   obtain ⟨x25,hx25,hm3⟩:=bs hm3
   refine ic hm3 (fun hc2 hm3=>?_) fun hc2 hm3=>?_
   ·obtain ⟨x34,hx34,hm3⟩:=bs hm3
    obtain ⟨x39,hx39,hm3⟩:=bs hm3
    obtain ⟨x40,hx40,hm3⟩:=bs hm3
    cases hm3
    exact t j j (oLd (cs:=[.im 0 _,.im 0 _]) j tF155 j j)<|sS (dN z145 j (oCa (xs:=[.v true [.im 0 _,.im 0 _],.v true [.im 0 _,.im 0 _],.v true [.im 0 _,.im 0 _]]) (vs:=[(false,[.im 0 _])]) (v:=.v false [.im 0 _]) (L_spec_l02Side hx10) (.inl j) j kF175_155_155_155 j (ppC j (ppC j (ppC j pp0))) j j pb0 j j j)) trivial (t j j (oBi j j j j)<|t j j (oMv j j)<|tT j j j j (iEq.2 hc1) (oFA (r':=.mp 5 0 0) j fF155_0 j j)<|tT j j j j (iEq.2 hc1) (oLd (cs:=[.im 0 _]) j tF2 j j)<|tT j j j j (iEq.2 hc1) (oFA (r':=.mp 3 0 0) j fF155_0 j j)<|tT j j j j (iEq.2 hc1) (oLd (cs:=[.im 0 _]) j tF2 j j)<|tT j j j j (iEq.2 hc1) (oFA (r':=.mp 4 0 0) j fF155_0 j j)<|tT j j j j (iEq.2 hc1) (oLd (cs:=[.im 0 _]) j tF2 j j)<|tT j j j j (iEq.2 hc1) (oFA (r':=.mp 3 0 0) j fF155_0 j j)<|tT j j j j (iEq.2 hc1) (oLd (cs:=[.im 0 _]) j tF2 j j)<|tT j j j j (iEq.2 hc1) (oFA (r':=.mp 4 0 0) j fF155_0 j j)<|tT j j j j (iEq.2 hc1) (oLd (cs:=[.im 0 _]) j tF2 j j)<|sS (dT z145 j j j (iEq.2 hc1) (oCa (xs:=[.v false [.im 0 _],.v false [.im 0 _]]) (vs:=[(false,[.im 0 _])]) (v:=.v false [.im 0 _]) (L_spec_l00Min hx19) (.inl j) j kF160_2_2 j (ppC j (ppC j pp0)) j j pb0 j j j)) trivial (sS (dT z145 j j j (iEq.2 hc1) (oCa (xs:=[.v false [.im 0 _],.v false [.im 0 _]]) (vs:=[(false,[.im 0 _])]) (v:=.v false [.im 0 _]) (L_spec_l00Max hx24) (.inl j) j kF161_2_2 j (ppC j (ppC j pp0)) j j pb0 j j j)) trivial (sS (dT z145 j j j (iEq.2 hc1) (oCa (xs:=[.v false [.im 0 _],.v false [.im 0 _],.v false [.im 0 _]]) (vs:=[(false,[.im 0 _])]) (v:=.v false [.im 0 _]) (L_spec_l00In hx25) (.inl j) j kF97_2_2_2 j (ppC j (ppC j (ppC j pp0))) j j pb0 j j j)) trivial (t j j (oPkT j j (iEq.2 hc1) j)<|t j j (oMv j j)<|tT j j j j (iR.2 hc2) (oFA (r':=.mp 5 0 1) j fF155_1 j j)<|tT j j j j (iR.2 hc2) (oLd (cs:=[.im 0 _]) j tF2 j j)<|tT j j j j (iR.2 hc2) (oFA (r':=.mp 3 0 1) j fF155_1 j j)<|tT j j j j (iR.2 hc2) (oLd (cs:=[.im 0 _]) j tF2 j j)<|tT j j j j (iR.2 hc2) (oFA (r':=.mp 4 0 1) j fF155_1 j j)<|tT j j j j (iR.2 hc2) (oLd (cs:=[.im 0 _]) j tF2 j j)<|tT j j j j (iR.2 hc2) (oFA (r':=.mp 3 0 1) j fF155_1 j j)<|tT j j j j (iR.2 hc2) (oLd (cs:=[.im 0 _]) j tF2 j j)<|tT j j j j (iR.2 hc2) (oFA (r':=.mp 4 0 1) j fF155_1 j j)<|tT j j j j (iR.2 hc2) (oLd (cs:=[.im 0 _]) j tF2 j j)<|sS (dT z145 j j j (iR.2 hc2) (oCa (xs:=[.v false [.im 0 _],.v false [.im 0 _]]) (vs:=[(false,[.im 0 _])]) (v:=.v false [.im 0 _]) (L_spec_l00Min hx34) (.inl j) j kF160_2_2 j (ppC j (ppC j pp0)) j j pb0 j j j)) trivial (sS (dT z145 j j j (iR.2 hc2) (oCa (xs:=[.v false [.im 0 _],.v false [.im 0 _]]) (vs:=[(false,[.im 0 _])]) (v:=.v false [.im 0 _]) (L_spec_l00Max hx39) (.inl j) j kF161_2_2 j (ppC j (ppC j pp0)) j j pb0 j j j)) trivial (sS (dT z145 j j j (iR.2 hc2) (oCa (xs:=[.v false [.im 0 _],.v false [.im 0 _],.v false [.im 0 _]]) (vs:=[(false,[.im 0 _])]) (v:=.v false [.im 0 _]) (L_spec_l00In hx40) (.inl j) j kF97_2_2_2 j (ppC j (ppC j (ppC j pp0))) j j pb0 j j j)) trivial (t j j (oPkT j j (iR.2 hc2) j)<|sS (dN z145 j (oAsI j j)) trivial (sD (by kernel_rfl)))))))))
   ·cases hm3
    exact t j j (oLd (cs:=[.im 0 _,.im 0 _]) j tF155 j j)<|sS (dN z145 j (oCa (xs:=[.v true [.im 0 _,.im 0 _],.v true [.im 0 _,.im 0 _],.v true [.im 0 _,.im 0 _]]) (vs:=[(false,[.im 0 _])]) (v:=.v false [.im 0 _]) (L_spec_l02Side hx10) (.inl j) j kF175_155_155_155 j (ppC j (ppC j (ppC j pp0))) j j pb0 j j j)) trivial (t j j (oBi j j j j)<|t j j (oMv j j)<|tT j j j j (iEq.2 hc1) (oFA (r':=.mp 5 0 0) j fF155_0 j j)<|tT j j j j (iEq.2 hc1) (oLd (cs:=[.im 0 _]) j tF2 j j)<|tT j j j j (iEq.2 hc1) (oFA (r':=.mp 3 0 0) j fF155_0 j j)<|tT j j j j (iEq.2 hc1) (oLd (cs:=[.im 0 _]) j tF2 j j)<|tT j j j j (iEq.2 hc1) (oFA (r':=.mp 4 0 0) j fF155_0 j j)<|tT j j j j (iEq.2 hc1) (oLd (cs:=[.im 0 _]) j tF2 j j)<|tT j j j j (iEq.2 hc1) (oFA (r':=.mp 3 0 0) j fF155_0 j j)<|tT j j j j (iEq.2 hc1) (oLd (cs:=[.im 0 _]) j tF2 j j)<|tT j j j j (iEq.2 hc1) (oFA (r':=.mp 4 0 0) j fF155_0 j j)<|tT j j j j (iEq.2 hc1) (oLd (cs:=[.im 0 _]) j tF2 j j)<|sS (dT z145 j j j (iEq.2 hc1) (oCa (xs:=[.v false [.im 0 _],.v false [.im 0 _]]) (vs:=[(false,[.im 0 _])]) (v:=.v false [.im 0 _]) (L_spec_l00Min hx19) (.inl j) j kF160_2_2 j (ppC j (ppC j pp0)) j j pb0 j j j)) trivial (sS (dT z145 j j j (iEq.2 hc1) (oCa (xs:=[.v false [.im 0 _],.v false [.im 0 _]]) (vs:=[(false,[.im 0 _])]) (v:=.v false [.im 0 _]) (L_spec_l00Max hx24) (.inl j) j kF161_2_2 j (ppC j (ppC j pp0)) j j pb0 j j j)) trivial (sS (dT z145 j j j (iEq.2 hc1) (oCa (xs:=[.v false [.im 0 _],.v false [.im 0 _],.v false [.im 0 _]]) (vs:=[(false,[.im 0 _])]) (v:=.v false [.im 0 _]) (L_spec_l00In hx25) (.inl j) j kF97_2_2_2 j (ppC j (ppC j (ppC j pp0))) j j pb0 j j j)) trivial (t j j (oPkT j j (iEq.2 hc1) j)<|t j j (oMv j j)<|tF j j j j (byF iR hc2) j<|tF j j j j (byF iR hc2) j<|tF j j j j (byF iR hc2) j<|tF j j j j (byF iR hc2) j<|tF j j j j (byF iR hc2) j<|tF j j j j (byF iR hc2) j<|tF j j j j (byF iR hc2) j<|tF j j j j (byF iR hc2) j<|tF j j j j (byF iR hc2) j<|tF j j j j (byF iR hc2) j<|sS (dF j j j (byF iR hc2) j) trivial (sS (dF j j j (byF iR hc2) j) trivial (sS (dF j j j (byF iR hc2) j) trivial (t j j (oPkF j j (byF iR hc2) j)<|sS (dN z145 j (oAsI j j)) trivial (sD (by kernel_rfl)))))))))
  ·cases hm3
   exact t j j (oLd (cs:=[.im 0 _,.im 0 _]) j tF155 j j)<|sS (dN z145 j (oCa (xs:=[.v true [.im 0 _,.im 0 _],.v true [.im 0 _,.im 0 _],.v true [.im 0 _,.im 0 _]]) (vs:=[(false,[.im 0 _])]) (v:=.v false [.im 0 _]) (L_spec_l02Side hx10) (.inl j) j kF175_155_155_155 j (ppC j (ppC j (ppC j pp0))) j j pb0 j j j)) trivial (t j j (oBi j j j j)<|t j j (oMv j j)<|tF j j j j (byF iEq hc1) j<|tF j j j j (byF iEq hc1) j<|tF j j j j (byF iEq hc1) j<|tF j j j j (byF iEq hc1) j<|tF j j j j (byF iEq hc1) j<|tF j j j j (byF iEq hc1) j<|tF j j j j (byF iEq hc1) j<|tF j j j j (byF iEq hc1) j<|tF j j j j (byF iEq hc1) j<|tF j j j j (byF iEq hc1) j<|sS (dF j j j (byF iEq hc1) j) trivial (sS (dF j j j (byF iEq hc1) j) trivial (sS (dF j j j (byF iEq hc1) j) trivial (t j j (oPkF j j (byF iEq hc1) j)<|t j j (oMv j j)<|tF j j j j j j<|tF j j j j j j<|tF j j j j j j<|tF j j j j j j<|tF j j j j j j<|tF j j j j j j<|tF j j j j j j<|tF j j j j j j<|tF j j j j j j<|tF j j j j j j<|sS (dF j j j j j) trivial (sS (dF j j j j j) trivial (sS (dF j j j j j) trivial (t j j (oPkF j j j j)<|sS (dN z145 j (oAsI j j)) trivial (sD (by kernel_rfl)))))))))
 ·refine us<|Go.ret (Unw.ret ?_)
  cases h
  exact fr rF145 j
theorem L_spec_l02Crosses {a_0:S_Point} {b_1:S_Point} {c_2:S_Point} {d_3:S_Point} {r:Bool} (h:spec_l02Crosses a_0 b_1 c_2 d_3=some r):FX 176 [.im 2 true (u_S_Point a_0),.im 2 true (u_S_Point b_1),.im 2 true (u_S_Point c_2),.im 2 true (u_S_Point d_3)] (B0 [(false,[.im 0 (V r)])]):=by
 unfold spec_l02Crosses at h
 refine gn 31 Try.func176 rfl ?_
 refine gs<|g0 j j (q (oBx j tF155 j (tkI (tkI tk0)))<|q (oBx j tF155 j (tkI (tkI tk0)))<|q (oBx j tF155 j (tkI (tkI tk0)))<|q (oBx j tF155 j (tkI (tkI tk0)))<|q (oAsI j j)<|nl)<|us<|gs<|?_
 obtain ⟨x12,hx12,h⟩:=bs h
 obtain ⟨x16,hx16,h⟩:=bs h
 obtain ⟨t_8_m1,hm2,h⟩:=bs h
 refine gd c176 j j j j (mk [(8,bv t_8_m1)] []) ?_ ?_
 ·refine t j j (oLd (cs:=[.im 0 _,.im 0 _]) j tF155 j j)<|t j j (oLd (cs:=[.im 0 _,.im 0 _]) j tF155 j j)<|t j j (oLd (cs:=[.im 0 _,.im 0 _]) j tF155 j j)<|t j j (oLd (cs:=[.im 0 _,.im 0 _]) j tF155 j j)<|t j j (oLd (cs:=[.im 0 _,.im 0 _]) j tF155 j j)<|?_
  refine ic hm2 (fun hc1 hm2=>?_) fun hc1 hm2=>?_
  ·obtain ⟨x23,hx23,hm2⟩:=bs hm2
   obtain ⟨x27,hx27,hm2⟩:=bs hm2
   cases hm2
   exact t j j (oLd (cs:=[.im 0 _,.im 0 _]) j tF155 j j)<|sS (dN z176 j (oCa (xs:=[.v true [.im 0 _,.im 0 _],.v true [.im 0 _,.im 0 _],.v true [.im 0 _,.im 0 _]]) (vs:=[(false,[.im 0 _])]) (v:=.v false [.im 0 _]) (L_spec_l02Side hx12) (.inl j) j kF175_155_155_155 j (ppC j (ppC j (ppC j pp0))) j j pb0 j j j)) trivial (sS (dN z176 j (oCa (xs:=[.v true [.im 0 _,.im 0 _],.v true [.im 0 _,.im 0 _],.v true [.im 0 _,.im 0 _]]) (vs:=[(false,[.im 0 _])]) (v:=.v false [.im 0 _]) (L_spec_l02Side hx16) (.inl j) j kF175_155_155_155 j (ppC j (ppC j (ppC j pp0))) j j pb0 j j j)) trivial (t j j (oBi j j j j)<|t j j (oBi j j j j)<|t j j (oMv j j)<|tT j j j j (iDec.2 hc1) (oLd (cs:=[.im 0 _,.im 0 _]) j tF155 j j)<|tT j j j j (iDec.2 hc1) (oLd (cs:=[.im 0 _,.im 0 _]) j tF155 j j)<|tT j j j j (iDec.2 hc1) (oLd (cs:=[.im 0 _,.im 0 _]) j tF155 j j)<|tT j j j j (iDec.2 hc1) (oLd (cs:=[.im 0 _,.im 0 _]) j tF155 j j)<|tT j j j j (iDec.2 hc1) (oLd (cs:=[.im 0 _,.im 0 _]) j tF155 j j)<|tT j j j j (iDec.2 hc1) (oLd (cs:=[.im 0 _,.im 0 _]) j tF155 j j)<|sS (dT z176 j j j (iDec.2 hc1) (oCa (xs:=[.v true [.im 0 _,.im 0 _],.v true [.im 0 _,.im 0 _],.v true [.im 0 _,.im 0 _]]) (vs:=[(false,[.im 0 _])]) (v:=.v false [.im 0 _]) (L_spec_l02Side hx23) (.inl j) j kF175_155_155_155 j (ppC j (ppC j (ppC j pp0))) j j pb0 j j j)) trivial (sS (dT z176 j j j (iDec.2 hc1) (oCa (xs:=[.v true [.im 0 _,.im 0 _],.v true [.im 0 _,.im 0 _],.v true [.im 0 _,.im 0 _]]) (vs:=[(false,[.im 0 _])]) (v:=.v false [.im 0 _]) (L_spec_l02Side hx27) (.inl j) j kF175_155_155_155 j (ppC j (ppC j (ppC j pp0))) j j pb0 j j j)) trivial (tT j j j j (iDec.2 hc1) (oBi j j j j)<|tT j j j j (iDec.2 hc1) (oBi j j j j)<|t j j (oPkT j j (iDec.2 hc1) j)<|sS (dN z176 j (oAsI j j)) trivial (sD (by kernel_rfl))))))
  ·cases hm2
   exact t j j (oLd (cs:=[.im 0 _,.im 0 _]) j tF155 j j)<|sS (dN z176 j (oCa (xs:=[.v true [.im 0 _,.im 0 _],.v true [.im 0 _,.im 0 _],.v true [.im 0 _,.im 0 _]]) (vs:=[(false,[.im 0 _])]) (v:=.v false [.im 0 _]) (L_spec_l02Side hx12) (.inl j) j kF175_155_155_155 j (ppC j (ppC j (ppC j pp0))) j j pb0 j j j)) trivial (sS (dN z176 j (oCa (xs:=[.v true [.im 0 _,.im 0 _],.v true [.im 0 _,.im 0 _],.v true [.im 0 _,.im 0 _]]) (vs:=[(false,[.im 0 _])]) (v:=.v false [.im 0 _]) (L_spec_l02Side hx16) (.inl j) j kF175_155_155_155 j (ppC j (ppC j (ppC j pp0))) j j pb0 j j j)) trivial (t j j (oBi j j j j)<|t j j (oBi j j j j)<|t j j (oMv j j)<|tF j j j j (byF iDec hc1) j<|tF j j j j (byF iDec hc1) j<|tF j j j j (byF iDec hc1) j<|tF j j j j (byF iDec hc1) j<|tF j j j j (byF iDec hc1) j<|tF j j j j (byF iDec hc1) j<|sS (dF j j j (byF iDec hc1) j) trivial (sS (dF j j j (byF iDec hc1) j) trivial (tF j j j j (byF iDec hc1) j<|tF j j j j (byF iDec hc1) j<|t j j (oPkF j j (byF iDec hc1) j)<|sS (dN z176 j (oAsI j j)) trivial (sD (by kernel_rfl))))))
 ·refine us<|Go.ret (Unw.ret ?_)
  cases h
  exact fr rF176 j
theorem L_spec_l03Meet {a_0:S_Point} {b_1:S_Point} {c_2:S_Point} {d_3:S_Point} {r:Bool} (h:spec_l03Meet a_0 b_1 c_2 d_3=some r):FX 146 [.im 2 true (u_S_Point a_0),.im 2 true (u_S_Point b_1),.im 2 true (u_S_Point c_2),.im 2 true (u_S_Point d_3)] (B0 [(false,[.im 0 (V r)])]):=by
 unfold spec_l03Meet at h
 refine gn 38 Try.func146 rfl ?_
 refine gs<|g0 j j (q (oBx j tF155 j (tkI (tkI tk0)))<|q (oBx j tF155 j (tkI (tkI tk0)))<|q (oBx j tF155 j (tkI (tkI tk0)))<|q (oBx j tF155 j (tkI (tkI tk0)))<|q (oAsI j j)<|nl)<|us<|gs<|?_
 obtain ⟨x13,hx13,h⟩:=bs h
 obtain ⟨t_8_m1,hm5,h⟩:=bs h
 refine gX c146 j j j (mk [(8,bv t_8_m1)] []) ?_ ?_
 ·refine xq (oLd (cs:=[.im 0 _,.im 0 _]) j tF155 j j)<|xq (oLd (cs:=[.im 0 _,.im 0 _]) j tF155 j j)<|xq (oLd (cs:=[.im 0 _,.im 0 _]) j tF155 j j)<|xq (oLd (cs:=[.im 0 _,.im 0 _]) j tF155 j j)<|xq (oCa (xs:=[.v true [.im 0 _,.im 0 _],.v true [.im 0 _,.im 0 _],.v true [.im 0 _,.im 0 _],.v true [.im 0 _,.im 0 _]]) (vs:=[(false,[.im 0 _])]) (v:=.v false [.im 0 _]) (L_spec_l02Crosses hx13) (.inl j) j kF176_155_155_155_155 j (ppC j (ppC j (ppC j (ppC j pp0)))) j j pb0 j j j)<|xq (oMv j j)<|?_
  refine ic hm5 (fun hc1 hm5=>?_) fun hc1 hm5=>?_
  ·cases hm5
   exact xsgF j j (iR.2 hc1) j<|xsgF j j (iR.2 hc1) j<|xsgF j j (iR.2 hc1) j<|xsgF j j (iR.2 hc1) j<|xq (oPkT j j (iR.2 hc1) j)<|xq (oMv j j)<|xsgF j j j j<|xsgF j j j j<|xsgF j j j j<|xsgF j j j j<|xq (oPkT j j j j)<|xq (oMv j j)<|xsgF j j j j<|xsgF j j j j<|xsgF j j j j<|xsgF j j j j<|xq (oPkT j j j j)<|xq (oMv j j)<|xsgF j j j j<|xsgF j j j j<|xsgF j j j j<|xsgF j j j j<|xq (oPkT j j j j)<|xq (oAsI j j)<|xn
  ·obtain ⟨x18,hx18,hm5⟩:=bs hm5
   refine xqT j j (byF iR hc1) (oLd (cs:=[.im 0 _,.im 0 _]) j tF155 j j)<|xqT j j (byF iR hc1) (oLd (cs:=[.im 0 _,.im 0 _]) j tF155 j j)<|xqT j j (byF iR hc1) (oLd (cs:=[.im 0 _,.im 0 _]) j tF155 j j)<|xqT j j (byF iR hc1) (oCa (xs:=[.v true [.im 0 _,.im 0 _],.v true [.im 0 _,.im 0 _],.v true [.im 0 _,.im 0 _]]) (vs:=[(false,[.im 0 _])]) (v:=.v false [.im 0 _]) (L_spec_l02On hx18) (.inl j) j kF145_155_155_155 j (ppC j (ppC j (ppC j pp0))) j j pb0 j j j)<|xq (oPkF j j (byF iR hc1) j)<|xq (oMv j j)<|?_
   refine ic hm5 (fun hc2 hm5=>?_) fun hc2 hm5=>?_
   ·cases hm5
    exact xsgF j j (iR.2 hc2) j<|xsgF j j (iR.2 hc2) j<|xsgF j j (iR.2 hc2) j<|xsgF j j (iR.2 hc2) j<|xq (oPkT j j (iR.2 hc2) j)<|xq (oMv j j)<|xsgF j j j j<|xsgF j j j j<|xsgF j j j j<|xsgF j j j j<|xq (oPkT j j j j)<|xq (oMv j j)<|xsgF j j j j<|xsgF j j j j<|xsgF j j j j<|xsgF j j j j<|xq (oPkT j j j j)<|xq (oAsI j j)<|xn
   ·obtain ⟨x24,hx24,hm5⟩:=bs hm5
    refine xqT j j (byF iR hc2) (oLd (cs:=[.im 0 _,.im 0 _]) j tF155 j j)<|xqT j j (byF iR hc2) (oLd (cs:=[.im 0 _,.im 0 _]) j tF155 j j)<|xqT j j (byF iR hc2) (oLd (cs:=[.im 0 _,.im 0 _]) j tF155 j j)<|xqT j j (byF iR hc2) (oCa (xs:=[.v true [.im 0 _,.im 0 _],.v true [.im 0 _,.im 0 _],.v true [.im 0 _,.im 0 _]]) (vs:=[(false,[.im 0 _])]) (v:=.v false [.im 0 _]) (L_spec_l02On hx24) (.inl j) j kF145_155_155_155 j (ppC j (ppC j (ppC j pp0))) j j pb0 j j j)<|xq (oPkF j j (byF iR hc2) j)<|xq (oMv j j)<|?_
    refine ic hm5 (fun hc3 hm5=>?_) fun hc3 hm5=>?_
    ·cases hm5
     exact xsgF j j (iR.2 hc3) j<|xsgF j j (iR.2 hc3) j<|xsgF j j (iR.2 hc3) j<|xsgF j j (iR.2 hc3) j<|xq (oPkT j j (iR.2 hc3) j)<|xq (oMv j j)<|xsgF j j j j<|xsgF j j j j<|xsgF j j j j<|xsgF j j j j<|xq (oPkT j j j j)<|xq (oAsI j j)<|xn
    ·obtain ⟨x30,hx30,hm5⟩:=bs hm5
     refine xqT j j (byF iR hc3) (oLd (cs:=[.im 0 _,.im 0 _]) j tF155 j j)<|xqT j j (byF iR hc3) (oLd (cs:=[.im 0 _,.im 0 _]) j tF155 j j)<|xqT j j (byF iR hc3) (oLd (cs:=[.im 0 _,.im 0 _]) j tF155 j j)<|xqT j j (byF iR hc3) (oCa (xs:=[.v true [.im 0 _,.im 0 _],.v true [.im 0 _,.im 0 _],.v true [.im 0 _,.im 0 _]]) (vs:=[(false,[.im 0 _])]) (v:=.v false [.im 0 _]) (L_spec_l02On hx30) (.inl j) j kF145_155_155_155 j (ppC j (ppC j (ppC j pp0))) j j pb0 j j j)<|xq (oPkF j j (byF iR hc3) j)<|xq (oMv j j)<|?_
     refine ic hm5 (fun hc4 hm5=>?_) fun hc4 hm5=>?_
     ·cases hm5
      exact xsgF j j (iR.2 hc4) j<|xsgF j j (iR.2 hc4) j<|xsgF j j (iR.2 hc4) j<|xsgF j j (iR.2 hc4) j<|xq (oPkT j j (iR.2 hc4) j)<|xq (oAsI j j)<|xn
     ·obtain ⟨x36,hx36,hm5⟩:=bs hm5
      cases hm5
      exact xqT j j (byF iR hc4) (oLd (cs:=[.im 0 _,.im 0 _]) j tF155 j j)<|xqT j j (byF iR hc4) (oLd (cs:=[.im 0 _,.im 0 _]) j tF155 j j)<|xqT j j (byF iR hc4) (oLd (cs:=[.im 0 _,.im 0 _]) j tF155 j j)<|xqT j j (byF iR hc4) (oCa (xs:=[.v true [.im 0 _,.im 0 _],.v true [.im 0 _,.im 0 _],.v true [.im 0 _,.im 0 _]]) (vs:=[(false,[.im 0 _])]) (v:=.v false [.im 0 _]) (L_spec_l02On hx36) (.inl j) j kF145_155_155_155 j (ppC j (ppC j (ppC j pp0))) j j pb0 j j j)<|xq (oPkF j j (byF iR hc4) j)<|xq (oAsI j j)<|xn
 ·refine us<|Go.ret (Unw.ret ?_)
  cases h
  exact fr rF146 j
theorem L_spec_l03Area {p_0:(List S_Point)} {r:Int} (h:spec_l03Area p_0=some r):FX 147 [.im 2 false [W 2 e_S_Point p_0]] (B0 [(false,[.im 0 (I r)])]):=by
 unfold spec_l03Area at h
 refine gn 40 Try.func147 rfl ?_
 refine gs<|g0 j j (q (oAsI j j)<|nl)<|us<|gs<|g0 j j (q (oAsI j j)<|nl)<|us<|gs<|gs<|g0 j j (q (oAsI j j)<|nl)<|us<|Go.block<|?_
 obtain ⟨o,hl,h⟩:=bs h
 refine gl c147 j _ (fun (s:(Int×Int))=>match s with | (sum_3_l3,i_4_l3)=>mk [(0,D 2 (W 2 e_S_Point p_0)),(3,iv sum_3_l3),(4,iv i_4_l3)] []) (fun (sum_3_e0_3:Int) (p:Ex×St)=>p.1= .exit 0∧p.2.norm ([3],[])=mk [(3,iv sum_3_e0_3)] []) hl (by kernel_rfl) ?_ ?_ ?_
 ·intro o p hp e
  exact nomatch (hp.1.symm.trans e)
 ·rintro ⟨sum_3_l3,i_4_l3⟩ o h
  unfold spec_l03Area_l3 at h
  dsimp only at h
  refine gs<|gs<|g0 j j (q (oMv j j)<|q (oMv j j)<|q (oLnI j j uF23 j)<|q (oBi j j j j)<|nl)<|us<|gc h j iDec (fun hc3 h=>?_) fun hc3 h=>?_
  ·refine Go.skip<|us<|gs<|Go.block<|gs<|?_
   obtain ⟨x17,hx17,h⟩:=bs h
   obtain ⟨x18,hx18,h⟩:=bs h
   refine g0 j j (q (oMv j j)<|q (oMv j j)<|q (oBi j j j j)<|q (oMv j j)<|q (oLnI j j uF23 j)<|q (oRem j hx17 j j)<|q (oIAI j hx18 sF23 j j)<|q (oLd (cs:=[.im 2 _,.im 2 _]) j tF155 j j)<|q (oAl j tF155 (tkI (tkI tk0)))<|q (oSt tF155 j j j (tkI (tkI tk0)) j j j)<|nl)<|us<|?_
   obtain ⟨x23,hx23,h⟩:=bs h
   obtain ⟨x31,hx31,h⟩:=bs h
   refine gd c147 j j j (st1:=mk [(0,D 2 (W 2 e_S_Point p_0)),(3,iv sum_3_l3),(4,iv i_4_l3),(5,M 5)] [(5,Oa (G 0 (u_S_Point x18)))]) (by kernel_rfl) (mk [(0,D 2 (W 2 e_S_Point p_0)),(3,iv (w64 (sum_3_l3+(w64 ((w64 (x23.X*x18.Y)) - (w64 (x31.Y*x18.X))))))),(4,iv i_4_l3)] []) (t j j (oMv j j)<|t j j (oMv j j)<|t j j (oMv j j)<|t j j (oIAI j hx23 sF23 j j)<|t j j (oFA (r':=.im 2 _) j fF155_0 j j)<|t j j (oLd (cs:=[.im 2 _]) j tF2 j j)<|t j j (oFA (r':=.mp 5 0 1) j fF155_1 j j)<|t j j (oLd (cs:=[.im 0 _]) j tF2 j j)<|t j j (oBi j j j j)<|t j j (oMv j j)<|t j j (oMv j j)<|t j j (oIAI j hx31 sF23 j j)<|t j j (oFA (r':=.im 2 _) j fF155_1 j j)<|t j j (oLd (cs:=[.im 2 _]) j tF2 j j)<|t j j (oFA (r':=.mp 5 0 0) j fF155_0 j j)<|t j j (oLd (cs:=[.im 0 _]) j tF2 j j)<|t j j (oBi j j j j)<|t j j (oBi j j j j)<|t j j (oBi j j j j)<|sS (dN z147 j (oAsI j j)) trivial (sD (by kernel_rfl)))<|Unw.blk<|us<|g0 j j (q (oMv j j)<|q (oBi j j j j)<|q (oAsI j j)<|nl)<|Unw.nil<|?_
   cases h
   exact ⟨j,(by kernel_rfl)⟩
  ·refine Go.exit<|ux<|Unw.nil<|?_
   cases h
   exact ⟨j,(by kernel_rfl)⟩
 ·rintro ⟨e,st⟩ hp
  obtain ⟨sum_3_e0_3,rfl⟩:∃y,y=o:=⟨o,rfl⟩
  obtain ⟨he,hst⟩:=hp
  obtain rfl:e= .exit 0:=he
  refine Unw.blkx<|us<|gs<|g2 c147 j j hst (q (oMv j j)<|q (oAsI j j)<|nl)<|us<|Go.ret (Unw.ret ?_)
  cases h
  exact fr rF147 j
end
end Go.Proofs.Ytfjmlccolihpmaa
