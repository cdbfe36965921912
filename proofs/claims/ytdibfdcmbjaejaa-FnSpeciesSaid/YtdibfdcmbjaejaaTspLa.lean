/- The machine answers, at each function of the program that is reached, what its plain function answers. Conditions: none. -/
import Derived.Test.YtdibfdcmbjaejaaProg
import Derived.KernelRfl
import Derived.Test.YtdibfdcmbjaejaaSimRs
import Derived.Test.YtdibfdcmbjaejaaSimRv
import Derived.Test.YtdibfdcmbjaejaaTspT
namespace Go.Proofs.Ytdibfdcmbjaejaa
open Go Go.Sim Go.Pw Go.Proofs
set_option linter.unusedVariables false
set_option linter.unusedSimpArgs false
set_option maxRecDepth 100000
set_option maxHeartbeats 4000000
noncomputable section
noncomputable abbrev bK (x:ae):List AV:=[I x.X,I x.Y]
noncomputable def af (x:ae):AV:= .agg (bK x)
noncomputable abbrev xm (x:aB):List AV:=[Y x.Name,W 1 eI x.Ring]
noncomputable def ah (x:aB):AV:= .agg (xm x)
noncomputable abbrev bz (x:aG):List AV:=[I x.Width,I x.Height,W 2 af x.aH,W 2 ah x.aA]
noncomputable abbrev nK (x:ak):List AV:=[Y x.rf,I x.iM,I x.dw]
noncomputable def az (x:ak):AV:= .agg (nK x)
noncomputable abbrev aJ (x:ai):List AV:=[W 1 (eK .u8) x.code,I x.at_,.sc (.int .u64 x.seed)]
noncomputable abbrev sU (x:bf):List AV:=[I x.e0,I x.e1]
noncomputable def bM (x:bf):AV:= .agg (sU x)
noncomputable def fc5:fA:={par:=[.cst false,.cst false],inn:=[(4,some ([1,5,6,7,8],[5,6])),(13,some ([14,15,16],[14,15]))],out:=[(1,some ([0,1,27],[])),(6,some ([1,5,6,7,9,10,11,12,13,57],[5,6,9,11])),(7,some ([4],[])),(8,some ([1,9,10,11,12,13,108],[9,11])),(10,some ([1,130],[])),(15,some ([4],[]))],bZ:=[],frz:=[],sch:=[],shut:=[]}
noncomputable def WB:fA:={par:=[.cst false],inn:=[],out:=[],bZ:=[],frz:=[],sch:=[],shut:=[]}
noncomputable def WC:fA:={par:=[.cst false],inn:=[(3,some ([2,6,7],[2,7,11])),(4,some ([2,6,7,8],[2,7,8,11])),(5,some ([2,6,7,8,9],[2,7,8,11]))],out:=[(5,some ([2,3,4,5],[2,3]))],bZ:=[],frz:=[],sch:=[(5,.first 1 [6,7,8] [0,2,3,4,5]<| .first 2 [7,8] [0,3,4,5,6]<| .first 3 [4,5,6,7,8] [0]<| .first 0 [5,6,7,8] [4]<| .fork 4 (.fork 5 (.fork 6 (.fork 7 (.fork 8 (.done) (.stop)) (.stop)) (.stop)) (.stop)) (.stop))],shut:=[]}
noncomputable def WE:fA:={par:=[.cst false,.cst false,.cst false,.cst false],inn:=[],out:=[],bZ:=[],frz:=[],sch:=[],shut:=[]}
noncomputable def WG:fA:={par:=[.cst false,.cst false,.cst false,.cst false],inn:=[(9,some ([1,2,12,13,14,15],[14,29])),(13,some ([],[]))],out:=[],bZ:=[(6,([1,2,12,13],[29]))],frz:=[],sch:=[],shut:=[]}
noncomputable def WH:fA:={par:=[.cst false,.cst false,.cst false,.cst false],inn:=[(9,some ([1,2,3,4],[4])),(18,some ([1,2,3,42,43,44],[])),(19,some ([],[]))],out:=[(1,some ([1,2,3,4,27],[4])),(15,some ([1,2,3,11,42,43,44,49,50,51,71],[]))],bZ:=[(4,([1,2,3,4,28,29,30],[4])),(10,([1,2,3,42,43,44],[])),(13,([1,2,3,11,42,43,44,49,50,51],[]))],frz:=[],sch:=[(15,.first 0 [5,6,14,16] (rg [1,5,7,14,15,16])<| .first 1 [3,4,5,6,14,16] [2,7,8,9,10,11,12,13,15]<| .first 2 [3,4,5,6,14,16] (rg [7,14,15,16])<| .first 3 [4,5,6,14,16] (rg [7,14,15,16])<| .first 4 [5,6,14,16] (rg [7,14,15,16])<| .first 5 [6,14,16] (rg [7,14,15,16])<| .first 6 [14,16] (rg [7,14,15,16])<| .first 7 [12,13,14,16] [8,9,10,11,15]<| .first 8 [10,11,12,13,14,16] [9,15]<| .first 9 [10,11,12,13,14,16] [15]<| .first 10 [11,12,13,14,16] [15]<| .first 11 [12,13,14,16] [15]<| .first 12 [13,14,16] [15]<| .first 13 [14,16] [15]<| .first 15 [16] [14]<| .fork 14 (.first 16 [] []<| .done) (.stop))],shut:=[]}
noncomputable def WI:fA:={par:=[.cst false],inn:=[(4,some ([0,3,4],[])),(7,some ([3],[]))],out:=[(5,some ([0,3,4,19],[]))],bZ:=[(3,([0,3,4],[]))],frz:=[],sch:=[(5,.first 0 [2,7,8] [1,3,4,5,6]<| .first 1 [2,7,8] [3,4,5,6]<| .first 3 [5,6,7,8] [2,4]<| .first 4 [5,6,7,8] [2]<| .first 5 [6,7,8] [2]<| .first 6 [7,8] [2]<| .fork 2 (.fork 7 (.first 8 [] []<| .done) (.stop)) (.stop))],shut:=[]}
noncomputable def WJ:fA:={par:=[.cst false],inn:=[(3,some ([2,5,6],[2,6,9])),(4,some ([2,5,6,7],[2,6,7,9]))],out:=[(4,some ([2,3,4],[2,3]))],bZ:=[],frz:=[],sch:=[(4,.first 1 [5,6] [0,2,3,4]<| .first 2 [3,4,5,6] [0]<| .first 0 [4,5,6] [3]<| .fork 3 (.fork 4 (.fork 5 (.fork 6 (.done) (.stop)) (.stop)) (.stop)) (.stop))],shut:=[]}
noncomputable def WL:fA:={par:=[.cst false,.cst false,.cst false],inn:=[(9,some ([1,10,11,12,13],[12,26])),(13,some ([],[]))],out:=[],bZ:=[(6,([1,10,11],[26]))],frz:=[],sch:=[],shut:=[]}
noncomputable def WM:fA:={par:=[.cst false],inn:=[],out:=[],bZ:=[],frz:=[],sch:=[],shut:=[]}
noncomputable def WN:fA:={par:=[.ptr [.imm,.imm,.imm]],inn:=[(2,some ([0,2,3],[0,2,3])),(3,some ([0,2,3],[0,2,3])),(4,some ([2,3],[0,2,3]))],out:=[],bZ:=[],frz:=[],sch:=[],shut:=[]}
noncomputable def WO:fA:={par:=[.cst false],inn:=[(6,some ([1,3,4,32,33,34],[1,4])),(9,some ([1],[1])),(12,some ([1,5,6,63,64,65],[1,6])),(18,some ([],[]))],out:=[(1,some ([1,30],[1])),(6,some ([1,32,33,34,60],[1])),(12,some ([1,6,63,64,65,89],[1,6])),(15,some ([1,63,64,65,104],[1]))],bZ:=[(4,([1,32,33,34],[1])),(10,([1,63,64,65],[1]))],frz:=[],sch:=[(6,.first 0 (rg [1,2,4,22]) [2,3]<| .first 1 (rg [4,22]) [2,3]<| .first 2 (rg [3,22]) []<| .first 3 (rg [4,22]) []<| .fork 4 (.first 5 (rg [6,22]) []<| .first 6 (rg [7,22]) []<| .first 7 (rg [8,9,11,22]) [9,10]<| .first 8 (rg [11,22]) [9,10]<| .first 9 (rg [10,22]) []<| .first 10 (rg [11,22]) []<| .fork 11 (.first 12 (rg [13,22]) []<| .first 13 (rg [14,22]) []<| .first 14 (rg [15,22]) []<| .first 15 [16,18,20,21] [17,19]<| .first 16 [18,20,21] [17,19]<| .first 17 [18,20,21] [19]<| .first 19 [20,21] [18]<| .fork 18 (.fork 20 (.first 21 [] []<| .done) (.stop)) (.stop)) (.stop)) (.stop)),(12,.first 0 (rg [1,20]) []<| .first 1 (rg [2,20]) []<| .fork 2 (.first 3 (rg [4,20]) []<| .first 4 (rg [5,20]) []<| .first 5 (rg [6,20]) []<| .first 6 (rg [7,20]) []<| .first 7 (rg [8,20]) []<| .first 8 [9,12,13,14,17,18,19] [10,11,15,16]<| .first 9 [12,13,14,17,18,19] [10,11,15,16]<| .first 10 [11,12,13,14,17,18,19] [15,16]<| .first 11 [12,13,14,17,18,19] [15,16]<| .first 12 [13,14,17,18,19] [15,16]<| .first 13 [14,17,18,19] [15,16]<| .first 14 [17,18,19] [15,16]<| .first 15 [16,17,18,19] []<| .first 16 [17,18,19] []<| .first 17 [18,19] []<| .first 18 [19] []<| .first 19 [] []<| .done) (.stop))],shut:=[]}
noncomputable def WQ:fA:={par:=[.cst false,.cst false],inn:=[],out:=[],bZ:=[],frz:=[],sch:=[],shut:=[]}
noncomputable def WR:fA:={par:=[.cst false],inn:=[(2,some ([1,3],[1,3])),(5,some ([3,5,11,12,13],[3,5])),(7,some ([3],[3])),(14,some ([3,6,7,8,28,29,33,34],[3,6,8])),(16,some ([3,6,7,28,29,33,34],[3,6])),(17,some ([3,6,28,29],[3,6])),(18,some ([6],[6]))],out:=[(5,some ([3,11,12,13],[3])),(14,some ([3,6,7,8,28,29,33,34,47],[3,6,8])),(15,some ([3,6,7,28,29,33,34],[3,6]))],bZ:=[(3,([3,11,12,13],[3])),(9,([3,6,28,29],[3,6])),(12,([3,6,7,28,29,33,34],[3,6]))],frz:=[2],sch:=[(5,.first 1 [2,3,4,5,6] [0]<| .first 2 [3,4,5,6] [0]<| .first 0 [5,6] [3,4]<| .fork 3 (.fork 4 (.fork 5 (.fork 6 (.done) (.stop)) (.stop)) (.stop)) (.stop)),(15,.first 0 [9,10] (rg [1,9])<| .first 1 [9,10] (rg [2,9])<| .first 2 [4,5,8,9,10] [3,6,7]<| .first 3 [4,5,8,9,10] [6,7]<| .first 6 [7,8,9,10] [4,5]<| .first 4 [5,8,9,10] [7]<| .first 5 [8,9,10] [7]<| .fork 7 (.fork 8 (.first 9 [10] []<| .fork 10 (.done) (.stop)) (.stop)) (.stop))],shut:=[]}
noncomputable def WS:fA:={par:=[.ptr [.imm,.imm,.imm]],inn:=[(2,some ([0,2,3],[0,2,3])),(4,some ([0,2,3,4,13],[0,2,3])),(20,some ([0,2,3],[0,2,3])),(21,some ([2,3,5],[0,2,3])),(23,some ([2,3,5,6],[0,2,3])),(25,some ([2,3,5,6],[0,2,3])),(29,some ([2,3],[0,2,3]))],out:=[(11,some ([2,3],[0,2,3])),(13,some ([2,3],[0,2,3])),(15,some ([2,3],[0,2,3])),(17,some ([2,3],[0,2,3])),(28,some ([2,3],[0,2,3]))],bZ:=[(22,([2,3,5,6],[0,2,3]))],frz:=[],sch:=[(11,.first 2 [4,10,11,12] [0,1,3,5,6,7,8,9]<| .first 3 [4,10,11,12] [0,1,5,6,7,8,9]<| .first 0 [1,10,11,12] [4,5,6,7,8,9]<| .first 1 [10,11,12] [4,5,6,7,8,9]<| .first 5 (rg [6,13]) [4]<| .first 6 (rg [7,13]) [4]<| .first 7 [8,9,10,11,12] [4]<| .first 8 [9,10,11,12] [4]<| .fork 4 (.fork 9 (.first 10 [11,12] []<| .first 11 [12] []<| .fork 12 (.done) (.stop)) (.stop)) (.fork 9 (.fork 4 (.first 10 [11,12] []<| .first 11 [12] []<| .fork 12 (.done) (.stop)) (.stop)) (.stop))),(13,.first 2 [4,6,7,8,9] [0,1,3,5]<| .first 3 [4,6,7,8,9] [0,1,5]<| .first 5 [6,7,8,9] [0,1,4]<| .first 0 [1,7,8,9] [4,6]<| .first 1 [7,8,9] [4,6]<| .fork 4 (.fork 6 (.first 7 [8,9] []<| .first 8 [9] []<| .fork 9 (.done) (.stop)) (.stop)) (.stop)),(15,.first 2 [4,10,11,12,13,14] [0,1,3,5,6,7,8,9]<| .first 3 [4,10,11,12,13,14] [0,1,5,6,7,8,9]<| .first 5 [10,11,12,13,14] [0,1,4,6,7,8,9]<| .first 0 [1,12,13,14] [4,6,7,8,9,10,11]<| .first 1 [12,13,14] [4,6,7,8,9,10,11]<| .first 6 (rg [7,15]) [4]<| .first 7 (rg [8,15]) [4]<| .first 8 (rg [9,15]) [4]<| .fork 4 (.fork 9 (.fork 10 (.fork 11 (.first 12 [13,14] []<| .first 13 [14] []<| .fork 14 (.done) (.stop)) (.stop)) (.stop)) (.stop)) (.fork 9 (.fork 4 (.fork 10 (.fork 11 (.first 12 [13,14] []<| .first 13 [14] []<| .fork 14 (.done) (.stop)) (.stop)) (.stop)) (.stop)) (.stop))),(17,.first 0 [1,6,7] [2,3,4,5]<| .first 1 [6,7] [2,3,4,5]<| .first 2 [3,4,5,6,7] []<| .first 3 [4,5,6,7] []<| .first 4 [5,6,7] []<| .first 5 [6,7] []<| .first 6 [7] []<| .fork 7 (.done) (.stop)),(28,.first 2 (rg [6,10,11,16]) [0,1,3,4,5,10]<| .first 3 (rg [4,10,11,16]) [0,1,10]<| .first 4 (rg [5,10,11,16]) [0,1,10]<| .first 5 (rg [6,10,11,16]) [0,1,10]<| .first 10 [11,12,13,14,15] [0,1,6,7,8,9]<| .first 0 [1,7,8,9,12,13,14,15] [6,11]<| .first 1 [7,8,9,12,13,14,15] [6,11]<| .fork 6 (.first 7 [8,9,12,13,14,15] [11]<| .first 8 [9,12,13,14,15] [11]<| .first 9 [12,13,14,15] [11]<| .fork 11 (.first 12 [13,14,15] []<| .first 13 [14,15] []<| .first 14 [15] []<| .fork 15 (.done) (.stop)) (.stop)) (.stop))],shut:=[]}
noncomputable def WT:fA:={par:=[.ptr [.imm,.imm,.imm]],inn:=[(4,some ([0,3,4],[0,3])),(6,some ([0,3],[0,3])),(7,some ([0,3,20],[0,3])),(15,some ([3],[0,3]))],out:=[],bZ:=[(3,([0,3,4],[0,3])),(13,([0,3,5],[0,3]))],frz:=[],sch:=[],shut:=[]}
noncomputable def WU:fA:={par:=[.ptr [.imm,.imm,.imm]],inn:=[(2,some ([0],[0])),(3,some ([0],[0]))],out:=[],bZ:=[],frz:=[],sch:=[],shut:=[]}
noncomputable def WV:fA:={par:=[.ptr [.imm,.imm,.imm]],inn:=[(2,some ([0],[0])),(3,some ([0],[0]))],out:=[],bZ:=[],frz:=[],sch:=[],shut:=[]}
noncomputable def WW:fA:={par:=[.cst false,.cst false,.cst false,.cst false],inn:=[],out:=[(1,some ([1,2,3,9],[])),(3,some ([18],[]))],bZ:=[],frz:=[],sch:=[],shut:=[]}
noncomputable def WX:fA:={par:=[.ptr [.gone,.imm,.imm],.mv,.cst false,.cst false],inn:=[(6,some ([0,1,2,3,10,11],[0,1,11])),(17,some ([0,1,2,3,10,11,12,13,38,39],[0,1,11])),(21,some ([0,1,2,3,10,11,12,38,39],[0,1,11])),(22,some ([0,1,2,3,10,11,16,17,38,39],[0,1,11,16])),(24,some ([0,1,2,3,10,11,38,39],[0,1,11])),(25,some ([],[0]))],out:=[(10,some ([0,1,2,3,10,11,12,38,39,51],[0,1,11])),(15,some ([0,1,2,3,10,11,12,13,38,39,58,59,60],[0,1,11]))],bZ:=[(8,([0,1,2,3,10,11,38,39],[0,1,11])),(13,([0,1,2,3,10,11,12,13,38,39,58,59,60],[0,1,11]))],frz:=[],sch:=[(15,.first 0 (rg [1,29]) []<| .first 1 (rg [2,29]) []<| .first 2 (rg [4,29]) [3]<| .first 3 (rg [4,29]) []<| .first 4 (rg [5,29]) []<| .first 5 (rg [6,29]) []<| .first 6 [7,8,9,11,12,23,25,26,27,28] (rg [10,11,13,23,24,25])<| .first 7 [8,9,11,12,23,25,26,27,28] (rg [10,11,13,23,24,25])<| .first 8 [9,11,12,23,25,26,27,28] (rg [10,11,13,23,24,25])<| .first 9 [11,12,23,25,26,27,28] (rg [10,11,13,23,24,25])<| .first 10 [11,12,23,25,26,27,28] (rg [13,23,24,25])<| .first 11 [12,23,25,26,27,28] (rg [13,23,24,25])<| .first 12 [23,25,26,27,28] (rg [13,23,24,25])<| .first 13 (rg [14,17,21,24,25,29]) [17,18,19,20,24]<| .first 14 [15,16,21,22,23,25,26,27,28] [17,18,19,20,24]<| .first 15 [16,21,22,23,25,26,27,28] [17,18,19,20,24]<| .first 16 [21,22,23,25,26,27,28] [17,18,19,20,24]<| .first 17 (rg [19,24,25,29]) [18,24]<| .first 18 (rg [19,24,25,29]) [24]<| .first 19 (rg [20,24,25,29]) [24]<| .first 20 [21,22,23,25,26,27,28] [24]<| .first 21 [22,23,25,26,27,28] [24]<| .first 22 [23,25,26,27,28] [24]<| .first 24 [25,26,27,28] [23]<| .fork 23 (.first 25 [26,27,28] []<| .first 26 [27,28] []<| .first 27 [28] []<| .fork 28 (.done) (.stop)) (.stop))],shut:=[]}
noncomputable def WY:fA:={par:=[.cst false,.cst false,.cst false],inn:=[],out:=[(1,some ([6],[]))],bZ:=[],frz:=[],sch:=[],shut:=[]}
noncomputable def WZ:fA:={par:=[.cst false,.cst false],inn:=[],out:=[],bZ:=[],frz:=[],sch:=[],shut:=[]}
noncomputable def W9:fA:={par:=[.cst false,.cst false],inn:=[(6,some ([],[]))],out:=[],bZ:=[(2,([0,1,5],[]))],frz:=[],sch:=[],shut:=[]}
noncomputable def Xa:fA:={par:=[.ptr [.imm,.imm,.imm],.cst false],inn:=[],out:=[],bZ:=[],frz:=[],sch:=[],shut:=[]}
noncomputable def Xb:fA:={par:=[.ptr [.imm,.imm,.imm]],inn:=[(2,some ([0,2,3],[0,2])),(3,some ([0,2,3,4],[0,2])),(9,some ([0,2,3,4,5,6],[0,2,5,6])),(13,some ([2,3,4,5,6],[0,2,5,6])),(16,some ([2,3,4,5,6,9,10],[0,2,5,6,9])),(21,some ([2,3,4,9],[0,2,9])),(23,some ([2,3,4,9,12],[0,2,9])),(29,some ([2,9],[0,2,9]))],out:=[(8,some ([0,2,3,4,5,6,7],[0,2,5,6])),(12,some ([0,2,3,4,5,6,8],[0,2,5,6])),(13,some ([2,3,4,5,6,9],[0,2,5,6,9])),(20,some ([2,3,4,5,6,9,10,11],[0,2,5,6,9])),(28,some ([2,3,4,9,12,13],[0,2,9]))],bZ:=[(6,([0,2,3,4,5,6,7],[0,2,5,6])),(10,([0,2,3,4,5,6,8],[0,2,5,6])),(15,([2,3,4,5,6,9,10],[0,2,5,6,9])),(18,([2,3,4,5,6,9,10,11],[0,2,5,6,9])),(22,([2,3,4,9,12],[0,2,9])),(25,([2,3,4,9,12,13],[0,2,9]))],frz:=[],sch:=[(8,.first 0 [10,11] (rg [1,10])<| .first 1 [3,4,5,8,9,10,11] [2,6,7]<| .first 2 [3,4,5,8,9,10,11] [6,7]<| .first 6 [7,8,9,10,11] [3,4,5]<| .first 3 [4,5,8,9,10,11] [7]<| .first 4 [5,8,9,10,11] [7]<| .first 5 [8,9,10,11] [7]<| .fork 7 (.first 8 [9,10,11] []<| .fork 9 (.fork 10 (.fork 11 (.done) (.stop)) (.stop)) (.stop)) (.stop)),(12,.first 0 [10,11] (rg [1,10])<| .first 1 [3,4,5,8,9,10,11] [2,6,7]<| .first 2 [3,4,5,8,9,10,11] [6,7]<| .first 6 [7,8,9,10,11] [3,4,5]<| .first 3 [4,5,8,9,10,11] [7]<| .first 4 [5,8,9,10,11] [7]<| .first 5 [8,9,10,11] [7]<| .fork 7 (.first 8 [9,10,11] []<| .fork 9 (.fork 10 (.fork 11 (.done) (.stop)) (.stop)) (.stop)) (.stop)),(13,.first 0 [2,3,8,10] [1,4,5,6,7,9]<| .first 1 [2,3,8,10] [4,5,6,7,9]<| .first 2 [3,8,10] [4,5,6,7,9]<| .first 3 [8,10] [4,5,6,7,9]<| .first 4 [6,7,8,10] [5,9]<| .first 5 [6,7,8,10] [9]<| .first 6 [7,8,10] [9]<| .first 7 [8,10] [9]<| .fork 8 (.fork 9 (.fork 10 (.done) (.stop)) (.stop)) (.fork 9 (.fork 8 (.fork 10 (.done) (.stop)) (.stop)) (.stop))),(20,.first 2 [4,5,10,11,12,13,14] [0,1,3,6,7,8,9]<| .first 3 [4,5,10,11,12,13,14] [0,1,6,7,8,9]<| .first 4 [5,10,11,12,13,14] [0,1,6,7,8,9]<| .first 5 [10,11,12,13,14] [0,1,6,7,8,9]<| .first 6 (rg [8,15]) [0,1,7]<| .first 7 (rg [8,15]) [0,1]<| .first 8 (rg [9,15]) [0,1]<| .first 9 [10,11,12,13,14] [0,1]<| .first 0 [1,12,13,14] [10,11]<| .first 1 [12,13,14] [10,11]<| .fork 10 (.fork 11 (.fork 12 (.first 13 [14] []<| .fork 14 (.done) (.stop)) (.stop)) (.stop)) (.stop)),(28,.first 2 [3,4,6,7,20,21,22,23,24] (rg [0,2,5,6,8,20])<| .first 5 [6,7,20,21,22,23,24] (rg [0,2,3,5,8,20])<| .first 8 (rg [19,25]) (rg [0,2,3,5,6,8,9,19])<| .first 9 [10,19,20,21,22,23,24] (rg [0,2,3,5,6,8,11,19])<| .first 10 (rg [19,25]) (rg [0,2,3,5,6,8,11,19])<| .first 11 (rg [13,15,19,25]) [0,1,3,4,6,7,12,15,16,17,18]<| .first 12 (rg [13,15,19,25]) [0,1,3,4,6,7,15,16,17,18]<| .first 13 [14,19,20,21,22,23,24] [0,1,3,4,6,7,15,16,17,18]<| .first 14 (rg [19,25]) [0,1,3,4,6,7,15,16,17,18]<| .first 15 (rg [17,25]) [0,1,3,4,6,7,16]<| .first 16 (rg [17,25]) [0,1,3,4,6,7]<| .first 17 (rg [18,25]) [0,1,3,4,6,7]<| .first 18 (rg [19,25]) [0,1,3,4,6,7]<| .first 0 [1,22,23,24] [3,4,6,7,19,20,21]<| .first 1 [22,23,24] [3,4,6,7,19,20,21]<| .fork 3 (.first 4 [7,20,21,22,23,24] [6,19]<| .fork 6 (.first 7 [20,21,22,23,24] [19]<| .fork 19 (.fork 20 (.fork 21 (.fork 22 (.first 23 [24] []<| .fork 24 (.done) (.stop)) (.stop)) (.stop)) (.stop)) (.stop)) (.fork 19 (.fork 6 (.first 7 [20,21,22,23,24] []<| .fork 20 (.fork 21 (.fork 22 (.first 23 [24] []<| .fork 24 (.done) (.stop)) (.stop)) (.stop)) (.stop)) (.stop)) (.stop))) (.fork 19 (.fork 3 (.first 4 [7,20,21,22,23,24] [6]<| .fork 6 (.first 7 [20,21,22,23,24] []<| .fork 20 (.fork 21 (.fork 22 (.first 23 [24] []<| .fork 24 (.done) (.stop)) (.stop)) (.stop)) (.stop)) (.stop)) (.stop)) (.stop)))],shut:=[]}
noncomputable def Xc:fA:={par:=[.ptr [.imm,.imm,.imm],.mvs],inn:=[(2,some ([0,3,4,5],[0,3,4,5])),(4,some ([0,3,4,5,6],[0,3,4,5])),(6,some ([0,3,4,5,6,7],[0,3,4,5,7])),(10,some ([4,5],[0,4,5]))],out:=[(6,some ([0,3,4,5,6,7,34],[0,3,4,5,7])),(7,some ([0,3,4,5,6,7],[0,3,4,5,7])),(8,some ([0,3,4,5,6],[0,3,4,5]))],bZ:=[(3,([0,3,4,5,6],[0,3,4,5]))],frz:=[],sch:=[(7,.first 4 (rg [5,8,16,22]) (rg [0,4,8,16])<| .first 5 (rg [6,8,16,22]) (rg [0,4,8,16])<| .first 6 (rg [7,8,16,22]) (rg [0,4,8,16])<| .first 7 (rg [16,22]) (rg [0,4,8,16])<| .first 8 (rg [9,12,16,22]) (rg [0,4,12,16])<| .first 9 (rg [10,12,16,22]) (rg [0,4,12,16])<| .first 10 [11,16,17,18,19,20,21] (rg [0,4,12,16])<| .first 11 (rg [16,22]) (rg [0,4,12,16])<| .first 12 (rg [13,22]) [0,1,2,3]<| .first 13 (rg [14,22]) [0,1,2,3]<| .first 14 (rg [15,22]) [0,1,2,3]<| .first 15 (rg [16,22]) [0,1,2,3]<| .first 0 [1,19,20,21] [2,3,16,17,18]<| .first 1 [19,20,21] [2,3,16,17,18]<| .first 2 [3,17,18,19,20,21] [16]<| .first 3 [17,18,19,20,21] [16]<| .fork 16 (.fork 17 (.fork 18 (.fork 19 (.first 20 [21] []<| .fork 21 (.done) (.stop)) (.stop)) (.stop)) (.stop)) (.stop)),(8,.first 5 (rg [6,9,17,23]) (rg [0,5,9,17])<| .first 6 (rg [7,9,17,23]) (rg [0,5,9,17])<| .first 7 (rg [8,9,17,23]) (rg [0,5,9,17])<| .first 8 (rg [17,23]) (rg [0,5,9,17])<| .first 9 (rg [10,13,17,23]) (rg [0,5,13,17])<| .first 10 (rg [11,13,17,23]) (rg [0,5,13,17])<| .first 11 [12,17,18,19,20,21,22] (rg [0,5,13,17])<| .first 12 (rg [17,23]) (rg [0,5,13,17])<| .first 13 (rg [14,23]) [0,1,2,3,4]<| .first 14 (rg [15,23]) [0,1,2,3,4]<| .first 15 (rg [16,23]) [0,1,2,3,4]<| .first 16 (rg [17,23]) [0,1,2,3,4]<| .first 0 [1,20,21,22] [2,3,4,17,18,19]<| .first 1 [20,21,22] [2,3,4,17,18,19]<| .first 2 [3,4,18,19,20,21,22] [17]<| .first 3 [4,18,19,20,21,22] [17]<| .first 4 [18,19,20,21,22] [17]<| .fork 17 (.fork 18 (.fork 19 (.fork 20 (.first 21 [22] []<| .fork 22 (.done) (.stop)) (.stop)) (.stop)) (.stop)) (.stop))],shut:=[]}
noncomputable def Xd:fA:={par:=[.cst false,.cst false],inn:=[],out:=[],bZ:=[],frz:=[],sch:=[],shut:=[]}
noncomputable def Xe:fA:={par:=[.cst false],inn:=[(8,some ([],[]))],out:=[(1,some ([0,21],[])),(6,some ([0,3,49],[]))],bZ:=[(4,([0,3],[]))],frz:=[],sch:=[],shut:=[]}
noncomputable def Xf:fA:={par:=[.cst false,.cst false],inn:=[(9,some ([6],[6]))],out:=[],bZ:=[(3,([0,6,10,11,12],[6]))],frz:=[],sch:=[],shut:=[]}
noncomputable def Xg:fA:={par:=[.cst false],inn:=[(15,some ([0,3,23,24],[])),(16,some ([0],[]))],out:=[(2,some ([0,3,21],[])),(7,some ([0,3,4,5,6,7,23,24],[5,6,7])),(8,some ([0,3,4,5,6,23,24,59],[5,6])),(13,some ([0,3,4,5,6,8,23,24,88],[5,6]))],bZ:=[(5,([0,3,23,24],[])),(11,([0,3,4,5,6,8,23,24],[5,6]))],frz:=[],sch:=[(7,.first 0 [2,3,21,22,23] (rg [1,2,4,21])<| .first 1 [2,3,21,22,23] (rg [4,21])<| .first 2 [3,21,22,23] (rg [4,21])<| .first 3 [21,22,23] (rg [4,21])<| .first 4 [9,10,22,23] (rg [5,9,11,22])<| .first 5 [6,8,9,10,22,23] (rg [7,8,11,22])<| .first 6 [8,9,10,22,23] (rg [7,8,11,22])<| .first 7 [8,9,10,22,23] (rg [11,22])<| .first 8 [9,10,22,23] (rg [11,22])<| .first 9 [10,22,23] (rg [11,22])<| .first 10 [22,23] (rg [11,22])<| .first 11 [16,17,23] (rg [12,16,18,23])<| .first 12 [13,15,16,17,23] [14,18,19,20,21,22]<| .first 13 [15,16,17,23] [14,18,19,20,21,22]<| .first 14 [15,16,17,23] [18,19,20,21,22]<| .first 15 [16,17,23] [18,19,20,21,22]<| .first 16 [17,23] [18,19,20,21,22]<| .first 17 [23] [18,19,20,21,22]<| .fork 18 (.fork 19 (.fork 20 (.fork 21 (.fork 22 (.fork 23 (.done) (.stop)) (.stop)) (.stop)) (.stop)) (.fork 20 (.fork 19 (.fork 21 (.fork 22 (.fork 23 (.done) (.stop)) (.stop)) (.stop)) (.stop)) (.stop))) (.fork 19 (.fork 18 (.fork 20 (.fork 21 (.fork 22 (.fork 23 (.done) (.stop)) (.stop)) (.stop)) (.stop)) (.fork 20 (.fork 18 (.fork 21 (.fork 22 (.fork 23 (.done) (.stop)) (.stop)) (.stop)) (.stop)) (.stop))) (.fork 20 (.fork 18 (.fork 19 (.fork 21 (.fork 22 (.fork 23 (.done) (.stop)) (.stop)) (.stop)) (.stop)) (.fork 19 (.fork 18 (.fork 21 (.fork 22 (.fork 23 (.done) (.stop)) (.stop)) (.stop)) (.stop)) (.stop))) (.stop)))),(13,.first 0 (rg [1,2,3,4,5,22]) [2,4]<| .first 1 (rg [3,4,5,22]) [2,4]<| .first 2 (rg [3,4,5,22]) [4]<| .first 3 (rg [5,22]) [4]<| .first 4 (rg [5,22]) []<| .first 5 (rg [6,22]) []<| .first 6 (rg [7,22]) []<| .first 7 [20,21] (rg [8,20])<| .first 8 [20,21] (rg [9,20])<| .first 9 [11,12,20,21] (rg [10,11,13,20])<| .first 10 [11,12,20,21] (rg [13,20])<| .first 11 [12,20,21] (rg [13,20])<| .first 12 [20,21] (rg [13,20])<| .first 13 [18,19,20,21] [14,15,16,17]<| .first 14 [15,17,18,19,20,21] [16]<| .first 15 [17,18,19,20,21] [16]<| .first 16 [17,18,19,20,21] []<| .first 17 [18,19,20,21] []<| .first 18 [19,20,21] []<| .first 19 [20,21] []<| .fork 20 (.first 21 [] []<| .done) (.stop))],shut:=[]}
noncomputable def Xh:fA:={par:=[.cst false,.cst false],inn:=[(7,some ([],[]))],out:=[],bZ:=[(2,([0,1,7,8],[]))],frz:=[],sch:=[],shut:=[]}
noncomputable def Xi:fA:={par:=[.cst false],inn:=[(8,some ([3],[3]))],out:=[],bZ:=[(3,([0,3,8,9,10],[3]))],frz:=[],sch:=[],shut:=[]}
noncomputable def P8:fA:={par:=[.cst false,.cst false],inn:=[],out:=[],bZ:=[],frz:=[],sch:=[],shut:=[]}
noncomputable def P9:fA:={par:=[.cst false],inn:=[],out:=[(1,some ([4],[]))],bZ:=[],frz:=[],sch:=[(1,.first 0 [2,3,5,6] [1,4]<| .first 1 [2,3,5,6] [4]<| .first 2 [3,5,6] [4]<| .first 3 [5,6] [4]<| .first 4 [5,6] []<| .fork 5 (.fork 6 (.done) (.stop)) (.stop))],shut:=[]}
noncomputable def Qa:fA:={par:=[.cst false,.cst false],inn:=[],out:=[],bZ:=[],frz:=[],sch:=[],shut:=[]}
noncomputable def Qb:fA:={par:=[.ptr [.imm,.imm,.imm],.cst false],inn:=[(4,some ([0,1,5],[0])),(6,some ([1,5],[0]))],out:=[],bZ:=[],frz:=[],sch:=[],shut:=[]}
noncomputable def Qc:fA:={par:=[.ptr [.imm,.imm,.imm]],inn:=[(2,some ([0,2,3],[0,2])),(5,some ([0,2,5,6],[0,2,5])),(6,some ([2,5],[0,2,5]))],out:=[(2,some ([0,2,3,4],[0,2])),(3,some ([0,2,5],[0,2,5]))],bZ:=[],frz:=[],sch:=[(2,.first 1 [2,3,4,5,8,9,10] [0,6,7]<| .first 6 [7,8,9,10] [0,2,3,4,5]<| .fork 0 (.first 2 [3,4,5,8,9,10] [7]<| .first 3 [4,5,8,9,10] [7]<| .first 4 [5,8,9,10] [7]<| .first 5 [8,9,10] [7]<| .fork 7 (.first 8 [9,10] []<| .first 9 [10] []<| .fork 10 (.done) (.stop)) (.stop)) (.stop)),(3,.first 1 [2,3,7,9] [0,4,5,6,8]<| .first 4 [5,6,7,9] [0,2,3,8]<| .fork 0 (.first 2 [3,7,9] [5,6,8]<| .first 3 [7,9] [5,6,8]<| .fork 5 (.fork 6 (.fork 7 (.fork 8 (.fork 9 (.done) (.stop)) (.stop)) (.fork 8 (.fork 7 (.fork 9 (.done) (.stop)) (.stop)) (.stop))) (.fork 8 (.fork 6 (.fork 7 (.fork 9 (.done) (.stop)) (.stop)) (.stop)) (.stop))) (.fork 8 (.fork 5 (.fork 6 (.fork 7 (.fork 9 (.done) (.stop)) (.stop)) (.stop)) (.stop)) (.stop))) (.fork 8 (.fork 0 (.first 2 [3,7,9] [5,6]<| .first 3 [7,9] [5,6]<| .fork 5 (.fork 6 (.fork 7 (.fork 9 (.done) (.stop)) (.stop)) (.stop)) (.stop)) (.stop)) (.stop)))],shut:=[]}
noncomputable def Qd:fA:={par:=[.ptr [.imm,.imm,.imm],.cst false],inn:=[],out:=[],bZ:=[],frz:=[],sch:=[],shut:=[]}
noncomputable def Qe:fA:={par:=[.ptr [.imm,.imm,.imm]],inn:=[],out:=[],bZ:=[],frz:=[],sch:=[],shut:=[]}
noncomputable def Qg:fA:={par:=[.ptr [.imm,.imm,.imm]],inn:=[(2,some ([0,2,3],[0,2,3])),(3,some ([0,2,3,7],[0,2,3])),(9,some ([2,3],[0,2,3]))],out:=[],bZ:=[],frz:=[],sch:=[],shut:=[]}
noncomputable def Qh:fA:={par:=[.cst false],inn:=[],out:=[],bZ:=[],frz:=[],sch:=[],shut:=[]}
noncomputable def Qi:fA:={par:=[.cst false,.cst false],inn:=[],out:=[(1,some ([0,1,14],[]))],bZ:=[],frz:=[],sch:=[],shut:=[]}
noncomputable def Qj:fA:={par:=[.cst false],inn:=[],out:=[(2,some ([2],[]))],bZ:=[],frz:=[],sch:=[],shut:=[]}
noncomputable def Qk:fA:={par:=[],inn:=[],out:=[],bZ:=[],frz:=[],sch:=[],shut:=[]}
noncomputable def Ql:fA:={par:=[.cst false,.cst false],inn:=[],out:=[],bZ:=[],frz:=[],sch:=[],shut:=[]}
noncomputable def Qm:fA:={par:=[.cst false],inn:=[(10,some ([0,3,4,5],[3])),(11,some ([0,3],[3])),(13,some ([3],[3])),(18,some ([6],[6]))],out:=[],bZ:=[(5,([0,3,4],[3])),(15,([3,6,7],[3,6]))],frz:=[],sch:=[],shut:=[]}
noncomputable def Qn:fA:={par:=[.cst false,.cst false],inn:=[(7,some ([],[]))],out:=[(4,some ([0,3,5,7,8,16],[3]))],bZ:=[(2,([0,3,7,8],[3]))],frz:=[],sch:=[(4,.first 0 [5] [1,2,3,4]<| .first 1 [3,4,5] [2]<| .first 2 [3,4,5] []<| .first 3 [4,5] []<| .first 4 [5] []<| .first 5 [] []<| .done)],shut:=[]}
noncomputable def Qo:fA:={par:=[.cst false],inn:=[(4,some ([4,5,6,7],[4])),(7,some ([],[]))],out:=[],bZ:=[(2,([5,6,7],[]))],frz:=[],sch:=[],shut:=[]}
noncomputable def Qp:fA:={par:=[.cst false,.cst false,.cst false],inn:=[],out:=[(1,some ([6],[]))],bZ:=[],frz:=[],sch:=[],shut:=[]}
noncomputable def Qq:fA:={par:=[.cst false,.cst false,.cst false,.cst false],inn:=[],out:=[(1,some ([8],[]))],bZ:=[],frz:=[],sch:=[],shut:=[]}
noncomputable def Qr:fA:={par:=[.cst false],inn:=[(5,some ([0,3,4,5,7,8,9],[5])),(6,some ([0,3,5,6,7,8,9],[5,6])),(8,some ([3],[]))],out:=[],bZ:=[(3,([0,3,7,8,9],[]))],frz:=[],sch:=[],shut:=[]}
noncomputable def Qs:fA:={par:=[.cst false,.cst false],inn:=[(7,some ([],[]))],out:=[],bZ:=[(2,([0,1,7,8],[]))],frz:=[],sch:=[],shut:=[]}
noncomputable def Qu:fA:={par:=[.cst false,.cst false],inn:=[(7,some ([],[]))],out:=[(4,some ([0,3,5,7,8,16],[3]))],bZ:=[(2,([0,3,7,8],[3]))],frz:=[],sch:=[(4,.first 0 [5] [1,2,3,4]<| .first 1 [3,4,5] [2]<| .first 2 [3,4,5] []<| .first 3 [4,5] []<| .first 4 [5] []<| .first 5 [] []<| .done)],shut:=[]}
noncomputable def Qv:fA:={par:=[.ptr [.imm,.imm,.imm]],inn:=[(4,some ([0,3],[0])),(5,some ([0,3],[0])),(6,some ([0,3],[0]))],out:=[(2,some ([0,3,13],[0])),(3,some ([0,3],[0])),(6,some ([0,3,53],[0]))],bZ:=[],frz:=[],sch:=[(2,.first 0 [1,2,3,9] [4,5,6,7,8]<| .first 1 [2,3,9] [4,5,6,7,8]<| .first 2 [3,9] [4,5,6,7,8]<| .first 3 [9] [4,5,6,7,8]<| .first 4 [5,6,7,8,9] []<| .first 5 [6,7,8,9] []<| .first 6 [7,8,9] []<| .first 7 [8,9] []<| .first 8 [9] []<| .first 9 [] []<| .done),(3,.first 0 [1,2,3,8,9,10,11] [4,5,6,7]<| .first 1 [2,3,8,9,10,11] [4,5,6,7]<| .first 2 [3,8,9,10,11] [4,5,6,7]<| .first 3 [8,9,10,11] [4,5,6,7]<| .first 4 (rg [5,12]) []<| .first 5 [6,7,8,9,10,11] []<| .first 6 [7,8,9,10,11] []<| .first 7 [8,9,10,11] []<| .first 8 [9,10,11] []<| .first 9 [10,11] []<| .fork 10 (.fork 11 (.done) (.stop)) (.stop)),(6,.first 0 [1,2,3,9] [4,5,6,7,8]<| .first 1 [2,3,9] [4,5,6,7,8]<| .first 2 [3,9] [4,5,6,7,8]<| .first 3 [9] [4,5,6,7,8]<| .first 4 [5,6,7,8,9] []<| .first 5 [6,7,8,9] []<| .first 6 [7,8,9] []<| .first 7 [8,9] []<| .first 8 [9] []<| .first 9 [] []<| .done)],shut:=[]}
noncomputable def Qw:fA:={par:=[],inn:=[],out:=[],bZ:=[],frz:=[],sch:=[],shut:=[]}
noncomputable def Qx:fA:={par:=[.cst false,.cst false],inn:=[],out:=[],bZ:=[],frz:=[],sch:=[],shut:=[]}
noncomputable def Qy:fA:={par:=[.ptr [.imm,.imm,.imm],.cst false],inn:=[],out:=[],bZ:=[],frz:=[],sch:=[],shut:=[]}
noncomputable def Qz:fA:={par:=[.cst false,.cst false],inn:=[],out:=[],bZ:=[],frz:=[],sch:=[],shut:=[]}
noncomputable def QA:fA:={par:=[.cst false],inn:=[],out:=[],bZ:=[],frz:=[],sch:=[],shut:=[]}
noncomputable def QB:fA:={par:=[.cst false],inn:=[],out:=[],bZ:=[],frz:=[],sch:=[],shut:=[]}
noncomputable def QC:fA:={par:=[.cst false],inn:=[],out:=[(1,some ([2],[]))],bZ:=[],frz:=[],sch:=[],shut:=[]}
noncomputable def QD:fA:={par:=[.cst false,.cst false,.cst false],inn:=[],out:=[],bZ:=[],frz:=[],sch:=[],shut:=[]}
noncomputable def QE:fA:={par:=[.cst false,.cst false,.cst false,.cst false],inn:=[],out:=[(1,some ([8],[]))],bZ:=[],frz:=[],sch:=[(1,.first 0 (rg [3,4,7,23]) [1,2,4,5,6]<| .first 1 (rg [3,4,7,23]) [2,4,5,6]<| .first 2 (rg [3,4,7,23]) [4,5,6]<| .first 4 (rg [7,23]) [3,5,6]<| .first 5 (rg [7,23]) [3,6]<| .first 6 (rg [7,23]) [3]<| .fork 3 (.fork 7 (.first 8 (rg [9,23]) []<| .first 9 (rg [10,23]) []<| .first 10 (rg [11,23]) []<| .first 11 [14,18,19,20,21,22] [12,13,15,16,17]<| .first 12 [14,18,19,20,21,22] [13,15,16,17]<| .first 13 [14,18,19,20,21,22] [15,16,17]<| .first 15 [18,19,20,21,22] [14,16,17]<| .first 16 [18,19,20,21,22] [14,17]<| .first 17 [18,19,20,21,22] [14]<| .fork 14 (.fork 18 (.first 19 [20,21,22] []<| .first 20 [21,22] []<| .first 21 [22] []<| .fork 22 (.done) (.stop)) (.stop)) (.stop)) (.stop)) (.stop))],shut:=[]}
noncomputable def QF:fA:={par:=[.cst false,.cst false],inn:=[(7,some ([],[]))],out:=[],bZ:=[(2,([0,1,7,8],[]))],frz:=[],sch:=[],shut:=[]}
noncomputable def QG:fA:={par:=[.cst false],inn:=[],out:=[],bZ:=[],frz:=[],sch:=[],shut:=[]}
noncomputable def fcs:List (Nat×fA):=[(5,fc5),(22,WB),(23,WC),(24,WE),(25,WG),(26,WH),(27,WI),(28,WJ),(29,WL),(39,WM),(42,WN),(43,WO),(45,WQ),(49,WR),(60,WS),(61,WT),(62,WU),(63,WV),(64,WW),(65,WX),(66,WY),(67,WZ),(68,W9),(83,Xa),(90,Xb),(91,Xc),(92,Xd),(93,Xe),(94,Xf),(95,Xg),(97,Xh),(99,Xi),(100,P8),(101,P9),(102,Qa),(106,Qb),(107,Qc),(115,Qd),(116,Qe),(117,Qg),(118,Qh),(121,Qi),(129,Qj),(135,Qk),(137,Ql),(149,Qm),(150,Qn),(151,Qo),(152,Qp),(153,Qq),(154,Qr),(155,Qs),(156,Qu),(158,Qv),(159,Qw),(160,Qx),(163,Qy),(164,Qz),(165,QA),(182,QB),(191,QC),(192,QD),(193,QE),(197,QF),(206,QG),(72,{par:=[.row],inn:=[],out:=[],bZ:=[],frz:=[],sch:=[],shut:=[]}),(120,{par:=[.mv],inn:=[],out:=[],bZ:=[],frz:=[],sch:=[],shut:=[]})]
noncomputable def ons:List (Nat×Bool):=[(5,true),(22,true),(23,true),(24,true),(25,true),(26,true),(27,true),(28,true),(29,true),(39,true),(42,true),(43,true),(45,true),(49,true),(60,true),(61,true),(62,true),(63,true),(64,true),(65,true),(66,true),(67,true),(68,true),(83,true),(90,true),(91,true),(92,true),(93,true),(94,true),(95,true),(97,true),(99,true),(100,true),(101,true),(102,true),(106,true),(107,true),(115,true),(116,true),(117,true),(118,true),(121,true),(129,true),(135,true),(137,true),(149,true),(150,true),(151,true),(152,true),(153,true),(154,true),(155,true),(156,true),(158,true),(159,true),(160,true),(163,true),(164,true),(165,true),(182,true),(191,true),(192,true),(193,true),(197,true),(206,true)]
noncomputable def cfg:Cfg:=UC ons fcs [(119,some (yE 1 8)),(72,some Ej),(120,some vT)] [(61,26)]
theorem c5:cfg.fc 5=fc5:=rfl
instance C5:Cf cfg 5 fc5:=⟨c5⟩
instance Z5:Zf cfg 5:=⟨rfl⟩
theorem c22:cfg.fc 22=WB:=rfl
instance C22:Cf cfg 22 WB:=⟨c22⟩
instance Z22:Zf cfg 22:=⟨rfl⟩
theorem z22:(cfg.fc 22).frz=[]:=rfl
theorem c23:cfg.fc 23=WC:=rfl
instance C23:Cf cfg 23 WC:=⟨c23⟩
instance Z23:Zf cfg 23:=⟨rfl⟩
theorem z23:(cfg.fc 23).frz=[]:=rfl
theorem c24:cfg.fc 24=WE:=rfl
instance C24:Cf cfg 24 WE:=⟨c24⟩
instance Z24:Zf cfg 24:=⟨rfl⟩
theorem c25:cfg.fc 25=WG:=rfl
instance C25:Cf cfg 25 WG:=⟨c25⟩
instance Z25:Zf cfg 25:=⟨rfl⟩
theorem c26:cfg.fc 26=WH:=rfl
instance C26:Cf cfg 26 WH:=⟨c26⟩
instance Z26:Zf cfg 26:=⟨rfl⟩
theorem z26:(cfg.fc 26).frz=[]:=rfl
theorem c27:cfg.fc 27=WI:=rfl
instance C27:Cf cfg 27 WI:=⟨c27⟩
instance Z27:Zf cfg 27:=⟨rfl⟩
theorem z27:(cfg.fc 27).frz=[]:=rfl
theorem c28:cfg.fc 28=WJ:=rfl
instance C28:Cf cfg 28 WJ:=⟨c28⟩
instance Z28:Zf cfg 28:=⟨rfl⟩
theorem z28:(cfg.fc 28).frz=[]:=rfl
theorem c29:cfg.fc 29=WL:=rfl
instance C29:Cf cfg 29 WL:=⟨c29⟩
instance Z29:Zf cfg 29:=⟨rfl⟩
theorem c39:cfg.fc 39=WM:=rfl
instance C39:Cf cfg 39 WM:=⟨c39⟩
instance Z39:Zf cfg 39:=⟨rfl⟩
theorem c42:cfg.fc 42=WN:=rfl
instance C42:Cf cfg 42 WN:=⟨c42⟩
instance Z42:Zf cfg 42:=⟨rfl⟩
theorem c43:cfg.fc 43=WO:=rfl
instance C43:Cf cfg 43 WO:=⟨c43⟩
instance Z43:Zf cfg 43:=⟨rfl⟩
theorem z43:(cfg.fc 43).frz=[]:=rfl
theorem c45:cfg.fc 45=WQ:=rfl
instance C45:Cf cfg 45 WQ:=⟨c45⟩
instance Z45:Zf cfg 45:=⟨rfl⟩
theorem c49:cfg.fc 49=WR:=rfl
instance C49:Cf cfg 49 WR:=⟨c49⟩
theorem z49:(cfg.fc 49).frz=[2]:=rfl
theorem c60:cfg.fc 60=WS:=rfl
instance C60:Cf cfg 60 WS:=⟨c60⟩
instance Z60:Zf cfg 60:=⟨rfl⟩
theorem z60:(cfg.fc 60).frz=[]:=rfl
theorem c61:cfg.fc 61=WT:=rfl
instance C61:Cf cfg 61 WT:=⟨c61⟩
instance Z61:Zf cfg 61:=⟨rfl⟩
theorem c62:cfg.fc 62=WU:=rfl
instance C62:Cf cfg 62 WU:=⟨c62⟩
instance Z62:Zf cfg 62:=⟨rfl⟩
theorem c63:cfg.fc 63=WV:=rfl
instance C63:Cf cfg 63 WV:=⟨c63⟩
instance Z63:Zf cfg 63:=⟨rfl⟩
theorem c64:cfg.fc 64=WW:=rfl
instance C64:Cf cfg 64 WW:=⟨c64⟩
instance Z64:Zf cfg 64:=⟨rfl⟩
theorem c65:cfg.fc 65=WX:=rfl
instance C65:Cf cfg 65 WX:=⟨c65⟩
instance Z65:Zf cfg 65:=⟨rfl⟩
theorem z65:(cfg.fc 65).frz=[]:=rfl
theorem c66:cfg.fc 66=WY:=rfl
instance C66:Cf cfg 66 WY:=⟨c66⟩
instance Z66:Zf cfg 66:=⟨rfl⟩
theorem c67:cfg.fc 67=WZ:=rfl
instance C67:Cf cfg 67 WZ:=⟨c67⟩
instance Z67:Zf cfg 67:=⟨rfl⟩
theorem c68:cfg.fc 68=W9:=rfl
instance C68:Cf cfg 68 W9:=⟨c68⟩
instance Z68:Zf cfg 68:=⟨rfl⟩
theorem c83:cfg.fc 83=Xa:=rfl
instance C83:Cf cfg 83 Xa:=⟨c83⟩
instance Z83:Zf cfg 83:=⟨rfl⟩
theorem c90:cfg.fc 90=Xb:=rfl
instance C90:Cf cfg 90 Xb:=⟨c90⟩
instance Z90:Zf cfg 90:=⟨rfl⟩
theorem z90:(cfg.fc 90).frz=[]:=rfl
theorem c91:cfg.fc 91=Xc:=rfl
instance C91:Cf cfg 91 Xc:=⟨c91⟩
instance Z91:Zf cfg 91:=⟨rfl⟩
theorem z91:(cfg.fc 91).frz=[]:=rfl
theorem c92:cfg.fc 92=Xd:=rfl
instance C92:Cf cfg 92 Xd:=⟨c92⟩
instance Z92:Zf cfg 92:=⟨rfl⟩
theorem c93:cfg.fc 93=Xe:=rfl
instance C93:Cf cfg 93 Xe:=⟨c93⟩
instance Z93:Zf cfg 93:=⟨rfl⟩
theorem c94:cfg.fc 94=Xf:=rfl
instance C94:Cf cfg 94 Xf:=⟨c94⟩
instance Z94:Zf cfg 94:=⟨rfl⟩
theorem c95:cfg.fc 95=Xg:=rfl
instance C95:Cf cfg 95 Xg:=⟨c95⟩
instance Z95:Zf cfg 95:=⟨rfl⟩
theorem z95:(cfg.fc 95).frz=[]:=rfl
theorem c97:cfg.fc 97=Xh:=rfl
instance C97:Cf cfg 97 Xh:=⟨c97⟩
instance Z97:Zf cfg 97:=⟨rfl⟩
theorem c99:cfg.fc 99=Xi:=rfl
instance C99:Cf cfg 99 Xi:=⟨c99⟩
instance Z99:Zf cfg 99:=⟨rfl⟩
theorem abY:cfg.fc 100=P8:=rfl
instance adv:Cf cfg 100 P8:=⟨abY⟩
instance adw:Zf cfg 100:=⟨rfl⟩
theorem aag:cfg.fc 101=P9:=rfl
instance adx:Cf cfg 101 P9:=⟨aag⟩
instance ady:Zf cfg 101:=⟨rfl⟩
theorem aah:(cfg.fc 101).frz=[]:=rfl
theorem abZ:cfg.fc 102=Qa:=rfl
instance adz:Cf cfg 102 Qa:=⟨abZ⟩
instance adA:Zf cfg 102:=⟨rfl⟩
theorem aai:cfg.fc 106=Qb:=rfl
instance adB:Cf cfg 106 Qb:=⟨aai⟩
instance adC:Zf cfg 106:=⟨rfl⟩
theorem c107:cfg.fc 107=Qc:=rfl
instance adD:Cf cfg 107 Qc:=⟨c107⟩
instance adE:Zf cfg 107:=⟨rfl⟩
theorem z107:(cfg.fc 107).frz=[]:=rfl
theorem ab1:cfg.fc 115=Qd:=rfl
instance adF:Cf cfg 115 Qd:=⟨ab1⟩
instance adG:Zf cfg 115:=⟨rfl⟩
theorem c116:cfg.fc 116=Qe:=rfl
instance adH:Cf cfg 116 Qe:=⟨c116⟩
instance adI:Zf cfg 116:=⟨rfl⟩
theorem c117:cfg.fc 117=Qg:=rfl
instance adJ:Cf cfg 117 Qg:=⟨c117⟩
instance adK:Zf cfg 117:=⟨rfl⟩
theorem ab2:cfg.fc 118=Qh:=rfl
instance adL:Cf cfg 118 Qh:=⟨ab2⟩
instance adM:Zf cfg 118:=⟨rfl⟩
theorem aaj:cfg.fc 121=Qi:=rfl
instance adN:Cf cfg 121 Qi:=⟨aaj⟩
instance adO:Zf cfg 121:=⟨rfl⟩
theorem aak:cfg.fc 129=Qj:=rfl
instance adP:Cf cfg 129 Qj:=⟨aak⟩
instance adQ:Zf cfg 129:=⟨rfl⟩
theorem ab3:cfg.fc 135=Qk:=rfl
instance adR:Cf cfg 135 Qk:=⟨ab3⟩
instance adS:Zf cfg 135:=⟨rfl⟩
theorem ab4:cfg.fc 137=Ql:=rfl
instance adT:Cf cfg 137 Ql:=⟨ab4⟩
instance adU:Zf cfg 137:=⟨rfl⟩
theorem OT:cfg.fc 149=Qm:=rfl
instance adV:Cf cfg 149 Qm:=⟨OT⟩
instance adW:Zf cfg 149:=⟨rfl⟩
theorem Xj:cfg.fc 150=Qn:=rfl
instance adX:Cf cfg 150 Qn:=⟨Xj⟩
instance adY:Zf cfg 150:=⟨rfl⟩
theorem Y0:cfg.fc 151=Qo:=rfl
instance adZ:Cf cfg 151 Qo:=⟨Y0⟩
instance ad1:Zf cfg 151:=⟨rfl⟩
theorem c152:cfg.fc 152=Qp:=rfl
instance ad2:Cf cfg 152 Qp:=⟨c152⟩
instance ad3:Zf cfg 152:=⟨rfl⟩
theorem aal:cfg.fc 153=Qq:=rfl
instance ad4:Cf cfg 153 Qq:=⟨aal⟩
instance ad5:Zf cfg 153:=⟨rfl⟩
theorem c154:cfg.fc 154=Qr:=rfl
instance ad6:Cf cfg 154 Qr:=⟨c154⟩
instance ad7:Zf cfg 154:=⟨rfl⟩
theorem Y1:cfg.fc 155=Qs:=rfl
instance ad8:Cf cfg 155 Qs:=⟨Y1⟩
instance ad9:Zf cfg 155:=⟨rfl⟩
theorem c156:cfg.fc 156=Qu:=rfl
instance aea:Cf cfg 156 Qu:=⟨c156⟩
instance aeb:Zf cfg 156:=⟨rfl⟩
theorem UO:cfg.fc 158=Qv:=rfl
instance aec:Cf cfg 158 Qv:=⟨UO⟩
instance aed:Zf cfg 158:=⟨rfl⟩
theorem aam:(cfg.fc 158).frz=[]:=rfl
theorem c159:cfg.fc 159=Qw:=rfl
instance aee:Cf cfg 159 Qw:=⟨c159⟩
instance aef:Zf cfg 159:=⟨rfl⟩
theorem c160:cfg.fc 160=Qx:=rfl
instance aeg:Cf cfg 160 Qx:=⟨c160⟩
instance aeh:Zf cfg 160:=⟨rfl⟩
theorem ab5:cfg.fc 163=Qy:=rfl
instance aei:Cf cfg 163 Qy:=⟨ab5⟩
instance aej:Zf cfg 163:=⟨rfl⟩
theorem c164:cfg.fc 164=Qz:=rfl
instance aek:Cf cfg 164 Qz:=⟨c164⟩
instance ael:Zf cfg 164:=⟨rfl⟩
theorem ab6:cfg.fc 165=QA:=rfl
instance aem:Cf cfg 165 QA:=⟨ab6⟩
instance aen:Zf cfg 165:=⟨rfl⟩
theorem c182:cfg.fc 182=QB:=rfl
instance aeo:Cf cfg 182 QB:=⟨c182⟩
instance aep:Zf cfg 182:=⟨rfl⟩
theorem aan:cfg.fc 191=QC:=rfl
instance aeq:Cf cfg 191 QC:=⟨aan⟩
instance aer:Zf cfg 191:=⟨rfl⟩
theorem ab7:cfg.fc 192=QD:=rfl
instance aes:Cf cfg 192 QD:=⟨ab7⟩
instance aet:Zf cfg 192:=⟨rfl⟩
theorem c193:cfg.fc 193=QE:=rfl
instance aeu:Cf cfg 193 QE:=⟨c193⟩
instance aev:Zf cfg 193:=⟨rfl⟩
theorem z193:(cfg.fc 193).frz=[]:=rfl
theorem Y2:cfg.fc 197=QF:=rfl
instance aew:Cf cfg 197 QF:=⟨Y2⟩
instance aex:Zf cfg 197:=⟨rfl⟩
theorem c206:cfg.fc 206=QG:=rfl
instance aey:Cf cfg 206 QG:=⟨c206⟩
instance aez:Zf cfg 206:=⟨rfl⟩
noncomputable abbrev Pg:=Try.prog
theorem UQ:zq Pg 113=some ([.nil,.nil,z0],[(0,1),(1,1),(2,1)]):=kr
theorem aao:zq Pg 136=some ([.nil,z0,.im 0 (.sc (.int .u64 0))],[(0,1),(1,1),(2,1)]):=kr
theorem JZ:zq Pg 139=some ([z1,.nil],[(0,1),(1,1)]):=kr
theorem QH:zq Pg 145=some ([z0,z0],[(0,1),(1,1)]):=kr
theorem aap:zq Pg 155=some ([z0,z0],[(0,1),(1,1)]):=kr
theorem Xk:zq Pg 26=some ([z0,z0,.nil,.nil],[(0,1),(1,1),(2,1),(3,1)]):=kr
theorem UR:zq Pg 66=some ([z1,z0,z0],[(0,1),(1,1),(2,1)]):=kr
theorem aaq:oL Pg 152=some (155,2):=kr
theorem aar:oL Pg 175=some (9,1):=kr
theorem aas:oL Pg 23=some (145,2):=kr
theorem Em:oL Pg 28=some (2,1):=kr
theorem Y3:oL Pg 36=some (66,3):=kr
theorem aat:oL Pg 80=some (28,1):=kr
theorem QI:nJ Pg 113 0=some 0:=kr
theorem Lr:nJ Pg 113 1=some 1:=kr
theorem Ls:nJ Pg 113 2=some 2:=kr
theorem Lu:nJ Pg 136 0=some 0:=kr
theorem En:nJ Pg 136 1=some 1:=kr
theorem LC:nJ Pg 136 2=some 2:=kr
theorem BK:nJ Pg 139 0=some 0:=kr
theorem pW:nJ Pg 139 1=some 1:=kr
theorem nM:nJ Pg 145 0=some 0:=kr
theorem oG:nJ Pg 145 1=some 1:=kr
theorem Ip:nJ Pg 26 0=some 0:=kr
theorem LD:nJ Pg 26 1=some 1:=kr
theorem o6:nJ Pg 26 2=some 2:=kr
theorem kF:nJ Pg 26 3=some 3:=kr
theorem UT:nJ Pg 66 0=some 0:=kr
theorem Dv:nJ Pg 66 1=some 1:=kr
theorem Iq:nJ Pg 66 2=some 2:=kr
theorem Je:bU Pg cfg 100 0 [152,157]=[(.cst false,[some 2]),(.cst false,[none])]:=kr
theorem Jf:bU Pg cfg 101 0 [155,0,0]=[(.cst false,[none,none]),(.cst false,[none]),(.cst false,[none])]:=kr
theorem Jg:bU Pg cfg 102 0 [152,155]=[(.cst false,[some 2]),(.cst false,[none,none])]:=kr
theorem dA:bU Pg cfg 106 0 [74,2]=[(.ptr [.imm,.imm,.imm],[none]),(.cst false,[none])]:=kr
theorem Ir:bU Pg cfg 107 0 [74]=[(.ptr [.imm,.imm,.imm],[none])]:=kr
theorem lS:bU Pg cfg 115 0 [74,28]=[(.ptr [.imm,.imm,.imm],[none]),(.cst false,[some 1])]:=kr
theorem UU:bU Pg cfg 116 0 [74]=[(.ptr [.imm,.imm,.imm],[none])]:=kr
theorem UW:bU Pg cfg 117 0 [74]=[(.ptr [.imm,.imm,.imm],[none])]:=kr
theorem UX:bU Pg cfg 118 0 [36]=[(.cst false,[some 3])]:=kr
theorem NH:bU Pg cfg 119 0 [28]=[(.cst false,[some 1])]:=kr
theorem UY:bU Pg cfg 120 0 [28]=[(.mv,[some 1])]:=kr
theorem Sj:bU Pg cfg 121 0 [2,2]=[(.cst false,[none]),(.cst false,[none])]:=kr
theorem UZ:bU Pg cfg 129 0 [66]=[(.cst false,[none,none,none])]:=kr
theorem Y4:bU Pg cfg 135 0 []=[]:=kr
theorem Fb:bU Pg cfg 137 0 [2,2]=[(.cst false,[none]),(.cst false,[none])]:=kr
theorem Eo:bU Pg cfg 149 0 [2]=[(.cst false,[none])]:=kr
theorem LG:bU Pg cfg 150 0 [23,145]=[(.cst false,[some 2]),(.cst false,[none,none])]:=kr
theorem U0:bU Pg cfg 151 0 [23]=[(.cst false,[some 2])]:=kr
theorem ku:bU Pg cfg 152 0 [145,145,145]=[(.cst false,[none,none]),(.cst false,[none,none]),(.cst false,[none,none])]:=kr
theorem zZ:bU Pg cfg 153 0 [145,145,145,145]=[(.cst false,[none,none]),(.cst false,[none,none]),(.cst false,[none,none]),(.cst false,[none,none])]:=kr
theorem U1:bU Pg cfg 154 0 [23]=[(.cst false,[some 2])]:=kr
theorem Jh:bU Pg cfg 155 0 [152,157]=[(.cst false,[some 2]),(.cst false,[none])]:=kr
theorem Ji:bU Pg cfg 156 0 [152,155]=[(.cst false,[some 2]),(.cst false,[none,none])]:=kr
theorem NI:bU Pg cfg 158 0 [74]=[(.ptr [.imm,.imm,.imm],[none])]:=kr
theorem U2:bU Pg cfg 159 0 []=[]:=kr
theorem BL:bU Pg cfg 160 0 [2,2]=[(.cst false,[none]),(.cst false,[none])]:=kr
theorem Ep:bU Pg cfg 163 0 [74,175]=[(.ptr [.imm,.imm,.imm],[none]),(.cst false,[some 1])]:=kr
theorem LH:bU Pg cfg 164 0 [36,177]=[(.cst false,[some 3]),(.cst false,[none])]:=kr
theorem U3:bU Pg cfg 165 0 [66]=[(.cst false,[none,none,none])]:=kr
theorem Xl:bU Pg cfg 182 0 [9]=[(.cst false,[none])]:=kr
theorem Sl:bU Pg cfg 191 0 [145]=[(.cst false,[none,none])]:=kr
theorem jc:bU Pg cfg 192 0 [145,145,145]=[(.cst false,[none,none]),(.cst false,[none,none]),(.cst false,[none,none])]:=kr
theorem Aa:bU Pg cfg 193 0 [145,145,145,145]=[(.cst false,[none,none]),(.cst false,[none,none]),(.cst false,[none,none]),(.cst false,[none,none])]:=kr
theorem LJ:bU Pg cfg 197 0 [36,177]=[(.cst false,[some 3]),(.cst false,[none])]:=kr
theorem Xm:bU Pg cfg 206 0 [9]=[(.cst false,[none])]:=kr
theorem QJ:bU Pg cfg 22 0 [22]=[(.cst false,[some 1])]:=kr
theorem Xn:bU Pg cfg 23 0 [22]=[(.cst false,[some 1])]:=kr
theorem AX:bU Pg cfg 24 0 [26,36,2,2]=[(.cst false,[none,none,some 2,some 2]),(.cst false,[some 3]),(.cst false,[none]),(.cst false,[none])]:=kr
theorem Iu:bU Pg cfg 25 0 [26,36,2,2]=[(.cst false,[none,none,some 2,some 2]),(.cst false,[some 3]),(.cst false,[none]),(.cst false,[none])]:=kr
theorem qB:bU Pg cfg 26 0 [26,36,2,28]=[(.cst false,[none,none,some 2,some 2]),(.cst false,[some 3]),(.cst false,[none]),(.cst false,[some 1])]:=kr
theorem QK:bU Pg cfg 27 0 [28]=[(.cst false,[some 1])]:=kr
theorem Xo:bU Pg cfg 28 0 [22]=[(.cst false,[some 1])]:=kr
theorem LM:bU Pg cfg 29 0 [26,36,2]=[(.cst false,[none,none,some 2,some 2]),(.cst false,[some 3]),(.cst false,[none])]:=kr
theorem QL:bU Pg cfg 39 0 [22]=[(.cst false,[some 1])]:=kr
theorem Xp:bU Pg cfg 42 0 [74]=[(.ptr [.imm,.imm,.imm],[none])]:=kr
theorem Xq:bU Pg cfg 43 0 [26]=[(.cst false,[none,none,some 2,some 2])]:=kr
theorem Sm:bU Pg cfg 45 0 [28,2]=[(.cst false,[some 1]),(.cst false,[none])]:=kr
theorem Gu:bU Pg cfg 49 0 [26]=[(.cst false,[none,none,some 2,some 2])]:=kr
theorem QM:bU Pg cfg 60 0 [74]=[(.ptr [.imm,.imm,.imm],[none])]:=kr
theorem QN:bU Pg cfg 61 0 [74]=[(.ptr [.imm,.imm,.imm],[none])]:=kr
theorem Xr:bU Pg cfg 62 0 [74]=[(.ptr [.imm,.imm,.imm],[none])]:=kr
theorem QO:bU Pg cfg 63 0 [74]=[(.ptr [.imm,.imm,.imm],[none])]:=kr
theorem rJ:bU Pg cfg 64 0 [26,36,2,2]=[(.cst false,[none,none,some 2,some 2]),(.cst false,[some 3]),(.cst false,[none]),(.cst false,[none])]:=kr
theorem qC:bU Pg cfg 65 0 [111,28,2,3]=[(.ptr [.gone,.imm,.imm],[none]),(.mv,[some 1]),(.cst false,[none]),(.cst false,[none])]:=kr
theorem fD:bU Pg cfg 66 0 [2,2,2]=[(.cst false,[none]),(.cst false,[none]),(.cst false,[none])]:=kr
theorem Iw:bU Pg cfg 67 0 [66,66]=[(.cst false,[none,none,none]),(.cst false,[none,none,none])]:=kr
theorem Su:bU Pg cfg 68 0 [28,2]=[(.cst false,[some 1]),(.cst false,[none])]:=kr
theorem Xt:bU Pg cfg 72 0 [28]=[(.row,[some 1])]:=kr
theorem BM:bU Pg cfg 83 0 [74,2]=[(.ptr [.imm,.imm,.imm],[none]),(.cst false,[none])]:=kr
theorem Xu:bU Pg cfg 90 0 [74]=[(.ptr [.imm,.imm,.imm],[none])]:=kr
theorem OU:bU Pg cfg 91 0 [74,26]=[(.ptr [.imm,.imm,.imm],[none]),(.mvs,[none,none,some 2,some 2])]:=kr
theorem NJ:bU Pg cfg 92 0 [23,145]=[(.cst false,[some 2]),(.cst false,[none,none])]:=kr
theorem OV:bU Pg cfg 93 0 [9]=[(.cst false,[none])]:=kr
theorem OW:bU Pg cfg 94 0 [23,28]=[(.cst false,[some 2]),(.cst false,[some 1])]:=kr
theorem Xv:bU Pg cfg 95 0 [23]=[(.cst false,[some 2])]:=kr
theorem Sv:bU Pg cfg 97 0 [28,2]=[(.cst false,[some 1]),(.cst false,[none])]:=kr
theorem Xw:bU Pg cfg 99 0 [28]=[(.cst false,[some 1])]:=kr
theorem U4:∀(a0:Int) (a1:Int) (b0:Int) (b1:Int),Gx Pg 145 .eql [.int .i64 a0,.int .i64 a1] [.int .i64 b0,.int .i64 b1]=some (.bool ((a0==b0)&&(a1==b1))):=by intros;kernel_rfl
theorem Y5:∀(a0:Int) (a1:Int) (b0:Int) (b1:Int),Gx Pg 155 .eql [.int .i64 a0,.int .i64 a1] [.int .i64 b0,.int .i64 b1]=some (.bool ((a0==b0)&&(a1==b1))):=by intros;kernel_rfl
theorem aau:fK Pg (Try.f100.results.toList.zip Try.f100.resultTypes.toList)=[(.tmp 4,[none],none)]:=kr
theorem aav:fK Pg (Try.f101.results.toList.zip Try.f101.resultTypes.toList)=[(.tmp 4,[none],none)]:=kr
theorem aaw:fK Pg (Try.f102.results.toList.zip Try.f102.resultTypes.toList)=[(.tmp 4,[none],none)]:=kr
theorem Ya:fK Pg (Try.f106.results.toList.zip Try.f106.resultTypes.toList)=[(.tmp 4,[none],none)]:=kr
theorem aax:fK Pg (Try.f107.results.toList.zip Try.f107.resultTypes.toList)=[(.cell 2 66,[none,none,none],some (true,3))]:=kr
theorem aay:fK Pg (Try.f115.results.toList.zip Try.f115.resultTypes.toList)=[(.tmp 4,[none],none)]:=kr
theorem aaz:fK Pg (Try.f116.results.toList.zip Try.f116.resultTypes.toList)=[(.tmp 2,[none],none)]:=kr
theorem aaA:fK Pg (Try.f117.results.toList.zip Try.f117.resultTypes.toList)=[(.cell 2 66,[none,none,none],some (true,3))]:=kr
theorem aaB:fK Pg (Try.f118.results.toList.zip Try.f118.resultTypes.toList)=[(.tmp 2,[none],none)]:=kr
theorem aaC:fK Pg (Try.f119.results.toList.zip Try.f119.resultTypes.toList)=[(.tmp 2,[some 1],none)]:=kr
theorem Yb:fK Pg (Try.f121.results.toList.zip Try.f121.resultTypes.toList)=[(.tmp 4,[none],none),(.tmp 5,[none],none)]:=kr
theorem aaD:fK Pg (Try.f129.results.toList.zip Try.f129.resultTypes.toList)=[(.tmp 2,[none],none)]:=kr
theorem aaE:fK Pg (Try.f135.results.toList.zip Try.f135.resultTypes.toList)=[(.tmp 0,[some 1],none)]:=kr
theorem Yc:fK Pg (Try.f137.results.toList.zip Try.f137.resultTypes.toList)=[(.tmp 4,[none],none)]:=kr
theorem Yd:fK Pg (Try.f149.results.toList.zip Try.f149.resultTypes.toList)=[(.tmp 2,[none],none)]:=kr
theorem Ye:fK Pg (Try.f150.results.toList.zip Try.f150.resultTypes.toList)=[(.tmp 4,[none],none)]:=kr
theorem Yf:fK Pg (Try.f151.results.toList.zip Try.f151.resultTypes.toList)=[(.tmp 2,[none],none)]:=kr
theorem aaF:fK Pg (Try.f152.results.toList.zip Try.f152.resultTypes.toList)=[(.tmp 6,[none],none)]:=kr
theorem aaG:fK Pg (Try.f153.results.toList.zip Try.f153.resultTypes.toList)=[(.tmp 8,[none],none)]:=kr
theorem aaH:fK Pg (Try.f154.results.toList.zip Try.f154.resultTypes.toList)=[(.tmp 2,[none],none)]:=kr
theorem Yg:fK Pg (Try.f155.results.toList.zip Try.f155.resultTypes.toList)=[(.tmp 4,[none],none)]:=kr
theorem Yh:fK Pg (Try.f156.results.toList.zip Try.f156.resultTypes.toList)=[(.tmp 4,[none],none)]:=kr
theorem Yi:fK Pg (Try.f158.results.toList.zip Try.f158.resultTypes.toList)=[(.tmp 2,[none],none)]:=kr
theorem aaI:fK Pg (Try.f159.results.toList.zip Try.f159.resultTypes.toList)=[(.tmp 0,[some 1],none)]:=kr
theorem Yj:fK Pg (Try.f160.results.toList.zip Try.f160.resultTypes.toList)=[(.tmp 4,[none],none)]:=kr
theorem aaJ:fK Pg (Try.f163.results.toList.zip Try.f163.resultTypes.toList)=[(.tmp 4,[none],none)]:=kr
theorem aaK:fK Pg (Try.f164.results.toList.zip Try.f164.resultTypes.toList)=[(.tmp 4,[none],none)]:=kr
theorem aaL:fK Pg (Try.f165.results.toList.zip Try.f165.resultTypes.toList)=[(.tmp 2,[none],none)]:=kr
theorem aaM:fK Pg (Try.f182.results.toList.zip Try.f182.resultTypes.toList)=[(.tmp 2,[none],none),(.tmp 3,[none],none)]:=kr
theorem aaN:fK Pg (Try.f191.results.toList.zip Try.f191.resultTypes.toList)=[(.tmp 2,[none],none)]:=kr
theorem U5:fK Pg (Try.f192.results.toList.zip Try.f192.resultTypes.toList)=[(.tmp 6,[none],none)]:=kr
theorem aaO:fK Pg (Try.f193.results.toList.zip Try.f193.resultTypes.toList)=[(.tmp 8,[none],none)]:=kr
theorem Yk:fK Pg (Try.f197.results.toList.zip Try.f197.resultTypes.toList)=[(.tmp 4,[none],none)]:=kr
theorem AY:fK Pg (Try.f206.results.toList.zip Try.f206.resultTypes.toList)=[(.tmp 2,[none],none),(.tmp 3,[none],none),(.tmp 4,[none],none),(.tmp 5,[none],none)]:=kr
theorem ab8:fK Pg (Try.f22.results.toList.zip Try.f22.resultTypes.toList)=[(.tmp 2,[none],none)]:=kr
theorem ab9:fK Pg (Try.f23.results.toList.zip Try.f23.resultTypes.toList)=[(.cell 2 26,[none,none,some 2,some 2],some (true,4)),(.tmp 3,[some 3],none),(.tmp 4,[none],none),(.tmp 5,[none],none)]:=kr
theorem aaP:fK Pg (Try.f24.results.toList.zip Try.f24.resultTypes.toList)=[(.tmp 8,[some 1],none),(.tmp 9,[none],none)]:=kr
theorem Xx:fK Pg (Try.f25.results.toList.zip Try.f25.resultTypes.toList)=[(.tmp 8,[some 1],none),(.tmp 9,[none],none),(.tmp 10,[none],none)]:=kr
theorem Xy:fK Pg (Try.f26.results.toList.zip Try.f26.resultTypes.toList)=[(.tmp 8,[none],none)]:=kr
theorem acd:fK Pg (Try.f27.results.toList.zip Try.f27.resultTypes.toList)=[(.tmp 2,[none],none)]:=kr
theorem ace:fK Pg (Try.f28.results.toList.zip Try.f28.resultTypes.toList)=[(.cell 2 26,[none,none,some 2,some 2],some (true,4)),(.tmp 3,[some 3],none),(.tmp 4,[none],none)]:=kr
theorem Xz:fK Pg (Try.f29.results.toList.zip Try.f29.resultTypes.toList)=[(.tmp 6,[some 1],none),(.tmp 7,[none],none),(.tmp 8,[none],none)]:=kr
theorem acf:fK Pg (Try.f39.results.toList.zip Try.f39.resultTypes.toList)=[(.tmp 2,[none],none)]:=kr
theorem acg:fK Pg (Try.f42.results.toList.zip Try.f42.resultTypes.toList)=[(.cell 2 26,[none,none,some 2,some 2],some (true,4))]:=kr
theorem U6:fK Pg (Try.f43.results.toList.zip Try.f43.resultTypes.toList)=[(.tmp 2,[none],none)]:=kr
theorem ach:fK Pg (Try.f45.results.toList.zip Try.f45.resultTypes.toList)=[(.tmp 4,[none],none)]:=kr
theorem aci:fK Pg (Try.f49.results.toList.zip Try.f49.resultTypes.toList)=[(.tmp 2,[some 1],none)]:=kr
theorem rF5:fK Pg (Try.f5.results.toList.zip Try.f5.resultTypes.toList)=[(.tmp 4,[none],none)]:=kr
theorem acj:fK Pg (Try.f60.results.toList.zip Try.f60.resultTypes.toList)=[(.cell 2 26,[none,none,some 2,some 2],some (true,4))]:=kr
theorem ack:fK Pg (Try.f61.results.toList.zip Try.f61.resultTypes.toList)=[(.tmp 2,[some 3],none)]:=kr
theorem aaQ:fK Pg (Try.f62.results.toList.zip Try.f62.resultTypes.toList)=[(.tmp 2,[none],none)]:=kr
theorem aaR:fK Pg (Try.f63.results.toList.zip Try.f63.resultTypes.toList)=[(.tmp 2,[none],none)]:=kr
theorem Y6:fK Pg (Try.f64.results.toList.zip Try.f64.resultTypes.toList)=[(.tmp 8,[none],none)]:=kr
theorem XA:fK Pg (Try.f65.results.toList.zip Try.f65.resultTypes.toList)=[(.tmp 8,[some 1],none),(.tmp 9,[none],none)]:=kr
theorem acm:fK Pg (Try.f66.results.toList.zip Try.f66.resultTypes.toList)=[(.tmp 6,[none],none)]:=kr
theorem acn:fK Pg (Try.f67.results.toList.zip Try.f67.resultTypes.toList)=[(.tmp 4,[none],none)]:=kr
theorem aaS:fK Pg (Try.f68.results.toList.zip Try.f68.resultTypes.toList)=[(.tmp 4,[none],none)]:=kr
theorem aco:fK Pg (Try.f83.results.toList.zip Try.f83.resultTypes.toList)=[(.tmp 4,[none],none)]:=kr
theorem acp:fK Pg (Try.f90.results.toList.zip Try.f90.resultTypes.toList)=[(.cell 2 26,[none,none,some 2,some 2],some (true,4))]:=kr
theorem acr:fK Pg (Try.f91.results.toList.zip Try.f91.resultTypes.toList)=[(.cell 4 26,[none,none,some 2,some 2],some (true,4))]:=kr
theorem acs:fK Pg (Try.f92.results.toList.zip Try.f92.resultTypes.toList)=[(.tmp 4,[none],none)]:=kr
theorem Y7:fK Pg (Try.f93.results.toList.zip Try.f93.resultTypes.toList)=[(.tmp 2,[none],none)]:=kr
theorem aaT:fK Pg (Try.f94.results.toList.zip Try.f94.resultTypes.toList)=[(.tmp 4,[some 2],none),(.tmp 5,[none],none)]:=kr
theorem XB:fK Pg (Try.f95.results.toList.zip Try.f95.resultTypes.toList)=[(.tmp 2,[none],none)]:=kr
theorem aaU:fK Pg (Try.f97.results.toList.zip Try.f97.resultTypes.toList)=[(.tmp 4,[none],none)]:=kr
theorem acu:fK Pg (Try.f99.results.toList.zip Try.f99.resultTypes.toList)=[(.tmp 2,[some 2],none)]:=kr
theorem NK:iT Pg 151=some (152,1,[some 2],false,24,[.nil]):=kr
theorem NL:iT Pg 152=some (155,2,[none,none],true,16,[z0,z0]):=kr
theorem J3:iT Pg 175=some (9,1,[none],false,16,[z1]):=kr
theorem Iy:iT Pg 22=some (5,1,[none],false,1,[.im 0 (.sc (.int .u8 0))]):=kr
theorem uN:iT Pg 23=some (145,2,[none,none],true,16,[z0,z0]):=kr
theorem vF:iT Pg 24=some (139,2,[none,some 1],true,40,[z1,.nil]):=kr
theorem iq:iT Pg 28=some (2,1,[none],false,8,[z0]):=kr
theorem Fe:iT Pg 36=some (66,3,[none,none,none],true,32,[z1,z0,z0]):=kr
theorem OX:iT Pg 80=some (28,1,[some 1],false,24,[.nil]):=kr
theorem U7:tyF Pg 113=some ([.nil,.nil,z0],[some 1,some 3,none],true,3):=kr
theorem U8:tyF Pg 134=some ([.im 0 (.sc (.int .u64 0))],[none],false,1):=kr
theorem aaV:tyF Pg 136=some ([.nil,z0,.im 0 (.sc (.int .u64 0))],[some 1,none,none],true,3):=kr
theorem CE:tyF Pg 139=some ([z1,.nil],[none,some 1],true,2):=kr
theorem aU:tyF Pg 145=some ([z0,z0],[none,none],true,2):=kr
theorem Es:tyF Pg 151=some ([.nil],[some 1],false,1):=kr
theorem Yl:tyF Pg 152=some ([.nil],[some 2],false,1):=kr
theorem FW:tyF Pg 155=some ([z0,z0],[none,none],true,2):=kr
theorem tF2:tyF Pg 2=some ([z0],[none],false,1):=kr
theorem Y8:tyF Pg 22=some ([.nil],[some 1],false,1):=kr
theorem AZ:tyF Pg 23=some ([.nil],[some 2],false,1):=kr
theorem uO:tyF Pg 24=some ([.nil],[some 2],false,1):=kr
theorem iH:tyF Pg 26=some ([z0,z0,.nil,.nil],[none,none,some 2,some 2],true,4):=kr
theorem Ac:tyF Pg 28=some ([.nil],[some 1],false,1):=kr
theorem tF3:tyF Pg 3=some ([z0],[none],false,1):=kr
theorem Y9:tyF Pg 36=some ([.nil],[some 3],false,1):=kr
theorem tF5:tyF Pg 5=some ([.im 0 (.sc (.int .u8 0))],[none],false,1):=kr
theorem rO:tyF Pg 66=some ([z1,z0,z0],[none,none,none],true,3):=kr
theorem aaW:tyF Pg 80=some ([.nil],[some 1],false,1):=kr
theorem tF9:tyF Pg 9=some ([z1],[none],false,1):=kr
theorem Ym:Pg.underlying 134=some (.int .u64):=kr
theorem QS:Pg.underlying 151=some (.slice 152):=kr
theorem U9:Pg.underlying 152=some (.slice 155):=kr
theorem aaX:Pg.underlying 175=some (.slice 9):=kr
theorem uF2:Pg.underlying 2=some (.int .i64):=kr
theorem LP:Pg.underlying 22=some (.slice 5):=kr
theorem BU:Pg.underlying 23=some (.slice 145):=kr
theorem Ff:Pg.underlying 24=some (.slice 139):=kr
theorem xI:Pg.underlying 28=some (.slice 2):=kr
theorem uF3:Pg.underlying 3=some (.int .i64):=kr
theorem F7:Pg.underlying 36=some (.slice 66):=kr
theorem uF5:Pg.underlying 5=some (.int .u8):=kr
theorem aaY:Pg.underlying 80=some (.slice 28):=kr
theorem uF9:Pg.underlying 9=some .string:=kr
abbrev FX (i:Nat) (a:List Arg) (r:Res×List Out):Prop:=FL Try.prog cfg i a=some r
theorem A7 {jT:(List Int)} {r:Bool} (h:pF jT=some r):FX 22 [.im 2 false [W 1 (eK .u8) jT]] (B0 [(false,[.im 0 (V r)])]):=by
 unfold pF at h
 refine gn 6 Try.func22 rfl ?_
 refine gs<|g0 j j (q (aj j j)<|nl)<|us<|gs<|g0 j j (q (oMv j j)<|q (mF j j LP j)<|q (oBi j j j j)<|q (aj j j)<|nl)<|us<|Go.ret (Unw.ret ?_)
 cases h
 exact fr ab8 j
theorem A8 {jT:(List Int)} {r:ai} (h:pG jT=some r):FX 39 [.im 2 false [W 1 (eK .u8) jT]] (B0 [(false,[.pt true [⟨.imm,2,W 1 (eK .u8) r.code⟩,⟨.imm,0,I r.at_⟩,⟨.imm,0,.sc (.int .u64 r.seed)⟩]])]):=by
 unfold pG at h
 refine gn 6 Try.func39 rfl ?_
 refine gs<|g0 j j (q (aj j j)<|nl)<|us<|gs<|g0 j j (q (oMv j j)<|q (oBu (cs:=[.im 2 _,.im 0 _,.im 0 _]) j aao j)<|q (oBx j aaV j (tkI (tkI (tkI tk0))))<|q (RQ j j)<|nl)<|us<|Go.ret (Unw.ret ?_)
 cases h
 exact fr acf j
theorem xu {s_0:ai} {r:(Int×ai)} (h:kL s_0=some r):FX 158 [.ptr true [(.imm,W 1 (eK .u8) s_0.code),(.imm,I s_0.at_),(.imm,.sc (.int .u64 s_0.seed))]] ([(false,[.im 0 (I r.1)])],[.ptr true [(.imm,W 1 (eK .u8) r.2.code),(.imm,I r.2.at_),(.imm,.sc (.int .u64 r.2.seed))]]):=by
 unfold kL at h
 refine oP (A:=[(0,M 0)]) (B:=[(0,Od (G 1 (aJ s_0)))]) (nt:=62) rfl rfl Try.func158 rfl rfl rfl rfl ?_
 refine gs<|g0 j j (q (aj j j)<|nl)<|us<|gs<|g0 j j (q (aj j j)<|nl)<|us<|gs<|gs<|gd UO j j j j (mk [(0,M 0),(3,iv 0),(13,bv (decide (s_0.at_< (s_0.code.length:Int))))] [(0,Od (G 1 (aJ s_0)))]) (t j j (oMv j j)<|t j j (oNl j j j)<|t j j (oFA (r':=.mp 0 0 1) j En j j)<|t j j (oLd (cs:=[.im 0 _]) j tF3 j j)<|t j j (oMv j j)<|t j j (oNl j j j)<|t j j (oFA (r':=.mp 0 0 0) j Lu j j)<|t j j (oLd (cs:=[.im 1 _]) j Y8 j j)<|t j j (mF j j LP j)<|t j j (oBi j j j j)<|sD (by kernel_rfl))<|us<|Go.join (fun st=>∃sH,je s_0 sH=some r∧st.norm ([0,3],[0])=mk [(0,M 0),(3,iv sH)] [(0,Od (G 1 (aJ s_0)))]) ?_ ?_
 ·rintro st ⟨sH,h,hst⟩
  unfold je at h
  refine us<|gs<|g2 UO j j hst (q (oMv j j)<|q (oNl j j j)<|q (oFA (r':=.mp 0 0 1) j En j j)<|q (oLd (cs:=[.im 0 _]) j tF3 j j)<|q (oBi j j j j)<|q (oNl j j j)<|q (oFA (r':=.mp 0 0 1) j En j j)<|q (oSt tF3 j j j (tkI tk0) j j j)<|nl)<|us<|gs<|g1 j j (mk [(0,M 0),(3,iv sH)] [(0,Od [Ct 1 (W 1 (eK .u8) s_0.code),C (I (w64 (s_0.at_+1))),C (.sc (.int .u64 s_0.seed))])]) (q (oMv j j)<|q (oMv j j)<|q (oNl j j j)<|q (oFA (r':=.mp 0 0 2) j LC j j)<|q (oLd (cs:=[.im 0 _]) j U8 j j)<|q (oBi j j j j)<|q (oMv j j)<|q (Ux j uF3 Ym j)<|q (oBi j j j j)<|q (oBi j j j j)<|q (oNl j j j)<|q (oFA (r':=.mp 0 0 2) j LC j j)<|q (oSt U8 j j j (tkI tk0) j j j)<|nl)<|us<|gs<|gs<|gd UO j j j (st1:=mk [(0,M 0),(3,iv sH)] [(0,Od [Ct 1 (W 1 (eK .u8) s_0.code),C (I (w64 (s_0.at_+1))),C (.sc (.int .u64 (IntKind.wrap .u64 ((IntKind.wrap .u64 ((IntKind.wrap .u64 (s_0.seed*6364136223846793005))+(IntKind.wrap .u64 (sH))))+1442695040888963407))))])]) (by kernel_rfl) (mk [(0,M 0),(3,iv sH),(53,bv (decide ((w64 (s_0.at_+1))≤(s_0.code.length:Int))))] [(0,Od [Ct 1 (W 1 (eK .u8) s_0.code),C (I (w64 (s_0.at_+1))),C (.sc (.int .u64 (IntKind.wrap .u64 ((IntKind.wrap .u64 ((IntKind.wrap .u64 (s_0.seed*6364136223846793005))+(IntKind.wrap .u64 (sH))))+1442695040888963407))))])]) (t j j (oMv j j)<|t j j (oNl j j j)<|t j j (oFA (r':=.mp 0 0 1) j En j j)<|t j j (oLd (cs:=[.im 0 _]) j tF3 j j)<|t j j (oMv j j)<|t j j (oNl j j j)<|t j j (oFA (r':=.mp 0 0 0) j Lu j j)<|t j j (oLd (cs:=[.im 1 _]) j Y8 j j)<|t j j (mF j j LP j)<|t j j (oBi j j j j)<|sD (by kernel_rfl))<|us<|gc h j aC (fun hc2 h=>?_) fun hc2 h=>?_
  ·refine gs<|g0 j j (q (oMv j j)<|q (aj j j)<|nl)<|us<|Go.ret (Unw.ret ?_)
   cases h
   exact fr Yi j
  ·refine Go.skip<|us<|gs<|?_
   obtain ⟨x59,Va,h⟩:=bs h
   refine g0 j j (q (oMv j j)<|q (oNl j j j)<|q (oFA (r':=.mp 0 0 2) j LC j j)<|q (oLd (cs:=[.im 0 _]) j U8 j j)<|q (abJ j Va j j)<|q (oBi j j j j)<|q (Ux j Ym uF2 j)<|q (aj j j)<|nl)<|us<|Go.ret (Unw.ret ?_)
   cases h
   exact fr Yi j
 ·intro K3
  refine gc h j aC (fun hc4 h=>?_) fun hc4 h=>?_
  ·obtain ⟨x22,LQ,h⟩:=bs h
   exact gd UO j j j j (mk [(0,M 0),(3,iv (w64 (x22)))] [(0,Od (G 1 (aJ s_0)))]) (t j j (oMv j j)<|t j j (oNl j j j)<|t j j (oFA (r':=.mp 0 0 0) j Lu j j)<|t j j (oLd (cs:=[.im 1 _]) j Y8 j j)<|t j j (oMv j j)<|t j j (oNl j j j)<|t j j (oFA (r':=.mp 0 0 1) j En j j)<|t j j (oLd (cs:=[.im 0 _]) j tF3 j j)<|t j j (lF j LQ Iy j j)<|t j j (oLd (cs:=[.im 1 _]) j tF5 j j)<|sS (dN aam j (Ux j uF5 uF3 j)) trivial (sS (dN aam j (aj j j)) trivial (sD (by kernel_rfl))))<|K3 _ ⟨(w64 (x22)),h,(by kernel_rfl)⟩
  ·exact Go.skip<|K3 _ ⟨0,h,(by kernel_rfl)⟩
theorem aQ {s_0:ai} {n_1:Int} {r:(Int×ai)} (h:aO s_0 n_1=some r):FX 106 [.ptr true [(.imm,W 1 (eK .u8) s_0.code),(.imm,I s_0.at_),(.imm,.sc (.int .u64 s_0.seed))],.im 2 false [I n_1]] ([(false,[.im 0 (I r.1)])],[.ptr true [(.imm,W 1 (eK .u8) r.2.code),(.imm,I r.2.at_),(.imm,.sc (.int .u64 r.2.seed))]]):=by
 unfold aO at h
 refine oP (A:=[(0,M 0),(1,D 2 (I n_1))]) (B:=[(0,Od (G 1 (aJ s_0))),(1,none)]) (nt:=20) rfl rfl Try.func106 rfl rfl rfl rfl ?_
 refine gs<|g0 j j (q (aj j j)<|nl)<|us<|gs<|gs<|g0 j j (q (oMv j j)<|q (oBi j j j j)<|nl)<|us<|gc h j aC (fun hc1 h=>?_) fun hc1 h=>?_
 ·refine gs<|g0 j j (q (aj j j)<|nl)<|us<|Go.ret (Unw.ret ?_)
  cases h
  exact fr Ya j
 ·refine Go.skip<|us<|gs<|?_
  obtain ⟨x9,hx9,h⟩:=bs h
  refine g0 j j (q (oMv j j)<|q (oCa (xs:=[.v false [.mp 0 0 0]]) (vs:=[(false,[.im 0 _])]) (v:=.v false [.im 0 _]) (xu hx9) (.inl j) j NI j (ppP j j j pp0) j j (pbP j j pb0) j j j)<|q (aj j j)<|nl)<|us<|gs<|gs<|g1 j j (mk [(0,M 0),(1,iv n_1),(5,iv x9.1)] [(0,Od (G 1 (aJ x9.2)))]) (q (oMv j j)<|q (oBi j j j j)<|nl)<|us<|Go.join (fun st=>∃Ih,∃yF,∃yG,∃yH,jf n_1 Ih yF yG yH=some r∧st.norm ([1,5],[0])=mk [(1,iv n_1),(5,iv Ih)] [(0,Od [Ct 1 (W 1 (eK .u8) yF),C (I yG),C (.sc (.int .u64 yH))])]) ?_ ?_
  ·rintro st ⟨Ih,yF,yG,yH,h,hst⟩
   unfold jf at h
   refine us<|gs<|?_
   obtain ⟨x19,F8,h⟩:=bs h
   refine g2 aai j j hst (q (oMv j j)<|q (oMv j j)<|q (Ny j F8 j j)<|q (aj j j)<|nl)<|us<|Go.ret (Unw.ret ?_)
   cases h
   exact fr Ya j
  ·intro K3
   refine gc h j aC (fun hc4 h=>?_) fun hc4 h=>?_
   ·obtain ⟨x15,Iz,h⟩:=bs h
    exact g0 j j (q (oMv j j)<|q (oBi j j j j)<|q (oMv j j)<|q (oCa (xs:=[.v false [.mp 0 0 0]]) (vs:=[(false,[.im 0 _])]) (v:=.v false [.im 0 _]) (xu Iz) (.inl j) j NI j (ppP j j j pp0) j j (pbP j j pb0) j j j)<|q (oBi j j j j)<|q (aj j j)<|nl)<|K3 _ ⟨(w64 ((w64 (x9.1*256))+x15.1)),x15.2.code,x15.2.at_,x15.2.seed,h,(by kernel_rfl)⟩
   ·exact Go.skip<|K3 _ ⟨x9.1,x9.2.code,x9.2.at_,x9.2.seed,h,(by kernel_rfl)⟩
theorem qo {n_0:Int} {r:ByteArray} (h:oQ n_0=some r):FX 149 [.im 2 false [I n_0]] (B0 [(false,[.im 0 (Y r)])]):=by
 unfold oQ at h
 refine gn 50 Try.func149 rfl ?_
 refine gs<|g0 j j (q (aj j j)<|nl)<|us<|gs<|gs<|g0 j j (q (oMv j j)<|q (oBi j j j j)<|nl)<|us<|gc h j iEq (fun hc1 h=>?_) fun hc1 h=>?_
 ·refine gs<|g0 j j (q (aj j j)<|nl)<|us<|Go.ret (Unw.ret ?_)
  cases h
  exact fr Yd j
 ·refine Go.skip<|us<|gs<|g0 j j (q (oBS (es:=List.map (eK .u8) ([]:List Int)) j Iy j pt0 (cu j fun _=>j))<|q (lD j j j j j)<|nl)<|us<|gs<|gs<|g0 j j (q (oMv j j)<|q (aj j j)<|nl)<|us<|Go.block<|?_
  obtain ⟨o,hl,h⟩:=bs h
  refine gl OT j _ (fun (s:(Int×(List Int)))=>match s with | (vV,jP)=>mk [(0,iv n_0),(3,H 3 0),(4,iv vV)] [(3,Oc [Z (W 1 (eK .u8) jP)])]) (fun (mG:(List Int)) (p:Ex×St)=>p.1= .exit 0∧p.2.norm ([0,3],[3])=mk [(0,iv n_0),(3,H 3 0)] [(3,Oc [Z (W 1 (eK .u8) mG)])]) hl (by kernel_rfl) ?_ ?_ ?_
  ·intro o p hp e
   exact nomatch (hp.1.symm.trans e)
  ·rintro ⟨vV,jP⟩ o h
   unfold iC at h
   dsimp only at h
   refine gs<|gs<|g0 j j (q (oMv j j)<|q (oBi j j j j)<|nl)<|us<|gc h j iNe (fun hc12 h=>?_) fun hc12 h=>?_
   ·refine Go.skip<|us<|gs<|Go.block<|gs<|?_
    obtain ⟨x17,OY,h⟩:=bs h
    refine g0 j j (q (oMv j j)<|q (Ny j OY j j)<|q (aj j j)<|nl)<|us<|gs<|gs<|g0 j j (q (oMv j j)<|q (oBi j j j j)<|nl)<|us<|Go.join (fun st=>∃zu,qp jP vV zu=some o∧st.norm ([0,3,4,5],[3])=mk [(0,iv n_0),(3,H 3 0),(4,iv vV),(5,iv zu)] [(3,Oc [Z (W 1 (eK .u8) jP)])]) ?_ ?_
    ·rintro st ⟨zu,h,hst⟩
     unfold qp at h
     refine us<|?_
     obtain ⟨x27,hx27,h⟩:=bs h
     refine g2 OT j j hst (q (oMv j j)<|q (oMv j j)<|q (oBi j j j j)<|q (Ux j uF2 uF5 j)<|q (oBS (es:=List.map (eK .u8) ([(IntKind.wrap .u8 ((w64 (48+zu))))]:List Int)) j Iy j (ptC j (fxI fx0) j pt0) (cu j fun _=>j))<|q (vS (en:=(eK .u8)) (M:=([(IntKind.wrap .u8 ((w64 (48+zu))))]:List Int)) j hx27 j Iy j j LP (.inl ⟨_,j⟩) j j j j (kC j j) (cu j fun _=>j))<|q (lD j j j j j)<|nl)<|Unw.blk<|us<|?_
     obtain ⟨x15,Iz,h⟩:=bs h
     refine g0 j j (q (oMv j j)<|q (ZX j Iz j j)<|q (aj j j)<|nl)<|Unw.nil<|?_
     cases h
     exact ⟨j,(by kernel_rfl)⟩
    ·intro K14
     refine gc h j aC (fun xw h=>?_) fun xw h=>?_
     ·exact g0 j j (q (oMv j j)<|q (oUn j j j)<|q (aj j j)<|nl)<|K14 _ ⟨(w64 (0 - x17)),h,(by kernel_rfl)⟩
     ·exact Go.skip<|K14 _ ⟨x17,h,(by kernel_rfl)⟩
   ·refine Go.exit<|ux<|Unw.nil<|?_
    cases h
    exact ⟨j,(by kernel_rfl)⟩
  ·rintro ⟨e,st⟩ hp
   obtain ⟨mG,rfl⟩:∃y,y=o:=⟨o,rfl⟩
   obtain ⟨he,hst⟩:=hp
   obtain rfl:e= .exit 0:=he
   refine Unw.ng<|us<|gs<|gs<|g2 OT j j hst (q (oMv j j)<|q (oBi j j j j)<|nl)<|us<|Go.join (fun st=>∃jO,lH jO=some r∧st.norm ([3],[3])=mk [(3,H 3 0)] [(3,Oc [Z (W 1 (eK .u8) jO)])]) ?_ ?_
   ·rintro st ⟨jO,h,hst⟩
    unfold lH at h
    refine us<|gs<|g2 OT j j hst (q (oBS (es:=List.map (eK .u8) ([]:List Int)) j Iy j pt0 (cu j fun _=>j))<|q (lD j j j j j)<|nl)<|us<|gs<|gs<|g0 j j (q (oMv j j)<|q (Dl j j LP j j j (fun e=>nomatch e))<|q (oBi j j j j)<|q (aj j j)<|nl)<|us<|Go.block<|?_
    obtain ⟨o,hl,h⟩:=bs h
    refine gl OT j _ (fun (s:(Int×(List Int)))=>match s with | (BH,vU)=>mk [(3,H 3 0),(6,H 6 0),(7,iv BH)] [(3,Oc [Z (W 1 (eK .u8) jO)]),(6,Oc [Z (W 1 (eK .u8) vU)])]) (fun (rq:(List Int)) (p:Ex×St)=>p.1= .exit 2∧p.2.norm ([6],[6])=mk [(6,H 6 0)] [(6,Oc [Z (W 1 (eK .u8) rq)])]) hl (by kernel_rfl) ?_ ?_ ?_
    ·intro o p hp e
     exact nomatch (hp.1.symm.trans e)
    ·rintro ⟨BH,vU⟩ o h
     unfold jo at h
     dsimp only at h
     refine gs<|gs<|g0 j j (q (oMv j j)<|q (oBi j j j j)<|nl)<|us<|gc h j aC (fun hc9 h=>?_) fun hc9 h=>?_
     ·refine Go.skip<|us<|gs<|Go.block<|?_
      obtain ⟨x44,XC,h⟩:=bs h
      obtain ⟨x47,Sz,h⟩:=bs h
      refine g0 j j (q (oMv j j)<|q (oMv j j)<|q (oMv j j)<|q (xH j XC Iy j j j j)<|q (Dk (cs:=[.im 0 _]) j tF5 j j j j (kz XC) j j)<|q (oBS (es:=List.map (eK .u8) ([x44]:List Int)) j Iy j (ptC j (fxI fx0) j pt0) (cu j fun _=>j))<|q (vS (en:=(eK .u8)) (M:=([x44]:List Int)) j Sz j Iy j j LP (.inl ⟨_,j⟩) j j j j (kC j j) (cu j fun _=>j))<|q (lD j j j j j)<|nl)<|Unw.blk<|us<|g0 j j (q (oMv j j)<|q (oBi j j j j)<|q (aj j j)<|nl)<|Unw.nil<|?_
      cases h
      exact ⟨j,(by kernel_rfl)⟩
     ·refine Go.exit<|ux<|Unw.nil<|?_
      cases h
      exact ⟨j,(by kernel_rfl)⟩
    ·rintro ⟨e,st⟩ hp
     obtain ⟨rq,rfl⟩:∃y,y=o:=⟨o,rfl⟩
     obtain ⟨he,hst⟩:=hp
     obtain rfl:e= .exit 2:=he
     refine Unw.ng<|us<|gs<|g2 OT j j hst (q (oMv j j)<|q (ZY (l:=rq) j LP uF5 uF9 j (kC j j))<|q (aj j j)<|nl)<|us<|Go.ret (Unw.ret ?_)
     cases h
     exact fr Yd j
   ·intro K10
    refine gc h j aC (fun Ba h=>?_) fun Ba h=>?_
    ·obtain ⟨x32,hx32,h⟩:=bs h
     exact g0 j j (q (oMv j j)<|q (oBS (es:=List.map (eK .u8) ([45]:List Int)) j Iy j (ptC j (fxI fx0) j pt0) (cu j fun _=>j))<|q (vS (en:=(eK .u8)) (M:=([45]:List Int)) j hx32 j Iy j j LP (.inl ⟨_,j⟩) j j j j (kC j j) (cu j fun _=>j))<|q (lD j j j j j)<|nl)<|K10 _ ⟨x32,h,(by kernel_rfl)⟩
    ·exact Go.skip<|K10 _ ⟨mG,h,(by kernel_rfl)⟩
theorem IA {s_0:ai} {r:(aG×ai)} (h:ru s_0=some r):FX 90 [.ptr true [(.imm,W 1 (eK .u8) s_0.code),(.imm,I s_0.at_),(.imm,.sc (.int .u64 s_0.seed))]] ([(true,[.im 0 (I r.1.Width),.im 0 (I r.1.Height),.ow 0 2 (List.map af r.1.aH),.ow 0 2 (List.map ah r.1.aA)])],[.ptr true [(.imm,W 1 (eK .u8) r.2.code),(.imm,I r.2.at_),(.imm,.sc (.int .u64 r.2.seed))]]):=by
 unfold ru at h
 refine oP (A:=[(0,M 0)]) (B:=[(0,Od (G 1 (aJ s_0)))]) (nt:=129) rfl rfl Try.func90 rfl rfl rfl rfl ?_
 refine gs<|g0 j j (q (oAl j iH (tkI (tkI (tkN (tkN tk0)))))<|nl)<|us<|gs<|?_
 obtain ⟨x16,hx16,h⟩:=bs h
 refine g0 j j (q (oMv j j)<|q (oCa (xs:=[.v false [.mp 0 0 0],.v false [.im 0 _]]) (vs:=[(false,[.im 0 _])]) (v:=.v false [.im 0 _]) (aQ hx16) (.inl j) j dA j (ppP j j j (ppC j pp0)) j j (pbP j j pb0) j j j)<|q (oBi j j j j)<|q (aj j j)<|nl)<|us<|gs<|?_
 obtain ⟨x19,F8,h⟩:=bs h
 refine g1 j j (mk [(0,M 0),(2,M 2),(3,iv (w64 (1+x16.1)))] [(0,Od (G 1 (aJ x16.2))),(2,Oa [C (I 0),C (I 0),Z (W 2 af ([]:List ae)),Z (W 2 ah ([]:List aB))])]) (q (oMv j j)<|q (oCa (xs:=[.v false [.mp 0 0 0],.v false [.im 0 _]]) (vs:=[(false,[.im 0 _])]) (v:=.v false [.im 0 _]) (aQ F8) (.inl j) j dA j (ppP j j j (ppC j pp0)) j j (pbP j j pb0) j j j)<|q (oBi j j j j)<|q (aj j j)<|nl)<|us<|gs<|g1 j j (mk [(0,M 0),(2,M 2),(3,iv (w64 (1+x16.1))),(4,iv (w64 (1+x19.1)))] [(0,Od (G 1 (aJ x19.2))),(2,Oa [C (I 0),C (I 0),Z (W 2 af ([]:List ae)),Z (W 2 ah ([]:List aB))])]) (q (oBS (es:=List.map eI ([0]:List Int)) j iq j (ptC j (fxI fx0) j pt0) (cu j fun _=>j))<|q (lD j j j j j)<|nl)<|us<|gs<|g0 j j (q (oBS (es:=List.map eI ([0]:List Int)) j iq j (ptC j (fxI fx0) j pt0) (cu j fun _=>j))<|q (lD j j j j j)<|nl)<|us<|gs<|gs<|g0 j j (q (aj j j)<|nl)<|us<|Go.block<|?_
 obtain ⟨o,hl,h⟩:=bs h
 refine gl c90 j _ (fun (s:(Int×(List Int)×Int×Int×(List Int)))=>match s with | (Dq,yI,yJ,yK,yL)=>mk [(0,M 0),(2,M 2),(3,iv (w64 (1+x16.1))),(4,iv (w64 (1+x19.1))),(5,H 5 0),(6,H 6 0),(7,iv Dq)] [(0,Od [Ct 1 (W 1 (eK .u8) yI),C (I yJ),C (.sc (.int .u64 yK))]),(2,Oa [C (I 0),C (I 0),Z (W 2 af ([]:List ae)),Z (W 2 ah ([]:List aB))]),(5,Oc [Z (W 1 eI yL)]),(6,Oc [Z (W 1 eI ([0]:List Int))])]) (fun (o:((List Int)×Int×Int×(List Int))) (p:Ex×St)=>match o with | (ug,uh,uj,fV)=>p.1= .exit 0∧p.2.norm ([0,2,3,4,5,6],[0,2,5,6])=mk [(0,M 0),(2,M 2),(3,iv (w64 (1+x16.1))),(4,iv (w64 (1+x19.1))),(5,H 5 0),(6,H 6 0)] [(0,Od [Ct 1 (W 1 (eK .u8) ug),C (I uh),C (.sc (.int .u64 uj))]),(2,Oa [C (I 0),C (I 0),Z (W 2 af ([]:List ae)),Z (W 2 ah ([]:List aB))]),(5,Oc [Z (W 1 eI fV)]),(6,Oc [Z (W 1 eI ([0]:List Int))])]) hl (by kernel_rfl) ?_ ?_ ?_
 ·intro o p hp e
  obtain ⟨ug,uh,uj,fV⟩:=o
  exact nomatch (hp.1.symm.trans e)
 ·rintro ⟨Dq,yI,yJ,yK,yL⟩ o h
  unfold iD at h
  dsimp only at h
  refine gs<|gs<|g0 j j (q (oMv j j)<|q (oMv j j)<|q (oBi j j j j)<|nl)<|us<|gc h j aC (fun F9 h=>?_) fun F9 h=>?_
  ·refine Go.skip<|us<|gs<|Go.block<|?_
   obtain ⟨x31,hx31,h⟩:=bs h
   obtain ⟨x35,LU,h⟩:=bs h
   obtain ⟨x38,hx38,h⟩:=bs h
   refine gd c90 j j j j (mk [(0,M 0),(2,M 2),(3,iv (w64 (1+x16.1))),(4,iv (w64 (1+x19.1))),(5,H 5 0),(6,H 6 0),(7,iv Dq)] [(0,Od (G 1 (aJ x35.2))),(2,Oa [C (I 0),C (I 0),Z (W 2 af ([]:List ae)),Z (W 2 ah ([]:List aB))]),(5,Oc [Z (W 1 eI x38)]),(6,Oc [Z (W 1 eI ([0]:List Int))])]) (t j j (oMv j j)<|t j j (oMv j j)<|t j j (oMv j j)<|t j j (oMv j j)<|sK (O:=[5]) j j j (dN z90 j (xH j hx31 iq j j j j))<|sK (O:=[5]) j j j (dN z90 j (Dk (cs:=[.im 0 _]) j tF2 j j j j (kz hx31) j j))<|t j j (oBi j j j j)<|sS (dN z90 j (oCa (xs:=[.v false [.mp 0 0 0],.v false [.im 0 _]]) (vs:=[(false,[.im 0 _])]) (v:=.v false [.im 0 _]) (aQ LU) (.inl j) j dA j (ppP j j j (ppC j pp0)) j j (pbP j j pb0) j j j)) (kY ⟨j,trivial⟩ (kY ⟨j,trivial⟩ trivial)) (t j j (oBi j j j j)<|sS (dN z90 j (oBS (es:=List.map eI ([(w64 ((w64 (x31+20))+x35.1))]:List Int)) j iq j (ptC j (fxI fx0) j pt0) (cu j fun _=>j))) (kN j (kN j trivial)) (sS (dN z90 j (vS (en:=eI) (M:=([(w64 ((w64 (x31+20))+x35.1))]:List Int)) j hx38 j iq j j xI (.inl ⟨_,j⟩) j j j j (kC j j) (cu j fun _=>j))) (kN j (kN j trivial)) (sS (dN z90 j (lD j j j j j)) (kN j (kN j trivial)) (sD (by kernel_rfl))))))<|Unw.blk<|us<|g0 j j (q (oMv j j)<|q (oBi j j j j)<|q (aj j j)<|nl)<|Unw.nil<|?_
   cases h
   exact ⟨j,(by kernel_rfl)⟩
  ·refine Go.exit<|ux<|Unw.nil<|?_
   cases h
   exact ⟨j,(by kernel_rfl)⟩
 ·rintro ⟨e,st⟩ hp
  obtain ⟨ug,uh,uj,fV⟩:=o
  dsimp only at h
  obtain ⟨he,hst⟩:=hp
  obtain rfl:e= .exit 0:=he
  refine Unw.ng<|us<|gs<|gs<|g2 c90 j j hst (q (aj j j)<|nl)<|us<|Go.block<|?_
  obtain ⟨o,hl,h⟩:=bs h
  refine gl c90 j _ (fun (s:(Int×(List Int)×Int×Int×(List Int)))=>match s with | (zx,wu,wz,wB,vH)=>mk [(0,M 0),(2,M 2),(3,iv (w64 (1+x16.1))),(4,iv (w64 (1+x19.1))),(5,H 5 0),(6,H 6 0),(8,iv zx)] [(0,Od [Ct 1 (W 1 (eK .u8) wu),C (I wz),C (.sc (.int .u64 wB))]),(2,Oa [C (I 0),C (I 0),Z (W 2 af ([]:List ae)),Z (W 2 ah ([]:List aB))]),(5,Oc [Z (W 1 eI fV)]),(6,Oc [Z (W 1 eI vH)])]) (fun (o:((List Int)×Int×Int×(List Int))) (p:Ex×St)=>match o with | (eH,eP,eU,gG)=>p.1= .exit 2∧p.2.norm ([2,3,4,5,6],[0,2,5,6])=mk [(2,M 2),(3,iv (w64 (1+x16.1))),(4,iv (w64 (1+x19.1))),(5,H 5 0),(6,H 6 0)] [(0,Od [Ct 1 (W 1 (eK .u8) eH),C (I eP),C (.sc (.int .u64 eU))]),(2,Oa [C (I 0),C (I 0),Z (W 2 af ([]:List ae)),Z (W 2 ah ([]:List aB))]),(5,Oc [Z (W 1 eI fV)]),(6,Oc [Z (W 1 eI gG)])]) hl (by kernel_rfl) ?_ ?_ ?_
  ·intro o p hp e
   obtain ⟨eH,eP,eU,gG⟩:=o
   exact nomatch (hp.1.symm.trans e)
  ·rintro ⟨zx,wu,wz,wB,vH⟩ o h
   unfold sJ at h
   dsimp only at h
   refine gs<|gs<|g0 j j (q (oMv j j)<|q (oMv j j)<|q (oBi j j j j)<|nl)<|us<|gc h j aC (fun hc25 h=>?_) fun hc25 h=>?_
   ·refine Go.skip<|us<|gs<|Go.block<|?_
    obtain ⟨x47,Sz,h⟩:=bs h
    obtain ⟨x51,acv,h⟩:=bs h
    obtain ⟨x54,Za,h⟩:=bs h
    refine gd c90 j j j j (mk [(0,M 0),(2,M 2),(3,iv (w64 (1+x16.1))),(4,iv (w64 (1+x19.1))),(5,H 5 0),(6,H 6 0),(8,iv zx)] [(0,Od (G 1 (aJ x51.2))),(2,Oa [C (I 0),C (I 0),Z (W 2 af ([]:List ae)),Z (W 2 ah ([]:List aB))]),(5,Oc [Z (W 1 eI fV)]),(6,Oc [Z (W 1 eI x54)])]) (t j j (oMv j j)<|t j j (oMv j j)<|t j j (oMv j j)<|t j j (oMv j j)<|sK (O:=[6]) j j j (dN z90 j (xH j Sz iq j j j j))<|sK (O:=[6]) j j j (dN z90 j (Dk (cs:=[.im 0 _]) j tF2 j j j j (kz Sz) j j))<|t j j (oBi j j j j)<|sS (dN z90 j (oCa (xs:=[.v false [.mp 0 0 0],.v false [.im 0 _]]) (vs:=[(false,[.im 0 _])]) (v:=.v false [.im 0 _]) (aQ acv) (.inl j) j dA j (ppP j j j (ppC j pp0)) j j (pbP j j pb0) j j j)) (kY ⟨j,trivial⟩ (kY ⟨j,trivial⟩ trivial)) (t j j (oBi j j j j)<|sS (dN z90 j (oBS (es:=List.map eI ([(w64 ((w64 (x47+20))+x51.1))]:List Int)) j iq j (ptC j (fxI fx0) j pt0) (cu j fun _=>j))) (kN j (kN j trivial)) (sS (dN z90 j (vS (en:=eI) (M:=([(w64 ((w64 (x47+20))+x51.1))]:List Int)) j Za j iq j j xI (.inl ⟨_,j⟩) j j j j (kC j j) (cu j fun _=>j))) (kN j (kN j trivial)) (sS (dN z90 j (lD j j j j j)) (kN j (kN j trivial)) (sD (by kernel_rfl))))))<|Unw.blk<|us<|g0 j j (q (oMv j j)<|q (oBi j j j j)<|q (aj j j)<|nl)<|Unw.nil<|?_
    cases h
    exact ⟨j,(by kernel_rfl)⟩
   ·refine Go.exit<|ux<|Unw.nil<|?_
    cases h
    exact ⟨j,(by kernel_rfl)⟩
  ·rintro ⟨e,st⟩ hp
   obtain ⟨eH,eP,eU,gG⟩:=o
   dsimp only at h
   obtain ⟨he,hst⟩:=hp
   obtain rfl:e= .exit 2:=he
   refine Unw.ng<|us<|gs<|?_
   obtain ⟨x57,IB,h⟩:=bs h
   obtain ⟨x61,aaZ,h⟩:=bs h
   refine gd c90 j j j hst (mk [(2,M 2),(3,iv (w64 (1+x16.1))),(4,iv (w64 (1+x19.1))),(5,H 5 0),(6,H 6 0),(9,M 9)] [(0,Od [Ct 1 (W 1 (eK .u8) eH),C (I eP),C (.sc (.int .u64 eU))]),(2,Oa [C (I 0),C (I 0),Z (W 2 af ([]:List ae)),Z (W 2 ah ([]:List aB))]),(5,Oc [Z (W 1 eI fV)]),(6,Oc [Z (W 1 eI gG)]),(9,Oa [C (I x57),C (I x61),Z (W 2 af ([]:List ae)),Z (W 2 ah ([]:List aB))])]) (t j j (oMv j j)<|t j j (oMv j j)<|t j j (xH j IB iq j j j j)<|t j j (Dk (cs:=[.im 0 _]) j tF2 j j j j (kz IB) j j)<|t j j (oMv j j)<|t j j (oMv j j)<|t j j (xH j aaZ iq j j j j)<|t j j (Dk (cs:=[.im 0 _]) j tF2 j j j j (kz aaZ) j j)<|sF (dN z90 j (oBu (cs:=[.im 0 _,.im 0 _,.nil,.nil]) j Xk j)) trivial (sS (dN z90 j (oAl j iH (tkI (tkI (tkN (tkN tk0)))))) trivial (sS (dN z90 j (oSt iH j j j (tkI (tkI (tkN (tkN tk0)))) j j j)) trivial (sD (by kernel_rfl)))) (sS (dN z90 j (oAl j iH (tkI (tkI (tkN (tkN tk0)))))) trivial (sS (dN z90 j (oBu (cs:=[.im 0 _,.im 0 _,.nil,.nil]) j Xk j)) trivial (sS (dN z90 j (oSt iH j j j (tkI (tkI (tkN (tkN tk0)))) j j j)) trivial (sD (by kernel_rfl))))))<|us<|gs<|gs<|g0 j j (q (aj j j)<|nl)<|us<|Go.block<|?_
   obtain ⟨o,hl,h⟩:=bs h
   refine gl c90 j _ (fun (s:(Int×(List ae)))=>match s with | (oU,wo)=>mk [(2,M 2),(3,iv (w64 (1+x16.1))),(4,iv (w64 (1+x19.1))),(5,H 5 0),(6,H 6 0),(9,M 9),(10,iv oU)] [(0,Od [Ct 1 (W 1 (eK .u8) eH),C (I eP),C (.sc (.int .u64 eU))]),(2,Oa [C (I 0),C (I 0),Z (W 2 af ([]:List ae)),Z (W 2 ah ([]:List aB))]),(5,Oc [Z (W 1 eI fV)]),(6,Oc [Z (W 1 eI gG)]),(9,Oa [C (I x57),C (I x61),Z (W 2 af wo),Z (W 2 ah ([]:List aB))])]) (fun (kJ:(List ae)) (p:Ex×St)=>p.1= .exit 4∧p.2.norm ([2,3,4,9],[0,2,9])=mk [(2,M 2),(3,iv (w64 (1+x16.1))),(4,iv (w64 (1+x19.1))),(9,M 9)] [(0,Od [Ct 1 (W 1 (eK .u8) eH),C (I eP),C (.sc (.int .u64 eU))]),(2,Oa [C (I 0),C (I 0),Z (W 2 af ([]:List ae)),Z (W 2 ah ([]:List aB))]),(9,Oa [C (I x57),C (I x61),Z (W 2 af kJ),Z (W 2 ah ([]:List aB))])]) hl (by kernel_rfl) ?_ ?_ ?_
   ·intro o p hp e
    exact nomatch (hp.1.symm.trans e)
   ·rintro ⟨oU,wo⟩ o h
    unfold jG at h
    dsimp only at h
    refine gs<|gs<|g0 j j (q (oMv j j)<|q (oMv j j)<|q (oBi j j j j)<|nl)<|us<|gc h j aC (fun hc21 h=>?_) fun hc21 h=>?_
    ·refine Go.skip<|us<|gs<|Go.block<|gs<|g0 j j (q (aj j j)<|nl)<|us<|Go.block<|?_
     obtain ⟨o,hl,h⟩:=bs h
     refine gl c90 j _ (fun (s:(Int×(List ae)))=>match s with | (vY,vZ)=>mk [(2,M 2),(3,iv (w64 (1+x16.1))),(4,iv (w64 (1+x19.1))),(5,H 5 0),(6,H 6 0),(9,M 9),(10,iv oU),(11,iv vY)] [(0,Od [Ct 1 (W 1 (eK .u8) eH),C (I eP),C (.sc (.int .u64 eU))]),(2,Oa [C (I 0),C (I 0),Z (W 2 af ([]:List ae)),Z (W 2 ah ([]:List aB))]),(5,Oc [Z (W 1 eI fV)]),(6,Oc [Z (W 1 eI gG)]),(9,Oa [C (I x57),C (I x61),Z (W 2 af vZ),Z (W 2 ah ([]:List aB))])]) (fun (vg:(List ae)) (p:Ex×St)=>p.1= .exit 6∧p.2.norm ([2,3,4,5,6,9,10],[0,2,5,6,9])=mk [(2,M 2),(3,iv (w64 (1+x16.1))),(4,iv (w64 (1+x19.1))),(5,H 5 0),(6,H 6 0),(9,M 9),(10,iv oU)] [(0,Od [Ct 1 (W 1 (eK .u8) eH),C (I eP),C (.sc (.int .u64 eU))]),(2,Oa [C (I 0),C (I 0),Z (W 2 af ([]:List ae)),Z (W 2 ah ([]:List aB))]),(5,Oc [Z (W 1 eI fV)]),(6,Oc [Z (W 1 eI gG)]),(9,Oa [C (I x57),C (I x61),Z (W 2 af vg),Z (W 2 ah ([]:List aB))])]) hl (by kernel_rfl) ?_ ?_ ?_
     ·intro o p hp e
      exact nomatch (hp.1.symm.trans e)
     ·rintro ⟨vY,vZ⟩ o h
      unfold jF at h
      dsimp only at h
      refine gs<|gs<|g0 j j (q (oMv j j)<|q (oMv j j)<|q (oBi j j j j)<|nl)<|us<|gc h j aC (fun hc24 h=>?_) fun hc24 h=>?_
      ·refine Go.skip<|us<|gs<|Go.block<|?_
       obtain ⟨x78,SA,h⟩:=bs h
       obtain ⟨x82,SC,h⟩:=bs h
       obtain ⟨x86,XD,h⟩:=bs h
       refine gd c90 j j j j (mk [(2,M 2),(3,iv (w64 (1+x16.1))),(4,iv (w64 (1+x19.1))),(5,H 5 0),(6,H 6 0),(9,M 9),(10,iv oU),(11,iv vY)] [(0,Od [Ct 1 (W 1 (eK .u8) eH),C (I eP),C (.sc (.int .u64 eU))]),(2,Oa [C (I 0),C (I 0),Z (W 2 af ([]:List ae)),Z (W 2 ah ([]:List aB))]),(5,Oc [Z (W 1 eI fV)]),(6,Oc [Z (W 1 eI gG)]),(9,Oa [C (I x57),C (I x61),Z (W 2 af x86),Z (W 2 ah ([]:List aB))])]) (t j j (oMv j j)<|t j j (oMv j j)<|t j j (xH j SA iq j j j j)<|t j j (Dk (cs:=[.im 0 _]) j tF2 j j j j (kz SA) j j)<|t j j (oMv j j)<|t j j (oMv j j)<|t j j (xH j SC iq j j j j)<|t j j (Dk (cs:=[.im 0 _]) j tF2 j j j j (kz SC) j j)<|sK (O:=[9]) j j j (dN z90 j (oFA (r':=.mp 9 0 2) j o6 j j))<|sK (O:=[9]) j j j (dN z90 j (oLd (cs:=[.own 9 0 2]) j AZ j j))<|sS (dN z90 j (oBu (cs:=[.im 0 _,.im 0 _]) j QH j)) (kY ⟨j,trivial⟩ (kY ⟨j,trivial⟩ trivial)) (sS (dN z90 j (oBS (es:=List.map af ([(⟨x78,x82⟩:ae)]:List ae)) j uN j (ptC j (fxI (fxI fx0)) j pt0) (cu j fun _=>j))) (kY ⟨j,trivial⟩ (kY ⟨j,trivial⟩ trivial)) (sS (dN z90 j (vS (en:=af) (M:=([(⟨x78,x82⟩:ae)]:List ae)) j XD j uN j j BU (.inl ⟨_,j⟩) j j j j (kC j j) (cu j fun _=>j))) (kN j (kN j trivial)) (t j j (oFA (r':=.mp 9 0 2) j o6 j j)<|sS (dN z90 j (oSt AZ j j j (tkO j j tk0) j j j)) (kN j (kN j trivial)) (sD (by kernel_rfl))))))<|Unw.blk<|us<|g0 j j (q (oMv j j)<|q (oBi j j j j)<|q (aj j j)<|nl)<|Unw.nil<|?_
       cases h
       exact ⟨j,(by kernel_rfl)⟩
      ·refine Go.exit<|ux<|Unw.nil<|?_
       cases h
       exact ⟨j,(by kernel_rfl)⟩
     ·rintro ⟨e,st⟩ hp
      obtain ⟨vg,rfl⟩:∃y,y=o:=⟨o,rfl⟩
      obtain ⟨he,hst⟩:=hp
      obtain rfl:e= .exit 6:=he
      refine Unw.ng<|Unw.blk<|us<|g2 c90 j j hst (q (oMv j j)<|q (oBi j j j j)<|q (aj j j)<|nl)<|Unw.nil<|?_
      cases h
      exact ⟨j,(by kernel_rfl)⟩
    ·refine Go.exit<|ux<|Unw.nil<|?_
     cases h
     exact ⟨j,(by kernel_rfl)⟩
   ·rintro ⟨e,st⟩ hp
    obtain ⟨kJ,rfl⟩:∃y,y=o:=⟨o,rfl⟩
    obtain ⟨he,hst⟩:=hp
    obtain rfl:e= .exit 4:=he
    refine Unw.ng<|us<|gs<|gs<|g2 c90 j j hst (q (aj j j)<|nl)<|us<|Go.block<|?_
    obtain ⟨o,hl,h⟩:=bs h
    refine gl c90 j _ (fun (s:(Int×(List aB)))=>match s with | (aZ,vX)=>mk [(2,M 2),(3,iv (w64 (1+x16.1))),(4,iv (w64 (1+x19.1))),(9,M 9),(12,iv aZ)] [(0,Od [Ct 1 (W 1 (eK .u8) eH),C (I eP),C (.sc (.int .u64 eU))]),(2,Oa [C (I 0),C (I 0),Z (W 2 af ([]:List ae)),Z (W 2 ah ([]:List aB))]),(9,Oa [C (I x57),C (I x61),Z (W 2 af kJ),Z (W 2 ah vX)])]) (fun (vk:(List aB)) (p:Ex×St)=>p.1= .exit 8∧p.2.norm ([2,9],[0,2,9])=mk [(2,M 2),(9,M 9)] [(0,Od [Ct 1 (W 1 (eK .u8) eH),C (I eP),C (.sc (.int .u64 eU))]),(2,Oa [C (I 0),C (I 0),Z (W 2 af ([]:List ae)),Z (W 2 ah ([]:List aB))]),(9,Oa [C (I x57),C (I x61),Z (W 2 af kJ),Z (W 2 ah vk)])]) hl (by kernel_rfl) ?_ ?_ ?_
    ·intro o p hp e
     exact nomatch (hp.1.symm.trans e)
    ·rintro ⟨aZ,vX⟩ o h
     unfold jE at h
     dsimp only at h
     refine gs<|gs<|g0 j j (q (oMv j j)<|q (oMv j j)<|q (oBi j j j j)<|nl)<|us<|gc h j aC (fun hc17 h=>?_) fun hc17 h=>?_
     ·refine Go.skip<|us<|gs<|Go.block<|gs<|g0 j j (q (aj j j)<|nl)<|us<|Go.block<|?_
      obtain ⟨o,hl,h⟩:=bs h
      refine gl c90 j _ (fun (s:(Int×(List aB)))=>match s with | (bg,vW)=>mk [(2,M 2),(3,iv (w64 (1+x16.1))),(4,iv (w64 (1+x19.1))),(9,M 9),(12,iv aZ),(13,iv bg)] [(0,Od [Ct 1 (W 1 (eK .u8) eH),C (I eP),C (.sc (.int .u64 eU))]),(2,Oa [C (I 0),C (I 0),Z (W 2 af ([]:List ae)),Z (W 2 ah ([]:List aB))]),(9,Oa [C (I x57),C (I x61),Z (W 2 af kJ),Z (W 2 ah vW)])]) (fun (tJ:(List aB)) (p:Ex×St)=>p.1= .exit 10∧p.2.norm ([2,3,4,9,12],[0,2,9])=mk [(2,M 2),(3,iv (w64 (1+x16.1))),(4,iv (w64 (1+x19.1))),(9,M 9),(12,iv aZ)] [(0,Od [Ct 1 (W 1 (eK .u8) eH),C (I eP),C (.sc (.int .u64 eU))]),(2,Oa [C (I 0),C (I 0),Z (W 2 af ([]:List ae)),Z (W 2 ah ([]:List aB))]),(9,Oa [C (I x57),C (I x61),Z (W 2 af kJ),Z (W 2 ah tJ)])]) hl (by kernel_rfl) ?_ ?_ ?_
      ·intro o p hp e
       exact nomatch (hp.1.symm.trans e)
      ·rintro ⟨bg,vW⟩ o h
       unfold jD at h
       dsimp only at h
       refine gs<|gs<|g0 j j (q (oMv j j)<|q (oMv j j)<|q (oBi j j j j)<|nl)<|us<|gc h j aC (fun oD h=>?_) fun oD h=>?_
       ·refine Go.skip<|us<|gs<|Go.block<|gs<|g0 j j (q (oMv j j)<|q (oMv j j)<|q (oBi j j j j)<|q (oBi j j j j)<|q (oMv j j)<|q (oBi j j j j)<|q (aj j j)<|nl)<|us<|?_
        obtain ⟨x107,QT,h⟩:=bs h
        obtain ⟨aae,Yn,h⟩:=bs h
        obtain ⟨UM,NM,h⟩:=bs h
        obtain ⟨NG,Vb,h⟩:=bs h
        obtain ⟨YZ,Vd,h⟩:=bs h
        refine gd c90 j j j j (mk [(2,M 2),(3,iv (w64 (1+x16.1))),(4,iv (w64 (1+x19.1))),(9,M 9),(12,iv aZ),(13,iv bg)] [(0,Od [Ct 1 (W 1 (eK .u8) eH),C (I eP),C (.sc (.int .u64 eU))]),(2,Oa [C (I 0),C (I 0),Z (W 2 af ([]:List ae)),Z (W 2 ah ([]:List aB))]),(9,Oa [C (I x57),C (I x61),Z (W 2 af kJ),Z (W 2 ah YZ)])]) (t j j (oMv j j)<|t j j (oMv j j)<|t j j (oMv j j)<|t j j (oMv j j)<|t j j (oBi j j j j)<|t j j (oMv j j)<|t j j (oMv j j)<|t j j (oBi j j j j)<|t j j (oBi j j j j)<|t j j (oMv j j)<|t j j (oMv j j)<|t j j (oBi j j j j)<|t j j (oBi j j j j)<|sK (O:=[9]) j j j (dN z90 j (oFA (r':=.mp 9 0 3) j kF j j))<|sK (O:=[9]) j j j (dN z90 j (oLd (cs:=[.own 9 0 3]) j uO j j))<|sF (dN z90 j (oCa (xs:=[.v false [.im 0 _]]) (vs:=[(false,[.im 0 _])]) (v:=.v false [.im 0 _]) (qo QT) (.inl j) j Eo j (ppC j pp0) j j pb0 j j j)) (kY ⟨j,trivial⟩ (kY ⟨j,trivial⟩ trivial)) (t j j (OA j Yn j j)<|sF (dN z90 j (oCa (xs:=[.v false [.im 0 _]]) (vs:=[(false,[.im 0 _])]) (v:=.v false [.im 0 _]) (qo NM) (.inl j) j Eo j (ppC j pp0) j j pb0 j j j)) (kY ⟨j,trivial⟩ (kY ⟨j,trivial⟩ trivial)) (t j j (OA j Vb j j)<|sS (dN z90 j (oBS (es:=List.map eI ([(w64 ((w64 (aZ* (w64 ((w64 (1+x16.1))+1))))+bg)),(w64 ((w64 ((w64 (aZ* (w64 ((w64 (1+x16.1))+1))))+bg))+1)),(w64 ((w64 ((w64 ((w64 (aZ* (w64 ((w64 (1+x16.1))+1))))+bg))+(w64 (1+x16.1))))+2)),(w64 ((w64 ((w64 ((w64 (aZ* (w64 ((w64 (1+x16.1))+1))))+bg))+(w64 (1+x16.1))))+1))]:List Int)) j iq j (ptC j (fxI fx0) j (ptC j (fxI fx0) j (ptC j (fxI fx0) j (ptC j (fxI fx0) j pt0)))) (cu j fun _=>j))) (kY ⟨j,trivial⟩ (kY ⟨j,trivial⟩ trivial)) (sS (dN z90 j (oBu (cs:=[.im 0 _,.own 123 0 0]) j JZ j)) (kY ⟨j,trivial⟩ (kY ⟨j,trivial⟩ trivial)) (sS (dN z90 j (oBS (es:=List.map ah ([(⟨NG,([(w64 ((w64 (aZ* (w64 ((w64 (1+x16.1))+1))))+bg)),(w64 ((w64 ((w64 (aZ* (w64 ((w64 (1+x16.1))+1))))+bg))+1)),(w64 ((w64 ((w64 ((w64 (aZ* (w64 ((w64 (1+x16.1))+1))))+bg))+(w64 (1+x16.1))))+2)),(w64 ((w64 ((w64 ((w64 (aZ* (w64 ((w64 (1+x16.1))+1))))+bg))+(w64 (1+x16.1))))+1))]:List Int)⟩:aB)]:List aB)) j vF j (ptC j (fxI (fxO j j fx0)) j pt0) (qZ j))) (kY ⟨j,trivial⟩ (kY ⟨j,trivial⟩ trivial)) (sS (dN z90 j (vS (en:=ah) (M:=([(⟨NG,([(w64 ((w64 (aZ* (w64 ((w64 (1+x16.1))+1))))+bg)),(w64 ((w64 ((w64 (aZ* (w64 ((w64 (1+x16.1))+1))))+bg))+1)),(w64 ((w64 ((w64 ((w64 (aZ* (w64 ((w64 (1+x16.1))+1))))+bg))+(w64 (1+x16.1))))+2)),(w64 ((w64 ((w64 ((w64 (aZ* (w64 ((w64 (1+x16.1))+1))))+bg))+(w64 (1+x16.1))))+1))]:List Int)⟩:aB)]:List aB)) j Vd j vF j j Ff (.inl ⟨_,j⟩) j j j j (kC j j) (qZ j))) (kN j (kN j trivial)) (t j j (oFA (r':=.mp 9 0 3) j kF j j)<|sS (dN z90 j (oSt uO j j j (tkO j j tk0) j j j)) (kN j (kN j trivial)) (sD (by kernel_rfl))))))) (sS (dN z90 j (oBS (es:=List.map eI ([(w64 ((w64 (aZ* (w64 ((w64 (1+x16.1))+1))))+bg)),(w64 ((w64 ((w64 (aZ* (w64 ((w64 (1+x16.1))+1))))+bg))+1)),(w64 ((w64 ((w64 ((w64 (aZ* (w64 ((w64 (1+x16.1))+1))))+bg))+(w64 (1+x16.1))))+2)),(w64 ((w64 ((w64 ((w64 (aZ* (w64 ((w64 (1+x16.1))+1))))+bg))+(w64 (1+x16.1))))+1))]:List Int)) j iq j (ptC j (fxI fx0) j (ptC j (fxI fx0) j (ptC j (fxI fx0) j (ptC j (fxI fx0) j pt0)))) (cu j fun _=>j))) (kY ⟨j,trivial⟩ (kY ⟨j,trivial⟩ trivial)) (sS (dN z90 j (oCa (xs:=[.v false [.im 0 _]]) (vs:=[(false,[.im 0 _])]) (v:=.v false [.im 0 _]) (qo NM) (.inl j) j Eo j (ppC j pp0) j j pb0 j j j)) (kY ⟨j,trivial⟩ (kY ⟨j,trivial⟩ trivial)) (t j j (OA j Vb j j)<|sS (dN z90 j (oBu (cs:=[.im 0 _,.own 123 0 0]) j JZ j)) (kY ⟨j,trivial⟩ (kY ⟨j,trivial⟩ trivial)) (sS (dN z90 j (oBS (es:=List.map ah ([(⟨NG,([(w64 ((w64 (aZ* (w64 ((w64 (1+x16.1))+1))))+bg)),(w64 ((w64 ((w64 (aZ* (w64 ((w64 (1+x16.1))+1))))+bg))+1)),(w64 ((w64 ((w64 ((w64 (aZ* (w64 ((w64 (1+x16.1))+1))))+bg))+(w64 (1+x16.1))))+2)),(w64 ((w64 ((w64 ((w64 (aZ* (w64 ((w64 (1+x16.1))+1))))+bg))+(w64 (1+x16.1))))+1))]:List Int)⟩:aB)]:List aB)) j vF j (ptC j (fxI (fxO j j fx0)) j pt0) (qZ j))) (kY ⟨j,trivial⟩ (kY ⟨j,trivial⟩ trivial)) (sS (dN z90 j (vS (en:=ah) (M:=([(⟨NG,([(w64 ((w64 (aZ* (w64 ((w64 (1+x16.1))+1))))+bg)),(w64 ((w64 ((w64 (aZ* (w64 ((w64 (1+x16.1))+1))))+bg))+1)),(w64 ((w64 ((w64 ((w64 (aZ* (w64 ((w64 (1+x16.1))+1))))+bg))+(w64 (1+x16.1))))+2)),(w64 ((w64 ((w64 ((w64 (aZ* (w64 ((w64 (1+x16.1))+1))))+bg))+(w64 (1+x16.1))))+1))]:List Int)⟩:aB)]:List aB)) j Vd j vF j j Ff (.inl ⟨_,j⟩) j j j j (kC j j) (qZ j))) (kN j (kN j trivial)) (t j j (oFA (r':=.mp 9 0 3) j kF j j)<|sS (dN z90 j (oSt uO j j j (tkO j j tk0) j j j)) (kN j (kN j trivial)) (sD (by kernel_rfl))))))))) (sS (dN z90 j (oBS (es:=List.map eI ([(w64 ((w64 (aZ* (w64 ((w64 (1+x16.1))+1))))+bg)),(w64 ((w64 ((w64 (aZ* (w64 ((w64 (1+x16.1))+1))))+bg))+1)),(w64 ((w64 ((w64 ((w64 (aZ* (w64 ((w64 (1+x16.1))+1))))+bg))+(w64 (1+x16.1))))+2)),(w64 ((w64 ((w64 ((w64 (aZ* (w64 ((w64 (1+x16.1))+1))))+bg))+(w64 (1+x16.1))))+1))]:List Int)) j iq j (ptC j (fxI fx0) j (ptC j (fxI fx0) j (ptC j (fxI fx0) j (ptC j (fxI fx0) j pt0)))) (cu j fun _=>j))) (kY ⟨j,trivial⟩ (kY ⟨j,trivial⟩ trivial)) (sS (dN z90 j (oCa (xs:=[.v false [.im 0 _]]) (vs:=[(false,[.im 0 _])]) (v:=.v false [.im 0 _]) (qo QT) (.inl j) j Eo j (ppC j pp0) j j pb0 j j j)) (kY ⟨j,trivial⟩ (kY ⟨j,trivial⟩ trivial)) (t j j (OA j Yn j j)<|sS (dN z90 j (oCa (xs:=[.v false [.im 0 _]]) (vs:=[(false,[.im 0 _])]) (v:=.v false [.im 0 _]) (qo NM) (.inl j) j Eo j (ppC j pp0) j j pb0 j j j)) (kY ⟨j,trivial⟩ (kY ⟨j,trivial⟩ trivial)) (t j j (OA j Vb j j)<|sS (dN z90 j (oBu (cs:=[.im 0 _,.own 123 0 0]) j JZ j)) (kY ⟨j,trivial⟩ (kY ⟨j,trivial⟩ trivial)) (sS (dN z90 j (oBS (es:=List.map ah ([(⟨NG,([(w64 ((w64 (aZ* (w64 ((w64 (1+x16.1))+1))))+bg)),(w64 ((w64 ((w64 (aZ* (w64 ((w64 (1+x16.1))+1))))+bg))+1)),(w64 ((w64 ((w64 ((w64 (aZ* (w64 ((w64 (1+x16.1))+1))))+bg))+(w64 (1+x16.1))))+2)),(w64 ((w64 ((w64 ((w64 (aZ* (w64 ((w64 (1+x16.1))+1))))+bg))+(w64 (1+x16.1))))+1))]:List Int)⟩:aB)]:List aB)) j vF j (ptC j (fxI (fxO j j fx0)) j pt0) (qZ j))) (kY ⟨j,trivial⟩ (kY ⟨j,trivial⟩ trivial)) (sS (dN z90 j (vS (en:=ah) (M:=([(⟨NG,([(w64 ((w64 (aZ* (w64 ((w64 (1+x16.1))+1))))+bg)),(w64 ((w64 ((w64 (aZ* (w64 ((w64 (1+x16.1))+1))))+bg))+1)),(w64 ((w64 ((w64 ((w64 (aZ* (w64 ((w64 (1+x16.1))+1))))+bg))+(w64 (1+x16.1))))+2)),(w64 ((w64 ((w64 ((w64 (aZ* (w64 ((w64 (1+x16.1))+1))))+bg))+(w64 (1+x16.1))))+1))]:List Int)⟩:aB)]:List aB)) j Vd j vF j j Ff (.inl ⟨_,j⟩) j j j j (kC j j) (qZ j))) (kN j (kN j trivial)) (t j j (oFA (r':=.mp 9 0 3) j kF j j)<|sS (dN z90 j (oSt uO j j j (tkO j j tk0) j j j)) (kN j (kN j trivial)) (sD (by kernel_rfl))))))))))<|Unw.blk<|us<|g0 j j (q (oMv j j)<|q (oBi j j j j)<|q (aj j j)<|nl)<|Unw.nil<|?_
        cases h
        exact ⟨j,(by kernel_rfl)⟩
       ·refine Go.exit<|ux<|Unw.nil<|?_
        cases h
        exact ⟨j,(by kernel_rfl)⟩
      ·rintro ⟨e,st⟩ hp
       obtain ⟨tJ,rfl⟩:∃y,y=o:=⟨o,rfl⟩
       obtain ⟨he,hst⟩:=hp
       obtain rfl:e= .exit 10:=he
       refine Unw.ng<|Unw.blk<|us<|g2 c90 j j hst (q (oMv j j)<|q (oBi j j j j)<|q (aj j j)<|nl)<|Unw.nil<|?_
       cases h
       exact ⟨j,(by kernel_rfl)⟩
     ·refine Go.exit<|ux<|Unw.nil<|?_
      cases h
      exact ⟨j,(by kernel_rfl)⟩
    ·rintro ⟨e,st⟩ hp
     obtain ⟨vk,rfl⟩:∃y,y=o:=⟨o,rfl⟩
     obtain ⟨he,hst⟩:=hp
     obtain rfl:e= .exit 8:=he
     refine Unw.ng<|us<|gs<|g2 c90 j j hst (q (oLd (cs:=[.im 0 _,.im 0 _,.own 9 0 2,.own 9 0 3]) j iH j j)<|q (oSt iH j j j (tkI (tkI (tkO j j (tkO j j tk0)))) j j j)<|nl)<|us<|Go.ret (Unw.ret ?_)
     cases h
     exact fr acp j
theorem oH {s_0:ai} {n_1:Int} {r:(Bool×ai)} (h:gK s_0 n_1=some r):FX 83 [.ptr true [(.imm,W 1 (eK .u8) s_0.code),(.imm,I s_0.at_),(.imm,.sc (.int .u64 s_0.seed))],.im 2 false [I n_1]] ([(false,[.im 0 (V r.1)])],[.ptr true [(.imm,W 1 (eK .u8) r.2.code),(.imm,I r.2.at_),(.imm,.sc (.int .u64 r.2.seed))]]):=by
 unfold gK at h
 refine oP (A:=[(0,M 0),(1,D 2 (I n_1))]) (B:=[(0,Od (G 1 (aJ s_0))),(1,none)]) (nt:=9) rfl rfl Try.func83 rfl rfl rfl rfl ?_
 refine gs<|g0 j j (q (aj j j)<|nl)<|us<|gs<|?_
 obtain ⟨x7,hx7,h⟩:=bs h
 refine g0 j j (q (oMv j j)<|q (oMv j j)<|q (oCa (xs:=[.v false [.mp 0 0 0],.v false [.im 2 _]]) (vs:=[(false,[.im 0 _])]) (v:=.v false [.im 0 _]) (aQ hx7) (.inl j) j dA j (ppP j j j (ppC j pp0)) j j (pbP j j pb0) j j j)<|q (oBi j j j j)<|q (aj j j)<|nl)<|us<|Go.ret (Unw.ret ?_)
 cases h
 exact fr aco j
theorem Jj {s_0:ai} {d_1:aG} {r:(aG×ai)} (h:xP s_0 d_1=some r):FX 91 [.ptr true [(.imm,W 1 (eK .u8) s_0.code),(.imm,I s_0.at_),(.imm,.sc (.int .u64 s_0.seed))],.mvs [(.imm,I d_1.Width),(.imm,I d_1.Height),(.sh,W 2 af d_1.aH),(.sh,W 2 ah d_1.aA)]] ([(true,[.im 0 (I r.1.Width),.im 0 (I r.1.Height),.ow 0 2 (List.map af r.1.aH),.ow 0 2 (List.map ah r.1.aA)])],[.ptr true [(.imm,W 1 (eK .u8) r.2.code),(.imm,I r.2.at_),(.imm,.sc (.int .u64 r.2.seed))]]):=by
 unfold xP at h
 refine oP (A:=[(0,M 0),(1,.v true [.im 0 (I d_1.Width),.im 0 (I d_1.Height),.own 1 0 2,.own 1 0 3])]) (B:=[(0,Od (G 1 (aJ s_0))),(1,some ⟨0,0,false,false,false,true,[C (I d_1.Width),C (I d_1.Height),Z (W 2 af d_1.aH),Z (W 2 ah d_1.aA)]⟩)]) (nt:=85) rfl rfl Try.func91 rfl rfl rfl rfl ?_
 refine gs<|g0 j j (q (oBx j iH j (tkI (tkI (tkO j j (tkO j j tk0)))))<|q (oAl j iH (tkI (tkI (tkN (tkN tk0)))))<|nl)<|us<|gs<|g0 j j (q (oFA (r':=.mp 3 0 0) j Ip j j)<|q (oLd (cs:=[.im 0 _]) j tF2 j j)<|q (oFA (r':=.mp 3 0 1) j LD j j)<|q (oLd (cs:=[.im 0 _]) j tF2 j j)<|q (oFA (r':=.mp 3 0 2) j o6 j j)<|q (oLd (cs:=[.own 3 0 2]) j AZ j j)<|q (oBu (cs:=[.im 0 _,.im 0 _,.own 3 0 2,.nil]) j Xk j)<|q (oAl j iH (tkI (tkI (tkN (tkN tk0)))))<|q (oSt iH j j j (tkI (tkI (tkO j j (tkN tk0)))) j j j)<|nl)<|us<|gs<|gs<|g1 j j (mk [(0,M 0),(3,M 3),(4,M 4),(5,M 5)] [(0,Od (G 1 (aJ s_0))),(3,Oa [C (I d_1.Width),C (I d_1.Height),⟨.gone,0,0,V false⟩,Z (W 2 ah d_1.aA)]),(4,Oa [C (I 0),C (I 0),Z (W 2 af ([]:List ae)),Z (W 2 ah ([]:List aB))]),(5,Oa [C (I d_1.Width),C (I d_1.Height),Z (W 2 af d_1.aH),Z (W 2 ah ([]:List aB))])]) (q (aj j j)<|nl)<|us<|Go.block<|?_
 obtain ⟨o,hl,h⟩:=bs h
 refine gl c91 j _ (fun (s:(Int×(List Int)×Int×Int×(List aB)))=>match s with | (qI,kM,kP,kQ,ni)=>mk [(0,M 0),(3,M 3),(4,M 4),(5,M 5),(6,iv qI)] [(0,Od [Ct 1 (W 1 (eK .u8) kM),C (I kP),C (.sc (.int .u64 kQ))]),(3,Oa [C (I d_1.Width),C (I d_1.Height),⟨.gone,0,0,V false⟩,Z (W 2 ah d_1.aA)]),(4,Oa [C (I 0),C (I 0),Z (W 2 af ([]:List ae)),Z (W 2 ah ([]:List aB))]),(5,Oa [C (I d_1.Width),C (I d_1.Height),Z (W 2 af d_1.aH),Z (W 2 ah ni)])]) (fun (o:((List Int)×Int×Int×(List aB))) (p:Ex×St)=>match o with | (jU,jV,jW,ql)=>p.1= .exit 0∧p.2.norm ([4,5],[0,4,5])=mk [(4,M 4),(5,M 5)] [(0,Od [Ct 1 (W 1 (eK .u8) jU),C (I jV),C (.sc (.int .u64 jW))]),(4,Oa [C (I 0),C (I 0),Z (W 2 af ([]:List ae)),Z (W 2 ah ([]:List aB))]),(5,Oa [C (I d_1.Width),C (I d_1.Height),Z (W 2 af d_1.aH),Z (W 2 ah ql)])]) hl (by kernel_rfl) ?_ ?_ ?_
 ·intro o p hp e
  obtain ⟨jU,jV,jW,ql⟩:=o
  exact nomatch (hp.1.symm.trans e)
 ·rintro ⟨qI,kM,kP,kQ,ni⟩ o h
  unfold kV at h
  dsimp only at h
  refine gs<|gs<|g0 j j (q (oMv j j)<|q (oFA (r':=.mp 3 0 3) j kF j j)<|q (oLd (cs:=[.own 3 0 3]) j uO j j)<|q (Dl j j Ff j j j (fun e=>nomatch e))<|q (oBi j j j j)<|nl)<|us<|gc h j aC (fun hc9 h=>?_) fun hc9 h=>?_
  ·refine Go.skip<|us<|gs<|Go.join (fun st=>∃uk,∃mJ,∃mM,∃mO,oV qI uk mJ mM mO=some o∧st.norm ([0,3,4,5,6],[0,3,4,5])=mk [(0,M 0),(3,M 3),(4,M 4),(5,M 5),(6,iv qI)] [(0,Od [Ct 1 (W 1 (eK .u8) mJ),C (I mM),C (.sc (.int .u64 mO))]),(3,Oa [C (I d_1.Width),C (I d_1.Height),⟨.gone,0,0,V false⟩,Z (W 2 ah d_1.aA)]),(4,Oa [C (I 0),C (I 0),Z (W 2 af ([]:List ae)),Z (W 2 ah ([]:List aB))]),(5,Oa [C (I d_1.Width),C (I d_1.Height),Z (W 2 af d_1.aH),Z (W 2 ah uk)])]) ?_ ?_
   ·rintro st ⟨uk,mJ,mM,mO,h,hst⟩
    unfold oV at h
    refine us<|g2 c91 j j hst (q (oMv j j)<|q (oBi j j j j)<|q (aj j j)<|nl)<|Unw.nil<|?_
    cases h
    exact ⟨j,(by kernel_rfl)⟩
   ·intro K13
    refine Go.block<|gs<|?_
    obtain ⟨x25,hx25,h⟩:=bs h
    refine g0 j j (q (oFA (r':=.mp 3 0 3) j kF j j)<|q (oLd (cs:=[.own 3 0 3]) j uO j j)<|q (oMv j j)<|q (xH j hx25 vF j j j j)<|q (Dk (cs:=[.im 0 _,.im 0 _]) j CE j j j j (kz hx25) j j)<|q (oAl j CE (tkI (tkN tk0)))<|q (oSt CE j j j (tkI (tkI tk0)) j j j)<|nl)<|us<|gs<|?_
    obtain ⟨⟨KY,qN,qO,qP⟩,OZ,h⟩:=bs h
    dsimp only at h
    refine gX c91 j j (st1:=mk [(0,M 0),(3,M 3),(4,M 4),(5,M 5),(6,iv qI),(7,M 7)] [(0,Od [Ct 1 (W 1 (eK .u8) kM),C (I kP),C (.sc (.int .u64 kQ))]),(3,Oa [C (I d_1.Width),C (I d_1.Height),⟨.gone,0,0,V false⟩,Z (W 2 ah d_1.aA)]),(4,Oa [C (I 0),C (I 0),Z (W 2 af ([]:List ae)),Z (W 2 ah ([]:List aB))]),(5,Oa [C (I d_1.Width),C (I d_1.Height),Z (W 2 af d_1.aH),Z (W 2 ah ni)]),(7,Oa (G 0 (xm x25)))]) (by kernel_rfl) (mk [(0,M 0),(3,M 3),(4,M 4),(5,M 5),(6,iv qI),(7,M 7),(34,bv KY)] [(0,Od [Ct 1 (W 1 (eK .u8) qN),C (I qO),C (.sc (.int .u64 qP))]),(3,Oa [C (I d_1.Width),C (I d_1.Height),⟨.gone,0,0,V false⟩,Z (W 2 ah d_1.aA)]),(4,Oa [C (I 0),C (I 0),Z (W 2 af ([]:List ae)),Z (W 2 ah ([]:List aB))]),(5,Oa [C (I d_1.Width),C (I d_1.Height),Z (W 2 af d_1.aH),Z (W 2 ah ni)]),(7,Oa (G 0 (xm x25)))]) ?_ ?_
    ·refine xq (oFA (r':=.mp 7 0 1) j pW j j)<|xq (oLd (cs:=[.im 0 _]) j Ac j j)<|xq (mF j j xI j)<|xq (oBi j j j j)<|xq (oMv j j)<|?_
     refine ic OZ (fun Bc OZ=>?_) fun Bc OZ=>?_
     ·obtain ⟨x33,Ve,OZ⟩:=bs OZ
      cases OZ
      exact xqT j j (iEq.2 Bc) (oMv j j)<|xqT j j (iEq.2 Bc) (oCa (xs:=[.v false [.mp 0 0 0],.v false [.im 0 _]]) (vs:=[(false,[.im 0 _])]) (v:=.v false [.im 0 _]) (oH Ve) (.inl j) j BM j (ppP j j j (ppC j pp0)) j j (pbP j j pb0) j j j)<|xq (dP j j (iEq.2 Bc) j)<|xn
     ·cases OZ
      exact au j j (byF iEq Bc) j<|au j j (byF iEq Bc) j<|xq (dS j j (byF iEq Bc) j)<|xn
    ·refine us<|gc h j iR (fun xw h=>?_) fun xw h=>?_
     ·refine gs<|?_
      obtain ⟨x41,Vf,h⟩:=bs h
      obtain ⟨x45,acw,h⟩:=bs h
      obtain ⟨x49,NP,h⟩:=bs h
      obtain ⟨x54,Za,h⟩:=bs h
      refine gd c91 j j j j (mk [(0,M 0),(3,M 3),(4,M 4),(5,M 5),(6,iv qI),(7,M 7)] [(0,Od [Ct 1 (W 1 (eK .u8) qN),C (I qO),C (.sc (.int .u64 qP))]),(3,Oa [C (I d_1.Width),C (I d_1.Height),⟨.gone,0,0,V false⟩,Z (W 2 ah d_1.aA)]),(4,Oa [C (I 0),C (I 0),Z (W 2 af ([]:List ae)),Z (W 2 ah ([]:List aB))]),(5,Oa [C (I d_1.Width),C (I d_1.Height),Z (W 2 af d_1.aH),Z (W 2 ah x54)]),(7,Oa (G 0 (xm x25)))]) (t j j (oFA (r':=.mp 7 0 1) j pW j j)<|t j j (oLd (cs:=[.im 0 _]) j Ac j j)<|t j j (lF j Vf iq j j)<|t j j (oLd (cs:=[.im 0 _]) j tF2 j j)<|t j j (oFA (r':=.mp 7 0 1) j pW j j)<|t j j (oLd (cs:=[.im 0 _]) j Ac j j)<|t j j (lF j acw iq j j)<|t j j (oLd (cs:=[.im 0 _]) j tF2 j j)<|t j j (oFA (r':=.mp 7 0 1) j pW j j)<|t j j (oLd (cs:=[.im 0 _]) j Ac j j)<|t j j (lF j NP iq j j)<|t j j (oLd (cs:=[.im 0 _]) j tF2 j j)<|sK (O:=[5]) j j j (dN z91 j (oFA (r':=.mp 5 0 3) j kF j j))<|sK (O:=[5]) j j j (dN z91 j (oLd (cs:=[.own 5 0 3]) j uO j j))<|sK (O:=[7]) j j j (dN z91 j (oFA (r':=.mp 7 0 0) j BK j j))<|sK (O:=[7]) j j j (dN z91 j (oLd (cs:=[.im 0 _]) j tF9 j j))<|sS (dN z91 j (oBS (es:=List.map eI ([x41,x45,x49]:List Int)) j iq j (ptC j (fxI fx0) j (ptC j (fxI fx0) j (ptC j (fxI fx0) j pt0))) (cu j fun _=>j))) (kY ⟨j,trivial⟩ (kY ⟨j,trivial⟩ (kY ⟨j,trivial⟩ (kY ⟨j,trivial⟩ trivial)))) (sS (dN z91 j (oBu (cs:=[.im 0 _,.own 51 0 0]) j JZ j)) (kN j (kN j (kY ⟨j,trivial⟩ (kY ⟨j,trivial⟩ trivial)))) (sS (dN z91 j (oBS (es:=List.map ah ([(⟨x25.Name,([x41,x45,x49]:List Int)⟩:aB)]:List aB)) j vF j (ptC j (fxI (fxO j j fx0)) j pt0) (qZ j))) (kN j (kN j (kY ⟨j,trivial⟩ (kY ⟨j,trivial⟩ trivial)))) (sS (dN z91 j (vS (en:=ah) (M:=([(⟨x25.Name,([x41,x45,x49]:List Int)⟩:aB)]:List aB)) j Za j vF j j Ff (.inl ⟨_,j⟩) j j j j (kC j j) (qZ j))) (kN j (kN j (kN j (kN j trivial)))) (t j j (oFA (r':=.mp 5 0 3) j kF j j)<|sS (dN z91 j (oSt uO j j j (tkO j j tk0) j j j)) (kN j (kN j (kN j (kN j trivial)))) (sD (by kernel_rfl)))))))<|us<|?_
      obtain ⟨x63,acy,h⟩:=bs h
      obtain ⟨x67,Zb,h⟩:=bs h
      obtain ⟨x71,acz,h⟩:=bs h
      obtain ⟨x60,SE,h⟩:=bs h
      obtain ⟨x76,SG,h⟩:=bs h
      exact gd c91 j j j j (mk [(0,M 0),(3,M 3),(4,M 4),(5,M 5),(6,iv qI)] [(0,Od [Ct 1 (W 1 (eK .u8) qN),C (I qO),C (.sc (.int .u64 qP))]),(3,Oa [C (I d_1.Width),C (I d_1.Height),⟨.gone,0,0,V false⟩,Z (W 2 ah d_1.aA)]),(4,Oa [C (I 0),C (I 0),Z (W 2 af ([]:List ae)),Z (W 2 ah ([]:List aB))]),(5,Oa [C (I d_1.Width),C (I d_1.Height),Z (W 2 af d_1.aH),Z (W 2 ah x76)])]) (t j j (oFA (r':=.mp 7 0 1) j pW j j)<|t j j (oLd (cs:=[.im 0 _]) j Ac j j)<|t j j (lF j acy iq j j)<|t j j (oLd (cs:=[.im 0 _]) j tF2 j j)<|t j j (oFA (r':=.mp 7 0 1) j pW j j)<|t j j (oLd (cs:=[.im 0 _]) j Ac j j)<|t j j (lF j Zb iq j j)<|t j j (oLd (cs:=[.im 0 _]) j tF2 j j)<|t j j (oFA (r':=.mp 7 0 1) j pW j j)<|t j j (oLd (cs:=[.im 0 _]) j Ac j j)<|t j j (lF j acz iq j j)<|t j j (oLd (cs:=[.im 0 _]) j tF2 j j)<|sK (O:=[5]) j j j (dN z91 j (oFA (r':=.mp 5 0 3) j kF j j))<|sK (O:=[5]) j j j (dN z91 j (oLd (cs:=[.own 5 0 3]) j uO j j))<|sK (O:=[7]) j j j (dN z91 j (oFA (r':=.mp 7 0 0) j BK j j))<|sK (O:=[7]) j j j (dN z91 j (oLd (cs:=[.im 0 _]) j tF9 j j))<|t j j (OA j SE j j)<|sS (dN z91 j (oBS (es:=List.map eI ([x63,x67,x71]:List Int)) j iq j (ptC j (fxI fx0) j (ptC j (fxI fx0) j (ptC j (fxI fx0) j pt0))) (cu j fun _=>j))) (kY ⟨j,trivial⟩ (kY ⟨j,trivial⟩ (kY ⟨j,trivial⟩ (kY ⟨j,trivial⟩ trivial)))) (sS (dN z91 j (oBu (cs:=[.im 0 _,.own 73 0 0]) j JZ j)) (kN j (kN j (kY ⟨j,trivial⟩ (kY ⟨j,trivial⟩ trivial)))) (sS (dN z91 j (oBS (es:=List.map ah ([(⟨x60,([x63,x67,x71]:List Int)⟩:aB)]:List aB)) j vF j (ptC j (fxI (fxO j j fx0)) j pt0) (qZ j))) (kN j (kN j (kY ⟨j,trivial⟩ (kY ⟨j,trivial⟩ trivial)))) (sS (dN z91 j (vS (en:=ah) (M:=([(⟨x60,([x63,x67,x71]:List Int)⟩:aB)]:List aB)) j SG j vF j j Ff (.inl ⟨_,j⟩) j j j j (kC j j) (qZ j))) (kN j (kN j (kN j (kN j trivial)))) (t j j (oFA (r':=.mp 5 0 3) j kF j j)<|sS (dN z91 j (oSt uO j j j (tkO j j tk0) j j j)) (kN j (kN j (kN j (kN j trivial)))) (sD (by kernel_rfl)))))))<|Unw.blk<|K13 _ ⟨x76,qN,qO,qP,h,(by kernel_rfl)⟩
     ·obtain ⟨x82,SC,h⟩:=bs h
      exact g0 j j (q (oFA (r':=.mp 5 0 3) j kF j j)<|q (oLd (cs:=[.own 5 0 3]) j uO j j)<|q (oLd (cs:=[.im 0 _,.im 0 _]) j CE j j)<|q (oBS (es:=List.map ah ([x25]:List aB)) j vF j (ptC j (fxI (fxI fx0)) j pt0) (qZ j))<|q (vS (en:=ah) (M:=([x25]:List aB)) j SC j vF j j Ff (.inl ⟨_,j⟩) j j j j (kC j j) (qZ j))<|q (oFA (r':=.mp 5 0 3) j kF j j)<|q (oSt uO j j j (tkO j j tk0) j j j)<|nl)<|Unw.blk<|K13 _ ⟨x82,qN,qO,qP,h,(by kernel_rfl)⟩
  ·refine Go.exit<|ux<|Unw.nil<|?_
   cases h
   exact ⟨j,(by kernel_rfl)⟩
 ·rintro ⟨e,st⟩ hp
  obtain ⟨jU,jV,jW,ql⟩:=o
  dsimp only at h
  obtain ⟨he,hst⟩:=hp
  obtain rfl:e= .exit 0:=he
  refine Unw.ng<|us<|gs<|g2 c91 j j hst (q (oLd (cs:=[.im 0 _,.im 0 _,.own 5 0 2,.own 5 0 3]) j iH j j)<|q (oSt iH j j j (tkI (tkI (tkO j j (tkO j j tk0)))) j j j)<|nl)<|us<|Go.ret (Unw.ret ?_)
  cases h
  exact fr acr j
theorem IC {s_0:ai} {r:(aG×ai)} (h:rC s_0=some r):FX 42 [.ptr true [(.imm,W 1 (eK .u8) s_0.code),(.imm,I s_0.at_),(.imm,.sc (.int .u64 s_0.seed))]] ([(true,[.im 0 (I r.1.Width),.im 0 (I r.1.Height),.ow 0 2 (List.map af r.1.aH),.ow 0 2 (List.map ah r.1.aA)])],[.ptr true [(.imm,W 1 (eK .u8) r.2.code),(.imm,I r.2.at_),(.imm,.sc (.int .u64 r.2.seed))]]):=by
 unfold rC at h
 refine oP (A:=[(0,M 0)]) (B:=[(0,Od (G 1 (aJ s_0)))]) (nt:=12) rfl rfl Try.func42 rfl rfl rfl rfl ?_
 refine gs<|g0 j j (q (oAl j iH (tkI (tkI (tkN (tkN tk0)))))<|nl)<|us<|gs<|?_
 obtain ⟨x5,hx5,h⟩:=bs h
 refine g0 j j (q (oMv j j)<|q (oCr (xs:=[.v false [.mp 0 0 0]]) (vs:=[(true,[.im 0 _,.im 0 _,.own 5 0 0,.own 5 0 1])]) (v:=.v true [.im 0 _,.im 0 _,.own 5 0 0,.own 5 0 1]) (c:=⟨.sh,0,_⟩) (cs:=[⟨.sh,0,_⟩]) (IA hx5) (.inl j) j Xu j (ppP j j j pp0) j j (pbP j j pb0) j j j)<|q (oAl j iH (tkI (tkI (tkN (tkN tk0)))))<|q (oSt iH j j j (tkI (tkI (tkO j j (tkO j j tk0)))) j j j)<|nl)<|us<|gs<|gs<|?_
 obtain ⟨x7,hx7,h⟩:=bs h
 refine g1 j j (mk [(0,M 0),(2,M 2),(3,M 3)] [(0,Od (G 1 (aJ x5.2))),(2,Oa [C (I 0),C (I 0),Z (W 2 af ([]:List ae)),Z (W 2 ah ([]:List aB))]),(3,Oa [C (I x5.1.Width),C (I x5.1.Height),Z (W 2 af x5.1.aH),Z (W 2 ah x5.1.aA)])]) (q (oMv j j)<|q (oCa (xs:=[.v false [.mp 0 0 0],.v false [.im 0 _]]) (vs:=[(false,[.im 0 _])]) (v:=.v false [.im 0 _]) (oH hx7) (.inl j) j BM j (ppP j j j (ppC j pp0)) j j (pbP j j pb0) j j j)<|nl)<|us<|Go.join (fun st=>∃mJ,∃mM,∃mO,∃yM,∃yN,∃yO,∃yP,nO mJ mM mO yM yN yO yP=some r∧st.norm ([2,3],[0,2,3])=mk [(2,M 2),(3,M 3)] [(0,Od [Ct 1 (W 1 (eK .u8) mJ),C (I mM),C (.sc (.int .u64 mO))]),(2,Oa [C (I 0),C (I 0),Z (W 2 af ([]:List ae)),Z (W 2 ah ([]:List aB))]),(3,Oa [C (I yM),C (I yN),Z (W 2 af yO),Z (W 2 ah yP)])]) ?_ ?_
 ·rintro st ⟨mJ,mM,mO,yM,yN,yO,yP,h,hst⟩
  unfold nO at h
  refine us<|gs<|g2 c42 j j hst (q (oLd (cs:=[.im 0 _,.im 0 _,.own 3 0 2,.own 3 0 3]) j iH j j)<|q (oSt iH j j j (tkI (tkI (tkO j j (tkO j j tk0)))) j j j)<|nl)<|us<|Go.ret (Unw.ret ?_)
  cases h
  exact fr acg j
 ·intro K2
  refine gc h j iR (fun hc3 h=>?_) fun hc3 h=>?_
  ·obtain ⟨x10,IE,h⟩:=bs h
   exact g1 j j (mk [(0,M 0),(2,M 2),(3,M 3)] [(0,Od (G 1 (aJ x7.2))),(2,Oa [C (I 0),C (I 0),Z (W 2 af ([]:List ae)),Z (W 2 ah ([]:List aB))]),(3,Oa [C (I x5.1.Width),C (I x5.1.Height),Z (W 2 af x5.1.aH),Z (W 2 ah x5.1.aA)])]) (q (oMv j j)<|q (oLd (cs:=[.im 0 _,.im 0 _,.own 3 0 2,.own 3 0 3]) j iH j j)<|q (oCr (xs:=[.v false [.mp 0 0 0],.v true [.im 0 _,.im 0 _,.own 3 0 2,.own 3 0 3]]) (vs:=[(true,[.im 0 _,.im 0 _,.own 10 0 0,.own 10 0 1])]) (v:=.v true [.im 0 _,.im 0 _,.own 10 0 0,.own 10 0 1]) (c:=⟨.sh,0,_⟩) (cs:=[⟨.sh,0,_⟩]) (Jj IE) (.inl j) j OU j (ppP j j j (ppS (tkI (tkI (tkO j j (tkO j j tk0)))) j pp0)) j j (pbP j j pb0) j j j)<|q (oSt iH j j j (tkI (tkI (tkO j j (tkO j j tk0)))) j j j)<|nl)<|K2 _ ⟨x10.2.code,x10.2.at_,x10.2.seed,x10.1.Width,x10.1.Height,x10.1.aH,x10.1.aA,h,(by kernel_rfl)⟩
  ·exact Go.skip<|K2 _ ⟨x7.2.code,x7.2.at_,x7.2.seed,x5.1.Width,x5.1.Height,x5.1.aH,x5.1.aA,h,(by kernel_rfl)⟩
theorem eX {s_0:ai} {sN:(List Int)} {r:(Int×ai)} (h:cZ s_0 sN=some r):FX 115 [.ptr true [(.imm,W 1 (eK .u8) s_0.code),(.imm,I s_0.at_),(.imm,.sc (.int .u64 s_0.seed))],.im 2 false [W 1 eI sN]] ([(false,[.im 0 (I r.1)])],[.ptr true [(.imm,W 1 (eK .u8) r.2.code),(.imm,I r.2.at_),(.imm,.sc (.int .u64 r.2.seed))]]):=by
 unfold cZ at h
 refine oP (A:=[(0,M 0),(1,D 2 (W 1 eI sN))]) (B:=[(0,Od (G 1 (aJ s_0))),(1,none)]) (nt:=12) rfl rfl Try.func115 rfl rfl rfl rfl ?_
 refine gs<|g0 j j (q (aj j j)<|nl)<|us<|gs<|?_
 obtain ⟨x9,hx9,h⟩:=bs h
 obtain ⟨x10,IE,h⟩:=bs h
 refine g0 j j (q (oMv j j)<|q (oMv j j)<|q (oMv j j)<|q (mF j j xI j)<|q (oCa (xs:=[.v false [.mp 0 0 0],.v false [.im 0 _]]) (vs:=[(false,[.im 0 _])]) (v:=.v false [.im 0 _]) (aQ hx9) (.inl j) j dA j (ppP j j j (ppC j pp0)) j j (pbP j j pb0) j j j)<|q (lF j IE iq j j)<|q (oLd (cs:=[.im 2 _]) j tF2 j j)<|q (aj j j)<|nl)<|us<|Go.ret (Unw.ret ?_)
 cases h
 exact fr aay j
theorem xx {s_0:ai} {sN:(List ByteArray)} {r:(ByteArray×ai)} (h:gU s_0 sN=some r):FX 163 [.ptr true [(.imm,W 1 (eK .u8) s_0.code),(.imm,I s_0.at_),(.imm,.sc (.int .u64 s_0.seed))],.im 2 false [W 1 eS sN]] ([(false,[.im 0 (Y r.1)])],[.ptr true [(.imm,W 1 (eK .u8) r.2.code),(.imm,I r.2.at_),(.imm,.sc (.int .u64 r.2.seed))]]):=by
 unfold gU at h
 refine oP (A:=[(0,M 0),(1,D 2 (W 1 eS sN))]) (B:=[(0,Od (G 1 (aJ s_0))),(1,none)]) (nt:=12) rfl rfl Try.func163 rfl rfl rfl rfl ?_
 refine gs<|g0 j j (q (aj j j)<|nl)<|us<|gs<|?_
 obtain ⟨x9,hx9,h⟩:=bs h
 obtain ⟨x10,IE,h⟩:=bs h
 refine g0 j j (q (oMv j j)<|q (oMv j j)<|q (oMv j j)<|q (mF j j aaX j)<|q (oCa (xs:=[.v false [.mp 0 0 0],.v false [.im 0 _]]) (vs:=[(false,[.im 0 _])]) (v:=.v false [.im 0 _]) (aQ hx9) (.inl j) j dA j (ppP j j j (ppC j pp0)) j j (pbP j j pb0) j j j)<|q (lF j IE J3 j j)<|q (oLd (cs:=[.im 2 _]) j tF9 j j)<|q (aj j j)<|nl)<|us<|Go.ret (Unw.ret ?_)
 cases h
 exact fr aaJ j
theorem Dw {s_0:ai} {r:(ByteArray×ai)} (h:mP s_0=some r):FX 116 [.ptr true [(.imm,W 1 (eK .u8) s_0.code),(.imm,I s_0.at_),(.imm,.sc (.int .u64 s_0.seed))]] ([(false,[.im 0 (Y r.1)])],[.ptr true [(.imm,W 1 (eK .u8) r.2.code),(.imm,I r.2.at_),(.imm,.sc (.int .u64 r.2.seed))]]):=by
 unfold mP at h
 refine oP (A:=[(0,M 0)]) (B:=[(0,Od (G 1 (aJ s_0)))]) (nt:=6) rfl rfl Try.func116 rfl rfl rfl rfl ?_
 refine gs<|g0 j j (q (aj j j)<|nl)<|us<|gs<|?_
 obtain ⟨x5,hx5,h⟩:=bs h
 refine g0 j j (q (oMv j j)<|q (oBS (es:=List.map eS ([(⟨#[97]⟩:ByteArray),(⟨#[98]⟩:ByteArray),(⟨#[99]⟩:ByteArray),(⟨#[111,97,107]⟩:ByteArray),(⟨#[115,116,97,114,55]⟩:ByteArray),(⟨#[114,111,115,101]⟩:ByteArray),(⟨#[120,57]⟩:ByteArray),(⟨#[97,98,99,100,101,102,103,104,105,106]⟩:ByteArray),(⟨#[97,98,99,100,101,102,103,104,105,106,107]⟩:ByteArray),(⟨#[65]⟩:ByteArray),(⟨#[]⟩:ByteArray),(⟨#[49,97]⟩:ByteArray),(⟨#[97,45,98]⟩:ByteArray)]:List ByteArray)) j J3 j (ptC j (fxI fx0) j (ptC j (fxI fx0) j (ptC j (fxI fx0) j (ptC j (fxI fx0) j (ptC j (fxI fx0) j (ptC j (fxI fx0) j (ptC j (fxI fx0) j (ptC j (fxI fx0) j (ptC j (fxI fx0) j (ptC j (fxI fx0) j (ptC j (fxI fx0) j (ptC j (fxI fx0) j (ptC j (fxI fx0) j pt0))))))))))))) (cu j fun _=>j))<|q (oCa (xs:=[.v false [.mp 0 0 0],.v false [.own 4 0 0]]) (vs:=[(false,[.im 0 _])]) (v:=.v false [.im 0 _]) (xx hx5) (.inl j) j Ep j (ppP j j j (ppC j pp0)) j j (pbP j j pb0) j j j)<|q (aj j j)<|nl)<|us<|Go.ret (Unw.ret ?_)
 cases h
 exact fr aaz j
theorem Bd {s_0:ai} {r:(aG×ai)} (h:pI s_0=some r):FX 60 [.ptr true [(.imm,W 1 (eK .u8) s_0.code),(.imm,I s_0.at_),(.imm,.sc (.int .u64 s_0.seed))]] ([(true,[.im 0 (I r.1.Width),.im 0 (I r.1.Height),.ow 0 2 (List.map af r.1.aH),.ow 0 2 (List.map ah r.1.aA)])],[.ptr true [(.imm,W 1 (eK .u8) r.2.code),(.imm,I r.2.at_),(.imm,.sc (.int .u64 r.2.seed))]]):=by
 unfold pI at h
 refine oP (A:=[(0,M 0)]) (B:=[(0,Od (G 1 (aJ s_0)))]) (nt:=153) rfl rfl Try.func60 rfl rfl rfl rfl ?_
 refine gs<|g0 j j (q (oAl j iH (tkI (tkI (tkN (tkN tk0)))))<|nl)<|us<|gs<|?_
 obtain ⟨x8,hx8,h⟩:=bs h
 refine g0 j j (q (oMv j j)<|q (oCr (xs:=[.v false [.mp 0 0 0]]) (vs:=[(true,[.im 0 _,.im 0 _,.own 8 0 0,.own 8 0 1])]) (v:=.v true [.im 0 _,.im 0 _,.own 8 0 0,.own 8 0 1]) (c:=⟨.sh,0,_⟩) (cs:=[⟨.sh,0,_⟩]) (IC hx8) (.inl j) j Xp j (ppP j j j pp0) j j (pbP j j pb0) j j j)<|q (oAl j iH (tkI (tkI (tkN (tkN tk0)))))<|q (oSt iH j j j (tkI (tkI (tkO j j (tkO j j tk0)))) j j j)<|nl)<|us<|gs<|g1 j j (mk [(0,M 0),(2,M 2),(3,M 3)] [(0,Od (G 1 (aJ x8.2))),(2,Oa [C (I 0),C (I 0),Z (W 2 af ([]:List ae)),Z (W 2 ah ([]:List aB))]),(3,Oa [C (I x8.1.Width),C (I x8.1.Height),Z (W 2 af x8.1.aH),Z (W 2 ah x8.1.aA)])]) (q (oFA (r':=.mp 3 0 3) j kF j j)<|q (oLd (cs:=[.own 3 0 3]) j uO j j)<|q (Dl j j Ff j j j (fun e=>nomatch e))<|q (aj j j)<|nl)<|us<|gs<|gs<|?_
 obtain ⟨x13,Fg,h⟩:=bs h
 refine g0 j j (q (oMv j j)<|q (oCa (xs:=[.v false [.mp 0 0 0],.v false [.im 0 _]]) (vs:=[(false,[.im 0 _])]) (v:=.v false [.im 0 _]) (aQ Fg) (.inl j) j dA j (ppP j j j (ppC j pp0)) j j (pbP j j pb0) j j j)<|nl)<|us<|Go.join (fun st=>∃wC,∃wE,∃wF,∃wG,∃wH,∃wI,∃wJ,dJ wC wE wF wG wH wI wJ=some r∧st.norm ([2,3],[0,2,3])=mk [(2,M 2),(3,M 3)] [(0,Od [Ct 1 (W 1 (eK .u8) wC),C (I wE),C (.sc (.int .u64 wF))]),(2,Oa [C (I 0),C (I 0),Z (W 2 af ([]:List ae)),Z (W 2 ah ([]:List aB))]),(3,Oa [C (I wG),C (I wH),Z (W 2 af wI),Z (W 2 ah wJ)])]) ?_ ?_
 ·rintro st ⟨wC,wE,wF,wG,wH,wI,wJ,h,hst⟩
  unfold dJ at h
  refine us<|gs<|g2 c60 j j hst (q (oLd (cs:=[.im 0 _,.im 0 _,.own 3 0 2,.own 3 0 3]) j iH j j)<|q (oSt iH j j j (tkI (tkI (tkO j j (tkO j j tk0)))) j j j)<|nl)<|us<|Go.ret (Unw.ret ?_)
  cases h
  exact fr acj j
 ·intro K14
  refine Go.block<|gs<|g1 j j (mk [(0,M 0),(2,M 2),(3,M 3),(4,iv (x8.1.aA.length:Int)),(13,iv x13.1)] [(0,Od (G 1 (aJ x13.2))),(2,Oa [C (I 0),C (I 0),Z (W 2 af ([]:List ae)),Z (W 2 ah ([]:List aB))]),(3,Oa [C (I x8.1.Width),C (I x8.1.Height),Z (W 2 af x8.1.aH),Z (W 2 ah x8.1.aA)])]) (q (oBi j j j j)<|q (aj j j)<|nl)<|us<|gc h j iEq (fun xw h=>?_) fun xw h=>?_
  ·obtain ⟨x18,IG,h⟩:=bs h
   exact g0 j j (q (oFA (r':=.mp 3 0 3) j kF j j)<|q (oLd (cs:=[.own 3 0 3]) j uO j j)<|q (abM j IG vF j j j (bn1 j) bn0 j j j)<|q (oFA (r':=.mp 3 0 3) j kF j j)<|q (oSt uO j j j (abK j j tk0) j j j)<|nl)<|Unw.blk<|K14 _ ⟨x13.2.code,x13.2.at_,x13.2.seed,x8.1.Width,x8.1.Height,x8.1.aH,((x8.1.aA.take ((x8.1.aA.length:Int).toNat)).drop ((1:Int).toNat)),h,(by kernel_rfl)⟩
  ·refine gs<|g0 j j (q (oBi j j j j)<|q (aj j j)<|nl)<|us<|gc h j iEq (fun hc16 h=>?_) fun hc16 h=>?_
   ·obtain ⟨x26,Vg,h⟩:=bs h
    exact g0 j j (q (oFA (r':=.mp 3 0 2) j o6 j j)<|q (oLd (cs:=[.own 3 0 2]) j AZ j j)<|q (oBu (cs:=[.im 0 _,.im 0 _]) j QH j)<|q (oBS (es:=List.map af ([(⟨7,3⟩:ae)]:List ae)) j uN j (ptC j (fxI (fxI fx0)) j pt0) (cu j fun _=>j))<|q (vS (en:=af) (M:=([(⟨7,3⟩:ae)]:List ae)) j Vg j uN j j BU (.inl ⟨_,j⟩) j j j j (kC j j) (cu j fun _=>j))<|q (oFA (r':=.mp 3 0 2) j o6 j j)<|q (oSt AZ j j j (tkO j j tk0) j j j)<|nl)<|Unw.blk<|K14 _ ⟨x13.2.code,x13.2.at_,x13.2.seed,x8.1.Width,x8.1.Height,x26,x8.1.aA,h,(by kernel_rfl)⟩
   ·refine gs<|g0 j j (q (oBi j j j j)<|q (aj j j)<|nl)<|us<|gc h j iEq (fun hc17 h=>?_) fun hc17 h=>?_
    ·obtain ⟨x35,LU,h⟩:=bs h
     exact g0 j j (q (oMv j j)<|q (oFA (r':=.mp 3 0 0) j Ip j j)<|q (oLd (cs:=[.im 0 _]) j tF2 j j)<|q (oBi j j j j)<|q (oBS (es:=List.map eI ([(w64 (x8.1.Width+5)),9,10,20000,20001]:List Int)) j iq j (ptC j (fxI fx0) j (ptC j (fxI fx0) j (ptC j (fxI fx0) j (ptC j (fxI fx0) j (ptC j (fxI fx0) j pt0))))) (cu j fun _=>j))<|q (oCa (xs:=[.v false [.mp 0 0 0],.v false [.own 34 0 0]]) (vs:=[(false,[.im 0 _])]) (v:=.v false [.im 0 _]) (eX LU) (.inl j) j lS j (ppP j j j (ppC j pp0)) j j (pbP j j pb0) j j j)<|q (oFA (r':=.mp 3 0 0) j Ip j j)<|q (oSt tF2 j j j (tkI tk0) j j j)<|nl)<|Unw.blk<|K14 _ ⟨x35.2.code,x35.2.at_,x35.2.seed,x35.1,x8.1.Height,x8.1.aH,x8.1.aA,h,(by kernel_rfl)⟩
    ·refine gs<|g0 j j (q (oBi j j j j)<|q (aj j j)<|nl)<|us<|gc h j iEq (fun hc18 h=>?_) fun hc18 h=>?_
     ·obtain ⟨x43,II,h⟩:=bs h
      obtain ⟨x49,NP,h⟩:=bs h
      exact gd c60 j j j j (mk [(2,M 2),(3,M 3)] [(0,Od (G 1 (aJ x43.2))),(2,Oa [C (I 0),C (I 0),Z (W 2 af ([]:List ae)),Z (W 2 ah ([]:List aB))]),(3,Oa [C (I x8.1.Width),C (I x8.1.Height),Z (W 2 af x8.1.aH),Z (W 2 ah (x8.1.aA.set x43.1.toNat (⟨x49.Name,([0,1,(w64 ((x8.1.aH.length:Int) - 1))]:List Int)⟩:aB)))])]) (t j j (oMv j j)<|t j j (oMv j j)<|sK (O:=[3]) j j j (dN z60 j (oFA (r':=.mp 3 0 3) j kF j j))<|sK (O:=[3]) j j j (dN z60 j (oLd (cs:=[.own 3 0 3]) j uO j j))<|sK (O:=[3]) j j j (dN z60 j (oFA (r':=.mp 3 0 2) j o6 j j))<|sK (O:=[3]) j j j (dN z60 j (oLd (cs:=[.own 3 0 2]) j AZ j j))<|sK (O:=[3]) j j j (dN z60 j (Dl j j BU j j j (fun e=>nomatch e)))<|t j j (oBi j j j j)<|sF (dN z60 j (oCa (xs:=[.v false [.mp 0 0 0],.v false [.im 0 _]]) (vs:=[(false,[.im 0 _])]) (v:=.v false [.im 0 _]) (aQ II) (.inl j) j dA j (ppP j j j (ppC j pp0)) j j (pbP j j pb0) j j j)) (kY ⟨j,trivial⟩ (kY ⟨j,trivial⟩ (kY ⟨j,trivial⟩ (kY ⟨j,trivial⟩ (kY ⟨j,trivial⟩ trivial))))) (sS (dN z60 j (oBS (es:=List.map eI ([0,1,(w64 ((x8.1.aH.length:Int) - 1))]:List Int)) j iq j (ptC j (fxI fx0) j (ptC j (fxI fx0) j (ptC j (fxI fx0) j pt0))) (cu j fun _=>j))) (kN j (kN j (kN j (kY ⟨j,trivial⟩ (kY ⟨j,trivial⟩ trivial))))) (t j j (xH j NP vF j j j j)<|t j j (oFA (r':=.mpe 3 0 3 _ 1) j pW j j)<|sS (dN z60 j (OC (v':=(⟨x49.Name,([0,1,(w64 ((x8.1.aH.length:Int) - 1))]:List Int)⟩:aB)) Ac j j j (fxO j j fx0) j j (kz NP) j)) (kN j (kN j (kN j (kN j (kN j trivial))))) (sD (by kernel_rfl)))) (sS (dN z60 j (oBS (es:=List.map eI ([0,1,(w64 ((x8.1.aH.length:Int) - 1))]:List Int)) j iq j (ptC j (fxI fx0) j (ptC j (fxI fx0) j (ptC j (fxI fx0) j pt0))) (cu j fun _=>j))) (kN j (kN j (kN j (kY ⟨j,trivial⟩ (kY ⟨j,trivial⟩ trivial))))) (sS (dN z60 j (oCa (xs:=[.v false [.mp 0 0 0],.v false [.im 0 _]]) (vs:=[(false,[.im 0 _])]) (v:=.v false [.im 0 _]) (aQ II) (.inl j) j dA j (ppP j j j (ppC j pp0)) j j (pbP j j pb0) j j j)) (kY ⟨j,trivial⟩ (kY ⟨j,trivial⟩ (kY ⟨j,trivial⟩ (kY ⟨j,trivial⟩ (kY ⟨j,trivial⟩ trivial))))) (t j j (xH j NP vF j j j j)<|t j j (oFA (r':=.mpe 3 0 3 _ 1) j pW j j)<|sS (dN z60 j (OC (v':=(⟨x49.Name,([0,1,(w64 ((x8.1.aH.length:Int) - 1))]:List Int)⟩:aB)) Ac j j j (fxO j j fx0) j j (kz NP) j)) (kN j (kN j (kN j (kN j (kN j trivial))))) (sD (by kernel_rfl))))))<|Unw.blk<|K14 _ ⟨x43.2.code,x43.2.at_,x43.2.seed,x8.1.Width,x8.1.Height,x8.1.aH,(x8.1.aA.set x43.1.toNat (⟨x49.Name,([0,1,(w64 ((x8.1.aH.length:Int) - 1))]:List Int)⟩:aB)),h,(by kernel_rfl)⟩
     ·refine gs<|g0 j j (q (oBi j j j j)<|q (aj j j)<|nl)<|us<|gc h j iEq (fun hc19 h=>?_) fun hc19 h=>?_
      ·obtain ⟨x57,IB,h⟩:=bs h
       obtain ⟨x59,Va,h⟩:=bs h
       obtain ⟨x60,SE,h⟩:=bs h
       exact gd c60 j j j j (mk [(2,M 2),(3,M 3)] [(0,Od (G 1 (aJ x59.2))),(2,Oa [C (I 0),C (I 0),Z (W 2 af ([]:List ae)),Z (W 2 ah ([]:List aB))]),(3,Oa [C (I x8.1.Width),C (I x8.1.Height),Z (W 2 af x8.1.aH),Z (W 2 ah (x8.1.aA.set x57.1.toNat (⟨x59.1,x60.Ring⟩:aB)))])]) (t j j (oMv j j)<|t j j (oMv j j)<|t j j (oMv j j)<|sK (O:=[3]) j j j (dN z60 j (oFA (r':=.mp 3 0 3) j kF j j))<|sK (O:=[3]) j j j (dN z60 j (oLd (cs:=[.own 3 0 3]) j uO j j))<|sS (dN z60 j (oCa (xs:=[.v false [.mp 0 0 0],.v false [.im 0 _]]) (vs:=[(false,[.im 0 _])]) (v:=.v false [.im 0 _]) (aQ IB) (.inl j) j dA j (ppP j j j (ppC j pp0)) j j (pbP j j pb0) j j j)) (kY ⟨j,trivial⟩ (kY ⟨j,trivial⟩ trivial)) (sS (dN z60 j (oCa (xs:=[.v false [.mp 0 0 0]]) (vs:=[(false,[.im 0 _])]) (v:=.v false [.im 0 _]) (Dw Va) (.inl j) j UU j (ppP j j j pp0) j j (pbP j j pb0) j j j)) (kY ⟨j,trivial⟩ (kY ⟨j,trivial⟩ trivial)) (t j j (xH j SE vF j j j j)<|t j j (oFA (r':=.mpe 3 0 3 _ 0) j BK j j)<|sS (dN z60 j (OC (v':=(⟨x59.1,x60.Ring⟩:aB)) tF9 j j j (fxI fx0) j j (kz SE) j)) (kN j (kN j trivial)) (sD (by kernel_rfl)))))<|Unw.blk<|K14 _ ⟨x59.2.code,x59.2.at_,x59.2.seed,x8.1.Width,x8.1.Height,x8.1.aH,(x8.1.aA.set x57.1.toNat (⟨x59.1,x60.Ring⟩:aB)),h,(by kernel_rfl)⟩
      ·refine gs<|g0 j j (q (oBi j j j j)<|q (aj j j)<|nl)<|us<|gc h j iEq (fun oD h=>?_) fun oD h=>?_
       ·obtain ⟨x68,XE,h⟩:=bs h
        obtain ⟨x74,aa0,h⟩:=bs h
        obtain ⟨x76,SG,h⟩:=bs h
        exact gd c60 j j j j (mk [(2,M 2),(3,M 3)] [(0,Od (G 1 (aJ x74.2))),(2,Oa [C (I 0),C (I 0),Z (W 2 af ([]:List ae)),Z (W 2 ah ([]:List aB))]),(3,Oa [C (I x8.1.Width),C (I x8.1.Height),Z (W 2 af x8.1.aH),Z (W 2 ah (x8.1.aA.set x68.1.toNat (⟨x76.Name,([0,x74.1]:List Int)⟩:aB)))])]) (t j j (oMv j j)<|t j j (oMv j j)<|t j j (oMv j j)<|sK (O:=[3]) j j j (dN z60 j (oFA (r':=.mp 3 0 3) j kF j j))<|sK (O:=[3]) j j j (dN z60 j (oLd (cs:=[.own 3 0 3]) j uO j j))<|sK (O:=[3]) j j j (dN z60 j (oFA (r':=.mp 3 0 2) j o6 j j))<|sK (O:=[3]) j j j (dN z60 j (oLd (cs:=[.own 3 0 2]) j AZ j j))<|sK (O:=[3]) j j j (dN z60 j (Dl j j BU j j j (fun e=>nomatch e)))<|sF (dN z60 j (oCa (xs:=[.v false [.mp 0 0 0],.v false [.im 0 _]]) (vs:=[(false,[.im 0 _])]) (v:=.v false [.im 0 _]) (aQ XE) (.inl j) j dA j (ppP j j j (ppC j pp0)) j j (pbP j j pb0) j j j)) (kY ⟨j,trivial⟩ (kY ⟨j,trivial⟩ (kY ⟨j,trivial⟩ (kY ⟨j,trivial⟩ (kY ⟨j,trivial⟩ trivial))))) (sS (dN z60 j (oBS (es:=List.map eI ([1,(-1),(x8.1.aH.length:Int)]:List Int)) j iq j (ptC j (fxI fx0) j (ptC j (fxI fx0) j (ptC j (fxI fx0) j pt0))) (cu j fun _=>j))) (kN j (kN j (kN j (kY ⟨j,trivial⟩ (kY ⟨j,trivial⟩ trivial))))) (sS (dN z60 j (oCa (xs:=[.v false [.mp 0 0 0],.v false [.own 73 0 0]]) (vs:=[(false,[.im 0 _])]) (v:=.v false [.im 0 _]) (eX aa0) (.inl j) j lS j (ppP j j j (ppC j pp0)) j j (pbP j j pb0) j j j)) (kN j (kN j (kN j (kY ⟨j,trivial⟩ (kY ⟨j,trivial⟩ trivial))))) (sS (dN z60 j (oBS (es:=List.map eI ([0,x74.1]:List Int)) j iq j (ptC j (fxI fx0) j (ptC j (fxI fx0) j pt0)) (cu j fun _=>j))) (kN j (kN j (kN j (kY ⟨j,trivial⟩ (kY ⟨j,trivial⟩ trivial))))) (t j j (xH j SG vF j j j j)<|t j j (oFA (r':=.mpe 3 0 3 _ 1) j pW j j)<|sS (dN z60 j (OC (v':=(⟨x76.Name,([0,x74.1]:List Int)⟩:aB)) Ac j j j (fxO j j fx0) j j (kz SG) j)) (kN j (kN j (kN j (kN j (kN j trivial))))) (sD (by kernel_rfl)))))) (sS (dN z60 j (oBS (es:=List.map eI ([1,(-1),(x8.1.aH.length:Int)]:List Int)) j iq j (ptC j (fxI fx0) j (ptC j (fxI fx0) j (ptC j (fxI fx0) j pt0))) (cu j fun _=>j))) (kN j (kN j (kN j (kY ⟨j,trivial⟩ (kY ⟨j,trivial⟩ trivial))))) (sS (dN z60 j (oCa (xs:=[.v false [.mp 0 0 0],.v false [.im 0 _]]) (vs:=[(false,[.im 0 _])]) (v:=.v false [.im 0 _]) (aQ XE) (.inl j) j dA j (ppP j j j (ppC j pp0)) j j (pbP j j pb0) j j j)) (kY ⟨j,trivial⟩ (kY ⟨j,trivial⟩ (kY ⟨j,trivial⟩ (kY ⟨j,trivial⟩ (kY ⟨j,trivial⟩ trivial))))) (sS (dN z60 j (oCa (xs:=[.v false [.mp 0 0 0],.v false [.own 73 0 0]]) (vs:=[(false,[.im 0 _])]) (v:=.v false [.im 0 _]) (eX aa0) (.inl j) j lS j (ppP j j j (ppC j pp0)) j j (pbP j j pb0) j j j)) (kN j (kN j (kN j (kY ⟨j,trivial⟩ (kY ⟨j,trivial⟩ trivial))))) (sS (dN z60 j (oBS (es:=List.map eI ([0,x74.1]:List Int)) j iq j (ptC j (fxI fx0) j (ptC j (fxI fx0) j pt0)) (cu j fun _=>j))) (kN j (kN j (kN j (kY ⟨j,trivial⟩ (kY ⟨j,trivial⟩ trivial))))) (t j j (xH j SG vF j j j j)<|t j j (oFA (r':=.mpe 3 0 3 _ 1) j pW j j)<|sS (dN z60 j (OC (v':=(⟨x76.Name,([0,x74.1]:List Int)⟩:aB)) Ac j j j (fxO j j fx0) j j (kz SG) j)) (kN j (kN j (kN j (kN j (kN j trivial))))) (sD (by kernel_rfl))))))))<|Unw.blk<|K14 _ ⟨x74.2.code,x74.2.at_,x74.2.seed,x8.1.Width,x8.1.Height,x8.1.aH,(x8.1.aA.set x68.1.toNat (⟨x76.Name,([0,x74.1]:List Int)⟩:aB)),h,(by kernel_rfl)⟩
       ·refine gs<|g0 j j (q (oBi j j j j)<|q (aj j j)<|nl)<|us<|gc h j iEq (fun hc21 h=>?_) fun hc21 h=>?_
        ·obtain ⟨x84,XF,h⟩:=bs h
         obtain ⟨x86,XD,h⟩:=bs h
         exact gd c60 j j j j (mk [(2,M 2),(3,M 3)] [(0,Od (G 1 (aJ x13.2))),(2,Oa [C (I 0),C (I 0),Z (W 2 af ([]:List ae)),Z (W 2 ah ([]:List aB))]),(3,Oa [C (I x8.1.Width),C (I x8.1.Height),Z (W 2 af (x8.1.aH.set ((1:Int).toNat) x84)),Z (W 2 ah x8.1.aA)])]) (t j j (oFA (r':=.mp 3 0 2) j o6 j j)<|t j j (oLd (cs:=[.own 3 0 2]) j AZ j j)<|t j j (oFA (r':=.mp 3 0 2) j o6 j j)<|t j j (oLd (cs:=[.own 3 0 2]) j AZ j j)<|t j j (xH j XF uN j j j j)<|t j j (Dk (cs:=[.im 0 _,.im 0 _]) j aU j j j j (kz XF) j j)<|t j j (xH j XD uN j j j j)<|sS (dN z60 j (OC (v':=x84) aU j j j (fxI (fxI fx0)) j j (kz XD) j)) trivial (sD (by kernel_rfl)))<|Unw.blk<|K14 _ ⟨x13.2.code,x13.2.at_,x13.2.seed,x8.1.Width,x8.1.Height,(x8.1.aH.set ((1:Int).toNat) x84),x8.1.aA,h,(by kernel_rfl)⟩
        ·refine gs<|g0 j j (q (oBi j j j j)<|q (aj j j)<|nl)<|us<|gc h j iEq (fun hc22 h=>?_) fun hc22 h=>?_
         ·refine gs<|g0 j j (q (oBu (cs:=[.im 0 _,.im 0 _,.nil,.nil]) j Xk j)<|q (oSt iH j j j (tkI (tkI (tkN (tkN tk0)))) j j j)<|nl)<|us<|gs<|?_
          obtain ⟨x91,hx91,h⟩:=bs h
          refine g1 j j (mk [(0,M 0),(2,M 2),(3,M 3)] [(0,Od (G 1 (aJ x13.2))),(2,Oa [C (I 0),C (I 0),Z (W 2 af ([]:List ae)),Z (W 2 ah ([]:List aB))]),(3,Oa [C (I 480),C (I 20),Z (W 2 af ([]:List ae)),Z (W 2 ah ([]:List aB))])]) (q (oMv j j)<|q (oCa (xs:=[.v false [.mp 0 0 0],.v false [.im 0 _]]) (vs:=[(false,[.im 0 _])]) (v:=.v false [.im 0 _]) (aQ hx91) (.inl j) j dA j (ppP j j j (ppC j pp0)) j j (pbP j j pb0) j j j)<|q (oBi j j j j)<|q (aj j j)<|nl)<|us<|gs<|g1 j j (mk [(2,M 2),(3,M 3),(5,iv (w64 (23+x91.1)))] [(0,Od (G 1 (aJ x91.2))),(2,Oa [C (I 0),C (I 0),Z (W 2 af ([]:List ae)),Z (W 2 ah ([]:List aB))]),(3,Oa [C (I 480),C (I 20),Z (W 2 af ([]:List ae)),Z (W 2 ah ([]:List aB))])]) (q (aj j j)<|nl)<|us<|Go.block<|?_
          obtain ⟨o,hl,h⟩:=bs h
          refine gl c60 j _ (fun (s:(Int×(List ae)×(List aB)))=>match s with | (dL,wM,oW)=>mk [(2,M 2),(3,M 3),(5,iv (w64 (23+x91.1))),(6,iv dL)] [(0,Od (G 1 (aJ x91.2))),(2,Oa [C (I 0),C (I 0),Z (W 2 af ([]:List ae)),Z (W 2 ah ([]:List aB))]),(3,Oa [C (I 480),C (I 20),Z (W 2 af wM),Z (W 2 ah oW)])]) (fun (o:((List ae)×(List aB))) (p:Ex×St)=>match o with | (pJ,pK)=>p.1= .exit 1∧p.2.norm ([2,3],[0,2,3])=mk [(2,M 2),(3,M 3)] [(0,Od (G 1 (aJ x91.2))),(2,Oa [C (I 0),C (I 0),Z (W 2 af ([]:List ae)),Z (W 2 ah ([]:List aB))]),(3,Oa [C (I 480),C (I 20),Z (W 2 af pJ),Z (W 2 ah pK)])]) hl (by kernel_rfl) ?_ ?_ ?_
          ·intro o p hp e
           obtain ⟨pJ,pK⟩:=o
           exact nomatch (hp.1.symm.trans e)
          ·rintro ⟨dL,wM,oW⟩ o h
           unfold jH at h
           dsimp only at h
           refine gs<|gs<|g0 j j (q (oMv j j)<|q (oMv j j)<|q (oBi j j j j)<|nl)<|us<|gc h j aC (fun hc27 h=>?_) fun hc27 h=>?_
           ·refine Go.skip<|us<|gs<|Go.join (fun st=>∃wK,∃wL,mQ dL wK wL=some o∧st.norm ([2,3,5,6],[0,2,3])=mk [(2,M 2),(3,M 3),(5,iv (w64 (23+x91.1))),(6,iv dL)] [(0,Od (G 1 (aJ x91.2))),(2,Oa [C (I 0),C (I 0),Z (W 2 af ([]:List ae)),Z (W 2 ah ([]:List aB))]),(3,Oa [C (I 480),C (I 20),Z (W 2 af wL),Z (W 2 ah wK)])]) ?_ ?_
            ·rintro st ⟨wK,wL,h,hst⟩
             unfold mQ at h
             refine us<|g2 c60 j j hst (q (oMv j j)<|q (oBi j j j j)<|q (aj j j)<|nl)<|Unw.nil<|?_
             cases h
             exact ⟨j,(by kernel_rfl)⟩
            ·intro K29
             refine Go.block<|gs<|?_
             obtain ⟨x107,QT,h⟩:=bs h
             refine g0 j j (q (oFA (r':=.mp 3 0 2) j o6 j j)<|q (oLd (cs:=[.own 3 0 2]) j AZ j j)<|q (oMv j j)<|q (oBi j j j j)<|q (oBu (cs:=[.im 0 _,.im 0 _]) j QH j)<|q (oMv j j)<|q (oBi j j j j)<|q (oBu (cs:=[.im 0 _,.im 0 _]) j QH j)<|q (oBS (es:=List.map af ([(⟨(w64 (20*dL)),0⟩:ae),(⟨(w64 (20*dL)),10⟩:ae)]:List ae)) j uN j (ptC j (fxI (fxI fx0)) j (ptC j (fxI (fxI fx0)) j pt0)) (cu j fun _=>j))<|q (vS (en:=af) (M:=([(⟨(w64 (20*dL)),0⟩:ae),(⟨(w64 (20*dL)),10⟩:ae)]:List ae)) j QT j uN j j BU (.inl ⟨_,j⟩) j j j j (kC j j) (cu j fun _=>j))<|q (oFA (r':=.mp 3 0 2) j o6 j j)<|q (oSt AZ j j j (tkO j j tk0) j j j)<|nl)<|us<|gs<|g1 j j (mk [(2,M 2),(3,M 3),(5,iv (w64 (23+x91.1))),(6,iv dL)] [(0,Od (G 1 (aJ x91.2))),(2,Oa [C (I 0),C (I 0),Z (W 2 af ([]:List ae)),Z (W 2 ah ([]:List aB))]),(3,Oa [C (I 480),C (I 20),Z (W 2 af x107),Z (W 2 ah oW)])]) (q (oMv j j)<|q (oBi j j j j)<|nl)<|us<|gc h j aC (fun O0 h=>?_) fun O0 h=>?_
             ·obtain ⟨WA,aa1,h⟩:=bs h
              obtain ⟨rM,Vh,h⟩:=bs h
              exact g0 j j (q (oFA (r':=.mp 3 0 3) j kF j j)<|q (oLd (cs:=[.own 3 0 3]) j uO j j)<|q (oMv j j)<|q (oBi j j j j)<|q (Ux j uF2 uF5 j)<|q (oBS (es:=List.map (eK .u8) ([(IntKind.wrap .u8 ((w64 (97+dL))))]:List Int)) j Iy j (ptC j (fxI fx0) j pt0) (cu j fun _=>j))<|q (ZY (l:=([(IntKind.wrap .u8 ((w64 (97+dL))))]:List Int)) j LP uF5 uF9 j (kC j j))<|q (OA j aa1 j j)<|q (oMv j j)<|q (oBi j j j j)<|q (oBi j j j j)<|q (oMv j j)<|q (oBi j j j j)<|q (oMv j j)<|q (oBi j j j j)<|q (oBi j j j j)<|q (oMv j j)<|q (oBi j j j j)<|q (oBi j j j j)<|q (oBS (es:=List.map eI ([(w64 ((w64 (2*dL)) - 2)),(w64 (2*dL)),(w64 ((w64 (2*dL))+1)),(w64 ((w64 (2*dL)) - 1))]:List Int)) j iq j (ptC j (fxI fx0) j (ptC j (fxI fx0) j (ptC j (fxI fx0) j (ptC j (fxI fx0) j pt0)))) (cu j fun _=>j))<|q (oBu (cs:=[.im 0 _,.own 130 0 0]) j JZ j)<|q (oBS (es:=List.map ah ([(⟨WA,([(w64 ((w64 (2*dL)) - 2)),(w64 (2*dL)),(w64 ((w64 (2*dL))+1)),(w64 ((w64 (2*dL)) - 1))]:List Int)⟩:aB)]:List aB)) j vF j (ptC j (fxI (fxO j j fx0)) j pt0) (qZ j))<|q (vS (en:=ah) (M:=([(⟨WA,([(w64 ((w64 (2*dL)) - 2)),(w64 (2*dL)),(w64 ((w64 (2*dL))+1)),(w64 ((w64 (2*dL)) - 1))]:List Int)⟩:aB)]:List aB)) j Vh j vF j j Ff (.inl ⟨_,j⟩) j j j j (kC j j) (qZ j))<|q (oFA (r':=.mp 3 0 3) j kF j j)<|q (oSt uO j j j (tkO j j tk0) j j j)<|nl)<|Unw.blk<|K29 _ ⟨rM,x107,h,(by kernel_rfl)⟩
             ·exact Go.skip<|Unw.blk<|K29 _ ⟨oW,x107,h,(by kernel_rfl)⟩
           ·refine Go.exit<|ux<|Unw.nil<|?_
            cases h
            exact ⟨j,(by kernel_rfl)⟩
          ·rintro ⟨e,st⟩ hp
           obtain ⟨pJ,pK⟩:=o
           dsimp only at h
           obtain ⟨he,hst⟩:=hp
           obtain rfl:e= .exit 1:=he
           exact Unw.ng<|Unw.blk<|K14 _ ⟨x91.2.code,x91.2.at_,x91.2.seed,480,20,pJ,pK,h,hst⟩
         ·refine gs<|g0 j j (q (oBi j j j j)<|q (aj j j)<|nl)<|us<|gc h j iEq (fun hc31 h=>?_) fun hc31 h=>?_
          ·obtain ⟨OJ,aa2,h⟩:=bs h
           obtain ⟨UN,Yo,h⟩:=bs h
           obtain ⟨F6,aa3,h⟩:=bs h
           obtain ⟨x150,hx150,h⟩:=bs h
           exact gd c60 j j j j (mk [(2,M 2),(3,M 3)] [(0,Od (G 1 (aJ F6.2))),(2,Oa [C (I 0),C (I 0),Z (W 2 af ([]:List ae)),Z (W 2 ah ([]:List aB))]),(3,Oa [C (I x8.1.Width),C (I x8.1.Height),Z (W 2 af (x8.1.aH.set OJ.1.toNat (⟨(w64 (UN.X+F6.1)),x150.Y⟩:ae))),Z (W 2 ah x8.1.aA)])]) (t j j (oMv j j)<|t j j (oFA (r':=.mp 3 0 2) j o6 j j)<|t j j (oLd (cs:=[.own 3 0 2]) j AZ j j)<|t j j (Dl j j BU j j j (fun e=>nomatch e))<|t j j (oMv j j)<|sK (O:=[3]) j j j (dN z60 j (oFA (r':=.mp 3 0 2) j o6 j j))<|sK (O:=[3]) j j j (dN z60 j (oLd (cs:=[.own 3 0 2]) j AZ j j))<|sS (dN z60 j (oCa (xs:=[.v false [.mp 0 0 0],.v false [.im 0 _]]) (vs:=[(false,[.im 0 _])]) (v:=.v false [.im 0 _]) (aQ aa2) (.inl j) j dA j (ppP j j j (ppC j pp0)) j j (pbP j j pb0) j j j)) (kY ⟨j,trivial⟩ (kY ⟨j,trivial⟩ trivial)) (sK (O:=[3]) j j j (dN z60 j (xH j Yo uN j j j j))<|sK (O:=[3]) j j j (dN z60 j (oFA (r':=.mpe 3 0 2 _ 0) j nM j j))<|sK (O:=[3]) j j j (dN z60 j (Dk (cs:=[.im 0 _]) j tF2 j j j j (kz Yo) j j))<|sS (dN z60 j (oCa (xs:=[.v false [.mp 0 0 0],.v false [.im 0 _]]) (vs:=[(false,[.im 0 _])]) (v:=.v false [.im 0 _]) (aQ aa3) (.inl j) j dA j (ppP j j j (ppC j pp0)) j j (pbP j j pb0) j j j)) (kY ⟨j,trivial⟩ (kY ⟨j,trivial⟩ (kY ⟨j,trivial⟩ (kY ⟨j,trivial⟩ (kY ⟨j,trivial⟩ trivial))))) (t j j (oBi j j j j)<|t j j (xH j hx150 uN j j j j)<|t j j (oFA (r':=.mpe 3 0 2 _ 0) j nM j j)<|sS (dN z60 j (OC (v':=(⟨(w64 (UN.X+F6.1)),x150.Y⟩:ae)) tF2 j j j (fxI fx0) j j (kz hx150) j)) (kN j (kN j (kN j (kN j (kN j trivial))))) (sD (by kernel_rfl)))))<|Unw.blk<|K14 _ ⟨F6.2.code,F6.2.at_,F6.2.seed,x8.1.Width,x8.1.Height,(x8.1.aH.set OJ.1.toNat (⟨(w64 (UN.X+F6.1)),x150.Y⟩:ae)),x8.1.aA,h,(by kernel_rfl)⟩
          ·exact Go.skip<|Unw.blk<|K14 _ ⟨x13.2.code,x13.2.at_,x13.2.seed,x8.1.Width,x8.1.Height,x8.1.aH,x8.1.aA,h,(by kernel_rfl)⟩
theorem Gf {r:(List (List Int))} (h:nX=some r):FX 135 [] (B0 [(false,[.ow 0 1 (List.map (eL 1 eI) r)])]):=by
 unfold nX at h
 refine gn 12 Try.func135 rfl ?_
 refine gs<|g0 j j (q (uZ j j aat)<|nl)<|us<|gs<|g0 j j (q (oBS (es:=List.map eI ([20,40,310]:List Int)) j iq j (ptC j (fxI fx0) j (ptC j (fxI fx0) j (ptC j (fxI fx0) j pt0))) (cu j fun _=>j))<|q (oBS (es:=List.map eI ([35,45,410]:List Int)) j iq j (ptC j (fxI fx0) j (ptC j (fxI fx0) j (ptC j (fxI fx0) j pt0))) (cu j fun _=>j))<|q (oBS (es:=List.map eI ([15,33,280]:List Int)) j iq j (ptC j (fxI fx0) j (ptC j (fxI fx0) j (ptC j (fxI fx0) j pt0))) (cu j fun _=>j))<|q (oBS (es:=List.map eI ([50,36,240]:List Int)) j iq j (ptC j (fxI fx0) j (ptC j (fxI fx0) j (ptC j (fxI fx0) j pt0))) (cu j fun _=>j))<|q (oBS (es:=List.map eI ([95,85,270]:List Int)) j iq j (ptC j (fxI fx0) j (ptC j (fxI fx0) j (ptC j (fxI fx0) j pt0))) (cu j fun _=>j))<|q (oBS (es:=List.map eI ([5,35,370]:List Int)) j iq j (ptC j (fxI fx0) j (ptC j (fxI fx0) j (ptC j (fxI fx0) j pt0))) (cu j fun _=>j))<|q (oBS (es:=List.map eI ([10,42,290]:List Int)) j iq j (ptC j (fxI fx0) j (ptC j (fxI fx0) j (ptC j (fxI fx0) j pt0))) (cu j fun _=>j))<|q (oBS (es:=List.map eI ([40,40,330]:List Int)) j iq j (ptC j (fxI fx0) j (ptC j (fxI fx0) j (ptC j (fxI fx0) j pt0))) (cu j fun _=>j))<|q (oBS (es:=List.map eI ([80,60,220]:List Int)) j iq j (ptC j (fxI fx0) j (ptC j (fxI fx0) j (ptC j (fxI fx0) j pt0))) (cu j fun _=>j))<|q (oBS (es:=List.map eI ([70,38,260]:List Int)) j iq j (ptC j (fxI fx0) j (ptC j (fxI fx0) j (ptC j (fxI fx0) j pt0))) (cu j fun _=>j))<|q (oBS (es:=List.map (eL 1 eI) ([([20,40,310]:List Int),([35,45,410]:List Int),([15,33,280]:List Int),([50,36,240]:List Int),([95,85,270]:List Int),([5,35,370]:List Int),([10,42,290]:List Int),([40,40,330]:List Int),([80,60,220]:List Int),([70,38,260]:List Int)]:List (List Int))) j OX j (ptC j (fxO j j fx0) j (ptC j (fxO j j fx0) j (ptC j (fxO j j fx0) j (ptC j (fxO j j fx0) j (ptC j (fxO j j fx0) j (ptC j (fxO j j fx0) j (ptC j (fxO j j fx0) j (ptC j (fxO j j fx0) j (ptC j (fxO j j fx0) j (ptC j (fxO j j fx0) j pt0)))))))))) (qZ j))<|q (lD j j j j j)<|nl)<|us<|Go.ret (Unw.ret ?_)
 cases h
 exact fr aaE j
theorem zV {r:(List ByteArray)} (h:tK=some r):FX 159 [] (B0 [(false,[.ow 0 1 (List.map eS r)])]):=by
 unfold tK at h
 refine gn 2 Try.func159 rfl ?_
 refine gs<|g0 j j (q (uZ j j aar)<|nl)<|us<|gs<|g0 j j (q (oBS (es:=List.map eS ([(⟨#[97,115,104]⟩:ByteArray),(⟨#[98,101,101,99,104]⟩:ByteArray),(⟨#[98,105,114,99,104]⟩:ByteArray),(⟨#[99,104,101,114,114,121]⟩:ByteArray),(⟨#[101,98,111,110,121]⟩:ByteArray),(⟨#[104,111,108,108,121]⟩:ByteArray),(⟨#[109,97,112,108,101]⟩:ByteArray),(⟨#[111,97,107]⟩:ByteArray),(⟨#[114,111,115,101,119,111,111,100]⟩:ByteArray),(⟨#[119,97,108,110,117,116]⟩:ByteArray)]:List ByteArray)) j J3 j (ptC j (fxI fx0) j (ptC j (fxI fx0) j (ptC j (fxI fx0) j (ptC j (fxI fx0) j (ptC j (fxI fx0) j (ptC j (fxI fx0) j (ptC j (fxI fx0) j (ptC j (fxI fx0) j (ptC j (fxI fx0) j (ptC j (fxI fx0) j pt0)))))))))) (cu j fun _=>j))<|q (lD j j j j j)<|nl)<|us<|Go.ret (Unw.ret ?_)
 cases h
 exact fr aaI j
theorem yc {a_0:Int} {b_1:Int} {r:Int} (h:um a_0 b_1=some r):FX 137 [.im 2 false [I a_0],.im 2 false [I b_1]] (B0 [(false,[.im 0 (I r)])]):=by
 unfold um at h
 refine gn 10 Try.func137 rfl ?_
 refine gs<|g0 j j (q (aj j j)<|nl)<|us<|gs<|gs<|g0 j j (q (oMv j j)<|q (oMv j j)<|q (oBi j j j j)<|nl)<|us<|gc h j aC (fun hc1 h=>?_) fun hc1 h=>?_
 ·refine gs<|g0 j j (q (oMv j j)<|q (aj j j)<|nl)<|us<|Go.ret (Unw.ret ?_)
  cases h
  exact fr Yc j
 ·refine Go.skip<|us<|gs<|g0 j j (q (oMv j j)<|q (aj j j)<|nl)<|us<|Go.ret (Unw.ret ?_)
  cases h
  exact fr Yc j
theorem tV {a_0:Int} {b_1:Int} {r:Int} (h:uq a_0 b_1=some r):FX 160 [.im 2 false [I a_0],.im 2 false [I b_1]] (B0 [(false,[.im 0 (I r)])]):=by
 unfold uq at h
 refine gn 10 Try.func160 rfl ?_
 refine gs<|g0 j j (q (aj j j)<|nl)<|us<|gs<|gs<|g0 j j (q (oMv j j)<|q (oMv j j)<|q (oBi j j j j)<|nl)<|us<|gc h j aC (fun hc1 h=>?_) fun hc1 h=>?_
 ·refine gs<|g0 j j (q (oMv j j)<|q (aj j j)<|nl)<|us<|Go.ret (Unw.ret ?_)
  cases h
  exact fr Yj j
 ·refine Go.skip<|us<|gs<|g0 j j (q (oMv j j)<|q (aj j j)<|nl)<|us<|Go.ret (Unw.ret ?_)
  cases h
  exact fr Yj j
theorem xy {s_0:ai} {r:(ak×ai)} (h:lJ s_0=some r):FX 107 [.ptr true [(.imm,W 1 (eK .u8) s_0.code),(.imm,I s_0.at_),(.imm,.sc (.int .u64 s_0.seed))]] ([(true,J 0 (nK r.1))],[.ptr true [(.imm,W 1 (eK .u8) r.2.code),(.imm,I r.2.at_),(.imm,.sc (.int .u64 r.2.seed))]]):=by
 unfold lJ at h
 refine oP (A:=[(0,M 0)]) (B:=[(0,Od (G 1 (aJ s_0)))]) (nt:=36) rfl rfl Try.func107 rfl rfl rfl rfl ?_
 refine gs<|g0 j j (q (oAl j rO (tkI (tkI (tkI tk0))))<|nl)<|us<|gs<|?_
 obtain ⟨x8,hx8,h⟩:=bs h
 refine g0 j j (q (oMv j j)<|q (oCa (xs:=[.v false [.mp 0 0 0],.v false [.im 0 _]]) (vs:=[(false,[.im 0 _])]) (v:=.v false [.im 0 _]) (aQ hx8) (.inl j) j dA j (ppP j j j (ppC j pp0)) j j (pbP j j pb0) j j j)<|q (aj j j)<|nl)<|us<|gs<|?_
 obtain ⟨x9,hx9,h⟩:=bs h
 obtain ⟨x11,Jk,h⟩:=bs h
 obtain ⟨x13,Fg,h⟩:=bs h
 obtain ⟨x16,hx16,h⟩:=bs h
 refine gd c107 j j j (st1:=mk [(0,M 0),(2,M 2),(3,iv x8.1)] [(0,Od (G 1 (aJ x8.2))),(2,Oa [C (Y (⟨#[]⟩:ByteArray)),C (I 0),C (I 0)])]) (by kernel_rfl) (mk [(0,M 0),(2,M 2),(3,iv x8.1),(4,iv (w64 ((w64 (x13+x16.1)) - 10)))] [(0,Od (G 1 (aJ x16.2))),(2,Oa [C (Y (⟨#[]⟩:ByteArray)),C (I 0),C (I 0)])]) (t j j (oMv j j)<|t j j (oMv j j)<|sS (dN z107 j (oCr (xs:=[]) (vs:=[(false,[.own 9 0 0])]) (v:=.v false [.own 9 0 0]) (c:=⟨.sh,0,_⟩) (cs:=[]) (Gf hx9) (.inl j) j Y4 j pp0 j j pb0 j j j)) trivial (sK (O:=[9]) j j j (dN z107 j (xH j Jk OX j j j j))<|sK (O:=[9]) j j j (dN z107 j (Dk (cs:=[.im 0 _]) j Ac j j j j (kz Jk) j j))<|t j j (lF j Fg iq j j)<|t j j (oLd (cs:=[.im 0 _]) j tF2 j j)<|sS (dN z107 j (oCa (xs:=[.v false [.mp 0 0 0],.v false [.im 0 _]]) (vs:=[(false,[.im 0 _])]) (v:=.v false [.im 0 _]) (aQ hx16) (.inl j) j dA j (ppP j j j (ppC j pp0)) j j (pbP j j pb0) j j j)) (kY ⟨j,trivial⟩ (kY ⟨j,trivial⟩ trivial)) (t j j (oBi j j j j)<|t j j (oBi j j j j)<|sS (dN z107 j (aj j j)) (kN j (kN j trivial)) (sD (by kernel_rfl)))))<|us<|gs<|?_
 obtain ⟨x19,F8,h⟩:=bs h
 obtain ⟨x21,NQ,h⟩:=bs h
 obtain ⟨x24,hx24,h⟩:=bs h
 obtain ⟨x25,hx25,h⟩:=bs h
 refine gd c107 j j j j (mk [(0,M 0),(2,M 2),(5,M 5)] [(0,Od (G 1 (aJ x16.2))),(2,Oa [C (Y (⟨#[]⟩:ByteArray)),C (I 0),C (I 0)]),(5,Oa [C (Y x21),C (I x25),C (I 0)])]) (t j j (oMv j j)<|t j j (oMv j j)<|sF (dN z107 j (oCr (xs:=[]) (vs:=[(false,[.own 19 0 0])]) (v:=.v false [.own 19 0 0]) (c:=⟨.sh,0,_⟩) (cs:=[]) (zV F8) (.inl j) j U2 j pp0 j j pb0 j j j)) trivial (t j j (xH j NQ J3 j j j j)<|t j j (Dk (cs:=[.im 0 _]) j tF9 j j j j (kz NQ) j j)<|sF (dN z107 j (oCa (xs:=[.v false [.im 0 _],.v false [.im 0 _]]) (vs:=[(false,[.im 0 _])]) (v:=.v false [.im 0 _]) (yc hx24) (.inl j) j Fb j (ppC j (ppC j pp0)) j j pb0 j j j)) trivial (sF (dN z107 j (oCa (xs:=[.v false [.im 0 _],.v false [.im 0 _]]) (vs:=[(false,[.im 0 _])]) (v:=.v false [.im 0 _]) (tV hx25) (.inl j) j BL j (ppC j (ppC j pp0)) j j pb0 j j j)) trivial (sF (dN z107 j (oBu (cs:=[.im 0 _,.im 0 _,.im 0 _]) j UR j)) trivial (sS (dN z107 j (oAl j rO (tkI (tkI (tkI tk0))))) trivial (sS (dN z107 j (oSt rO j j j (tkI (tkI (tkI tk0))) j j j)) trivial (sD (by kernel_rfl)))) (sS (dN z107 j (oAl j rO (tkI (tkI (tkI tk0))))) trivial (sS (dN z107 j (oBu (cs:=[.im 0 _,.im 0 _,.im 0 _]) j UR j)) trivial (sS (dN z107 j (oSt rO j j j (tkI (tkI (tkI tk0))) j j j)) trivial (sD (by kernel_rfl)))))) (sS (dN z107 j (oAl j rO (tkI (tkI (tkI tk0))))) trivial (sS (dN z107 j (oCa (xs:=[.v false [.im 0 _],.v false [.im 0 _]]) (vs:=[(false,[.im 0 _])]) (v:=.v false [.im 0 _]) (tV hx25) (.inl j) j BL j (ppC j (ppC j pp0)) j j pb0 j j j)) trivial (sS (dN z107 j (oBu (cs:=[.im 0 _,.im 0 _,.im 0 _]) j UR j)) trivial (sS (dN z107 j (oSt rO j j j (tkI (tkI (tkI tk0))) j j j)) trivial (sD (by kernel_rfl))))))) (sS (dN z107 j (oAl j rO (tkI (tkI (tkI tk0))))) trivial (sS (dN z107 j (oCa (xs:=[.v false [.im 0 _],.v false [.im 0 _]]) (vs:=[(false,[.im 0 _])]) (v:=.v false [.im 0 _]) (yc hx24) (.inl j) j Fb j (ppC j (ppC j pp0)) j j pb0 j j j)) trivial (sS (dN z107 j (oCa (xs:=[.v false [.im 0 _],.v false [.im 0 _]]) (vs:=[(false,[.im 0 _])]) (v:=.v false [.im 0 _]) (tV hx25) (.inl j) j BL j (ppC j (ppC j pp0)) j j pb0 j j j)) trivial (sS (dN z107 j (oBu (cs:=[.im 0 _,.im 0 _,.im 0 _]) j UR j)) trivial (sS (dN z107 j (oSt rO j j j (tkI (tkI (tkI tk0))) j j j)) trivial (sD (by kernel_rfl)))))))) (sS (dN z107 j (oAl j rO (tkI (tkI (tkI tk0))))) trivial (sS (dN z107 j (oCr (xs:=[]) (vs:=[(false,[.own 19 0 0])]) (v:=.v false [.own 19 0 0]) (c:=⟨.sh,0,_⟩) (cs:=[]) (zV F8) (.inl j) j U2 j pp0 j j pb0 j j j)) trivial (t j j (xH j NQ J3 j j j j)<|t j j (Dk (cs:=[.im 0 _]) j tF9 j j j j (kz NQ) j j)<|sS (dN z107 j (oCa (xs:=[.v false [.im 0 _],.v false [.im 0 _]]) (vs:=[(false,[.im 0 _])]) (v:=.v false [.im 0 _]) (yc hx24) (.inl j) j Fb j (ppC j (ppC j pp0)) j j pb0 j j j)) trivial (sS (dN z107 j (oCa (xs:=[.v false [.im 0 _],.v false [.im 0 _]]) (vs:=[(false,[.im 0 _])]) (v:=.v false [.im 0 _]) (tV hx25) (.inl j) j BL j (ppC j (ppC j pp0)) j j pb0 j j j)) trivial (sS (dN z107 j (oBu (cs:=[.im 0 _,.im 0 _,.im 0 _]) j UR j)) trivial (sS (dN z107 j (oSt rO j j j (tkI (tkI (tkI tk0))) j j j)) trivial (sD (by kernel_rfl)))))))))<|us<|gs<|?_
 obtain ⟨x28,hx28,h⟩:=bs h
 refine g0 j j (q (oMv j j)<|q (oCa (xs:=[.v false [.mp 0 0 0],.v false [.im 0 _]]) (vs:=[(false,[.im 0 _])]) (v:=.v false [.im 0 _]) (aQ hx28) (.inl j) j dA j (ppP j j j (ppC j pp0)) j j (pbP j j pb0) j j j)<|q (aj j j)<|nl)<|us<|gs<|?_
 obtain ⟨x33,Ve,h⟩:=bs h
 refine g1 j j (mk [(0,M 0),(2,M 2),(5,M 5),(6,iv x28.1)] [(0,Od (G 1 (aJ x28.2))),(2,Oa [C (Y (⟨#[]⟩:ByteArray)),C (I 0),C (I 0)]),(5,Oa [C (Y x21),C (I x25),C (I 0)])]) (q (oMv j j)<|q (oMv j j)<|q (oMv j j)<|q (oBS (es:=List.map eI ([x28.1,x28.1,0,90,45]:List Int)) j iq j (ptC j (fxI fx0) j (ptC j (fxI fx0) j (ptC j (fxI fx0) j (ptC j (fxI fx0) j (ptC j (fxI fx0) j pt0))))) (cu j fun _=>j))<|q (oCa (xs:=[.v false [.mp 0 0 0],.v false [.own 32 0 0]]) (vs:=[(false,[.im 0 _])]) (v:=.v false [.im 0 _]) (eX Ve) (.inl j) j lS j (ppP j j j (ppC j pp0)) j j (pbP j j pb0) j j j)<|q (oFA (r':=.mp 5 0 2) j Iq j j)<|q (oSt tF2 j j j (tkI tk0) j j j)<|nl)<|us<|gs<|g1 j j (mk [(2,M 2),(5,M 5)] [(0,Od (G 1 (aJ x33.2))),(2,Oa [C (Y (⟨#[]⟩:ByteArray)),C (I 0),C (I 0)]),(5,Oa [C (Y x21),C (I x25),C (I x33.1)])]) (q (oLd (cs:=[.im 0 _,.im 0 _,.im 0 _]) j rO j j)<|q (oSt rO j j j (tkI (tkI (tkI tk0))) j j j)<|nl)<|us<|Go.ret (Unw.ret ?_)
 cases h
 exact fr aax j
theorem IJ {s_0:ai} {r:(ak×ai)} (h:rD s_0=some r):FX 117 [.ptr true [(.imm,W 1 (eK .u8) s_0.code),(.imm,I s_0.at_),(.imm,.sc (.int .u64 s_0.seed))]] ([(true,J 0 (nK r.1))],[.ptr true [(.imm,W 1 (eK .u8) r.2.code),(.imm,I r.2.at_),(.imm,.sc (.int .u64 r.2.seed))]]):=by
 unfold rD at h
 refine oP (A:=[(0,M 0)]) (B:=[(0,Od (G 1 (aJ s_0)))]) (nt:=27) rfl rfl Try.func117 rfl rfl rfl rfl ?_
 refine gs<|g0 j j (q (oAl j rO (tkI (tkI (tkI tk0))))<|nl)<|us<|gs<|?_
 obtain ⟨x5,hx5,h⟩:=bs h
 refine g0 j j (q (oMv j j)<|q (oCa (xs:=[.v false [.mp 0 0 0]]) (vs:=[(true,[.im 0 _,.im 0 _,.im 0 _])]) (v:=.v true [.im 0 _,.im 0 _,.im 0 _]) (xy hx5) (.inl j) j Ir j (ppP j j j pp0) j j (pbP j j pb0) j j j)<|q (oAl j rO (tkI (tkI (tkI tk0))))<|q (oSt rO j j j (tkI (tkI (tkI tk0))) j j j)<|nl)<|us<|gs<|gs<|?_
 obtain ⟨x7,hx7,h⟩:=bs h
 refine g1 j j (mk [(0,M 0),(2,M 2),(3,M 3)] [(0,Od (G 1 (aJ x5.2))),(2,Oa [C (Y (⟨#[]⟩:ByteArray)),C (I 0),C (I 0)]),(3,Oa (G 0 (nK x5.1)))]) (q (oMv j j)<|q (oCa (xs:=[.v false [.mp 0 0 0],.v false [.im 0 _]]) (vs:=[(false,[.im 0 _])]) (v:=.v false [.im 0 _]) (aQ hx7) (.inl j) j dA j (ppP j j j (ppC j pp0)) j j (pbP j j pb0) j j j)<|nl)<|us<|Go.join (fun st=>∃yQ,∃yR,∃yS,∃yT,∃yU,∃yV,kD yQ yR yS yT yU yV=some r∧st.norm ([2,3],[0,2,3])=mk [(2,M 2),(3,M 3)] [(0,Od [Ct 1 (W 1 (eK .u8) yQ),C (I yR),C (.sc (.int .u64 yS))]),(2,Oa [C (Y (⟨#[]⟩:ByteArray)),C (I 0),C (I 0)]),(3,Oa [C (Y yT),C (I yU),C (I yV)])]) ?_ ?_
 ·rintro st ⟨yQ,yR,yS,yT,yU,yV,h,hst⟩
  unfold kD at h
  refine us<|gs<|g2 c117 j j hst (q (oLd (cs:=[.im 0 _,.im 0 _,.im 0 _]) j rO j j)<|q (oSt rO j j j (tkI (tkI (tkI tk0))) j j j)<|nl)<|us<|Go.ret (Unw.ret ?_)
  cases h
  exact fr aaA j
 ·intro K4
  refine Go.block<|gs<|g1 j j (mk [(0,M 0),(2,M 2),(3,M 3),(7,iv x7.1)] [(0,Od (G 1 (aJ x7.2))),(2,Oa [C (Y (⟨#[]⟩:ByteArray)),C (I 0),C (I 0)]),(3,Oa (G 0 (nK x5.1)))]) (q (oBi j j j j)<|q (aj j j)<|nl)<|us<|gc h j iEq (fun hc5 h=>?_) fun hc5 h=>?_
  ·obtain ⟨x12,Gg,h⟩:=bs h
   exact g0 j j (q (oMv j j)<|q (oBS (es:=List.map eS ([(⟨#[112,105,110,101]⟩:ByteArray),(⟨#[]⟩:ByteArray),(⟨#[79,97,107]⟩:ByteArray)]:List ByteArray)) j J3 j (ptC j (fxI fx0) j (ptC j (fxI fx0) j (ptC j (fxI fx0) j pt0))) (cu j fun _=>j))<|q (oCa (xs:=[.v false [.mp 0 0 0],.v false [.own 11 0 0]]) (vs:=[(false,[.im 0 _])]) (v:=.v false [.im 0 _]) (xx Gg) (.inl j) j Ep j (ppP j j j (ppC j pp0)) j j (pbP j j pb0) j j j)<|q (oFA (r':=.mp 3 0 0) j UT j j)<|q (oSt tF9 j j j (tkI tk0) j j j)<|nl)<|Unw.blk<|K4 _ ⟨x12.2.code,x12.2.at_,x12.2.seed,x12.1,x5.1.iM,x5.1.dw,h,(by kernel_rfl)⟩
  ·refine gs<|g0 j j (q (oBi j j j j)<|q (aj j j)<|nl)<|us<|gc h j iEq (fun hc6 h=>?_) fun hc6 h=>?_
   ·obtain ⟨x18,IG,h⟩:=bs h
    exact g0 j j (q (oMv j j)<|q (oBS (es:=List.map eI ([(-1),0,100,101,55]:List Int)) j iq j (ptC j (fxI fx0) j (ptC j (fxI fx0) j (ptC j (fxI fx0) j (ptC j (fxI fx0) j (ptC j (fxI fx0) j pt0))))) (cu j fun _=>j))<|q (oCa (xs:=[.v false [.mp 0 0 0],.v false [.own 17 0 0]]) (vs:=[(false,[.im 0 _])]) (v:=.v false [.im 0 _]) (eX IG) (.inl j) j lS j (ppP j j j (ppC j pp0)) j j (pbP j j pb0) j j j)<|q (oFA (r':=.mp 3 0 1) j Dv j j)<|q (oSt tF2 j j j (tkI tk0) j j j)<|nl)<|Unw.blk<|K4 _ ⟨x18.2.code,x18.2.at_,x18.2.seed,x5.1.rf,x18.1,x5.1.dw,h,(by kernel_rfl)⟩
   ·refine gs<|g0 j j (q (oBi j j j j)<|q (aj j j)<|nl)<|us<|gc h j iEq (fun hc7 h=>?_) fun hc7 h=>?_
    ·obtain ⟨x24,hx24,h⟩:=bs h
     exact g0 j j (q (oMv j j)<|q (oBS (es:=List.map eI ([(-1),179,180]:List Int)) j iq j (ptC j (fxI fx0) j (ptC j (fxI fx0) j (ptC j (fxI fx0) j pt0))) (cu j fun _=>j))<|q (oCa (xs:=[.v false [.mp 0 0 0],.v false [.own 23 0 0]]) (vs:=[(false,[.im 0 _])]) (v:=.v false [.im 0 _]) (eX hx24) (.inl j) j lS j (ppP j j j (ppC j pp0)) j j (pbP j j pb0) j j j)<|q (oFA (r':=.mp 3 0 2) j Iq j j)<|q (oSt tF2 j j j (tkI tk0) j j j)<|nl)<|Unw.blk<|K4 _ ⟨x24.2.code,x24.2.at_,x24.2.seed,x5.1.rf,x5.1.iM,x24.1,h,(by kernel_rfl)⟩
    ·exact Go.skip<|Unw.blk<|K4 _ ⟨x7.2.code,x7.2.at_,x7.2.seed,x5.1.rf,x5.1.iM,x5.1.dw,h,(by kernel_rfl)⟩
theorem rW {s_0:ai} {r:((List ak)×ai)} (h:jg s_0=some r):FX 61 [.ptr true [(.imm,W 1 (eK .u8) s_0.code),(.imm,I s_0.at_),(.imm,.sc (.int .u64 s_0.seed))]] ([(false,[.ow 0 3 (List.map az r.1)])],[.ptr true [(.imm,W 1 (eK .u8) r.2.code),(.imm,I r.2.at_),(.imm,.sc (.int .u64 r.2.seed))]]):=by
 unfold jg at h
 refine oP (A:=[(0,M 0)]) (B:=[(0,Od (G 1 (aJ s_0)))]) (nt:=46) rfl rfl Try.func61 rfl rfl rfl rfl ?_
 refine gs<|g0 j j (q (uZ j j Y3)<|nl)<|us<|gs<|g0 j j (q (oBS (es:=List.map az ([]:List ak)) j Fe j pt0 (cu j fun _=>j))<|q (lD j j j j j)<|nl)<|us<|gs<|gs<|?_
 obtain ⟨x8,hx8,h⟩:=bs h
 refine g0 j j (q (oMv j j)<|q (oCa (xs:=[.v false [.mp 0 0 0],.v false [.im 0 _]]) (vs:=[(false,[.im 0 _])]) (v:=.v false [.im 0 _]) (aQ hx8) (.inl j) j dA j (ppP j j j (ppC j pp0)) j j (pbP j j pb0) j j j)<|q (oBi j j j j)<|q (aj j j)<|nl)<|us<|Go.block<|?_
 obtain ⟨o,hl,h⟩:=bs h
 refine gl c61 j _ (fun (s:(Int×(List Int)×Int×Int×(List ak)))=>match s with | (EY,kM,kP,kQ,mV)=>mk [(0,M 0),(3,H 3 0),(4,iv EY)] [(0,Od [Ct 1 (W 1 (eK .u8) kM),C (I kP),C (.sc (.int .u64 kQ))]),(3,Oc [Z (W 3 az mV)])]) (fun (o:((List Int)×Int×Int×(List ak))) (p:Ex×St)=>match o with | (jU,jV,jW,iw)=>p.1= .exit 0∧p.2.norm ([0,3],[0,3])=mk [(0,M 0),(3,H 3 0)] [(0,Od [Ct 1 (W 1 (eK .u8) jU),C (I jV),C (.sc (.int .u64 jW))]),(3,Oc [Z (W 3 az iw)])]) hl (by kernel_rfl) ?_ ?_ ?_
 ·intro o p hp e
  obtain ⟨jU,jV,jW,iw⟩:=o
  exact nomatch (hp.1.symm.trans e)
 ·rintro ⟨EY,kM,kP,kQ,mV⟩ o h
  unfold gV at h
  dsimp only at h
  refine gs<|gs<|g0 j j (q (oMv j j)<|q (oBi j j j j)<|nl)<|us<|gc h j aC (fun xw h=>?_) fun xw h=>?_
  ·refine Go.skip<|us<|gs<|Go.block<|?_
   obtain ⟨x16,hx16,h⟩:=bs h
   obtain ⟨x18,IG,h⟩:=bs h
   refine g0 j j (q (oMv j j)<|q (oMv j j)<|q (oCa (xs:=[.v false [.mp 0 0 0]]) (vs:=[(true,[.im 0 _,.im 0 _,.im 0 _])]) (v:=.v true [.im 0 _,.im 0 _,.im 0 _]) (xy hx16) (.inl j) j Ir j (ppP j j j pp0) j j (pbP j j pb0) j j j)<|q (oBS (es:=List.map az ([x16.1]:List ak)) j Fe j (ptC j (fxI (fxI (fxI fx0))) j pt0) (cu j fun _=>j))<|q (vS (en:=az) (M:=([x16.1]:List ak)) j IG j Fe j j F7 (.inl ⟨_,j⟩) j j j j (kC j j) (cu j fun _=>j))<|q (lD j j j j j)<|nl)<|Unw.blk<|us<|g1 j j (mk [(0,M 0),(3,H 3 0),(4,iv EY)] [(0,Od (G 1 (aJ x16.2))),(3,Oc [Z (W 3 az x18)])]) (q (oMv j j)<|q (oBi j j j j)<|q (aj j j)<|nl)<|Unw.nil<|?_
   cases h
   exact ⟨j,(by kernel_rfl)⟩
  ·refine Go.exit<|ux<|Unw.nil<|?_
   cases h
   exact ⟨j,(by kernel_rfl)⟩
 ·rintro ⟨e,st⟩ hp
  obtain ⟨jU,jV,jW,iw⟩:=o
  dsimp only at h
  obtain ⟨he,hst⟩:=hp
  obtain rfl:e= .exit 0:=he
  refine Unw.ng<|us<|gs<|gs<|?_
  obtain ⟨x20,IK,h⟩:=bs h
  refine g2 c61 j j hst (q (oMv j j)<|q (oCa (xs:=[.v false [.mp 0 0 0],.v false [.im 0 _]]) (vs:=[(false,[.im 0 _])]) (v:=.v false [.im 0 _]) (aQ IK) (.inl j) j dA j (ppP j j j (ppC j pp0)) j j (pbP j j pb0) j j j)<|nl)<|us<|Go.join (fun st=>∃wO,∃wP,∃wQ,∃wR,fC wO wP wQ wR=some r∧st.norm ([3],[0,3])=mk [(3,H 3 0)] [(0,Od [Ct 1 (W 1 (eK .u8) wO),C (I wP),C (.sc (.int .u64 wQ))]),(3,Oc [Z (W 3 az wR)])]) ?_ ?_
  ·rintro st ⟨wO,wP,wQ,wR,h,hst⟩
   unfold fC at h
   refine us<|gs<|g2 c61 j j hst (q (oMv j j)<|q (lD j j j j j)<|nl)<|us<|Go.ret (Unw.ret ?_)
   cases h
   exact fr ack j
  ·intro K8
   refine Go.block<|gs<|g1 j j (mk [(0,M 0),(3,H 3 0),(20,iv x20.1)] [(0,Od (G 1 (aJ x20.2))),(3,Oc [Z (W 3 az iw)])]) (q (oBi j j j j)<|q (aj j j)<|nl)<|us<|gc h j iEq (fun hc9 h=>?_) fun hc9 h=>?_
   ·obtain ⟨x25,hx25,h⟩:=bs h
    obtain ⟨x27,hx27,h⟩:=bs h
    exact g0 j j (q (oMv j j)<|q (oMv j j)<|q (oCa (xs:=[.v false [.mp 0 0 0]]) (vs:=[(true,[.im 0 _,.im 0 _,.im 0 _])]) (v:=.v true [.im 0 _,.im 0 _,.im 0 _]) (IJ hx25) (.inl j) j UW j (ppP j j j pp0) j j (pbP j j pb0) j j j)<|q (oBS (es:=List.map az ([x25.1]:List ak)) j Fe j (ptC j (fxI (fxI (fxI fx0))) j pt0) (cu j fun _=>j))<|q (vS (en:=az) (M:=([x25.1]:List ak)) j hx27 j Fe j j F7 (.inl ⟨_,j⟩) j j j j (kC j j) (cu j fun _=>j))<|q (lD j j j j j)<|nl)<|Unw.blk<|K8 _ ⟨x25.2.code,x25.2.at_,x25.2.seed,x27,h,(by kernel_rfl)⟩
   ·refine gs<|g0 j j (q (oBi j j j j)<|q (aj j j)<|nl)<|us<|gc h j iEq (fun zI h=>?_) fun zI h=>?_
    ·exact g0 j j (q (oBS (es:=List.map az ([]:List ak)) j Fe j pt0 (cu j fun _=>j))<|q (lD j j j j j)<|nl)<|Unw.blk<|K8 _ ⟨x20.2.code,x20.2.at_,x20.2.seed,([]:List ak),h,(by kernel_rfl)⟩
    ·refine gs<|g0 j j (q (oBi j j j j)<|q (aj j j)<|nl)<|us<|gc h j iEq (fun Ba h=>?_) fun Ba h=>?_
     ·refine gs<|?_
      obtain ⟨x35,LU,h⟩:=bs h
      refine g0 j j (q (oMv j j)<|q (oBS (es:=List.map eI ([10,11]:List Int)) j iq j (ptC j (fxI fx0) j (ptC j (fxI fx0) j pt0)) (cu j fun _=>j))<|q (oCa (xs:=[.v false [.mp 0 0 0],.v false [.own 34 0 0]]) (vs:=[(false,[.im 0 _])]) (v:=.v false [.im 0 _]) (eX LU) (.inl j) j lS j (ppP j j j (ppC j pp0)) j j (pbP j j pb0) j j j)<|q (aj j j)<|nl)<|us<|Go.block<|?_
      obtain ⟨o,hl,h⟩:=bs h
      refine gl c61 j _ (fun (s:((List Int)×Int×Int×(List ak)))=>match s with | (wS,wU,wV,sO)=>mk [(0,M 0),(3,H 3 0),(5,iv x35.1)] [(0,Od [Ct 1 (W 1 (eK .u8) wS),C (I wU),C (.sc (.int .u64 wV))]),(3,Oc [Z (W 3 az sO)])]) (fun (o:((List Int)×Int×Int×(List ak))) (p:Ex×St)=>match o with | (pM,pO,pR,pU)=>p.1= .exit 3∧p.2.norm ([3],[0,3])=mk [(3,H 3 0)] [(0,Od [Ct 1 (W 1 (eK .u8) pM),C (I pO),C (.sc (.int .u64 pR))]),(3,Oc [Z (W 3 az pU)])]) hl (by kernel_rfl) ?_ ?_ ?_
      ·intro o p hp e
       obtain ⟨pM,pO,pR,pU⟩:=o
       exact nomatch (hp.1.symm.trans e)
      ·rintro ⟨wS,wU,wV,sO⟩ o h
       unfold gz at h
       dsimp only at h
       refine gs<|gs<|g0 j j (q (oMv j j)<|q (Dl j j F7 j j j (fun e=>nomatch e))<|q (oMv j j)<|q (oBi j j j j)<|nl)<|us<|gc h j aC (fun Bc h=>?_) fun Bc h=>?_
       ·refine Go.skip<|us<|Go.block<|?_
        obtain ⟨x42,Vj,h⟩:=bs h
        obtain ⟨x44,XC,h⟩:=bs h
        refine g0 j j (q (oMv j j)<|q (oMv j j)<|q (oCa (xs:=[.v false [.mp 0 0 0]]) (vs:=[(true,[.im 0 _,.im 0 _,.im 0 _])]) (v:=.v true [.im 0 _,.im 0 _,.im 0 _]) (xy Vj) (.inl j) j Ir j (ppP j j j pp0) j j (pbP j j pb0) j j j)<|q (oBS (es:=List.map az ([x42.1]:List ak)) j Fe j (ptC j (fxI (fxI (fxI fx0))) j pt0) (cu j fun _=>j))<|q (vS (en:=az) (M:=([x42.1]:List ak)) j XC j Fe j j F7 (.inl ⟨_,j⟩) j j j j (kC j j) (cu j fun _=>j))<|q (lD j j j j j)<|nl)<|Unw.blk<|Unw.nil<|?_
        cases h
        exact ⟨j,(by kernel_rfl)⟩
       ·refine Go.exit<|ux<|Unw.nil<|?_
        cases h
        exact ⟨j,(by kernel_rfl)⟩
      ·rintro ⟨e,st⟩ hp
       obtain ⟨pM,pO,pR,pU⟩:=o
       dsimp only at h
       obtain ⟨he,hst⟩:=hp
       obtain rfl:e= .exit 3:=he
       exact Unw.ng<|Unw.blk<|K8 _ ⟨pM,pO,pR,pU,h,hst⟩
     ·exact Go.skip<|Unw.blk<|K8 _ ⟨x20.2.code,x20.2.at_,x20.2.seed,iw,h,(by kernel_rfl)⟩
theorem BV {s_0:ai} {r:(Int×ai)} (h:lK s_0=some r):FX 62 [.ptr true [(.imm,W 1 (eK .u8) s_0.code),(.imm,I s_0.at_),(.imm,.sc (.int .u64 s_0.seed))]] ([(false,[.im 0 (I r.1)])],[.ptr true [(.imm,W 1 (eK .u8) r.2.code),(.imm,I r.2.at_),(.imm,.sc (.int .u64 r.2.seed))]]):=by
 unfold lK at h
 refine oP (A:=[(0,M 0)]) (B:=[(0,Od (G 1 (aJ s_0)))]) (nt:=10) rfl rfl Try.func62 rfl rfl rfl rfl ?_
 refine gs<|g0 j j (q (aj j j)<|nl)<|us<|gs<|gs<|?_
 obtain ⟨x4,hx4,h⟩:=bs h
 refine g0 j j (q (oMv j j)<|q (oCa (xs:=[.v false [.mp 0 0 0],.v false [.im 0 _]]) (vs:=[(false,[.im 0 _])]) (v:=.v false [.im 0 _]) (oH hx4) (.inl j) j BM j (ppP j j j (ppC j pp0)) j j (pbP j j pb0) j j j)<|nl)<|us<|gc h j iR (fun hc1 h=>?_) fun hc1 h=>?_
 ·refine gs<|?_
  obtain ⟨x7,hx7,h⟩:=bs h
  refine g1 j j (mk [(0,M 0)] [(0,Od (G 1 (aJ x4.2)))]) (q (oMv j j)<|q (oBS (es:=List.map eI ([(-1),0,115,116]:List Int)) j iq j (ptC j (fxI fx0) j (ptC j (fxI fx0) j (ptC j (fxI fx0) j (ptC j (fxI fx0) j pt0)))) (cu j fun _=>j))<|q (oCa (xs:=[.v false [.mp 0 0 0],.v false [.own 6 0 0]]) (vs:=[(false,[.im 0 _])]) (v:=.v false [.im 0 _]) (eX hx7) (.inl j) j lS j (ppP j j j (ppC j pp0)) j j (pbP j j pb0) j j j)<|q (aj j j)<|nl)<|us<|Go.ret (Unw.ret ?_)
  cases h
  exact fr aaQ j
 ·refine Go.skip<|us<|gs<|?_
  obtain ⟨x9,hx9,h⟩:=bs h
  refine g1 j j (mk [(0,M 0)] [(0,Od (G 1 (aJ x4.2)))]) (q (oMv j j)<|q (oCa (xs:=[.v false [.mp 0 0 0],.v false [.im 0 _]]) (vs:=[(false,[.im 0 _])]) (v:=.v false [.im 0 _]) (aQ hx9) (.inl j) j dA j (ppP j j j (ppC j pp0)) j j (pbP j j pb0) j j j)<|q (aj j j)<|nl)<|us<|Go.ret (Unw.ret ?_)
  cases h
  exact fr aaQ j
theorem uC {s_0:ai} {r:(Int×ai)} (h:jI s_0=some r):FX 63 [.ptr true [(.imm,W 1 (eK .u8) s_0.code),(.imm,I s_0.at_),(.imm,.sc (.int .u64 s_0.seed))]] ([(false,[.im 0 (I r.1)])],[.ptr true [(.imm,W 1 (eK .u8) r.2.code),(.imm,I r.2.at_),(.imm,.sc (.int .u64 r.2.seed))]]):=by
 unfold jI at h
 refine oP (A:=[(0,M 0)]) (B:=[(0,Od (G 1 (aJ s_0)))]) (nt:=11) rfl rfl Try.func63 rfl rfl rfl rfl ?_
 refine gs<|g0 j j (q (aj j j)<|nl)<|us<|gs<|gs<|?_
 obtain ⟨x4,hx4,h⟩:=bs h
 refine g0 j j (q (oMv j j)<|q (oCa (xs:=[.v false [.mp 0 0 0],.v false [.im 0 _]]) (vs:=[(false,[.im 0 _])]) (v:=.v false [.im 0 _]) (oH hx4) (.inl j) j BM j (ppP j j j (ppC j pp0)) j j (pbP j j pb0) j j j)<|nl)<|us<|gc h j iR (fun hc1 h=>?_) fun hc1 h=>?_
 ·refine gs<|?_
  obtain ⟨x7,hx7,h⟩:=bs h
  refine g1 j j (mk [(0,M 0)] [(0,Od (G 1 (aJ x4.2)))]) (q (oMv j j)<|q (oBS (es:=List.map eI ([0,1,5,20000,20001]:List Int)) j iq j (ptC j (fxI fx0) j (ptC j (fxI fx0) j (ptC j (fxI fx0) j (ptC j (fxI fx0) j (ptC j (fxI fx0) j pt0))))) (cu j fun _=>j))<|q (oCa (xs:=[.v false [.mp 0 0 0],.v false [.own 6 0 0]]) (vs:=[(false,[.im 0 _])]) (v:=.v false [.im 0 _]) (eX hx7) (.inl j) j lS j (ppP j j j (ppC j pp0)) j j (pbP j j pb0) j j j)<|q (aj j j)<|nl)<|us<|Go.ret (Unw.ret ?_)
  cases h
  exact fr aaR j
 ·refine Go.skip<|us<|gs<|?_
  obtain ⟨x9,hx9,h⟩:=bs h
  refine g1 j j (mk [(0,M 0)] [(0,Od (G 1 (aJ x4.2)))]) (q (oMv j j)<|q (oCa (xs:=[.v false [.mp 0 0 0],.v false [.im 0 _]]) (vs:=[(false,[.im 0 _])]) (v:=.v false [.im 0 _]) (aQ hx9) (.inl j) j dA j (ppP j j j (ppC j pp0)) j j (pbP j j pb0) j j j)<|q (oBi j j j j)<|q (aj j j)<|nl)<|us<|Go.ret (Unw.ret ?_)
  cases h
  exact fr aaR j
theorem yf {jT:(List Int)} {r:(aG×(List ak)×Int×Int)} (h:gW jT=some r):FX 23 [.im 2 false [W 1 (eK .u8) jT]] (B0 [(true,[.im 0 (I r.1.Width),.im 0 (I r.1.Height),.ow 0 2 (List.map af r.1.aH),.ow 0 2 (List.map ah r.1.aA)]),(false,[.ow 0 3 (List.map az r.2.1)]),(false,[.im 0 (I r.2.2.1)]),(false,[.im 0 (I r.2.2.2)])]):=by
 unfold gW at h
 refine gn 23 Try.func23 rfl ?_
 refine gs<|g0 j j (q (oAl j iH (tkI (tkI (tkN (tkN tk0)))))<|q (uZ j j Y3)<|q (aj j j)<|q (aj j j)<|nl)<|us<|gs<|?_
 obtain ⟨x11,Jk,h⟩:=bs h
 refine g0 j j (q (oMv j j)<|q (oCp (xs:=[.v false [.im 2 _]]) (A8 Jk) (.inl j) j QL j (ppC j pp0) j j pb0 j)<|q (RQ j j)<|nl)<|us<|gs<|?_
 obtain ⟨x13,Fg,h⟩:=bs h
 refine g0 j j (q (oMv j j)<|q (oCr (xs:=[.v false [.mp 11 0 0]]) (vs:=[(true,[.im 0 _,.im 0 _,.own 13 0 0,.own 13 0 1])]) (v:=.v true [.im 0 _,.im 0 _,.own 13 0 0,.own 13 0 1]) (c:=⟨.sh,0,_⟩) (cs:=[⟨.sh,0,_⟩]) (Bd Fg) (.inl j) j QM j (ppP j j j pp0) j j (pbP j j pb0) j j j)<|q (oAl j iH (tkI (tkI (tkN (tkN tk0)))))<|q (oSt iH j j j (tkI (tkI (tkO j j (tkO j j tk0)))) j j j)<|nl)<|us<|gs<|?_
 obtain ⟨x15,Iz,h⟩:=bs h
 refine g1 j j (mk [(2,M 2),(6,M 11),(7,M 7)] [(2,Oa [C (I 0),C (I 0),Z (W 2 af ([]:List ae)),Z (W 2 ah ([]:List aB))]),(7,Oa [C (I x13.1.Width),C (I x13.1.Height),Z (W 2 af x13.1.aH),Z (W 2 ah x13.1.aA)]),(11,Oa (G 2 (aJ x13.2)))]) (q (oMv j j)<|q (oCr (xs:=[.v false [.mp 11 0 0]]) (vs:=[(false,[.own 15 0 0])]) (v:=.v false [.own 15 0 0]) (c:=⟨.sh,0,_⟩) (cs:=[]) (rW Iz) (.inl j) j QN j (ppP j j j pp0) j j (pbP j j pb0) j j j)<|q (lD j j j j j)<|nl)<|us<|gs<|?_
 obtain ⟨x17,OY,h⟩:=bs h
 refine g1 j j (mk [(2,M 2),(6,M 11),(7,M 7),(8,H 8 0)] [(2,Oa [C (I 0),C (I 0),Z (W 2 af ([]:List ae)),Z (W 2 ah ([]:List aB))]),(7,Oa [C (I x13.1.Width),C (I x13.1.Height),Z (W 2 af x13.1.aH),Z (W 2 ah x13.1.aA)]),(8,Oc [Z (W 3 az x15.1)]),(11,Oa (G 2 (aJ x15.2)))]) (q (oMv j j)<|q (oCa (xs:=[.v false [.mp 11 0 0]]) (vs:=[(false,[.im 0 _])]) (v:=.v false [.im 0 _]) (BV OY) (.inl j) j Xr j (ppP j j j pp0) j j (pbP j j pb0) j j j)<|q (aj j j)<|nl)<|us<|gs<|?_
 obtain ⟨x22,LQ,h⟩:=bs h
 refine gd c23 j j j (st1:=mk [(2,M 2),(6,M 11),(7,M 7),(8,H 8 0),(9,iv x17.1)] [(2,Oa [C (I 0),C (I 0),Z (W 2 af ([]:List ae)),Z (W 2 ah ([]:List aB))]),(7,Oa [C (I x13.1.Width),C (I x13.1.Height),Z (W 2 af x13.1.aH),Z (W 2 ah x13.1.aA)]),(8,Oc [Z (W 3 az x15.1)]),(11,Oa (G 2 (aJ x17.2)))]) (by kernel_rfl) (mk [(2,M 2),(3,H 3 0),(4,iv x17.1),(5,iv x22.1)] [(2,Oa [C (I x13.1.Width),C (I x13.1.Height),Z (W 2 af x13.1.aH),Z (W 2 ah x13.1.aA)]),(3,Oc [Z (W 3 az x15.1)])]) (t j j (oMv j j)<|t j j (oMv j j)<|t j j (oMv j j)<|sK (O:=[7]) j j j (dN z23 j (oLd (cs:=[.im 0 _,.im 0 _,.own 7 0 2,.own 7 0 3]) j iH j j))<|sS (dN z23 j (oCa (xs:=[.v false [.mp 11 0 0]]) (vs:=[(false,[.im 0 _])]) (v:=.v false [.im 0 _]) (uC LQ) (.inl j) j QO j (ppP j j j pp0) j j (pbP j j pb0) j j j)) (kY ⟨j,trivial⟩ trivial) (sS (dN z23 j (oSt iH j j j (tkI (tkI (tkO j j (tkO j j tk0)))) j j j)) (kN j trivial) (sS (dN z23 j (lD j j j j j)) (kN j trivial) (sS (dN z23 j (aj j j)) (kN j trivial) (sS (dN z23 j (aj j j)) (kN j trivial) (sD (by kernel_rfl)))))))<|us<|Go.ret (Unw.ret ?_)
 cases h
 exact fr ab9 j
theorem bW {n_0:Int} {JY:Int} {EZ:Int} {r:Bool} (h:bQ n_0 JY EZ=some r):FX 66 [.im 2 false [I n_0],.im 2 false [I JY],.im 2 false [I EZ]] (B0 [(false,[.im 0 (V r)])]):=by
 unfold bQ at h
 refine gn 15 Try.func66 rfl ?_
 refine gs<|g0 j j (q (aj j j)<|nl)<|us<|gs<|gX c66 j j j (mk [(6,bv ((decide (n_0≥JY))&&(decide (n_0≤EZ))))] []) ?_ ?_
 ·refine xq (oMv j j)<|xq (oMv j j)<|xq (oBi j j j j)<|xq (oMv j j)<|?_
  by_cases hc1:n_0≥JY
  ·exact xqT rfl rfl (aC.2 hc1) (oMv rfl rfl)<|xqT rfl rfl (aC.2 hc1) (oMv rfl rfl)<|xqT rfl rfl (aC.2 hc1) (oBi rfl rfl rfl rfl)<|xq (dP rfl rfl (aC.2 hc1) rfl)<|xq (aj rfl rfl)<|xn (Eq.trans (b:=(fun wW:Bool=>mk [(6,bv wW)] []) (decide (n_0≤EZ))) (by kernel_rfl) (congrArg (fun wW:Bool=>mk [(6,bv wW)] []) (by first | rfl | (simp [(aC.2 hc1)];done) | (simp [(aC.2 hc1)];omega))))
  ·exact au rfl rfl (byF aC hc1) rfl<|au rfl rfl (byF aC hc1) rfl<|au rfl rfl (byF aC hc1) rfl<|xq (dS rfl rfl (byF aC hc1) rfl)<|xq (aj rfl rfl)<|xn (Eq.trans (b:=(fun wW:Bool=>mk [(6,bv wW)] []) false) (by kernel_rfl) (congrArg (fun wW:Bool=>mk [(6,bv wW)] []) (by first | rfl | (simp [(byF aC hc1)];done) | (simp [(byF aC hc1)];omega))))
 ·refine us<|Go.ret (Unw.ret ?_)
  cases h
  exact fr acm j
theorem qg {s_0:(List ae)} {v_1:ae} {r:Int} (h:fM s_0 v_1=some r):FX 150 [.im 2 false [W 2 af s_0],.im 2 true (bK v_1)] (B0 [(false,[.im 0 (I r)])]):=by
 unfold fM at h
 refine gn 19 Try.func150 rfl ?_
 refine gs<|g0 j j (q (oBx j aU j (tkI (tkI tk0)))<|q (aj j j)<|nl)<|us<|gs<|gs<|g0 j j (q (oMv j j)<|q (mF j j BU j)<|q (oMv j j)<|nl)<|us<|Go.block<|?_
 obtain ⟨o,hl,h⟩:=bs h
 refine gl Xj j _ (fun (dX:Int)=>mk [(0,D 2 (W 2 af s_0)),(3,M 3),(7,iv (s_0.length:Int)),(8,iv dX)] [(3,Oa (G 0 (bK v_1)))]) (fun (o:(Unit ⊕ Int)) (p:Ex×St)=>match o with | (.inl _)=>p.1= .exit 0∧p.2.norm ([],[])=mk [] [] | (.inr r2)=>p.1= .ret∧fin Try.prog cfg 150 Try.f150 [.im 2 false [W 2 af s_0],.im 2 true (bK v_1)] p.2=some (B0 [(false,[.im 0 (I r2)])])) hl (by kernel_rfl) ?_ ?_ ?_
 ·intro o p hp e
  rcases o with u | r2<;>exact nomatch (hp.1.symm.trans e)
 ·rintro dX o h
  unfold dh at h
  refine gs<|g0 j j (q (oBi j j j j)<|nl)<|us<|gs<|gc h j aC (fun hc5 h=>?_) fun hc5 h=>?_
  ·refine Go.skip<|us<|gs<|Go.block<|gs<|g0 j j (q (oMv j j)<|q (aj j j)<|nl)<|us<|gs<|?_
   obtain ⟨x14,Dx,h⟩:=bs h
   refine gd Xj j j j j (mk [(0,D 2 (W 2 af s_0)),(3,M 3),(5,iv dX),(7,iv (s_0.length:Int)),(8,iv dX),(16,bv ((v_1.X==x14.X)&&(v_1.Y==x14.Y)))] [(3,Oa (G 0 (bK v_1)))]) (t j j (oLd (cs:=[.im 0 _,.im 0 _]) j aU j j)<|t j j (oMv j j)<|t j j (oMv j j)<|t j j (lF j Dx uN j j)<|t j j (oLd (cs:=[.im 2 _,.im 2 _]) j aU j j)<|t j j (oBa j (U4 v_1.X v_1.Y x14.X x14.Y) j j j j)<|sD (by kernel_rfl))<|us<|gc h j (FZ iEq iEq) (fun hc6 h=>?_) fun hc6 h=>?_
   ·refine gs<|g0 j j (q (oMv j j)<|q (aj j j)<|nl)<|us<|Go.ret (Unw.ret ?_)
    cases h
    exact ⟨j,(fo Ye j)⟩
   ·refine Go.skip<|Unw.blk<|us<|g0 j j (q (oBi j j j j)<|q (oMv j j)<|nl)<|Unw.nil<|?_
    cases h
    exact ⟨j,(by kernel_rfl)⟩
  ·refine Go.exit<|ux<|Unw.nil<|?_
   cases h
   exact ⟨j,(by kernel_rfl)⟩
 ·rintro ⟨e,st⟩ hp
  rcases o with u | r2
  ·dsimp only at h
   obtain ⟨he,hst⟩:=hp
   obtain rfl:e= .exit 0:=he
   refine Unw.ng<|us<|gs<|g2 Xj j j hst (q (aj j j)<|nl)<|us<|Go.ret (Unw.ret ?_)
   cases h
   exact fr Ye j
  ·dsimp only at h
   obtain ⟨he,hfin⟩:=hp
   obtain rfl:e= .ret:=he
   cases h
   exact Unw.ret (lg hfin)
theorem oK {s_0:(List ae)} {v_1:ae} {r:Bool} (h:di s_0 v_1=some r):FX 92 [.im 2 false [W 2 af s_0],.im 2 true (bK v_1)] (B0 [(false,[.im 0 (V r)])]):=by
 unfold di at h
 refine gn 9 Try.func92 rfl ?_
 refine gs<|g0 j j (q (oBx j aU j (tkI (tkI tk0)))<|q (aj j j)<|nl)<|us<|gs<|?_
 obtain ⟨x7,hx7,h⟩:=bs h
 refine g0 j j (q (oMv j j)<|q (oLd (cs:=[.im 0 _,.im 0 _]) j aU j j)<|q (oCa (xs:=[.v false [.im 2 _],.v true [.im 0 _,.im 0 _]]) (vs:=[(false,[.im 0 _])]) (v:=.v false [.im 0 _]) (qg hx7) (.inl j) j LG j (ppC j (ppC j pp0)) j j pb0 j j j)<|q (oBi j j j j)<|q (aj j j)<|nl)<|us<|Go.ret (Unw.ret ?_)
 cases h
 exact fr acs j
theorem yg {s_0:ByteArray} {r:Bool} (h:jX s_0=some r):FX 93 [.im 2 false [Y s_0]] (B0 [(false,[.im 0 (V r)])]):=by
 unfold jX at h
 refine gn 50 Try.func93 rfl ?_
 refine gs<|g0 j j (q (aj j j)<|nl)<|us<|gs<|gs<|?_
 obtain ⟨La,Be,h⟩:=bs h
 refine gX c93 j j j (mk [(0,sv s_0),(21,bv La)] []) ?_ ?_
 ·refine xq (oMv j j)<|xq (YS j j uF9 j)<|xq (oBi j j j j)<|xq (oMv j j)<|?_
  refine ic Be (fun hc1 Be=>?_) fun hc1 Be=>?_
  ·cases Be
   exact au j j (aC.2 hc1) j<|au j j (aC.2 hc1) j<|au j j (aC.2 hc1) j<|xq (dP j j (aC.2 hc1) j)<|xq (oMv j j)<|au j j j j<|au j j j j<|au j j j j<|xq (dP j j j j)<|xq (oMv j j)<|au j j j j<|au j j j j<|au j j j j<|xq (dP j j j j)<|xn
  ·refine xqT j j (byF aC hc1) (oMv j j)<|xqT j j (byF aC hc1) (YS j j uF9 j)<|xqT j j (byF aC hc1) (oBi j j j j)<|xq (dS j j (byF aC hc1) j)<|xq (oMv j j)<|?_
   refine ic Be (fun hc2 Be=>?_) fun hc2 Be=>?_
   ·cases Be
    exact au j j (aC.2 hc2) j<|au j j (aC.2 hc2) j<|au j j (aC.2 hc2) j<|xq (dP j j (aC.2 hc2) j)<|xq (oMv j j)<|au j j j j<|au j j j j<|au j j j j<|xq (dP j j j j)<|xn
   ·obtain ⟨x14,Dx,Be⟩:=bs Be
    refine xqT j j (byF aC hc2) (oMv j j)<|xqT j j (byF aC hc2) (oIx j Dx uF9 j j)<|xqT j j (byF aC hc2) (oBi j j j j)<|xq (dS j j (byF aC hc2) j)<|xq (oMv j j)<|?_
    refine ic Be (fun hc3 Be=>?_) fun hc3 Be=>?_
    ·cases Be
     exact au j j (aC.2 hc3) j<|au j j (aC.2 hc3) j<|au j j (aC.2 hc3) j<|xq (dP j j (aC.2 hc3) j)<|xn
    ·obtain ⟨x19,F8,Be⟩:=bs Be
     cases Be
     exact xqT j j (byF aC hc3) (oMv j j)<|xqT j j (byF aC hc3) (oIx j F8 uF9 j j)<|xqT j j (byF aC hc3) (oBi j j j j)<|xq (dS j j (byF aC hc3) j)<|xn
 ·refine us<|gc h j iR (fun hc4 h=>?_) fun hc4 h=>?_
  ·refine gs<|g0 j j (q (aj j j)<|nl)<|us<|Go.ret (Unw.ret ?_)
   cases h
   exact fr Y7 j
  ·refine Go.skip<|us<|gs<|gs<|g0 j j (q (aj j j)<|nl)<|us<|Go.block<|?_
   obtain ⟨o,hl,h⟩:=bs h
   refine gl c93 j _ (fun (uK:Int)=>mk [(0,sv s_0),(3,iv uK)] []) (fun (o:(Unit ⊕ Bool)) (p:Ex×St)=>match o with | (.inl _)=>p.1= .exit 0∧p.2.norm ([],[])=mk [] [] | (.inr r2)=>p.1= .ret∧fin Try.prog cfg 93 Try.f93 [.im 2 false [Y s_0]] p.2=some (B0 [(false,[.im 0 (V r2)])])) hl (by kernel_rfl) ?_ ?_ ?_
   ·intro o p hp e
    rcases o with u | r2<;>exact nomatch (hp.1.symm.trans e)
   ·rintro uK o h
    unfold iZ at h
    refine gs<|gs<|g0 j j (q (oMv j j)<|q (oMv j j)<|q (YS j j uF9 j)<|q (oBi j j j j)<|nl)<|us<|gc h j aC (fun hc19 h=>?_) fun hc19 h=>?_
    ·refine Go.skip<|us<|gs<|Go.block<|gs<|?_
     obtain ⟨x30,O1,h⟩:=bs h
     obtain ⟨KZ,sV,h⟩:=bs h
     refine gX c93 j j j (mk [(0,sv s_0),(3,iv uK),(49,bv KZ)] []) ?_ ?_
     ·refine xq (oMv j j)<|xq (oMv j j)<|xq (oIx j O1 uF9 j j)<|xq (oBi j j j j)<|xq (oMv j j)<|?_
      refine ic sV (fun oD sV=>?_) fun oD sV=>?_
      ·obtain ⟨x41,Vf,sV⟩:=bs sV
       refine au j j (aC.2 oD) j<|au j j (aC.2 oD) j<|au j j (aC.2 oD) j<|au j j (aC.2 oD) j<|xq (dP j j (aC.2 oD) j)<|xq (oMv j j)<|xqT j j j (oMv j j)<|xqT j j j (oMv j j)<|xqT j j j (oIx j Vf uF9 j j)<|xqT j j j (oBi j j j j)<|xqT j j j (oMv j j)<|?_
       refine ic sV (fun hc21 sV=>?_) fun hc21 sV=>?_
       ·cases sV
        exact au j j (aC.2 hc21) j<|au j j (aC.2 hc21) j<|au j j (aC.2 hc21) j<|au j j (aC.2 hc21) j<|xqT j j j (dP j j (aC.2 hc21) j)<|xq (dP j j j j)<|xn
       ·obtain ⟨x46,Vk,sV⟩:=bs sV
        cases sV
        exact xqT j j (byF aC hc21) (oMv j j)<|xqT j j (byF aC hc21) (oMv j j)<|xqT j j (byF aC hc21) (oIx j Vk uF9 j j)<|xqT j j (byF aC hc21) (oBi j j j j)<|xqT j j j (dS j j (byF aC hc21) j)<|xq (dP j j j j)<|xn
      ·obtain ⟨x35,LU,sV⟩:=bs sV
       refine xqT j j (byF aC oD) (oMv j j)<|xqT j j (byF aC oD) (oMv j j)<|xqT j j (byF aC oD) (oIx j LU uF9 j j)<|xqT j j (byF aC oD) (oBi j j j j)<|xq (dS j j (byF aC oD) j)<|xq (oMv j j)<|?_
       refine ic sV (fun hc22 sV=>?_) fun hc22 sV=>?_
       ·obtain ⟨x41,Vf,sV⟩:=bs sV
        refine xqT j j (aC.2 hc22) (oMv j j)<|xqT j j (aC.2 hc22) (oMv j j)<|xqT j j (aC.2 hc22) (oIx j Vf uF9 j j)<|xqT j j (aC.2 hc22) (oBi j j j j)<|xqT j j (aC.2 hc22) (oMv j j)<|?_
        refine ic sV (fun yh sV=>?_) fun yh sV=>?_
        ·cases sV
         exact au j j (aC.2 yh) j<|au j j (aC.2 yh) j<|au j j (aC.2 yh) j<|au j j (aC.2 yh) j<|xqT j j (aC.2 hc22) (dP j j (aC.2 yh) j)<|xq (dP j j (aC.2 hc22) j)<|xn
        ·obtain ⟨x46,Vk,sV⟩:=bs sV
         cases sV
         exact xqT j j (byF aC yh) (oMv j j)<|xqT j j (byF aC yh) (oMv j j)<|xqT j j (byF aC yh) (oIx j Vk uF9 j j)<|xqT j j (byF aC yh) (oBi j j j j)<|xqT j j (aC.2 hc22) (dS j j (byF aC yh) j)<|xq (dP j j (aC.2 hc22) j)<|xn
       ·cases sV
        exact au j j (byF aC hc22) j<|au j j (byF aC hc22) j<|au j j (byF aC hc22) j<|au j j (byF aC hc22) j<|au j j (byF aC hc22) j<|qj j j j<|qj j j j<|qj j j j<|qj j j j<|au j j (byF aC hc22) j<|xq (dS j j (byF aC hc22) j)<|xn
     ·refine us<|gc h j iR (fun hc24 h=>?_) fun hc24 h=>?_
      ·refine gs<|g0 j j (q (aj j j)<|nl)<|us<|Go.ret (Unw.ret ?_)
       cases h
       exact ⟨j,(fo Y7 j)⟩
      ·refine Go.skip<|Unw.blk<|us<|g0 j j (q (oMv j j)<|q (oBi j j j j)<|q (aj j j)<|nl)<|Unw.nil<|?_
       cases h
       exact ⟨j,(by kernel_rfl)⟩
    ·refine Go.exit<|ux<|Unw.nil<|?_
     cases h
     exact ⟨j,(by kernel_rfl)⟩
   ·rintro ⟨e,st⟩ hp
    rcases o with u | r2
    ·dsimp only at h
     obtain ⟨he,hst⟩:=hp
     obtain rfl:e= .exit 0:=he
     refine Unw.ng<|us<|gs<|g2 c93 j j hst (q (aj j j)<|nl)<|us<|Go.ret (Unw.ret ?_)
     cases h
     exact fr Y7 j
    ·dsimp only at h
     obtain ⟨he,hfin⟩:=hp
     obtain rfl:e= .ret:=he
     cases h
     exact Unw.ret (lg hfin)
theorem Dy {rE:(List ae)} {xY:(List Int)} {r:((List ae)×Bool)} (h:iO rE xY=some r):FX 94 [.im 2 false [W 2 af rE],.im 2 false [W 1 eI xY]] (B0 [(false,[.ow 0 2 (List.map af r.1)]),(false,[.im 0 (V r.2)])]):=by
 unfold iO at h
 refine gn 31 Try.func94 rfl ?_
 refine gs<|g0 j j (q (uZ j j aas)<|q (aj j j)<|nl)<|us<|gs<|g0 j j (q (oBS (es:=List.map af ([]:List ae)) j uN j pt0 (cu j fun _=>j))<|q (lD j j j j j)<|nl)<|us<|gs<|gs<|g0 j j (q (oMv j j)<|q (mF j j xI j)<|q (oMv j j)<|nl)<|us<|Go.block<|?_
 obtain ⟨o,hl,h⟩:=bs h
 refine gl c94 j _ (fun (s:(Int×(List ae)))=>match s with | (BI,yX)=>mk [(0,D 2 (W 2 af rE)),(6,H 6 0),(10,D 2 (W 1 eI xY)),(11,iv (xY.length:Int)),(12,iv BI)] [(6,Oc [Z (W 2 af yX)])]) (fun (o:((List ae) ⊕ ((List ae)×Bool))) (p:Ex×St)=>match o with | (.inl uu)=>p.1= .exit 0∧p.2.norm ([6],[6])=mk [(6,H 6 0)] [(6,Oc [Z (W 2 af uu)])] | (.inr r2)=>p.1= .ret∧fin Try.prog cfg 94 Try.f94 [.im 2 false [W 2 af rE],.im 2 false [W 1 eI xY]] p.2=some (B0 [(false,[.ow 0 2 (List.map af r2.1)]),(false,[.im 0 (V r2.2)])])) hl (by kernel_rfl) ?_ ?_ ?_
 ·intro o p hp e
  rcases o with uu | r2<;>exact nomatch (hp.1.symm.trans e)
 ·rintro ⟨BI,yX⟩ o h
  unfold ik at h
  dsimp only at h
  refine gs<|g0 j j (q (oBi j j j j)<|nl)<|us<|gs<|gc h j aC (fun hc5 h=>?_) fun hc5 h=>?_
  ·refine Go.skip<|us<|gs<|Go.block<|gs<|?_
   obtain ⟨x14,Dx,h⟩:=bs h
   refine g0 j j (q (lF j Dx iq j j)<|q (oLd (cs:=[.im 2 _]) j tF2 j j)<|q (aj j j)<|nl)<|us<|gs<|gs<|?_
   obtain ⟨x20,IK,h⟩:=bs h
   refine g0 j j (q (oMv j j)<|q (oMv j j)<|q (mF j j BU j)<|q (oBi j j j j)<|q (oCa (xs:=[.v false [.im 2 _],.v false [.im 0 _],.v false [.im 0 _]]) (vs:=[(false,[.im 0 _])]) (v:=.v false [.im 0 _]) (bW IK) (.inl j) j fD j (ppC j (ppC j (ppC j pp0))) j j pb0 j j j)<|q (oUn j j j)<|nl)<|us<|?_
   by_cases hc6:x20=true
   ·rw [if_pos hc6] at h
    refine gF j (nF (iR.2 hc6))<|Go.skip<|us<|?_
    obtain ⟨x25,hx25,h⟩:=bs h
    obtain ⟨x28,hx28,h⟩:=bs h
    refine g0 j j (q (oMv j j)<|q (oMv j j)<|q (oMv j j)<|q (lF j hx25 uN j j)<|q (oLd (cs:=[.im 2 _,.im 2 _]) j aU j j)<|q (oBS (es:=List.map af ([x25]:List ae)) j uN j (ptC j (fxI (fxI fx0)) j pt0) (cu j fun _=>j))<|q (vS (en:=af) (M:=([x25]:List ae)) j hx28 j uN j j BU (.inl ⟨_,j⟩) j j j j (kC j j) (cu j fun _=>j))<|q (lD j j j j j)<|nl)<|Unw.blk<|us<|g0 j j (q (oBi j j j j)<|q (oMv j j)<|nl)<|Unw.nil<|?_
    cases h
    exact ⟨j,(by kernel_rfl)⟩
   ·rw [if_neg hc6] at h
    refine gT j (nT (byF iR hc6))<|gs<|g0 j j (q (uZ j j aas)<|q (aj j j)<|nl)<|us<|Go.ret (Unw.ret ?_)
    cases h
    exact ⟨j,(fo aaT j)⟩
  ·refine Go.exit<|ux<|Unw.nil<|?_
   cases h
   exact ⟨j,(by kernel_rfl)⟩
 ·rintro ⟨e,st⟩ hp
  rcases o with uu | r2
  ·dsimp only at h
   obtain ⟨he,hst⟩:=hp
   obtain rfl:e= .exit 0:=he
   refine Unw.ng<|us<|gs<|g2 c94 j j hst (q (oMv j j)<|q (lD j j j j j)<|q (aj j j)<|nl)<|us<|Go.ret (Unw.ret ?_)
   cases h
   exact fr aaT j
  ·dsimp only at h
   obtain ⟨he,hfin⟩:=hp
   obtain rfl:e= .ret:=he
   cases h
   exact Unw.ret (lg hfin)
theorem Et {p_0:ae} {r:Bool} (h:kE p_0=some r):FX 191 [.im 2 true (bK p_0)] (B0 [(false,[.im 0 (V r)])]):=by
 unfold kE at h
 refine gn 11 Try.func191 rfl ?_
 refine gs<|g0 j j (q (oBx j aU j (tkI (tkI tk0)))<|q (aj j j)<|nl)<|us<|gs<|?_
 obtain ⟨x5,hx5,h⟩:=bs h
 obtain ⟨OL,hm2,h⟩:=bs h
 refine gX aan j j j (mk [(2,bv OL)] []) ?_ ?_
 ·refine xq (oFA (r':=.mp 1 0 0) j nM j j)<|xq (oLd (cs:=[.im 0 _]) j tF2 j j)<|xq (oCa (xs:=[.v false [.im 0 _],.v false [.im 0 _],.v false [.im 0 _]]) (vs:=[(false,[.im 0 _])]) (v:=.v false [.im 0 _]) (bW hx5) (.inl j) j fD j (ppC j (ppC j (ppC j pp0))) j j pb0 j j j)<|xq (oMv j j)<|?_
  refine ic hm2 (fun hc1 hm2=>?_) fun hc1 hm2=>?_
  ·obtain ⟨x9,hx9,hm2⟩:=bs hm2
   cases hm2
   exact xqT j j (iR.2 hc1) (oFA (r':=.mp 1 0 1) j oG j j)<|xqT j j (iR.2 hc1) (oLd (cs:=[.im 0 _]) j tF2 j j)<|xqT j j (iR.2 hc1) (oCa (xs:=[.v false [.im 0 _],.v false [.im 0 _],.v false [.im 0 _]]) (vs:=[(false,[.im 0 _])]) (v:=.v false [.im 0 _]) (bW hx9) (.inl j) j fD j (ppC j (ppC j (ppC j pp0))) j j pb0 j j j)<|xq (dP j j (iR.2 hc1) j)<|xq (aj j j)<|xn
  ·cases hm2
   exact au j j (byF iR hc1) j<|au j j (byF iR hc1) j<|au j j (byF iR hc1) j<|xq (dS j j (byF iR hc1) j)<|xq (aj j j)<|xn
 ·refine us<|Go.ret (Unw.ret ?_)
  cases h
  exact fr aaN j
theorem Dz {fO:(List ae)} {r:Bool} (h:kR fO=some r):FX 151 [.im 2 false [W 2 af fO]] (B0 [(false,[.im 0 (V r)])]):=by
 unfold kR at h
 refine gn 15 Try.func151 rfl ?_
 refine gs<|g0 j j (q (aj j j)<|nl)<|us<|gs<|gs<|g0 j j (q (oMv j j)<|q (mF j j BU j)<|q (oMv j j)<|nl)<|us<|Go.block<|?_
 obtain ⟨o,hl,h⟩:=bs h
 refine gl Y0 j _ (fun (Dt:Int)=>mk [(5,D 2 (W 2 af fO)),(6,iv (fO.length:Int)),(7,iv Dt)] []) (fun (o:(Unit ⊕ Bool)) (p:Ex×St)=>match o with | (.inl _)=>p.1= .exit 0∧p.2.norm ([],[])=mk [] [] | (.inr r2)=>p.1= .ret∧fin Try.prog cfg 151 Try.f151 [.im 2 false [W 2 af fO]] p.2=some (B0 [(false,[.im 0 (V r2)])])) hl (by kernel_rfl) ?_ ?_ ?_
 ·intro o p hp e
  rcases o with u | r2<;>exact nomatch (hp.1.symm.trans e)
 ·rintro Dt o h
  unfold dn at h
  refine gs<|g0 j j (q (oBi j j j j)<|nl)<|us<|gs<|gc h j aC (fun hc5 h=>?_) fun hc5 h=>?_
  ·refine Go.skip<|us<|gs<|Go.block<|gs<|?_
   obtain ⟨x9,hx9,h⟩:=bs h
   refine g0 j j (q (lF j hx9 uN j j)<|q (oLd (cs:=[.im 2 _,.im 2 _]) j aU j j)<|q (oAl j aU (tkI (tkI tk0)))<|q (oSt aU j j j (tkI (tkI tk0)) j j j)<|nl)<|us<|gs<|?_
   obtain ⟨x12,Gg,h⟩:=bs h
   refine g1 j j (mk [(4,M 4),(5,D 2 (W 2 af fO)),(6,iv (fO.length:Int)),(7,iv Dt)] [(4,Oa (G 0 (bK x9)))]) (q (oLd (cs:=[.im 0 _,.im 0 _]) j aU j j)<|q (oCa (xs:=[.v true [.im 0 _,.im 0 _]]) (vs:=[(false,[.im 0 _])]) (v:=.v false [.im 0 _]) (Et Gg) (.inl j) j Sl j (ppC j pp0) j j pb0 j j j)<|q (oUn j j j)<|nl)<|us<|?_
   by_cases hc6:x12=true
   ·rw [if_pos hc6] at h
    refine gF j (nF (iR.2 hc6))<|Go.skip<|Unw.blk<|us<|g0 j j (q (oBi j j j j)<|q (oMv j j)<|nl)<|Unw.nil<|?_
    cases h
    exact ⟨j,(by kernel_rfl)⟩
   ·rw [if_neg hc6] at h
    refine gT j (nT (byF iR hc6))<|gs<|g0 j j (q (aj j j)<|nl)<|us<|Go.ret (Unw.ret ?_)
    cases h
    exact ⟨j,(fo Yf j)⟩
  ·refine Go.exit<|ux<|Unw.nil<|?_
   cases h
   exact ⟨j,(by kernel_rfl)⟩
 ·rintro ⟨e,st⟩ hp
  rcases o with u | r2
  ·dsimp only at h
   obtain ⟨he,hst⟩:=hp
   obtain rfl:e= .exit 0:=he
   refine Unw.ng<|us<|gs<|g2 Y0 j j hst (q (aj j j)<|nl)<|us<|Go.ret (Unw.ret ?_)
   cases h
   exact fr Yf j
  ·dsimp only at h
   obtain ⟨he,hfin⟩:=hp
   obtain rfl:e= .ret:=he
   cases h
   exact Unw.ret (lg hfin)
theorem o7 {a_0:ae} {b_1:ae} {c_2:ae} {r:Int} (h:mW a_0 b_1 c_2=some r):FX 192 [.im 2 true (bK a_0),.im 2 true (bK b_1),.im 2 true (bK c_2)] (B0 [(false,[.im 0 (I r)])]):=by
 unfold mW at h
 refine gn 37 Try.func192 rfl ?_
 refine gs<|g0 j j (q (oBx j aU j (tkI (tkI tk0)))<|q (oBx j aU j (tkI (tkI tk0)))<|q (oBx j aU j (tkI (tkI tk0)))<|q (aj j j)<|nl)<|us<|gs<|g0 j j (q (oFA (r':=.mp 4 0 0) j nM j j)<|q (oLd (cs:=[.im 0 _]) j tF2 j j)<|q (oFA (r':=.mp 3 0 0) j nM j j)<|q (oLd (cs:=[.im 0 _]) j tF2 j j)<|q (oBi j j j j)<|q (oFA (r':=.mp 5 0 1) j oG j j)<|q (oLd (cs:=[.im 0 _]) j tF2 j j)<|q (oFA (r':=.mp 3 0 1) j oG j j)<|q (oLd (cs:=[.im 0 _]) j tF2 j j)<|q (oBi j j j j)<|q (oBi j j j j)<|q (oFA (r':=.mp 4 0 1) j oG j j)<|q (oLd (cs:=[.im 0 _]) j tF2 j j)<|q (oFA (r':=.mp 3 0 1) j oG j j)<|q (oLd (cs:=[.im 0 _]) j tF2 j j)<|q (oBi j j j j)<|q (oFA (r':=.mp 5 0 0) j nM j j)<|q (oLd (cs:=[.im 0 _]) j tF2 j j)<|q (oFA (r':=.mp 3 0 0) j nM j j)<|q (oLd (cs:=[.im 0 _]) j tF2 j j)<|q (oBi j j j j)<|q (oBi j j j j)<|q (oBi j j j j)<|q (aj j j)<|nl)<|us<|gs<|Go.block<|gs<|g0 j j (q (oMv j j)<|q (oBi j j j j)<|q (aj j j)<|nl)<|us<|gc h j aC (fun hc1 h=>?_) fun hc1 h=>?_
 ·refine gs<|g0 j j (q (aj j j)<|nl)<|us<|Go.ret (Unw.ret ?_)
  cases h
  exact fr U5 j
 ·refine gs<|g0 j j (q (oMv j j)<|q (oBi j j j j)<|q (aj j j)<|nl)<|us<|gc h j aC (fun hc2 h=>?_) fun hc2 h=>?_
  ·refine gs<|g0 j j (q (aj j j)<|nl)<|us<|Go.ret (Unw.ret ?_)
   cases h
   exact fr U5 j
  ·refine Go.skip<|Unw.blk<|us<|gs<|g0 j j (q (aj j j)<|nl)<|us<|Go.ret (Unw.ret ?_)
   cases h
   exact fr U5 j
theorem vJ {a_0:ae} {b_1:ae} {p_2:ae} {r:Bool} (h:qw a_0 b_1 p_2=some r):FX 152 [.im 2 true (bK a_0),.im 2 true (bK b_1),.im 2 true (bK p_2)] (B0 [(false,[.im 0 (V r)])]):=by
 unfold qw at h
 refine gn 42 Try.func152 rfl ?_
 refine gs<|g0 j j (q (oBx j aU j (tkI (tkI tk0)))<|q (oBx j aU j (tkI (tkI tk0)))<|q (oBx j aU j (tkI (tkI tk0)))<|q (aj j j)<|nl)<|us<|gs<|?_
 obtain ⟨x10,IE,h⟩:=bs h
 obtain ⟨wW,hm3,h⟩:=bs h
 refine gX c152 j j j (mk [(6,bv wW)] []) ?_ ?_
 ·refine xq (oLd (cs:=[.im 0 _,.im 0 _]) j aU j j)<|xq (oLd (cs:=[.im 0 _,.im 0 _]) j aU j j)<|xq (oLd (cs:=[.im 0 _,.im 0 _]) j aU j j)<|xq (oCa (xs:=[.v true [.im 0 _,.im 0 _],.v true [.im 0 _,.im 0 _],.v true [.im 0 _,.im 0 _]]) (vs:=[(false,[.im 0 _])]) (v:=.v false [.im 0 _]) (o7 IE) (.inl j) j jc j (ppC j (ppC j (ppC j pp0))) j j pb0 j j j)<|xq (oBi j j j j)<|xq (oMv j j)<|?_
  refine ic hm3 (fun hc1 hm3=>?_) fun hc1 hm3=>?_
  ·obtain ⟨x25,hx25,hm3⟩:=bs hm3
   refine xqT j j (iEq.2 hc1) (oFA (r':=.mp 5 0 0) j nM j j)<|xqT j j (iEq.2 hc1) (oLd (cs:=[.im 0 _]) j tF2 j j)<|xqT j j (iEq.2 hc1) (oFA (r':=.mp 3 0 0) j nM j j)<|xqT j j (iEq.2 hc1) (oLd (cs:=[.im 0 _]) j tF2 j j)<|xqT j j (iEq.2 hc1) (oFA (r':=.mp 4 0 0) j nM j j)<|xqT j j (iEq.2 hc1) (oLd (cs:=[.im 0 _]) j tF2 j j)<|xqT j j (iEq.2 hc1) (Wq j j)<|xqT j j (iEq.2 hc1) (oFA (r':=.mp 3 0 0) j nM j j)<|xqT j j (iEq.2 hc1) (oLd (cs:=[.im 0 _]) j tF2 j j)<|xqT j j (iEq.2 hc1) (oFA (r':=.mp 4 0 0) j nM j j)<|xqT j j (iEq.2 hc1) (oLd (cs:=[.im 0 _]) j tF2 j j)<|xqT j j (iEq.2 hc1) (Uy j j)<|xqT j j (iEq.2 hc1) (oCa (xs:=[.v false [.im 0 _],.v false [.im 0 _],.v false [.im 0 _]]) (vs:=[(false,[.im 0 _])]) (v:=.v false [.im 0 _]) (bW hx25) (.inl j) j fD j (ppC j (ppC j (ppC j pp0))) j j pb0 j j j)<|xq (dP j j (iEq.2 hc1) j)<|xq (oMv j j)<|?_
   refine ic hm3 (fun hc2 hm3=>?_) fun hc2 hm3=>?_
   ·obtain ⟨x40,Vl,hm3⟩:=bs hm3
    cases hm3
    exact xqT j j (iR.2 hc2) (oFA (r':=.mp 5 0 1) j oG j j)<|xqT j j (iR.2 hc2) (oLd (cs:=[.im 0 _]) j tF2 j j)<|xqT j j (iR.2 hc2) (oFA (r':=.mp 3 0 1) j oG j j)<|xqT j j (iR.2 hc2) (oLd (cs:=[.im 0 _]) j tF2 j j)<|xqT j j (iR.2 hc2) (oFA (r':=.mp 4 0 1) j oG j j)<|xqT j j (iR.2 hc2) (oLd (cs:=[.im 0 _]) j tF2 j j)<|xqT j j (iR.2 hc2) (Wq j j)<|xqT j j (iR.2 hc2) (oFA (r':=.mp 3 0 1) j oG j j)<|xqT j j (iR.2 hc2) (oLd (cs:=[.im 0 _]) j tF2 j j)<|xqT j j (iR.2 hc2) (oFA (r':=.mp 4 0 1) j oG j j)<|xqT j j (iR.2 hc2) (oLd (cs:=[.im 0 _]) j tF2 j j)<|xqT j j (iR.2 hc2) (Uy j j)<|xqT j j (iR.2 hc2) (oCa (xs:=[.v false [.im 0 _],.v false [.im 0 _],.v false [.im 0 _]]) (vs:=[(false,[.im 0 _])]) (v:=.v false [.im 0 _]) (bW Vl) (.inl j) j fD j (ppC j (ppC j (ppC j pp0))) j j pb0 j j j)<|xq (dP j j (iR.2 hc2) j)<|xq (aj j j)<|xn
   ·cases hm3
    exact au j j (byF iR hc2) j<|au j j (byF iR hc2) j<|au j j (byF iR hc2) j<|au j j (byF iR hc2) j<|au j j (byF iR hc2) j<|au j j (byF iR hc2) j<|au j j (byF iR hc2) j<|au j j (byF iR hc2) j<|au j j (byF iR hc2) j<|au j j (byF iR hc2) j<|au j j (byF iR hc2) j<|au j j (byF iR hc2) j<|au j j (byF iR hc2) j<|xq (dS j j (byF iR hc2) j)<|xq (aj j j)<|xn
  ·cases hm3
   exact au j j (byF iEq hc1) j<|au j j (byF iEq hc1) j<|au j j (byF iEq hc1) j<|au j j (byF iEq hc1) j<|au j j (byF iEq hc1) j<|au j j (byF iEq hc1) j<|au j j (byF iEq hc1) j<|au j j (byF iEq hc1) j<|au j j (byF iEq hc1) j<|au j j (byF iEq hc1) j<|au j j (byF iEq hc1) j<|au j j (byF iEq hc1) j<|au j j (byF iEq hc1) j<|xq (dS j j (byF iEq hc1) j)<|xq (oMv j j)<|au j j j j<|au j j j j<|au j j j j<|au j j j j<|au j j j j<|au j j j j<|au j j j j<|au j j j j<|au j j j j<|au j j j j<|au j j j j<|au j j j j<|au j j j j<|xq (dS j j j j)<|xq (aj j j)<|xn
 ·refine us<|Go.ret (Unw.ret ?_)
  cases h
  exact fr aaF j
theorem Gh {a_0:ae} {b_1:ae} {c_2:ae} {d_3:ae} {r:Bool} (h:nY a_0 b_1 c_2 d_3=some r):FX 193 [.im 2 true (bK a_0),.im 2 true (bK b_1),.im 2 true (bK c_2),.im 2 true (bK d_3)] (B0 [(false,[.im 0 (V r)])]):=by
 unfold nY at h
 refine gn 31 Try.func193 rfl ?_
 refine gs<|g0 j j (q (oBx j aU j (tkI (tkI tk0)))<|q (oBx j aU j (tkI (tkI tk0)))<|q (oBx j aU j (tkI (tkI tk0)))<|q (oBx j aU j (tkI (tkI tk0)))<|q (aj j j)<|nl)<|us<|gs<|?_
 obtain ⟨x12,Gg,h⟩:=bs h
 obtain ⟨x16,hx16,h⟩:=bs h
 obtain ⟨Du,hm2,h⟩:=bs h
 refine gd c193 j j j j (mk [(8,bv Du)] []) ?_ ?_
 ·refine t j j (oLd (cs:=[.im 0 _,.im 0 _]) j aU j j)<|t j j (oLd (cs:=[.im 0 _,.im 0 _]) j aU j j)<|t j j (oLd (cs:=[.im 0 _,.im 0 _]) j aU j j)<|t j j (oLd (cs:=[.im 0 _,.im 0 _]) j aU j j)<|t j j (oLd (cs:=[.im 0 _,.im 0 _]) j aU j j)<|?_
  refine ic hm2 (fun hc1 hm2=>?_) fun hc1 hm2=>?_
  ·obtain ⟨x23,Zc,hm2⟩:=bs hm2
   obtain ⟨x27,hx27,hm2⟩:=bs hm2
   cases hm2
   exact t j j (oLd (cs:=[.im 0 _,.im 0 _]) j aU j j)<|sS (dN z193 j (oCa (xs:=[.v true [.im 0 _,.im 0 _],.v true [.im 0 _,.im 0 _],.v true [.im 0 _,.im 0 _]]) (vs:=[(false,[.im 0 _])]) (v:=.v false [.im 0 _]) (o7 Gg) (.inl j) j jc j (ppC j (ppC j (ppC j pp0))) j j pb0 j j j)) trivial (sS (dN z193 j (oCa (xs:=[.v true [.im 0 _,.im 0 _],.v true [.im 0 _,.im 0 _],.v true [.im 0 _,.im 0 _]]) (vs:=[(false,[.im 0 _])]) (v:=.v false [.im 0 _]) (o7 hx16) (.inl j) j jc j (ppC j (ppC j (ppC j pp0))) j j pb0 j j j)) trivial (t j j (oBi j j j j)<|t j j (oBi j j j j)<|t j j (oMv j j)<|tT j j j j (aC.2 hc1) (oLd (cs:=[.im 0 _,.im 0 _]) j aU j j)<|tT j j j j (aC.2 hc1) (oLd (cs:=[.im 0 _,.im 0 _]) j aU j j)<|tT j j j j (aC.2 hc1) (oLd (cs:=[.im 0 _,.im 0 _]) j aU j j)<|tT j j j j (aC.2 hc1) (oLd (cs:=[.im 0 _,.im 0 _]) j aU j j)<|tT j j j j (aC.2 hc1) (oLd (cs:=[.im 0 _,.im 0 _]) j aU j j)<|tT j j j j (aC.2 hc1) (oLd (cs:=[.im 0 _,.im 0 _]) j aU j j)<|sS (dT z193 j j j (aC.2 hc1) (oCa (xs:=[.v true [.im 0 _,.im 0 _],.v true [.im 0 _,.im 0 _],.v true [.im 0 _,.im 0 _]]) (vs:=[(false,[.im 0 _])]) (v:=.v false [.im 0 _]) (o7 Zc) (.inl j) j jc j (ppC j (ppC j (ppC j pp0))) j j pb0 j j j)) trivial (sS (dT z193 j j j (aC.2 hc1) (oCa (xs:=[.v true [.im 0 _,.im 0 _],.v true [.im 0 _,.im 0 _],.v true [.im 0 _,.im 0 _]]) (vs:=[(false,[.im 0 _])]) (v:=.v false [.im 0 _]) (o7 hx27) (.inl j) j jc j (ppC j (ppC j (ppC j pp0))) j j pb0 j j j)) trivial (tT j j j j (aC.2 hc1) (oBi j j j j)<|tT j j j j (aC.2 hc1) (oBi j j j j)<|t j j (dP j j (aC.2 hc1) j)<|sS (dN z193 j (aj j j)) trivial (sD (by kernel_rfl))))))
  ·cases hm2
   exact t j j (oLd (cs:=[.im 0 _,.im 0 _]) j aU j j)<|sS (dN z193 j (oCa (xs:=[.v true [.im 0 _,.im 0 _],.v true [.im 0 _,.im 0 _],.v true [.im 0 _,.im 0 _]]) (vs:=[(false,[.im 0 _])]) (v:=.v false [.im 0 _]) (o7 Gg) (.inl j) j jc j (ppC j (ppC j (ppC j pp0))) j j pb0 j j j)) trivial (sS (dN z193 j (oCa (xs:=[.v true [.im 0 _,.im 0 _],.v true [.im 0 _,.im 0 _],.v true [.im 0 _,.im 0 _]]) (vs:=[(false,[.im 0 _])]) (v:=.v false [.im 0 _]) (o7 hx16) (.inl j) j jc j (ppC j (ppC j (ppC j pp0))) j j pb0 j j j)) trivial (t j j (oBi j j j j)<|t j j (oBi j j j j)<|t j j (oMv j j)<|tF j j j j (byF aC hc1) j<|tF j j j j (byF aC hc1) j<|tF j j j j (byF aC hc1) j<|tF j j j j (byF aC hc1) j<|tF j j j j (byF aC hc1) j<|tF j j j j (byF aC hc1) j<|sS (dF j j j (byF aC hc1) j) trivial (sS (dF j j j (byF aC hc1) j) trivial (tF j j j j (byF aC hc1) j<|tF j j j j (byF aC hc1) j<|t j j (dS j j (byF aC hc1) j)<|sS (dN z193 j (aj j j)) trivial (sD (by kernel_rfl))))))
 ·refine us<|Go.ret (Unw.ret ?_)
  cases h
  exact fr aaO j
theorem Gi {a_0:ae} {b_1:ae} {c_2:ae} {d_3:ae} {r:Bool} (h:iV a_0 b_1 c_2 d_3=some r):FX 153 [.im 2 true (bK a_0),.im 2 true (bK b_1),.im 2 true (bK c_2),.im 2 true (bK d_3)] (B0 [(false,[.im 0 (V r)])]):=by
 unfold iV at h
 refine gn 38 Try.func153 rfl ?_
 refine gs<|g0 j j (q (oBx j aU j (tkI (tkI tk0)))<|q (oBx j aU j (tkI (tkI tk0)))<|q (oBx j aU j (tkI (tkI tk0)))<|q (oBx j aU j (tkI (tkI tk0)))<|q (aj j j)<|nl)<|us<|gs<|?_
 obtain ⟨x13,Fg,h⟩:=bs h
 obtain ⟨Du,hm5,h⟩:=bs h
 refine gX aal j j j (mk [(8,bv Du)] []) ?_ ?_
 ·refine xq (oLd (cs:=[.im 0 _,.im 0 _]) j aU j j)<|xq (oLd (cs:=[.im 0 _,.im 0 _]) j aU j j)<|xq (oLd (cs:=[.im 0 _,.im 0 _]) j aU j j)<|xq (oLd (cs:=[.im 0 _,.im 0 _]) j aU j j)<|xq (oCa (xs:=[.v true [.im 0 _,.im 0 _],.v true [.im 0 _,.im 0 _],.v true [.im 0 _,.im 0 _],.v true [.im 0 _,.im 0 _]]) (vs:=[(false,[.im 0 _])]) (v:=.v false [.im 0 _]) (Gh Fg) (.inl j) j Aa j (ppC j (ppC j (ppC j (ppC j pp0)))) j j pb0 j j j)<|xq (oMv j j)<|?_
  refine ic hm5 (fun hc1 hm5=>?_) fun hc1 hm5=>?_
  ·cases hm5
   exact au j j (iR.2 hc1) j<|au j j (iR.2 hc1) j<|au j j (iR.2 hc1) j<|au j j (iR.2 hc1) j<|xq (dP j j (iR.2 hc1) j)<|xq (oMv j j)<|au j j j j<|au j j j j<|au j j j j<|au j j j j<|xq (dP j j j j)<|xq (oMv j j)<|au j j j j<|au j j j j<|au j j j j<|au j j j j<|xq (dP j j j j)<|xq (oMv j j)<|au j j j j<|au j j j j<|au j j j j<|au j j j j<|xq (dP j j j j)<|xq (aj j j)<|xn
  ·obtain ⟨x18,IG,hm5⟩:=bs hm5
   refine xqT j j (byF iR hc1) (oLd (cs:=[.im 0 _,.im 0 _]) j aU j j)<|xqT j j (byF iR hc1) (oLd (cs:=[.im 0 _,.im 0 _]) j aU j j)<|xqT j j (byF iR hc1) (oLd (cs:=[.im 0 _,.im 0 _]) j aU j j)<|xqT j j (byF iR hc1) (oCa (xs:=[.v true [.im 0 _,.im 0 _],.v true [.im 0 _,.im 0 _],.v true [.im 0 _,.im 0 _]]) (vs:=[(false,[.im 0 _])]) (v:=.v false [.im 0 _]) (vJ IG) (.inl j) j ku j (ppC j (ppC j (ppC j pp0))) j j pb0 j j j)<|xq (dS j j (byF iR hc1) j)<|xq (oMv j j)<|?_
   refine ic hm5 (fun hc2 hm5=>?_) fun hc2 hm5=>?_
   ·cases hm5
    exact au j j (iR.2 hc2) j<|au j j (iR.2 hc2) j<|au j j (iR.2 hc2) j<|au j j (iR.2 hc2) j<|xq (dP j j (iR.2 hc2) j)<|xq (oMv j j)<|au j j j j<|au j j j j<|au j j j j<|au j j j j<|xq (dP j j j j)<|xq (oMv j j)<|au j j j j<|au j j j j<|au j j j j<|au j j j j<|xq (dP j j j j)<|xq (aj j j)<|xn
   ·obtain ⟨x24,hx24,hm5⟩:=bs hm5
    refine xqT j j (byF iR hc2) (oLd (cs:=[.im 0 _,.im 0 _]) j aU j j)<|xqT j j (byF iR hc2) (oLd (cs:=[.im 0 _,.im 0 _]) j aU j j)<|xqT j j (byF iR hc2) (oLd (cs:=[.im 0 _,.im 0 _]) j aU j j)<|xqT j j (byF iR hc2) (oCa (xs:=[.v true [.im 0 _,.im 0 _],.v true [.im 0 _,.im 0 _],.v true [.im 0 _,.im 0 _]]) (vs:=[(false,[.im 0 _])]) (v:=.v false [.im 0 _]) (vJ hx24) (.inl j) j ku j (ppC j (ppC j (ppC j pp0))) j j pb0 j j j)<|xq (dS j j (byF iR hc2) j)<|xq (oMv j j)<|?_
    refine ic hm5 (fun hc3 hm5=>?_) fun hc3 hm5=>?_
    ·cases hm5
     exact au j j (iR.2 hc3) j<|au j j (iR.2 hc3) j<|au j j (iR.2 hc3) j<|au j j (iR.2 hc3) j<|xq (dP j j (iR.2 hc3) j)<|xq (oMv j j)<|au j j j j<|au j j j j<|au j j j j<|au j j j j<|xq (dP j j j j)<|xq (aj j j)<|xn
    ·obtain ⟨x30,O1,hm5⟩:=bs hm5
     refine xqT j j (byF iR hc3) (oLd (cs:=[.im 0 _,.im 0 _]) j aU j j)<|xqT j j (byF iR hc3) (oLd (cs:=[.im 0 _,.im 0 _]) j aU j j)<|xqT j j (byF iR hc3) (oLd (cs:=[.im 0 _,.im 0 _]) j aU j j)<|xqT j j (byF iR hc3) (oCa (xs:=[.v true [.im 0 _,.im 0 _],.v true [.im 0 _,.im 0 _],.v true [.im 0 _,.im 0 _]]) (vs:=[(false,[.im 0 _])]) (v:=.v false [.im 0 _]) (vJ O1) (.inl j) j ku j (ppC j (ppC j (ppC j pp0))) j j pb0 j j j)<|xq (dS j j (byF iR hc3) j)<|xq (oMv j j)<|?_
     refine ic hm5 (fun hc4 hm5=>?_) fun hc4 hm5=>?_
     ·cases hm5
      exact au j j (iR.2 hc4) j<|au j j (iR.2 hc4) j<|au j j (iR.2 hc4) j<|au j j (iR.2 hc4) j<|xq (dP j j (iR.2 hc4) j)<|xq (aj j j)<|xn
     ·obtain ⟨x36,Vm,hm5⟩:=bs hm5
      cases hm5
      exact xqT j j (byF iR hc4) (oLd (cs:=[.im 0 _,.im 0 _]) j aU j j)<|xqT j j (byF iR hc4) (oLd (cs:=[.im 0 _,.im 0 _]) j aU j j)<|xqT j j (byF iR hc4) (oLd (cs:=[.im 0 _,.im 0 _]) j aU j j)<|xqT j j (byF iR hc4) (oCa (xs:=[.v true [.im 0 _,.im 0 _],.v true [.im 0 _,.im 0 _],.v true [.im 0 _,.im 0 _]]) (vs:=[(false,[.im 0 _])]) (v:=.v false [.im 0 _]) (vJ Vm) (.inl j) j ku j (ppC j (ppC j (ppC j pp0))) j j pb0 j j j)<|xq (dS j j (byF iR hc4) j)<|xq (aj j j)<|xn
 ·refine us<|Go.ret (Unw.ret ?_)
  cases h
  exact fr aaG j
theorem IL {p_0:(List ae)} {r:Int} (h:kK p_0=some r):FX 154 [.im 2 false [W 2 af p_0]] (B0 [(false,[.im 0 (I r)])]):=by
 unfold kK at h
 refine gn 37 Try.func154 rfl ?_
 refine gs<|g0 j j (q (aj j j)<|nl)<|us<|gs<|g0 j j (q (aj j j)<|nl)<|us<|gs<|gs<|g0 j j (q (oMv j j)<|q (mF j j BU j)<|q (oMv j j)<|nl)<|us<|Go.block<|?_
 obtain ⟨o,hl,h⟩:=bs h
 refine gl c154 j _ (fun (s:(Int×Int))=>match s with | (wX,xZ)=>mk [(0,D 2 (W 2 af p_0)),(3,iv wX),(7,D 2 (W 2 af p_0)),(8,iv (p_0.length:Int)),(9,iv xZ)] []) (fun (zy:Int) (p:Ex×St)=>p.1= .exit 0∧p.2.norm ([3],[])=mk [(3,iv zy)] []) hl (by kernel_rfl) ?_ ?_ ?_
 ·intro o p hp e
  exact nomatch (hp.1.symm.trans e)
 ·rintro ⟨wX,xZ⟩ o h
  unfold eY at h
  dsimp only at h
  refine gs<|g0 j j (q (oBi j j j j)<|nl)<|us<|gs<|gc h j aC (fun hc3 h=>?_) fun hc3 h=>?_
  ·refine Go.skip<|us<|gs<|Go.block<|gs<|?_
   obtain ⟨x12,Gg,h⟩:=bs h
   refine g0 j j (q (oMv j j)<|q (lF j Gg uN j j)<|q (oLd (cs:=[.im 2 _,.im 2 _]) j aU j j)<|q (oAl j aU (tkI (tkI tk0)))<|q (aj j j)<|q (oSt aU j j j (tkI (tkI tk0)) j j j)<|nl)<|us<|gs<|?_
   obtain ⟨x19,F8,h⟩:=bs h
   obtain ⟨x20,IK,h⟩:=bs h
   refine g1 j j (mk [(0,D 2 (W 2 af p_0)),(3,iv wX),(4,iv xZ),(5,M 5),(7,D 2 (W 2 af p_0)),(8,iv (p_0.length:Int)),(9,iv xZ)] [(5,Oa (G 0 (bK x12)))]) (q (oMv j j)<|q (oMv j j)<|q (oBi j j j j)<|q (oMv j j)<|q (mF j j BU j)<|q (Ny j F8 j j)<|q (lF j IK uN j j)<|q (oLd (cs:=[.im 2 _,.im 2 _]) j aU j j)<|q (oAl j aU (tkI (tkI tk0)))<|q (oSt aU j j j (tkI (tkI tk0)) j j j)<|nl)<|us<|g1 j j (mk [(0,D 2 (W 2 af p_0)),(3,iv wX),(5,M 5),(6,M 6),(7,D 2 (W 2 af p_0)),(8,iv (p_0.length:Int)),(9,iv xZ)] [(5,Oa (G 0 (bK x12))),(6,Oa (G 0 (bK x20)))]) (q (oMv j j)<|q (oFA (r':=.mp 5 0 0) j nM j j)<|q (oLd (cs:=[.im 0 _]) j tF2 j j)<|q (oFA (r':=.mp 6 0 1) j oG j j)<|q (oLd (cs:=[.im 0 _]) j tF2 j j)<|q (oBi j j j j)<|q (oFA (r':=.mp 5 0 1) j oG j j)<|q (oLd (cs:=[.im 0 _]) j tF2 j j)<|q (oFA (r':=.mp 6 0 0) j nM j j)<|q (oLd (cs:=[.im 0 _]) j tF2 j j)<|q (oBi j j j j)<|q (oBi j j j j)<|q (oBi j j j j)<|q (aj j j)<|nl)<|Unw.blk<|us<|g0 j j (q (oBi j j j j)<|q (oMv j j)<|nl)<|Unw.nil<|?_
   cases h
   exact ⟨j,(by kernel_rfl)⟩
  ·refine Go.exit<|ux<|Unw.nil<|?_
   cases h
   exact ⟨j,(by kernel_rfl)⟩
 ·rintro ⟨e,st⟩ hp
  obtain ⟨zy,rfl⟩:∃y,y=o:=⟨o,rfl⟩
  obtain ⟨he,hst⟩:=hp
  obtain rfl:e= .exit 0:=he
  refine Unw.ng<|us<|gs<|g2 c154 j j hst (q (oMv j j)<|q (aj j j)<|nl)<|us<|Go.ret (Unw.ret ?_)
  cases h
  exact fr aaH j
theorem BX {p_0:(List ae)} {r:Bool} (h:fF p_0=some r):FX 95 [.im 2 false [W 2 af p_0]] (B0 [(false,[.im 0 (V r)])]):=by
 unfold fF at h
 refine gn 93 Try.func95 rfl ?_
 refine gs<|g0 j j (q (aj j j)<|nl)<|us<|gs<|g0 j j (q (oMv j j)<|q (mF j j BU j)<|q (aj j j)<|nl)<|us<|gs<|gs<|?_
 obtain ⟨Ld,IM,h⟩:=bs h
 refine gX c95 j j j (mk [(0,D 2 (W 2 af p_0)),(3,iv (p_0.length:Int)),(21,bv Ld)] []) ?_ ?_
 ·refine xq (oMv j j)<|xq (oBi j j j j)<|xq (oMv j j)<|?_
  refine ic IM (fun hc1 IM=>?_) fun hc1 IM=>?_
  ·cases IM
   exact au j j (aC.2 hc1) j<|au j j (aC.2 hc1) j<|xq (dP j j (aC.2 hc1) j)<|xq (oMv j j)<|au j j j j<|au j j j j<|au j j j j<|xq (dP j j j j)<|xn
  ·refine xqT j j (byF aC hc1) (oMv j j)<|xqT j j (byF aC hc1) (oBi j j j j)<|xq (dS j j (byF aC hc1) j)<|xq (oMv j j)<|?_
   refine ic IM (fun hc2 IM=>?_) fun hc2 IM=>?_
   ·cases IM
    exact au j j (aC.2 hc2) j<|au j j (aC.2 hc2) j<|au j j (aC.2 hc2) j<|xq (dP j j (aC.2 hc2) j)<|xn
   ·obtain ⟨x19,F8,IM⟩:=bs IM
    cases IM
    exact xqT j j (byF aC hc2) (oMv j j)<|xqT j j (byF aC hc2) (oCa (xs:=[.v false [.im 2 _]]) (vs:=[(false,[.im 0 _])]) (v:=.v false [.im 0 _]) (Dz F8) (.inl j) j U0 j (ppC j pp0) j j pb0 j j j)<|xqT j j (byF aC hc2) (oUn j j j)<|xq (dS j j (byF aC hc2) j)<|xn
 ·refine us<|gc h j iR (fun hc3 h=>?_) fun hc3 h=>?_
  ·refine gs<|g0 j j (q (aj j j)<|nl)<|us<|Go.ret (Unw.ret ?_)
   cases h
   exact fr XB j
  ·refine Go.skip<|us<|gs<|gs<|g0 j j (q (oMv j j)<|q (mF j j BU j)<|q (oMv j j)<|nl)<|us<|Go.block<|?_
   obtain ⟨o,hl,h⟩:=bs h
   refine gl c95 j _ (fun (jQ:Int)=>mk [(0,D 2 (W 2 af p_0)),(3,iv (p_0.length:Int)),(23,iv (p_0.length:Int)),(24,iv jQ)] []) (fun (o:(Unit ⊕ Bool)) (p:Ex×St)=>match o with | (.inl _)=>p.1= .exit 0∧p.2.norm ([0],[])=mk [(0,D 2 (W 2 af p_0))] [] | (.inr r2)=>p.1= .ret∧fin Try.prog cfg 95 Try.f95 [.im 2 false [W 2 af p_0]] p.2=some (B0 [(false,[.im 0 (V r2)])])) hl (by kernel_rfl) ?_ ?_ ?_
   ·intro o p hp e
    rcases o with u | r2<;>exact nomatch (hp.1.symm.trans e)
   ·rintro jQ o h
    unfold bJ at h
    refine gs<|g0 j j (q (oBi j j j j)<|nl)<|us<|gs<|gc h j aC (fun O0 h=>?_) fun O0 h=>?_
    ·refine Go.skip<|us<|gs<|Go.block<|gs<|g0 j j (q (oMv j j)<|q (aj j j)<|nl)<|us<|gs<|?_
     obtain ⟨x29,hx29,h⟩:=bs h
     obtain ⟨x35,LU,h⟩:=bs h
     obtain ⟨x36,Vm,h⟩:=bs h
     obtain ⟨x42,Vj,h⟩:=bs h
     obtain ⟨x43,II,h⟩:=bs h
     refine gd c95 j j j j (mk [(0,D 2 (W 2 af p_0)),(3,iv (p_0.length:Int)),(4,iv jQ),(5,M 5),(6,M 6),(7,M 7),(23,iv (p_0.length:Int)),(24,iv jQ)] [(5,Oa (G 0 (bK x29))),(6,Oa (G 0 (bK x36))),(7,Oa (G 0 (bK x43)))]) (t j j (oMv j j)<|t j j (oMv j j)<|t j j (lF j hx29 uN j j)<|t j j (oLd (cs:=[.im 2 _,.im 2 _]) j aU j j)<|t j j (oMv j j)<|t j j (oMv j j)<|t j j (oBi j j j j)<|t j j (oMv j j)<|t j j (Ny j LU j j)<|t j j (lF j Vm uN j j)<|t j j (oLd (cs:=[.im 2 _,.im 2 _]) j aU j j)<|t j j (oMv j j)<|t j j (oMv j j)<|t j j (oBi j j j j)<|t j j (oMv j j)<|t j j (Ny j Vj j j)<|t j j (lF j II uN j j)<|t j j (oLd (cs:=[.im 2 _,.im 2 _]) j aU j j)<|sF (dN z95 j (oAl j aU (tkI (tkI tk0)))) trivial (sF (dN z95 j (oAl j aU (tkI (tkI tk0)))) trivial (sS (dN z95 j (oAl j aU (tkI (tkI tk0)))) trivial (sS (dN z95 j (oSt aU j j j (tkI (tkI tk0)) j j j)) trivial (sS (dN z95 j (oSt aU j j j (tkI (tkI tk0)) j j j)) trivial (sS (dN z95 j (oSt aU j j j (tkI (tkI tk0)) j j j)) trivial (sD (by kernel_rfl)))))) (sS (dN z95 j (oAl j aU (tkI (tkI tk0)))) trivial (sS (dN z95 j (oAl j aU (tkI (tkI tk0)))) trivial (sS (dN z95 j (oSt aU j j j (tkI (tkI tk0)) j j j)) trivial (sS (dN z95 j (oSt aU j j j (tkI (tkI tk0)) j j j)) trivial (sS (dN z95 j (oSt aU j j j (tkI (tkI tk0)) j j j)) trivial (sD (by kernel_rfl)))))))) (sF (dN z95 j (oAl j aU (tkI (tkI tk0)))) trivial (sF (dN z95 j (oAl j aU (tkI (tkI tk0)))) trivial (sS (dN z95 j (oAl j aU (tkI (tkI tk0)))) trivial (sS (dN z95 j (oSt aU j j j (tkI (tkI tk0)) j j j)) trivial (sS (dN z95 j (oSt aU j j j (tkI (tkI tk0)) j j j)) trivial (sS (dN z95 j (oSt aU j j j (tkI (tkI tk0)) j j j)) trivial (sD (by kernel_rfl)))))) (sS (dN z95 j (oAl j aU (tkI (tkI tk0)))) trivial (sS (dN z95 j (oAl j aU (tkI (tkI tk0)))) trivial (sS (dN z95 j (oSt aU j j j (tkI (tkI tk0)) j j j)) trivial (sS (dN z95 j (oSt aU j j j (tkI (tkI tk0)) j j j)) trivial (sS (dN z95 j (oSt aU j j j (tkI (tkI tk0)) j j j)) trivial (sD (by kernel_rfl)))))))) (sS (dN z95 j (oAl j aU (tkI (tkI tk0)))) trivial (sF (dN z95 j (oAl j aU (tkI (tkI tk0)))) trivial (sS (dN z95 j (oAl j aU (tkI (tkI tk0)))) trivial (sS (dN z95 j (oSt aU j j j (tkI (tkI tk0)) j j j)) trivial (sS (dN z95 j (oSt aU j j j (tkI (tkI tk0)) j j j)) trivial (sS (dN z95 j (oSt aU j j j (tkI (tkI tk0)) j j j)) trivial (sD (by kernel_rfl)))))) (sS (dN z95 j (oAl j aU (tkI (tkI tk0)))) trivial (sS (dN z95 j (oAl j aU (tkI (tkI tk0)))) trivial (sS (dN z95 j (oSt aU j j j (tkI (tkI tk0)) j j j)) trivial (sS (dN z95 j (oSt aU j j j (tkI (tkI tk0)) j j j)) trivial (sS (dN z95 j (oSt aU j j j (tkI (tkI tk0)) j j j)) trivial (sD (by kernel_rfl)))))))))))<|us<|gs<|gs<|?_
     obtain ⟨Lc,Fh,h⟩:=bs h
     refine gX c95 j j j (mk [(0,D 2 (W 2 af p_0)),(3,iv (p_0.length:Int)),(4,iv jQ),(5,M 5),(6,M 6),(23,iv (p_0.length:Int)),(24,iv jQ),(59,bv Lc)] [(5,Oa (G 0 (bK x29))),(6,Oa (G 0 (bK x36)))]) ?_ ?_
     ·refine xq (oLd (cs:=[.im 0 _,.im 0 _]) j aU j j)<|xq (oLd (cs:=[.im 0 _,.im 0 _]) j aU j j)<|xq (oBa j (U4 x29.X x29.Y x36.X x36.Y) j j j j)<|xq (oMv j j)<|?_
      refine ic Fh (fun hc31 Fh=>?_) fun hc31 Fh=>?_
      ·cases Fh
       exact au j j ((FZ iEq iEq).2 hc31) j<|au j j ((FZ iEq iEq).2 hc31) j<|au j j ((FZ iEq iEq).2 hc31) j<|au j j ((FZ iEq iEq).2 hc31) j<|xq (dP j j ((FZ iEq iEq).2 hc31) j)<|xq (oMv j j)<|au j j j j<|au j j j j<|au j j j j<|au j j j j<|xq (dP j j j j)<|xn
      ·obtain ⟨x52,Vo,Fh⟩:=bs Fh
       refine xqT j j (byF (FZ iEq iEq) hc31) (oLd (cs:=[.im 0 _,.im 0 _]) j aU j j)<|xqT j j (byF (FZ iEq iEq) hc31) (oLd (cs:=[.im 0 _,.im 0 _]) j aU j j)<|xqT j j (byF (FZ iEq iEq) hc31) (oLd (cs:=[.im 0 _,.im 0 _]) j aU j j)<|xqT j j (byF (FZ iEq iEq) hc31) (oCa (xs:=[.v true [.im 0 _,.im 0 _],.v true [.im 0 _,.im 0 _],.v true [.im 0 _,.im 0 _]]) (vs:=[(false,[.im 0 _])]) (v:=.v false [.im 0 _]) (vJ Vo) (.inl j) j ku j (ppC j (ppC j (ppC j pp0))) j j pb0 j j j)<|xq (dS j j (byF (FZ iEq iEq) hc31) j)<|xq (oMv j j)<|?_
       refine ic Fh (fun hc32 Fh=>?_) fun hc32 Fh=>?_
       ·cases Fh
        exact au j j (iR.2 hc32) j<|au j j (iR.2 hc32) j<|au j j (iR.2 hc32) j<|au j j (iR.2 hc32) j<|xq (dP j j (iR.2 hc32) j)<|xn
       ·obtain ⟨x58,Zd,Fh⟩:=bs Fh
        cases Fh
        exact xqT j j (byF iR hc32) (oLd (cs:=[.im 0 _,.im 0 _]) j aU j j)<|xqT j j (byF iR hc32) (oLd (cs:=[.im 0 _,.im 0 _]) j aU j j)<|xqT j j (byF iR hc32) (oLd (cs:=[.im 0 _,.im 0 _]) j aU j j)<|xqT j j (byF iR hc32) (oCa (xs:=[.v true [.im 0 _,.im 0 _],.v true [.im 0 _,.im 0 _],.v true [.im 0 _,.im 0 _]]) (vs:=[(false,[.im 0 _])]) (v:=.v false [.im 0 _]) (vJ Zd) (.inl j) j ku j (ppC j (ppC j (ppC j pp0))) j j pb0 j j j)<|xq (dS j j (byF iR hc32) j)<|xn
     ·refine us<|gc h j iR (fun uP h=>?_) fun uP h=>?_
      ·refine gs<|g0 j j (q (aj j j)<|nl)<|us<|Go.ret (Unw.ret ?_)
       cases h
       exact ⟨j,(fo XB j)⟩
      ·refine Go.skip<|us<|gs<|g0 j j (q (oMv j j)<|q (oBi j j j j)<|q (aj j j)<|nl)<|us<|Go.block<|?_
       obtain ⟨o,hl,h⟩:=bs h
       refine gl c95 j _ (fun (vw:Int)=>mk [(0,D 2 (W 2 af p_0)),(3,iv (p_0.length:Int)),(4,iv jQ),(5,M 5),(6,M 6),(8,iv vw),(23,iv (p_0.length:Int)),(24,iv jQ)] [(5,Oa (G 0 (bK x29))),(6,Oa (G 0 (bK x36)))]) (fun (o:(Unit ⊕ Bool)) (p:Ex×St)=>match o with | (.inl _)=>p.1= .exit 2∧p.2.norm ([0,3,23,24],[])=mk [(0,D 2 (W 2 af p_0)),(3,iv (p_0.length:Int)),(23,iv (p_0.length:Int)),(24,iv jQ)] [] | (.inr r2)=>p.1= .ret∧fin Try.prog cfg 95 Try.f95 [.im 2 false [W 2 af p_0]] p.2=some (B0 [(false,[.im 0 (V r2)])])) hl (by kernel_rfl) ?_ ?_ ?_
       ·intro o p hp e
        rcases o with u | r2<;>exact nomatch (hp.1.symm.trans e)
       ·rintro vw o h
        unfold aY at h
        refine gs<|gs<|g0 j j (q (oMv j j)<|q (oMv j j)<|q (oBi j j j j)<|nl)<|us<|gc h j aC (fun Ze h=>?_) fun Ze h=>?_
        ·refine Go.skip<|us<|gs<|Go.block<|gs<|?_
         obtain ⟨x70,acA,h⟩:=bs h
         obtain ⟨Ii,Fj,h⟩:=bs h
         refine gd c95 j j j j (mk [(0,D 2 (W 2 af p_0)),(3,iv (p_0.length:Int)),(4,iv jQ),(5,M 5),(6,M 6),(8,iv vw),(23,iv (p_0.length:Int)),(24,iv jQ),(88,bv Ii)] [(5,Oa (G 0 (bK x29))),(6,Oa (G 0 (bK x36)))]) ?_ ?_
         ·refine t j j (oMv j j)<|t j j (oBi j j j j)<|t j j (oMv j j)<|t j j (Ny j acA j j)<|t j j (oMv j j)<|t j j (oBi j j j j)<|t j j (oMv j j)<|?_
          refine ic Fj (fun qJ Fj=>?_) fun qJ Fj=>?_
          ·obtain ⟨x78,SA,Fj⟩:=bs Fj
           obtain ⟨x84,XF,Fj⟩:=bs Fj
           obtain ⟨x85,Zg,Fj⟩:=bs Fj
           obtain ⟨x87,Zh,Fj⟩:=bs Fj
           cases Fj
           exact tT j j j j (iNe.2 qJ) (oLd (cs:=[.im 0 _,.im 0 _]) j aU j j)<|tT j j j j (iNe.2 qJ) (oLd (cs:=[.im 0 _,.im 0 _]) j aU j j)<|tT j j j j (iNe.2 qJ) (oMv j j)<|tT j j j j (iNe.2 qJ) (oMv j j)<|tT j j j j (iNe.2 qJ) (lF j SA uN j j)<|tT j j j j (iNe.2 qJ) (oLd (cs:=[.im 2 _,.im 2 _]) j aU j j)<|tT j j j j (iNe.2 qJ) (oMv j j)<|tT j j j j (iNe.2 qJ) (oMv j j)<|tT j j j j (iNe.2 qJ) (oBi j j j j)<|tT j j j j (iNe.2 qJ) (oMv j j)<|tT j j j j (iNe.2 qJ) (Ny j XF j j)<|tT j j j j (iNe.2 qJ) (lF j Zg uN j j)<|tT j j j j (iNe.2 qJ) (oLd (cs:=[.im 2 _,.im 2 _]) j aU j j)<|sS (dT z95 j j j (iNe.2 qJ) (oCa (xs:=[.v true [.im 0 _,.im 0 _],.v true [.im 0 _,.im 0 _],.v true [.im 2 _,.im 2 _],.v true [.im 2 _,.im 2 _]]) (vs:=[(false,[.im 0 _])]) (v:=.v false [.im 0 _]) (Gi Zh) (.inl j) j zZ j (ppC j (ppC j (ppC j (ppC j pp0)))) j j pb0 j j j)) trivial (t j j (dP j j (iNe.2 qJ) j)<|sD (by kernel_rfl))
          ·cases Fj
           exact tF j j j j (byF iNe qJ) j<|tF j j j j (byF iNe qJ) j<|tF j j j j (byF iNe qJ) j<|tF j j j j (byF iNe qJ) j<|tF j j j j (byF iNe qJ) j<|tF j j j j (byF iNe qJ) j<|tF j j j j (byF iNe qJ) j<|tF j j j j (byF iNe qJ) j<|tF j j j j (byF iNe qJ) j<|tF j j j j (byF iNe qJ) j<|tF j j j j (byF iNe qJ) j<|tF j j j j (byF iNe qJ) j<|tF j j j j (byF iNe qJ) j<|sS (dF j j j (byF iNe qJ) j) trivial (t j j (dS j j (byF iNe qJ) j)<|sD (by kernel_rfl))
         ·refine us<|gc h j iR (fun acB h=>?_) fun acB h=>?_
          ·refine gs<|g0 j j (q (aj j j)<|nl)<|us<|Go.ret (Unw.ret ?_)
           cases h
           exact ⟨j,(fo XB j)⟩
          ·refine Go.skip<|Unw.blk<|us<|g0 j j (q (oMv j j)<|q (oBi j j j j)<|q (aj j j)<|nl)<|Unw.nil<|?_
           cases h
           exact ⟨j,(by kernel_rfl)⟩
        ·refine Go.exit<|ux<|Unw.nil<|?_
         cases h
         exact ⟨j,(by kernel_rfl)⟩
       ·rintro ⟨e,st⟩ hp
        rcases o with u | r2
        ·dsimp only at h
         obtain ⟨he,hst⟩:=hp
         obtain rfl:e= .exit 2:=he
         refine Unw.ng<|Unw.blk<|us<|g2 c95 j j hst (q (oBi j j j j)<|q (oMv j j)<|nl)<|Unw.nil<|?_
         cases h
         exact ⟨j,(by kernel_rfl)⟩
        ·dsimp only at h
         obtain ⟨he,hfin⟩:=hp
         obtain rfl:e= .ret:=he
         cases h
         exact Unw.ret ⟨j,hfin⟩
    ·refine Go.exit<|ux<|Unw.nil<|?_
     cases h
     exact ⟨j,(by kernel_rfl)⟩
   ·rintro ⟨e,st⟩ hp
    rcases o with u | r2
    ·dsimp only at h
     obtain ⟨he,hst⟩:=hp
     obtain rfl:e= .exit 0:=he
     refine Unw.ng<|us<|gs<|?_
     obtain ⟨x91,hx91,h⟩:=bs h
     refine g2 c95 j j hst (q (oMv j j)<|q (oCa (xs:=[.v false [.im 2 _]]) (vs:=[(false,[.im 0 _])]) (v:=.v false [.im 0 _]) (IL hx91) (.inl j) j U1 j (ppC j pp0) j j pb0 j j j)<|q (oBi j j j j)<|q (aj j j)<|nl)<|us<|Go.ret (Unw.ret ?_)
     cases h
     exact fr XB j
    ·dsimp only at h
     obtain ⟨he,hfin⟩:=hp
     obtain rfl:e= .ret:=he
     cases h
     exact Unw.ret (lg hfin)
end
end Go.Proofs.Ytdibfdcmbjaejaa
