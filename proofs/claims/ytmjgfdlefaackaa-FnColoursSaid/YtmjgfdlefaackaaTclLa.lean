/- The machine answers, at each function of the program that is reached, what its plain function answers. Conditions: none. -/
import Derived.Test.YtmjgfdlefaackaaProg
import Derived.KernelRfl
import Derived.Test.YtmjgfdlefaackaaSimRs
import Derived.Test.YtmjgfdlefaackaaSimRv
import Derived.Test.YtmjgfdlefaackaaTclT
namespace Go.Proofs.Ytmjgfdlefaackaa
open Go Go.Sim Go.Pw Go.Proofs
set_option linter.unusedVariables false
set_option linter.unusedSimpArgs false
set_option maxRecDepth 100000
set_option maxHeartbeats 4000000
noncomputable section
noncomputable abbrev af (x:ae):List AV:=[I x.aB,I x.High,W 1 eI x.Cells]
noncomputable abbrev iK (x:aP):List AV:=[W 1 (eK .u8) x.code,I x.at_,.sc (.int .u64 x.seed)]
noncomputable abbrev mJ (x:qA):List AV:=[I x.e0,I x.e1,I x.e2,I x.e3]
noncomputable abbrev tK (x:aG):List AV:=[W 1 (eL 1 eI) x.near,I x.left]
noncomputable def fc3:fA:={par:=[.cst false,.cst false],inn:=[(4,some ([1,5],[5])),(19,some ([5,6,7,19,21],[5,6])),(28,some ([6,7],[6]))],out:=[(5,some ([5,6,7,8,9],[5,6,9])),(10,some ([5,6,7,8,96],[5,6])),(15,some ([5,6,7,19,125],[5,6])),(21,some ([5,6,7,19,21,22,153],[5,6])),(26,some ([5,6,7,19,21,22,24,194],[5,6]))],dD:=[(18,([5,6,7,19,21],[5,6])),(24,([5,6,7,19,21,22,24],[5,6]))],frz:=[],sch:=[(5,.first 0 [5,6,7,8,10,11] [1,2,3,4,9]<| .first 1 [2,4,5,6,7,8,10,11] [3,9]<| .first 3 [4,5,6,7,8,10,11] [2,9]<| .fork 2 (.fork 4 (.fork 5 (.first 6 [7,8,10,11] [9]<| .first 7 [10,11] [8,9]<| .first 8 [11] [9,10]<| .fork 9 (.fork 10 (.fork 11 (.done) (.stop)) (.stop)) (.stop)) (.fork 9 (.fork 5 (.first 6 [7,8,10,11] []<| .first 7 [10,11] [8]<| .first 8 [11] [10]<| .fork 10 (.fork 11 (.done) (.stop)) (.stop)) (.stop)) (.stop))) (.fork 9 (.fork 4 (.fork 5 (.first 6 [7,8,10,11] []<| .first 7 [10,11] [8]<| .first 8 [11] [10]<| .fork 10 (.fork 11 (.done) (.stop)) (.stop)) (.stop)) (.stop)) (.stop))) (.fork 9 (.fork 2 (.fork 4 (.fork 5 (.first 6 [7,8,10,11] []<| .first 7 [10,11] [8]<| .first 8 [11] [10]<| .fork 10 (.fork 11 (.done) (.stop)) (.stop)) (.stop)) (.stop)) (.stop)) (.stop))),(26,.first 0 (rg [2,35]) [1]<| .first 1 (rg [2,35]) []<| .first 2 (rg [3,35]) []<| .first 3 (rg [4,35]) []<| .first 4 (rg [5,35]) []<| .first 5 (rg [6,35]) []<| .first 6 (rg [8,10,11,35]) [7,10]<| .first 7 (rg [8,10,11,35]) [10]<| .first 8 (rg [9,10,11,35]) [10]<| .first 9 (rg [11,35]) [10]<| .first 10 (rg [11,35]) []<| .first 11 (rg [12,35]) []<| .first 12 (rg [13,35]) []<| .first 13 (rg [14,35]) []<| .first 14 (rg [16,18,19,35]) [15,18]<| .first 15 (rg [16,18,19,35]) [18]<| .first 16 (rg [17,18,19,35]) [18]<| .first 17 (rg [19,35]) [18]<| .first 18 (rg [19,35]) []<| .first 19 (rg [20,35]) []<| .first 20 (rg [21,35]) []<| .first 21 (rg [22,35]) []<| .first 22 [27,28,33,34] (rg [23,27,29,33])<| .first 23 [25,26,27,28,33,34] [24,29,30,31,32]<| .first 24 [25,26,27,28,33,34] [29,30,31,32]<| .first 25 [26,27,28,33,34] [29,30,31,32]<| .first 26 [27,28,33,34] [29,30,31,32]<| .first 27 [28,33,34] [29,30,31,32]<| .first 28 [33,34] [29,30,31,32]<| .first 29 [31,32,33,34] [30]<| .first 30 [31,32,33,34] []<| .first 31 [32,33,34] []<| .first 32 [33,34] []<| .first 33 [34] []<| .first 34 [] []<| .done)],shut:=[]}
noncomputable def fc4:fA:={par:=[.cst false,.cst false],inn:=[],out:=[(1,some ([4],[]))],dD:=[],frz:=[],sch:=[],shut:=[]}
noncomputable def fc5:fA:={par:=[.cst false],inn:=[(3,some ([2,4],[2,4]))],out:=[],dD:=[],frz:=[],sch:=[],shut:=[]}
noncomputable def fc6:fA:={par:=[.cst false,.cst false],inn:=[(9,some ([7,8,9,10],[9,23]))],out:=[],dD:=[(8,([7,8],[23]))],frz:=[],sch:=[],shut:=[]}
noncomputable def fc7:fA:={par:=[.cst false,.cst false,.cst false],inn:=[],out:=[(3,some ([1,2,3,6,18],[3,6]))],dD:=[],frz:=[],sch:=[],shut:=[]}
noncomputable def fc8:fA:={par:=[.cst false,.cst false,.cst false],inn:=[],out:=[(1,some ([0,1,2,14],[]))],dD:=[],frz:=[],sch:=[],shut:=[]}
noncomputable def fc9:fA:={par:=[.cst false],inn:=[(8,some ([1,4,6,7,14,15,16],[1,7])),(13,some ([1,4,6,14,15,16,28,29,30],[1,28])),(14,some ([1,4,14,15,16],[1])),(15,some ([4],[]))],out:=[],dD:=[(5,([1,4,14,15,16],[1])),(9,([1,4,6,14,15,16,28,29,30],[1,28]))],frz:=[],sch:=[],shut:=[]}
noncomputable def Qp:fA:={par:=[.cst false],inn:=[(11,some ([1,4,17,18],[1])),(12,some ([4],[]))],out:=[(7,some ([1,4,6,7,17,18],[1])),(8,some ([1,4,8,9,10,11,17,18],[1])),(9,some ([1,4,17,18,66],[1]))],dD:=[(5,([1,4,17,18],[1]))],frz:=[],sch:=[(7,.first 0 [3,8,9] [1,2,4,5,6,7]<| .first 1 [2,3,8,9] [4,5,6,7]<| .first 2 [3,8,9] [4,5,6,7]<| .first 3 [8,9] [4,5,6,7]<| .first 4 [7,9] [5,6,8]<| .first 5 [6,7,9] [8]<| .first 6 [7,9] [8]<| .first 7 [9] [8]<| .fork 8 (.fork 9 (.done) (.stop)) (.stop)),(8,.first 0 [3,8,14,19,20,21,22,23] (rg [1,3,4,8,9,14,15,19])<| .first 1 [3,8,14,19,20,21,22,23] (rg [2,3,4,8,9,14,15,19])<| .first 2 [3,8,14,19,20,21,22,23] (rg [4,8,9,14,15,19])<| .first 4 [8,14,19,20,21,22,23] (rg [3,4,5,8,9,14,15,19])<| .first 5 [6,8,14,19,20,21,22,23] (rg [3,4,7,8,9,14,15,19])<| .first 6 [8,14,19,20,21,22,23] (rg [3,4,7,8,9,14,15,19])<| .first 7 [8,14,19,20,21,22,23] (rg [3,4,9,14,15,19])<| .first 9 [14,19,20,21,22,23] [3,8,10,11,12,13,15,16,17,18]<| .first 10 [11,14,19,20,21,22,23] [3,8,12,13,15,16,17,18]<| .first 11 [14,19,20,21,22,23] [3,8,12,13,15,16,17,18]<| .first 12 [13,14,19,20,21,22,23] [3,8,15,16,17,18]<| .first 13 [14,19,20,21,22,23] [3,8,15,16,17,18]<| .first 15 [19,20,21,22,23] [3,8,14,16,17,18]<| .first 16 [19,20,21,22,23] [3,8,14,17,18]<| .first 17 (rg [18,24]) [3,8,14]<| .first 18 [19,20,21,22,23] [3,8,14]<| .fork 3 (.fork 8 (.fork 14 (.fork 19 (.fork 20 (.fork 21 (.fork 22 (.fork 23 (.done) (.stop)) (.stop)) (.stop)) (.stop)) (.stop)) (.stop)) (.stop)) (.stop))],shut:=[]}
noncomputable def Qq:fA:={par:=[.cst false],inn:=[],out:=[],dD:=[],frz:=[],sch:=[],shut:=[]}
noncomputable def Qr:fA:={par:=[.cst false,.cst false],inn:=[],out:=[],dD:=[],frz:=[4],sch:=[],shut:=[]}
noncomputable def Qs:fA:={par:=[.cst false,.cst false],inn:=[(6,some ([],[]))],out:=[],dD:=[(2,([0,1,5],[]))],frz:=[],sch:=[],shut:=[]}
noncomputable def Qu:fA:={par:=[.cst false],inn:=[],out:=[],dD:=[],frz:=[],sch:=[],shut:=[]}
noncomputable def Qv:fA:={par:=[.ptr [.imm,.imm,.imm]],inn:=[(2,some ([0,2,9],[0,2])),(11,some ([0,2,3],[0,2])),(12,some ([0,2,3,4],[0,2])),(13,some ([0,2,3,4,5],[0,2,5])),(15,some ([0,2,3,4,5,6],[0,2,5])),(21,some ([0,2,3,4,5,6,7],[0,2,5])),(22,some ([0,2,5],[0,2,5])),(23,some ([0,2,5],[0,2,5]))],out:=[(17,some ([0,2,3,4,5,6,7,50],[0,2,5])),(19,some ([0,2,3,4,5,6,7,63],[0,2,5]))],dD:=[(14,([0,2,3,4,5,6],[0,2,5]))],frz:=[],sch:=[],shut:=[]}
noncomputable def Qw:fA:={par:=[.cut 3],inn:=[(9,some ([3],[]))],out:=[(1,some ([0,35],[]))],dD:=[(5,([0,3,4],[]))],frz:=[],sch:=[(1,.first 0 (rg [1,31]) []<| .first 1 (rg [2,31]) []<| .first 2 (rg [3,31]) []<| .first 3 (rg [4,31]) []<| .fork 4 (.first 5 (rg [6,31]) []<| .first 6 (rg [7,31]) []<| .first 7 (rg [8,31]) []<| .first 8 (rg [9,31]) []<| .first 9 (rg [10,31]) []<| .first 10 (rg [11,31]) []<| .fork 11 (.first 12 (rg [13,31]) []<| .first 13 (rg [14,31]) []<| .first 14 (rg [15,31]) []<| .first 15 [16,17,18,19,29,30] (rg [20,29])<| .first 16 [17,18,19,29,30] (rg [20,29])<| .first 17 [18,19,29,30] (rg [20,29])<| .first 18 [19,29,30] (rg [20,29])<| .first 19 [29,30] (rg [20,29])<| .first 20 [21,22,23,28,29,30] [24,25,26,27]<| .first 21 [22,23,28,29,30] [24,25,26,27]<| .first 22 [23,28,29,30] [24,25,26,27]<| .first 23 [28,29,30] [24,25,26,27]<| .first 24 (rg [25,31]) []<| .first 25 [26,27,28,29,30] []<| .first 26 [27,28,29,30] []<| .first 27 [28,29,30] []<| .first 28 [29,30] []<| .first 29 [30] []<| .first 30 [] []<| .done) (.stop)) (.stop))],shut:=[]}
noncomputable def Qx:fA:={par:=[.cst false],inn:=[(14,some ([1,4,6,7,8,47,48],[1,6,7])),(16,some ([1,4,6,7,8,9,47,48],[1,6,7])),(23,some ([1,4,6,7,8,9,11,47,48,79,80],[1,6,7])),(24,some ([1,4,6,7,8,9,47,48,79,80],[1,6,7])),(25,some ([1,4,8,47,48],[1])),(30,some ([1,4,8,47,48,106,107,108],[1])),(31,some ([1,8,47,48],[1])),(34,some ([],[]))],out:=[(1,some ([1,34],[1])),(3,some ([1,44],[1])),(18,some ([1,4,6,7,8,9,47,48,79,80],[1,6,7])),(21,some ([1,4,6,7,8,9,11,47,48,79,80,96],[1,6,7]))],dD:=[(7,([1,47,48],[1])),(15,([1,4,6,7,8,9,47,48],[1,6,7])),(19,([1,4,6,7,8,9,47,48,79,80],[1,6,7])),(26,([1,4,8,47,48,106,107,108],[1]))],frz:=[],sch:=[(18,.first 0 [5] [1,2,3,4,6]<| .first 1 [3,4,5] [2,6]<| .first 2 [3,4,5] [6]<| .first 3 [4,5] [6]<| .first 4 [5] [6]<| .first 6 [] [5]<| .fork 5 (.done) (.stop))],shut:=[]}
noncomputable def Qy:fA:={par:=[.cst false,.cst false,.cst false],inn:=[],out:=[(1,some ([6],[]))],dD:=[],frz:=[],sch:=[],shut:=[]}
noncomputable def Qz:fA:={par:=[.cst false],inn:=[(11,some ([1,3,5,14,15,16,23,24],[1,3])),(12,some ([1,3,14,15,16],[1,3])),(13,some ([3],[3])),(17,some ([3,9,48,49],[3])),(18,some ([3,48,49],[3])),(19,some ([3],[3]))],out:=[],dD:=[(3,([1,3,14,15,16],[1,3])),(6,([1,3,5,14,15,16,23,24],[1,3])),(14,([3,48,49],[3]))],frz:=[2],sch:=[],shut:=[]}
noncomputable def QA:fA:={par:=[.ptr [.imm,.imm],.mv,.cst false,.cst false],inn:=[(4,some ([0,2,3,5],[0,5])),(5,some ([0,2,3,5,10],[0,5,10])),(9,some ([0,2,3,5,10,11],[0,5,10,11])),(14,some ([0,2,3,5,10,11],[0,5,10,11])),(16,some ([],[0]))],out:=[(5,some ([0,2,3,5,10,34],[0,5,10])),(8,some ([0,2,3,5,10,11,43],[0,5,10,11])),(10,some ([0,2,3,5,10,11,54],[0,5,10,11])),(11,some ([0,2,3,5,10,11,12,13],[0,5,10,11,12]))],dD:=[(8,([0,2,3,5,10,11],[0,5,10,11]))],frz:=[],sch:=[(5,.first 0 [6] [1,2,3,4,5]<| .first 1 [2,3,4,5,6] []<| .first 2 [3,4,5,6] []<| .first 3 [4,5,6] []<| .first 4 [5,6] []<| .first 5 [6] []<| .first 6 [] []<| .done),(10,.first 0 [1,2,3,5,6,8] [4,7]<| .first 1 [2,3,5,6,8] [4,7]<| .first 2 [3,5,6,8] [4,7]<| .first 3 [5,6,8] [4,7]<| .first 4 [5,6,8] [7]<| .first 5 [6,8] [7]<| .first 6 [8] [7]<| .fork 7 (.fork 8 (.done) (.stop)) (.stop)),(11,.first 0 (rg [11,17]) (rg [1,11])<| .first 6 [9,11,12,13,14,15,16] [1,2,3,4,5,7,8,10]<| .first 10 (rg [11,17]) [1,2,3,4,5,7,8,9]<| .first 1 [2,5,11,12,13,14,15,16] [3,4,7,8,9]<| .first 3 (rg [4,6,11,17]) [2,7,8,9]<| .first 7 (rg [8,10,11,17]) [2,4,5]<| .first 8 [9,11,12,13,14,15,16] [2,4,5]<| .fork 2 (.fork 4 (.fork 5 (.fork 9 (.fork 11 (.first 12 [13,14,15,16] []<| .first 13 [15,16] [14]<| .first 14 [16] [15]<| .fork 15 (.fork 16 (.done) (.stop)) (.stop)) (.stop)) (.stop)) (.fork 9 (.fork 5 (.fork 11 (.first 12 [13,14,15,16] []<| .first 13 [15,16] [14]<| .first 14 [16] [15]<| .fork 15 (.fork 16 (.done) (.stop)) (.stop)) (.stop)) (.stop)) (.stop))) (.fork 9 (.fork 4 (.fork 5 (.fork 11 (.first 12 [13,14,15,16] []<| .first 13 [15,16] [14]<| .first 14 [16] [15]<| .fork 15 (.fork 16 (.done) (.stop)) (.stop)) (.stop)) (.stop)) (.stop)) (.stop))) (.fork 4 (.fork 2 (.fork 5 (.fork 9 (.fork 11 (.first 12 [13,14,15,16] []<| .first 13 [15,16] [14]<| .first 14 [16] [15]<| .fork 15 (.fork 16 (.done) (.stop)) (.stop)) (.stop)) (.stop)) (.fork 9 (.fork 5 (.fork 11 (.first 12 [13,14,15,16] []<| .first 13 [15,16] [14]<| .first 14 [16] [15]<| .fork 15 (.fork 16 (.done) (.stop)) (.stop)) (.stop)) (.stop)) (.stop))) (.fork 9 (.fork 2 (.fork 5 (.fork 11 (.first 12 [13,14,15,16] []<| .first 13 [15,16] [14]<| .first 14 [16] [15]<| .fork 15 (.fork 16 (.done) (.stop)) (.stop)) (.stop)) (.stop)) (.stop)) (.stop))) (.fork 9 (.fork 2 (.fork 4 (.fork 5 (.fork 11 (.first 12 [13,14,15,16] []<| .first 13 [15,16] [14]<| .first 14 [16] [15]<| .fork 15 (.fork 16 (.done) (.stop)) (.stop)) (.stop)) (.stop)) (.stop)) (.fork 4 (.fork 2 (.fork 5 (.fork 11 (.first 12 [13,14,15,16] []<| .first 13 [15,16] [14]<| .first 14 [16] [15]<| .fork 15 (.fork 16 (.done) (.stop)) (.stop)) (.stop)) (.stop)) (.stop)) (.stop))) (.stop))))],shut:=[]}
noncomputable def QB:fA:={par:=[.cst false],inn:=[],out:=[],dD:=[],frz:=[],sch:=[],shut:=[]}
noncomputable def QC:fA:={par:=[.cut 3,.cst false,.cst false],inn:=[(4,some ([0,1,2,6,7,8],[6,7])),(9,some ([6,7],[6,7]))],out:=[(1,some ([0,1,2,6,7],[6,7])),(8,some ([0,1,2,6,7,8,9],[6,7]))],dD:=[(3,([0,1,2,6,7,8],[6,7])),(6,([0,1,2,6,7,8,9],[6,7]))],frz:=[],sch:=[(1,.first 0 [1,2,3,8,10] [4,5,6,7,9]<| .first 1 [2,3,8,10] [4,5,6,7,9]<| .first 2 [3,8,10] [4,5,6,7,9]<| .first 3 [8,10] [4,5,6,7,9]<| .first 4 [5,6,7,8,10] [9]<| .first 5 [6,7,8,10] [9]<| .first 6 [7,8,10] [9]<| .first 7 [8,10] [9]<| .fork 8 (.fork 9 (.fork 10 (.done) (.stop)) (.stop)) (.fork 9 (.fork 8 (.fork 10 (.done) (.stop)) (.stop)) (.stop))),(8,.first 2 (rg [3,6,14,20]) (rg [0,2,6,14])<| .first 3 (rg [4,6,14,20]) (rg [0,2,6,14])<| .first 4 (rg [5,6,14,20]) (rg [0,2,6,14])<| .first 5 (rg [14,20]) (rg [0,2,6,14])<| .first 6 (rg [13,20]) (rg [0,2,7,13])<| .first 7 (rg [9,10,13,20]) [0,1,8,10,11,12]<| .first 8 (rg [9,10,13,20]) [0,1,10,11,12]<| .first 9 (rg [13,20]) [0,1,10,11,12]<| .first 10 (rg [12,20]) [0,1,11]<| .first 11 (rg [12,20]) [0,1]<| .first 12 (rg [13,20]) [0,1]<| .first 0 [1,17,18,19] [13,14,15,16]<| .first 1 [17,18,19] [13,14,15,16]<| .fork 13 (.first 14 [15,16,17,18,19] []<| .first 15 [16,17,18,19] []<| .fork 16 (.fork 17 (.first 18 [19] []<| .fork 19 (.done) (.stop)) (.stop)) (.stop)) (.stop))],shut:=[]}
noncomputable def QD:fA:={par:=[.cst false,.cst false],inn:=[],out:=[(1,some ([2,4,5,6],[2,4]))],dD:=[],frz:=[],sch:=[(1,.first 0 [3,8,9] [1,2,4,5,6,7]<| .first 1 [2,3,8,9] [4,5,6,7]<| .first 2 [3,8,9] [4,5,6,7]<| .first 3 [8,9] [4,5,6,7]<| .first 4 [7,9] [5,6,8]<| .first 5 [6,7,9] [8]<| .first 6 [7,9] [8]<| .first 7 [9] [8]<| .fork 8 (.fork 9 (.done) (.stop)) (.stop))],shut:=[]}
noncomputable def QE:fA:={par:=[.cst false,.cst false,.cst false],inn:=[],out:=[(1,some ([6],[]))],dD:=[],frz:=[],sch:=[(1,.first 0 [1,14,15,16] (rg [2,14])<| .first 1 [14,15,16] (rg [2,14])<| .first 2 [5,8,12,13,14,15,16] [3,4,6,7,9,10,11]<| .first 3 [4,5,8,12,13,14,15,16] [6,7,9,10,11]<| .first 4 [5,8,12,13,14,15,16] [6,7,9,10,11]<| .first 6 [7,8,13,14,15,16] [5,9,10,11,12]<| .first 7 [8,13,14,15,16] [5,9,10,11,12]<| .first 9 [12,13,14,15,16] [5,8,10,11]<| .first 10 (rg [11,17]) [5,8]<| .first 11 [12,13,14,15,16] [5,8]<| .fork 5 (.first 8 [13,14,15,16] [12]<| .fork 12 (.first 13 [14,15,16] []<| .first 14 [15,16] []<| .first 15 [16] []<| .fork 16 (.done) (.stop)) (.stop)) (.stop))],shut:=[]}
noncomputable def QF:fA:={par:=[.cut 3],inn:=[(8,some ([0,3],[])),(13,some ([3],[]))],out:=[],dD:=[(3,([0,3,4],[])),(9,([0,3,5],[]))],frz:=[],sch:=[],shut:=[]}
noncomputable def QG:fA:={par:=[.cst false],inn:=[],out:=[],dD:=[],frz:=[],sch:=[],shut:=[]}
noncomputable def QH:fA:={par:=[.ptr [.imm,.imm,.imm],.cst false],inn:=[(4,some ([0,1,5],[0])),(6,some ([1,5],[0]))],out:=[],dD:=[],frz:=[],sch:=[],shut:=[]}
noncomputable def QI:fA:={par:=[.ptr [.imm,.imm,.imm],.cst false],inn:=[],out:=[],dD:=[],frz:=[],sch:=[],shut:=[]}
noncomputable def QJ:fA:={par:=[.cst false],inn:=[(5,some ([0,3,4,5],[3,4])),(8,some ([0,3,4,5],[3,4])),(10,some ([0,3,4,5,6],[3,4])),(13,some ([4],[4]))],out:=[(11,some ([0,3,4,5,6,43],[3,4]))],dD:=[(4,([0,3,4,5],[3,4])),(9,([0,3,4,5,6],[3,4]))],frz:=[],sch:=[(11,.first 0 [2,3,8] [1,4,5,6,7]<| .first 1 [2,3,8] [4,5,6,7]<| .first 2 [3,8] [4,5,6,7]<| .first 3 [8] [4,5,6,7]<| .first 4 [6,7,8] [5]<| .first 5 [6,7,8] []<| .first 6 [7,8] []<| .first 7 [8] []<| .first 8 [] []<| .done)],shut:=[]}
noncomputable def QK:fA:={par:=[.cst false,.cst false,.cst false],inn:=[],out:=[(1,some ([6],[]))],dD:=[],frz:=[],sch:=[],shut:=[]}
noncomputable def QL:fA:={par:=[.cut 3,.cst false],inn:=[(5,some ([0,1,5,6,7],[])),(9,some ([0,1,5,6,7],[])),(10,some ([0,1,5,6],[])),(13,some ([0,1,6,8,9],[8])),(17,some ([0,1,6,8,9,10,11],[8,10])),(20,some ([6,8],[8]))],out:=[(18,some ([0,1,6,8,9,10,11,75],[8,10]))],dD:=[(4,([0,1,5,6,7],[])),(12,([0,1,6,8,9],[8])),(16,([0,1,6,8,9,10,11],[8,10]))],frz:=[],sch:=[(18,.first 0 (rg [1,4,8,10,11,21]) [4,5,6,7,10]<| .first 1 (rg [2,4,8,10,11,21]) [4,5,6,7,10]<| .first 2 (rg [3,4,8,10,11,21]) [4,5,6,7,10]<| .first 3 (rg [8,10,11,21]) [4,5,6,7,10]<| .first 4 (rg [6,10,11,21]) [5,10]<| .first 5 (rg [6,10,11,21]) [10]<| .first 6 (rg [7,10,11,21]) [10]<| .first 7 (rg [8,10,11,21]) [10]<| .first 8 (rg [9,10,11,21]) [10]<| .first 9 (rg [11,21]) [10]<| .first 10 (rg [11,21]) []<| .first 11 (rg [12,21]) []<| .first 12 (rg [13,21]) []<| .first 13 [18,19,20] [14,15,16,17]<| .first 14 [16,17,18,19,20] [15]<| .first 15 [16,17,18,19,20] []<| .first 16 [17,18,19,20] []<| .first 17 [18,19,20] []<| .fork 18 (.first 19 [20] []<| .first 20 [] []<| .done) (.stop))],shut:=[]}
noncomputable def QM:fA:={par:=[.cst false],inn:=[(8,some ([3],[]))],out:=[],dD:=[(5,([0,3,4],[]))],frz:=[],sch:=[],shut:=[]}
noncomputable def QN:fA:={par:=[.cst false],inn:=[(8,some ([3],[]))],out:=[],dD:=[(5,([0,3,4],[]))],frz:=[],sch:=[],shut:=[]}
noncomputable def QO:fA:={par:=[.cst false,.cst false],inn:=[(7,some ([],[]))],out:=[],dD:=[(2,([0,1,7,8],[]))],frz:=[],sch:=[],shut:=[]}
noncomputable def QS:fA:={par:=[.cst false,.cst false],inn:=[],out:=[],dD:=[],frz:=[],sch:=[],shut:=[]}
noncomputable def QT:fA:={par:=[.cst false],inn:=[],out:=[(1,some ([5],[]))],dD:=[],frz:=[],sch:=[(1,.first 0 (rg [2,12]) [1]<| .first 1 (rg [2,12]) []<| .first 2 (rg [3,12]) []<| .first 3 (rg [4,12]) []<| .first 4 [6,7,9,10,11] [5,8]<| .first 5 [6,7,9,10,11] [8]<| .first 6 [7,9,10,11] [8]<| .first 7 [9,10,11] [8]<| .first 8 [9,10,11] []<| .first 9 [10,11] []<| .first 10 [11] []<| .fork 11 (.done) (.stop))],shut:=[]}
noncomputable def QU:fA:={par:=[.cut 3,.cst false,.cst false],inn:=[],out:=[(1,some ([6],[]))],dD:=[],frz:=[],sch:=[(1,.first 0 [5,10,15,20,37,38] (rg [1,5,6,10,11,15,16,20,21,37])<| .first 1 [2,3,4,5,10,15,20,37,38] (rg [6,10,11,15,16,20,21,37])<| .first 2 [3,4,5,10,15,20,37,38] (rg [6,10,11,15,16,20,21,37])<| .first 3 [4,5,10,15,20,37,38] (rg [6,10,11,15,16,20,21,37])<| .first 4 [5,10,15,20,37,38] (rg [6,10,11,15,16,20,21,37])<| .first 5 [10,15,20,37,38] (rg [6,10,11,15,16,20,21,37])<| .first 6 [7,8,9,10,15,20,37,38] (rg [11,15,16,20,21,37])<| .first 7 [8,9,10,15,20,37,38] (rg [11,15,16,20,21,37])<| .first 8 [9,10,15,20,37,38] (rg [11,15,16,20,21,37])<| .first 9 [10,15,20,37,38] (rg [11,15,16,20,21,37])<| .first 10 [15,20,37,38] (rg [11,15,16,20,21,37])<| .first 11 [12,13,14,15,20,37,38] (rg [16,20,21,37])<| .first 12 [13,14,15,20,37,38] (rg [16,20,21,37])<| .first 13 [14,15,20,37,38] (rg [16,20,21,37])<| .first 14 [15,20,37,38] (rg [16,20,21,37])<| .first 15 [20,37,38] (rg [16,20,21,37])<| .first 16 [17,18,19,20,37,38] (rg [21,37])<| .first 17 [18,19,20,37,38] (rg [21,37])<| .first 18 [19,20,37,38] (rg [21,37])<| .first 19 [20,37,38] (rg [21,37])<| .first 20 [37,38] (rg [21,37])<| .first 21 [26,31,36,37,38] (rg [22,26,27,31,32,36])<| .first 22 [23,24,25,26,31,36,37,38] (rg [27,31,32,36])<| .first 23 [24,25,26,31,36,37,38] (rg [27,31,32,36])<| .first 24 [25,26,31,36,37,38] (rg [27,31,32,36])<| .first 25 [26,31,36,37,38] (rg [27,31,32,36])<| .first 26 [31,36,37,38] (rg [27,31,32,36])<| .first 27 [28,29,30,31,36,37,38] [32,33,34,35]<| .first 28 [29,30,31,36,37,38] [32,33,34,35]<| .first 29 [30,31,36,37,38] [32,33,34,35]<| .first 30 [31,36,37,38] [32,33,34,35]<| .first 31 [36,37,38] [32,33,34,35]<| .first 32 (rg [33,39]) []<| .first 33 [34,35,36,37,38] []<| .first 34 [35,36,37,38] []<| .first 35 [36,37,38] []<| .first 36 [37,38] []<| .first 37 [38] []<| .fork 38 (.done) (.stop))],shut:=[]}
noncomputable def QV:fA:={par:=[.cst false,.cst false],inn:=[],out:=[(1,some ([5],[]))],dD:=[],frz:=[],sch:=[(1,.first 0 [3,6,10,11,12] [1,2,4,5,7,8,9]<| .first 1 [2,3,6,10,11,12] [4,5,7,8,9]<| .first 2 [3,6,10,11,12] [4,5,7,8,9]<| .first 4 [5,6,11,12] [3,7,8,9,10]<| .first 5 [6,11,12] [3,7,8,9,10]<| .first 7 [10,11,12] [3,6,8,9]<| .first 8 [9,10,11,12] [3,6]<| .first 9 [10,11,12] [3,6]<| .fork 3 (.first 6 [11,12] [10]<| .fork 10 (.first 11 [12] []<| .fork 12 (.done) (.stop)) (.stop)) (.stop))],shut:=[]}
noncomputable def QW:fA:={par:=[.cst false,.cst false],inn:=[],out:=[],dD:=[],frz:=[],sch:=[],shut:=[]}
noncomputable def QX:fA:={par:=[.cst false,.cst false],inn:=[],out:=[],dD:=[],frz:=[],sch:=[],shut:=[]}
noncomputable def QY:fA:={par:=[.cst false,.cst false],inn:=[(6,some ([],[]))],out:=[],dD:=[(2,([0,1,5],[]))],frz:=[],sch:=[],shut:=[]}
noncomputable def QZ:fA:={par:=[.ptr [.imm,.imm,.imm]],inn:=[(4,some ([0,3],[0])),(5,some ([0,3],[0])),(6,some ([0,3],[0]))],out:=[(2,some ([0,3,13],[0])),(3,some ([0,3],[0])),(6,some ([0,3,53],[0]))],dD:=[],frz:=[],sch:=[(2,.first 0 [1,2,3,9] [4,5,6,7,8]<| .first 1 [2,3,9] [4,5,6,7,8]<| .first 2 [3,9] [4,5,6,7,8]<| .first 3 [9] [4,5,6,7,8]<| .first 4 [5,6,7,8,9] []<| .first 5 [6,7,8,9] []<| .first 6 [7,8,9] []<| .first 7 [8,9] []<| .first 8 [9] []<| .first 9 [] []<| .done),(3,.first 0 [1,2,3,8,9,10,11] [4,5,6,7]<| .first 1 [2,3,8,9,10,11] [4,5,6,7]<| .first 2 [3,8,9,10,11] [4,5,6,7]<| .first 3 [8,9,10,11] [4,5,6,7]<| .first 4 (rg [5,12]) []<| .first 5 [6,7,8,9,10,11] []<| .first 6 [7,8,9,10,11] []<| .first 7 [8,9,10,11] []<| .first 8 [9,10,11] []<| .first 9 [10,11] []<| .fork 10 (.fork 11 (.done) (.stop)) (.stop)),(6,.first 0 [1,2,3,9] [4,5,6,7,8]<| .first 1 [2,3,9] [4,5,6,7,8]<| .first 2 [3,9] [4,5,6,7,8]<| .first 3 [9] [4,5,6,7,8]<| .first 4 [5,6,7,8,9] []<| .first 5 [6,7,8,9] []<| .first 6 [7,8,9] []<| .first 7 [8,9] []<| .first 8 [9] []<| .first 9 [] []<| .done)],shut:=[]}
noncomputable def Q3:fA:={par:=[.cut 3,.cst false],inn:=[],out:=[],dD:=[],frz:=[],sch:=[],shut:=[]}
noncomputable def Q4:fA:={par:=[.cst false,.cst false],inn:=[(7,some ([],[]))],out:=[],dD:=[(2,([0,1,7,8],[]))],frz:=[],sch:=[],shut:=[]}
noncomputable def fcs:List (Nat×fA):=[(3,fc3),(4,fc4),(5,fc5),(6,fc6),(7,fc7),(8,fc8),(9,fc9),(10,Qp),(11,Qq),(12,Qr),(13,Qs),(14,Qu),(15,Qv),(16,Qw),(17,Qx),(18,Qy),(19,Qz),(20,QA),(21,QB),(22,QC),(23,QD),(24,QE),(25,QF),(26,QG),(27,QH),(28,QI),(29,QJ),(30,QK),(31,QL),(32,QM),(33,QN),(34,QO),(37,QS),(38,QT),(40,QU),(41,QV),(42,QW),(43,QX),(44,QY),(45,QZ),(46,Q3),(49,Q4),(35,{par:=[.row],inn:=[],out:=[],dD:=[],frz:=[],sch:=[],shut:=[]}),(36,{par:=[.mv],inn:=[],out:=[],dD:=[],frz:=[],sch:=[],shut:=[]})]
noncomputable def ons:List (Nat×Bool):=[(3,true),(4,true),(5,true),(6,true),(7,true),(8,true),(9,true),(10,true),(11,true),(12,true),(13,true),(14,true),(15,true),(16,true),(17,true),(18,true),(19,true),(20,true),(21,true),(22,true),(23,true),(24,true),(25,true),(26,true),(27,true),(28,true),(29,true),(30,true),(31,true),(32,true),(33,true),(34,true),(37,true),(38,true),(40,true),(41,true),(42,true),(43,true),(44,true),(45,true),(46,true),(49,true)]
noncomputable def cfg:Cfg:=Ot ons fcs [(39,some (uZ 1 8)),(35,some zM),(36,some sO)] [(67,12)]
theorem c3:cfg.fc 3=fc3:=rfl
instance C3:Cf cfg 3 fc3:=⟨c3⟩
instance Z3:Zf cfg 3:=⟨rfl⟩
theorem z3:(cfg.fc 3).frz=[]:=rfl
theorem c4:cfg.fc 4=fc4:=rfl
instance C4:Cf cfg 4 fc4:=⟨c4⟩
instance Z4:Zf cfg 4:=⟨rfl⟩
theorem z4:(cfg.fc 4).frz=[]:=rfl
theorem c5:cfg.fc 5=fc5:=rfl
instance C5:Cf cfg 5 fc5:=⟨c5⟩
instance Z5:Zf cfg 5:=⟨rfl⟩
theorem c6:cfg.fc 6=fc6:=rfl
instance C6:Cf cfg 6 fc6:=⟨c6⟩
instance Z6:Zf cfg 6:=⟨rfl⟩
theorem c7:cfg.fc 7=fc7:=rfl
instance C7:Cf cfg 7 fc7:=⟨c7⟩
instance Z7:Zf cfg 7:=⟨rfl⟩
theorem c8:cfg.fc 8=fc8:=rfl
instance C8:Cf cfg 8 fc8:=⟨c8⟩
instance Z8:Zf cfg 8:=⟨rfl⟩
theorem c9:cfg.fc 9=fc9:=rfl
instance C9:Cf cfg 9 fc9:=⟨c9⟩
instance Z9:Zf cfg 9:=⟨rfl⟩
theorem c10:cfg.fc 10=Qp:=rfl
instance C10:Cf cfg 10 Qp:=⟨c10⟩
instance Z10:Zf cfg 10:=⟨rfl⟩
theorem z10:(cfg.fc 10).frz=[]:=rfl
theorem c11:cfg.fc 11=Qq:=rfl
instance C11:Cf cfg 11 Qq:=⟨c11⟩
instance Z11:Zf cfg 11:=⟨rfl⟩
theorem c12:cfg.fc 12=Qr:=rfl
instance C12:Cf cfg 12 Qr:=⟨c12⟩
theorem z12:(cfg.fc 12).frz=[4]:=rfl
theorem c13:cfg.fc 13=Qs:=rfl
instance C13:Cf cfg 13 Qs:=⟨c13⟩
instance Z13:Zf cfg 13:=⟨rfl⟩
theorem c14:cfg.fc 14=Qu:=rfl
instance C14:Cf cfg 14 Qu:=⟨c14⟩
instance Z14:Zf cfg 14:=⟨rfl⟩
theorem c15:cfg.fc 15=Qv:=rfl
instance C15:Cf cfg 15 Qv:=⟨c15⟩
instance Z15:Zf cfg 15:=⟨rfl⟩
theorem c16:cfg.fc 16=Qw:=rfl
instance C16:Cf cfg 16 Qw:=⟨c16⟩
instance Z16:Zf cfg 16:=⟨rfl⟩
theorem z16:(cfg.fc 16).frz=[]:=rfl
theorem c17:cfg.fc 17=Qx:=rfl
instance C17:Cf cfg 17 Qx:=⟨c17⟩
instance Z17:Zf cfg 17:=⟨rfl⟩
theorem z17:(cfg.fc 17).frz=[]:=rfl
theorem c18:cfg.fc 18=Qy:=rfl
instance C18:Cf cfg 18 Qy:=⟨c18⟩
instance Z18:Zf cfg 18:=⟨rfl⟩
theorem c19:cfg.fc 19=Qz:=rfl
instance C19:Cf cfg 19 Qz:=⟨c19⟩
theorem z19:(cfg.fc 19).frz=[2]:=rfl
theorem c20:cfg.fc 20=QA:=rfl
instance C20:Cf cfg 20 QA:=⟨c20⟩
instance Z20:Zf cfg 20:=⟨rfl⟩
theorem z20:(cfg.fc 20).frz=[]:=rfl
theorem c21:cfg.fc 21=QB:=rfl
instance C21:Cf cfg 21 QB:=⟨c21⟩
instance Z21:Zf cfg 21:=⟨rfl⟩
theorem c22:cfg.fc 22=QC:=rfl
instance C22:Cf cfg 22 QC:=⟨c22⟩
instance Z22:Zf cfg 22:=⟨rfl⟩
theorem z22:(cfg.fc 22).frz=[]:=rfl
theorem c23:cfg.fc 23=QD:=rfl
instance C23:Cf cfg 23 QD:=⟨c23⟩
instance Z23:Zf cfg 23:=⟨rfl⟩
theorem z23:(cfg.fc 23).frz=[]:=rfl
theorem c24:cfg.fc 24=QE:=rfl
instance C24:Cf cfg 24 QE:=⟨c24⟩
instance Z24:Zf cfg 24:=⟨rfl⟩
theorem z24:(cfg.fc 24).frz=[]:=rfl
theorem c25:cfg.fc 25=QF:=rfl
instance C25:Cf cfg 25 QF:=⟨c25⟩
instance Z25:Zf cfg 25:=⟨rfl⟩
theorem c26:cfg.fc 26=QG:=rfl
instance C26:Cf cfg 26 QG:=⟨c26⟩
instance Z26:Zf cfg 26:=⟨rfl⟩
theorem c27:cfg.fc 27=QH:=rfl
instance C27:Cf cfg 27 QH:=⟨c27⟩
instance Z27:Zf cfg 27:=⟨rfl⟩
theorem c28:cfg.fc 28=QI:=rfl
instance C28:Cf cfg 28 QI:=⟨c28⟩
instance Z28:Zf cfg 28:=⟨rfl⟩
theorem c29:cfg.fc 29=QJ:=rfl
instance C29:Cf cfg 29 QJ:=⟨c29⟩
instance Z29:Zf cfg 29:=⟨rfl⟩
theorem c30:cfg.fc 30=QK:=rfl
instance C30:Cf cfg 30 QK:=⟨c30⟩
instance Z30:Zf cfg 30:=⟨rfl⟩
theorem c31:cfg.fc 31=QL:=rfl
instance C31:Cf cfg 31 QL:=⟨c31⟩
instance Z31:Zf cfg 31:=⟨rfl⟩
theorem z31:(cfg.fc 31).frz=[]:=rfl
theorem c32:cfg.fc 32=QM:=rfl
instance C32:Cf cfg 32 QM:=⟨c32⟩
instance Z32:Zf cfg 32:=⟨rfl⟩
theorem c33:cfg.fc 33=QN:=rfl
instance C33:Cf cfg 33 QN:=⟨c33⟩
instance Z33:Zf cfg 33:=⟨rfl⟩
theorem c34:cfg.fc 34=QO:=rfl
instance C34:Cf cfg 34 QO:=⟨c34⟩
instance Z34:Zf cfg 34:=⟨rfl⟩
theorem c37:cfg.fc 37=QS:=rfl
instance C37:Cf cfg 37 QS:=⟨c37⟩
instance Z37:Zf cfg 37:=⟨rfl⟩
theorem c38:cfg.fc 38=QT:=rfl
instance C38:Cf cfg 38 QT:=⟨c38⟩
instance Z38:Zf cfg 38:=⟨rfl⟩
theorem z38:(cfg.fc 38).frz=[]:=rfl
theorem c40:cfg.fc 40=QU:=rfl
instance C40:Cf cfg 40 QU:=⟨c40⟩
instance Z40:Zf cfg 40:=⟨rfl⟩
theorem z40:(cfg.fc 40).frz=[]:=rfl
theorem c41:cfg.fc 41=QV:=rfl
instance C41:Cf cfg 41 QV:=⟨c41⟩
instance Z41:Zf cfg 41:=⟨rfl⟩
theorem z41:(cfg.fc 41).frz=[]:=rfl
theorem c42:cfg.fc 42=QW:=rfl
instance C42:Cf cfg 42 QW:=⟨c42⟩
instance Z42:Zf cfg 42:=⟨rfl⟩
theorem c43:cfg.fc 43=QX:=rfl
instance C43:Cf cfg 43 QX:=⟨c43⟩
instance Z43:Zf cfg 43:=⟨rfl⟩
theorem c44:cfg.fc 44=QY:=rfl
instance C44:Cf cfg 44 QY:=⟨c44⟩
instance Z44:Zf cfg 44:=⟨rfl⟩
theorem c45:cfg.fc 45=QZ:=rfl
instance C45:Cf cfg 45 QZ:=⟨c45⟩
instance Z45:Zf cfg 45:=⟨rfl⟩
theorem z45:(cfg.fc 45).frz=[]:=rfl
theorem c46:cfg.fc 46=Q3:=rfl
instance C46:Cf cfg 46 Q3:=⟨c46⟩
instance Z46:Zf cfg 46:=⟨rfl⟩
theorem c49:cfg.fc 49=Q4:=rfl
instance C49:Cf cfg 49 Q4:=⟨c49⟩
instance Z49:Zf cfg 49:=⟨rfl⟩
noncomputable abbrev Pg:=Try.prog
theorem Ep:Au Pg 26=some ([z0,z0,.nil],[(0,1),(1,1),(2,1)]):=kr
theorem WN:Au Pg 49=some ([.nil,z0],[(0,1),(1,1)]):=kr
theorem WO:Au Pg 53=some ([z0,z0,z0,z0],[(0,1),(1,1),(2,1),(3,1)]):=kr
theorem WQ:Au Pg 60=some ([.nil,z0,.im 0 (.sc (.int .u64 0))],[(0,1),(1,1),(2,1)]):=kr
theorem AP:rD Pg 24=some (2,1):=kr
theorem WR:rD Pg 46=some (24,1):=kr
theorem jR:uH Pg 26 0=some 0:=kr
theorem rG:uH Pg 26 1=some 1:=kr
theorem eP:uH Pg 26 2=some 2:=kr
theorem OD:uH Pg 49 0=some 0:=kr
theorem JF:uH Pg 49 1=some 1:=kr
theorem JG:uH Pg 60 0=some 0:=kr
theorem DX:uH Pg 60 1=some 1:=kr
theorem JH:uH Pg 60 2=some 2:=kr
theorem KG:bW Pg cfg 10 0 [26]=[(.cst false,[none,none,some 1])]:=kr
theorem Q5:bW Pg cfg 11 0 [26]=[(.cst false,[none,none,some 1])]:=kr
theorem Me:bW Pg cfg 12 0 [26,2]=[(.cst false,[none,none,some 1]),(.cst false,[none])]:=kr
theorem MB:bW Pg cfg 13 0 [24,2]=[(.cst false,[some 1]),(.cst false,[none])]:=kr
theorem Q7:bW Pg cfg 14 0 [22]=[(.cst false,[some 1])]:=kr
theorem Q8:bW Pg cfg 15 0 [38]=[(.ptr [.imm,.imm,.imm],[none])]:=kr
theorem GG:bW Pg cfg 16 0 [42]=[(.cut 3,[none])]:=kr
theorem BV:bW Pg cfg 17 0 [26]=[(.cst false,[none,none,some 1])]:=kr
theorem wE:bW Pg cfg 18 0 [2,2,2]=[(.cst false,[none]),(.cst false,[none]),(.cst false,[none])]:=kr
theorem KH:bW Pg cfg 19 0 [26]=[(.cst false,[none,none,some 1])]:=kr
theorem fF:bW Pg cfg 20 0 [45,24,2,2]=[(.ptr [.imm,.imm],[none]),(.mv,[some 1]),(.cst false,[none]),(.cst false,[none])]:=kr
theorem OE:bW Pg cfg 21 0 [2]=[(.cst false,[none])]:=kr
theorem BG:bW Pg cfg 22 0 [42,2,2]=[(.cut 3,[none]),(.cst false,[none]),(.cst false,[none])]:=kr
theorem AQ:bW Pg cfg 23 0 [26,2]=[(.cst false,[none,none,some 1]),(.cst false,[none])]:=kr
theorem uB:bW Pg cfg 24 0 [26,2,2]=[(.cst false,[none,none,some 1]),(.cst false,[none]),(.cst false,[none])]:=kr
theorem KI:bW Pg cfg 25 0 [42]=[(.cut 3,[none])]:=kr
theorem GH:bW Pg cfg 26 0 [26]=[(.cst false,[none,none,some 1])]:=kr
theorem vN:bW Pg cfg 27 0 [38,2]=[(.ptr [.imm,.imm,.imm],[none]),(.cst false,[none])]:=kr
theorem Fz:bW Pg cfg 28 0 [38,2]=[(.ptr [.imm,.imm,.imm],[none]),(.cst false,[none])]:=kr
theorem Q9:bW Pg cfg 29 0 [24]=[(.cst false,[some 1])]:=kr
theorem nU:bW Pg cfg 30 0 [2,2,2]=[(.cst false,[none]),(.cst false,[none]),(.cst false,[none])]:=kr
theorem MC:bW Pg cfg 31 0 [42,2]=[(.cut 3,[none]),(.cst false,[none])]:=kr
theorem Rf:bW Pg cfg 32 0 [24]=[(.cst false,[some 1])]:=kr
theorem KJ:bW Pg cfg 33 0 [24]=[(.cst false,[some 1])]:=kr
theorem MF:bW Pg cfg 34 0 [24,2]=[(.cst false,[some 1]),(.cst false,[none])]:=kr
theorem Rh:bW Pg cfg 36 0 [24]=[(.mv,[some 1])]:=kr
theorem JI:bW Pg cfg 37 0 [24,51]=[(.cst false,[some 1]),(.cst false,[none])]:=kr
theorem GI:bW Pg cfg 38 0 [2,0,0,0]=[(.cst false,[none]),(.cst false,[none]),(.cst false,[none]),(.cst false,[none])]:=kr
theorem zN:bW Pg cfg 39 0 [24]=[(.cst false,[some 1])]:=kr
theorem rq:bW Pg cfg 40 0 [42,2,2]=[(.cut 3,[none]),(.cst false,[none]),(.cst false,[none])]:=kr
theorem wF:bW Pg cfg 41 0 [2,2,0]=[(.cst false,[none]),(.cst false,[none]),(.cst false,[none])]:=kr
theorem zO:bW Pg cfg 42 0 [2,2]=[(.cst false,[none]),(.cst false,[none])]:=kr
theorem OG:bW Pg cfg 43 0 [2,2]=[(.cst false,[none]),(.cst false,[none])]:=kr
theorem AU:bW Pg cfg 44 0 [24,2]=[(.cst false,[some 1]),(.cst false,[none])]:=kr
theorem KL:bW Pg cfg 45 0 [38]=[(.ptr [.imm,.imm,.imm],[none])]:=kr
theorem MG:bW Pg cfg 46 0 [42,2]=[(.cut 3,[none]),(.cst false,[none])]:=kr
theorem JJ:bW Pg cfg 49 0 [24,51]=[(.cst false,[some 1]),(.cst false,[none])]:=kr
theorem MH:bW Pg cfg 4 0 [22,22]=[(.cst false,[some 1]),(.cst false,[some 1])]:=kr
theorem TT:bW Pg cfg 5 0 [22]=[(.cst false,[some 1])]:=kr
theorem OH:bW Pg cfg 6 0 [26,2]=[(.cst false,[none,none,some 1]),(.cst false,[none])]:=kr
theorem wG:bW Pg cfg 7 0 [26,2,2]=[(.cst false,[none,none,some 1]),(.cst false,[none]),(.cst false,[none])]:=kr
theorem tN:bW Pg cfg 8 0 [22,2,2]=[(.cst false,[some 1]),(.cst false,[none]),(.cst false,[none])]:=kr
theorem OI:bW Pg cfg 9 0 [26]=[(.cst false,[none,none,some 1])]:=kr
theorem Vb:gp Pg (Try.f10.results.toList.zip Try.f10.resultTypes.toList)=[(.tmp 2,[none],none),(.tmp 3,[none],none)]:=kr
theorem Vd:gp Pg (Try.f11.results.toList.zip Try.f11.resultTypes.toList)=[(.tmp 2,[none],none),(.tmp 3,[none],none)]:=kr
theorem TU:gp Pg (Try.f12.results.toList.zip Try.f12.resultTypes.toList)=[(.tmp 4,[some 1],none),(.tmp 5,[none],none)]:=kr
theorem Ve:gp Pg (Try.f13.results.toList.zip Try.f13.resultTypes.toList)=[(.tmp 4,[none],none)]:=kr
theorem WS:gp Pg (Try.f14.results.toList.zip Try.f14.resultTypes.toList)=[(.tmp 2,[none],none)]:=kr
theorem OJ:gp Pg (Try.f15.results.toList.zip Try.f15.resultTypes.toList)=[(.cell 2 26,[none,none,some 1],some (true,3))]:=kr
theorem TV:gp Pg (Try.f16.results.toList.zip Try.f16.resultTypes.toList)=[(.tmp 2,[none],none)]:=kr
theorem OL:gp Pg (Try.f17.results.toList.zip Try.f17.resultTypes.toList)=[(.tmp 2,[none],none)]:=kr
theorem WT:gp Pg (Try.f18.results.toList.zip Try.f18.resultTypes.toList)=[(.tmp 6,[none],none)]:=kr
theorem WU:gp Pg (Try.f19.results.toList.zip Try.f19.resultTypes.toList)=[(.tmp 2,[some 1],none)]:=kr
theorem Ri:gp Pg (Try.f20.results.toList.zip Try.f20.resultTypes.toList)=[(.tmp 8,[some 1],none),(.tmp 9,[none],none)]:=kr
theorem WV:gp Pg (Try.f21.results.toList.zip Try.f21.resultTypes.toList)=[(.tmp 2,[none],none)]:=kr
theorem WW:gp Pg (Try.f22.results.toList.zip Try.f22.resultTypes.toList)=[(.cell 6 26,[none,none,some 1],some (true,3))]:=kr
theorem WX:gp Pg (Try.f23.results.toList.zip Try.f23.resultTypes.toList)=[(.cell 4 53,[none,none,none,none],some (true,4))]:=kr
theorem WY:gp Pg (Try.f24.results.toList.zip Try.f24.resultTypes.toList)=[(.tmp 6,[none],none)]:=kr
theorem TW:gp Pg (Try.f25.results.toList.zip Try.f25.resultTypes.toList)=[(.tmp 2,[none],none)]:=kr
theorem WZ:gp Pg (Try.f26.results.toList.zip Try.f26.resultTypes.toList)=[(.tmp 2,[none],none)]:=kr
theorem Vf:gp Pg (Try.f27.results.toList.zip Try.f27.resultTypes.toList)=[(.tmp 4,[none],none)]:=kr
theorem W9:gp Pg (Try.f28.results.toList.zip Try.f28.resultTypes.toList)=[(.tmp 4,[none],none)]:=kr
theorem Xa:gp Pg (Try.f29.results.toList.zip Try.f29.resultTypes.toList)=[(.tmp 2,[some 1],none)]:=kr
theorem rF3:gp Pg (Try.f3.results.toList.zip Try.f3.resultTypes.toList)=[(.tmp 4,[none],none)]:=kr
theorem Xb:gp Pg (Try.f30.results.toList.zip Try.f30.resultTypes.toList)=[(.tmp 6,[none],none)]:=kr
theorem Xc:gp Pg (Try.f31.results.toList.zip Try.f31.resultTypes.toList)=[(.tmp 4,[none],none)]:=kr
theorem Xd:gp Pg (Try.f32.results.toList.zip Try.f32.resultTypes.toList)=[(.tmp 2,[none],none)]:=kr
theorem Xe:gp Pg (Try.f33.results.toList.zip Try.f33.resultTypes.toList)=[(.tmp 2,[none],none)]:=kr
theorem Vg:gp Pg (Try.f34.results.toList.zip Try.f34.resultTypes.toList)=[(.tmp 4,[none],none)]:=kr
theorem Xf:gp Pg (Try.f37.results.toList.zip Try.f37.resultTypes.toList)=[(.tmp 4,[none],none)]:=kr
theorem Xg:gp Pg (Try.f38.results.toList.zip Try.f38.resultTypes.toList)=[(.tmp 5,[none],none)]:=kr
theorem Xh:gp Pg (Try.f39.results.toList.zip Try.f39.resultTypes.toList)=[(.tmp 2,[some 1],none)]:=kr
theorem rF4:gp Pg (Try.f4.results.toList.zip Try.f4.resultTypes.toList)=[(.tmp 4,[none],none)]:=kr
theorem Xi:gp Pg (Try.f40.results.toList.zip Try.f40.resultTypes.toList)=[(.tmp 6,[none],none)]:=kr
theorem Xj:gp Pg (Try.f41.results.toList.zip Try.f41.resultTypes.toList)=[(.tmp 5,[none],none)]:=kr
theorem Xk:gp Pg (Try.f42.results.toList.zip Try.f42.resultTypes.toList)=[(.tmp 4,[none],none)]:=kr
theorem Vh:gp Pg (Try.f43.results.toList.zip Try.f43.resultTypes.toList)=[(.tmp 4,[none],none)]:=kr
theorem Vj:gp Pg (Try.f44.results.toList.zip Try.f44.resultTypes.toList)=[(.tmp 4,[none],none)]:=kr
theorem Vk:gp Pg (Try.f45.results.toList.zip Try.f45.resultTypes.toList)=[(.tmp 2,[none],none)]:=kr
theorem Xl:gp Pg (Try.f46.results.toList.zip Try.f46.resultTypes.toList)=[(.tmp 4,[some 1],none)]:=kr
theorem Vl:gp Pg (Try.f49.results.toList.zip Try.f49.resultTypes.toList)=[(.tmp 4,[none],none)]:=kr
theorem rF5:gp Pg (Try.f5.results.toList.zip Try.f5.resultTypes.toList)=[(.cell 2 26,[none,none,some 1],some (true,3))]:=kr
theorem rF6:gp Pg (Try.f6.results.toList.zip Try.f6.resultTypes.toList)=[(.tmp 4,[some 1],none),(.tmp 5,[none],none),(.tmp 6,[none],none)]:=kr
theorem rF7:gp Pg (Try.f7.results.toList.zip Try.f7.resultTypes.toList)=[(.cell 6 26,[none,none,some 1],some (true,3)),(.tmp 7,[none],none)]:=kr
theorem rF8:gp Pg (Try.f8.results.toList.zip Try.f8.resultTypes.toList)=[(.tmp 6,[none],none)]:=kr
theorem rF9:gp Pg (Try.f9.results.toList.zip Try.f9.resultTypes.toList)=[(.tmp 2,[none],none),(.tmp 3,[none],none)]:=kr
theorem Vm:jE Pg 22=some (5,1,[none],false,1,[.im 0 (.sc (.int .u8 0))]):=kr
theorem cu:jE Pg 24=some (2,1,[none],false,8,[z0]):=kr
theorem II:jE Pg 46=some (24,1,[some 1],false,24,[.nil]):=kr
theorem Rj:jE Pg 66=some (4,1,[none],false,1,[.im 0 (.sc (.bool false))]):=kr
theorem tF2:tyF Pg 2=some ([z0],[none],false,1):=kr
theorem TY:tyF Pg 22=some ([.nil],[some 1],false,1):=kr
theorem jG:tyF Pg 24=some ([.nil],[some 1],false,1):=kr
theorem dS:tyF Pg 26=some ([z0,z0,.nil],[none,none,some 1],true,3):=kr
theorem tF3:tyF Pg 3=some ([z0],[none],false,1):=kr
theorem tF4:tyF Pg 4=some ([.im 0 (.sc (.bool false))],[none],false,1):=kr
theorem Vo:tyF Pg 46=some ([.nil],[some 1],false,1):=kr
theorem Xm:tyF Pg 49=some ([.nil,z0],[some 1,none],true,2):=kr
theorem tF5:tyF Pg 5=some ([.im 0 (.sc (.int .u8 0))],[none],false,1):=kr
theorem Rk:tyF Pg 53=some ([z0,z0,z0,z0],[none,none,none,none],true,4):=kr
theorem TZ:tyF Pg 58=some ([.im 0 (.sc (.int .u64 0))],[none],false,1):=kr
theorem Xn:tyF Pg 60=some ([.nil,z0,.im 0 (.sc (.int .u64 0))],[some 1,none,none],true,3):=kr
theorem uF2:Pg.underlying 2=some (.int .i64):=kr
theorem OO:Pg.underlying 22=some (.slice 5):=kr
theorem jH:Pg.underlying 24=some (.slice 2):=kr
theorem uF3:Pg.underlying 3=some (.int .i64):=kr
theorem uF4:Pg.underlying 4=some .bool:=kr
theorem Vp:Pg.underlying 46=some (.slice 24):=kr
theorem uF5:Pg.underlying 5=some (.int .u8):=kr
theorem Rl:Pg.underlying 53=some (.array 4 2):=kr
theorem Vq:Pg.underlying 58=some (.int .u64):=kr
theorem zF2:(Pg.info? 2).map (·.size)=some 1:=kr
abbrev FX (i:Nat) (a:List Arg) (r:Res×List Out):Prop:=FL Try.prog cfg i a=some r
theorem Es {dB:(List Int)} {mQ:(List Int)} {r:Bool} (h:uw dB mQ=some r):FX 4 [.im 2 false [W 1 (eK .u8) dB],.im 2 false [W 1 (eK .u8) mQ]] (B0 [(false,[.im 0 (V r)])]):=by
 unfold uw at h
 refine gn 13 Try.func4 rfl ?_
 refine gs<|g0 j j (q (ai j j)<|nl)<|us<|gs<|gX c4 j j j (mk [(4,bv ((decide ((dB.length:Int) >1048576))||(decide ((mQ.length:Int) >1048576))))] []) ?_ ?_
 ·refine xq (oMv j j)<|xq (rE j j OO j)<|xq (oBi j j j j)<|xq (oMv j j)<|?_
  by_cases hc1:(dB.length:Int) >1048576
  ·exact aC rfl rfl (aj.2 hc1) rfl<|aC rfl rfl (aj.2 hc1) rfl<|aC rfl rfl (aj.2 hc1) rfl<|xq (dZ rfl rfl (aj.2 hc1) rfl)<|xq (ai rfl rfl)<|xn (Eq.trans (b:=(fun yX:Bool=>mk [(4,bv yX)] []) true) (by kernel_rfl) (congrArg (fun yX:Bool=>mk [(4,bv yX)] []) (by first | rfl | (simp [(aj.2 hc1)];done) | (simp [(aj.2 hc1)];omega))))
  ·exact xqT rfl rfl (byF aj hc1) (oMv rfl rfl)<|xqT rfl rfl (byF aj hc1) (rE rfl rfl OO rfl)<|xqT rfl rfl (byF aj hc1) (oBi rfl rfl rfl rfl)<|xq (kM rfl rfl (byF aj hc1) rfl)<|xq (ai rfl rfl)<|xn (Eq.trans (b:=(fun yX:Bool=>mk [(4,bv yX)] []) (decide ((mQ.length:Int) >1048576))) (by kernel_rfl) (congrArg (fun yX:Bool=>mk [(4,bv yX)] []) (by first | rfl | (simp [(byF aj hc1)];done) | (simp [(byF aj hc1)];omega))))
 ·refine us<|Go.ret (Unw.ret ?_)
  cases h
  exact fr rF4 j
theorem DY {dB:(List Int)} {r:aP} (h:oI dB=some r):FX 14 [.im 2 false [W 1 (eK .u8) dB]] (B0 [(false,[.pt true [⟨.imm,2,W 1 (eK .u8) r.code⟩,⟨.imm,0,I r.at_⟩,⟨.imm,0,.sc (.int .u64 r.seed)⟩]])]):=by
 unfold oI at h
 refine gn 6 Try.func14 rfl ?_
 refine gs<|g0 j j (q (ai j j)<|nl)<|us<|gs<|g0 j j (q (oMv j j)<|q (oBu (cs:=[.im 2 _,.im 0 _,.im 0 _]) j WQ j)<|q (oBx j Xn j (tkI (tkI (tkI tk0))))<|q (TJ j j)<|nl)<|us<|Go.ret (Unw.ret ?_)
 cases h
 exact fr WS j
theorem tV {s_0:aP} {r:(Int×aP)} (h:iW s_0=some r):FX 45 [.ptr true [(.imm,W 1 (eK .u8) s_0.code),(.imm,I s_0.at_),(.imm,.sc (.int .u64 s_0.seed))]] ([(false,[.im 0 (I r.1)])],[.ptr true [(.imm,W 1 (eK .u8) r.2.code),(.imm,I r.2.at_),(.imm,.sc (.int .u64 r.2.seed))]]):=by
 unfold iW at h
 refine Aw (A:=[(0,M 0)]) (B:=[(0,Od (G 1 (iK s_0)))]) (nt:=62) rfl rfl Try.func45 rfl rfl rfl rfl ?_
 refine gs<|g0 j j (q (ai j j)<|nl)<|us<|gs<|g0 j j (q (ai j j)<|nl)<|us<|gs<|gs<|gd c45 j j j j (mk [(0,M 0),(3,iv 0),(13,bv (decide (s_0.at_< (s_0.code.length:Int))))] [(0,Od (G 1 (iK s_0)))]) (t j j (oMv j j)<|t j j (oNl j j j)<|t j j (oFA (r':=.mp 0 0 1) j DX j j)<|t j j (oLd (cs:=[.im 0 _]) j tF3 j j)<|t j j (oMv j j)<|t j j (oNl j j j)<|t j j (oFA (r':=.mp 0 0 0) j JG j j)<|t j j (oLd (cs:=[.im 1 _]) j TY j j)<|t j j (rE j j OO j)<|t j j (oBi j j j j)<|sD (by kernel_rfl))<|us<|Go.join (fun st=>∃pG,fG s_0 pG=some r∧st.norm ([0,3],[0])=mk [(0,M 0),(3,iv pG)] [(0,Od (G 1 (iK s_0)))]) ?_ ?_
 ·rintro st ⟨pG,h,hst⟩
  unfold fG at h
  refine us<|gs<|g2 c45 j j hst (q (oMv j j)<|q (oNl j j j)<|q (oFA (r':=.mp 0 0 1) j DX j j)<|q (oLd (cs:=[.im 0 _]) j tF3 j j)<|q (oBi j j j j)<|q (oNl j j j)<|q (oFA (r':=.mp 0 0 1) j DX j j)<|q (oSt tF3 j j j (tkI tk0) j j j)<|nl)<|us<|gs<|g1 j j (mk [(0,M 0),(3,iv pG)] [(0,Od [Ct 1 (W 1 (eK .u8) s_0.code),C (I (w64 (s_0.at_+1))),C (.sc (.int .u64 s_0.seed))])]) (q (oMv j j)<|q (oMv j j)<|q (oNl j j j)<|q (oFA (r':=.mp 0 0 2) j JH j j)<|q (oLd (cs:=[.im 0 _]) j TZ j j)<|q (oBi j j j j)<|q (oMv j j)<|q (Qj j uF3 Vq j)<|q (oBi j j j j)<|q (oBi j j j j)<|q (oNl j j j)<|q (oFA (r':=.mp 0 0 2) j JH j j)<|q (oSt TZ j j j (tkI tk0) j j j)<|nl)<|us<|gs<|gs<|gd c45 j j j (st1:=mk [(0,M 0),(3,iv pG)] [(0,Od [Ct 1 (W 1 (eK .u8) s_0.code),C (I (w64 (s_0.at_+1))),C (.sc (.int .u64 (IntKind.wrap .u64 ((IntKind.wrap .u64 ((IntKind.wrap .u64 (s_0.seed*6364136223846793005))+(IntKind.wrap .u64 (pG))))+1442695040888963407))))])]) (by kernel_rfl) (mk [(0,M 0),(3,iv pG),(53,bv (decide ((w64 (s_0.at_+1))≤(s_0.code.length:Int))))] [(0,Od [Ct 1 (W 1 (eK .u8) s_0.code),C (I (w64 (s_0.at_+1))),C (.sc (.int .u64 (IntKind.wrap .u64 ((IntKind.wrap .u64 ((IntKind.wrap .u64 (s_0.seed*6364136223846793005))+(IntKind.wrap .u64 (pG))))+1442695040888963407))))])]) (t j j (oMv j j)<|t j j (oNl j j j)<|t j j (oFA (r':=.mp 0 0 1) j DX j j)<|t j j (oLd (cs:=[.im 0 _]) j tF3 j j)<|t j j (oMv j j)<|t j j (oNl j j j)<|t j j (oFA (r':=.mp 0 0 0) j JG j j)<|t j j (oLd (cs:=[.im 1 _]) j TY j j)<|t j j (rE j j OO j)<|t j j (oBi j j j j)<|sD (by kernel_rfl))<|us<|gc h j aj (fun hc2 h=>?_) fun hc2 h=>?_
  ·refine gs<|g0 j j (q (oMv j j)<|q (ai j j)<|nl)<|us<|Go.ret (Unw.ret ?_)
   cases h
   exact fr Vk j
  ·refine Go.skip<|us<|gs<|?_
   obtain ⟨x59,Xo,h⟩:=bs h
   refine g0 j j (q (oMv j j)<|q (oNl j j j)<|q (oFA (r':=.mp 0 0 2) j JH j j)<|q (oLd (cs:=[.im 0 _]) j TZ j j)<|q (Wu j Xo j j)<|q (oBi j j j j)<|q (Qj j Vq uF2 j)<|q (ai j j)<|nl)<|us<|Go.ret (Unw.ret ?_)
   cases h
   exact fr Vk j
 ·intro K3
  refine gc h j aj (fun hc4 h=>?_) fun hc4 h=>?_
  ·obtain ⟨x22,JK,h⟩:=bs h
   exact gd c45 j j j j (mk [(0,M 0),(3,iv (w64 (x22)))] [(0,Od (G 1 (iK s_0)))]) (t j j (oMv j j)<|t j j (oNl j j j)<|t j j (oFA (r':=.mp 0 0 0) j JG j j)<|t j j (oLd (cs:=[.im 1 _]) j TY j j)<|t j j (oMv j j)<|t j j (oNl j j j)<|t j j (oFA (r':=.mp 0 0 1) j DX j j)<|t j j (oLd (cs:=[.im 0 _]) j tF3 j j)<|t j j (mZ j JK Vm j j)<|t j j (oLd (cs:=[.im 1 _]) j tF5 j j)<|sS (dN z45 j (Qj j uF5 uF3 j)) trivial (sS (dN z45 j (ai j j)) trivial (sD (by kernel_rfl))))<|K3 _ ⟨(w64 (x22)),h,(by kernel_rfl)⟩
  ·exact Go.skip<|K3 _ ⟨0,h,(by kernel_rfl)⟩
theorem jo {s_0:aP} {n_1:Int} {r:(Int×aP)} (h:dn s_0 n_1=some r):FX 27 [.ptr true [(.imm,W 1 (eK .u8) s_0.code),(.imm,I s_0.at_),(.imm,.sc (.int .u64 s_0.seed))],.im 2 false [I n_1]] ([(false,[.im 0 (I r.1)])],[.ptr true [(.imm,W 1 (eK .u8) r.2.code),(.imm,I r.2.at_),(.imm,.sc (.int .u64 r.2.seed))]]):=by
 unfold dn at h
 refine Aw (A:=[(0,M 0),(1,D 2 (I n_1))]) (B:=[(0,Od (G 1 (iK s_0))),(1,none)]) (nt:=20) rfl rfl Try.func27 rfl rfl rfl rfl ?_
 refine gs<|g0 j j (q (ai j j)<|nl)<|us<|gs<|gs<|g0 j j (q (oMv j j)<|q (oBi j j j j)<|nl)<|us<|gc h j aj (fun hc1 h=>?_) fun hc1 h=>?_
 ·refine gs<|g0 j j (q (ai j j)<|nl)<|us<|Go.ret (Unw.ret ?_)
  cases h
  exact fr Vf j
 ·refine Go.skip<|us<|gs<|?_
  obtain ⟨x9,hx9,h⟩:=bs h
  refine g0 j j (q (oMv j j)<|q (oCa (xs:=[.v false [.mp 0 0 0]]) (vs:=[(false,[.im 0 _])]) (v:=.v false [.im 0 _]) (tV hx9) (.inl j) j KL j (ppP j j j pp0) j j (pbP j j pb0) j j j)<|q (ai j j)<|nl)<|us<|gs<|gs<|g1 j j (mk [(0,M 0),(1,iv n_1),(5,iv x9.1)] [(0,Od (G 1 (iK x9.2)))]) (q (oMv j j)<|q (oBi j j j j)<|nl)<|us<|Go.join (fun st=>∃DR,∃vg,∃vk,∃vw,fH n_1 DR vg vk vw=some r∧st.norm ([1,5],[0])=mk [(1,iv n_1),(5,iv DR)] [(0,Od [Ct 1 (W 1 (eK .u8) vg),C (I vk),C (.sc (.int .u64 vw))])]) ?_ ?_
  ·rintro st ⟨DR,vg,vk,vw,h,hst⟩
   unfold fH at h
   refine us<|gs<|?_
   obtain ⟨x19,JL,h⟩:=bs h
   refine g2 c27 j j hst (q (oMv j j)<|q (oMv j j)<|q (BJ j JL j j)<|q (ai j j)<|nl)<|us<|Go.ret (Unw.ret ?_)
   cases h
   exact fr Vf j
  ·intro K3
   refine gc h j aj (fun hc4 h=>?_) fun hc4 h=>?_
   ·obtain ⟨x15,OQ,h⟩:=bs h
    exact g0 j j (q (oMv j j)<|q (oBi j j j j)<|q (oMv j j)<|q (oCa (xs:=[.v false [.mp 0 0 0]]) (vs:=[(false,[.im 0 _])]) (v:=.v false [.im 0 _]) (tV OQ) (.inl j) j KL j (ppP j j j pp0) j j (pbP j j pb0) j j j)<|q (oBi j j j j)<|q (ai j j)<|nl)<|K3 _ ⟨(w64 ((w64 (x9.1*256))+x15.1)),x15.2.code,x15.2.at_,x15.2.seed,h,(by kernel_rfl)⟩
   ·exact Go.skip<|K3 _ ⟨x9.1,x9.2.code,x9.2.at_,x9.2.seed,h,(by kernel_rfl)⟩
theorem uC {s_0:aP} {n_1:Int} {r:(Bool×aP)} (h:iH s_0 n_1=some r):FX 28 [.ptr true [(.imm,W 1 (eK .u8) s_0.code),(.imm,I s_0.at_),(.imm,.sc (.int .u64 s_0.seed))],.im 2 false [I n_1]] ([(false,[.im 0 (V r.1)])],[.ptr true [(.imm,W 1 (eK .u8) r.2.code),(.imm,I r.2.at_),(.imm,.sc (.int .u64 r.2.seed))]]):=by
 unfold iH at h
 refine Aw (A:=[(0,M 0),(1,D 2 (I n_1))]) (B:=[(0,Od (G 1 (iK s_0))),(1,none)]) (nt:=9) rfl rfl Try.func28 rfl rfl rfl rfl ?_
 refine gs<|g0 j j (q (ai j j)<|nl)<|us<|gs<|?_
 obtain ⟨x7,hx7,h⟩:=bs h
 refine g0 j j (q (oMv j j)<|q (oMv j j)<|q (oCa (xs:=[.v false [.mp 0 0 0],.v false [.im 2 _]]) (vs:=[(false,[.im 0 _])]) (v:=.v false [.im 0 _]) (jo hx7) (.inl j) j vN j (ppP j j j (ppC j pp0)) j j (pbP j j pb0) j j j)<|q (oBi j j j j)<|q (ai j j)<|nl)<|us<|Go.ret (Unw.ret ?_)
 cases h
 exact fr W9 j
theorem uJ {jZ:(List Int)} {n_1:Int} {r:Bool} (h:lF jZ n_1=some r):FX 44 [.im 2 false [W 1 eI jZ],.im 2 false [I n_1]] (B0 [(false,[.im 0 (V r)])]):=by
 unfold lF at h
 refine gn 18 Try.func44 rfl ?_
 refine gs<|g0 j j (q (ai j j)<|nl)<|us<|gs<|gs<|g0 j j (q (ai j j)<|nl)<|us<|Go.block<|?_
 obtain ⟨o,hl,h⟩:=bs h
 refine gl c44 j _ (fun (pI:Int)=>mk [(0,D 2 (W 1 eI jZ)),(1,iv n_1),(5,iv pI)] []) (fun (o:(Unit ⊕ Bool)) (p:Ex×St)=>match o with | (.inl _)=>p.1= .exit 0∧p.2.norm ([],[])=mk [] [] | (.inr r2)=>p.1= .ret∧fin Try.prog cfg 44 Try.f44 [.im 2 false [W 1 eI jZ],.im 2 false [I n_1]] p.2=some (B0 [(false,[.im 0 (V r2)])])) hl (by kernel_rfl) ?_ ?_ ?_
 ·intro o p hp e
  rcases o with u | r2<;>exact nomatch (hp.1.symm.trans e)
 ·rintro pI o h
  unfold lD at h
  refine gs<|gs<|g0 j j (q (oMv j j)<|q (oMv j j)<|q (rE j j jH j)<|q (oBi j j j j)<|nl)<|us<|gc h j aj (fun hc5 h=>?_) fun hc5 h=>?_
  ·refine Go.skip<|us<|gs<|Go.block<|gs<|?_
   obtain ⟨x14,JM,h⟩:=bs h
   refine g0 j j (q (oMv j j)<|q (oMv j j)<|q (mZ j JM cu j j)<|q (oLd (cs:=[.im 2 _]) j tF2 j j)<|q (oMv j j)<|q (oBi j j j j)<|nl)<|us<|gc h j iEq (fun hc6 h=>?_) fun hc6 h=>?_
   ·refine gs<|g0 j j (q (ai j j)<|nl)<|us<|Go.ret (Unw.ret ?_)
    cases h
    exact ⟨j,(fo Vj j)⟩
   ·refine Go.skip<|Unw.blk<|us<|g0 j j (q (oMv j j)<|q (oBi j j j j)<|q (ai j j)<|nl)<|Unw.nil<|?_
    cases h
    exact ⟨j,(by kernel_rfl)⟩
  ·refine Go.exit<|ux<|Unw.nil<|?_
   cases h
   exact ⟨j,(by kernel_rfl)⟩
 ·rintro ⟨e,st⟩ hp
  rcases o with u | r2
  ·dsimp only at h
   obtain ⟨he,hst⟩:=hp
   obtain rfl:e= .exit 0:=he
   refine Unw.nN<|us<|gs<|g2 c44 j j hst (q (ai j j)<|nl)<|us<|Go.ret (Unw.ret ?_)
   cases h
   exact fr Vj j
  ·dsimp only at h
   obtain ⟨he,hfin⟩:=hp
   obtain rfl:e= .ret:=he
   cases h
   exact Unw.ret (nH hfin)
theorem AX {gJ:(List Int)} {r:(List Int)} (h:lG gJ=some r):FX 29 [.im 2 false [W 1 eI gJ]] (B0 [(false,[.ow 0 1 (List.map eI r)])]):=by
 unfold lG at h
 refine gn 49 Try.func29 rfl ?_
 refine gs<|g0 j j (q (yP j j AP)<|nl)<|us<|gs<|g0 j j (q (oBS (es:=List.map eI ([]:List Int)) j cu j pt0 (fC j fun _=>j))<|q (qO j j j j j)<|nl)<|us<|gs<|g0 j j (q (oBS (es:=List.map eI ([]:List Int)) j cu j pt0 (fC j fun _=>j))<|q (qO j j j j j)<|nl)<|us<|gs<|gs<|g0 j j (q (ai j j)<|nl)<|us<|Go.block<|?_
 obtain ⟨o,hl,h⟩:=bs h
 refine gl c29 j _ (fun (s:(Int×(List Int)×(List Int)))=>match s with | (kz,nR,kT)=>mk [(0,D 2 (W 1 eI gJ)),(3,H 3 0),(4,H 4 0),(5,iv kz)] [(3,Oc [Z (W 1 eI nR)]),(4,Oc [Z (W 1 eI kT)])]) (fun (uz:(List Int)) (p:Ex×St)=>p.1= .exit 0∧p.2.norm ([4],[4])=mk [(4,H 4 0)] [(4,Oc [Z (W 1 eI uz)])]) hl (by kernel_rfl) ?_ ?_ ?_
 ·intro o p hp e
  exact nomatch (hp.1.symm.trans e)
 ·rintro ⟨kz,nR,kT⟩ o h
  unfold oJ at h
  dsimp only at h
  refine gs<|gs<|g0 j j (q (oMv j j)<|q (oMv j j)<|q (rE j j jH j)<|q (oBi j j j j)<|nl)<|us<|gc h j aj (fun hc13 h=>?_) fun hc13 h=>?_
  ·refine Go.skip<|us<|gs<|Go.block<|gs<|gs<|?_
   obtain ⟨x18,OT,h⟩:=bs h
   obtain ⟨x20,JO,h⟩:=bs h
   refine g0 j j (q (oMv j j)<|q (oMv j j)<|q (oMv j j)<|q (mZ j OT cu j j)<|q (oLd (cs:=[.im 2 _]) j tF2 j j)<|q (oCa (xs:=[.v false [.own 3 0 0],.v false [.im 2 _]]) (vs:=[(false,[.im 0 _])]) (v:=.v false [.im 0 _]) (uJ JO) (.inl j) j AU j (ppC j (ppC j pp0)) j j pb0 j j j)<|q (oUn j j j)<|nl)<|us<|Go.join (fun st=>∃gz,iD gJ kz kT gz=some o∧st.norm ([0,3,4,5],[3,4])=mk [(0,D 2 (W 1 eI gJ)),(3,H 3 0),(4,H 4 0),(5,iv kz)] [(3,Oc [Z (W 1 eI gz)]),(4,Oc [Z (W 1 eI kT)])]) ?_ ?_
   ·rintro st ⟨gz,h,hst⟩
    unfold iD at h
    refine us<|gs<|g2 c29 j j hst (q (ai j j)<|nl)<|us<|Go.block<|?_
    obtain ⟨o,hl,h⟩:=bs h
    refine gl c29 j _ (fun (s:(Int×(List Int)))=>match s with | (nP,oq)=>mk [(0,D 2 (W 1 eI gJ)),(3,H 3 0),(4,H 4 0),(5,iv kz),(6,iv nP)] [(3,Oc [Z (W 1 eI gz)]),(4,Oc [Z (W 1 eI oq)])]) (fun (uy:(List Int)) (p:Ex×St)=>p.1= .exit 2∧p.2.norm ([0,3,4,5],[3,4])=mk [(0,D 2 (W 1 eI gJ)),(3,H 3 0),(4,H 4 0),(5,iv kz)] [(3,Oc [Z (W 1 eI gz)]),(4,Oc [Z (W 1 eI uy)])]) hl (by kernel_rfl) ?_ ?_ ?_
    ·intro o p hp e
     exact nomatch (hp.1.symm.trans e)
    ·rintro ⟨nP,oq⟩ o h
     unfold kZ at h
     dsimp only at h
     refine gs<|gs<|g0 j j (q (oMv j j)<|q (oMv j j)<|q (Gn j j jH j j j (fun e=>nomatch e))<|q (oBi j j j j)<|nl)<|us<|gc h j aj (fun hc19 h=>?_) fun hc19 h=>?_
     ·refine Go.skip<|us<|gs<|Go.join (fun st=>∃sQ,jf nP sQ=some o∧st.norm ([0,3,4,5,6],[3,4])=mk [(0,D 2 (W 1 eI gJ)),(3,H 3 0),(4,H 4 0),(5,iv kz),(6,iv nP)] [(3,Oc [Z (W 1 eI gz)]),(4,Oc [Z (W 1 eI sQ)])]) ?_ ?_
      ·rintro st ⟨sQ,h,hst⟩
       unfold jf at h
       refine us<|g2 c29 j j hst (q (oMv j j)<|q (oBi j j j j)<|q (ai j j)<|nl)<|Unw.nil<|?_
       cases h
       exact ⟨j,(by kernel_rfl)⟩
      ·intro K21
       refine Go.block<|gs<|?_
       obtain ⟨x37,Et,h⟩:=bs h
       obtain ⟨x41,OU,h⟩:=bs h
       refine gd c29 j j j j (mk [(0,D 2 (W 1 eI gJ)),(3,H 3 0),(4,H 4 0),(5,iv kz),(6,iv nP),(43,bv (x37==x41))] [(3,Oc [Z (W 1 eI gz)]),(4,Oc [Z (W 1 eI oq)])]) (t j j (oMv j j)<|t j j (oMv j j)<|t j j (yj j Et cu j j j j)<|t j j (zJ (cs:=[.im 0 _]) j tF2 j j j j (iQ Et) j j)<|t j j (oMv j j)<|t j j (oMv j j)<|t j j (mZ j OU cu j j)<|t j j (oLd (cs:=[.im 2 _]) j tF2 j j)<|t j j (oBi j j j j)<|sD (by kernel_rfl))<|us<|gc h j iEq (fun hc22 h=>?_) fun hc22 h=>?_
       ·obtain ⟨x47,Ua,h⟩:=bs h
        exact g0 j j (q (oMv j j)<|q (oMv j j)<|q (oBS (es:=List.map eI ([nP]:List Int)) j cu j (ptC j (fxI fx0) j pt0) (fC j fun _=>j))<|q (yQ (en:=eI) (M:=([nP]:List Int)) j Ua j cu j j jH (.inl ⟨_,j⟩) j j j j (nO j j) (fC j fun _=>j))<|q (qO j j j j j)<|nl)<|Unw.blk<|K21 _ ⟨x47,h,(by kernel_rfl)⟩
       ·exact Go.skip<|Unw.blk<|K21 _ ⟨oq,h,(by kernel_rfl)⟩
     ·refine Go.exit<|ux<|Unw.nil<|?_
      cases h
      exact ⟨j,(by kernel_rfl)⟩
    ·rintro ⟨e,st⟩ hp
     obtain ⟨uy,rfl⟩:∃y,y=o:=⟨o,rfl⟩
     obtain ⟨he,hst⟩:=hp
     obtain rfl:e= .exit 2:=he
     refine Unw.nN<|Unw.blk<|us<|g2 c29 j j hst (q (oMv j j)<|q (oBi j j j j)<|q (ai j j)<|nl)<|Unw.nil<|?_
     cases h
     exact ⟨j,(by kernel_rfl)⟩
   ·intro K23
    by_cases hc24:x20=true
    ·rw [if_pos hc24] at h
     exact gF j (nF (iR.2 hc24))<|Go.skip<|K23 _ ⟨nR,h,(by kernel_rfl)⟩
    ·rw [if_neg hc24] at h
     refine gT j (nT (byF iR hc24))<|?_
     obtain ⟨x25,hx25,h⟩:=bs h
     obtain ⟨x28,hx28,h⟩:=bs h
     exact g0 j j (q (oMv j j)<|q (oMv j j)<|q (oMv j j)<|q (mZ j hx25 cu j j)<|q (oLd (cs:=[.im 2 _]) j tF2 j j)<|q (oBS (es:=List.map eI ([x25]:List Int)) j cu j (ptC j (fxI fx0) j pt0) (fC j fun _=>j))<|q (yQ (en:=eI) (M:=([x25]:List Int)) j hx28 j cu j j jH (.inl ⟨_,j⟩) j j j j (nO j j) (fC j fun _=>j))<|q (qO j j j j j)<|nl)<|K23 _ ⟨x28,h,(by kernel_rfl)⟩
  ·refine Go.exit<|ux<|Unw.nil<|?_
   cases h
   exact ⟨j,(by kernel_rfl)⟩
 ·rintro ⟨e,st⟩ hp
  obtain ⟨uz,rfl⟩:∃y,y=o:=⟨o,rfl⟩
  obtain ⟨he,hst⟩:=hp
  obtain rfl:e= .exit 0:=he
  refine Unw.nN<|us<|gs<|g2 c29 j j hst (q (oMv j j)<|q (qO j j j j j)<|nl)<|us<|Go.ret (Unw.ret ?_)
  cases h
  exact fr Xa j
theorem kQ {t_0:ae} {x_1:Int} {y_2:Int} {r:Int} (h:gK t_0 x_1 y_2=some r):FX 40 [.im 2 false [.cp (af t_0) 0],.im 2 false [I x_1],.im 2 false [I y_2]] (B0 [(false,[.im 0 (I r)])]):=by
 unfold gK at h
 refine gn 45 Try.func40 rfl ?_
 refine gs<|g0 j j (q (ai j j)<|nl)<|us<|gs<|?_
 obtain ⟨x12,DZ,h⟩:=bs h
 obtain ⟨x22,JK,h⟩:=bs h
 obtain ⟨x33,Ub,h⟩:=bs h
 obtain ⟨x43,JP,h⟩:=bs h
 refine gd c40 j j j j (mk [(6,iv (w64 ((w64 (x22*t_0.aB))+x43)))] []) (t j j (oMv j j)<|t j j (oMv j j)<|t j j (oNl j j j)<|t j j (oFA (r':=.im 2 _) j rG j j)<|t j j (oLd (cs:=[.im 2 _]) j tF2 j j)<|t j j (BJ j DZ j j)<|t j j (oMv j j)<|t j j (oNl j j j)<|t j j (oFA (r':=.im 2 _) j rG j j)<|t j j (oLd (cs:=[.im 2 _]) j tF2 j j)<|t j j (oBi j j j j)<|t j j (oMv j j)<|t j j (oNl j j j)<|t j j (oFA (r':=.im 2 _) j rG j j)<|t j j (oLd (cs:=[.im 2 _]) j tF2 j j)<|t j j (BJ j JK j j)<|t j j (oMv j j)<|t j j (oNl j j j)<|t j j (oFA (r':=.im 2 _) j jR j j)<|t j j (oLd (cs:=[.im 2 _]) j tF2 j j)<|t j j (oBi j j j j)<|t j j (oMv j j)<|t j j (oMv j j)<|t j j (oNl j j j)<|t j j (oFA (r':=.im 2 _) j jR j j)<|t j j (oLd (cs:=[.im 2 _]) j tF2 j j)<|t j j (BJ j Ub j j)<|t j j (oMv j j)<|t j j (oNl j j j)<|t j j (oFA (r':=.im 2 _) j jR j j)<|t j j (oLd (cs:=[.im 2 _]) j tF2 j j)<|t j j (oBi j j j j)<|t j j (oMv j j)<|t j j (oNl j j j)<|t j j (oFA (r':=.im 2 _) j jR j j)<|t j j (oLd (cs:=[.im 2 _]) j tF2 j j)<|t j j (BJ j JP j j)<|t j j (oBi j j j j)<|sS (dN z40 j (ai j j)) trivial (sD (by kernel_rfl)))<|us<|Go.ret (Unw.ret ?_)
 cases h
 exact fr Xi j
theorem uD {t_0:ae} {vz:Int} {vC:Int} {r:ae} (h:jv t_0 vz vC=some r):FX 22 [.im 2 false [.cp (af t_0) 0],.im 2 false [I vz],.im 2 false [I vC]] (B0 [(true,[.im 0 (I r.aB),.im 0 (I r.High),.ow 0 1 (List.map eI r.Cells)])]):=by
 unfold jv at h
 refine gn 55 Try.func22 rfl ?_
 refine gs<|g0 j j (q (oAl j dS (tkI (tkI (tkN tk0))))<|nl)<|us<|gs<|gd c22 j j j j (mk [(0,D 2 (.cp (af t_0) 0)),(1,iv vz),(2,iv vC),(6,M 6),(7,M 7)] [(6,Oa [C (I 0),C (I 0),Z (W 1 eI ([]:List Int))]),(7,Oa [C (I t_0.aB),C (I t_0.High),Z (W 1 eI ([]:List Int))])]) (t j j (oMv j j)<|t j j (oNl j j j)<|t j j (oFA (r':=.im 2 _) j jR j j)<|t j j (oLd (cs:=[.im 2 _]) j tF2 j j)<|t j j (oMv j j)<|t j j (oNl j j j)<|t j j (oFA (r':=.im 2 _) j rG j j)<|t j j (oLd (cs:=[.im 2 _]) j tF2 j j)<|sF (dN z22 j (oBu (cs:=[.im 2 _,.im 2 _,.nil]) j Ep j)) trivial (sS (dN z22 j (oAl j dS (tkI (tkI (tkN tk0))))) trivial (sS (dN z22 j (oSt dS j j j (tkI (tkI (tkN tk0))) j j j)) trivial (sD (by kernel_rfl)))) (sS (dN z22 j (oAl j dS (tkI (tkI (tkN tk0))))) trivial (sS (dN z22 j (oBu (cs:=[.im 2 _,.im 2 _,.nil]) j Ep j)) trivial (sS (dN z22 j (oSt dS j j j (tkI (tkI (tkN tk0))) j j j)) trivial (sD (by kernel_rfl))))))<|us<|gs<|gs<|g0 j j (q (ai j j)<|nl)<|us<|Go.block<|?_
 obtain ⟨o,hl,h⟩:=bs h
 refine gl c22 j _ (fun (s:(Int×(List Int)))=>match s with | (sU,qR)=>mk [(0,D 2 (.cp (af t_0) 0)),(1,iv vz),(2,iv vC),(6,M 6),(7,M 7),(8,iv sU)] [(6,Oa [C (I 0),C (I 0),Z (W 1 eI ([]:List Int))]),(7,Oa [C (I t_0.aB),C (I t_0.High),Z (W 1 eI qR)])]) (fun (qC:(List Int)) (p:Ex×St)=>p.1= .exit 0∧p.2.norm ([6,7],[6,7])=mk [(6,M 6),(7,M 7)] [(6,Oa [C (I 0),C (I 0),Z (W 1 eI ([]:List Int))]),(7,Oa [C (I t_0.aB),C (I t_0.High),Z (W 1 eI qC)])]) hl (by kernel_rfl) ?_ ?_ ?_
 ·intro o p hp e
  exact nomatch (hp.1.symm.trans e)
 ·rintro ⟨sU,qR⟩ o h
  unfold jg at h
  dsimp only at h
  refine gs<|gs<|g0 j j (q (oMv j j)<|q (oMv j j)<|q (oNl j j j)<|q (oFA (r':=.im 2 _) j rG j j)<|q (oLd (cs:=[.im 2 _]) j tF2 j j)<|q (oBi j j j j)<|nl)<|us<|gc h j aj (fun hc7 h=>?_) fun hc7 h=>?_
  ·refine Go.skip<|us<|gs<|Go.block<|gs<|g0 j j (q (ai j j)<|nl)<|us<|Go.block<|?_
   obtain ⟨o,hl,h⟩:=bs h
   refine gl c22 j _ (fun (s:(Int×(List Int)))=>match s with | (yT,qQ)=>mk [(0,D 2 (.cp (af t_0) 0)),(1,iv vz),(2,iv vC),(6,M 6),(7,M 7),(8,iv sU),(9,iv yT)] [(6,Oa [C (I 0),C (I 0),Z (W 1 eI ([]:List Int))]),(7,Oa [C (I t_0.aB),C (I t_0.High),Z (W 1 eI qQ)])]) (fun (qB:(List Int)) (p:Ex×St)=>p.1= .exit 2∧p.2.norm ([0,1,2,6,7,8],[6,7])=mk [(0,D 2 (.cp (af t_0) 0)),(1,iv vz),(2,iv vC),(6,M 6),(7,M 7),(8,iv sU)] [(6,Oa [C (I 0),C (I 0),Z (W 1 eI ([]:List Int))]),(7,Oa [C (I t_0.aB),C (I t_0.High),Z (W 1 eI qB)])]) hl (by kernel_rfl) ?_ ?_ ?_
   ·intro o p hp e
    exact nomatch (hp.1.symm.trans e)
   ·rintro ⟨yT,qQ⟩ o h
    unfold gB at h
    dsimp only at h
    refine gs<|gs<|g0 j j (q (oMv j j)<|q (oMv j j)<|q (oNl j j j)<|q (oFA (r':=.im 2 _) j jR j j)<|q (oLd (cs:=[.im 2 _]) j tF2 j j)<|q (oBi j j j j)<|nl)<|us<|gc h j aj (fun IJ h=>?_) fun IJ h=>?_
    ·refine Go.skip<|us<|gs<|Go.block<|?_
     obtain ⟨x48,OV,h⟩:=bs h
     obtain ⟨x49,Uc,h⟩:=bs h
     obtain ⟨x52,Ud,h⟩:=bs h
     refine gd c22 j j j j (mk [(0,D 2 (.cp (af t_0) 0)),(1,iv vz),(2,iv vC),(6,M 6),(7,M 7),(8,iv sU),(9,iv yT)] [(6,Oa [C (I 0),C (I 0),Z (W 1 eI ([]:List Int))]),(7,Oa [C (I t_0.aB),C (I t_0.High),Z (W 1 eI x52)])]) (t j j (oMv j j)<|t j j (oNl j j j)<|t j j (oFA (r':=.im 2 _) j eP j j)<|t j j (oLd (cs:=[.im 2 _]) j jG j j)<|t j j (oMv j j)<|t j j (oMv j j)<|t j j (oMv j j)<|t j j (oBi j j j j)<|t j j (oMv j j)<|t j j (oMv j j)<|t j j (oBi j j j j)<|sK (O:=[7]) j j j (dN z22 j (oFA (r':=.mp 7 0 2) j eP j j))<|sK (O:=[7]) j j j (dN z22 j (oLd (cs:=[.own 7 0 2]) j jG j j))<|sS (dN z22 j (oCa (xs:=[.v false [.im 2 _],.v false [.im 0 _],.v false [.im 0 _]]) (vs:=[(false,[.im 0 _])]) (v:=.v false [.im 0 _]) (kQ OV) (.inl j) j rq j (ppC j (ppC j (ppC j pp0))) j j pb0 j j j)) (kY ⟨j,trivial⟩ (kY ⟨j,trivial⟩ trivial)) (t j j (mZ j Uc cu j j)<|t j j (oLd (cs:=[.im 2 _]) j tF2 j j)<|sS (dN z22 j (oBS (es:=List.map eI ([x49]:List Int)) j cu j (ptC j (fxI fx0) j pt0) (fC j fun _=>j))) (kY ⟨j,trivial⟩ (kY ⟨j,trivial⟩ trivial)) (sS (dN z22 j (yQ (en:=eI) (M:=([x49]:List Int)) j Ud j cu j j jH (.inl ⟨_,j⟩) j j j j (nO j j) (fC j fun _=>j))) (kN j (kN j trivial)) (t j j (oFA (r':=.mp 7 0 2) j eP j j)<|sS (dN z22 j (oSt jG j j j (tkO j j tk0) j j j)) (kN j (kN j trivial)) (sD (by kernel_rfl))))))<|Unw.blk<|us<|g0 j j (q (oMv j j)<|q (oBi j j j j)<|q (ai j j)<|nl)<|Unw.nil<|?_
     cases h
     exact ⟨j,(by kernel_rfl)⟩
    ·refine Go.exit<|ux<|Unw.nil<|?_
     cases h
     exact ⟨j,(by kernel_rfl)⟩
   ·rintro ⟨e,st⟩ hp
    obtain ⟨qB,rfl⟩:∃y,y=o:=⟨o,rfl⟩
    obtain ⟨he,hst⟩:=hp
    obtain rfl:e= .exit 2:=he
    refine Unw.nN<|Unw.blk<|us<|g2 c22 j j hst (q (oMv j j)<|q (oBi j j j j)<|q (ai j j)<|nl)<|Unw.nil<|?_
    cases h
    exact ⟨j,(by kernel_rfl)⟩
  ·refine Go.exit<|ux<|Unw.nil<|?_
   cases h
   exact ⟨j,(by kernel_rfl)⟩
 ·rintro ⟨e,st⟩ hp
  obtain ⟨qC,rfl⟩:∃y,y=o:=⟨o,rfl⟩
  obtain ⟨he,hst⟩:=hp
  obtain rfl:e= .exit 0:=he
  refine Unw.nN<|us<|gs<|g2 c22 j j hst (q (oLd (cs:=[.im 0 _,.im 0 _,.own 7 0 2]) j dS j j)<|q (oSt dS j j j (tkI (tkI (tkO j j tk0))) j j j)<|nl)<|us<|Go.ret (Unw.ret ?_)
  cases h
  exact fr WW j
theorem D5 {s_0:aP} {r:(ae×aP)} (h:oK s_0=some r):FX 15 [.ptr true [(.imm,W 1 (eK .u8) s_0.code),(.imm,I s_0.at_),(.imm,.sc (.int .u64 s_0.seed))]] ([(true,[.im 0 (I r.1.aB),.im 0 (I r.1.High),.ow 0 1 (List.map eI r.1.Cells)])],[.ptr true [(.imm,W 1 (eK .u8) r.2.code),(.imm,I r.2.at_),(.imm,.sc (.int .u64 r.2.seed))]]):=by
 unfold oK at h
 refine Aw (A:=[(0,M 0)]) (B:=[(0,Od (G 1 (iK s_0)))]) (nt:=84) rfl rfl Try.func15 rfl rfl rfl rfl ?_
 refine gs<|g0 j j (q (oAl j dS (tkI (tkI (tkN tk0))))<|nl)<|us<|gs<|gs<|?_
 obtain ⟨x9,hx9,h⟩:=bs h
 refine g0 j j (q (oMv j j)<|q (oCa (xs:=[.v false [.mp 0 0 0],.v false [.im 0 _]]) (vs:=[(false,[.im 0 _])]) (v:=.v false [.im 0 _]) (jo hx9) (.inl j) j vN j (ppP j j j (ppC j pp0)) j j (pbP j j pb0) j j j)<|nl)<|us<|Go.block<|gs<|g1 j j (mk [(0,M 0),(2,M 2),(9,iv x9.1)] [(0,Od (G 1 (iK x9.2))),(2,Oa [C (I 0),C (I 0),Z (W 1 eI ([]:List Int))])]) (q (oBi j j j j)<|q (ai j j)<|nl)<|us<|gc h j iEq (fun hc1 h=>?_) fun hc1 h=>?_
 ·refine gs<|g0 j j (q (oBS (es:=List.map eI ([0,0,1,1]:List Int)) j cu j (ptC j (fxI fx0) j (ptC j (fxI fx0) j (ptC j (fxI fx0) j (ptC j (fxI fx0) j pt0)))) (fC j fun _=>j))<|q (oBu (cs:=[.im 0 _,.im 0 _,.own 12 0 0]) j Ep j)<|q (oSt dS j j j (tkI (tkI (tkO j j tk0))) j j j)<|nl)<|us<|Go.ret (Unw.ret ?_)
  cases h
  exact fr OJ j
 ·refine gs<|g0 j j (q (oBi j j j j)<|q (ai j j)<|nl)<|us<|gc h j iEq (fun hc2 h=>?_) fun hc2 h=>?_
  ·refine gs<|g0 j j (q (oBS (es:=List.map eI ([0,0,1,1,3,2,2,3]:List Int)) j cu j (ptC j (fxI fx0) j (ptC j (fxI fx0) j (ptC j (fxI fx0) j (ptC j (fxI fx0) j (ptC j (fxI fx0) j (ptC j (fxI fx0) j (ptC j (fxI fx0) j (ptC j (fxI fx0) j pt0)))))))) (fC j fun _=>j))<|q (oBu (cs:=[.im 0 _,.im 0 _,.own 16 0 0]) j Ep j)<|q (oSt dS j j j (tkI (tkI (tkO j j tk0))) j j j)<|nl)<|us<|Go.ret (Unw.ret ?_)
   cases h
   exact fr OJ j
  ·refine gs<|g0 j j (q (oBi j j j j)<|q (ai j j)<|nl)<|us<|gc h j iEq (fun hc3 h=>?_) fun hc3 h=>?_
   ·refine gs<|g0 j j (q (oBS (es:=List.map eI ([0,0,1,2,3,4,1,2,3,4,5,5,6,6,7,7]:List Int)) j cu j (ptC j (fxI fx0) j (ptC j (fxI fx0) j (ptC j (fxI fx0) j (ptC j (fxI fx0) j (ptC j (fxI fx0) j (ptC j (fxI fx0) j (ptC j (fxI fx0) j (ptC j (fxI fx0) j (ptC j (fxI fx0) j (ptC j (fxI fx0) j (ptC j (fxI fx0) j (ptC j (fxI fx0) j (ptC j (fxI fx0) j (ptC j (fxI fx0) j (ptC j (fxI fx0) j (ptC j (fxI fx0) j pt0)))))))))))))))) (fC j fun _=>j))<|q (oBu (cs:=[.im 0 _,.im 0 _,.own 20 0 0]) j Ep j)<|q (oSt dS j j j (tkI (tkI (tkO j j tk0))) j j j)<|nl)<|us<|Go.ret (Unw.ret ?_)
    cases h
    exact fr OJ j
   ·refine gs<|g0 j j (q (oBi j j j j)<|q (ai j j)<|nl)<|us<|gc h j iEq (fun hc4 h=>?_) fun hc4 h=>?_
    ·refine gs<|g0 j j (q (oBS (es:=List.map eI ([0,1,2,0,1,2,0,1,2]:List Int)) j cu j (ptC j (fxI fx0) j (ptC j (fxI fx0) j (ptC j (fxI fx0) j (ptC j (fxI fx0) j (ptC j (fxI fx0) j (ptC j (fxI fx0) j (ptC j (fxI fx0) j (ptC j (fxI fx0) j (ptC j (fxI fx0) j pt0))))))))) (fC j fun _=>j))<|q (oBu (cs:=[.im 0 _,.im 0 _,.own 24 0 0]) j Ep j)<|q (oSt dS j j j (tkI (tkI (tkO j j tk0))) j j j)<|nl)<|us<|Go.ret (Unw.ret ?_)
     cases h
     exact fr OJ j
    ·refine Go.skip<|Unw.blk<|us<|gs<|?_
     obtain ⟨x27,hx27,h⟩:=bs h
     refine g0 j j (q (oMv j j)<|q (oCa (xs:=[.v false [.mp 0 0 0],.v false [.im 0 _]]) (vs:=[(false,[.im 0 _])]) (v:=.v false [.im 0 _]) (jo hx27) (.inl j) j vN j (ppP j j j (ppC j pp0)) j j (pbP j j pb0) j j j)<|q (oBi j j j j)<|q (ai j j)<|nl)<|us<|gs<|?_
     obtain ⟨x30,OW,h⟩:=bs h
     refine g1 j j (mk [(0,M 0),(2,M 2),(3,iv (w64 (1+x27.1)))] [(0,Od (G 1 (iK x27.2))),(2,Oa [C (I 0),C (I 0),Z (W 1 eI ([]:List Int))])]) (q (oMv j j)<|q (oCa (xs:=[.v false [.mp 0 0 0],.v false [.im 0 _]]) (vs:=[(false,[.im 0 _])]) (v:=.v false [.im 0 _]) (jo OW) (.inl j) j vN j (ppP j j j (ppC j pp0)) j j (pbP j j pb0) j j j)<|q (oBi j j j j)<|q (ai j j)<|nl)<|us<|gs<|g1 j j (mk [(0,M 0),(2,M 2),(3,iv (w64 (1+x27.1))),(4,iv (w64 (1+x30.1)))] [(0,Od (G 1 (iK x30.2))),(2,Oa [C (I 0),C (I 0),Z (W 1 eI ([]:List Int))])]) (q (oMv j j)<|q (oMv j j)<|q (oBu (cs:=[.im 0 _,.im 0 _,.nil]) j Ep j)<|q (oAl j dS (tkI (tkI (tkN tk0))))<|q (oSt dS j j j (tkI (tkI (tkN tk0))) j j j)<|nl)<|us<|gs<|gs<|g1 j j (mk [(0,M 0),(2,M 2),(3,iv (w64 (1+x27.1))),(4,iv (w64 (1+x30.1))),(5,M 5)] [(0,Od (G 1 (iK x30.2))),(2,Oa [C (I 0),C (I 0),Z (W 1 eI ([]:List Int))]),(5,Oa [C (I (w64 (1+x27.1))),C (I (w64 (1+x30.1))),Z (W 1 eI ([]:List Int))])]) (q (ai j j)<|nl)<|us<|Go.block<|?_
     obtain ⟨o,hl,h⟩:=bs h
     refine gl c15 j _ (fun (s:(Int×(List Int)×Int×Int×(List Int)))=>match s with | (fV,pO,pR,pU,eG)=>mk [(0,M 0),(2,M 2),(3,iv (w64 (1+x27.1))),(4,iv (w64 (1+x30.1))),(5,M 5),(6,iv fV)] [(0,Od [Ct 1 (W 1 (eK .u8) pO),C (I pR),C (.sc (.int .u64 pU))]),(2,Oa [C (I 0),C (I 0),Z (W 1 eI ([]:List Int))]),(5,Oa [C (I (w64 (1+x27.1))),C (I (w64 (1+x30.1))),Z (W 1 eI eG)])]) (fun (o:((List Int)×Int×Int×(List Int))) (p:Ex×St)=>match o with | (mg,mD,mF,oL)=>p.1= .exit 1∧p.2.norm ([0,2,5],[0,2,5])=mk [(0,M 0),(2,M 2),(5,M 5)] [(0,Od [Ct 1 (W 1 (eK .u8) mg),C (I mD),C (.sc (.int .u64 mF))]),(2,Oa [C (I 0),C (I 0),Z (W 1 eI ([]:List Int))]),(5,Oa [C (I (w64 (1+x27.1))),C (I (w64 (1+x30.1))),Z (W 1 eI oL)])]) hl (by kernel_rfl) ?_ ?_ ?_
     ·intro o p hp e
      obtain ⟨mg,mD,mF,oL⟩:=o
      exact nomatch (hp.1.symm.trans e)
     ·rintro ⟨fV,pO,pR,pU,eG⟩ o h
      unfold l9 at h
      dsimp only at h
      refine gs<|gs<|g0 j j (q (oMv j j)<|q (oMv j j)<|q (oMv j j)<|q (oBi j j j j)<|q (oBi j j j j)<|nl)<|us<|gc h j aj (fun hc19 h=>?_) fun hc19 h=>?_
      ·refine Go.skip<|us<|gs<|Go.block<|gs<|g0 j j (q (oMv j j)<|q (ai j j)<|nl)<|us<|gs<|gs<|?_
       obtain ⟨x45,Ue,h⟩:=bs h
       obtain ⟨⟨DT,pV,pW,pX⟩,JQ,h⟩:=bs h
       dsimp only at h
       refine gX c15 j j j (mk [(0,M 0),(2,M 2),(3,iv (w64 (1+x27.1))),(4,iv (w64 (1+x30.1))),(5,M 5),(6,iv fV),(7,iv fV),(50,bv DT)] [(0,Od [Ct 1 (W 1 (eK .u8) pV),C (I pW),C (.sc (.int .u64 pX))]),(2,Oa [C (I 0),C (I 0),Z (W 1 eI ([]:List Int))]),(5,Oa [C (I (w64 (1+x27.1))),C (I (w64 (1+x30.1))),Z (W 1 eI eG)])]) ?_ ?_
       ·refine xq (oMv j j)<|xq (oMv j j)<|xq (BJ j Ue j j)<|xq (oBi j j j j)<|xq (oMv j j)<|?_
        refine ic JQ (fun rW JQ=>?_) fun rW JQ=>?_
        ·obtain ⟨x49,Uc,JQ⟩:=bs JQ
         cases JQ
         exact xqT j j (aj.2 rW) (oMv j j)<|xqT j j (aj.2 rW) (oCa (xs:=[.v false [.mp 0 0 0],.v false [.im 0 _]]) (vs:=[(false,[.im 0 _])]) (v:=.v false [.im 0 _]) (uC Uc) (.inl j) j Fz j (ppP j j j (ppC j pp0)) j j (pbP j j pb0) j j j)<|xq (dZ j j (aj.2 rW) j)<|xn
        ·cases JQ
         exact aC j j (byF aj rW) j<|aC j j (byF aj rW) j<|xq (kM j j (byF aj rW) j)<|xn
       ·refine us<|Go.join (fun st=>∃wu,∃pJ,∃pK,∃pM,gG fV eG wu pJ pK pM=some o∧st.norm ([0,2,3,4,5,6,7],[0,2,5])=mk [(0,M 0),(2,M 2),(3,iv (w64 (1+x27.1))),(4,iv (w64 (1+x30.1))),(5,M 5),(6,iv fV),(7,iv wu)] [(0,Od [Ct 1 (W 1 (eK .u8) pJ),C (I pK),C (.sc (.int .u64 pM))]),(2,Oa [C (I 0),C (I 0),Z (W 1 eI ([]:List Int))]),(5,Oa [C (I (w64 (1+x27.1))),C (I (w64 (1+x30.1))),Z (W 1 eI eG)])]) ?_ ?_
        ·rintro st ⟨wu,pJ,pK,pM,h,hst⟩
         unfold gG at h
         refine us<|?_
         obtain ⟨x75,Xp,h⟩:=bs h
         refine g2 c15 j j hst (q (oFA (r':=.mp 5 0 2) j eP j j)<|q (oLd (cs:=[.own 5 0 2]) j jG j j)<|q (oMv j j)<|q (oBS (es:=List.map eI ([wu]:List Int)) j cu j (ptC j (fxI fx0) j pt0) (fC j fun _=>j))<|q (yQ (en:=eI) (M:=([wu]:List Int)) j Xp j cu j j jH (.inl ⟨_,j⟩) j j j j (nO j j) (fC j fun _=>j))<|q (oFA (r':=.mp 5 0 2) j eP j j)<|q (oSt jG j j j (tkO j j tk0) j j j)<|nl)<|Unw.blk<|us<|g1 j j (mk [(0,M 0),(2,M 2),(3,iv (w64 (1+x27.1))),(4,iv (w64 (1+x30.1))),(5,M 5),(6,iv fV)] [(0,Od [Ct 1 (W 1 (eK .u8) pJ),C (I pK),C (.sc (.int .u64 pM))]),(2,Oa [C (I 0),C (I 0),Z (W 1 eI ([]:List Int))]),(5,Oa [C (I (w64 (1+x27.1))),C (I (w64 (1+x30.1))),Z (W 1 eI x75)])]) (q (oMv j j)<|q (oBi j j j j)<|q (ai j j)<|nl)<|Unw.nil<|?_
         cases h
         exact ⟨j,(by kernel_rfl)⟩
        ·intro K25
         refine gc h j iR (fun Xq h=>?_) fun Xq h=>?_
         ·obtain ⟨x55,Vr,h⟩:=bs h
          exact g0 j j (q (oFA (r':=.mp 5 0 2) j eP j j)<|q (oLd (cs:=[.own 5 0 2]) j jG j j)<|q (oMv j j)<|q (oBi j j j j)<|q (yj j Vr cu j j j j)<|q (zJ (cs:=[.im 0 _]) j tF2 j j j j (iQ Vr) j j)<|q (ai j j)<|nl)<|K25 _ ⟨x55,pV,pW,pX,h,(by kernel_rfl)⟩
         ·refine gs<|?_
          obtain ⟨⟨DU,pY,qc,qf⟩,JR,h⟩:=bs h
          dsimp only at h
          refine gX c15 j j j (mk [(0,M 0),(2,M 2),(3,iv (w64 (1+x27.1))),(4,iv (w64 (1+x30.1))),(5,M 5),(6,iv fV),(7,iv fV),(63,bv DU)] [(0,Od [Ct 1 (W 1 (eK .u8) pY),C (I qc),C (.sc (.int .u64 qf))]),(2,Oa [C (I 0),C (I 0),Z (W 1 eI ([]:List Int))]),(5,Oa [C (I (w64 (1+x27.1))),C (I (w64 (1+x30.1))),Z (W 1 eI eG)])]) ?_ ?_
          ·refine xq (oMv j j)<|xq (oMv j j)<|xq (oBi j j j j)<|xq (oMv j j)<|?_
           refine ic JR (fun hc27 JR=>?_) fun hc27 JR=>?_
           ·obtain ⟨x62,Uf,JR⟩:=bs JR
            cases JR
            exact xqT j j (aj.2 hc27) (oMv j j)<|xqT j j (aj.2 hc27) (oCa (xs:=[.v false [.mp 0 0 0],.v false [.im 0 _]]) (vs:=[(false,[.im 0 _])]) (v:=.v false [.im 0 _]) (uC Uf) (.inl j) j Fz j (ppP j j j (ppC j pp0)) j j (pbP j j pb0) j j j)<|xq (dZ j j (aj.2 hc27) j)<|xn
           ·cases JR
            exact aC j j (byF aj hc27) j<|aC j j (byF aj hc27) j<|xq (kM j j (byF aj hc27) j)<|xn
          ·refine us<|gc h j iR (fun hc28 h=>?_) fun hc28 h=>?_
           ·obtain ⟨x69,Vs,h⟩:=bs h
            exact g0 j j (q (oFA (r':=.mp 5 0 2) j eP j j)<|q (oLd (cs:=[.own 5 0 2]) j jG j j)<|q (oMv j j)<|q (oMv j j)<|q (oBi j j j j)<|q (yj j Vs cu j j j j)<|q (zJ (cs:=[.im 0 _]) j tF2 j j j j (iQ Vs) j j)<|q (ai j j)<|nl)<|K25 _ ⟨x69,pY,qc,qf,h,(by kernel_rfl)⟩
           ·exact Go.skip<|K25 _ ⟨fV,pY,qc,qf,h,(by kernel_rfl)⟩
      ·refine Go.exit<|ux<|Unw.nil<|?_
       cases h
       exact ⟨j,(by kernel_rfl)⟩
     ·rintro ⟨e,st⟩ hp
      obtain ⟨mg,mD,mF,oL⟩:=o
      dsimp only at h
      obtain ⟨he,hst⟩:=hp
      obtain rfl:e= .exit 1:=he
      refine Unw.nN<|us<|gs<|?_
      obtain ⟨x79,MI,h⟩:=bs h
      refine g2 c15 j j hst (q (oFA (r':=.mp 5 0 2) j eP j j)<|q (oLd (cs:=[.own 5 0 2]) j jG j j)<|q (oCr (xs:=[.v false [.own 5 0 2]]) (vs:=[(false,[.own 79 0 0])]) (v:=.v false [.own 79 0 0]) (c:=⟨.sh,0,_⟩) (cs:=[]) (AX MI) (.inl j) j Q9 j (ppC j pp0) j j pb0 j j j)<|q (oFA (r':=.mp 5 0 2) j eP j j)<|q (oSt jG j j j (tkO j j tk0) j j j)<|nl)<|us<|gs<|?_
      obtain ⟨x82,OX,h⟩:=bs h
      obtain ⟨x83,Xr,h⟩:=bs h
      refine g1 j j (mk [(0,M 0),(2,M 2),(5,M 5)] [(0,Od [Ct 1 (W 1 (eK .u8) mg),C (I mD),C (.sc (.int .u64 mF))]),(2,Oa [C (I 0),C (I 0),Z (W 1 eI ([]:List Int))]),(5,Oa [C (I (w64 (1+x27.1))),C (I (w64 (1+x30.1))),Z (W 1 eI x79)])]) (q (oMv j j)<|q (oCa (xs:=[.v false [.mp 0 0 0],.v false [.im 0 _]]) (vs:=[(false,[.im 0 _])]) (v:=.v false [.im 0 _]) (jo OX) (.inl j) j vN j (ppP j j j (ppC j pp0)) j j (pbP j j pb0) j j j)<|q (oCr (xs:=[.v false [.mp 5 0 0],.v false [.im 0 _],.v false [.im 0 _]]) (vs:=[(true,[.im 0 _,.im 0 _,.own 83 0 0])]) (v:=.v true [.im 0 _,.im 0 _,.own 83 0 0]) (c:=⟨.sh,0,_⟩) (cs:=[]) (uD Xr) (.inl j) j BG j (ppC j (ppC j (ppC j pp0))) j j pb0 j j j)<|q (oSt dS j j j (tkI (tkI (tkO j j tk0))) j j j)<|nl)<|us<|Go.ret (Unw.ret ?_)
      cases h
      exact fr OJ j
theorem kF {n_0:Int} {vF:Int} {qg:Int} {r:Bool} (h:lH n_0 vF qg=some r):FX 30 [.im 2 false [I n_0],.im 2 false [I vF],.im 2 false [I qg]] (B0 [(false,[.im 0 (V r)])]):=by
 unfold lH at h
 refine gn 15 Try.func30 rfl ?_
 refine gs<|g0 j j (q (ai j j)<|nl)<|us<|gs<|gX c30 j j j (mk [(6,bv ((decide (n_0≥vF))&&(decide (n_0≤qg))))] []) ?_ ?_
 ·refine xq (oMv j j)<|xq (oMv j j)<|xq (oBi j j j j)<|xq (oMv j j)<|?_
  by_cases hc1:n_0≥vF
  ·exact xqT rfl rfl (aj.2 hc1) (oMv rfl rfl)<|xqT rfl rfl (aj.2 hc1) (oMv rfl rfl)<|xqT rfl rfl (aj.2 hc1) (oBi rfl rfl rfl rfl)<|xq (dZ rfl rfl (aj.2 hc1) rfl)<|xq (ai rfl rfl)<|xn (Eq.trans (b:=(fun nV:Bool=>mk [(6,bv nV)] []) (decide (n_0≤qg))) (by kernel_rfl) (congrArg (fun nV:Bool=>mk [(6,bv nV)] []) (by first | rfl | (simp [(aj.2 hc1)];done) | (simp [(aj.2 hc1)];omega))))
  ·exact aC rfl rfl (byF aj hc1) rfl<|aC rfl rfl (byF aj hc1) rfl<|aC rfl rfl (byF aj hc1) rfl<|xq (kM rfl rfl (byF aj hc1) rfl)<|xq (ai rfl rfl)<|xn (Eq.trans (b:=(fun nV:Bool=>mk [(6,bv nV)] []) false) (by kernel_rfl) (congrArg (fun nV:Bool=>mk [(6,bv nV)] []) (by first | rfl | (simp [(byF aj hc1)];done) | (simp [(byF aj hc1)];omega))))
 ·refine us<|Go.ret (Unw.ret ?_)
  cases h
  exact fr Xb j
theorem Eu {a_0:Int} {b_1:Int} {r:Int} (h:qU a_0 b_1=some r):FX 43 [.im 2 false [I a_0],.im 2 false [I b_1]] (B0 [(false,[.im 0 (I r)])]):=by
 unfold qU at h
 refine gn 10 Try.func43 rfl ?_
 refine gs<|g0 j j (q (ai j j)<|nl)<|us<|gs<|gs<|g0 j j (q (oMv j j)<|q (oMv j j)<|q (oBi j j j j)<|nl)<|us<|gc h j aj (fun hc1 h=>?_) fun hc1 h=>?_
 ·refine gs<|g0 j j (q (oMv j j)<|q (ai j j)<|nl)<|us<|Go.ret (Unw.ret ?_)
  cases h
  exact fr Vh j
 ·refine Go.skip<|us<|gs<|g0 j j (q (oMv j j)<|q (ai j j)<|nl)<|us<|Go.ret (Unw.ret ?_)
  cases h
  exact fr Vh j
theorem xK {t_0:ae} {r:Int} (h:dU t_0=some r):FX 25 [.im 2 false [.cp (af t_0) 0]] (B0 [(false,[.im 0 (I r)])]):=by
 unfold dU at h
 refine gn 47 Try.func25 rfl ?_
 refine gs<|g0 j j (q (ai j j)<|nl)<|us<|gs<|g0 j j (q (ai j j)<|nl)<|us<|gs<|gs<|g0 j j (q (ai j j)<|nl)<|us<|Go.block<|?_
 obtain ⟨o,hl,h⟩:=bs h
 refine gl c25 j _ (fun (s:(Int×Int))=>match s with | (vG,yU)=>mk [(0,D 2 (.cp (af t_0) 0)),(3,iv vG),(4,iv yU)] []) (fun (o:(Int ⊕ Int)) (p:Ex×St)=>match o with | (.inl iU)=>p.1= .exit 0∧p.2.norm ([0,3],[])=mk [(0,D 2 (.cp (af t_0) 0)),(3,iv iU)] [] | (.inr r2)=>p.1= .ret∧fin Try.prog cfg 25 Try.f25 [.im 2 false [.cp (af t_0) 0]] p.2=some (B0 [(false,[.im 0 (I r2)])])) hl (by kernel_rfl) ?_ ?_ ?_
 ·intro o p hp e
  rcases o with iU | r2<;>exact nomatch (hp.1.symm.trans e)
 ·rintro ⟨vG,yU⟩ o h
  unfold dQ at h
  dsimp only at h
  refine gs<|gs<|g0 j j (q (oMv j j)<|q (oMv j j)<|q (oNl j j j)<|q (oFA (r':=.im 2 _) j eP j j)<|q (oLd (cs:=[.im 2 _]) j jG j j)<|q (rE j j jH j)<|q (oBi j j j j)<|nl)<|us<|gc h j aj (fun nC h=>?_) fun nC h=>?_
  ·refine Go.skip<|us<|gs<|Go.block<|gs<|gs<|?_
   obtain ⟨x20,JO,h⟩:=bs h
   obtain ⟨x22,JK,h⟩:=bs h
   refine g0 j j (q (oMv j j)<|q (oNl j j j)<|q (oFA (r':=.im 2 _) j eP j j)<|q (oLd (cs:=[.im 2 _]) j jG j j)<|q (oMv j j)<|q (mZ j JO cu j j)<|q (oLd (cs:=[.im 2 _]) j tF2 j j)<|q (oCa (xs:=[.v false [.im 2 _],.v false [.im 0 _],.v false [.im 0 _]]) (vs:=[(false,[.im 0 _])]) (v:=.v false [.im 0 _]) (kF JK) (.inl j) j nU j (ppC j (ppC j (ppC j pp0))) j j pb0 j j j)<|q (oUn j j j)<|nl)<|us<|?_
   by_cases hc12:x22=true
   ·rw [if_pos hc12] at h
    refine gF j (nF (iR.2 hc12))<|Go.skip<|us<|?_
    obtain ⟨x30,OW,h⟩:=bs h
    obtain ⟨x32,hx32,h⟩:=bs h
    refine g0 j j (q (oMv j j)<|q (oMv j j)<|q (oNl j j j)<|q (oFA (r':=.im 2 _) j eP j j)<|q (oLd (cs:=[.im 2 _]) j jG j j)<|q (oMv j j)<|q (mZ j OW cu j j)<|q (oLd (cs:=[.im 2 _]) j tF2 j j)<|q (oCa (xs:=[.v false [.im 0 _],.v false [.im 2 _]]) (vs:=[(false,[.im 0 _])]) (v:=.v false [.im 0 _]) (Eu hx32) (.inl j) j OG j (ppC j (ppC j pp0)) j j pb0 j j j)<|q (ai j j)<|nl)<|Unw.blk<|us<|g0 j j (q (oMv j j)<|q (oBi j j j j)<|q (ai j j)<|nl)<|Unw.nil<|?_
    cases h
    exact ⟨j,(by kernel_rfl)⟩
   ·rw [if_neg hc12] at h
    refine gT j (nT (byF iR hc12))<|gs<|g0 j j (q (ai j j)<|nl)<|us<|Go.ret (Unw.ret ?_)
    cases h
    exact ⟨j,(fo TW j)⟩
  ·refine Go.exit<|ux<|Unw.nil<|?_
   cases h
   exact ⟨j,(by kernel_rfl)⟩
 ·rintro ⟨e,st⟩ hp
  rcases o with iU | r2
  ·dsimp only at h
   obtain ⟨he,hst⟩:=hp
   obtain rfl:e= .exit 0:=he
   refine Unw.nN<|us<|gs<|gs<|g2 c25 j j hst (q (ai j j)<|nl)<|us<|Go.block<|?_
   obtain ⟨o,hl,h⟩:=bs h
   refine gl c25 j _ (fun (AA:Int)=>mk [(0,D 2 (.cp (af t_0) 0)),(3,iv iU),(5,iv AA)] []) (fun (o:(Unit ⊕ Int)) (p:Ex×St)=>match o with | (.inl _)=>p.1= .exit 2∧p.2.norm ([3],[])=mk [(3,iv iU)] [] | (.inr r2)=>p.1= .ret∧fin Try.prog cfg 25 Try.f25 [.im 2 false [.cp (af t_0) 0]] p.2=some (B0 [(false,[.im 0 (I r2)])])) hl (by kernel_rfl) ?_ ?_ ?_
   ·intro o p hp e
    rcases o with u | r2<;>exact nomatch (hp.1.symm.trans e)
   ·rintro AA o h
    unfold eu at h
    refine gs<|gs<|g0 j j (q (oMv j j)<|q (oMv j j)<|q (oBi j j j j)<|nl)<|us<|gc h j aj (fun hc9 h=>?_) fun hc9 h=>?_
    ·refine Go.skip<|us<|gs<|Go.block<|gs<|?_
     obtain ⟨x43,JP,h⟩:=bs h
     refine g0 j j (q (oMv j j)<|q (oNl j j j)<|q (oFA (r':=.im 2 _) j eP j j)<|q (oLd (cs:=[.im 2 _]) j jG j j)<|q (oMv j j)<|q (oCa (xs:=[.v false [.im 2 _],.v false [.im 0 _]]) (vs:=[(false,[.im 0 _])]) (v:=.v false [.im 0 _]) (uJ JP) (.inl j) j AU j (ppC j (ppC j pp0)) j j pb0 j j j)<|q (oUn j j j)<|nl)<|us<|?_
     by_cases IJ:x43=true
     ·rw [if_pos IJ] at h
      refine gF j (nF (iR.2 IJ))<|Go.skip<|Unw.blk<|us<|g0 j j (q (oMv j j)<|q (oBi j j j j)<|q (ai j j)<|nl)<|Unw.nil<|?_
      cases h
      exact ⟨j,(by kernel_rfl)⟩
     ·rw [if_neg IJ] at h
      refine gT j (nT (byF iR IJ))<|gs<|g0 j j (q (ai j j)<|nl)<|us<|Go.ret (Unw.ret ?_)
      cases h
      exact ⟨j,(fo TW j)⟩
    ·refine Go.exit<|ux<|Unw.nil<|?_
     cases h
     exact ⟨j,(by kernel_rfl)⟩
   ·rintro ⟨e,st⟩ hp
    rcases o with u | r2
    ·dsimp only at h
     obtain ⟨he,hst⟩:=hp
     obtain rfl:e= .exit 2:=he
     refine Unw.nN<|us<|gs<|g2 c25 j j hst (q (oMv j j)<|q (oBi j j j j)<|q (ai j j)<|nl)<|us<|Go.ret (Unw.ret ?_)
     cases h
     exact fr TW j
    ·dsimp only at h
     obtain ⟨he,hfin⟩:=hp
     obtain rfl:e= .ret:=he
     cases h
     exact Unw.ret (nH hfin)
  ·dsimp only at h
   obtain ⟨he,hfin⟩:=hp
   obtain rfl:e= .ret:=he
   cases h
   exact Unw.ret (nH hfin)
theorem AY {t_0:ae} {i_1:Int} {r:(List Int)} (h:gY t_0 i_1=some r):FX 46 [.im 2 false [.cp (af t_0) 0],.im 2 false [I i_1]] (B0 [(false,[.ow 0 1 (List.map eI r)])]):=by
 unfold gY at h
 refine gn 40 Try.func46 rfl ?_
 refine gs<|g0 j j (q (yP j j AP)<|nl)<|us<|gs<|?_
 obtain ⟨x12,DZ,h⟩:=bs h
 refine g0 j j (q (oMv j j)<|q (oMv j j)<|q (oNl j j j)<|q (oFA (r':=.im 2 _) j jR j j)<|q (oLd (cs:=[.im 2 _]) j tF2 j j)<|q (BJ j DZ j j)<|q (ai j j)<|nl)<|us<|gs<|?_
 obtain ⟨x18,OT,h⟩:=bs h
 refine g0 j j (q (oMv j j)<|q (oMv j j)<|q (oNl j j j)<|q (oFA (r':=.im 2 _) j jR j j)<|q (oLd (cs:=[.im 2 _]) j tF2 j j)<|q (TK j OT j j)<|q (ai j j)<|nl)<|us<|gs<|?_
 obtain ⟨x23,OY,h⟩:=bs h
 obtain ⟨x28,hx28,h⟩:=bs h
 obtain ⟨x33,Ub,h⟩:=bs h
 obtain ⟨x38,hx38,h⟩:=bs h
 refine g0 j j (q (oMv j j)<|q (oMv j j)<|q (oBi j j j j)<|q (oMv j j)<|q (oCa (xs:=[.v false [.im 2 _],.v false [.im 0 _],.v false [.im 0 _]]) (vs:=[(false,[.im 0 _])]) (v:=.v false [.im 0 _]) (kQ OY) (.inl j) j rq j (ppC j (ppC j (ppC j pp0))) j j pb0 j j j)<|q (oMv j j)<|q (oMv j j)<|q (oMv j j)<|q (oBi j j j j)<|q (oCa (xs:=[.v false [.im 2 _],.v false [.im 0 _],.v false [.im 0 _]]) (vs:=[(false,[.im 0 _])]) (v:=.v false [.im 0 _]) (kQ hx28) (.inl j) j rq j (ppC j (ppC j (ppC j pp0))) j j pb0 j j j)<|q (oMv j j)<|q (oMv j j)<|q (oBi j j j j)<|q (oMv j j)<|q (oCa (xs:=[.v false [.im 2 _],.v false [.im 0 _],.v false [.im 0 _]]) (vs:=[(false,[.im 0 _])]) (v:=.v false [.im 0 _]) (kQ Ub) (.inl j) j rq j (ppC j (ppC j (ppC j pp0))) j j pb0 j j j)<|q (oMv j j)<|q (oMv j j)<|q (oMv j j)<|q (oBi j j j j)<|q (oCa (xs:=[.v false [.im 2 _],.v false [.im 0 _],.v false [.im 0 _]]) (vs:=[(false,[.im 0 _])]) (v:=.v false [.im 0 _]) (kQ hx38) (.inl j) j rq j (ppC j (ppC j (ppC j pp0))) j j pb0 j j j)<|q (oBS (es:=List.map eI ([x23,x28,x33,x38]:List Int)) j cu j (ptC j (fxI fx0) j (ptC j (fxI fx0) j (ptC j (fxI fx0) j (ptC j (fxI fx0) j pt0)))) (fC j fun _=>j))<|q (qO j j j j j)<|nl)<|us<|Go.ret (Unw.ret ?_)
 cases h
 exact fr Xl j
theorem AZ {t_0:ae} {k_1:Int} {r:Bool} (h:di t_0 k_1=some r):FX 31 [.im 2 false [.cp (af t_0) 0],.im 2 false [I k_1]] (B0 [(false,[.im 0 (V r)])]):=by
 unfold di at h
 refine gn 87 Try.func31 rfl ?_
 refine gs<|g0 j j (q (ai j j)<|nl)<|us<|gs<|g0 j j (q (ai j j)<|nl)<|us<|gs<|g0 j j (q (ai j j)<|nl)<|us<|gs<|gs<|g0 j j (q (ai j j)<|nl)<|us<|Go.block<|?_
 obtain ⟨o,hl,h⟩:=bs h
 refine gl c31 j _ (fun (s:(Int×Int×Int))=>match s with | (kC,jL,kW)=>mk [(0,D 2 (.cp (af t_0) 0)),(1,iv k_1),(5,iv kC),(6,iv jL),(7,iv kW)] []) (fun (o:(Int×Int)) (p:Ex×St)=>match o with | (mG,ji)=>p.1= .exit 0∧p.2.norm ([0,1,5,6],[])=mk [(0,D 2 (.cp (af t_0) 0)),(1,iv k_1),(5,iv mG),(6,iv ji)] []) hl (by kernel_rfl) ?_ ?_ ?_
 ·intro o p hp e
  obtain ⟨mG,ji⟩:=o
  exact nomatch (hp.1.symm.trans e)
 ·rintro ⟨kC,jL,kW⟩ o h
  unfold iE at h
  dsimp only at h
  refine gs<|gs<|g0 j j (q (oMv j j)<|q (oMv j j)<|q (oNl j j j)<|q (oFA (r':=.im 2 _) j eP j j)<|q (oLd (cs:=[.im 2 _]) j jG j j)<|q (rE j j jH j)<|q (oBi j j j j)<|nl)<|us<|gc h j aj (fun Xt h=>?_) fun Xt h=>?_
  ·refine Go.skip<|us<|gs<|Go.join (fun st=>∃sV,∃xJ,jB kW sV xJ=some o∧st.norm ([0,1,5,6,7],[])=mk [(0,D 2 (.cp (af t_0) 0)),(1,iv k_1),(5,iv sV),(6,iv xJ),(7,iv kW)] []) ?_ ?_
   ·rintro st ⟨sV,xJ,h,hst⟩
    unfold jB at h
    refine us<|g2 c31 j j hst (q (oMv j j)<|q (oBi j j j j)<|q (ai j j)<|nl)<|Unw.nil<|?_
    cases h
    exact ⟨j,(by kernel_rfl)⟩
   ·intro K45
    refine Go.block<|gs<|?_
    obtain ⟨x26,OZ,h⟩:=bs h
    refine g0 j j (q (oMv j j)<|q (oNl j j j)<|q (oFA (r':=.im 2 _) j eP j j)<|q (oLd (cs:=[.im 2 _]) j jG j j)<|q (oMv j j)<|q (mZ j OZ cu j j)<|q (oLd (cs:=[.im 2 _]) j tF2 j j)<|q (oMv j j)<|q (oBi j j j j)<|nl)<|us<|gc h j iEq (fun Xu h=>?_) fun Xu h=>?_
    ·refine gs<|gs<|g0 j j (q (oMv j j)<|q (oBi j j j j)<|nl)<|us<|Go.join (fun st=>∃qh,jC jL kW qh=some o∧st.norm ([0,1,5,6,7],[])=mk [(0,D 2 (.cp (af t_0) 0)),(1,iv k_1),(5,iv qh),(6,iv jL),(7,iv kW)] []) ?_ ?_
     ·rintro st ⟨qh,h,hst⟩
      unfold jC at h
      exact us<|g2 c31 j j hst (q (oMv j j)<|q (oBi j j j j)<|q (ai j j)<|nl)<|Unw.blk<|K45 _ ⟨qh,(w64 (jL+1)),h,(by kernel_rfl)⟩
     ·intro K48
      refine gc h j aj (fun Ug h=>?_) fun Ug h=>?_
      ·exact g0 j j (q (oMv j j)<|q (ai j j)<|nl)<|K48 _ ⟨kW,h,(by kernel_rfl)⟩
      ·exact Go.skip<|K48 _ ⟨kC,h,(by kernel_rfl)⟩
    ·exact Go.skip<|Unw.blk<|K45 _ ⟨kC,jL,h,(by kernel_rfl)⟩
  ·refine Go.exit<|ux<|Unw.nil<|?_
   cases h
   exact ⟨j,(by kernel_rfl)⟩
 ·rintro ⟨e,st⟩ hp
  obtain ⟨mG,ji⟩:=o
  dsimp only at h
  obtain ⟨he,hst⟩:=hp
  obtain rfl:e= .exit 0:=he
  refine Unw.nN<|us<|gs<|g2 c31 j j hst (q (oMv j j)<|q (oBS (es:=List.map eI ([mG]:List Int)) j cu j (ptC j (fxI fx0) j pt0) (fC j fun _=>j))<|q (qO j j j j j)<|nl)<|us<|gs<|gs<|g0 j j (q (ai j j)<|nl)<|us<|Go.block<|?_
  obtain ⟨o,hl,h⟩:=bs h
  refine gl c31 j _ (fun (s:(Int×(List Int)))=>match s with | (qE,lI)=>mk [(0,D 2 (.cp (af t_0) 0)),(1,iv k_1),(6,iv ji),(8,H 8 0),(9,iv qE)] [(8,Oc [Z (W 1 eI lI)])]) (fun (qG:(List Int)) (p:Ex×St)=>p.1= .exit 2∧p.2.norm ([6,8],[8])=mk [(6,iv ji),(8,H 8 0)] [(8,Oc [Z (W 1 eI qG)])]) hl (by kernel_rfl) ?_ ?_ ?_
  ·intro o p hp e
   exact nomatch (hp.1.symm.trans e)
  ·rintro ⟨qE,lI⟩ o h
   unfold cO at h
   dsimp only at h
   refine gs<|gs<|g0 j j (q (oMv j j)<|q (oMv j j)<|q (Gn j j jH j j j (fun e=>nomatch e))<|q (oBi j j j j)<|nl)<|us<|gc h j aj (fun hc25 h=>?_) fun hc25 h=>?_
   ·refine Go.skip<|us<|gs<|Go.block<|gs<|?_
    obtain ⟨x46,Rn,h⟩:=bs h
    obtain ⟨x48,OV,h⟩:=bs h
    refine g0 j j (q (oMv j j)<|q (oMv j j)<|q (oMv j j)<|q (yj j Rn cu j j j j)<|q (zJ (cs:=[.im 0 _]) j tF2 j j j j (iQ Rn) j j)<|q (oCr (xs:=[.v false [.im 2 _],.v false [.im 0 _]]) (vs:=[(false,[.own 48 0 0])]) (v:=.v false [.own 48 0 0]) (c:=⟨.sh,0,_⟩) (cs:=[]) (AY OV) (.inl j) j MG j (ppC j (ppC j pp0)) j j pb0 j j j)<|q (qO j j j j j)<|nl)<|us<|gs<|g0 j j (q (ai j j)<|nl)<|us<|Go.block<|?_
    obtain ⟨o,hl,h⟩:=bs h
    refine gl c31 j _ (fun (s:(Int×(List Int)))=>match s with | (jy,jA)=>mk [(0,D 2 (.cp (af t_0) 0)),(1,iv k_1),(6,iv ji),(8,H 8 0),(9,iv qE),(10,H 10 0),(11,iv jy)] [(8,Oc [Z (W 1 eI jA)]),(10,Oc [Z (W 1 eI x48)])]) (fun (qF:(List Int)) (p:Ex×St)=>p.1= .exit 4∧p.2.norm ([0,1,6,8,9],[8])=mk [(0,D 2 (.cp (af t_0) 0)),(1,iv k_1),(6,iv ji),(8,H 8 0),(9,iv qE)] [(8,Oc [Z (W 1 eI qF)])]) hl (by kernel_rfl) ?_ ?_ ?_
    ·intro o p hp e
     exact nomatch (hp.1.symm.trans e)
    ·rintro ⟨jy,jA⟩ o h
     unfold eH at h
     dsimp only at h
     refine gs<|gs<|g0 j j (q (oMv j j)<|q (oMv j j)<|q (Gn j j jH j j j (fun e=>nomatch e))<|q (oBi j j j j)<|nl)<|us<|gc h j aj (fun hc34 h=>?_) fun hc34 h=>?_
     ·refine Go.skip<|us<|gs<|Go.join (fun st=>∃qV,jh jy qV=some o∧st.norm ([0,1,6,8,9,10,11],[8,10])=mk [(0,D 2 (.cp (af t_0) 0)),(1,iv k_1),(6,iv ji),(8,H 8 0),(9,iv qE),(10,H 10 0),(11,iv jy)] [(8,Oc [Z (W 1 eI qV)]),(10,Oc [Z (W 1 eI x48)])]) ?_ ?_
      ·rintro st ⟨qV,h,hst⟩
       unfold jh at h
       refine us<|g2 c31 j j hst (q (oMv j j)<|q (oBi j j j j)<|q (ai j j)<|nl)<|Unw.nil<|?_
       cases h
       exact ⟨j,(by kernel_rfl)⟩
      ·intro K38
       refine Go.block<|gs<|?_
       obtain ⟨x61,yY,h⟩:=bs h
       obtain ⟨x63,Uh,h⟩:=bs h
       obtain ⟨DV,GK,h⟩:=bs h
       refine gd c31 j j j j (mk [(0,D 2 (.cp (af t_0) 0)),(1,iv k_1),(6,iv ji),(8,H 8 0),(9,iv qE),(10,H 10 0),(11,iv jy),(75,bv DV)] [(8,Oc [Z (W 1 eI jA)]),(10,Oc [Z (W 1 eI x48)])]) ?_ ?_
       ·refine t j j (oMv j j)<|t j j (oNl j j j)<|t j j (oFA (r':=.im 2 _) j eP j j)<|t j j (oLd (cs:=[.im 2 _]) j jG j j)<|t j j (oMv j j)<|t j j (oMv j j)<|t j j (yj j yY cu j j j j)<|t j j (zJ (cs:=[.im 0 _]) j tF2 j j j j (iQ yY) j j)<|t j j (mZ j Uh cu j j)<|t j j (oLd (cs:=[.im 2 _]) j tF2 j j)<|t j j (oMv j j)<|t j j (oBi j j j j)<|t j j (oMv j j)<|?_
        refine ic GK (fun hc39 GK=>?_) fun hc39 GK=>?_
        ·obtain ⟨x71,Vt,GK⟩:=bs GK
         obtain ⟨x73,Xv,GK⟩:=bs GK
         cases GK
         exact tT j j j j (iEq.2 hc39) (oMv j j)<|tT j j j j (iEq.2 hc39) (oMv j j)<|tT j j j j (iEq.2 hc39) (oMv j j)<|tT j j j j (iEq.2 hc39) (yj j Vt cu j j j j)<|tT j j j j (iEq.2 hc39) (zJ (cs:=[.im 0 _]) j tF2 j j j j (iQ Vt) j j)<|sS (dT z31 j j j (iEq.2 hc39) (oCa (xs:=[.v false [.own 8 0 0],.v false [.im 0 _]]) (vs:=[(false,[.im 0 _])]) (v:=.v false [.im 0 _]) (uJ Xv) (.inl j) j AU j (ppC j (ppC j pp0)) j j pb0 j j j)) trivial (tT j j j j (iEq.2 hc39) (oUn j j j)<|t j j (dZ j j (iEq.2 hc39) j)<|sD (by kernel_rfl))
        ·cases GK
         exact tF j j j j (byF iEq hc39) j<|tF j j j j (byF iEq hc39) j<|tF j j j j (byF iEq hc39) j<|tF j j j j (byF iEq hc39) j<|tF j j j j (byF iEq hc39) j<|sS (dF j j j (byF iEq hc39) j) trivial (tF j j j j (byF iEq hc39) j<|t j j (kM j j (byF iEq hc39) j)<|sD (by kernel_rfl))
       ·refine us<|gc h j iR (fun Xw h=>?_) fun Xw h=>?_
        ·obtain ⟨x79,MI,h⟩:=bs h
         obtain ⟨x82,OX,h⟩:=bs h
         exact g0 j j (q (oMv j j)<|q (oMv j j)<|q (oMv j j)<|q (yj j MI cu j j j j)<|q (zJ (cs:=[.im 0 _]) j tF2 j j j j (iQ MI) j j)<|q (oBS (es:=List.map eI ([x79]:List Int)) j cu j (ptC j (fxI fx0) j pt0) (fC j fun _=>j))<|q (yQ (en:=eI) (M:=([x79]:List Int)) j OX j cu j j jH (.inl ⟨_,j⟩) j j j j (nO j j) (fC j fun _=>j))<|q (qO j j j j j)<|nl)<|Unw.blk<|K38 _ ⟨x82,h,(by kernel_rfl)⟩
        ·exact Go.skip<|Unw.blk<|K38 _ ⟨jA,h,(by kernel_rfl)⟩
     ·refine Go.exit<|ux<|Unw.nil<|?_
      cases h
      exact ⟨j,(by kernel_rfl)⟩
    ·rintro ⟨e,st⟩ hp
     obtain ⟨qF,rfl⟩:∃y,y=o:=⟨o,rfl⟩
     obtain ⟨he,hst⟩:=hp
     obtain rfl:e= .exit 4:=he
     refine Unw.nN<|Unw.blk<|us<|g2 c31 j j hst (q (oMv j j)<|q (oBi j j j j)<|q (ai j j)<|nl)<|Unw.nil<|?_
     cases h
     exact ⟨j,(by kernel_rfl)⟩
   ·refine Go.exit<|ux<|Unw.nil<|?_
    cases h
    exact ⟨j,(by kernel_rfl)⟩
  ·rintro ⟨e,st⟩ hp
   obtain ⟨qG,rfl⟩:∃y,y=o:=⟨o,rfl⟩
   obtain ⟨he,hst⟩:=hp
   obtain rfl:e= .exit 2:=he
   refine Unw.nN<|us<|gs<|g2 c31 j j hst (q (oMv j j)<|q (Gn j j jH j j j (fun e=>nomatch e))<|q (oMv j j)<|q (oBi j j j j)<|q (ai j j)<|nl)<|us<|Go.ret (Unw.ret ?_)
   cases h
   exact fr Xc j
theorem wH {t_0:ae} {r:Bool} (h:iI t_0=some r):FX 16 [.im 2 false [.cp (af t_0) 0]] (B0 [(false,[.im 0 (V r)])]):=by
 unfold iI at h
 refine gn 49 Try.func16 rfl ?_
 refine gs<|g0 j j (q (ai j j)<|nl)<|us<|gs<|gs<|?_
 obtain ⟨x9,hx9,h⟩:=bs h
 obtain ⟨Gt,D6,h⟩:=bs h
 refine gd c16 j j j j (mk [(0,D 2 (.cp (af t_0) 0)),(35,bv Gt)] []) ?_ ?_
 ·refine t j j (oMv j j)<|t j j (oNl j j j)<|t j j (oFA (r':=.im 2 _) j jR j j)<|?_
  refine ic D6 (fun hc1 D6=>?_) fun hc1 D6=>?_
  ·obtain ⟨x16,hx16,D6⟩:=bs D6
   refine ic D6 (fun hc2 D6=>?_) fun hc2 D6=>?_
   ·cases D6
    exact t j j (oLd (cs:=[.im 2 _]) j tF2 j j)<|sS (dN z16 j (oCa (xs:=[.v false [.im 2 _],.v false [.im 0 _],.v false [.im 0 _]]) (vs:=[(false,[.im 0 _])]) (v:=.v false [.im 0 _]) (kF hx9) (.inl j) j nU j (ppC j (ppC j (ppC j pp0))) j j pb0 j j j)) trivial (t j j (oUn j j j)<|t j j (oMv j j)<|tT j j j j (nF (iR.2 hc1)) (oMv j j)<|tT j j j j (nF (iR.2 hc1)) (oNl j j j)<|tT j j j j (nF (iR.2 hc1)) (oFA (r':=.im 2 _) j rG j j)<|tT j j j j (nF (iR.2 hc1)) (oLd (cs:=[.im 2 _]) j tF2 j j)<|sS (dT z16 j j j (nF (iR.2 hc1)) (oCa (xs:=[.v false [.im 2 _],.v false [.im 0 _],.v false [.im 0 _]]) (vs:=[(false,[.im 0 _])]) (v:=.v false [.im 0 _]) (kF hx16) (.inl j) j nU j (ppC j (ppC j (ppC j pp0))) j j pb0 j j j)) trivial (tT j j j j (nF (iR.2 hc1)) (oUn j j j)<|t j j (kM j j (nF (iR.2 hc1)) j)<|t j j (oMv j j)<|tT j j j j (nF (iR.2 hc2)) (oMv j j)<|tT j j j j (nF (iR.2 hc2)) (oNl j j j)<|tT j j j j (nF (iR.2 hc2)) (oFA (r':=.im 2 _) j eP j j)<|tT j j j j (nF (iR.2 hc2)) (oLd (cs:=[.im 2 _]) j jG j j)<|tT j j j j (nF (iR.2 hc2)) (rE j j jH j)<|tT j j j j (nF (iR.2 hc2)) (oMv j j)<|tT j j j j (nF (iR.2 hc2)) (oNl j j j)<|tT j j j j (nF (iR.2 hc2)) (oFA (r':=.im 2 _) j jR j j)<|tT j j j j (nF (iR.2 hc2)) (oLd (cs:=[.im 2 _]) j tF2 j j)<|tT j j j j (nF (iR.2 hc2)) (oMv j j)<|tT j j j j (nF (iR.2 hc2)) (oNl j j j)<|tT j j j j (nF (iR.2 hc2)) (oFA (r':=.im 2 _) j rG j j)<|tT j j j j (nF (iR.2 hc2)) (oLd (cs:=[.im 2 _]) j tF2 j j)<|tT j j j j (nF (iR.2 hc2)) (oBi j j j j)<|tT j j j j (nF (iR.2 hc2)) (oBi j j j j)<|t j j (kM j j (nF (iR.2 hc2)) j)<|sD (by kernel_rfl)))
   ·cases D6
    exact t j j (oLd (cs:=[.im 2 _]) j tF2 j j)<|sS (dN z16 j (oCa (xs:=[.v false [.im 2 _],.v false [.im 0 _],.v false [.im 0 _]]) (vs:=[(false,[.im 0 _])]) (v:=.v false [.im 0 _]) (kF hx9) (.inl j) j nU j (ppC j (ppC j (ppC j pp0))) j j pb0 j j j)) trivial (t j j (oUn j j j)<|t j j (oMv j j)<|tT j j j j (nF (iR.2 hc1)) (oMv j j)<|tT j j j j (nF (iR.2 hc1)) (oNl j j j)<|tT j j j j (nF (iR.2 hc1)) (oFA (r':=.im 2 _) j rG j j)<|tT j j j j (nF (iR.2 hc1)) (oLd (cs:=[.im 2 _]) j tF2 j j)<|sS (dT z16 j j j (nF (iR.2 hc1)) (oCa (xs:=[.v false [.im 2 _],.v false [.im 0 _],.v false [.im 0 _]]) (vs:=[(false,[.im 0 _])]) (v:=.v false [.im 0 _]) (kF hx16) (.inl j) j nU j (ppC j (ppC j (ppC j pp0))) j j pb0 j j j)) trivial (tT j j j j (nF (iR.2 hc1)) (oUn j j j)<|t j j (kM j j (nF (iR.2 hc1)) j)<|t j j (oMv j j)<|tF j j j j (nT (byF iR hc2)) j<|tF j j j j (nT (byF iR hc2)) j<|tF j j j j (nT (byF iR hc2)) j<|tF j j j j (nT (byF iR hc2)) j<|tF j j j j (nT (byF iR hc2)) j<|tF j j j j (nT (byF iR hc2)) j<|tF j j j j (nT (byF iR hc2)) j<|tF j j j j (nT (byF iR hc2)) j<|tF j j j j (nT (byF iR hc2)) j<|tF j j j j (nT (byF iR hc2)) j<|tF j j j j (nT (byF iR hc2)) j<|tF j j j j (nT (byF iR hc2)) j<|tF j j j j (nT (byF iR hc2)) j<|tF j j j j (nT (byF iR hc2)) j<|tF j j j j (nT (byF iR hc2)) j<|t j j (dZ j j (nT (byF iR hc2)) j)<|sD (by kernel_rfl)))
  ·cases D6
   exact t j j (oLd (cs:=[.im 2 _]) j tF2 j j)<|sS (dN z16 j (oCa (xs:=[.v false [.im 2 _],.v false [.im 0 _],.v false [.im 0 _]]) (vs:=[(false,[.im 0 _])]) (v:=.v false [.im 0 _]) (kF hx9) (.inl j) j nU j (ppC j (ppC j (ppC j pp0))) j j pb0 j j j)) trivial (t j j (oUn j j j)<|t j j (oMv j j)<|tF j j j j (nT (byF iR hc1)) j<|tF j j j j (nT (byF iR hc1)) j<|tF j j j j (nT (byF iR hc1)) j<|tF j j j j (nT (byF iR hc1)) j<|sS (dF j j j (nT (byF iR hc1)) j) trivial (tF j j j j (nT (byF iR hc1)) j<|t j j (dZ j j (nT (byF iR hc1)) j)<|t j j (oMv j j)<|tF j j j j j j<|tF j j j j j j<|tF j j j j j j<|tF j j j j j j<|tF j j j j j j<|tF j j j j j j<|tF j j j j j j<|tF j j j j j j<|tF j j j j j j<|tF j j j j j j<|tF j j j j j j<|tF j j j j j j<|tF j j j j j j<|tF j j j j j j<|tF j j j j j j<|t j j (dZ j j j j)<|sD (by kernel_rfl)))
 ·refine us<|gc h j iR (fun hc3 h=>?_) fun hc3 h=>?_
  ·refine gs<|g0 j j (q (ai j j)<|nl)<|us<|Go.ret (Unw.ret ?_)
   cases h
   exact fr TV j
  ·refine Go.skip<|us<|gs<|?_
   obtain ⟨x37,Et,h⟩:=bs h
   refine g0 j j (q (oMv j j)<|q (oCa (xs:=[.v false [.im 2 _]]) (vs:=[(false,[.im 0 _])]) (v:=.v false [.im 0 _]) (xK Et) (.inl j) j KI j (ppC j pp0) j j pb0 j j j)<|q (ai j j)<|nl)<|us<|gs<|gs<|g0 j j (q (ai j j)<|nl)<|us<|Go.block<|?_
   obtain ⟨o,hl,h⟩:=bs h
   refine gl c16 j _ (fun (AB:Int)=>mk [(0,D 2 (.cp (af t_0) 0)),(3,iv x37),(4,iv AB)] []) (fun (o:(Unit ⊕ Bool)) (p:Ex×St)=>match o with | (.inl _)=>p.1= .exit 0∧p.2.norm ([3],[])=mk [(3,iv x37)] [] | (.inr r2)=>p.1= .ret∧fin Try.prog cfg 16 Try.f16 [.im 2 false [.cp (af t_0) 0]] p.2=some (B0 [(false,[.im 0 (V r2)])])) hl (by kernel_rfl) ?_ ?_ ?_
   ·intro o p hp e
    rcases o with u | r2<;>exact nomatch (hp.1.symm.trans e)
   ·rintro AB o h
    unfold dR at h
    refine gs<|gs<|g0 j j (q (oMv j j)<|q (oMv j j)<|q (oBi j j j j)<|nl)<|us<|gc h j aj (fun hc8 h=>?_) fun hc8 h=>?_
    ·refine Go.skip<|us<|gs<|Go.block<|gs<|?_
     obtain ⟨x45,Ue,h⟩:=bs h
     refine g0 j j (q (oMv j j)<|q (oMv j j)<|q (oCa (xs:=[.v false [.im 2 _],.v false [.im 0 _]]) (vs:=[(false,[.im 0 _])]) (v:=.v false [.im 0 _]) (AZ Ue) (.inl j) j MC j (ppC j (ppC j pp0)) j j pb0 j j j)<|q (oUn j j j)<|nl)<|us<|?_
     by_cases hc9:x45=true
     ·rw [if_pos hc9] at h
      refine gF j (nF (iR.2 hc9))<|Go.skip<|Unw.blk<|us<|g0 j j (q (oMv j j)<|q (oBi j j j j)<|q (ai j j)<|nl)<|Unw.nil<|?_
      cases h
      exact ⟨j,(by kernel_rfl)⟩
     ·rw [if_neg hc9] at h
      refine gT j (nT (byF iR hc9))<|gs<|g0 j j (q (ai j j)<|nl)<|us<|Go.ret (Unw.ret ?_)
      cases h
      exact ⟨j,(fo TV j)⟩
    ·refine Go.exit<|ux<|Unw.nil<|?_
     cases h
     exact ⟨j,(by kernel_rfl)⟩
   ·rintro ⟨e,st⟩ hp
    rcases o with u | r2
    ·dsimp only at h
     obtain ⟨he,hst⟩:=hp
     obtain rfl:e= .exit 0:=he
     refine Unw.nN<|us<|gs<|g2 c16 j j hst (q (oMv j j)<|q (oBi j j j j)<|q (ai j j)<|nl)<|us<|Go.ret (Unw.ret ?_)
     cases h
     exact fr TV j
    ·dsimp only at h
     obtain ⟨he,hfin⟩:=hp
     obtain rfl:e= .ret:=he
     cases h
     exact Unw.ret (nH hfin)
theorem BM {dB:(List Int)} {r:ae} (h:ng dB=some r):FX 5 [.im 2 false [W 1 (eK .u8) dB]] (B0 [(true,[.im 0 (I r.aB),.im 0 (I r.High),.ow 0 1 (List.map eI r.Cells)])]):=by
 unfold ng at h
 refine gn 14 Try.func5 rfl ?_
 refine gs<|g0 j j (q (oAl j dS (tkI (tkI (tkN tk0))))<|nl)<|us<|gs<|?_
 obtain ⟨x6,hx6,h⟩:=bs h
 refine g0 j j (q (oMv j j)<|q (oCp (xs:=[.v false [.im 2 _]]) (DY hx6) (.inl j) j Q7 j (ppC j pp0) j j pb0 j)<|q (TJ j j)<|nl)<|us<|gs<|?_
 obtain ⟨x8,hx8,h⟩:=bs h
 refine g0 j j (q (oMv j j)<|q (oCr (xs:=[.v false [.mp 6 0 0]]) (vs:=[(true,[.im 0 _,.im 0 _,.own 8 0 0])]) (v:=.v true [.im 0 _,.im 0 _,.own 8 0 0]) (c:=⟨.sh,0,_⟩) (cs:=[]) (D5 hx8) (.inl j) j Q8 j (ppP j j j pp0) j j (pbP j j pb0) j j j)<|q (oAl j dS (tkI (tkI (tkN tk0))))<|q (oSt dS j j j (tkI (tkI (tkO j j tk0))) j j j)<|nl)<|us<|gs<|gs<|?_
 obtain ⟨x9,hx9,h⟩:=bs h
 refine g1 j j (mk [(2,M 2),(4,M 4)] [(2,Oa [C (I 0),C (I 0),Z (W 1 eI ([]:List Int))]),(4,Oa [C (I x8.1.aB),C (I x8.1.High),Z (W 1 eI x8.1.Cells)])]) (q (oCa (xs:=[.v false [.mp 4 0 0]]) (vs:=[(false,[.im 0 _])]) (v:=.v false [.im 0 _]) (wH hx9) (.inl j) j GG j (ppC j pp0) j j pb0 j j j)<|q (oUn j j j)<|nl)<|us<|?_
 by_cases hc1:x9=true
 ·rw [if_pos hc1] at h
  refine gF j (nF (iR.2 hc1))<|Go.skip<|us<|gs<|g0 j j (q (oLd (cs:=[.im 0 _,.im 0 _,.own 4 0 2]) j dS j j)<|q (oSt dS j j j (tkI (tkI (tkO j j tk0))) j j j)<|nl)<|us<|Go.ret (Unw.ret ?_)
  cases h
  exact fr rF5 j
 ·rw [if_neg hc1] at h
  refine gT j (nT (byF iR hc1))<|gs<|g0 j j (q (oBS (es:=List.map eI ([0,0,1,1]:List Int)) j cu j (ptC j (fxI fx0) j (ptC j (fxI fx0) j (ptC j (fxI fx0) j (ptC j (fxI fx0) j pt0)))) (fC j fun _=>j))<|q (oBu (cs:=[.im 0 _,.im 0 _,.own 11 0 0]) j Ep j)<|q (oSt dS j j j (tkI (tkI (tkO j j tk0))) j j j)<|nl)<|us<|Go.ret (Unw.ret ?_)
  cases h
  exact fr rF5 j
theorem qK {n_0:Int} {vF:Int} {qg:Int} {r:Bool} (h:jS n_0 vF qg=some r):FX 18 [.im 2 false [I n_0],.im 2 false [I vF],.im 2 false [I qg]] (B0 [(false,[.im 0 (V r)])]):=by
 unfold jS at h
 refine gn 15 Try.func18 rfl ?_
 refine gs<|g0 j j (q (ai j j)<|nl)<|us<|gs<|gX c18 j j j (mk [(6,bv ((decide (n_0≥vF))&&(decide (n_0≤qg))))] []) ?_ ?_
 ·refine xq (oMv j j)<|xq (oMv j j)<|xq (oBi j j j j)<|xq (oMv j j)<|?_
  by_cases hc1:n_0≥vF
  ·exact xqT rfl rfl (aj.2 hc1) (oMv rfl rfl)<|xqT rfl rfl (aj.2 hc1) (oMv rfl rfl)<|xqT rfl rfl (aj.2 hc1) (oBi rfl rfl rfl rfl)<|xq (dZ rfl rfl (aj.2 hc1) rfl)<|xq (ai rfl rfl)<|xn (Eq.trans (b:=(fun nV:Bool=>mk [(6,bv nV)] []) (decide (n_0≤qg))) (by kernel_rfl) (congrArg (fun nV:Bool=>mk [(6,bv nV)] []) (by first | rfl | (simp [(aj.2 hc1)];done) | (simp [(aj.2 hc1)];omega))))
  ·exact aC rfl rfl (byF aj hc1) rfl<|aC rfl rfl (byF aj hc1) rfl<|aC rfl rfl (byF aj hc1) rfl<|xq (kM rfl rfl (byF aj hc1) rfl)<|xq (ai rfl rfl)<|xn (Eq.trans (b:=(fun nV:Bool=>mk [(6,bv nV)] []) false) (by kernel_rfl) (congrArg (fun nV:Bool=>mk [(6,bv nV)] []) (by first | rfl | (simp [(byF aj hc1)];done) | (simp [(byF aj hc1)];omega))))
 ·refine us<|Go.ret (Unw.ret ?_)
  cases h
  exact fr WT j
theorem uK {x_0:(List Int)} {r:Int} (h:fD x_0=some r):FX 32 [.im 2 false [W 1 eI x_0]] (B0 [(false,[.im 0 (I r)])]):=by
 unfold fD at h
 refine gn 25 Try.func32 rfl ?_
 refine gs<|g0 j j (q (ai j j)<|nl)<|us<|gs<|gs<|g0 j j (q (oMv j j)<|q (rE j j jH j)<|q (oBi j j j j)<|nl)<|us<|gc h j aj (fun hc2 h=>?_) fun hc2 h=>?_
 ·cases h
 ·refine Go.skip<|us<|gs<|?_
  obtain ⟨x10,Ui,h⟩:=bs h
  refine g0 j j (q (oMv j j)<|q (mZ j Ui cu j j)<|q (oLd (cs:=[.im 2 _]) j tF2 j j)<|q (ai j j)<|nl)<|us<|gs<|gs<|g0 j j (q (ai j j)<|nl)<|us<|Go.block<|?_
  obtain ⟨o,hl,h⟩:=bs h
  refine gl c32 j _ (fun (s:(Int×Int))=>match s with | (sW,qi)=>mk [(0,D 2 (W 1 eI x_0)),(3,iv sW),(4,iv qi)] []) (fun (oM:Int) (p:Ex×St)=>p.1= .exit 0∧p.2.norm ([3],[])=mk [(3,iv oM)] []) hl (by kernel_rfl) ?_ ?_ ?_
  ·intro o p hp e
   exact nomatch (hp.1.symm.trans e)
  ·rintro ⟨sW,qi⟩ o h
   unfold bD at h
   dsimp only at h
   refine gs<|gs<|g0 j j (q (oMv j j)<|q (oMv j j)<|q (rE j j jH j)<|q (oBi j j j j)<|nl)<|us<|gc h j aj (fun hc5 h=>?_) fun hc5 h=>?_
   ·refine Go.skip<|us<|gs<|Go.block<|?_
    obtain ⟨x21,D7,h⟩:=bs h
    refine g0 j j (q (oMv j j)<|q (oMv j j)<|q (oMv j j)<|q (mZ j D7 cu j j)<|q (oLd (cs:=[.im 2 _]) j tF2 j j)<|q (Wv j j)<|q (ai j j)<|nl)<|Unw.blk<|us<|g0 j j (q (oMv j j)<|q (oBi j j j j)<|q (ai j j)<|nl)<|Unw.nil<|?_
    cases h
    exact ⟨j,(by kernel_rfl)⟩
   ·refine Go.exit<|ux<|Unw.nil<|?_
    cases h
    exact ⟨j,(by kernel_rfl)⟩
  ·rintro ⟨e,st⟩ hp
   obtain ⟨oM,rfl⟩:∃y,y=o:=⟨o,rfl⟩
   obtain ⟨he,hst⟩:=hp
   obtain rfl:e= .exit 0:=he
   refine Unw.nN<|us<|gs<|g2 c32 j j hst (q (oMv j j)<|q (ai j j)<|nl)<|us<|Go.ret (Unw.ret ?_)
   cases h
   exact fr Xd j
theorem nD {x_0:(List Int)} {r:Int} (h:dV x_0=some r):FX 33 [.im 2 false [W 1 eI x_0]] (B0 [(false,[.im 0 (I r)])]):=by
 unfold dV at h
 refine gn 25 Try.func33 rfl ?_
 refine gs<|g0 j j (q (ai j j)<|nl)<|us<|gs<|gs<|g0 j j (q (oMv j j)<|q (rE j j jH j)<|q (oBi j j j j)<|nl)<|us<|gc h j aj (fun hc2 h=>?_) fun hc2 h=>?_
 ·cases h
 ·refine Go.skip<|us<|gs<|?_
  obtain ⟨x10,Ui,h⟩:=bs h
  refine g0 j j (q (oMv j j)<|q (mZ j Ui cu j j)<|q (oLd (cs:=[.im 2 _]) j tF2 j j)<|q (ai j j)<|nl)<|us<|gs<|gs<|g0 j j (q (ai j j)<|nl)<|us<|Go.block<|?_
  obtain ⟨o,hl,h⟩:=bs h
  refine gl c33 j _ (fun (s:(Int×Int))=>match s with | (sW,qi)=>mk [(0,D 2 (W 1 eI x_0)),(3,iv sW),(4,iv qi)] []) (fun (oM:Int) (p:Ex×St)=>p.1= .exit 0∧p.2.norm ([3],[])=mk [(3,iv oM)] []) hl (by kernel_rfl) ?_ ?_ ?_
  ·intro o p hp e
   exact nomatch (hp.1.symm.trans e)
  ·rintro ⟨sW,qi⟩ o h
   unfold bF at h
   dsimp only at h
   refine gs<|gs<|g0 j j (q (oMv j j)<|q (oMv j j)<|q (rE j j jH j)<|q (oBi j j j j)<|nl)<|us<|gc h j aj (fun hc5 h=>?_) fun hc5 h=>?_
   ·refine Go.skip<|us<|gs<|Go.block<|?_
    obtain ⟨x21,D7,h⟩:=bs h
    refine g0 j j (q (oMv j j)<|q (oMv j j)<|q (oMv j j)<|q (mZ j D7 cu j j)<|q (oLd (cs:=[.im 2 _]) j tF2 j j)<|q (Iw j j)<|q (ai j j)<|nl)<|Unw.blk<|us<|g0 j j (q (oMv j j)<|q (oBi j j j j)<|q (ai j j)<|nl)<|Unw.nil<|?_
    cases h
    exact ⟨j,(by kernel_rfl)⟩
   ·refine Go.exit<|ux<|Unw.nil<|?_
    cases h
    exact ⟨j,(by kernel_rfl)⟩
  ·rintro ⟨e,st⟩ hp
   obtain ⟨oM,rfl⟩:∃y,y=o:=⟨o,rfl⟩
   obtain ⟨he,hst⟩:=hp
   obtain rfl:e= .exit 0:=he
   refine Unw.nN<|us<|gs<|g2 c33 j j hst (q (oMv j j)<|q (ai j j)<|nl)<|us<|Go.ret (Unw.ret ?_)
   cases h
   exact fr Xe j
theorem wI {t_0:ae} {r:Int} (h:lJ t_0=some r):FX 26 [.im 2 true (af t_0)] (B0 [(false,[.im 0 (I r)])]):=by
 unfold lJ at h
 refine gn 7 Try.func26 rfl ?_
 refine gs<|g0 j j (q (oBx j dS j (tkI (tkI (tkI tk0))))<|q (ai j j)<|nl)<|us<|gs<|?_
 obtain ⟨x5,hx5,h⟩:=bs h
 refine g0 j j (q (oFA (r':=.mp 1 0 2) j eP j j)<|q (oLd (cs:=[.im 2 _]) j jG j j)<|q (oCa (xs:=[.v false [.im 2 _]]) (vs:=[(false,[.im 0 _])]) (v:=.v false [.im 0 _]) (nD hx5) (.inl j) j KJ j (ppC j pp0) j j pb0 j j j)<|q (oBi j j j j)<|q (ai j j)<|nl)<|us<|Go.ret (Unw.ret ?_)
 cases h
 exact fr WZ j
theorem tX {s_0:(List Int)} {v_1:Int} {r:Int} (h:dw s_0 v_1=some r):FX 34 [.im 2 false [W 1 eI s_0],.im 2 false [I v_1]] (B0 [(false,[.im 0 (I r)])]):=by
 unfold dw at h
 refine gn 19 Try.func34 rfl ?_
 refine gs<|g0 j j (q (ai j j)<|nl)<|us<|gs<|gs<|g0 j j (q (oMv j j)<|q (rE j j jH j)<|q (oMv j j)<|nl)<|us<|Go.block<|?_
 obtain ⟨o,hl,h⟩:=bs h
 refine gl c34 j _ (fun (nS:Int)=>mk [(0,D 2 (W 1 eI s_0)),(1,iv v_1),(7,iv (s_0.length:Int)),(8,iv nS)] []) (fun (o:(Unit ⊕ Int)) (p:Ex×St)=>match o with | (.inl _)=>p.1= .exit 0∧p.2.norm ([],[])=mk [] [] | (.inr r2)=>p.1= .ret∧fin Try.prog cfg 34 Try.f34 [.im 2 false [W 1 eI s_0],.im 2 false [I v_1]] p.2=some (B0 [(false,[.im 0 (I r2)])])) hl (by kernel_rfl) ?_ ?_ ?_
 ·intro o p hp e
  rcases o with u | r2<;>exact nomatch (hp.1.symm.trans e)
 ·rintro nS o h
  unfold dH at h
  refine gs<|g0 j j (q (oBi j j j j)<|nl)<|us<|gs<|gc h j aj (fun hc5 h=>?_) fun hc5 h=>?_
  ·refine Go.skip<|us<|gs<|Go.block<|gs<|g0 j j (q (oMv j j)<|q (ai j j)<|nl)<|us<|gs<|?_
   obtain ⟨x14,JM,h⟩:=bs h
   refine g0 j j (q (oMv j j)<|q (oMv j j)<|q (oMv j j)<|q (mZ j JM cu j j)<|q (oLd (cs:=[.im 2 _]) j tF2 j j)<|q (oBi j j j j)<|nl)<|us<|gc h j iEq (fun hc6 h=>?_) fun hc6 h=>?_
   ·refine gs<|g0 j j (q (oMv j j)<|q (ai j j)<|nl)<|us<|Go.ret (Unw.ret ?_)
    cases h
    exact ⟨j,(fo Vg j)⟩
   ·refine Go.skip<|Unw.blk<|us<|g0 j j (q (oBi j j j j)<|q (oMv j j)<|nl)<|Unw.nil<|?_
    cases h
    exact ⟨j,(by kernel_rfl)⟩
  ·refine Go.exit<|ux<|Unw.nil<|?_
   cases h
   exact ⟨j,(by kernel_rfl)⟩
 ·rintro ⟨e,st⟩ hp
  rcases o with u | r2
  ·dsimp only at h
   obtain ⟨he,hst⟩:=hp
   obtain rfl:e= .exit 0:=he
   refine Unw.nN<|us<|gs<|g2 c34 j j hst (q (ai j j)<|nl)<|us<|Go.ret (Unw.ret ?_)
   cases h
   exact fr Vg j
  ·dsimp only at h
   obtain ⟨he,hfin⟩:=hp
   obtain rfl:e= .ret:=he
   cases h
   exact Unw.ret (nH hfin)
theorem uF {a_0:Int} {b_1:Int} {r:Int} (h:jM a_0 b_1=some r):FX 42 [.im 2 false [I a_0],.im 2 false [I b_1]] (B0 [(false,[.im 0 (I r)])]):=by
 unfold jM at h
 refine gn 12 Try.func42 rfl ?_
 refine gs<|g0 j j (q (ai j j)<|nl)<|us<|gs<|?_
 obtain ⟨x7,hx7,h⟩:=bs h
 obtain ⟨x11,JS,h⟩:=bs h
 refine g0 j j (q (oMv j j)<|q (oMv j j)<|q (BJ j hx7 j j)<|q (oMv j j)<|q (oBi j j j j)<|q (oMv j j)<|q (BJ j JS j j)<|q (ai j j)<|nl)<|us<|Go.ret (Unw.ret ?_)
 cases h
 exact fr Xk j
theorem iG {x_0:Int} {y_1:Int} {sZ:Int} {Gu:Int} {JD:(List Int)} {r:Int} (h:aJ x_0 y_1 sZ Gu JD=some r):FX 41 [.im 2 false [I x_0],.im 2 false [I y_1],.im 2 false [.cp [I sZ,I Gu,W 1 eI JD] 0]] (B0 [(false,[.im 0 (I r)])]):=by
 unfold aJ at h
 refine gn 18 Try.func41 rfl ?_
 refine gs<|g0 j j (q (ai j j)<|nl)<|us<|gs<|?_
 obtain ⟨x9,hx9,h⟩:=bs h
 obtain ⟨x16,hx16,h⟩:=bs h
 refine gd c41 j j j j (mk [(5,iv (w64 ((w64 (x9*sZ))+x16)))] []) (t j j (oMv j j)<|t j j (oFA (r':=.im 2 _) j rG j j)<|t j j (oLd (cs:=[.im 2 _]) j tF2 j j)<|t j j (oFA (r':=.im 2 _) j jR j j)<|t j j (oLd (cs:=[.im 2 _]) j tF2 j j)<|t j j (oMv j j)<|t j j (oFA (r':=.im 2 _) j jR j j)<|t j j (oLd (cs:=[.im 2 _]) j tF2 j j)<|sS (dN z41 j (oCa (xs:=[.v false [.im 2 _],.v false [.im 2 _]]) (vs:=[(false,[.im 0 _])]) (v:=.v false [.im 0 _]) (uF hx9) (.inl j) j zO j (ppC j (ppC j pp0)) j j pb0 j j j)) trivial (t j j (oBi j j j j)<|sS (dN z41 j (oCa (xs:=[.v false [.im 2 _],.v false [.im 2 _]]) (vs:=[(false,[.im 0 _])]) (v:=.v false [.im 0 _]) (uF hx16) (.inl j) j zO j (ppC j (ppC j pp0)) j j pb0 j j j)) trivial (t j j (oBi j j j j)<|sS (dN z41 j (ai j j)) trivial (sD (by kernel_rfl)))))<|us<|Go.ret (Unw.ret ?_)
 cases h
 exact fr Xj j
theorem lM {t_0:ae} {i_1:Int} {r:qA} (h:cZ t_0 i_1=some r):FX 23 [.im 2 true (af t_0),.im 2 false [I i_1]] (B0 [(true,J 0 (mJ r))]):=by
 unfold cZ at h
 refine gn 38 Try.func23 rfl ?_
 refine gs<|g0 j j (q (oBx j dS j (tkI (tkI (tkI tk0))))<|q (oAl j Rk (tkI (tkI (tkI (tkI tk0)))))<|nl)<|us<|gs<|?_
 obtain ⟨x11,JS,h⟩:=bs h
 obtain ⟨x15,OQ,h⟩:=bs h
 refine gd c23 j j j j (mk [(2,M 2),(4,M 4),(5,iv x11),(6,iv x15)] [(2,Oa (G 2 (af t_0))),(4,Oa [C (I 0),C (I 0),C (I 0),C (I 0)])]) (t j j (oMv j j)<|t j j (oFA (r':=.mp 2 0 0) j jR j j)<|t j j (oLd (cs:=[.im 0 _]) j tF2 j j)<|t j j (BJ j JS j j)<|t j j (oMv j j)<|sK (O:=[2]) j j j (dN z23 j (oFA (r':=.mp 2 0 0) j jR j j))<|sK (O:=[2]) j j j (dN z23 j (oLd (cs:=[.im 0 _]) j tF2 j j))<|t j j (TK j OQ j j)<|sS (dN z23 j (ai j j)) (kY ⟨j,trivial⟩ (kY ⟨j,trivial⟩ trivial)) (sS (dN z23 j (ai j j)) (kN j (kN j trivial)) (sD (by kernel_rfl))))<|us<|gs<|g0 j j (q (oMF (rs:=[.mp 2 0 0]) j j)<|q (Wq j j)<|nl)<|us<|gs<|?_
 obtain ⟨x21,D7,h⟩:=bs h
 obtain ⟨x26,OZ,h⟩:=bs h
 obtain ⟨x31,hx31,h⟩:=bs h
 obtain ⟨x36,Xx,h⟩:=bs h
 refine g0 j j (q (Qi j j)<|q (oMv j j)<|q (oBi j j j j)<|q (oMv j j)<|q (oCa (xs:=[.v false [.im 0 _],.v false [.im 0 _],.v false [.mp 2 0 0]]) (vs:=[(false,[.im 0 _])]) (v:=.v false [.im 0 _]) (iG D7) (.inl j) j wF j (ppC j (ppC j (ppC j pp0))) j j pb0 j j j)<|q (Qi j j)<|q (oMv j j)<|q (oBi j j j j)<|q (oMv j j)<|q (oCa (xs:=[.v false [.im 0 _],.v false [.im 0 _],.v false [.mp 2 0 0]]) (vs:=[(false,[.im 0 _])]) (v:=.v false [.im 0 _]) (iG OZ) (.inl j) j wF j (ppC j (ppC j (ppC j pp0))) j j pb0 j j j)<|q (Qi j j)<|q (oMv j j)<|q (oMv j j)<|q (oBi j j j j)<|q (oCa (xs:=[.v false [.im 0 _],.v false [.im 0 _],.v false [.mp 2 0 0]]) (vs:=[(false,[.im 0 _])]) (v:=.v false [.im 0 _]) (iG hx31) (.inl j) j wF j (ppC j (ppC j (ppC j pp0))) j j pb0 j j j)<|q (Qi j j)<|q (oMv j j)<|q (oMv j j)<|q (oBi j j j j)<|q (oCa (xs:=[.v false [.im 0 _],.v false [.im 0 _],.v false [.mp 2 0 0]]) (vs:=[(false,[.im 0 _])]) (v:=.v false [.im 0 _]) (iG Xx) (.inl j) j wF j (ppC j (ppC j (ppC j pp0))) j j pb0 j j j)<|q (oBu (cs:=[.im 0 _,.im 0 _,.im 0 _,.im 0 _]) j WO j)<|q (oSt Rk j j j (tkI (tkI (tkI (tkI tk0)))) j j j)<|nl)<|us<|Go.ret (Unw.ret ?_)
 cases h
 exact fr WX j
theorem kG {t_0:ae} {r:Bool} (h:aU t_0=some r):FX 17 [.im 2 true (af t_0)] (B0 [(false,[.im 0 (V r)])]):=by
 unfold aU at h
 refine gn 121 Try.func17 rfl ?_
 refine gs<|g0 j j (q (oBx j dS j (tkI (tkI (tkI tk0))))<|q (ai j j)<|nl)<|us<|gs<|gs<|?_
 obtain ⟨x16,hx16,h⟩:=bs h
 obtain ⟨Gv,xM,h⟩:=bs h
 refine gX c17 j j j (mk [(1,M 1),(34,bv Gv)] [(1,Oa (G 2 (af t_0)))]) ?_ ?_
 ·refine xq (oFA (r':=.mp 1 0 0) j jR j j)<|xq (oLd (cs:=[.im 0 _]) j tF2 j j)<|xq (oCa (xs:=[.v false [.im 0 _],.v false [.im 0 _],.v false [.im 0 _]]) (vs:=[(false,[.im 0 _])]) (v:=.v false [.im 0 _]) (qK hx16) (.inl j) j wE j (ppC j (ppC j (ppC j pp0))) j j pb0 j j j)<|xq (oUn j j j)<|xq (oMv j j)<|?_
  refine ic xM (fun hc1 xM=>?_) fun hc1 xM=>?_
  ·obtain ⟨x21,D7,xM⟩:=bs xM
   refine xqT j j (nF (iR.2 hc1)) (oFA (r':=.mp 1 0 1) j rG j j)<|xqT j j (nF (iR.2 hc1)) (oLd (cs:=[.im 0 _]) j tF2 j j)<|xqT j j (nF (iR.2 hc1)) (oCa (xs:=[.v false [.im 0 _],.v false [.im 0 _],.v false [.im 0 _]]) (vs:=[(false,[.im 0 _])]) (v:=.v false [.im 0 _]) (qK D7) (.inl j) j wE j (ppC j (ppC j (ppC j pp0))) j j pb0 j j j)<|xqT j j (nF (iR.2 hc1)) (oUn j j j)<|xq (kM j j (nF (iR.2 hc1)) j)<|xq (oMv j j)<|?_
   refine ic xM (fun hc2 xM=>?_) fun hc2 xM=>?_
   ·cases xM
    exact xqT j j (nF (iR.2 hc2)) (oFA (r':=.mp 1 0 2) j eP j j)<|xqT j j (nF (iR.2 hc2)) (oLd (cs:=[.im 2 _]) j jG j j)<|xqT j j (nF (iR.2 hc2)) (rE j j jH j)<|xqT j j (nF (iR.2 hc2)) (oFA (r':=.mp 1 0 0) j jR j j)<|xqT j j (nF (iR.2 hc2)) (oLd (cs:=[.im 0 _]) j tF2 j j)<|xqT j j (nF (iR.2 hc2)) (oFA (r':=.mp 1 0 1) j rG j j)<|xqT j j (nF (iR.2 hc2)) (oLd (cs:=[.im 0 _]) j tF2 j j)<|xqT j j (nF (iR.2 hc2)) (oBi j j j j)<|xqT j j (nF (iR.2 hc2)) (oBi j j j j)<|xq (kM j j (nF (iR.2 hc2)) j)<|xn
   ·cases xM
    exact aC j j (nT (byF iR hc2)) j<|aC j j (nT (byF iR hc2)) j<|aC j j (nT (byF iR hc2)) j<|aC j j (nT (byF iR hc2)) j<|aC j j (nT (byF iR hc2)) j<|aC j j (nT (byF iR hc2)) j<|aC j j (nT (byF iR hc2)) j<|aC j j (nT (byF iR hc2)) j<|aC j j (nT (byF iR hc2)) j<|xq (dZ j j (nT (byF iR hc2)) j)<|xn
  ·cases xM
   exact aC j j (nT (byF iR hc1)) j<|aC j j (nT (byF iR hc1)) j<|aC j j (nT (byF iR hc1)) j<|aC j j (nT (byF iR hc1)) j<|xq (dZ j j (nT (byF iR hc1)) j)<|xq (oMv j j)<|aC j j j j<|aC j j j j<|aC j j j j<|aC j j j j<|aC j j j j<|aC j j j j<|aC j j j j<|aC j j j j<|aC j j j j<|xq (dZ j j j j)<|xn
 ·refine us<|gc h j iR (fun hc3 h=>?_) fun hc3 h=>?_
  ·refine gs<|g0 j j (q (ai j j)<|nl)<|us<|Go.ret (Unw.ret ?_)
   cases h
   exact fr OL j
  ·refine Go.skip<|us<|gs<|gs<|?_
   obtain ⟨x37,Et,h⟩:=bs h
   obtain ⟨Gw,D8,h⟩:=bs h
   refine gX c17 j j j (mk [(1,M 1),(44,bv Gw)] [(1,Oa (G 2 (af t_0)))]) ?_ ?_
   ·refine xq (oFA (r':=.mp 1 0 2) j eP j j)<|xq (oLd (cs:=[.im 2 _]) j jG j j)<|xq (oCa (xs:=[.v false [.im 2 _]]) (vs:=[(false,[.im 0 _])]) (v:=.v false [.im 0 _]) (uK Et) (.inl j) j Rf j (ppC j pp0) j j pb0 j j j)<|xq (oBi j j j j)<|xq (oMv j j)<|?_
    refine ic D8 (fun hc4 D8=>?_) fun hc4 D8=>?_
    ·cases D8
     exact aC j j (aj.2 hc4) j<|aC j j (aj.2 hc4) j<|aC j j (aj.2 hc4) j<|aC j j (aj.2 hc4) j<|xq (dZ j j (aj.2 hc4) j)<|xn
    ·obtain ⟨x42,MJ,D8⟩:=bs D8
     cases D8
     exact xqT j j (byF aj hc4) (oFA (r':=.mp 1 0 2) j eP j j)<|xqT j j (byF aj hc4) (oLd (cs:=[.im 2 _]) j jG j j)<|xqT j j (byF aj hc4) (oCa (xs:=[.v false [.im 2 _]]) (vs:=[(false,[.im 0 _])]) (v:=.v false [.im 0 _]) (nD MJ) (.inl j) j KJ j (ppC j pp0) j j pb0 j j j)<|xqT j j (byF aj hc4) (oBi j j j j)<|xq (kM j j (byF aj hc4) j)<|xn
   ·refine us<|gc h j iR (fun hc5 h=>?_) fun hc5 h=>?_
    ·refine gs<|g0 j j (q (ai j j)<|nl)<|us<|Go.ret (Unw.ret ?_)
     cases h
     exact fr OL j
    ·refine Go.skip<|us<|gs<|?_
     obtain ⟨x46,Rn,h⟩:=bs h
     refine g0 j j (q (oLd (cs:=[.im 0 _,.im 0 _,.im 2 _]) j dS j j)<|q (oCa (xs:=[.v true [.im 0 _,.im 0 _,.im 2 _]]) (vs:=[(false,[.im 0 _])]) (v:=.v false [.im 0 _]) (wI Rn) (.inl j) j GH j (ppC j pp0) j j pb0 j j j)<|q (ai j j)<|nl)<|us<|gs<|gs<|g0 j j (q (oMv j j)<|q (oMv j j)<|nl)<|us<|Go.block<|?_
     obtain ⟨o,hl,h⟩:=bs h
     refine gl c17 j _ (fun (bn:Int)=>mk [(1,M 1),(47,iv x46),(48,iv bn)] [(1,Oa (G 2 (af t_0)))]) (fun (o:(Unit ⊕ Bool)) (p:Ex×St)=>match o with | (.inl _)=>p.1= .exit 0∧p.2.norm ([],[])=mk [] [] | (.inr r2)=>p.1= .ret∧fin Try.prog cfg 17 Try.f17 [.im 2 true (af t_0)] p.2=some (B0 [(false,[.im 0 (V r2)])])) hl (by kernel_rfl) ?_ ?_ ?_
     ·intro o p hp e
      rcases o with u | r2<;>exact nomatch (hp.1.symm.trans e)
     ·rintro bn o h
      unfold bz at h
      refine gs<|g0 j j (q (oBi j j j j)<|nl)<|us<|gs<|gc h j aj (fun Xy h=>?_) fun Xy h=>?_
      ·refine Go.skip<|us<|gs<|Go.block<|gs<|g0 j j (q (oMv j j)<|q (ai j j)<|nl)<|us<|gs<|?_
       obtain ⟨x54,JU,h⟩:=bs h
       refine g0 j j (q (oFA (r':=.mp 1 0 2) j eP j j)<|q (oLd (cs:=[.im 2 _]) j jG j j)<|q (oMv j j)<|q (oCa (xs:=[.v false [.im 2 _],.v false [.im 0 _]]) (vs:=[(false,[.im 0 _])]) (v:=.v false [.im 0 _]) (tX JU) (.inl j) j MF j (ppC j (ppC j pp0)) j j pb0 j j j)<|q (ai j j)<|nl)<|us<|gs<|gs<|g0 j j (q (oMv j j)<|q (oBi j j j j)<|nl)<|us<|gc h j aj (fun Xz h=>?_) fun Xz h=>?_
       ·refine gs<|g0 j j (q (ai j j)<|nl)<|us<|Go.ret (Unw.ret ?_)
        cases h
        exact ⟨j,(fo OL j)⟩
       ·refine Go.skip<|us<|gs<|?_
        obtain ⟨x60,XA,h⟩:=bs h
        refine g0 j j (q (oFA (r':=.mp 1 0 2) j eP j j)<|q (oLd (cs:=[.im 2 _]) j jG j j)<|q (rE j j jH j)<|q (oMk (en:=eB) j XA j Rj j j (fxI fx0) j (fC (L:=[_]) j fun _=>j))<|q (oMv j j)<|q (oBS (es:=List.map eI ([x54]:List Int)) j cu j (ptC j (fxI fx0) j pt0) (fC j fun _=>j))<|q (qO j j j j j)<|q (qO j j j j j)<|q (ai j j)<|nl)<|us<|gs<|?_
        obtain ⟨x65,Vu,h⟩:=bs h
        refine g0 j j (q (oMv j j)<|q (oMv j j)<|q (yj j Vu Rj j j j j)<|q (UT (v':=true) tF4 j j j (fxI fx0) j j (iQ Vu) j)<|nl)<|us<|gs<|gs<|g1 j j (mk [(1,M 1),(4,iv bn),(6,H 6 0),(7,H 7 0),(8,iv 0),(47,iv x46),(48,iv bn)] [(1,Oa (G 2 (af t_0))),(6,Oc [Z (W 1 eB (x60.set x54.toNat true))]),(7,Oc [Z (W 1 eI ([x54]:List Int))])]) (q (ai j j)<|nl)<|us<|Go.block<|?_
        obtain ⟨o,hl,h⟩:=bs h
        refine gl c17 j _ (fun (s:(Int×Int×(List Bool)×(List Int)))=>match s with | (ik,nI,tu,kD)=>mk [(1,M 1),(4,iv bn),(6,H 6 0),(7,H 7 0),(8,iv ik),(9,iv nI),(47,iv x46),(48,iv bn)] [(1,Oa (G 2 (af t_0))),(6,Oc [Z (W 1 eB tu)]),(7,Oc [Z (W 1 eI kD)])]) (fun (qH:Int) (p:Ex×St)=>p.1= .exit 2∧p.2.norm ([1,4,8,47,48],[1])=mk [(1,M 1),(4,iv bn),(8,iv qH),(47,iv x46),(48,iv bn)] [(1,Oa (G 2 (af t_0)))]) hl (by kernel_rfl) ?_ ?_ ?_
        ·intro o p hp e
         exact nomatch (hp.1.symm.trans e)
        ·rintro ⟨ik,nI,tu,kD⟩ o h
         unfold bY at h
         dsimp only at h
         refine gs<|gs<|g0 j j (q (oMv j j)<|q (oMv j j)<|q (Gn j j jH j j j (fun e=>nomatch e))<|q (oBi j j j j)<|nl)<|us<|gc h j aj (fun XB h=>?_) fun XB h=>?_
         ·refine Go.skip<|us<|gs<|Go.block<|gs<|g0 j j (q (oMv j j)<|q (oBi j j j j)<|q (ai j j)<|nl)<|us<|gs<|?_
          obtain ⟨x77,Vw,h⟩:=bs h
          obtain ⟨x79,MI,h⟩:=bs h
          refine gd c17 j j j j (mk [(1,M 1),(4,iv bn),(6,H 6 0),(7,H 7 0),(8,iv (w64 (ik+1))),(9,iv nI),(47,iv x46),(48,iv bn),(79,.v true (F 0 (mJ x79))),(80,iv 0)] [(1,Oa (G 2 (af t_0))),(6,Oc [Z (W 1 eB tu)]),(7,Oc [Z (W 1 eI kD)])]) (t j j (oLd (cs:=[.im 0 _,.im 0 _,.im 2 _]) j dS j j)<|t j j (oMv j j)<|t j j (oMv j j)<|t j j (yj j Vw cu j j j j)<|t j j (zJ (cs:=[.im 0 _]) j tF2 j j j j (iQ Vw) j j)<|t j j (oMv j j)<|sS (dN z17 j (oCa (xs:=[.v true [.im 0 _,.im 0 _,.im 2 _],.v false [.im 0 _]]) (vs:=[(true,[.im 0 _,.im 0 _,.im 0 _,.im 0 _])]) (v:=.v true [.im 0 _,.im 0 _,.im 0 _,.im 0 _]) (lM MI) (.inl j) j AQ j (ppC j (ppC j pp0)) j j pb0 j j j)) trivial (sD (by kernel_rfl)))<|us<|Go.block<|?_
          obtain ⟨o,hl,h⟩:=bs h
          refine gl c17 j _ (fun (s:(Int×(List Bool)×(List Int)))=>match s with | (jP,iJ,iT)=>mk [(1,M 1),(4,iv bn),(6,H 6 0),(7,H 7 0),(8,iv (w64 (ik+1))),(9,iv nI),(47,iv x46),(48,iv bn),(79,.v true (F 0 (mJ x79))),(80,iv jP)] [(1,Oa (G 2 (af t_0))),(6,Oc [Z (W 1 eB iJ)]),(7,Oc [Z (W 1 eI iT)])]) (fun (o:((List Bool)×(List Int))) (p:Ex×St)=>match o with | (oO,lK)=>p.1= .exit 4∧p.2.norm ([1,4,6,7,8,9,47,48],[1,6,7])=mk [(1,M 1),(4,iv bn),(6,H 6 0),(7,H 7 0),(8,iv (w64 (ik+1))),(9,iv nI),(47,iv x46),(48,iv bn)] [(1,Oa (G 2 (af t_0))),(6,Oc [Z (W 1 eB oO)]),(7,Oc [Z (W 1 eI lK)])]) hl (by kernel_rfl) ?_ ?_ ?_
          ·intro o p hp e
           obtain ⟨oO,lK⟩:=o
           exact nomatch (hp.1.symm.trans e)
          ·rintro ⟨jP,iJ,iT⟩ o h
           unfold dM at h
           dsimp only at h
           refine gs<|g0 j j (q (oBi j j j j)<|nl)<|us<|gs<|gc h j aj (fun XC h=>?_) fun XC h=>?_
           ·refine Go.skip<|us<|gs<|Go.join (fun st=>∃tq,∃oN,ig jP tq oN=some o∧st.norm ([1,4,6,7,8,9,47,48,79,80],[1,6,7])=mk [(1,M 1),(4,iv bn),(6,H 6 0),(7,H 7 0),(8,iv (w64 (ik+1))),(9,iv nI),(47,iv x46),(48,iv bn),(79,.v true (F 0 (mJ x79))),(80,iv jP)] [(1,Oa (G 2 (af t_0))),(6,Oc [Z (W 1 eB tq)]),(7,Oc [Z (W 1 eI oN)])]) ?_ ?_
            ·rintro st ⟨tq,oN,h,hst⟩
             unfold ig at h
             refine us<|g2 c17 j j hst (q (oBi j j j j)<|q (oMv j j)<|nl)<|Unw.nil<|?_
             cases h
             exact ⟨j,(by kernel_rfl)⟩
            ·intro K98
             refine Go.block<|gs<|?_
             obtain ⟨x82,OX,h⟩:=bs h
             refine g0 j j (q (UZ (L:=([x79.e0,x79.e1,x79.e2,x79.e3]:List Int)) j OX Rl zF2 uF2 j j j j j)<|q (ai j j)<|nl)<|us<|gs<|?_
             obtain ⟨x86,XD,h⟩:=bs h
             obtain ⟨DW,D9,h⟩:=bs h
             refine gX c17 j j j (mk [(1,M 1),(4,iv bn),(6,H 6 0),(7,H 7 0),(8,iv (w64 (ik+1))),(9,iv nI),(11,iv x82),(47,iv x46),(48,iv bn),(79,.v true (F 0 (mJ x79))),(80,iv jP),(96,bv DW)] [(1,Oa (G 2 (af t_0))),(6,Oc [Z (W 1 eB iJ)]),(7,Oc [Z (W 1 eI iT)])]) ?_ ?_
             ·refine xq (oFA (r':=.mp 1 0 2) j eP j j)<|xq (oLd (cs:=[.im 2 _]) j jG j j)<|xq (oMv j j)<|xq (mZ j XD cu j j)<|xq (oLd (cs:=[.im 2 _]) j tF2 j j)<|xq (oMv j j)<|xq (oBi j j j j)<|xq (oMv j j)<|?_
              refine ic D9 (fun hc99 D9=>?_) fun hc99 D9=>?_
              ·obtain ⟨x93,hx93,D9⟩:=bs D9
               cases D9
               exact xqT j j (iEq.2 hc99) (oMv j j)<|xqT j j (iEq.2 hc99) (oMv j j)<|xqT j j (iEq.2 hc99) (yj j hx93 Rj j j j j)<|xqT j j (iEq.2 hc99) (zJ (cs:=[.im 0 _]) j tF4 j j j j (iQ hx93) j j)<|xqT j j (iEq.2 hc99) (oUn j j j)<|xq (dZ j j (iEq.2 hc99) j)<|xn
              ·cases D9
               exact aC j j (byF iEq hc99) j<|aC j j (byF iEq hc99) j<|aC j j (byF iEq hc99) j<|aC j j (byF iEq hc99) j<|aC j j (byF iEq hc99) j<|xq (kM j j (byF iEq hc99) j)<|xn
             ·refine us<|gc h j iR (fun Vx h=>?_) fun Vx h=>?_
              ·refine gs<|?_
               obtain ⟨x99,hx99,h⟩:=bs h
               refine g0 j j (q (oMv j j)<|q (oMv j j)<|q (yj j hx99 Rj j j j j)<|q (UT (v':=true) tF4 j j j (fxI fx0) j j (iQ hx99) j)<|nl)<|us<|?_
               obtain ⟨x103,O0,h⟩:=bs h
               exact g1 j j (mk [(1,M 1),(4,iv bn),(6,H 6 0),(7,H 7 0),(8,iv (w64 (ik+1))),(9,iv nI),(11,iv x82),(47,iv x46),(48,iv bn),(79,.v true (F 0 (mJ x79))),(80,iv jP)] [(1,Oa (G 2 (af t_0))),(6,Oc [Z (W 1 eB (iJ.set x82.toNat true))]),(7,Oc [Z (W 1 eI iT)])]) (q (oMv j j)<|q (oMv j j)<|q (oBS (es:=List.map eI ([x82]:List Int)) j cu j (ptC j (fxI fx0) j pt0) (fC j fun _=>j))<|q (yQ (en:=eI) (M:=([x82]:List Int)) j O0 j cu j j jH (.inl ⟨_,j⟩) j j j j (nO j j) (fC j fun _=>j))<|q (qO j j j j j)<|nl)<|Unw.blk<|K98 _ ⟨(iJ.set x82.toNat true),x103,h,(by kernel_rfl)⟩
              ·exact Go.skip<|Unw.blk<|K98 _ ⟨iJ,iT,h,(by kernel_rfl)⟩
           ·refine Go.exit<|ux<|Unw.nil<|?_
            cases h
            exact ⟨j,(by kernel_rfl)⟩
          ·rintro ⟨e,st⟩ hp
           obtain ⟨oO,lK⟩:=o
           dsimp only at h
           obtain ⟨he,hst⟩:=hp
           obtain rfl:e= .exit 4:=he
           refine Unw.nN<|Unw.blk<|us<|g2 c17 j j hst (q (oMv j j)<|q (oBi j j j j)<|q (ai j j)<|nl)<|Unw.nil<|?_
           cases h
           exact ⟨j,(by kernel_rfl)⟩
         ·refine Go.exit<|ux<|Unw.nil<|?_
          cases h
          exact ⟨j,(by kernel_rfl)⟩
        ·rintro ⟨e,st⟩ hp
         obtain ⟨qH,rfl⟩:∃y,y=o:=⟨o,rfl⟩
         obtain ⟨he,hst⟩:=hp
         obtain rfl:e= .exit 2:=he
         refine Unw.nN<|us<|gs<|gs<|g2 c17 j j hst (q (oFA (r':=.mp 1 0 2) j eP j j)<|q (oLd (cs:=[.im 2 _]) j jG j j)<|q (rE j j jH j)<|q (oMv j j)<|nl)<|us<|Go.block<|?_
         obtain ⟨o,hl,h⟩:=bs h
         refine gl c17 j _ (fun (s:(Int×Int))=>match s with | (jT,jO)=>mk [(1,M 1),(4,iv bn),(8,iv jT),(47,iv x46),(48,iv bn),(106,D 2 (W 1 eI t_0.Cells)),(107,iv (t_0.Cells.length:Int)),(108,iv jO)] [(1,Oa (G 2 (af t_0)))]) (fun (qI:Int) (p:Ex×St)=>p.1= .exit 6∧p.2.norm ([1,8,47,48],[1])=mk [(1,M 1),(8,iv qI),(47,iv x46),(48,iv bn)] [(1,Oa (G 2 (af t_0)))]) hl (by kernel_rfl) ?_ ?_ ?_
         ·intro o p hp e
          exact nomatch (hp.1.symm.trans e)
         ·rintro ⟨jT,jO⟩ o h
          unfold eU at h
          dsimp only at h
          refine gs<|g0 j j (q (oBi j j j j)<|nl)<|us<|gs<|gc h j aj (fun XE h=>?_) fun XE h=>?_
          ·refine Go.skip<|us<|gs<|Go.join (fun st=>∃qW,gZ jO qW=some o∧st.norm ([1,4,8,47,48,106,107,108],[1])=mk [(1,M 1),(4,iv bn),(8,iv qW),(47,iv x46),(48,iv bn),(106,D 2 (W 1 eI t_0.Cells)),(107,iv (t_0.Cells.length:Int)),(108,iv jO)] [(1,Oa (G 2 (af t_0)))]) ?_ ?_
           ·rintro st ⟨qW,h,hst⟩
            unfold gZ at h
            refine us<|g2 c17 j j hst (q (oBi j j j j)<|q (oMv j j)<|nl)<|Unw.nil<|?_
            cases h
            exact ⟨j,(by kernel_rfl)⟩
           ·intro K83
            refine Go.block<|gs<|?_
            obtain ⟨U2,Vy,h⟩:=bs h
            refine g0 j j (q (mZ j Vy cu j j)<|q (oLd (cs:=[.im 2 _]) j tF2 j j)<|q (ai j j)<|nl)<|us<|gs<|g0 j j (q (oMv j j)<|q (oMv j j)<|q (oBi j j j j)<|nl)<|us<|gc h j iEq (fun XF h=>?_) fun XF h=>?_
            ·exact g0 j j (q (oMv j j)<|q (oBi j j j j)<|q (ai j j)<|nl)<|Unw.blk<|K83 _ ⟨(w64 (jT - 1)),h,(by kernel_rfl)⟩
            ·exact Go.skip<|Unw.blk<|K83 _ ⟨jT,h,(by kernel_rfl)⟩
          ·refine Go.exit<|ux<|Unw.nil<|?_
           cases h
           exact ⟨j,(by kernel_rfl)⟩
         ·rintro ⟨e,st⟩ hp
          obtain ⟨qI,rfl⟩:∃y,y=o:=⟨o,rfl⟩
          obtain ⟨he,hst⟩:=hp
          obtain rfl:e= .exit 6:=he
          refine Unw.nN<|us<|gs<|g2 c17 j j hst (q (oMv j j)<|q (oBi j j j j)<|nl)<|us<|gc h j iNe (fun XG h=>?_) fun XG h=>?_
          ·refine gs<|g0 j j (q (ai j j)<|nl)<|us<|Go.ret (Unw.ret ?_)
           cases h
           exact ⟨j,(fo OL j)⟩
          ·refine Go.skip<|Unw.blk<|us<|g0 j j (q (oBi j j j j)<|q (oMv j j)<|nl)<|Unw.nil<|?_
           cases h
           exact ⟨j,(by kernel_rfl)⟩
      ·refine Go.exit<|ux<|Unw.nil<|?_
       cases h
       exact ⟨j,(by kernel_rfl)⟩
     ·rintro ⟨e,st⟩ hp
      rcases o with u | r2
      ·dsimp only at h
       obtain ⟨he,hst⟩:=hp
       obtain rfl:e= .exit 0:=he
       refine Unw.nN<|us<|gs<|g2 c17 j j hst (q (ai j j)<|nl)<|us<|Go.ret (Unw.ret ?_)
       cases h
       exact fr OL j
      ·dsimp only at h
       obtain ⟨he,hfin⟩:=hp
       obtain rfl:e= .ret:=he
       cases h
       exact Unw.ret (nH hfin)
theorem o7 {t_0:ae} {r:(List (List Int))} (h:fJ t_0=some r):FX 19 [.im 2 true (af t_0)] (B0 [(false,[.im 0 (W 1 (eL 1 eI) r)])]):=by
 unfold fJ at h
 refine gn 67 Try.func19 rfl ?_
 refine gs<|g0 j j (sqn z19 j (oBx j dS j (tkI (tkI (tkI tk0))))<|sqf z19 j (yP j j WR) (Ql j j j)<|nl)<|us<|gs<|?_
 obtain ⟨x11,JS,h⟩:=bs h
 obtain ⟨x12,DZ,h⟩:=bs h
 refine g0 j j (sqn z19 j (oLd (cs:=[.im 0 _,.im 0 _,.im 2 _]) j dS j j)<|sqn z19 j (oCa (xs:=[.v true [.im 0 _,.im 0 _,.im 2 _]]) (vs:=[(false,[.im 0 _])]) (v:=.v false [.im 0 _]) (wI JS) (.inl j) j GH j (ppC j pp0) j j pb0 j j j)<|sqn z19 j (Wy (en:=(eL 1 eI)) j DZ j II j j (fxN fx0) j (UW j))<|sqn z19 j (UY j j j j j)<|nl)<|us<|gs<|gs<|g0 j j (sqn z19 j (oFA (r':=.mp 1 0 2) j eP j j)<|sqn z19 j (oLd (cs:=[.im 2 _]) j jG j j)<|sqn z19 j (rE j j jH j)<|sqn z19 j (oMv j j)<|nl)<|us<|Go.block<|?_
 obtain ⟨o,hl,h⟩:=bs h
 refine gl c19 j _ (fun (s:(Int×(List (List Int))))=>match s with | (qJ,vH)=>mk [(1,M 1),(3,H 3 0),(14,D 2 (W 1 eI t_0.Cells)),(15,iv (t_0.Cells.length:Int)),(16,iv qJ)] [(1,Oa (G 2 (af t_0))),(3,Oc [⟨.dp 0,0,0,W 1 (eL 1 eI) vH⟩])]) (fun (iV:(List (List Int))) (p:Ex×St)=>p.1= .exit 0∧p.2.norm ([3],[3])=mk [(3,H 3 0)] [(3,Oc [⟨.dp 0,0,0,W 1 (eL 1 eI) iV⟩])]) hl (by kernel_rfl) ?_ ?_ ?_
 ·intro o p hp e
  exact nomatch (hp.1.symm.trans e)
 ·rintro ⟨qJ,vH⟩ o h
  unfold dh at h
  dsimp only at h
  refine gs<|g0 j j (sqn z19 j (oBi j j j j)<|nl)<|us<|gs<|gc h j aj (fun Uj h=>?_) fun Uj h=>?_
  ·refine Go.skip<|us<|gs<|Go.block<|gs<|?_
   obtain ⟨x19,JL,h⟩:=bs h
   refine g0 j j (sqn z19 j (oMv j j)<|sqn z19 j (mZ j JL cu j j)<|sqn z19 j (oLd (cs:=[.im 2 _]) j tF2 j j)<|sqn z19 j (ai j j)<|sqn z19 j (ai j j)<|nl)<|us<|gs<|?_
   obtain ⟨x23,OY,h⟩:=bs h
   refine g0 j j (sqn z19 j (oLd (cs:=[.im 0 _,.im 0 _,.im 2 _]) j dS j j)<|sqn z19 j (oMv j j)<|sqn z19 j (oCa (xs:=[.v true [.im 0 _,.im 0 _,.im 2 _],.v false [.im 0 _]]) (vs:=[(true,[.im 0 _,.im 0 _,.im 0 _,.im 0 _])]) (v:=.v true [.im 0 _,.im 0 _,.im 0 _,.im 0 _]) (lM OY) (.inl j) j AQ j (ppC j (ppC j pp0)) j j pb0 j j j)<|sqn z19 j (oMv j j)<|nl)<|us<|Go.block<|?_
   obtain ⟨o,hl,h⟩:=bs h
   refine gl c19 j _ (fun (s:(Int×(List (List Int))))=>match s with | (oP,kU)=>mk [(1,M 1),(3,H 3 0),(5,iv x19),(14,D 2 (W 1 eI t_0.Cells)),(15,iv (t_0.Cells.length:Int)),(16,iv qJ),(23,.v true (F 0 (mJ x23))),(24,iv oP)] [(1,Oa (G 2 (af t_0))),(3,Oc [⟨.dp 0,0,0,W 1 (eL 1 eI) kU⟩])]) (fun (uA:(List (List Int))) (p:Ex×St)=>p.1= .exit 2∧p.2.norm ([1,3,14,15,16],[1,3])=mk [(1,M 1),(3,H 3 0),(14,D 2 (W 1 eI t_0.Cells)),(15,iv (t_0.Cells.length:Int)),(16,iv qJ)] [(1,Oa (G 2 (af t_0))),(3,Oc [⟨.dp 0,0,0,W 1 (eL 1 eI) uA⟩])]) hl (by kernel_rfl) ?_ ?_ ?_
   ·intro o p hp e
    exact nomatch (hp.1.symm.trans e)
   ·rintro ⟨oP,kU⟩ o h
    unfold aZ at h
    dsimp only at h
    refine gs<|g0 j j (sqn z19 j (oBi j j j j)<|nl)<|us<|gs<|gc h j aj (fun hc19 h=>?_) fun hc19 h=>?_
    ·refine Go.skip<|us<|gs<|Go.join (fun st=>∃tH,dJ oP tH=some o∧st.norm ([1,3,5,14,15,16,23,24],[1,3])=mk [(1,M 1),(3,H 3 0),(5,iv x19),(14,D 2 (W 1 eI t_0.Cells)),(15,iv (t_0.Cells.length:Int)),(16,iv qJ),(23,.v true (F 0 (mJ x23))),(24,iv oP)] [(1,Oa (G 2 (af t_0))),(3,Oc [⟨.dp 0,0,0,W 1 (eL 1 eI) tH⟩])]) ?_ ?_
     ·rintro st ⟨tH,h,hst⟩
      unfold dJ at h
      refine us<|g2 c19 j j hst (sqn z19 j (oBi j j j j)<|sqn z19 j (oMv j j)<|nl)<|Unw.nil<|?_
      cases h
      exact ⟨j,(by kernel_rfl)⟩
     ·intro K21
      refine Go.block<|gs<|?_
      obtain ⟨x26,OZ,h⟩:=bs h
      refine g0 j j (sqn z19 j (UZ (L:=([x23.e0,x23.e1,x23.e2,x23.e3]:List Int)) j OZ Rl zF2 uF2 j j j j j)<|sqn z19 j (ai j j)<|nl)<|us<|gs<|?_
      obtain ⟨x30,OW,h⟩:=bs h
      refine g0 j j (sqn z19 j (oFA (r':=.mp 1 0 2) j eP j j)<|sqn z19 j (oLd (cs:=[.im 2 _]) j jG j j)<|sqn z19 j (oMv j j)<|sqn z19 j (mZ j OW cu j j)<|sqn z19 j (oLd (cs:=[.im 2 _]) j tF2 j j)<|sqn z19 j (ai j j)<|nl)<|us<|gs<|g0 j j (sqn z19 j (oMv j j)<|sqn z19 j (oMv j j)<|sqn z19 j (oBi j j j j)<|nl)<|us<|gc h j iNe (fun hc22 h=>?_) fun hc22 h=>?_
      ·obtain ⟨x39,hx39,h⟩:=bs h
       obtain ⟨x43,JP,h⟩:=bs h
       obtain ⟨x44,Vz,h⟩:=bs h
       exact g0 j j (sqn z19 j (oMv j j)<|sqn z19 j (oMv j j)<|sqn z19 j (oMv j j)<|sqn z19 j (oMv j j)<|sqn z19 j (Oq j hx39 II j j j j (fun e=>nomatch e))<|sqn z19 j (TM (cs:=[.inr 3 0 0 _ 0 0]) j jG j j j (iQ hx39) j j)<|sqn z19 j (oMv j j)<|sqn z19 j (oBS (es:=List.map eI ([x30]:List Int)) j cu j (ptC j (fxI fx0) j pt0) (fC j fun _=>j))<|sqn z19 j (WE (en:=eI) (M:=([x30]:List Int)) j JP j cu j j jH (.inl ⟨_,j⟩) j j j (iQ hx39) j j (nO j j) (fC j fun _=>j))<|sqn z19 j (Oq j Vz II j j j j (fun e=>nomatch e))<|sq0 (UX (v':=x43) jG j j j j (tkO j j tk0) j j (iQ Vz) j)<|nl)<|Unw.blk<|K21 _ ⟨(kU.set x19.toNat x43),h,(by kernel_rfl)⟩
      ·exact Go.skip<|Unw.blk<|K21 _ ⟨kU,h,(by kernel_rfl)⟩
    ·refine Go.exit<|ux<|Unw.nil<|?_
     cases h
     exact ⟨j,(by kernel_rfl)⟩
   ·rintro ⟨e,st⟩ hp
    obtain ⟨uA,rfl⟩:∃y,y=o:=⟨o,rfl⟩
    obtain ⟨he,hst⟩:=hp
    obtain rfl:e= .exit 2:=he
    refine Unw.nN<|Unw.blk<|us<|g2 c19 j j hst (sqn z19 j (oBi j j j j)<|sqn z19 j (oMv j j)<|nl)<|Unw.nil<|?_
    cases h
    exact ⟨j,(by kernel_rfl)⟩
  ·refine Go.exit<|ux<|Unw.nil<|?_
   cases h
   exact ⟨j,(by kernel_rfl)⟩
 ·rintro ⟨e,st⟩ hp
  obtain ⟨iV,rfl⟩:∃y,y=o:=⟨o,rfl⟩
  obtain ⟨he,hst⟩:=hp
  obtain rfl:e= .exit 0:=he
  refine Unw.nN<|us<|gs<|gs<|g2 c19 j j hst (sqn z19 j (oMv j j)<|sqn z19 j (Gn j j Vp j j j (fun e=>nomatch e))<|sqn z19 j (oMv j j)<|nl)<|us<|Go.block<|?_
  obtain ⟨o,hl,h⟩:=bs h
  refine gl c19 j _ (fun (s:(Int×(List (List Int))))=>match s with | (gq,jF)=>mk [(3,H 3 0),(48,iv (iV.length:Int)),(49,iv gq)] [(3,Oc [⟨.dp 0,0,0,W 1 (eL 1 eI) jF⟩])]) (fun (rV:(List (List Int))) (p:Ex×St)=>p.1= .exit 4∧p.2.norm ([3],[3])=mk [(3,H 3 0)] [(3,Oc [⟨.dp 0,0,0,W 1 (eL 1 eI) rV⟩])]) hl (by kernel_rfl) ?_ ?_ ?_
  ·intro o p hp e
   exact nomatch (hp.1.symm.trans e)
  ·rintro ⟨gq,jF⟩ o h
   unfold dI at h
   dsimp only at h
   refine gs<|g0 j j (sqn z19 j (oBi j j j j)<|nl)<|us<|gs<|gc h j aj (fun hc13 h=>?_) fun hc13 h=>?_
   ·refine Go.skip<|us<|gs<|Go.block<|gs<|g0 j j (sqn z19 j (oMv j j)<|sqn z19 j (ai j j)<|nl)<|us<|gs<|?_
    obtain ⟨x54,JU,h⟩:=bs h
    obtain ⟨x56,XH,h⟩:=bs h
    refine g0 j j (sqn z19 j (oMv j j)<|sqn z19 j (oMv j j)<|sqn z19 j (Oq j JU II j j j j (fun e=>nomatch e))<|sqn z19 j (TM (cs:=[.inr 3 0 0 _ 0 0]) j jG j j j (iQ JU) j j)<|sqn z19 j (oCI (u':=x56) j j j j (iQ JU) j j (Qo j XH) j j)<|nl)<|us<|?_
    obtain ⟨x61,yY,h⟩:=bs h
    obtain ⟨x63,Uh,h⟩:=bs h
    obtain ⟨x64,VA,h⟩:=bs h
    refine g1 j j (mk [(3,H 3 0),(9,iv gq),(48,iv (iV.length:Int)),(49,iv gq)] [(3,Oc [⟨.dp 0,0,0,W 1 (eL 1 eI) (jF.set gq.toNat x56)⟩])]) (sqn z19 j (oMv j j)<|sqn z19 j (oMv j j)<|sqn z19 j (oMv j j)<|sqn z19 j (oMv j j)<|sqn z19 j (Oq j yY II j j j j (fun e=>nomatch e))<|sqn z19 j (TM (cs:=[.inr 3 0 0 _ 0 0]) j jG j j j (iQ yY) j j)<|sqn z19 j (oCr (xs:=[.v false [.inr 3 0 0 _ 0 0]]) (vs:=[(false,[.own 63 0 0])]) (v:=.v false [.own 63 0 0]) (c:=⟨.sh,0,_⟩) (cs:=[]) (JC j Uh) (.inl j) j Rh j (ppM (L6 j j (iQ yY) j) pp0) j j pb0 j j j)<|sqn z19 j (Oq j VA II j j j j (fun e=>nomatch e))<|sq0 (UX (v':=x63) jG j j j j (tkO j j tk0) j j (iQ VA) j)<|nl)<|Unw.blk<|us<|g1 j j (mk [(3,H 3 0),(48,iv (iV.length:Int)),(49,iv gq)] [(3,Oc [⟨.dp 0,0,0,W 1 (eL 1 eI) ((jF.set gq.toNat x56).set gq.toNat x63)⟩])]) (sqn z19 j (oBi j j j j)<|sqn z19 j (oMv j j)<|nl)<|Unw.nil<|?_
    cases h
    exact ⟨j,(by kernel_rfl)⟩
   ·refine Go.exit<|ux<|Unw.nil<|?_
    cases h
    exact ⟨j,(by kernel_rfl)⟩
  ·rintro ⟨e,st⟩ hp
   obtain ⟨rV,rfl⟩:∃y,y=o:=⟨o,rfl⟩
   obtain ⟨he,hst⟩:=hp
   obtain rfl:e= .exit 4:=he
   refine Unw.nN<|us<|gs<|g2 c19 j j hst (sqn z19 j (oMv j j)<|sqf z19 j (UY j j j j j) (WC j j j)<|nl)<|us<|Go.ret (Unw.ret ?_)
   cases h
   exact fr WU j
theorem uh {m_0:Int} {sZ:Int} {Gx:(List Int)} {Gy:Int} {r:Bool} (h:aS m_0 sZ Gx Gy=some r):FX 38 [.im 2 false [I m_0],.im 2 false [.cp [I sZ] 0],.im 2 false [.cp [W 1 eI Gx] 0],.im 2 false [.cp [I Gy] 0]] (B0 [(false,[.im 0 (V r)])]):=by
 unfold aS at h
 refine gn 17 Try.func38 rfl ?_
 refine gs<|g0 j j (q (ai j j)<|nl)<|us<|gs<|?_
 obtain ⟨JE,hm2,h⟩:=bs h
 refine gd c38 j j j j (mk [(5,bv JE)] []) ?_ ?_
 ·refine t j j (oMv j j)<|t j j (oLd (cs:=[.im 2 _]) j tF2 j j)<|t j j (oBi j j j j)<|t j j (oMv j j)<|?_
  refine ic hm2 (fun hc1 hm2=>?_) fun hc1 hm2=>?_
  ·obtain ⟨x12,DZ,hm2⟩:=bs hm2
   cases hm2
   exact tT j j j j (aj.2 hc1) (oLd (cs:=[.im 2 _]) j jG j j)<|tT j j j j (aj.2 hc1) (oMv j j)<|tT j j j j (aj.2 hc1) (mZ j DZ cu j j)<|tT j j j j (aj.2 hc1) (oLd (cs:=[.im 2 _]) j tF2 j j)<|tT j j j j (aj.2 hc1) (oLd (cs:=[.im 2 _]) j tF2 j j)<|tT j j j j (aj.2 hc1) (oBi j j j j)<|t j j (dZ j j (aj.2 hc1) j)<|sS (dN z38 j (ai j j)) trivial (sD (by kernel_rfl))
  ·cases hm2
   exact tF j j j j (byF aj hc1) j<|tF j j j j (byF aj hc1) j<|tF j j j j (byF aj hc1) j<|tF j j j j (byF aj hc1) j<|tF j j j j (byF aj hc1) j<|tF j j j j (byF aj hc1) j<|t j j (kM j j (byF aj hc1) j)<|sS (dN z38 j (ai j j)) trivial (sD (by kernel_rfl))
 ·refine us<|Go.ret (Unw.ret ?_)
  cases h
  exact fr Xg j
theorem ou {s_0:(List Int)} {wJ:Int} {wK:(List Int)} {wL:Int} {r:Int} (h:eF s_0 (fun b0=>aS b0 wJ wK wL)=some r):FX 49 [.im 2 false [W 1 eI s_0],.im 2 false [.clo 38 [.cp [I wJ] 0,.cp [W 1 eI wK] 0,.cp [I wL] 0]]] (B0 [(false,[.im 0 (I r)])]):=by
 unfold eF at h
 refine gn 19 Try.func49 rfl ?_
 refine gs<|g0 j j (q (ai j j)<|nl)<|us<|gs<|gs<|g0 j j (q (oMv j j)<|q (rE j j jH j)<|q (oMv j j)<|nl)<|us<|Go.block<|?_
 obtain ⟨o,hl,h⟩:=bs h
 refine gl c49 j _ (fun (nS:Int)=>mk [(0,D 2 (W 1 eI s_0)),(1,D 2 (.clo 38 [.cp [I wJ] 0,.cp [W 1 eI wK] 0,.cp [I wL] 0])),(7,iv (s_0.length:Int)),(8,iv nS)] []) (fun (o:(Unit ⊕ Int)) (p:Ex×St)=>match o with | (.inl _)=>p.1= .exit 0∧p.2.norm ([],[])=mk [] [] | (.inr r2)=>p.1= .ret∧fin Try.prog cfg 49 Try.f49 [.im 2 false [W 1 eI s_0],.im 2 false [.clo 38 [.cp [I wJ] 0,.cp [W 1 eI wK] 0,.cp [I wL] 0]]] p.2=some (B0 [(false,[.im 0 (I r2)])])) hl (by kernel_rfl) ?_ ?_ ?_
 ·intro o p hp e
  rcases o with u | r2<;>exact nomatch (hp.1.symm.trans e)
 ·rintro nS o h
  unfold bH at h
  refine gs<|g0 j j (q (oBi j j j j)<|nl)<|us<|gs<|gc h j aj (fun hc5 h=>?_) fun hc5 h=>?_
  ·refine Go.skip<|us<|gs<|Go.block<|gs<|g0 j j (q (oMv j j)<|q (ai j j)<|nl)<|us<|gs<|?_
   obtain ⟨x14,JM,h⟩:=bs h
   obtain ⟨x16,hx16,h⟩:=bs h
   refine g0 j j (q (oMv j j)<|q (oMv j j)<|q (oMv j j)<|q (mZ j JM cu j j)<|q (oLd (cs:=[.im 2 _]) j tF2 j j)<|q (oCa (xs:=[.v false [.im 2 _],.v false [.im 2 _],.v false [.im 2 _],.v false [.im 2 _]]) (vs:=[(false,[.im 0 _])]) (v:=.v false [.im 0 _]) (uh hx16) (.inr ⟨_,_,j,j⟩) j GI j (ppC j (ppC j (ppC j (ppC j pp0)))) j j pb0 j j j)<|nl)<|us<|gc h j iR (fun hc6 h=>?_) fun hc6 h=>?_
   ·refine gs<|g0 j j (q (oMv j j)<|q (ai j j)<|nl)<|us<|Go.ret (Unw.ret ?_)
    cases h
    exact ⟨j,(fo Vl j)⟩
   ·refine Go.skip<|Unw.blk<|us<|g0 j j (q (oBi j j j j)<|q (oMv j j)<|nl)<|Unw.nil<|?_
    cases h
    exact ⟨j,(by kernel_rfl)⟩
  ·refine Go.exit<|ux<|Unw.nil<|?_
   cases h
   exact ⟨j,(by kernel_rfl)⟩
 ·rintro ⟨e,st⟩ hp
  rcases o with u | r2
  ·dsimp only at h
   obtain ⟨he,hst⟩:=hp
   obtain rfl:e= .exit 0:=he
   refine Unw.nN<|us<|gs<|g2 c49 j j hst (q (ai j j)<|nl)<|us<|Go.ret (Unw.ret ?_)
   cases h
   exact fr Vl j
  ·dsimp only at h
   obtain ⟨he,hfin⟩:=hp
   obtain rfl:e= .ret:=he
   cases h
   exact Unw.ret (nH hfin)
theorem mV {s_0:(List Int)} {wJ:Int} {wK:(List Int)} {wL:Int} {r:Bool} (h:bI s_0 (fun b0=>aS b0 wJ wK wL)=some r):FX 37 [.im 2 false [W 1 eI s_0],.im 2 false [.clo 38 [.cp [I wJ] 0,.cp [W 1 eI wK] 0,.cp [I wL] 0]]] (B0 [(false,[.im 0 (V r)])]):=by
 unfold bI at h
 refine gn 9 Try.func37 rfl ?_
 refine gs<|g0 j j (q (ai j j)<|nl)<|us<|gs<|?_
 obtain ⟨x7,hx7,h⟩:=bs h
 refine g0 j j (q (oMv j j)<|q (oMv j j)<|q (oCa (xs:=[.v false [.im 2 _],.v false [.im 2 _]]) (vs:=[(false,[.im 0 _])]) (v:=.v false [.im 0 _]) (ou hx7) (.inl j) j JJ j (ppC j (ppC j pp0)) j j pb0 j j j)<|q (oBi j j j j)<|q (ai j j)<|nl)<|us<|Go.ret (Unw.ret ?_)
 cases h
 exact fr Xf j
theorem vO {self:(aG×(List Int)×Int×Int)→Option ((List Int)×Int×aG)} (ih:∀{s_0:aG} {az:(List Int)} {dP:Int} {dO:Int} {r:((List Int)×Int×aG)},self (s_0,az,dP,dO)=some r→FX 20 [.ptr true [(.imm,W 1 (eL 1 eI) s_0.near),(.imm,I s_0.left)],.mv 1 (List.map eI az),.im 2 false [I dP],.im 2 false [I dO]] ([(false,[.ow 0 1 (List.map eI r.1)]),(false,[.im 0 (I r.2.1)])],[.ptr true [(.imm,W 1 (eL 1 eI) r.2.2.near),(.imm,I r.2.2.left)]])) {s_0:aG} {az:(List Int)} {dP:Int} {dO:Int} {r:((List Int)×Int×aG)} (h:bJ self s_0 az dP dO=some r):FX 20 [.ptr true [(.imm,W 1 (eL 1 eI) s_0.near),(.imm,I s_0.left)],.mv 1 (List.map eI az),.im 2 false [I dP],.im 2 false [I dO]] ([(false,[.ow 0 1 (List.map eI r.1)]),(false,[.im 0 (I r.2.1)])],[.ptr true [(.imm,W 1 (eL 1 eI) r.2.2.near),(.imm,I r.2.2.left)]]):=by
 unfold bJ at h
 refine Aw (A:=[(0,M 0),(1,H 1 0),(2,D 2 (I dP)),(3,D 2 (I dO))]) (B:=[(0,Od (G 1 (tK s_0))),(1,Oc [Z (W 1 eI az)]),(2,none),(3,none)]) (nt:=75) rfl rfl Try.func20 rfl rfl rfl rfl ?_
 refine gs<|g0 j j (q (oBx j jG j (tkO j j tk0))<|q (yP j j AP)<|q (ai j j)<|nl)<|us<|gs<|gs<|g0 j j (q (oMv j j)<|q (oNl j j j)<|q (oFA (r':=.mp 0 0 1) j JF j j)<|q (oLd (cs:=[.im 0 _]) j tF2 j j)<|q (oBi j j j j)<|nl)<|us<|gc h j iEq (fun hc1 h=>?_) fun hc1 h=>?_
 ·refine gs<|g0 j j (q (yP j j AP)<|q (ai j j)<|nl)<|us<|Go.ret (Unw.ret ?_)
  cases h
  exact fr Ri j
 ·refine Go.skip<|us<|gs<|g0 j j (q (oMv j j)<|q (oNl j j j)<|q (oFA (r':=.mp 0 0 1) j JF j j)<|q (oLd (cs:=[.im 0 _]) j tF2 j j)<|q (oBi j j j j)<|q (oNl j j j)<|q (oFA (r':=.mp 0 0 1) j JF j j)<|q (oSt tF2 j j j (tkI tk0) j j j)<|nl)<|us<|gs<|g1 j j (mk [(0,M 0),(2,iv dP),(3,iv dO),(5,M 5)] [(0,Od [Ct 1 (W 1 (eL 1 eI) s_0.near),C (I (w64 (s_0.left - 1)))]),(5,Ob [Z (W 1 eI az)])]) (q (oLd (cs:=[.own 5 0 0]) j jG j j)<|q (Gn j j jH j j j (fun e=>nomatch e))<|q (oAl j tF2 (tkI tk0))<|q (oSt tF2 j j j (tkI tk0) j j j)<|nl)<|us<|gs<|gs<|gd c20 j j j (st1:=mk [(0,M 0),(2,iv dP),(3,iv dO),(5,M 5),(10,M 10)] [(0,Od [Ct 1 (W 1 (eL 1 eI) s_0.near),C (I (w64 (s_0.left - 1)))]),(5,Ob [Z (W 1 eI az)]),(10,Ob [C (I (az.length:Int))])]) (by kernel_rfl) (mk [(0,M 0),(2,iv dP),(3,iv dO),(5,M 5),(10,M 10),(34,bv ((az.length:Int)==(s_0.near.length:Int)))] [(0,Od [Ct 1 (W 1 (eL 1 eI) s_0.near),C (I (w64 (s_0.left - 1)))]),(5,Ob [Z (W 1 eI az)]),(10,Ob [C (I (az.length:Int))])]) (t j j (oLd (cs:=[.im 0 _]) j tF2 j j)<|t j j (oMv j j)<|t j j (oNl j j j)<|t j j (oFA (r':=.mp 0 0 0) j OD j j)<|t j j (oLd (cs:=[.im 1 _]) j Vo j j)<|t j j (rE j j Vp j)<|t j j (oBi j j j j)<|sD (by kernel_rfl))<|us<|gc h j iEq (fun hc2 h=>?_) fun hc2 h=>?_
  ·refine gs<|g0 j j (q (oLd (cs:=[.own 5 0 0]) j jG j j)<|q (qO j j j j j)<|q (ai j j)<|nl)<|us<|Go.ret (Unw.ret ?_)
   cases h
   exact fr Ri j
  ·refine Go.skip<|us<|gs<|gs<|g0 j j (q (oAl j tF2 (tkI tk0))<|q (oSt tF2 j j j (tkI tk0) j j j)<|nl)<|us<|Go.block<|?_
   obtain ⟨o,hl,h⟩:=bs h
   refine gl c20 j _ (fun (s:((List (List Int))×Int×Int))=>match s with | (iF,iY,aF)=>mk [(0,M 0),(2,iv dP),(3,iv dO),(5,M 5),(10,M 10),(11,M 11)] [(0,Od [Ct 1 (W 1 (eL 1 eI) iF),C (I iY)]),(5,Ob [Z (W 1 eI az)]),(10,Ob [C (I (az.length:Int))]),(11,Ob [C (I aF)])]) (fun (o:(((List (List Int))×Int) ⊕ ((List Int)×Int×aG))) (p:Ex×St)=>match o with | (.inl (qX,qY))=>p.1= .exit 0∧p.2.norm ([],[0])=mk [] [(0,Od [Ct 1 (W 1 (eL 1 eI) qX),C (I qY)])] | (.inr r2)=>p.1= .ret∧fin Try.prog cfg 20 Try.f20 [.ptr true [(.imm,W 1 (eL 1 eI) s_0.near),(.imm,I s_0.left)],.mv 1 (List.map eI az),.im 2 false [I dP],.im 2 false [I dO]] p.2=some ([(false,[.ow 0 1 (List.map eI r2.1)]),(false,[.im 0 (I r2.2.1)])],[.ptr true [(.imm,W 1 (eL 1 eI) r2.2.2.near),(.imm,I r2.2.2.left)]])) hl (by kernel_rfl) ?_ ?_ ?_
   ·intro o p hp e
    rcases o with ⟨qX,qY⟩ | r2<;>exact nomatch (hp.1.symm.trans e)
   ·rintro ⟨iF,iY,aF⟩ o h
    unfold bG at h
    dsimp only at h
    refine gs<|gs<|gX c20 j j j (mk [(0,M 0),(2,iv dP),(3,iv dO),(5,M 5),(10,M 10),(11,M 11),(43,bv ((decide (aF<dO))&&(decide (aF≤dP))))] [(0,Od [Ct 1 (W 1 (eL 1 eI) iF),C (I iY)]),(5,Ob [Z (W 1 eI az)]),(10,Ob [C (I (az.length:Int))]),(11,Ob [C (I aF)])]) ?_ ?_
    ·refine xq (oLd (cs:=[.im 0 _]) j tF2 j j)<|xq (oMv j j)<|xq (oBi j j j j)<|xq (oMv j j)<|?_
     by_cases nC:aF<dO
     ·exact xqT rfl rfl (aj.2 nC) (oLd (cs:=[.im 0 _]) rfl tF2 rfl rfl)<|xqT rfl rfl (aj.2 nC) (oMv rfl rfl)<|xqT rfl rfl (aj.2 nC) (oBi rfl rfl rfl rfl)<|xq (dZ rfl rfl (aj.2 nC) rfl)<|xn (Eq.trans (b:=(fun wM:Bool=>mk [(0,M 0),(2,iv dP),(3,iv dO),(5,M 5),(10,M 10),(11,M 11),(43,bv wM)] [(0,Od [Ct 1 (W 1 (eL 1 eI) iF),C (I iY)]),(5,Ob [Z (W 1 eI az)]),(10,Ob [C (I (az.length:Int))]),(11,Ob [C (I aF)])]) (decide (aF≤dP))) (by kernel_rfl) (congrArg (fun wM:Bool=>mk [(0,M 0),(2,iv dP),(3,iv dO),(5,M 5),(10,M 10),(11,M 11),(43,bv wM)] [(0,Od [Ct 1 (W 1 (eL 1 eI) iF),C (I iY)]),(5,Ob [Z (W 1 eI az)]),(10,Ob [C (I (az.length:Int))]),(11,Ob [C (I aF)])]) (by first | rfl | (simp [(aj.2 nC)];done) | (simp [(aj.2 nC)];omega))))
     ·exact aC rfl rfl (byF aj nC) rfl<|aC rfl rfl (byF aj nC) rfl<|aC rfl rfl (byF aj nC) rfl<|xq (kM rfl rfl (byF aj nC) rfl)<|xn (Eq.trans (b:=(fun wM:Bool=>mk [(0,M 0),(2,iv dP),(3,iv dO),(5,M 5),(10,M 10),(11,M 11),(43,bv wM)] [(0,Od [Ct 1 (W 1 (eL 1 eI) iF),C (I iY)]),(5,Ob [Z (W 1 eI az)]),(10,Ob [C (I (az.length:Int))]),(11,Ob [C (I aF)])]) false) (by kernel_rfl) (congrArg (fun wM:Bool=>mk [(0,M 0),(2,iv dP),(3,iv dO),(5,M 5),(10,M 10),(11,M 11),(43,bv wM)] [(0,Od [Ct 1 (W 1 (eL 1 eI) iF),C (I iY)]),(5,Ob [Z (W 1 eI az)]),(10,Ob [C (I (az.length:Int))]),(11,Ob [C (I aF)])]) (by first | rfl | (simp [(byF aj nC)];done) | (simp [(byF aj nC)];omega))))
    ·refine us<|gc h j (Qn aj aj) (fun hc12 h=>?_) fun hc12 h=>?_
     ·refine Go.skip<|us<|gs<|Go.join (fun st=>∃qj,∃ql,bU self aF qj ql=some o∧st.norm ([0,2,3,5,10,11],[0,5,10,11])=mk [(0,M 0),(2,iv dP),(3,iv dO),(5,M 5),(10,M 10),(11,M 11)] [(0,Od [Ct 1 (W 1 (eL 1 eI) qj),C (I ql)]),(5,Ob [Z (W 1 eI az)]),(10,Ob [C (I (az.length:Int))]),(11,Ob [C (I aF)])]) ?_ ?_
      ·rintro st ⟨qj,ql,h,hst⟩
       unfold bU at h
       refine us<|gs<|gs<|g2 c20 j j hst (q (oLd (cs:=[.im 0 _]) j tF2 j j)<|nl)<|us<|g0 j j (q (oAl j tF2 (tkI tk0))<|q (oSt tF2 j j j (tkI tk0) j j j)<|nl)<|us<|g1 j j (mk [(0,M 0),(2,iv dP),(3,iv dO),(5,M 5),(10,M 10),(11,M 11)] [(0,Od [Ct 1 (W 1 (eL 1 eI) qj),C (I ql)]),(5,Ob [Z (W 1 eI az)]),(10,Ob [C (I (az.length:Int))]),(11,Ob [C (I aF)])]) (q (oLd (cs:=[.im 0 _]) j tF2 j j)<|q (oBi j j j j)<|q (oSt tF2 j j j (tkI tk0) j j j)<|nl)<|Unw.nil<|?_
       cases h
       exact ⟨j,(by kernel_rfl)⟩
      ·intro K15
       refine Go.block<|gs<|gs<|?_
       obtain ⟨x51,XI,h⟩:=bs h
       obtain ⟨x54,JU,h⟩:=bs h
       refine gd c20 j j j j (mk [(0,M 0),(2,iv dP),(3,iv dO),(5,M 5),(10,M 10),(11,M 11),(54,bv x54)] [(0,Od [Ct 1 (W 1 (eL 1 eI) iF),C (I iY)]),(5,Ob [Z (W 1 eI az)]),(10,Ob [C (I (az.length:Int))]),(11,Ob [C (I aF)])]) (t j j (oMv j j)<|sK (O:=[0]) j j j (dN z20 j (oNl j j j))<|sK (O:=[0]) j j j (dN z20 j (oFA (r':=.mp 0 0 0) j OD j j))<|sK (O:=[0]) j j j (dN z20 j (oLd (cs:=[.im 1 _]) j Vo j j))<|sK (O:=[10]) j j j (dN z20 j (oLd (cs:=[.im 0 _]) j tF2 j j))<|t j j (mZ j XI II j j)<|t j j (oLd (cs:=[.im 1 _]) j jG j j)<|sS (dN z20 j (oMF (rs:=[.mp 10 0 0,.mp 5 0 0,.mp 11 0 0]) j j)) (kY ⟨j,trivial⟩ (kY ⟨j,trivial⟩ (kY ⟨j,trivial⟩ (kY ⟨j,trivial⟩ trivial)))) (sS (dN z20 j (oCa (xs:=[.v false [.im 1 _],.fn 38 [.mp 10 0 0,.mp 5 0 0,.mp 11 0 0]]) (vs:=[(false,[.im 0 _])]) (v:=.v false [.im 0 _]) (mV JU) (.inl j) j JI j (ppC j (ppC j pp0)) j j pb0 j j j)) (kN j (kN j (kN j (kN j trivial)))) (sD (by kernel_rfl))))<|us<|gc h j iR (fun hc16 h=>?_) fun hc16 h=>?_
       ·exact Go.exit<|ux<|Unw.nN<|K15 _ ⟨iF,iY,h,(by kernel_rfl)⟩
       ·refine Go.skip<|us<|gs<|?_
        obtain ⟨x58,O1,h⟩:=bs h
        obtain ⟨x61,yY,h⟩:=bs h
        obtain ⟨x67,IK,h⟩:=bs h
        refine gd c20 j j j j (mk [(0,M 0),(2,iv dP),(3,iv dO),(5,M 5),(10,M 10),(11,M 11),(12,H 12 0),(13,iv x67.2.1)] [(0,Od (G 1 (tK x67.2.2))),(5,Ob [Z (W 1 eI az)]),(10,Ob [C (I (az.length:Int))]),(11,Ob [C (I aF)]),(12,Oc [Z (W 1 eI x67.1)])]) (t j j (oMv j j)<|t j j (oMv j j)<|t j j (oMv j j)<|sK (O:=[5]) j j j (dN z20 j (oLd (cs:=[.own 5 0 0]) j jG j j))<|sK (O:=[11]) j j j (dN z20 j (oLd (cs:=[.im 0 _]) j tF2 j j))<|sK (O:=[11]) j j j (dN z20 j (oLd (cs:=[.im 0 _]) j tF2 j j))<|t j j (oBi j j j j)<|sF (dN z20 j (oCr (xs:=[.v false [.own 5 0 0]]) (vs:=[(false,[.own 58 0 0])]) (v:=.v false [.own 58 0 0]) (c:=⟨.sh,0,_⟩) (cs:=[]) (ve (en:=eI) (L:=az) j O1 (fun _=>j)) (.inl j) j zN j (ppC j pp0) j j pb0 j j j)) (kY ⟨j,trivial⟩ (kY ⟨j,trivial⟩ (kN j trivial))) (sF (dN z20 j (oBS (es:=List.map eI ([aF]:List Int)) j cu j (ptC j (fxI fx0) j pt0) (fC j fun _=>j))) (kY ⟨j,trivial⟩ (kN j (kY ⟨j,trivial⟩ trivial))) (sF (dN z20 j (yQ (en:=eI) (M:=([aF]:List Int)) j yY j cu j j jH (.inl ⟨_,j⟩) j j j j (nO j j) (fC j fun _=>j))) (kY ⟨j,trivial⟩ (kN j (kN j trivial))) (sS (dN z20 j (Iw j j)) (kN j (kY ⟨j,trivial⟩ (kY ⟨j,trivial⟩ trivial))) (sS (dN z20 j (oCr (xs:=[.v false [.mp 0 0 0],.v false [.own 61 0 0],.v false [.im 0 _],.v false [.im 0 _]]) (vs:=[(false,[.own 67 0 0]),(false,[.im 0 _])]) (v:=.tup [(false,[.own 67 0 0]),(false,[.im 0 _])]) (c:=⟨.sh,0,_⟩) (cs:=[]) (ih IK) (.inl j) j fF j (ppP j j j (ppM (kL j j) (ppC j (ppC j pp0)))) j j (pbP j j pb0) j j j)) (kN j (kN j (kN j trivial))) (t j j (uY j j)<|t j j (oEx j j j)<|t j j (oEx j j j)<|sS (dN z20 j (qO j j j j j)) (kN j (kN j (kN j trivial))) (sS (dN z20 j (ai j j)) (kN j (kN j (kN j trivial))) (sD (by kernel_rfl)))))) (sS (dN z20 j (Iw j j)) (kN j (kY ⟨j,trivial⟩ (kY ⟨j,trivial⟩ trivial))) (sS (dN z20 j (yQ (en:=eI) (M:=([aF]:List Int)) j yY j cu j j jH (.inl ⟨_,j⟩) j j j j (nO j j) (fC j fun _=>j))) (kY ⟨j,trivial⟩ (kN j (kN j trivial))) (sS (dN z20 j (oCr (xs:=[.v false [.mp 0 0 0],.v false [.own 61 0 0],.v false [.im 0 _],.v false [.im 0 _]]) (vs:=[(false,[.own 67 0 0]),(false,[.im 0 _])]) (v:=.tup [(false,[.own 67 0 0]),(false,[.im 0 _])]) (c:=⟨.sh,0,_⟩) (cs:=[]) (ih IK) (.inl j) j fF j (ppP j j j (ppM (kL j j) (ppC j (ppC j pp0)))) j j (pbP j j pb0) j j j)) (kN j (kN j (kN j trivial))) (t j j (uY j j)<|t j j (oEx j j j)<|t j j (oEx j j j)<|sS (dN z20 j (qO j j j j j)) (kN j (kN j (kN j trivial))) (sS (dN z20 j (ai j j)) (kN j (kN j (kN j trivial))) (sD (by kernel_rfl)))))))) (sS (dN z20 j (Iw j j)) (kN j (kY ⟨j,trivial⟩ (kY ⟨j,trivial⟩ trivial))) (sS (dN z20 j (oBS (es:=List.map eI ([aF]:List Int)) j cu j (ptC j (fxI fx0) j pt0) (fC j fun _=>j))) (kY ⟨j,trivial⟩ (kN j (kY ⟨j,trivial⟩ trivial))) (sS (dN z20 j (yQ (en:=eI) (M:=([aF]:List Int)) j yY j cu j j jH (.inl ⟨_,j⟩) j j j j (nO j j) (fC j fun _=>j))) (kY ⟨j,trivial⟩ (kN j (kN j trivial))) (sS (dN z20 j (oCr (xs:=[.v false [.mp 0 0 0],.v false [.own 61 0 0],.v false [.im 0 _],.v false [.im 0 _]]) (vs:=[(false,[.own 67 0 0]),(false,[.im 0 _])]) (v:=.tup [(false,[.own 67 0 0]),(false,[.im 0 _])]) (c:=⟨.sh,0,_⟩) (cs:=[]) (ih IK) (.inl j) j fF j (ppP j j j (ppM (kL j j) (ppC j (ppC j pp0)))) j j (pbP j j pb0) j j j)) (kN j (kN j (kN j trivial))) (t j j (uY j j)<|t j j (oEx j j j)<|t j j (oEx j j j)<|sS (dN z20 j (qO j j j j j)) (kN j (kN j (kN j trivial))) (sS (dN z20 j (ai j j)) (kN j (kN j (kN j trivial))) (sD (by kernel_rfl))))))))) (sF (dN z20 j (oBS (es:=List.map eI ([aF]:List Int)) j cu j (ptC j (fxI fx0) j pt0) (fC j fun _=>j))) (kY ⟨j,trivial⟩ (kN j (kY ⟨j,trivial⟩ trivial))) (sF (dN z20 j (oCr (xs:=[.v false [.own 5 0 0]]) (vs:=[(false,[.own 58 0 0])]) (v:=.v false [.own 58 0 0]) (c:=⟨.sh,0,_⟩) (cs:=[]) (ve (en:=eI) (L:=az) j O1 (fun _=>j)) (.inl j) j zN j (ppC j pp0) j j pb0 j j j)) (kY ⟨j,trivial⟩ (kY ⟨j,trivial⟩ (kN j trivial))) (sF (dN z20 j (yQ (en:=eI) (M:=([aF]:List Int)) j yY j cu j j jH (.inl ⟨_,j⟩) j j j j (nO j j) (fC j fun _=>j))) (kY ⟨j,trivial⟩ (kN j (kN j trivial))) (sS (dN z20 j (Iw j j)) (kN j (kY ⟨j,trivial⟩ (kY ⟨j,trivial⟩ trivial))) (sS (dN z20 j (oCr (xs:=[.v false [.mp 0 0 0],.v false [.own 61 0 0],.v false [.im 0 _],.v false [.im 0 _]]) (vs:=[(false,[.own 67 0 0]),(false,[.im 0 _])]) (v:=.tup [(false,[.own 67 0 0]),(false,[.im 0 _])]) (c:=⟨.sh,0,_⟩) (cs:=[]) (ih IK) (.inl j) j fF j (ppP j j j (ppM (kL j j) (ppC j (ppC j pp0)))) j j (pbP j j pb0) j j j)) (kN j (kN j (kN j trivial))) (t j j (uY j j)<|t j j (oEx j j j)<|t j j (oEx j j j)<|sS (dN z20 j (qO j j j j j)) (kN j (kN j (kN j trivial))) (sS (dN z20 j (ai j j)) (kN j (kN j (kN j trivial))) (sD (by kernel_rfl)))))) (sS (dN z20 j (Iw j j)) (kN j (kY ⟨j,trivial⟩ (kY ⟨j,trivial⟩ trivial))) (sS (dN z20 j (yQ (en:=eI) (M:=([aF]:List Int)) j yY j cu j j jH (.inl ⟨_,j⟩) j j j j (nO j j) (fC j fun _=>j))) (kY ⟨j,trivial⟩ (kN j (kN j trivial))) (sS (dN z20 j (oCr (xs:=[.v false [.mp 0 0 0],.v false [.own 61 0 0],.v false [.im 0 _],.v false [.im 0 _]]) (vs:=[(false,[.own 67 0 0]),(false,[.im 0 _])]) (v:=.tup [(false,[.own 67 0 0]),(false,[.im 0 _])]) (c:=⟨.sh,0,_⟩) (cs:=[]) (ih IK) (.inl j) j fF j (ppP j j j (ppM (kL j j) (ppC j (ppC j pp0)))) j j (pbP j j pb0) j j j)) (kN j (kN j (kN j trivial))) (t j j (uY j j)<|t j j (oEx j j j)<|t j j (oEx j j j)<|sS (dN z20 j (qO j j j j j)) (kN j (kN j (kN j trivial))) (sS (dN z20 j (ai j j)) (kN j (kN j (kN j trivial))) (sD (by kernel_rfl)))))))) (sS (dN z20 j (Iw j j)) (kN j (kY ⟨j,trivial⟩ (kY ⟨j,trivial⟩ trivial))) (sS (dN z20 j (oCr (xs:=[.v false [.own 5 0 0]]) (vs:=[(false,[.own 58 0 0])]) (v:=.v false [.own 58 0 0]) (c:=⟨.sh,0,_⟩) (cs:=[]) (ve (en:=eI) (L:=az) j O1 (fun _=>j)) (.inl j) j zN j (ppC j pp0) j j pb0 j j j)) (kY ⟨j,trivial⟩ (kY ⟨j,trivial⟩ (kN j trivial))) (sS (dN z20 j (yQ (en:=eI) (M:=([aF]:List Int)) j yY j cu j j jH (.inl ⟨_,j⟩) j j j j (nO j j) (fC j fun _=>j))) (kY ⟨j,trivial⟩ (kN j (kN j trivial))) (sS (dN z20 j (oCr (xs:=[.v false [.mp 0 0 0],.v false [.own 61 0 0],.v false [.im 0 _],.v false [.im 0 _]]) (vs:=[(false,[.own 67 0 0]),(false,[.im 0 _])]) (v:=.tup [(false,[.own 67 0 0]),(false,[.im 0 _])]) (c:=⟨.sh,0,_⟩) (cs:=[]) (ih IK) (.inl j) j fF j (ppP j j j (ppM (kL j j) (ppC j (ppC j pp0)))) j j (pbP j j pb0) j j j)) (kN j (kN j (kN j trivial))) (t j j (uY j j)<|t j j (oEx j j j)<|t j j (oEx j j j)<|sS (dN z20 j (qO j j j j j)) (kN j (kN j (kN j trivial))) (sS (dN z20 j (ai j j)) (kN j (kN j (kN j trivial))) (sD (by kernel_rfl))))))))) (sS (dN z20 j (Iw j j)) (kN j (kY ⟨j,trivial⟩ (kY ⟨j,trivial⟩ trivial))) (sF (dN z20 j (oCr (xs:=[.v false [.own 5 0 0]]) (vs:=[(false,[.own 58 0 0])]) (v:=.v false [.own 58 0 0]) (c:=⟨.sh,0,_⟩) (cs:=[]) (ve (en:=eI) (L:=az) j O1 (fun _=>j)) (.inl j) j zN j (ppC j pp0) j j pb0 j j j)) (kY ⟨j,trivial⟩ (kY ⟨j,trivial⟩ (kN j trivial))) (sS (dN z20 j (oBS (es:=List.map eI ([aF]:List Int)) j cu j (ptC j (fxI fx0) j pt0) (fC j fun _=>j))) (kY ⟨j,trivial⟩ (kN j (kY ⟨j,trivial⟩ trivial))) (sS (dN z20 j (yQ (en:=eI) (M:=([aF]:List Int)) j yY j cu j j jH (.inl ⟨_,j⟩) j j j j (nO j j) (fC j fun _=>j))) (kY ⟨j,trivial⟩ (kN j (kN j trivial))) (sS (dN z20 j (oCr (xs:=[.v false [.mp 0 0 0],.v false [.own 61 0 0],.v false [.im 0 _],.v false [.im 0 _]]) (vs:=[(false,[.own 67 0 0]),(false,[.im 0 _])]) (v:=.tup [(false,[.own 67 0 0]),(false,[.im 0 _])]) (c:=⟨.sh,0,_⟩) (cs:=[]) (ih IK) (.inl j) j fF j (ppP j j j (ppM (kL j j) (ppC j (ppC j pp0)))) j j (pbP j j pb0) j j j)) (kN j (kN j (kN j trivial))) (t j j (uY j j)<|t j j (oEx j j j)<|t j j (oEx j j j)<|sS (dN z20 j (qO j j j j j)) (kN j (kN j (kN j trivial))) (sS (dN z20 j (ai j j)) (kN j (kN j (kN j trivial))) (sD (by kernel_rfl))))))) (sS (dN z20 j (oBS (es:=List.map eI ([aF]:List Int)) j cu j (ptC j (fxI fx0) j pt0) (fC j fun _=>j))) (kY ⟨j,trivial⟩ (kN j (kY ⟨j,trivial⟩ trivial))) (sS (dN z20 j (oCr (xs:=[.v false [.own 5 0 0]]) (vs:=[(false,[.own 58 0 0])]) (v:=.v false [.own 58 0 0]) (c:=⟨.sh,0,_⟩) (cs:=[]) (ve (en:=eI) (L:=az) j O1 (fun _=>j)) (.inl j) j zN j (ppC j pp0) j j pb0 j j j)) (kY ⟨j,trivial⟩ (kY ⟨j,trivial⟩ (kN j trivial))) (sS (dN z20 j (yQ (en:=eI) (M:=([aF]:List Int)) j yY j cu j j jH (.inl ⟨_,j⟩) j j j j (nO j j) (fC j fun _=>j))) (kY ⟨j,trivial⟩ (kN j (kN j trivial))) (sS (dN z20 j (oCr (xs:=[.v false [.mp 0 0 0],.v false [.own 61 0 0],.v false [.im 0 _],.v false [.im 0 _]]) (vs:=[(false,[.own 67 0 0]),(false,[.im 0 _])]) (v:=.tup [(false,[.own 67 0 0]),(false,[.im 0 _])]) (c:=⟨.sh,0,_⟩) (cs:=[]) (ih IK) (.inl j) j fF j (ppP j j j (ppM (kL j j) (ppC j (ppC j pp0)))) j j (pbP j j pb0) j j j)) (kN j (kN j (kN j trivial))) (t j j (uY j j)<|t j j (oEx j j j)<|t j j (oEx j j j)<|sS (dN z20 j (qO j j j j j)) (kN j (kN j (kN j trivial))) (sS (dN z20 j (ai j j)) (kN j (kN j (kN j trivial))) (sD (by kernel_rfl))))))))))))<|us<|gs<|g0 j j (q (oMv j j)<|q (oBi j j j j)<|nl)<|us<|gc h j iNe (fun hc17 h=>?_) fun hc17 h=>?_
        ·refine gs<|g0 j j (q (oMv j j)<|q (oMv j j)<|q (qO j j j j j)<|q (ai j j)<|nl)<|us<|Go.ret (Unw.ret ?_)
         cases h
         exact ⟨j,(fo Ri j)⟩
        ·exact Go.skip<|Unw.blk<|K15 _ ⟨x67.2.2.near,x67.2.2.left,h,(by kernel_rfl)⟩
     ·refine Go.exit<|ux<|Unw.nil<|?_
      cases h
      exact ⟨j,(by kernel_rfl)⟩
   ·rintro ⟨e,st⟩ hp
    rcases o with ⟨qX,qY⟩ | r2
    ·dsimp only at h
     obtain ⟨he,hst⟩:=hp
     obtain rfl:e= .exit 0:=he
     refine Unw.nN<|us<|gs<|g2 c20 j j hst (q (yP j j AP)<|q (ai j j)<|nl)<|us<|Go.ret (Unw.ret ?_)
     cases h
     exact fr Ri j
    ·dsimp only at h
     obtain ⟨he,hfin⟩:=hp
     obtain rfl:e= .ret:=he
     cases h
     exact Unw.ret (nH hfin)
theorem wV {s_0:aG} {az:(List Int)} {dP:Int} {dO:Int} {r:((List Int)×Int×aG)} (h:fK s_0 az dP dO=some r):FX 20 [.ptr true [(.imm,W 1 (eL 1 eI) s_0.near),(.imm,I s_0.left)],.mv 1 (List.map eI az),.im 2 false [I dP],.im 2 false [I dO]] ([(false,[.ow 0 1 (List.map eI r.1)]),(false,[.im 0 (I r.2.1)])],[.ptr true [(.imm,W 1 (eL 1 eI) r.2.2.near),(.imm,I r.2.2.left)]]):=by
 unfold fK at h
 obtain ⟨n,hn⟩:=yg h
 clear h
 induction n generalizing s_0 az dP dO r with
 | zero=>cases hn
 | succ n ihn=>exact vO (self:=rJ _ n) (fun h=>ihn h) hn
theorem xN {t_0:ae} {vJ:Int} {r:((List Int)×Int×Int)} (h:jk t_0 vJ=some r):FX 6 [.im 2 true (af t_0),.im 2 false [I vJ]] (B0 [(false,[.ow 0 1 (List.map eI r.1)]),(false,[.im 0 (I r.2.1)]),(false,[.im 0 (I r.2.2)])]):=by
 unfold jk at h
 refine gn 39 Try.func6 rfl ?_
 refine gs<|g0 j j (q (oBx j dS j (tkI (tkI (tkI tk0))))<|q (yP j j AP)<|q (ai j j)<|q (ai j j)<|nl)<|us<|gs<|Go.block<|gs<|?_
 obtain ⟨x13,O3,h⟩:=bs h
 refine g0 j j (q (oLd (cs:=[.im 0 _,.im 0 _,.im 2 _]) j dS j j)<|q (oCa (xs:=[.v true [.im 0 _,.im 0 _,.im 2 _]]) (vs:=[(false,[.im 0 _])]) (v:=.v false [.im 0 _]) (kG O3) (.inl j) j BV j (ppC j pp0) j j pb0 j j j)<|q (oUn j j j)<|q (ai j j)<|nl)<|us<|?_
 by_cases hc1:x13=true
 ·rw [if_pos hc1] at h
  refine gF j (nF (iR.2 hc1))<|gs<|?_
  obtain ⟨x17,Uk,h⟩:=bs h
  refine g0 j j (q (oMv j j)<|q (oCa (xs:=[.v false [.im 2 _],.v false [.im 0 _],.v false [.im 0 _]]) (vs:=[(false,[.im 0 _])]) (v:=.v false [.im 0 _]) (qK Uk) (.inl j) j wE j (ppC j (ppC j (ppC j pp0))) j j pb0 j j j)<|q (oUn j j j)<|q (ai j j)<|nl)<|us<|?_
  by_cases hc2:x17=true
  ·rw [if_pos hc2] at h
   refine gF j (nF (iR.2 hc2))<|Go.skip<|Unw.blk<|us<|gs<|?_
   obtain ⟨x20,JO,h⟩:=bs h
   refine g0 j j (q (oLd (cs:=[.im 0 _,.im 0 _,.im 2 _]) j dS j j)<|q (oCa (xs:=[.v true [.im 0 _,.im 0 _,.im 2 _]]) (vs:=[(false,[.im 0 _])]) (v:=.v false [.im 0 _]) (o7 JO) (.inl j) j KH j (ppC j pp0) j j pb0 j j j)<|q (oMv j j)<|q (oBu (cs:=[.im 0 _,.im 2 _]) j WN j)<|q (oBx j Xm j (tkI (tkI tk0)))<|q (TJ j j)<|nl)<|us<|gs<|g0 j j (q (ai j j)<|nl)<|us<|Go.block<|?_
   obtain ⟨o,hl,h⟩:=bs h
   refine gl c6 j _ (fun (s:(Int×(List (List Int))×Int))=>match s with | (yV,wz,wB)=>mk [(7,M 23),(8,iv yV)] [(23,Oa [C (W 1 (eL 1 eI) wz),C (I wB)])]) (fun (r2:((List Int)×Int×Int)) (p:Ex×St)=>p.1= .ret∧fin Try.prog cfg 6 Try.f6 [.im 2 true (af t_0),.im 2 false [I vJ]] p.2=some (B0 [(false,[.ow 0 1 (List.map eI r2.1)]),(false,[.im 0 (I r2.2.1)]),(false,[.im 0 (I r2.2.2)])])) hl (by kernel_rfl) ?_ ?_ ?_
   ·intro o p hp e
    exact nomatch (hp.1.symm.trans e)
   ·rintro ⟨yV,wz,wB⟩ o h
    unfold aV at h
    dsimp only at h
    refine gs<|Go.block<|gs<|?_
    obtain ⟨x29,hx29,h⟩:=bs h
    refine g0 j j (q (oMv j j)<|q (oMv j j)<|q (oCr (xs:=[.v false [.mp 23 0 0],.v false [.nil],.v false [.im 0 _],.v false [.im 0 _]]) (vs:=[(false,[.own 29 0 0]),(false,[.im 0 _])]) (v:=.tup [(false,[.own 29 0 0]),(false,[.im 0 _])]) (c:=⟨.sh,0,_⟩) (cs:=[]) (wV hx29) (.inl j) j fF j (ppP j j j (ppM take_nil (ppC j (ppC j pp0)))) j j (pbP j j pb0) j j j)<|q (uY j j)<|q (oEx j j j)<|q (oEx j j j)<|q (qO j j j j j)<|q (ai j j)<|nl)<|us<|gs<|gs<|g1 j j (mk [(7,M 23),(8,iv yV),(9,H 9 0),(10,iv x29.2.1)] [(9,Oc [Z (W 1 eI x29.1)]),(23,Oa (G 0 (tK x29.2.2)))]) (q (oMv j j)<|q (oBi j j j j)<|nl)<|us<|gc h j iEq (fun hc7 h=>?_) fun hc7 h=>?_
    ·refine gs<|g0 j j (q (oMv j j)<|q (oMv j j)<|q (qO j j j j j)<|q (ai j j)<|q (ai j j)<|nl)<|us<|Go.ret (Unw.ret ?_)
     cases h
     exact ⟨j,(fo rF6 j)⟩
    ·refine Go.skip<|us<|gs<|g0 j j (q (oMv j j)<|q (oBi j j j j)<|nl)<|us<|gc h j iNe (fun hc8 h=>?_) fun hc8 h=>?_
     ·refine gs<|g0 j j (q (oMv j j)<|q (yP j j AP)<|q (ai j j)<|q (ai j j)<|nl)<|us<|Go.ret (Unw.ret ?_)
      cases h
      exact ⟨j,(fo rF6 j)⟩
     ·refine Go.skip<|Unw.blk<|us<|g0 j j (q (oMv j j)<|q (oBi j j j j)<|q (ai j j)<|nl)<|Unw.nil<|?_
      cases h
      exact ⟨j,(by kernel_rfl)⟩
   ·rintro ⟨e,st⟩ hp
    obtain ⟨r2,rfl⟩:∃y,y=o:=⟨o,rfl⟩
    obtain ⟨he,hfin⟩:=hp
    obtain rfl:e= .ret:=he
    cases h
    exact Unw.ret (nH hfin)
  ·rw [if_neg hc2] at h
   refine gT j (nT (byF iR hc2))<|gs<|g0 j j (q (yP j j AP)<|q (ai j j)<|q (ai j j)<|nl)<|us<|Go.ret (Unw.ret ?_)
   cases h
   exact fr rF6 j
 ·rw [if_neg hc1] at h
  refine gT j (nT (byF iR hc1))<|gs<|g0 j j (q (yP j j AP)<|q (ai j j)<|q (ai j j)<|nl)<|us<|Go.ret (Unw.ret ?_)
  cases h
  exact fr rF6 j
theorem ru {dB:(List Int)} {k_1:Int} {n_2:Int} {r:Int} (h:rZ dB k_1 n_2=some r):FX 8 [.im 2 false [W 1 (eK .u8) dB],.im 2 false [I k_1],.im 2 false [I n_2]] (B0 [(false,[.im 0 (I r)])]):=by
 unfold rZ at h
 refine gn 22 Try.func8 rfl ?_
 refine gs<|g0 j j (q (ai j j)<|nl)<|us<|gs<|gs<|gX c8 j j j (mk [(0,D 2 (W 1 (eK .u8) dB)),(1,iv k_1),(2,iv n_2),(14,bv ((decide (n_2≤1))||(decide (k_1≥(dB.length:Int)))))] []) ?_ ?_
 ·refine xq (oMv j j)<|xq (oBi j j j j)<|xq (oMv j j)<|?_
  by_cases hc1:n_2≤1
  ·exact aC rfl rfl (aj.2 hc1) rfl<|aC rfl rfl (aj.2 hc1) rfl<|aC rfl rfl (aj.2 hc1) rfl<|aC rfl rfl (aj.2 hc1) rfl<|xq (dZ rfl rfl (aj.2 hc1) rfl)<|xn (Eq.trans (b:=(fun wO:Bool=>mk [(0,D 2 (W 1 (eK .u8) dB)),(1,iv k_1),(2,iv n_2),(14,bv wO)] []) true) (by kernel_rfl) (congrArg (fun wO:Bool=>mk [(0,D 2 (W 1 (eK .u8) dB)),(1,iv k_1),(2,iv n_2),(14,bv wO)] []) (by first | rfl | (simp [(aj.2 hc1)];done) | (simp [(aj.2 hc1)];omega))))
  ·exact xqT rfl rfl (byF aj hc1) (oMv rfl rfl)<|xqT rfl rfl (byF aj hc1) (oMv rfl rfl)<|xqT rfl rfl (byF aj hc1) (rE rfl rfl OO rfl)<|xqT rfl rfl (byF aj hc1) (oBi rfl rfl rfl rfl)<|xq (kM rfl rfl (byF aj hc1) rfl)<|xn (Eq.trans (b:=(fun wO:Bool=>mk [(0,D 2 (W 1 (eK .u8) dB)),(1,iv k_1),(2,iv n_2),(14,bv wO)] []) (decide (k_1≥(dB.length:Int)))) (by kernel_rfl) (congrArg (fun wO:Bool=>mk [(0,D 2 (W 1 (eK .u8) dB)),(1,iv k_1),(2,iv n_2),(14,bv wO)] []) (by first | rfl | (simp [(byF aj hc1)];done) | (simp [(byF aj hc1)];omega))))
 ·refine us<|gc h j (iOr aj aj) (fun hc2 h=>?_) fun hc2 h=>?_
  ·refine gs<|g0 j j (q (ai j j)<|nl)<|us<|Go.ret (Unw.ret ?_)
   cases h
   exact fr rF8 j
  ·refine Go.skip<|us<|gs<|?_
   obtain ⟨x17,Uk,h⟩:=bs h
   obtain ⟨x21,D7,h⟩:=bs h
   refine g0 j j (q (oMv j j)<|q (oMv j j)<|q (mZ j Uk Vm j j)<|q (oLd (cs:=[.im 2 _]) j tF5 j j)<|q (Qj j uF5 uF2 j)<|q (oMv j j)<|q (BJ j D7 j j)<|q (ai j j)<|nl)<|us<|Go.ret (Unw.ret ?_)
   cases h
   exact fr rF8 j
theorem yx {n_0:Int} {r:Bool} (h:qZ n_0=some r):FX 21 [.im 2 false [I n_0]] (B0 [(false,[.im 0 (V r)])]):=by
 unfold qZ at h
 refine gn 5 Try.func21 rfl ?_
 refine gs<|g0 j j (q (ai j j)<|nl)<|us<|gs<|?_
 obtain ⟨x4,hx4,h⟩:=bs h
 refine g0 j j (q (oMv j j)<|q (oCa (xs:=[.v false [.im 2 _],.v false [.im 0 _],.v false [.im 0 _]]) (vs:=[(false,[.im 0 _])]) (v:=.v false [.im 0 _]) (kF hx4) (.inl j) j nU j (ppC j (ppC j (ppC j pp0))) j j pb0 j j j)<|q (ai j j)<|nl)<|us<|Go.ret (Unw.ret ?_)
 cases h
 exact fr WV j
theorem kH {t_0:ae} {vz:Int} {vC:Int} {r:(ae×Int)} (h:jQ t_0 vz vC=some r):FX 7 [.im 2 true (af t_0),.im 2 false [I vz],.im 2 false [I vC]] (B0 [(true,[.im 0 (I r.1.aB),.im 0 (I r.1.High),.ow 0 1 (List.map eI r.1.Cells)]),(false,[.im 0 (I r.2)])]):=by
 unfold jQ at h
 refine gn 23 Try.func7 rfl ?_
 refine gs<|g0 j j (q (oBx j dS j (tkI (tkI (tkI tk0))))<|q (oAl j dS (tkI (tkI (tkN tk0))))<|q (ai j j)<|nl)<|us<|gs<|gs<|?_
 obtain ⟨x8,hx8,h⟩:=bs h
 refine g0 j j (q (oCa (xs:=[.v false [.mp 3 0 0]]) (vs:=[(false,[.im 0 _])]) (v:=.v false [.im 0 _]) (wH hx8) (.inl j) j GG j (ppC j pp0) j j pb0 j j j)<|q (oUn j j j)<|nl)<|us<|?_
 by_cases hc1:x8=true
 ·rw [if_pos hc1] at h
  refine gF j (nF (iR.2 hc1))<|Go.skip<|us<|gs<|gs<|?_
  obtain ⟨x12,DZ,h⟩:=bs h
  obtain ⟨Gz,hm4,h⟩:=bs h
  refine gX c7 j j j (mk [(1,iv vz),(2,iv vC),(3,M 3),(6,M 6),(18,bv Gz)] [(3,Oa (G 2 (af t_0))),(6,Oa [C (I 0),C (I 0),Z (W 1 eI ([]:List Int))])]) ?_ ?_
  ·refine xq (oMv j j)<|xq (oCa (xs:=[.v false [.im 2 _]]) (vs:=[(false,[.im 0 _])]) (v:=.v false [.im 0 _]) (yx DZ) (.inl j) j OE j (ppC j pp0) j j pb0 j j j)<|xq (oUn j j j)<|xq (oMv j j)<|?_
   refine ic hm4 (fun hc2 hm4=>?_) fun hc2 hm4=>?_
   ·obtain ⟨x16,hx16,hm4⟩:=bs hm4
    cases hm4
    exact xqT j j (nF (iR.2 hc2)) (oMv j j)<|xqT j j (nF (iR.2 hc2)) (oCa (xs:=[.v false [.im 2 _]]) (vs:=[(false,[.im 0 _])]) (v:=.v false [.im 0 _]) (yx hx16) (.inl j) j OE j (ppC j pp0) j j pb0 j j j)<|xqT j j (nF (iR.2 hc2)) (oUn j j j)<|xq (kM j j (nF (iR.2 hc2)) j)<|xn
   ·cases hm4
    exact aC j j (nT (byF iR hc2)) j<|aC j j (nT (byF iR hc2)) j<|aC j j (nT (byF iR hc2)) j<|xq (dZ j j (nT (byF iR hc2)) j)<|xn
  ·refine us<|gc h j iR (fun hc3 h=>?_) fun hc3 h=>?_
   ·refine gs<|g0 j j (q (oBu (cs:=[.im 0 _,.im 0 _,.nil]) j Ep j)<|q (oSt dS j j j (tkI (tkI (tkN tk0))) j j j)<|q (ai j j)<|nl)<|us<|Go.ret (Unw.ret ?_)
    cases h
    exact fr rF7 j
   ·refine Go.skip<|us<|gs<|?_
    obtain ⟨x22,JK,h⟩:=bs h
    refine g0 j j (q (oMv j j)<|q (oMv j j)<|q (oCr (xs:=[.v false [.mp 3 0 0],.v false [.im 0 _],.v false [.im 0 _]]) (vs:=[(true,[.im 0 _,.im 0 _,.own 22 0 0])]) (v:=.v true [.im 0 _,.im 0 _,.own 22 0 0]) (c:=⟨.sh,0,_⟩) (cs:=[]) (uD JK) (.inl j) j BG j (ppC j (ppC j (ppC j pp0))) j j pb0 j j j)<|q (oSt dS j j j (tkI (tkI (tkO j j tk0))) j j j)<|q (ai j j)<|nl)<|us<|Go.ret (Unw.ret ?_)
    cases h
    exact fr rF7 j
 ·rw [if_neg hc1] at h
  refine gT j (nT (byF iR hc1))<|gs<|g0 j j (q (oBu (cs:=[.im 0 _,.im 0 _,.nil]) j Ep j)<|q (oSt dS j j j (tkI (tkI (tkN tk0))) j j j)<|q (ai j j)<|nl)<|us<|Go.ret (Unw.ret ?_)
  cases h
  exact fr rF7 j
theorem tY {t_0:ae} {r:(Int×Int)} (h:iZ t_0=some r):FX 9 [.im 2 true (af t_0)] (B0 [(false,[.im 0 (I r.1)]),(false,[.im 0 (I r.2)])]):=by
 unfold iZ at h
 refine gn 46 Try.func9 rfl ?_
 refine gs<|g0 j j (q (oBx j dS j (tkI (tkI (tkI tk0))))<|q (ai j j)<|q (ai j j)<|nl)<|us<|gs<|gs<|?_
 obtain ⟨x11,JS,h⟩:=bs h
 refine g0 j j (q (oLd (cs:=[.im 0 _,.im 0 _,.im 2 _]) j dS j j)<|q (oCa (xs:=[.v true [.im 0 _,.im 0 _,.im 2 _]]) (vs:=[(false,[.im 0 _])]) (v:=.v false [.im 0 _]) (kG JS) (.inl j) j BV j (ppC j pp0) j j pb0 j j j)<|q (oUn j j j)<|nl)<|us<|?_
 by_cases hc1:x11=true
 ·rw [if_pos hc1] at h
  refine gF j (nF (iR.2 hc1))<|Go.skip<|us<|gs<|g0 j j (q (ai j j)<|nl)<|us<|gs<|gs<|g0 j j (q (oFA (r':=.mp 1 0 2) j eP j j)<|q (oLd (cs:=[.im 2 _]) j jG j j)<|q (rE j j jH j)<|q (oMv j j)<|nl)<|us<|Go.block<|?_
  obtain ⟨o,hl,h⟩:=bs h
  refine gl c9 j _ (fun (s:(Int×Int))=>match s with | (bZ,oU)=>mk [(1,M 1),(4,iv bZ),(14,D 2 (W 1 eI t_0.Cells)),(15,iv (t_0.Cells.length:Int)),(16,iv oU)] [(1,Oa (G 2 (af t_0)))]) (fun (kE:Int) (p:Ex×St)=>p.1= .exit 0∧p.2.norm ([4],[])=mk [(4,iv kE)] []) hl (by kernel_rfl) ?_ ?_ ?_
  ·intro o p hp e
   exact nomatch (hp.1.symm.trans e)
  ·rintro ⟨bZ,oU⟩ o h
   unfold iL at h
   dsimp only at h
   refine gs<|g0 j j (q (oBi j j j j)<|nl)<|us<|gs<|gc h j aj (fun hc12 h=>?_) fun hc12 h=>?_
   ·refine Go.skip<|us<|gs<|Go.block<|gs<|?_
    obtain ⟨x19,JL,h⟩:=bs h
    refine g0 j j (q (oMv j j)<|q (mZ j JL cu j j)<|q (oLd (cs:=[.im 2 _]) j tF2 j j)<|q (ai j j)<|q (ai j j)<|nl)<|us<|gs<|?_
    obtain ⟨x23,OY,h⟩:=bs h
    refine g0 j j (q (oLd (cs:=[.im 0 _,.im 0 _,.im 2 _]) j dS j j)<|q (oMv j j)<|q (oCa (xs:=[.v true [.im 0 _,.im 0 _,.im 2 _],.v false [.im 0 _]]) (vs:=[(true,[.im 0 _,.im 0 _,.im 0 _,.im 0 _])]) (v:=.v true [.im 0 _,.im 0 _,.im 0 _,.im 0 _]) (lM OY) (.inl j) j AQ j (ppC j (ppC j pp0)) j j pb0 j j j)<|q (oAl j Rk (tkI (tkI (tkI (tkI tk0)))))<|q (oSt Rk j j j (tkI (tkI (tkI (tkI tk0)))) j j j)<|nl)<|us<|gs<|g1 j j (mk [(1,M 1),(4,iv bZ),(6,iv x19),(7,M 7),(14,D 2 (W 1 eI t_0.Cells)),(15,iv (t_0.Cells.length:Int)),(16,iv oU)] [(1,Oa (G 2 (af t_0))),(7,Oa (G 0 (mJ x23)))]) (q (UR (r':=.mp 7 0 0) j Rl zF2 j (by decide) j j j)<|q (oLd (cs:=[.im 0 _]) j tF2 j j)<|q (UR (r':=.mp 7 0 2) j Rl zF2 j (by decide) j j j)<|q (oLd (cs:=[.im 0 _]) j tF2 j j)<|q (oBS (es:=List.map eI ([x23.e0,x23.e2]:List Int)) j cu j (ptC j (fxI fx0) j (ptC j (fxI fx0) j pt0)) (fC j fun _=>j))<|q (Gn j j jH j j j (fun e=>nomatch e))<|q (oMv j j)<|nl)<|us<|Go.block<|?_
    obtain ⟨o,hl,h⟩:=bs h
    refine gl c9 j _ (fun (s:(Int×Int))=>match s with | (rf,oQ)=>mk [(1,M 1),(4,iv rf),(6,iv x19),(14,D 2 (W 1 eI t_0.Cells)),(15,iv (t_0.Cells.length:Int)),(16,iv oU),(28,H 28 0),(29,iv (([x23.e0,x23.e2]:List Int).length:Int)),(30,iv oQ)] [(1,Oa (G 2 (af t_0))),(28,Oc [Z (W 1 eI ([x23.e0,x23.e2]:List Int))])]) (fun (wC:Int) (p:Ex×St)=>p.1= .exit 2∧p.2.norm ([1,4,14,15,16],[1])=mk [(1,M 1),(4,iv wC),(14,D 2 (W 1 eI t_0.Cells)),(15,iv (t_0.Cells.length:Int)),(16,iv oU)] [(1,Oa (G 2 (af t_0)))]) hl (by kernel_rfl) ?_ ?_ ?_
    ·intro o p hp e
     exact nomatch (hp.1.symm.trans e)
    ·rintro ⟨rf,oQ⟩ o h
     unfold fM at h
     dsimp only at h
     refine gs<|g0 j j (q (oBi j j j j)<|nl)<|us<|gs<|gc h j aj (fun hc17 h=>?_) fun hc17 h=>?_
     ·refine Go.skip<|us<|gs<|Go.join (fun st=>∃vK,iq oQ vK=some o∧st.norm ([1,4,6,14,15,16,28,29,30],[1,28])=mk [(1,M 1),(4,iv vK),(6,iv x19),(14,D 2 (W 1 eI t_0.Cells)),(15,iv (t_0.Cells.length:Int)),(16,iv oU),(28,H 28 0),(29,iv (([x23.e0,x23.e2]:List Int).length:Int)),(30,iv oQ)] [(1,Oa (G 2 (af t_0))),(28,Oc [Z (W 1 eI ([x23.e0,x23.e2]:List Int))])]) ?_ ?_
      ·rintro st ⟨vK,h,hst⟩
       unfold iq at h
       refine us<|g2 c9 j j hst (q (oBi j j j j)<|q (oMv j j)<|nl)<|Unw.nil<|?_
       cases h
       exact ⟨j,(by kernel_rfl)⟩
      ·intro K19
       refine Go.block<|gs<|?_
       obtain ⟨x32,hx32,h⟩:=bs h
       refine g0 j j (q (yj j hx32 cu j j j j)<|q (zJ (cs:=[.im 0 _]) j tF2 j j j j (iQ hx32) j j)<|q (ai j j)<|nl)<|us<|gs<|?_
       obtain ⟨x37,Et,h⟩:=bs h
       refine g0 j j (q (oFA (r':=.mp 1 0 2) j eP j j)<|q (oLd (cs:=[.im 2 _]) j jG j j)<|q (oMv j j)<|q (mZ j Et cu j j)<|q (oLd (cs:=[.im 2 _]) j tF2 j j)<|q (oMv j j)<|q (oBi j j j j)<|nl)<|us<|gc h j iNe (fun rW h=>?_) fun rW h=>?_
       ·exact g0 j j (q (oMv j j)<|q (oBi j j j j)<|q (ai j j)<|nl)<|Unw.blk<|K19 _ ⟨(w64 (rf+1)),h,(by kernel_rfl)⟩
       ·exact Go.skip<|Unw.blk<|K19 _ ⟨rf,h,(by kernel_rfl)⟩
     ·refine Go.exit<|ux<|Unw.nil<|?_
      cases h
      exact ⟨j,(by kernel_rfl)⟩
    ·rintro ⟨e,st⟩ hp
     obtain ⟨wC,rfl⟩:∃y,y=o:=⟨o,rfl⟩
     obtain ⟨he,hst⟩:=hp
     obtain rfl:e= .exit 2:=he
     refine Unw.nN<|Unw.blk<|us<|g2 c9 j j hst (q (oBi j j j j)<|q (oMv j j)<|nl)<|Unw.nil<|?_
     cases h
     exact ⟨j,(by kernel_rfl)⟩
   ·refine Go.exit<|ux<|Unw.nil<|?_
    cases h
    exact ⟨j,(by kernel_rfl)⟩
  ·rintro ⟨e,st⟩ hp
   obtain ⟨kE,rfl⟩:∃y,y=o:=⟨o,rfl⟩
   obtain ⟨he,hst⟩:=hp
   obtain rfl:e= .exit 0:=he
   refine Unw.nN<|us<|gs<|g2 c9 j j hst (q (oMv j j)<|q (ai j j)<|q (ai j j)<|nl)<|us<|Go.ret (Unw.ret ?_)
   cases h
   exact fr rF9 j
 ·rw [if_neg hc1] at h
  refine gT j (nT (byF iR hc1))<|gs<|g0 j j (q (ai j j)<|q (ai j j)<|nl)<|us<|Go.ret (Unw.ret ?_)
  cases h
  exact fr rF9 j
theorem qL {t_0:ae} {x_1:Int} {y_2:Int} {r:Int} (h:jU t_0 x_1 y_2=some r):FX 24 [.im 2 true (af t_0),.im 2 false [I x_1],.im 2 false [I y_2]] (B0 [(false,[.im 0 (I r)])]):=by
 unfold jU at h
 refine gn 23 Try.func24 rfl ?_
 refine gs<|g0 j j (q (oBx j dS j (tkI (tkI (tkI tk0))))<|q (ai j j)<|nl)<|us<|gs<|?_
 obtain ⟨x12,DZ,h⟩:=bs h
 obtain ⟨x19,JL,h⟩:=bs h
 obtain ⟨x21,D7,h⟩:=bs h
 refine gd c24 j j j j (mk [(6,iv x21)] []) (t j j (oFA (r':=.mp 3 0 2) j eP j j)<|t j j (oLd (cs:=[.im 2 _]) j jG j j)<|t j j (oMv j j)<|t j j (oFA (r':=.mp 3 0 1) j rG j j)<|t j j (oLd (cs:=[.im 0 _]) j tF2 j j)<|t j j (oFA (r':=.mp 3 0 0) j jR j j)<|t j j (oLd (cs:=[.im 0 _]) j tF2 j j)<|t j j (oMv j j)<|t j j (oFA (r':=.mp 3 0 0) j jR j j)<|t j j (oLd (cs:=[.im 0 _]) j tF2 j j)<|sS (dN z24 j (oCa (xs:=[.v false [.im 2 _],.v false [.im 0 _]]) (vs:=[(false,[.im 0 _])]) (v:=.v false [.im 0 _]) (uF DZ) (.inl j) j zO j (ppC j (ppC j pp0)) j j pb0 j j j)) trivial (t j j (oBi j j j j)<|sS (dN z24 j (oCa (xs:=[.v false [.im 2 _],.v false [.im 0 _]]) (vs:=[(false,[.im 0 _])]) (v:=.v false [.im 0 _]) (uF JL) (.inl j) j zO j (ppC j (ppC j pp0)) j j pb0 j j j)) trivial (t j j (oBi j j j j)<|t j j (mZ j D7 cu j j)<|t j j (oLd (cs:=[.im 2 _]) j tF2 j j)<|sS (dN z24 j (ai j j)) trivial (sD (by kernel_rfl)))))<|us<|Go.ret (Unw.ret ?_)
 cases h
 exact fr WY j
theorem tZ {t_0:ae} {r:(Int×Int)} (h:ja t_0=some r):FX 10 [.im 2 true (af t_0)] (B0 [(false,[.im 0 (I r.1)]),(false,[.im 0 (I r.2)])]):=by
 unfold ja at h
 refine gn 71 Try.func10 rfl ?_
 refine gs<|g0 j j (q (oBx j dS j (tkI (tkI (tkI tk0))))<|q (ai j j)<|q (ai j j)<|nl)<|us<|gs<|gs<|?_
 obtain ⟨x13,O3,h⟩:=bs h
 refine g0 j j (q (oLd (cs:=[.im 0 _,.im 0 _,.im 2 _]) j dS j j)<|q (oCa (xs:=[.v true [.im 0 _,.im 0 _,.im 2 _]]) (vs:=[(false,[.im 0 _])]) (v:=.v false [.im 0 _]) (kG O3) (.inl j) j BV j (ppC j pp0) j j pb0 j j j)<|q (oUn j j j)<|nl)<|us<|?_
 by_cases hc1:x13=true
 ·rw [if_pos hc1] at h
  refine gF j (nF (iR.2 hc1))<|Go.skip<|us<|gs<|g0 j j (q (ai j j)<|nl)<|us<|gs<|gs<|g0 j j (q (oFA (r':=.mp 1 0 2) j eP j j)<|q (oLd (cs:=[.im 2 _]) j jG j j)<|q (rE j j jH j)<|q (oMv j j)<|nl)<|us<|Go.block<|?_
  obtain ⟨o,hl,h⟩:=bs h
  refine gl c10 j _ (fun (s:(Int×Int))=>match s with | (bZ,fE)=>mk [(1,M 1),(4,iv bZ),(17,iv (t_0.Cells.length:Int)),(18,iv fE)] [(1,Oa (G 2 (af t_0)))]) (fun (kE:Int) (p:Ex×St)=>p.1= .exit 0∧p.2.norm ([4],[])=mk [(4,iv kE)] []) hl (by kernel_rfl) ?_ ?_ ?_
  ·intro o p hp e
   exact nomatch (hp.1.symm.trans e)
  ·rintro ⟨bZ,fE⟩ o h
   unfold iM at h
   dsimp only at h
   refine gs<|g0 j j (q (oBi j j j j)<|nl)<|us<|gs<|gc h j aj (fun hc12 h=>?_) fun hc12 h=>?_
   ·refine Go.skip<|us<|gs<|Go.join (fun st=>∃vM,iw fE vM=some o∧st.norm ([1,4,17,18],[1])=mk [(1,M 1),(4,iv vM),(17,iv (t_0.Cells.length:Int)),(18,iv fE)] [(1,Oa (G 2 (af t_0)))]) ?_ ?_
    ·rintro st ⟨vM,h,hst⟩
     unfold iw at h
     refine us<|g2 c10 j j hst (q (oBi j j j j)<|q (oMv j j)<|nl)<|Unw.nil<|?_
     cases h
     exact ⟨j,(by kernel_rfl)⟩
    ·intro K17
     refine Go.block<|gs<|g0 j j (q (oMv j j)<|q (ai j j)<|nl)<|us<|gs<|?_
     obtain ⟨x24,hx24,h⟩:=bs h
     obtain ⟨x28,hx28,h⟩:=bs h
     refine gd c10 j j j j (mk [(1,M 1),(4,iv bZ),(6,iv x24),(7,iv x28),(17,iv (t_0.Cells.length:Int)),(18,iv fE)] [(1,Oa (G 2 (af t_0)))]) (t j j (oMv j j)<|t j j (oFA (r':=.mp 1 0 0) j jR j j)<|t j j (oLd (cs:=[.im 0 _]) j tF2 j j)<|t j j (BJ j hx24 j j)<|t j j (oMv j j)<|sK (O:=[1]) j j j (dN z10 j (oFA (r':=.mp 1 0 0) j jR j j))<|sK (O:=[1]) j j j (dN z10 j (oLd (cs:=[.im 0 _]) j tF2 j j))<|t j j (TK j hx28 j j)<|sS (dN z10 j (ai j j)) (kY ⟨j,trivial⟩ (kY ⟨j,trivial⟩ trivial)) (sS (dN z10 j (ai j j)) (kN j (kN j trivial)) (sD (by kernel_rfl))))<|us<|gs<|?_
     obtain ⟨x32,hx32,h⟩:=bs h
     obtain ⟨x37,Et,h⟩:=bs h
     obtain ⟨x43,JP,h⟩:=bs h
     obtain ⟨x48,OV,h⟩:=bs h
     refine gd c10 j j j j (mk [(1,M 1),(4,iv bZ),(8,iv x32),(9,iv x37),(10,iv x43),(11,iv x48),(17,iv (t_0.Cells.length:Int)),(18,iv fE)] [(1,Oa (G 2 (af t_0)))]) (t j j (oLd (cs:=[.im 0 _,.im 0 _,.im 2 _]) j dS j j)<|t j j (oMv j j)<|t j j (oMv j j)<|t j j (oLd (cs:=[.im 0 _,.im 0 _,.im 2 _]) j dS j j)<|t j j (oMv j j)<|t j j (oBi j j j j)<|t j j (oMv j j)<|t j j (oLd (cs:=[.im 0 _,.im 0 _,.im 2 _]) j dS j j)<|t j j (oMv j j)<|t j j (oBi j j j j)<|t j j (oMv j j)<|t j j (oBi j j j j)<|t j j (oLd (cs:=[.im 0 _,.im 0 _,.im 2 _]) j dS j j)<|t j j (oMv j j)<|t j j (oMv j j)<|t j j (oBi j j j j)<|sS (dN z10 j (oCa (xs:=[.v true [.im 0 _,.im 0 _,.im 2 _],.v false [.im 0 _],.v false [.im 0 _]]) (vs:=[(false,[.im 0 _])]) (v:=.v false [.im 0 _]) (qL hx32) (.inl j) j uB j (ppC j (ppC j (ppC j pp0))) j j pb0 j j j)) trivial (sS (dN z10 j (oCa (xs:=[.v true [.im 0 _,.im 0 _,.im 2 _],.v false [.im 0 _],.v false [.im 0 _]]) (vs:=[(false,[.im 0 _])]) (v:=.v false [.im 0 _]) (qL Et) (.inl j) j uB j (ppC j (ppC j (ppC j pp0))) j j pb0 j j j)) trivial (sS (dN z10 j (oCa (xs:=[.v true [.im 0 _,.im 0 _,.im 2 _],.v false [.im 0 _],.v false [.im 0 _]]) (vs:=[(false,[.im 0 _])]) (v:=.v false [.im 0 _]) (qL JP) (.inl j) j uB j (ppC j (ppC j (ppC j pp0))) j j pb0 j j j)) trivial (sS (dN z10 j (oCa (xs:=[.v true [.im 0 _,.im 0 _,.im 2 _],.v false [.im 0 _],.v false [.im 0 _]]) (vs:=[(false,[.im 0 _])]) (v:=.v false [.im 0 _]) (qL OV) (.inl j) j uB j (ppC j (ppC j (ppC j pp0))) j j pb0 j j j)) trivial (sS (dN z10 j (ai j j)) trivial (sS (dN z10 j (ai j j)) trivial (sS (dN z10 j (ai j j)) trivial (sS (dN z10 j (ai j j)) trivial (sD (by kernel_rfl))))))))))<|us<|gs<|gX c10 j j j (mk [(1,M 1),(4,iv bZ),(17,iv (t_0.Cells.length:Int)),(18,iv fE),(66,bv ((x32 != x37)&&((x37 != x43)&&((x43 != x48)&&(x48 != x32)))))] [(1,Oa (G 2 (af t_0)))]) ?_ ?_
     ·refine xq (oMv j j)<|xq (oMv j j)<|xq (oBi j j j j)<|xq (oMv j j)<|?_
      by_cases hc18:x32≠x37
      ·refine xqT j j (iNe.2 hc18) (oMv j j)<|xqT j j (iNe.2 hc18) (oMv j j)<|xqT j j (iNe.2 hc18) (oBi j j j j)<|xq (dZ j j (iNe.2 hc18) j)<|xq (oMv j j)<|?_
       by_cases hc19:x37≠x43
       ·refine xqT j j (iNe.2 hc19) (oMv j j)<|xqT j j (iNe.2 hc19) (oMv j j)<|xqT j j (iNe.2 hc19) (oBi j j j j)<|xq (dZ j j (iNe.2 hc19) j)<|xq (oMv j j)<|?_
        by_cases rW:x43≠x48
        ·exact xqT rfl rfl (iNe.2 rW) (oMv rfl rfl)<|xqT rfl rfl (iNe.2 rW) (oMv rfl rfl)<|xqT rfl rfl (iNe.2 rW) (oBi rfl rfl rfl rfl)<|xq (dZ rfl rfl (iNe.2 rW) rfl)<|xn (Eq.trans (b:=(fun kJ:Bool=>mk [(1,M 1),(4,iv bZ),(17,iv (t_0.Cells.length:Int)),(18,iv fE),(66,bv kJ)] [(1,Oa (G 2 (af t_0)))]) (x48 != x32)) (by kernel_rfl) (congrArg (fun kJ:Bool=>mk [(1,M 1),(4,iv bZ),(17,iv (t_0.Cells.length:Int)),(18,iv fE),(66,bv kJ)] [(1,Oa (G 2 (af t_0)))]) (by first | rfl | (simp [(iNe.2 hc18),(iNe.2 hc19),(iNe.2 rW)];done) | (simp [(iNe.2 hc18),(iNe.2 hc19),(iNe.2 rW)];omega) | (have q0:=(iNe.2 hc18);have q1:=(iNe.2 hc19);have q2:=(iNe.2 rW);simp_all))))
        ·exact aC rfl rfl (byF iNe rW) rfl<|aC rfl rfl (byF iNe rW) rfl<|aC rfl rfl (byF iNe rW) rfl<|xq (kM rfl rfl (byF iNe rW) rfl)<|xn (Eq.trans (b:=(fun kJ:Bool=>mk [(1,M 1),(4,iv bZ),(17,iv (t_0.Cells.length:Int)),(18,iv fE),(66,bv kJ)] [(1,Oa (G 2 (af t_0)))]) false) (by kernel_rfl) (congrArg (fun kJ:Bool=>mk [(1,M 1),(4,iv bZ),(17,iv (t_0.Cells.length:Int)),(18,iv fE),(66,bv kJ)] [(1,Oa (G 2 (af t_0)))]) (by first | rfl | (simp [(iNe.2 hc18),(iNe.2 hc19),(byF iNe rW)];done) | (simp [(iNe.2 hc18),(iNe.2 hc19),(byF iNe rW)];omega) | (have q0:=(iNe.2 hc18);have q1:=(iNe.2 hc19);have q2:=(byF iNe rW);simp_all))))
       ·exact aC rfl rfl (byF iNe hc19) rfl<|aC rfl rfl (byF iNe hc19) rfl<|aC rfl rfl (byF iNe hc19) rfl<|xq (kM rfl rfl (byF iNe hc19) rfl)<|xq (oMv rfl rfl)<|aC rfl rfl rfl rfl<|aC rfl rfl rfl rfl<|aC rfl rfl rfl rfl<|xq (kM rfl rfl rfl rfl)<|xn (Eq.trans (b:=(fun kJ:Bool=>mk [(1,M 1),(4,iv bZ),(17,iv (t_0.Cells.length:Int)),(18,iv fE),(66,bv kJ)] [(1,Oa (G 2 (af t_0)))]) false) (by kernel_rfl) (congrArg (fun kJ:Bool=>mk [(1,M 1),(4,iv bZ),(17,iv (t_0.Cells.length:Int)),(18,iv fE),(66,bv kJ)] [(1,Oa (G 2 (af t_0)))]) (by first | rfl | (simp [(iNe.2 hc18),(byF iNe hc19)];done) | (simp [(iNe.2 hc18),(byF iNe hc19)];omega) | (have q0:=(iNe.2 hc18);have q1:=(byF iNe hc19);simp_all))))
      ·exact aC rfl rfl (byF iNe hc18) rfl<|aC rfl rfl (byF iNe hc18) rfl<|aC rfl rfl (byF iNe hc18) rfl<|xq (kM rfl rfl (byF iNe hc18) rfl)<|xq (oMv rfl rfl)<|aC rfl rfl rfl rfl<|aC rfl rfl rfl rfl<|aC rfl rfl rfl rfl<|xq (kM rfl rfl rfl rfl)<|xq (oMv rfl rfl)<|aC rfl rfl rfl rfl<|aC rfl rfl rfl rfl<|aC rfl rfl rfl rfl<|xq (kM rfl rfl rfl rfl)<|xn (Eq.trans (b:=(fun kJ:Bool=>mk [(1,M 1),(4,iv bZ),(17,iv (t_0.Cells.length:Int)),(18,iv fE),(66,bv kJ)] [(1,Oa (G 2 (af t_0)))]) false) (by kernel_rfl) (congrArg (fun kJ:Bool=>mk [(1,M 1),(4,iv bZ),(17,iv (t_0.Cells.length:Int)),(18,iv fE),(66,bv kJ)] [(1,Oa (G 2 (af t_0)))]) (by first | rfl | (simp [(byF iNe hc18)];done) | (simp [(byF iNe hc18)];omega))))
     ·refine us<|gc h j (Qn iNe (Qn iNe (Qn iNe iNe))) (fun hc21 h=>?_) fun hc21 h=>?_
      ·exact g0 j j (q (oMv j j)<|q (oBi j j j j)<|q (ai j j)<|nl)<|Unw.blk<|K17 _ ⟨(w64 (bZ+1)),h,(by kernel_rfl)⟩
      ·exact Go.skip<|Unw.blk<|K17 _ ⟨bZ,h,(by kernel_rfl)⟩
   ·refine Go.exit<|ux<|Unw.nil<|?_
    cases h
    exact ⟨j,(by kernel_rfl)⟩
  ·rintro ⟨e,st⟩ hp
   obtain ⟨kE,rfl⟩:∃y,y=o:=⟨o,rfl⟩
   obtain ⟨he,hst⟩:=hp
   obtain rfl:e= .exit 0:=he
   refine Unw.nN<|us<|gs<|g2 c10 j j hst (q (oMv j j)<|q (ai j j)<|q (ai j j)<|nl)<|us<|Go.ret (Unw.ret ?_)
   cases h
   exact fr Vb j
 ·rw [if_neg hc1] at h
  refine gT j (nT (byF iR hc1))<|gs<|g0 j j (q (ai j j)<|q (ai j j)<|nl)<|us<|Go.ret (Unw.ret ?_)
  cases h
  exact fr Vb j
theorem zQ {t_0:ae} {r:(Int×Int)} (h:kP t_0=some r):FX 11 [.im 2 true (af t_0)] (B0 [(false,[.im 0 (I r.1)]),(false,[.im 0 (I r.2)])]):=by
 unfold kP at h
 refine gn 7 Try.func11 rfl ?_
 refine gs<|g0 j j (q (oBx j dS j (tkI (tkI (tkI tk0))))<|q (ai j j)<|q (ai j j)<|nl)<|us<|gs<|gs<|?_
 obtain ⟨x4,hx4,h⟩:=bs h
 refine g0 j j (q (oCa (xs:=[.v false [.mp 1 0 0]]) (vs:=[(false,[.im 0 _])]) (v:=.v false [.im 0 _]) (wH hx4) (.inl j) j GG j (ppC j pp0) j j pb0 j j j)<|q (oUn j j j)<|nl)<|us<|?_
 by_cases hc1:x4=true
 ·rw [if_pos hc1] at h
  refine gF j (nF (iR.2 hc1))<|Go.skip<|us<|gs<|?_
  obtain ⟨x6,hx6,h⟩:=bs h
  refine g0 j j (q (oCa (xs:=[.v false [.mp 1 0 0]]) (vs:=[(false,[.im 0 _])]) (v:=.v false [.im 0 _]) (xK hx6) (.inl j) j KI j (ppC j pp0) j j pb0 j j j)<|q (ai j j)<|q (ai j j)<|nl)<|us<|Go.ret (Unw.ret ?_)
  cases h
  exact fr Vd j
 ·rw [if_neg hc1] at h
  refine gT j (nT (byF iR hc1))<|gs<|g0 j j (q (ai j j)<|q (ai j j)<|nl)<|us<|Go.ret (Unw.ret ?_)
  cases h
  exact fr Vd j
theorem wW {t_0:ae} {k_1:Int} {r:((List Int)×Int)} (h:iO t_0 k_1=some r):FX 12 [.im 2 true (af t_0),.im 2 false [I k_1]] (B0 [(false,[.im 0 (W 1 eI r.1)]),(false,[.im 0 (I r.2)])]):=by
 unfold iO at h
 refine gn 22 Try.func12 rfl ?_
 refine gs<|g0 j j (sqn z12 j (oBx j dS j (tkI (tkI (tkI tk0))))<|sqf z12 j (yP j j AP) (Ql j j j)<|sqn z12 j (ai j j)<|nl)<|us<|gs<|Go.block<|gs<|?_
 obtain ⟨x8,hx8,h⟩:=bs h
 refine g0 j j (sqn z12 j (oLd (cs:=[.im 0 _,.im 0 _,.im 2 _]) j dS j j)<|sqn z12 j (oCa (xs:=[.v true [.im 0 _,.im 0 _,.im 2 _]]) (vs:=[(false,[.im 0 _])]) (v:=.v false [.im 0 _]) (kG hx8) (.inl j) j BV j (ppC j pp0) j j pb0 j j j)<|sqn z12 j (oUn j j j)<|sqn z12 j (ai j j)<|nl)<|us<|?_
 by_cases hc1:x8=true
 ·rw [if_pos hc1] at h
  refine gF j (nF (iR.2 hc1))<|gs<|?_
  obtain ⟨x13,O3,h⟩:=bs h
  obtain ⟨x15,OQ,h⟩:=bs h
  refine g0 j j (sqn z12 j (oMv j j)<|sqn z12 j (oLd (cs:=[.im 0 _,.im 0 _,.im 2 _]) j dS j j)<|sqn z12 j (oCa (xs:=[.v true [.im 0 _,.im 0 _,.im 2 _]]) (vs:=[(false,[.im 0 _])]) (v:=.v false [.im 0 _]) (wI O3) (.inl j) j GH j (ppC j pp0) j j pb0 j j j)<|sqn z12 j (oBi j j j j)<|sqn z12 j (oCa (xs:=[.v false [.im 2 _],.v false [.im 0 _],.v false [.im 0 _]]) (vs:=[(false,[.im 0 _])]) (v:=.v false [.im 0 _]) (qK OQ) (.inl j) j wE j (ppC j (ppC j (ppC j pp0))) j j pb0 j j j)<|sqn z12 j (oUn j j j)<|sqn z12 j (ai j j)<|nl)<|us<|?_
  by_cases hc2:x15=true
  ·rw [if_pos hc2] at h
   refine gF j (nF (iR.2 hc2))<|Go.skip<|Unw.blk<|us<|gs<|?_
   obtain ⟨x18,OT,h⟩:=bs h
   obtain ⟨x20,JO,h⟩:=bs h
   refine g0 j j (sqn z12 j (oLd (cs:=[.im 0 _,.im 0 _,.im 2 _]) j dS j j)<|sqn z12 j (oCa (xs:=[.v true [.im 0 _,.im 0 _,.im 2 _]]) (vs:=[(false,[.im 0 _])]) (v:=.v false [.im 0 _]) (o7 OT) (.inl j) j KH j (ppC j pp0) j j pb0 j j j)<|sqn z12 j (oMv j j)<|sqn z12 j (mZ j JO II j j)<|sqn z12 j (oLd (cs:=[.im 0 _]) j jG j j)<|sqf z12 j (ai j j) (WB j)<|sqn z12 j (ai j j)<|nl)<|us<|Go.ret (Unw.ret ?_)
   cases h
   exact fr TU j
  ·rw [if_neg hc2] at h
   refine gT j (nT (byF iR hc2))<|gs<|g0 j j (sqf z12 j (yP j j AP) (Ql j j j)<|sqn z12 j (ai j j)<|nl)<|us<|Go.ret (Unw.ret ?_)
   cases h
   exact fr TU j
 ·rw [if_neg hc1] at h
  refine gT j (nT (byF iR hc1))<|gs<|g0 j j (sqf z12 j (yP j j AP) (Ql j j j)<|sqn z12 j (ai j j)<|nl)<|us<|Go.ret (Unw.ret ?_)
  cases h
  exact fr TU j
theorem GL {jZ:(List Int)} {n_1:Int} {r:Bool} (h:tJ jZ n_1=some r):FX 13 [.im 2 false [W 1 eI jZ],.im 2 false [I n_1]] (B0 [(false,[.im 0 (V r)])]):=by
 unfold tJ at h
 refine gn 18 Try.func13 rfl ?_
 refine gs<|g0 j j (q (ai j j)<|nl)<|us<|gs<|gs<|g0 j j (q (ai j j)<|nl)<|us<|Go.block<|?_
 obtain ⟨o,hl,h⟩:=bs h
 refine gl c13 j _ (fun (pI:Int)=>mk [(0,D 2 (W 1 eI jZ)),(1,iv n_1),(5,iv pI)] []) (fun (o:(Unit ⊕ Bool)) (p:Ex×St)=>match o with | (.inl _)=>p.1= .exit 0∧p.2.norm ([],[])=mk [] [] | (.inr r2)=>p.1= .ret∧fin Try.prog cfg 13 Try.f13 [.im 2 false [W 1 eI jZ],.im 2 false [I n_1]] p.2=some (B0 [(false,[.im 0 (V r2)])])) hl (by kernel_rfl) ?_ ?_ ?_
 ·intro o p hp e
  rcases o with u | r2<;>exact nomatch (hp.1.symm.trans e)
 ·rintro pI o h
  unfold ni at h
  refine gs<|gs<|g0 j j (q (oMv j j)<|q (oMv j j)<|q (rE j j jH j)<|q (oBi j j j j)<|nl)<|us<|gc h j aj (fun hc5 h=>?_) fun hc5 h=>?_
  ·refine Go.skip<|us<|gs<|Go.block<|gs<|?_
   obtain ⟨x14,JM,h⟩:=bs h
   refine g0 j j (q (oMv j j)<|q (oMv j j)<|q (mZ j JM cu j j)<|q (oLd (cs:=[.im 2 _]) j tF2 j j)<|q (oMv j j)<|q (oBi j j j j)<|nl)<|us<|gc h j iEq (fun hc6 h=>?_) fun hc6 h=>?_
   ·refine gs<|g0 j j (q (ai j j)<|nl)<|us<|Go.ret (Unw.ret ?_)
    cases h
    exact ⟨j,(fo Ve j)⟩
   ·refine Go.skip<|Unw.blk<|us<|g0 j j (q (oMv j j)<|q (oBi j j j j)<|q (ai j j)<|nl)<|Unw.nil<|?_
    cases h
    exact ⟨j,(by kernel_rfl)⟩
  ·refine Go.exit<|ux<|Unw.nil<|?_
   cases h
   exact ⟨j,(by kernel_rfl)⟩
 ·rintro ⟨e,st⟩ hp
  rcases o with u | r2
  ·dsimp only at h
   obtain ⟨he,hst⟩:=hp
   obtain rfl:e= .exit 0:=he
   refine Unw.nN<|us<|gs<|g2 c13 j j hst (q (ai j j)<|nl)<|us<|Go.ret (Unw.ret ?_)
   cases h
   exact fr Ve j
  ·dsimp only at h
   obtain ⟨he,hfin⟩:=hp
   obtain rfl:e= .ret:=he
   cases h
   exact Unw.ret (nH hfin)
end
end Go.Proofs.Ytmjgfdlefaackaa
