/- The machine answers, at each function of the program that is reached, what its plain function answers. Conditions: none. -/
import Derived.Test.YtnjgcdpleghciaaProg
import Derived.KernelRfl
import Derived.Test.YtnjgcdpleghciaaSimRs
import Derived.Test.YtnjgcdpleghciaaSimRv
import Derived.Test.YtnjgcdpleghciaaTfwT
namespace Go.Proofs.Ytnjgcdpleghciaa
open Go Go.Sim Go.Pw Go.Proofs
set_option linter.unusedVariables false
set_option linter.unusedSimpArgs false
set_option maxRecDepth 100000
set_option maxHeartbeats 4000000
noncomputable section
noncomputable abbrev aiC (x:aiE):List AV:=[I x.aku,I x.High,W 1 eI x.Cells]
noncomputable def ayR (x:aiE):AV:= .agg (aiC x)
noncomputable abbrev anc (x:aol):List AV:=[I x.e0,I x.e1,I x.e2,I x.e3]
noncomputable abbrev aoK (x:aiP):List AV:=[W 1 (eL 1 eI) x.near,I x.left]
noncomputable def fc3:akh:={par:=[.cst false,.cst false],inn:=[(7,some ([1,2,6,7,8,9],[2,6,9])),(13,some ([1,2,6,7,8,9,10,11,12,13],[2,6,9,10])),(18,some ([1,2,6,7,8,10,14],[2,6,10]))],out:=[(8,some ([1,2,6,7,8,9,10,11,12,54],[2,6,9,10])),(10,some ([1,2,6,7,8,9,10,11,12,59],[2,6,9,10])),(14,some ([1,2,6,7,8,10,80],[2,6,10])),(25,some ([10,14,113],[10]))],ajM:=[],frz:=[],sch:=[(10,.first 0 [3,4] [1,2]<| .first 1 [2,3,4] []<| .fork 2 (.fork 3 (.first 4 [] []<| .done) (.stop)) (.stop))],shut:=[13]}
noncomputable def fc9:akh:={par:=[.cst false,.cst false],inn:=[],out:=[],ajM:=[],frz:=[],sch:=[],shut:=[]}
noncomputable def aBb:akh:={par:=[.cst false,.cst false],inn:=[(6,some ([1,2,7],[2,18])),(11,some ([1,7,8],[18])),(15,some ([1,7,8],[18])),(16,some ([1,7,8,10],[18])),(20,some ([],[]))],out:=[(10,some ([1,2,7,8,9],[2,18])),(19,some ([4,5,6],[4]))],ajM:=[(8,([1,2,7,8,9],[2,18])),(12,([1,7,8],[18]))],frz:=[],sch:=[(10,.first 0 [9,10,11] (rg [1,9])<| .first 1 [2,3,4,8,9,10,11] [5,6,7]<| .first 5 [6,7,8,9,10,11] [2,3,4]<| .first 2 [3,4,8,9,10,11] [6,7]<| .first 3 [4,8,9,10,11] [6,7]<| .first 4 [8,9,10,11] [6,7]<| .fork 6 (.fork 7 (.fork 8 (.first 9 [10,11] []<| .first 10 [11] []<| .fork 11 (.done) (.stop)) (.stop)) (.stop)) (.stop)),(19,.first 0 [1,2,3,4,9,10,11] [5,6,7,8]<| .first 1 [2,3,4,9,10,11] [5,6,7,8]<| .first 2 [3,4,9,10,11] [5,6,7,8]<| .first 3 [4,9,10,11] [5,6,7,8]<| .first 5 [6,7,8,10,11] [4,9]<| .first 6 [7,8,10,11] [4,9]<| .first 7 [8,10,11] [4,9]<| .first 8 [10,11] [4,9]<| .fork 4 (.fork 9 (.fork 10 (.fork 11 (.done) (.stop)) (.stop)) (.stop)) (.stop))],shut:=[]}
noncomputable def aBc:akh:={par:=[.cst false],inn:=[(3,some ([1,2,3],[1,2,3])),(4,some ([1,2,3],[1,2,3])),(5,some ([2,3],[2,3]))],out:=[],ajM:=[],frz:=[],sch:=[],shut:=[]}
noncomputable def aBd:akh:={par:=[.cst false,.cst false],inn:=[(9,some ([7,8,9,10],[9,23]))],out:=[],ajM:=[(8,([7,8],[23]))],frz:=[],sch:=[],shut:=[]}
noncomputable def aBe:akh:={par:=[.cst false,.cst false],inn:=[(8,some ([],[]))],out:=[(6,some ([0,1,5,25],[]))],ajM:=[(4,([0,1,5],[]))],frz:=[],sch:=[(6,.first 0 [2,3,8] [1,4,5,6,7]<| .first 1 [2,3,8] [4,5,6,7]<| .first 2 [3,8] [4,5,6,7]<| .first 3 [8] [4,5,6,7]<| .first 4 [6,7,8] [5]<| .first 5 [6,7,8] []<| .first 6 [7,8] []<| .first 7 [8] []<| .first 8 [] []<| .done)],shut:=[]}
noncomputable def aBf:akh:={par:=[.cst false,.cst false],inn:=[],out:=[],ajM:=[],frz:=[],sch:=[],shut:=[]}
noncomputable def aBg:akh:={par:=[.ws,.cst false],inn:=[],out:=[],ajM:=[],frz:=[],sch:=[],shut:=[]}
noncomputable def aBh:akh:={par:=[.row,.cst false],inn:=[(5,some ([0,1,5],[0])),(6,some ([1],[0]))],out:=[],ajM:=[(2,([0,1,5],[0]))],frz:=[],sch:=[],shut:=[]}
noncomputable def aBi:akh:={par:=[.cst false,.cst false],inn:=[(7,some ([1],[]))],out:=[],ajM:=[(2,([0,1,5],[]))],frz:=[],sch:=[],shut:=[]}
noncomputable def aBj:akh:={par:=[.cst false,.cst false],inn:=[],out:=[],ajM:=[],frz:=[],sch:=[],shut:=[]}
noncomputable def aBk:akh:={par:=[.cut 3],inn:=[(9,some ([3],[]))],out:=[(1,some ([0,35],[]))],ajM:=[(5,([0,3,4],[]))],frz:=[],sch:=[(1,.first 0 (rg [1,31]) []<| .first 1 (rg [2,31]) []<| .first 2 (rg [3,31]) []<| .first 3 (rg [4,31]) []<| .fork 4 (.first 5 (rg [6,31]) []<| .first 6 (rg [7,31]) []<| .first 7 (rg [8,31]) []<| .first 8 (rg [9,31]) []<| .first 9 (rg [10,31]) []<| .first 10 (rg [11,31]) []<| .fork 11 (.first 12 (rg [13,31]) []<| .first 13 (rg [14,31]) []<| .first 14 (rg [15,31]) []<| .first 15 [16,17,18,19,29,30] (rg [20,29])<| .first 16 [17,18,19,29,30] (rg [20,29])<| .first 17 [18,19,29,30] (rg [20,29])<| .first 18 [19,29,30] (rg [20,29])<| .first 19 [29,30] (rg [20,29])<| .first 20 [21,22,23,28,29,30] [24,25,26,27]<| .first 21 [22,23,28,29,30] [24,25,26,27]<| .first 22 [23,28,29,30] [24,25,26,27]<| .first 23 [28,29,30] [24,25,26,27]<| .first 24 (rg [25,31]) []<| .first 25 [26,27,28,29,30] []<| .first 26 [27,28,29,30] []<| .first 27 [28,29,30] []<| .first 28 [29,30] []<| .first 29 [30] []<| .first 30 [] []<| .done) (.stop)) (.stop))],shut:=[]}
noncomputable def aBl:akh:={par:=[.cst false,.cst false,.cst false],inn:=[],out:=[(1,some ([6],[]))],ajM:=[],frz:=[],sch:=[],shut:=[]}
noncomputable def aBm:akh:={par:=[.cut 3],inn:=[(8,some ([0,3],[])),(13,some ([3],[]))],out:=[],ajM:=[(3,([0,3,4],[])),(9,([0,3,5],[]))],frz:=[],sch:=[],shut:=[]}
noncomputable def aBn:akh:={par:=[.cut 3,.cst false],inn:=[(4,some ([0,1,5,6],[5])),(8,some ([0,1,5,6,7,8],[5,7])),(11,some ([5],[5]))],out:=[(9,some ([0,1,5,6,7,8,50],[5,7])),(10,some ([0,1,5,6,7,8],[5,7]))],ajM:=[(3,([0,1,5,6],[5])),(7,([0,1,5,6,7,8],[5,7]))],frz:=[],sch:=[(9,.first 0 (rg [1,4,5,7,8,23]) [4,7]<| .first 1 (rg [2,4,5,7,8,23]) [4,7]<| .first 2 (rg [3,4,5,7,8,23]) [4,7]<| .first 3 (rg [5,7,8,23]) [4,7]<| .first 4 (rg [5,7,8,23]) [7]<| .first 5 (rg [6,7,8,23]) [7]<| .first 6 (rg [8,23]) [7]<| .first 7 (rg [8,23]) []<| .first 8 (rg [9,23]) []<| .first 9 (rg [10,23]) []<| .first 10 [11,12,13,18,19,21,22] [14,15,16,17,20]<| .first 11 [12,13,18,19,21,22] [14,15,16,17,20]<| .first 12 [13,18,19,21,22] [14,15,16,17,20]<| .first 13 [18,19,21,22] [14,15,16,17,20]<| .first 14 [16,17,18,19,21,22] [15,20]<| .first 15 [16,17,18,19,21,22] [20]<| .first 16 [17,18,19,21,22] [20]<| .first 17 [18,19,21,22] [20]<| .first 18 [19,21,22] [20]<| .first 19 [21,22] [20]<| .first 20 [21,22] []<| .first 21 [22] []<| .first 22 [] []<| .done),(10,.first 0 [11,12] (rg [1,11])<| .first 1 [2,3,4,9,10,11,12] [5,6,7,8]<| .first 2 [3,4,9,10,11,12] [5,6,7,8]<| .first 3 [4,9,10,11,12] [5,6,7,8]<| .first 4 [9,10,11,12] [5,6,7,8]<| .first 5 (rg [7,13]) [6]<| .first 6 (rg [7,13]) []<| .first 7 [8,9,10,11,12] []<| .first 8 [9,10,11,12] []<| .first 9 [10,11,12] []<| .first 10 [11,12] []<| .fork 11 (.fork 12 (.done) (.stop)) (.stop))],shut:=[]}
noncomputable def aBo:akh:={par:=[.ptr [.sh,.sh,.imm,.imm,.imm],.cst false],inn:=[(2,some ([0,1],[0])),(7,some ([0,1,5,6],[0])),(13,some ([0,1,5,6,7],[0])),(15,some ([0,1,5,6],[0])),(16,some ([],[0])),(17,some ([0,1,5,6],[0])),(18,some ([],[0]))],out:=[(2,some ([0,1,37],[0])),(12,some ([0,1,5,6,7,8],[0]))],ajM:=[(6,([0,1,5,6],[0])),(10,([0,1,5,6,7,8],[0]))],frz:=[],sch:=[(2,.first 0 (rg [1,4,8,22]) [4,5,6,7]<| .first 1 (rg [2,4,8,22]) [4,5,6,7]<| .first 2 (rg [3,4,8,22]) [4,5,6,7]<| .first 3 (rg [8,22]) [4,5,6,7]<| .first 4 (rg [5,22]) []<| .first 5 (rg [6,22]) []<| .first 6 (rg [7,22]) []<| .first 7 (rg [8,22]) []<| .first 8 (rg [9,22]) []<| .first 9 (rg [10,22]) []<| .first 10 [11,12,13,14,20,21] [15,16,17,18,19]<| .first 11 [12,13,14,20,21] [15,16,17,18,19]<| .first 12 [13,14,20,21] [15,16,17,18,19]<| .first 13 [14,20,21] [15,16,17,18,19]<| .first 14 [20,21] [15,16,17,18,19]<| .first 15 (rg [16,22]) []<| .first 16 [17,18,19,20,21] []<| .first 17 [18,19,20,21] []<| .first 18 [19,20,21] []<| .first 19 [20,21] []<| .first 20 [21] []<| .first 21 [] []<| .done),(12,.first 0 (rg [1,36]) []<| .first 1 (rg [2,36]) []<| .first 2 (rg [3,6,7,9,10,12,13,36]) [6,9,12]<| .first 3 (rg [4,6,7,9,10,12,13,36]) [6,9,12]<| .first 4 (rg [5,6,7,9,10,12,13,36]) [6,9,12]<| .first 5 (rg [7,9,10,12,13,36]) [6,9,12]<| .first 6 (rg [7,9,10,12,13,36]) [9,12]<| .first 7 (rg [8,9,10,12,13,36]) [9,12]<| .first 8 (rg [10,12,13,36]) [9,12]<| .first 9 (rg [10,12,13,36]) [12]<| .first 10 (rg [11,12,13,36]) [12]<| .first 11 (rg [13,36]) [12]<| .first 12 (rg [13,36]) []<| .first 13 (rg [14,36]) []<| .first 14 (rg [15,36]) []<| .first 15 [16,17,18,29,30,32,33,34,35] (rg [19,29,31,32])<| .first 16 [17,18,29,30,32,33,34,35] (rg [19,29,31,32])<| .first 17 [18,29,30,32,33,34,35] (rg [19,29,31,32])<| .first 18 [29,30,32,33,34,35] (rg [19,29,31,32])<| .first 19 (rg [20,23,24,26,27,31,32,36]) [23,26,31]<| .first 20 (rg [21,23,24,26,27,31,32,36]) [23,26,31]<| .first 21 [22,24,25,27,28,29,30,32,33,34,35] [23,26,31]<| .first 22 (rg [24,26,27,31,32,36]) [23,26,31]<| .first 23 (rg [24,26,27,31,32,36]) [26,31]<| .first 24 [25,27,28,29,30,32,33,34,35] [26,31]<| .first 25 (rg [27,31,32,36]) [26,31]<| .first 26 (rg [27,31,32,36]) [31]<| .first 27 [28,29,30,32,33,34,35] [31]<| .first 28 [29,30,32,33,34,35] [31]<| .first 29 [30,32,33,34,35] [31]<| .first 30 [32,33,34,35] [31]<| .first 31 [32,33,34,35] []<| .first 32 [33,34,35] []<| .first 33 [34,35] []<| .first 34 [35] []<| .fork 35 (.done) (.stop))],shut:=[]}
noncomputable def aBp:akh:={par:=[.cst false],inn:=[],out:=[],ajM:=[],frz:=[],sch:=[],shut:=[]}
noncomputable def aBq:akh:={par:=[.cst false],inn:=[(4,some ([0,3,4],[3])),(6,some ([3],[3]))],out:=[],ajM:=[(3,([0,3,4],[3]))],frz:=[],sch:=[],shut:=[]}
noncomputable def aBr:akh:={par:=[.cst false],inn:=[(14,some ([1,4,6,7,8,47,48],[1,6,7])),(16,some ([1,4,6,7,8,9,47,48],[1,6,7])),(23,some ([1,4,6,7,8,9,11,47,48,79,80],[1,6,7])),(24,some ([1,4,6,7,8,9,47,48,79,80],[1,6,7])),(25,some ([1,4,8,47,48],[1])),(30,some ([1,4,8,47,48,106,107,108],[1])),(31,some ([1,8,47,48],[1])),(34,some ([],[]))],out:=[(1,some ([1,34],[1])),(3,some ([1,44],[1])),(18,some ([1,4,6,7,8,9,47,48,79,80],[1,6,7])),(21,some ([1,4,6,7,8,9,11,47,48,79,80,96],[1,6,7]))],ajM:=[(7,([1,47,48],[1])),(15,([1,4,6,7,8,9,47,48],[1,6,7])),(19,([1,4,6,7,8,9,47,48,79,80],[1,6,7])),(26,([1,4,8,47,48,106,107,108],[1]))],frz:=[],sch:=[(18,.first 0 [5] [1,2,3,4,6]<| .first 1 [3,4,5] [2,6]<| .first 2 [3,4,5] [6]<| .first 3 [4,5] [6]<| .first 4 [5] [6]<| .first 6 [] [5]<| .fork 5 (.done) (.stop))],shut:=[]}
noncomputable def aBs:akh:={par:=[.cst false,.cst false,.cst false],inn:=[],out:=[(1,some ([6],[]))],ajM:=[],frz:=[],sch:=[],shut:=[]}
noncomputable def aBt:akh:={par:=[.cst false],inn:=[(11,some ([1,3,5,14,15,16,23,24],[1,3])),(12,some ([1,3,14,15,16],[1,3])),(13,some ([3],[3])),(17,some ([3,9,48,49],[3])),(18,some ([3,48,49],[3])),(19,some ([3],[3]))],out:=[],ajM:=[(3,([1,3,14,15,16],[1,3])),(6,([1,3,5,14,15,16,23,24],[1,3])),(14,([3,48,49],[3]))],frz:=[2],sch:=[],shut:=[]}
noncomputable def aBu:akh:={par:=[.ptr [.imm,.imm],.mv,.cst false,.cst false],inn:=[(4,some ([0,2,3,5],[0,5])),(5,some ([0,2,3,5,10],[0,5,10])),(9,some ([0,2,3,5,10,11],[0,5,10,11])),(14,some ([0,2,3,5,10,11],[0,5,10,11])),(16,some ([],[0]))],out:=[(5,some ([0,2,3,5,10,34],[0,5,10])),(8,some ([0,2,3,5,10,11,43],[0,5,10,11])),(10,some ([0,2,3,5,10,11,54],[0,5,10,11])),(11,some ([0,2,3,5,10,11,12,13],[0,5,10,11,12]))],ajM:=[(8,([0,2,3,5,10,11],[0,5,10,11]))],frz:=[],sch:=[(5,.first 0 [6] [1,2,3,4,5]<| .first 1 [2,3,4,5,6] []<| .first 2 [3,4,5,6] []<| .first 3 [4,5,6] []<| .first 4 [5,6] []<| .first 5 [6] []<| .first 6 [] []<| .done),(10,.first 0 [1,2,3,5,6,8] [4,7]<| .first 1 [2,3,5,6,8] [4,7]<| .first 2 [3,5,6,8] [4,7]<| .first 3 [5,6,8] [4,7]<| .first 4 [5,6,8] [7]<| .first 5 [6,8] [7]<| .first 6 [8] [7]<| .fork 7 (.fork 8 (.done) (.stop)) (.stop)),(11,.first 0 (rg [11,17]) (rg [1,11])<| .first 6 [9,11,12,13,14,15,16] [1,2,3,4,5,7,8,10]<| .first 10 (rg [11,17]) [1,2,3,4,5,7,8,9]<| .first 1 [2,5,11,12,13,14,15,16] [3,4,7,8,9]<| .first 3 (rg [4,6,11,17]) [2,7,8,9]<| .first 7 (rg [8,10,11,17]) [2,4,5]<| .first 8 [9,11,12,13,14,15,16] [2,4,5]<| .fork 2 (.fork 4 (.fork 5 (.fork 9 (.fork 11 (.first 12 [13,14,15,16] []<| .first 13 [15,16] [14]<| .first 14 [16] [15]<| .fork 15 (.fork 16 (.done) (.stop)) (.stop)) (.stop)) (.stop)) (.fork 9 (.fork 5 (.fork 11 (.first 12 [13,14,15,16] []<| .first 13 [15,16] [14]<| .first 14 [16] [15]<| .fork 15 (.fork 16 (.done) (.stop)) (.stop)) (.stop)) (.stop)) (.stop))) (.fork 9 (.fork 4 (.fork 5 (.fork 11 (.first 12 [13,14,15,16] []<| .first 13 [15,16] [14]<| .first 14 [16] [15]<| .fork 15 (.fork 16 (.done) (.stop)) (.stop)) (.stop)) (.stop)) (.stop)) (.stop))) (.fork 4 (.fork 2 (.fork 5 (.fork 9 (.fork 11 (.first 12 [13,14,15,16] []<| .first 13 [15,16] [14]<| .first 14 [16] [15]<| .fork 15 (.fork 16 (.done) (.stop)) (.stop)) (.stop)) (.stop)) (.fork 9 (.fork 5 (.fork 11 (.first 12 [13,14,15,16] []<| .first 13 [15,16] [14]<| .first 14 [16] [15]<| .fork 15 (.fork 16 (.done) (.stop)) (.stop)) (.stop)) (.stop)) (.stop))) (.fork 9 (.fork 2 (.fork 5 (.fork 11 (.first 12 [13,14,15,16] []<| .first 13 [15,16] [14]<| .first 14 [16] [15]<| .fork 15 (.fork 16 (.done) (.stop)) (.stop)) (.stop)) (.stop)) (.stop)) (.stop))) (.fork 9 (.fork 2 (.fork 4 (.fork 5 (.fork 11 (.first 12 [13,14,15,16] []<| .first 13 [15,16] [14]<| .first 14 [16] [15]<| .fork 15 (.fork 16 (.done) (.stop)) (.stop)) (.stop)) (.stop)) (.stop)) (.fork 4 (.fork 2 (.fork 5 (.fork 11 (.first 12 [13,14,15,16] []<| .first 13 [15,16] [14]<| .first 14 [16] [15]<| .fork 15 (.fork 16 (.done) (.stop)) (.stop)) (.stop)) (.stop)) (.stop)) (.stop))) (.stop))))],shut:=[]}
noncomputable def aBv:akh:={par:=[.cut 3,.cst false],inn:=[(5,some ([0,1,5,6,7],[])),(9,some ([0,1,5,6,7],[])),(10,some ([0,1,5,6],[])),(13,some ([0,1,6,8,9],[8])),(17,some ([0,1,6,8,9,10,11],[8,10])),(20,some ([6,8],[8]))],out:=[(18,some ([0,1,6,8,9,10,11,75],[8,10]))],ajM:=[(4,([0,1,5,6,7],[])),(12,([0,1,6,8,9],[8])),(16,([0,1,6,8,9,10,11],[8,10]))],frz:=[],sch:=[(18,.first 0 (rg [1,4,8,10,11,21]) [4,5,6,7,10]<| .first 1 (rg [2,4,8,10,11,21]) [4,5,6,7,10]<| .first 2 (rg [3,4,8,10,11,21]) [4,5,6,7,10]<| .first 3 (rg [8,10,11,21]) [4,5,6,7,10]<| .first 4 (rg [6,10,11,21]) [5,10]<| .first 5 (rg [6,10,11,21]) [10]<| .first 6 (rg [7,10,11,21]) [10]<| .first 7 (rg [8,10,11,21]) [10]<| .first 8 (rg [9,10,11,21]) [10]<| .first 9 (rg [11,21]) [10]<| .first 10 (rg [11,21]) []<| .first 11 (rg [12,21]) []<| .first 12 (rg [13,21]) []<| .first 13 [18,19,20] [14,15,16,17]<| .first 14 [16,17,18,19,20] [15]<| .first 15 [16,17,18,19,20] []<| .first 16 [17,18,19,20] []<| .first 17 [18,19,20] []<| .fork 18 (.first 19 [20] []<| .first 20 [] []<| .done) (.stop))],shut:=[]}
noncomputable def aBw:akh:={par:=[.cst false,.cst false],inn:=[],out:=[],ajM:=[],frz:=[],sch:=[],shut:=[]}
noncomputable def axY:akh:={par:=[.cst false,.cst false],inn:=[(6,some ([],[]))],out:=[],ajM:=[(2,([0,1,5],[]))],frz:=[],sch:=[],shut:=[]}
noncomputable def axZ:akh:={par:=[.cut 3,.cst false],inn:=[],out:=[],ajM:=[],frz:=[],sch:=[],shut:=[]}
noncomputable def ax0:akh:={par:=[.cst false,.cst false],inn:=[(10,some ([0,1,5,6,7],[5])),(11,some ([1,5,6],[5])),(13,some ([5],[5]))],out:=[(6,some ([0,1,5,6,7,24],[5]))],ajM:=[(4,([0,1,5,6,7],[5]))],frz:=[],sch:=[],shut:=[]}
noncomputable def ax1:akh:={par:=[.cst false,.cst false],inn:=[],out:=[],ajM:=[],frz:=[],sch:=[],shut:=[]}
noncomputable def ax2:akh:={par:=[.cst false],inn:=[(8,some ([3],[]))],out:=[],ajM:=[(5,([0,3,4],[]))],frz:=[],sch:=[],shut:=[]}
noncomputable def ax3:akh:={par:=[.cst false],inn:=[(8,some ([3],[]))],out:=[],ajM:=[(5,([0,3,4],[]))],frz:=[],sch:=[],shut:=[]}
noncomputable def ax4:akh:={par:=[.cst false],inn:=[],out:=[],ajM:=[],frz:=[],sch:=[],shut:=[]}
noncomputable def ax5:akh:={par:=[.cst false,.cst false],inn:=[(7,some ([],[]))],out:=[],ajM:=[(2,([0,1,7,8],[]))],frz:=[],sch:=[],shut:=[]}
noncomputable def ax6:akh:={par:=[.cst false,.cst false],inn:=[],out:=[(1,some ([2,4,5,6],[2,4]))],ajM:=[],frz:=[],sch:=[(1,.first 0 [3,8,9] [1,2,4,5,6,7]<| .first 1 [2,3,8,9] [4,5,6,7]<| .first 2 [3,8,9] [4,5,6,7]<| .first 3 [8,9] [4,5,6,7]<| .first 4 [7,9] [5,6,8]<| .first 5 [6,7,9] [8]<| .first 6 [7,9] [8]<| .first 7 [9] [8]<| .fork 8 (.fork 9 (.done) (.stop)) (.stop))],shut:=[]}
noncomputable def ax7:akh:={par:=[.cst false,.cst false],inn:=[],out:=[],ajM:=[],frz:=[],sch:=[],shut:=[]}
noncomputable def ax8:akh:={par:=[.cst false],inn:=[],out:=[(1,some ([5],[]))],ajM:=[],frz:=[],sch:=[(1,.first 0 (rg [2,12]) [1]<| .first 1 (rg [2,12]) []<| .first 2 (rg [3,12]) []<| .first 3 (rg [4,12]) []<| .first 4 [6,7,9,10,11] [5,8]<| .first 5 [6,7,9,10,11] [8]<| .first 6 [7,9,10,11] [8]<| .first 7 [9,10,11] [8]<| .first 8 [9,10,11] []<| .first 9 [10,11] []<| .first 10 [11] []<| .fork 11 (.done) (.stop))],shut:=[]}
noncomputable def ax9:akh:={par:=[.cut 3,.cst false,.cst false],inn:=[],out:=[(1,some ([6],[]))],ajM:=[],frz:=[],sch:=[(1,.first 0 [5,10,15,20,37,38] (rg [1,5,6,10,11,15,16,20,21,37])<| .first 1 [2,3,4,5,10,15,20,37,38] (rg [6,10,11,15,16,20,21,37])<| .first 2 [3,4,5,10,15,20,37,38] (rg [6,10,11,15,16,20,21,37])<| .first 3 [4,5,10,15,20,37,38] (rg [6,10,11,15,16,20,21,37])<| .first 4 [5,10,15,20,37,38] (rg [6,10,11,15,16,20,21,37])<| .first 5 [10,15,20,37,38] (rg [6,10,11,15,16,20,21,37])<| .first 6 [7,8,9,10,15,20,37,38] (rg [11,15,16,20,21,37])<| .first 7 [8,9,10,15,20,37,38] (rg [11,15,16,20,21,37])<| .first 8 [9,10,15,20,37,38] (rg [11,15,16,20,21,37])<| .first 9 [10,15,20,37,38] (rg [11,15,16,20,21,37])<| .first 10 [15,20,37,38] (rg [11,15,16,20,21,37])<| .first 11 [12,13,14,15,20,37,38] (rg [16,20,21,37])<| .first 12 [13,14,15,20,37,38] (rg [16,20,21,37])<| .first 13 [14,15,20,37,38] (rg [16,20,21,37])<| .first 14 [15,20,37,38] (rg [16,20,21,37])<| .first 15 [20,37,38] (rg [16,20,21,37])<| .first 16 [17,18,19,20,37,38] (rg [21,37])<| .first 17 [18,19,20,37,38] (rg [21,37])<| .first 18 [19,20,37,38] (rg [21,37])<| .first 19 [20,37,38] (rg [21,37])<| .first 20 [37,38] (rg [21,37])<| .first 21 [26,31,36,37,38] (rg [22,26,27,31,32,36])<| .first 22 [23,24,25,26,31,36,37,38] (rg [27,31,32,36])<| .first 23 [24,25,26,31,36,37,38] (rg [27,31,32,36])<| .first 24 [25,26,31,36,37,38] (rg [27,31,32,36])<| .first 25 [26,31,36,37,38] (rg [27,31,32,36])<| .first 26 [31,36,37,38] (rg [27,31,32,36])<| .first 27 [28,29,30,31,36,37,38] [32,33,34,35]<| .first 28 [29,30,31,36,37,38] [32,33,34,35]<| .first 29 [30,31,36,37,38] [32,33,34,35]<| .first 30 [31,36,37,38] [32,33,34,35]<| .first 31 [36,37,38] [32,33,34,35]<| .first 32 (rg [33,39]) []<| .first 33 [34,35,36,37,38] []<| .first 34 [35,36,37,38] []<| .first 35 [36,37,38] []<| .first 36 [37,38] []<| .first 37 [38] []<| .fork 38 (.done) (.stop))],shut:=[]}
noncomputable def aya:akh:={par:=[.cst false,.cst false],inn:=[],out:=[(1,some ([5],[]))],ajM:=[],frz:=[],sch:=[(1,.first 0 [3,6,10,11,12] [1,2,4,5,7,8,9]<| .first 1 [2,3,6,10,11,12] [4,5,7,8,9]<| .first 2 [3,6,10,11,12] [4,5,7,8,9]<| .first 4 [5,6,11,12] [3,7,8,9,10]<| .first 5 [6,11,12] [3,7,8,9,10]<| .first 7 [10,11,12] [3,6,8,9]<| .first 8 [9,10,11,12] [3,6]<| .first 9 [10,11,12] [3,6]<| .fork 3 (.first 6 [11,12] [10]<| .fork 10 (.first 11 [12] []<| .fork 12 (.done) (.stop)) (.stop)) (.stop))],shut:=[]}
noncomputable def ayb:akh:={par:=[.cst false,.cst false],inn:=[],out:=[],ajM:=[],frz:=[],sch:=[],shut:=[]}
noncomputable def ayc:akh:={par:=[.cst false,.cst false],inn:=[(7,some ([],[]))],out:=[],ajM:=[(2,([0,1,7,8],[]))],frz:=[],sch:=[],shut:=[]}
noncomputable def fcs:List (Nat×akh):=[(3,fc3),(9,fc9),(10,aBb),(11,aBc),(12,aBd),(13,aBe),(14,aBf),(15,aBg),(16,aBh),(17,aBi),(51,aBj),(52,aBk),(53,aBl),(54,aBm),(55,aBn),(56,aBo),(57,aBp),(58,aBq),(59,aBr),(60,aBs),(61,aBt),(62,aBu),(98,aBv),(99,aBw),(100,axY),(101,axZ),(102,ax0),(103,ax1),(104,ax2),(105,ax3),(106,ax4),(107,ax5),(108,ax6),(111,ax7),(112,ax8),(153,ax9),(154,aya),(155,ayb),(157,ayc),(109,{par:=[.row],inn:=[],out:=[],ajM:=[],frz:=[],sch:=[],shut:=[]}),(110,{par:=[.mv],inn:=[],out:=[],ajM:=[],frz:=[],sch:=[],shut:=[]})]
noncomputable def ons:List (Nat×Bool):=[(3,true),(9,true),(10,true),(11,true),(12,true),(13,true),(14,true),(15,true),(16,true),(17,true),(51,true),(52,true),(53,true),(54,true),(55,true),(56,true),(57,true),(58,true),(59,true),(60,true),(61,true),(62,true),(98,true),(99,true),(100,true),(101,true),(102,true),(103,true),(104,true),(105,true),(106,true),(107,true),(108,true),(111,true),(112,true),(153,true),(154,true),(155,true),(157,true)]
noncomputable def cfg:Cfg:=az3 ons fcs [(113,some (api 1 8)),(109,some arG),(110,some aox)] [(67,12)] [] [(11,33),(20,36),(21,41),(37,39),(38,41)]
theorem c3:cfg.fc 3=fc3:=rfl
instance C3:Cf cfg 3 fc3:=⟨c3⟩
instance Z3:Zf cfg 3:=⟨rfl⟩
theorem z3:(cfg.fc 3).frz=[]:=rfl
theorem c9:cfg.fc 9=fc9:=rfl
instance C9:Cf cfg 9 fc9:=⟨c9⟩
instance Z9:Zf cfg 9:=⟨rfl⟩
theorem c10:cfg.fc 10=aBb:=rfl
instance C10:Cf cfg 10 aBb:=⟨c10⟩
instance Z10:Zf cfg 10:=⟨rfl⟩
theorem z10:(cfg.fc 10).frz=[]:=rfl
theorem c11:cfg.fc 11=aBc:=rfl
instance C11:Cf cfg 11 aBc:=⟨c11⟩
instance Z11:Zf cfg 11:=⟨rfl⟩
theorem c12:cfg.fc 12=aBd:=rfl
instance C12:Cf cfg 12 aBd:=⟨c12⟩
instance Z12:Zf cfg 12:=⟨rfl⟩
theorem c13:cfg.fc 13=aBe:=rfl
instance C13:Cf cfg 13 aBe:=⟨c13⟩
instance Z13:Zf cfg 13:=⟨rfl⟩
theorem c14:cfg.fc 14=aBf:=rfl
instance C14:Cf cfg 14 aBf:=⟨c14⟩
instance Z14:Zf cfg 14:=⟨rfl⟩
theorem c15:cfg.fc 15=aBg:=rfl
instance C15:Cf cfg 15 aBg:=⟨c15⟩
instance Z15:Zf cfg 15:=⟨rfl⟩
theorem c16:cfg.fc 16=aBh:=rfl
instance C16:Cf cfg 16 aBh:=⟨c16⟩
instance Z16:Zf cfg 16:=⟨rfl⟩
theorem c17:cfg.fc 17=aBi:=rfl
instance C17:Cf cfg 17 aBi:=⟨c17⟩
instance Z17:Zf cfg 17:=⟨rfl⟩
theorem c51:cfg.fc 51=aBj:=rfl
instance C51:Cf cfg 51 aBj:=⟨c51⟩
instance Z51:Zf cfg 51:=⟨rfl⟩
theorem c52:cfg.fc 52=aBk:=rfl
instance C52:Cf cfg 52 aBk:=⟨c52⟩
instance Z52:Zf cfg 52:=⟨rfl⟩
theorem z52:(cfg.fc 52).frz=[]:=rfl
theorem c53:cfg.fc 53=aBl:=rfl
instance C53:Cf cfg 53 aBl:=⟨c53⟩
instance Z53:Zf cfg 53:=⟨rfl⟩
theorem c54:cfg.fc 54=aBm:=rfl
instance C54:Cf cfg 54 aBm:=⟨c54⟩
instance Z54:Zf cfg 54:=⟨rfl⟩
theorem c55:cfg.fc 55=aBn:=rfl
instance C55:Cf cfg 55 aBn:=⟨c55⟩
instance Z55:Zf cfg 55:=⟨rfl⟩
theorem z55:(cfg.fc 55).frz=[]:=rfl
theorem c56:cfg.fc 56=aBo:=rfl
instance C56:Cf cfg 56 aBo:=⟨c56⟩
instance Z56:Zf cfg 56:=⟨rfl⟩
theorem z56:(cfg.fc 56).frz=[]:=rfl
theorem c57:cfg.fc 57=aBp:=rfl
instance C57:Cf cfg 57 aBp:=⟨c57⟩
instance Z57:Zf cfg 57:=⟨rfl⟩
theorem c58:cfg.fc 58=aBq:=rfl
instance C58:Cf cfg 58 aBq:=⟨c58⟩
instance Z58:Zf cfg 58:=⟨rfl⟩
theorem c59:cfg.fc 59=aBr:=rfl
instance C59:Cf cfg 59 aBr:=⟨c59⟩
instance Z59:Zf cfg 59:=⟨rfl⟩
theorem z59:(cfg.fc 59).frz=[]:=rfl
theorem c60:cfg.fc 60=aBs:=rfl
instance C60:Cf cfg 60 aBs:=⟨c60⟩
instance Z60:Zf cfg 60:=⟨rfl⟩
theorem c61:cfg.fc 61=aBt:=rfl
instance C61:Cf cfg 61 aBt:=⟨c61⟩
theorem z61:(cfg.fc 61).frz=[2]:=rfl
theorem c62:cfg.fc 62=aBu:=rfl
instance C62:Cf cfg 62 aBu:=⟨c62⟩
instance Z62:Zf cfg 62:=⟨rfl⟩
theorem z62:(cfg.fc 62).frz=[]:=rfl
theorem c98:cfg.fc 98=aBv:=rfl
instance C98:Cf cfg 98 aBv:=⟨c98⟩
instance Z98:Zf cfg 98:=⟨rfl⟩
theorem z98:(cfg.fc 98).frz=[]:=rfl
theorem c99:cfg.fc 99=aBw:=rfl
instance C99:Cf cfg 99 aBw:=⟨c99⟩
instance Z99:Zf cfg 99:=⟨rfl⟩
theorem aCY:cfg.fc 100=axY:=rfl
instance aGp:Cf cfg 100 axY:=⟨aCY⟩
instance aGq:Zf cfg 100:=⟨rfl⟩
theorem aFh:cfg.fc 101=axZ:=rfl
instance aGr:Cf cfg 101 axZ:=⟨aFh⟩
instance aGs:Zf cfg 101:=⟨rfl⟩
theorem ayS:cfg.fc 102=ax0:=rfl
instance aGt:Cf cfg 102 ax0:=⟨ayS⟩
instance aGu:Zf cfg 102:=⟨rfl⟩
theorem aFi:cfg.fc 103=ax1:=rfl
instance aGv:Cf cfg 103 ax1:=⟨aFi⟩
instance aGw:Zf cfg 103:=⟨rfl⟩
theorem aCZ:cfg.fc 104=ax2:=rfl
instance aGx:Cf cfg 104 ax2:=⟨aCZ⟩
instance aGy:Zf cfg 104:=⟨rfl⟩
theorem c105:cfg.fc 105=ax3:=rfl
instance aGz:Cf cfg 105 ax3:=⟨c105⟩
instance aGA:Zf cfg 105:=⟨rfl⟩
theorem aFj:cfg.fc 106=ax4:=rfl
instance aGB:Cf cfg 106 ax4:=⟨aFj⟩
instance aGC:Zf cfg 106:=⟨rfl⟩
theorem c107:cfg.fc 107=ax5:=rfl
instance aGD:Cf cfg 107 ax5:=⟨c107⟩
instance aGE:Zf cfg 107:=⟨rfl⟩
theorem aDX:cfg.fc 108=ax6:=rfl
instance aGF:Cf cfg 108 ax6:=⟨aDX⟩
instance aGG:Zf cfg 108:=⟨rfl⟩
theorem aBx:(cfg.fc 108).frz=[]:=rfl
theorem aFk:cfg.fc 111=ax7:=rfl
instance aGH:Cf cfg 111 ax7:=⟨aFk⟩
instance aGI:Zf cfg 111:=⟨rfl⟩
theorem aDY:cfg.fc 112=ax8:=rfl
instance aGJ:Cf cfg 112 ax8:=⟨aDY⟩
instance aGK:Zf cfg 112:=⟨rfl⟩
theorem aDZ:(cfg.fc 112).frz=[]:=rfl
theorem aD0:cfg.fc 153=ax9:=rfl
instance aGL:Cf cfg 153 ax9:=⟨aD0⟩
instance aGM:Zf cfg 153:=⟨rfl⟩
theorem aFl:(cfg.fc 153).frz=[]:=rfl
theorem c154:cfg.fc 154=aya:=rfl
instance aGN:Cf cfg 154 aya:=⟨c154⟩
instance aGO:Zf cfg 154:=⟨rfl⟩
theorem z154:(cfg.fc 154).frz=[]:=rfl
theorem aFm:cfg.fc 155=ayb:=rfl
instance aGP:Cf cfg 155 ayb:=⟨aFm⟩
instance aGQ:Zf cfg 155:=⟨rfl⟩
theorem c157:cfg.fc 157=ayc:=rfl
instance aGR:Cf cfg 157 ayc:=⟨c157⟩
instance aGS:Zf cfg 157:=⟨rfl⟩
noncomputable abbrev Pg:=Try.prog
theorem aD1:atp Pg 162=some ([z0,z0,z0,z0],[(0,1),(1,1),(2,1),(3,1)]):=kr
theorem aFn:atp Pg 90=some ([.nil,.nil,z0,z0,z0],[(0,1),(1,1),(2,1),(3,1),(4,1)]):=kr
theorem aFo:atp Pg 99=some ([.nil,z0],[(0,1),(1,1)]):=kr
theorem apZ:anx Pg 22=some (2,1):=kr
theorem aFp:anx Pg 37=some (22,1):=kr
theorem aC0:amR Pg 24 0=some 0:=kr
theorem aC1:amR Pg 24 1=some 1:=kr
theorem aAc:amR Pg 24 2=some 2:=kr
theorem amg:amR Pg 28 0=some 0:=kr
theorem aod:amR Pg 28 1=some 1:=kr
theorem akE:amR Pg 28 2=some 2:=kr
theorem asa:amR Pg 90 0=some 0:=kr
theorem apK:amR Pg 90 1=some 1:=kr
theorem asb:amR Pg 90 2=some 2:=kr
theorem avr:amR Pg 90 3=some 3:=kr
theorem aC2:amR Pg 90 4=some 4:=kr
theorem aAd:amR Pg 99 0=some 0:=kr
theorem axt:amR Pg 99 1=some 1:=kr
theorem atA:ajv Pg cfg 100 0 [22,2]=[(.cst false,[some 1]),(.cst false,[none])]:=kr
theorem atB:ajv Pg cfg 101 0 [86,2]=[(.cut 3,[none]),(.cst false,[none])]:=kr
theorem axu:ajv Pg cfg 102 0 [22,2]=[(.cst false,[some 1]),(.cst false,[none])]:=kr
theorem ayT:ajv Pg cfg 103 0 [2,2]=[(.cst false,[none]),(.cst false,[none])]:=kr
theorem aAe:ajv Pg cfg 104 0 [22]=[(.cst false,[some 1])]:=kr
theorem aww:ajv Pg cfg 105 0 [22]=[(.cst false,[some 1])]:=kr
theorem awx:ajv Pg cfg 106 0 [28]=[(.cst false,[none,none,some 1])]:=kr
theorem axv:ajv Pg cfg 107 0 [22,2]=[(.cst false,[some 1]),(.cst false,[none])]:=kr
theorem atC:ajv Pg cfg 108 0 [28,2]=[(.cst false,[none,none,some 1]),(.cst false,[none])]:=kr
theorem ayU:ajv Pg cfg 10 0 [28,2]=[(.cst false,[none,none,some 1]),(.cst false,[none])]:=kr
theorem aAf:ajv Pg cfg 110 0 [22]=[(.mv,[some 1])]:=kr
theorem awy:ajv Pg cfg 111 0 [22,93]=[(.cst false,[some 1]),(.cst false,[none])]:=kr
theorem atX:ajv Pg cfg 112 0 [2,0,0,0]=[(.cst false,[none]),(.cst false,[none]),(.cst false,[none]),(.cst false,[none])]:=kr
theorem aqr:ajv Pg cfg 113 0 [22]=[(.cst false,[some 1])]:=kr
theorem asI:ajv Pg cfg 11 0 [24]=[(.cst false,[none,none,some 1])]:=kr
theorem auH:ajv Pg cfg 12 0 [28,2]=[(.cst false,[none,none,some 1]),(.cst false,[none])]:=kr
theorem apL:ajv Pg cfg 13 0 [22,22]=[(.cst false,[some 1]),(.cst false,[some 1])]:=kr
theorem axw:ajv Pg cfg 14 0 [28,28]=[(.cst false,[none,none,some 1]),(.cst false,[none,none,some 1])]:=kr
theorem aoo:ajv Pg cfg 153 0 [86,2,2]=[(.cut 3,[none]),(.cst false,[none]),(.cst false,[none])]:=kr
theorem aoX:ajv Pg cfg 154 0 [2,2,0]=[(.cst false,[none]),(.cst false,[none]),(.cst false,[none])]:=kr
theorem auI:ajv Pg cfg 155 0 [2,2]=[(.cst false,[none]),(.cst false,[none])]:=kr
theorem awz:ajv Pg cfg 157 0 [22,93]=[(.cst false,[some 1]),(.cst false,[none])]:=kr
theorem ayV:ajv Pg cfg 15 0 [28,3]=[(.ws,[none,none,some 1]),(.cst false,[none])]:=kr
theorem auJ:ajv Pg cfg 16 0 [22,3]=[(.row,[some 1]),(.cst false,[none])]:=kr
theorem auK:ajv Pg cfg 17 0 [22,3]=[(.cst false,[some 1]),(.cst false,[none])]:=kr
theorem ayW:ajv Pg cfg 51 0 [22,3]=[(.cst false,[some 1]),(.cst false,[none])]:=kr
theorem aBy:ajv Pg cfg 52 0 [86]=[(.cut 3,[none])]:=kr
theorem amV:ajv Pg cfg 53 0 [2,2,2]=[(.cst false,[none]),(.cst false,[none]),(.cst false,[none])]:=kr
theorem ayd:ajv Pg cfg 54 0 [86]=[(.cut 3,[none])]:=kr
theorem ayX:ajv Pg cfg 55 0 [86,2]=[(.cut 3,[none]),(.cst false,[none])]:=kr
theorem auL:ajv Pg cfg 56 0 [88,2]=[(.ptr [.sh,.sh,.imm,.imm,.imm],[none]),(.cst false,[none])]:=kr
theorem aBz:ajv Pg cfg 57 0 [22]=[(.cst false,[some 1])]:=kr
theorem aBA:ajv Pg cfg 58 0 [22]=[(.cst false,[some 1])]:=kr
theorem aBB:ajv Pg cfg 59 0 [28]=[(.cst false,[none,none,some 1])]:=kr
theorem arb:ajv Pg cfg 60 0 [2,2,2]=[(.cst false,[none]),(.cst false,[none]),(.cst false,[none])]:=kr
theorem aBC:ajv Pg cfg 61 0 [28]=[(.cst false,[none,none,some 1])]:=kr
theorem ake:ajv Pg cfg 62 0 [96,22,2,2]=[(.ptr [.imm,.imm],[none]),(.mv,[some 1]),(.cst false,[none]),(.cst false,[none])]:=kr
theorem ayY:ajv Pg cfg 98 0 [86,2]=[(.cut 3,[none]),(.cst false,[none])]:=kr
theorem awC:ajv Pg cfg 99 0 [2,2]=[(.cst false,[none]),(.cst false,[none])]:=kr
theorem aAg:ajv Pg cfg 9 0 [24,3]=[(.cst false,[none,none,some 1]),(.cst false,[none])]:=kr
theorem aAh:akz Pg (Try.f10.results.toList.zip Try.f10.resultTypes.toList)=[(.tmp 4,[some 1],none),(.tmp 5,[none],none),(.tmp 6,[none],none)]:=kr
theorem aCe:akz Pg (Try.f100.results.toList.zip Try.f100.resultTypes.toList)=[(.tmp 4,[none],none)]:=kr
theorem aD2:akz Pg (Try.f101.results.toList.zip Try.f101.resultTypes.toList)=[(.tmp 4,[some 1],none)]:=kr
theorem aD3:akz Pg (Try.f102.results.toList.zip Try.f102.resultTypes.toList)=[(.tmp 4,[some 1],none)]:=kr
theorem aCf:akz Pg (Try.f103.results.toList.zip Try.f103.resultTypes.toList)=[(.tmp 4,[none],none)]:=kr
theorem aD4:akz Pg (Try.f104.results.toList.zip Try.f104.resultTypes.toList)=[(.tmp 2,[none],none)]:=kr
theorem aD5:akz Pg (Try.f105.results.toList.zip Try.f105.resultTypes.toList)=[(.tmp 2,[none],none)]:=kr
theorem aD6:akz Pg (Try.f106.results.toList.zip Try.f106.resultTypes.toList)=[(.tmp 2,[none],none)]:=kr
theorem aCg:akz Pg (Try.f107.results.toList.zip Try.f107.resultTypes.toList)=[(.tmp 4,[none],none)]:=kr
theorem aD7:akz Pg (Try.f108.results.toList.zip Try.f108.resultTypes.toList)=[(.cell 4 162,[none,none,none,none],some (true,4))]:=kr
theorem aFq:akz Pg (Try.f11.results.toList.zip Try.f11.resultTypes.toList)=[(.cell 2 28,[none,none,some 1],some (true,3))]:=kr
theorem aD8:akz Pg (Try.f111.results.toList.zip Try.f111.resultTypes.toList)=[(.tmp 4,[none],none)]:=kr
theorem aD9:akz Pg (Try.f112.results.toList.zip Try.f112.resultTypes.toList)=[(.tmp 5,[none],none)]:=kr
theorem aEa:akz Pg (Try.f113.results.toList.zip Try.f113.resultTypes.toList)=[(.tmp 2,[some 1],none)]:=kr
theorem aBD:akz Pg (Try.f12.results.toList.zip Try.f12.resultTypes.toList)=[(.tmp 4,[some 1],none),(.tmp 5,[none],none),(.tmp 6,[none],none)]:=kr
theorem aC3:akz Pg (Try.f13.results.toList.zip Try.f13.resultTypes.toList)=[(.tmp 4,[none],none)]:=kr
theorem aBE:akz Pg (Try.f14.results.toList.zip Try.f14.resultTypes.toList)=[(.tmp 4,[none],none)]:=kr
theorem aFr:akz Pg (Try.f15.results.toList.zip Try.f15.resultTypes.toList)=[(.tmp 4,[none],none)]:=kr
theorem aEb:akz Pg (Try.f153.results.toList.zip Try.f153.resultTypes.toList)=[(.tmp 6,[none],none)]:=kr
theorem aEc:akz Pg (Try.f154.results.toList.zip Try.f154.resultTypes.toList)=[(.tmp 5,[none],none)]:=kr
theorem aEd:akz Pg (Try.f155.results.toList.zip Try.f155.resultTypes.toList)=[(.tmp 4,[none],none)]:=kr
theorem aCh:akz Pg (Try.f157.results.toList.zip Try.f157.resultTypes.toList)=[(.tmp 4,[none],none)]:=kr
theorem aEe:akz Pg (Try.f16.results.toList.zip Try.f16.resultTypes.toList)=[(.tmp 4,[none],none)]:=kr
theorem aEf:akz Pg (Try.f17.results.toList.zip Try.f17.resultTypes.toList)=[(.tmp 4,[none],none)]:=kr
theorem rF3:akz Pg (Try.f3.results.toList.zip Try.f3.resultTypes.toList)=[(.tmp 4,[none],none)]:=kr
theorem aEg:akz Pg (Try.f51.results.toList.zip Try.f51.resultTypes.toList)=[(.tmp 4,[none],none)]:=kr
theorem aC4:akz Pg (Try.f52.results.toList.zip Try.f52.resultTypes.toList)=[(.tmp 2,[none],none)]:=kr
theorem aFs:akz Pg (Try.f53.results.toList.zip Try.f53.resultTypes.toList)=[(.tmp 6,[none],none)]:=kr
theorem aC5:akz Pg (Try.f54.results.toList.zip Try.f54.resultTypes.toList)=[(.tmp 2,[none],none)]:=kr
theorem aFt:akz Pg (Try.f55.results.toList.zip Try.f55.resultTypes.toList)=[(.tmp 4,[some 1],none)]:=kr
theorem aC6:akz Pg (Try.f56.results.toList.zip Try.f56.resultTypes.toList)=[(.tmp 4,[none],none)]:=kr
theorem aFu:akz Pg (Try.f57.results.toList.zip Try.f57.resultTypes.toList)=[(.tmp 2,[some 1],none)]:=kr
theorem aFv:akz Pg (Try.f58.results.toList.zip Try.f58.resultTypes.toList)=[(.tmp 2,[some 1],none)]:=kr
theorem aAi:akz Pg (Try.f59.results.toList.zip Try.f59.resultTypes.toList)=[(.tmp 2,[none],none)]:=kr
theorem aFw:akz Pg (Try.f60.results.toList.zip Try.f60.resultTypes.toList)=[(.tmp 6,[none],none)]:=kr
theorem aFx:akz Pg (Try.f61.results.toList.zip Try.f61.resultTypes.toList)=[(.tmp 2,[some 1],none)]:=kr
theorem aBF:akz Pg (Try.f62.results.toList.zip Try.f62.resultTypes.toList)=[(.tmp 8,[some 1],none),(.tmp 9,[none],none)]:=kr
theorem rF9:akz Pg (Try.f9.results.toList.zip Try.f9.resultTypes.toList)=[(.tmp 4,[none],none)]:=kr
theorem aFy:akz Pg (Try.f98.results.toList.zip Try.f98.resultTypes.toList)=[(.tmp 4,[none],none)]:=kr
theorem aEh:akz Pg (Try.f99.results.toList.zip Try.f99.resultTypes.toList)=[(.tmp 4,[none],none)]:=kr
theorem aye:akK Pg 109=some (4,1,[none],false,1,[.im 0 (.sc (.bool false))]):=kr
theorem ajw:akK Pg 22=some (2,1,[none],false,8,[z0]):=kr
theorem asx:akK Pg 37=some (22,1,[some 1],false,24,[.nil]):=kr
theorem aCi:tyF Pg 162=some ([z0,z0,z0,z0],[none,none,none,none],true,4):=kr
theorem tF2:tyF Pg 2=some ([z0],[none],false,1):=kr
theorem akO:tyF Pg 22=some ([.nil],[some 1],false,1):=kr
theorem awD:tyF Pg 24=some ([z0,z0,.nil],[none,none,some 1],true,3):=kr
theorem aop:tyF Pg 28=some ([z0,z0,.nil],[none,none,some 1],true,3):=kr
theorem awE:tyF Pg 37=some ([.nil],[some 1],false,1):=kr
theorem tF4:tyF Pg 4=some ([.im 0 (.sc (.bool false))],[none],false,1):=kr
theorem aFz:tyF Pg 90=some ([.nil,.nil,z0,z0,z0],[some 1,some 1,none,none,none],true,5):=kr
theorem aFA:tyF Pg 99=some ([.nil,z0],[some 1,none],true,2):=kr
theorem aCj:Pg.underlying 162=some (.array 4 2):=kr
theorem uF2:Pg.underlying 2=some (.int .i64):=kr
theorem akP:Pg.underlying 22=some (.slice 2):=kr
theorem aBG:Pg.underlying 37=some (.slice 22):=kr
theorem zF2:(Pg.info? 2).map (·.size)=some 1:=kr
abbrev FX (i:Nat) (a:List Arg) (r:Res×List Out):Prop:=FL Try.prog cfg i a=some r
theorem asy {a_0:(List Int)} {ao0:Int} {r:Int} (h:amE a_0 ao0=some r):FX 51 [.im 2 false [W 1 eI a_0],.im 2 false [I ao0]] (B0 [(false,[.im 0 (I r)])]):=by
 unfold amE at h
 refine gn 12 Try.func51 rfl ?_
 refine gs<|g0 j j (q (aiF j j)<|nl)<|us<|gs<|g0 j j (q (oMv j j)<|q (oMv j j)<|q (aob j j akP j)<|q (oBi j j j j)<|q (aiF j j)<|nl)<|us<|gs<|gs<|g0 j j (q (oMv j j)<|q (oBi j j j j)<|nl)<|us<|gc h j aiK (fun hc1 h=>?_) fun hc1 h=>?_
 ·refine gs<|g0 j j (q (aiF j j)<|nl)<|us<|Go.ret (Unw.ret ?_)
  cases h
  exact fr aEg j
 ·refine Go.skip<|us<|gs<|g0 j j (q (oMv j j)<|q (aiF j j)<|nl)<|us<|Go.ret (Unw.ret ?_)
  cases h
  exact fr aEg j
theorem asz {a_0:aiE} {ao0:Int} {r:Int} (h:amF a_0 ao0=some r):FX 9 [.im 2 true (aiC a_0),.im 2 false [I ao0]] (B0 [(false,[.im 0 (I r)])]):=by
 unfold amF at h
 refine gn 12 Try.func9 rfl ?_
 refine gs<|g0 j j (q (oBx j awD j (tkI (tkI (tkI tk0))))<|q (aiF j j)<|nl)<|us<|gs<|?_
 obtain ⟨x8,hx8,h⟩:=bs h
 refine g0 j j (q (oFA (r':=.mp 2 0 2) j aAc j j)<|q (oLd (cs:=[.im 2 _]) j akO j j)<|q (oMv j j)<|q (oCa (xs:=[.v false [.im 2 _],.v false [.im 2 _]]) (vs:=[(false,[.im 0 _])]) (v:=.v false [.im 0 _]) (asy hx8) (.inl j) j ayW j (ppC j (ppC j pp0)) j j pb0 j j j)<|q (aiF j j)<|nl)<|us<|gs<|gs<|g0 j j (q (oMv j j)<|q (oBi j j j j)<|nl)<|us<|gc h j aiK (fun hc1 h=>?_) fun hc1 h=>?_
 ·refine gs<|g0 j j (q (aiF j j)<|nl)<|us<|Go.ret (Unw.ret ?_)
  cases h
  exact fr rF9 j
 ·refine Go.skip<|us<|gs<|g0 j j (q (oMv j j)<|q (aiF j j)<|nl)<|us<|Go.ret (Unw.ret ?_)
  cases h
  exact fr rF9 j
theorem asA {a_0:(List Int)} {r:(List Int)} (h:amG a_0=some r):FX 58 [.im 2 false [W 1 eI a_0]] (B0 [(false,[.ow 0 1 (List.map eI r)])]):=by
 unfold amG at h
 refine gn 22 Try.func58 rfl ?_
 refine gs<|g0 j j (q (aph j j apZ)<|nl)<|us<|gs<|?_
 obtain ⟨x7,hx7,h⟩:=bs h
 refine g0 j j (q (oMv j j)<|q (aob j j akP j)<|q (oMk (en:=eI) j hx7 j ajw j j (fxI fx0) j (akm (L:=[_]) j fun _=>j))<|q (al2 j j j j j)<|nl)<|us<|gs<|gs<|g0 j j (q (aiF j j)<|nl)<|us<|Go.block<|?_
 obtain ⟨o,hl,h⟩:=bs h
 refine gl c58 j _ (fun (s:(Int×(List Int)))=>match s with | (al0,akX)=>mk [(0,D 2 (W 1 eI a_0)),(3,H 3 0),(4,iv al0)] [(3,Oc [Z (W 1 eI akX)])]) (fun (ajF:(List Int)) (p:Ex×St)=>p.1= .exit 0∧p.2.norm ([3],[3])=mk [(3,H 3 0)] [(3,Oc [Z (W 1 eI ajF)])]) hl (by kernel_rfl) ?_ ?_ ?_
 ·intro o p hp e
  exact nomatch (hp.1.symm.trans e)
 ·rintro ⟨al0,akX⟩ o h
  unfold alx at h
  dsimp only at h
  refine gs<|gs<|g0 j j (q (oMv j j)<|q (oMv j j)<|q (aob j j akP j)<|q (oBi j j j j)<|nl)<|us<|gc h j aiK (fun hc3 h=>?_) fun hc3 h=>?_
  ·refine Go.skip<|us<|gs<|Go.block<|?_
   obtain ⟨x18,aC7,h⟩:=bs h
   obtain ⟨x20,awF,h⟩:=bs h
   refine g0 j j (q (oMv j j)<|q (oMv j j)<|q (oMv j j)<|q (oMv j j)<|q (anj j aC7 ajw j j)<|q (oLd (cs:=[.im 2 _]) j tF2 j j)<|q (aqH j awF ajw j j j j)<|q (aA0 (v':=x18) tF2 j j j (fxI fx0) j j (akS awF) j)<|nl)<|Unw.blk<|us<|g1 j j (mk [(0,D 2 (W 1 eI a_0)),(3,H 3 0),(4,iv al0)] [(3,Oc [Z (W 1 eI (akX.set al0.toNat x18))])]) (q (oMv j j)<|q (oBi j j j j)<|q (aiF j j)<|nl)<|Unw.nil<|?_
   cases h
   exact ⟨j,(by kernel_rfl)⟩
  ·refine Go.exit<|ux<|Unw.nil<|?_
   cases h
   exact ⟨j,(by kernel_rfl)⟩
 ·rintro ⟨e,st⟩ hp
  obtain ⟨ajF,rfl⟩:∃y,y=o:=⟨o,rfl⟩
  obtain ⟨he,hst⟩:=hp
  obtain rfl:e= .exit 0:=he
  refine Unw.amy<|us<|gs<|g2 c58 j j hst (q (oMv j j)<|q (al2 j j j j j)<|nl)<|us<|Go.ret (Unw.ret ?_)
  cases h
  exact fr aFv j
theorem amL {a_0:aiE} {r:aiE} (h:akU a_0=some r):FX 11 [.im 2 true (aiC a_0)] (B0 [(true,[.im 0 (I r.aku),.im 0 (I r.High),.ow 0 1 (List.map eI r.Cells)])]):=by
 unfold akU at h
 refine gn 15 Try.func11 rfl ?_
 refine gs<|g0 j j (q (oBx j awD j (tkI (tkI (tkI tk0))))<|q (oAl j aop (tkI (tkI (tkN tk0))))<|nl)<|us<|gs<|g0 j j (q (oAl j aop (tkI (tkI (tkN tk0))))<|nl)<|us<|gs<|g0 j j (q (oFA (r':=.mp 1 0 0) j aC0 j j)<|q (oLd (cs:=[.im 0 _]) j tF2 j j)<|q (oFA (r':=.mp 3 0 0) j amg j j)<|q (oSt tF2 j j j (tkI tk0) j j j)<|nl)<|us<|gs<|g1 j j (mk [(1,M 1),(2,M 2),(3,M 3)] [(1,Oa (G 2 (aiC a_0))),(2,Oa [C (I 0),C (I 0),Z (W 1 eI ([]:List Int))]),(3,Oa [C (I a_0.aku),C (I 0),Z (W 1 eI ([]:List Int))])]) (q (oFA (r':=.mp 1 0 1) j aC1 j j)<|q (oLd (cs:=[.im 0 _]) j tF2 j j)<|q (oFA (r':=.mp 3 0 1) j aod j j)<|q (oSt tF2 j j j (tkI tk0) j j j)<|nl)<|us<|gs<|?_
 obtain ⟨x12,avs,h⟩:=bs h
 refine g1 j j (mk [(1,M 1),(2,M 2),(3,M 3)] [(1,Oa (G 2 (aiC a_0))),(2,Oa [C (I 0),C (I 0),Z (W 1 eI ([]:List Int))]),(3,Oa [C (I a_0.aku),C (I a_0.High),Z (W 1 eI ([]:List Int))])]) (q (oFA (r':=.mp 1 0 2) j aAc j j)<|q (oLd (cs:=[.im 2 _]) j akO j j)<|q (oCr (xs:=[.v false [.im 2 _]]) (vs:=[(false,[.own 12 0 0])]) (v:=.v false [.own 12 0 0]) (c:=⟨.sh,0,_⟩) (cs:=[]) (asA avs) (.inl j) j aBA j (ppC j pp0) j j pb0 j j j)<|q (oFA (r':=.mp 3 0 2) j akE j j)<|q (oSt akO j j j (tkO j j tk0) j j j)<|nl)<|us<|gs<|g1 j j (mk [(2,M 2),(3,M 3)] [(2,Oa [C (I 0),C (I 0),Z (W 1 eI ([]:List Int))]),(3,Oa [C (I a_0.aku),C (I a_0.High),Z (W 1 eI x12)])]) (q (oLd (cs:=[.im 0 _,.im 0 _,.own 3 0 2]) j aop j j)<|q (oSt aop j j j (tkI (tkI (tkO j j tk0))) j j j)<|nl)<|us<|Go.ret (Unw.ret ?_)
 cases h
 exact fr aFq j
theorem alO {n_0:Int} {apk:Int} {anE:Int} {r:Bool} (h:al9 n_0 apk anE=some r):FX 53 [.im 2 false [I n_0],.im 2 false [I apk],.im 2 false [I anE]] (B0 [(false,[.im 0 (V r)])]):=by
 unfold al9 at h
 refine gn 15 Try.func53 rfl ?_
 refine gs<|g0 j j (q (aiF j j)<|nl)<|us<|gs<|gX c53 j j j (mk [(6,bv ((decide (n_0≥apk))&&(decide (n_0≤anE))))] []) ?_ ?_
 ·refine xq (oMv j j)<|xq (oMv j j)<|xq (oBi j j j j)<|xq (oMv j j)<|?_
  by_cases hc1:n_0≥apk
  ·exact xqT rfl rfl (aiK.2 hc1) (oMv rfl rfl)<|xqT rfl rfl (aiK.2 hc1) (oMv rfl rfl)<|xqT rfl rfl (aiK.2 hc1) (oBi rfl rfl rfl rfl)<|xq (amS rfl rfl (aiK.2 hc1) rfl)<|xq (aiF rfl rfl)<|xn (Eq.trans (b:=(fun amW:Bool=>mk [(6,bv amW)] []) (decide (n_0≤anE))) (by kernel_rfl) (congrArg (fun amW:Bool=>mk [(6,bv amW)] []) (by first | rfl | (simp [(aiK.2 hc1)];done) | (simp [(aiK.2 hc1)];omega))))
  ·exact ajo rfl rfl (byF aiK hc1) rfl<|ajo rfl rfl (byF aiK hc1) rfl<|ajo rfl rfl (byF aiK hc1) rfl<|xq (aok rfl rfl (byF aiK hc1) rfl)<|xq (aiF rfl rfl)<|xn (Eq.trans (b:=(fun amW:Bool=>mk [(6,bv amW)] []) false) (by kernel_rfl) (congrArg (fun amW:Bool=>mk [(6,bv amW)] []) (by first | rfl | (simp [(byF aiK hc1)];done) | (simp [(byF aiK hc1)];omega))))
 ·refine us<|Go.ret (Unw.ret ?_)
  cases h
  exact fr aFs j
theorem aqP {a_0:Int} {b_1:Int} {r:Int} (h:alF a_0 b_1=some r):FX 99 [.im 2 false [I a_0],.im 2 false [I b_1]] (B0 [(false,[.im 0 (I r)])]):=by
 unfold alF at h
 refine gn 10 Try.func99 rfl ?_
 refine gs<|g0 j j (q (aiF j j)<|nl)<|us<|gs<|gs<|g0 j j (q (oMv j j)<|q (oMv j j)<|q (oBi j j j j)<|nl)<|us<|gc h j aiK (fun hc1 h=>?_) fun hc1 h=>?_
 ·refine gs<|g0 j j (q (oMv j j)<|q (aiF j j)<|nl)<|us<|Go.ret (Unw.ret ?_)
  cases h
  exact fr aEh j
 ·refine Go.skip<|us<|gs<|g0 j j (q (oMv j j)<|q (aiF j j)<|nl)<|us<|Go.ret (Unw.ret ?_)
  cases h
  exact fr aEh j
theorem aqQ {ajR:(List Int)} {n_1:Int} {r:Bool} (h:am5 ajR n_1=some r):FX 100 [.im 2 false [W 1 eI ajR],.im 2 false [I n_1]] (B0 [(false,[.im 0 (V r)])]):=by
 unfold am5 at h
 refine gn 18 Try.func100 rfl ?_
 refine gs<|g0 j j (q (aiF j j)<|nl)<|us<|gs<|gs<|g0 j j (q (aiF j j)<|nl)<|us<|Go.block<|?_
 obtain ⟨o,hl,h⟩:=bs h
 refine gl aCY j _ (fun (ajZ:Int)=>mk [(0,D 2 (W 1 eI ajR)),(1,iv n_1),(5,iv ajZ)] []) (fun (o:(Unit ⊕ Bool)) (p:Ex×St)=>match o with | (.inl _)=>p.1= .exit 0∧p.2.norm ([],[])=mk [] [] | (.inr r2)=>p.1= .ret∧fin Try.prog cfg 100 Try.f100 [.im 2 false [W 1 eI ajR],.im 2 false [I n_1]] p.2=some (B0 [(false,[.im 0 (V r2)])])) hl (by kernel_rfl) ?_ ?_ ?_
 ·intro o p hp e
  rcases o with u | r2<;>exact nomatch (hp.1.symm.trans e)
 ·rintro ajZ o h
  unfold ama at h
  refine gs<|gs<|g0 j j (q (oMv j j)<|q (oMv j j)<|q (aob j j akP j)<|q (oBi j j j j)<|nl)<|us<|gc h j aiK (fun hc5 h=>?_) fun hc5 h=>?_
  ·refine Go.skip<|us<|gs<|Go.block<|gs<|?_
   obtain ⟨x14,avt,h⟩:=bs h
   refine g0 j j (q (oMv j j)<|q (oMv j j)<|q (anj j avt ajw j j)<|q (oLd (cs:=[.im 2 _]) j tF2 j j)<|q (oMv j j)<|q (oBi j j j j)<|nl)<|us<|gc h j iEq (fun hc6 h=>?_) fun hc6 h=>?_
   ·refine gs<|g0 j j (q (aiF j j)<|nl)<|us<|Go.ret (Unw.ret ?_)
    cases h
    exact ⟨j,(fo aCe j)⟩
   ·refine Go.skip<|Unw.blk<|us<|g0 j j (q (oMv j j)<|q (oBi j j j j)<|q (aiF j j)<|nl)<|Unw.nil<|?_
    cases h
    exact ⟨j,(by kernel_rfl)⟩
  ·refine Go.exit<|ux<|Unw.nil<|?_
   cases h
   exact ⟨j,(by kernel_rfl)⟩
 ·rintro ⟨e,st⟩ hp
  rcases o with u | r2
  ·dsimp only at h
   obtain ⟨he,hst⟩:=hp
   obtain rfl:e= .exit 0:=he
   refine Unw.amy<|us<|gs<|g2 aCY j j hst (q (aiF j j)<|nl)<|us<|Go.ret (Unw.ret ?_)
   cases h
   exact fr aCe j
  ·dsimp only at h
   obtain ⟨he,hfin⟩:=hp
   obtain rfl:e= .ret:=he
   cases h
   exact Unw.ret (al1 hfin)
theorem aqs {t_0:aiE} {r:Int} (h:akc t_0=some r):FX 54 [.im 2 false [.cp (aiC t_0) 0]] (B0 [(false,[.im 0 (I r)])]):=by
 unfold akc at h
 refine gn 47 Try.func54 rfl ?_
 refine gs<|g0 j j (q (aiF j j)<|nl)<|us<|gs<|g0 j j (q (aiF j j)<|nl)<|us<|gs<|gs<|g0 j j (q (aiF j j)<|nl)<|us<|Go.block<|?_
 obtain ⟨o,hl,h⟩:=bs h
 refine gl c54 j _ (fun (s:(Int×Int))=>match s with | (apl,al0)=>mk [(0,D 2 (.cp (aiC t_0) 0)),(3,iv apl),(4,iv al0)] []) (fun (o:(Int ⊕ Int)) (p:Ex×St)=>match o with | (.inl akV)=>p.1= .exit 0∧p.2.norm ([0,3],[])=mk [(0,D 2 (.cp (aiC t_0) 0)),(3,iv akV)] [] | (.inr r2)=>p.1= .ret∧fin Try.prog cfg 54 Try.f54 [.im 2 false [.cp (aiC t_0) 0]] p.2=some (B0 [(false,[.im 0 (I r2)])])) hl (by kernel_rfl) ?_ ?_ ?_
 ·intro o p hp e
  rcases o with akV | r2<;>exact nomatch (hp.1.symm.trans e)
 ·rintro ⟨apl,al0⟩ o h
  unfold ajL at h
  dsimp only at h
  refine gs<|gs<|g0 j j (q (oMv j j)<|q (oMv j j)<|q (oNl j j j)<|q (oFA (r':=.im 2 _) j akE j j)<|q (oLd (cs:=[.im 2 _]) j akO j j)<|q (aob j j akP j)<|q (oBi j j j j)<|nl)<|us<|gc h j aiK (fun aoL h=>?_) fun aoL h=>?_
  ·refine Go.skip<|us<|gs<|Go.block<|gs<|gs<|?_
   obtain ⟨x20,awF,h⟩:=bs h
   obtain ⟨x22,aC8,h⟩:=bs h
   refine g0 j j (q (oMv j j)<|q (oNl j j j)<|q (oFA (r':=.im 2 _) j akE j j)<|q (oLd (cs:=[.im 2 _]) j akO j j)<|q (oMv j j)<|q (anj j awF ajw j j)<|q (oLd (cs:=[.im 2 _]) j tF2 j j)<|q (oCa (xs:=[.v false [.im 2 _],.v false [.im 0 _],.v false [.im 0 _]]) (vs:=[(false,[.im 0 _])]) (v:=.v false [.im 0 _]) (alO aC8) (.inl j) j amV j (ppC j (ppC j (ppC j pp0))) j j pb0 j j j)<|q (oUn j j j)<|nl)<|us<|?_
   by_cases hc12:x22=true
   ·rw [if_pos hc12] at h
    refine gF j (nF (iR.2 hc12))<|Go.skip<|us<|?_
    obtain ⟨x30,aC9,h⟩:=bs h
    obtain ⟨x32,hx32,h⟩:=bs h
    refine g0 j j (q (oMv j j)<|q (oMv j j)<|q (oNl j j j)<|q (oFA (r':=.im 2 _) j akE j j)<|q (oLd (cs:=[.im 2 _]) j akO j j)<|q (oMv j j)<|q (anj j aC9 ajw j j)<|q (oLd (cs:=[.im 2 _]) j tF2 j j)<|q (oCa (xs:=[.v false [.im 0 _],.v false [.im 2 _]]) (vs:=[(false,[.im 0 _])]) (v:=.v false [.im 0 _]) (aqP hx32) (.inl j) j awC j (ppC j (ppC j pp0)) j j pb0 j j j)<|q (aiF j j)<|nl)<|Unw.blk<|us<|g0 j j (q (oMv j j)<|q (oBi j j j j)<|q (aiF j j)<|nl)<|Unw.nil<|?_
    cases h
    exact ⟨j,(by kernel_rfl)⟩
   ·rw [if_neg hc12] at h
    refine gT j (nT (byF iR hc12))<|gs<|g0 j j (q (aiF j j)<|nl)<|us<|Go.ret (Unw.ret ?_)
    cases h
    exact ⟨j,(fo aC5 j)⟩
  ·refine Go.exit<|ux<|Unw.nil<|?_
   cases h
   exact ⟨j,(by kernel_rfl)⟩
 ·rintro ⟨e,st⟩ hp
  rcases o with akV | r2
  ·dsimp only at h
   obtain ⟨he,hst⟩:=hp
   obtain rfl:e= .exit 0:=he
   refine Unw.amy<|us<|gs<|gs<|g2 c54 j j hst (q (aiF j j)<|nl)<|us<|Go.block<|?_
   obtain ⟨o,hl,h⟩:=bs h
   refine gl c54 j _ (fun (ar8:Int)=>mk [(0,D 2 (.cp (aiC t_0) 0)),(3,iv akV),(5,iv ar8)] []) (fun (o:(Unit ⊕ Int)) (p:Ex×St)=>match o with | (.inl _)=>p.1= .exit 2∧p.2.norm ([3],[])=mk [(3,iv akV)] [] | (.inr r2)=>p.1= .ret∧fin Try.prog cfg 54 Try.f54 [.im 2 false [.cp (aiC t_0) 0]] p.2=some (B0 [(false,[.im 0 (I r2)])])) hl (by kernel_rfl) ?_ ?_ ?_
   ·intro o p hp e
    rcases o with u | r2<;>exact nomatch (hp.1.symm.trans e)
   ·rintro ar8 o h
    unfold alg at h
    refine gs<|gs<|g0 j j (q (oMv j j)<|q (oMv j j)<|q (oBi j j j j)<|nl)<|us<|gc h j aiK (fun hc9 h=>?_) fun hc9 h=>?_
    ·refine Go.skip<|us<|gs<|Go.block<|gs<|?_
     obtain ⟨x43,axx,h⟩:=bs h
     refine g0 j j (q (oMv j j)<|q (oNl j j j)<|q (oFA (r':=.im 2 _) j akE j j)<|q (oLd (cs:=[.im 2 _]) j akO j j)<|q (oMv j j)<|q (oCa (xs:=[.v false [.im 2 _],.v false [.im 0 _]]) (vs:=[(false,[.im 0 _])]) (v:=.v false [.im 0 _]) (aqQ axx) (.inl j) j atA j (ppC j (ppC j pp0)) j j pb0 j j j)<|q (oUn j j j)<|nl)<|us<|?_
     by_cases ayZ:x43=true
     ·rw [if_pos ayZ] at h
      refine gF j (nF (iR.2 ayZ))<|Go.skip<|Unw.blk<|us<|g0 j j (q (oMv j j)<|q (oBi j j j j)<|q (aiF j j)<|nl)<|Unw.nil<|?_
      cases h
      exact ⟨j,(by kernel_rfl)⟩
     ·rw [if_neg ayZ] at h
      refine gT j (nT (byF iR ayZ))<|gs<|g0 j j (q (aiF j j)<|nl)<|us<|Go.ret (Unw.ret ?_)
      cases h
      exact ⟨j,(fo aC5 j)⟩
    ·refine Go.exit<|ux<|Unw.nil<|?_
     cases h
     exact ⟨j,(by kernel_rfl)⟩
   ·rintro ⟨e,st⟩ hp
    rcases o with u | r2
    ·dsimp only at h
     obtain ⟨he,hst⟩:=hp
     obtain rfl:e= .exit 2:=he
     refine Unw.amy<|us<|gs<|g2 c54 j j hst (q (oMv j j)<|q (oBi j j j j)<|q (aiF j j)<|nl)<|us<|Go.ret (Unw.ret ?_)
     cases h
     exact fr aC5 j
    ·dsimp only at h
     obtain ⟨he,hfin⟩:=hp
     obtain rfl:e= .ret:=he
     cases h
     exact Unw.ret (al1 hfin)
  ·dsimp only at h
   obtain ⟨he,hfin⟩:=hp
   obtain rfl:e= .ret:=he
   cases h
   exact Unw.ret (al1 hfin)
theorem amM {t_0:aiE} {x_1:Int} {y_2:Int} {r:Int} (h:akW t_0 x_1 y_2=some r):FX 153 [.im 2 false [.cp (aiC t_0) 0],.im 2 false [I x_1],.im 2 false [I y_2]] (B0 [(false,[.im 0 (I r)])]):=by
 unfold akW at h
 refine gn 45 Try.func153 rfl ?_
 refine gs<|g0 j j (q (aiF j j)<|nl)<|us<|gs<|?_
 obtain ⟨x12,avs,h⟩:=bs h
 obtain ⟨x22,aC8,h⟩:=bs h
 obtain ⟨x33,avu,h⟩:=bs h
 obtain ⟨x43,axx,h⟩:=bs h
 refine gd aD0 j j j j (mk [(6,iv (w64 ((w64 (x22*t_0.aku))+x43)))] []) (t j j (oMv j j)<|t j j (oMv j j)<|t j j (oNl j j j)<|t j j (oFA (r':=.im 2 _) j aod j j)<|t j j (oLd (cs:=[.im 2 _]) j tF2 j j)<|t j j (awm j avs j j)<|t j j (oMv j j)<|t j j (oNl j j j)<|t j j (oFA (r':=.im 2 _) j aod j j)<|t j j (oLd (cs:=[.im 2 _]) j tF2 j j)<|t j j (oBi j j j j)<|t j j (oMv j j)<|t j j (oNl j j j)<|t j j (oFA (r':=.im 2 _) j aod j j)<|t j j (oLd (cs:=[.im 2 _]) j tF2 j j)<|t j j (awm j aC8 j j)<|t j j (oMv j j)<|t j j (oNl j j j)<|t j j (oFA (r':=.im 2 _) j amg j j)<|t j j (oLd (cs:=[.im 2 _]) j tF2 j j)<|t j j (oBi j j j j)<|t j j (oMv j j)<|t j j (oMv j j)<|t j j (oNl j j j)<|t j j (oFA (r':=.im 2 _) j amg j j)<|t j j (oLd (cs:=[.im 2 _]) j tF2 j j)<|t j j (awm j avu j j)<|t j j (oMv j j)<|t j j (oNl j j j)<|t j j (oFA (r':=.im 2 _) j amg j j)<|t j j (oLd (cs:=[.im 2 _]) j tF2 j j)<|t j j (oBi j j j j)<|t j j (oMv j j)<|t j j (oNl j j j)<|t j j (oFA (r':=.im 2 _) j amg j j)<|t j j (oLd (cs:=[.im 2 _]) j tF2 j j)<|t j j (awm j axx j j)<|t j j (oBi j j j j)<|sS (dN aFl j (aiF j j)) trivial (sD (by kernel_rfl)))<|us<|Go.ret (Unw.ret ?_)
 cases h
 exact fr aEb j
theorem apw {t_0:aiE} {i_1:Int} {r:(List Int)} (h:akA t_0 i_1=some r):FX 101 [.im 2 false [.cp (aiC t_0) 0],.im 2 false [I i_1]] (B0 [(false,[.ow 0 1 (List.map eI r)])]):=by
 unfold akA at h
 refine gn 40 Try.func101 rfl ?_
 refine gs<|g0 j j (q (aph j j apZ)<|nl)<|us<|gs<|?_
 obtain ⟨x12,avs,h⟩:=bs h
 refine g0 j j (q (oMv j j)<|q (oMv j j)<|q (oNl j j j)<|q (oFA (r':=.im 2 _) j amg j j)<|q (oLd (cs:=[.im 2 _]) j tF2 j j)<|q (awm j avs j j)<|q (aiF j j)<|nl)<|us<|gs<|?_
 obtain ⟨x18,aC7,h⟩:=bs h
 refine g0 j j (q (oMv j j)<|q (oMv j j)<|q (oNl j j j)<|q (oFA (r':=.im 2 _) j amg j j)<|q (oLd (cs:=[.im 2 _]) j tF2 j j)<|q (aDK j aC7 j j)<|q (aiF j j)<|nl)<|us<|gs<|?_
 obtain ⟨x23,aAj,h⟩:=bs h
 obtain ⟨x28,hx28,h⟩:=bs h
 obtain ⟨x33,avu,h⟩:=bs h
 obtain ⟨x38,hx38,h⟩:=bs h
 refine g0 j j (q (oMv j j)<|q (oMv j j)<|q (oBi j j j j)<|q (oMv j j)<|q (oCa (xs:=[.v false [.im 2 _],.v false [.im 0 _],.v false [.im 0 _]]) (vs:=[(false,[.im 0 _])]) (v:=.v false [.im 0 _]) (amM aAj) (.inl j) j aoo j (ppC j (ppC j (ppC j pp0))) j j pb0 j j j)<|q (oMv j j)<|q (oMv j j)<|q (oMv j j)<|q (oBi j j j j)<|q (oCa (xs:=[.v false [.im 2 _],.v false [.im 0 _],.v false [.im 0 _]]) (vs:=[(false,[.im 0 _])]) (v:=.v false [.im 0 _]) (amM hx28) (.inl j) j aoo j (ppC j (ppC j (ppC j pp0))) j j pb0 j j j)<|q (oMv j j)<|q (oMv j j)<|q (oBi j j j j)<|q (oMv j j)<|q (oCa (xs:=[.v false [.im 2 _],.v false [.im 0 _],.v false [.im 0 _]]) (vs:=[(false,[.im 0 _])]) (v:=.v false [.im 0 _]) (amM avu) (.inl j) j aoo j (ppC j (ppC j (ppC j pp0))) j j pb0 j j j)<|q (oMv j j)<|q (oMv j j)<|q (oMv j j)<|q (oBi j j j j)<|q (oCa (xs:=[.v false [.im 2 _],.v false [.im 0 _],.v false [.im 0 _]]) (vs:=[(false,[.im 0 _])]) (v:=.v false [.im 0 _]) (amM hx38) (.inl j) j aoo j (ppC j (ppC j (ppC j pp0))) j j pb0 j j j)<|q (oBS (es:=List.map eI ([x23,x28,x33,x38]:List Int)) j ajw j (ptC j (fxI fx0) j (ptC j (fxI fx0) j (ptC j (fxI fx0) j (ptC j (fxI fx0) j pt0)))) (akm j fun _=>j))<|q (al2 j j j j j)<|nl)<|us<|Go.ret (Unw.ret ?_)
 cases h
 exact fr aD2 j
theorem asc {t_0:aiE} {k_1:Int} {r:Bool} (h:ak7 t_0 k_1=some r):FX 98 [.im 2 false [.cp (aiC t_0) 0],.im 2 false [I k_1]] (B0 [(false,[.im 0 (V r)])]):=by
 unfold ak7 at h
 refine gn 87 Try.func98 rfl ?_
 refine gs<|g0 j j (q (aiF j j)<|nl)<|us<|gs<|g0 j j (q (aiF j j)<|nl)<|us<|gs<|g0 j j (q (aiF j j)<|nl)<|us<|gs<|gs<|g0 j j (q (aiF j j)<|nl)<|us<|Go.block<|?_
 obtain ⟨o,hl,h⟩:=bs h
 refine gl c98 j _ (fun (s:(Int×Int×Int))=>match s with | (alL,aly,ajN)=>mk [(0,D 2 (.cp (aiC t_0) 0)),(1,iv k_1),(5,iv alL),(6,iv aly),(7,iv ajN)] []) (fun (o:(Int×Int)) (p:Ex×St)=>match o with | (ams,ak8)=>p.1= .exit 0∧p.2.norm ([0,1,5,6],[])=mk [(0,D 2 (.cp (aiC t_0) 0)),(1,iv k_1),(5,iv ams),(6,iv ak8)] []) hl (by kernel_rfl) ?_ ?_ ?_
 ·intro o p hp e
  obtain ⟨ams,ak8⟩:=o
  exact nomatch (hp.1.symm.trans e)
 ·rintro ⟨alL,aly,ajN⟩ o h
  unfold akH at h
  dsimp only at h
  refine gs<|gs<|g0 j j (q (oMv j j)<|q (oMv j j)<|q (oNl j j j)<|q (oFA (r':=.im 2 _) j akE j j)<|q (oLd (cs:=[.im 2 _]) j akO j j)<|q (aob j j akP j)<|q (oBi j j j j)<|nl)<|us<|gc h j aiK (fun aDa h=>?_) fun aDa h=>?_
  ·refine Go.skip<|us<|gs<|Go.join (fun st=>∃aoy,∃aqn,alp ajN aoy aqn=some o∧st.norm ([0,1,5,6,7],[])=mk [(0,D 2 (.cp (aiC t_0) 0)),(1,iv k_1),(5,iv aoy),(6,iv aqn),(7,iv ajN)] []) ?_ ?_
   ·rintro st ⟨aoy,aqn,h,hst⟩
    unfold alp at h
    refine us<|g2 c98 j j hst (q (oMv j j)<|q (oBi j j j j)<|q (aiF j j)<|nl)<|Unw.nil<|?_
    cases h
    exact ⟨j,(by kernel_rfl)⟩
   ·intro K45
    refine Go.block<|gs<|?_
    obtain ⟨x26,axy,h⟩:=bs h
    refine g0 j j (q (oMv j j)<|q (oNl j j j)<|q (oFA (r':=.im 2 _) j akE j j)<|q (oLd (cs:=[.im 2 _]) j akO j j)<|q (oMv j j)<|q (anj j axy ajw j j)<|q (oLd (cs:=[.im 2 _]) j tF2 j j)<|q (oMv j j)<|q (oBi j j j j)<|nl)<|us<|gc h j iEq (fun aFB h=>?_) fun aFB h=>?_
    ·refine gs<|gs<|g0 j j (q (oMv j j)<|q (oBi j j j j)<|nl)<|us<|Go.join (fun st=>∃anF,alq aly ajN anF=some o∧st.norm ([0,1,5,6,7],[])=mk [(0,D 2 (.cp (aiC t_0) 0)),(1,iv k_1),(5,iv anF),(6,iv aly),(7,iv ajN)] []) ?_ ?_
     ·rintro st ⟨anF,h,hst⟩
      unfold alq at h
      exact us<|g2 c98 j j hst (q (oMv j j)<|q (oBi j j j j)<|q (aiF j j)<|nl)<|Unw.blk<|K45 _ ⟨anF,(w64 (aly+1)),h,(by kernel_rfl)⟩
     ·intro K48
      refine gc h j aiK (fun aFC h=>?_) fun aFC h=>?_
      ·exact g0 j j (q (oMv j j)<|q (aiF j j)<|nl)<|K48 _ ⟨ajN,h,(by kernel_rfl)⟩
      ·exact Go.skip<|K48 _ ⟨alL,h,(by kernel_rfl)⟩
    ·exact Go.skip<|Unw.blk<|K45 _ ⟨alL,aly,h,(by kernel_rfl)⟩
  ·refine Go.exit<|ux<|Unw.nil<|?_
   cases h
   exact ⟨j,(by kernel_rfl)⟩
 ·rintro ⟨e,st⟩ hp
  obtain ⟨ams,ak8⟩:=o
  dsimp only at h
  obtain ⟨he,hst⟩:=hp
  obtain rfl:e= .exit 0:=he
  refine Unw.amy<|us<|gs<|g2 c98 j j hst (q (oMv j j)<|q (oBS (es:=List.map eI ([ams]:List Int)) j ajw j (ptC j (fxI fx0) j pt0) (akm j fun _=>j))<|q (al2 j j j j j)<|nl)<|us<|gs<|gs<|g0 j j (q (aiF j j)<|nl)<|us<|Go.block<|?_
  obtain ⟨o,hl,h⟩:=bs h
  refine gl c98 j _ (fun (s:(Int×(List Int)))=>match s with | (anN,amb)=>mk [(0,D 2 (.cp (aiC t_0) 0)),(1,iv k_1),(6,iv ak8),(8,H 8 0),(9,iv anN)] [(8,Oc [Z (W 1 eI amb)])]) (fun (anP:(List Int)) (p:Ex×St)=>p.1= .exit 2∧p.2.norm ([6,8],[8])=mk [(6,iv ak8),(8,H 8 0)] [(8,Oc [Z (W 1 eI anP)])]) hl (by kernel_rfl) ?_ ?_ ?_
  ·intro o p hp e
   exact nomatch (hp.1.symm.trans e)
  ·rintro ⟨anN,amb⟩ o h
   unfold ajG at h
   dsimp only at h
   refine gs<|gs<|g0 j j (q (oMv j j)<|q (oMv j j)<|q (atq j j akP j j j (fun e=>nomatch e))<|q (oBi j j j j)<|nl)<|us<|gc h j aiK (fun hc25 h=>?_) fun hc25 h=>?_
   ·refine Go.skip<|us<|gs<|Go.block<|gs<|?_
    obtain ⟨x46,ay0,h⟩:=bs h
    obtain ⟨x48,aFD,h⟩:=bs h
    refine g0 j j (q (oMv j j)<|q (oMv j j)<|q (oMv j j)<|q (aqH j ay0 ajw j j j j)<|q (asv (cs:=[.im 0 _]) j tF2 j j j j (akS ay0) j j)<|q (oCr (xs:=[.v false [.im 2 _],.v false [.im 0 _]]) (vs:=[(false,[.own 48 0 0])]) (v:=.v false [.own 48 0 0]) (c:=⟨.sh,0,_⟩) (cs:=[]) (apw aFD) (.inl j) j atB j (ppC j (ppC j pp0)) j j pb0 j j j)<|q (al2 j j j j j)<|nl)<|us<|gs<|g0 j j (q (aiF j j)<|nl)<|us<|Go.block<|?_
    obtain ⟨o,hl,h⟩:=bs h
    refine gl c98 j _ (fun (s:(Int×(List Int)))=>match s with | (aln,alo)=>mk [(0,D 2 (.cp (aiC t_0) 0)),(1,iv k_1),(6,iv ak8),(8,H 8 0),(9,iv anN),(10,H 10 0),(11,iv aln)] [(8,Oc [Z (W 1 eI alo)]),(10,Oc [Z (W 1 eI x48)])]) (fun (anO:(List Int)) (p:Ex×St)=>p.1= .exit 4∧p.2.norm ([0,1,6,8,9],[8])=mk [(0,D 2 (.cp (aiC t_0) 0)),(1,iv k_1),(6,iv ak8),(8,H 8 0),(9,iv anN)] [(8,Oc [Z (W 1 eI anO)])]) hl (by kernel_rfl) ?_ ?_ ?_
    ·intro o p hp e
     exact nomatch (hp.1.symm.trans e)
    ·rintro ⟨aln,alo⟩ o h
     unfold aj0 at h
     dsimp only at h
     refine gs<|gs<|g0 j j (q (oMv j j)<|q (oMv j j)<|q (atq j j akP j j j (fun e=>nomatch e))<|q (oBi j j j j)<|nl)<|us<|gc h j aiK (fun hc34 h=>?_) fun hc34 h=>?_
     ·refine Go.skip<|us<|gs<|Go.join (fun st=>∃anV,ak6 aln anV=some o∧st.norm ([0,1,6,8,9,10,11],[8,10])=mk [(0,D 2 (.cp (aiC t_0) 0)),(1,iv k_1),(6,iv ak8),(8,H 8 0),(9,iv anN),(10,H 10 0),(11,iv aln)] [(8,Oc [Z (W 1 eI anV)]),(10,Oc [Z (W 1 eI x48)])]) ?_ ?_
      ·rintro st ⟨anV,h,hst⟩
       unfold ak6 at h
       refine us<|g2 c98 j j hst (q (oMv j j)<|q (oBi j j j j)<|q (aiF j j)<|nl)<|Unw.nil<|?_
       cases h
       exact ⟨j,(by kernel_rfl)⟩
      ·intro K38
       refine Go.block<|gs<|?_
       obtain ⟨x61,arc,h⟩:=bs h
       obtain ⟨x63,aDb,h⟩:=bs h
       obtain ⟨atx,avv,h⟩:=bs h
       refine gd c98 j j j j (mk [(0,D 2 (.cp (aiC t_0) 0)),(1,iv k_1),(6,iv ak8),(8,H 8 0),(9,iv anN),(10,H 10 0),(11,iv aln),(75,bv atx)] [(8,Oc [Z (W 1 eI alo)]),(10,Oc [Z (W 1 eI x48)])]) ?_ ?_
       ·refine t j j (oMv j j)<|t j j (oNl j j j)<|t j j (oFA (r':=.im 2 _) j akE j j)<|t j j (oLd (cs:=[.im 2 _]) j akO j j)<|t j j (oMv j j)<|t j j (oMv j j)<|t j j (aqH j arc ajw j j j j)<|t j j (asv (cs:=[.im 0 _]) j tF2 j j j j (akS arc) j j)<|t j j (anj j aDb ajw j j)<|t j j (oLd (cs:=[.im 2 _]) j tF2 j j)<|t j j (oMv j j)<|t j j (oBi j j j j)<|t j j (oMv j j)<|?_
        refine ic avv (fun hc39 avv=>?_) fun hc39 avv=>?_
        ·obtain ⟨x71,aEi,avv⟩:=bs avv
         obtain ⟨x73,aBH,avv⟩:=bs avv
         cases avv
         exact tT j j j j (iEq.2 hc39) (oMv j j)<|tT j j j j (iEq.2 hc39) (oMv j j)<|tT j j j j (iEq.2 hc39) (oMv j j)<|tT j j j j (iEq.2 hc39) (aqH j aEi ajw j j j j)<|tT j j j j (iEq.2 hc39) (asv (cs:=[.im 0 _]) j tF2 j j j j (akS aEi) j j)<|sS (dT z98 j j j (iEq.2 hc39) (oCa (xs:=[.v false [.own 8 0 0],.v false [.im 0 _]]) (vs:=[(false,[.im 0 _])]) (v:=.v false [.im 0 _]) (aqQ aBH) (.inl j) j atA j (ppC j (ppC j pp0)) j j pb0 j j j)) trivial (tT j j j j (iEq.2 hc39) (oUn j j j)<|t j j (amS j j (iEq.2 hc39) j)<|sD (by kernel_rfl))
        ·cases avv
         exact tF j j j j (byF iEq hc39) j<|tF j j j j (byF iEq hc39) j<|tF j j j j (byF iEq hc39) j<|tF j j j j (byF iEq hc39) j<|tF j j j j (byF iEq hc39) j<|sS (dF j j j (byF iEq hc39) j) trivial (tF j j j j (byF iEq hc39) j<|t j j (aok j j (byF iEq hc39) j)<|sD (by kernel_rfl))
       ·refine us<|gc h j iR (fun aFE h=>?_) fun aFE h=>?_
        ·obtain ⟨x79,aBI,h⟩:=bs h
         obtain ⟨x82,aDc,h⟩:=bs h
         exact g0 j j (q (oMv j j)<|q (oMv j j)<|q (oMv j j)<|q (aqH j aBI ajw j j j j)<|q (asv (cs:=[.im 0 _]) j tF2 j j j j (akS aBI) j j)<|q (oBS (es:=List.map eI ([x79]:List Int)) j ajw j (ptC j (fxI fx0) j pt0) (akm j fun _=>j))<|q (aqj (en:=eI) (M:=([x79]:List Int)) j aDc j ajw j j akP (.inl ⟨_,j⟩) j j j j (amz j j) (akm j fun _=>j))<|q (al2 j j j j j)<|nl)<|Unw.blk<|K38 _ ⟨x82,h,(by kernel_rfl)⟩
        ·exact Go.skip<|Unw.blk<|K38 _ ⟨alo,h,(by kernel_rfl)⟩
     ·refine Go.exit<|ux<|Unw.nil<|?_
      cases h
      exact ⟨j,(by kernel_rfl)⟩
    ·rintro ⟨e,st⟩ hp
     obtain ⟨anO,rfl⟩:∃y,y=o:=⟨o,rfl⟩
     obtain ⟨he,hst⟩:=hp
     obtain rfl:e= .exit 4:=he
     refine Unw.amy<|Unw.blk<|us<|g2 c98 j j hst (q (oMv j j)<|q (oBi j j j j)<|q (aiF j j)<|nl)<|Unw.nil<|?_
     cases h
     exact ⟨j,(by kernel_rfl)⟩
   ·refine Go.exit<|ux<|Unw.nil<|?_
    cases h
    exact ⟨j,(by kernel_rfl)⟩
  ·rintro ⟨e,st⟩ hp
   obtain ⟨anP,rfl⟩:∃y,y=o:=⟨o,rfl⟩
   obtain ⟨he,hst⟩:=hp
   obtain rfl:e= .exit 2:=he
   refine Unw.amy<|us<|gs<|g2 c98 j j hst (q (oMv j j)<|q (atq j j akP j j j (fun e=>nomatch e))<|q (oMv j j)<|q (oBi j j j j)<|q (aiF j j)<|nl)<|us<|Go.ret (Unw.ret ?_)
   cases h
   exact fr aFy j
theorem avw {t_0:aiE} {r:Bool} (h:aoz t_0=some r):FX 52 [.im 2 false [.cp (aiC t_0) 0]] (B0 [(false,[.im 0 (V r)])]):=by
 unfold aoz at h
 refine gn 49 Try.func52 rfl ?_
 refine gs<|g0 j j (q (aiF j j)<|nl)<|us<|gs<|gs<|?_
 obtain ⟨x9,hx9,h⟩:=bs h
 obtain ⟨avj,atE,h⟩:=bs h
 refine gd c52 j j j j (mk [(0,D 2 (.cp (aiC t_0) 0)),(35,bv avj)] []) ?_ ?_
 ·refine t j j (oMv j j)<|t j j (oNl j j j)<|t j j (oFA (r':=.im 2 _) j amg j j)<|?_
  refine ic atE (fun hc1 atE=>?_) fun hc1 atE=>?_
  ·obtain ⟨x16,hx16,atE⟩:=bs atE
   refine ic atE (fun hc2 atE=>?_) fun hc2 atE=>?_
   ·cases atE
    exact t j j (oLd (cs:=[.im 2 _]) j tF2 j j)<|sS (dN z52 j (oCa (xs:=[.v false [.im 2 _],.v false [.im 0 _],.v false [.im 0 _]]) (vs:=[(false,[.im 0 _])]) (v:=.v false [.im 0 _]) (alO hx9) (.inl j) j amV j (ppC j (ppC j (ppC j pp0))) j j pb0 j j j)) trivial (t j j (oUn j j j)<|t j j (oMv j j)<|tT j j j j (nF (iR.2 hc1)) (oMv j j)<|tT j j j j (nF (iR.2 hc1)) (oNl j j j)<|tT j j j j (nF (iR.2 hc1)) (oFA (r':=.im 2 _) j aod j j)<|tT j j j j (nF (iR.2 hc1)) (oLd (cs:=[.im 2 _]) j tF2 j j)<|sS (dT z52 j j j (nF (iR.2 hc1)) (oCa (xs:=[.v false [.im 2 _],.v false [.im 0 _],.v false [.im 0 _]]) (vs:=[(false,[.im 0 _])]) (v:=.v false [.im 0 _]) (alO hx16) (.inl j) j amV j (ppC j (ppC j (ppC j pp0))) j j pb0 j j j)) trivial (tT j j j j (nF (iR.2 hc1)) (oUn j j j)<|t j j (aok j j (nF (iR.2 hc1)) j)<|t j j (oMv j j)<|tT j j j j (nF (iR.2 hc2)) (oMv j j)<|tT j j j j (nF (iR.2 hc2)) (oNl j j j)<|tT j j j j (nF (iR.2 hc2)) (oFA (r':=.im 2 _) j akE j j)<|tT j j j j (nF (iR.2 hc2)) (oLd (cs:=[.im 2 _]) j akO j j)<|tT j j j j (nF (iR.2 hc2)) (aob j j akP j)<|tT j j j j (nF (iR.2 hc2)) (oMv j j)<|tT j j j j (nF (iR.2 hc2)) (oNl j j j)<|tT j j j j (nF (iR.2 hc2)) (oFA (r':=.im 2 _) j amg j j)<|tT j j j j (nF (iR.2 hc2)) (oLd (cs:=[.im 2 _]) j tF2 j j)<|tT j j j j (nF (iR.2 hc2)) (oMv j j)<|tT j j j j (nF (iR.2 hc2)) (oNl j j j)<|tT j j j j (nF (iR.2 hc2)) (oFA (r':=.im 2 _) j aod j j)<|tT j j j j (nF (iR.2 hc2)) (oLd (cs:=[.im 2 _]) j tF2 j j)<|tT j j j j (nF (iR.2 hc2)) (oBi j j j j)<|tT j j j j (nF (iR.2 hc2)) (oBi j j j j)<|t j j (aok j j (nF (iR.2 hc2)) j)<|sD (by kernel_rfl)))
   ·cases atE
    exact t j j (oLd (cs:=[.im 2 _]) j tF2 j j)<|sS (dN z52 j (oCa (xs:=[.v false [.im 2 _],.v false [.im 0 _],.v false [.im 0 _]]) (vs:=[(false,[.im 0 _])]) (v:=.v false [.im 0 _]) (alO hx9) (.inl j) j amV j (ppC j (ppC j (ppC j pp0))) j j pb0 j j j)) trivial (t j j (oUn j j j)<|t j j (oMv j j)<|tT j j j j (nF (iR.2 hc1)) (oMv j j)<|tT j j j j (nF (iR.2 hc1)) (oNl j j j)<|tT j j j j (nF (iR.2 hc1)) (oFA (r':=.im 2 _) j aod j j)<|tT j j j j (nF (iR.2 hc1)) (oLd (cs:=[.im 2 _]) j tF2 j j)<|sS (dT z52 j j j (nF (iR.2 hc1)) (oCa (xs:=[.v false [.im 2 _],.v false [.im 0 _],.v false [.im 0 _]]) (vs:=[(false,[.im 0 _])]) (v:=.v false [.im 0 _]) (alO hx16) (.inl j) j amV j (ppC j (ppC j (ppC j pp0))) j j pb0 j j j)) trivial (tT j j j j (nF (iR.2 hc1)) (oUn j j j)<|t j j (aok j j (nF (iR.2 hc1)) j)<|t j j (oMv j j)<|tF j j j j (nT (byF iR hc2)) j<|tF j j j j (nT (byF iR hc2)) j<|tF j j j j (nT (byF iR hc2)) j<|tF j j j j (nT (byF iR hc2)) j<|tF j j j j (nT (byF iR hc2)) j<|tF j j j j (nT (byF iR hc2)) j<|tF j j j j (nT (byF iR hc2)) j<|tF j j j j (nT (byF iR hc2)) j<|tF j j j j (nT (byF iR hc2)) j<|tF j j j j (nT (byF iR hc2)) j<|tF j j j j (nT (byF iR hc2)) j<|tF j j j j (nT (byF iR hc2)) j<|tF j j j j (nT (byF iR hc2)) j<|tF j j j j (nT (byF iR hc2)) j<|tF j j j j (nT (byF iR hc2)) j<|t j j (amS j j (nT (byF iR hc2)) j)<|sD (by kernel_rfl)))
  ·cases atE
   exact t j j (oLd (cs:=[.im 2 _]) j tF2 j j)<|sS (dN z52 j (oCa (xs:=[.v false [.im 2 _],.v false [.im 0 _],.v false [.im 0 _]]) (vs:=[(false,[.im 0 _])]) (v:=.v false [.im 0 _]) (alO hx9) (.inl j) j amV j (ppC j (ppC j (ppC j pp0))) j j pb0 j j j)) trivial (t j j (oUn j j j)<|t j j (oMv j j)<|tF j j j j (nT (byF iR hc1)) j<|tF j j j j (nT (byF iR hc1)) j<|tF j j j j (nT (byF iR hc1)) j<|tF j j j j (nT (byF iR hc1)) j<|sS (dF j j j (nT (byF iR hc1)) j) trivial (tF j j j j (nT (byF iR hc1)) j<|t j j (amS j j (nT (byF iR hc1)) j)<|t j j (oMv j j)<|tF j j j j j j<|tF j j j j j j<|tF j j j j j j<|tF j j j j j j<|tF j j j j j j<|tF j j j j j j<|tF j j j j j j<|tF j j j j j j<|tF j j j j j j<|tF j j j j j j<|tF j j j j j j<|tF j j j j j j<|tF j j j j j j<|tF j j j j j j<|tF j j j j j j<|t j j (amS j j j j)<|sD (by kernel_rfl)))
 ·refine us<|gc h j iR (fun hc3 h=>?_) fun hc3 h=>?_
  ·refine gs<|g0 j j (q (aiF j j)<|nl)<|us<|Go.ret (Unw.ret ?_)
   cases h
   exact fr aC4 j
  ·refine Go.skip<|us<|gs<|?_
   obtain ⟨x37,aAk,h⟩:=bs h
   refine g0 j j (q (oMv j j)<|q (oCa (xs:=[.v false [.im 2 _]]) (vs:=[(false,[.im 0 _])]) (v:=.v false [.im 0 _]) (aqs aAk) (.inl j) j ayd j (ppC j pp0) j j pb0 j j j)<|q (aiF j j)<|nl)<|us<|gs<|gs<|g0 j j (q (aiF j j)<|nl)<|us<|Go.block<|?_
   obtain ⟨o,hl,h⟩:=bs h
   refine gl c52 j _ (fun (ar9:Int)=>mk [(0,D 2 (.cp (aiC t_0) 0)),(3,iv x37),(4,iv ar9)] []) (fun (o:(Unit ⊕ Bool)) (p:Ex×St)=>match o with | (.inl _)=>p.1= .exit 0∧p.2.norm ([3],[])=mk [(3,iv x37)] [] | (.inr r2)=>p.1= .ret∧fin Try.prog cfg 52 Try.f52 [.im 2 false [.cp (aiC t_0) 0]] p.2=some (B0 [(false,[.im 0 (V r2)])])) hl (by kernel_rfl) ?_ ?_ ?_
   ·intro o p hp e
    rcases o with u | r2<;>exact nomatch (hp.1.symm.trans e)
   ·rintro ar9 o h
    unfold akv at h
    refine gs<|gs<|g0 j j (q (oMv j j)<|q (oMv j j)<|q (oBi j j j j)<|nl)<|us<|gc h j aiK (fun hc8 h=>?_) fun hc8 h=>?_
    ·refine Go.skip<|us<|gs<|Go.block<|gs<|?_
     obtain ⟨x45,aFF,h⟩:=bs h
     refine g0 j j (q (oMv j j)<|q (oMv j j)<|q (oCa (xs:=[.v false [.im 2 _],.v false [.im 0 _]]) (vs:=[(false,[.im 0 _])]) (v:=.v false [.im 0 _]) (asc aFF) (.inl j) j ayY j (ppC j (ppC j pp0)) j j pb0 j j j)<|q (oUn j j j)<|nl)<|us<|?_
     by_cases hc9:x45=true
     ·rw [if_pos hc9] at h
      refine gF j (nF (iR.2 hc9))<|Go.skip<|Unw.blk<|us<|g0 j j (q (oMv j j)<|q (oBi j j j j)<|q (aiF j j)<|nl)<|Unw.nil<|?_
      cases h
      exact ⟨j,(by kernel_rfl)⟩
     ·rw [if_neg hc9] at h
      refine gT j (nT (byF iR hc9))<|gs<|g0 j j (q (aiF j j)<|nl)<|us<|Go.ret (Unw.ret ?_)
      cases h
      exact ⟨j,(fo aC4 j)⟩
    ·refine Go.exit<|ux<|Unw.nil<|?_
     cases h
     exact ⟨j,(by kernel_rfl)⟩
   ·rintro ⟨e,st⟩ hp
    rcases o with u | r2
    ·dsimp only at h
     obtain ⟨he,hst⟩:=hp
     obtain rfl:e= .exit 0:=he
     refine Unw.amy<|us<|gs<|g2 c52 j j hst (q (oMv j j)<|q (oBi j j j j)<|q (aiF j j)<|nl)<|us<|Go.ret (Unw.ret ?_)
     cases h
     exact fr aC4 j
    ·dsimp only at h
     obtain ⟨he,hfin⟩:=hp
     obtain rfl:e= .ret:=he
     cases h
     exact Unw.ret (al1 hfin)
theorem atY {ajR:(List Int)} {n_1:Int} {r:(List Int)} (h:anW ajR n_1=some r):FX 102 [.im 2 false [W 1 eI ajR],.im 2 false [I n_1]] (B0 [(false,[.ow 0 1 (List.map eI r)])]):=by
 unfold anW at h
 refine gn 49 Try.func102 rfl ?_
 refine gs<|g0 j j (q (aph j j apZ)<|nl)<|us<|gs<|g0 j j (q (oBS (es:=List.map eI ([]:List Int)) j ajw j pt0 (akm j fun _=>j))<|q (al2 j j j j j)<|nl)<|us<|gs<|g0 j j (q (aiF j j)<|nl)<|us<|gs<|gs<|g0 j j (q (aiF j j)<|nl)<|us<|Go.block<|?_
 obtain ⟨o,hl,h⟩:=bs h
 refine gl ayS j _ (fun (s:(Bool×Int×(List Int)))=>match s with | (am6,ajN,alX)=>mk [(0,D 2 (W 1 eI ajR)),(1,iv n_1),(5,H 5 0),(6,bv am6),(7,iv ajN)] [(5,Oc [Z (W 1 eI alX)])]) (fun (o:(Bool×(List Int))) (p:Ex×St)=>match o with | (am7,amc)=>p.1= .exit 0∧p.2.norm ([1,5,6],[5])=mk [(1,iv n_1),(5,H 5 0),(6,bv am7)] [(5,Oc [Z (W 1 eI amc)])]) hl (by kernel_rfl) ?_ ?_ ?_
 ·intro o p hp e
  obtain ⟨am7,amc⟩:=o
  exact nomatch (hp.1.symm.trans e)
 ·rintro ⟨am6,ajN,alX⟩ o h
  unfold ajp at h
  dsimp only at h
  refine gs<|gs<|g0 j j (q (oMv j j)<|q (oMv j j)<|q (aob j j akP j)<|q (oBi j j j j)<|nl)<|us<|gc h j aiK (fun hc12 h=>?_) fun hc12 h=>?_
  ·refine Go.skip<|us<|gs<|Go.block<|gs<|gs<|?_
   obtain ⟨avk,axz,h⟩:=bs h
   refine gX ayS j j j (mk [(0,D 2 (W 1 eI ajR)),(1,iv n_1),(5,H 5 0),(6,bv am6),(7,iv ajN),(24,bv avk)] [(5,Oc [Z (W 1 eI alX)])]) ?_ ?_
   ·refine xq (oMv j j)<|xq (oUn j j j)<|xq (oMv j j)<|?_
    refine ic axz (fun hc13 axz=>?_) fun hc13 axz=>?_
    ·cases axz
     exact ajo j j (nF (iR.2 hc13)) j<|ajo j j (nF (iR.2 hc13)) j<|ajo j j (nF (iR.2 hc13)) j<|ajo j j (nF (iR.2 hc13)) j<|ajo j j (nF (iR.2 hc13)) j<|ajo j j (nF (iR.2 hc13)) j<|xq (aok j j (nF (iR.2 hc13)) j)<|xn
    ·obtain ⟨x20,awF,axz⟩:=bs axz
     cases axz
     exact xqT j j (nT (byF iR hc13)) (oMv j j)<|xqT j j (nT (byF iR hc13)) (oMv j j)<|xqT j j (nT (byF iR hc13)) (anj j awF ajw j j)<|xqT j j (nT (byF iR hc13)) (oLd (cs:=[.im 2 _]) j tF2 j j)<|xqT j j (nT (byF iR hc13)) (oMv j j)<|xqT j j (nT (byF iR hc13)) (oBi j j j j)<|xq (amS j j (nT (byF iR hc13)) j)<|xn
   ·refine us<|Go.join (fun st=>∃aoB,∃aoC,ajX ajN ajR aoB aoC=some o∧st.norm ([0,1,5,6,7],[5])=mk [(0,D 2 (W 1 eI ajR)),(1,iv n_1),(5,H 5 0),(6,bv aoB),(7,iv ajN)] [(5,Oc [Z (W 1 eI aoC)])]) ?_ ?_
    ·rintro st ⟨aoB,aoC,h,hst⟩
     unfold ajX at h
     refine us<|?_
     obtain ⟨x38,hx38,h⟩:=bs h
     obtain ⟨x41,aFG,h⟩:=bs h
     refine g2 ayS j j hst (q (oMv j j)<|q (oMv j j)<|q (oMv j j)<|q (anj j hx38 ajw j j)<|q (oLd (cs:=[.im 2 _]) j tF2 j j)<|q (oBS (es:=List.map eI ([x38]:List Int)) j ajw j (ptC j (fxI fx0) j pt0) (akm j fun _=>j))<|q (aqj (en:=eI) (M:=([x38]:List Int)) j aFG j ajw j j akP (.inl ⟨_,j⟩) j j j j (amz j j) (akm j fun _=>j))<|q (al2 j j j j j)<|nl)<|Unw.blk<|us<|g0 j j (q (oMv j j)<|q (oBi j j j j)<|q (aiF j j)<|nl)<|Unw.nil<|?_
     cases h
     exact ⟨j,(by kernel_rfl)⟩
    ·intro K16
     refine gc h j iR (fun hc17 h=>?_) fun hc17 h=>?_
     ·refine gs<|g0 j j (q (aiF j j)<|nl)<|us<|gs<|?_
      obtain ⟨x27,hx27,h⟩:=bs h
      refine g0 j j (q (oMv j j)<|q (oMv j j)<|q (anj j hx27 ajw j j)<|q (oLd (cs:=[.im 2 _]) j tF2 j j)<|q (oMv j j)<|q (oBi j j j j)<|nl)<|us<|gc h j aiK (fun hc18 h=>?_) fun hc18 h=>?_
      ·obtain ⟨x34,hx34,h⟩:=bs h
       exact g0 j j (q (oMv j j)<|q (oMv j j)<|q (oBS (es:=List.map eI ([n_1]:List Int)) j ajw j (ptC j (fxI fx0) j pt0) (akm j fun _=>j))<|q (aqj (en:=eI) (M:=([n_1]:List Int)) j hx34 j ajw j j akP (.inl ⟨_,j⟩) j j j j (amz j j) (akm j fun _=>j))<|q (al2 j j j j j)<|nl)<|K16 _ ⟨true,x34,h,(by kernel_rfl)⟩
      ·exact Go.skip<|K16 _ ⟨true,alX,h,(by kernel_rfl)⟩
     ·exact Go.skip<|K16 _ ⟨am6,alX,h,(by kernel_rfl)⟩
  ·refine Go.exit<|ux<|Unw.nil<|?_
   cases h
   exact ⟨j,(by kernel_rfl)⟩
 ·rintro ⟨e,st⟩ hp
  obtain ⟨am7,amc⟩:=o
  dsimp only at h
  obtain ⟨he,hst⟩:=hp
  obtain rfl:e= .exit 0:=he
  refine Unw.amy<|us<|gs<|gs<|g2 ayS j j hst (q (oMv j j)<|q (oUn j j j)<|nl)<|us<|Go.join (fun st=>∃aoA,alR aoA=some r∧st.norm ([5],[5])=mk [(5,H 5 0)] [(5,Oc [Z (W 1 eI aoA)])]) ?_ ?_
  ·rintro st ⟨aoA,h,hst⟩
   unfold alR at h
   refine us<|gs<|g2 ayS j j hst (q (oMv j j)<|q (al2 j j j j j)<|nl)<|us<|Go.ret (Unw.ret ?_)
   cases h
   exact fr aD3 j
  ·intro K10
   by_cases aoL:am7=true
   ·rw [if_pos aoL] at h
    exact gF j (nF (iR.2 aoL))<|Go.skip<|K10 _ ⟨amc,h,(by kernel_rfl)⟩
   ·rw [if_neg aoL] at h
    refine gT j (nT (byF iR aoL))<|?_
    obtain ⟨x47,aFH,h⟩:=bs h
    exact g0 j j (q (oMv j j)<|q (oMv j j)<|q (oBS (es:=List.map eI ([n_1]:List Int)) j ajw j (ptC j (fxI fx0) j pt0) (akm j fun _=>j))<|q (aqj (en:=eI) (M:=([n_1]:List Int)) j aFH j ajw j j akP (.inl ⟨_,j⟩) j j j j (amz j j) (akm j fun _=>j))<|q (al2 j j j j j)<|nl)<|K10 _ ⟨x47,h,(by kernel_rfl)⟩
theorem atF {t_0:aiE} {k_1:Int} {r:(List Int)} (h:alM t_0 k_1=some r):FX 55 [.im 2 false [.cp (aiC t_0) 0],.im 2 false [I k_1]] (B0 [(false,[.ow 0 1 (List.map eI r)])]):=by
 unfold alM at h
 refine gn 64 Try.func55 rfl ?_
 refine gs<|g0 j j (q (aph j j apZ)<|nl)<|us<|gs<|g0 j j (q (oBS (es:=List.map eI ([]:List Int)) j ajw j pt0 (akm j fun _=>j))<|q (al2 j j j j j)<|nl)<|us<|gs<|gs<|g0 j j (q (aiF j j)<|nl)<|us<|Go.block<|?_
 obtain ⟨o,hl,h⟩:=bs h
 refine gl c55 j _ (fun (s:(Int×(List Int)))=>match s with | (anl,apn)=>mk [(0,D 2 (.cp (aiC t_0) 0)),(1,iv k_1),(5,H 5 0),(6,iv anl)] [(5,Oc [Z (W 1 eI apn)])]) (fun (aoT:(List Int)) (p:Ex×St)=>p.1= .exit 0∧p.2.norm ([5],[5])=mk [(5,H 5 0)] [(5,Oc [Z (W 1 eI aoT)])]) hl (by kernel_rfl) ?_ ?_ ?_
 ·intro o p hp e
  exact nomatch (hp.1.symm.trans e)
 ·rintro ⟨anl,apn⟩ o h
  unfold akM at h
  dsimp only at h
  refine gs<|gs<|g0 j j (q (oMv j j)<|q (oMv j j)<|q (oNl j j j)<|q (oFA (r':=.im 2 _) j akE j j)<|q (oLd (cs:=[.im 2 _]) j akO j j)<|q (aob j j akP j)<|q (oBi j j j j)<|nl)<|us<|gc h j aiK (fun hc19 h=>?_) fun hc19 h=>?_
  ·refine Go.skip<|us<|gs<|Go.block<|gs<|?_
   obtain ⟨x21,atG,h⟩:=bs h
   refine g0 j j (q (oMv j j)<|q (oMv j j)<|q (oCr (xs:=[.v false [.im 2 _],.v false [.im 0 _]]) (vs:=[(false,[.own 21 0 0])]) (v:=.v false [.own 21 0 0]) (c:=⟨.sh,0,_⟩) (cs:=[]) (apw atG) (.inl j) j atB j (ppC j (ppC j pp0)) j j pb0 j j j)<|q (al2 j j j j j)<|nl)<|us<|gs<|g0 j j (q (aiF j j)<|nl)<|us<|Go.block<|?_
   obtain ⟨o,hl,h⟩:=bs h
   refine gl c55 j _ (fun (s:(Int×(List Int)))=>match s with | (ank,am8)=>mk [(0,D 2 (.cp (aiC t_0) 0)),(1,iv k_1),(5,H 5 0),(6,iv anl),(7,H 7 0),(8,iv ank)] [(5,Oc [Z (W 1 eI am8)]),(7,Oc [Z (W 1 eI x21)])]) (fun (aoS:(List Int)) (p:Ex×St)=>p.1= .exit 2∧p.2.norm ([0,1,5,6],[5])=mk [(0,D 2 (.cp (aiC t_0) 0)),(1,iv k_1),(5,H 5 0),(6,iv anl)] [(5,Oc [Z (W 1 eI aoS)])]) hl (by kernel_rfl) ?_ ?_ ?_
   ·intro o p hp e
    exact nomatch (hp.1.symm.trans e)
   ·rintro ⟨ank,am8⟩ o h
    unfold akL at h
    dsimp only at h
    refine gs<|gs<|g0 j j (q (oMv j j)<|q (oMv j j)<|q (atq j j akP j j j (fun e=>nomatch e))<|q (oBi j j j j)<|nl)<|us<|gc h j aiK (fun hc28 h=>?_) fun hc28 h=>?_
    ·refine Go.skip<|us<|gs<|Go.join (fun st=>∃apm,alS ank apm=some o∧st.norm ([0,1,5,6,7,8],[5,7])=mk [(0,D 2 (.cp (aiC t_0) 0)),(1,iv k_1),(5,H 5 0),(6,iv anl),(7,H 7 0),(8,iv ank)] [(5,Oc [Z (W 1 eI apm)]),(7,Oc [Z (W 1 eI x21)])]) ?_ ?_
     ·rintro st ⟨apm,h,hst⟩
      unfold alS at h
      refine us<|g2 c55 j j hst (q (oMv j j)<|q (oBi j j j j)<|q (aiF j j)<|nl)<|Unw.nil<|?_
      cases h
      exact ⟨j,(by kernel_rfl)⟩
     ·intro K32
      refine Go.block<|gs<|?_
      obtain ⟨x33,avu,h⟩:=bs h
      obtain ⟨avl,avx,h⟩:=bs h
      refine gd c55 j j j j (mk [(0,D 2 (.cp (aiC t_0) 0)),(1,iv k_1),(5,H 5 0),(6,iv anl),(7,H 7 0),(8,iv ank),(50,bv avl)] [(5,Oc [Z (W 1 eI am8)]),(7,Oc [Z (W 1 eI x21)])]) ?_ ?_
      ·refine t j j (oMv j j)<|t j j (oNl j j j)<|t j j (oFA (r':=.im 2 _) j akE j j)<|t j j (oLd (cs:=[.im 2 _]) j akO j j)<|t j j (oMv j j)<|t j j (anj j avu ajw j j)<|t j j (oLd (cs:=[.im 2 _]) j tF2 j j)<|t j j (oMv j j)<|t j j (oBi j j j j)<|t j j (oMv j j)<|?_
       refine ic avx (fun anK avx=>?_) fun anK avx=>?_
       ·obtain ⟨x44,aAl,avx⟩:=bs avx
        obtain ⟨x46,ay0,avx⟩:=bs avx
        cases avx
        exact tT j j j j (iEq.2 anK) (oMv j j)<|tT j j j j (iEq.2 anK) (oNl j j j)<|tT j j j j (iEq.2 anK) (oFA (r':=.im 2 _) j akE j j)<|tT j j j j (iEq.2 anK) (oLd (cs:=[.im 2 _]) j akO j j)<|tT j j j j (iEq.2 anK) (oMv j j)<|tT j j j j (iEq.2 anK) (oMv j j)<|tT j j j j (iEq.2 anK) (aqH j aAl ajw j j j j)<|tT j j j j (iEq.2 anK) (asv (cs:=[.im 0 _]) j tF2 j j j j (akS aAl) j j)<|tT j j j j (iEq.2 anK) (anj j ay0 ajw j j)<|tT j j j j (iEq.2 anK) (oLd (cs:=[.im 2 _]) j tF2 j j)<|tT j j j j (iEq.2 anK) (oMv j j)<|tT j j j j (iEq.2 anK) (oBi j j j j)<|t j j (amS j j (iEq.2 anK) j)<|sD (by kernel_rfl)
       ·cases avx
        exact tF j j j j (byF iEq anK) j<|tF j j j j (byF iEq anK) j<|tF j j j j (byF iEq anK) j<|tF j j j j (byF iEq anK) j<|tF j j j j (byF iEq anK) j<|tF j j j j (byF iEq anK) j<|tF j j j j (byF iEq anK) j<|tF j j j j (byF iEq anK) j<|tF j j j j (byF iEq anK) j<|tF j j j j (byF iEq anK) j<|tF j j j j (byF iEq anK) j<|tF j j j j (byF iEq anK) j<|t j j (aok j j (byF iEq anK) j)<|sD (by kernel_rfl)
      ·refine us<|gc h j iR (fun hc34 h=>?_) fun hc34 h=>?_
       ·obtain ⟨x58,atZ,h⟩:=bs h
        obtain ⟨x60,ay1,h⟩:=bs h
        obtain ⟨x62,aDd,h⟩:=bs h
        exact gd c55 j j j j (mk [(0,D 2 (.cp (aiC t_0) 0)),(1,iv k_1),(5,H 5 0),(6,iv anl),(7,H 7 0),(8,iv ank)] [(5,Oc [Z (W 1 eI x62)]),(7,Oc [Z (W 1 eI x21)])]) (t j j (oMv j j)<|t j j (oMv j j)<|t j j (oNl j j j)<|t j j (oFA (r':=.im 2 _) j akE j j)<|t j j (oLd (cs:=[.im 2 _]) j akO j j)<|t j j (oMv j j)<|t j j (oMv j j)<|t j j (aqH j atZ ajw j j j j)<|t j j (asv (cs:=[.im 0 _]) j tF2 j j j j (akS atZ) j j)<|t j j (anj j ay1 ajw j j)<|t j j (oLd (cs:=[.im 2 _]) j tF2 j j)<|sS (dN z55 j (oCr (xs:=[.v false [.own 5 0 0],.v false [.im 2 _]]) (vs:=[(false,[.own 62 0 0])]) (v:=.v false [.own 62 0 0]) (c:=⟨.sh,0,_⟩) (cs:=[]) (atY aDd) (.inl j) j axu j (ppC j (ppC j pp0)) j j pb0 j j j)) trivial (sS (dN z55 j (al2 j j j j j)) trivial (sD (by kernel_rfl))))<|Unw.blk<|K32 _ ⟨x62,h,(by kernel_rfl)⟩
       ·exact Go.skip<|Unw.blk<|K32 _ ⟨am8,h,(by kernel_rfl)⟩
    ·refine Go.exit<|ux<|Unw.nil<|?_
     cases h
     exact ⟨j,(by kernel_rfl)⟩
   ·rintro ⟨e,st⟩ hp
    obtain ⟨aoS,rfl⟩:∃y,y=o:=⟨o,rfl⟩
    obtain ⟨he,hst⟩:=hp
    obtain rfl:e= .exit 2:=he
    refine Unw.amy<|Unw.blk<|us<|g2 c55 j j hst (q (oMv j j)<|q (oBi j j j j)<|q (aiF j j)<|nl)<|Unw.nil<|?_
    cases h
    exact ⟨j,(by kernel_rfl)⟩
  ·refine Go.exit<|ux<|Unw.nil<|?_
   cases h
   exact ⟨j,(by kernel_rfl)⟩
 ·rintro ⟨e,st⟩ hp
  obtain ⟨aoT,rfl⟩:∃y,y=o:=⟨o,rfl⟩
  obtain ⟨he,hst⟩:=hp
  obtain rfl:e= .exit 0:=he
  refine Unw.amy<|us<|gs<|g2 c55 j j hst (q (oMv j j)<|q (al2 j j j j j)<|nl)<|us<|Go.ret (Unw.ret ?_)
  cases h
  exact fr aFt j
theorem at1 {a_0:Int} {b_1:Int} {r:Int} (h:anX a_0 b_1=some r):FX 103 [.im 2 false [I a_0],.im 2 false [I b_1]] (B0 [(false,[.im 0 (I r)])]):=by
 unfold anX at h
 refine gn 10 Try.func103 rfl ?_
 refine gs<|g0 j j (q (aiF j j)<|nl)<|us<|gs<|gs<|g0 j j (q (oMv j j)<|q (oMv j j)<|q (oBi j j j j)<|nl)<|us<|gc h j aiK (fun hc1 h=>?_) fun hc1 h=>?_
 ·refine gs<|g0 j j (q (oMv j j)<|q (aiF j j)<|nl)<|us<|Go.ret (Unw.ret ?_)
  cases h
  exact fr aCf j
 ·refine Go.skip<|us<|gs<|g0 j j (q (oMv j j)<|q (aiF j j)<|nl)<|us<|Go.ret (Unw.ret ?_)
  cases h
  exact fr aCf j
theorem ao1 {self:(aiL×Int)→Option (Bool×aiL)} (ih:∀{x_0:aiL} {ajS:Int} {r:(Bool×aiL)},self (x_0,ajS)=some r→FX 56 [.ptr true [(.sh,W 1 (eL 1 eI) x_0.near),(.sh,W 1 eI x_0.aiV),(.imm,I x_0.most),(.imm,I x_0.nodes),(.imm,I x_0.budget)],.im 2 false [I ajS]] ([(false,[.im 0 (V r.1)])],[.ptr true [(.sh,W 1 (eL 1 eI) r.2.near),(.sh,W 1 eI r.2.aiV),(.imm,I r.2.most),(.imm,I r.2.nodes),(.imm,I r.2.budget)]])) {x_0:aiL} {ajS:Int} {r:(Bool×aiL)} (h:ajg self x_0 ajS=some r):FX 56 [.ptr true [(.sh,W 1 (eL 1 eI) x_0.near),(.sh,W 1 eI x_0.aiV),(.imm,I x_0.most),(.imm,I x_0.nodes),(.imm,I x_0.budget)],.im 2 false [I ajS]] ([(false,[.im 0 (V r.1)])],[.ptr true [(.sh,W 1 (eL 1 eI) r.2.near),(.sh,W 1 eI r.2.aiV),(.imm,I r.2.most),(.imm,I r.2.nodes),(.imm,I r.2.budget)]]):=by
 unfold ajg at h
 refine ar6 (A:=[(0,M 0),(1,D 2 (I ajS))]) (B:=[(0,Od [Z (W 1 (eL 1 eI) x_0.near),Z (W 1 eI x_0.aiV),C (I x_0.most),C (I x_0.nodes),C (I x_0.budget)]),(1,none)]) (nt:=128) rfl rfl Try.func56 rfl rfl rfl rfl ?_
 refine gs<|g0 j j (q (aiF j j)<|nl)<|us<|gs<|g0 j j (q (oMv j j)<|q (oNl j j j)<|q (oFA (r':=.mp 0 0 3) j avr j j)<|q (oLd (cs:=[.im 0 _]) j tF2 j j)<|q (oBi j j j j)<|q (oNl j j j)<|q (oFA (r':=.mp 0 0 3) j avr j j)<|q (oSt tF2 j j j (tkI tk0) j j j)<|nl)<|us<|gs<|gs<|gd c56 j j j (st1:=mk [(0,M 0),(1,iv ajS)] [(0,Od [Z (W 1 (eL 1 eI) x_0.near),Z (W 1 eI x_0.aiV),C (I x_0.most),C (I (w64 (x_0.nodes+1))),C (I x_0.budget)])]) (by kernel_rfl) (mk [(0,M 0),(1,iv ajS),(37,bv ((decide ((w64 (x_0.nodes+1)) >x_0.budget))||((x_0.aiV.length:Int)==(x_0.near.length:Int))))] [(0,Od [Z (W 1 (eL 1 eI) x_0.near),Z (W 1 eI x_0.aiV),C (I x_0.most),C (I (w64 (x_0.nodes+1))),C (I x_0.budget)])]) ?_ ?_
 ·refine t j j (oMv j j)<|t j j (oNl j j j)<|t j j (oFA (r':=.mp 0 0 3) j avr j j)<|t j j (oLd (cs:=[.im 0 _]) j tF2 j j)<|t j j (oMv j j)<|t j j (oNl j j j)<|t j j (oFA (r':=.mp 0 0 4) j aC2 j j)<|t j j (oLd (cs:=[.im 0 _]) j tF2 j j)<|t j j (oBi j j j j)<|t j j (oMv j j)<|?_
  by_cases hc1:(w64 (x_0.nodes+1)) >x_0.budget
  ·exact tF rfl rfl rfl rfl (aiK.2 hc1) rfl<|tF rfl rfl rfl rfl (aiK.2 hc1) rfl<|tF rfl rfl rfl rfl (aiK.2 hc1) rfl<|tF rfl rfl rfl rfl (aiK.2 hc1) rfl<|tF rfl rfl rfl rfl (aiK.2 hc1) rfl<|tF rfl rfl rfl rfl (aiK.2 hc1) rfl<|tF rfl rfl rfl rfl (aiK.2 hc1) rfl<|tF rfl rfl rfl rfl (aiK.2 hc1) rfl<|tF rfl rfl rfl rfl (aiK.2 hc1) rfl<|tF rfl rfl rfl rfl (aiK.2 hc1) rfl<|tF rfl rfl rfl rfl (aiK.2 hc1) rfl<|t rfl rfl (amS rfl rfl (aiK.2 hc1) rfl)<|sD (Eq.trans (b:=(fun apM:Bool=>mk [(0,M 0),(1,iv ajS),(37,bv apM)] [(0,Od [Z (W 1 (eL 1 eI) x_0.near),Z (W 1 eI x_0.aiV),C (I x_0.most),C (I (w64 (x_0.nodes+1))),C (I x_0.budget)])]) true) (by kernel_rfl) (congrArg (fun apM:Bool=>mk [(0,M 0),(1,iv ajS),(37,bv apM)] [(0,Od [Z (W 1 (eL 1 eI) x_0.near),Z (W 1 eI x_0.aiV),C (I x_0.most),C (I (w64 (x_0.nodes+1))),C (I x_0.budget)])]) (by first | rfl | (simp [(aiK.2 hc1)];done) | (simp [(aiK.2 hc1)];omega))))
  ·exact tT rfl rfl rfl rfl (byF aiK hc1) (oMv rfl rfl)<|tT rfl rfl rfl rfl (byF aiK hc1) (oNl rfl rfl rfl)<|tT rfl rfl rfl rfl (byF aiK hc1) (oFA (r':=.mp 0 0 1) rfl apK rfl rfl)<|tT rfl rfl rfl rfl (byF aiK hc1) (oLd (cs:=[.own 0 0 1]) rfl akO rfl rfl)<|tT rfl rfl rfl rfl (byF aiK hc1) (atq rfl rfl akP rfl rfl rfl (fun e=>nomatch e))<|tT rfl rfl rfl rfl (byF aiK hc1) (oMv rfl rfl)<|tT rfl rfl rfl rfl (byF aiK hc1) (oNl rfl rfl rfl)<|tT rfl rfl rfl rfl (byF aiK hc1) (oFA (r':=.mp 0 0 0) rfl asa rfl rfl)<|tT rfl rfl rfl rfl (byF aiK hc1) (oLd (cs:=[.own 0 0 0]) rfl awE rfl rfl)<|tT rfl rfl rfl rfl (byF aiK hc1) (atq rfl rfl aBG rfl rfl rfl (fun e=>nomatch e))<|tT rfl rfl rfl rfl (byF aiK hc1) (oBi rfl rfl rfl rfl)<|t rfl rfl (aok rfl rfl (byF aiK hc1) rfl)<|sD (Eq.trans (b:=(fun apM:Bool=>mk [(0,M 0),(1,iv ajS),(37,bv apM)] [(0,Od [Z (W 1 (eL 1 eI) x_0.near),Z (W 1 eI x_0.aiV),C (I x_0.most),C (I (w64 (x_0.nodes+1))),C (I x_0.budget)])]) ((x_0.aiV.length:Int)==(x_0.near.length:Int))) (by kernel_rfl) (congrArg (fun apM:Bool=>mk [(0,M 0),(1,iv ajS),(37,bv apM)] [(0,Od [Z (W 1 (eL 1 eI) x_0.near),Z (W 1 eI x_0.aiV),C (I x_0.most),C (I (w64 (x_0.nodes+1))),C (I x_0.budget)])]) (by first | rfl | (simp [(byF aiK hc1)];done) | (simp [(byF aiK hc1)];omega))))
 ·refine us<|gc h j (iOr aiK iEq) (fun hc2 h=>?_) fun hc2 h=>?_
  ·refine gs<|g0 j j (q (aiF j j)<|nl)<|us<|Go.ret (Unw.ret ?_)
   cases h
   exact fr aC6 j
  ·refine Go.skip<|us<|gs<|g0 j j (q (oMv j j)<|q (oNl j j j)<|q (oFA (r':=.mp 0 0 1) j apK j j)<|q (oLd (cs:=[.own 0 0 1]) j akO j j)<|q (atq j j akP j j j (fun e=>nomatch e))<|q (aiF j j)<|nl)<|us<|gs<|gs<|g0 j j (q (aiF j j)<|nl)<|us<|Go.block<|?_
   obtain ⟨o,hl,h⟩:=bs h
   refine gl c56 j _ (fun (s:(Int×(List (List Int))×(List Int)×Int×Int×Int))=>match s with | (alf,aj2,akY,akZ,alh,ali)=>mk [(0,M 0),(1,iv ajS),(5,iv (x_0.aiV.length:Int)),(6,iv alf)] [(0,Od [Z (W 1 (eL 1 eI) aj2),Z (W 1 eI akY),C (I akZ),C (I alh),C (I ali)])]) (fun (o:(((List (List Int))×(List Int)×Int×Int×Int) ⊕ (Bool×aiL))) (p:Ex×St)=>match o with | (.inl (anY,anZ,an0,an1,an2))=>p.1= .exit 0∧p.2.norm ([],[0])=mk [] [(0,Od [Z (W 1 (eL 1 eI) anY),Z (W 1 eI anZ),C (I an0),C (I an1),C (I an2)])] | (.inr r2)=>p.1= .ret∧fin Try.prog cfg 56 Try.f56 [.ptr true [(.sh,W 1 (eL 1 eI) x_0.near),(.sh,W 1 eI x_0.aiV),(.imm,I x_0.most),(.imm,I x_0.nodes),(.imm,I x_0.budget)],.im 2 false [I ajS]] p.2=some ([(false,[.im 0 (V r2.1)])],[.ptr true [(.sh,W 1 (eL 1 eI) r2.2.near),(.sh,W 1 eI r2.2.aiV),(.imm,I r2.2.most),(.imm,I r2.2.nodes),(.imm,I r2.2.budget)]])) hl (by kernel_rfl) ?_ ?_ ?_
   ·intro o p hp e
    rcases o with ⟨anY,anZ,an0,an1,an2⟩ | r2<;>exact nomatch (hp.1.symm.trans e)
   ·rintro ⟨alf,aj2,akY,akZ,alh,ali⟩ o h
    unfold aiU at h
    dsimp only at h
    refine gs<|gs<|?_
    obtain ⟨x50,aFI,h⟩:=bs h
    refine g0 j j (q (oMv j j)<|q (oMv j j)<|q (oNl j j j)<|q (oFA (r':=.mp 0 0 2) j asb j j)<|q (oLd (cs:=[.im 0 _]) j tF2 j j)<|q (oMv j j)<|q (oBi j j j j)<|q (oCa (xs:=[.v false [.im 0 _],.v false [.im 0 _]]) (vs:=[(false,[.im 0 _])]) (v:=.v false [.im 0 _]) (at1 aFI) (.inl j) j ayT j (ppC j (ppC j pp0)) j j pb0 j j j)<|q (oBi j j j j)<|nl)<|us<|gc h j aiK (fun aFJ h=>?_) fun aFJ h=>?_
    ·refine Go.skip<|us<|gs<|Go.join (fun st=>∃apo,∃apq,∃apr,∃aps,∃apt,aja self alf apo apq apr aps apt=some o∧st.norm ([0,1,5,6],[0])=mk [(0,M 0),(1,iv ajS),(5,iv (x_0.aiV.length:Int)),(6,iv alf)] [(0,Od [Z (W 1 (eL 1 eI) apo),Z (W 1 eI apq),C (I apr),C (I aps),C (I apt)])]) ?_ ?_
     ·rintro st ⟨apo,apq,apr,aps,apt,h,hst⟩
      unfold aja at h
      refine us<|g2 c56 j j hst (q (oMv j j)<|q (oBi j j j j)<|q (aiF j j)<|nl)<|Unw.nil<|?_
      cases h
      exact ⟨j,(by kernel_rfl)⟩
     ·intro K33
      refine Go.block<|gs<|g0 j j (q (aiF j j)<|nl)<|us<|gs<|gs<|g0 j j (q (aiF j j)<|nl)<|us<|Go.block<|?_
      obtain ⟨o,hl,h⟩:=bs h
      refine gl c56 j _ (fun (s:(Bool×Int))=>match s with | (aoD,aoU)=>mk [(0,M 0),(1,iv ajS),(5,iv (x_0.aiV.length:Int)),(6,iv alf),(7,bv aoD),(8,iv aoU)] [(0,Od [Z (W 1 (eL 1 eI) aj2),Z (W 1 eI akY),C (I akZ),C (I alh),C (I ali)])]) (fun (anm:Bool) (p:Ex×St)=>p.1= .exit 2∧p.2.norm ([0,1,5,6,7],[0])=mk [(0,M 0),(1,iv ajS),(5,iv (x_0.aiV.length:Int)),(6,iv alf),(7,bv anm)] [(0,Od [Z (W 1 (eL 1 eI) aj2),Z (W 1 eI akY),C (I akZ),C (I alh),C (I ali)])]) hl (by kernel_rfl) ?_ ?_ ?_
      ·intro o p hp e
       exact nomatch (hp.1.symm.trans e)
      ·rintro ⟨aoD,aoU⟩ o h
       unfold ai7 at h
       dsimp only at h
       refine gs<|gs<|?_
       obtain ⟨x60,ay1,h⟩:=bs h
       refine g0 j j (q (oMv j j)<|q (oMv j j)<|q (oNl j j j)<|q (oFA (r':=.mp 0 0 0) j asa j j)<|q (oLd (cs:=[.own 0 0 0]) j awE j j)<|q (oMv j j)<|q (aqH j ay1 asx j j j j)<|q (asv (cs:=[.im 0 _]) j akO j j j j (akS ay1) j j)<|q (aob j j akP j)<|q (oBi j j j j)<|nl)<|us<|gc h j aiK (fun aFK h=>?_) fun aFK h=>?_
       ·refine Go.skip<|us<|gs<|Go.block<|?_
        obtain ⟨aq8,apN,h⟩:=bs h
        refine gd c56 j j j j (mk [(0,M 0),(1,iv ajS),(5,iv (x_0.aiV.length:Int)),(6,iv alf),(7,bv aq8),(8,iv aoU)] [(0,Od [Z (W 1 (eL 1 eI) aj2),Z (W 1 eI akY),C (I akZ),C (I alh),C (I ali)])]) ?_ ?_
        ·refine t j j (oMv j j)<|t j j (oMv j j)<|?_
         refine ic apN (fun amA apN=>?_) fun amA apN=>?_
         ·obtain ⟨x73,aBH,apN⟩:=bs apN
          obtain ⟨x76,aFL,apN⟩:=bs apN
          refine tT j j j j (iR.2 amA) (oMv j j)<|tT j j j j (iR.2 amA) (oNl j j j)<|tT j j j j (iR.2 amA) (oFA (r':=.mp 0 0 0) j asa j j)<|tT j j j j (iR.2 amA) (oLd (cs:=[.own 0 0 0]) j awE j j)<|tT j j j j (iR.2 amA) (oMv j j)<|tT j j j j (iR.2 amA) (aqH j aBH asx j j j j)<|tT j j j j (iR.2 amA) (asv (cs:=[.im 0 _]) j akO j j j j (akS aBH) j j)<|tT j j j j (iR.2 amA) (oMv j j)<|tT j j j j (iR.2 amA) (anj j aFL ajw j j)<|tT j j j j (iR.2 amA) (oLd (cs:=[.im 0 _]) j tF2 j j)<|tT j j j j (iR.2 amA) (oMv j j)<|tT j j j j (iR.2 amA) (oBi j j j j)<|tT j j j j (iR.2 amA) (oMv j j)<|?_
          refine ic apN (fun alP apN=>?_) fun alP apN=>?_
          ·cases apN
           exact tF j j j j (aiK.2 alP) j<|tF j j j j (aiK.2 alP) j<|tF j j j j (aiK.2 alP) j<|tF j j j j (aiK.2 alP) j<|tF j j j j (aiK.2 alP) j<|tF j j j j (aiK.2 alP) j<|tF j j j j (aiK.2 alP) j<|tF j j j j (aiK.2 alP) j<|tF j j j j (aiK.2 alP) j<|tF j j j j (aiK.2 alP) j<|tF j j j j (aiK.2 alP) j<|tF j j j j (aiK.2 alP) j<|tF j j j j (aiK.2 alP) j<|tF j j j j (aiK.2 alP) j<|tF j j j j (aiK.2 alP) j<|tF j j j j (aiK.2 alP) j<|tF j j j j (aiK.2 alP) j<|tF j j j j (aiK.2 alP) j<|tT j j j j (iR.2 amA) (amS j j (aiK.2 alP) j)<|t j j (amS j j (iR.2 amA) j)<|sS (dN z56 j (aiF j j)) trivial (sD (by kernel_rfl))
          ·obtain ⟨x90,hx90,apN⟩:=bs apN
           obtain ⟨x93,hx93,apN⟩:=bs apN
           obtain ⟨x95,hx95,apN⟩:=bs apN
           cases apN
           exact tT j j j j (byF aiK alP) (oMv j j)<|tT j j j j (byF aiK alP) (oNl j j j)<|tT j j j j (byF aiK alP) (oFA (r':=.mp 0 0 1) j apK j j)<|tT j j j j (byF aiK alP) (oLd (cs:=[.own 0 0 1]) j akO j j)<|tT j j j j (byF aiK alP) (oMv j j)<|tT j j j j (byF aiK alP) (oNl j j j)<|tT j j j j (byF aiK alP) (oFA (r':=.mp 0 0 0) j asa j j)<|tT j j j j (byF aiK alP) (oLd (cs:=[.own 0 0 0]) j awE j j)<|tT j j j j (byF aiK alP) (oMv j j)<|tT j j j j (byF aiK alP) (aqH j hx90 asx j j j j)<|tT j j j j (byF aiK alP) (asv (cs:=[.im 0 _]) j akO j j j j (akS hx90) j j)<|tT j j j j (byF aiK alP) (oMv j j)<|tT j j j j (byF aiK alP) (anj j hx93 ajw j j)<|tT j j j j (byF aiK alP) (oLd (cs:=[.im 0 _]) j tF2 j j)<|tT j j j j (byF aiK alP) (aqH j hx95 ajw j j j j)<|tT j j j j (byF aiK alP) (asv (cs:=[.im 0 _]) j tF2 j j j j (akS hx95) j j)<|tT j j j j (byF aiK alP) (oMv j j)<|tT j j j j (byF aiK alP) (oBi j j j j)<|tT j j j j (iR.2 amA) (aok j j (byF aiK alP) j)<|t j j (amS j j (iR.2 amA) j)<|sS (dN z56 j (aiF j j)) trivial (sD (by kernel_rfl))
         ·cases apN
          exact tF j j j j (byF iR amA) j<|tF j j j j (byF iR amA) j<|tF j j j j (byF iR amA) j<|tF j j j j (byF iR amA) j<|tF j j j j (byF iR amA) j<|tF j j j j (byF iR amA) j<|tF j j j j (byF iR amA) j<|tF j j j j (byF iR amA) j<|tF j j j j (byF iR amA) j<|tF j j j j (byF iR amA) j<|tF j j j j (byF iR amA) j<|tF j j j j (byF iR amA) j<|tF j j j j (byF iR amA) j<|sT j (dU j j j j)<|sT j (dU j j j j)<|sT j (dU j j j j)<|sT j (dU j j j j)<|sT j (dU j j j j)<|sT j (dU j j j j)<|sT j (dU j j j j)<|sT j (dU j j j j)<|sT j (dU j j j j)<|sT j (dU j j j j)<|sT j (dU j j j j)<|sT j (dU j j j j)<|sT j (dU j j j j)<|sT j (dU j j j j)<|sT j (dU j j j j)<|sT j (dU j j j j)<|sT j (dU j j j j)<|sT j (dU j j j j)<|tF j j j j (byF iR amA) j<|t j j (aok j j (byF iR amA) j)<|sS (dN z56 j (aiF j j)) trivial (sD (by kernel_rfl))
        ·refine Unw.blk<|us<|g0 j j (q (oMv j j)<|q (oBi j j j j)<|q (aiF j j)<|nl)<|Unw.nil<|?_
         cases h
         exact ⟨j,(by kernel_rfl)⟩
       ·refine Go.exit<|ux<|Unw.nil<|?_
        cases h
        exact ⟨j,(by kernel_rfl)⟩
      ·rintro ⟨e,st⟩ hp
       obtain ⟨anm,rfl⟩:∃y,y=o:=⟨o,rfl⟩
       obtain ⟨he,hst⟩:=hp
       obtain rfl:e= .exit 2:=he
       refine Unw.amy<|us<|gs<|gs<|g2 c56 j j hst (q (oMv j j)<|q (oUn j j j)<|nl)<|us<|?_
       by_cases aBJ:anm=true
       ·rw [if_pos aBJ] at h
        refine gF j (nF (iR.2 aBJ))<|Go.skip<|us<|gs<|?_
        obtain ⟨axq,aAm,h⟩:=bs h
        refine g0 j j (q (oMv j j)<|q (oMv j j)<|q (oNl j j j)<|q (oFA (r':=.mp 0 0 1) j apK j j)<|q (oLd (cs:=[.own 0 0 1]) j akO j j)<|q (oMv j j)<|q (oBS (es:=List.map eI ([alf]:List Int)) j ajw j (ptC j (fxI fx0) j pt0) (akm j fun _=>j))<|q (aqj (en:=eI) (M:=([alf]:List Int)) j aAm j ajw j j akP (.inl ⟨_,j⟩) j j j j (amz j j) (akm j fun _=>j))<|q (oNl j j j)<|q (oFA (r':=.mp 0 0 1) j apK j j)<|q (oSt akO j j j (tkO j j tk0) j j j)<|nl)<|us<|gs<|gs<|?_
        obtain ⟨aDV,aEj,h⟩:=bs h
        obtain ⟨ann,aEk,h⟩:=bs h
        refine g1 j j (mk [(0,M 0),(1,iv ajS),(5,iv (x_0.aiV.length:Int)),(6,iv alf)] [(0,Od [Z (W 1 (eL 1 eI) aj2),Z (W 1 eI axq),C (I akZ),C (I alh),C (I ali)])]) (q (oMv j j)<|q (oMv j j)<|q (oMv j j)<|q (oBi j j j j)<|q (oCa (xs:=[.v false [.im 0 _],.v false [.im 0 _]]) (vs:=[(false,[.im 0 _])]) (v:=.v false [.im 0 _]) (aqP aEj) (.inl j) j awC j (ppC j (ppC j pp0)) j j pb0 j j j)<|q (oCa (xs:=[.v false [.mp 0 0 0],.v false [.im 0 _]]) (vs:=[(false,[.im 0 _])]) (v:=.v false [.im 0 _]) (ih aEk) (.inl j) j auL j (aDO (ob':=⟨0,0,true,true,false,true,[Z (W 1 (eL 1 eI) aj2),Z (W 1 eI axq),C (I akZ),C (I alh),C (I ali)]⟩) j j j (by kernel_rfl) (ppC j pp0)) j j (aDP (ob':=⟨0,1,true,true,false,true,[⟨.sh,1,0,W 1 (eL 1 eI) ann.2.near⟩,⟨.sh,1,0,W 1 eI ann.2.aiV⟩,⟨.imm,1,0,I ann.2.most⟩,⟨.imm,1,0,I ann.2.nodes⟩,⟨.imm,1,0,I ann.2.budget⟩]⟩) j j (by kernel_rfl) pb0) j j j)<|nl)<|us<|gc h j iR (fun aDa h=>?_) fun aDa h=>?_
        ·refine gs<|g1 j j (mk [] [(0,Od [Z (W 1 (eL 1 eI) ann.2.near),Z (W 1 eI ann.2.aiV),C (I ann.2.most),C (I ann.2.nodes),C (I ann.2.budget)])]) (q (aiF j j)<|nl)<|us<|Go.ret (Unw.ret ?_)
         cases h
         exact ⟨j,(fo aC6 j)⟩
        ·refine Go.skip<|us<|?_
         obtain ⟨aDW,aEl,h⟩:=bs h
         exact g1 j j (mk [(0,M 0),(1,iv ajS),(5,iv (x_0.aiV.length:Int)),(6,iv alf)] [(0,Od [Z (W 1 (eL 1 eI) ann.2.near),Z (W 1 eI ann.2.aiV),C (I ann.2.most),C (I ann.2.nodes),C (I ann.2.budget)])]) (q (oMv j j)<|q (oMv j j)<|q (oNl j j j)<|q (oFA (r':=.mp 0 0 1) j apK j j)<|q (oLd (cs:=[.own 0 0 1]) j akO j j)<|q (oMv j j)<|q (aE3 j aEl ajw j j j bn0 (bn1 j) j j j)<|q (oNl j j j)<|q (oFA (r':=.mp 0 0 1) j apK j j)<|q (oSt akO j j j (aE1 j j tk0) j j j)<|nl)<|Unw.blk<|K33 _ ⟨ann.2.near,((ann.2.aiV.take ((x_0.aiV.length:Int).toNat)).drop 0),ann.2.most,ann.2.nodes,ann.2.budget,h,(by kernel_rfl)⟩
       ·rw [if_neg aBJ] at h
        exact gT j (nT (byF iR aBJ))<|Go.exit<|ux<|Unw.amy<|K33 _ ⟨aj2,akY,akZ,alh,ali,h,(by kernel_rfl)⟩
    ·refine Go.exit<|ux<|Unw.nil<|?_
     cases h
     exact ⟨j,(by kernel_rfl)⟩
   ·rintro ⟨e,st⟩ hp
    rcases o with ⟨anY,anZ,an0,an1,an2⟩ | r2
    ·dsimp only at h
     obtain ⟨he,hst⟩:=hp
     obtain rfl:e= .exit 0:=he
     refine Unw.amy<|us<|gs<|g2 c56 j j hst (q (aiF j j)<|nl)<|us<|Go.ret (Unw.ret ?_)
     cases h
     exact fr aC6 j
    ·dsimp only at h
     obtain ⟨he,hfin⟩:=hp
     obtain rfl:e= .ret:=he
     cases h
     exact Unw.ret (al1 hfin)
theorem apO {x_0:aiL} {ajS:Int} {r:(Bool×aiL)} (h:aj3 x_0 ajS=some r):FX 56 [.ptr true [(.sh,W 1 (eL 1 eI) x_0.near),(.sh,W 1 eI x_0.aiV),(.imm,I x_0.most),(.imm,I x_0.nodes),(.imm,I x_0.budget)],.im 2 false [I ajS]] ([(false,[.im 0 (V r.1)])],[.ptr true [(.sh,W 1 (eL 1 eI) r.2.near),(.sh,W 1 eI r.2.aiV),(.imm,I r.2.most),(.imm,I r.2.nodes),(.imm,I r.2.budget)]]):=by
 unfold aj3 at h
 obtain ⟨n,hn⟩:=apg h
 clear h
 induction n generalizing x_0 ajS r with
 | zero=>cases hn
 | succ n ihn=>exact ao1 (self:=anU _ n) (fun h=>ihn h) hn
theorem at6 {ajR:(List Int)} {r:(List Int)} (h:an3 ajR=some r):FX 57 [.im 2 false [W 1 eI ajR]] (B0 [(false,[.ow 0 1 (List.map eI r)])]):=by
 unfold an3 at h
 refine gn 6 Try.func57 rfl ?_
 refine gs<|g0 j j (q (aph j j apZ)<|nl)<|us<|gs<|?_
 obtain ⟨x5,hx5,h⟩:=bs h
 refine g0 j j (q (oBS (es:=List.map eI ([]:List Int)) j ajw j pt0 (akm j fun _=>j))<|q (oMv j j)<|q (aqj (en:=eI) (M:=ajR) j hx5 j ajw j j akP (.inl ⟨_,j⟩) j j j j aCd (akm j fun _=>j))<|q (al2 j j j j j)<|nl)<|us<|Go.ret (Unw.ret ?_)
 cases h
 exact fr aFu j
theorem aqt {t_0:aiE} {ajq:Int} {r:((List Int)×Int×Int)} (h:ak9 t_0 ajq=some r):FX 10 [.im 2 true (aiC t_0),.im 2 false [I ajq]] (B0 [(false,[.ow 0 1 (List.map eI r.1)]),(false,[.im 0 (I r.2.1)]),(false,[.im 0 (I r.2.2)])]):=by
 unfold ak9 at h
 refine gn 74 Try.func10 rfl ?_
 refine gs<|g0 j j (q (oBx j aop j (tkI (tkI (tkI tk0))))<|q (aph j j apZ)<|q (aiF j j)<|q (aiF j j)<|nl)<|us<|gs<|gs<|?_
 obtain ⟨x11,axA,h⟩:=bs h
 refine g0 j j (q (oCa (xs:=[.v false [.mp 2 0 0]]) (vs:=[(false,[.im 0 _])]) (v:=.v false [.im 0 _]) (avw axA) (.inl j) j aBy j (ppC j pp0) j j pb0 j j j)<|q (oUn j j j)<|nl)<|us<|?_
 by_cases hc1:x11=true
 ·rw [if_pos hc1] at h
  refine gF j (nF (iR.2 hc1))<|Go.skip<|us<|gs<|gs<|?_
  obtain ⟨x14,avt,h⟩:=bs h
  refine g0 j j (q (oMv j j)<|q (oCa (xs:=[.v false [.im 2 _],.v false [.im 0 _],.v false [.im 0 _]]) (vs:=[(false,[.im 0 _])]) (v:=.v false [.im 0 _]) (alO avt) (.inl j) j amV j (ppC j (ppC j (ppC j pp0))) j j pb0 j j j)<|q (oUn j j j)<|nl)<|us<|?_
  by_cases hc2:x14=true
  ·rw [if_pos hc2] at h
   refine gF j (nF (iR.2 hc2))<|Go.skip<|us<|gs<|g0 j j (q (oMv j j)<|q (oBu (cs:=[.nil,.nil,.im 0 _,.im 0 _,.im 2 _]) j aFn j)<|q (oBx j aFz j (tkN (tkN (tkI (tkI (tkI tk0))))))<|q (aDJ j j)<|nl)<|us<|gs<|?_
   obtain ⟨x19,axB,h⟩:=bs h
   refine g1 j j (mk [(1,iv ajq),(2,M 2),(7,M 18)] [(2,Oa (G 2 (aiC t_0))),(18,Oa [Z (W 1 (eL 1 eI) ([]:List (List Int))),Z (W 1 eI ([]:List Int)),C (I 0),C (I 0),C (I ajq)])]) (q (oCa (xs:=[.v false [.mp 2 0 0]]) (vs:=[(false,[.im 0 _])]) (v:=.v false [.im 0 _]) (aqs axB) (.inl j) j ayd j (ppC j pp0) j j pb0 j j j)<|q (aiF j j)<|nl)<|us<|gs<|gs<|g0 j j (q (aiF j j)<|nl)<|us<|Go.block<|?_
   obtain ⟨o,hl,h⟩:=bs h
   refine gl c10 j _ (fun (s:(Int×(List (List Int))))=>match s with | (aq9,aoE)=>mk [(1,iv ajq),(2,M 2),(7,M 18),(8,iv x19),(9,iv aq9)] [(2,Oa (G 2 (aiC t_0))),(18,Oa [Z (W 1 (eL 1 eI) aoE),Z (W 1 eI ([]:List Int)),C (I 0),C (I 0),C (I ajq)])]) (fun (aom:(List (List Int))) (p:Ex×St)=>p.1= .exit 0∧p.2.norm ([1,7,8],[18])=mk [(1,iv ajq),(7,M 18),(8,iv x19)] [(18,Oa [Z (W 1 (eL 1 eI) aom),Z (W 1 eI ([]:List Int)),C (I 0),C (I 0),C (I ajq)])]) hl (by kernel_rfl) ?_ ?_ ?_
   ·intro o p hp e
    exact nomatch (hp.1.symm.trans e)
   ·rintro ⟨aq9,aoE⟩ o h
    unfold ako at h
    dsimp only at h
    refine gs<|gs<|g0 j j (q (oMv j j)<|q (oMv j j)<|q (oBi j j j j)<|nl)<|us<|gc h j aiK (fun aAn h=>?_) fun aAn h=>?_
    ·refine Go.skip<|us<|gs<|Go.block<|?_
     obtain ⟨x31,hx31,h⟩:=bs h
     obtain ⟨x33,avu,h⟩:=bs h
     refine gd c10 j j j j (mk [(1,iv ajq),(2,M 2),(7,M 18),(8,iv x19),(9,iv aq9)] [(2,Oa (G 2 (aiC t_0))),(18,Oa [Z (W 1 (eL 1 eI) x33),Z (W 1 eI ([]:List Int)),C (I 0),C (I 0),C (I ajq)])]) (t j j (oMv j j)<|t j j (oMv j j)<|t j j (oMv j j)<|sK (O:=[18]) j j j (dN z10 j (oNl j j j))<|sK (O:=[18]) j j j (dN z10 j (oFA (r':=.mp 18 0 0) j asa j j))<|sK (O:=[18]) j j j (dN z10 j (oLd (cs:=[.own 18 0 0]) j awE j j))<|sS (dN z10 j (oCr (xs:=[.v false [.mp 2 0 0],.v false [.im 0 _]]) (vs:=[(false,[.own 31 0 0])]) (v:=.v false [.own 31 0 0]) (c:=⟨.sh,0,_⟩) (cs:=[]) (atF hx31) (.inl j) j ayX j (ppC j (ppC j pp0)) j j pb0 j j j)) (kY ⟨j,trivial⟩ (kY ⟨j,trivial⟩ (kY ⟨j,trivial⟩ trivial))) (sS (dN z10 j (oBS (es:=List.map (eL 1 eI) ([x31]:List (List Int))) j asx j (ptC j (fxO j j fx0) j pt0) (azZ j))) (kY ⟨j,trivial⟩ (kY ⟨j,trivial⟩ (kY ⟨j,trivial⟩ trivial))) (sS (dN z10 j (aqj (en:=(eL 1 eI)) (M:=([x31]:List (List Int))) j avu j asx j j aBG (.inl ⟨_,j⟩) j j j j (amz j j) (azZ j))) (kN j (kN j (kN j trivial))) (t j j (oNl j j j)<|t j j (oFA (r':=.mp 18 0 0) j asa j j)<|sS (dN z10 j (oSt awE j j j (tkO j j tk0) j j j)) (kN j (kN j (kN j trivial))) (sD (by kernel_rfl))))))<|Unw.blk<|us<|g0 j j (q (oMv j j)<|q (oBi j j j j)<|q (aiF j j)<|nl)<|Unw.nil<|?_
     cases h
     exact ⟨j,(by kernel_rfl)⟩
    ·refine Go.exit<|ux<|Unw.nil<|?_
     cases h
     exact ⟨j,(by kernel_rfl)⟩
   ·rintro ⟨e,st⟩ hp
    obtain ⟨aom,rfl⟩:∃y,y=o:=⟨o,rfl⟩
    obtain ⟨he,hst⟩:=hp
    obtain rfl:e= .exit 0:=he
    refine Unw.amy<|us<|gs<|gs<|g2 c10 j j hst (q (oMv j j)<|q (oNl j j j)<|q (oFA (r':=.mp 18 0 2) j asb j j)<|q (oSt tF2 j j j (tkI tk0) j j j)<|nl)<|us<|Go.block<|?_
    obtain ⟨o,hl,h⟩:=bs h
    refine gl c10 j _ (fun (s:((List (List Int))×(List Int)×Int×Int×Int))=>match s with | (am9,aqo,amd,ana,anb)=>mk [(1,iv ajq),(7,M 18),(8,iv x19)] [(18,Oa [Z (W 1 (eL 1 eI) am9),Z (W 1 eI aqo),C (I amd),C (I ana),C (I anb)])]) (fun (o:(Unit ⊕ ((List Int)×Int×Int))) (p:Ex×St)=>match o with | (.inl _)=>p.1= .exit 2∧p.2.norm ([],[])=mk [] [] | (.inr r2)=>p.1= .ret∧fin Try.prog cfg 10 Try.f10 [.im 2 true (aiC t_0),.im 2 false [I ajq]] p.2=some (B0 [(false,[.ow 0 1 (List.map eI r2.1)]),(false,[.im 0 (I r2.2.1)]),(false,[.im 0 (I r2.2.2)])])) hl (by kernel_rfl) ?_ ?_ ?_
    ·intro o p hp e
     rcases o with u | r2<;>exact nomatch (hp.1.symm.trans e)
    ·rintro ⟨am9,aqo,amd,ana,anb⟩ o h
     unfold aiY at h
     dsimp only at h
     refine gs<|gs<|g0 j j (q (oMv j j)<|q (oNl j j j)<|q (oFA (r':=.mp 18 0 2) j asb j j)<|q (oLd (cs:=[.im 0 _]) j tF2 j j)<|q (oMv j j)<|q (oBi j j j j)<|nl)<|us<|gc h j aiK (fun aoL h=>?_) fun aoL h=>?_
     ·refine Go.skip<|us<|gs<|Go.block<|gs<|g0 j j (q (oMv j j)<|q (oBS (es:=List.map eI ([]:List Int)) j ajw j pt0 (akm j fun _=>j))<|q (oNl j j j)<|q (oFA (r':=.mp 18 0 1) j apK j j)<|q (oSt akO j j j (tkO j j tk0) j j j)<|nl)<|us<|gs<|?_
      obtain ⟨x57,aDe,h⟩:=bs h
      refine g1 j j (mk [(1,iv ajq),(7,M 18),(8,iv x19)] [(18,Oa [Z (W 1 (eL 1 eI) am9),Z (W 1 eI ([]:List Int)),C (I amd),C (I ana),C (I anb)])]) (q (oMv j j)<|q (oCa (xs:=[.v false [.mp 18 0 0],.v false [.im 0 _]]) (vs:=[(false,[.im 0 _])]) (v:=.v false [.im 0 _]) (apO aDe) (.inl j) j auL j (aDO (ob':=⟨0,0,false,true,false,true,[Z (W 1 (eL 1 eI) am9),Z (W 1 eI ([]:List Int)),C (I amd),C (I ana),C (I anb)]⟩) j j j (by kernel_rfl) (ppC j pp0)) j j (aDP (ob':=⟨0,1,false,true,false,true,[⟨.sh,1,0,W 1 (eL 1 eI) x57.2.near⟩,⟨.sh,1,0,W 1 eI x57.2.aiV⟩,⟨.imm,1,0,I x57.2.most⟩,⟨.imm,1,0,I x57.2.nodes⟩,⟨.imm,1,0,I x57.2.budget⟩]⟩) j j (by kernel_rfl) pb0) j j j)<|q (aiF j j)<|nl)<|us<|gs<|gs<|g1 j j (mk [(1,iv ajq),(7,M 18),(8,iv x19),(10,bv x57.1)] [(18,Oa [Z (W 1 (eL 1 eI) x57.2.near),Z (W 1 eI x57.2.aiV),C (I x57.2.most),C (I x57.2.nodes),C (I x57.2.budget)])]) (q (oMv j j)<|q (oNl j j j)<|q (oFA (r':=.mp 18 0 3) j avr j j)<|q (oLd (cs:=[.im 0 _]) j tF2 j j)<|q (oMv j j)<|q (oBi j j j j)<|nl)<|us<|gc h j aiK (fun hc12 h=>?_) fun hc12 h=>?_
      ·refine gs<|g0 j j (q (aph j j apZ)<|q (aiF j j)<|q (aiF j j)<|nl)<|us<|Go.ret (Unw.ret ?_)
       cases h
       exact ⟨j,(fo aAh j)⟩
      ·refine Go.skip<|us<|gs<|g0 j j (q (oMv j j)<|nl)<|us<|gc h j iR (fun hc13 h=>?_) fun hc13 h=>?_
       ·refine gs<|?_
        obtain ⟨x69,aFM,h⟩:=bs h
        refine gd c10 j j j j (mk [(4,H 4 0),(5,iv x57.2.most),(6,iv 0)] [(4,Oc [Z (W 1 eI x69)])]) (t j j (oMv j j)<|t j j (oNl j j j)<|t j j (oFA (r':=.mp 18 0 1) j apK j j)<|t j j (oLd (cs:=[.own 18 0 1]) j akO j j)<|t j j (oMv j j)<|sK (O:=[18]) j j j (dN z10 j (oNl j j j))<|sK (O:=[18]) j j j (dN z10 j (oFA (r':=.mp 18 0 2) j asb j j))<|sK (O:=[18]) j j j (dN z10 j (oLd (cs:=[.im 0 _]) j tF2 j j))<|sS (dN z10 j (oCr (xs:=[.v false [.own 18 0 1]]) (vs:=[(false,[.own 69 0 0])]) (v:=.v false [.own 69 0 0]) (c:=⟨.sh,0,_⟩) (cs:=[]) (at6 aFM) (.inl j) j aBz j (ppC j pp0) j j pb0 j j j)) (kY ⟨j,trivial⟩ (kY ⟨j,trivial⟩ (kY ⟨j,trivial⟩ trivial))) (sS (dN z10 j (al2 j j j j j)) (kY ⟨j,trivial⟩ (kY ⟨j,trivial⟩ (kY ⟨j,trivial⟩ trivial))) (sS (dN z10 j (aiF j j)) (kN j (kN j (kN j trivial))) (sS (dN z10 j (aiF j j)) (kN j (kN j (kN j trivial))) (sD (by kernel_rfl))))))<|us<|Go.ret (Unw.ret ?_)
        cases h
        exact ⟨j,(fo aAh j)⟩
       ·refine Go.skip<|Unw.blk<|us<|g0 j j (q (oMv j j)<|q (oNl j j j)<|q (oFA (r':=.mp 18 0 2) j asb j j)<|q (oLd (cs:=[.im 0 _]) j tF2 j j)<|q (oBi j j j j)<|q (oNl j j j)<|q (oFA (r':=.mp 18 0 2) j asb j j)<|q (oSt tF2 j j j (tkI tk0) j j j)<|nl)<|Unw.nil<|?_
        cases h
        exact ⟨j,(by kernel_rfl)⟩
     ·refine Go.exit<|ux<|Unw.nil<|?_
      cases h
      exact ⟨j,(by kernel_rfl)⟩
    ·rintro ⟨e,st⟩ hp
     rcases o with u | r2
     ·dsimp only at h
      obtain ⟨he,hst⟩:=hp
      obtain rfl:e= .exit 2:=he
      refine Unw.amy<|us<|gs<|g2 c10 j j hst (q (aph j j apZ)<|q (aiF j j)<|q (aiF j j)<|nl)<|us<|Go.ret (Unw.ret ?_)
      cases h
      exact fr aAh j
     ·dsimp only at h
      obtain ⟨he,hfin⟩:=hp
      obtain rfl:e= .ret:=he
      cases h
      exact Unw.ret (al1 hfin)
  ·rw [if_neg hc2] at h
   refine gT j (nT (byF iR hc2))<|gs<|g0 j j (q (aph j j apZ)<|q (aiF j j)<|q (aiF j j)<|nl)<|us<|Go.ret (Unw.ret ?_)
   cases h
   exact fr aAh j
 ·rw [if_neg hc1] at h
  refine gT j (nT (byF iR hc1))<|gs<|g0 j j (q (aph j j apZ)<|q (aiF j j)<|q (aiF j j)<|nl)<|us<|Go.ret (Unw.ret ?_)
  cases h
  exact fr aAh j
theorem ao2 {n_0:Int} {apk:Int} {anE:Int} {r:Bool} (h:ame n_0 apk anE=some r):FX 60 [.im 2 false [I n_0],.im 2 false [I apk],.im 2 false [I anE]] (B0 [(false,[.im 0 (V r)])]):=by
 unfold ame at h
 refine gn 15 Try.func60 rfl ?_
 refine gs<|g0 j j (q (aiF j j)<|nl)<|us<|gs<|gX c60 j j j (mk [(6,bv ((decide (n_0≥apk))&&(decide (n_0≤anE))))] []) ?_ ?_
 ·refine xq (oMv j j)<|xq (oMv j j)<|xq (oBi j j j j)<|xq (oMv j j)<|?_
  by_cases hc1:n_0≥apk
  ·exact xqT rfl rfl (aiK.2 hc1) (oMv rfl rfl)<|xqT rfl rfl (aiK.2 hc1) (oMv rfl rfl)<|xqT rfl rfl (aiK.2 hc1) (oBi rfl rfl rfl rfl)<|xq (amS rfl rfl (aiK.2 hc1) rfl)<|xq (aiF rfl rfl)<|xn (Eq.trans (b:=(fun amW:Bool=>mk [(6,bv amW)] []) (decide (n_0≤anE))) (by kernel_rfl) (congrArg (fun amW:Bool=>mk [(6,bv amW)] []) (by first | rfl | (simp [(aiK.2 hc1)];done) | (simp [(aiK.2 hc1)];omega))))
  ·exact ajo rfl rfl (byF aiK hc1) rfl<|ajo rfl rfl (byF aiK hc1) rfl<|ajo rfl rfl (byF aiK hc1) rfl<|xq (aok rfl rfl (byF aiK hc1) rfl)<|xq (aiF rfl rfl)<|xn (Eq.trans (b:=(fun amW:Bool=>mk [(6,bv amW)] []) false) (by kernel_rfl) (congrArg (fun amW:Bool=>mk [(6,bv amW)] []) (by first | rfl | (simp [(byF aiK hc1)];done) | (simp [(byF aiK hc1)];omega))))
 ·refine us<|Go.ret (Unw.ret ?_)
  cases h
  exact fr aFw j
theorem ao3 {x_0:(List Int)} {r:Int} (h:akd x_0=some r):FX 104 [.im 2 false [W 1 eI x_0]] (B0 [(false,[.im 0 (I r)])]):=by
 unfold akd at h
 refine gn 25 Try.func104 rfl ?_
 refine gs<|g0 j j (q (aiF j j)<|nl)<|us<|gs<|gs<|g0 j j (q (oMv j j)<|q (aob j j akP j)<|q (oBi j j j j)<|nl)<|us<|gc h j aiK (fun hc2 h=>?_) fun hc2 h=>?_
 ·cases h
 ·refine Go.skip<|us<|gs<|?_
  obtain ⟨x10,aDf,h⟩:=bs h
  refine g0 j j (q (oMv j j)<|q (anj j aDf ajw j j)<|q (oLd (cs:=[.im 2 _]) j tF2 j j)<|q (aiF j j)<|nl)<|us<|gs<|gs<|g0 j j (q (aiF j j)<|nl)<|us<|Go.block<|?_
  obtain ⟨o,hl,h⟩:=bs h
  refine gl aCZ j _ (fun (s:(Int×Int))=>match s with | (aoF,anG)=>mk [(0,D 2 (W 1 eI x_0)),(3,iv aoF),(4,iv anG)] []) (fun (ano:Int) (p:Ex×St)=>p.1= .exit 0∧p.2.norm ([3],[])=mk [(3,iv ano)] []) hl (by kernel_rfl) ?_ ?_ ?_
  ·intro o p hp e
   exact nomatch (hp.1.symm.trans e)
  ·rintro ⟨aoF,anG⟩ o h
   unfold aje at h
   dsimp only at h
   refine gs<|gs<|g0 j j (q (oMv j j)<|q (oMv j j)<|q (aob j j akP j)<|q (oBi j j j j)<|nl)<|us<|gc h j aiK (fun hc5 h=>?_) fun hc5 h=>?_
   ·refine Go.skip<|us<|gs<|Go.block<|?_
    obtain ⟨x21,atG,h⟩:=bs h
    refine g0 j j (q (oMv j j)<|q (oMv j j)<|q (oMv j j)<|q (anj j atG ajw j j)<|q (oLd (cs:=[.im 2 _]) j tF2 j j)<|q (aE0 j j)<|q (aiF j j)<|nl)<|Unw.blk<|us<|g0 j j (q (oMv j j)<|q (oBi j j j j)<|q (aiF j j)<|nl)<|Unw.nil<|?_
    cases h
    exact ⟨j,(by kernel_rfl)⟩
   ·refine Go.exit<|ux<|Unw.nil<|?_
    cases h
    exact ⟨j,(by kernel_rfl)⟩
  ·rintro ⟨e,st⟩ hp
   obtain ⟨ano,rfl⟩:∃y,y=o:=⟨o,rfl⟩
   obtain ⟨he,hst⟩:=hp
   obtain rfl:e= .exit 0:=he
   refine Unw.amy<|us<|gs<|g2 aCZ j j hst (q (oMv j j)<|q (aiF j j)<|nl)<|us<|Go.ret (Unw.ret ?_)
   cases h
   exact fr aD4 j
theorem amI {x_0:(List Int)} {r:Int} (h:ajO x_0=some r):FX 105 [.im 2 false [W 1 eI x_0]] (B0 [(false,[.im 0 (I r)])]):=by
 unfold ajO at h
 refine gn 25 Try.func105 rfl ?_
 refine gs<|g0 j j (q (aiF j j)<|nl)<|us<|gs<|gs<|g0 j j (q (oMv j j)<|q (aob j j akP j)<|q (oBi j j j j)<|nl)<|us<|gc h j aiK (fun hc2 h=>?_) fun hc2 h=>?_
 ·cases h
 ·refine Go.skip<|us<|gs<|?_
  obtain ⟨x10,aDf,h⟩:=bs h
  refine g0 j j (q (oMv j j)<|q (anj j aDf ajw j j)<|q (oLd (cs:=[.im 2 _]) j tF2 j j)<|q (aiF j j)<|nl)<|us<|gs<|gs<|g0 j j (q (aiF j j)<|nl)<|us<|Go.block<|?_
  obtain ⟨o,hl,h⟩:=bs h
  refine gl c105 j _ (fun (s:(Int×Int))=>match s with | (aoF,anG)=>mk [(0,D 2 (W 1 eI x_0)),(3,iv aoF),(4,iv anG)] []) (fun (ano:Int) (p:Ex×St)=>p.1= .exit 0∧p.2.norm ([3],[])=mk [(3,iv ano)] []) hl (by kernel_rfl) ?_ ?_ ?_
  ·intro o p hp e
   exact nomatch (hp.1.symm.trans e)
  ·rintro ⟨aoF,anG⟩ o h
   unfold ajf at h
   dsimp only at h
   refine gs<|gs<|g0 j j (q (oMv j j)<|q (oMv j j)<|q (aob j j akP j)<|q (oBi j j j j)<|nl)<|us<|gc h j aiK (fun hc5 h=>?_) fun hc5 h=>?_
   ·refine Go.skip<|us<|gs<|Go.block<|?_
    obtain ⟨x21,atG,h⟩:=bs h
    refine g0 j j (q (oMv j j)<|q (oMv j j)<|q (oMv j j)<|q (anj j atG ajw j j)<|q (oLd (cs:=[.im 2 _]) j tF2 j j)<|q (awn j j)<|q (aiF j j)<|nl)<|Unw.blk<|us<|g0 j j (q (oMv j j)<|q (oBi j j j j)<|q (aiF j j)<|nl)<|Unw.nil<|?_
    cases h
    exact ⟨j,(by kernel_rfl)⟩
   ·refine Go.exit<|ux<|Unw.nil<|?_
    cases h
    exact ⟨j,(by kernel_rfl)⟩
  ·rintro ⟨e,st⟩ hp
   obtain ⟨ano,rfl⟩:∃y,y=o:=⟨o,rfl⟩
   obtain ⟨he,hst⟩:=hp
   obtain rfl:e= .exit 0:=he
   refine Unw.amy<|us<|gs<|g2 c105 j j hst (q (oMv j j)<|q (aiF j j)<|nl)<|us<|Go.ret (Unw.ret ?_)
   cases h
   exact fr aD5 j
theorem arH {t_0:aiE} {r:Int} (h:amT t_0=some r):FX 106 [.im 2 true (aiC t_0)] (B0 [(false,[.im 0 (I r)])]):=by
 unfold amT at h
 refine gn 7 Try.func106 rfl ?_
 refine gs<|g0 j j (q (oBx j aop j (tkI (tkI (tkI tk0))))<|q (aiF j j)<|nl)<|us<|gs<|?_
 obtain ⟨x5,hx5,h⟩:=bs h
 refine g0 j j (q (oFA (r':=.mp 1 0 2) j akE j j)<|q (oLd (cs:=[.im 2 _]) j akO j j)<|q (oCa (xs:=[.v false [.im 2 _]]) (vs:=[(false,[.im 0 _])]) (v:=.v false [.im 0 _]) (amI hx5) (.inl j) j aww j (ppC j pp0) j j pb0 j j j)<|q (oBi j j j j)<|q (aiF j j)<|nl)<|us<|Go.ret (Unw.ret ?_)
 cases h
 exact fr aD6 j
theorem aoM {s_0:(List Int)} {v_1:Int} {r:Int} (h:ajy s_0 v_1=some r):FX 107 [.im 2 false [W 1 eI s_0],.im 2 false [I v_1]] (B0 [(false,[.im 0 (I r)])]):=by
 unfold ajy at h
 refine gn 19 Try.func107 rfl ?_
 refine gs<|g0 j j (q (aiF j j)<|nl)<|us<|gs<|gs<|g0 j j (q (oMv j j)<|q (aob j j akP j)<|q (oMv j j)<|nl)<|us<|Go.block<|?_
 obtain ⟨o,hl,h⟩:=bs h
 refine gl c107 j _ (fun (amU:Int)=>mk [(0,D 2 (W 1 eI s_0)),(1,iv v_1),(7,iv (s_0.length:Int)),(8,iv amU)] []) (fun (o:(Unit ⊕ Int)) (p:Ex×St)=>match o with | (.inl _)=>p.1= .exit 0∧p.2.norm ([],[])=mk [] [] | (.inr r2)=>p.1= .ret∧fin Try.prog cfg 107 Try.f107 [.im 2 false [W 1 eI s_0],.im 2 false [I v_1]] p.2=some (B0 [(false,[.im 0 (I r2)])])) hl (by kernel_rfl) ?_ ?_ ?_
 ·intro o p hp e
  rcases o with u | r2<;>exact nomatch (hp.1.symm.trans e)
 ·rintro amU o h
  unfold ajB at h
  refine gs<|g0 j j (q (oBi j j j j)<|nl)<|us<|gs<|gc h j aiK (fun hc5 h=>?_) fun hc5 h=>?_
  ·refine Go.skip<|us<|gs<|Go.block<|gs<|g0 j j (q (oMv j j)<|q (aiF j j)<|nl)<|us<|gs<|?_
   obtain ⟨x14,avt,h⟩:=bs h
   refine g0 j j (q (oMv j j)<|q (oMv j j)<|q (oMv j j)<|q (anj j avt ajw j j)<|q (oLd (cs:=[.im 2 _]) j tF2 j j)<|q (oBi j j j j)<|nl)<|us<|gc h j iEq (fun hc6 h=>?_) fun hc6 h=>?_
   ·refine gs<|g0 j j (q (oMv j j)<|q (aiF j j)<|nl)<|us<|Go.ret (Unw.ret ?_)
    cases h
    exact ⟨j,(fo aCg j)⟩
   ·refine Go.skip<|Unw.blk<|us<|g0 j j (q (oBi j j j j)<|q (oMv j j)<|nl)<|Unw.nil<|?_
    cases h
    exact ⟨j,(by kernel_rfl)⟩
  ·refine Go.exit<|ux<|Unw.nil<|?_
   cases h
   exact ⟨j,(by kernel_rfl)⟩
 ·rintro ⟨e,st⟩ hp
  rcases o with u | r2
  ·dsimp only at h
   obtain ⟨he,hst⟩:=hp
   obtain rfl:e= .exit 0:=he
   refine Unw.amy<|us<|gs<|g2 c107 j j hst (q (aiF j j)<|nl)<|us<|Go.ret (Unw.ret ?_)
   cases h
   exact fr aCg j
  ·dsimp only at h
   obtain ⟨he,hfin⟩:=hp
   obtain rfl:e= .ret:=he
   cases h
   exact Unw.ret (al1 hfin)
theorem ass {a_0:Int} {b_1:Int} {r:Int} (h:anH a_0 b_1=some r):FX 155 [.im 2 false [I a_0],.im 2 false [I b_1]] (B0 [(false,[.im 0 (I r)])]):=by
 unfold anH at h
 refine gn 12 Try.func155 rfl ?_
 refine gs<|g0 j j (q (aiF j j)<|nl)<|us<|gs<|?_
 obtain ⟨x7,hx7,h⟩:=bs h
 obtain ⟨x11,axA,h⟩:=bs h
 refine g0 j j (q (oMv j j)<|q (oMv j j)<|q (awm j hx7 j j)<|q (oMv j j)<|q (oBi j j j j)<|q (oMv j j)<|q (awm j axA j j)<|q (aiF j j)<|nl)<|us<|Go.ret (Unw.ret ?_)
 cases h
 exact fr aEd j
theorem akJ {x_0:Int} {y_1:Int} {aoG:Int} {avm:Int} {axr:(List Int)} {r:Int} (h:ai0 x_0 y_1 aoG avm axr=some r):FX 154 [.im 2 false [I x_0],.im 2 false [I y_1],.im 2 false [.cp [I aoG,I avm,W 1 eI axr] 0]] (B0 [(false,[.im 0 (I r)])]):=by
 unfold ai0 at h
 refine gn 18 Try.func154 rfl ?_
 refine gs<|g0 j j (q (aiF j j)<|nl)<|us<|gs<|?_
 obtain ⟨x9,hx9,h⟩:=bs h
 obtain ⟨x16,hx16,h⟩:=bs h
 refine gd c154 j j j j (mk [(5,iv (w64 ((w64 (x9*aoG))+x16)))] []) (t j j (oMv j j)<|t j j (oFA (r':=.im 2 _) j aod j j)<|t j j (oLd (cs:=[.im 2 _]) j tF2 j j)<|t j j (oFA (r':=.im 2 _) j amg j j)<|t j j (oLd (cs:=[.im 2 _]) j tF2 j j)<|t j j (oMv j j)<|t j j (oFA (r':=.im 2 _) j amg j j)<|t j j (oLd (cs:=[.im 2 _]) j tF2 j j)<|sS (dN z154 j (oCa (xs:=[.v false [.im 2 _],.v false [.im 2 _]]) (vs:=[(false,[.im 0 _])]) (v:=.v false [.im 0 _]) (ass hx9) (.inl j) j auI j (ppC j (ppC j pp0)) j j pb0 j j j)) trivial (t j j (oBi j j j j)<|sS (dN z154 j (oCa (xs:=[.v false [.im 2 _],.v false [.im 2 _]]) (vs:=[(false,[.im 0 _])]) (v:=.v false [.im 0 _]) (ass hx16) (.inl j) j auI j (ppC j (ppC j pp0)) j j pb0 j j j)) trivial (t j j (oBi j j j j)<|sS (dN z154 j (aiF j j)) trivial (sD (by kernel_rfl)))))<|us<|Go.ret (Unw.ret ?_)
 cases h
 exact fr aEc j
theorem an7 {t_0:aiE} {i_1:Int} {r:aol} (h:ajH t_0 i_1=some r):FX 108 [.im 2 true (aiC t_0),.im 2 false [I i_1]] (B0 [(true,J 0 (anc r))]):=by
 unfold ajH at h
 refine gn 38 Try.func108 rfl ?_
 refine gs<|g0 j j (q (oBx j aop j (tkI (tkI (tkI tk0))))<|q (oAl j aCi (tkI (tkI (tkI (tkI tk0)))))<|nl)<|us<|gs<|?_
 obtain ⟨x11,axA,h⟩:=bs h
 obtain ⟨x15,ay2,h⟩:=bs h
 refine gd aDX j j j j (mk [(2,M 2),(4,M 4),(5,iv x11),(6,iv x15)] [(2,Oa (G 2 (aiC t_0))),(4,Oa [C (I 0),C (I 0),C (I 0),C (I 0)])]) (t j j (oMv j j)<|t j j (oFA (r':=.mp 2 0 0) j amg j j)<|t j j (oLd (cs:=[.im 0 _]) j tF2 j j)<|t j j (awm j axA j j)<|t j j (oMv j j)<|sK (O:=[2]) j j j (dN aBx j (oFA (r':=.mp 2 0 0) j amg j j))<|sK (O:=[2]) j j j (dN aBx j (oLd (cs:=[.im 0 _]) j tF2 j j))<|t j j (aDK j ay2 j j)<|sS (dN aBx j (aiF j j)) (kY ⟨j,trivial⟩ (kY ⟨j,trivial⟩ trivial)) (sS (dN aBx j (aiF j j)) (kN j (kN j trivial)) (sD (by kernel_rfl))))<|us<|gs<|g0 j j (q (oMF (rs:=[.mp 2 0 0]) j j)<|q (aEZ j j)<|nl)<|us<|gs<|?_
 obtain ⟨x21,atG,h⟩:=bs h
 obtain ⟨x26,axy,h⟩:=bs h
 obtain ⟨x31,hx31,h⟩:=bs h
 obtain ⟨x36,aFN,h⟩:=bs h
 refine g0 j j (q (aAY j j)<|q (oMv j j)<|q (oBi j j j j)<|q (oMv j j)<|q (oCa (xs:=[.v false [.im 0 _],.v false [.im 0 _],.v false [.mp 2 0 0]]) (vs:=[(false,[.im 0 _])]) (v:=.v false [.im 0 _]) (akJ atG) (.inl j) j aoX j (ppC j (ppC j (ppC j pp0))) j j pb0 j j j)<|q (aAY j j)<|q (oMv j j)<|q (oBi j j j j)<|q (oMv j j)<|q (oCa (xs:=[.v false [.im 0 _],.v false [.im 0 _],.v false [.mp 2 0 0]]) (vs:=[(false,[.im 0 _])]) (v:=.v false [.im 0 _]) (akJ axy) (.inl j) j aoX j (ppC j (ppC j (ppC j pp0))) j j pb0 j j j)<|q (aAY j j)<|q (oMv j j)<|q (oMv j j)<|q (oBi j j j j)<|q (oCa (xs:=[.v false [.im 0 _],.v false [.im 0 _],.v false [.mp 2 0 0]]) (vs:=[(false,[.im 0 _])]) (v:=.v false [.im 0 _]) (akJ hx31) (.inl j) j aoX j (ppC j (ppC j (ppC j pp0))) j j pb0 j j j)<|q (aAY j j)<|q (oMv j j)<|q (oMv j j)<|q (oBi j j j j)<|q (oCa (xs:=[.v false [.im 0 _],.v false [.im 0 _],.v false [.mp 2 0 0]]) (vs:=[(false,[.im 0 _])]) (v:=.v false [.im 0 _]) (akJ aFN) (.inl j) j aoX j (ppC j (ppC j (ppC j pp0))) j j pb0 j j j)<|q (oBu (cs:=[.im 0 _,.im 0 _,.im 0 _,.im 0 _]) j aD1 j)<|q (oSt aCi j j j (tkI (tkI (tkI (tkI tk0)))) j j j)<|nl)<|us<|Go.ret (Unw.ret ?_)
 cases h
 exact fr aD7 j
theorem ard {t_0:aiE} {r:Bool} (h:alB t_0=some r):FX 59 [.im 2 true (aiC t_0)] (B0 [(false,[.im 0 (V r)])]):=by
 unfold alB at h
 refine gn 121 Try.func59 rfl ?_
 refine gs<|g0 j j (q (oBx j aop j (tkI (tkI (tkI tk0))))<|q (aiF j j)<|nl)<|us<|gs<|gs<|?_
 obtain ⟨x16,hx16,h⟩:=bs h
 obtain ⟨avn,aqu,h⟩:=bs h
 refine gX c59 j j j (mk [(1,M 1),(34,bv avn)] [(1,Oa (G 2 (aiC t_0)))]) ?_ ?_
 ·refine xq (oFA (r':=.mp 1 0 0) j amg j j)<|xq (oLd (cs:=[.im 0 _]) j tF2 j j)<|xq (oCa (xs:=[.v false [.im 0 _],.v false [.im 0 _],.v false [.im 0 _]]) (vs:=[(false,[.im 0 _])]) (v:=.v false [.im 0 _]) (ao2 hx16) (.inl j) j arb j (ppC j (ppC j (ppC j pp0))) j j pb0 j j j)<|xq (oUn j j j)<|xq (oMv j j)<|?_
  refine ic aqu (fun hc1 aqu=>?_) fun hc1 aqu=>?_
  ·obtain ⟨x21,atG,aqu⟩:=bs aqu
   refine xqT j j (nF (iR.2 hc1)) (oFA (r':=.mp 1 0 1) j aod j j)<|xqT j j (nF (iR.2 hc1)) (oLd (cs:=[.im 0 _]) j tF2 j j)<|xqT j j (nF (iR.2 hc1)) (oCa (xs:=[.v false [.im 0 _],.v false [.im 0 _],.v false [.im 0 _]]) (vs:=[(false,[.im 0 _])]) (v:=.v false [.im 0 _]) (ao2 atG) (.inl j) j arb j (ppC j (ppC j (ppC j pp0))) j j pb0 j j j)<|xqT j j (nF (iR.2 hc1)) (oUn j j j)<|xq (aok j j (nF (iR.2 hc1)) j)<|xq (oMv j j)<|?_
   refine ic aqu (fun hc2 aqu=>?_) fun hc2 aqu=>?_
   ·cases aqu
    exact xqT j j (nF (iR.2 hc2)) (oFA (r':=.mp 1 0 2) j akE j j)<|xqT j j (nF (iR.2 hc2)) (oLd (cs:=[.im 2 _]) j akO j j)<|xqT j j (nF (iR.2 hc2)) (aob j j akP j)<|xqT j j (nF (iR.2 hc2)) (oFA (r':=.mp 1 0 0) j amg j j)<|xqT j j (nF (iR.2 hc2)) (oLd (cs:=[.im 0 _]) j tF2 j j)<|xqT j j (nF (iR.2 hc2)) (oFA (r':=.mp 1 0 1) j aod j j)<|xqT j j (nF (iR.2 hc2)) (oLd (cs:=[.im 0 _]) j tF2 j j)<|xqT j j (nF (iR.2 hc2)) (oBi j j j j)<|xqT j j (nF (iR.2 hc2)) (oBi j j j j)<|xq (aok j j (nF (iR.2 hc2)) j)<|xn
   ·cases aqu
    exact ajo j j (nT (byF iR hc2)) j<|ajo j j (nT (byF iR hc2)) j<|ajo j j (nT (byF iR hc2)) j<|ajo j j (nT (byF iR hc2)) j<|ajo j j (nT (byF iR hc2)) j<|ajo j j (nT (byF iR hc2)) j<|ajo j j (nT (byF iR hc2)) j<|ajo j j (nT (byF iR hc2)) j<|ajo j j (nT (byF iR hc2)) j<|xq (amS j j (nT (byF iR hc2)) j)<|xn
  ·cases aqu
   exact ajo j j (nT (byF iR hc1)) j<|ajo j j (nT (byF iR hc1)) j<|ajo j j (nT (byF iR hc1)) j<|ajo j j (nT (byF iR hc1)) j<|xq (amS j j (nT (byF iR hc1)) j)<|xq (oMv j j)<|ajo j j j j<|ajo j j j j<|ajo j j j j<|ajo j j j j<|ajo j j j j<|ajo j j j j<|ajo j j j j<|ajo j j j j<|ajo j j j j<|xq (amS j j j j)<|xn
 ·refine us<|gc h j iR (fun hc3 h=>?_) fun hc3 h=>?_
  ·refine gs<|g0 j j (q (aiF j j)<|nl)<|us<|Go.ret (Unw.ret ?_)
   cases h
   exact fr aAi j
  ·refine Go.skip<|us<|gs<|gs<|?_
   obtain ⟨x37,aAk,h⟩:=bs h
   obtain ⟨avo,atH,h⟩:=bs h
   refine gX c59 j j j (mk [(1,M 1),(44,bv avo)] [(1,Oa (G 2 (aiC t_0)))]) ?_ ?_
   ·refine xq (oFA (r':=.mp 1 0 2) j akE j j)<|xq (oLd (cs:=[.im 2 _]) j akO j j)<|xq (oCa (xs:=[.v false [.im 2 _]]) (vs:=[(false,[.im 0 _])]) (v:=.v false [.im 0 _]) (ao3 aAk) (.inl j) j aAe j (ppC j pp0) j j pb0 j j j)<|xq (oBi j j j j)<|xq (oMv j j)<|?_
    refine ic atH (fun hc4 atH=>?_) fun hc4 atH=>?_
    ·cases atH
     exact ajo j j (aiK.2 hc4) j<|ajo j j (aiK.2 hc4) j<|ajo j j (aiK.2 hc4) j<|ajo j j (aiK.2 hc4) j<|xq (amS j j (aiK.2 hc4) j)<|xn
    ·obtain ⟨x42,aFO,atH⟩:=bs atH
     cases atH
     exact xqT j j (byF aiK hc4) (oFA (r':=.mp 1 0 2) j akE j j)<|xqT j j (byF aiK hc4) (oLd (cs:=[.im 2 _]) j akO j j)<|xqT j j (byF aiK hc4) (oCa (xs:=[.v false [.im 2 _]]) (vs:=[(false,[.im 0 _])]) (v:=.v false [.im 0 _]) (amI aFO) (.inl j) j aww j (ppC j pp0) j j pb0 j j j)<|xqT j j (byF aiK hc4) (oBi j j j j)<|xq (aok j j (byF aiK hc4) j)<|xn
   ·refine us<|gc h j iR (fun hc5 h=>?_) fun hc5 h=>?_
    ·refine gs<|g0 j j (q (aiF j j)<|nl)<|us<|Go.ret (Unw.ret ?_)
     cases h
     exact fr aAi j
    ·refine Go.skip<|us<|gs<|?_
     obtain ⟨x46,ay0,h⟩:=bs h
     refine g0 j j (q (oLd (cs:=[.im 0 _,.im 0 _,.im 2 _]) j aop j j)<|q (oCa (xs:=[.v true [.im 0 _,.im 0 _,.im 2 _]]) (vs:=[(false,[.im 0 _])]) (v:=.v false [.im 0 _]) (arH ay0) (.inl j) j awx j (ppC j pp0) j j pb0 j j j)<|q (aiF j j)<|nl)<|us<|gs<|gs<|g0 j j (q (oMv j j)<|q (oMv j j)<|nl)<|us<|Go.block<|?_
     obtain ⟨o,hl,h⟩:=bs h
     refine gl c59 j _ (fun (ai9:Int)=>mk [(1,M 1),(47,iv x46),(48,iv ai9)] [(1,Oa (G 2 (aiC t_0)))]) (fun (o:(Unit ⊕ Bool)) (p:Ex×St)=>match o with | (.inl _)=>p.1= .exit 0∧p.2.norm ([],[])=mk [] [] | (.inr r2)=>p.1= .ret∧fin Try.prog cfg 59 Try.f59 [.im 2 true (aiC t_0)] p.2=some (B0 [(false,[.im 0 (V r2)])])) hl (by kernel_rfl) ?_ ?_ ?_
     ·intro o p hp e
      rcases o with u | r2<;>exact nomatch (hp.1.symm.trans e)
     ·rintro ai9 o h
      unfold ajc at h
      refine gs<|g0 j j (q (oBi j j j j)<|nl)<|us<|gs<|gc h j aiK (fun aFP h=>?_) fun aFP h=>?_
      ·refine Go.skip<|us<|gs<|Go.block<|gs<|g0 j j (q (oMv j j)<|q (aiF j j)<|nl)<|us<|gs<|?_
       obtain ⟨x54,axC,h⟩:=bs h
       refine g0 j j (q (oFA (r':=.mp 1 0 2) j akE j j)<|q (oLd (cs:=[.im 2 _]) j akO j j)<|q (oMv j j)<|q (oCa (xs:=[.v false [.im 2 _],.v false [.im 0 _]]) (vs:=[(false,[.im 0 _])]) (v:=.v false [.im 0 _]) (aoM axC) (.inl j) j axv j (ppC j (ppC j pp0)) j j pb0 j j j)<|q (aiF j j)<|nl)<|us<|gs<|gs<|g0 j j (q (oMv j j)<|q (oBi j j j j)<|nl)<|us<|gc h j aiK (fun aFQ h=>?_) fun aFQ h=>?_
       ·refine gs<|g0 j j (q (aiF j j)<|nl)<|us<|Go.ret (Unw.ret ?_)
        cases h
        exact ⟨j,(fo aAi j)⟩
       ·refine Go.skip<|us<|gs<|?_
        obtain ⟨x60,ay1,h⟩:=bs h
        refine g0 j j (q (oFA (r':=.mp 1 0 2) j akE j j)<|q (oLd (cs:=[.im 2 _]) j akO j j)<|q (aob j j akP j)<|q (oMk (en:=eB) j ay1 j aye j j (fxI fx0) j (akm (L:=[_]) j fun _=>j))<|q (oMv j j)<|q (oBS (es:=List.map eI ([x54]:List Int)) j ajw j (ptC j (fxI fx0) j pt0) (akm j fun _=>j))<|q (al2 j j j j j)<|q (al2 j j j j j)<|q (aiF j j)<|nl)<|us<|gs<|?_
        obtain ⟨x65,aEm,h⟩:=bs h
        refine g0 j j (q (oMv j j)<|q (oMv j j)<|q (aqH j aEm aye j j j j)<|q (aA0 (v':=true) tF4 j j j (fxI fx0) j j (akS aEm) j)<|nl)<|us<|gs<|gs<|g1 j j (mk [(1,M 1),(4,iv ai9),(6,H 6 0),(7,H 7 0),(8,iv 0),(47,iv x46),(48,iv ai9)] [(1,Oa (G 2 (aiC t_0))),(6,Oc [Z (W 1 eB (x60.set x54.toNat true))]),(7,Oc [Z (W 1 eI ([x54]:List Int))])]) (q (aiF j j)<|nl)<|us<|Go.block<|?_
        obtain ⟨o,hl,h⟩:=bs h
        refine gl c59 j _ (fun (s:(Int×Int×(List Bool)×(List Int)))=>match s with | (akD,amK,aoI,alN)=>mk [(1,M 1),(4,iv ai9),(6,H 6 0),(7,H 7 0),(8,iv akD),(9,iv amK),(47,iv x46),(48,iv ai9)] [(1,Oa (G 2 (aiC t_0))),(6,Oc [Z (W 1 eB aoI)]),(7,Oc [Z (W 1 eI alN)])]) (fun (anQ:Int) (p:Ex×St)=>p.1= .exit 2∧p.2.norm ([1,4,8,47,48],[1])=mk [(1,M 1),(4,iv ai9),(8,iv anQ),(47,iv x46),(48,iv ai9)] [(1,Oa (G 2 (aiC t_0)))]) hl (by kernel_rfl) ?_ ?_ ?_
        ·intro o p hp e
         exact nomatch (hp.1.symm.trans e)
        ·rintro ⟨akD,amK,aoI,alN⟩ o h
         unfold ajt at h
         dsimp only at h
         refine gs<|gs<|g0 j j (q (oMv j j)<|q (oMv j j)<|q (atq j j akP j j j (fun e=>nomatch e))<|q (oBi j j j j)<|nl)<|us<|gc h j aiK (fun aFR h=>?_) fun aFR h=>?_
         ·refine Go.skip<|us<|gs<|Go.block<|gs<|g0 j j (q (oMv j j)<|q (oBi j j j j)<|q (aiF j j)<|nl)<|us<|gs<|?_
          obtain ⟨x77,aEn,h⟩:=bs h
          obtain ⟨x79,aBI,h⟩:=bs h
          refine gd c59 j j j j (mk [(1,M 1),(4,iv ai9),(6,H 6 0),(7,H 7 0),(8,iv (w64 (akD+1))),(9,iv amK),(47,iv x46),(48,iv ai9),(79,.v true (F 0 (anc x79))),(80,iv 0)] [(1,Oa (G 2 (aiC t_0))),(6,Oc [Z (W 1 eB aoI)]),(7,Oc [Z (W 1 eI alN)])]) (t j j (oLd (cs:=[.im 0 _,.im 0 _,.im 2 _]) j aop j j)<|t j j (oMv j j)<|t j j (oMv j j)<|t j j (aqH j aEn ajw j j j j)<|t j j (asv (cs:=[.im 0 _]) j tF2 j j j j (akS aEn) j j)<|t j j (oMv j j)<|sS (dN z59 j (oCa (xs:=[.v true [.im 0 _,.im 0 _,.im 2 _],.v false [.im 0 _]]) (vs:=[(true,[.im 0 _,.im 0 _,.im 0 _,.im 0 _])]) (v:=.v true [.im 0 _,.im 0 _,.im 0 _,.im 0 _]) (an7 aBI) (.inl j) j atC j (ppC j (ppC j pp0)) j j pb0 j j j)) trivial (sD (by kernel_rfl)))<|us<|Go.block<|?_
          obtain ⟨o,hl,h⟩:=bs h
          refine gl c59 j _ (fun (s:(Int×(List Bool)×(List Int)))=>match s with | (alA,akN,akT)=>mk [(1,M 1),(4,iv ai9),(6,H 6 0),(7,H 7 0),(8,iv (w64 (akD+1))),(9,iv amK),(47,iv x46),(48,iv ai9),(79,.v true (F 0 (anc x79))),(80,iv alA)] [(1,Oa (G 2 (aiC t_0))),(6,Oc [Z (W 1 eB akN)]),(7,Oc [Z (W 1 eI akT)])]) (fun (o:((List Bool)×(List Int))) (p:Ex×St)=>match o with | (anq,amf)=>p.1= .exit 4∧p.2.norm ([1,4,6,7,8,9,47,48],[1,6,7])=mk [(1,M 1),(4,iv ai9),(6,H 6 0),(7,H 7 0),(8,iv (w64 (akD+1))),(9,iv amK),(47,iv x46),(48,iv ai9)] [(1,Oa (G 2 (aiC t_0))),(6,Oc [Z (W 1 eB anq)]),(7,Oc [Z (W 1 eI amf)])]) hl (by kernel_rfl) ?_ ?_ ?_
          ·intro o p hp e
           obtain ⟨anq,amf⟩:=o
           exact nomatch (hp.1.symm.trans e)
          ·rintro ⟨alA,akN,akT⟩ o h
           unfold ajI at h
           dsimp only at h
           refine gs<|g0 j j (q (oBi j j j j)<|nl)<|us<|gs<|gc h j aiK (fun aFS h=>?_) fun aFS h=>?_
           ·refine Go.skip<|us<|gs<|Go.join (fun st=>∃aoH,∃anp,akC alA aoH anp=some o∧st.norm ([1,4,6,7,8,9,47,48,79,80],[1,6,7])=mk [(1,M 1),(4,iv ai9),(6,H 6 0),(7,H 7 0),(8,iv (w64 (akD+1))),(9,iv amK),(47,iv x46),(48,iv ai9),(79,.v true (F 0 (anc x79))),(80,iv alA)] [(1,Oa (G 2 (aiC t_0))),(6,Oc [Z (W 1 eB aoH)]),(7,Oc [Z (W 1 eI anp)])]) ?_ ?_
            ·rintro st ⟨aoH,anp,h,hst⟩
             unfold akC at h
             refine us<|g2 c59 j j hst (q (oBi j j j j)<|q (oMv j j)<|nl)<|Unw.nil<|?_
             cases h
             exact ⟨j,(by kernel_rfl)⟩
            ·intro K98
             refine Go.block<|gs<|?_
             obtain ⟨x82,aDc,h⟩:=bs h
             refine g0 j j (q (aDS (L:=([x79.e0,x79.e1,x79.e2,x79.e3]:List Int)) j aDc aCj zF2 uF2 j j j j j)<|q (aiF j j)<|nl)<|us<|gs<|?_
             obtain ⟨x86,aDg,h⟩:=bs h
             obtain ⟨aty,atI,h⟩:=bs h
             refine gX c59 j j j (mk [(1,M 1),(4,iv ai9),(6,H 6 0),(7,H 7 0),(8,iv (w64 (akD+1))),(9,iv amK),(11,iv x82),(47,iv x46),(48,iv ai9),(79,.v true (F 0 (anc x79))),(80,iv alA),(96,bv aty)] [(1,Oa (G 2 (aiC t_0))),(6,Oc [Z (W 1 eB akN)]),(7,Oc [Z (W 1 eI akT)])]) ?_ ?_
             ·refine xq (oFA (r':=.mp 1 0 2) j akE j j)<|xq (oLd (cs:=[.im 2 _]) j akO j j)<|xq (oMv j j)<|xq (anj j aDg ajw j j)<|xq (oLd (cs:=[.im 2 _]) j tF2 j j)<|xq (oMv j j)<|xq (oBi j j j j)<|xq (oMv j j)<|?_
              refine ic atI (fun hc99 atI=>?_) fun hc99 atI=>?_
              ·obtain ⟨x93,hx93,atI⟩:=bs atI
               cases atI
               exact xqT j j (iEq.2 hc99) (oMv j j)<|xqT j j (iEq.2 hc99) (oMv j j)<|xqT j j (iEq.2 hc99) (aqH j hx93 aye j j j j)<|xqT j j (iEq.2 hc99) (asv (cs:=[.im 0 _]) j tF4 j j j j (akS hx93) j j)<|xqT j j (iEq.2 hc99) (oUn j j j)<|xq (amS j j (iEq.2 hc99) j)<|xn
              ·cases atI
               exact ajo j j (byF iEq hc99) j<|ajo j j (byF iEq hc99) j<|ajo j j (byF iEq hc99) j<|ajo j j (byF iEq hc99) j<|ajo j j (byF iEq hc99) j<|xq (aok j j (byF iEq hc99) j)<|xn
             ·refine us<|gc h j iR (fun aEo h=>?_) fun aEo h=>?_
              ·refine gs<|?_
               obtain ⟨x99,hx99,h⟩:=bs h
               refine g0 j j (q (oMv j j)<|q (oMv j j)<|q (aqH j hx99 aye j j j j)<|q (aA0 (v':=true) tF4 j j j (fxI fx0) j j (akS hx99) j)<|nl)<|us<|?_
               obtain ⟨x103,aEp,h⟩:=bs h
               exact g1 j j (mk [(1,M 1),(4,iv ai9),(6,H 6 0),(7,H 7 0),(8,iv (w64 (akD+1))),(9,iv amK),(11,iv x82),(47,iv x46),(48,iv ai9),(79,.v true (F 0 (anc x79))),(80,iv alA)] [(1,Oa (G 2 (aiC t_0))),(6,Oc [Z (W 1 eB (akN.set x82.toNat true))]),(7,Oc [Z (W 1 eI akT)])]) (q (oMv j j)<|q (oMv j j)<|q (oBS (es:=List.map eI ([x82]:List Int)) j ajw j (ptC j (fxI fx0) j pt0) (akm j fun _=>j))<|q (aqj (en:=eI) (M:=([x82]:List Int)) j aEp j ajw j j akP (.inl ⟨_,j⟩) j j j j (amz j j) (akm j fun _=>j))<|q (al2 j j j j j)<|nl)<|Unw.blk<|K98 _ ⟨(akN.set x82.toNat true),x103,h,(by kernel_rfl)⟩
              ·exact Go.skip<|Unw.blk<|K98 _ ⟨akN,akT,h,(by kernel_rfl)⟩
           ·refine Go.exit<|ux<|Unw.nil<|?_
            cases h
            exact ⟨j,(by kernel_rfl)⟩
          ·rintro ⟨e,st⟩ hp
           obtain ⟨anq,amf⟩:=o
           dsimp only at h
           obtain ⟨he,hst⟩:=hp
           obtain rfl:e= .exit 4:=he
           refine Unw.amy<|Unw.blk<|us<|g2 c59 j j hst (q (oMv j j)<|q (oBi j j j j)<|q (aiF j j)<|nl)<|Unw.nil<|?_
           cases h
           exact ⟨j,(by kernel_rfl)⟩
         ·refine Go.exit<|ux<|Unw.nil<|?_
          cases h
          exact ⟨j,(by kernel_rfl)⟩
        ·rintro ⟨e,st⟩ hp
         obtain ⟨anQ,rfl⟩:∃y,y=o:=⟨o,rfl⟩
         obtain ⟨he,hst⟩:=hp
         obtain rfl:e= .exit 2:=he
         refine Unw.amy<|us<|gs<|gs<|g2 c59 j j hst (q (oFA (r':=.mp 1 0 2) j akE j j)<|q (oLd (cs:=[.im 2 _]) j akO j j)<|q (aob j j akP j)<|q (oMv j j)<|nl)<|us<|Go.block<|?_
         obtain ⟨o,hl,h⟩:=bs h
         refine gl c59 j _ (fun (s:(Int×Int))=>match s with | (alG,alz)=>mk [(1,M 1),(4,iv ai9),(8,iv alG),(47,iv x46),(48,iv ai9),(106,D 2 (W 1 eI t_0.Cells)),(107,iv (t_0.Cells.length:Int)),(108,iv alz)] [(1,Oa (G 2 (aiC t_0)))]) (fun (anR:Int) (p:Ex×St)=>p.1= .exit 6∧p.2.norm ([1,8,47,48],[1])=mk [(1,M 1),(8,iv anR),(47,iv x46),(48,iv ai9)] [(1,Oa (G 2 (aiC t_0)))]) hl (by kernel_rfl) ?_ ?_ ?_
         ·intro o p hp e
          exact nomatch (hp.1.symm.trans e)
         ·rintro ⟨alG,alz⟩ o h
          unfold aj6 at h
          dsimp only at h
          refine gs<|g0 j j (q (oBi j j j j)<|nl)<|us<|gs<|gc h j aiK (fun aFT h=>?_) fun aFT h=>?_
          ·refine Go.skip<|us<|gs<|Go.join (fun st=>∃an4,akB alz an4=some o∧st.norm ([1,4,8,47,48,106,107,108],[1])=mk [(1,M 1),(4,iv ai9),(8,iv an4),(47,iv x46),(48,iv ai9),(106,D 2 (W 1 eI t_0.Cells)),(107,iv (t_0.Cells.length:Int)),(108,iv alz)] [(1,Oa (G 2 (aiC t_0)))]) ?_ ?_
           ·rintro st ⟨an4,h,hst⟩
            unfold akB at h
            refine us<|g2 c59 j j hst (q (oBi j j j j)<|q (oMv j j)<|nl)<|Unw.nil<|?_
            cases h
            exact ⟨j,(by kernel_rfl)⟩
           ·intro K83
            refine Go.block<|gs<|?_
            obtain ⟨axq,aAm,h⟩:=bs h
            refine g0 j j (q (anj j aAm ajw j j)<|q (oLd (cs:=[.im 2 _]) j tF2 j j)<|q (aiF j j)<|nl)<|us<|gs<|g0 j j (q (oMv j j)<|q (oMv j j)<|q (oBi j j j j)<|nl)<|us<|gc h j iEq (fun aFU h=>?_) fun aFU h=>?_
            ·exact g0 j j (q (oMv j j)<|q (oBi j j j j)<|q (aiF j j)<|nl)<|Unw.blk<|K83 _ ⟨(w64 (alG - 1)),h,(by kernel_rfl)⟩
            ·exact Go.skip<|Unw.blk<|K83 _ ⟨alG,h,(by kernel_rfl)⟩
          ·refine Go.exit<|ux<|Unw.nil<|?_
           cases h
           exact ⟨j,(by kernel_rfl)⟩
         ·rintro ⟨e,st⟩ hp
          obtain ⟨anR,rfl⟩:∃y,y=o:=⟨o,rfl⟩
          obtain ⟨he,hst⟩:=hp
          obtain rfl:e= .exit 6:=he
          refine Unw.amy<|us<|gs<|g2 c59 j j hst (q (oMv j j)<|q (oBi j j j j)<|nl)<|us<|gc h j iNe (fun aFV h=>?_) fun aFV h=>?_
          ·refine gs<|g0 j j (q (aiF j j)<|nl)<|us<|Go.ret (Unw.ret ?_)
           cases h
           exact ⟨j,(fo aAi j)⟩
          ·refine Go.skip<|Unw.blk<|us<|g0 j j (q (oBi j j j j)<|q (oMv j j)<|nl)<|Unw.nil<|?_
           cases h
           exact ⟨j,(by kernel_rfl)⟩
      ·refine Go.exit<|ux<|Unw.nil<|?_
       cases h
       exact ⟨j,(by kernel_rfl)⟩
     ·rintro ⟨e,st⟩ hp
      rcases o with u | r2
      ·dsimp only at h
       obtain ⟨he,hst⟩:=hp
       obtain rfl:e= .exit 0:=he
       refine Unw.amy<|us<|gs<|g2 c59 j j hst (q (aiF j j)<|nl)<|us<|Go.ret (Unw.ret ?_)
       cases h
       exact fr aAi j
      ·dsimp only at h
       obtain ⟨he,hfin⟩:=hp
       obtain rfl:e= .ret:=he
       cases h
       exact Unw.ret (al1 hfin)
theorem ap0 {t_0:aiE} {r:(List (List Int))} (h:akQ t_0=some r):FX 61 [.im 2 true (aiC t_0)] (B0 [(false,[.im 0 (W 1 (eL 1 eI) r)])]):=by
 unfold akQ at h
 refine gn 67 Try.func61 rfl ?_
 refine gs<|g0 j j (sqn z61 j (oBx j aop j (tkI (tkI (tkI tk0))))<|sqf z61 j (aph j j aFp) (aE4 j j j)<|nl)<|us<|gs<|?_
 obtain ⟨x11,axA,h⟩:=bs h
 obtain ⟨x12,avs,h⟩:=bs h
 refine g0 j j (sqn z61 j (oLd (cs:=[.im 0 _,.im 0 _,.im 2 _]) j aop j j)<|sqn z61 j (oCa (xs:=[.v true [.im 0 _,.im 0 _,.im 2 _]]) (vs:=[(false,[.im 0 _])]) (v:=.v false [.im 0 _]) (arH axA) (.inl j) j awx j (ppC j pp0) j j pb0 j j j)<|sqn z61 j (aE2 (en:=(eL 1 eI)) j avs j asx j j (fxN fx0) j (azZ j))<|sqn z61 j (aDR j j j j j)<|nl)<|us<|gs<|gs<|g0 j j (sqn z61 j (oFA (r':=.mp 1 0 2) j akE j j)<|sqn z61 j (oLd (cs:=[.im 2 _]) j akO j j)<|sqn z61 j (aob j j akP j)<|sqn z61 j (oMv j j)<|nl)<|us<|Go.block<|?_
 obtain ⟨o,hl,h⟩:=bs h
 refine gl c61 j _ (fun (s:(Int×(List (List Int))))=>match s with | (anS,akX)=>mk [(1,M 1),(3,H 3 0),(14,D 2 (W 1 eI t_0.Cells)),(15,iv (t_0.Cells.length:Int)),(16,iv anS)] [(1,Oa (G 2 (aiC t_0))),(3,Oc [⟨.dp 0,0,0,W 1 (eL 1 eI) akX⟩])]) (fun (ajF:(List (List Int))) (p:Ex×St)=>p.1= .exit 0∧p.2.norm ([3],[3])=mk [(3,H 3 0)] [(3,Oc [⟨.dp 0,0,0,W 1 (eL 1 eI) ajF⟩])]) hl (by kernel_rfl) ?_ ?_ ?_
 ·intro o p hp e
  exact nomatch (hp.1.symm.trans e)
 ·rintro ⟨anS,akX⟩ o h
  unfold aju at h
  dsimp only at h
  refine gs<|g0 j j (sqn z61 j (oBi j j j j)<|nl)<|us<|gs<|gc h j aiK (fun aAn h=>?_) fun aAn h=>?_
  ·refine Go.skip<|us<|gs<|Go.block<|gs<|?_
   obtain ⟨x19,axB,h⟩:=bs h
   refine g0 j j (sqn z61 j (oMv j j)<|sqn z61 j (anj j axB ajw j j)<|sqn z61 j (oLd (cs:=[.im 2 _]) j tF2 j j)<|sqn z61 j (aiF j j)<|sqn z61 j (aiF j j)<|nl)<|us<|gs<|?_
   obtain ⟨x23,aAj,h⟩:=bs h
   refine g0 j j (sqn z61 j (oLd (cs:=[.im 0 _,.im 0 _,.im 2 _]) j aop j j)<|sqn z61 j (oMv j j)<|sqn z61 j (oCa (xs:=[.v true [.im 0 _,.im 0 _,.im 2 _],.v false [.im 0 _]]) (vs:=[(true,[.im 0 _,.im 0 _,.im 0 _,.im 0 _])]) (v:=.v true [.im 0 _,.im 0 _,.im 0 _,.im 0 _]) (an7 aAj) (.inl j) j atC j (ppC j (ppC j pp0)) j j pb0 j j j)<|sqn z61 j (oMv j j)<|nl)<|us<|Go.block<|?_
   obtain ⟨o,hl,h⟩:=bs h
   refine gl c61 j _ (fun (s:(Int×(List (List Int))))=>match s with | (anr,alY)=>mk [(1,M 1),(3,H 3 0),(5,iv x19),(14,D 2 (W 1 eI t_0.Cells)),(15,iv (t_0.Cells.length:Int)),(16,iv anS),(23,.v true (F 0 (anc x23))),(24,iv anr)] [(1,Oa (G 2 (aiC t_0))),(3,Oc [⟨.dp 0,0,0,W 1 (eL 1 eI) alY⟩])]) (fun (aoV:(List (List Int))) (p:Ex×St)=>p.1= .exit 2∧p.2.norm ([1,3,14,15,16],[1,3])=mk [(1,M 1),(3,H 3 0),(14,D 2 (W 1 eI t_0.Cells)),(15,iv (t_0.Cells.length:Int)),(16,iv anS)] [(1,Oa (G 2 (aiC t_0))),(3,Oc [⟨.dp 0,0,0,W 1 (eL 1 eI) aoV⟩])]) hl (by kernel_rfl) ?_ ?_ ?_
   ·intro o p hp e
    exact nomatch (hp.1.symm.trans e)
   ·rintro ⟨anr,alY⟩ o h
    unfold ai6 at h
    dsimp only at h
    refine gs<|g0 j j (sqn z61 j (oBi j j j j)<|nl)<|us<|gs<|gc h j aiK (fun hc19 h=>?_) fun hc19 h=>?_
    ·refine Go.skip<|us<|gs<|Go.join (fun st=>∃aoJ,ajD anr aoJ=some o∧st.norm ([1,3,5,14,15,16,23,24],[1,3])=mk [(1,M 1),(3,H 3 0),(5,iv x19),(14,D 2 (W 1 eI t_0.Cells)),(15,iv (t_0.Cells.length:Int)),(16,iv anS),(23,.v true (F 0 (anc x23))),(24,iv anr)] [(1,Oa (G 2 (aiC t_0))),(3,Oc [⟨.dp 0,0,0,W 1 (eL 1 eI) aoJ⟩])]) ?_ ?_
     ·rintro st ⟨aoJ,h,hst⟩
      unfold ajD at h
      refine us<|g2 c61 j j hst (sqn z61 j (oBi j j j j)<|sqn z61 j (oMv j j)<|nl)<|Unw.nil<|?_
      cases h
      exact ⟨j,(by kernel_rfl)⟩
     ·intro K21
      refine Go.block<|gs<|?_
      obtain ⟨x26,axy,h⟩:=bs h
      refine g0 j j (sqn z61 j (aDS (L:=([x23.e0,x23.e1,x23.e2,x23.e3]:List Int)) j axy aCj zF2 uF2 j j j j j)<|sqn z61 j (aiF j j)<|nl)<|us<|gs<|?_
      obtain ⟨x30,aC9,h⟩:=bs h
      refine g0 j j (sqn z61 j (oFA (r':=.mp 1 0 2) j akE j j)<|sqn z61 j (oLd (cs:=[.im 2 _]) j akO j j)<|sqn z61 j (oMv j j)<|sqn z61 j (anj j aC9 ajw j j)<|sqn z61 j (oLd (cs:=[.im 2 _]) j tF2 j j)<|sqn z61 j (aiF j j)<|nl)<|us<|gs<|g0 j j (sqn z61 j (oMv j j)<|sqn z61 j (oMv j j)<|sqn z61 j (oBi j j j j)<|nl)<|us<|gc h j iNe (fun hc22 h=>?_) fun hc22 h=>?_
      ·obtain ⟨x39,hx39,h⟩:=bs h
       obtain ⟨x43,axx,h⟩:=bs h
       obtain ⟨x44,aAl,h⟩:=bs h
       exact g0 j j (sqn z61 j (oMv j j)<|sqn z61 j (oMv j j)<|sqn z61 j (oMv j j)<|sqn z61 j (oMv j j)<|sqn z61 j (az2 j hx39 asx j j j j (fun e=>nomatch e))<|sqn z61 j (aCQ (cs:=[.inr 3 0 0 _ 0 0]) j akO j j j (akS hx39) j j)<|sqn z61 j (oMv j j)<|sqn z61 j (oBS (es:=List.map eI ([x30]:List Int)) j ajw j (ptC j (fxI fx0) j pt0) (akm j fun _=>j))<|sqn z61 j (aE7 (en:=eI) (M:=([x30]:List Int)) j axx j ajw j j akP (.inl ⟨_,j⟩) j j j (akS hx39) j j (amz j j) (akm j fun _=>j))<|sqn z61 j (az2 j aAl asx j j j j (fun e=>nomatch e))<|sq0 (aDQ (v':=x43) akO j j j j (tkO j j tk0) j j (akS aAl) j)<|nl)<|Unw.blk<|K21 _ ⟨(alY.set x19.toNat x43),h,(by kernel_rfl)⟩
      ·exact Go.skip<|Unw.blk<|K21 _ ⟨alY,h,(by kernel_rfl)⟩
    ·refine Go.exit<|ux<|Unw.nil<|?_
     cases h
     exact ⟨j,(by kernel_rfl)⟩
   ·rintro ⟨e,st⟩ hp
    obtain ⟨aoV,rfl⟩:∃y,y=o:=⟨o,rfl⟩
    obtain ⟨he,hst⟩:=hp
    obtain rfl:e= .exit 2:=he
    refine Unw.amy<|Unw.blk<|us<|g2 c61 j j hst (sqn z61 j (oBi j j j j)<|sqn z61 j (oMv j j)<|nl)<|Unw.nil<|?_
    cases h
    exact ⟨j,(by kernel_rfl)⟩
  ·refine Go.exit<|ux<|Unw.nil<|?_
   cases h
   exact ⟨j,(by kernel_rfl)⟩
 ·rintro ⟨e,st⟩ hp
  obtain ⟨ajF,rfl⟩:∃y,y=o:=⟨o,rfl⟩
  obtain ⟨he,hst⟩:=hp
  obtain rfl:e= .exit 0:=he
  refine Unw.amy<|us<|gs<|gs<|g2 c61 j j hst (sqn z61 j (oMv j j)<|sqn z61 j (atq j j aBG j j j (fun e=>nomatch e))<|sqn z61 j (oMv j j)<|nl)<|us<|Go.block<|?_
  obtain ⟨o,hl,h⟩:=bs h
  refine gl c61 j _ (fun (s:(Int×(List (List Int))))=>match s with | (akp,als)=>mk [(3,H 3 0),(48,iv (ajF.length:Int)),(49,iv akp)] [(3,Oc [⟨.dp 0,0,0,W 1 (eL 1 eI) als⟩])]) (fun (aon:(List (List Int))) (p:Ex×St)=>p.1= .exit 4∧p.2.norm ([3],[3])=mk [(3,H 3 0)] [(3,Oc [⟨.dp 0,0,0,W 1 (eL 1 eI) aon⟩])]) hl (by kernel_rfl) ?_ ?_ ?_
  ·intro o p hp e
   exact nomatch (hp.1.symm.trans e)
  ·rintro ⟨akp,als⟩ o h
   unfold ajC at h
   dsimp only at h
   refine gs<|g0 j j (sqn z61 j (oBi j j j j)<|nl)<|us<|gs<|gc h j aiK (fun hc13 h=>?_) fun hc13 h=>?_
   ·refine Go.skip<|us<|gs<|Go.block<|gs<|g0 j j (sqn z61 j (oMv j j)<|sqn z61 j (aiF j j)<|nl)<|us<|gs<|?_
    obtain ⟨x54,axC,h⟩:=bs h
    obtain ⟨x56,aFW,h⟩:=bs h
    refine g0 j j (sqn z61 j (oMv j j)<|sqn z61 j (oMv j j)<|sqn z61 j (az2 j axC asx j j j j (fun e=>nomatch e))<|sqn z61 j (aCQ (cs:=[.inr 3 0 0 _ 0 0]) j akO j j j (akS axC) j j)<|sqn z61 j (oCI (u':=x56) j j j j (akS axC) j j (aBa j aFW) j j)<|nl)<|us<|?_
    obtain ⟨x61,arc,h⟩:=bs h
    obtain ⟨x63,aDb,h⟩:=bs h
    obtain ⟨x64,aEq,h⟩:=bs h
    refine g1 j j (mk [(3,H 3 0),(9,iv akp),(48,iv (ajF.length:Int)),(49,iv akp)] [(3,Oc [⟨.dp 0,0,0,W 1 (eL 1 eI) (als.set akp.toNat x56)⟩])]) (sqn z61 j (oMv j j)<|sqn z61 j (oMv j j)<|sqn z61 j (oMv j j)<|sqn z61 j (oMv j j)<|sqn z61 j (az2 j arc asx j j j j (fun e=>nomatch e))<|sqn z61 j (aCQ (cs:=[.inr 3 0 0 _ 0 0]) j akO j j j (akS arc) j j)<|sqn z61 j (oCr (xs:=[.v false [.inr 3 0 0 _ 0 0]]) (vs:=[(false,[.own 63 0 0])]) (v:=.v false [.own 63 0 0]) (c:=⟨.sh,0,_⟩) (cs:=[]) (axp j aDb) (.inl j) j aAf j (ppM (ayK j j (akS arc) j) pp0) j j pb0 j j j)<|sqn z61 j (az2 j aEq asx j j j j (fun e=>nomatch e))<|sq0 (aDQ (v':=x63) akO j j j j (tkO j j tk0) j j (akS aEq) j)<|nl)<|Unw.blk<|us<|g1 j j (mk [(3,H 3 0),(48,iv (ajF.length:Int)),(49,iv akp)] [(3,Oc [⟨.dp 0,0,0,W 1 (eL 1 eI) ((als.set akp.toNat x56).set akp.toNat x63)⟩])]) (sqn z61 j (oBi j j j j)<|sqn z61 j (oMv j j)<|nl)<|Unw.nil<|?_
    cases h
    exact ⟨j,(by kernel_rfl)⟩
   ·refine Go.exit<|ux<|Unw.nil<|?_
    cases h
    exact ⟨j,(by kernel_rfl)⟩
  ·rintro ⟨e,st⟩ hp
   obtain ⟨aon,rfl⟩:∃y,y=o:=⟨o,rfl⟩
   obtain ⟨he,hst⟩:=hp
   obtain rfl:e= .exit 4:=he
   refine Unw.amy<|us<|gs<|g2 c61 j j hst (sqn z61 j (oMv j j)<|sqf z61 j (aDR j j j j j) (aE5 j j j)<|nl)<|us<|Go.ret (Unw.ret ?_)
   cases h
   exact fr aFx j
theorem aoN {m_0:Int} {aoG:Int} {avp:(List Int)} {avq:Int} {r:Bool} (h:aiX m_0 aoG avp avq=some r):FX 112 [.im 2 false [I m_0],.im 2 false [.cp [I aoG] 0],.im 2 false [.cp [W 1 eI avp] 0],.im 2 false [.cp [I avq] 0]] (B0 [(false,[.im 0 (V r)])]):=by
 unfold aiX at h
 refine gn 17 Try.func112 rfl ?_
 refine gs<|g0 j j (q (aiF j j)<|nl)<|us<|gs<|?_
 obtain ⟨axs,hm2,h⟩:=bs h
 refine gd aDY j j j j (mk [(5,bv axs)] []) ?_ ?_
 ·refine t j j (oMv j j)<|t j j (oLd (cs:=[.im 2 _]) j tF2 j j)<|t j j (oBi j j j j)<|t j j (oMv j j)<|?_
  refine ic hm2 (fun hc1 hm2=>?_) fun hc1 hm2=>?_
  ·obtain ⟨x12,avs,hm2⟩:=bs hm2
   cases hm2
   exact tT j j j j (aiK.2 hc1) (oLd (cs:=[.im 2 _]) j akO j j)<|tT j j j j (aiK.2 hc1) (oMv j j)<|tT j j j j (aiK.2 hc1) (anj j avs ajw j j)<|tT j j j j (aiK.2 hc1) (oLd (cs:=[.im 2 _]) j tF2 j j)<|tT j j j j (aiK.2 hc1) (oLd (cs:=[.im 2 _]) j tF2 j j)<|tT j j j j (aiK.2 hc1) (oBi j j j j)<|t j j (amS j j (aiK.2 hc1) j)<|sS (dN aDZ j (aiF j j)) trivial (sD (by kernel_rfl))
  ·cases hm2
   exact tF j j j j (byF aiK hc1) j<|tF j j j j (byF aiK hc1) j<|tF j j j j (byF aiK hc1) j<|tF j j j j (byF aiK hc1) j<|tF j j j j (byF aiK hc1) j<|tF j j j j (byF aiK hc1) j<|t j j (aok j j (byF aiK hc1) j)<|sS (dN aDZ j (aiF j j)) trivial (sD (by kernel_rfl))
 ·refine us<|Go.ret (Unw.ret ?_)
  cases h
  exact fr aD9 j
theorem amX {s_0:(List Int)} {apP:Int} {apQ:(List Int)} {apR:Int} {r:Int} (h:ajY s_0 (fun b0=>aiX b0 apP apQ apR)=some r):FX 157 [.im 2 false [W 1 eI s_0],.im 2 false [.clo 112 [.cp [I apP] 0,.cp [W 1 eI apQ] 0,.cp [I apR] 0]]] (B0 [(false,[.im 0 (I r)])]):=by
 unfold ajY at h
 refine gn 19 Try.func157 rfl ?_
 refine gs<|g0 j j (q (aiF j j)<|nl)<|us<|gs<|gs<|g0 j j (q (oMv j j)<|q (aob j j akP j)<|q (oMv j j)<|nl)<|us<|Go.block<|?_
 obtain ⟨o,hl,h⟩:=bs h
 refine gl c157 j _ (fun (amU:Int)=>mk [(0,D 2 (W 1 eI s_0)),(1,D 2 (.clo 112 [.cp [I apP] 0,.cp [W 1 eI apQ] 0,.cp [I apR] 0])),(7,iv (s_0.length:Int)),(8,iv amU)] []) (fun (o:(Unit ⊕ Int)) (p:Ex×St)=>match o with | (.inl _)=>p.1= .exit 0∧p.2.norm ([],[])=mk [] [] | (.inr r2)=>p.1= .ret∧fin Try.prog cfg 157 Try.f157 [.im 2 false [W 1 eI s_0],.im 2 false [.clo 112 [.cp [I apP] 0,.cp [W 1 eI apQ] 0,.cp [I apR] 0]]] p.2=some (B0 [(false,[.im 0 (I r2)])])) hl (by kernel_rfl) ?_ ?_ ?_
 ·intro o p hp e
  rcases o with u | r2<;>exact nomatch (hp.1.symm.trans e)
 ·rintro amU o h
  unfold aji at h
  refine gs<|g0 j j (q (oBi j j j j)<|nl)<|us<|gs<|gc h j aiK (fun hc5 h=>?_) fun hc5 h=>?_
  ·refine Go.skip<|us<|gs<|Go.block<|gs<|g0 j j (q (oMv j j)<|q (aiF j j)<|nl)<|us<|gs<|?_
   obtain ⟨x14,avt,h⟩:=bs h
   obtain ⟨x16,hx16,h⟩:=bs h
   refine g0 j j (q (oMv j j)<|q (oMv j j)<|q (oMv j j)<|q (anj j avt ajw j j)<|q (oLd (cs:=[.im 2 _]) j tF2 j j)<|q (oCa (xs:=[.v false [.im 2 _],.v false [.im 2 _],.v false [.im 2 _],.v false [.im 2 _]]) (vs:=[(false,[.im 0 _])]) (v:=.v false [.im 0 _]) (aoN hx16) (.inr ⟨_,_,j,j⟩) j atX j (ppC j (ppC j (ppC j (ppC j pp0)))) j j pb0 j j j)<|nl)<|us<|gc h j iR (fun hc6 h=>?_) fun hc6 h=>?_
   ·refine gs<|g0 j j (q (oMv j j)<|q (aiF j j)<|nl)<|us<|Go.ret (Unw.ret ?_)
    cases h
    exact ⟨j,(fo aCh j)⟩
   ·refine Go.skip<|Unw.blk<|us<|g0 j j (q (oBi j j j j)<|q (oMv j j)<|nl)<|Unw.nil<|?_
    cases h
    exact ⟨j,(by kernel_rfl)⟩
  ·refine Go.exit<|ux<|Unw.nil<|?_
   cases h
   exact ⟨j,(by kernel_rfl)⟩
 ·rintro ⟨e,st⟩ hp
  rcases o with u | r2
  ·dsimp only at h
   obtain ⟨he,hst⟩:=hp
   obtain rfl:e= .exit 0:=he
   refine Unw.amy<|us<|gs<|g2 c157 j j hst (q (aiF j j)<|nl)<|us<|Go.ret (Unw.ret ?_)
   cases h
   exact fr aCh j
  ·dsimp only at h
   obtain ⟨he,hfin⟩:=hp
   obtain rfl:e= .ret:=he
   cases h
   exact Unw.ret (al1 hfin)
theorem amu {s_0:(List Int)} {apP:Int} {apQ:(List Int)} {apR:Int} {r:Bool} (h:ajj s_0 (fun b0=>aiX b0 apP apQ apR)=some r):FX 111 [.im 2 false [W 1 eI s_0],.im 2 false [.clo 112 [.cp [I apP] 0,.cp [W 1 eI apQ] 0,.cp [I apR] 0]]] (B0 [(false,[.im 0 (V r)])]):=by
 unfold ajj at h
 refine gn 9 Try.func111 rfl ?_
 refine gs<|g0 j j (q (aiF j j)<|nl)<|us<|gs<|?_
 obtain ⟨x7,hx7,h⟩:=bs h
 refine g0 j j (q (oMv j j)<|q (oMv j j)<|q (oCa (xs:=[.v false [.im 2 _],.v false [.im 2 _]]) (vs:=[(false,[.im 0 _])]) (v:=.v false [.im 0 _]) (amX hx7) (.inl j) j awz j (ppC j (ppC j pp0)) j j pb0 j j j)<|q (oBi j j j j)<|q (aiF j j)<|nl)<|us<|Go.ret (Unw.ret ?_)
 cases h
 exact fr aD8 j
theorem apx {self:(aiP×(List Int)×Int×Int)→Option ((List Int)×Int×aiP)} (ih:∀{s_0:aiP} {aiJ:(List Int)} {ajK:Int} {ajJ:Int} {r:((List Int)×Int×aiP)},self (s_0,aiJ,ajK,ajJ)=some r→FX 62 [.ptr true [(.imm,W 1 (eL 1 eI) s_0.near),(.imm,I s_0.left)],.mv 1 (List.map eI aiJ),.im 2 false [I ajK],.im 2 false [I ajJ]] ([(false,[.ow 0 1 (List.map eI r.1)]),(false,[.im 0 (I r.2.1)])],[.ptr true [(.imm,W 1 (eL 1 eI) r.2.2.near),(.imm,I r.2.2.left)]])) {s_0:aiP} {aiJ:(List Int)} {ajK:Int} {ajJ:Int} {r:((List Int)×Int×aiP)} (h:ajk self s_0 aiJ ajK ajJ=some r):FX 62 [.ptr true [(.imm,W 1 (eL 1 eI) s_0.near),(.imm,I s_0.left)],.mv 1 (List.map eI aiJ),.im 2 false [I ajK],.im 2 false [I ajJ]] ([(false,[.ow 0 1 (List.map eI r.1)]),(false,[.im 0 (I r.2.1)])],[.ptr true [(.imm,W 1 (eL 1 eI) r.2.2.near),(.imm,I r.2.2.left)]]):=by
 unfold ajk at h
 refine ar6 (A:=[(0,M 0),(1,H 1 0),(2,D 2 (I ajK)),(3,D 2 (I ajJ))]) (B:=[(0,Od (G 1 (aoK s_0))),(1,Oc [Z (W 1 eI aiJ)]),(2,none),(3,none)]) (nt:=75) rfl rfl Try.func62 rfl rfl rfl rfl ?_
 refine gs<|g0 j j (q (oBx j akO j (tkO j j tk0))<|q (aph j j apZ)<|q (aiF j j)<|nl)<|us<|gs<|gs<|g0 j j (q (oMv j j)<|q (oNl j j j)<|q (oFA (r':=.mp 0 0 1) j axt j j)<|q (oLd (cs:=[.im 0 _]) j tF2 j j)<|q (oBi j j j j)<|nl)<|us<|gc h j iEq (fun hc1 h=>?_) fun hc1 h=>?_
 ·refine gs<|g0 j j (q (aph j j apZ)<|q (aiF j j)<|nl)<|us<|Go.ret (Unw.ret ?_)
  cases h
  exact fr aBF j
 ·refine Go.skip<|us<|gs<|g0 j j (q (oMv j j)<|q (oNl j j j)<|q (oFA (r':=.mp 0 0 1) j axt j j)<|q (oLd (cs:=[.im 0 _]) j tF2 j j)<|q (oBi j j j j)<|q (oNl j j j)<|q (oFA (r':=.mp 0 0 1) j axt j j)<|q (oSt tF2 j j j (tkI tk0) j j j)<|nl)<|us<|gs<|g1 j j (mk [(0,M 0),(2,iv ajK),(3,iv ajJ),(5,M 5)] [(0,Od [Ct 1 (W 1 (eL 1 eI) s_0.near),C (I (w64 (s_0.left - 1)))]),(5,Ob [Z (W 1 eI aiJ)])]) (q (oLd (cs:=[.own 5 0 0]) j akO j j)<|q (atq j j akP j j j (fun e=>nomatch e))<|q (oAl j tF2 (tkI tk0))<|q (oSt tF2 j j j (tkI tk0) j j j)<|nl)<|us<|gs<|gs<|gd c62 j j j (st1:=mk [(0,M 0),(2,iv ajK),(3,iv ajJ),(5,M 5),(10,M 10)] [(0,Od [Ct 1 (W 1 (eL 1 eI) s_0.near),C (I (w64 (s_0.left - 1)))]),(5,Ob [Z (W 1 eI aiJ)]),(10,Ob [C (I (aiJ.length:Int))])]) (by kernel_rfl) (mk [(0,M 0),(2,iv ajK),(3,iv ajJ),(5,M 5),(10,M 10),(34,bv ((aiJ.length:Int)==(s_0.near.length:Int)))] [(0,Od [Ct 1 (W 1 (eL 1 eI) s_0.near),C (I (w64 (s_0.left - 1)))]),(5,Ob [Z (W 1 eI aiJ)]),(10,Ob [C (I (aiJ.length:Int))])]) (t j j (oLd (cs:=[.im 0 _]) j tF2 j j)<|t j j (oMv j j)<|t j j (oNl j j j)<|t j j (oFA (r':=.mp 0 0 0) j aAd j j)<|t j j (oLd (cs:=[.im 1 _]) j awE j j)<|t j j (aob j j aBG j)<|t j j (oBi j j j j)<|sD (by kernel_rfl))<|us<|gc h j iEq (fun hc2 h=>?_) fun hc2 h=>?_
  ·refine gs<|g0 j j (q (oLd (cs:=[.own 5 0 0]) j akO j j)<|q (al2 j j j j j)<|q (aiF j j)<|nl)<|us<|Go.ret (Unw.ret ?_)
   cases h
   exact fr aBF j
  ·refine Go.skip<|us<|gs<|gs<|g0 j j (q (oAl j tF2 (tkI tk0))<|q (oSt tF2 j j j (tkI tk0) j j j)<|nl)<|us<|Go.block<|?_
   obtain ⟨o,hl,h⟩:=bs h
   refine gl c62 j _ (fun (s:((List (List Int))×Int×Int))=>match s with | (akI,ak0,aiO)=>mk [(0,M 0),(2,iv ajK),(3,iv ajJ),(5,M 5),(10,M 10),(11,M 11)] [(0,Od [Ct 1 (W 1 (eL 1 eI) akI),C (I ak0)]),(5,Ob [Z (W 1 eI aiJ)]),(10,Ob [C (I (aiJ.length:Int))]),(11,Ob [C (I aiO)])]) (fun (o:(((List (List Int))×Int) ⊕ ((List Int)×Int×aiP))) (p:Ex×St)=>match o with | (.inl (an5,an6))=>p.1= .exit 0∧p.2.norm ([],[0])=mk [] [(0,Od [Ct 1 (W 1 (eL 1 eI) an5),C (I an6)])] | (.inr r2)=>p.1= .ret∧fin Try.prog cfg 62 Try.f62 [.ptr true [(.imm,W 1 (eL 1 eI) s_0.near),(.imm,I s_0.left)],.mv 1 (List.map eI aiJ),.im 2 false [I ajK],.im 2 false [I ajJ]] p.2=some ([(false,[.ow 0 1 (List.map eI r2.1)]),(false,[.im 0 (I r2.2.1)])],[.ptr true [(.imm,W 1 (eL 1 eI) r2.2.2.near),(.imm,I r2.2.2.left)]])) hl (by kernel_rfl) ?_ ?_ ?_
   ·intro o p hp e
    rcases o with ⟨an5,an6⟩ | r2<;>exact nomatch (hp.1.symm.trans e)
   ·rintro ⟨akI,ak0,aiO⟩ o h
    unfold ajh at h
    dsimp only at h
    refine gs<|gs<|gX c62 j j j (mk [(0,M 0),(2,iv ajK),(3,iv ajJ),(5,M 5),(10,M 10),(11,M 11),(43,bv ((decide (aiO<ajJ))&&(decide (aiO≤ajK))))] [(0,Od [Ct 1 (W 1 (eL 1 eI) akI),C (I ak0)]),(5,Ob [Z (W 1 eI aiJ)]),(10,Ob [C (I (aiJ.length:Int))]),(11,Ob [C (I aiO)])]) ?_ ?_
    ·refine xq (oLd (cs:=[.im 0 _]) j tF2 j j)<|xq (oMv j j)<|xq (oBi j j j j)<|xq (oMv j j)<|?_
     by_cases aoL:aiO<ajJ
     ·exact xqT rfl rfl (aiK.2 aoL) (oLd (cs:=[.im 0 _]) rfl tF2 rfl rfl)<|xqT rfl rfl (aiK.2 aoL) (oMv rfl rfl)<|xqT rfl rfl (aiK.2 aoL) (oBi rfl rfl rfl rfl)<|xq (amS rfl rfl (aiK.2 aoL) rfl)<|xn (Eq.trans (b:=(fun apS:Bool=>mk [(0,M 0),(2,iv ajK),(3,iv ajJ),(5,M 5),(10,M 10),(11,M 11),(43,bv apS)] [(0,Od [Ct 1 (W 1 (eL 1 eI) akI),C (I ak0)]),(5,Ob [Z (W 1 eI aiJ)]),(10,Ob [C (I (aiJ.length:Int))]),(11,Ob [C (I aiO)])]) (decide (aiO≤ajK))) (by kernel_rfl) (congrArg (fun apS:Bool=>mk [(0,M 0),(2,iv ajK),(3,iv ajJ),(5,M 5),(10,M 10),(11,M 11),(43,bv apS)] [(0,Od [Ct 1 (W 1 (eL 1 eI) akI),C (I ak0)]),(5,Ob [Z (W 1 eI aiJ)]),(10,Ob [C (I (aiJ.length:Int))]),(11,Ob [C (I aiO)])]) (by first | rfl | (simp [(aiK.2 aoL)];done) | (simp [(aiK.2 aoL)];omega))))
     ·exact ajo rfl rfl (byF aiK aoL) rfl<|ajo rfl rfl (byF aiK aoL) rfl<|ajo rfl rfl (byF aiK aoL) rfl<|xq (aok rfl rfl (byF aiK aoL) rfl)<|xn (Eq.trans (b:=(fun apS:Bool=>mk [(0,M 0),(2,iv ajK),(3,iv ajJ),(5,M 5),(10,M 10),(11,M 11),(43,bv apS)] [(0,Od [Ct 1 (W 1 (eL 1 eI) akI),C (I ak0)]),(5,Ob [Z (W 1 eI aiJ)]),(10,Ob [C (I (aiJ.length:Int))]),(11,Ob [C (I aiO)])]) false) (by kernel_rfl) (congrArg (fun apS:Bool=>mk [(0,M 0),(2,iv ajK),(3,iv ajJ),(5,M 5),(10,M 10),(11,M 11),(43,bv apS)] [(0,Od [Ct 1 (W 1 (eL 1 eI) akI),C (I ak0)]),(5,Ob [Z (W 1 eI aiJ)]),(10,Ob [C (I (aiJ.length:Int))]),(11,Ob [C (I aiO)])]) (by first | rfl | (simp [(byF aiK aoL)];done) | (simp [(byF aiK aoL)];omega))))
    ·refine us<|gc h j (aFb aiK aiK) (fun hc12 h=>?_) fun hc12 h=>?_
     ·refine Go.skip<|us<|gs<|Go.join (fun st=>∃anI,∃anJ,ajr self aiO anI anJ=some o∧st.norm ([0,2,3,5,10,11],[0,5,10,11])=mk [(0,M 0),(2,iv ajK),(3,iv ajJ),(5,M 5),(10,M 10),(11,M 11)] [(0,Od [Ct 1 (W 1 (eL 1 eI) anI),C (I anJ)]),(5,Ob [Z (W 1 eI aiJ)]),(10,Ob [C (I (aiJ.length:Int))]),(11,Ob [C (I aiO)])]) ?_ ?_
      ·rintro st ⟨anI,anJ,h,hst⟩
       unfold ajr at h
       refine us<|gs<|gs<|g2 c62 j j hst (q (oLd (cs:=[.im 0 _]) j tF2 j j)<|nl)<|us<|g0 j j (q (oAl j tF2 (tkI tk0))<|q (oSt tF2 j j j (tkI tk0) j j j)<|nl)<|us<|g1 j j (mk [(0,M 0),(2,iv ajK),(3,iv ajJ),(5,M 5),(10,M 10),(11,M 11)] [(0,Od [Ct 1 (W 1 (eL 1 eI) anI),C (I anJ)]),(5,Ob [Z (W 1 eI aiJ)]),(10,Ob [C (I (aiJ.length:Int))]),(11,Ob [C (I aiO)])]) (q (oLd (cs:=[.im 0 _]) j tF2 j j)<|q (oBi j j j j)<|q (oSt tF2 j j j (tkI tk0) j j j)<|nl)<|Unw.nil<|?_
       cases h
       exact ⟨j,(by kernel_rfl)⟩
      ·intro K15
       refine Go.block<|gs<|gs<|?_
       obtain ⟨x51,aFX,h⟩:=bs h
       obtain ⟨x54,axC,h⟩:=bs h
       refine gd c62 j j j j (mk [(0,M 0),(2,iv ajK),(3,iv ajJ),(5,M 5),(10,M 10),(11,M 11),(54,bv x54)] [(0,Od [Ct 1 (W 1 (eL 1 eI) akI),C (I ak0)]),(5,Ob [Z (W 1 eI aiJ)]),(10,Ob [C (I (aiJ.length:Int))]),(11,Ob [C (I aiO)])]) (t j j (oMv j j)<|sK (O:=[0]) j j j (dN z62 j (oNl j j j))<|sK (O:=[0]) j j j (dN z62 j (oFA (r':=.mp 0 0 0) j aAd j j))<|sK (O:=[0]) j j j (dN z62 j (oLd (cs:=[.im 1 _]) j awE j j))<|sK (O:=[10]) j j j (dN z62 j (oLd (cs:=[.im 0 _]) j tF2 j j))<|t j j (anj j aFX asx j j)<|t j j (oLd (cs:=[.im 1 _]) j akO j j)<|sS (dN z62 j (oMF (rs:=[.mp 10 0 0,.mp 5 0 0,.mp 11 0 0]) j j)) (kY ⟨j,trivial⟩ (kY ⟨j,trivial⟩ (kY ⟨j,trivial⟩ (kY ⟨j,trivial⟩ trivial)))) (sS (dN z62 j (oCa (xs:=[.v false [.im 1 _],.fn 112 [.mp 10 0 0,.mp 5 0 0,.mp 11 0 0]]) (vs:=[(false,[.im 0 _])]) (v:=.v false [.im 0 _]) (amu axC) (.inl j) j awy j (ppC j (ppC j pp0)) j j pb0 j j j)) (kN j (kN j (kN j (kN j trivial)))) (sD (by kernel_rfl))))<|us<|gc h j iR (fun hc16 h=>?_) fun hc16 h=>?_
       ·exact Go.exit<|ux<|Unw.amy<|K15 _ ⟨akI,ak0,h,(by kernel_rfl)⟩
       ·refine Go.skip<|us<|gs<|?_
        obtain ⟨x58,atZ,h⟩:=bs h
        obtain ⟨x61,arc,h⟩:=bs h
        obtain ⟨x67,awG,h⟩:=bs h
        refine gd c62 j j j j (mk [(0,M 0),(2,iv ajK),(3,iv ajJ),(5,M 5),(10,M 10),(11,M 11),(12,H 12 0),(13,iv x67.2.1)] [(0,Od (G 1 (aoK x67.2.2))),(5,Ob [Z (W 1 eI aiJ)]),(10,Ob [C (I (aiJ.length:Int))]),(11,Ob [C (I aiO)]),(12,Oc [Z (W 1 eI x67.1)])]) (t j j (oMv j j)<|t j j (oMv j j)<|t j j (oMv j j)<|sK (O:=[5]) j j j (dN z62 j (oLd (cs:=[.own 5 0 0]) j akO j j))<|sK (O:=[11]) j j j (dN z62 j (oLd (cs:=[.im 0 _]) j tF2 j j))<|sK (O:=[11]) j j j (dN z62 j (oLd (cs:=[.im 0 _]) j tF2 j j))<|t j j (oBi j j j j)<|sF (dN z62 j (oCr (xs:=[.v false [.own 5 0 0]]) (vs:=[(false,[.own 58 0 0])]) (v:=.v false [.own 58 0 0]) (c:=⟨.sh,0,_⟩) (cs:=[]) (apj (en:=eI) (L:=aiJ) j atZ (fun _=>j)) (.inl j) j aqr j (ppC j pp0) j j pb0 j j j)) (kY ⟨j,trivial⟩ (kY ⟨j,trivial⟩ (kN j trivial))) (sF (dN z62 j (oBS (es:=List.map eI ([aiO]:List Int)) j ajw j (ptC j (fxI fx0) j pt0) (akm j fun _=>j))) (kY ⟨j,trivial⟩ (kN j (kY ⟨j,trivial⟩ trivial))) (sF (dN z62 j (aqj (en:=eI) (M:=([aiO]:List Int)) j arc j ajw j j akP (.inl ⟨_,j⟩) j j j j (amz j j) (akm j fun _=>j))) (kY ⟨j,trivial⟩ (kN j (kN j trivial))) (sS (dN z62 j (awn j j)) (kN j (kY ⟨j,trivial⟩ (kY ⟨j,trivial⟩ trivial))) (sS (dN z62 j (oCr (xs:=[.v false [.mp 0 0 0],.v false [.own 61 0 0],.v false [.im 0 _],.v false [.im 0 _]]) (vs:=[(false,[.own 67 0 0]),(false,[.im 0 _])]) (v:=.tup [(false,[.own 67 0 0]),(false,[.im 0 _])]) (c:=⟨.sh,0,_⟩) (cs:=[]) (ih awG) (.inl j) j ake j (ppP j j j (ppM (alQ j j) (ppC j (ppC j pp0)))) j j (pbP j j pb0) j j j)) (kN j (kN j (kN j trivial))) (t j j (asu j j)<|t j j (oEx j j j)<|t j j (oEx j j j)<|sS (dN z62 j (al2 j j j j j)) (kN j (kN j (kN j trivial))) (sS (dN z62 j (aiF j j)) (kN j (kN j (kN j trivial))) (sD (by kernel_rfl)))))) (sS (dN z62 j (awn j j)) (kN j (kY ⟨j,trivial⟩ (kY ⟨j,trivial⟩ trivial))) (sS (dN z62 j (aqj (en:=eI) (M:=([aiO]:List Int)) j arc j ajw j j akP (.inl ⟨_,j⟩) j j j j (amz j j) (akm j fun _=>j))) (kY ⟨j,trivial⟩ (kN j (kN j trivial))) (sS (dN z62 j (oCr (xs:=[.v false [.mp 0 0 0],.v false [.own 61 0 0],.v false [.im 0 _],.v false [.im 0 _]]) (vs:=[(false,[.own 67 0 0]),(false,[.im 0 _])]) (v:=.tup [(false,[.own 67 0 0]),(false,[.im 0 _])]) (c:=⟨.sh,0,_⟩) (cs:=[]) (ih awG) (.inl j) j ake j (ppP j j j (ppM (alQ j j) (ppC j (ppC j pp0)))) j j (pbP j j pb0) j j j)) (kN j (kN j (kN j trivial))) (t j j (asu j j)<|t j j (oEx j j j)<|t j j (oEx j j j)<|sS (dN z62 j (al2 j j j j j)) (kN j (kN j (kN j trivial))) (sS (dN z62 j (aiF j j)) (kN j (kN j (kN j trivial))) (sD (by kernel_rfl)))))))) (sS (dN z62 j (awn j j)) (kN j (kY ⟨j,trivial⟩ (kY ⟨j,trivial⟩ trivial))) (sS (dN z62 j (oBS (es:=List.map eI ([aiO]:List Int)) j ajw j (ptC j (fxI fx0) j pt0) (akm j fun _=>j))) (kY ⟨j,trivial⟩ (kN j (kY ⟨j,trivial⟩ trivial))) (sS (dN z62 j (aqj (en:=eI) (M:=([aiO]:List Int)) j arc j ajw j j akP (.inl ⟨_,j⟩) j j j j (amz j j) (akm j fun _=>j))) (kY ⟨j,trivial⟩ (kN j (kN j trivial))) (sS (dN z62 j (oCr (xs:=[.v false [.mp 0 0 0],.v false [.own 61 0 0],.v false [.im 0 _],.v false [.im 0 _]]) (vs:=[(false,[.own 67 0 0]),(false,[.im 0 _])]) (v:=.tup [(false,[.own 67 0 0]),(false,[.im 0 _])]) (c:=⟨.sh,0,_⟩) (cs:=[]) (ih awG) (.inl j) j ake j (ppP j j j (ppM (alQ j j) (ppC j (ppC j pp0)))) j j (pbP j j pb0) j j j)) (kN j (kN j (kN j trivial))) (t j j (asu j j)<|t j j (oEx j j j)<|t j j (oEx j j j)<|sS (dN z62 j (al2 j j j j j)) (kN j (kN j (kN j trivial))) (sS (dN z62 j (aiF j j)) (kN j (kN j (kN j trivial))) (sD (by kernel_rfl))))))))) (sF (dN z62 j (oBS (es:=List.map eI ([aiO]:List Int)) j ajw j (ptC j (fxI fx0) j pt0) (akm j fun _=>j))) (kY ⟨j,trivial⟩ (kN j (kY ⟨j,trivial⟩ trivial))) (sF (dN z62 j (oCr (xs:=[.v false [.own 5 0 0]]) (vs:=[(false,[.own 58 0 0])]) (v:=.v false [.own 58 0 0]) (c:=⟨.sh,0,_⟩) (cs:=[]) (apj (en:=eI) (L:=aiJ) j atZ (fun _=>j)) (.inl j) j aqr j (ppC j pp0) j j pb0 j j j)) (kY ⟨j,trivial⟩ (kY ⟨j,trivial⟩ (kN j trivial))) (sF (dN z62 j (aqj (en:=eI) (M:=([aiO]:List Int)) j arc j ajw j j akP (.inl ⟨_,j⟩) j j j j (amz j j) (akm j fun _=>j))) (kY ⟨j,trivial⟩ (kN j (kN j trivial))) (sS (dN z62 j (awn j j)) (kN j (kY ⟨j,trivial⟩ (kY ⟨j,trivial⟩ trivial))) (sS (dN z62 j (oCr (xs:=[.v false [.mp 0 0 0],.v false [.own 61 0 0],.v false [.im 0 _],.v false [.im 0 _]]) (vs:=[(false,[.own 67 0 0]),(false,[.im 0 _])]) (v:=.tup [(false,[.own 67 0 0]),(false,[.im 0 _])]) (c:=⟨.sh,0,_⟩) (cs:=[]) (ih awG) (.inl j) j ake j (ppP j j j (ppM (alQ j j) (ppC j (ppC j pp0)))) j j (pbP j j pb0) j j j)) (kN j (kN j (kN j trivial))) (t j j (asu j j)<|t j j (oEx j j j)<|t j j (oEx j j j)<|sS (dN z62 j (al2 j j j j j)) (kN j (kN j (kN j trivial))) (sS (dN z62 j (aiF j j)) (kN j (kN j (kN j trivial))) (sD (by kernel_rfl)))))) (sS (dN z62 j (awn j j)) (kN j (kY ⟨j,trivial⟩ (kY ⟨j,trivial⟩ trivial))) (sS (dN z62 j (aqj (en:=eI) (M:=([aiO]:List Int)) j arc j ajw j j akP (.inl ⟨_,j⟩) j j j j (amz j j) (akm j fun _=>j))) (kY ⟨j,trivial⟩ (kN j (kN j trivial))) (sS (dN z62 j (oCr (xs:=[.v false [.mp 0 0 0],.v false [.own 61 0 0],.v false [.im 0 _],.v false [.im 0 _]]) (vs:=[(false,[.own 67 0 0]),(false,[.im 0 _])]) (v:=.tup [(false,[.own 67 0 0]),(false,[.im 0 _])]) (c:=⟨.sh,0,_⟩) (cs:=[]) (ih awG) (.inl j) j ake j (ppP j j j (ppM (alQ j j) (ppC j (ppC j pp0)))) j j (pbP j j pb0) j j j)) (kN j (kN j (kN j trivial))) (t j j (asu j j)<|t j j (oEx j j j)<|t j j (oEx j j j)<|sS (dN z62 j (al2 j j j j j)) (kN j (kN j (kN j trivial))) (sS (dN z62 j (aiF j j)) (kN j (kN j (kN j trivial))) (sD (by kernel_rfl)))))))) (sS (dN z62 j (awn j j)) (kN j (kY ⟨j,trivial⟩ (kY ⟨j,trivial⟩ trivial))) (sS (dN z62 j (oCr (xs:=[.v false [.own 5 0 0]]) (vs:=[(false,[.own 58 0 0])]) (v:=.v false [.own 58 0 0]) (c:=⟨.sh,0,_⟩) (cs:=[]) (apj (en:=eI) (L:=aiJ) j atZ (fun _=>j)) (.inl j) j aqr j (ppC j pp0) j j pb0 j j j)) (kY ⟨j,trivial⟩ (kY ⟨j,trivial⟩ (kN j trivial))) (sS (dN z62 j (aqj (en:=eI) (M:=([aiO]:List Int)) j arc j ajw j j akP (.inl ⟨_,j⟩) j j j j (amz j j) (akm j fun _=>j))) (kY ⟨j,trivial⟩ (kN j (kN j trivial))) (sS (dN z62 j (oCr (xs:=[.v false [.mp 0 0 0],.v false [.own 61 0 0],.v false [.im 0 _],.v false [.im 0 _]]) (vs:=[(false,[.own 67 0 0]),(false,[.im 0 _])]) (v:=.tup [(false,[.own 67 0 0]),(false,[.im 0 _])]) (c:=⟨.sh,0,_⟩) (cs:=[]) (ih awG) (.inl j) j ake j (ppP j j j (ppM (alQ j j) (ppC j (ppC j pp0)))) j j (pbP j j pb0) j j j)) (kN j (kN j (kN j trivial))) (t j j (asu j j)<|t j j (oEx j j j)<|t j j (oEx j j j)<|sS (dN z62 j (al2 j j j j j)) (kN j (kN j (kN j trivial))) (sS (dN z62 j (aiF j j)) (kN j (kN j (kN j trivial))) (sD (by kernel_rfl))))))))) (sS (dN z62 j (awn j j)) (kN j (kY ⟨j,trivial⟩ (kY ⟨j,trivial⟩ trivial))) (sF (dN z62 j (oCr (xs:=[.v false [.own 5 0 0]]) (vs:=[(false,[.own 58 0 0])]) (v:=.v false [.own 58 0 0]) (c:=⟨.sh,0,_⟩) (cs:=[]) (apj (en:=eI) (L:=aiJ) j atZ (fun _=>j)) (.inl j) j aqr j (ppC j pp0) j j pb0 j j j)) (kY ⟨j,trivial⟩ (kY ⟨j,trivial⟩ (kN j trivial))) (sS (dN z62 j (oBS (es:=List.map eI ([aiO]:List Int)) j ajw j (ptC j (fxI fx0) j pt0) (akm j fun _=>j))) (kY ⟨j,trivial⟩ (kN j (kY ⟨j,trivial⟩ trivial))) (sS (dN z62 j (aqj (en:=eI) (M:=([aiO]:List Int)) j arc j ajw j j akP (.inl ⟨_,j⟩) j j j j (amz j j) (akm j fun _=>j))) (kY ⟨j,trivial⟩ (kN j (kN j trivial))) (sS (dN z62 j (oCr (xs:=[.v false [.mp 0 0 0],.v false [.own 61 0 0],.v false [.im 0 _],.v false [.im 0 _]]) (vs:=[(false,[.own 67 0 0]),(false,[.im 0 _])]) (v:=.tup [(false,[.own 67 0 0]),(false,[.im 0 _])]) (c:=⟨.sh,0,_⟩) (cs:=[]) (ih awG) (.inl j) j ake j (ppP j j j (ppM (alQ j j) (ppC j (ppC j pp0)))) j j (pbP j j pb0) j j j)) (kN j (kN j (kN j trivial))) (t j j (asu j j)<|t j j (oEx j j j)<|t j j (oEx j j j)<|sS (dN z62 j (al2 j j j j j)) (kN j (kN j (kN j trivial))) (sS (dN z62 j (aiF j j)) (kN j (kN j (kN j trivial))) (sD (by kernel_rfl))))))) (sS (dN z62 j (oBS (es:=List.map eI ([aiO]:List Int)) j ajw j (ptC j (fxI fx0) j pt0) (akm j fun _=>j))) (kY ⟨j,trivial⟩ (kN j (kY ⟨j,trivial⟩ trivial))) (sS (dN z62 j (oCr (xs:=[.v false [.own 5 0 0]]) (vs:=[(false,[.own 58 0 0])]) (v:=.v false [.own 58 0 0]) (c:=⟨.sh,0,_⟩) (cs:=[]) (apj (en:=eI) (L:=aiJ) j atZ (fun _=>j)) (.inl j) j aqr j (ppC j pp0) j j pb0 j j j)) (kY ⟨j,trivial⟩ (kY ⟨j,trivial⟩ (kN j trivial))) (sS (dN z62 j (aqj (en:=eI) (M:=([aiO]:List Int)) j arc j ajw j j akP (.inl ⟨_,j⟩) j j j j (amz j j) (akm j fun _=>j))) (kY ⟨j,trivial⟩ (kN j (kN j trivial))) (sS (dN z62 j (oCr (xs:=[.v false [.mp 0 0 0],.v false [.own 61 0 0],.v false [.im 0 _],.v false [.im 0 _]]) (vs:=[(false,[.own 67 0 0]),(false,[.im 0 _])]) (v:=.tup [(false,[.own 67 0 0]),(false,[.im 0 _])]) (c:=⟨.sh,0,_⟩) (cs:=[]) (ih awG) (.inl j) j ake j (ppP j j j (ppM (alQ j j) (ppC j (ppC j pp0)))) j j (pbP j j pb0) j j j)) (kN j (kN j (kN j trivial))) (t j j (asu j j)<|t j j (oEx j j j)<|t j j (oEx j j j)<|sS (dN z62 j (al2 j j j j j)) (kN j (kN j (kN j trivial))) (sS (dN z62 j (aiF j j)) (kN j (kN j (kN j trivial))) (sD (by kernel_rfl))))))))))))<|us<|gs<|g0 j j (q (oMv j j)<|q (oBi j j j j)<|nl)<|us<|gc h j iNe (fun hc17 h=>?_) fun hc17 h=>?_
        ·refine gs<|g0 j j (q (oMv j j)<|q (oMv j j)<|q (al2 j j j j j)<|q (aiF j j)<|nl)<|us<|Go.ret (Unw.ret ?_)
         cases h
         exact ⟨j,(fo aBF j)⟩
        ·exact Go.skip<|Unw.blk<|K15 _ ⟨x67.2.2.near,x67.2.2.left,h,(by kernel_rfl)⟩
     ·refine Go.exit<|ux<|Unw.nil<|?_
      cases h
      exact ⟨j,(by kernel_rfl)⟩
   ·rintro ⟨e,st⟩ hp
    rcases o with ⟨an5,an6⟩ | r2
    ·dsimp only at h
     obtain ⟨he,hst⟩:=hp
     obtain rfl:e= .exit 0:=he
     refine Unw.amy<|us<|gs<|g2 c62 j j hst (q (aph j j apZ)<|q (aiF j j)<|nl)<|us<|Go.ret (Unw.ret ?_)
     cases h
     exact fr aBF j
    ·dsimp only at h
     obtain ⟨he,hfin⟩:=hp
     obtain rfl:e= .ret:=he
     cases h
     exact Unw.ret (al1 hfin)
theorem ap1 {s_0:aiP} {aiJ:(List Int)} {ajK:Int} {ajJ:Int} {r:((List Int)×Int×aiP)} (h:akg s_0 aiJ ajK ajJ=some r):FX 62 [.ptr true [(.imm,W 1 (eL 1 eI) s_0.near),(.imm,I s_0.left)],.mv 1 (List.map eI aiJ),.im 2 false [I ajK],.im 2 false [I ajJ]] ([(false,[.ow 0 1 (List.map eI r.1)]),(false,[.im 0 (I r.2.1)])],[.ptr true [(.imm,W 1 (eL 1 eI) r.2.2.near),(.imm,I r.2.2.left)]]):=by
 unfold akg at h
 obtain ⟨n,hn⟩:=apg h
 clear h
 induction n generalizing s_0 aiJ ajK ajJ r with
 | zero=>cases hn
 | succ n ihn=>exact apx (self:=anU _ n) (fun h=>ihn h) hn
theorem an8 {t_0:aiE} {ajq:Int} {r:((List Int)×Int×Int)} (h:aks t_0 ajq=some r):FX 12 [.im 2 true (aiC t_0),.im 2 false [I ajq]] (B0 [(false,[.ow 0 1 (List.map eI r.1)]),(false,[.im 0 (I r.2.1)]),(false,[.im 0 (I r.2.2)])]):=by
 unfold aks at h
 refine gn 39 Try.func12 rfl ?_
 refine gs<|g0 j j (q (oBx j aop j (tkI (tkI (tkI tk0))))<|q (aph j j apZ)<|q (aiF j j)<|q (aiF j j)<|nl)<|us<|gs<|Go.block<|gs<|?_
 obtain ⟨x13,aFY,h⟩:=bs h
 refine g0 j j (q (oLd (cs:=[.im 0 _,.im 0 _,.im 2 _]) j aop j j)<|q (oCa (xs:=[.v true [.im 0 _,.im 0 _,.im 2 _]]) (vs:=[(false,[.im 0 _])]) (v:=.v false [.im 0 _]) (ard aFY) (.inl j) j aBB j (ppC j pp0) j j pb0 j j j)<|q (oUn j j j)<|q (aiF j j)<|nl)<|us<|?_
 by_cases hc1:x13=true
 ·rw [if_pos hc1] at h
  refine gF j (nF (iR.2 hc1))<|gs<|?_
  obtain ⟨x17,aFZ,h⟩:=bs h
  refine g0 j j (q (oMv j j)<|q (oCa (xs:=[.v false [.im 2 _],.v false [.im 0 _],.v false [.im 0 _]]) (vs:=[(false,[.im 0 _])]) (v:=.v false [.im 0 _]) (ao2 aFZ) (.inl j) j arb j (ppC j (ppC j (ppC j pp0))) j j pb0 j j j)<|q (oUn j j j)<|q (aiF j j)<|nl)<|us<|?_
  by_cases hc2:x17=true
  ·rw [if_pos hc2] at h
   refine gF j (nF (iR.2 hc2))<|Go.skip<|Unw.blk<|us<|gs<|?_
   obtain ⟨x20,awF,h⟩:=bs h
   refine g0 j j (q (oLd (cs:=[.im 0 _,.im 0 _,.im 2 _]) j aop j j)<|q (oCa (xs:=[.v true [.im 0 _,.im 0 _,.im 2 _]]) (vs:=[(false,[.im 0 _])]) (v:=.v false [.im 0 _]) (ap0 awF) (.inl j) j aBC j (ppC j pp0) j j pb0 j j j)<|q (oMv j j)<|q (oBu (cs:=[.im 0 _,.im 2 _]) j aFo j)<|q (oBx j aFA j (tkI (tkI tk0)))<|q (aDJ j j)<|nl)<|us<|gs<|g0 j j (q (aiF j j)<|nl)<|us<|Go.block<|?_
   obtain ⟨o,hl,h⟩:=bs h
   refine gl c12 j _ (fun (s:(Int×(List (List Int))×Int))=>match s with | (ara,apI,apJ)=>mk [(7,M 23),(8,iv ara)] [(23,Oa [C (W 1 (eL 1 eI) apI),C (I apJ)])]) (fun (r2:((List Int)×Int×Int)) (p:Ex×St)=>p.1= .ret∧fin Try.prog cfg 12 Try.f12 [.im 2 true (aiC t_0),.im 2 false [I ajq]] p.2=some (B0 [(false,[.ow 0 1 (List.map eI r2.1)]),(false,[.im 0 (I r2.2.1)]),(false,[.im 0 (I r2.2.2)])])) hl (by kernel_rfl) ?_ ?_ ?_
   ·intro o p hp e
    exact nomatch (hp.1.symm.trans e)
   ·rintro ⟨ara,apI,apJ⟩ o h
    unfold ai1 at h
    dsimp only at h
    refine gs<|Go.block<|gs<|?_
    obtain ⟨x29,hx29,h⟩:=bs h
    refine g0 j j (q (oMv j j)<|q (oMv j j)<|q (oCr (xs:=[.v false [.mp 23 0 0],.v false [.nil],.v false [.im 0 _],.v false [.im 0 _]]) (vs:=[(false,[.own 29 0 0]),(false,[.im 0 _])]) (v:=.tup [(false,[.own 29 0 0]),(false,[.im 0 _])]) (c:=⟨.sh,0,_⟩) (cs:=[]) (ap1 hx29) (.inl j) j ake j (ppP j j j (ppM take_nil (ppC j (ppC j pp0)))) j j (pbP j j pb0) j j j)<|q (asu j j)<|q (oEx j j j)<|q (oEx j j j)<|q (al2 j j j j j)<|q (aiF j j)<|nl)<|us<|gs<|gs<|g1 j j (mk [(7,M 23),(8,iv ara),(9,H 9 0),(10,iv x29.2.1)] [(9,Oc [Z (W 1 eI x29.1)]),(23,Oa (G 0 (aoK x29.2.2)))]) (q (oMv j j)<|q (oBi j j j j)<|nl)<|us<|gc h j iEq (fun hc7 h=>?_) fun hc7 h=>?_
    ·refine gs<|g0 j j (q (oMv j j)<|q (oMv j j)<|q (al2 j j j j j)<|q (aiF j j)<|q (aiF j j)<|nl)<|us<|Go.ret (Unw.ret ?_)
     cases h
     exact ⟨j,(fo aBD j)⟩
    ·refine Go.skip<|us<|gs<|g0 j j (q (oMv j j)<|q (oBi j j j j)<|nl)<|us<|gc h j iNe (fun hc8 h=>?_) fun hc8 h=>?_
     ·refine gs<|g0 j j (q (oMv j j)<|q (aph j j apZ)<|q (aiF j j)<|q (aiF j j)<|nl)<|us<|Go.ret (Unw.ret ?_)
      cases h
      exact ⟨j,(fo aBD j)⟩
     ·refine Go.skip<|Unw.blk<|us<|g0 j j (q (oMv j j)<|q (oBi j j j j)<|q (aiF j j)<|nl)<|Unw.nil<|?_
      cases h
      exact ⟨j,(by kernel_rfl)⟩
   ·rintro ⟨e,st⟩ hp
    obtain ⟨r2,rfl⟩:∃y,y=o:=⟨o,rfl⟩
    obtain ⟨he,hfin⟩:=hp
    obtain rfl:e= .ret:=he
    cases h
    exact Unw.ret (al1 hfin)
  ·rw [if_neg hc2] at h
   refine gT j (nT (byF iR hc2))<|gs<|g0 j j (q (aph j j apZ)<|q (aiF j j)<|q (aiF j j)<|nl)<|us<|Go.ret (Unw.ret ?_)
   cases h
   exact fr aBD j
 ·rw [if_neg hc1] at h
  refine gT j (nT (byF iR hc1))<|gs<|g0 j j (q (aph j j apZ)<|q (aiF j j)<|q (aiF j j)<|nl)<|us<|Go.ret (Unw.ret ?_)
  cases h
  exact fr aBD j
theorem amN {a_0:(List Int)} {b_1:(List Int)} {r:Bool} (h:aka a_0 b_1=some r):FX 13 [.im 2 false [W 1 eI a_0],.im 2 false [W 1 eI b_1]] (B0 [(false,[.im 0 (V r)])]):=by
 unfold aka at h
 refine gn 26 Try.func13 rfl ?_
 refine gs<|g0 j j (q (aiF j j)<|nl)<|us<|gs<|gs<|g0 j j (q (oMv j j)<|q (aob j j akP j)<|q (oMv j j)<|q (aob j j akP j)<|q (oBi j j j j)<|nl)<|us<|gc h j iNe (fun hc1 h=>?_) fun hc1 h=>?_
 ·refine gs<|g0 j j (q (aiF j j)<|nl)<|us<|Go.ret (Unw.ret ?_)
  cases h
  exact fr aC3 j
 ·refine Go.skip<|us<|gs<|gs<|g0 j j (q (aiF j j)<|nl)<|us<|Go.block<|?_
  obtain ⟨o,hl,h⟩:=bs h
  refine gl c13 j _ (fun (aqp:Int)=>mk [(0,D 2 (W 1 eI a_0)),(1,D 2 (W 1 eI b_1)),(5,iv aqp)] []) (fun (o:(Unit ⊕ Bool)) (p:Ex×St)=>match o with | (.inl _)=>p.1= .exit 0∧p.2.norm ([],[])=mk [] [] | (.inr r2)=>p.1= .ret∧fin Try.prog cfg 13 Try.f13 [.im 2 false [W 1 eI a_0],.im 2 false [W 1 eI b_1]] p.2=some (B0 [(false,[.im 0 (V r2)])])) hl (by kernel_rfl) ?_ ?_ ?_
  ·intro o p hp e
   rcases o with u | r2<;>exact nomatch (hp.1.symm.trans e)
  ·rintro aqp o h
   unfold ak1 at h
   refine gs<|gs<|g0 j j (q (oMv j j)<|q (oMv j j)<|q (aob j j akP j)<|q (oBi j j j j)<|nl)<|us<|gc h j aiK (fun hc6 h=>?_) fun hc6 h=>?_
   ·refine Go.skip<|us<|gs<|Go.block<|gs<|?_
    obtain ⟨x19,axB,h⟩:=bs h
    obtain ⟨x23,aAj,h⟩:=bs h
    refine gd c13 j j j j (mk [(0,D 2 (W 1 eI a_0)),(1,D 2 (W 1 eI b_1)),(5,iv aqp),(25,bv (x19 != x23))] []) (t j j (oMv j j)<|t j j (oMv j j)<|t j j (anj j axB ajw j j)<|t j j (oLd (cs:=[.im 2 _]) j tF2 j j)<|t j j (oMv j j)<|t j j (oMv j j)<|t j j (anj j aAj ajw j j)<|t j j (oLd (cs:=[.im 2 _]) j tF2 j j)<|t j j (oBi j j j j)<|sD (by kernel_rfl))<|us<|gc h j iNe (fun hc7 h=>?_) fun hc7 h=>?_
    ·refine gs<|g0 j j (q (aiF j j)<|nl)<|us<|Go.ret (Unw.ret ?_)
     cases h
     exact ⟨j,(fo aC3 j)⟩
    ·refine Go.skip<|Unw.blk<|us<|g0 j j (q (oMv j j)<|q (oBi j j j j)<|q (aiF j j)<|nl)<|Unw.nil<|?_
     cases h
     exact ⟨j,(by kernel_rfl)⟩
   ·refine Go.exit<|ux<|Unw.nil<|?_
    cases h
    exact ⟨j,(by kernel_rfl)⟩
  ·rintro ⟨e,st⟩ hp
   rcases o with u | r2
   ·dsimp only at h
    obtain ⟨he,hst⟩:=hp
    obtain rfl:e= .exit 0:=he
    refine Unw.amy<|us<|gs<|g2 c13 j j hst (q (aiF j j)<|nl)<|us<|Go.ret (Unw.ret ?_)
    cases h
    exact fr aC3 j
   ·dsimp only at h
    obtain ⟨he,hfin⟩:=hp
    obtain rfl:e= .ret:=he
    cases h
    exact Unw.ret (al1 hfin)
theorem asB {a_0:aiE} {b_1:aiE} {r:Bool} (h:amH a_0 b_1=some r):FX 14 [.im 2 true (aiC a_0),.im 2 true (aiC b_1)] (B0 [(false,[.im 0 (V r)])]):=by
 unfold amH at h
 refine gn 21 Try.func14 rfl ?_
 refine gs<|g0 j j (q (oBx j aop j (tkI (tkI (tkI tk0))))<|q (oBx j aop j (tkI (tkI (tkI tk0))))<|q (aiF j j)<|nl)<|us<|gs<|gs<|g0 j j (q (oFA (r':=.mp 2 0 0) j amg j j)<|q (oLd (cs:=[.im 0 _]) j tF2 j j)<|q (oFA (r':=.mp 3 0 0) j amg j j)<|q (oLd (cs:=[.im 0 _]) j tF2 j j)<|q (oBi j j j j)<|nl)<|us<|gc h j iNe (fun hc1 h=>?_) fun hc1 h=>?_
 ·refine gs<|g0 j j (q (aiF j j)<|nl)<|us<|Go.ret (Unw.ret ?_)
  cases h
  exact fr aBE j
 ·refine Go.skip<|us<|gs<|gs<|g0 j j (q (oFA (r':=.mp 2 0 1) j aod j j)<|q (oLd (cs:=[.im 0 _]) j tF2 j j)<|q (oFA (r':=.mp 3 0 1) j aod j j)<|q (oLd (cs:=[.im 0 _]) j tF2 j j)<|q (oBi j j j j)<|nl)<|us<|gc h j iNe (fun hc2 h=>?_) fun hc2 h=>?_
  ·refine gs<|g0 j j (q (aiF j j)<|nl)<|us<|Go.ret (Unw.ret ?_)
   cases h
   exact fr aBE j
  ·refine Go.skip<|us<|gs<|gs<|?_
   obtain ⟨x19,axB,h⟩:=bs h
   refine g0 j j (q (oFA (r':=.mp 2 0 2) j akE j j)<|q (oLd (cs:=[.im 2 _]) j akO j j)<|q (oFA (r':=.mp 3 0 2) j akE j j)<|q (oLd (cs:=[.im 2 _]) j akO j j)<|q (oCa (xs:=[.v false [.im 2 _],.v false [.im 2 _]]) (vs:=[(false,[.im 0 _])]) (v:=.v false [.im 0 _]) (amN axB) (.inl j) j apL j (ppC j (ppC j pp0)) j j pb0 j j j)<|q (oUn j j j)<|nl)<|us<|?_
   by_cases hc3:x19=true
   ·rw [if_pos hc3] at h
    refine gF j (nF (iR.2 hc3))<|Go.skip<|us<|gs<|g0 j j (q (aiF j j)<|nl)<|us<|Go.ret (Unw.ret ?_)
    cases h
    exact fr aBE j
   ·rw [if_neg hc3] at h
    refine gT j (nT (byF iR hc3))<|gs<|g0 j j (q (aiF j j)<|nl)<|us<|Go.ret (Unw.ret ?_)
    cases h
    exact fr aBE j
theorem aqv {a_0:(List Int)} {k_1:Int} {r:Int} (h:alb a_0 k_1=some r):FX 16 [.ws false [W 1 eI a_0],.im 2 false [I k_1]] (B0 [(false,[.im 0 (I r)])]):=by
 unfold alb at h
 refine ar6 (A:=[(0,.v false [.ws (W 1 eI a_0)]),(1,D 2 (I k_1))]) (B:=[(0,none),(1,none)]) (nt:=19) rfl rfl Try.func16 rfl rfl rfl rfl ?_
 refine gs<|g0 j j (q (aiF j j)<|nl)<|us<|gs<|gs<|g0 j j (q (aiF j j)<|nl)<|us<|Go.block<|?_
 obtain ⟨o,hl,h⟩:=bs h
 refine gl c16 j _ (fun (s:(Int×Int))=>match s with | (ala,ajZ)=>mk [(0,.v false [.ws (W 1 eI a_0)]),(1,iv ala),(5,iv ajZ)] [(0,none)]) (fun (akR:Int) (p:Ex×St)=>p.1= .exit 0∧p.2.norm ([1],[0])=mk [(1,iv akR)] [(0,none)]) hl (by kernel_rfl) ?_ ?_ ?_
 ·intro o p hp e
  exact nomatch (hp.1.symm.trans e)
 ·rintro ⟨ala,ajZ⟩ o h
  unfold ajU at h
  dsimp only at h
  refine gs<|gs<|g0 j j (q (oMv j j)<|q (oMv j j)<|q (aFa j j akP j)<|q (oBi j j j j)<|nl)<|us<|gc h j aiK (fun hc3 h=>?_) fun hc3 h=>?_
  ·refine Go.skip<|us<|gs<|Go.block<|gs<|?_
   obtain ⟨x15,ay2,h⟩:=bs h
   refine g0 j j (q (oMv j j)<|q (oMv j j)<|q (oMv j j)<|q (aE9 j ay2 ajw j j)<|q (aE6 tF2 j j j j)<|nl)<|us<|g1 j j (mk [(0,.v false [.ws (W 1 eI a_0)]),(1,iv ala),(5,iv ajZ)] [(0,none)]) (q (oMv j j)<|q (oBi j j j j)<|q (aiF j j)<|nl)<|Unw.blk<|us<|g0 j j (q (oMv j j)<|q (oBi j j j j)<|q (aiF j j)<|nl)<|Unw.nil<|?_
   cases h
   exact ⟨j,(by kernel_rfl)⟩
  ·refine Go.exit<|ux<|Unw.nil<|?_
   cases h
   exact ⟨j,(by kernel_rfl)⟩
 ·rintro ⟨e,st⟩ hp
  obtain ⟨akR,rfl⟩:∃y,y=o:=⟨o,rfl⟩
  obtain ⟨he,hst⟩:=hp
  obtain rfl:e= .exit 0:=he
  refine Unw.amy<|us<|gs<|g2 c16 j j hst (q (oMv j j)<|q (aiF j j)<|nl)<|us<|Go.ret (Unw.ret ?_)
  cases h
  exact fr aEe j
theorem arI {a_0:aiE} {k_1:Int} {r:Int} (h:alT a_0 k_1=some r):FX 15 [.ws true (aiC a_0),.im 2 false [I k_1]] (B0 [(false,[.im 0 (I r)])]):=by
 unfold alT at h
 refine ar6 (A:=[(0,.v true (S (aiC a_0))),(1,D 2 (I k_1))]) (B:=[(0,none),(1,none)]) (nt:=10) rfl rfl Try.func15 rfl rfl rfl rfl ?_
 refine gs<|g0 j j (q (oBx j aop j (tkW (tkW (tkW tk0))))<|q (aiF j j)<|nl)<|us<|gs<|?_
 obtain ⟨x8,hx8,h⟩:=bs h
 refine g0 j j (q (oFA (r':=.mp 2 0 2) j akE j j)<|q (oLd (cs:=[.ws _]) j akO j j)<|q (oMv j j)<|q (oCa (xs:=[.v false [.ws _],.v false [.im 2 _]]) (vs:=[(false,[.im 0 _])]) (v:=.v false [.im 0 _]) (aqv hx8) (.inl j) j auJ j (ppC j (ppC j pp0)) j j pb0 j j j)<|q (aiF j j)<|nl)<|us<|gs<|g0 j j (q (oMv j j)<|q (aiF j j)<|nl)<|us<|Go.ret (Unw.ret ?_)
 cases h
 exact fr aFr j
theorem arJ {a_0:(List Int)} {k_1:Int} {r:(Int×(List Int))} (h:alU a_0 k_1=some r):FX 16 [.ow 1 (List.map eI a_0),.im 2 false [I k_1]] ([(false,[.im 0 (I r.1)])],[.ow 1 (List.map eI r.2)]):=by
 unfold alU at h
 refine ar6 (A:=[(0,H 0 0),(1,D 2 (I k_1))]) (B:=[(0,Oe [Z (W 1 eI a_0)]),(1,none)]) (nt:=19) rfl rfl Try.func16 rfl rfl rfl rfl ?_
 refine gs<|g0 j j (q (aiF j j)<|nl)<|us<|gs<|gs<|g0 j j (q (aiF j j)<|nl)<|us<|Go.block<|?_
 obtain ⟨o,hl,h⟩:=bs h
 refine gl c16 j _ (fun (s:(Int×Int×(List Int)))=>match s with | (ala,ajZ,aoW)=>mk [(0,H 0 0),(1,iv ala),(5,iv ajZ)] [(0,Oe [Z (W 1 eI aoW)])]) (fun (o:(Int×(List Int))) (p:Ex×St)=>match o with | (akR,apu)=>p.1= .exit 0∧p.2.norm ([1],[0])=mk [(1,iv akR)] [(0,Oe [Z (W 1 eI apu)])]) hl (by kernel_rfl) ?_ ?_ ?_
 ·intro o p hp e
  obtain ⟨akR,apu⟩:=o
  exact nomatch (hp.1.symm.trans e)
 ·rintro ⟨ala,ajZ,aoW⟩ o h
  unfold alc at h
  dsimp only at h
  refine gs<|gs<|g0 j j (q (oMv j j)<|q (oMv j j)<|q (atq j j akP j j j (fun e=>nomatch e))<|q (oBi j j j j)<|nl)<|us<|gc h j aiK (fun hc3 h=>?_) fun hc3 h=>?_
  ·refine Go.skip<|us<|gs<|Go.block<|gs<|?_
   obtain ⟨x15,ay2,h⟩:=bs h
   refine g0 j j (q (oMv j j)<|q (oMv j j)<|q (oMv j j)<|q (aqH j ay2 ajw j j j j)<|q (aA0 (v':=ala) tF2 j j j (fxI fx0) j j (akS ay2) j)<|nl)<|us<|g1 j j (mk [(0,H 0 0),(1,iv ala),(5,iv ajZ)] [(0,Oe [Z (W 1 eI (aoW.set ajZ.toNat ala))])]) (q (oMv j j)<|q (oBi j j j j)<|q (aiF j j)<|nl)<|Unw.blk<|us<|g0 j j (q (oMv j j)<|q (oBi j j j j)<|q (aiF j j)<|nl)<|Unw.nil<|?_
   cases h
   exact ⟨j,(by kernel_rfl)⟩
  ·refine Go.exit<|ux<|Unw.nil<|?_
   cases h
   exact ⟨j,(by kernel_rfl)⟩
 ·rintro ⟨e,st⟩ hp
  obtain ⟨akR,apu⟩:=o
  dsimp only at h
  obtain ⟨he,hst⟩:=hp
  obtain rfl:e= .exit 0:=he
  refine Unw.amy<|us<|gs<|g2 c16 j j hst (q (oMv j j)<|q (aiF j j)<|nl)<|us<|Go.ret (Unw.ret ?_)
  cases h
  exact fr aEe j
theorem aoY {a_0:(List Int)} {k_1:Int} {r:Int} (h:alj a_0 k_1=some r):FX 17 [.im 2 false [W 1 eI a_0],.im 2 false [I k_1]] (B0 [(false,[.im 0 (I r)])]):=by
 unfold alj at h
 refine gn 21 Try.func17 rfl ?_
 refine gs<|g0 j j (q (aiF j j)<|nl)<|us<|gs<|gs<|g0 j j (q (aiF j j)<|nl)<|us<|Go.block<|?_
 obtain ⟨o,hl,h⟩:=bs h
 refine gl c17 j _ (fun (s:(Int×Int))=>match s with | (ala,ajZ)=>mk [(0,D 2 (W 1 eI a_0)),(1,iv ala),(5,iv ajZ)] []) (fun (o:(Int ⊕ Int)) (p:Ex×St)=>match o with | (.inl akR)=>p.1= .exit 0∧p.2.norm ([1],[])=mk [(1,iv akR)] [] | (.inr r2)=>p.1= .ret∧fin Try.prog cfg 17 Try.f17 [.im 2 false [W 1 eI a_0],.im 2 false [I k_1]] p.2=some (B0 [(false,[.im 0 (I r2)])])) hl (by kernel_rfl) ?_ ?_ ?_
 ·intro o p hp e
  rcases o with akR | r2<;>exact nomatch (hp.1.symm.trans e)
 ·rintro ⟨ala,ajZ⟩ o h
  unfold ald at h
  dsimp only at h
  refine gs<|gs<|g0 j j (q (oMv j j)<|q (oMv j j)<|q (aob j j akP j)<|q (oBi j j j j)<|nl)<|us<|gc h j aiK (fun hc5 h=>?_) fun hc5 h=>?_
  ·refine Go.skip<|us<|gs<|Go.block<|gs<|gs<|?_
   obtain ⟨x14,avt,h⟩:=bs h
   refine g0 j j (q (oMv j j)<|q (oMv j j)<|q (anj j avt ajw j j)<|q (oLd (cs:=[.im 2 _]) j tF2 j j)<|q (oMv j j)<|q (oBi j j j j)<|nl)<|us<|gc h j iNe (fun hc6 h=>?_) fun hc6 h=>?_
   ·refine gs<|g0 j j (q (aiF j j)<|nl)<|us<|Go.ret (Unw.ret ?_)
    cases h
    exact ⟨j,(fo aEf j)⟩
   ·refine Go.skip<|us<|g0 j j (q (oMv j j)<|q (oBi j j j j)<|q (aiF j j)<|nl)<|Unw.blk<|us<|g0 j j (q (oMv j j)<|q (oBi j j j j)<|q (aiF j j)<|nl)<|Unw.nil<|?_
    cases h
    exact ⟨j,(by kernel_rfl)⟩
  ·refine Go.exit<|ux<|Unw.nil<|?_
   cases h
   exact ⟨j,(by kernel_rfl)⟩
 ·rintro ⟨e,st⟩ hp
  rcases o with akR | r2
  ·dsimp only at h
   obtain ⟨he,hst⟩:=hp
   obtain rfl:e= .exit 0:=he
   refine Unw.amy<|us<|gs<|g2 c17 j j hst (q (oMv j j)<|q (aiF j j)<|nl)<|us<|Go.ret (Unw.ret ?_)
   cases h
   exact fr aEf j
  ·dsimp only at h
   obtain ⟨he,hfin⟩:=hp
   obtain rfl:e= .ret:=he
   cases h
   exact Unw.ret (al1 hfin)
theorem aoq {apv:aiE} {ajV:Int} {r:Bool} (h:akk apv ajV=some r):FX 3 [.im 2 true (aiC apv),.im 2 false [I ajV]] (B0 [(false,[.im 0 (V r)])]):=by
 unfold akk at h
 refine gn 122 Try.func3 rfl ?_
 refine gs<|g0 j j (q (oBx j awD j (tkI (tkI (tkI tk0))))<|q (aiF j j)<|nl)<|us<|gs<|g0 j j (q (aiF j j)<|nl)<|us<|gs<|?_
 obtain ⟨x21,atG,h⟩:=bs h
 refine g0 j j (q (oLd (cs:=[.im 0 _,.im 0 _,.im 2 _]) j awD j j)<|q (oMv j j)<|q (oCa (xs:=[.v true [.im 0 _,.im 0 _,.im 2 _],.v false [.im 0 _]]) (vs:=[(false,[.im 0 _])]) (v:=.v false [.im 0 _]) (asz atG) (.inl j) j aAg j (ppC j (ppC j pp0)) j j pb0 j j j)<|q (aiF j j)<|nl)<|us<|gs<|gs<|g0 j j (q (oMv j j)<|q (oBi j j j j)<|nl)<|us<|gc h j aiK (fun hc1 h=>?_) fun hc1 h=>?_
 ·refine gs<|g0 j j (q (aiF j j)<|nl)<|us<|Go.ret (Unw.ret ?_)
  cases h
  exact fr rF3 j
 ·refine Go.skip<|us<|gs<|?_
  obtain ⟨x26,axy,h⟩:=bs h
  obtain ⟨x28,hx28,h⟩:=bs h
  refine g0 j j (q (oLd (cs:=[.im 0 _,.im 0 _,.im 2 _]) j awD j j)<|q (oCr (xs:=[.v true [.im 0 _,.im 0 _,.im 2 _]]) (vs:=[(true,[.im 0 _,.im 0 _,.own 26 0 0])]) (v:=.v true [.im 0 _,.im 0 _,.own 26 0 0]) (c:=⟨.sh,0,_⟩) (cs:=[]) (amL axy) (.inl j) j asI j (ppC j pp0) j j pb0 j j j)<|q (oMv j j)<|q (oCr (xs:=[.v true [.im 0 _,.im 0 _,.own 26 0 0],.v false [.im 2 _]]) (vs:=[(false,[.own 28 0 0]),(false,[.im 0 _]),(false,[.im 0 _])]) (v:=.tup [(false,[.own 28 0 0]),(false,[.im 0 _]),(false,[.im 0 _])]) (c:=⟨.sh,0,_⟩) (cs:=[]) (aqt hx28) (.inl j) j ayU j (ppC j (ppC j pp0)) j j pb0 j j j)<|q (asu j j)<|q (oEx j j j)<|q (oEx j j j)<|q (oEx j j j)<|q (al2 j j j j j)<|q (aiF j j)<|q (aiF j j)<|nl)<|us<|gs<|?_
  obtain ⟨x33,avu,h⟩:=bs h
  refine g0 j j (q (oLd (cs:=[.im 0 _,.im 0 _,.im 2 _]) j awD j j)<|q (oCF (xs:=[.v true [.im 0 _,.im 0 _,.im 2 _]]) (vs:=[(true,[.im 0 _,.im 0 _,.fr _])]) (v:=.v true [.im 0 _,.im 0 _,.fr _]) (amL avu) (.inl j) j asI j (ppC j pp0) j j j j)<|q (oAl j aop (tkI (tkI (tkN tk0))))<|q (oSt aop j j j (tkI (tkI (tkF tk0))) j j j)<|nl)<|us<|gs<|?_
  obtain ⟨x37,aAk,h⟩:=bs h
  refine g1 j j (mk [(1,iv ajV),(2,M 2),(6,H 6 0),(7,iv x28.2.1),(8,iv x28.2.2),(9,M 9)] [(2,Oa (G 2 (aiC apv))),(6,Oc [Z (W 1 eI x28.1)]),(9,Oa (K (aiC x33)))]) (q (oLd (cs:=[.im 0 _,.im 0 _,.fr _]) j aop j j)<|q (oMv j j)<|q (oCr (xs:=[.v true [.im 0 _,.im 0 _,.fr _],.v false [.im 0 _]]) (vs:=[(false,[.own 37 0 0]),(false,[.im 0 _]),(false,[.im 0 _])]) (v:=.tup [(false,[.own 37 0 0]),(false,[.im 0 _]),(false,[.im 0 _])]) (c:=⟨.sh,0,_⟩) (cs:=[]) (an8 aAk) (.inl j) j auH j (ppC j (ppC j pp0)) j j pb0 j j j)<|q (asu j j)<|q (oEx j j j)<|q (oEx j j j)<|q (oEx j j j)<|q (al2 j j j j j)<|q (aiF j j)<|q (aiF j j)<|nl)<|us<|gs<|gs<|?_
  obtain ⟨x43,axx,h⟩:=bs h
  refine gX c3 j j j (mk [(1,iv ajV),(2,M 2),(6,H 6 0),(7,iv x28.2.1),(8,iv x28.2.2),(9,M 9),(10,H 10 0),(11,iv x37.2.1),(12,iv x37.2.2),(54,bv ((!x43)||((x37.2.1 != x28.2.1)||(x37.2.2 != x28.2.2))))] [(2,Oa (G 2 (aiC apv))),(6,Oc [Z (W 1 eI x28.1)]),(9,Oa (K (aiC x33))),(10,Oc [Z (W 1 eI x37.1)])]) ?_ ?_
  ·refine xq (oMv j j)<|xq (oMv j j)<|xq (oCa (xs:=[.v false [.own 10 0 0],.v false [.own 6 0 0]]) (vs:=[(false,[.im 0 _])]) (v:=.v false [.im 0 _]) (amN axx) (.inl j) j apL j (ppC j (ppC j pp0)) j j pb0 j j j)<|xq (oUn j j j)<|xq (oMv j j)<|?_
   by_cases hc2:x43=true
   ·refine xqT j j (nF (iR.2 hc2)) (oMv j j)<|xqT j j (nF (iR.2 hc2)) (oMv j j)<|xqT j j (nF (iR.2 hc2)) (oBi j j j j)<|xq (aok j j (nF (iR.2 hc2)) j)<|xq (oMv j j)<|?_
    by_cases hc3:x37.2.1≠x28.2.1
    ·exact ajo rfl rfl (iNe.2 hc3) rfl<|ajo rfl rfl (iNe.2 hc3) rfl<|ajo rfl rfl (iNe.2 hc3) rfl<|xq (amS rfl rfl (iNe.2 hc3) rfl)<|xn (Eq.trans (b:=(fun ant:Bool=>mk [(1,iv ajV),(2,M 2),(6,H 6 0),(7,iv x28.2.1),(8,iv x28.2.2),(9,M 9),(10,H 10 0),(11,iv x37.2.1),(12,iv x37.2.2),(54,bv ant)] [(2,Oa (G 2 (aiC apv))),(6,Oc [Z (W 1 eI x28.1)]),(9,Oa (K (aiC x33))),(10,Oc [Z (W 1 eI x37.1)])]) true) (by kernel_rfl) (congrArg (fun ant:Bool=>mk [(1,iv ajV),(2,M 2),(6,H 6 0),(7,iv x28.2.1),(8,iv x28.2.2),(9,M 9),(10,H 10 0),(11,iv x37.2.1),(12,iv x37.2.2),(54,bv ant)] [(2,Oa (G 2 (aiC apv))),(6,Oc [Z (W 1 eI x28.1)]),(9,Oa (K (aiC x33))),(10,Oc [Z (W 1 eI x37.1)])]) (by first | rfl | (simp [(iR.2 hc2),(iNe.2 hc3)];done) | (simp [(iR.2 hc2),(iNe.2 hc3)];omega) | (have q0:=(iR.2 hc2);have q1:=(iNe.2 hc3);simp_all))))
    ·exact xqT rfl rfl (byF iNe hc3) (oMv rfl rfl)<|xqT rfl rfl (byF iNe hc3) (oMv rfl rfl)<|xqT rfl rfl (byF iNe hc3) (oBi rfl rfl rfl rfl)<|xq (aok rfl rfl (byF iNe hc3) rfl)<|xn (Eq.trans (b:=(fun ant:Bool=>mk [(1,iv ajV),(2,M 2),(6,H 6 0),(7,iv x28.2.1),(8,iv x28.2.2),(9,M 9),(10,H 10 0),(11,iv x37.2.1),(12,iv x37.2.2),(54,bv ant)] [(2,Oa (G 2 (aiC apv))),(6,Oc [Z (W 1 eI x28.1)]),(9,Oa (K (aiC x33))),(10,Oc [Z (W 1 eI x37.1)])]) (x37.2.2 != x28.2.2)) (by kernel_rfl) (congrArg (fun ant:Bool=>mk [(1,iv ajV),(2,M 2),(6,H 6 0),(7,iv x28.2.1),(8,iv x28.2.2),(9,M 9),(10,H 10 0),(11,iv x37.2.1),(12,iv x37.2.2),(54,bv ant)] [(2,Oa (G 2 (aiC apv))),(6,Oc [Z (W 1 eI x28.1)]),(9,Oa (K (aiC x33))),(10,Oc [Z (W 1 eI x37.1)])]) (by first | rfl | (simp [(iR.2 hc2),(byF iNe hc3)];done) | (simp [(iR.2 hc2),(byF iNe hc3)];omega) | (have q0:=(iR.2 hc2);have q1:=(byF iNe hc3);simp_all))))
   ·exact ajo rfl rfl (nT (byF iR hc2)) rfl<|ajo rfl rfl (nT (byF iR hc2)) rfl<|ajo rfl rfl (nT (byF iR hc2)) rfl<|xq (amS rfl rfl (nT (byF iR hc2)) rfl)<|xq (oMv rfl rfl)<|ajo rfl rfl rfl rfl<|ajo rfl rfl rfl rfl<|ajo rfl rfl rfl rfl<|xq (amS rfl rfl rfl rfl)<|xn (Eq.trans (b:=(fun ant:Bool=>mk [(1,iv ajV),(2,M 2),(6,H 6 0),(7,iv x28.2.1),(8,iv x28.2.2),(9,M 9),(10,H 10 0),(11,iv x37.2.1),(12,iv x37.2.2),(54,bv ant)] [(2,Oa (G 2 (aiC apv))),(6,Oc [Z (W 1 eI x28.1)]),(9,Oa (K (aiC x33))),(10,Oc [Z (W 1 eI x37.1)])]) true) (by kernel_rfl) (congrArg (fun ant:Bool=>mk [(1,iv ajV),(2,M 2),(6,H 6 0),(7,iv x28.2.1),(8,iv x28.2.2),(9,M 9),(10,H 10 0),(11,iv x37.2.1),(12,iv x37.2.2),(54,bv ant)] [(2,Oa (G 2 (aiC apv))),(6,Oc [Z (W 1 eI x28.1)]),(9,Oa (K (aiC x33))),(10,Oc [Z (W 1 eI x37.1)])]) (by first | rfl | (simp [(byF iR hc2)];done) | (simp [(byF iR hc2)];omega))))
  ·refine us<|gc h j (iOr (aDT iR) (iOr iNe iNe)) (fun hc4 h=>?_) fun hc4 h=>?_
   ·refine gs<|g0 j j (q (aiF j j)<|nl)<|us<|Go.ret (Unw.ret ?_)
    cases h
    exact fr rF3 j
   ·refine Go.skip<|us<|gs<|gs<|?_
    obtain ⟨x57,aDe,h⟩:=bs h
    obtain ⟨x58,atZ,h⟩:=bs h
    refine gd c3 j j j j (mk [(1,iv ajV),(2,M 2),(6,H 6 0),(7,iv x28.2.1),(8,iv x28.2.2),(9,M 9),(10,H 10 0),(11,iv x37.2.1),(12,iv x37.2.2),(59,bv (!x58))] [(2,Oa (G 2 (aiC apv))),(6,Oc [Z (W 1 eI x28.1)]),(9,Oa (K (aiC x33))),(10,Oc [Z (W 1 eI x37.1)])]) (t j j (oLd (cs:=[.im 0 _,.im 0 _,.fr _]) j aop j j)<|t j j (oLd (cs:=[.im 0 _,.im 0 _,.im 2 _]) j awD j j)<|sS (dN z3 j (oCr (xs:=[.v true [.im 0 _,.im 0 _,.im 2 _]]) (vs:=[(true,[.im 0 _,.im 0 _,.own 57 0 0])]) (v:=.v true [.im 0 _,.im 0 _,.own 57 0 0]) (c:=⟨.sh,0,_⟩) (cs:=[]) (amL aDe) (.inl j) j asI j (ppC j pp0) j j pb0 j j j)) trivial (sS (dN z3 j (oCa (xs:=[.v true [.im 0 _,.im 0 _,.fr _],.v true [.im 0 _,.im 0 _,.own 57 0 0]]) (vs:=[(false,[.im 0 _])]) (v:=.v false [.im 0 _]) (asB atZ) (.inl j) j axw j (ppC j (ppC j pp0)) j j pb0 j j j)) trivial (t j j (oUn j j j)<|sD (by kernel_rfl))))<|us<|?_
    by_cases hc5:x58=true
    ·rw [if_pos hc5] at h
     refine gF j (nF (iR.2 hc5))<|Go.skip<|us<|gs<|g0 j j (q (aiF j j)<|nl)<|us<|gs<|?_
     obtain ⟨x62,aDd,h⟩:=bs h
     refine gS j j (mk [(1,iv ajV),(2,M 2),(6,H 6 0),(7,iv x28.2.1),(8,iv x28.2.2),(9,M 9),(10,H 10 0),(11,iv x37.2.1),(12,iv x37.2.2),(13,iv 1)] [(2,Oa (G 2 (aiC apv))),(6,Oc [Z (W 1 eI x28.1)]),(9,Oa (Kw (aiC x33))),(10,Oc [Z (W 1 eI x37.1)])]) (q (oLd (cs:=[.im 0 _,.im 0 _,.ws _]) j aop j j)<|q (oMv j j)<|q (oCa (xs:=[.v true [.im 0 _,.im 0 _,.ws _],.v false [.im 0 _]]) (vs:=[(false,[.im 0 _])]) (v:=.v false [.im 0 _]) (arI aDd) (.inl j) j ayV j (ppC j (ppC j pp0)) j j pb0 j j j)<|q (aiF j j)<|nl)<|us<|gs<|gs<|?_
     obtain ⟨atz,arf,h⟩:=bs h
     refine gX c3 j j j (mk [(1,iv ajV),(2,M 2),(6,H 6 0),(7,iv x28.2.1),(8,iv x28.2.2),(10,H 10 0),(80,bv atz)] [(2,Oa (G 2 (aiC apv))),(6,Oc [Z (W 1 eI x28.1)]),(10,Oc [Z (W 1 eI x37.1)])]) ?_ ?_
     ·refine xq (oMv j j)<|xq (oBi j j j j)<|xq (oMv j j)<|?_
      refine ic arf (fun hc6 arf=>?_) fun hc6 arf=>?_
      ·cases arf
       exact ajo j j (aiK.2 hc6) j<|ajo j j (aiK.2 hc6) j<|ajo j j (aiK.2 hc6) j<|ajo j j (aiK.2 hc6) j<|xq (amS j j (aiK.2 hc6) j)<|xq (oMv j j)<|ajo j j j j<|ajo j j j j<|ajo j j j j<|xq (amS j j j j)<|xq (oMv j j)<|ajo j j j j<|ajo j j j j<|ajo j j j j<|xq (amS j j j j)<|xn
      ·obtain ⟨x68,aF0,arf⟩:=bs arf
       refine xqT j j (byF aiK hc6) (oMv j j)<|xqT j j (byF aiK hc6) (oMv j j)<|xqT j j (byF aiK hc6) (oCa (xs:=[.v false [.own 10 0 0],.v false [.own 6 0 0]]) (vs:=[(false,[.im 0 _])]) (v:=.v false [.im 0 _]) (amN aF0) (.inl j) j apL j (ppC j (ppC j pp0)) j j pb0 j j j)<|xqT j j (byF aiK hc6) (oUn j j j)<|xq (aok j j (byF aiK hc6) j)<|xq (oMv j j)<|?_
       refine ic arf (fun hc7 arf=>?_) fun hc7 arf=>?_
       ·refine xqT j j (nF (iR.2 hc7)) (oMv j j)<|xqT j j (nF (iR.2 hc7)) (oMv j j)<|xqT j j (nF (iR.2 hc7)) (oBi j j j j)<|xq (aok j j (nF (iR.2 hc7)) j)<|xq (oMv j j)<|?_
        refine ic arf (fun hc8 arf=>?_) fun hc8 arf=>?_
        ·cases arf
         exact ajo j j (iNe.2 hc8) j<|ajo j j (iNe.2 hc8) j<|ajo j j (iNe.2 hc8) j<|xq (amS j j (iNe.2 hc8) j)<|xn
        ·cases arf
         exact xqT j j (byF iNe hc8) (oMv j j)<|xqT j j (byF iNe hc8) (oMv j j)<|xqT j j (byF iNe hc8) (oBi j j j j)<|xq (aok j j (byF iNe hc8) j)<|xn
       ·cases arf
        exact ajo j j (nT (byF iR hc7)) j<|ajo j j (nT (byF iR hc7)) j<|ajo j j (nT (byF iR hc7)) j<|xq (amS j j (nT (byF iR hc7)) j)<|xq (oMv j j)<|ajo j j j j<|ajo j j j j<|ajo j j j j<|xq (amS j j j j)<|xn
     ·refine us<|gc h j iR (fun hc9 h=>?_) fun hc9 h=>?_
      ·refine gs<|g0 j j (q (aiF j j)<|nl)<|us<|Go.ret (Unw.ret ?_)
       cases h
       exact fr rF3 j
      ·refine Go.skip<|us<|gs<|g0 j j (q (aiF j j)<|nl)<|us<|gs<|?_
       obtain ⟨x83,aF1,h⟩:=bs h
       refine g0 j j (q (oMv j j)<|q (oMv j j)<|q (oCa (xs:=[.v false [.own 10 0 0],.v false [.im 0 _]]) (vs:=[(false,[.im 0 _])]) (v:=.v false [.im 0 _]) (arJ aF1) (.inl j) j auJ j (ppC j (ppC j pp0)) j j (pbO j j j j pb0) j j j)<|q (aiF j j)<|nl)<|us<|gs<|g1 j j (mk [(1,iv ajV),(2,M 2),(6,H 6 0),(7,iv x28.2.1),(8,iv x28.2.2),(10,H 10 0),(14,iv x83.1)] [(2,Oa (G 2 (aiC apv))),(6,Oc [Z (W 1 eI x28.1)]),(10,Oc [Z (W 1 eI x83.2)])]) (q (aiF j j)<|nl)<|us<|gs<|?_
       obtain ⟨x86,aDg,h⟩:=bs h
       refine g0 j j (q (oMv j j)<|q (oMv j j)<|q (oCa (xs:=[.v false [.own 10 0 0],.v false [.im 0 _]]) (vs:=[(false,[.im 0 _])]) (v:=.v false [.im 0 _]) (aoY aDg) (.inl j) j auK j (ppC j (ppC j pp0)) j j pb0 j j j)<|q (aiF j j)<|nl)<|us<|gs<|gs<|g0 j j (q (oMv j j)<|q (oBi j j j j)<|nl)<|us<|gc h j aiK (fun ayZ h=>?_) fun ayZ h=>?_
       ·refine gs<|g0 j j (q (aiF j j)<|nl)<|us<|Go.ret (Unw.ret ?_)
        cases h
        exact fr rF3 j
       ·refine Go.skip<|us<|gs<|gs<|g0 j j (q (oMv j j)<|q (oMv j j)<|q (oBi j j j j)<|nl)<|us<|gc h j iNe (fun aoL h=>?_) fun aoL h=>?_
        ·refine gs<|g0 j j (q (aiF j j)<|nl)<|us<|Go.ret (Unw.ret ?_)
         cases h
         exact fr rF3 j
        ·refine Go.skip<|us<|gs<|?_
         obtain ⟨x94,aF2,h⟩:=bs h
         obtain ⟨x96,hx96,h⟩:=bs h
         refine g0 j j (q (oLd (cs:=[.im 0 _,.im 0 _,.im 2 _]) j awD j j)<|q (oCr (xs:=[.v true [.im 0 _,.im 0 _,.im 2 _]]) (vs:=[(true,[.im 0 _,.im 0 _,.own 94 0 0])]) (v:=.v true [.im 0 _,.im 0 _,.own 94 0 0]) (c:=⟨.sh,0,_⟩) (cs:=[]) (amL aF2) (.inl j) j asI j (ppC j pp0) j j pb0 j j j)<|q (oMv j j)<|q (oCr (xs:=[.v true [.im 0 _,.im 0 _,.own 94 0 0],.v false [.im 0 _]]) (vs:=[(false,[.own 96 0 0]),(false,[.im 0 _]),(false,[.im 0 _])]) (v:=.tup [(false,[.own 96 0 0]),(false,[.im 0 _]),(false,[.im 0 _])]) (c:=⟨.sh,0,_⟩) (cs:=[]) (an8 hx96) (.inl j) j auH j (ppC j (ppC j pp0)) j j pb0 j j j)<|q (asu j j)<|q (oEx j j j)<|q (oEx j j j)<|q (oEx j j j)<|q (al2 j j j j j)<|q (aiF j j)<|q (aiF j j)<|nl)<|us<|gs<|gs<|?_
         obtain ⟨x102,hx102,h⟩:=bs h
         refine gX c3 j j j (mk [(10,H 10 0),(14,iv x83.1),(113,bv ((!x102)||((x96.2.1 != x28.2.1)||(x96.2.2 != x28.2.2))))] [(10,Oc [Z (W 1 eI x83.2)])]) ?_ ?_
         ·refine xq (oMv j j)<|xq (oMv j j)<|xq (oCa (xs:=[.v false [.own 16 0 0],.v false [.own 6 0 0]]) (vs:=[(false,[.im 0 _])]) (v:=.v false [.im 0 _]) (amN hx102) (.inl j) j apL j (ppC j (ppC j pp0)) j j pb0 j j j)<|xq (oUn j j j)<|xq (oMv j j)<|?_
          by_cases hc12:x102=true
          ·refine xqT j j (nF (iR.2 hc12)) (oMv j j)<|xqT j j (nF (iR.2 hc12)) (oMv j j)<|xqT j j (nF (iR.2 hc12)) (oBi j j j j)<|xq (aok j j (nF (iR.2 hc12)) j)<|xq (oMv j j)<|?_
           by_cases hc13:x96.2.1≠x28.2.1
           ·exact ajo rfl rfl (iNe.2 hc13) rfl<|ajo rfl rfl (iNe.2 hc13) rfl<|ajo rfl rfl (iNe.2 hc13) rfl<|xq (amS rfl rfl (iNe.2 hc13) rfl)<|xn (Eq.trans (b:=(fun alC:Bool=>mk [(10,H 10 0),(14,iv x83.1),(113,bv alC)] [(10,Oc [Z (W 1 eI x83.2)])]) true) (by kernel_rfl) (congrArg (fun alC:Bool=>mk [(10,H 10 0),(14,iv x83.1),(113,bv alC)] [(10,Oc [Z (W 1 eI x83.2)])]) (by first | rfl | (simp [(iR.2 hc12),(iNe.2 hc13)];done) | (simp [(iR.2 hc12),(iNe.2 hc13)];omega) | (have q0:=(iR.2 hc12);have q1:=(iNe.2 hc13);simp_all))))
           ·exact xqT rfl rfl (byF iNe hc13) (oMv rfl rfl)<|xqT rfl rfl (byF iNe hc13) (oMv rfl rfl)<|xqT rfl rfl (byF iNe hc13) (oBi rfl rfl rfl rfl)<|xq (aok rfl rfl (byF iNe hc13) rfl)<|xn (Eq.trans (b:=(fun alC:Bool=>mk [(10,H 10 0),(14,iv x83.1),(113,bv alC)] [(10,Oc [Z (W 1 eI x83.2)])]) (x96.2.2 != x28.2.2)) (by kernel_rfl) (congrArg (fun alC:Bool=>mk [(10,H 10 0),(14,iv x83.1),(113,bv alC)] [(10,Oc [Z (W 1 eI x83.2)])]) (by first | rfl | (simp [(iR.2 hc12),(byF iNe hc13)];done) | (simp [(iR.2 hc12),(byF iNe hc13)];omega) | (have q0:=(iR.2 hc12);have q1:=(byF iNe hc13);simp_all))))
          ·exact ajo rfl rfl (nT (byF iR hc12)) rfl<|ajo rfl rfl (nT (byF iR hc12)) rfl<|ajo rfl rfl (nT (byF iR hc12)) rfl<|xq (amS rfl rfl (nT (byF iR hc12)) rfl)<|xq (oMv rfl rfl)<|ajo rfl rfl rfl rfl<|ajo rfl rfl rfl rfl<|ajo rfl rfl rfl rfl<|xq (amS rfl rfl rfl rfl)<|xn (Eq.trans (b:=(fun alC:Bool=>mk [(10,H 10 0),(14,iv x83.1),(113,bv alC)] [(10,Oc [Z (W 1 eI x83.2)])]) true) (by kernel_rfl) (congrArg (fun alC:Bool=>mk [(10,H 10 0),(14,iv x83.1),(113,bv alC)] [(10,Oc [Z (W 1 eI x83.2)])]) (by first | rfl | (simp [(byF iR hc12)];done) | (simp [(byF iR hc12)];omega))))
         ·refine us<|gc h j (iOr (aDT iR) (iOr iNe iNe)) (fun aAn h=>?_) fun aAn h=>?_
          ·refine gs<|g0 j j (q (aiF j j)<|nl)<|us<|Go.ret (Unw.ret ?_)
           cases h
           exact fr rF3 j
          ·refine Go.skip<|us<|gs<|g0 j j (q (aiF j j)<|nl)<|us<|gs<|?_
           obtain ⟨aCX,aEr,h⟩:=bs h
           refine g0 j j (q (oMv j j)<|q (oMv j j)<|q (oCa (xs:=[.v false [.own 10 0 0],.v false [.im 0 _]]) (vs:=[(false,[.im 0 _])]) (v:=.v false [.im 0 _]) (aoY aEr) (.inl j) j auK j (ppC j (ppC j pp0)) j j pb0 j j j)<|q (aiF j j)<|nl)<|us<|gs<|gs<|g0 j j (q (oMv j j)<|q (oBi j j j j)<|nl)<|us<|gc h j aiK (fun aF3 h=>?_) fun aF3 h=>?_
           ·refine gs<|g0 j j (q (aiF j j)<|nl)<|us<|Go.ret (Unw.ret ?_)
            cases h
            exact fr rF3 j
           ·refine Go.skip<|us<|gs<|gs<|g0 j j (q (oMv j j)<|q (oMv j j)<|q (oBi j j j j)<|nl)<|us<|gc h j iNe (fun hc16 h=>?_) fun hc16 h=>?_
            ·refine gs<|g0 j j (q (aiF j j)<|nl)<|us<|Go.ret (Unw.ret ?_)
             cases h
             exact fr rF3 j
            ·refine Go.skip<|us<|gs<|g0 j j (q (aiF j j)<|nl)<|us<|Go.ret (Unw.ret ?_)
             cases h
             exact fr rF3 j
    ·rw [if_neg hc5] at h
     refine gT j (nT (byF iR hc5))<|gs<|g0 j j (q (aiF j j)<|nl)<|us<|Go.ret (Unw.ret ?_)
     cases h
     exact fr rF3 j
end
end Go.Proofs.Ytnjgcdpleghciaa
