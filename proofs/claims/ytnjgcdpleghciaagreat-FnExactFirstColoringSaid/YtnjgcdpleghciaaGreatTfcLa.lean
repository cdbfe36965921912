/- The machine answers, at each function of the program that is reached, what its plain function answers. Conditions: none. -/
import Derived.Test.YtnjgcdpleghciaaGreatProg
import Derived.KernelRfl
import Derived.Test.YtnjgcdpleghciaaGreatSimRs
import Derived.Test.YtnjgcdpleghciaaGreatSimRv
import Derived.Test.YtnjgcdpleghciaaGreatTfcT
namespace Go.Proofs.YtnjgcdpleghciaaGreat
open Go Go.Sim Go.Pw Go.Proofs
set_option linter.unusedVariables false
set_option linter.unusedSimpArgs false
set_option maxRecDepth 100000
set_option maxHeartbeats 4000000
noncomputable section
noncomputable abbrev aF (x:af):List AV:=[I x.X,I x.Y]
noncomputable def az (x:af):AV:= .agg (aF x)
noncomputable abbrev uZ (x:dh):List AV:=[Y x.Name,W 1 eI x.Ring]
noncomputable def bM (x:dh):AV:= .agg (uZ x)
noncomputable abbrev ak (x:aA):List AV:=[I x.Width,I x.Height,W 2 az x.bf,W 2 bM x.aC]
noncomputable def Qm (x:aA):AV:= .agg (ak x)
noncomputable abbrev iE (x:ai):List AV:=[Y x.ji,I x.dM,I x.aX]
noncomputable def au (x:ai):AV:= .agg (iE x)
noncomputable abbrev vN (x:aY):List AV:=[I x.e0,I x.e1]
noncomputable def bT (x:aY):AV:= .agg (vN x)
noncomputable def fc3:cZ:={par:=[.cst false,.cst false,.cst false,.cst false],inn:=[(10,some ([1,2,3,4,10,11,12],[4,10,12])),(19,some ([1,2,3,4,10,11,12,13,14,15,16],[4,10,12,13,14])),(21,some ([1,2,3,4,10,11,14,15,16],[4,10,14])),(25,some ([1,2,3,4,10,11,14,17],[4,10,14]))],out:=[(12,some ([1,2,3,4,10,11,12,13,14,15,61],[4,10,12,13,14])),(14,some ([1,2,3,4,10,11,12,13,14,15,66],[4,10,12,13,14])),(21,some ([1,2,3,4,10,11,14,90],[4,10,14])),(32,some ([14,17,120],[14]))],aU:=[],frz:=[],sch:=[(14,.first 0 [3,4] [1,2]<| .first 1 [2,3,4] []<| .fork 2 (.fork 3 (.first 4 [] []<| .done) (.stop)) (.stop))],shut:=[19]}
noncomputable def fc6:cZ:={par:=[.cst false,.cst false],inn:=[],out:=[],aU:=[],frz:=[],sch:=[],shut:=[]}
noncomputable def fc7:cZ:={par:=[.cst false,.cst false],inn:=[(10,some ([1],[]))],out:=[],aU:=[(5,([0,1,5],[]))],frz:=[],sch:=[],shut:=[]}
noncomputable def fc8:cZ:={par:=[.cst false,.cst false,.cst false,.cst false],inn:=[(6,some ([11],[22])),(7,some ([11],[22]))],out:=[],aU:=[],frz:=[],sch:=[],shut:=[]}
noncomputable def fc9:cZ:={par:=[.cst false],inn:=[(3,some ([1,2,3],[1,2,3])),(4,some ([1,2,3],[1,2,3])),(5,some ([1,2,3],[1,2,3])),(6,some ([2,3],[2,3]))],out:=[],aU:=[],frz:=[],sch:=[],shut:=[]}
noncomputable def YR:cZ:={par:=[.cst false],inn:=[(4,some ([0,3,4],[3])),(6,some ([3],[3]))],out:=[],aU:=[(3,([0,3,4],[3]))],frz:=[],sch:=[],shut:=[]}
noncomputable def YS:cZ:={par:=[.cst false,.cst false,.cst false,.cst false],inn:=[],out:=[],aU:=[],frz:=[],sch:=[],shut:=[]}
noncomputable def YT:cZ:={par:=[.cst false,.cst false],inn:=[(8,some ([],[]))],out:=[(6,some ([0,1,5,25],[]))],aU:=[(4,([0,1,5],[]))],frz:=[],sch:=[(6,.first 0 [2,3,8] [1,4,5,6,7]<| .first 1 [2,3,8] [4,5,6,7]<| .first 2 [3,8] [4,5,6,7]<| .first 3 [8] [4,5,6,7]<| .first 4 [6,7,8] [5]<| .first 5 [6,7,8] []<| .first 6 [7,8] []<| .first 7 [8] []<| .first 8 [] []<| .done)],shut:=[]}
noncomputable def YU:cZ:={par:=[.cst false,.cst false],inn:=[],out:=[],aU:=[],frz:=[],sch:=[],shut:=[]}
noncomputable def YV:cZ:={par:=[.cst false,.cst false],inn:=[(8,some ([],[]))],out:=[(6,some ([0,1,5,26],[]))],aU:=[(4,([0,1,5],[]))],frz:=[],sch:=[(6,.first 0 [2,3,8,9] [1,4,5,6,7]<| .first 1 [2,3,8,9] [4,5,6,7]<| .first 2 [3,8,9] [4,5,6,7]<| .first 3 [8,9] [4,5,6,7]<| .first 4 [6,7,8,9] [5]<| .first 5 [6,7,8,9] []<| .first 6 [7,8,9] []<| .first 7 [8,9] []<| .fork 8 (.first 9 [] []<| .done) (.stop))],shut:=[]}
noncomputable def YW:cZ:={par:=[.ws,.cst false],inn:=[],out:=[],aU:=[],frz:=[],sch:=[],shut:=[]}
noncomputable def YX:cZ:={par:=[.row,.cst false],inn:=[(5,some ([0,1,5],[0])),(7,some ([0,1,5],[0])),(9,some ([0,1,5],[0])),(10,some ([1],[0]))],out:=[],aU:=[(2,([0,1,5],[0]))],frz:=[],sch:=[],shut:=[]}
noncomputable def YY:cZ:={par:=[.row,.cst false],inn:=[(5,some ([0,1,5],[0])),(6,some ([1],[0]))],out:=[],aU:=[(2,([0,1,5],[0]))],frz:=[],sch:=[],shut:=[]}
noncomputable def YZ:cZ:={par:=[.cst false,.cst false],inn:=[(7,some ([1],[]))],out:=[],aU:=[(2,([0,1,5],[]))],frz:=[],sch:=[],shut:=[]}
noncomputable def Y0:cZ:={par:=[.cst false,.cst false],inn:=[],out:=[],aU:=[],frz:=[],sch:=[],shut:=[]}
noncomputable def Y1:cZ:={par:=[.cst false,.cst false],inn:=[(10,some ([1],[]))],out:=[],aU:=[(5,([0,1,5],[]))],frz:=[],sch:=[],shut:=[]}
noncomputable def Y2:cZ:={par:=[.cst false,.cst false],inn:=[],out:=[],aU:=[],frz:=[],sch:=[],shut:=[]}
noncomputable def Y3:cZ:={par:=[.cut 4,.cst false,.cst false,.cst false],inn:=[],out:=[(1,some ([1,2,3,16],[])),(3,some ([34],[]))],aU:=[],frz:=[],sch:=[],shut:=[]}
noncomputable def Y4:cZ:={par:=[.cut 4,.cst false,.cst false,.cst false],inn:=[(2,some ([0,1,9],[19])),(4,some ([0,1,9,10],[19])),(6,some ([0,1,9],[19])),(11,some ([1,9],[19])),(13,some ([1,9,13],[19])),(19,some ([1,9,13,14],[14,19])),(20,some ([9],[19]))],out:=[(10,some ([1,9,11,12],[11,19])),(18,some ([1,9,13,14,15],[14,19]))],aU:=[(3,([0,1,9,10],[19])),(8,([1,9,11,12],[11,19])),(12,([1,9,13],[19])),(16,([1,9,13,14,15],[14,19]))],frz:=[],sch:=[(10,.first 0 [1,2,3,30,31] (rg [4,30])<| .first 4 [6,7,8,9,30,31] (rg [1,4,5,6,10,30])<| .first 5 [6,7,8,9,30,31] (rg [1,4,10,30])<| .first 10 [11,12,13,20,21,29,30,31] (rg [1,4,6,10,14,20,22,29])<| .first 14 (rg [16,22,29,32]) (rg [1,4,6,10,11,14,15,16,22,29])<| .first 15 (rg [16,22,29,32]) (rg [1,4,6,10,11,14,22,29])<| .first 22 (rg [24,32]) (rg [1,4,6,10,11,14,16,22,23,24])<| .first 23 (rg [24,32]) (rg [1,4,6,10,11,14,16,22])<| .first 24 (rg [25,32]) (rg [1,4,6,10,11,14,16,22])<| .first 25 (rg [26,32]) (rg [1,4,6,10,11,14,16,22])<| .first 26 [27,28,29,30,31] (rg [1,4,6,10,11,14,16,22])<| .first 27 [28,29,30,31] (rg [1,4,6,10,11,14,16,22])<| .first 6 [7,8,9,30,31] (rg [1,4,11,14,16,22,28,30])<| .first 7 [8,9,30,31] (rg [1,4,11,14,16,22,28,30])<| .first 8 [9,30,31] (rg [1,4,11,14,16,22,28,30])<| .first 9 [30,31] (rg [1,4,11,14,16,22,28,30])<| .first 11 [12,13,20,21,29,30,31] [1,2,3,16,17,18,19,28]<| .first 12 [13,20,21,29,30,31] [1,2,3,16,17,18,19,28]<| .first 13 [20,21,29,30,31] [1,2,3,16,17,18,19,28]<| .first 16 (rg [17,22,29,32]) [1,2,3,28]<| .first 17 [18,19,20,21,29,30,31] [1,2,3,28]<| .first 18 [19,20,21,29,30,31] [1,2,3,28]<| .first 19 [20,21,29,30,31] [1,2,3,28]<| .first 20 [21,29,30,31] [1,2,3,28]<| .first 21 [29,30,31] [1,2,3,28]<| .fork 1 (.fork 2 (.fork 3 (.fork 28 (.fork 29 (.first 30 [31] []<| .fork 31 (.done) (.stop)) (.stop)) (.stop)) (.fork 28 (.fork 3 (.fork 29 (.first 30 [31] []<| .fork 31 (.done) (.stop)) (.stop)) (.fork 29 (.fork 3 (.first 30 [31] []<| .fork 31 (.done) (.stop)) (.stop)) (.stop))) (.stop))) (.fork 28 (.fork 2 (.fork 3 (.fork 29 (.first 30 [31] []<| .fork 31 (.done) (.stop)) (.stop)) (.fork 29 (.fork 3 (.first 30 [31] []<| .fork 31 (.done) (.stop)) (.stop)) (.stop))) (.fork 29 (.fork 2 (.fork 3 (.first 30 [31] []<| .fork 31 (.done) (.stop)) (.stop)) (.stop)) (.stop))) (.stop))) (.fork 28 (.fork 1 (.fork 2 (.fork 3 (.fork 29 (.first 30 [31] []<| .fork 31 (.done) (.stop)) (.stop)) (.fork 29 (.fork 3 (.first 30 [31] []<| .fork 31 (.done) (.stop)) (.stop)) (.stop))) (.fork 29 (.fork 2 (.fork 3 (.first 30 [31] []<| .fork 31 (.done) (.stop)) (.stop)) (.stop)) (.stop))) (.fork 29 (.fork 1 (.fork 2 (.fork 3 (.first 30 [31] []<| .fork 31 (.done) (.stop)) (.stop)) (.stop)) (.stop)) (.stop))) (.stop))),(18,.first 0 [9,10] (rg [1,9])<| .first 1 [3,7,8,9,10] [2,4,5,6]<| .first 2 [3,7,8,9,10] [4,5,6]<| .first 3 [7,8,9,10] [4,5,6]<| .first 4 [6,7,8,9,10] [5]<| .first 5 [6,7,8,9,10] []<| .first 6 [7,8,9,10] []<| .fork 7 (.fork 8 (.fork 9 (.fork 10 (.done) (.stop)) (.stop)) (.stop)) (.stop))],shut:=[]}
noncomputable def Y5:cZ:={par:=[.ptr [.gone,.sh,.imm,.imm,.sh,.imm,.imm,.imm]],inn:=[(6,some ([0,3,4],[0])),(12,some ([0,3,4,5],[0,5])),(17,some ([0,3,4,7],[0])),(20,some ([0,3,4],[0])),(23,some ([0,3,4],[0])),(24,some ([0,3,4],[0])),(25,some ([],[0])),(26,some ([0,3,4],[0])),(27,some ([],[0]))],out:=[(12,some ([0,3,4,7],[0])),(14,some ([0,3,4,7,8,69],[0])),(16,some ([0,3,4,7,8],[0])),(18,some ([0,3,4,112],[0]))],aU:=[(5,([0,3,4],[0])),(9,([0,3,4,5,6],[0,5])),(14,([0,3,4,7,8],[0]))],frz:=[],sch:=[(16,.first 0 [1,2,3,5,6,23,24,29,30] (rg [4,5,7,23,25,29])<| .first 1 [2,3,5,6,23,24,29,30] (rg [4,5,7,23,25,29])<| .first 2 [3,5,6,23,24,29,30] (rg [4,5,7,23,25,29])<| .first 3 [5,6,23,24,29,30] (rg [4,5,7,23,25,29])<| .first 4 [5,6,23,24,29,30] (rg [7,23,25,29])<| .first 5 [6,23,24,29,30] (rg [7,23,25,29])<| .first 6 [23,24,29,30] (rg [7,23,25,29])<| .first 7 [8,9,10,21,22,23,24,29,30] (rg [11,21,25,29])<| .first 8 [9,10,21,22,23,24,29,30] (rg [11,21,25,29])<| .first 9 [10,21,22,23,24,29,30] (rg [11,21,25,29])<| .first 10 [21,22,23,24,29,30] (rg [11,21,25,29])<| .first 11 (rg [12,15,16,18,19,25,29,31]) [15,18,25,26,27,28]<| .first 12 (rg [13,15,16,18,19,25,29,31]) [15,18,25,26,27,28]<| .first 13 [14,16,17,19,20,21,22,23,24,29,30] [15,18,25,26,27,28]<| .first 14 (rg [16,18,19,25,29,31]) [15,18,25,26,27,28]<| .first 15 (rg [16,18,19,25,29,31]) [18,25,26,27,28]<| .first 16 [17,19,20,21,22,23,24,29,30] [18,25,26,27,28]<| .first 17 (rg [19,25,29,31]) [18,25,26,27,28]<| .first 18 (rg [19,25,29,31]) [25,26,27,28]<| .first 19 [20,21,22,23,24,29,30] [25,26,27,28]<| .first 20 [21,22,23,24,29,30] [25,26,27,28]<| .first 21 [22,23,24,29,30] [25,26,27,28]<| .first 22 [23,24,29,30] [25,26,27,28]<| .first 23 [24,29,30] [25,26,27,28]<| .first 24 [29,30] [25,26,27,28]<| .first 25 [26,27,28,29,30] []<| .first 26 [27,28,29,30] []<| .first 27 [28,29,30] []<| .first 28 [29,30] []<| .first 29 [30] []<| .fork 30 (.done) (.stop)),(18,.first 0 [1,2,3,8] [4,5,6,7]<| .first 1 [2,3,8] [4,5,6,7]<| .first 2 [3,8] [4,5,6,7]<| .first 3 [8] [4,5,6,7]<| .first 4 [5,6,7,8] []<| .first 5 [6,7,8] []<| .first 6 [7,8] []<| .first 7 [8] []<| .first 8 [] []<| .done)],shut:=[]}
noncomputable def Y6:cZ:={par:=[.cst false],inn:=[],out:=[],aU:=[],frz:=[],sch:=[],shut:=[]}
noncomputable def Y7:cZ:={par:=[.cst false],inn:=[(4,some ([0,3,4],[3])),(6,some ([3],[3]))],out:=[],aU:=[(3,([0,3,4],[3]))],frz:=[],sch:=[],shut:=[]}
noncomputable def Y8:cZ:={par:=[.cst false],inn:=[(4,some ([0,3,4],[3])),(6,some ([3],[3]))],out:=[],aU:=[(3,([0,3,4],[3]))],frz:=[],sch:=[],shut:=[]}
noncomputable def Y9:cZ:={par:=[.cst false],inn:=[(3,some ([1,2,3],[1,2,3])),(4,some ([1,2,3],[1,2,3])),(5,some ([2,3],[2,3]))],out:=[],aU:=[],frz:=[],sch:=[],shut:=[]}
noncomputable def Za:cZ:={par:=[.cst false,.cst false,.cst false,.cst false],inn:=[],out:=[(1,some ([1,2,3,9],[])),(3,some ([18],[]))],aU:=[],frz:=[],sch:=[],shut:=[]}
noncomputable def Zb:cZ:={par:=[.cst false],inn:=[(2,some ([1,3],[1,3])),(5,some ([3,5,11,12,13],[3,5])),(7,some ([3],[3])),(14,some ([3,6,7,8,28,29,33,34],[3,6,8])),(16,some ([3,6,7,28,29,33,34],[3,6])),(17,some ([3,6,28,29],[3,6])),(18,some ([6],[6]))],out:=[(5,some ([3,11,12,13],[3])),(14,some ([3,6,7,8,28,29,33,34,47],[3,6,8])),(15,some ([3,6,7,28,29,33,34],[3,6]))],aU:=[(3,([3,11,12,13],[3])),(9,([3,6,28,29],[3,6])),(12,([3,6,7,28,29,33,34],[3,6]))],frz:=[2],sch:=[(5,.first 1 [2,3,4,5,6] [0]<| .first 2 [3,4,5,6] [0]<| .first 0 [5,6] [3,4]<| .fork 3 (.fork 4 (.fork 5 (.fork 6 (.done) (.stop)) (.stop)) (.stop)) (.stop)),(15,.first 0 [9,10] (rg [1,9])<| .first 1 [9,10] (rg [2,9])<| .first 2 [4,5,8,9,10] [3,6,7]<| .first 3 [4,5,8,9,10] [6,7]<| .first 6 [7,8,9,10] [4,5]<| .first 4 [5,8,9,10] [7]<| .first 5 [8,9,10] [7]<| .fork 7 (.fork 8 (.first 9 [10] []<| .fork 10 (.done) (.stop)) (.stop)) (.stop))],shut:=[]}
noncomputable def Zc:cZ:={par:=[.ptr [.gone,.imm,.imm],.mv,.cst false,.cst false],inn:=[(6,some ([0,1,2,3,10,11],[0,1,11])),(17,some ([0,1,2,3,10,11,12,13,38,39],[0,1,11])),(21,some ([0,1,2,3,10,11,12,38,39],[0,1,11])),(22,some ([0,1,2,3,10,11,16,17,38,39],[0,1,11,16])),(24,some ([0,1,2,3,10,11,38,39],[0,1,11])),(25,some ([],[0]))],out:=[(10,some ([0,1,2,3,10,11,12,38,39,51],[0,1,11])),(15,some ([0,1,2,3,10,11,12,13,38,39,58,59,60],[0,1,11]))],aU:=[(8,([0,1,2,3,10,11,38,39],[0,1,11])),(13,([0,1,2,3,10,11,12,13,38,39,58,59,60],[0,1,11]))],frz:=[],sch:=[(15,.first 0 (rg [1,29]) []<| .first 1 (rg [2,29]) []<| .first 2 (rg [4,29]) [3]<| .first 3 (rg [4,29]) []<| .first 4 (rg [5,29]) []<| .first 5 (rg [6,29]) []<| .first 6 [7,8,9,11,12,23,25,26,27,28] (rg [10,11,13,23,24,25])<| .first 7 [8,9,11,12,23,25,26,27,28] (rg [10,11,13,23,24,25])<| .first 8 [9,11,12,23,25,26,27,28] (rg [10,11,13,23,24,25])<| .first 9 [11,12,23,25,26,27,28] (rg [10,11,13,23,24,25])<| .first 10 [11,12,23,25,26,27,28] (rg [13,23,24,25])<| .first 11 [12,23,25,26,27,28] (rg [13,23,24,25])<| .first 12 [23,25,26,27,28] (rg [13,23,24,25])<| .first 13 (rg [14,17,21,24,25,29]) [17,18,19,20,24]<| .first 14 [15,16,21,22,23,25,26,27,28] [17,18,19,20,24]<| .first 15 [16,21,22,23,25,26,27,28] [17,18,19,20,24]<| .first 16 [21,22,23,25,26,27,28] [17,18,19,20,24]<| .first 17 (rg [19,24,25,29]) [18,24]<| .first 18 (rg [19,24,25,29]) [24]<| .first 19 (rg [20,24,25,29]) [24]<| .first 20 [21,22,23,25,26,27,28] [24]<| .first 21 [22,23,25,26,27,28] [24]<| .first 22 [23,25,26,27,28] [24]<| .first 24 [25,26,27,28] [23]<| .fork 23 (.first 25 [26,27,28] []<| .first 26 [27,28] []<| .first 27 [28] []<| .fork 28 (.done) (.stop)) (.stop))],shut:=[]}
noncomputable def Zd:cZ:={par:=[.cst false,.cst false],inn:=[(8,some ([],[]))],out:=[(6,some ([0,1,5,26],[]))],aU:=[(4,([0,1,5],[]))],frz:=[],sch:=[(6,.first 0 [2,3,8,9] [1,4,5,6,7]<| .first 1 [2,3,8,9] [4,5,6,7]<| .first 2 [3,8,9] [4,5,6,7]<| .first 3 [8,9] [4,5,6,7]<| .first 4 [6,7,8,9] [5]<| .first 5 [6,7,8,9] []<| .first 6 [7,8,9] []<| .first 7 [8,9] []<| .fork 8 (.first 9 [] []<| .done) (.stop))],shut:=[]}
noncomputable def Ze:cZ:={par:=[.cst false,.cst false],inn:=[(8,some ([],[]))],out:=[(6,some ([0,1,5,26],[]))],aU:=[(4,([0,1,5],[]))],frz:=[],sch:=[(6,.first 0 [2,3,8,9] [1,4,5,6,7]<| .first 1 [2,3,8,9] [4,5,6,7]<| .first 2 [3,8,9] [4,5,6,7]<| .first 3 [8,9] [4,5,6,7]<| .first 4 [6,7,8,9] [5]<| .first 5 [6,7,8,9] []<| .first 6 [7,8,9] []<| .first 7 [8,9] []<| .fork 8 (.first 9 [] []<| .done) (.stop))],shut:=[]}
noncomputable def Zg:cZ:={par:=[.cst false,.cst false],inn:=[],out:=[],aU:=[],frz:=[],sch:=[],shut:=[]}
noncomputable def Zh:cZ:={par:=[.row,.cst false],inn:=[(5,some ([0,1,5],[])),(7,some ([0,1,5],[])),(8,some ([1],[]))],out:=[],aU:=[(2,([0,1,5],[]))],frz:=[],sch:=[],shut:=[]}
noncomputable def Zi:cZ:={par:=[.ws,.cst false],inn:=[(5,some ([0,1,5],[])),(7,some ([1],[]))],out:=[],aU:=[(2,([0,1,5],[]))],frz:=[],sch:=[],shut:=[]}
noncomputable def Zj:cZ:={par:=[.cst false],inn:=[(7,some ([3],[]))],out:=[],aU:=[(4,([0,3],[]))],frz:=[],sch:=[],shut:=[]}
noncomputable def Zk:cZ:={par:=[.cst false,.cst false],inn:=[],out:=[],aU:=[],frz:=[],sch:=[],shut:=[]}
noncomputable def Zl:cZ:={par:=[.cut 4],inn:=[(11,some ([],[]))],out:=[(1,some ([0,32],[])),(6,some ([0,3,75],[])),(9,some ([0,3,95],[]))],aU:=[(4,([0,3],[]))],frz:=[],sch:=[(6,.first 0 (rg [1,4,5,34]) [4]<| .first 1 (rg [2,4,5,34]) [4]<| .first 2 (rg [3,4,5,34]) [4]<| .first 3 (rg [5,34]) [4]<| .first 4 (rg [5,34]) []<| .first 5 (rg [6,34]) []<| .first 6 (rg [7,34]) []<| .first 7 (rg [8,34]) []<| .fork 8 (.first 9 (rg [10,34]) []<| .first 10 (rg [11,34]) []<| .first 11 (rg [12,34]) []<| .first 12 (rg [13,34]) []<| .first 13 (rg [14,34]) []<| .first 14 [15,16,17,20,21,22,31,32,33] (rg [18,20,23,31])<| .first 15 [16,17,20,21,22,31,32,33] (rg [18,20,23,31])<| .first 16 [17,20,21,22,31,32,33] (rg [18,20,23,31])<| .first 17 [20,21,22,31,32,33] (rg [18,20,23,31])<| .first 18 [19,20,21,22,31,32,33] (rg [23,31])<| .first 19 [20,21,22,31,32,33] (rg [23,31])<| .first 20 [21,22,31,32,33] (rg [23,31])<| .first 21 [22,31,32,33] (rg [23,31])<| .first 22 [31,32,33] (rg [23,31])<| .first 23 (rg [24,27,28,34]) [27]<| .first 24 (rg [25,27,28,34]) [27]<| .first 25 [26,28,29,30,31,32,33] [27]<| .first 26 (rg [28,34]) [27]<| .first 27 (rg [28,34]) []<| .first 28 [29,30,31,32,33] []<| .first 29 [30,31,32,33] []<| .first 30 [31,32,33] []<| .first 31 [32,33] []<| .first 32 [33] []<| .first 33 [] []<| .done) (.stop))],shut:=[]}
noncomputable def Zm:cZ:={par:=[.cst false],inn:=[(6,some ([],[]))],out:=[],aU:=[(2,([0,3],[]))],frz:=[],sch:=[],shut:=[]}
noncomputable def Zn:cZ:={par:=[.cst false,.cst false,.cst false],inn:=[],out:=[(1,some ([6],[]))],aU:=[],frz:=[],sch:=[],shut:=[]}
noncomputable def Zo:cZ:={par:=[.cut 4],inn:=[(4,some ([0,3,4],[3])),(8,some ([0,3,4,5,6],[3,5])),(11,some ([3],[3]))],out:=[],aU:=[(3,([0,3,4],[3])),(7,([0,3,4,5,6],[3,5]))],frz:=[],sch:=[],shut:=[]}
noncomputable def Zp:cZ:={par:=[.cut 3,.cut 3],inn:=[],out:=[(1,some ([4],[]))],aU:=[],frz:=[],sch:=[(1,.first 0 [1,2,3,8,18,27,28,29,30] (rg [4,8,9,18,19,27])<| .first 1 [2,3,8,18,27,28,29,30] (rg [4,8,9,18,19,27])<| .first 2 [3,8,18,27,28,29,30] (rg [4,8,9,18,19,27])<| .first 3 [8,18,27,28,29,30] (rg [4,8,9,18,19,27])<| .first 4 [5,6,7,8,18,27,28,29,30] (rg [9,18,19,27])<| .first 5 [6,7,8,18,27,28,29,30] (rg [9,18,19,27])<| .first 6 [7,8,18,27,28,29,30] (rg [9,18,19,27])<| .first 7 [8,18,27,28,29,30] (rg [9,18,19,27])<| .first 8 [18,27,28,29,30] (rg [9,18,19,27])<| .first 9 [10,11,12,17,18,27,28,29,30] (rg [13,17,19,27])<| .first 10 [11,12,17,18,27,28,29,30] (rg [13,17,19,27])<| .first 11 [12,17,18,27,28,29,30] (rg [13,17,19,27])<| .first 12 [17,18,27,28,29,30] (rg [13,17,19,27])<| .first 13 (rg [14,19,27,31]) (rg [19,27])<| .first 14 (rg [15,19,27,31]) (rg [19,27])<| .first 15 [16,17,18,27,28,29,30] (rg [19,27])<| .first 16 [17,18,27,28,29,30] (rg [19,27])<| .first 17 [18,27,28,29,30] (rg [19,27])<| .first 19 [20,21,22,27,28,29,30] [18,23,24,25,26]<| .first 20 [21,22,27,28,29,30] [18,23,24,25,26]<| .first 21 [22,27,28,29,30] [18,23,24,25,26]<| .first 22 [27,28,29,30] [18,23,24,25,26]<| .first 23 (rg [24,31]) [18]<| .first 24 (rg [25,31]) [18]<| .first 25 [26,27,28,29,30] [18]<| .first 26 [27,28,29,30] [18]<| .fork 18 (.fork 27 (.first 28 [29,30] []<| .first 29 [30] []<| .fork 30 (.done) (.stop)) (.stop)) (.stop))],shut:=[]}
noncomputable def Zq:cZ:={par:=[.cst false,.cst false],inn:=[(10,some ([0,1,5,6,7],[5])),(11,some ([1,5,6],[5])),(13,some ([5],[5]))],out:=[(6,some ([0,1,5,6,7,24],[5]))],aU:=[(4,([0,1,5,6,7],[5]))],frz:=[],sch:=[],shut:=[]}
noncomputable def Zr:cZ:={par:=[.cst false,.cst false],inn:=[(6,some ([],[]))],out:=[],aU:=[(2,([0,1,5],[]))],frz:=[],sch:=[],shut:=[]}
noncomputable def Zt:cZ:={par:=[.cst false],inn:=[(3,some ([1,2,3],[1,2,3])),(4,some ([2,3],[2,3]))],out:=[],aU:=[],frz:=[],sch:=[],shut:=[]}
noncomputable def Zu:cZ:={par:=[.cst false],inn:=[(3,some ([1,2,3],[1,2,3])),(4,some ([2,3],[2,3]))],out:=[],aU:=[],frz:=[],sch:=[],shut:=[]}
noncomputable def Zv:cZ:={par:=[.cst false],inn:=[(6,some ([1,3,4,32,33,34],[1,4])),(9,some ([1],[1])),(12,some ([1,5,6,63,64,65],[1,6])),(18,some ([],[]))],out:=[(1,some ([1,30],[1])),(6,some ([1,32,33,34,60],[1])),(12,some ([1,6,63,64,65,89],[1,6])),(15,some ([1,63,64,65,104],[1]))],aU:=[(4,([1,32,33,34],[1])),(10,([1,63,64,65],[1]))],frz:=[],sch:=[(6,.first 0 (rg [1,2,4,22]) [2,3]<| .first 1 (rg [4,22]) [2,3]<| .first 2 (rg [3,22]) []<| .first 3 (rg [4,22]) []<| .fork 4 (.first 5 (rg [6,22]) []<| .first 6 (rg [7,22]) []<| .first 7 (rg [8,9,11,22]) [9,10]<| .first 8 (rg [11,22]) [9,10]<| .first 9 (rg [10,22]) []<| .first 10 (rg [11,22]) []<| .fork 11 (.first 12 (rg [13,22]) []<| .first 13 (rg [14,22]) []<| .first 14 (rg [15,22]) []<| .first 15 [16,18,20,21] [17,19]<| .first 16 [18,20,21] [17,19]<| .first 17 [18,20,21] [19]<| .first 19 [20,21] [18]<| .fork 18 (.fork 20 (.first 21 [] []<| .done) (.stop)) (.stop)) (.stop)) (.stop)),(12,.first 0 (rg [1,20]) []<| .first 1 (rg [2,20]) []<| .fork 2 (.first 3 (rg [4,20]) []<| .first 4 (rg [5,20]) []<| .first 5 (rg [6,20]) []<| .first 6 (rg [7,20]) []<| .first 7 (rg [8,20]) []<| .first 8 [9,12,13,14,17,18,19] [10,11,15,16]<| .first 9 [12,13,14,17,18,19] [10,11,15,16]<| .first 10 [11,12,13,14,17,18,19] [15,16]<| .first 11 [12,13,14,17,18,19] [15,16]<| .first 12 [13,14,17,18,19] [15,16]<| .first 13 [14,17,18,19] [15,16]<| .first 14 [17,18,19] [15,16]<| .first 15 [16,17,18,19] []<| .first 16 [17,18,19] []<| .first 17 [18,19] []<| .first 18 [19] []<| .first 19 [] []<| .done) (.stop))],shut:=[]}
noncomputable def Zw:cZ:={par:=[.cst false],inn:=[],out:=[],aU:=[],frz:=[],sch:=[],shut:=[]}
noncomputable def Zx:cZ:={par:=[.cst false,.cst false,.cst false],inn:=[],out:=[(1,some ([6],[]))],aU:=[],frz:=[],sch:=[],shut:=[]}
noncomputable def Zy:cZ:={par:=[.cst false],inn:=[(8,some ([3],[3]))],out:=[],aU:=[(3,([0,3,8,9,10],[3]))],frz:=[],sch:=[],shut:=[]}
noncomputable def Zz:cZ:={par:=[.cst false,.cst false],inn:=[],out:=[],aU:=[],frz:=[],sch:=[],shut:=[]}
noncomputable def ZA:cZ:={par:=[.cst false],inn:=[],out:=[(1,some ([4],[]))],aU:=[],frz:=[],sch:=[(1,.first 0 [2,3,5,6] [1,4]<| .first 1 [2,3,5,6] [4]<| .first 2 [3,5,6] [4]<| .first 3 [5,6] [4]<| .first 4 [5,6] []<| .fork 5 (.fork 6 (.done) (.stop)) (.stop))],shut:=[]}
noncomputable def ZB:cZ:={par:=[.cst false,.cst false],inn:=[],out:=[],aU:=[],frz:=[],sch:=[],shut:=[]}
noncomputable def ZC:cZ:={par:=[.cst false,.cst false],inn:=[],out:=[],aU:=[],frz:=[],sch:=[],shut:=[]}
noncomputable def ZE:cZ:={par:=[.cst false,.cst false],inn:=[],out:=[],aU:=[],frz:=[],sch:=[],shut:=[]}
noncomputable def ZF:cZ:={par:=[.cst false,.cst false],inn:=[],out:=[],aU:=[],frz:=[],sch:=[],shut:=[]}
noncomputable def ZG:cZ:={par:=[.cst false,.cst false],inn:=[],out:=[],aU:=[],frz:=[],sch:=[],shut:=[]}
noncomputable def ZH:cZ:={par:=[.cst false,.cst false],inn:=[],out:=[],aU:=[],frz:=[],sch:=[],shut:=[]}
noncomputable def ZI:cZ:={par:=[.cut 4],inn:=[(5,some ([0,3],[])),(13,some ([],[]))],out:=[(6,some ([0,3,49],[])),(11,some ([0,3,4,69],[]))],aU:=[(4,([0,3],[])),(9,([0,3,4],[]))],frz:=[],sch:=[(6,.first 0 (rg [1,4,5,8,12,30]) [4,8,9,10,11]<| .first 1 (rg [2,4,5,8,12,30]) [4,8,9,10,11]<| .first 2 (rg [3,4,5,8,12,30]) [4,8,9,10,11]<| .first 3 (rg [5,8,12,30]) [4,8,9,10,11]<| .first 4 (rg [5,8,12,30]) [8,9,10,11]<| .first 5 (rg [6,8,12,30]) [8,9,10,11]<| .first 6 (rg [7,8,12,30]) [8,9,10,11]<| .first 7 (rg [12,30]) [8,9,10,11]<| .first 8 (rg [9,30]) []<| .first 9 (rg [10,30]) []<| .first 10 (rg [11,30]) []<| .first 11 (rg [12,30]) []<| .fork 12 (.first 13 (rg [14,30]) []<| .first 14 (rg [15,30]) []<| .first 15 [16,17,18,20,21,22,27,28,29] [19,23,24,25,26]<| .first 16 [17,18,20,21,22,27,28,29] [19,23,24,25,26]<| .first 17 [18,20,21,22,27,28,29] [19,23,24,25,26]<| .first 18 [20,21,22,27,28,29] [19,23,24,25,26]<| .first 19 [20,21,22,27,28,29] [23,24,25,26]<| .first 20 [21,22,27,28,29] [23,24,25,26]<| .first 21 [22,27,28,29] [23,24,25,26]<| .first 22 [27,28,29] [23,24,25,26]<| .first 23 (rg [24,30]) []<| .first 24 [25,26,27,28,29] []<| .first 25 [26,27,28,29] []<| .first 26 [27,28,29] []<| .fork 27 (.first 28 [29] []<| .first 29 [] []<| .done) (.stop)) (.stop)),(11,.first 0 [1,2,3,5,6,14] (rg [4,5,7,14])<| .first 1 [2,3,5,6,14] (rg [4,5,7,14])<| .first 2 [3,5,6,14] (rg [4,5,7,14])<| .first 3 [5,6,14] (rg [4,5,7,14])<| .first 4 [5,6,14] (rg [7,14])<| .first 5 [6,14] (rg [7,14])<| .first 6 [14] (rg [7,14])<| .first 7 [8,9,10,12,13,14] [11]<| .first 8 [9,10,12,13,14] [11]<| .first 9 [10,12,13,14] [11]<| .first 10 [12,13,14] [11]<| .first 11 [12,13,14] []<| .first 12 [13,14] []<| .first 13 [14] []<| .first 14 [] []<| .done)],shut:=[]}
noncomputable def ZJ:cZ:={par:=[.cst false],inn:=[(8,some ([],[]))],out:=[(1,some ([0,16],[])),(6,some ([0,3,34],[]))],aU:=[(4,([0,3],[]))],frz:=[],sch:=[],shut:=[]}
noncomputable def ZK:cZ:={par:=[.cut 4,.cst false],inn:=[(8,some ([6],[6]))],out:=[(5,some ([0,1,6,7,26],[6])),(7,some ([0,1,6,7],[6]))],aU:=[(3,([0,1,6,7],[6]))],frz:=[],sch:=[(5,.first 0 [2,3,10,11] [1,4,5,6,7,8,9]<| .first 1 [2,3,10,11] [4,5,6,7,8,9]<| .first 2 [3,10,11] [4,5,6,7,8,9]<| .first 3 [10,11] [4,5,6,7,8,9]<| .first 4 (rg [5,12]) []<| .first 5 [6,7,8,9,10,11] []<| .first 6 [7,8,9,10,11] []<| .first 7 [8,9,10,11] []<| .first 8 [9,10,11] []<| .first 9 [10,11] []<| .fork 10 (.first 11 [] []<| .done) (.stop)),(7,.first 0 [12,13] (rg [1,12])<| .first 1 (rg [2,5,9,14]) [5,6,7,8]<| .first 2 [3,4,9,10,11,12,13] [5,6,7,8]<| .first 3 [4,9,10,11,12,13] [5,6,7,8]<| .first 4 [9,10,11,12,13] [5,6,7,8]<| .first 5 (rg [7,14]) [6]<| .first 6 (rg [7,14]) []<| .first 7 (rg [8,14]) []<| .first 8 [9,10,11,12,13] []<| .first 9 [10,11,12,13] []<| .first 10 [11,12,13] []<| .fork 11 (.fork 12 (.fork 13 (.done) (.stop)) (.stop)) (.stop))],shut:=[]}
noncomputable def ZL:cZ:={par:=[.cst false],inn:=[(9,some ([0,3],[])),(11,some ([0,3,5],[])),(13,some ([0,3,5,6],[6])),(14,some ([0,3,5,6,7],[6,7])),(15,some ([0,3,5,6,7,8],[6,7,8])),(22,some ([0],[]))],out:=[(2,some ([0,3,17],[])),(15,some ([0,3,5,6,7,66],[6,7])),(20,some ([0,3,5,6,7,9,95],[6,7]))],aU:=[(5,([0,3,4],[])),(10,([0,3,5],[])),(18,([0,3,5,6,7,9],[6,7]))],frz:=[],sch:=[(20,.first 0 (rg [1,2,3,4,5,22]) [2,4]<| .first 1 (rg [3,4,5,22]) [2,4]<| .first 2 (rg [3,4,5,22]) [4]<| .first 3 (rg [5,22]) [4]<| .first 4 (rg [5,22]) []<| .first 5 (rg [6,22]) []<| .first 6 (rg [7,22]) []<| .first 7 [20,21] (rg [8,20])<| .first 8 [20,21] (rg [9,20])<| .first 9 [11,12,20,21] (rg [10,11,13,20])<| .first 10 [11,12,20,21] (rg [13,20])<| .first 11 [12,20,21] (rg [13,20])<| .first 12 [20,21] (rg [13,20])<| .first 13 [18,19,20,21] [14,15,16,17]<| .first 14 [15,17,18,19,20,21] [16]<| .first 15 [17,18,19,20,21] [16]<| .first 16 [17,18,19,20,21] []<| .first 17 [18,19,20,21] []<| .first 18 [19,20,21] []<| .first 19 [20,21] []<| .fork 20 (.first 21 [] []<| .done) (.stop))],shut:=[]}
noncomputable def ZM:cZ:={par:=[.cut 3],inn:=[],out:=[(2,some ([0,3,19],[])),(5,some ([2],[]))],aU:=[],frz:=[],sch:=[],shut:=[]}
noncomputable def ZN:cZ:={par:=[.cut 4,.cst false],inn:=[(5,some ([0,1,5,6,7],[5])),(11,some ([0,1,5,6,7,8],[5])),(13,some ([5],[5]))],out:=[(10,some ([0,1,5,6,7,8,9],[5])),(11,some ([0,1,5,6,7,63],[5]))],aU:=[(4,([0,1,5,6,7],[5])),(8,([0,1,5,6,7,8,9],[5]))],frz:=[],sch:=[(10,.first 0 (rg [1,25]) []<| .first 1 (rg [2,25]) []<| .first 2 [3,4,5,7,8,9,22,23,24] (rg [6,7,10,22])<| .first 3 [4,5,7,8,9,22,23,24] (rg [6,7,10,22])<| .first 4 [5,7,8,9,22,23,24] (rg [6,7,10,22])<| .first 5 [7,8,9,22,23,24] (rg [6,7,10,22])<| .first 6 [7,8,9,22,23,24] (rg [10,22])<| .first 7 [8,9,22,23,24] (rg [10,22])<| .first 8 [9,22,23,24] (rg [10,22])<| .first 9 [22,23,24] (rg [10,22])<| .first 10 [12,13,22,23,24] (rg [11,12,14,22])<| .first 11 [12,13,22,23,24] (rg [14,22])<| .first 12 [13,22,23,24] (rg [14,22])<| .first 13 [22,23,24] (rg [14,22])<| .first 14 [20,21,22,23,24] [15,16,17,18,19]<| .first 15 [16,19,20,21,22,23,24] [17,18]<| .first 16 (rg [19,25]) [17,18]<| .first 17 (rg [18,25]) []<| .first 18 (rg [19,25]) []<| .first 19 [20,21,22,23,24] []<| .first 20 [21,22,23,24] []<| .first 21 [22,23,24] []<| .fork 22 (.first 23 [24] []<| .fork 24 (.done) (.stop)) (.stop))],shut:=[]}
noncomputable def ZO:cZ:={par:=[.cst false,.cst false],inn:=[],out:=[],aU:=[],frz:=[],sch:=[],shut:=[]}
noncomputable def ZP:cZ:={par:=[.cst false,.cst false],inn:=[],out:=[],aU:=[],frz:=[],sch:=[],shut:=[]}
noncomputable def ZQ:cZ:={par:=[.cst false],inn:=[(4,some ([0,3,4],[3])),(6,some ([3],[3]))],out:=[],aU:=[(3,([0,3,4],[3]))],frz:=[],sch:=[],shut:=[]}
noncomputable def ZR:cZ:={par:=[.cst false,.cst false],inn:=[],out:=[],aU:=[],frz:=[],sch:=[],shut:=[]}
noncomputable def ZT:cZ:={par:=[.cst false],inn:=[(8,some ([],[]))],out:=[(1,some ([0,21],[])),(6,some ([0,3,49],[]))],aU:=[(4,([0,3],[]))],frz:=[],sch:=[],shut:=[]}
noncomputable def ZU:cZ:={par:=[.cst false,.cst false],inn:=[(9,some ([6],[6]))],out:=[],aU:=[(3,([0,6,10,11,12],[6]))],frz:=[],sch:=[],shut:=[]}
noncomputable def ZV:cZ:={par:=[.cst false],inn:=[(15,some ([0,3,23,24],[])),(16,some ([0],[]))],out:=[(2,some ([0,3,21],[])),(7,some ([0,3,4,5,6,7,23,24],[5,6,7])),(8,some ([0,3,4,5,6,23,24,59],[5,6])),(13,some ([0,3,4,5,6,8,23,24,88],[5,6]))],aU:=[(5,([0,3,23,24],[])),(11,([0,3,4,5,6,8,23,24],[5,6]))],frz:=[],sch:=[(7,.first 0 [2,3,21,22,23] (rg [1,2,4,21])<| .first 1 [2,3,21,22,23] (rg [4,21])<| .first 2 [3,21,22,23] (rg [4,21])<| .first 3 [21,22,23] (rg [4,21])<| .first 4 [9,10,22,23] (rg [5,9,11,22])<| .first 5 [6,8,9,10,22,23] (rg [7,8,11,22])<| .first 6 [8,9,10,22,23] (rg [7,8,11,22])<| .first 7 [8,9,10,22,23] (rg [11,22])<| .first 8 [9,10,22,23] (rg [11,22])<| .first 9 [10,22,23] (rg [11,22])<| .first 10 [22,23] (rg [11,22])<| .first 11 [16,17,23] (rg [12,16,18,23])<| .first 12 [13,15,16,17,23] [14,18,19,20,21,22]<| .first 13 [15,16,17,23] [14,18,19,20,21,22]<| .first 14 [15,16,17,23] [18,19,20,21,22]<| .first 15 [16,17,23] [18,19,20,21,22]<| .first 16 [17,23] [18,19,20,21,22]<| .first 17 [23] [18,19,20,21,22]<| .fork 18 (.fork 19 (.fork 20 (.fork 21 (.fork 22 (.fork 23 (.done) (.stop)) (.stop)) (.stop)) (.stop)) (.fork 20 (.fork 19 (.fork 21 (.fork 22 (.fork 23 (.done) (.stop)) (.stop)) (.stop)) (.stop)) (.stop))) (.fork 19 (.fork 18 (.fork 20 (.fork 21 (.fork 22 (.fork 23 (.done) (.stop)) (.stop)) (.stop)) (.stop)) (.fork 20 (.fork 18 (.fork 21 (.fork 22 (.fork 23 (.done) (.stop)) (.stop)) (.stop)) (.stop)) (.stop))) (.fork 20 (.fork 18 (.fork 19 (.fork 21 (.fork 22 (.fork 23 (.done) (.stop)) (.stop)) (.stop)) (.stop)) (.fork 19 (.fork 18 (.fork 21 (.fork 22 (.fork 23 (.done) (.stop)) (.stop)) (.stop)) (.stop)) (.stop))) (.stop)))),(13,.first 0 (rg [1,2,3,4,5,22]) [2,4]<| .first 1 (rg [3,4,5,22]) [2,4]<| .first 2 (rg [3,4,5,22]) [4]<| .first 3 (rg [5,22]) [4]<| .first 4 (rg [5,22]) []<| .first 5 (rg [6,22]) []<| .first 6 (rg [7,22]) []<| .first 7 [20,21] (rg [8,20])<| .first 8 [20,21] (rg [9,20])<| .first 9 [11,12,20,21] (rg [10,11,13,20])<| .first 10 [11,12,20,21] (rg [13,20])<| .first 11 [12,20,21] (rg [13,20])<| .first 12 [20,21] (rg [13,20])<| .first 13 [18,19,20,21] [14,15,16,17]<| .first 14 [15,17,18,19,20,21] [16]<| .first 15 [17,18,19,20,21] [16]<| .first 16 [17,18,19,20,21] []<| .first 17 [18,19,20,21] []<| .first 18 [19,20,21] []<| .first 19 [20,21] []<| .fork 20 (.first 21 [] []<| .done) (.stop))],shut:=[]}
noncomputable def ZW:cZ:={par:=[.cst false,.cst false],inn:=[],out:=[],aU:=[],frz:=[],sch:=[],shut:=[]}
noncomputable def ZX:cZ:={par:=[.cst false],inn:=[],out:=[],aU:=[],frz:=[],sch:=[],shut:=[]}
noncomputable def ZY:cZ:={par:=[.cst false],inn:=[],out:=[(2,some ([2],[]))],aU:=[],frz:=[],sch:=[],shut:=[]}
noncomputable def ZZ:cZ:={par:=[.cst false,.cst false],inn:=[(7,some ([],[]))],out:=[],aU:=[(2,([0,1,7,8],[]))],frz:=[],sch:=[],shut:=[]}
noncomputable def Z4:cZ:={par:=[.cst false,.cst false],inn:=[(7,some ([],[]))],out:=[(4,some ([0,3,5,7,8,16],[3]))],aU:=[(2,([0,3,7,8],[3]))],frz:=[],sch:=[(4,.first 0 [5] [1,2,3,4]<| .first 1 [3,4,5] [2]<| .first 2 [3,4,5] []<| .first 3 [4,5] []<| .first 4 [5] []<| .first 5 [] []<| .done)],shut:=[]}
noncomputable def Z5:cZ:={par:=[.cst false,.cst false],inn:=[(7,some ([],[]))],out:=[],aU:=[(2,([0,1,7,8],[]))],frz:=[],sch:=[],shut:=[]}
noncomputable def aab:cZ:={par:=[.cst false,.cst false],inn:=[],out:=[(1,some ([0,1,14],[]))],aU:=[],frz:=[],sch:=[],shut:=[]}
noncomputable def aac:cZ:={par:=[.cst false],inn:=[],out:=[(1,some ([2],[]))],aU:=[],frz:=[],sch:=[],shut:=[]}
noncomputable def aad:cZ:={par:=[.cst false],inn:=[],out:=[(1,some ([2],[]))],aU:=[],frz:=[],sch:=[],shut:=[]}
noncomputable def aae:cZ:={par:=[.cst false],inn:=[],out:=[(1,some ([2],[]))],aU:=[],frz:=[],sch:=[],shut:=[]}
noncomputable def aaf:cZ:={par:=[.cst false,.cst false,.cst false],inn:=[],out:=[(1,some ([6],[]))],aU:=[],frz:=[],sch:=[(1,.first 0 (rg [3,36]) [1,2]<| .first 1 (rg [3,36]) [2]<| .first 2 (rg [3,36]) []<| .fork 3 (.first 4 (rg [5,36]) []<| .first 5 (rg [6,36]) []<| .first 6 (rg [7,8,18,36]) (rg [8,18])<| .first 7 (rg [18,36]) (rg [8,18])<| .first 8 (rg [9,10,12,13,17,36]) [10,11,13,14,15,16]<| .first 9 (rg [12,13,17,36]) [10,11,13,14,15,16]<| .first 10 (rg [11,13,17,36]) [13,14,15,16]<| .first 11 (rg [12,13,17,36]) [13,14,15,16]<| .first 13 (rg [14,15,17,36]) [12,15,16]<| .first 14 (rg [17,36]) [12,15,16]<| .first 15 (rg [16,36]) [12]<| .first 16 (rg [17,36]) [12]<| .fork 12 (.fork 17 (.fork 18 (.first 19 (rg [20,36]) []<| .first 20 (rg [21,36]) []<| .first 21 [22,33,34,35] (rg [23,33])<| .first 22 [33,34,35] (rg [23,33])<| .first 23 [24,27,32,33,34,35] [25,26,28,29,30,31]<| .first 24 [27,32,33,34,35] [25,26,28,29,30,31]<| .first 25 [26,27,32,33,34,35] [28,29,30,31]<| .first 26 [27,32,33,34,35] [28,29,30,31]<| .first 28 [29,32,33,34,35] [27,30,31]<| .first 29 [32,33,34,35] [27,30,31]<| .first 30 [31,32,33,34,35] [27]<| .first 31 [32,33,34,35] [27]<| .fork 27 (.fork 32 (.fork 33 (.first 34 [35] []<| .fork 35 (.done) (.stop)) (.stop)) (.stop)) (.stop)) (.stop)) (.stop)) (.stop)) (.stop))],shut:=[]}
noncomputable def aag:cZ:={par:=[.cst false,.cst false,.cst false,.cst false],inn:=[],out:=[(1,some ([8],[]))],aU:=[],frz:=[],sch:=[],shut:=[]}
noncomputable def aah:cZ:={par:=[.cst false],inn:=[(6,some ([0,3,4,5],[5])),(7,some ([3],[]))],out:=[(6,some ([0,3,4],[]))],aU:=[(3,([0,3,4],[]))],frz:=[],sch:=[(6,.first 0 [18,19] (rg [1,18])<| .first 1 [3,4,5,8,17,18,19] (rg [2,3,6,8,9,17])<| .first 2 [3,4,5,8,17,18,19] (rg [6,8,9,17])<| .first 3 [4,5,8,17,18,19] (rg [6,8,9,17])<| .first 4 [5,8,17,18,19] (rg [6,8,9,17])<| .first 5 [8,17,18,19] (rg [6,8,9,17])<| .first 6 [7,8,17,18,19] (rg [9,17])<| .first 7 [8,17,18,19] (rg [9,17])<| .first 8 [17,18,19] (rg [9,17])<| .first 9 [11,12,13,16,17,18,19] [10,14,15]<| .first 10 [11,12,13,16,17,18,19] [14,15]<| .first 11 [12,13,16,17,18,19] [14,15]<| .first 12 [13,16,17,18,19] [14,15]<| .first 13 [16,17,18,19] [14,15]<| .first 14 [15,16,17,18,19] []<| .first 15 [16,17,18,19] []<| .first 16 [17,18,19] []<| .first 17 [18,19] []<| .first 18 [19] []<| .fork 19 (.done) (.stop))],shut:=[]}
noncomputable def aai:cZ:={par:=[.cst false],inn:=[(7,some ([],[]))],out:=[],aU:=[(3,([0,3,4],[3]))],frz:=[],sch:=[],shut:=[]}
noncomputable def aaj:cZ:={par:=[],inn:=[],out:=[],aU:=[],frz:=[],sch:=[],shut:=[]}
noncomputable def aak:cZ:={par:=[.cst false],inn:=[],out:=[],aU:=[],frz:=[],sch:=[],shut:=[]}
noncomputable def aal:cZ:={par:=[.cst false,.cst false,.cst false],inn:=[(8,some ([],[]))],out:=[(6,some ([0,1,2,7,45],[]))],aU:=[(2,([0,1,2,7],[]))],frz:=[],sch:=[],shut:=[]}
noncomputable def aam:cZ:={par:=[.cst false,.cst false],inn:=[],out:=[],aU:=[],frz:=[],sch:=[],shut:=[]}
noncomputable def TR:cZ:={par:=[.cst false,.cst false],inn:=[(7,some ([],[]))],out:=[(4,some ([0,3,5,7,8,16],[3]))],aU:=[(2,([0,3,7,8],[3]))],frz:=[],sch:=[(4,.first 0 [5] [1,2,3,4]<| .first 1 [3,4,5] [2]<| .first 2 [3,4,5] []<| .first 3 [4,5] []<| .first 4 [5] []<| .first 5 [] []<| .done)],shut:=[]}
noncomputable def TS:cZ:={par:=[.cst false],inn:=[(4,some ([4,5,6,7],[4])),(7,some ([],[]))],out:=[],aU:=[(2,([5,6,7],[]))],frz:=[],sch:=[],shut:=[]}
noncomputable def TT:cZ:={par:=[.cst false,.cst false,.cst false],inn:=[],out:=[(1,some ([6],[]))],aU:=[],frz:=[],sch:=[],shut:=[]}
noncomputable def TU:cZ:={par:=[.cst false,.cst false,.cst false,.cst false],inn:=[],out:=[(1,some ([8],[]))],aU:=[],frz:=[],sch:=[],shut:=[]}
noncomputable def TV:cZ:={par:=[.cst false],inn:=[(5,some ([0,3,4,5,7,8,9],[5])),(6,some ([0,3,5,6,7,8,9],[5,6])),(8,some ([3],[]))],out:=[],aU:=[(3,([0,3,7,8,9],[]))],frz:=[],sch:=[],shut:=[]}
noncomputable def TW:cZ:={par:=[.cst false,.cst false],inn:=[(7,some ([],[]))],out:=[],aU:=[(2,([0,1,7,8],[]))],frz:=[],sch:=[],shut:=[]}
noncomputable def TY:cZ:={par:=[.cst false],inn:=[],out:=[],aU:=[],frz:=[],sch:=[],shut:=[]}
noncomputable def TZ:cZ:={par:=[.cst false,.cst false,.cst false],inn:=[],out:=[],aU:=[],frz:=[],sch:=[],shut:=[]}
noncomputable def Ua:cZ:={par:=[.cst false,.cst false,.cst false,.cst false],inn:=[],out:=[(1,some ([8],[]))],aU:=[],frz:=[],sch:=[(1,.first 0 (rg [3,4,7,23]) [1,2,4,5,6]<| .first 1 (rg [3,4,7,23]) [2,4,5,6]<| .first 2 (rg [3,4,7,23]) [4,5,6]<| .first 4 (rg [7,23]) [3,5,6]<| .first 5 (rg [7,23]) [3,6]<| .first 6 (rg [7,23]) [3]<| .fork 3 (.fork 7 (.first 8 (rg [9,23]) []<| .first 9 (rg [10,23]) []<| .first 10 (rg [11,23]) []<| .first 11 [14,18,19,20,21,22] [12,13,15,16,17]<| .first 12 [14,18,19,20,21,22] [13,15,16,17]<| .first 13 [14,18,19,20,21,22] [15,16,17]<| .first 15 [18,19,20,21,22] [14,16,17]<| .first 16 [18,19,20,21,22] [14,17]<| .first 17 [18,19,20,21,22] [14]<| .fork 14 (.fork 18 (.first 19 [20,21,22] []<| .first 20 [21,22] []<| .first 21 [22] []<| .fork 22 (.done) (.stop)) (.stop)) (.stop)) (.stop)) (.stop))],shut:=[]}
noncomputable def Ub:cZ:={par:=[],inn:=[],out:=[],aU:=[],frz:=[],sch:=[],shut:=[]}
noncomputable def Uc:cZ:={par:=[.cst false],inn:=[],out:=[(1,some ([2],[]))],aU:=[],frz:=[],sch:=[],shut:=[]}
noncomputable def Ud:cZ:={par:=[.cst false,.cst false,.cst false],inn:=[],out:=[],aU:=[],frz:=[],sch:=[],shut:=[]}
noncomputable def Ue:cZ:={par:=[.cst false,.cst false,.cst false,.cst false],inn:=[],out:=[(1,some ([8],[]))],aU:=[],frz:=[],sch:=[(1,.first 0 (rg [3,4,7,23]) [1,2,4,5,6]<| .first 1 (rg [3,4,7,23]) [2,4,5,6]<| .first 2 (rg [3,4,7,23]) [4,5,6]<| .first 4 (rg [7,23]) [3,5,6]<| .first 5 (rg [7,23]) [3,6]<| .first 6 (rg [7,23]) [3]<| .fork 3 (.fork 7 (.first 8 (rg [9,23]) []<| .first 9 (rg [10,23]) []<| .first 10 (rg [11,23]) []<| .first 11 [14,18,19,20,21,22] [12,13,15,16,17]<| .first 12 [14,18,19,20,21,22] [13,15,16,17]<| .first 13 [14,18,19,20,21,22] [15,16,17]<| .first 15 [18,19,20,21,22] [14,16,17]<| .first 16 [18,19,20,21,22] [14,17]<| .first 17 [18,19,20,21,22] [14]<| .fork 14 (.fork 18 (.first 19 [20,21,22] []<| .first 20 [21,22] []<| .first 21 [22] []<| .fork 22 (.done) (.stop)) (.stop)) (.stop)) (.stop)) (.stop))],shut:=[]}
noncomputable def Uf:cZ:={par:=[.cst false],inn:=[],out:=[],aU:=[],frz:=[],sch:=[],shut:=[]}
noncomputable def Ug:cZ:={par:=[.cst false,.cst false,.cst false],inn:=[],out:=[],aU:=[],frz:=[],sch:=[],shut:=[]}
noncomputable def fcs:List (Nat×cZ):=[(3,fc3),(6,fc6),(7,fc7),(8,fc8),(9,fc9),(10,YR),(11,YS),(12,YT),(13,YU),(14,YV),(15,YW),(16,YX),(17,YY),(18,YZ),(23,Y0),(24,Y1),(25,Y2),(26,Y3),(27,Y4),(28,Y5),(29,Y6),(30,Y7),(31,Y8),(32,Y9),(33,Za),(34,Zb),(35,Zc),(36,Zd),(37,Ze),(38,Zg),(39,Zh),(40,Zi),(41,Zj),(42,Zk),(43,Zl),(44,Zm),(45,Zn),(46,Zo),(47,Zp),(48,Zq),(49,Zr),(50,Zt),(51,Zu),(52,Zv),(53,Zw),(54,Zx),(55,Zy),(56,Zz),(57,ZA),(58,ZB),(62,ZC),(63,ZE),(64,ZF),(65,ZG),(66,ZH),(67,ZI),(68,ZJ),(69,ZK),(70,ZL),(71,ZM),(72,ZN),(73,ZO),(74,ZP),(75,ZQ),(76,ZR),(77,ZT),(78,ZU),(79,ZV),(80,ZW),(81,ZX),(82,ZY),(83,ZZ),(84,Z4),(87,Z5),(88,aab),(89,aac),(90,aad),(91,aae),(92,aaf),(93,aag),(94,aah),(95,aai),(96,aaj),(97,aak),(98,aal),(99,aam),(100,TR),(101,TS),(102,TT),(103,TU),(104,TV),(105,TW),(106,TY),(118,TZ),(119,Ua),(120,Ub),(121,Uc),(122,Ud),(123,Ue),(124,Uf),(131,Ug),(60,{par:=[.row],inn:=[],out:=[],aU:=[],frz:=[],sch:=[],shut:=[]}),(61,{par:=[.mv],inn:=[],out:=[],aU:=[],frz:=[],sch:=[],shut:=[]})]
noncomputable def ons:List (Nat×Bool):=[(3,true),(6,true),(7,true),(8,true),(9,true),(10,true),(11,true),(12,true),(13,true),(14,true),(15,true),(16,true),(17,true),(18,true),(23,true),(24,true),(25,true),(26,true),(27,true),(28,true),(29,true),(30,true),(31,true),(32,true),(33,true),(34,true),(35,true),(36,true),(37,true),(38,true),(39,true),(40,true),(41,true),(42,true),(43,true),(44,true),(45,true),(46,true),(47,true),(48,true),(49,true),(50,true),(51,true),(52,true),(53,true),(54,true),(55,true),(56,true),(57,true),(58,true),(62,true),(63,true),(64,true),(65,true),(66,true),(67,true),(68,true),(69,true),(70,true),(71,true),(72,true),(73,true),(74,true),(75,true),(76,true),(77,true),(78,true),(79,true),(80,true),(81,true),(82,true),(83,true),(84,true),(87,true),(88,true),(89,true),(90,true),(91,true),(92,true),(93,true),(94,true),(95,true),(96,true),(97,true),(98,true),(99,true),(100,true),(101,true),(102,true),(103,true),(104,true),(105,true),(106,true),(118,true),(119,true),(120,true),(121,true),(122,true),(123,true),(124,true),(131,true)]
noncomputable def cfg:Cfg:=WV ons fcs [(59,some (Aa 1 8)),(60,some FO),(61,some yB)] [(61,26),(112,35),(112,1000019),(112,2000019)] [] [(9,42),(9,43),(9,46)]
theorem c3:cfg.fc 3=fc3:=rfl
instance C3:Cf cfg 3 fc3:=⟨c3⟩
instance Z3:Zf cfg 3:=⟨rfl⟩
theorem z3:(cfg.fc 3).frz=[]:=rfl
theorem c6:cfg.fc 6=fc6:=rfl
instance C6:Cf cfg 6 fc6:=⟨c6⟩
instance Z6:Zf cfg 6:=⟨rfl⟩
theorem c7:cfg.fc 7=fc7:=rfl
instance C7:Cf cfg 7 fc7:=⟨c7⟩
instance Z7:Zf cfg 7:=⟨rfl⟩
theorem c8:cfg.fc 8=fc8:=rfl
instance C8:Cf cfg 8 fc8:=⟨c8⟩
instance Z8:Zf cfg 8:=⟨rfl⟩
theorem c9:cfg.fc 9=fc9:=rfl
instance C9:Cf cfg 9 fc9:=⟨c9⟩
instance Z9:Zf cfg 9:=⟨rfl⟩
theorem c10:cfg.fc 10=YR:=rfl
instance C10:Cf cfg 10 YR:=⟨c10⟩
instance Z10:Zf cfg 10:=⟨rfl⟩
theorem c11:cfg.fc 11=YS:=rfl
instance C11:Cf cfg 11 YS:=⟨c11⟩
instance Z11:Zf cfg 11:=⟨rfl⟩
theorem c12:cfg.fc 12=YT:=rfl
instance C12:Cf cfg 12 YT:=⟨c12⟩
instance Z12:Zf cfg 12:=⟨rfl⟩
theorem c13:cfg.fc 13=YU:=rfl
instance C13:Cf cfg 13 YU:=⟨c13⟩
instance Z13:Zf cfg 13:=⟨rfl⟩
theorem c14:cfg.fc 14=YV:=rfl
instance C14:Cf cfg 14 YV:=⟨c14⟩
instance Z14:Zf cfg 14:=⟨rfl⟩
theorem z14:(cfg.fc 14).frz=[]:=rfl
theorem c15:cfg.fc 15=YW:=rfl
instance C15:Cf cfg 15 YW:=⟨c15⟩
instance Z15:Zf cfg 15:=⟨rfl⟩
theorem c16:cfg.fc 16=YX:=rfl
instance C16:Cf cfg 16 YX:=⟨c16⟩
instance Z16:Zf cfg 16:=⟨rfl⟩
theorem c17:cfg.fc 17=YY:=rfl
instance C17:Cf cfg 17 YY:=⟨c17⟩
instance Z17:Zf cfg 17:=⟨rfl⟩
theorem c18:cfg.fc 18=YZ:=rfl
instance C18:Cf cfg 18 YZ:=⟨c18⟩
instance Z18:Zf cfg 18:=⟨rfl⟩
theorem c23:cfg.fc 23=Y0:=rfl
instance C23:Cf cfg 23 Y0:=⟨c23⟩
instance Z23:Zf cfg 23:=⟨rfl⟩
theorem z23:(cfg.fc 23).frz=[]:=rfl
theorem c24:cfg.fc 24=Y1:=rfl
instance C24:Cf cfg 24 Y1:=⟨c24⟩
instance Z24:Zf cfg 24:=⟨rfl⟩
theorem c25:cfg.fc 25=Y2:=rfl
instance C25:Cf cfg 25 Y2:=⟨c25⟩
instance Z25:Zf cfg 25:=⟨rfl⟩
theorem c26:cfg.fc 26=Y3:=rfl
instance C26:Cf cfg 26 Y3:=⟨c26⟩
instance Z26:Zf cfg 26:=⟨rfl⟩
theorem c27:cfg.fc 27=Y4:=rfl
instance C27:Cf cfg 27 Y4:=⟨c27⟩
instance Z27:Zf cfg 27:=⟨rfl⟩
theorem z27:(cfg.fc 27).frz=[]:=rfl
theorem c28:cfg.fc 28=Y5:=rfl
instance C28:Cf cfg 28 Y5:=⟨c28⟩
instance Z28:Zf cfg 28:=⟨rfl⟩
theorem z28:(cfg.fc 28).frz=[]:=rfl
theorem c29:cfg.fc 29=Y6:=rfl
instance C29:Cf cfg 29 Y6:=⟨c29⟩
instance Z29:Zf cfg 29:=⟨rfl⟩
theorem c30:cfg.fc 30=Y7:=rfl
instance C30:Cf cfg 30 Y7:=⟨c30⟩
instance Z30:Zf cfg 30:=⟨rfl⟩
theorem c31:cfg.fc 31=Y8:=rfl
instance C31:Cf cfg 31 Y8:=⟨c31⟩
instance Z31:Zf cfg 31:=⟨rfl⟩
theorem c32:cfg.fc 32=Y9:=rfl
instance C32:Cf cfg 32 Y9:=⟨c32⟩
instance Z32:Zf cfg 32:=⟨rfl⟩
theorem c33:cfg.fc 33=Za:=rfl
instance C33:Cf cfg 33 Za:=⟨c33⟩
instance Z33:Zf cfg 33:=⟨rfl⟩
theorem c34:cfg.fc 34=Zb:=rfl
instance C34:Cf cfg 34 Zb:=⟨c34⟩
theorem z34:(cfg.fc 34).frz=[2]:=rfl
theorem c35:cfg.fc 35=Zc:=rfl
instance C35:Cf cfg 35 Zc:=⟨c35⟩
instance Z35:Zf cfg 35:=⟨rfl⟩
theorem z35:(cfg.fc 35).frz=[]:=rfl
theorem c36:cfg.fc 36=Zd:=rfl
instance C36:Cf cfg 36 Zd:=⟨c36⟩
instance Z36:Zf cfg 36:=⟨rfl⟩
theorem z36:(cfg.fc 36).frz=[]:=rfl
theorem c37:cfg.fc 37=Ze:=rfl
instance C37:Cf cfg 37 Ze:=⟨c37⟩
instance Z37:Zf cfg 37:=⟨rfl⟩
theorem z37:(cfg.fc 37).frz=[]:=rfl
theorem c38:cfg.fc 38=Zg:=rfl
instance C38:Cf cfg 38 Zg:=⟨c38⟩
instance Z38:Zf cfg 38:=⟨rfl⟩
theorem c39:cfg.fc 39=Zh:=rfl
instance C39:Cf cfg 39 Zh:=⟨c39⟩
instance Z39:Zf cfg 39:=⟨rfl⟩
theorem c40:cfg.fc 40=Zi:=rfl
instance C40:Cf cfg 40 Zi:=⟨c40⟩
instance Z40:Zf cfg 40:=⟨rfl⟩
theorem c41:cfg.fc 41=Zj:=rfl
instance C41:Cf cfg 41 Zj:=⟨c41⟩
instance Z41:Zf cfg 41:=⟨rfl⟩
theorem c42:cfg.fc 42=Zk:=rfl
instance C42:Cf cfg 42 Zk:=⟨c42⟩
instance Z42:Zf cfg 42:=⟨rfl⟩
theorem c43:cfg.fc 43=Zl:=rfl
instance C43:Cf cfg 43 Zl:=⟨c43⟩
instance Z43:Zf cfg 43:=⟨rfl⟩
theorem z43:(cfg.fc 43).frz=[]:=rfl
theorem c44:cfg.fc 44=Zm:=rfl
instance C44:Cf cfg 44 Zm:=⟨c44⟩
instance Z44:Zf cfg 44:=⟨rfl⟩
theorem c45:cfg.fc 45=Zn:=rfl
instance C45:Cf cfg 45 Zn:=⟨c45⟩
instance Z45:Zf cfg 45:=⟨rfl⟩
theorem c46:cfg.fc 46=Zo:=rfl
instance C46:Cf cfg 46 Zo:=⟨c46⟩
instance Z46:Zf cfg 46:=⟨rfl⟩
theorem c47:cfg.fc 47=Zp:=rfl
instance C47:Cf cfg 47 Zp:=⟨c47⟩
instance Z47:Zf cfg 47:=⟨rfl⟩
theorem z47:(cfg.fc 47).frz=[]:=rfl
theorem c48:cfg.fc 48=Zq:=rfl
instance C48:Cf cfg 48 Zq:=⟨c48⟩
instance Z48:Zf cfg 48:=⟨rfl⟩
theorem c49:cfg.fc 49=Zr:=rfl
instance C49:Cf cfg 49 Zr:=⟨c49⟩
instance Z49:Zf cfg 49:=⟨rfl⟩
theorem c50:cfg.fc 50=Zt:=rfl
instance C50:Cf cfg 50 Zt:=⟨c50⟩
instance Z50:Zf cfg 50:=⟨rfl⟩
theorem c51:cfg.fc 51=Zu:=rfl
instance C51:Cf cfg 51 Zu:=⟨c51⟩
instance Z51:Zf cfg 51:=⟨rfl⟩
theorem c52:cfg.fc 52=Zv:=rfl
instance C52:Cf cfg 52 Zv:=⟨c52⟩
instance Z52:Zf cfg 52:=⟨rfl⟩
theorem z52:(cfg.fc 52).frz=[]:=rfl
theorem c53:cfg.fc 53=Zw:=rfl
instance C53:Cf cfg 53 Zw:=⟨c53⟩
instance Z53:Zf cfg 53:=⟨rfl⟩
theorem c54:cfg.fc 54=Zx:=rfl
instance C54:Cf cfg 54 Zx:=⟨c54⟩
instance Z54:Zf cfg 54:=⟨rfl⟩
theorem c55:cfg.fc 55=Zy:=rfl
instance C55:Cf cfg 55 Zy:=⟨c55⟩
instance Z55:Zf cfg 55:=⟨rfl⟩
theorem c56:cfg.fc 56=Zz:=rfl
instance C56:Cf cfg 56 Zz:=⟨c56⟩
instance Z56:Zf cfg 56:=⟨rfl⟩
theorem c57:cfg.fc 57=ZA:=rfl
instance C57:Cf cfg 57 ZA:=⟨c57⟩
instance Z57:Zf cfg 57:=⟨rfl⟩
theorem z57:(cfg.fc 57).frz=[]:=rfl
theorem c58:cfg.fc 58=ZB:=rfl
instance C58:Cf cfg 58 ZB:=⟨c58⟩
instance Z58:Zf cfg 58:=⟨rfl⟩
theorem c62:cfg.fc 62=ZC:=rfl
instance C62:Cf cfg 62 ZC:=⟨c62⟩
instance Z62:Zf cfg 62:=⟨rfl⟩
theorem c63:cfg.fc 63=ZE:=rfl
instance C63:Cf cfg 63 ZE:=⟨c63⟩
instance Z63:Zf cfg 63:=⟨rfl⟩
theorem c64:cfg.fc 64=ZF:=rfl
instance C64:Cf cfg 64 ZF:=⟨c64⟩
instance Z64:Zf cfg 64:=⟨rfl⟩
theorem c65:cfg.fc 65=ZG:=rfl
instance C65:Cf cfg 65 ZG:=⟨c65⟩
instance Z65:Zf cfg 65:=⟨rfl⟩
theorem c66:cfg.fc 66=ZH:=rfl
instance C66:Cf cfg 66 ZH:=⟨c66⟩
instance Z66:Zf cfg 66:=⟨rfl⟩
theorem c67:cfg.fc 67=ZI:=rfl
instance C67:Cf cfg 67 ZI:=⟨c67⟩
instance Z67:Zf cfg 67:=⟨rfl⟩
theorem z67:(cfg.fc 67).frz=[]:=rfl
theorem c68:cfg.fc 68=ZJ:=rfl
instance C68:Cf cfg 68 ZJ:=⟨c68⟩
instance Z68:Zf cfg 68:=⟨rfl⟩
theorem c69:cfg.fc 69=ZK:=rfl
instance C69:Cf cfg 69 ZK:=⟨c69⟩
instance Z69:Zf cfg 69:=⟨rfl⟩
theorem z69:(cfg.fc 69).frz=[]:=rfl
theorem c70:cfg.fc 70=ZL:=rfl
instance C70:Cf cfg 70 ZL:=⟨c70⟩
instance Z70:Zf cfg 70:=⟨rfl⟩
theorem z70:(cfg.fc 70).frz=[]:=rfl
theorem c71:cfg.fc 71=ZM:=rfl
instance C71:Cf cfg 71 ZM:=⟨c71⟩
instance Z71:Zf cfg 71:=⟨rfl⟩
theorem c72:cfg.fc 72=ZN:=rfl
instance C72:Cf cfg 72 ZN:=⟨c72⟩
instance Z72:Zf cfg 72:=⟨rfl⟩
theorem z72:(cfg.fc 72).frz=[]:=rfl
theorem c73:cfg.fc 73=ZO:=rfl
instance C73:Cf cfg 73 ZO:=⟨c73⟩
instance Z73:Zf cfg 73:=⟨rfl⟩
theorem c74:cfg.fc 74=ZP:=rfl
instance C74:Cf cfg 74 ZP:=⟨c74⟩
instance Z74:Zf cfg 74:=⟨rfl⟩
theorem c75:cfg.fc 75=ZQ:=rfl
instance C75:Cf cfg 75 ZQ:=⟨c75⟩
instance Z75:Zf cfg 75:=⟨rfl⟩
theorem c76:cfg.fc 76=ZR:=rfl
instance C76:Cf cfg 76 ZR:=⟨c76⟩
instance Z76:Zf cfg 76:=⟨rfl⟩
theorem c77:cfg.fc 77=ZT:=rfl
instance C77:Cf cfg 77 ZT:=⟨c77⟩
instance Z77:Zf cfg 77:=⟨rfl⟩
theorem c78:cfg.fc 78=ZU:=rfl
instance C78:Cf cfg 78 ZU:=⟨c78⟩
instance Z78:Zf cfg 78:=⟨rfl⟩
theorem c79:cfg.fc 79=ZV:=rfl
instance C79:Cf cfg 79 ZV:=⟨c79⟩
instance Z79:Zf cfg 79:=⟨rfl⟩
theorem z79:(cfg.fc 79).frz=[]:=rfl
theorem c80:cfg.fc 80=ZW:=rfl
instance C80:Cf cfg 80 ZW:=⟨c80⟩
instance Z80:Zf cfg 80:=⟨rfl⟩
theorem c81:cfg.fc 81=ZX:=rfl
instance C81:Cf cfg 81 ZX:=⟨c81⟩
instance Z81:Zf cfg 81:=⟨rfl⟩
theorem c82:cfg.fc 82=ZY:=rfl
instance C82:Cf cfg 82 ZY:=⟨c82⟩
instance Z82:Zf cfg 82:=⟨rfl⟩
theorem c83:cfg.fc 83=ZZ:=rfl
instance C83:Cf cfg 83 ZZ:=⟨c83⟩
instance Z83:Zf cfg 83:=⟨rfl⟩
theorem c84:cfg.fc 84=Z4:=rfl
instance C84:Cf cfg 84 Z4:=⟨c84⟩
instance Z84:Zf cfg 84:=⟨rfl⟩
theorem c87:cfg.fc 87=Z5:=rfl
instance C87:Cf cfg 87 Z5:=⟨c87⟩
instance Z87:Zf cfg 87:=⟨rfl⟩
theorem c88:cfg.fc 88=aab:=rfl
instance C88:Cf cfg 88 aab:=⟨c88⟩
instance Z88:Zf cfg 88:=⟨rfl⟩
theorem c89:cfg.fc 89=aac:=rfl
instance C89:Cf cfg 89 aac:=⟨c89⟩
instance Z89:Zf cfg 89:=⟨rfl⟩
theorem c90:cfg.fc 90=aad:=rfl
instance C90:Cf cfg 90 aad:=⟨c90⟩
instance Z90:Zf cfg 90:=⟨rfl⟩
theorem c91:cfg.fc 91=aae:=rfl
instance C91:Cf cfg 91 aae:=⟨c91⟩
instance Z91:Zf cfg 91:=⟨rfl⟩
theorem c92:cfg.fc 92=aaf:=rfl
instance C92:Cf cfg 92 aaf:=⟨c92⟩
instance Z92:Zf cfg 92:=⟨rfl⟩
theorem z92:(cfg.fc 92).frz=[]:=rfl
theorem c93:cfg.fc 93=aag:=rfl
instance C93:Cf cfg 93 aag:=⟨c93⟩
instance Z93:Zf cfg 93:=⟨rfl⟩
theorem c94:cfg.fc 94=aah:=rfl
instance C94:Cf cfg 94 aah:=⟨c94⟩
instance Z94:Zf cfg 94:=⟨rfl⟩
theorem z94:(cfg.fc 94).frz=[]:=rfl
theorem c95:cfg.fc 95=aai:=rfl
instance C95:Cf cfg 95 aai:=⟨c95⟩
instance Z95:Zf cfg 95:=⟨rfl⟩
theorem c96:cfg.fc 96=aaj:=rfl
instance C96:Cf cfg 96 aaj:=⟨c96⟩
instance Z96:Zf cfg 96:=⟨rfl⟩
theorem c97:cfg.fc 97=aak:=rfl
instance C97:Cf cfg 97 aak:=⟨c97⟩
instance Z97:Zf cfg 97:=⟨rfl⟩
theorem c98:cfg.fc 98=aal:=rfl
instance C98:Cf cfg 98 aal:=⟨c98⟩
instance Z98:Zf cfg 98:=⟨rfl⟩
theorem c99:cfg.fc 99=aam:=rfl
instance C99:Cf cfg 99 aam:=⟨c99⟩
instance Z99:Zf cfg 99:=⟨rfl⟩
theorem aan:cfg.fc 100=TR:=rfl
instance ahK:Cf cfg 100 TR:=⟨aan⟩
instance ahL:Zf cfg 100:=⟨rfl⟩
theorem acs:cfg.fc 101=TS:=rfl
instance ahM:Cf cfg 101 TS:=⟨acs⟩
instance ahN:Zf cfg 101:=⟨rfl⟩
theorem aec:cfg.fc 102=TT:=rfl
instance ahO:Cf cfg 102 TT:=⟨aec⟩
instance ahP:Zf cfg 102:=⟨rfl⟩
theorem aed:cfg.fc 103=TU:=rfl
instance ahQ:Cf cfg 103 TU:=⟨aed⟩
instance ahR:Zf cfg 103:=⟨rfl⟩
theorem acu:cfg.fc 104=TV:=rfl
instance ahS:Cf cfg 104 TV:=⟨acu⟩
instance ahT:Zf cfg 104:=⟨rfl⟩
theorem c105:cfg.fc 105=TW:=rfl
instance ahU:Cf cfg 105 TW:=⟨c105⟩
instance ahV:Zf cfg 105:=⟨rfl⟩
theorem af2:cfg.fc 106=TY:=rfl
instance ahW:Cf cfg 106 TY:=⟨af2⟩
instance ahX:Zf cfg 106:=⟨rfl⟩
theorem af4:cfg.fc 118=TZ:=rfl
instance ahY:Cf cfg 118 TZ:=⟨af4⟩
instance ahZ:Zf cfg 118:=⟨rfl⟩
theorem c119:cfg.fc 119=Ua:=rfl
instance ah0:Cf cfg 119 Ua:=⟨c119⟩
instance ah1:Zf cfg 119:=⟨rfl⟩
theorem z119:(cfg.fc 119).frz=[]:=rfl
theorem af5:cfg.fc 120=Ub:=rfl
instance ah2:Cf cfg 120 Ub:=⟨af5⟩
instance ah3:Zf cfg 120:=⟨rfl⟩
theorem aee:cfg.fc 121=Uc:=rfl
instance ah4:Cf cfg 121 Uc:=⟨aee⟩
instance ah5:Zf cfg 121:=⟨rfl⟩
theorem af6:cfg.fc 122=Ud:=rfl
instance ah6:Cf cfg 122 Ud:=⟨af6⟩
instance ah7:Zf cfg 122:=⟨rfl⟩
theorem aef:cfg.fc 123=Ue:=rfl
instance ah8:Cf cfg 123 Ue:=⟨aef⟩
instance ah9:Zf cfg 123:=⟨rfl⟩
theorem Qn:(cfg.fc 123).frz=[]:=rfl
theorem c124:cfg.fc 124=Uf:=rfl
instance aia:Cf cfg 124 Uf:=⟨c124⟩
instance aib:Zf cfg 124:=⟨rfl⟩
theorem c131:cfg.fc 131=Ug:=rfl
instance aic:Cf cfg 131 Ug:=⟨c131⟩
instance aid:Zf cfg 131:=⟨rfl⟩
noncomputable abbrev Pg:=Tryz.prog
theorem aeg:JS Pg 102=some ([z0,z0],[(0,1),(1,1)]):=kr
theorem af7:JS Pg 63=some ([.nil,.nil,z0,z0,.nil,z0,z0,.im 0 (.sc (.bool false))],[(0,1),(1,1),(2,1),(3,1),(4,1),(5,1),(6,1),(7,1)]):=kr
theorem af8:JS Pg 72=some ([.nil,.nil,z0],[(0,1),(1,1),(2,1)]):=kr
theorem aeh:pU Pg 157=some (9,1):=kr
theorem FQ:pU Pg 29=some (2,1):=kr
theorem Xe:pU Pg 32=some (92,2):=kr
theorem af9:pU Pg 33=some (95,2):=kr
theorem aga:pU Pg 37=some (66,3):=kr
theorem acv:pU Pg 61=some (29,1):=kr
theorem agb:pU Pg 99=some (102,2):=kr
theorem acw:iq Pg 25 0=some 0:=kr
theorem acy:iq Pg 25 1=some 1:=kr
theorem Xf:iq Pg 25 2=some 2:=kr
theorem Xg:iq Pg 25 3=some 3:=kr
theorem EG:iq Pg 35 0=some 0:=kr
theorem CP:iq Pg 35 1=some 1:=kr
theorem rE:iq Pg 35 2=some 2:=kr
theorem oK:iq Pg 35 3=some 3:=kr
theorem Xh:iq Pg 54 0=some 0:=kr
theorem acz:iq Pg 54 1=some 1:=kr
theorem acA:iq Pg 54 2=some 2:=kr
theorem xK:iq Pg 63 0=some 0:=kr
theorem Oz:iq Pg 63 1=some 1:=kr
theorem acB:iq Pg 63 2=some 2:=kr
theorem acC:iq Pg 63 3=some 3:=kr
theorem CQ:iq Pg 63 4=some 4:=kr
theorem RJ:iq Pg 63 5=some 5:=kr
theorem acD:iq Pg 63 6=some 6:=kr
theorem RN:iq Pg 63 7=some 7:=kr
theorem G7:iq Pg 66 0=some 0:=kr
theorem rF:iq Pg 66 1=some 1:=kr
theorem zB:iq Pg 66 2=some 2:=kr
theorem Xi:iq Pg 72 0=some 0:=kr
theorem RP:iq Pg 72 1=some 1:=kr
theorem RQ:iq Pg 72 2=some 2:=kr
theorem Xj:iq Pg 82 0=some 0:=kr
theorem Xk:iq Pg 82 1=some 1:=kr
theorem iF:iq Pg 92 0=some 0:=kr
theorem iW:iq Pg 92 1=some 1:=kr
theorem acE:iq Pg 94 0=some 0:=kr
theorem acF:iq Pg 94 1=some 1:=kr
theorem zC:iq Pg 95 0=some 0:=kr
theorem Bg:iq Pg 95 1=some 1:=kr
theorem Qo:aT Pg cfg 100 0 [32,92]=[(.cst false,[some 2]),(.cst false,[none,none])]:=kr
theorem Xl:aT Pg cfg 101 0 [32]=[(.cst false,[some 2])]:=kr
theorem og:aT Pg cfg 102 0 [92,92,92]=[(.cst false,[none,none]),(.cst false,[none,none]),(.cst false,[none,none])]:=kr
theorem FT:aT Pg cfg 103 0 [92,92,92,92]=[(.cst false,[none,none]),(.cst false,[none,none]),(.cst false,[none,none]),(.cst false,[none,none])]:=kr
theorem Xm:aT Pg cfg 104 0 [32]=[(.cst false,[some 2])]:=kr
theorem OA:aT Pg cfg 105 0 [37,120]=[(.cst false,[some 3]),(.cst false,[none])]:=kr
theorem aao:aT Pg cfg 106 0 [9]=[(.cst false,[none])]:=kr
theorem Jb:aT Pg cfg 10 0 [26]=[(.cst false,[some 3])]:=kr
theorem jl:aT Pg cfg 118 0 [92,92,92]=[(.cst false,[none,none]),(.cst false,[none,none]),(.cst false,[none,none])]:=kr
theorem FU:aT Pg cfg 119 0 [92,92,92,92]=[(.cst false,[none,none]),(.cst false,[none,none]),(.cst false,[none,none]),(.cst false,[none,none])]:=kr
theorem CS:aT Pg cfg 11 0 [35,37,2,2]=[(.cst false,[none,none,some 2,some 2]),(.cst false,[some 3]),(.cst false,[none]),(.cst false,[none])]:=kr
theorem acG:aT Pg cfg 120 0 []=[]:=kr
theorem Xn:aT Pg cfg 121 0 [92]=[(.cst false,[none,none])]:=kr
theorem lW:aT Pg cfg 122 0 [92,92,92]=[(.cst false,[none,none]),(.cst false,[none,none]),(.cst false,[none,none])]:=kr
theorem FV:aT Pg cfg 123 0 [92,92,92,92]=[(.cst false,[none,none]),(.cst false,[none,none]),(.cst false,[none,none]),(.cst false,[none,none])]:=kr
theorem aap:aT Pg cfg 124 0 [9]=[(.cst false,[none])]:=kr
theorem Bh:aT Pg cfg 12 0 [29,29]=[(.cst false,[some 1]),(.cst false,[some 1])]:=kr
theorem Kt:aT Pg cfg 131 0 [92,92,92]=[(.cst false,[none,none]),(.cst false,[none,none]),(.cst false,[none,none])]:=kr
theorem RS:aT Pg cfg 13 0 [35,35]=[(.cst false,[none,none,some 2,some 2]),(.cst false,[none,none,some 2,some 2])]:=kr
theorem RU:aT Pg cfg 14 0 [37,37]=[(.cst false,[some 3]),(.cst false,[some 3])]:=kr
theorem U1:aT Pg cfg 15 0 [35,3]=[(.ws,[none,none,some 2,some 2]),(.cst false,[none])]:=kr
theorem U2:aT Pg cfg 16 0 [37,3]=[(.row,[some 3]),(.cst false,[none])]:=kr
theorem Nb:aT Pg cfg 17 0 [29,3]=[(.row,[some 1]),(.cst false,[none])]:=kr
theorem Nc:aT Pg cfg 18 0 [29,3]=[(.cst false,[some 1]),(.cst false,[none])]:=kr
theorem U3:aT Pg cfg 23 0 [22,3]=[(.cst false,[some 2]),(.cst false,[none])]:=kr
theorem U4:aT Pg cfg 24 0 [23,3]=[(.cst false,[some 2]),(.cst false,[none])]:=kr
theorem U5:aT Pg cfg 25 0 [54,3]=[(.cst false,[none,none,none]),(.cst false,[none])]:=kr
theorem Ku:aT Pg cfg 26 0 [56,37,2,2]=[(.cut 4,[none]),(.cst false,[some 3]),(.cst false,[none]),(.cst false,[none])]:=kr
theorem Kv:aT Pg cfg 27 0 [56,37,2,2]=[(.cut 4,[none]),(.cst false,[some 3]),(.cst false,[none]),(.cst false,[none])]:=kr
theorem Uh:aT Pg cfg 28 0 [57]=[(.ptr [.gone,.sh,.imm,.imm,.sh,.imm,.imm,.imm],[none])]:=kr
theorem aaq:aT Pg cfg 29 0 [29]=[(.cst false,[some 1])]:=kr
theorem aar:aT Pg cfg 30 0 [22]=[(.cst false,[some 2])]:=kr
theorem aas:aT Pg cfg 31 0 [23]=[(.cst false,[some 2])]:=kr
theorem aat:aT Pg cfg 32 0 [54]=[(.cst false,[none,none,none])]:=kr
theorem Ky:aT Pg cfg 33 0 [35,37,2,2]=[(.cst false,[none,none,some 2,some 2]),(.cst false,[some 3]),(.cst false,[none]),(.cst false,[none])]:=kr
theorem aau:aT Pg cfg 34 0 [35]=[(.cst false,[none,none,some 2,some 2])]:=kr
theorem CU:aT Pg cfg 35 0 [69,29,2,3]=[(.ptr [.gone,.imm,.imm],[none]),(.mv,[some 1]),(.cst false,[none]),(.cst false,[none])]:=kr
theorem RX:aT Pg cfg 36 0 [32,32]=[(.cst false,[some 2]),(.cst false,[some 2])]:=kr
theorem RY:aT Pg cfg 37 0 [33,33]=[(.cst false,[some 2]),(.cst false,[some 2])]:=kr
theorem RZ:aT Pg cfg 38 0 [66,66]=[(.cst false,[none,none,none]),(.cst false,[none,none,none])]:=kr
theorem U6:aT Pg cfg 39 0 [32,3]=[(.row,[some 2]),(.cst false,[none])]:=kr
theorem U7:aT Pg cfg 40 0 [33,3]=[(.ws,[some 2]),(.cst false,[none])]:=kr
theorem Xo:aT Pg cfg 41 0 [3]=[(.cst false,[none])]:=kr
theorem U8:aT Pg cfg 42 0 [82,3]=[(.cst false,[none,some 1]),(.cst false,[none])]:=kr
theorem aav:aT Pg cfg 43 0 [56]=[(.cut 4,[none])]:=kr
theorem aaw:aT Pg cfg 44 0 [37]=[(.cst false,[some 3])]:=kr
theorem iJ:aT Pg cfg 45 0 [2,2,2]=[(.cst false,[none]),(.cst false,[none]),(.cst false,[none])]:=kr
theorem aax:aT Pg cfg 46 0 [56]=[(.cut 4,[none])]:=kr
theorem Si:aT Pg cfg 47 0 [88,88]=[(.cut 3,[none]),(.cut 3,[none])]:=kr
theorem U9:aT Pg cfg 48 0 [29,2]=[(.cst false,[some 1]),(.cst false,[none])]:=kr
theorem Va:aT Pg cfg 49 0 [29,2]=[(.cst false,[some 1]),(.cst false,[none])]:=kr
theorem aay:aT Pg cfg 50 0 [94]=[(.cst false,[none,none])]:=kr
theorem aaz:aT Pg cfg 51 0 [82]=[(.cst false,[none,some 1])]:=kr
theorem aaA:aT Pg cfg 52 0 [35]=[(.cst false,[none,none,some 2,some 2])]:=kr
theorem aaB:aT Pg cfg 53 0 [37]=[(.cst false,[some 3])]:=kr
theorem gu:aT Pg cfg 54 0 [2,2,2]=[(.cst false,[none]),(.cst false,[none]),(.cst false,[none])]:=kr
theorem aaC:aT Pg cfg 55 0 [29]=[(.cst false,[some 1])]:=kr
theorem Qp:aT Pg cfg 56 0 [99,104]=[(.cst false,[some 2]),(.cst false,[none])]:=kr
theorem OB:aT Pg cfg 57 0 [102,0,0]=[(.cst false,[none,none]),(.cst false,[none]),(.cst false,[none])]:=kr
theorem Qq:aT Pg cfg 58 0 [99,102]=[(.cst false,[some 2]),(.cst false,[none,none])]:=kr
theorem Ui:aT Pg cfg 59 0 [29]=[(.cst false,[some 1])]:=kr
theorem aaD:aT Pg cfg 60 0 [29]=[(.row,[some 1])]:=kr
theorem aaE:aT Pg cfg 61 0 [29]=[(.mv,[some 1])]:=kr
theorem Vb:aT Pg cfg 62 0 [29,2]=[(.cst false,[some 1]),(.cst false,[none])]:=kr
theorem Sj:aT Pg cfg 63 0 [66,66]=[(.cst false,[none,none,none]),(.cst false,[none,none,none])]:=kr
theorem Sl:aT Pg cfg 64 0 [92,92]=[(.cst false,[none,none]),(.cst false,[none,none])]:=kr
theorem Sm:aT Pg cfg 65 0 [95,95]=[(.cst false,[none,some 1]),(.cst false,[none,some 1])]:=kr
theorem Vd:aT Pg cfg 66 0 [29,3]=[(.cst false,[some 1]),(.cst false,[none])]:=kr
theorem aaF:aT Pg cfg 67 0 [56]=[(.cut 4,[none])]:=kr
theorem Sr:aT Pg cfg 68 0 [9]=[(.cst false,[none])]:=kr
theorem Su:aT Pg cfg 69 0 [56,29]=[(.cut 4,[none]),(.cst false,[some 1])]:=kr
theorem Xp:aT Pg cfg 6 0 [25,3]=[(.cst false,[none,none,some 2,some 2]),(.cst false,[none])]:=kr
theorem aaG:aT Pg cfg 70 0 [32]=[(.cst false,[some 2])]:=kr
theorem aaH:aT Pg cfg 71 0 [88]=[(.cut 3,[none])]:=kr
theorem Ve:aT Pg cfg 72 0 [56,2]=[(.cut 4,[none]),(.cst false,[none])]:=kr
theorem CW:aT Pg cfg 73 0 [2,2]=[(.cst false,[none]),(.cst false,[none])]:=kr
theorem Xq:aT Pg cfg 74 0 [2,2]=[(.cst false,[none]),(.cst false,[none])]:=kr
theorem aaI:aT Pg cfg 75 0 [29]=[(.cst false,[some 1])]:=kr
theorem Sv:aT Pg cfg 76 0 [32,92]=[(.cst false,[some 2]),(.cst false,[none,none])]:=kr
theorem Sz:aT Pg cfg 77 0 [9]=[(.cst false,[none])]:=kr
theorem SA:aT Pg cfg 78 0 [32,29]=[(.cst false,[some 2]),(.cst false,[some 1])]:=kr
theorem aaJ:aT Pg cfg 79 0 [32]=[(.cst false,[some 2])]:=kr
theorem Xr:aT Pg cfg 7 0 [26,3]=[(.cst false,[some 3]),(.cst false,[none])]:=kr
theorem Qr:aT Pg cfg 80 0 [37,120]=[(.cst false,[some 3]),(.cst false,[none])]:=kr
theorem aaK:aT Pg cfg 81 0 [66]=[(.cst false,[none,none,none])]:=kr
theorem aaL:aT Pg cfg 82 0 [66]=[(.cst false,[none,none,none])]:=kr
theorem Qs:aT Pg cfg 83 0 [99,104]=[(.cst false,[some 2]),(.cst false,[none])]:=kr
theorem Qu:aT Pg cfg 84 0 [99,102]=[(.cst false,[some 2]),(.cst false,[none,none])]:=kr
theorem Vf:aT Pg cfg 87 0 [29,2]=[(.cst false,[some 1]),(.cst false,[none])]:=kr
theorem Xt:aT Pg cfg 88 0 [2,2]=[(.cst false,[none]),(.cst false,[none])]:=kr
theorem Xu:aT Pg cfg 89 0 [5]=[(.cst false,[none])]:=kr
theorem Ll:aT Pg cfg 8 0 [35,37,2,2]=[(.cst false,[none,none,some 2,some 2]),(.cst false,[some 3]),(.cst false,[none]),(.cst false,[none])]:=kr
theorem acH:aT Pg cfg 90 0 [5]=[(.cst false,[none])]:=kr
theorem aaM:aT Pg cfg 91 0 [92]=[(.cst false,[none,none])]:=kr
theorem pR:aT Pg cfg 92 0 [92,92,92]=[(.cst false,[none,none]),(.cst false,[none,none]),(.cst false,[none,none])]:=kr
theorem G8:aT Pg cfg 93 0 [92,92,92,92]=[(.cst false,[none,none]),(.cst false,[none,none]),(.cst false,[none,none]),(.cst false,[none,none])]:=kr
theorem aaN:aT Pg cfg 94 0 [32]=[(.cst false,[some 2])]:=kr
theorem acI:aT Pg cfg 95 0 [9]=[(.cst false,[none])]:=kr
theorem aei:aT Pg cfg 96 0 []=[]:=kr
theorem acJ:aT Pg cfg 97 0 [2]=[(.cst false,[none])]:=kr
theorem Qv:aT Pg cfg 98 0 [29,2,2]=[(.cst false,[some 1]),(.cst false,[none]),(.cst false,[none])]:=kr
theorem FW:aT Pg cfg 99 0 [2,2]=[(.cst false,[none]),(.cst false,[none])]:=kr
theorem OC:aT Pg cfg 9 0 [25]=[(.cst false,[none,none,some 2,some 2])]:=kr
theorem acK:∀(a0:Int) (a1:Int) (b0:Int) (b1:Int),Je Pg 102 .eql [.int .i64 a0,.int .i64 a1] [.int .i64 b0,.int .i64 b1]=some (.bool ((a0==b0)&&(a1==b1))):=by intros;kernel_rfl
theorem Uj:∀(a0:Int) (a1:Int) (b0:Int) (b1:Int),Je Pg 92 .eql [.int .i64 a0,.int .i64 a1] [.int .i64 b0,.int .i64 b1]=some (.bool ((a0==b0)&&(a1==b1))):=by intros;kernel_rfl
theorem agc:di Pg (Tryz.f10.results.toList.zip Tryz.f10.resultTypes.toList)=[(.tmp 2,[some 3],none)]:=kr
theorem aby:di Pg (Tryz.f100.results.toList.zip Tryz.f100.resultTypes.toList)=[(.tmp 4,[none],none)]:=kr
theorem abz:di Pg (Tryz.f101.results.toList.zip Tryz.f101.resultTypes.toList)=[(.tmp 2,[none],none)]:=kr
theorem aej:di Pg (Tryz.f102.results.toList.zip Tryz.f102.resultTypes.toList)=[(.tmp 6,[none],none)]:=kr
theorem aek:di Pg (Tryz.f103.results.toList.zip Tryz.f103.resultTypes.toList)=[(.tmp 8,[none],none)]:=kr
theorem ael:di Pg (Tryz.f104.results.toList.zip Tryz.f104.resultTypes.toList)=[(.tmp 2,[none],none)]:=kr
theorem abA:di Pg (Tryz.f105.results.toList.zip Tryz.f105.resultTypes.toList)=[(.tmp 4,[none],none)]:=kr
theorem aem:di Pg (Tryz.f106.results.toList.zip Tryz.f106.resultTypes.toList)=[(.tmp 2,[none],none),(.tmp 3,[none],none)]:=kr
theorem aen:di Pg (Tryz.f11.results.toList.zip Tryz.f11.resultTypes.toList)=[(.tmp 8,[some 1],none),(.tmp 9,[none],none)]:=kr
theorem Xv:di Pg (Tryz.f118.results.toList.zip Tryz.f118.resultTypes.toList)=[(.tmp 6,[none],none)]:=kr
theorem aeo:di Pg (Tryz.f119.results.toList.zip Tryz.f119.resultTypes.toList)=[(.tmp 8,[none],none)]:=kr
theorem acL:di Pg (Tryz.f12.results.toList.zip Tryz.f12.resultTypes.toList)=[(.tmp 4,[none],none)]:=kr
theorem aep:di Pg (Tryz.f120.results.toList.zip Tryz.f120.resultTypes.toList)=[(.tmp 0,[some 1],none)]:=kr
theorem aeq:di Pg (Tryz.f121.results.toList.zip Tryz.f121.resultTypes.toList)=[(.tmp 2,[none],none)]:=kr
theorem Xw:di Pg (Tryz.f122.results.toList.zip Tryz.f122.resultTypes.toList)=[(.tmp 6,[none],none)]:=kr
theorem aer:di Pg (Tryz.f123.results.toList.zip Tryz.f123.resultTypes.toList)=[(.tmp 8,[none],none)]:=kr
theorem CX:di Pg (Tryz.f124.results.toList.zip Tryz.f124.resultTypes.toList)=[(.tmp 2,[none],none),(.tmp 3,[none],none),(.tmp 4,[none],none),(.tmp 5,[none],none)]:=kr
theorem Xx:di Pg (Tryz.f13.results.toList.zip Tryz.f13.resultTypes.toList)=[(.tmp 4,[none],none)]:=kr
theorem aes:di Pg (Tryz.f131.results.toList.zip Tryz.f131.resultTypes.toList)=[(.tmp 6,[none],none)]:=kr
theorem acM:di Pg (Tryz.f14.results.toList.zip Tryz.f14.resultTypes.toList)=[(.tmp 4,[none],none)]:=kr
theorem agd:di Pg (Tryz.f15.results.toList.zip Tryz.f15.resultTypes.toList)=[(.tmp 4,[none],none)]:=kr
theorem age:di Pg (Tryz.f16.results.toList.zip Tryz.f16.resultTypes.toList)=[(.tmp 4,[none],none)]:=kr
theorem aet:di Pg (Tryz.f17.results.toList.zip Tryz.f17.resultTypes.toList)=[(.tmp 4,[none],none)]:=kr
theorem aeu:di Pg (Tryz.f18.results.toList.zip Tryz.f18.resultTypes.toList)=[(.tmp 4,[none],none)]:=kr
theorem aev:di Pg (Tryz.f23.results.toList.zip Tryz.f23.resultTypes.toList)=[(.tmp 4,[none],none)]:=kr
theorem acN:di Pg (Tryz.f24.results.toList.zip Tryz.f24.resultTypes.toList)=[(.tmp 4,[none],none)]:=kr
theorem aew:di Pg (Tryz.f25.results.toList.zip Tryz.f25.resultTypes.toList)=[(.tmp 4,[none],none)]:=kr
theorem acO:di Pg (Tryz.f26.results.toList.zip Tryz.f26.resultTypes.toList)=[(.tmp 8,[none],none)]:=kr
theorem agf:di Pg (Tryz.f27.results.toList.zip Tryz.f27.resultTypes.toList)=[(.tmp 8,[none],none)]:=kr
theorem aaO:di Pg (Tryz.f28.results.toList.zip Tryz.f28.resultTypes.toList)=[(.tmp 2,[none],none)]:=kr
theorem agh:di Pg (Tryz.f29.results.toList.zip Tryz.f29.resultTypes.toList)=[(.tmp 2,[some 1],none)]:=kr
theorem rF3:di Pg (Tryz.f3.results.toList.zip Tryz.f3.resultTypes.toList)=[(.tmp 8,[none],none)]:=kr
theorem agi:di Pg (Tryz.f30.results.toList.zip Tryz.f30.resultTypes.toList)=[(.tmp 2,[some 2],none)]:=kr
theorem agj:di Pg (Tryz.f31.results.toList.zip Tryz.f31.resultTypes.toList)=[(.tmp 2,[some 2],none)]:=kr
theorem agk:di Pg (Tryz.f32.results.toList.zip Tryz.f32.resultTypes.toList)=[(.cell 2 66,[none,none,none],some (true,3))]:=kr
theorem acP:di Pg (Tryz.f33.results.toList.zip Tryz.f33.resultTypes.toList)=[(.tmp 8,[none],none)]:=kr
theorem agl:di Pg (Tryz.f34.results.toList.zip Tryz.f34.resultTypes.toList)=[(.tmp 2,[some 1],none)]:=kr
theorem aaP:di Pg (Tryz.f35.results.toList.zip Tryz.f35.resultTypes.toList)=[(.tmp 8,[some 1],none),(.tmp 9,[none],none)]:=kr
theorem acQ:di Pg (Tryz.f36.results.toList.zip Tryz.f36.resultTypes.toList)=[(.tmp 4,[none],none)]:=kr
theorem acR:di Pg (Tryz.f37.results.toList.zip Tryz.f37.resultTypes.toList)=[(.tmp 4,[none],none)]:=kr
theorem aaQ:di Pg (Tryz.f38.results.toList.zip Tryz.f38.resultTypes.toList)=[(.tmp 4,[none],none)]:=kr
theorem agm:di Pg (Tryz.f39.results.toList.zip Tryz.f39.resultTypes.toList)=[(.tmp 4,[none],none)]:=kr
theorem agn:di Pg (Tryz.f40.results.toList.zip Tryz.f40.resultTypes.toList)=[(.tmp 4,[none],none)]:=kr
theorem aex:di Pg (Tryz.f41.results.toList.zip Tryz.f41.resultTypes.toList)=[(.tmp 2,[none],none)]:=kr
theorem acS:di Pg (Tryz.f42.results.toList.zip Tryz.f42.resultTypes.toList)=[(.tmp 4,[none],none)]:=kr
theorem aaR:di Pg (Tryz.f43.results.toList.zip Tryz.f43.resultTypes.toList)=[(.tmp 2,[none],none)]:=kr
theorem aey:di Pg (Tryz.f44.results.toList.zip Tryz.f44.resultTypes.toList)=[(.tmp 2,[none],none)]:=kr
theorem agp:di Pg (Tryz.f45.results.toList.zip Tryz.f45.resultTypes.toList)=[(.tmp 6,[none],none)]:=kr
theorem agq:di Pg (Tryz.f46.results.toList.zip Tryz.f46.resultTypes.toList)=[(.tmp 2,[some 1],none)]:=kr
theorem agr:di Pg (Tryz.f47.results.toList.zip Tryz.f47.resultTypes.toList)=[(.tmp 4,[none],none)]:=kr
theorem ags:di Pg (Tryz.f48.results.toList.zip Tryz.f48.resultTypes.toList)=[(.tmp 4,[some 1],none)]:=kr
theorem aez:di Pg (Tryz.f49.results.toList.zip Tryz.f49.resultTypes.toList)=[(.tmp 4,[none],none)]:=kr
theorem agt:di Pg (Tryz.f50.results.toList.zip Tryz.f50.resultTypes.toList)=[(.cell 2 92,[none,none],some (true,2))]:=kr
theorem agu:di Pg (Tryz.f51.results.toList.zip Tryz.f51.resultTypes.toList)=[(.cell 2 95,[none,some 1],some (true,2))]:=kr
theorem Xy:di Pg (Tryz.f52.results.toList.zip Tryz.f52.resultTypes.toList)=[(.tmp 2,[none],none)]:=kr
theorem agv:di Pg (Tryz.f53.results.toList.zip Tryz.f53.resultTypes.toList)=[(.tmp 2,[none],none)]:=kr
theorem agw:di Pg (Tryz.f54.results.toList.zip Tryz.f54.resultTypes.toList)=[(.tmp 6,[none],none)]:=kr
theorem agx:di Pg (Tryz.f55.results.toList.zip Tryz.f55.resultTypes.toList)=[(.tmp 2,[some 2],none)]:=kr
theorem agy:di Pg (Tryz.f56.results.toList.zip Tryz.f56.resultTypes.toList)=[(.tmp 4,[none],none)]:=kr
theorem agz:di Pg (Tryz.f57.results.toList.zip Tryz.f57.resultTypes.toList)=[(.tmp 4,[none],none)]:=kr
theorem agA:di Pg (Tryz.f58.results.toList.zip Tryz.f58.resultTypes.toList)=[(.tmp 4,[none],none)]:=kr
theorem agB:di Pg (Tryz.f59.results.toList.zip Tryz.f59.resultTypes.toList)=[(.tmp 2,[some 1],none)]:=kr
theorem rF6:di Pg (Tryz.f6.results.toList.zip Tryz.f6.resultTypes.toList)=[(.tmp 4,[none],none)]:=kr
theorem agC:di Pg (Tryz.f62.results.toList.zip Tryz.f62.resultTypes.toList)=[(.tmp 4,[none],none)]:=kr
theorem agD:di Pg (Tryz.f63.results.toList.zip Tryz.f63.resultTypes.toList)=[(.tmp 4,[none],none)]:=kr
theorem acT:di Pg (Tryz.f64.results.toList.zip Tryz.f64.resultTypes.toList)=[(.tmp 4,[none],none)]:=kr
theorem acU:di Pg (Tryz.f65.results.toList.zip Tryz.f65.resultTypes.toList)=[(.tmp 4,[none],none)]:=kr
theorem aeA:di Pg (Tryz.f66.results.toList.zip Tryz.f66.resultTypes.toList)=[(.tmp 4,[none],none)]:=kr
theorem aaS:di Pg (Tryz.f67.results.toList.zip Tryz.f67.resultTypes.toList)=[(.tmp 2,[none],none)]:=kr
theorem acV:di Pg (Tryz.f68.results.toList.zip Tryz.f68.resultTypes.toList)=[(.tmp 2,[none],none)]:=kr
theorem aeB:di Pg (Tryz.f69.results.toList.zip Tryz.f69.resultTypes.toList)=[(.tmp 4,[some 2],none),(.tmp 5,[none],none)]:=kr
theorem rF7:di Pg (Tryz.f7.results.toList.zip Tryz.f7.resultTypes.toList)=[(.tmp 4,[none],none)]:=kr
theorem Xz:di Pg (Tryz.f70.results.toList.zip Tryz.f70.resultTypes.toList)=[(.tmp 2,[none],none)]:=kr
theorem aeC:di Pg (Tryz.f71.results.toList.zip Tryz.f71.resultTypes.toList)=[(.tmp 2,[none],none)]:=kr
theorem agE:di Pg (Tryz.f72.results.toList.zip Tryz.f72.resultTypes.toList)=[(.tmp 4,[some 1],none)]:=kr
theorem aeD:di Pg (Tryz.f73.results.toList.zip Tryz.f73.resultTypes.toList)=[(.tmp 4,[none],none)]:=kr
theorem agF:di Pg (Tryz.f74.results.toList.zip Tryz.f74.resultTypes.toList)=[(.tmp 4,[none],none)]:=kr
theorem agG:di Pg (Tryz.f75.results.toList.zip Tryz.f75.resultTypes.toList)=[(.tmp 2,[some 1],none)]:=kr
theorem agH:di Pg (Tryz.f76.results.toList.zip Tryz.f76.resultTypes.toList)=[(.tmp 4,[none],none)]:=kr
theorem acW:di Pg (Tryz.f77.results.toList.zip Tryz.f77.resultTypes.toList)=[(.tmp 2,[none],none)]:=kr
theorem aeE:di Pg (Tryz.f78.results.toList.zip Tryz.f78.resultTypes.toList)=[(.tmp 4,[some 2],none),(.tmp 5,[none],none)]:=kr
theorem aaT:di Pg (Tryz.f79.results.toList.zip Tryz.f79.resultTypes.toList)=[(.tmp 2,[none],none)]:=kr
theorem rF8:di Pg (Tryz.f8.results.toList.zip Tryz.f8.resultTypes.toList)=[(.tmp 8,[some 1],none),(.tmp 9,[none],none)]:=kr
theorem agI:di Pg (Tryz.f80.results.toList.zip Tryz.f80.resultTypes.toList)=[(.tmp 4,[none],none)]:=kr
theorem agJ:di Pg (Tryz.f81.results.toList.zip Tryz.f81.resultTypes.toList)=[(.tmp 2,[none],none)]:=kr
theorem agK:di Pg (Tryz.f82.results.toList.zip Tryz.f82.resultTypes.toList)=[(.tmp 2,[none],none)]:=kr
theorem aeF:di Pg (Tryz.f83.results.toList.zip Tryz.f83.resultTypes.toList)=[(.tmp 4,[none],none)]:=kr
theorem aeG:di Pg (Tryz.f84.results.toList.zip Tryz.f84.resultTypes.toList)=[(.tmp 4,[none],none)]:=kr
theorem aeH:di Pg (Tryz.f87.results.toList.zip Tryz.f87.resultTypes.toList)=[(.tmp 4,[none],none)]:=kr
theorem aeI:di Pg (Tryz.f88.results.toList.zip Tryz.f88.resultTypes.toList)=[(.tmp 4,[none],none),(.tmp 5,[none],none)]:=kr
theorem agL:di Pg (Tryz.f89.results.toList.zip Tryz.f89.resultTypes.toList)=[(.tmp 2,[none],none)]:=kr
theorem rF9:di Pg (Tryz.f9.results.toList.zip Tryz.f9.resultTypes.toList)=[(.cell 2 35,[none,none,some 2,some 2],some (true,4))]:=kr
theorem agM:di Pg (Tryz.f90.results.toList.zip Tryz.f90.resultTypes.toList)=[(.tmp 2,[none],none)]:=kr
theorem agN:di Pg (Tryz.f91.results.toList.zip Tryz.f91.resultTypes.toList)=[(.tmp 2,[none],none)]:=kr
theorem agO:di Pg (Tryz.f92.results.toList.zip Tryz.f92.resultTypes.toList)=[(.tmp 6,[none],none)]:=kr
theorem agP:di Pg (Tryz.f93.results.toList.zip Tryz.f93.resultTypes.toList)=[(.tmp 8,[none],none)]:=kr
theorem agQ:di Pg (Tryz.f94.results.toList.zip Tryz.f94.resultTypes.toList)=[(.tmp 2,[none],none)]:=kr
theorem aeJ:di Pg (Tryz.f95.results.toList.zip Tryz.f95.resultTypes.toList)=[(.tmp 2,[none],none)]:=kr
theorem agR:di Pg (Tryz.f96.results.toList.zip Tryz.f96.resultTypes.toList)=[(.tmp 0,[some 1],none)]:=kr
theorem agS:di Pg (Tryz.f97.results.toList.zip Tryz.f97.resultTypes.toList)=[(.tmp 2,[none],none)]:=kr
theorem aeK:di Pg (Tryz.f98.results.toList.zip Tryz.f98.resultTypes.toList)=[(.tmp 6,[none],none)]:=kr
theorem aeL:di Pg (Tryz.f99.results.toList.zip Tryz.f99.resultTypes.toList)=[(.tmp 4,[none],none)]:=kr
theorem aeM:gz Pg 109=some (5,1,[none],false,1,[.im 0 (.sc (.int .u8 0))]):=kr
theorem abB:gz Pg 157=some (9,1,[none],false,16,[z1]):=kr
theorem agT:gz Pg 22=some (94,2,[none,none],true,16,[z0,z0]):=kr
theorem aeN:gz Pg 23=some (82,2,[none,some 1],true,40,[z1,.nil]):=kr
theorem aeO:gz Pg 26=some (54,3,[none,none,none],true,32,[z1,z0,z0]):=kr
theorem fH:gz Pg 29=some (2,1,[none],false,8,[z0]):=kr
theorem pF:gz Pg 32=some (92,2,[none,none],true,16,[z0,z0]):=kr
theorem EH:gz Pg 33=some (95,2,[none,some 1],true,40,[z1,.nil]):=kr
theorem G9:gz Pg 37=some (66,3,[none,none,none],true,32,[z1,z0,z0]):=kr
theorem uy:gz Pg 61=some (29,1,[some 1],false,24,[.nil]):=kr
theorem XA:gz Pg 98=some (99,1,[some 2],false,24,[.nil]):=kr
theorem XB:gz Pg 99=some (102,2,[none,none],true,16,[z0,z0]):=kr
theorem Io:tyF Pg 102=some ([z0,z0],[none,none],true,2):=kr
theorem tF2:tyF Pg 2=some ([z0],[none],false,1):=kr
theorem aeP:tyF Pg 22=some ([.nil],[some 2],false,1):=kr
theorem aeQ:tyF Pg 23=some ([.nil],[some 2],false,1):=kr
theorem Qw:tyF Pg 25=some ([z0,z0,.nil,.nil],[none,none,some 2,some 2],true,4):=kr
theorem oh:tyF Pg 29=some ([.nil],[some 1],false,1):=kr
theorem tF3:tyF Pg 3=some ([z0],[none],false,1):=kr
theorem DU:tyF Pg 32=some ([.nil],[some 2],false,1):=kr
theorem Bi:tyF Pg 33=some ([.nil],[some 2],false,1):=kr
theorem Ar:tyF Pg 35=some ([z0,z0,.nil,.nil],[none,none,some 2,some 2],true,4):=kr
theorem acX:tyF Pg 37=some ([.nil],[some 3],false,1):=kr
theorem tF4:tyF Pg 4=some ([.im 0 (.sc (.bool false))],[none],false,1):=kr
theorem aaU:tyF Pg 54=some ([z1,z0,z0],[none,none,none],true,3):=kr
theorem yZ:tyF Pg 61=some ([.nil],[some 1],false,1):=kr
theorem agU:tyF Pg 63=some ([.nil,.nil,z0,z0,.nil,z0,z0,.im 0 (.sc (.bool false))],[some 1,some 1,none,none,some 1,none,none,none],true,8):=kr
theorem CY:tyF Pg 66=some ([z1,z0,z0],[none,none,none],true,3):=kr
theorem agV:tyF Pg 72=some ([.nil,.nil,z0],[some 1,some 3,none],true,3):=kr
theorem aaV:tyF Pg 82=some ([z1,.nil],[none,some 1],true,2):=kr
theorem tF9:tyF Pg 9=some ([z1],[none],false,1):=kr
theorem aJ:tyF Pg 92=some ([z0,z0],[none,none],true,2):=kr
theorem aeR:tyF Pg 94=some ([z0,z0],[none,none],true,2):=kr
theorem EI:tyF Pg 95=some ([z1,.nil],[none,some 1],true,2):=kr
theorem OD:tyF Pg 98=some ([.nil],[some 1],false,1):=kr
theorem aeS:tyF Pg 99=some ([.nil],[some 2],false,1):=kr
theorem aeT:Pg.underlying 109=some (.slice 5):=kr
theorem aeU:Pg.underlying 157=some (.slice 9):=kr
theorem acY:Pg.underlying 22=some (.slice 94):=kr
theorem aaW:Pg.underlying 23=some (.slice 82):=kr
theorem aaX:Pg.underlying 26=some (.slice 54):=kr
theorem lX:Pg.underlying 29=some (.slice 2):=kr
theorem uF3:Pg.underlying 3=some (.int .i64):=kr
theorem zD:Pg.underlying 32=some (.slice 92):=kr
theorem Iu:Pg.underlying 33=some (.slice 95):=kr
theorem FY:Pg.underlying 37=some (.slice 66):=kr
theorem uF5:Pg.underlying 5=some (.int .u8):=kr
theorem SB:Pg.underlying 61=some (.slice 29):=kr
theorem uF9:Pg.underlying 9=some .string:=kr
theorem aaY:Pg.underlying 98=some (.slice 99):=kr
theorem acZ:Pg.underlying 99=some (.slice 102):=kr
abbrev FX (i:Nat) (a:List Arg) (r:Res×List Out):Prop:=FL Tryz.prog cfg i a=some r
theorem Iw {a_0:(List af)} {fE:Int} {r:Int} (h:rP a_0 fE=some r):FX 23 [.im 2 false [W 2 az a_0],.im 2 false [I fE]] (B0 [(false,[.im 0 (I r)])]):=by
 unfold rP at h
 refine gn 12 Tryz.func23 rfl ?_
 refine gs<|g0 j j (q (ae j j)<|nl)<|us<|gs<|g0 j j (q (oMv j j)<|q (oMv j j)<|q (gB j j acY j)<|q (oBi j j j j)<|q (ae j j)<|nl)<|us<|gs<|gs<|g0 j j (q (oMv j j)<|q (oBi j j j j)<|nl)<|us<|gc h j ah (fun hc1 h=>?_) fun hc1 h=>?_
 ·refine gs<|g0 j j (q (ae j j)<|nl)<|us<|Go.ret (Unw.ret ?_)
  cases h
  exact fr aev j
 ·refine Go.skip<|us<|gs<|g0 j j (q (oMv j j)<|q (ae j j)<|nl)<|us<|Go.ret (Unw.ret ?_)
  cases h
  exact fr aev j
theorem Iy {a_0:(List Int)} {fE:Int} {r:Int} (h:rQ a_0 fE=some r):FX 66 [.im 2 false [W 1 eI a_0],.im 2 false [I fE]] (B0 [(false,[.im 0 (I r)])]):=by
 unfold rQ at h
 refine gn 12 Tryz.func66 rfl ?_
 refine gs<|g0 j j (q (ae j j)<|nl)<|us<|gs<|g0 j j (q (oMv j j)<|q (oMv j j)<|q (gB j j lX j)<|q (oBi j j j j)<|q (ae j j)<|nl)<|us<|gs<|gs<|g0 j j (q (oMv j j)<|q (oBi j j j j)<|nl)<|us<|gc h j ah (fun hc1 h=>?_) fun hc1 h=>?_
 ·refine gs<|g0 j j (q (ae j j)<|nl)<|us<|Go.ret (Unw.ret ?_)
  cases h
  exact fr aeA j
 ·refine Go.skip<|us<|gs<|g0 j j (q (oMv j j)<|q (ae j j)<|nl)<|us<|Go.ret (Unw.ret ?_)
  cases h
  exact fr aeA j
theorem Lm {a_0:dh} {fE:Int} {r:Int} (h:wH a_0 fE=some r):FX 42 [.im 2 true (uZ a_0),.im 2 false [I fE]] (B0 [(false,[.im 0 (I r)])]):=by
 unfold wH at h
 refine gn 19 Tryz.func42 rfl ?_
 refine gs<|g0 j j (q (oBx j aaV j (tkI (tkI tk0)))<|q (ae j j)<|nl)<|us<|gs<|g0 j j (q (oMv j j)<|q (oFA (r':=.mp 2 0 0) j Xj j j)<|q (oLd (cs:=[.im 0 _]) j tF9 j j)<|q (Ru j j uF9 j)<|q (oBi j j j j)<|q (ae j j)<|nl)<|us<|gs<|gs<|g0 j j (q (oMv j j)<|q (oBi j j j j)<|nl)<|us<|gc h j ah (fun hc1 h=>?_) fun hc1 h=>?_
 ·refine gs<|g0 j j (q (ae j j)<|nl)<|us<|Go.ret (Unw.ret ?_)
  cases h
  exact fr acS j
 ·refine Go.skip<|us<|gs<|?_
  obtain ⟨x15,y5,h⟩:=bs h
  refine g0 j j (q (oFA (r':=.mp 2 0 1) j Xk j j)<|q (oLd (cs:=[.im 2 _]) j oh j j)<|q (oMv j j)<|q (oCa (xs:=[.v false [.im 2 _],.v false [.im 0 _]]) (vs:=[(false,[.im 0 _])]) (v:=.v false [.im 0 _]) (Iy y5) (.inl j) j Vd j (ppC j (ppC j pp0)) j j pb0 j j j)<|q (ae j j)<|nl)<|us<|gs<|gs<|g0 j j (q (oMv j j)<|q (oBi j j j j)<|nl)<|us<|gc h j ah (fun hc2 h=>?_) fun hc2 h=>?_
  ·refine gs<|g0 j j (q (ae j j)<|nl)<|us<|Go.ret (Unw.ret ?_)
   cases h
   exact fr acS j
  ·refine Go.skip<|us<|gs<|g0 j j (q (oMv j j)<|q (ae j j)<|nl)<|us<|Go.ret (Unw.ret ?_)
   cases h
   exact fr acS j
theorem Kz {a_0:(List dh)} {fE:Int} {r:Int} (h:uH a_0 fE=some r):FX 24 [.im 2 false [W 2 bM a_0],.im 2 false [I fE]] (B0 [(false,[.im 0 (I r)])]):=by
 unfold uH at h
 refine gn 27 Tryz.func24 rfl ?_
 refine gs<|g0 j j (q (ae j j)<|nl)<|us<|gs<|g0 j j (q (oMv j j)<|q (oMv j j)<|q (gB j j aaW j)<|q (oBi j j j j)<|q (ae j j)<|nl)<|us<|gs<|gs<|g0 j j (q (oMv j j)<|q (oBi j j j j)<|nl)<|us<|gc h j ah (fun hc1 h=>?_) fun hc1 h=>?_
 ·refine gs<|g0 j j (q (ae j j)<|nl)<|us<|Go.ret (Unw.ret ?_)
  cases h
  exact fr acN j
 ·refine Go.skip<|us<|gs<|gs<|g0 j j (q (ae j j)<|nl)<|us<|Go.block<|?_
  obtain ⟨o,hl,h⟩:=bs h
  refine gl c24 j _ (fun (s:(Int×Int))=>match s with | (nN,vJ)=>mk [(0,D 2 (W 2 bM a_0)),(1,iv nN),(5,iv vJ)] []) (fun (o:(Int ⊕ Int)) (p:Ex×St)=>match o with | (.inl jW)=>p.1= .exit 0∧p.2.norm ([1],[])=mk [(1,iv jW)] [] | (.inr r2)=>p.1= .ret∧fin Tryz.prog cfg 24 Tryz.f24 [.im 2 false [W 2 bM a_0],.im 2 false [I fE]] p.2=some (B0 [(false,[.im 0 (I r2)])])) hl (by kernel_rfl) ?_ ?_ ?_
  ·intro o p hp e
   rcases o with jW | r2<;>exact nomatch (hp.1.symm.trans e)
  ·rintro ⟨nN,vJ⟩ o h
   unfold oL at h
   dsimp only at h
   refine gs<|gs<|g0 j j (q (oMv j j)<|q (oMv j j)<|q (gB j j aaW j)<|q (oBi j j j j)<|nl)<|us<|gc h j ah (fun hc6 h=>?_) fun hc6 h=>?_
   ·refine Go.skip<|us<|gs<|Go.block<|gs<|?_
    obtain ⟨x20,yh,h⟩:=bs h
    obtain ⟨x23,yj,h⟩:=bs h
    refine g0 j j (q (oMv j j)<|q (oMv j j)<|q (fU j yh aeN j j)<|q (oLd (cs:=[.im 2 _,.im 2 _]) j aaV j j)<|q (oMv j j)<|q (oCa (xs:=[.v true [.im 2 _,.im 2 _],.v false [.im 0 _]]) (vs:=[(false,[.im 0 _])]) (v:=.v false [.im 0 _]) (Lm yj) (.inl j) j U8 j (ppC j (ppC j pp0)) j j pb0 j j j)<|q (ae j j)<|nl)<|us<|gs<|g0 j j (q (oMv j j)<|q (oBi j j j j)<|nl)<|us<|gc h j ah (fun hc7 h=>?_) fun hc7 h=>?_
    ·refine gs<|g0 j j (q (ae j j)<|nl)<|us<|Go.ret (Unw.ret ?_)
     cases h
     exact ⟨j,(fo acN j)⟩
    ·refine Go.skip<|Unw.blk<|us<|g0 j j (q (oMv j j)<|q (oBi j j j j)<|q (ae j j)<|nl)<|Unw.nil<|?_
     cases h
     exact ⟨j,(by kernel_rfl)⟩
   ·refine Go.exit<|ux<|Unw.nil<|?_
    cases h
    exact ⟨j,(by kernel_rfl)⟩
  ·rintro ⟨e,st⟩ hp
   rcases o with jW | r2
   ·dsimp only at h
    obtain ⟨he,hst⟩:=hp
    obtain rfl:e= .exit 0:=he
    refine Unw.iP<|us<|gs<|g2 c24 j j hst (q (oMv j j)<|q (ae j j)<|nl)<|us<|Go.ret (Unw.ret ?_)
    cases h
    exact fr acN j
   ·dsimp only at h
    obtain ⟨he,hfin⟩:=hp
    obtain rfl:e= .ret:=he
    cases h
    exact Unw.ret (gm hfin)
theorem He {a_0:aA} {fE:Int} {r:Int} (h:qm a_0 fE=some r):FX 6 [.im 2 true (ak a_0),.im 2 false [I fE]] (B0 [(false,[.im 0 (I r)])]):=by
 unfold qm at h
 refine gn 18 Tryz.func6 rfl ?_
 refine gs<|g0 j j (q (oBx j Qw j (tkI (tkI (tkI (tkI tk0)))))<|q (ae j j)<|nl)<|us<|gs<|?_
 obtain ⟨x8,hx8,h⟩:=bs h
 refine g0 j j (q (oFA (r':=.mp 2 0 2) j Xf j j)<|q (oLd (cs:=[.im 2 _]) j aeP j j)<|q (oMv j j)<|q (oCa (xs:=[.v false [.im 2 _],.v false [.im 2 _]]) (vs:=[(false,[.im 0 _])]) (v:=.v false [.im 0 _]) (Iw hx8) (.inl j) j U3 j (ppC j (ppC j pp0)) j j pb0 j j j)<|q (ae j j)<|nl)<|us<|gs<|gs<|g0 j j (q (oMv j j)<|q (oBi j j j j)<|nl)<|us<|gc h j ah (fun hc1 h=>?_) fun hc1 h=>?_
 ·refine gs<|g0 j j (q (ae j j)<|nl)<|us<|Go.ret (Unw.ret ?_)
  cases h
  exact fr rF6 j
 ·refine Go.skip<|us<|gs<|?_
  obtain ⟨x14,ve,h⟩:=bs h
  refine g0 j j (q (oFA (r':=.mp 2 0 3) j Xg j j)<|q (oLd (cs:=[.im 2 _]) j aeQ j j)<|q (oMv j j)<|q (oCa (xs:=[.v false [.im 2 _],.v false [.im 0 _]]) (vs:=[(false,[.im 0 _])]) (v:=.v false [.im 0 _]) (Kz ve) (.inl j) j U4 j (ppC j (ppC j pp0)) j j pb0 j j j)<|q (ae j j)<|nl)<|us<|gs<|gs<|g0 j j (q (oMv j j)<|q (oBi j j j j)<|nl)<|us<|gc h j ah (fun hc2 h=>?_) fun hc2 h=>?_
  ·refine gs<|g0 j j (q (ae j j)<|nl)<|us<|Go.ret (Unw.ret ?_)
   cases h
   exact fr rF6 j
  ·refine Go.skip<|us<|gs<|g0 j j (q (oMv j j)<|q (ae j j)<|nl)<|us<|Go.ret (Unw.ret ?_)
   cases h
   exact fr rF6 j
theorem Iz {a_0:ai} {fE:Int} {r:Int} (h:rU a_0 fE=some r):FX 25 [.im 2 true (iE a_0),.im 2 false [I fE]] (B0 [(false,[.im 0 (I r)])]):=by
 unfold rU at h
 refine gn 13 Tryz.func25 rfl ?_
 refine gs<|g0 j j (q (oBx j aaU j (tkI (tkI (tkI tk0))))<|q (ae j j)<|nl)<|us<|gs<|g0 j j (q (oMv j j)<|q (oFA (r':=.mp 2 0 0) j Xh j j)<|q (oLd (cs:=[.im 0 _]) j tF9 j j)<|q (Ru j j uF9 j)<|q (oBi j j j j)<|q (ae j j)<|nl)<|us<|gs<|gs<|g0 j j (q (oMv j j)<|q (oBi j j j j)<|nl)<|us<|gc h j ah (fun hc1 h=>?_) fun hc1 h=>?_
 ·refine gs<|g0 j j (q (ae j j)<|nl)<|us<|Go.ret (Unw.ret ?_)
  cases h
  exact fr aew j
 ·refine Go.skip<|us<|gs<|g0 j j (q (oMv j j)<|q (ae j j)<|nl)<|us<|Go.ret (Unw.ret ?_)
  cases h
  exact fr aew j
theorem Hf {a_0:(List ai)} {fE:Int} {r:Int} (h:qo a_0 fE=some r):FX 7 [.im 2 false [W 3 au a_0],.im 2 false [I fE]] (B0 [(false,[.im 0 (I r)])]):=by
 unfold qo at h
 refine gn 27 Tryz.func7 rfl ?_
 refine gs<|g0 j j (q (ae j j)<|nl)<|us<|gs<|g0 j j (q (oMv j j)<|q (oMv j j)<|q (gB j j aaX j)<|q (oBi j j j j)<|q (ae j j)<|nl)<|us<|gs<|gs<|g0 j j (q (oMv j j)<|q (oBi j j j j)<|nl)<|us<|gc h j ah (fun hc1 h=>?_) fun hc1 h=>?_
 ·refine gs<|g0 j j (q (ae j j)<|nl)<|us<|Go.ret (Unw.ret ?_)
  cases h
  exact fr rF7 j
 ·refine Go.skip<|us<|gs<|gs<|g0 j j (q (ae j j)<|nl)<|us<|Go.block<|?_
  obtain ⟨o,hl,h⟩:=bs h
  refine gl c7 j _ (fun (s:(Int×Int))=>match s with | (nN,vJ)=>mk [(0,D 2 (W 3 au a_0)),(1,iv nN),(5,iv vJ)] []) (fun (o:(Int ⊕ Int)) (p:Ex×St)=>match o with | (.inl jW)=>p.1= .exit 0∧p.2.norm ([1],[])=mk [(1,iv jW)] [] | (.inr r2)=>p.1= .ret∧fin Tryz.prog cfg 7 Tryz.f7 [.im 2 false [W 3 au a_0],.im 2 false [I fE]] p.2=some (B0 [(false,[.im 0 (I r2)])])) hl (by kernel_rfl) ?_ ?_ ?_
  ·intro o p hp e
   rcases o with jW | r2<;>exact nomatch (hp.1.symm.trans e)
  ·rintro ⟨nN,vJ⟩ o h
   unfold mG at h
   dsimp only at h
   refine gs<|gs<|g0 j j (q (oMv j j)<|q (oMv j j)<|q (gB j j aaX j)<|q (oBi j j j j)<|nl)<|us<|gc h j ah (fun hc6 h=>?_) fun hc6 h=>?_
   ·refine Go.skip<|us<|gs<|Go.block<|gs<|?_
    obtain ⟨x20,yh,h⟩:=bs h
    obtain ⟨x23,yj,h⟩:=bs h
    refine g0 j j (q (oMv j j)<|q (oMv j j)<|q (fU j yh aeO j j)<|q (oLd (cs:=[.im 2 _,.im 2 _,.im 2 _]) j aaU j j)<|q (oMv j j)<|q (oCa (xs:=[.v true [.im 2 _,.im 2 _,.im 2 _],.v false [.im 0 _]]) (vs:=[(false,[.im 0 _])]) (v:=.v false [.im 0 _]) (Iz yj) (.inl j) j U5 j (ppC j (ppC j pp0)) j j pb0 j j j)<|q (ae j j)<|nl)<|us<|gs<|g0 j j (q (oMv j j)<|q (oBi j j j j)<|nl)<|us<|gc h j ah (fun hc7 h=>?_) fun hc7 h=>?_
    ·refine gs<|g0 j j (q (ae j j)<|nl)<|us<|Go.ret (Unw.ret ?_)
     cases h
     exact ⟨j,(fo rF7 j)⟩
    ·refine Go.skip<|Unw.blk<|us<|g0 j j (q (oMv j j)<|q (oBi j j j j)<|q (ae j j)<|nl)<|Unw.nil<|?_
     cases h
     exact ⟨j,(by kernel_rfl)⟩
   ·refine Go.exit<|ux<|Unw.nil<|?_
    cases h
    exact ⟨j,(by kernel_rfl)⟩
  ·rintro ⟨e,st⟩ hp
   rcases o with jW | r2
   ·dsimp only at h
    obtain ⟨he,hst⟩:=hp
    obtain rfl:e= .exit 0:=he
    refine Unw.iP<|us<|gs<|g2 c7 j j hst (q (oMv j j)<|q (ae j j)<|nl)<|us<|Go.ret (Unw.ret ?_)
    cases h
    exact fr rF7 j
   ·dsimp only at h
    obtain ⟨he,hfin⟩:=hp
    obtain rfl:e= .ret:=he
    cases h
    exact Unw.ret (gm hfin)
theorem KA {a_0:af} {r:af} (h:uI a_0=some r):FX 50 [.im 2 true (aF a_0)] (B0 [(true,J 0 (aF r))]):=by
 unfold uI at h
 refine gn 11 Tryz.func50 rfl ?_
 refine gs<|g0 j j (q (oBx j aeR j (tkI (tkI tk0)))<|q (oAl j aJ (tkI (tkI tk0)))<|nl)<|us<|gs<|g0 j j (q (oAl j aJ (tkI (tkI tk0)))<|nl)<|us<|gs<|g0 j j (q (oFA (r':=.mp 1 0 0) j acE j j)<|q (oLd (cs:=[.im 0 _]) j tF2 j j)<|q (oFA (r':=.mp 3 0 0) j iF j j)<|q (oSt tF2 j j j (tkI tk0) j j j)<|nl)<|us<|gs<|g1 j j (mk [(1,M 1),(2,M 2),(3,M 3)] [(1,Oa (G 0 (aF a_0))),(2,Oa [C (I 0),C (I 0)]),(3,Oa [C (I a_0.X),C (I 0)])]) (q (oFA (r':=.mp 1 0 1) j acF j j)<|q (oLd (cs:=[.im 0 _]) j tF2 j j)<|q (oFA (r':=.mp 3 0 1) j iW j j)<|q (oSt tF2 j j j (tkI tk0) j j j)<|nl)<|us<|gs<|g1 j j (mk [(2,M 2),(3,M 3)] [(2,Oa [C (I 0),C (I 0)]),(3,Oa (G 0 (aF a_0)))]) (q (oLd (cs:=[.im 0 _,.im 0 _]) j aJ j j)<|q (oSt aJ j j j (tkI (tkI tk0)) j j j)<|nl)<|us<|Go.ret (Unw.ret ?_)
 cases h
 exact fr agt j
theorem IA {a_0:(List af)} {r:(List af)} (h:rV a_0=some r):FX 30 [.im 2 false [W 2 az a_0]] (B0 [(false,[.ow 0 2 (List.map az r)])]):=by
 unfold rV at h
 refine gn 23 Tryz.func30 rfl ?_
 refine gs<|g0 j j (q (vH j j Xe)<|nl)<|us<|gs<|?_
 obtain ⟨x7,hx7,h⟩:=bs h
 refine g0 j j (q (oMv j j)<|q (gB j j acY j)<|q (oMk (en:=az) j hx7 j pF j j (fxI (fxI fx0)) j (dX (L:=[_]) j fun _=>j))<|q (kC j j j j j)<|nl)<|us<|gs<|gs<|g0 j j (q (ae j j)<|nl)<|us<|Go.block<|?_
 obtain ⟨o,hl,h⟩:=bs h
 refine gl c30 j _ (fun (s:(Int×(List af)))=>match s with | (bP,aV)=>mk [(0,D 2 (W 2 az a_0)),(3,H 3 0),(4,iv bP)] [(3,Oc [Z (W 2 az aV)])]) (fun (bu:(List af)) (p:Ex×St)=>p.1= .exit 0∧p.2.norm ([3],[3])=mk [(3,H 3 0)] [(3,Oc [Z (W 2 az bu)])]) hl (by kernel_rfl) ?_ ?_ ?_
 ·intro o p hp e
  exact nomatch (hp.1.symm.trans e)
 ·rintro ⟨bP,aV⟩ o h
  unfold nO at h
  dsimp only at h
  refine gs<|gs<|g0 j j (q (oMv j j)<|q (oMv j j)<|q (gB j j acY j)<|q (oBi j j j j)<|nl)<|us<|gc h j ah (fun hc3 h=>?_) fun hc3 h=>?_
  ·refine Go.skip<|us<|gs<|Go.block<|?_
   obtain ⟨x18,EJ,h⟩:=bs h
   obtain ⟨x20,yh,h⟩:=bs h
   obtain ⟨x21,IB,h⟩:=bs h
   refine g0 j j (q (oMv j j)<|q (oMv j j)<|q (oMv j j)<|q (oMv j j)<|q (fU j EJ agT j j)<|q (oLd (cs:=[.im 2 _,.im 2 _]) j aeR j j)<|q (oCa (xs:=[.v true [.im 2 _,.im 2 _]]) (vs:=[(true,[.im 0 _,.im 0 _])]) (v:=.v true [.im 0 _,.im 0 _]) (KA yh) (.inl j) j aay j (ppC j pp0) j j pb0 j j j)<|q (zY j IB pF j j j j)<|q (Qg (v':=x20) aJ j j j (fxI (fxI fx0)) j j (eP IB) j)<|nl)<|Unw.blk<|us<|g1 j j (mk [(0,D 2 (W 2 az a_0)),(3,H 3 0),(4,iv bP)] [(3,Oc [Z (W 2 az (aV.set bP.toNat x20))])]) (q (oMv j j)<|q (oBi j j j j)<|q (ae j j)<|nl)<|Unw.nil<|?_
   cases h
   exact ⟨j,(by kernel_rfl)⟩
  ·refine Go.exit<|ux<|Unw.nil<|?_
   cases h
   exact ⟨j,(by kernel_rfl)⟩
 ·rintro ⟨e,st⟩ hp
  obtain ⟨bu,rfl⟩:∃y,y=o:=⟨o,rfl⟩
  obtain ⟨he,hst⟩:=hp
  obtain rfl:e= .exit 0:=he
  refine Unw.iP<|us<|gs<|g2 c30 j j hst (q (oMv j j)<|q (kC j j j j j)<|nl)<|us<|Go.ret (Unw.ret ?_)
  cases h
  exact fr agi j
theorem IC {a_0:(List Int)} {r:(List Int)} (h:rW a_0=some r):FX 75 [.im 2 false [W 1 eI a_0]] (B0 [(false,[.ow 0 1 (List.map eI r)])]):=by
 unfold rW at h
 refine gn 22 Tryz.func75 rfl ?_
 refine gs<|g0 j j (q (vH j j FQ)<|nl)<|us<|gs<|?_
 obtain ⟨x7,hx7,h⟩:=bs h
 refine g0 j j (q (oMv j j)<|q (gB j j lX j)<|q (oMk (en:=eI) j hx7 j fH j j (fxI fx0) j (dX (L:=[_]) j fun _=>j))<|q (kC j j j j j)<|nl)<|us<|gs<|gs<|g0 j j (q (ae j j)<|nl)<|us<|Go.block<|?_
 obtain ⟨o,hl,h⟩:=bs h
 refine gl c75 j _ (fun (s:(Int×(List Int)))=>match s with | (bP,aV)=>mk [(0,D 2 (W 1 eI a_0)),(3,H 3 0),(4,iv bP)] [(3,Oc [Z (W 1 eI aV)])]) (fun (bu:(List Int)) (p:Ex×St)=>p.1= .exit 0∧p.2.norm ([3],[3])=mk [(3,H 3 0)] [(3,Oc [Z (W 1 eI bu)])]) hl (by kernel_rfl) ?_ ?_ ?_
 ·intro o p hp e
  exact nomatch (hp.1.symm.trans e)
 ·rintro ⟨bP,aV⟩ o h
  unfold nP at h
  dsimp only at h
  refine gs<|gs<|g0 j j (q (oMv j j)<|q (oMv j j)<|q (gB j j lX j)<|q (oBi j j j j)<|nl)<|us<|gc h j ah (fun hc3 h=>?_) fun hc3 h=>?_
  ·refine Go.skip<|us<|gs<|Go.block<|?_
   obtain ⟨x18,EJ,h⟩:=bs h
   obtain ⟨x20,yh,h⟩:=bs h
   refine g0 j j (q (oMv j j)<|q (oMv j j)<|q (oMv j j)<|q (oMv j j)<|q (fU j EJ fH j j)<|q (oLd (cs:=[.im 2 _]) j tF2 j j)<|q (zY j yh fH j j j j)<|q (Qg (v':=x18) tF2 j j j (fxI fx0) j j (eP yh) j)<|nl)<|Unw.blk<|us<|g1 j j (mk [(0,D 2 (W 1 eI a_0)),(3,H 3 0),(4,iv bP)] [(3,Oc [Z (W 1 eI (aV.set bP.toNat x18))])]) (q (oMv j j)<|q (oBi j j j j)<|q (ae j j)<|nl)<|Unw.nil<|?_
   cases h
   exact ⟨j,(by kernel_rfl)⟩
  ·refine Go.exit<|ux<|Unw.nil<|?_
   cases h
   exact ⟨j,(by kernel_rfl)⟩
 ·rintro ⟨e,st⟩ hp
  obtain ⟨bu,rfl⟩:∃y,y=o:=⟨o,rfl⟩
  obtain ⟨he,hst⟩:=hp
  obtain rfl:e= .exit 0:=he
  refine Unw.iP<|us<|gs<|g2 c75 j j hst (q (oMv j j)<|q (kC j j j j j)<|nl)<|us<|Go.ret (Unw.ret ?_)
  cases h
  exact fr agG j
theorem Lp {a_0:dh} {r:dh} (h:wI a_0=some r):FX 51 [.im 2 true (uZ a_0)] (B0 [(true,[.im 0 (Y r.Name),.ow 0 1 (List.map eI r.Ring)])]):=by
 unfold wI at h
 refine gn 12 Tryz.func51 rfl ?_
 refine gs<|g0 j j (q (oBx j aaV j (tkI (tkI tk0)))<|q (oAl j EI (tkI (tkN tk0)))<|nl)<|us<|gs<|g0 j j (q (oAl j EI (tkI (tkN tk0)))<|nl)<|us<|gs<|g0 j j (q (oFA (r':=.mp 1 0 0) j Xj j j)<|q (oLd (cs:=[.im 0 _]) j tF9 j j)<|q (oFA (r':=.mp 3 0 0) j zC j j)<|q (oSt tF9 j j j (tkI tk0) j j j)<|nl)<|us<|gs<|?_
 obtain ⟨x9,hx9,h⟩:=bs h
 refine g1 j j (mk [(1,M 1),(2,M 2),(3,M 3)] [(1,Oa (G 2 (uZ a_0))),(2,Oa [C (Y (⟨#[]⟩:ByteArray)),Z (W 1 eI ([]:List Int))]),(3,Oa [C (Y a_0.Name),Z (W 1 eI ([]:List Int))])]) (q (oFA (r':=.mp 1 0 1) j Xk j j)<|q (oLd (cs:=[.im 2 _]) j oh j j)<|q (oCr (xs:=[.v false [.im 2 _]]) (vs:=[(false,[.own 9 0 0])]) (v:=.v false [.own 9 0 0]) (c:=⟨.sh,0,_⟩) (cs:=[]) (IC hx9) (.inl j) j aaI j (ppC j pp0) j j pb0 j j j)<|q (oFA (r':=.mp 3 0 1) j Bg j j)<|q (oSt oh j j j (tkO j j tk0) j j j)<|nl)<|us<|gs<|g1 j j (mk [(2,M 2),(3,M 3)] [(2,Oa [C (Y (⟨#[]⟩:ByteArray)),Z (W 1 eI ([]:List Int))]),(3,Oa [C (Y a_0.Name),Z (W 1 eI x9)])]) (q (oLd (cs:=[.im 0 _,.own 3 0 1]) j EI j j)<|q (oSt EI j j j (tkI (tkO j j tk0)) j j j)<|nl)<|us<|Go.ret (Unw.ret ?_)
 cases h
 exact fr agu j
theorem KC {a_0:(List dh)} {r:(List dh)} (h:uJ a_0=some r):FX 31 [.im 2 false [W 2 bM a_0]] (B0 [(false,[.ow 0 2 (List.map bM r)])]):=by
 unfold uJ at h
 refine gn 23 Tryz.func31 rfl ?_
 refine gs<|g0 j j (q (vH j j af9)<|nl)<|us<|gs<|?_
 obtain ⟨x7,hx7,h⟩:=bs h
 refine g0 j j (q (oMv j j)<|q (gB j j aaW j)<|q (oMk (en:=bM) j hx7 j EH j j (fxI (fxN fx0)) j (Ci j))<|q (kC j j j j j)<|nl)<|us<|gs<|gs<|g0 j j (q (ae j j)<|nl)<|us<|Go.block<|?_
 obtain ⟨o,hl,h⟩:=bs h
 refine gl c31 j _ (fun (s:(Int×(List dh)))=>match s with | (bP,aV)=>mk [(0,D 2 (W 2 bM a_0)),(3,H 3 0),(4,iv bP)] [(3,Oc [Z (W 2 bM aV)])]) (fun (bu:(List dh)) (p:Ex×St)=>p.1= .exit 0∧p.2.norm ([3],[3])=mk [(3,H 3 0)] [(3,Oc [Z (W 2 bM bu)])]) hl (by kernel_rfl) ?_ ?_ ?_
 ·intro o p hp e
  exact nomatch (hp.1.symm.trans e)
 ·rintro ⟨bP,aV⟩ o h
  unfold oM at h
  dsimp only at h
  refine gs<|gs<|g0 j j (q (oMv j j)<|q (oMv j j)<|q (gB j j aaW j)<|q (oBi j j j j)<|nl)<|us<|gc h j ah (fun hc3 h=>?_) fun hc3 h=>?_
  ·refine Go.skip<|us<|gs<|Go.block<|?_
   obtain ⟨x18,EJ,h⟩:=bs h
   obtain ⟨x20,yh,h⟩:=bs h
   obtain ⟨x21,IB,h⟩:=bs h
   refine g0 j j (q (oMv j j)<|q (oMv j j)<|q (oMv j j)<|q (oMv j j)<|q (fU j EJ aeN j j)<|q (oLd (cs:=[.im 2 _,.im 2 _]) j aaV j j)<|q (oCr (xs:=[.v true [.im 2 _,.im 2 _]]) (vs:=[(true,[.im 0 _,.own 20 0 0])]) (v:=.v true [.im 0 _,.own 20 0 0]) (c:=⟨.sh,0,_⟩) (cs:=[]) (Lp yh) (.inl j) j aaz j (ppC j pp0) j j pb0 j j j)<|q (zY j IB EH j j j j)<|q (Qg (v':=x20) EI j j j (fxI (fxO j j fx0)) j j (eP IB) j)<|nl)<|Unw.blk<|us<|g1 j j (mk [(0,D 2 (W 2 bM a_0)),(3,H 3 0),(4,iv bP)] [(3,Oc [Z (W 2 bM (aV.set bP.toNat x20))])]) (q (oMv j j)<|q (oBi j j j j)<|q (ae j j)<|nl)<|Unw.nil<|?_
   cases h
   exact ⟨j,(by kernel_rfl)⟩
  ·refine Go.exit<|ux<|Unw.nil<|?_
   cases h
   exact ⟨j,(by kernel_rfl)⟩
 ·rintro ⟨e,st⟩ hp
  obtain ⟨bu,rfl⟩:∃y,y=o:=⟨o,rfl⟩
  obtain ⟨he,hst⟩:=hp
  obtain rfl:e= .exit 0:=he
  refine Unw.iP<|us<|gs<|g2 c31 j j hst (q (oMv j j)<|q (kC j j j j j)<|nl)<|us<|Go.ret (Unw.ret ?_)
  cases h
  exact fr agj j
theorem qV {a_0:aA} {r:aA} (h:jX a_0=some r):FX 9 [.im 2 true (ak a_0)] (B0 [(true,[.im 0 (I r.Width),.im 0 (I r.Height),.ow 0 2 (List.map az r.bf),.ow 0 2 (List.map bM r.aC)])]):=by
 unfold jX at h
 refine gn 19 Tryz.func9 rfl ?_
 refine gs<|g0 j j (q (oBx j Qw j (tkI (tkI (tkI (tkI tk0)))))<|q (oAl j Ar (tkI (tkI (tkN (tkN tk0)))))<|nl)<|us<|gs<|g0 j j (q (oAl j Ar (tkI (tkI (tkN (tkN tk0)))))<|nl)<|us<|gs<|g0 j j (q (oFA (r':=.mp 1 0 0) j acw j j)<|q (oLd (cs:=[.im 0 _]) j tF2 j j)<|q (oFA (r':=.mp 3 0 0) j EG j j)<|q (oSt tF2 j j j (tkI tk0) j j j)<|nl)<|us<|gs<|g1 j j (mk [(1,M 1),(2,M 2),(3,M 3)] [(1,Oa (G 2 (ak a_0))),(2,Oa [C (I 0),C (I 0),Z (W 2 az ([]:List af)),Z (W 2 bM ([]:List dh))]),(3,Oa [C (I a_0.Width),C (I 0),Z (W 2 az ([]:List af)),Z (W 2 bM ([]:List dh))])]) (q (oFA (r':=.mp 1 0 1) j acy j j)<|q (oLd (cs:=[.im 0 _]) j tF2 j j)<|q (oFA (r':=.mp 3 0 1) j CP j j)<|q (oSt tF2 j j j (tkI tk0) j j j)<|nl)<|us<|gs<|?_
 obtain ⟨x12,zF,h⟩:=bs h
 refine g1 j j (mk [(1,M 1),(2,M 2),(3,M 3)] [(1,Oa (G 2 (ak a_0))),(2,Oa [C (I 0),C (I 0),Z (W 2 az ([]:List af)),Z (W 2 bM ([]:List dh))]),(3,Oa [C (I a_0.Width),C (I a_0.Height),Z (W 2 az ([]:List af)),Z (W 2 bM ([]:List dh))])]) (q (oFA (r':=.mp 1 0 2) j Xf j j)<|q (oLd (cs:=[.im 2 _]) j aeP j j)<|q (oCr (xs:=[.v false [.im 2 _]]) (vs:=[(false,[.own 12 0 0])]) (v:=.v false [.own 12 0 0]) (c:=⟨.sh,0,_⟩) (cs:=[]) (IA zF) (.inl j) j aar j (ppC j pp0) j j pb0 j j j)<|q (oFA (r':=.mp 3 0 2) j rE j j)<|q (oSt DU j j j (tkO j j tk0) j j j)<|nl)<|us<|gs<|?_
 obtain ⟨x16,hx16,h⟩:=bs h
 refine g1 j j (mk [(1,M 1),(2,M 2),(3,M 3)] [(1,Oa (G 2 (ak a_0))),(2,Oa [C (I 0),C (I 0),Z (W 2 az ([]:List af)),Z (W 2 bM ([]:List dh))]),(3,Oa [C (I a_0.Width),C (I a_0.Height),Z (W 2 az x12),Z (W 2 bM ([]:List dh))])]) (q (oFA (r':=.mp 1 0 3) j Xg j j)<|q (oLd (cs:=[.im 2 _]) j aeQ j j)<|q (oCr (xs:=[.v false [.im 2 _]]) (vs:=[(false,[.own 16 0 0])]) (v:=.v false [.own 16 0 0]) (c:=⟨.sh,0,_⟩) (cs:=[]) (KC hx16) (.inl j) j aas j (ppC j pp0) j j pb0 j j j)<|q (oFA (r':=.mp 3 0 3) j oK j j)<|q (oSt Bi j j j (tkO j j tk0) j j j)<|nl)<|us<|gs<|g1 j j (mk [(2,M 2),(3,M 3)] [(2,Oa [C (I 0),C (I 0),Z (W 2 az ([]:List af)),Z (W 2 bM ([]:List dh))]),(3,Oa [C (I a_0.Width),C (I a_0.Height),Z (W 2 az x12),Z (W 2 bM x16)])]) (q (oLd (cs:=[.im 0 _,.im 0 _,.own 3 0 2,.own 3 0 3]) j Ar j j)<|q (oSt Ar j j j (tkI (tkI (tkO j j (tkO j j tk0)))) j j j)<|nl)<|us<|Go.ret (Unw.ret ?_)
 cases h
 exact fr rF9 j
theorem IE {a_0:ai} {r:ai} (h:rY a_0=some r):FX 32 [.im 2 true (iE a_0)] (B0 [(true,J 0 (iE r))]):=by
 unfold rY at h
 refine gn 14 Tryz.func32 rfl ?_
 refine gs<|g0 j j (q (oBx j aaU j (tkI (tkI (tkI tk0))))<|q (oAl j CY (tkI (tkI (tkI tk0))))<|nl)<|us<|gs<|g0 j j (q (oAl j CY (tkI (tkI (tkI tk0))))<|nl)<|us<|gs<|g0 j j (q (oFA (r':=.mp 1 0 0) j Xh j j)<|q (oLd (cs:=[.im 0 _]) j tF9 j j)<|q (oFA (r':=.mp 3 0 0) j G7 j j)<|q (oSt tF9 j j j (tkI tk0) j j j)<|nl)<|us<|gs<|g1 j j (mk [(1,M 1),(2,M 2),(3,M 3)] [(1,Oa (G 0 (iE a_0))),(2,Oa [C (Y (⟨#[]⟩:ByteArray)),C (I 0),C (I 0)]),(3,Oa [C (Y a_0.ji),C (I 0),C (I 0)])]) (q (oFA (r':=.mp 1 0 1) j acz j j)<|q (oLd (cs:=[.im 0 _]) j tF2 j j)<|q (oFA (r':=.mp 3 0 1) j rF j j)<|q (oSt tF2 j j j (tkI tk0) j j j)<|nl)<|us<|gs<|g1 j j (mk [(1,M 1),(2,M 2),(3,M 3)] [(1,Oa (G 0 (iE a_0))),(2,Oa [C (Y (⟨#[]⟩:ByteArray)),C (I 0),C (I 0)]),(3,Oa [C (Y a_0.ji),C (I a_0.dM),C (I 0)])]) (q (oFA (r':=.mp 1 0 2) j acA j j)<|q (oLd (cs:=[.im 0 _]) j tF2 j j)<|q (oFA (r':=.mp 3 0 2) j zB j j)<|q (oSt tF2 j j j (tkI tk0) j j j)<|nl)<|us<|gs<|g1 j j (mk [(2,M 2),(3,M 3)] [(2,Oa [C (Y (⟨#[]⟩:ByteArray)),C (I 0),C (I 0)]),(3,Oa (G 0 (iE a_0)))]) (q (oLd (cs:=[.im 0 _,.im 0 _,.im 0 _]) j CY j j)<|q (oSt CY j j j (tkI (tkI (tkI tk0))) j j j)<|nl)<|us<|Go.ret (Unw.ret ?_)
 cases h
 exact fr agk j
theorem qW {a_0:(List ai)} {r:(List ai)} (h:jY a_0=some r):FX 10 [.im 2 false [W 3 au a_0]] (B0 [(false,[.ow 0 3 (List.map au r)])]):=by
 unfold jY at h
 refine gn 23 Tryz.func10 rfl ?_
 refine gs<|g0 j j (q (vH j j aga)<|nl)<|us<|gs<|?_
 obtain ⟨x7,hx7,h⟩:=bs h
 refine g0 j j (q (oMv j j)<|q (gB j j aaX j)<|q (oMk (en:=au) j hx7 j G9 j j (fxI (fxI (fxI fx0))) j (dX (L:=[_]) j fun _=>j))<|q (kC j j j j j)<|nl)<|us<|gs<|gs<|g0 j j (q (ae j j)<|nl)<|us<|Go.block<|?_
 obtain ⟨o,hl,h⟩:=bs h
 refine gl c10 j _ (fun (s:(Int×(List ai)))=>match s with | (bP,aV)=>mk [(0,D 2 (W 3 au a_0)),(3,H 3 0),(4,iv bP)] [(3,Oc [Z (W 3 au aV)])]) (fun (bu:(List ai)) (p:Ex×St)=>p.1= .exit 0∧p.2.norm ([3],[3])=mk [(3,H 3 0)] [(3,Oc [Z (W 3 au bu)])]) hl (by kernel_rfl) ?_ ?_ ?_
 ·intro o p hp e
  exact nomatch (hp.1.symm.trans e)
 ·rintro ⟨bP,aV⟩ o h
  unfold mJ at h
  dsimp only at h
  refine gs<|gs<|g0 j j (q (oMv j j)<|q (oMv j j)<|q (gB j j aaX j)<|q (oBi j j j j)<|nl)<|us<|gc h j ah (fun hc3 h=>?_) fun hc3 h=>?_
  ·refine Go.skip<|us<|gs<|Go.block<|?_
   obtain ⟨x18,EJ,h⟩:=bs h
   obtain ⟨x20,yh,h⟩:=bs h
   obtain ⟨x21,IB,h⟩:=bs h
   refine g0 j j (q (oMv j j)<|q (oMv j j)<|q (oMv j j)<|q (oMv j j)<|q (fU j EJ aeO j j)<|q (oLd (cs:=[.im 2 _,.im 2 _,.im 2 _]) j aaU j j)<|q (oCa (xs:=[.v true [.im 2 _,.im 2 _,.im 2 _]]) (vs:=[(true,[.im 0 _,.im 0 _,.im 0 _])]) (v:=.v true [.im 0 _,.im 0 _,.im 0 _]) (IE yh) (.inl j) j aat j (ppC j pp0) j j pb0 j j j)<|q (zY j IB G9 j j j j)<|q (Qg (v':=x20) CY j j j (fxI (fxI (fxI fx0))) j j (eP IB) j)<|nl)<|Unw.blk<|us<|g1 j j (mk [(0,D 2 (W 3 au a_0)),(3,H 3 0),(4,iv bP)] [(3,Oc [Z (W 3 au (aV.set bP.toNat x20))])]) (q (oMv j j)<|q (oBi j j j j)<|q (ae j j)<|nl)<|Unw.nil<|?_
   cases h
   exact ⟨j,(by kernel_rfl)⟩
  ·refine Go.exit<|ux<|Unw.nil<|?_
   cases h
   exact ⟨j,(by kernel_rfl)⟩
 ·rintro ⟨e,st⟩ hp
  obtain ⟨bu,rfl⟩:∃y,y=o:=⟨o,rfl⟩
  obtain ⟨he,hst⟩:=hp
  obtain rfl:e= .exit 0:=he
  refine Unw.iP<|us<|gs<|g2 c10 j j hst (q (oMv j j)<|q (kC j j j j j)<|nl)<|us<|Go.ret (Unw.ret ?_)
  cases h
  exact fr agc j
theorem fJ {n_0:Int} {Ac:Int} {vK:Int} {r:Bool} (h:fO n_0 Ac vK=some r):FX 45 [.im 2 false [I n_0],.im 2 false [I Ac],.im 2 false [I vK]] (B0 [(false,[.im 0 (V r)])]):=by
 unfold fO at h
 refine gn 15 Tryz.func45 rfl ?_
 refine gs<|g0 j j (q (ae j j)<|nl)<|us<|gs<|gX c45 j j j (mk [(6,bv ((decide (n_0≥Ac))&&(decide (n_0≤vK))))] []) ?_ ?_
 ·refine xq (oMv j j)<|xq (oMv j j)<|xq (oBi j j j j)<|xq (oMv j j)<|?_
  by_cases hc1:n_0≥Ac
  ·exact xqT rfl rfl (ah.2 hc1) (oMv rfl rfl)<|xqT rfl rfl (ah.2 hc1) (oMv rfl rfl)<|xqT rfl rfl (ah.2 hc1) (oBi rfl rfl rfl rfl)<|xq (bU rfl rfl (ah.2 hc1) rfl)<|xq (ae rfl rfl)<|xn (Eq.trans (b:=(fun lH:Bool=>mk [(6,bv lH)] []) (decide (n_0≤vK))) (by kernel_rfl) (congrArg (fun lH:Bool=>mk [(6,bv lH)] []) (by first | rfl | (simp [(ah.2 hc1)];done) | (simp [(ah.2 hc1)];omega))))
  ·exact aj rfl rfl (byF ah hc1) rfl<|aj rfl rfl (byF ah hc1) rfl<|aj rfl rfl (byF ah hc1) rfl<|xq (dV rfl rfl (byF ah hc1) rfl)<|xq (ae rfl rfl)<|xn (Eq.trans (b:=(fun lH:Bool=>mk [(6,bv lH)] []) false) (by kernel_rfl) (congrArg (fun lH:Bool=>mk [(6,bv lH)] []) (by first | rfl | (simp [(byF ah hc1)];done) | (simp [(byF ah hc1)];omega))))
 ·refine us<|Go.ret (Unw.ret ?_)
  cases h
  exact fr agp j
theorem Hg {d_0:aA} {r:Bool} (h:uK d_0=some r):FX 67 [.im 2 false [.cp (ak d_0) 0]] (B0 [(false,[.im 0 (V r)])]):=by
 unfold uK at h
 refine gn 70 Tryz.func67 rfl ?_
 refine gs<|g0 j j (q (ae j j)<|nl)<|us<|gs<|gs<|g0 j j (q (oMv j j)<|q (oNl j j j)<|q (oFA (r':=.im 2 _) j rE j j)<|q (oLd (cs:=[.im 2 _]) j DU j j)<|q (gB j j zD j)<|q (oBi j j j j)<|nl)<|us<|gc h j ah (fun hc1 h=>?_) fun hc1 h=>?_
 ·refine gs<|g0 j j (q (ae j j)<|nl)<|us<|Go.ret (Unw.ret ?_)
  cases h
  exact fr aaS j
 ·refine Go.skip<|us<|gs<|gs<|g0 j j (q (ae j j)<|nl)<|us<|Go.block<|?_
  obtain ⟨o,hl,h⟩:=bs h
  refine gl c67 j _ (fun (dI:Int)=>mk [(0,D 2 (.cp (ak d_0) 0)),(3,iv dI)] []) (fun (o:(Unit ⊕ Bool)) (p:Ex×St)=>match o with | (.inl _)=>p.1= .exit 0∧p.2.norm ([],[])=mk [] [] | (.inr r2)=>p.1= .ret∧fin Tryz.prog cfg 67 Tryz.f67 [.im 2 false [.cp (ak d_0) 0]] p.2=some (B0 [(false,[.im 0 (V r2)])])) hl (by kernel_rfl) ?_ ?_ ?_
  ·intro o p hp e
   rcases o with u | r2<;>exact nomatch (hp.1.symm.trans e)
  ·rintro dI o h
   unfold kF at h
   refine gs<|gs<|g0 j j (q (oMv j j)<|q (oMv j j)<|q (oNl j j j)<|q (oFA (r':=.im 2 _) j rE j j)<|q (oLd (cs:=[.im 2 _]) j DU j j)<|q (gB j j zD j)<|q (oBi j j j j)<|nl)<|us<|gc h j ah (fun hc18 h=>?_) fun hc18 h=>?_
   ·refine Go.skip<|us<|gs<|Go.block<|gs<|gs<|?_
    obtain ⟨x25,hx25,h⟩:=bs h
    obtain ⟨x32,hx32,h⟩:=bs h
    obtain ⟨A7,CZ,h⟩:=bs h
    refine gd c67 j j j j (mk [(0,D 2 (.cp (ak d_0) 0)),(3,iv dI),(49,bv A7)] []) ?_ ?_
    ·refine t j j (oMv j j)<|t j j (oNl j j j)<|t j j (oFA (r':=.im 2 _) j rE j j)<|t j j (oLd (cs:=[.im 2 _]) j DU j j)<|t j j (oMv j j)<|t j j (fU j hx25 pF j j)<|t j j (oFA (r':=.im 2 _) j iF j j)<|t j j (oLd (cs:=[.im 2 _]) j tF2 j j)<|t j j (oMv j j)<|t j j (oNl j j j)<|t j j (oFA (r':=.im 2 _) j EG j j)<|?_
     refine ic CZ (fun hc19 CZ=>?_) fun hc19 CZ=>?_
     ·obtain ⟨x40,KD,CZ⟩:=bs CZ
      obtain ⟨x47,SC,CZ⟩:=bs CZ
      cases CZ
      exact t j j (oLd (cs:=[.im 2 _]) j tF2 j j)<|sS (dN z67 j (oCa (xs:=[.v false [.im 2 _],.v false [.im 0 _],.v false [.im 2 _]]) (vs:=[(false,[.im 0 _])]) (v:=.v false [.im 0 _]) (fJ hx32) (.inl j) j iJ j (ppC j (ppC j (ppC j pp0))) j j pb0 j j j)) trivial (t j j (oUn j j j)<|t j j (oMv j j)<|tT j j j j (nF (iR.2 hc19)) (oMv j j)<|tT j j j j (nF (iR.2 hc19)) (oNl j j j)<|tT j j j j (nF (iR.2 hc19)) (oFA (r':=.im 2 _) j rE j j)<|tT j j j j (nF (iR.2 hc19)) (oLd (cs:=[.im 2 _]) j DU j j)<|tT j j j j (nF (iR.2 hc19)) (oMv j j)<|tT j j j j (nF (iR.2 hc19)) (fU j KD pF j j)<|tT j j j j (nF (iR.2 hc19)) (oFA (r':=.im 2 _) j iW j j)<|tT j j j j (nF (iR.2 hc19)) (oLd (cs:=[.im 2 _]) j tF2 j j)<|tT j j j j (nF (iR.2 hc19)) (oMv j j)<|tT j j j j (nF (iR.2 hc19)) (oNl j j j)<|tT j j j j (nF (iR.2 hc19)) (oFA (r':=.im 2 _) j CP j j)<|tT j j j j (nF (iR.2 hc19)) (oLd (cs:=[.im 2 _]) j tF2 j j)<|sS (dT z67 j j j (nF (iR.2 hc19)) (oCa (xs:=[.v false [.im 2 _],.v false [.im 0 _],.v false [.im 2 _]]) (vs:=[(false,[.im 0 _])]) (v:=.v false [.im 0 _]) (fJ SC) (.inl j) j iJ j (ppC j (ppC j (ppC j pp0))) j j pb0 j j j)) trivial (tT j j j j (nF (iR.2 hc19)) (oUn j j j)<|t j j (dV j j (nF (iR.2 hc19)) j)<|sD (by kernel_rfl)))
     ·cases CZ
      exact t j j (oLd (cs:=[.im 2 _]) j tF2 j j)<|sS (dN z67 j (oCa (xs:=[.v false [.im 2 _],.v false [.im 0 _],.v false [.im 2 _]]) (vs:=[(false,[.im 0 _])]) (v:=.v false [.im 0 _]) (fJ hx32) (.inl j) j iJ j (ppC j (ppC j (ppC j pp0))) j j pb0 j j j)) trivial (t j j (oUn j j j)<|t j j (oMv j j)<|tF j j j j (nT (byF iR hc19)) j<|tF j j j j (nT (byF iR hc19)) j<|tF j j j j (nT (byF iR hc19)) j<|tF j j j j (nT (byF iR hc19)) j<|tF j j j j (nT (byF iR hc19)) j<|tF j j j j (nT (byF iR hc19)) j<|tF j j j j (nT (byF iR hc19)) j<|tF j j j j (nT (byF iR hc19)) j<|tF j j j j (nT (byF iR hc19)) j<|tF j j j j (nT (byF iR hc19)) j<|tF j j j j (nT (byF iR hc19)) j<|tF j j j j (nT (byF iR hc19)) j<|sS (dF j j j (nT (byF iR hc19)) j) trivial (tF j j j j (nT (byF iR hc19)) j<|t j j (bU j j (nT (byF iR hc19)) j)<|sD (by kernel_rfl)))
    ·refine us<|gc h j iR (fun EK h=>?_) fun EK h=>?_
     ·refine gs<|g0 j j (q (ae j j)<|nl)<|us<|Go.ret (Unw.ret ?_)
      cases h
      exact ⟨j,(fo aaS j)⟩
     ·refine Go.skip<|us<|gs<|g0 j j (q (ae j j)<|nl)<|us<|Go.block<|?_
      obtain ⟨o,hl,h⟩:=bs h
      refine gl c67 j _ (fun (ED:Int)=>mk [(0,D 2 (.cp (ak d_0) 0)),(3,iv dI),(4,iv ED)] []) (fun (o:(Unit ⊕ Bool)) (p:Ex×St)=>match o with | (.inl _)=>p.1= .exit 2∧p.2.norm ([0,3],[])=mk [(0,D 2 (.cp (ak d_0) 0)),(3,iv dI)] [] | (.inr r2)=>p.1= .ret∧fin Tryz.prog cfg 67 Tryz.f67 [.im 2 false [.cp (ak d_0) 0]] p.2=some (B0 [(false,[.im 0 (V r2)])])) hl (by kernel_rfl) ?_ ?_ ?_
      ·intro o p hp e
       rcases o with u | r2<;>exact nomatch (hp.1.symm.trans e)
      ·rintro ED o h
       unfold kE at h
       refine gs<|gs<|g0 j j (q (oMv j j)<|q (oMv j j)<|q (oBi j j j j)<|nl)<|us<|gc h j ah (fun hc25 h=>?_) fun hc25 h=>?_
       ·refine Go.skip<|us<|gs<|Go.block<|gs<|?_
        obtain ⟨x60,agW,h⟩:=bs h
        obtain ⟨x67,qf,h⟩:=bs h
        refine gd c67 j j j j (mk [(0,D 2 (.cp (ak d_0) 0)),(3,iv dI),(4,iv ED),(69,bv ((x60.X==x67.X)&&(x60.Y==x67.Y)))] []) (t j j (oMv j j)<|t j j (oNl j j j)<|t j j (oFA (r':=.im 2 _) j rE j j)<|t j j (oLd (cs:=[.im 2 _]) j DU j j)<|t j j (oMv j j)<|t j j (fU j agW pF j j)<|t j j (oLd (cs:=[.im 2 _,.im 2 _]) j aJ j j)<|t j j (oMv j j)<|t j j (oNl j j j)<|t j j (oFA (r':=.im 2 _) j rE j j)<|t j j (oLd (cs:=[.im 2 _]) j DU j j)<|t j j (oMv j j)<|t j j (fU j qf pF j j)<|t j j (oLd (cs:=[.im 2 _,.im 2 _]) j aJ j j)<|t j j (oBa j (Uj x60.X x60.Y x67.X x67.Y) j j j j)<|sD (by kernel_rfl))<|us<|gc h j (xE iEq iEq) (fun XC h=>?_) fun XC h=>?_
        ·refine gs<|g0 j j (q (ae j j)<|nl)<|us<|Go.ret (Unw.ret ?_)
         cases h
         exact ⟨j,(fo aaS j)⟩
        ·refine Go.skip<|Unw.blk<|us<|g0 j j (q (oMv j j)<|q (oBi j j j j)<|q (ae j j)<|nl)<|Unw.nil<|?_
         cases h
         exact ⟨j,(by kernel_rfl)⟩
       ·refine Go.exit<|ux<|Unw.nil<|?_
        cases h
        exact ⟨j,(by kernel_rfl)⟩
      ·rintro ⟨e,st⟩ hp
       rcases o with u | r2
       ·dsimp only at h
        obtain ⟨he,hst⟩:=hp
        obtain rfl:e= .exit 2:=he
        refine Unw.iP<|Unw.blk<|us<|g2 c67 j j hst (q (oMv j j)<|q (oBi j j j j)<|q (ae j j)<|nl)<|Unw.nil<|?_
        cases h
        exact ⟨j,(by kernel_rfl)⟩
       ·dsimp only at h
        obtain ⟨he,hfin⟩:=hp
        obtain rfl:e= .ret:=he
        cases h
        exact Unw.ret ⟨j,hfin⟩
   ·refine Go.exit<|ux<|Unw.nil<|?_
    cases h
    exact ⟨j,(by kernel_rfl)⟩
  ·rintro ⟨e,st⟩ hp
   rcases o with u | r2
   ·dsimp only at h
    obtain ⟨he,hst⟩:=hp
    obtain rfl:e= .exit 0:=he
    refine Unw.iP<|us<|gs<|g2 c67 j j hst (q (ae j j)<|nl)<|us<|Go.ret (Unw.ret ?_)
    cases h
    exact fr aaS j
   ·dsimp only at h
    obtain ⟨he,hfin⟩:=hp
    obtain rfl:e= .ret:=he
    cases h
    exact Unw.ret (gm hfin)
theorem BD {c_0:Int} {r:Bool} (h:ni c_0=some r):FX 89 [.im 2 false [.sc (.int .u8 c_0)]] (B0 [(false,[.im 0 (V r)])]):=by
 unfold ni at h
 refine gn 9 Tryz.func89 rfl ?_
 refine gs<|g0 j j (q (ae j j)<|nl)<|us<|gs<|gX c89 j j j (mk [(2,bv ((decide (c_0≥97))&&(decide (c_0≤122))))] []) ?_ ?_
 ·refine xq (oMv j j)<|xq (oBi j j j j)<|xq (oMv j j)<|?_
  by_cases hc1:c_0≥97
  ·exact xqT rfl rfl (ah.2 hc1) (oMv rfl rfl)<|xqT rfl rfl (ah.2 hc1) (oBi rfl rfl rfl rfl)<|xq (bU rfl rfl (ah.2 hc1) rfl)<|xq (ae rfl rfl)<|xn (Eq.trans (b:=(fun lG:Bool=>mk [(2,bv lG)] []) (decide (c_0≤122))) (by kernel_rfl) (congrArg (fun lG:Bool=>mk [(2,bv lG)] []) (by first | rfl | (simp [(ah.2 hc1)];done) | (simp [(ah.2 hc1)];omega))))
  ·exact aj rfl rfl (byF ah hc1) rfl<|aj rfl rfl (byF ah hc1) rfl<|xq (dV rfl rfl (byF ah hc1) rfl)<|xq (ae rfl rfl)<|xn (Eq.trans (b:=(fun lG:Bool=>mk [(2,bv lG)] []) false) (by kernel_rfl) (congrArg (fun lG:Bool=>mk [(2,bv lG)] []) (by first | rfl | (simp [(byF ah hc1)];done) | (simp [(byF ah hc1)];omega))))
 ·refine us<|Go.ret (Unw.ret ?_)
  cases h
  exact fr agL j
theorem IG {c_0:Int} {r:Bool} (h:rZ c_0=some r):FX 90 [.im 2 false [.sc (.int .u8 c_0)]] (B0 [(false,[.im 0 (V r)])]):=by
 unfold rZ at h
 refine gn 9 Tryz.func90 rfl ?_
 refine gs<|g0 j j (q (ae j j)<|nl)<|us<|gs<|gX c90 j j j (mk [(2,bv ((decide (c_0≥48))&&(decide (c_0≤57))))] []) ?_ ?_
 ·refine xq (oMv j j)<|xq (oBi j j j j)<|xq (oMv j j)<|?_
  by_cases hc1:c_0≥48
  ·exact xqT rfl rfl (ah.2 hc1) (oMv rfl rfl)<|xqT rfl rfl (ah.2 hc1) (oBi rfl rfl rfl rfl)<|xq (bU rfl rfl (ah.2 hc1) rfl)<|xq (ae rfl rfl)<|xn (Eq.trans (b:=(fun lG:Bool=>mk [(2,bv lG)] []) (decide (c_0≤57))) (by kernel_rfl) (congrArg (fun lG:Bool=>mk [(2,bv lG)] []) (by first | rfl | (simp [(ah.2 hc1)];done) | (simp [(ah.2 hc1)];omega))))
  ·exact aj rfl rfl (byF ah hc1) rfl<|aj rfl rfl (byF ah hc1) rfl<|xq (dV rfl rfl (byF ah hc1) rfl)<|xq (ae rfl rfl)<|xn (Eq.trans (b:=(fun lG:Bool=>mk [(2,bv lG)] []) false) (by kernel_rfl) (congrArg (fun lG:Bool=>mk [(2,bv lG)] []) (by first | rfl | (simp [(byF ah hc1)];done) | (simp [(byF ah hc1)];omega))))
 ·refine us<|Go.ret (Unw.ret ?_)
  cases h
  exact fr agM j
theorem yQ {s_0:ByteArray} {r:Bool} (h:uM s_0=some r):FX 68 [.im 2 false [Y s_0]] (B0 [(false,[.im 0 (V r)])]):=by
 unfold uM at h
 refine gn 35 Tryz.func68 rfl ?_
 refine gs<|g0 j j (q (ae j j)<|nl)<|us<|gs<|gs<|?_
 obtain ⟨A8,xM,h⟩:=bs h
 refine gX c68 j j j (mk [(0,sv s_0),(16,bv A8)] []) ?_ ?_
 ·refine xq (oMv j j)<|xq (oBi j j j j)<|xq (oMv j j)<|?_
  refine ic xM (fun hc1 xM=>?_) fun hc1 xM=>?_
  ·cases xM
   exact aj j j (zu.2 hc1) j<|aj j j (zu.2 hc1) j<|aj j j (zu.2 hc1) j<|xq (bU j j (zu.2 hc1) j)<|xq (oMv j j)<|aj j j j j<|aj j j j j<|aj j j j j<|aj j j j j<|xq (bU j j j j)<|xn
  ·refine xqT j j (byF zu hc1) (oMv j j)<|xqT j j (byF zu hc1) (Ru j j uF9 j)<|xqT j j (byF zu hc1) (oBi j j j j)<|xq (dV j j (byF zu hc1) j)<|xq (oMv j j)<|?_
   refine ic xM (fun hc2 xM=>?_) fun hc2 xM=>?_
   ·cases xM
    exact aj j j (ah.2 hc2) j<|aj j j (ah.2 hc2) j<|aj j j (ah.2 hc2) j<|aj j j (ah.2 hc2) j<|xq (bU j j (ah.2 hc2) j)<|xn
   ·obtain ⟨x13,OE,xM⟩:=bs xM
    obtain ⟨x14,ve,xM⟩:=bs xM
    cases xM
    exact xqT j j (byF ah hc2) (oMv j j)<|xqT j j (byF ah hc2) (oIx j OE uF9 j j)<|xqT j j (byF ah hc2) (oCa (xs:=[.v false [.im 0 _]]) (vs:=[(false,[.im 0 _])]) (v:=.v false [.im 0 _]) (BD ve) (.inl j) j Xu j (ppC j pp0) j j pb0 j j j)<|xqT j j (byF ah hc2) (oUn j j j)<|xq (dV j j (byF ah hc2) j)<|xn
 ·refine us<|gc h j iR (fun hc3 h=>?_) fun hc3 h=>?_
  ·refine gs<|g0 j j (q (ae j j)<|nl)<|us<|Go.ret (Unw.ret ?_)
   cases h
   exact fr acV j
  ·refine Go.skip<|us<|gs<|gs<|g0 j j (q (ae j j)<|nl)<|us<|Go.block<|?_
   obtain ⟨o,hl,h⟩:=bs h
   refine gl c68 j _ (fun (dI:Int)=>mk [(0,sv s_0),(3,iv dI)] []) (fun (o:(Unit ⊕ Bool)) (p:Ex×St)=>match o with | (.inl _)=>p.1= .exit 0∧p.2.norm ([],[])=mk [] [] | (.inr r2)=>p.1= .ret∧fin Tryz.prog cfg 68 Tryz.f68 [.im 2 false [Y s_0]] p.2=some (B0 [(false,[.im 0 (V r2)])])) hl (by kernel_rfl) ?_ ?_ ?_
   ·intro o p hp e
    rcases o with u | r2<;>exact nomatch (hp.1.symm.trans e)
   ·rintro dI o h
    unfold kJ at h
    refine gs<|gs<|g0 j j (q (oMv j j)<|q (oMv j j)<|q (Ru j j uF9 j)<|q (oBi j j j j)<|nl)<|us<|gc h j ah (fun hc12 h=>?_) fun hc12 h=>?_
    ·refine Go.skip<|us<|gs<|Go.block<|gs<|?_
     obtain ⟨x25,hx25,h⟩:=bs h
     obtain ⟨x26,SE,h⟩:=bs h
     obtain ⟨N7,OG,h⟩:=bs h
     refine gX c68 j j j (mk [(0,sv s_0),(3,iv dI),(34,bv N7)] []) ?_ ?_
     ·refine xq (oMv j j)<|xq (oMv j j)<|xq (oIx j hx25 uF9 j j)<|xq (oCa (xs:=[.v false [.im 0 _]]) (vs:=[(false,[.im 0 _])]) (v:=.v false [.im 0 _]) (BD SE) (.inl j) j Xu j (ppC j pp0) j j pb0 j j j)<|xq (oUn j j j)<|xq (oMv j j)<|?_
      refine ic OG (fun hc13 OG=>?_) fun hc13 OG=>?_
      ·cases OG
       exact aj j j (nF (iR.2 hc13)) j<|aj j j (nF (iR.2 hc13)) j<|aj j j (nF (iR.2 hc13)) j<|aj j j (nF (iR.2 hc13)) j<|aj j j (nF (iR.2 hc13)) j<|xq (dV j j (nF (iR.2 hc13)) j)<|xn
      ·obtain ⟨x31,hx31,OG⟩:=bs OG
       obtain ⟨x32,hx32,OG⟩:=bs OG
       cases OG
       exact xqT j j (nT (byF iR hc13)) (oMv j j)<|xqT j j (nT (byF iR hc13)) (oMv j j)<|xqT j j (nT (byF iR hc13)) (oIx j hx31 uF9 j j)<|xqT j j (nT (byF iR hc13)) (oCa (xs:=[.v false [.im 0 _]]) (vs:=[(false,[.im 0 _])]) (v:=.v false [.im 0 _]) (IG hx32) (.inl j) j acH j (ppC j pp0) j j pb0 j j j)<|xqT j j (nT (byF iR hc13)) (oUn j j j)<|xq (bU j j (nT (byF iR hc13)) j)<|xn
     ·refine us<|gc h j iR (fun XD h=>?_) fun XD h=>?_
      ·refine gs<|g0 j j (q (ae j j)<|nl)<|us<|Go.ret (Unw.ret ?_)
       cases h
       exact ⟨j,(fo acV j)⟩
      ·refine Go.skip<|Unw.blk<|us<|g0 j j (q (oMv j j)<|q (oBi j j j j)<|q (ae j j)<|nl)<|Unw.nil<|?_
       cases h
       exact ⟨j,(by kernel_rfl)⟩
    ·refine Go.exit<|ux<|Unw.nil<|?_
     cases h
     exact ⟨j,(by kernel_rfl)⟩
   ·rintro ⟨e,st⟩ hp
    rcases o with u | r2
    ·dsimp only at h
     obtain ⟨he,hst⟩:=hp
     obtain rfl:e= .exit 0:=he
     refine Unw.iP<|us<|gs<|g2 c68 j j hst (q (ae j j)<|nl)<|us<|Go.ret (Unw.ret ?_)
     cases h
     exact fr acV j
    ·dsimp only at h
     obtain ⟨he,hfin⟩:=hp
     obtain rfl:e= .ret:=he
     cases h
     exact Unw.ret (gm hfin)
theorem KE {d_0:aA} {lF:(List Int)} {r:((List af)×Bool)} (h:uN d_0 lF=some r):FX 69 [.im 2 false [.cp (ak d_0) 0],.im 2 false [W 1 eI lF]] (B0 [(false,[.ow 0 2 (List.map az r.1)]),(false,[.im 0 (V r.2)])]):=by
 unfold uN at h
 refine gn 41 Tryz.func69 rfl ?_
 refine gs<|g0 j j (q (vH j j Xe)<|q (ae j j)<|nl)<|us<|gs<|g0 j j (q (oBS (es:=List.map az ([]:List af)) j pF j pt0 (dX j fun _=>j))<|q (kC j j j j j)<|nl)<|us<|gs<|gs<|g0 j j (q (ae j j)<|nl)<|us<|Go.block<|?_
 obtain ⟨o,hl,h⟩:=bs h
 refine gl c69 j _ (fun (s:(Int×(List af)))=>match s with | (Ba,l9)=>mk [(0,D 2 (.cp (ak d_0) 0)),(1,D 2 (W 1 eI lF)),(6,H 6 0),(7,iv Ba)] [(6,Oc [Z (W 2 az l9)])]) (fun (o:((List af) ⊕ ((List af)×Bool))) (p:Ex×St)=>match o with | (.inl jZ)=>p.1= .exit 0∧p.2.norm ([6],[6])=mk [(6,H 6 0)] [(6,Oc [Z (W 2 az jZ)])] | (.inr r2)=>p.1= .ret∧fin Tryz.prog cfg 69 Tryz.f69 [.im 2 false [.cp (ak d_0) 0],.im 2 false [W 1 eI lF]] p.2=some (B0 [(false,[.ow 0 2 (List.map az r2.1)]),(false,[.im 0 (V r2.2)])])) hl (by kernel_rfl) ?_ ?_ ?_
 ·intro o p hp e
  rcases o with jZ | r2<;>exact nomatch (hp.1.symm.trans e)
 ·rintro ⟨Ba,l9⟩ o h
  unfold xH at h
  dsimp only at h
  refine gs<|gs<|g0 j j (q (oMv j j)<|q (oMv j j)<|q (gB j j lX j)<|q (oBi j j j j)<|nl)<|us<|gc h j ah (fun hc5 h=>?_) fun hc5 h=>?_
  ·refine Go.skip<|us<|gs<|Go.block<|gs<|gs<|?_
   obtain ⟨x17,OH,h⟩:=bs h
   obtain ⟨x25,hx25,h⟩:=bs h
   refine gd c69 j j j j (mk [(0,D 2 (.cp (ak d_0) 0)),(1,D 2 (W 1 eI lF)),(6,H 6 0),(7,iv Ba),(26,bv (!x25))] [(6,Oc [Z (W 2 az l9)])]) (t j j (oMv j j)<|t j j (oMv j j)<|t j j (fU j OH fH j j)<|t j j (oLd (cs:=[.im 2 _]) j tF2 j j)<|t j j (oMv j j)<|t j j (oNl j j j)<|t j j (oFA (r':=.im 2 _) j rE j j)<|t j j (oLd (cs:=[.im 2 _]) j DU j j)<|t j j (gB j j zD j)<|t j j (oBi j j j j)<|sS (dN z69 j (oCa (xs:=[.v false [.im 2 _],.v false [.im 0 _],.v false [.im 0 _]]) (vs:=[(false,[.im 0 _])]) (v:=.v false [.im 0 _]) (fJ hx25) (.inl j) j iJ j (ppC j (ppC j (ppC j pp0))) j j pb0 j j j)) trivial (t j j (oUn j j j)<|sD (by kernel_rfl)))<|us<|?_
   by_cases hc6:x25=true
   ·rw [if_pos hc6] at h
    refine gF j (nF (iR.2 hc6))<|Go.skip<|us<|?_
    obtain ⟨x34,hx34,h⟩:=bs h
    obtain ⟨x36,FZ,h⟩:=bs h
    obtain ⟨x39,hx39,h⟩:=bs h
    refine gd c69 j j j j (mk [(0,D 2 (.cp (ak d_0) 0)),(1,D 2 (W 1 eI lF)),(6,H 6 0),(7,iv Ba)] [(6,Oc [Z (W 2 az x39)])]) (t j j (oMv j j)<|t j j (oMv j j)<|t j j (oNl j j j)<|t j j (oFA (r':=.im 2 _) j rE j j)<|t j j (oLd (cs:=[.im 2 _]) j DU j j)<|t j j (oMv j j)<|t j j (oMv j j)<|t j j (fU j hx34 fH j j)<|t j j (oLd (cs:=[.im 2 _]) j tF2 j j)<|t j j (fU j FZ pF j j)<|t j j (oLd (cs:=[.im 2 _,.im 2 _]) j aJ j j)<|sS (dN z69 j (oBS (es:=List.map az ([x36]:List af)) j pF j (ptC j (fxI (fxI fx0)) j pt0) (dX j fun _=>j))) trivial (sS (dN z69 j (Ey (en:=az) (M:=([x36]:List af)) j hx39 j pF j j zD (.inl ⟨_,j⟩) j j j j (kH j j) (dX j fun _=>j))) trivial (sS (dN z69 j (kC j j j j j)) trivial (sD (by kernel_rfl)))))<|Unw.blk<|us<|g0 j j (q (oMv j j)<|q (oBi j j j j)<|q (ae j j)<|nl)<|Unw.nil<|?_
    cases h
    exact ⟨j,(by kernel_rfl)⟩
   ·rw [if_neg hc6] at h
    refine gT j (nT (byF iR hc6))<|gs<|g0 j j (q (vH j j Xe)<|q (ae j j)<|nl)<|us<|Go.ret (Unw.ret ?_)
    cases h
    exact ⟨j,(fo aeB j)⟩
  ·refine Go.exit<|ux<|Unw.nil<|?_
   cases h
   exact ⟨j,(by kernel_rfl)⟩
 ·rintro ⟨e,st⟩ hp
  rcases o with jZ | r2
  ·dsimp only at h
   obtain ⟨he,hst⟩:=hp
   obtain rfl:e= .exit 0:=he
   refine Unw.iP<|us<|gs<|g2 c69 j j hst (q (oMv j j)<|q (kC j j j j j)<|q (ae j j)<|nl)<|us<|Go.ret (Unw.ret ?_)
   cases h
   exact fr aeB j
  ·dsimp only at h
   obtain ⟨he,hfin⟩:=hp
   obtain rfl:e= .ret:=he
   cases h
   exact Unw.ret (gm hfin)
theorem OI {p_0:af} {r:Bool} (h:EE p_0=some r):FX 91 [.im 2 true (aF p_0)] (B0 [(false,[.im 0 (V r)])]):=by
 unfold EE at h
 refine gn 11 Tryz.func91 rfl ?_
 refine gs<|g0 j j (q (oBx j aJ j (tkI (tkI tk0)))<|q (ae j j)<|nl)<|us<|gs<|?_
 obtain ⟨x5,hx5,h⟩:=bs h
 obtain ⟨lG,hm2,h⟩:=bs h
 refine gX c91 j j j (mk [(2,bv lG)] []) ?_ ?_
 ·refine xq (oFA (r':=.mp 1 0 0) j iF j j)<|xq (oLd (cs:=[.im 0 _]) j tF2 j j)<|xq (oCa (xs:=[.v false [.im 0 _],.v false [.im 0 _],.v false [.im 0 _]]) (vs:=[(false,[.im 0 _])]) (v:=.v false [.im 0 _]) (fJ hx5) (.inl j) j iJ j (ppC j (ppC j (ppC j pp0))) j j pb0 j j j)<|xq (oMv j j)<|?_
  refine ic hm2 (fun hc1 hm2=>?_) fun hc1 hm2=>?_
  ·obtain ⟨x9,hx9,hm2⟩:=bs hm2
   cases hm2
   exact xqT j j (iR.2 hc1) (oFA (r':=.mp 1 0 1) j iW j j)<|xqT j j (iR.2 hc1) (oLd (cs:=[.im 0 _]) j tF2 j j)<|xqT j j (iR.2 hc1) (oCa (xs:=[.v false [.im 0 _],.v false [.im 0 _],.v false [.im 0 _]]) (vs:=[(false,[.im 0 _])]) (v:=.v false [.im 0 _]) (fJ hx9) (.inl j) j iJ j (ppC j (ppC j (ppC j pp0))) j j pb0 j j j)<|xq (bU j j (iR.2 hc1) j)<|xq (ae j j)<|xn
  ·cases hm2
   exact aj j j (byF iR hc1) j<|aj j j (byF iR hc1) j<|aj j j (byF iR hc1) j<|xq (dV j j (byF iR hc1) j)<|xq (ae j j)<|xn
 ·refine us<|Go.ret (Unw.ret ?_)
  cases h
  exact fr agN j
theorem II {a_0:af} {b_1:af} {c_2:af} {r:Int} (h:vY a_0 b_1 c_2=some r):FX 131 [.im 2 true (aF a_0),.im 2 true (aF b_1),.im 2 true (aF c_2)] (B0 [(false,[.im 0 (I r)])]):=by
 unfold vY at h
 refine gn 30 Tryz.func131 rfl ?_
 refine gs<|g0 j j (q (oBx j aJ j (tkI (tkI tk0)))<|q (oBx j aJ j (tkI (tkI tk0)))<|q (oBx j aJ j (tkI (tkI tk0)))<|q (ae j j)<|nl)<|us<|gs<|g0 j j (q (oFA (r':=.mp 4 0 0) j iF j j)<|q (oLd (cs:=[.im 0 _]) j tF2 j j)<|q (oFA (r':=.mp 3 0 0) j iF j j)<|q (oLd (cs:=[.im 0 _]) j tF2 j j)<|q (oBi j j j j)<|q (oFA (r':=.mp 5 0 1) j iW j j)<|q (oLd (cs:=[.im 0 _]) j tF2 j j)<|q (oFA (r':=.mp 3 0 1) j iW j j)<|q (oLd (cs:=[.im 0 _]) j tF2 j j)<|q (oBi j j j j)<|q (oBi j j j j)<|q (oFA (r':=.mp 4 0 1) j iW j j)<|q (oLd (cs:=[.im 0 _]) j tF2 j j)<|q (oFA (r':=.mp 3 0 1) j iW j j)<|q (oLd (cs:=[.im 0 _]) j tF2 j j)<|q (oBi j j j j)<|q (oFA (r':=.mp 5 0 0) j iF j j)<|q (oLd (cs:=[.im 0 _]) j tF2 j j)<|q (oFA (r':=.mp 3 0 0) j iF j j)<|q (oLd (cs:=[.im 0 _]) j tF2 j j)<|q (oBi j j j j)<|q (oBi j j j j)<|q (oBi j j j j)<|q (ae j j)<|nl)<|us<|Go.ret (Unw.ret ?_)
 cases h
 exact fr aes j
theorem jm {a_0:af} {b_1:af} {c_2:af} {r:Int} (h:kT a_0 b_1 c_2=some r):FX 118 [.im 2 true (aF a_0),.im 2 true (aF b_1),.im 2 true (aF c_2)] (B0 [(false,[.im 0 (I r)])]):=by
 unfold kT at h
 refine gn 16 Tryz.func118 rfl ?_
 refine gs<|g0 j j (q (oBx j aJ j (tkI (tkI tk0)))<|q (oBx j aJ j (tkI (tkI tk0)))<|q (oBx j aJ j (tkI (tkI tk0)))<|q (ae j j)<|nl)<|us<|gs<|?_
 obtain ⟨x11,XE,h⟩:=bs h
 refine g0 j j (q (oLd (cs:=[.im 0 _,.im 0 _]) j aJ j j)<|q (oLd (cs:=[.im 0 _,.im 0 _]) j aJ j j)<|q (oLd (cs:=[.im 0 _,.im 0 _]) j aJ j j)<|q (oCa (xs:=[.v true [.im 0 _,.im 0 _],.v true [.im 0 _,.im 0 _],.v true [.im 0 _,.im 0 _]]) (vs:=[(false,[.im 0 _])]) (v:=.v false [.im 0 _]) (II XE) (.inl j) j Kt j (ppC j (ppC j (ppC j pp0))) j j pb0 j j j)<|q (ae j j)<|nl)<|us<|gs<|gs<|g0 j j (q (oMv j j)<|q (oBi j j j j)<|nl)<|us<|gc h j ah (fun hc1 h=>?_) fun hc1 h=>?_
 ·refine gs<|g0 j j (q (ae j j)<|nl)<|us<|Go.ret (Unw.ret ?_)
  cases h
  exact fr Xv j
 ·refine Go.skip<|us<|gs<|gs<|g0 j j (q (oMv j j)<|q (oBi j j j j)<|nl)<|us<|gc h j ah (fun hc2 h=>?_) fun hc2 h=>?_
  ·refine gs<|g0 j j (q (ae j j)<|nl)<|us<|Go.ret (Unw.ret ?_)
   cases h
   exact fr Xv j
  ·refine Go.skip<|us<|gs<|g0 j j (q (ae j j)<|nl)<|us<|Go.ret (Unw.ret ?_)
   cases h
   exact fr Xv j
theorem wE {a_0:Int} {b_1:Int} {r:Int} (h:mM a_0 b_1=some r):FX 99 [.im 2 false [I a_0],.im 2 false [I b_1]] (B0 [(false,[.im 0 (I r)])]):=by
 unfold mM at h
 refine gn 10 Tryz.func99 rfl ?_
 refine gs<|g0 j j (q (ae j j)<|nl)<|us<|gs<|gs<|g0 j j (q (oMv j j)<|q (oMv j j)<|q (oBi j j j j)<|nl)<|us<|gc h j ah (fun hc1 h=>?_) fun hc1 h=>?_
 ·refine gs<|g0 j j (q (oMv j j)<|q (ae j j)<|nl)<|us<|Go.ret (Unw.ret ?_)
  cases h
  exact fr aeL j
 ·refine Go.skip<|us<|gs<|g0 j j (q (oMv j j)<|q (ae j j)<|nl)<|us<|Go.ret (Unw.ret ?_)
  cases h
  exact fr aeL j
theorem sO {a_0:Int} {b_1:Int} {r:Int} (h:kV a_0 b_1=some r):FX 73 [.im 2 false [I a_0],.im 2 false [I b_1]] (B0 [(false,[.im 0 (I r)])]):=by
 unfold kV at h
 refine gn 10 Tryz.func73 rfl ?_
 refine gs<|g0 j j (q (ae j j)<|nl)<|us<|gs<|gs<|g0 j j (q (oMv j j)<|q (oMv j j)<|q (oBi j j j j)<|nl)<|us<|gc h j ah (fun hc1 h=>?_) fun hc1 h=>?_
 ·refine gs<|g0 j j (q (oMv j j)<|q (ae j j)<|nl)<|us<|Go.ret (Unw.ret ?_)
  cases h
  exact fr aeD j
 ·refine Go.skip<|us<|gs<|g0 j j (q (oMv j j)<|q (ae j j)<|nl)<|us<|Go.ret (Unw.ret ?_)
  cases h
  exact fr aeD j
theorem qX {a_0:af} {b_1:af} {p_2:af} {r:Bool} (h:ny a_0 b_1 p_2=some r):FX 92 [.im 2 true (aF a_0),.im 2 true (aF b_1),.im 2 true (aF p_2)] (B0 [(false,[.im 0 (V r)])]):=by
 unfold ny at h
 refine gn 42 Tryz.func92 rfl ?_
 refine gs<|g0 j j (q (oBx j aJ j (tkI (tkI tk0)))<|q (oBx j aJ j (tkI (tkI tk0)))<|q (oBx j aJ j (tkI (tkI tk0)))<|q (ae j j)<|nl)<|us<|gs<|?_
 obtain ⟨x10,Hl,h⟩:=bs h
 obtain ⟨lH,hm3,h⟩:=bs h
 refine gd c92 j j j j (mk [(6,bv lH)] []) ?_ ?_
 ·refine t j j (oLd (cs:=[.im 0 _,.im 0 _]) j aJ j j)<|t j j (oLd (cs:=[.im 0 _,.im 0 _]) j aJ j j)<|?_
  refine ic hm3 (fun hc1 hm3=>?_) fun hc1 hm3=>?_
  ·obtain ⟨x19,y7,hm3⟩:=bs hm3
   obtain ⟨x24,hx24,hm3⟩:=bs hm3
   obtain ⟨x25,hx25,hm3⟩:=bs hm3
   refine ic hm3 (fun hc2 hm3=>?_) fun hc2 hm3=>?_
   ·obtain ⟨x34,hx34,hm3⟩:=bs hm3
    obtain ⟨x39,hx39,hm3⟩:=bs hm3
    obtain ⟨x40,KD,hm3⟩:=bs hm3
    cases hm3
    exact t j j (oLd (cs:=[.im 0 _,.im 0 _]) j aJ j j)<|sS (dN z92 j (oCa (xs:=[.v true [.im 0 _,.im 0 _],.v true [.im 0 _,.im 0 _],.v true [.im 0 _,.im 0 _]]) (vs:=[(false,[.im 0 _])]) (v:=.v false [.im 0 _]) (jm Hl) (.inl j) j jl j (ppC j (ppC j (ppC j pp0))) j j pb0 j j j)) trivial (t j j (oBi j j j j)<|t j j (oMv j j)<|tT j j j j (iEq.2 hc1) (oFA (r':=.mp 5 0 0) j iF j j)<|tT j j j j (iEq.2 hc1) (oLd (cs:=[.im 0 _]) j tF2 j j)<|tT j j j j (iEq.2 hc1) (oFA (r':=.mp 3 0 0) j iF j j)<|tT j j j j (iEq.2 hc1) (oLd (cs:=[.im 0 _]) j tF2 j j)<|tT j j j j (iEq.2 hc1) (oFA (r':=.mp 4 0 0) j iF j j)<|tT j j j j (iEq.2 hc1) (oLd (cs:=[.im 0 _]) j tF2 j j)<|tT j j j j (iEq.2 hc1) (oFA (r':=.mp 3 0 0) j iF j j)<|tT j j j j (iEq.2 hc1) (oLd (cs:=[.im 0 _]) j tF2 j j)<|tT j j j j (iEq.2 hc1) (oFA (r':=.mp 4 0 0) j iF j j)<|tT j j j j (iEq.2 hc1) (oLd (cs:=[.im 0 _]) j tF2 j j)<|sS (dT z92 j j j (iEq.2 hc1) (oCa (xs:=[.v false [.im 0 _],.v false [.im 0 _]]) (vs:=[(false,[.im 0 _])]) (v:=.v false [.im 0 _]) (wE y7) (.inl j) j FW j (ppC j (ppC j pp0)) j j pb0 j j j)) trivial (sS (dT z92 j j j (iEq.2 hc1) (oCa (xs:=[.v false [.im 0 _],.v false [.im 0 _]]) (vs:=[(false,[.im 0 _])]) (v:=.v false [.im 0 _]) (sO hx24) (.inl j) j CW j (ppC j (ppC j pp0)) j j pb0 j j j)) trivial (sS (dT z92 j j j (iEq.2 hc1) (oCa (xs:=[.v false [.im 0 _],.v false [.im 0 _],.v false [.im 0 _]]) (vs:=[(false,[.im 0 _])]) (v:=.v false [.im 0 _]) (fJ hx25) (.inl j) j iJ j (ppC j (ppC j (ppC j pp0))) j j pb0 j j j)) trivial (t j j (bU j j (iEq.2 hc1) j)<|t j j (oMv j j)<|tT j j j j (iR.2 hc2) (oFA (r':=.mp 5 0 1) j iW j j)<|tT j j j j (iR.2 hc2) (oLd (cs:=[.im 0 _]) j tF2 j j)<|tT j j j j (iR.2 hc2) (oFA (r':=.mp 3 0 1) j iW j j)<|tT j j j j (iR.2 hc2) (oLd (cs:=[.im 0 _]) j tF2 j j)<|tT j j j j (iR.2 hc2) (oFA (r':=.mp 4 0 1) j iW j j)<|tT j j j j (iR.2 hc2) (oLd (cs:=[.im 0 _]) j tF2 j j)<|tT j j j j (iR.2 hc2) (oFA (r':=.mp 3 0 1) j iW j j)<|tT j j j j (iR.2 hc2) (oLd (cs:=[.im 0 _]) j tF2 j j)<|tT j j j j (iR.2 hc2) (oFA (r':=.mp 4 0 1) j iW j j)<|tT j j j j (iR.2 hc2) (oLd (cs:=[.im 0 _]) j tF2 j j)<|sS (dT z92 j j j (iR.2 hc2) (oCa (xs:=[.v false [.im 0 _],.v false [.im 0 _]]) (vs:=[(false,[.im 0 _])]) (v:=.v false [.im 0 _]) (wE hx34) (.inl j) j FW j (ppC j (ppC j pp0)) j j pb0 j j j)) trivial (sS (dT z92 j j j (iR.2 hc2) (oCa (xs:=[.v false [.im 0 _],.v false [.im 0 _]]) (vs:=[(false,[.im 0 _])]) (v:=.v false [.im 0 _]) (sO hx39) (.inl j) j CW j (ppC j (ppC j pp0)) j j pb0 j j j)) trivial (sS (dT z92 j j j (iR.2 hc2) (oCa (xs:=[.v false [.im 0 _],.v false [.im 0 _],.v false [.im 0 _]]) (vs:=[(false,[.im 0 _])]) (v:=.v false [.im 0 _]) (fJ KD) (.inl j) j iJ j (ppC j (ppC j (ppC j pp0))) j j pb0 j j j)) trivial (t j j (bU j j (iR.2 hc2) j)<|sS (dN z92 j (ae j j)) trivial (sD (by kernel_rfl)))))))))
   ·cases hm3
    exact t j j (oLd (cs:=[.im 0 _,.im 0 _]) j aJ j j)<|sS (dN z92 j (oCa (xs:=[.v true [.im 0 _,.im 0 _],.v true [.im 0 _,.im 0 _],.v true [.im 0 _,.im 0 _]]) (vs:=[(false,[.im 0 _])]) (v:=.v false [.im 0 _]) (jm Hl) (.inl j) j jl j (ppC j (ppC j (ppC j pp0))) j j pb0 j j j)) trivial (t j j (oBi j j j j)<|t j j (oMv j j)<|tT j j j j (iEq.2 hc1) (oFA (r':=.mp 5 0 0) j iF j j)<|tT j j j j (iEq.2 hc1) (oLd (cs:=[.im 0 _]) j tF2 j j)<|tT j j j j (iEq.2 hc1) (oFA (r':=.mp 3 0 0) j iF j j)<|tT j j j j (iEq.2 hc1) (oLd (cs:=[.im 0 _]) j tF2 j j)<|tT j j j j (iEq.2 hc1) (oFA (r':=.mp 4 0 0) j iF j j)<|tT j j j j (iEq.2 hc1) (oLd (cs:=[.im 0 _]) j tF2 j j)<|tT j j j j (iEq.2 hc1) (oFA (r':=.mp 3 0 0) j iF j j)<|tT j j j j (iEq.2 hc1) (oLd (cs:=[.im 0 _]) j tF2 j j)<|tT j j j j (iEq.2 hc1) (oFA (r':=.mp 4 0 0) j iF j j)<|tT j j j j (iEq.2 hc1) (oLd (cs:=[.im 0 _]) j tF2 j j)<|sS (dT z92 j j j (iEq.2 hc1) (oCa (xs:=[.v false [.im 0 _],.v false [.im 0 _]]) (vs:=[(false,[.im 0 _])]) (v:=.v false [.im 0 _]) (wE y7) (.inl j) j FW j (ppC j (ppC j pp0)) j j pb0 j j j)) trivial (sS (dT z92 j j j (iEq.2 hc1) (oCa (xs:=[.v false [.im 0 _],.v false [.im 0 _]]) (vs:=[(false,[.im 0 _])]) (v:=.v false [.im 0 _]) (sO hx24) (.inl j) j CW j (ppC j (ppC j pp0)) j j pb0 j j j)) trivial (sS (dT z92 j j j (iEq.2 hc1) (oCa (xs:=[.v false [.im 0 _],.v false [.im 0 _],.v false [.im 0 _]]) (vs:=[(false,[.im 0 _])]) (v:=.v false [.im 0 _]) (fJ hx25) (.inl j) j iJ j (ppC j (ppC j (ppC j pp0))) j j pb0 j j j)) trivial (t j j (bU j j (iEq.2 hc1) j)<|t j j (oMv j j)<|tF j j j j (byF iR hc2) j<|tF j j j j (byF iR hc2) j<|tF j j j j (byF iR hc2) j<|tF j j j j (byF iR hc2) j<|tF j j j j (byF iR hc2) j<|tF j j j j (byF iR hc2) j<|tF j j j j (byF iR hc2) j<|tF j j j j (byF iR hc2) j<|tF j j j j (byF iR hc2) j<|tF j j j j (byF iR hc2) j<|sS (dF j j j (byF iR hc2) j) trivial (sS (dF j j j (byF iR hc2) j) trivial (sS (dF j j j (byF iR hc2) j) trivial (t j j (dV j j (byF iR hc2) j)<|sS (dN z92 j (ae j j)) trivial (sD (by kernel_rfl)))))))))
  ·cases hm3
   exact t j j (oLd (cs:=[.im 0 _,.im 0 _]) j aJ j j)<|sS (dN z92 j (oCa (xs:=[.v true [.im 0 _,.im 0 _],.v true [.im 0 _,.im 0 _],.v true [.im 0 _,.im 0 _]]) (vs:=[(false,[.im 0 _])]) (v:=.v false [.im 0 _]) (jm Hl) (.inl j) j jl j (ppC j (ppC j (ppC j pp0))) j j pb0 j j j)) trivial (t j j (oBi j j j j)<|t j j (oMv j j)<|tF j j j j (byF iEq hc1) j<|tF j j j j (byF iEq hc1) j<|tF j j j j (byF iEq hc1) j<|tF j j j j (byF iEq hc1) j<|tF j j j j (byF iEq hc1) j<|tF j j j j (byF iEq hc1) j<|tF j j j j (byF iEq hc1) j<|tF j j j j (byF iEq hc1) j<|tF j j j j (byF iEq hc1) j<|tF j j j j (byF iEq hc1) j<|sS (dF j j j (byF iEq hc1) j) trivial (sS (dF j j j (byF iEq hc1) j) trivial (sS (dF j j j (byF iEq hc1) j) trivial (t j j (dV j j (byF iEq hc1) j)<|t j j (oMv j j)<|tF j j j j j j<|tF j j j j j j<|tF j j j j j j<|tF j j j j j j<|tF j j j j j j<|tF j j j j j j<|tF j j j j j j<|tF j j j j j j<|tF j j j j j j<|tF j j j j j j<|sS (dF j j j j j) trivial (sS (dF j j j j j) trivial (sS (dF j j j j j) trivial (t j j (dV j j j j)<|sS (dN z92 j (ae j j)) trivial (sD (by kernel_rfl)))))))))
 ·refine us<|Go.ret (Unw.ret ?_)
  cases h
  exact fr agO j
theorem F5 {a_0:af} {b_1:af} {c_2:af} {d_3:af} {r:Bool} (h:oN a_0 b_1 c_2 d_3=some r):FX 119 [.im 2 true (aF a_0),.im 2 true (aF b_1),.im 2 true (aF c_2),.im 2 true (aF d_3)] (B0 [(false,[.im 0 (V r)])]):=by
 unfold oN at h
 refine gn 31 Tryz.func119 rfl ?_
 refine gs<|g0 j j (q (oBx j aJ j (tkI (tkI tk0)))<|q (oBx j aJ j (tkI (tkI tk0)))<|q (oBx j aJ j (tkI (tkI tk0)))<|q (oBx j aJ j (tkI (tkI tk0)))<|q (ae j j)<|nl)<|us<|gs<|?_
 obtain ⟨x12,zF,h⟩:=bs h
 obtain ⟨x16,hx16,h⟩:=bs h
 obtain ⟨tJ,hm2,h⟩:=bs h
 refine gd c119 j j j j (mk [(8,bv tJ)] []) ?_ ?_
 ·refine t j j (oLd (cs:=[.im 0 _,.im 0 _]) j aJ j j)<|t j j (oLd (cs:=[.im 0 _,.im 0 _]) j aJ j j)<|t j j (oLd (cs:=[.im 0 _,.im 0 _]) j aJ j j)<|t j j (oLd (cs:=[.im 0 _,.im 0 _]) j aJ j j)<|t j j (oLd (cs:=[.im 0 _,.im 0 _]) j aJ j j)<|?_
  refine ic hm2 (fun hc1 hm2=>?_) fun hc1 hm2=>?_
  ·obtain ⟨x23,yj,hm2⟩:=bs hm2
   obtain ⟨x27,hx27,hm2⟩:=bs hm2
   cases hm2
   exact t j j (oLd (cs:=[.im 0 _,.im 0 _]) j aJ j j)<|sS (dN z119 j (oCa (xs:=[.v true [.im 0 _,.im 0 _],.v true [.im 0 _,.im 0 _],.v true [.im 0 _,.im 0 _]]) (vs:=[(false,[.im 0 _])]) (v:=.v false [.im 0 _]) (jm zF) (.inl j) j jl j (ppC j (ppC j (ppC j pp0))) j j pb0 j j j)) trivial (sS (dN z119 j (oCa (xs:=[.v true [.im 0 _,.im 0 _],.v true [.im 0 _,.im 0 _],.v true [.im 0 _,.im 0 _]]) (vs:=[(false,[.im 0 _])]) (v:=.v false [.im 0 _]) (jm hx16) (.inl j) j jl j (ppC j (ppC j (ppC j pp0))) j j pb0 j j j)) trivial (t j j (oBi j j j j)<|t j j (oBi j j j j)<|t j j (oMv j j)<|tT j j j j (ah.2 hc1) (oLd (cs:=[.im 0 _,.im 0 _]) j aJ j j)<|tT j j j j (ah.2 hc1) (oLd (cs:=[.im 0 _,.im 0 _]) j aJ j j)<|tT j j j j (ah.2 hc1) (oLd (cs:=[.im 0 _,.im 0 _]) j aJ j j)<|tT j j j j (ah.2 hc1) (oLd (cs:=[.im 0 _,.im 0 _]) j aJ j j)<|tT j j j j (ah.2 hc1) (oLd (cs:=[.im 0 _,.im 0 _]) j aJ j j)<|tT j j j j (ah.2 hc1) (oLd (cs:=[.im 0 _,.im 0 _]) j aJ j j)<|sS (dT z119 j j j (ah.2 hc1) (oCa (xs:=[.v true [.im 0 _,.im 0 _],.v true [.im 0 _,.im 0 _],.v true [.im 0 _,.im 0 _]]) (vs:=[(false,[.im 0 _])]) (v:=.v false [.im 0 _]) (jm yj) (.inl j) j jl j (ppC j (ppC j (ppC j pp0))) j j pb0 j j j)) trivial (sS (dT z119 j j j (ah.2 hc1) (oCa (xs:=[.v true [.im 0 _,.im 0 _],.v true [.im 0 _,.im 0 _],.v true [.im 0 _,.im 0 _]]) (vs:=[(false,[.im 0 _])]) (v:=.v false [.im 0 _]) (jm hx27) (.inl j) j jl j (ppC j (ppC j (ppC j pp0))) j j pb0 j j j)) trivial (tT j j j j (ah.2 hc1) (oBi j j j j)<|tT j j j j (ah.2 hc1) (oBi j j j j)<|t j j (bU j j (ah.2 hc1) j)<|sS (dN z119 j (ae j j)) trivial (sD (by kernel_rfl))))))
  ·cases hm2
   exact t j j (oLd (cs:=[.im 0 _,.im 0 _]) j aJ j j)<|sS (dN z119 j (oCa (xs:=[.v true [.im 0 _,.im 0 _],.v true [.im 0 _,.im 0 _],.v true [.im 0 _,.im 0 _]]) (vs:=[(false,[.im 0 _])]) (v:=.v false [.im 0 _]) (jm zF) (.inl j) j jl j (ppC j (ppC j (ppC j pp0))) j j pb0 j j j)) trivial (sS (dN z119 j (oCa (xs:=[.v true [.im 0 _,.im 0 _],.v true [.im 0 _,.im 0 _],.v true [.im 0 _,.im 0 _]]) (vs:=[(false,[.im 0 _])]) (v:=.v false [.im 0 _]) (jm hx16) (.inl j) j jl j (ppC j (ppC j (ppC j pp0))) j j pb0 j j j)) trivial (t j j (oBi j j j j)<|t j j (oBi j j j j)<|t j j (oMv j j)<|tF j j j j (byF ah hc1) j<|tF j j j j (byF ah hc1) j<|tF j j j j (byF ah hc1) j<|tF j j j j (byF ah hc1) j<|tF j j j j (byF ah hc1) j<|tF j j j j (byF ah hc1) j<|sS (dF j j j (byF ah hc1) j) trivial (sS (dF j j j (byF ah hc1) j) trivial (tF j j j j (byF ah hc1) j<|tF j j j j (byF ah hc1) j<|t j j (dV j j (byF ah hc1) j)<|sS (dN z119 j (ae j j)) trivial (sD (by kernel_rfl))))))
 ·refine us<|Go.ret (Unw.ret ?_)
  cases h
  exact fr aeo j
theorem KF {a_0:af} {b_1:af} {c_2:af} {d_3:af} {r:Bool} (h:uO a_0 b_1 c_2 d_3=some r):FX 93 [.im 2 true (aF a_0),.im 2 true (aF b_1),.im 2 true (aF c_2),.im 2 true (aF d_3)] (B0 [(false,[.im 0 (V r)])]):=by
 unfold uO at h
 refine gn 38 Tryz.func93 rfl ?_
 refine gs<|g0 j j (q (oBx j aJ j (tkI (tkI tk0)))<|q (oBx j aJ j (tkI (tkI tk0)))<|q (oBx j aJ j (tkI (tkI tk0)))<|q (oBx j aJ j (tkI (tkI tk0)))<|q (ae j j)<|nl)<|us<|gs<|?_
 obtain ⟨x13,OE,h⟩:=bs h
 obtain ⟨tJ,hm5,h⟩:=bs h
 refine gX c93 j j j (mk [(8,bv tJ)] []) ?_ ?_
 ·refine xq (oLd (cs:=[.im 0 _,.im 0 _]) j aJ j j)<|xq (oLd (cs:=[.im 0 _,.im 0 _]) j aJ j j)<|xq (oLd (cs:=[.im 0 _,.im 0 _]) j aJ j j)<|xq (oLd (cs:=[.im 0 _,.im 0 _]) j aJ j j)<|xq (oCa (xs:=[.v true [.im 0 _,.im 0 _],.v true [.im 0 _,.im 0 _],.v true [.im 0 _,.im 0 _],.v true [.im 0 _,.im 0 _]]) (vs:=[(false,[.im 0 _])]) (v:=.v false [.im 0 _]) (F5 OE) (.inl j) j FU j (ppC j (ppC j (ppC j (ppC j pp0)))) j j pb0 j j j)<|xq (oMv j j)<|?_
  refine ic hm5 (fun hc1 hm5=>?_) fun hc1 hm5=>?_
  ·cases hm5
   exact aj j j (iR.2 hc1) j<|aj j j (iR.2 hc1) j<|aj j j (iR.2 hc1) j<|aj j j (iR.2 hc1) j<|xq (bU j j (iR.2 hc1) j)<|xq (oMv j j)<|aj j j j j<|aj j j j j<|aj j j j j<|aj j j j j<|xq (bU j j j j)<|xq (oMv j j)<|aj j j j j<|aj j j j j<|aj j j j j<|aj j j j j<|xq (bU j j j j)<|xq (oMv j j)<|aj j j j j<|aj j j j j<|aj j j j j<|aj j j j j<|xq (bU j j j j)<|xq (ae j j)<|xn
  ·obtain ⟨x18,EJ,hm5⟩:=bs hm5
   refine xqT j j (byF iR hc1) (oLd (cs:=[.im 0 _,.im 0 _]) j aJ j j)<|xqT j j (byF iR hc1) (oLd (cs:=[.im 0 _,.im 0 _]) j aJ j j)<|xqT j j (byF iR hc1) (oLd (cs:=[.im 0 _,.im 0 _]) j aJ j j)<|xqT j j (byF iR hc1) (oCa (xs:=[.v true [.im 0 _,.im 0 _],.v true [.im 0 _,.im 0 _],.v true [.im 0 _,.im 0 _]]) (vs:=[(false,[.im 0 _])]) (v:=.v false [.im 0 _]) (qX EJ) (.inl j) j pR j (ppC j (ppC j (ppC j pp0))) j j pb0 j j j)<|xq (dV j j (byF iR hc1) j)<|xq (oMv j j)<|?_
   refine ic hm5 (fun hc2 hm5=>?_) fun hc2 hm5=>?_
   ·cases hm5
    exact aj j j (iR.2 hc2) j<|aj j j (iR.2 hc2) j<|aj j j (iR.2 hc2) j<|aj j j (iR.2 hc2) j<|xq (bU j j (iR.2 hc2) j)<|xq (oMv j j)<|aj j j j j<|aj j j j j<|aj j j j j<|aj j j j j<|xq (bU j j j j)<|xq (oMv j j)<|aj j j j j<|aj j j j j<|aj j j j j<|aj j j j j<|xq (bU j j j j)<|xq (ae j j)<|xn
   ·obtain ⟨x24,hx24,hm5⟩:=bs hm5
    refine xqT j j (byF iR hc2) (oLd (cs:=[.im 0 _,.im 0 _]) j aJ j j)<|xqT j j (byF iR hc2) (oLd (cs:=[.im 0 _,.im 0 _]) j aJ j j)<|xqT j j (byF iR hc2) (oLd (cs:=[.im 0 _,.im 0 _]) j aJ j j)<|xqT j j (byF iR hc2) (oCa (xs:=[.v true [.im 0 _,.im 0 _],.v true [.im 0 _,.im 0 _],.v true [.im 0 _,.im 0 _]]) (vs:=[(false,[.im 0 _])]) (v:=.v false [.im 0 _]) (qX hx24) (.inl j) j pR j (ppC j (ppC j (ppC j pp0))) j j pb0 j j j)<|xq (dV j j (byF iR hc2) j)<|xq (oMv j j)<|?_
    refine ic hm5 (fun hc3 hm5=>?_) fun hc3 hm5=>?_
    ·cases hm5
     exact aj j j (iR.2 hc3) j<|aj j j (iR.2 hc3) j<|aj j j (iR.2 hc3) j<|aj j j (iR.2 hc3) j<|xq (bU j j (iR.2 hc3) j)<|xq (oMv j j)<|aj j j j j<|aj j j j j<|aj j j j j<|aj j j j j<|xq (bU j j j j)<|xq (ae j j)<|xn
    ·obtain ⟨x30,Lr,hm5⟩:=bs hm5
     refine xqT j j (byF iR hc3) (oLd (cs:=[.im 0 _,.im 0 _]) j aJ j j)<|xqT j j (byF iR hc3) (oLd (cs:=[.im 0 _,.im 0 _]) j aJ j j)<|xqT j j (byF iR hc3) (oLd (cs:=[.im 0 _,.im 0 _]) j aJ j j)<|xqT j j (byF iR hc3) (oCa (xs:=[.v true [.im 0 _,.im 0 _],.v true [.im 0 _,.im 0 _],.v true [.im 0 _,.im 0 _]]) (vs:=[(false,[.im 0 _])]) (v:=.v false [.im 0 _]) (qX Lr) (.inl j) j pR j (ppC j (ppC j (ppC j pp0))) j j pb0 j j j)<|xq (dV j j (byF iR hc3) j)<|xq (oMv j j)<|?_
     refine ic hm5 (fun hc4 hm5=>?_) fun hc4 hm5=>?_
     ·cases hm5
      exact aj j j (iR.2 hc4) j<|aj j j (iR.2 hc4) j<|aj j j (iR.2 hc4) j<|aj j j (iR.2 hc4) j<|xq (bU j j (iR.2 hc4) j)<|xq (ae j j)<|xn
     ·obtain ⟨x36,FZ,hm5⟩:=bs hm5
      cases hm5
      exact xqT j j (byF iR hc4) (oLd (cs:=[.im 0 _,.im 0 _]) j aJ j j)<|xqT j j (byF iR hc4) (oLd (cs:=[.im 0 _,.im 0 _]) j aJ j j)<|xqT j j (byF iR hc4) (oLd (cs:=[.im 0 _,.im 0 _]) j aJ j j)<|xqT j j (byF iR hc4) (oCa (xs:=[.v true [.im 0 _,.im 0 _],.v true [.im 0 _,.im 0 _],.v true [.im 0 _,.im 0 _]]) (vs:=[(false,[.im 0 _])]) (v:=.v false [.im 0 _]) (qX FZ) (.inl j) j pR j (ppC j (ppC j (ppC j pp0))) j j pb0 j j j)<|xq (dV j j (byF iR hc4) j)<|xq (ae j j)<|xn
 ·refine us<|Go.ret (Unw.ret ?_)
  cases h
  exact fr agP j
theorem KG {p_0:(List af)} {r:Int} (h:uP p_0=some r):FX 94 [.im 2 false [W 2 az p_0]] (B0 [(false,[.im 0 (I r)])]):=by
 unfold uP at h
 refine gn 40 Tryz.func94 rfl ?_
 refine gs<|g0 j j (q (ae j j)<|nl)<|us<|gs<|g0 j j (q (ae j j)<|nl)<|us<|gs<|gs<|g0 j j (q (ae j j)<|nl)<|us<|Go.block<|?_
 obtain ⟨o,hl,h⟩:=bs h
 refine gl c94 j _ (fun (s:(Int×Int))=>match s with | (lI,bP)=>mk [(0,D 2 (W 2 az p_0)),(3,iv lI),(4,iv bP)] []) (fun (oH:Int) (p:Ex×St)=>p.1= .exit 0∧p.2.norm ([3],[])=mk [(3,iv oH)] []) hl (by kernel_rfl) ?_ ?_ ?_
 ·intro o p hp e
  exact nomatch (hp.1.symm.trans e)
 ·rintro ⟨lI,bP⟩ o h
  unfold xI at h
  dsimp only at h
  refine gs<|gs<|g0 j j (q (oMv j j)<|q (oMv j j)<|q (gB j j zD j)<|q (oBi j j j j)<|nl)<|us<|gc h j ah (fun hc3 h=>?_) fun hc3 h=>?_
  ·refine Go.skip<|us<|gs<|Go.block<|gs<|?_
   obtain ⟨x17,OH,h⟩:=bs h
   obtain ⟨x18,EJ,h⟩:=bs h
   refine g0 j j (q (oMv j j)<|q (oMv j j)<|q (oBi j j j j)<|q (oMv j j)<|q (gB j j zD j)<|q (FK j OH j j)<|q (fU j EJ pF j j)<|q (oLd (cs:=[.im 2 _,.im 2 _]) j aJ j j)<|q (oAl j aJ (tkI (tkI tk0)))<|q (oSt aJ j j j (tkI (tkI tk0)) j j j)<|nl)<|us<|?_
   obtain ⟨x23,yj,h⟩:=bs h
   obtain ⟨x31,hx31,h⟩:=bs h
   refine gd c94 j j j (st1:=mk [(0,D 2 (W 2 az p_0)),(3,iv lI),(4,iv bP),(5,M 5)] [(5,Oa (G 0 (aF x18)))]) (by kernel_rfl) (mk [(0,D 2 (W 2 az p_0)),(3,iv (w64 (lI+(w64 ((w64 (x23.X*x18.Y)) - (w64 (x31.Y*x18.X))))))),(4,iv bP)] []) (t j j (oMv j j)<|t j j (oMv j j)<|t j j (oMv j j)<|t j j (fU j yj pF j j)<|t j j (oFA (r':=.im 2 _) j iF j j)<|t j j (oLd (cs:=[.im 2 _]) j tF2 j j)<|t j j (oFA (r':=.mp 5 0 1) j iW j j)<|t j j (oLd (cs:=[.im 0 _]) j tF2 j j)<|t j j (oBi j j j j)<|t j j (oMv j j)<|t j j (oMv j j)<|t j j (fU j hx31 pF j j)<|t j j (oFA (r':=.im 2 _) j iW j j)<|t j j (oLd (cs:=[.im 2 _]) j tF2 j j)<|t j j (oFA (r':=.mp 5 0 0) j iF j j)<|t j j (oLd (cs:=[.im 0 _]) j tF2 j j)<|t j j (oBi j j j j)<|t j j (oBi j j j j)<|t j j (oBi j j j j)<|sS (dN z94 j (ae j j)) trivial (sD (by kernel_rfl)))<|Unw.blk<|us<|g0 j j (q (oMv j j)<|q (oBi j j j j)<|q (ae j j)<|nl)<|Unw.nil<|?_
   cases h
   exact ⟨j,(by kernel_rfl)⟩
  ·refine Go.exit<|ux<|Unw.nil<|?_
   cases h
   exact ⟨j,(by kernel_rfl)⟩
 ·rintro ⟨e,st⟩ hp
  obtain ⟨oH,rfl⟩:∃y,y=o:=⟨o,rfl⟩
  obtain ⟨he,hst⟩:=hp
  obtain rfl:e= .exit 0:=he
  refine Unw.iP<|us<|gs<|g2 c94 j j hst (q (oMv j j)<|q (ae j j)<|nl)<|us<|Go.ret (Unw.ret ?_)
  cases h
  exact fr agQ j
theorem OJ {p_0:(List af)} {r:Bool} (h:yC p_0=some r):FX 70 [.im 2 false [W 2 az p_0]] (B0 [(false,[.im 0 (V r)])]):=by
 unfold yC at h
 refine gn 99 Tryz.func70 rfl ?_
 refine gs<|g0 j j (q (ae j j)<|nl)<|us<|gs<|g0 j j (q (oMv j j)<|q (gB j j zD j)<|q (ae j j)<|nl)<|us<|gs<|gs<|gX c70 j j j (mk [(0,D 2 (W 2 az p_0)),(3,iv (p_0.length:Int)),(17,bv ((decide ((p_0.length:Int) <3))||(decide ((p_0.length:Int) >24))))] []) ?_ ?_
 ·refine xq (oMv j j)<|xq (oBi j j j j)<|xq (oMv j j)<|?_
  by_cases hc1:(p_0.length:Int) <3
  ·exact aj rfl rfl (ah.2 hc1) rfl<|aj rfl rfl (ah.2 hc1) rfl<|xq (bU rfl rfl (ah.2 hc1) rfl)<|xn (Eq.trans (b:=(fun Bj:Bool=>mk [(0,D 2 (W 2 az p_0)),(3,iv (p_0.length:Int)),(17,bv Bj)] []) true) (by kernel_rfl) (congrArg (fun Bj:Bool=>mk [(0,D 2 (W 2 az p_0)),(3,iv (p_0.length:Int)),(17,bv Bj)] []) (by first | rfl | (simp [(ah.2 hc1)];done) | (simp [(ah.2 hc1)];omega))))
  ·exact xqT rfl rfl (byF ah hc1) (oMv rfl rfl)<|xqT rfl rfl (byF ah hc1) (oBi rfl rfl rfl rfl)<|xq (dV rfl rfl (byF ah hc1) rfl)<|xn (Eq.trans (b:=(fun Bj:Bool=>mk [(0,D 2 (W 2 az p_0)),(3,iv (p_0.length:Int)),(17,bv Bj)] []) (decide ((p_0.length:Int) >24))) (by kernel_rfl) (congrArg (fun Bj:Bool=>mk [(0,D 2 (W 2 az p_0)),(3,iv (p_0.length:Int)),(17,bv Bj)] []) (by first | rfl | (simp [(byF ah hc1)];done) | (simp [(byF ah hc1)];omega))))
 ·refine us<|gc h j (iOr ah ah) (fun hc2 h=>?_) fun hc2 h=>?_
  ·refine gs<|g0 j j (q (ae j j)<|nl)<|us<|Go.ret (Unw.ret ?_)
   cases h
   exact fr Xz j
  ·refine Go.skip<|us<|gs<|gs<|g0 j j (q (ae j j)<|nl)<|us<|Go.block<|?_
   obtain ⟨o,hl,h⟩:=bs h
   refine gl c70 j _ (fun (GX:Int)=>mk [(0,D 2 (W 2 az p_0)),(3,iv (p_0.length:Int)),(4,iv GX)] []) (fun (o:(Unit ⊕ Bool)) (p:Ex×St)=>match o with | (.inl _)=>p.1= .exit 0∧p.2.norm ([0,3],[])=mk [(0,D 2 (W 2 az p_0)),(3,iv (p_0.length:Int))] [] | (.inr r2)=>p.1= .ret∧fin Tryz.prog cfg 70 Tryz.f70 [.im 2 false [W 2 az p_0]] p.2=some (B0 [(false,[.im 0 (V r2)])])) hl (by kernel_rfl) ?_ ?_ ?_
   ·intro o p hp e
    rcases o with u | r2<;>exact nomatch (hp.1.symm.trans e)
   ·rintro GX o h
    unfold zy at h
    refine gs<|gs<|g0 j j (q (oMv j j)<|q (oMv j j)<|q (oBi j j j j)<|nl)<|us<|gc h j ah (fun agX h=>?_) fun agX h=>?_
    ·refine Go.skip<|us<|gs<|Go.block<|gs<|?_
     obtain ⟨x25,hx25,h⟩:=bs h
     obtain ⟨x27,hx27,h⟩:=bs h
     refine g0 j j (q (oMv j j)<|q (oMv j j)<|q (fU j hx25 pF j j)<|q (oLd (cs:=[.im 2 _,.im 2 _]) j aJ j j)<|q (oCa (xs:=[.v true [.im 2 _,.im 2 _]]) (vs:=[(false,[.im 0 _])]) (v:=.v false [.im 0 _]) (OI hx27) (.inl j) j aaM j (ppC j pp0) j j pb0 j j j)<|q (oUn j j j)<|nl)<|us<|?_
     by_cases Vg:x27=true
     ·rw [if_pos Vg] at h
      refine gF j (nF (iR.2 Vg))<|Go.skip<|Unw.blk<|us<|g0 j j (q (oMv j j)<|q (oBi j j j j)<|q (ae j j)<|nl)<|Unw.nil<|?_
      cases h
      exact ⟨j,(by kernel_rfl)⟩
     ·rw [if_neg Vg] at h
      refine gT j (nT (byF iR Vg))<|gs<|g0 j j (q (ae j j)<|nl)<|us<|Go.ret (Unw.ret ?_)
      cases h
      exact ⟨j,(fo Xz j)⟩
    ·refine Go.exit<|ux<|Unw.nil<|?_
     cases h
     exact ⟨j,(by kernel_rfl)⟩
   ·rintro ⟨e,st⟩ hp
    rcases o with u | r2
    ·dsimp only at h
     obtain ⟨he,hst⟩:=hp
     obtain rfl:e= .exit 0:=he
     refine Unw.iP<|us<|gs<|gs<|g2 c70 j j hst (q (ae j j)<|nl)<|us<|Go.block<|?_
     obtain ⟨o,hl,h⟩:=bs h
     refine gl c70 j _ (fun (kU:Int)=>mk [(0,D 2 (W 2 az p_0)),(3,iv (p_0.length:Int)),(5,iv kU)] []) (fun (o:(Unit ⊕ Bool)) (p:Ex×St)=>match o with | (.inl _)=>p.1= .exit 2∧p.2.norm ([0],[])=mk [(0,D 2 (W 2 az p_0))] [] | (.inr r2)=>p.1= .ret∧fin Tryz.prog cfg 70 Tryz.f70 [.im 2 false [W 2 az p_0]] p.2=some (B0 [(false,[.im 0 (V r2)])])) hl (by kernel_rfl) ?_ ?_ ?_
     ·intro o p hp e
      rcases o with u | r2<;>exact nomatch (hp.1.symm.trans e)
     ·rintro kU o h
      unfold uS at h
      refine gs<|gs<|g0 j j (q (oMv j j)<|q (oMv j j)<|q (oBi j j j j)<|nl)<|us<|gc h j ah (fun vO h=>?_) fun vO h=>?_
      ·refine Go.skip<|us<|gs<|Go.block<|gs<|?_
       obtain ⟨x36,FZ,h⟩:=bs h
       refine g0 j j (q (oMv j j)<|q (oMv j j)<|q (fU j FZ pF j j)<|q (oLd (cs:=[.im 2 _,.im 2 _]) j aJ j j)<|q (oAl j aJ (tkI (tkI tk0)))<|q (oSt aJ j j j (tkI (tkI tk0)) j j j)<|nl)<|us<|gs<|?_
       obtain ⟨x42,Qx,h⟩:=bs h
       obtain ⟨x43,Ls,h⟩:=bs h
       refine g1 j j (mk [(0,D 2 (W 2 az p_0)),(3,iv (p_0.length:Int)),(5,iv kU),(6,M 6)] [(6,Oa (G 0 (aF x36)))]) (q (oMv j j)<|q (oMv j j)<|q (oBi j j j j)<|q (oMv j j)<|q (FK j Qx j j)<|q (fU j Ls pF j j)<|q (oLd (cs:=[.im 2 _,.im 2 _]) j aJ j j)<|q (oAl j aJ (tkI (tkI tk0)))<|q (oSt aJ j j j (tkI (tkI tk0)) j j j)<|nl)<|us<|gs<|?_
       obtain ⟨x49,ac0,h⟩:=bs h
       obtain ⟨x50,Lt,h⟩:=bs h
       refine g1 j j (mk [(0,D 2 (W 2 az p_0)),(3,iv (p_0.length:Int)),(5,iv kU),(6,M 6),(7,M 7)] [(6,Oa (G 0 (aF x36))),(7,Oa (G 0 (aF x43)))]) (q (oMv j j)<|q (oMv j j)<|q (oBi j j j j)<|q (oMv j j)<|q (FK j ac0 j j)<|q (fU j Lt pF j j)<|q (oLd (cs:=[.im 2 _,.im 2 _]) j aJ j j)<|q (oAl j aJ (tkI (tkI tk0)))<|q (oSt aJ j j j (tkI (tkI tk0)) j j j)<|nl)<|us<|gs<|gs<|?_
       obtain ⟨J7,Ho,h⟩:=bs h
       refine gX c70 j j (st1:=mk [(0,D 2 (W 2 az p_0)),(3,iv (p_0.length:Int)),(5,iv kU),(6,M 6),(7,M 7),(8,M 8)] [(6,Oa (G 0 (aF x36))),(7,Oa (G 0 (aF x43))),(8,Oa (G 0 (aF x50)))]) (by kernel_rfl) (mk [(0,D 2 (W 2 az p_0)),(3,iv (p_0.length:Int)),(5,iv kU),(6,M 6),(7,M 7),(66,bv J7)] [(6,Oa (G 0 (aF x36))),(7,Oa (G 0 (aF x43)))]) ?_ ?_
       ·refine xq (oLd (cs:=[.im 0 _,.im 0 _]) j aJ j j)<|xq (oLd (cs:=[.im 0 _,.im 0 _]) j aJ j j)<|xq (oBa j (Uj x36.X x36.Y x43.X x43.Y) j j j j)<|xq (oMv j j)<|?_
        refine ic Ho (fun hc34 Ho=>?_) fun hc34 Ho=>?_
        ·cases Ho
         exact aj j j ((xE iEq iEq).2 hc34) j<|aj j j ((xE iEq iEq).2 hc34) j<|aj j j ((xE iEq iEq).2 hc34) j<|aj j j ((xE iEq iEq).2 hc34) j<|xq (bU j j ((xE iEq iEq).2 hc34) j)<|xq (oMv j j)<|aj j j j j<|aj j j j j<|aj j j j j<|aj j j j j<|xq (bU j j j j)<|xn
        ·obtain ⟨x59,ac1,Ho⟩:=bs Ho
         refine xqT j j (byF (xE iEq iEq) hc34) (oLd (cs:=[.im 0 _,.im 0 _]) j aJ j j)<|xqT j j (byF (xE iEq iEq) hc34) (oLd (cs:=[.im 0 _,.im 0 _]) j aJ j j)<|xqT j j (byF (xE iEq iEq) hc34) (oLd (cs:=[.im 0 _,.im 0 _]) j aJ j j)<|xqT j j (byF (xE iEq iEq) hc34) (oCa (xs:=[.v true [.im 0 _,.im 0 _],.v true [.im 0 _,.im 0 _],.v true [.im 0 _,.im 0 _]]) (vs:=[(false,[.im 0 _])]) (v:=.v false [.im 0 _]) (qX ac1) (.inl j) j pR j (ppC j (ppC j (ppC j pp0))) j j pb0 j j j)<|xq (dV j j (byF (xE iEq iEq) hc34) j)<|xq (oMv j j)<|?_
         refine ic Ho (fun pW Ho=>?_) fun pW Ho=>?_
         ·cases Ho
          exact aj j j (iR.2 pW) j<|aj j j (iR.2 pW) j<|aj j j (iR.2 pW) j<|aj j j (iR.2 pW) j<|xq (bU j j (iR.2 pW) j)<|xn
         ·obtain ⟨x65,ac2,Ho⟩:=bs Ho
          cases Ho
          exact xqT j j (byF iR pW) (oLd (cs:=[.im 0 _,.im 0 _]) j aJ j j)<|xqT j j (byF iR pW) (oLd (cs:=[.im 0 _,.im 0 _]) j aJ j j)<|xqT j j (byF iR pW) (oLd (cs:=[.im 0 _,.im 0 _]) j aJ j j)<|xqT j j (byF iR pW) (oCa (xs:=[.v true [.im 0 _,.im 0 _],.v true [.im 0 _,.im 0 _],.v true [.im 0 _,.im 0 _]]) (vs:=[(false,[.im 0 _])]) (v:=.v false [.im 0 _]) (qX ac2) (.inl j) j pR j (ppC j (ppC j (ppC j pp0))) j j pb0 j j j)<|xq (dV j j (byF iR pW) j)<|xn
       ·refine us<|gc h j iR (fun XF h=>?_) fun XF h=>?_
        ·refine gs<|g0 j j (q (ae j j)<|nl)<|us<|Go.ret (Unw.ret ?_)
         cases h
         exact ⟨j,(fo Xz j)⟩
        ·refine Go.skip<|us<|gs<|g0 j j (q (oMv j j)<|q (oBi j j j j)<|q (ae j j)<|nl)<|us<|Go.block<|?_
         obtain ⟨o,hl,h⟩:=bs h
         refine gl c70 j _ (fun (xY:Int)=>mk [(0,D 2 (W 2 az p_0)),(3,iv (p_0.length:Int)),(5,iv kU),(6,M 6),(7,M 7),(9,iv xY)] [(6,Oa (G 0 (aF x36))),(7,Oa (G 0 (aF x43)))]) (fun (o:(Unit ⊕ Bool)) (p:Ex×St)=>match o with | (.inl _)=>p.1= .exit 4∧p.2.norm ([0,3,5],[])=mk [(0,D 2 (W 2 az p_0)),(3,iv (p_0.length:Int)),(5,iv kU)] [] | (.inr r2)=>p.1= .ret∧fin Tryz.prog cfg 70 Tryz.f70 [.im 2 false [W 2 az p_0]] p.2=some (B0 [(false,[.im 0 (V r2)])])) hl (by kernel_rfl) ?_ ?_ ?_
         ·intro o p hp e
          rcases o with u | r2<;>exact nomatch (hp.1.symm.trans e)
         ·rintro xY o h
          unfold uQ at h
          refine gs<|gs<|g0 j j (q (oMv j j)<|q (oMv j j)<|q (oBi j j j j)<|nl)<|us<|gc h j ah (fun Hq h=>?_) fun Hq h=>?_
          ·refine Go.skip<|us<|gs<|Go.block<|gs<|?_
           obtain ⟨x77,Vh,h⟩:=bs h
           obtain ⟨J6,Hr,h⟩:=bs h
           refine gd c70 j j j j (mk [(0,D 2 (W 2 az p_0)),(3,iv (p_0.length:Int)),(5,iv kU),(6,M 6),(7,M 7),(9,iv xY),(95,bv J6)] [(6,Oa (G 0 (aF x36))),(7,Oa (G 0 (aF x43)))]) ?_ ?_
           ·refine t j j (oMv j j)<|t j j (oBi j j j j)<|t j j (oMv j j)<|t j j (FK j Vh j j)<|t j j (oMv j j)<|t j j (oBi j j j j)<|t j j (oMv j j)<|?_
            refine ic Hr (fun pG Hr=>?_) fun pG Hr=>?_
            ·obtain ⟨x85,XG,Hr⟩:=bs Hr
             obtain ⟨x91,hx91,Hr⟩:=bs Hr
             obtain ⟨x92,agY,Hr⟩:=bs Hr
             obtain ⟨x94,ac3,Hr⟩:=bs Hr
             cases Hr
             exact tT j j j j (iNe.2 pG) (oLd (cs:=[.im 0 _,.im 0 _]) j aJ j j)<|tT j j j j (iNe.2 pG) (oLd (cs:=[.im 0 _,.im 0 _]) j aJ j j)<|tT j j j j (iNe.2 pG) (oMv j j)<|tT j j j j (iNe.2 pG) (oMv j j)<|tT j j j j (iNe.2 pG) (fU j XG pF j j)<|tT j j j j (iNe.2 pG) (oLd (cs:=[.im 2 _,.im 2 _]) j aJ j j)<|tT j j j j (iNe.2 pG) (oMv j j)<|tT j j j j (iNe.2 pG) (oMv j j)<|tT j j j j (iNe.2 pG) (oBi j j j j)<|tT j j j j (iNe.2 pG) (oMv j j)<|tT j j j j (iNe.2 pG) (FK j hx91 j j)<|tT j j j j (iNe.2 pG) (fU j agY pF j j)<|tT j j j j (iNe.2 pG) (oLd (cs:=[.im 2 _,.im 2 _]) j aJ j j)<|sS (dT z70 j j j (iNe.2 pG) (oCa (xs:=[.v true [.im 0 _,.im 0 _],.v true [.im 0 _,.im 0 _],.v true [.im 2 _,.im 2 _],.v true [.im 2 _,.im 2 _]]) (vs:=[(false,[.im 0 _])]) (v:=.v false [.im 0 _]) (KF ac3) (.inl j) j G8 j (ppC j (ppC j (ppC j (ppC j pp0)))) j j pb0 j j j)) trivial (t j j (bU j j (iNe.2 pG) j)<|sD (by kernel_rfl))
            ·cases Hr
             exact tF j j j j (byF iNe pG) j<|tF j j j j (byF iNe pG) j<|tF j j j j (byF iNe pG) j<|tF j j j j (byF iNe pG) j<|tF j j j j (byF iNe pG) j<|tF j j j j (byF iNe pG) j<|tF j j j j (byF iNe pG) j<|tF j j j j (byF iNe pG) j<|tF j j j j (byF iNe pG) j<|tF j j j j (byF iNe pG) j<|tF j j j j (byF iNe pG) j<|tF j j j j (byF iNe pG) j<|tF j j j j (byF iNe pG) j<|sS (dF j j j (byF iNe pG) j) trivial (t j j (dV j j (byF iNe pG) j)<|sD (by kernel_rfl))
           ·refine us<|gc h j iR (fun hc47 h=>?_) fun hc47 h=>?_
            ·refine gs<|g0 j j (q (ae j j)<|nl)<|us<|Go.ret (Unw.ret ?_)
             cases h
             exact ⟨j,(fo Xz j)⟩
            ·refine Go.skip<|Unw.blk<|us<|g0 j j (q (oMv j j)<|q (oBi j j j j)<|q (ae j j)<|nl)<|Unw.nil<|?_
             cases h
             exact ⟨j,(by kernel_rfl)⟩
          ·refine Go.exit<|ux<|Unw.nil<|?_
           cases h
           exact ⟨j,(by kernel_rfl)⟩
         ·rintro ⟨e,st⟩ hp
          rcases o with u | r2
          ·dsimp only at h
           obtain ⟨he,hst⟩:=hp
           obtain rfl:e= .exit 4:=he
           refine Unw.iP<|Unw.blk<|us<|g2 c70 j j hst (q (oMv j j)<|q (oBi j j j j)<|q (ae j j)<|nl)<|Unw.nil<|?_
           cases h
           exact ⟨j,(by kernel_rfl)⟩
          ·dsimp only at h
           obtain ⟨he,hfin⟩:=hp
           obtain rfl:e= .ret:=he
           cases h
           exact Unw.ret ⟨j,hfin⟩
      ·refine Go.exit<|ux<|Unw.nil<|?_
       cases h
       exact ⟨j,(by kernel_rfl)⟩
     ·rintro ⟨e,st⟩ hp
      rcases o with u | r2
      ·dsimp only at h
       obtain ⟨he,hst⟩:=hp
       obtain rfl:e= .exit 2:=he
       refine Unw.iP<|us<|gs<|?_
       obtain ⟨x97,ac4,h⟩:=bs h
       refine g2 c70 j j hst (q (oMv j j)<|q (oCa (xs:=[.v false [.im 2 _]]) (vs:=[(false,[.im 0 _])]) (v:=.v false [.im 0 _]) (KG ac4) (.inl j) j aaN j (ppC j pp0) j j pb0 j j j)<|q (oBi j j j j)<|q (ae j j)<|nl)<|us<|Go.ret (Unw.ret ?_)
       cases h
       exact fr Xz j
      ·dsimp only at h
       obtain ⟨he,hfin⟩:=hp
       obtain rfl:e= .ret:=he
       cases h
       exact Unw.ret (gm hfin)
    ·dsimp only at h
     obtain ⟨he,hfin⟩:=hp
     obtain rfl:e= .ret:=he
     cases h
     exact Unw.ret (gm hfin)
theorem OL {d_0:aA} {r:Bool} (h:yD d_0=some r):FX 43 [.im 2 false [.cp (ak d_0) 0]] (B0 [(false,[.im 0 (V r)])]):=by
 unfold yD at h
 refine gn 96 Tryz.func43 rfl ?_
 refine gs<|g0 j j (q (ae j j)<|nl)<|us<|gs<|gs<|?_
 obtain ⟨x10,Hl,h⟩:=bs h
 obtain ⟨N9,Dc,h⟩:=bs h
 refine gX c43 j j j (mk [(0,D 2 (.cp (ak d_0) 0)),(32,bv N9)] []) ?_ ?_
 ·refine xq (oMv j j)<|xq (oNl j j j)<|xq (oFA (r':=.im 2 _) j EG j j)<|xq (oLd (cs:=[.im 2 _]) j tF2 j j)<|xq (oCa (xs:=[.v false [.im 2 _],.v false [.im 0 _],.v false [.im 0 _]]) (vs:=[(false,[.im 0 _])]) (v:=.v false [.im 0 _]) (fJ Hl) (.inl j) j iJ j (ppC j (ppC j (ppC j pp0))) j j pb0 j j j)<|xq (oUn j j j)<|xq (oMv j j)<|?_
  refine ic Dc (fun hc1 Dc=>?_) fun hc1 Dc=>?_
  ·obtain ⟨x17,OH,Dc⟩:=bs Dc
   refine xqT j j (nF (iR.2 hc1)) (oMv j j)<|xqT j j (nF (iR.2 hc1)) (oNl j j j)<|xqT j j (nF (iR.2 hc1)) (oFA (r':=.im 2 _) j CP j j)<|xqT j j (nF (iR.2 hc1)) (oLd (cs:=[.im 2 _]) j tF2 j j)<|xqT j j (nF (iR.2 hc1)) (oCa (xs:=[.v false [.im 2 _],.v false [.im 0 _],.v false [.im 0 _]]) (vs:=[(false,[.im 0 _])]) (v:=.v false [.im 0 _]) (fJ OH) (.inl j) j iJ j (ppC j (ppC j (ppC j pp0))) j j pb0 j j j)<|xqT j j (nF (iR.2 hc1)) (oUn j j j)<|xq (dV j j (nF (iR.2 hc1)) j)<|xq (oMv j j)<|?_
   refine ic Dc (fun hc2 Dc=>?_) fun hc2 Dc=>?_
   ·obtain ⟨x22,F6,Dc⟩:=bs Dc
    refine xqT j j (nF (iR.2 hc2)) (oMv j j)<|xqT j j (nF (iR.2 hc2)) (oCa (xs:=[.v false [.im 2 _]]) (vs:=[(false,[.im 0 _])]) (v:=.v false [.im 0 _]) (Hg F6) (.inl j) j aaF j (ppC j pp0) j j pb0 j j j)<|xqT j j (nF (iR.2 hc2)) (oUn j j j)<|xq (dV j j (nF (iR.2 hc2)) j)<|xq (oMv j j)<|?_
    refine ic Dc (fun hc3 Dc=>?_) fun hc3 Dc=>?_
    ·cases Dc
     exact xqT j j (nF (iR.2 hc3)) (oMv j j)<|xqT j j (nF (iR.2 hc3)) (oNl j j j)<|xqT j j (nF (iR.2 hc3)) (oFA (r':=.im 2 _) j oK j j)<|xqT j j (nF (iR.2 hc3)) (oLd (cs:=[.im 2 _]) j Bi j j)<|xqT j j (nF (iR.2 hc3)) (gB j j Iu j)<|xqT j j (nF (iR.2 hc3)) (oBi j j j j)<|xq (dV j j (nF (iR.2 hc3)) j)<|xn
    ·cases Dc
     exact aj j j (nT (byF iR hc3)) j<|aj j j (nT (byF iR hc3)) j<|aj j j (nT (byF iR hc3)) j<|aj j j (nT (byF iR hc3)) j<|aj j j (nT (byF iR hc3)) j<|aj j j (nT (byF iR hc3)) j<|xq (bU j j (nT (byF iR hc3)) j)<|xn
   ·cases Dc
    exact aj j j (nT (byF iR hc2)) j<|aj j j (nT (byF iR hc2)) j<|aj j j (nT (byF iR hc2)) j<|xq (bU j j (nT (byF iR hc2)) j)<|xq (oMv j j)<|aj j j j j<|aj j j j j<|aj j j j j<|aj j j j j<|aj j j j j<|aj j j j j<|xq (bU j j j j)<|xn
  ·cases Dc
   exact aj j j (nT (byF iR hc1)) j<|aj j j (nT (byF iR hc1)) j<|aj j j (nT (byF iR hc1)) j<|aj j j (nT (byF iR hc1)) j<|aj j j (nT (byF iR hc1)) j<|aj j j (nT (byF iR hc1)) j<|xq (bU j j (nT (byF iR hc1)) j)<|xq (oMv j j)<|aj j j j j<|aj j j j j<|aj j j j j<|xq (bU j j j j)<|xq (oMv j j)<|aj j j j j<|aj j j j j<|aj j j j j<|aj j j j j<|aj j j j j<|aj j j j j<|xq (bU j j j j)<|xn
 ·refine us<|gc h j iR (fun hc4 h=>?_) fun hc4 h=>?_
  ·refine gs<|g0 j j (q (ae j j)<|nl)<|us<|Go.ret (Unw.ret ?_)
   cases h
   exact fr aaR j
  ·refine Go.skip<|us<|gs<|gs<|g0 j j (q (ae j j)<|nl)<|us<|Go.block<|?_
   obtain ⟨o,hl,h⟩:=bs h
   refine gl c43 j _ (fun (dI:Int)=>mk [(0,D 2 (.cp (ak d_0) 0)),(3,iv dI)] []) (fun (o:(Unit ⊕ Bool)) (p:Ex×St)=>match o with | (.inl _)=>p.1= .exit 0∧p.2.norm ([],[])=mk [] [] | (.inr r2)=>p.1= .ret∧fin Tryz.prog cfg 43 Tryz.f43 [.im 2 false [.cp (ak d_0) 0]] p.2=some (B0 [(false,[.im 0 (V r2)])])) hl (by kernel_rfl) ?_ ?_ ?_
   ·intro o p hp e
    rcases o with u | r2<;>exact nomatch (hp.1.symm.trans e)
   ·rintro dI o h
    unfold pK at h
    refine gs<|gs<|g0 j j (q (oMv j j)<|q (oMv j j)<|q (oNl j j j)<|q (oFA (r':=.im 2 _) j oK j j)<|q (oLd (cs:=[.im 2 _]) j Bi j j)<|q (gB j j Iu j)<|q (oBi j j j j)<|nl)<|us<|gc h j ah (fun hc21 h=>?_) fun hc21 h=>?_
    ·refine Go.skip<|us<|gs<|Go.block<|gs<|gs<|?_
     obtain ⟨x47,SC,h⟩:=bs h
     obtain ⟨x50,Lt,h⟩:=bs h
     obtain ⟨N8,Ht,h⟩:=bs h
     refine gd c43 j j j j (mk [(0,D 2 (.cp (ak d_0) 0)),(3,iv dI),(75,bv N8)] []) ?_ ?_
     ·refine t j j (oMv j j)<|t j j (oNl j j j)<|t j j (oFA (r':=.im 2 _) j oK j j)<|t j j (oLd (cs:=[.im 2 _]) j Bi j j)<|t j j (oMv j j)<|t j j (fU j SC EH j j)<|t j j (oFA (r':=.im 2 _) j zC j j)<|?_
      refine ic Ht (fun hc22 Ht=>?_) fun hc22 Ht=>?_
      ·refine ic Ht (fun kM Ht=>?_) fun kM Ht=>?_
       ·obtain ⟨x62,ac5,Ht⟩:=bs Ht
        obtain ⟨x70,XH,Ht⟩:=bs Ht
        cases Ht
        exact t j j (oLd (cs:=[.im 2 _]) j tF9 j j)<|sS (dN z43 j (oCa (xs:=[.v false [.im 2 _]]) (vs:=[(false,[.im 0 _])]) (v:=.v false [.im 0 _]) (yQ Lt) (.inl j) j Sr j (ppC j pp0) j j pb0 j j j)) trivial (t j j (oUn j j j)<|t j j (oMv j j)<|tT j j j j (nF (iR.2 hc22)) (oMv j j)<|tT j j j j (nF (iR.2 hc22)) (oBi j j j j)<|tT j j j j (nF (iR.2 hc22)) (oMv j j)<|tT j j j j (ah.2 kM) (oMv j j)<|tT j j j j (ah.2 kM) (oNl j j j)<|tT j j j j (ah.2 kM) (oFA (r':=.im 2 _) j oK j j)<|tT j j j j (ah.2 kM) (oLd (cs:=[.im 2 _]) j Bi j j)<|tT j j j j (ah.2 kM) (oMv j j)<|tT j j j j (ah.2 kM) (oBi j j j j)<|tT j j j j (ah.2 kM) (fU j ac5 EH j j)<|tT j j j j (ah.2 kM) (oFA (r':=.im 2 _) j zC j j)<|tT j j j j (ah.2 kM) (oLd (cs:=[.im 2 _]) j tF9 j j)<|tT j j j j (ah.2 kM) (oMv j j)<|tT j j j j (ah.2 kM) (oNl j j j)<|tT j j j j (ah.2 kM) (oFA (r':=.im 2 _) j oK j j)<|tT j j j j (ah.2 kM) (oLd (cs:=[.im 2 _]) j Bi j j)<|tT j j j j (ah.2 kM) (oMv j j)<|tT j j j j (ah.2 kM) (fU j XH EH j j)<|tT j j j j (ah.2 kM) (oFA (r':=.im 2 _) j zC j j)<|tT j j j j (ah.2 kM) (oLd (cs:=[.im 2 _]) j tF9 j j)<|tT j j j j (ah.2 kM) (oBi j j j j)<|tT j j j j (nF (iR.2 hc22)) (bU j j (ah.2 kM) j)<|t j j (dV j j (nF (iR.2 hc22)) j)<|sD (by kernel_rfl))
       ·cases Ht
        exact t j j (oLd (cs:=[.im 2 _]) j tF9 j j)<|sS (dN z43 j (oCa (xs:=[.v false [.im 2 _]]) (vs:=[(false,[.im 0 _])]) (v:=.v false [.im 0 _]) (yQ Lt) (.inl j) j Sr j (ppC j pp0) j j pb0 j j j)) trivial (t j j (oUn j j j)<|t j j (oMv j j)<|tT j j j j (nF (iR.2 hc22)) (oMv j j)<|tT j j j j (nF (iR.2 hc22)) (oBi j j j j)<|tT j j j j (nF (iR.2 hc22)) (oMv j j)<|tF j j j j (byF ah kM) j<|tF j j j j (byF ah kM) j<|tF j j j j (byF ah kM) j<|tF j j j j (byF ah kM) j<|tF j j j j (byF ah kM) j<|tF j j j j (byF ah kM) j<|tF j j j j (byF ah kM) j<|tF j j j j (byF ah kM) j<|tF j j j j (byF ah kM) j<|tF j j j j (byF ah kM) j<|tF j j j j (byF ah kM) j<|tF j j j j (byF ah kM) j<|tF j j j j (byF ah kM) j<|tF j j j j (byF ah kM) j<|tF j j j j (byF ah kM) j<|tF j j j j (byF ah kM) j<|tF j j j j (byF ah kM) j<|tF j j j j (byF ah kM) j<|tT j j j j (nF (iR.2 hc22)) (dV j j (byF ah kM) j)<|t j j (dV j j (nF (iR.2 hc22)) j)<|sD (by kernel_rfl))
      ·cases Ht
       exact t j j (oLd (cs:=[.im 2 _]) j tF9 j j)<|sS (dN z43 j (oCa (xs:=[.v false [.im 2 _]]) (vs:=[(false,[.im 0 _])]) (v:=.v false [.im 0 _]) (yQ Lt) (.inl j) j Sr j (ppC j pp0) j j pb0 j j j)) trivial (t j j (oUn j j j)<|t j j (oMv j j)<|tF j j j j (nT (byF iR hc22)) j<|tF j j j j (nT (byF iR hc22)) j<|tF j j j j (nT (byF iR hc22)) j<|sT j (dU j j j j)<|sT j (dU j j j j)<|sT j (dU j j j j)<|sT j (dU j j j j)<|sT j (dU j j j j)<|sT j (dU j j j j)<|sT j (dU j j j j)<|sT j (dU j j j j)<|sT j (dU j j j j)<|sT j (dU j j j j)<|sT j (dU j j j j)<|sT j (dU j j j j)<|sT j (dU j j j j)<|sT j (dU j j j j)<|sT j (dU j j j j)<|sT j (dU j j j j)<|sT j (dU j j j j)<|sT j (dU j j j j)<|tF j j j j (nT (byF iR hc22)) j<|t j j (bU j j (nT (byF iR hc22)) j)<|sD (by kernel_rfl))
     ·refine us<|gc h j iR (fun hc24 h=>?_) fun hc24 h=>?_
      ·refine gs<|g0 j j (q (ae j j)<|nl)<|us<|Go.ret (Unw.ret ?_)
       cases h
       exact ⟨j,(fo aaR j)⟩
      ·refine Go.skip<|us<|gs<|?_
       obtain ⟨x83,Vj,h⟩:=bs h
       obtain ⟨x86,agZ,h⟩:=bs h
       refine g0 j j (q (oMv j j)<|q (oMv j j)<|q (oNl j j j)<|q (oFA (r':=.im 2 _) j oK j j)<|q (oLd (cs:=[.im 2 _]) j Bi j j)<|q (oMv j j)<|q (fU j Vj EH j j)<|q (oFA (r':=.im 2 _) j Bg j j)<|q (oLd (cs:=[.im 2 _]) j oh j j)<|q (oCr (xs:=[.v false [.im 2 _],.v false [.im 2 _]]) (vs:=[(false,[.own 86 0 0]),(false,[.im 0 _])]) (v:=.tup [(false,[.own 86 0 0]),(false,[.im 0 _])]) (c:=⟨.sh,0,_⟩) (cs:=[]) (KE agZ) (.inl j) j Su j (ppC j (ppC j pp0)) j j pb0 j j j)<|q (NT j j)<|q (oEx j j j)<|q (oEx j j j)<|q (kC j j j j j)<|q (ae j j)<|nl)<|us<|gs<|?_
       obtain ⟨FP,CZ,h⟩:=bs h
       refine gX c43 j j j (mk [(0,D 2 (.cp (ak d_0) 0)),(3,iv dI),(95,bv FP)] []) ?_ ?_
       ·refine xq (oMv j j)<|xq (oUn j j j)<|xq (oMv j j)<|?_
        refine ic CZ (fun hc25 CZ=>?_) fun hc25 CZ=>?_
        ·obtain ⟨x93,hx93,CZ⟩:=bs CZ
         cases CZ
         exact xqT j j (nF (iR.2 hc25)) (oMv j j)<|xqT j j (nF (iR.2 hc25)) (oCa (xs:=[.v false [.own 4 0 0]]) (vs:=[(false,[.im 0 _])]) (v:=.v false [.im 0 _]) (OJ hx93) (.inl j) j aaG j (ppC j pp0) j j pb0 j j j)<|xqT j j (nF (iR.2 hc25)) (oUn j j j)<|xq (dV j j (nF (iR.2 hc25)) j)<|xn
        ·cases CZ
         exact aj j j (nT (byF iR hc25)) j<|aj j j (nT (byF iR hc25)) j<|aj j j (nT (byF iR hc25)) j<|xq (bU j j (nT (byF iR hc25)) j)<|xn
       ·refine us<|gc h j iR (fun XC h=>?_) fun XC h=>?_
        ·refine gs<|g0 j j (q (ae j j)<|nl)<|us<|Go.ret (Unw.ret ?_)
         cases h
         exact ⟨j,(fo aaR j)⟩
        ·refine Go.skip<|Unw.blk<|us<|g0 j j (q (oMv j j)<|q (oBi j j j j)<|q (ae j j)<|nl)<|Unw.nil<|?_
         cases h
         exact ⟨j,(by kernel_rfl)⟩
    ·refine Go.exit<|ux<|Unw.nil<|?_
     cases h
     exact ⟨j,(by kernel_rfl)⟩
   ·rintro ⟨e,st⟩ hp
    rcases o with u | r2
    ·dsimp only at h
     obtain ⟨he,hst⟩:=hp
     obtain rfl:e= .exit 0:=he
     refine Unw.iP<|us<|gs<|g2 c43 j j hst (q (ae j j)<|nl)<|us<|Go.ret (Unw.ret ?_)
     cases h
     exact fr aaR j
    ·dsimp only at h
     obtain ⟨he,hfin⟩:=hp
     obtain rfl:e= .ret:=he
     cases h
     exact Unw.ret (gm hfin)
theorem IJ {r:(List ByteArray)} (h:vZ=some r):FX 120 [] (B0 [(false,[.ow 0 1 (List.map eS r)])]):=by
 unfold vZ at h
 refine gn 2 Tryz.func120 rfl ?_
 refine gs<|g0 j j (q (vH j j aeh)<|nl)<|us<|gs<|g0 j j (q (oBS (es:=List.map eS ([(⟨#[97,115,104]⟩:ByteArray),(⟨#[98,101,101,99,104]⟩:ByteArray),(⟨#[98,105,114,99,104]⟩:ByteArray),(⟨#[99,104,101,114,114,121]⟩:ByteArray),(⟨#[101,98,111,110,121]⟩:ByteArray),(⟨#[104,111,108,108,121]⟩:ByteArray),(⟨#[109,97,112,108,101]⟩:ByteArray),(⟨#[111,97,107]⟩:ByteArray),(⟨#[114,111,115,101,119,111,111,100]⟩:ByteArray),(⟨#[119,97,108,110,117,116]⟩:ByteArray)]:List ByteArray)) j abB j (ptC j (fxI fx0) j (ptC j (fxI fx0) j (ptC j (fxI fx0) j (ptC j (fxI fx0) j (ptC j (fxI fx0) j (ptC j (fxI fx0) j (ptC j (fxI fx0) j (ptC j (fxI fx0) j (ptC j (fxI fx0) j (ptC j (fxI fx0) j pt0)))))))))) (dX j fun _=>j))<|q (kC j j j j j)<|nl)<|us<|Go.ret (Unw.ret ?_)
 cases h
 exact fr aep j
theorem KH {jG:ByteArray} {r:Int} (h:qP jG=some r):FX 95 [.im 2 false [Y jG]] (B0 [(false,[.im 0 (I r)])]):=by
 unfold qP at h
 refine gn 19 Tryz.func95 rfl ?_
 refine gs<|g0 j j (q (ae j j)<|nl)<|us<|gs<|?_
 obtain ⟨x5,hx5,h⟩:=bs h
 refine g0 j j (q (oCr (xs:=[]) (vs:=[(false,[.own 5 0 0])]) (v:=.v false [.own 5 0 0]) (c:=⟨.sh,0,_⟩) (cs:=[]) (IJ hx5) (.inl j) j acG j pp0 j j pb0 j j j)<|q (kC j j j j j)<|nl)<|us<|gs<|gs<|g0 j j (q (ae j j)<|nl)<|us<|Go.block<|?_
 obtain ⟨o,hl,h⟩:=bs h
 refine gl c95 j _ (fun (bP:Int)=>mk [(0,sv jG),(3,H 3 0),(4,iv bP)] [(3,Oc [Z (W 1 eS x5)])]) (fun (o:(Unit ⊕ Int)) (p:Ex×St)=>match o with | (.inl _)=>p.1= .exit 0∧p.2.norm ([],[])=mk [] [] | (.inr r2)=>p.1= .ret∧fin Tryz.prog cfg 95 Tryz.f95 [.im 2 false [Y jG]] p.2=some (B0 [(false,[.im 0 (I r2)])])) hl (by kernel_rfl) ?_ ?_ ?_
 ·intro o p hp e
  rcases o with u | r2<;>exact nomatch (hp.1.symm.trans e)
 ·rintro bP o h
  unfold oO at h
  refine gs<|gs<|g0 j j (q (oMv j j)<|q (oMv j j)<|q (GM j j aeU j j j (fun e=>nomatch e))<|q (oBi j j j j)<|nl)<|us<|gc h j ah (fun hc5 h=>?_) fun hc5 h=>?_
  ·refine Go.skip<|us<|gs<|Go.block<|gs<|?_
   obtain ⟨x14,ve,h⟩:=bs h
   refine g0 j j (q (oMv j j)<|q (oMv j j)<|q (zY j ve abB j j j j)<|q (Iq (cs:=[.im 0 _]) j tF9 j j j j (eP ve) j j)<|q (oMv j j)<|q (oBi j j j j)<|nl)<|us<|gc h j zu (fun hc6 h=>?_) fun hc6 h=>?_
   ·refine gs<|g0 j j (q (oMv j j)<|q (ae j j)<|nl)<|us<|Go.ret (Unw.ret ?_)
    cases h
    exact ⟨j,(fo aeJ j)⟩
   ·refine Go.skip<|Unw.blk<|us<|g0 j j (q (oMv j j)<|q (oBi j j j j)<|q (ae j j)<|nl)<|Unw.nil<|?_
    cases h
    exact ⟨j,(by kernel_rfl)⟩
  ·refine Go.exit<|ux<|Unw.nil<|?_
   cases h
   exact ⟨j,(by kernel_rfl)⟩
 ·rintro ⟨e,st⟩ hp
  rcases o with u | r2
  ·dsimp only at h
   obtain ⟨he,hst⟩:=hp
   obtain rfl:e= .exit 0:=he
   refine Unw.iP<|us<|gs<|g2 c95 j j hst (q (ae j j)<|nl)<|us<|Go.ret (Unw.ret ?_)
   cases h
   exact fr aeJ j
  ·dsimp only at h
   obtain ⟨he,hfin⟩:=hp
   obtain rfl:e= .ret:=he
   cases h
   exact Unw.ret (gm hfin)
theorem IK {r:(List (List Int))} (h:wo=some r):FX 96 [] (B0 [(false,[.ow 0 1 (List.map (eL 1 eI) r)])]):=by
 unfold wo at h
 refine gn 12 Tryz.func96 rfl ?_
 refine gs<|g0 j j (q (vH j j acv)<|nl)<|us<|gs<|g0 j j (q (oBS (es:=List.map eI ([20,40,310]:List Int)) j fH j (ptC j (fxI fx0) j (ptC j (fxI fx0) j (ptC j (fxI fx0) j pt0))) (dX j fun _=>j))<|q (oBS (es:=List.map eI ([35,45,410]:List Int)) j fH j (ptC j (fxI fx0) j (ptC j (fxI fx0) j (ptC j (fxI fx0) j pt0))) (dX j fun _=>j))<|q (oBS (es:=List.map eI ([15,33,280]:List Int)) j fH j (ptC j (fxI fx0) j (ptC j (fxI fx0) j (ptC j (fxI fx0) j pt0))) (dX j fun _=>j))<|q (oBS (es:=List.map eI ([50,36,240]:List Int)) j fH j (ptC j (fxI fx0) j (ptC j (fxI fx0) j (ptC j (fxI fx0) j pt0))) (dX j fun _=>j))<|q (oBS (es:=List.map eI ([95,85,270]:List Int)) j fH j (ptC j (fxI fx0) j (ptC j (fxI fx0) j (ptC j (fxI fx0) j pt0))) (dX j fun _=>j))<|q (oBS (es:=List.map eI ([5,35,370]:List Int)) j fH j (ptC j (fxI fx0) j (ptC j (fxI fx0) j (ptC j (fxI fx0) j pt0))) (dX j fun _=>j))<|q (oBS (es:=List.map eI ([10,42,290]:List Int)) j fH j (ptC j (fxI fx0) j (ptC j (fxI fx0) j (ptC j (fxI fx0) j pt0))) (dX j fun _=>j))<|q (oBS (es:=List.map eI ([40,40,330]:List Int)) j fH j (ptC j (fxI fx0) j (ptC j (fxI fx0) j (ptC j (fxI fx0) j pt0))) (dX j fun _=>j))<|q (oBS (es:=List.map eI ([80,60,220]:List Int)) j fH j (ptC j (fxI fx0) j (ptC j (fxI fx0) j (ptC j (fxI fx0) j pt0))) (dX j fun _=>j))<|q (oBS (es:=List.map eI ([70,38,260]:List Int)) j fH j (ptC j (fxI fx0) j (ptC j (fxI fx0) j (ptC j (fxI fx0) j pt0))) (dX j fun _=>j))<|q (oBS (es:=List.map (eL 1 eI) ([([20,40,310]:List Int),([35,45,410]:List Int),([15,33,280]:List Int),([50,36,240]:List Int),([95,85,270]:List Int),([5,35,370]:List Int),([10,42,290]:List Int),([40,40,330]:List Int),([80,60,220]:List Int),([70,38,260]:List Int)]:List (List Int))) j uy j (ptC j (fxO j j fx0) j (ptC j (fxO j j fx0) j (ptC j (fxO j j fx0) j (ptC j (fxO j j fx0) j (ptC j (fxO j j fx0) j (ptC j (fxO j j fx0) j (ptC j (fxO j j fx0) j (ptC j (fxO j j fx0) j (ptC j (fxO j j fx0) j (ptC j (fxO j j fx0) j pt0)))))))))) (Ci j))<|q (kC j j j j j)<|nl)<|us<|Go.ret (Unw.ret ?_)
 cases h
 exact fr agR j
theorem IL {g_0:Int} {r:Bool} (h:wu g_0=some r):FX 97 [.im 2 false [I g_0]] (B0 [(false,[.im 0 (V r)])]):=by
 unfold wu at h
 refine gn 5 Tryz.func97 rfl ?_
 refine gs<|g0 j j (q (ae j j)<|nl)<|us<|gs<|?_
 obtain ⟨x4,hx4,h⟩:=bs h
 refine g0 j j (q (oMv j j)<|q (oCa (xs:=[.v false [.im 2 _],.v false [.im 0 _],.v false [.im 0 _]]) (vs:=[(false,[.im 0 _])]) (v:=.v false [.im 0 _]) (fJ hx4) (.inl j) j iJ j (ppC j (ppC j (ppC j pp0))) j j pb0 j j j)<|q (ae j j)<|nl)<|us<|Go.ret (Unw.ret ?_)
 cases h
 exact fr agS j
theorem OO {v_0:ai} {r:Bool} (h:tK v_0=some r):FX 71 [.im 2 false [.cp (iE v_0) 0]] (B0 [(false,[.im 0 (V r)])]):=by
 unfold tK at h
 refine gn 42 Tryz.func71 rfl ?_
 refine gs<|g0 j j (q (ae j j)<|nl)<|us<|gs<|?_
 obtain ⟨x9,hx9,h⟩:=bs h
 refine g0 j j (q (oMv j j)<|q (oNl j j j)<|q (oFA (r':=.im 2 _) j G7 j j)<|q (oLd (cs:=[.im 2 _]) j tF9 j j)<|q (oCa (xs:=[.v false [.im 2 _]]) (vs:=[(false,[.im 0 _])]) (v:=.v false [.im 0 _]) (KH hx9) (.inl j) j acI j (ppC j pp0) j j pb0 j j j)<|q (ae j j)<|nl)<|us<|gs<|gs<|?_
 obtain ⟨Og,hm5,h⟩:=bs h
 refine gX c71 j j j (mk [(0,D 2 (.cp (iE v_0) 0)),(3,iv x9),(19,bv Og)] []) ?_ ?_
 ·refine xq (oMv j j)<|xq (oBi j j j j)<|xq (oMv j j)<|?_
  refine ic hm5 (fun hc1 hm5=>?_) fun hc1 hm5=>?_
  ·cases hm5
   exact aj j j (ah.2 hc1) j<|aj j j (ah.2 hc1) j<|aj j j (ah.2 hc1) j<|aj j j (ah.2 hc1) j<|aj j j (ah.2 hc1) j<|aj j j (ah.2 hc1) j<|xq (bU j j (ah.2 hc1) j)<|xn
  ·obtain ⟨x17,OH,hm5⟩:=bs hm5
   cases hm5
   exact xqT j j (byF ah hc1) (oMv j j)<|xqT j j (byF ah hc1) (oNl j j j)<|xqT j j (byF ah hc1) (oFA (r':=.im 2 _) j rF j j)<|xqT j j (byF ah hc1) (oLd (cs:=[.im 2 _]) j tF2 j j)<|xqT j j (byF ah hc1) (oCa (xs:=[.v false [.im 2 _],.v false [.im 0 _],.v false [.im 0 _]]) (vs:=[(false,[.im 0 _])]) (v:=.v false [.im 0 _]) (fJ OH) (.inl j) j iJ j (ppC j (ppC j (ppC j pp0))) j j pb0 j j j)<|xqT j j (byF ah hc1) (oUn j j j)<|xq (dV j j (byF ah hc1) j)<|xn
 ·refine us<|gc h j iR (fun hc2 h=>?_) fun hc2 h=>?_
  ·refine gs<|g0 j j (q (ae j j)<|nl)<|us<|Go.ret (Unw.ret ?_)
   cases h
   exact fr aeC j
  ·refine Go.skip<|us<|gs<|?_
   obtain ⟨x20,yh,h⟩:=bs h
   obtain ⟨x22,F6,h⟩:=bs h
   obtain ⟨x24,hx24,h⟩:=bs h
   refine g0 j j (q (oCr (xs:=[]) (vs:=[(false,[.own 20 0 0])]) (v:=.v false [.own 20 0 0]) (c:=⟨.sh,0,_⟩) (cs:=[]) (IK yh) (.inl j) j aei j pp0 j j pb0 j j j)<|q (oMv j j)<|q (zY j F6 uy j j j j)<|q (Iq (cs:=[.im 0 _]) j oh j j j j (eP F6) j j)<|q (fU j hx24 fH j j)<|q (oLd (cs:=[.im 0 _]) j tF2 j j)<|q (ae j j)<|nl)<|us<|gs<|?_
   obtain ⟨x34,hx34,h⟩:=bs h
   obtain ⟨RG,hm4,h⟩:=bs h
   refine gX c71 j j j (mk [(2,bv RG)] []) ?_ ?_
   ·refine xq (oMv j j)<|xq (oNl j j j)<|xq (oFA (r':=.im 2 _) j rF j j)<|xq (oLd (cs:=[.im 2 _]) j tF2 j j)<|xq (oMv j j)<|xq (oBi j j j j)<|xq (oMv j j)<|xq (oBi j j j j)<|xq (oCa (xs:=[.v false [.im 2 _],.v false [.im 0 _],.v false [.im 0 _]]) (vs:=[(false,[.im 0 _])]) (v:=.v false [.im 0 _]) (fJ hx34) (.inl j) j iJ j (ppC j (ppC j (ppC j pp0))) j j pb0 j j j)<|xq (oMv j j)<|?_
    refine ic hm4 (fun hc3 hm4=>?_) fun hc3 hm4=>?_
    ·obtain ⟨x40,KD,hm4⟩:=bs hm4
     cases hm4
     exact xqT j j (iR.2 hc3) (oMv j j)<|xqT j j (iR.2 hc3) (oNl j j j)<|xqT j j (iR.2 hc3) (oFA (r':=.im 2 _) j zB j j)<|xqT j j (iR.2 hc3) (oLd (cs:=[.im 2 _]) j tF2 j j)<|xqT j j (iR.2 hc3) (oCa (xs:=[.v false [.im 2 _]]) (vs:=[(false,[.im 0 _])]) (v:=.v false [.im 0 _]) (IL KD) (.inl j) j acJ j (ppC j pp0) j j pb0 j j j)<|xq (bU j j (iR.2 hc3) j)<|xq (ae j j)<|xn
    ·cases hm4
     exact aj j j (byF iR hc3) j<|aj j j (byF iR hc3) j<|aj j j (byF iR hc3) j<|aj j j (byF iR hc3) j<|aj j j (byF iR hc3) j<|xq (dV j j (byF iR hc3) j)<|xq (ae j j)<|xn
   ·refine us<|Go.ret (Unw.ret ?_)
    cases h
    exact fr aeC j
theorem F7 {bV:(List ai)} {r:Bool} (h:oP bV=some r):FX 44 [.im 2 false [W 3 au bV]] (B0 [(false,[.im 0 (V r)])]):=by
 unfold oP at h
 refine gn 15 Tryz.func44 rfl ?_
 refine gs<|g0 j j (q (ae j j)<|nl)<|us<|gs<|gs<|g0 j j (q (ae j j)<|nl)<|us<|Go.block<|?_
 obtain ⟨o,hl,h⟩:=bs h
 refine gl c44 j _ (fun (GY:Int)=>mk [(0,D 2 (W 3 au bV)),(3,iv GY)] []) (fun (o:(Unit ⊕ Bool)) (p:Ex×St)=>match o with | (.inl _)=>p.1= .exit 0∧p.2.norm ([],[])=mk [] [] | (.inr r2)=>p.1= .ret∧fin Tryz.prog cfg 44 Tryz.f44 [.im 2 false [W 3 au bV]] p.2=some (B0 [(false,[.im 0 (V r2)])])) hl (by kernel_rfl) ?_ ?_ ?_
 ·intro o p hp e
  rcases o with u | r2<;>exact nomatch (hp.1.symm.trans e)
 ·rintro GY o h
  unfold lJ at h
  refine gs<|gs<|g0 j j (q (oMv j j)<|q (oMv j j)<|q (gB j j FY j)<|q (oBi j j j j)<|nl)<|us<|gc h j ah (fun hc5 h=>?_) fun hc5 h=>?_
  ·refine Go.skip<|us<|gs<|Go.block<|gs<|?_
   obtain ⟨x12,zF,h⟩:=bs h
   obtain ⟨x13,OE,h⟩:=bs h
   refine g0 j j (q (oMv j j)<|q (oMv j j)<|q (fU j zF G9 j j)<|q (oCa (xs:=[.v false [.im 2 _]]) (vs:=[(false,[.im 0 _])]) (v:=.v false [.im 0 _]) (OO OE) (.inl j) j aaH j (ppC j pp0) j j pb0 j j j)<|q (oUn j j j)<|nl)<|us<|?_
   by_cases hc6:x13=true
   ·rw [if_pos hc6] at h
    refine gF j (nF (iR.2 hc6))<|Go.skip<|Unw.blk<|us<|g0 j j (q (oMv j j)<|q (oBi j j j j)<|q (ae j j)<|nl)<|Unw.nil<|?_
    cases h
    exact ⟨j,(by kernel_rfl)⟩
   ·rw [if_neg hc6] at h
    refine gT j (nT (byF iR hc6))<|gs<|g0 j j (q (ae j j)<|nl)<|us<|Go.ret (Unw.ret ?_)
    cases h
    exact ⟨j,(fo aey j)⟩
  ·refine Go.exit<|ux<|Unw.nil<|?_
   cases h
   exact ⟨j,(by kernel_rfl)⟩
 ·rintro ⟨e,st⟩ hp
  rcases o with u | r2
  ·dsimp only at h
   obtain ⟨he,hst⟩:=hp
   obtain rfl:e= .exit 0:=he
   refine Unw.iP<|us<|gs<|g2 c44 j j hst (q (ae j j)<|nl)<|us<|Go.ret (Unw.ret ?_)
   cases h
   exact fr aey j
  ·dsimp only at h
   obtain ⟨he,hfin⟩:=hp
   obtain rfl:e= .ret:=he
   cases h
   exact Unw.ret (gm hfin)
theorem Lu {d_0:aA} {aQ:(List ai)} {aO:Int} {bK:Int} {r:Int} (h:wJ d_0 aQ aO bK=some r):FX 26 [.im 2 false [.cp (ak d_0) 0],.im 2 false [W 3 au aQ],.im 2 false [I aO],.im 2 false [I bK]] (B0 [(false,[.im 0 (I r)])]):=by
 unfold wJ at h
 refine gn 35 Tryz.func26 rfl ?_
 refine gs<|g0 j j (q (ae j j)<|nl)<|us<|gs<|gs<|?_
 obtain ⟨x10,Hl,h⟩:=bs h
 obtain ⟨A8,hm8,h⟩:=bs h
 refine gX c26 j j j (mk [(1,D 2 (W 3 au aQ)),(2,iv aO),(3,iv bK),(16,bv A8)] []) ?_ ?_
 ·refine xq (oMv j j)<|xq (oCa (xs:=[.v false [.im 2 _]]) (vs:=[(false,[.im 0 _])]) (v:=.v false [.im 0 _]) (OL Hl) (.inl j) j aav j (ppC j pp0) j j pb0 j j j)<|xq (oUn j j j)<|xq (oMv j j)<|?_
  refine ic hm8 (fun hc1 hm8=>?_) fun hc1 hm8=>?_
  ·obtain ⟨x14,ve,hm8⟩:=bs hm8
   cases hm8
   exact xqT j j (nF (iR.2 hc1)) (oMv j j)<|xqT j j (nF (iR.2 hc1)) (oCa (xs:=[.v false [.im 2 _]]) (vs:=[(false,[.im 0 _])]) (v:=.v false [.im 0 _]) (F7 ve) (.inl j) j aaw j (ppC j pp0) j j pb0 j j j)<|xqT j j (nF (iR.2 hc1)) (oUn j j j)<|xq (dV j j (nF (iR.2 hc1)) j)<|xn
  ·cases hm8
   exact aj j j (nT (byF iR hc1)) j<|aj j j (nT (byF iR hc1)) j<|aj j j (nT (byF iR hc1)) j<|xq (bU j j (nT (byF iR hc1)) j)<|xn
 ·refine us<|gc h j iR (fun hc2 h=>?_) fun hc2 h=>?_
  ·refine gs<|g0 j j (q (ae j j)<|nl)<|us<|Go.ret (Unw.ret ?_)
   cases h
   exact fr acO j
  ·refine Go.skip<|us<|gs<|gs<|?_
   obtain ⟨Oh,hm7,h⟩:=bs h
   refine gX c26 j j j (mk [(34,bv Oh)] []) ?_ ?_
   ·refine xq (oMv j j)<|xq (gB j j FY j)<|xq (oBi j j j j)<|xq (oMv j j)<|?_
    refine ic hm7 (fun hc3 hm7=>?_) fun hc3 hm7=>?_
    ·cases hm7
     exact aj j j (ah.2 hc3) j<|aj j j (ah.2 hc3) j<|aj j j (ah.2 hc3) j<|xq (bU j j (ah.2 hc3) j)<|xq (oMv j j)<|aj j j j j<|aj j j j j<|aj j j j j<|xq (bU j j j j)<|xq (oMv j j)<|aj j j j j<|aj j j j j<|aj j j j j<|xq (bU j j j j)<|xn
    ·refine xqT j j (byF ah hc3) (oMv j j)<|xqT j j (byF ah hc3) (gB j j FY j)<|xqT j j (byF ah hc3) (oBi j j j j)<|xq (dV j j (byF ah hc3) j)<|xq (oMv j j)<|?_
     refine ic hm7 (fun hc4 hm7=>?_) fun hc4 hm7=>?_
     ·cases hm7
      exact aj j j (ah.2 hc4) j<|aj j j (ah.2 hc4) j<|aj j j (ah.2 hc4) j<|xq (bU j j (ah.2 hc4) j)<|xq (oMv j j)<|aj j j j j<|aj j j j j<|aj j j j j<|xq (bU j j j j)<|xn
     ·obtain ⟨x27,hx27,hm7⟩:=bs hm7
      refine xqT j j (byF ah hc4) (oMv j j)<|xqT j j (byF ah hc4) (oCa (xs:=[.v false [.im 0 _],.v false [.im 0 _],.v false [.im 0 _]]) (vs:=[(false,[.im 0 _])]) (v:=.v false [.im 0 _]) (fJ hx27) (.inl j) j iJ j (ppC j (ppC j (ppC j pp0))) j j pb0 j j j)<|xqT j j (byF ah hc4) (oUn j j j)<|xq (dV j j (byF ah hc4) j)<|xq (oMv j j)<|?_
      refine ic hm7 (fun hc5 hm7=>?_) fun hc5 hm7=>?_
      ·obtain ⟨x32,hx32,hm7⟩:=bs hm7
       cases hm7
       exact xqT j j (nF (iR.2 hc5)) (oMv j j)<|xqT j j (nF (iR.2 hc5)) (oCa (xs:=[.v false [.im 0 _],.v false [.im 0 _],.v false [.im 0 _]]) (vs:=[(false,[.im 0 _])]) (v:=.v false [.im 0 _]) (fJ hx32) (.inl j) j iJ j (ppC j (ppC j (ppC j pp0))) j j pb0 j j j)<|xqT j j (nF (iR.2 hc5)) (oUn j j j)<|xq (dV j j (nF (iR.2 hc5)) j)<|xn
      ·cases hm7
       exact aj j j (nT (byF iR hc5)) j<|aj j j (nT (byF iR hc5)) j<|aj j j (nT (byF iR hc5)) j<|xq (bU j j (nT (byF iR hc5)) j)<|xn
   ·refine us<|gc h j iR (fun hc6 h=>?_) fun hc6 h=>?_
    ·refine gs<|g0 j j (q (ae j j)<|nl)<|us<|Go.ret (Unw.ret ?_)
     cases h
     exact fr acO j
    ·refine Go.skip<|us<|gs<|g0 j j (q (ae j j)<|nl)<|us<|Go.ret (Unw.ret ?_)
     cases h
     exact fr acO j
theorem F8 {kK:(List Int)} {i_1:Int} {k_2:Int} {r:Bool} (h:oQ kK i_1 k_2=some r):FX 98 [.im 2 false [W 1 eI kK],.im 2 false [I i_1],.im 2 false [I k_2]] (B0 [(false,[.im 0 (V r)])]):=by
 unfold oQ at h
 refine gn 46 Tryz.func98 rfl ?_
 refine gs<|g0 j j (q (ae j j)<|nl)<|us<|gs<|gs<|g0 j j (q (ae j j)<|nl)<|us<|Go.block<|?_
 obtain ⟨o,hl,h⟩:=bs h
 refine gl c98 j _ (fun (CB:Int)=>mk [(0,D 2 (W 1 eI kK)),(1,iv i_1),(2,iv k_2),(7,iv CB)] []) (fun (o:(Unit ⊕ Bool)) (p:Ex×St)=>match o with | (.inl _)=>p.1= .exit 0∧p.2.norm ([],[])=mk [] [] | (.inr r2)=>p.1= .ret∧fin Tryz.prog cfg 98 Tryz.f98 [.im 2 false [W 1 eI kK],.im 2 false [I i_1],.im 2 false [I k_2]] p.2=some (B0 [(false,[.im 0 (V r2)])])) hl (by kernel_rfl) ?_ ?_ ?_
 ·intro o p hp e
  rcases o with u | r2<;>exact nomatch (hp.1.symm.trans e)
 ·rintro CB o h
  unfold lK at h
  refine gs<|gs<|g0 j j (q (oMv j j)<|q (oMv j j)<|q (gB j j lX j)<|q (oBi j j j j)<|nl)<|us<|gc h j ah (fun SG h=>?_) fun SG h=>?_
  ·refine Go.skip<|us<|gs<|Go.block<|gs<|?_
   obtain ⟨x18,EJ,h⟩:=bs h
   refine g0 j j (q (oMv j j)<|q (oMv j j)<|q (fU j EJ fH j j)<|q (oLd (cs:=[.im 2 _]) j tF2 j j)<|q (ae j j)<|nl)<|us<|gs<|?_
   obtain ⟨x25,hx25,h⟩:=bs h
   obtain ⟨x26,SE,h⟩:=bs h
   refine g0 j j (q (oMv j j)<|q (oMv j j)<|q (oBi j j j j)<|q (oMv j j)<|q (gB j j lX j)<|q (FK j hx25 j j)<|q (fU j SE fH j j)<|q (oLd (cs:=[.im 2 _]) j tF2 j j)<|q (ae j j)<|nl)<|us<|gs<|?_
   obtain ⟨Oi,Df,h⟩:=bs h
   refine gX c98 j j j (mk [(0,D 2 (W 1 eI kK)),(1,iv i_1),(2,iv k_2),(7,iv CB),(45,bv Oi)] []) ?_ ?_
   ·refine xq (oMv j j)<|xq (oMv j j)<|xq (oBi j j j j)<|xq (oMv j j)<|?_
    refine ic Df (fun hc16 Df=>?_) fun hc16 Df=>?_
    ·refine xqT j j (iEq.2 hc16) (oMv j j)<|xqT j j (iEq.2 hc16) (oMv j j)<|xqT j j (iEq.2 hc16) (oBi j j j j)<|xq (bU j j (iEq.2 hc16) j)<|xq (oMv j j)<|?_
     refine ic Df (fun hc17 Df=>?_) fun hc17 Df=>?_
     ·cases Df
      exact aj j j (iEq.2 hc17) j<|aj j j (iEq.2 hc17) j<|aj j j (iEq.2 hc17) j<|aj j j (iEq.2 hc17) j<|Ry j j j<|Ry j j j<|Ry j j j<|aj j j (iEq.2 hc17) j<|xq (bU j j (iEq.2 hc17) j)<|xn
     ·refine xqT j j (byF iEq hc17) (oMv j j)<|xqT j j (byF iEq hc17) (oMv j j)<|xqT j j (byF iEq hc17) (oBi j j j j)<|xqT j j (byF iEq hc17) (oMv j j)<|?_
      refine ic Df (fun hc18 Df=>?_) fun hc18 Df=>?_
      ·cases Df
       exact xqT j j (iEq.2 hc18) (oMv j j)<|xqT j j (iEq.2 hc18) (oMv j j)<|xqT j j (iEq.2 hc18) (oBi j j j j)<|xqT j j (byF iEq hc17) (bU j j (iEq.2 hc18) j)<|xq (dV j j (byF iEq hc17) j)<|xn
      ·cases Df
       exact aj j j (byF iEq hc18) j<|aj j j (byF iEq hc18) j<|aj j j (byF iEq hc18) j<|xqT j j (byF iEq hc17) (dV j j (byF iEq hc18) j)<|xq (dV j j (byF iEq hc17) j)<|xn
    ·refine aj j j (byF iEq hc16) j<|aj j j (byF iEq hc16) j<|aj j j (byF iEq hc16) j<|xq (dV j j (byF iEq hc16) j)<|xq (oMv j j)<|xqT j j j (oMv j j)<|xqT j j j (oMv j j)<|xqT j j j (oBi j j j j)<|xqT j j j (oMv j j)<|?_
     refine ic Df (fun hc19 Df=>?_) fun hc19 Df=>?_
     ·cases Df
      exact xqT j j (iEq.2 hc19) (oMv j j)<|xqT j j (iEq.2 hc19) (oMv j j)<|xqT j j (iEq.2 hc19) (oBi j j j j)<|xqT j j j (bU j j (iEq.2 hc19) j)<|xq (dV j j j j)<|xn
     ·cases Df
      exact aj j j (byF iEq hc19) j<|aj j j (byF iEq hc19) j<|aj j j (byF iEq hc19) j<|xqT j j j (dV j j (byF iEq hc19) j)<|xq (dV j j j j)<|xn
   ·refine us<|gc h j iR (fun EK h=>?_) fun EK h=>?_
    ·refine gs<|g0 j j (q (ae j j)<|nl)<|us<|Go.ret (Unw.ret ?_)
     cases h
     exact ⟨j,(fo aeK j)⟩
    ·refine Go.skip<|Unw.blk<|us<|g0 j j (q (oMv j j)<|q (oBi j j j j)<|q (ae j j)<|nl)<|Unw.nil<|?_
     cases h
     exact ⟨j,(by kernel_rfl)⟩
  ·refine Go.exit<|ux<|Unw.nil<|?_
   cases h
   exact ⟨j,(by kernel_rfl)⟩
 ·rintro ⟨e,st⟩ hp
  rcases o with u | r2
  ·dsimp only at h
   obtain ⟨he,hst⟩:=hp
   obtain rfl:e= .exit 0:=he
   refine Unw.iP<|us<|gs<|g2 c98 j j hst (q (ae j j)<|nl)<|us<|Go.ret (Unw.ret ?_)
   cases h
   exact fr aeK j
  ·dsimp only at h
   obtain ⟨he,hfin⟩:=hp
   obtain rfl:e= .ret:=he
   cases h
   exact Unw.ret (gm hfin)
theorem KI {d_0:aA} {k_1:Int} {r:(List Int)} (h:uT d_0 k_1=some r):FX 72 [.im 2 false [.cp (ak d_0) 0],.im 2 false [I k_1]] (B0 [(false,[.ow 0 1 (List.map eI r)])]):=by
 unfold uT at h
 refine gn 69 Tryz.func72 rfl ?_
 refine gs<|g0 j j (q (vH j j FQ)<|nl)<|us<|gs<|g0 j j (q (oBS (es:=List.map eI ([]:List Int)) j fH j pt0 (dX j fun _=>j))<|q (kC j j j j j)<|nl)<|us<|gs<|?_
 obtain ⟨x16,hx16,h⟩:=bs h
 refine g0 j j (q (oMv j j)<|q (oNl j j j)<|q (oFA (r':=.im 2 _) j oK j j)<|q (oLd (cs:=[.im 2 _]) j Bi j j)<|q (oMv j j)<|q (fU j hx16 EH j j)<|q (oFA (r':=.im 2 _) j Bg j j)<|q (oLd (cs:=[.im 2 _]) j oh j j)<|q (ae j j)<|nl)<|us<|gs<|gs<|g0 j j (q (ae j j)<|nl)<|us<|Go.block<|?_
 obtain ⟨o,hl,h⟩:=bs h
 refine gl c72 j _ (fun (s:(Int×(List Int)))=>match s with | (jH,dZ)=>mk [(0,D 2 (.cp (ak d_0) 0)),(1,iv k_1),(5,H 5 0),(6,D 2 (W 1 eI x16.Ring)),(7,iv jH)] [(5,Oc [Z (W 1 eI dZ)])]) (fun (jw:(List Int)) (p:Ex×St)=>p.1= .exit 0∧p.2.norm ([5],[5])=mk [(5,H 5 0)] [(5,Oc [Z (W 1 eI jw)])]) hl (by kernel_rfl) ?_ ?_ ?_
 ·intro o p hp e
  exact nomatch (hp.1.symm.trans e)
 ·rintro ⟨jH,dZ⟩ o h
  unfold oW at h
  dsimp only at h
  refine gs<|gs<|g0 j j (q (oMv j j)<|q (oMv j j)<|q (oNl j j j)<|q (oFA (r':=.im 2 _) j oK j j)<|q (oLd (cs:=[.im 2 _]) j Bi j j)<|q (gB j j Iu j)<|q (oBi j j j j)<|nl)<|us<|gc h j ah (fun SG h=>?_) fun SG h=>?_
  ·refine Go.skip<|us<|gs<|Go.join (fun st=>∃Ad,oU jH Ad=some o∧st.norm ([0,1,5,6,7],[5])=mk [(0,D 2 (.cp (ak d_0) 0)),(1,iv k_1),(5,H 5 0),(6,D 2 (W 1 eI x16.Ring)),(7,iv jH)] [(5,Oc [Z (W 1 eI Ad)])]) ?_ ?_
   ·rintro st ⟨Ad,h,hst⟩
    unfold oU at h
    refine us<|g2 c72 j j hst (q (oMv j j)<|q (oBi j j j j)<|q (ae j j)<|nl)<|Unw.nil<|?_
    cases h
    exact ⟨j,(by kernel_rfl)⟩
   ·intro K22
    refine Go.block<|gs<|g0 j j (q (ae j j)<|nl)<|us<|gs<|gs<|g0 j j (q (ae j j)<|nl)<|us<|Go.block<|?_
    obtain ⟨o,hl,h⟩:=bs h
    refine gl c72 j _ (fun (s:(Bool×Int))=>match s with | (yE,CE)=>mk [(0,D 2 (.cp (ak d_0) 0)),(1,iv k_1),(5,H 5 0),(6,D 2 (W 1 eI x16.Ring)),(7,iv jH),(8,bv yE),(9,iv CE)] [(5,Oc [Z (W 1 eI dZ)])]) (fun (qQ:Bool) (p:Ex×St)=>p.1= .exit 2∧p.2.norm ([0,1,5,6,7,8],[5])=mk [(0,D 2 (.cp (ak d_0) 0)),(1,iv k_1),(5,H 5 0),(6,D 2 (W 1 eI x16.Ring)),(7,iv jH),(8,bv qQ)] [(5,Oc [Z (W 1 eI dZ)])]) hl (by kernel_rfl) ?_ ?_ ?_
    ·intro o p hp e
     exact nomatch (hp.1.symm.trans e)
    ·rintro ⟨yE,CE⟩ o h
     unfold oV at h
     dsimp only at h
     refine gs<|gs<|g0 j j (q (oMv j j)<|q (oMv j j)<|q (gB j j lX j)<|q (oBi j j j j)<|nl)<|us<|gc h j ah (fun hc29 h=>?_) fun hc29 h=>?_
     ·refine Go.skip<|us<|gs<|Go.block<|?_
      obtain ⟨CG,EL,h⟩:=bs h
      refine gd c72 j j j j (mk [(0,D 2 (.cp (ak d_0) 0)),(1,iv k_1),(5,H 5 0),(6,D 2 (W 1 eI x16.Ring)),(7,iv jH),(8,bv CG),(9,iv CE)] [(5,Oc [Z (W 1 eI dZ)])]) ?_ ?_
      ·refine t j j (oMv j j)<|t j j (oMv j j)<|?_
       refine ic EL (fun kP EL=>?_) fun kP EL=>?_
       ·cases EL
        exact tF j j j j (iR.2 kP) j<|tF j j j j (iR.2 kP) j<|tF j j j j (iR.2 kP) j<|tF j j j j (iR.2 kP) j<|tF j j j j (iR.2 kP) j<|tF j j j j (iR.2 kP) j<|tF j j j j (iR.2 kP) j<|tF j j j j (iR.2 kP) j<|tF j j j j (iR.2 kP) j<|tF j j j j (iR.2 kP) j<|tF j j j j (iR.2 kP) j<|tF j j j j (iR.2 kP) j<|tF j j j j (iR.2 kP) j<|tF j j j j (iR.2 kP) j<|tF j j j j (iR.2 kP) j<|tF j j j j (iR.2 kP) j<|tF j j j j (iR.2 kP) j<|tF j j j j (iR.2 kP) j<|tF j j j j (iR.2 kP) j<|tF j j j j (iR.2 kP) j<|sS (dF j j j (iR.2 kP) j) trivial (t j j (bU j j (iR.2 kP) j)<|sS (dN z72 j (ae j j)) trivial (sD (by kernel_rfl)))
       ·obtain ⟨x41,SH,EL⟩:=bs EL
        obtain ⟨x46,SI,EL⟩:=bs EL
        obtain ⟨x53,ag0,EL⟩:=bs EL
        obtain ⟨x54,ag1,EL⟩:=bs EL
        obtain ⟨x56,ac6,EL⟩:=bs EL
        cases EL
        exact tT j j j j (byF iR kP) (oMv j j)<|tT j j j j (byF iR kP) (oNl j j j)<|tT j j j j (byF iR kP) (oFA (r':=.im 2 _) j oK j j)<|tT j j j j (byF iR kP) (oLd (cs:=[.im 2 _]) j Bi j j)<|tT j j j j (byF iR kP) (oMv j j)<|tT j j j j (byF iR kP) (fU j SH EH j j)<|tT j j j j (byF iR kP) (oFA (r':=.im 2 _) j Bg j j)<|tT j j j j (byF iR kP) (oLd (cs:=[.im 2 _]) j oh j j)<|tT j j j j (byF iR kP) (oMv j j)<|tT j j j j (byF iR kP) (oMv j j)<|tT j j j j (byF iR kP) (fU j SI fH j j)<|tT j j j j (byF iR kP) (oLd (cs:=[.im 2 _]) j tF2 j j)<|tT j j j j (byF iR kP) (oMv j j)<|tT j j j j (byF iR kP) (oMv j j)<|tT j j j j (byF iR kP) (oBi j j j j)<|tT j j j j (byF iR kP) (oMv j j)<|tT j j j j (byF iR kP) (gB j j lX j)<|tT j j j j (byF iR kP) (FK j ag0 j j)<|tT j j j j (byF iR kP) (fU j ag1 fH j j)<|tT j j j j (byF iR kP) (oLd (cs:=[.im 2 _]) j tF2 j j)<|sS (dT z72 j j j (byF iR kP) (oCa (xs:=[.v false [.im 2 _],.v false [.im 2 _],.v false [.im 2 _]]) (vs:=[(false,[.im 0 _])]) (v:=.v false [.im 0 _]) (F8 ac6) (.inl j) j Qv j (ppC j (ppC j (ppC j pp0))) j j pb0 j j j)) trivial (t j j (dV j j (byF iR kP) j)<|sS (dN z72 j (ae j j)) trivial (sD (by kernel_rfl)))
      ·refine Unw.blk<|us<|g0 j j (q (oMv j j)<|q (oBi j j j j)<|q (ae j j)<|nl)<|Unw.nil<|?_
       cases h
       exact ⟨j,(by kernel_rfl)⟩
     ·refine Go.exit<|ux<|Unw.nil<|?_
      cases h
      exact ⟨j,(by kernel_rfl)⟩
    ·rintro ⟨e,st⟩ hp
     obtain ⟨qQ,rfl⟩:∃y,y=o:=⟨o,rfl⟩
     obtain ⟨he,hst⟩:=hp
     obtain rfl:e= .exit 2:=he
     refine Unw.iP<|us<|gs<|gX c72 j j hst (mk [(0,D 2 (.cp (ak d_0) 0)),(1,iv k_1),(5,H 5 0),(6,D 2 (W 1 eI x16.Ring)),(7,iv jH),(63,bv ((jH != k_1)&&qQ))] [(5,Oc [Z (W 1 eI dZ)])]) ?_ ?_
     ·refine xq (oMv j j)<|xq (oMv j j)<|xq (oBi j j j j)<|xq (oMv j j)<|?_
      by_cases hc27:jH≠k_1
      ·exact xqT rfl rfl (iNe.2 hc27) (oMv rfl rfl)<|xq (bU rfl rfl (iNe.2 hc27) rfl)<|xn (Eq.trans (b:=(fun yR:Bool=>mk [(0,D 2 (.cp (ak d_0) 0)),(1,iv k_1),(5,H 5 0),(6,D 2 (W 1 eI x16.Ring)),(7,iv jH),(63,bv yR)] [(5,Oc [Z (W 1 eI dZ)])]) qQ) (by kernel_rfl) (congrArg (fun yR:Bool=>mk [(0,D 2 (.cp (ak d_0) 0)),(1,iv k_1),(5,H 5 0),(6,D 2 (W 1 eI x16.Ring)),(7,iv jH),(63,bv yR)] [(5,Oc [Z (W 1 eI dZ)])]) (by first | rfl | (simp [(iNe.2 hc27)];done) | (simp [(iNe.2 hc27)];omega))))
      ·exact aj rfl rfl (byF iNe hc27) rfl<|xq (dV rfl rfl (byF iNe hc27) rfl)<|xn (Eq.trans (b:=(fun yR:Bool=>mk [(0,D 2 (.cp (ak d_0) 0)),(1,iv k_1),(5,H 5 0),(6,D 2 (W 1 eI x16.Ring)),(7,iv jH),(63,bv yR)] [(5,Oc [Z (W 1 eI dZ)])]) false) (by kernel_rfl) (congrArg (fun yR:Bool=>mk [(0,D 2 (.cp (ak d_0) 0)),(1,iv k_1),(5,H 5 0),(6,D 2 (W 1 eI x16.Ring)),(7,iv jH),(63,bv yR)] [(5,Oc [Z (W 1 eI dZ)])]) (by first | rfl | (simp [(byF iNe hc27)];done) | (simp [(byF iNe hc27)];omega))))
     ·refine us<|gc h j (xE iNe iR) (fun hc28 h=>?_) fun hc28 h=>?_
      ·obtain ⟨x67,qf,h⟩:=bs h
       exact g0 j j (q (oMv j j)<|q (oMv j j)<|q (oBS (es:=List.map eI ([jH]:List Int)) j fH j (ptC j (fxI fx0) j pt0) (dX j fun _=>j))<|q (Ey (en:=eI) (M:=([jH]:List Int)) j qf j fH j j lX (.inl ⟨_,j⟩) j j j j (kH j j) (dX j fun _=>j))<|q (kC j j j j j)<|nl)<|Unw.blk<|K22 _ ⟨x67,h,(by kernel_rfl)⟩
      ·exact Go.skip<|Unw.blk<|K22 _ ⟨dZ,h,(by kernel_rfl)⟩
  ·refine Go.exit<|ux<|Unw.nil<|?_
   cases h
   exact ⟨j,(by kernel_rfl)⟩
 ·rintro ⟨e,st⟩ hp
  obtain ⟨jw,rfl⟩:∃y,y=o:=⟨o,rfl⟩
  obtain ⟨he,hst⟩:=hp
  obtain rfl:e= .exit 0:=he
  refine Unw.iP<|us<|gs<|g2 c72 j j hst (q (oMv j j)<|q (kC j j j j j)<|nl)<|us<|Go.ret (Unw.ret ?_)
  cases h
  exact fr agE j
theorem IM {d_0:aA} {r:(List (List Int))} (h:su d_0=some r):FX 46 [.im 2 false [.cp (ak d_0) 0]] (B0 [(false,[.ow 0 1 (List.map (eL 1 eI) r)])]):=by
 unfold su at h
 refine gn 42 Tryz.func46 rfl ?_
 refine gs<|g0 j j (q (vH j j acv)<|nl)<|us<|gs<|g0 j j (q (oBS (es:=List.map (eL 1 eI) ([]:List (List Int))) j uy j pt0 (Ci j))<|q (kC j j j j j)<|nl)<|us<|gs<|gs<|g0 j j (q (ae j j)<|nl)<|us<|Go.block<|?_
 obtain ⟨o,hl,h⟩:=bs h
 refine gl c46 j _ (fun (s:(Int×(List (List Int))))=>match s with | (rD,aV)=>mk [(0,D 2 (.cp (ak d_0) 0)),(3,H 3 0),(4,iv rD)] [(3,Oc [Z (W 1 (eL 1 eI) aV)])]) (fun (bu:(List (List Int))) (p:Ex×St)=>p.1= .exit 0∧p.2.norm ([3],[3])=mk [(3,H 3 0)] [(3,Oc [Z (W 1 (eL 1 eI) bu)])]) hl (by kernel_rfl) ?_ ?_ ?_
 ·intro o p hp e
  exact nomatch (hp.1.symm.trans e)
 ·rintro ⟨rD,aV⟩ o h
  unfold kX at h
  dsimp only at h
  refine gs<|gs<|g0 j j (q (oMv j j)<|q (oMv j j)<|q (oNl j j j)<|q (oFA (r':=.im 2 _) j oK j j)<|q (oLd (cs:=[.im 2 _]) j Bi j j)<|q (gB j j Iu j)<|q (oBi j j j j)<|nl)<|us<|gc h j ah (fun LC h=>?_) fun LC h=>?_
  ·refine Go.skip<|us<|gs<|Go.block<|gs<|?_
   obtain ⟨x19,y7,h⟩:=bs h
   refine g0 j j (q (oMv j j)<|q (oMv j j)<|q (oCr (xs:=[.v false [.im 2 _],.v false [.im 0 _]]) (vs:=[(false,[.own 19 0 0])]) (v:=.v false [.own 19 0 0]) (c:=⟨.sh,0,_⟩) (cs:=[]) (KI y7) (.inl j) j Ve j (ppC j (ppC j pp0)) j j pb0 j j j)<|q (kC j j j j j)<|nl)<|us<|gs<|g0 j j (q (ae j j)<|nl)<|us<|Go.block<|?_
   obtain ⟨o,hl,h⟩:=bs h
   refine gl c46 j _ (fun (s:(Int×(List (List Int))))=>match s with | (xJ,vM)=>mk [(0,D 2 (.cp (ak d_0) 0)),(3,H 3 0),(4,iv rD),(5,H 5 0),(6,iv xJ)] [(3,Oc [Z (W 1 (eL 1 eI) vM)]),(5,Oc [Z (W 1 eI x19)])]) (fun (zl:(List (List Int))) (p:Ex×St)=>p.1= .exit 2∧p.2.norm ([0,3,4],[3])=mk [(0,D 2 (.cp (ak d_0) 0)),(3,H 3 0),(4,iv rD)] [(3,Oc [Z (W 1 (eL 1 eI) zl)])]) hl (by kernel_rfl) ?_ ?_ ?_
   ·intro o p hp e
    exact nomatch (hp.1.symm.trans e)
   ·rintro ⟨xJ,vM⟩ o h
    unfold iG at h
    dsimp only at h
    refine gs<|gs<|g0 j j (q (oMv j j)<|q (oMv j j)<|q (GM j j lX j j j (fun e=>nomatch e))<|q (oBi j j j j)<|nl)<|us<|gc h j ah (fun hc16 h=>?_) fun hc16 h=>?_
    ·refine Go.skip<|us<|gs<|Go.join (fun st=>∃Ae,kW xJ Ae=some o∧st.norm ([0,3,4,5,6],[3,5])=mk [(0,D 2 (.cp (ak d_0) 0)),(3,H 3 0),(4,iv rD),(5,H 5 0),(6,iv xJ)] [(3,Oc [Z (W 1 (eL 1 eI) Ae)]),(5,Oc [Z (W 1 eI x19)])]) ?_ ?_
     ·rintro st ⟨Ae,h,hst⟩
      unfold kW at h
      refine us<|g2 c46 j j hst (q (oMv j j)<|q (oBi j j j j)<|q (ae j j)<|nl)<|Unw.nil<|?_
      cases h
      exact ⟨j,(by kernel_rfl)⟩
     ·intro K18
      refine Go.block<|gs<|?_
      obtain ⟨x28,hx28,h⟩:=bs h
      refine g0 j j (q (oMv j j)<|q (oMv j j)<|q (zY j hx28 fH j j j j)<|q (Iq (cs:=[.im 0 _]) j tF2 j j j j (eP hx28) j j)<|q (oMv j j)<|q (oBi j j j j)<|nl)<|us<|gc h j ah (fun hc19 h=>?_) fun hc19 h=>?_
      ·obtain ⟨x36,FZ,h⟩:=bs h
       obtain ⟨x40,KD,h⟩:=bs h
       exact g0 j j (q (oMv j j)<|q (oMv j j)<|q (oMv j j)<|q (oMv j j)<|q (zY j FZ fH j j j j)<|q (Iq (cs:=[.im 0 _]) j tF2 j j j j (eP FZ) j j)<|q (oBS (es:=List.map eI ([rD,x36]:List Int)) j fH j (ptC j (fxI fx0) j (ptC j (fxI fx0) j pt0)) (dX j fun _=>j))<|q (oBS (es:=List.map (eL 1 eI) ([([rD,x36]:List Int)]:List (List Int))) j uy j (ptC j (fxO j j fx0) j pt0) (Ci j))<|q (Ey (en:=(eL 1 eI)) (M:=([([rD,x36]:List Int)]:List (List Int))) j KD j uy j j SB (.inl ⟨_,j⟩) j j j j (kH j j) (Ci j))<|q (kC j j j j j)<|nl)<|Unw.blk<|K18 _ ⟨x40,h,(by kernel_rfl)⟩
      ·exact Go.skip<|Unw.blk<|K18 _ ⟨vM,h,(by kernel_rfl)⟩
    ·refine Go.exit<|ux<|Unw.nil<|?_
     cases h
     exact ⟨j,(by kernel_rfl)⟩
   ·rintro ⟨e,st⟩ hp
    obtain ⟨zl,rfl⟩:∃y,y=o:=⟨o,rfl⟩
    obtain ⟨he,hst⟩:=hp
    obtain rfl:e= .exit 2:=he
    refine Unw.iP<|Unw.blk<|us<|g2 c46 j j hst (q (oMv j j)<|q (oBi j j j j)<|q (ae j j)<|nl)<|Unw.nil<|?_
    cases h
    exact ⟨j,(by kernel_rfl)⟩
  ·refine Go.exit<|ux<|Unw.nil<|?_
   cases h
   exact ⟨j,(by kernel_rfl)⟩
 ·rintro ⟨e,st⟩ hp
  obtain ⟨bu,rfl⟩:∃y,y=o:=⟨o,rfl⟩
  obtain ⟨he,hst⟩:=hp
  obtain rfl:e= .exit 0:=he
  refine Unw.iP<|us<|gs<|g2 c46 j j hst (q (oMv j j)<|q (kC j j j j j)<|nl)<|us<|Go.ret (Unw.ret ?_)
  cases h
  exact fr agq j
theorem IP {a_0:Int} {b_1:Int} {r:Int} (h:wz a_0 b_1=some r):FX 74 [.im 2 false [I a_0],.im 2 false [I b_1]] (B0 [(false,[.im 0 (I r)])]):=by
 unfold wz at h
 refine gn 17 Tryz.func74 rfl ?_
 refine gs<|g0 j j (q (ae j j)<|nl)<|us<|gs<|?_
 obtain ⟨x12,zF,h⟩:=bs h
 refine g0 j j (q (oMv j j)<|q (oMv j j)<|q (oBi j j j j)<|q (oMv j j)<|q (oMv j j)<|q (oBi j j j j)<|q (oCa (xs:=[.v false [.im 0 _],.v false [.im 0 _]]) (vs:=[(false,[.im 0 _])]) (v:=.v false [.im 0 _]) (sO zF) (.inl j) j CW j (ppC j (ppC j pp0)) j j pb0 j j j)<|q (ae j j)<|nl)<|us<|gs<|?_
 obtain ⟨x16,hx16,h⟩:=bs h
 refine g0 j j (q (oMv j j)<|q (oMv j j)<|q (oBi j j j j)<|q (oCa (xs:=[.v false [.im 0 _],.v false [.im 0 _]]) (vs:=[(false,[.im 0 _])]) (v:=.v false [.im 0 _]) (wE hx16) (.inl j) j FW j (ppC j (ppC j pp0)) j j pb0 j j j)<|q (ae j j)<|nl)<|us<|Go.ret (Unw.ret ?_)
 cases h
 exact fr agF j
theorem EM {a_0:ai} {b_1:ai} {r:Int} (h:nR a_0 b_1=some r):FX 47 [.im 2 false [.cp (iE a_0) 0],.im 2 false [.cp (iE b_1) 0]] (B0 [(false,[.im 0 (I r)])]):=by
 unfold nR at h
 refine gn 35 Tryz.func47 rfl ?_
 refine gs<|g0 j j (q (ae j j)<|nl)<|us<|gs<|?_
 obtain ⟨x23,yj,h⟩:=bs h
 obtain ⟨x32,hx32,h⟩:=bs h
 obtain ⟨x33,XI,h⟩:=bs h
 refine gd c47 j j j j (mk [(4,iv (w64 (x23+x33)))] []) (t j j (oMv j j)<|t j j (oNl j j j)<|t j j (oFA (r':=.im 2 _) j rF j j)<|t j j (oLd (cs:=[.im 2 _]) j tF2 j j)<|t j j (oMv j j)<|t j j (oNl j j j)<|t j j (oFA (r':=.im 2 _) j rF j j)<|t j j (oLd (cs:=[.im 2 _]) j tF2 j j)<|t j j (oBi j j j j)<|t j j (oMv j j)<|t j j (oNl j j j)<|t j j (oFA (r':=.im 2 _) j rF j j)<|t j j (oLd (cs:=[.im 2 _]) j tF2 j j)<|t j j (oMv j j)<|t j j (oNl j j j)<|t j j (oFA (r':=.im 2 _) j rF j j)<|t j j (oLd (cs:=[.im 2 _]) j tF2 j j)<|t j j (oBi j j j j)<|t j j (oMv j j)<|t j j (oNl j j j)<|t j j (oFA (r':=.im 2 _) j zB j j)<|t j j (oLd (cs:=[.im 2 _]) j tF2 j j)<|t j j (oMv j j)<|t j j (oNl j j j)<|t j j (oFA (r':=.im 2 _) j zB j j)<|t j j (oLd (cs:=[.im 2 _]) j tF2 j j)<|sS (dN z47 j (oCa (xs:=[.v false [.im 0 _],.v false [.im 0 _]]) (vs:=[(false,[.im 0 _])]) (v:=.v false [.im 0 _]) (sO yj) (.inl j) j CW j (ppC j (ppC j pp0)) j j pb0 j j j)) trivial (sS (dN z47 j (oCa (xs:=[.v false [.im 2 _],.v false [.im 2 _]]) (vs:=[(false,[.im 0 _])]) (v:=.v false [.im 0 _]) (IP hx32) (.inl j) j Xq j (ppC j (ppC j pp0)) j j pb0 j j j)) trivial (t j j (ace j XI j j)<|t j j (oBi j j j j)<|sS (dN z47 j (ae j j)) trivial (sD (by kernel_rfl)))))<|us<|Go.ret (Unw.ret ?_)
 cases h
 exact fr agr j
end
end Go.Proofs.YtnjgcdpleghciaaGreat
