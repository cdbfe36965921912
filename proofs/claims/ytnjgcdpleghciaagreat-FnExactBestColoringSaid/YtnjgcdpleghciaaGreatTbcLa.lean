/- The machine answers, at each function of the program that is reached, what its plain function answers. Conditions: none. -/
import Derived.Test.YtnjgcdpleghciaaGreatProg
import Derived.KernelRfl
import Derived.Test.YtnjgcdpleghciaaGreatSimRs
import Derived.Test.YtnjgcdpleghciaaGreatSimRv
import Derived.Test.YtnjgcdpleghciaaGreatTbcT
namespace Go.Proofs.YtnjgcdpleghciaaGreat
open Go Go.Sim Go.Pw Go.Proofs
set_option linter.unusedVariables false
set_option linter.unusedSimpArgs false
set_option maxRecDepth 100000
set_option maxHeartbeats 4000000
noncomputable section
noncomputable abbrev aF (x:af):List AV:=[I x.X,I x.Y]
noncomputable def az (x:af):AV:= .agg (aF x)
noncomputable abbrev vF (x:dn):List AV:=[Y x.Name,W 1 eI x.Ring]
noncomputable def bQ (x:dn):AV:= .agg (vF x)
noncomputable abbrev ak (x:aA):List AV:=[I x.Width,I x.Height,W 2 az x.bn,W 2 bQ x.aB]
noncomputable def QJ (x:aA):AV:= .agg (ak x)
noncomputable abbrev iH (x:ai):List AV:=[Y x.jo,I x.dV,I x.aZ]
noncomputable def au (x:ai):AV:= .agg (iH x)
noncomputable abbrev vX (x:bf):List AV:=[I x.e0,I x.e1]
noncomputable def bZ (x:bf):AV:= .agg (vX x)
noncomputable def fc4:dm:={par:=[.cst false,.cst false,.cst false],inn:=[(10,some ([1,2,3,8,9,10,11],[3,8,11])),(19,some ([1,2,3,8,9,10,11,12,13,14,15,16],[3,8,11,12,13])),(21,some ([1,2,3,8,9,10,13,14,15,16],[3,8,13])),(25,some ([1,2,3,8,9,10,13,17],[3,8,13]))],out:=[(12,some ([1,2,3,8,9,10,11,12,13,14,15,67],[3,8,11,12,13])),(14,some ([1,2,3,8,9,10,11,12,13,14,15,72],[3,8,11,12,13])),(21,some ([1,2,3,8,9,10,13,101],[3,8,13])),(32,some ([13,17,136],[13]))],aV:=[],frz:=[],sch:=[(14,.first 0 [3,4] [1,2]<| .first 1 [2,3,4] []<| .fork 2 (.fork 3 (.first 4 [] []<| .done) (.stop)) (.stop))],shut:=[19]}
noncomputable def fc6:dm:={par:=[.cst false,.cst false],inn:=[],out:=[],aV:=[],frz:=[],sch:=[],shut:=[]}
noncomputable def fc7:dm:={par:=[.cst false,.cst false],inn:=[(10,some ([1],[]))],out:=[],aV:=[(5,([0,1,5],[]))],frz:=[],sch:=[],shut:=[]}
noncomputable def fc9:dm:={par:=[.cst false],inn:=[(3,some ([1,2,3],[1,2,3])),(4,some ([1,2,3],[1,2,3])),(5,some ([1,2,3],[1,2,3])),(6,some ([2,3],[2,3]))],out:=[],aV:=[],frz:=[],sch:=[],shut:=[]}
noncomputable def Zb:dm:={par:=[.cst false],inn:=[(4,some ([0,3,4],[3])),(6,some ([3],[3]))],out:=[],aV:=[(3,([0,3,4],[3]))],frz:=[],sch:=[],shut:=[]}
noncomputable def Zc:dm:={par:=[.cst false,.cst false],inn:=[(8,some ([],[]))],out:=[(6,some ([0,1,5,25],[]))],aV:=[(4,([0,1,5],[]))],frz:=[],sch:=[(6,.first 0 [2,3,8] [1,4,5,6,7]<| .first 1 [2,3,8] [4,5,6,7]<| .first 2 [3,8] [4,5,6,7]<| .first 3 [8] [4,5,6,7]<| .first 4 [6,7,8] [5]<| .first 5 [6,7,8] []<| .first 6 [7,8] []<| .first 7 [8] []<| .first 8 [] []<| .done)],shut:=[]}
noncomputable def Zd:dm:={par:=[.cst false,.cst false],inn:=[],out:=[],aV:=[],frz:=[],sch:=[],shut:=[]}
noncomputable def Ze:dm:={par:=[.cst false,.cst false],inn:=[(8,some ([],[]))],out:=[(6,some ([0,1,5,26],[]))],aV:=[(4,([0,1,5],[]))],frz:=[],sch:=[(6,.first 0 [2,3,8,9] [1,4,5,6,7]<| .first 1 [2,3,8,9] [4,5,6,7]<| .first 2 [3,8,9] [4,5,6,7]<| .first 3 [8,9] [4,5,6,7]<| .first 4 [6,7,8,9] [5]<| .first 5 [6,7,8,9] []<| .first 6 [7,8,9] []<| .first 7 [8,9] []<| .fork 8 (.first 9 [] []<| .done) (.stop))],shut:=[]}
noncomputable def Zg:dm:={par:=[.ws,.cst false],inn:=[],out:=[],aV:=[],frz:=[],sch:=[],shut:=[]}
noncomputable def Zh:dm:={par:=[.row,.cst false],inn:=[(5,some ([0,1,5],[0])),(7,some ([0,1,5],[0])),(9,some ([0,1,5],[0])),(10,some ([1],[0]))],out:=[],aV:=[(2,([0,1,5],[0]))],frz:=[],sch:=[],shut:=[]}
noncomputable def Zi:dm:={par:=[.row,.cst false],inn:=[(5,some ([0,1,5],[0])),(6,some ([1],[0]))],out:=[],aV:=[(2,([0,1,5],[0]))],frz:=[],sch:=[],shut:=[]}
noncomputable def Zj:dm:={par:=[.cst false,.cst false],inn:=[(7,some ([1],[]))],out:=[],aV:=[(2,([0,1,5],[]))],frz:=[],sch:=[],shut:=[]}
noncomputable def Zk:dm:={par:=[.cst false,.cst false,.cst false],inn:=[(9,some ([10],[19])),(10,some ([10],[19])),(11,some ([],[]))],out:=[(9,some ([6,7,8],[6]))],aV:=[(6,([10],[19]))],frz:=[],sch:=[(9,.first 0 [1,2,3,4,9,10,11] [5,6,7,8]<| .first 1 [2,3,4,9,10,11] [5,6,7,8]<| .first 2 [3,4,9,10,11] [5,6,7,8]<| .first 3 [4,9,10,11] [5,6,7,8]<| .first 5 [6,7,8,10,11] [4,9]<| .first 6 [7,8,10,11] [4,9]<| .first 7 [8,10,11] [4,9]<| .first 8 [10,11] [4,9]<| .fork 4 (.fork 9 (.fork 10 (.fork 11 (.done) (.stop)) (.stop)) (.stop)) (.stop))],shut:=[]}
noncomputable def Zl:dm:={par:=[.cst false,.cst false,.cst false],inn:=[(9,some ([1,10,11,12,13],[12,26])),(13,some ([],[]))],out:=[],aV:=[(6,([1,10,11],[26]))],frz:=[],sch:=[],shut:=[]}
noncomputable def Zm:dm:={par:=[.cst false,.cst false],inn:=[],out:=[],aV:=[],frz:=[],sch:=[],shut:=[]}
noncomputable def Zn:dm:={par:=[.cst false,.cst false],inn:=[(10,some ([1],[]))],out:=[],aV:=[(5,([0,1,5],[]))],frz:=[],sch:=[],shut:=[]}
noncomputable def Zo:dm:={par:=[.cst false,.cst false],inn:=[],out:=[],aV:=[],frz:=[],sch:=[],shut:=[]}
noncomputable def Zp:dm:={par:=[.cut 4,.cst false,.cst false,.cst false],inn:=[],out:=[(1,some ([1,2,3,16],[])),(3,some ([34],[]))],aV:=[],frz:=[],sch:=[],shut:=[]}
noncomputable def Zq:dm:={par:=[.cut 4,.cst false,.cst false,.cst false],inn:=[(2,some ([0,1,9],[19])),(4,some ([0,1,9,10],[19])),(6,some ([0,1,9],[19])),(11,some ([1,9],[19])),(13,some ([1,9,13],[19])),(19,some ([1,9,13,14],[14,19])),(20,some ([9],[19]))],out:=[(10,some ([1,9,11,12],[11,19])),(18,some ([1,9,13,14,15],[14,19]))],aV:=[(3,([0,1,9,10],[19])),(8,([1,9,11,12],[11,19])),(12,([1,9,13],[19])),(16,([1,9,13,14,15],[14,19]))],frz:=[],sch:=[(10,.first 0 [1,2,3,30,31] (rg [4,30])<| .first 4 [6,7,8,9,30,31] (rg [1,4,5,6,10,30])<| .first 5 [6,7,8,9,30,31] (rg [1,4,10,30])<| .first 10 [11,12,13,20,21,29,30,31] (rg [1,4,6,10,14,20,22,29])<| .first 14 (rg [16,22,29,32]) (rg [1,4,6,10,11,14,15,16,22,29])<| .first 15 (rg [16,22,29,32]) (rg [1,4,6,10,11,14,22,29])<| .first 22 (rg [24,32]) (rg [1,4,6,10,11,14,16,22,23,24])<| .first 23 (rg [24,32]) (rg [1,4,6,10,11,14,16,22])<| .first 24 (rg [25,32]) (rg [1,4,6,10,11,14,16,22])<| .first 25 (rg [26,32]) (rg [1,4,6,10,11,14,16,22])<| .first 26 [27,28,29,30,31] (rg [1,4,6,10,11,14,16,22])<| .first 27 [28,29,30,31] (rg [1,4,6,10,11,14,16,22])<| .first 6 [7,8,9,30,31] (rg [1,4,11,14,16,22,28,30])<| .first 7 [8,9,30,31] (rg [1,4,11,14,16,22,28,30])<| .first 8 [9,30,31] (rg [1,4,11,14,16,22,28,30])<| .first 9 [30,31] (rg [1,4,11,14,16,22,28,30])<| .first 11 [12,13,20,21,29,30,31] [1,2,3,16,17,18,19,28]<| .first 12 [13,20,21,29,30,31] [1,2,3,16,17,18,19,28]<| .first 13 [20,21,29,30,31] [1,2,3,16,17,18,19,28]<| .first 16 (rg [17,22,29,32]) [1,2,3,28]<| .first 17 [18,19,20,21,29,30,31] [1,2,3,28]<| .first 18 [19,20,21,29,30,31] [1,2,3,28]<| .first 19 [20,21,29,30,31] [1,2,3,28]<| .first 20 [21,29,30,31] [1,2,3,28]<| .first 21 [29,30,31] [1,2,3,28]<| .fork 1 (.fork 2 (.fork 3 (.fork 28 (.fork 29 (.first 30 [31] []<| .fork 31 (.done) (.stop)) (.stop)) (.stop)) (.fork 28 (.fork 3 (.fork 29 (.first 30 [31] []<| .fork 31 (.done) (.stop)) (.stop)) (.fork 29 (.fork 3 (.first 30 [31] []<| .fork 31 (.done) (.stop)) (.stop)) (.stop))) (.stop))) (.fork 28 (.fork 2 (.fork 3 (.fork 29 (.first 30 [31] []<| .fork 31 (.done) (.stop)) (.stop)) (.fork 29 (.fork 3 (.first 30 [31] []<| .fork 31 (.done) (.stop)) (.stop)) (.stop))) (.fork 29 (.fork 2 (.fork 3 (.first 30 [31] []<| .fork 31 (.done) (.stop)) (.stop)) (.stop)) (.stop))) (.stop))) (.fork 28 (.fork 1 (.fork 2 (.fork 3 (.fork 29 (.first 30 [31] []<| .fork 31 (.done) (.stop)) (.stop)) (.fork 29 (.fork 3 (.first 30 [31] []<| .fork 31 (.done) (.stop)) (.stop)) (.stop))) (.fork 29 (.fork 2 (.fork 3 (.first 30 [31] []<| .fork 31 (.done) (.stop)) (.stop)) (.stop)) (.stop))) (.fork 29 (.fork 1 (.fork 2 (.fork 3 (.first 30 [31] []<| .fork 31 (.done) (.stop)) (.stop)) (.stop)) (.stop)) (.stop))) (.stop))),(18,.first 0 [9,10] (rg [1,9])<| .first 1 [3,7,8,9,10] [2,4,5,6]<| .first 2 [3,7,8,9,10] [4,5,6]<| .first 3 [7,8,9,10] [4,5,6]<| .first 4 [6,7,8,9,10] [5]<| .first 5 [6,7,8,9,10] []<| .first 6 [7,8,9,10] []<| .fork 7 (.fork 8 (.fork 9 (.fork 10 (.done) (.stop)) (.stop)) (.stop)) (.stop))],shut:=[]}
noncomputable def Zr:dm:={par:=[.ptr [.gone,.sh,.imm,.imm,.sh,.imm,.imm,.imm]],inn:=[(6,some ([0,3,4],[0])),(12,some ([0,3,4,5],[0,5])),(17,some ([0,3,4,7],[0])),(20,some ([0,3,4],[0])),(23,some ([0,3,4],[0])),(24,some ([0,3,4],[0])),(25,some ([],[0])),(26,some ([0,3,4],[0])),(27,some ([],[0]))],out:=[(12,some ([0,3,4,7],[0])),(14,some ([0,3,4,7,8,69],[0])),(16,some ([0,3,4,7,8],[0])),(18,some ([0,3,4,112],[0]))],aV:=[(5,([0,3,4],[0])),(9,([0,3,4,5,6],[0,5])),(14,([0,3,4,7,8],[0]))],frz:=[],sch:=[(16,.first 0 [1,2,3,5,6,23,24,29,30] (rg [4,5,7,23,25,29])<| .first 1 [2,3,5,6,23,24,29,30] (rg [4,5,7,23,25,29])<| .first 2 [3,5,6,23,24,29,30] (rg [4,5,7,23,25,29])<| .first 3 [5,6,23,24,29,30] (rg [4,5,7,23,25,29])<| .first 4 [5,6,23,24,29,30] (rg [7,23,25,29])<| .first 5 [6,23,24,29,30] (rg [7,23,25,29])<| .first 6 [23,24,29,30] (rg [7,23,25,29])<| .first 7 [8,9,10,21,22,23,24,29,30] (rg [11,21,25,29])<| .first 8 [9,10,21,22,23,24,29,30] (rg [11,21,25,29])<| .first 9 [10,21,22,23,24,29,30] (rg [11,21,25,29])<| .first 10 [21,22,23,24,29,30] (rg [11,21,25,29])<| .first 11 (rg [12,15,16,18,19,25,29,31]) [15,18,25,26,27,28]<| .first 12 (rg [13,15,16,18,19,25,29,31]) [15,18,25,26,27,28]<| .first 13 [14,16,17,19,20,21,22,23,24,29,30] [15,18,25,26,27,28]<| .first 14 (rg [16,18,19,25,29,31]) [15,18,25,26,27,28]<| .first 15 (rg [16,18,19,25,29,31]) [18,25,26,27,28]<| .first 16 [17,19,20,21,22,23,24,29,30] [18,25,26,27,28]<| .first 17 (rg [19,25,29,31]) [18,25,26,27,28]<| .first 18 (rg [19,25,29,31]) [25,26,27,28]<| .first 19 [20,21,22,23,24,29,30] [25,26,27,28]<| .first 20 [21,22,23,24,29,30] [25,26,27,28]<| .first 21 [22,23,24,29,30] [25,26,27,28]<| .first 22 [23,24,29,30] [25,26,27,28]<| .first 23 [24,29,30] [25,26,27,28]<| .first 24 [29,30] [25,26,27,28]<| .first 25 [26,27,28,29,30] []<| .first 26 [27,28,29,30] []<| .first 27 [28,29,30] []<| .first 28 [29,30] []<| .first 29 [30] []<| .fork 30 (.done) (.stop)),(18,.first 0 [1,2,3,8] [4,5,6,7]<| .first 1 [2,3,8] [4,5,6,7]<| .first 2 [3,8] [4,5,6,7]<| .first 3 [8] [4,5,6,7]<| .first 4 [5,6,7,8] []<| .first 5 [6,7,8] []<| .first 6 [7,8] []<| .first 7 [8] []<| .first 8 [] []<| .done)],shut:=[]}
noncomputable def Zt:dm:={par:=[.cst false],inn:=[],out:=[],aV:=[],frz:=[],sch:=[],shut:=[]}
noncomputable def Zu:dm:={par:=[.cst false],inn:=[(4,some ([0,3,4],[3])),(6,some ([3],[3]))],out:=[],aV:=[(3,([0,3,4],[3]))],frz:=[],sch:=[],shut:=[]}
noncomputable def Zv:dm:={par:=[.cst false],inn:=[(4,some ([0,3,4],[3])),(6,some ([3],[3]))],out:=[],aV:=[(3,([0,3,4],[3]))],frz:=[],sch:=[],shut:=[]}
noncomputable def Zw:dm:={par:=[.cst false],inn:=[(3,some ([1,2,3],[1,2,3])),(4,some ([1,2,3],[1,2,3])),(5,some ([2,3],[2,3]))],out:=[],aV:=[],frz:=[],sch:=[],shut:=[]}
noncomputable def Zx:dm:={par:=[.cst false,.cst false,.cst false,.cst false],inn:=[],out:=[(1,some ([1,2,3,9],[])),(3,some ([18],[]))],aV:=[],frz:=[],sch:=[],shut:=[]}
noncomputable def Zy:dm:={par:=[.cst false],inn:=[(2,some ([1,3],[1,3])),(5,some ([3,5,11,12,13],[3,5])),(7,some ([3],[3])),(14,some ([3,6,7,8,28,29,33,34],[3,6,8])),(16,some ([3,6,7,28,29,33,34],[3,6])),(17,some ([3,6,28,29],[3,6])),(18,some ([6],[6]))],out:=[(5,some ([3,11,12,13],[3])),(14,some ([3,6,7,8,28,29,33,34,47],[3,6,8])),(15,some ([3,6,7,28,29,33,34],[3,6]))],aV:=[(3,([3,11,12,13],[3])),(9,([3,6,28,29],[3,6])),(12,([3,6,7,28,29,33,34],[3,6]))],frz:=[2],sch:=[(5,.first 1 [2,3,4,5,6] [0]<| .first 2 [3,4,5,6] [0]<| .first 0 [5,6] [3,4]<| .fork 3 (.fork 4 (.fork 5 (.fork 6 (.done) (.stop)) (.stop)) (.stop)) (.stop)),(15,.first 0 [9,10] (rg [1,9])<| .first 1 [9,10] (rg [2,9])<| .first 2 [4,5,8,9,10] [3,6,7]<| .first 3 [4,5,8,9,10] [6,7]<| .first 6 [7,8,9,10] [4,5]<| .first 4 [5,8,9,10] [7]<| .first 5 [8,9,10] [7]<| .fork 7 (.fork 8 (.first 9 [10] []<| .fork 10 (.done) (.stop)) (.stop)) (.stop))],shut:=[]}
noncomputable def Zz:dm:={par:=[.ptr [.gone,.imm,.imm],.mv,.cst false,.cst false],inn:=[(6,some ([0,1,2,3,10,11],[0,1,11])),(17,some ([0,1,2,3,10,11,12,13,38,39],[0,1,11])),(21,some ([0,1,2,3,10,11,12,38,39],[0,1,11])),(22,some ([0,1,2,3,10,11,16,17,38,39],[0,1,11,16])),(24,some ([0,1,2,3,10,11,38,39],[0,1,11])),(25,some ([],[0]))],out:=[(10,some ([0,1,2,3,10,11,12,38,39,51],[0,1,11])),(15,some ([0,1,2,3,10,11,12,13,38,39,58,59,60],[0,1,11]))],aV:=[(8,([0,1,2,3,10,11,38,39],[0,1,11])),(13,([0,1,2,3,10,11,12,13,38,39,58,59,60],[0,1,11]))],frz:=[],sch:=[(15,.first 0 (rg [1,29]) []<| .first 1 (rg [2,29]) []<| .first 2 (rg [4,29]) [3]<| .first 3 (rg [4,29]) []<| .first 4 (rg [5,29]) []<| .first 5 (rg [6,29]) []<| .first 6 [7,8,9,11,12,23,25,26,27,28] (rg [10,11,13,23,24,25])<| .first 7 [8,9,11,12,23,25,26,27,28] (rg [10,11,13,23,24,25])<| .first 8 [9,11,12,23,25,26,27,28] (rg [10,11,13,23,24,25])<| .first 9 [11,12,23,25,26,27,28] (rg [10,11,13,23,24,25])<| .first 10 [11,12,23,25,26,27,28] (rg [13,23,24,25])<| .first 11 [12,23,25,26,27,28] (rg [13,23,24,25])<| .first 12 [23,25,26,27,28] (rg [13,23,24,25])<| .first 13 (rg [14,17,21,24,25,29]) [17,18,19,20,24]<| .first 14 [15,16,21,22,23,25,26,27,28] [17,18,19,20,24]<| .first 15 [16,21,22,23,25,26,27,28] [17,18,19,20,24]<| .first 16 [21,22,23,25,26,27,28] [17,18,19,20,24]<| .first 17 (rg [19,24,25,29]) [18,24]<| .first 18 (rg [19,24,25,29]) [24]<| .first 19 (rg [20,24,25,29]) [24]<| .first 20 [21,22,23,25,26,27,28] [24]<| .first 21 [22,23,25,26,27,28] [24]<| .first 22 [23,25,26,27,28] [24]<| .first 24 [25,26,27,28] [23]<| .fork 23 (.first 25 [26,27,28] []<| .first 26 [27,28] []<| .first 27 [28] []<| .fork 28 (.done) (.stop)) (.stop))],shut:=[]}
noncomputable def ZA:dm:={par:=[.cst false,.cst false],inn:=[(8,some ([],[]))],out:=[(6,some ([0,1,5,26],[]))],aV:=[(4,([0,1,5],[]))],frz:=[],sch:=[(6,.first 0 [2,3,8,9] [1,4,5,6,7]<| .first 1 [2,3,8,9] [4,5,6,7]<| .first 2 [3,8,9] [4,5,6,7]<| .first 3 [8,9] [4,5,6,7]<| .first 4 [6,7,8,9] [5]<| .first 5 [6,7,8,9] []<| .first 6 [7,8,9] []<| .first 7 [8,9] []<| .fork 8 (.first 9 [] []<| .done) (.stop))],shut:=[]}
noncomputable def ZB:dm:={par:=[.cst false,.cst false],inn:=[(8,some ([],[]))],out:=[(6,some ([0,1,5,26],[]))],aV:=[(4,([0,1,5],[]))],frz:=[],sch:=[(6,.first 0 [2,3,8,9] [1,4,5,6,7]<| .first 1 [2,3,8,9] [4,5,6,7]<| .first 2 [3,8,9] [4,5,6,7]<| .first 3 [8,9] [4,5,6,7]<| .first 4 [6,7,8,9] [5]<| .first 5 [6,7,8,9] []<| .first 6 [7,8,9] []<| .first 7 [8,9] []<| .fork 8 (.first 9 [] []<| .done) (.stop))],shut:=[]}
noncomputable def ZC:dm:={par:=[.cst false,.cst false],inn:=[],out:=[],aV:=[],frz:=[],sch:=[],shut:=[]}
noncomputable def ZE:dm:={par:=[.row,.cst false],inn:=[(5,some ([0,1,5],[])),(7,some ([0,1,5],[])),(8,some ([1],[]))],out:=[],aV:=[(2,([0,1,5],[]))],frz:=[],sch:=[],shut:=[]}
noncomputable def ZF:dm:={par:=[.ws,.cst false],inn:=[(5,some ([0,1,5],[])),(7,some ([1],[]))],out:=[],aV:=[(2,([0,1,5],[]))],frz:=[],sch:=[],shut:=[]}
noncomputable def ZG:dm:={par:=[.cst false],inn:=[(7,some ([3],[]))],out:=[],aV:=[(4,([0,3],[]))],frz:=[],sch:=[],shut:=[]}
noncomputable def ZH:dm:={par:=[.cst false,.cst false],inn:=[],out:=[],aV:=[],frz:=[],sch:=[],shut:=[]}
noncomputable def ZI:dm:={par:=[.cut 4],inn:=[(11,some ([],[]))],out:=[(1,some ([0,32],[])),(6,some ([0,3,75],[])),(9,some ([0,3,95],[]))],aV:=[(4,([0,3],[]))],frz:=[],sch:=[(6,.first 0 (rg [1,4,5,34]) [4]<| .first 1 (rg [2,4,5,34]) [4]<| .first 2 (rg [3,4,5,34]) [4]<| .first 3 (rg [5,34]) [4]<| .first 4 (rg [5,34]) []<| .first 5 (rg [6,34]) []<| .first 6 (rg [7,34]) []<| .first 7 (rg [8,34]) []<| .fork 8 (.first 9 (rg [10,34]) []<| .first 10 (rg [11,34]) []<| .first 11 (rg [12,34]) []<| .first 12 (rg [13,34]) []<| .first 13 (rg [14,34]) []<| .first 14 [15,16,17,20,21,22,31,32,33] (rg [18,20,23,31])<| .first 15 [16,17,20,21,22,31,32,33] (rg [18,20,23,31])<| .first 16 [17,20,21,22,31,32,33] (rg [18,20,23,31])<| .first 17 [20,21,22,31,32,33] (rg [18,20,23,31])<| .first 18 [19,20,21,22,31,32,33] (rg [23,31])<| .first 19 [20,21,22,31,32,33] (rg [23,31])<| .first 20 [21,22,31,32,33] (rg [23,31])<| .first 21 [22,31,32,33] (rg [23,31])<| .first 22 [31,32,33] (rg [23,31])<| .first 23 (rg [24,27,28,34]) [27]<| .first 24 (rg [25,27,28,34]) [27]<| .first 25 [26,28,29,30,31,32,33] [27]<| .first 26 (rg [28,34]) [27]<| .first 27 (rg [28,34]) []<| .first 28 [29,30,31,32,33] []<| .first 29 [30,31,32,33] []<| .first 30 [31,32,33] []<| .first 31 [32,33] []<| .first 32 [33] []<| .first 33 [] []<| .done) (.stop))],shut:=[]}
noncomputable def ZJ:dm:={par:=[.cst false],inn:=[(6,some ([],[]))],out:=[],aV:=[(2,([0,3],[]))],frz:=[],sch:=[],shut:=[]}
noncomputable def ZK:dm:={par:=[.cst false,.cst false,.cst false],inn:=[],out:=[(1,some ([6],[]))],aV:=[],frz:=[],sch:=[],shut:=[]}
noncomputable def ZL:dm:={par:=[.cut 4],inn:=[(4,some ([0,3,4],[3])),(8,some ([0,3,4,5,6],[3,5])),(11,some ([3],[3]))],out:=[],aV:=[(3,([0,3,4],[3])),(7,([0,3,4,5,6],[3,5]))],frz:=[],sch:=[],shut:=[]}
noncomputable def ZM:dm:={par:=[.cut 3,.cut 3],inn:=[],out:=[(1,some ([4],[]))],aV:=[],frz:=[],sch:=[(1,.first 0 [1,2,3,8,18,27,28,29,30] (rg [4,8,9,18,19,27])<| .first 1 [2,3,8,18,27,28,29,30] (rg [4,8,9,18,19,27])<| .first 2 [3,8,18,27,28,29,30] (rg [4,8,9,18,19,27])<| .first 3 [8,18,27,28,29,30] (rg [4,8,9,18,19,27])<| .first 4 [5,6,7,8,18,27,28,29,30] (rg [9,18,19,27])<| .first 5 [6,7,8,18,27,28,29,30] (rg [9,18,19,27])<| .first 6 [7,8,18,27,28,29,30] (rg [9,18,19,27])<| .first 7 [8,18,27,28,29,30] (rg [9,18,19,27])<| .first 8 [18,27,28,29,30] (rg [9,18,19,27])<| .first 9 [10,11,12,17,18,27,28,29,30] (rg [13,17,19,27])<| .first 10 [11,12,17,18,27,28,29,30] (rg [13,17,19,27])<| .first 11 [12,17,18,27,28,29,30] (rg [13,17,19,27])<| .first 12 [17,18,27,28,29,30] (rg [13,17,19,27])<| .first 13 (rg [14,19,27,31]) (rg [19,27])<| .first 14 (rg [15,19,27,31]) (rg [19,27])<| .first 15 [16,17,18,27,28,29,30] (rg [19,27])<| .first 16 [17,18,27,28,29,30] (rg [19,27])<| .first 17 [18,27,28,29,30] (rg [19,27])<| .first 19 [20,21,22,27,28,29,30] [18,23,24,25,26]<| .first 20 [21,22,27,28,29,30] [18,23,24,25,26]<| .first 21 [22,27,28,29,30] [18,23,24,25,26]<| .first 22 [27,28,29,30] [18,23,24,25,26]<| .first 23 (rg [24,31]) [18]<| .first 24 (rg [25,31]) [18]<| .first 25 [26,27,28,29,30] [18]<| .first 26 [27,28,29,30] [18]<| .fork 18 (.fork 27 (.first 28 [29,30] []<| .first 29 [30] []<| .fork 30 (.done) (.stop)) (.stop)) (.stop))],shut:=[]}
noncomputable def ZN:dm:={par:=[.cst false,.cst false],inn:=[(10,some ([0,1,5,6,7],[5])),(11,some ([1,5,6],[5])),(13,some ([5],[5]))],out:=[(6,some ([0,1,5,6,7,24],[5]))],aV:=[(4,([0,1,5,6,7],[5]))],frz:=[],sch:=[],shut:=[]}
noncomputable def ZO:dm:={par:=[.cst false,.cst false],inn:=[(6,some ([],[]))],out:=[],aV:=[(2,([0,1,5],[]))],frz:=[],sch:=[],shut:=[]}
noncomputable def ZP:dm:={par:=[.cst false],inn:=[(3,some ([1,2,3],[1,2,3])),(4,some ([2,3],[2,3]))],out:=[],aV:=[],frz:=[],sch:=[],shut:=[]}
noncomputable def ZQ:dm:={par:=[.cst false],inn:=[(3,some ([1,2,3],[1,2,3])),(4,some ([2,3],[2,3]))],out:=[],aV:=[],frz:=[],sch:=[],shut:=[]}
noncomputable def ZR:dm:={par:=[.cst false],inn:=[(6,some ([1,3,4,32,33,34],[1,4])),(9,some ([1],[1])),(12,some ([1,5,6,63,64,65],[1,6])),(18,some ([],[]))],out:=[(1,some ([1,30],[1])),(6,some ([1,32,33,34,60],[1])),(12,some ([1,6,63,64,65,89],[1,6])),(15,some ([1,63,64,65,104],[1]))],aV:=[(4,([1,32,33,34],[1])),(10,([1,63,64,65],[1]))],frz:=[],sch:=[(6,.first 0 (rg [1,2,4,22]) [2,3]<| .first 1 (rg [4,22]) [2,3]<| .first 2 (rg [3,22]) []<| .first 3 (rg [4,22]) []<| .fork 4 (.first 5 (rg [6,22]) []<| .first 6 (rg [7,22]) []<| .first 7 (rg [8,9,11,22]) [9,10]<| .first 8 (rg [11,22]) [9,10]<| .first 9 (rg [10,22]) []<| .first 10 (rg [11,22]) []<| .fork 11 (.first 12 (rg [13,22]) []<| .first 13 (rg [14,22]) []<| .first 14 (rg [15,22]) []<| .first 15 [16,18,20,21] [17,19]<| .first 16 [18,20,21] [17,19]<| .first 17 [18,20,21] [19]<| .first 19 [20,21] [18]<| .fork 18 (.fork 20 (.first 21 [] []<| .done) (.stop)) (.stop)) (.stop)) (.stop)),(12,.first 0 (rg [1,20]) []<| .first 1 (rg [2,20]) []<| .fork 2 (.first 3 (rg [4,20]) []<| .first 4 (rg [5,20]) []<| .first 5 (rg [6,20]) []<| .first 6 (rg [7,20]) []<| .first 7 (rg [8,20]) []<| .first 8 [9,12,13,14,17,18,19] [10,11,15,16]<| .first 9 [12,13,14,17,18,19] [10,11,15,16]<| .first 10 [11,12,13,14,17,18,19] [15,16]<| .first 11 [12,13,14,17,18,19] [15,16]<| .first 12 [13,14,17,18,19] [15,16]<| .first 13 [14,17,18,19] [15,16]<| .first 14 [17,18,19] [15,16]<| .first 15 [16,17,18,19] []<| .first 16 [17,18,19] []<| .first 17 [18,19] []<| .first 18 [19] []<| .first 19 [] []<| .done) (.stop))],shut:=[]}
noncomputable def ZT:dm:={par:=[.cst false],inn:=[],out:=[],aV:=[],frz:=[],sch:=[],shut:=[]}
noncomputable def ZU:dm:={par:=[.cst false,.cst false,.cst false],inn:=[],out:=[(1,some ([6],[]))],aV:=[],frz:=[],sch:=[],shut:=[]}
noncomputable def ZV:dm:={par:=[.cst false],inn:=[(8,some ([3],[3]))],out:=[],aV:=[(3,([0,3,8,9,10],[3]))],frz:=[],sch:=[],shut:=[]}
noncomputable def ZW:dm:={par:=[.cst false,.cst false],inn:=[],out:=[],aV:=[],frz:=[],sch:=[],shut:=[]}
noncomputable def ZX:dm:={par:=[.cst false],inn:=[],out:=[(1,some ([4],[]))],aV:=[],frz:=[],sch:=[(1,.first 0 [2,3,5,6] [1,4]<| .first 1 [2,3,5,6] [4]<| .first 2 [3,5,6] [4]<| .first 3 [5,6] [4]<| .first 4 [5,6] []<| .fork 5 (.fork 6 (.done) (.stop)) (.stop))],shut:=[]}
noncomputable def ZY:dm:={par:=[.cst false,.cst false],inn:=[],out:=[],aV:=[],frz:=[],sch:=[],shut:=[]}
noncomputable def ZZ:dm:={par:=[.cst false,.cst false],inn:=[],out:=[],aV:=[],frz:=[],sch:=[],shut:=[]}
noncomputable def Z5:dm:={par:=[.cst false,.cst false],inn:=[],out:=[],aV:=[],frz:=[],sch:=[],shut:=[]}
noncomputable def Z8:dm:={par:=[.cst false,.cst false],inn:=[],out:=[],aV:=[],frz:=[],sch:=[],shut:=[]}
noncomputable def aab:dm:={par:=[.cst false,.cst false],inn:=[],out:=[],aV:=[],frz:=[],sch:=[],shut:=[]}
noncomputable def aac:dm:={par:=[.cst false,.cst false],inn:=[],out:=[],aV:=[],frz:=[],sch:=[],shut:=[]}
noncomputable def aad:dm:={par:=[.cut 4],inn:=[(5,some ([0,3],[])),(13,some ([],[]))],out:=[(6,some ([0,3,49],[])),(11,some ([0,3,4,69],[]))],aV:=[(4,([0,3],[])),(9,([0,3,4],[]))],frz:=[],sch:=[(6,.first 0 (rg [1,4,5,8,12,30]) [4,8,9,10,11]<| .first 1 (rg [2,4,5,8,12,30]) [4,8,9,10,11]<| .first 2 (rg [3,4,5,8,12,30]) [4,8,9,10,11]<| .first 3 (rg [5,8,12,30]) [4,8,9,10,11]<| .first 4 (rg [5,8,12,30]) [8,9,10,11]<| .first 5 (rg [6,8,12,30]) [8,9,10,11]<| .first 6 (rg [7,8,12,30]) [8,9,10,11]<| .first 7 (rg [12,30]) [8,9,10,11]<| .first 8 (rg [9,30]) []<| .first 9 (rg [10,30]) []<| .first 10 (rg [11,30]) []<| .first 11 (rg [12,30]) []<| .fork 12 (.first 13 (rg [14,30]) []<| .first 14 (rg [15,30]) []<| .first 15 [16,17,18,20,21,22,27,28,29] [19,23,24,25,26]<| .first 16 [17,18,20,21,22,27,28,29] [19,23,24,25,26]<| .first 17 [18,20,21,22,27,28,29] [19,23,24,25,26]<| .first 18 [20,21,22,27,28,29] [19,23,24,25,26]<| .first 19 [20,21,22,27,28,29] [23,24,25,26]<| .first 20 [21,22,27,28,29] [23,24,25,26]<| .first 21 [22,27,28,29] [23,24,25,26]<| .first 22 [27,28,29] [23,24,25,26]<| .first 23 (rg [24,30]) []<| .first 24 [25,26,27,28,29] []<| .first 25 [26,27,28,29] []<| .first 26 [27,28,29] []<| .fork 27 (.first 28 [29] []<| .first 29 [] []<| .done) (.stop)) (.stop)),(11,.first 0 [1,2,3,5,6,14] (rg [4,5,7,14])<| .first 1 [2,3,5,6,14] (rg [4,5,7,14])<| .first 2 [3,5,6,14] (rg [4,5,7,14])<| .first 3 [5,6,14] (rg [4,5,7,14])<| .first 4 [5,6,14] (rg [7,14])<| .first 5 [6,14] (rg [7,14])<| .first 6 [14] (rg [7,14])<| .first 7 [8,9,10,12,13,14] [11]<| .first 8 [9,10,12,13,14] [11]<| .first 9 [10,12,13,14] [11]<| .first 10 [12,13,14] [11]<| .first 11 [12,13,14] []<| .first 12 [13,14] []<| .first 13 [14] []<| .first 14 [] []<| .done)],shut:=[]}
noncomputable def aae:dm:={par:=[.cst false],inn:=[(8,some ([],[]))],out:=[(1,some ([0,16],[])),(6,some ([0,3,34],[]))],aV:=[(4,([0,3],[]))],frz:=[],sch:=[],shut:=[]}
noncomputable def aaf:dm:={par:=[.cut 4,.cst false],inn:=[(8,some ([6],[6]))],out:=[(5,some ([0,1,6,7,26],[6])),(7,some ([0,1,6,7],[6]))],aV:=[(3,([0,1,6,7],[6]))],frz:=[],sch:=[(5,.first 0 [2,3,10,11] [1,4,5,6,7,8,9]<| .first 1 [2,3,10,11] [4,5,6,7,8,9]<| .first 2 [3,10,11] [4,5,6,7,8,9]<| .first 3 [10,11] [4,5,6,7,8,9]<| .first 4 (rg [5,12]) []<| .first 5 [6,7,8,9,10,11] []<| .first 6 [7,8,9,10,11] []<| .first 7 [8,9,10,11] []<| .first 8 [9,10,11] []<| .first 9 [10,11] []<| .fork 10 (.first 11 [] []<| .done) (.stop)),(7,.first 0 [12,13] (rg [1,12])<| .first 1 (rg [2,5,9,14]) [5,6,7,8]<| .first 2 [3,4,9,10,11,12,13] [5,6,7,8]<| .first 3 [4,9,10,11,12,13] [5,6,7,8]<| .first 4 [9,10,11,12,13] [5,6,7,8]<| .first 5 (rg [7,14]) [6]<| .first 6 (rg [7,14]) []<| .first 7 (rg [8,14]) []<| .first 8 [9,10,11,12,13] []<| .first 9 [10,11,12,13] []<| .first 10 [11,12,13] []<| .fork 11 (.fork 12 (.fork 13 (.done) (.stop)) (.stop)) (.stop))],shut:=[]}
noncomputable def aag:dm:={par:=[.cst false],inn:=[(9,some ([0,3],[])),(11,some ([0,3,5],[])),(13,some ([0,3,5,6],[6])),(14,some ([0,3,5,6,7],[6,7])),(15,some ([0,3,5,6,7,8],[6,7,8])),(22,some ([0],[]))],out:=[(2,some ([0,3,17],[])),(15,some ([0,3,5,6,7,66],[6,7])),(20,some ([0,3,5,6,7,9,95],[6,7]))],aV:=[(5,([0,3,4],[])),(10,([0,3,5],[])),(18,([0,3,5,6,7,9],[6,7]))],frz:=[],sch:=[(20,.first 0 (rg [1,2,3,4,5,22]) [2,4]<| .first 1 (rg [3,4,5,22]) [2,4]<| .first 2 (rg [3,4,5,22]) [4]<| .first 3 (rg [5,22]) [4]<| .first 4 (rg [5,22]) []<| .first 5 (rg [6,22]) []<| .first 6 (rg [7,22]) []<| .first 7 [20,21] (rg [8,20])<| .first 8 [20,21] (rg [9,20])<| .first 9 [11,12,20,21] (rg [10,11,13,20])<| .first 10 [11,12,20,21] (rg [13,20])<| .first 11 [12,20,21] (rg [13,20])<| .first 12 [20,21] (rg [13,20])<| .first 13 [18,19,20,21] [14,15,16,17]<| .first 14 [15,17,18,19,20,21] [16]<| .first 15 [17,18,19,20,21] [16]<| .first 16 [17,18,19,20,21] []<| .first 17 [18,19,20,21] []<| .first 18 [19,20,21] []<| .first 19 [20,21] []<| .fork 20 (.first 21 [] []<| .done) (.stop))],shut:=[]}
noncomputable def aah:dm:={par:=[.cut 3],inn:=[],out:=[(2,some ([0,3,19],[])),(5,some ([2],[]))],aV:=[],frz:=[],sch:=[],shut:=[]}
noncomputable def aai:dm:={par:=[.cut 4,.cst false],inn:=[(5,some ([0,1,5,6,7],[5])),(11,some ([0,1,5,6,7,8],[5])),(13,some ([5],[5]))],out:=[(10,some ([0,1,5,6,7,8,9],[5])),(11,some ([0,1,5,6,7,63],[5]))],aV:=[(4,([0,1,5,6,7],[5])),(8,([0,1,5,6,7,8,9],[5]))],frz:=[],sch:=[(10,.first 0 (rg [1,25]) []<| .first 1 (rg [2,25]) []<| .first 2 [3,4,5,7,8,9,22,23,24] (rg [6,7,10,22])<| .first 3 [4,5,7,8,9,22,23,24] (rg [6,7,10,22])<| .first 4 [5,7,8,9,22,23,24] (rg [6,7,10,22])<| .first 5 [7,8,9,22,23,24] (rg [6,7,10,22])<| .first 6 [7,8,9,22,23,24] (rg [10,22])<| .first 7 [8,9,22,23,24] (rg [10,22])<| .first 8 [9,22,23,24] (rg [10,22])<| .first 9 [22,23,24] (rg [10,22])<| .first 10 [12,13,22,23,24] (rg [11,12,14,22])<| .first 11 [12,13,22,23,24] (rg [14,22])<| .first 12 [13,22,23,24] (rg [14,22])<| .first 13 [22,23,24] (rg [14,22])<| .first 14 [20,21,22,23,24] [15,16,17,18,19]<| .first 15 [16,19,20,21,22,23,24] [17,18]<| .first 16 (rg [19,25]) [17,18]<| .first 17 (rg [18,25]) []<| .first 18 (rg [19,25]) []<| .first 19 [20,21,22,23,24] []<| .first 20 [21,22,23,24] []<| .first 21 [22,23,24] []<| .fork 22 (.first 23 [24] []<| .fork 24 (.done) (.stop)) (.stop))],shut:=[]}
noncomputable def aaj:dm:={par:=[.cst false,.cst false],inn:=[],out:=[],aV:=[],frz:=[],sch:=[],shut:=[]}
noncomputable def aak:dm:={par:=[.cst false,.cst false],inn:=[],out:=[],aV:=[],frz:=[],sch:=[],shut:=[]}
noncomputable def aal:dm:={par:=[.cst false],inn:=[(4,some ([0,3,4],[3])),(6,some ([3],[3]))],out:=[],aV:=[(3,([0,3,4],[3]))],frz:=[],sch:=[],shut:=[]}
noncomputable def aam:dm:={par:=[.cst false,.cst false],inn:=[],out:=[],aV:=[],frz:=[],sch:=[],shut:=[]}
noncomputable def aan:dm:={par:=[.cst false],inn:=[(8,some ([],[]))],out:=[(1,some ([0,21],[])),(6,some ([0,3,49],[]))],aV:=[(4,([0,3],[]))],frz:=[],sch:=[],shut:=[]}
noncomputable def aao:dm:={par:=[.cst false,.cst false],inn:=[(9,some ([6],[6]))],out:=[],aV:=[(3,([0,6,10,11,12],[6]))],frz:=[],sch:=[],shut:=[]}
noncomputable def aap:dm:={par:=[.cst false],inn:=[(15,some ([0,3,23,24],[])),(16,some ([0],[]))],out:=[(2,some ([0,3,21],[])),(7,some ([0,3,4,5,6,7,23,24],[5,6,7])),(8,some ([0,3,4,5,6,23,24,59],[5,6])),(13,some ([0,3,4,5,6,8,23,24,88],[5,6]))],aV:=[(5,([0,3,23,24],[])),(11,([0,3,4,5,6,8,23,24],[5,6]))],frz:=[],sch:=[(7,.first 0 [2,3,21,22,23] (rg [1,2,4,21])<| .first 1 [2,3,21,22,23] (rg [4,21])<| .first 2 [3,21,22,23] (rg [4,21])<| .first 3 [21,22,23] (rg [4,21])<| .first 4 [9,10,22,23] (rg [5,9,11,22])<| .first 5 [6,8,9,10,22,23] (rg [7,8,11,22])<| .first 6 [8,9,10,22,23] (rg [7,8,11,22])<| .first 7 [8,9,10,22,23] (rg [11,22])<| .first 8 [9,10,22,23] (rg [11,22])<| .first 9 [10,22,23] (rg [11,22])<| .first 10 [22,23] (rg [11,22])<| .first 11 [16,17,23] (rg [12,16,18,23])<| .first 12 [13,15,16,17,23] [14,18,19,20,21,22]<| .first 13 [15,16,17,23] [14,18,19,20,21,22]<| .first 14 [15,16,17,23] [18,19,20,21,22]<| .first 15 [16,17,23] [18,19,20,21,22]<| .first 16 [17,23] [18,19,20,21,22]<| .first 17 [23] [18,19,20,21,22]<| .fork 18 (.fork 19 (.fork 20 (.fork 21 (.fork 22 (.fork 23 (.done) (.stop)) (.stop)) (.stop)) (.stop)) (.fork 20 (.fork 19 (.fork 21 (.fork 22 (.fork 23 (.done) (.stop)) (.stop)) (.stop)) (.stop)) (.stop))) (.fork 19 (.fork 18 (.fork 20 (.fork 21 (.fork 22 (.fork 23 (.done) (.stop)) (.stop)) (.stop)) (.stop)) (.fork 20 (.fork 18 (.fork 21 (.fork 22 (.fork 23 (.done) (.stop)) (.stop)) (.stop)) (.stop)) (.stop))) (.fork 20 (.fork 18 (.fork 19 (.fork 21 (.fork 22 (.fork 23 (.done) (.stop)) (.stop)) (.stop)) (.stop)) (.fork 19 (.fork 18 (.fork 21 (.fork 22 (.fork 23 (.done) (.stop)) (.stop)) (.stop)) (.stop)) (.stop))) (.stop)))),(13,.first 0 (rg [1,2,3,4,5,22]) [2,4]<| .first 1 (rg [3,4,5,22]) [2,4]<| .first 2 (rg [3,4,5,22]) [4]<| .first 3 (rg [5,22]) [4]<| .first 4 (rg [5,22]) []<| .first 5 (rg [6,22]) []<| .first 6 (rg [7,22]) []<| .first 7 [20,21] (rg [8,20])<| .first 8 [20,21] (rg [9,20])<| .first 9 [11,12,20,21] (rg [10,11,13,20])<| .first 10 [11,12,20,21] (rg [13,20])<| .first 11 [12,20,21] (rg [13,20])<| .first 12 [20,21] (rg [13,20])<| .first 13 [18,19,20,21] [14,15,16,17]<| .first 14 [15,17,18,19,20,21] [16]<| .first 15 [17,18,19,20,21] [16]<| .first 16 [17,18,19,20,21] []<| .first 17 [18,19,20,21] []<| .first 18 [19,20,21] []<| .first 19 [20,21] []<| .fork 20 (.first 21 [] []<| .done) (.stop))],shut:=[]}
noncomputable def aaq:dm:={par:=[.cst false,.cst false],inn:=[],out:=[],aV:=[],frz:=[],sch:=[],shut:=[]}
noncomputable def aar:dm:={par:=[.cst false],inn:=[],out:=[],aV:=[],frz:=[],sch:=[],shut:=[]}
noncomputable def aas:dm:={par:=[.cst false],inn:=[],out:=[(2,some ([2],[]))],aV:=[],frz:=[],sch:=[],shut:=[]}
noncomputable def aat:dm:={par:=[.cst false,.cst false],inn:=[(7,some ([],[]))],out:=[],aV:=[(2,([0,1,7,8],[]))],frz:=[],sch:=[],shut:=[]}
noncomputable def aau:dm:={par:=[.cst false,.cst false],inn:=[(7,some ([],[]))],out:=[(4,some ([0,3,5,7,8,16],[3]))],aV:=[(2,([0,3,7,8],[3]))],frz:=[],sch:=[(4,.first 0 [5] [1,2,3,4]<| .first 1 [3,4,5] [2]<| .first 2 [3,4,5] []<| .first 3 [4,5] []<| .first 4 [5] []<| .first 5 [] []<| .done)],shut:=[]}
noncomputable def aav:dm:={par:=[.cst false,.cst false],inn:=[(7,some ([],[]))],out:=[],aV:=[(2,([0,1,7,8],[]))],frz:=[],sch:=[],shut:=[]}
noncomputable def aaw:dm:={par:=[.cst false,.cst false],inn:=[],out:=[(1,some ([0,1,14],[]))],aV:=[],frz:=[],sch:=[],shut:=[]}
noncomputable def aax:dm:={par:=[.cst false],inn:=[],out:=[(1,some ([2],[]))],aV:=[],frz:=[],sch:=[],shut:=[]}
noncomputable def aay:dm:={par:=[.cst false],inn:=[],out:=[(1,some ([2],[]))],aV:=[],frz:=[],sch:=[],shut:=[]}
noncomputable def aaz:dm:={par:=[.cst false],inn:=[],out:=[(1,some ([2],[]))],aV:=[],frz:=[],sch:=[],shut:=[]}
noncomputable def aaA:dm:={par:=[.cst false,.cst false,.cst false],inn:=[],out:=[(1,some ([6],[]))],aV:=[],frz:=[],sch:=[(1,.first 0 (rg [3,36]) [1,2]<| .first 1 (rg [3,36]) [2]<| .first 2 (rg [3,36]) []<| .fork 3 (.first 4 (rg [5,36]) []<| .first 5 (rg [6,36]) []<| .first 6 (rg [7,8,18,36]) (rg [8,18])<| .first 7 (rg [18,36]) (rg [8,18])<| .first 8 (rg [9,10,12,13,17,36]) [10,11,13,14,15,16]<| .first 9 (rg [12,13,17,36]) [10,11,13,14,15,16]<| .first 10 (rg [11,13,17,36]) [13,14,15,16]<| .first 11 (rg [12,13,17,36]) [13,14,15,16]<| .first 13 (rg [14,15,17,36]) [12,15,16]<| .first 14 (rg [17,36]) [12,15,16]<| .first 15 (rg [16,36]) [12]<| .first 16 (rg [17,36]) [12]<| .fork 12 (.fork 17 (.fork 18 (.first 19 (rg [20,36]) []<| .first 20 (rg [21,36]) []<| .first 21 [22,33,34,35] (rg [23,33])<| .first 22 [33,34,35] (rg [23,33])<| .first 23 [24,27,32,33,34,35] [25,26,28,29,30,31]<| .first 24 [27,32,33,34,35] [25,26,28,29,30,31]<| .first 25 [26,27,32,33,34,35] [28,29,30,31]<| .first 26 [27,32,33,34,35] [28,29,30,31]<| .first 28 [29,32,33,34,35] [27,30,31]<| .first 29 [32,33,34,35] [27,30,31]<| .first 30 [31,32,33,34,35] [27]<| .first 31 [32,33,34,35] [27]<| .fork 27 (.fork 32 (.fork 33 (.first 34 [35] []<| .fork 35 (.done) (.stop)) (.stop)) (.stop)) (.stop)) (.stop)) (.stop)) (.stop)) (.stop))],shut:=[]}
noncomputable def aaB:dm:={par:=[.cst false,.cst false,.cst false,.cst false],inn:=[],out:=[(1,some ([8],[]))],aV:=[],frz:=[],sch:=[],shut:=[]}
noncomputable def aaC:dm:={par:=[.cst false],inn:=[(6,some ([0,3,4,5],[5])),(7,some ([3],[]))],out:=[(6,some ([0,3,4],[]))],aV:=[(3,([0,3,4],[]))],frz:=[],sch:=[(6,.first 0 [18,19] (rg [1,18])<| .first 1 [3,4,5,8,17,18,19] (rg [2,3,6,8,9,17])<| .first 2 [3,4,5,8,17,18,19] (rg [6,8,9,17])<| .first 3 [4,5,8,17,18,19] (rg [6,8,9,17])<| .first 4 [5,8,17,18,19] (rg [6,8,9,17])<| .first 5 [8,17,18,19] (rg [6,8,9,17])<| .first 6 [7,8,17,18,19] (rg [9,17])<| .first 7 [8,17,18,19] (rg [9,17])<| .first 8 [17,18,19] (rg [9,17])<| .first 9 [11,12,13,16,17,18,19] [10,14,15]<| .first 10 [11,12,13,16,17,18,19] [14,15]<| .first 11 [12,13,16,17,18,19] [14,15]<| .first 12 [13,16,17,18,19] [14,15]<| .first 13 [16,17,18,19] [14,15]<| .first 14 [15,16,17,18,19] []<| .first 15 [16,17,18,19] []<| .first 16 [17,18,19] []<| .first 17 [18,19] []<| .first 18 [19] []<| .fork 19 (.done) (.stop))],shut:=[]}
noncomputable def aaD:dm:={par:=[.cst false],inn:=[(7,some ([],[]))],out:=[],aV:=[(3,([0,3,4],[3]))],frz:=[],sch:=[],shut:=[]}
noncomputable def aaE:dm:={par:=[],inn:=[],out:=[],aV:=[],frz:=[],sch:=[],shut:=[]}
noncomputable def aaF:dm:={par:=[.cst false],inn:=[],out:=[],aV:=[],frz:=[],sch:=[],shut:=[]}
noncomputable def aaG:dm:={par:=[.cst false,.cst false,.cst false],inn:=[(8,some ([],[]))],out:=[(6,some ([0,1,2,7,45],[]))],aV:=[(2,([0,1,2,7],[]))],frz:=[],sch:=[],shut:=[]}
noncomputable def aaH:dm:={par:=[.cst false,.cst false],inn:=[],out:=[],aV:=[],frz:=[],sch:=[],shut:=[]}
noncomputable def Us:dm:={par:=[.cst false,.cst false],inn:=[(7,some ([],[]))],out:=[(4,some ([0,3,5,7,8,16],[3]))],aV:=[(2,([0,3,7,8],[3]))],frz:=[],sch:=[(4,.first 0 [5] [1,2,3,4]<| .first 1 [3,4,5] [2]<| .first 2 [3,4,5] []<| .first 3 [4,5] []<| .first 4 [5] []<| .first 5 [] []<| .done)],shut:=[]}
noncomputable def Ut:dm:={par:=[.cst false],inn:=[(4,some ([4,5,6,7],[4])),(7,some ([],[]))],out:=[],aV:=[(2,([5,6,7],[]))],frz:=[],sch:=[],shut:=[]}
noncomputable def Uu:dm:={par:=[.cst false,.cst false,.cst false],inn:=[],out:=[(1,some ([6],[]))],aV:=[],frz:=[],sch:=[],shut:=[]}
noncomputable def Uw:dm:={par:=[.cst false,.cst false,.cst false,.cst false],inn:=[],out:=[(1,some ([8],[]))],aV:=[],frz:=[],sch:=[],shut:=[]}
noncomputable def Ux:dm:={par:=[.cst false],inn:=[(5,some ([0,3,4,5,7,8,9],[5])),(6,some ([0,3,5,6,7,8,9],[5,6])),(8,some ([3],[]))],out:=[],aV:=[(3,([0,3,7,8,9],[]))],frz:=[],sch:=[],shut:=[]}
noncomputable def Uy:dm:={par:=[.cst false,.cst false],inn:=[(7,some ([],[]))],out:=[],aV:=[(2,([0,1,7,8],[]))],frz:=[],sch:=[],shut:=[]}
noncomputable def Uz:dm:={par:=[.cst false],inn:=[],out:=[],aV:=[],frz:=[],sch:=[],shut:=[]}
noncomputable def UA:dm:={par:=[.cst false,.cst false,.cst false],inn:=[],out:=[],aV:=[],frz:=[],sch:=[],shut:=[]}
noncomputable def UB:dm:={par:=[.cst false,.cst false,.cst false,.cst false],inn:=[],out:=[(1,some ([8],[]))],aV:=[],frz:=[],sch:=[(1,.first 0 (rg [3,4,7,23]) [1,2,4,5,6]<| .first 1 (rg [3,4,7,23]) [2,4,5,6]<| .first 2 (rg [3,4,7,23]) [4,5,6]<| .first 4 (rg [7,23]) [3,5,6]<| .first 5 (rg [7,23]) [3,6]<| .first 6 (rg [7,23]) [3]<| .fork 3 (.fork 7 (.first 8 (rg [9,23]) []<| .first 9 (rg [10,23]) []<| .first 10 (rg [11,23]) []<| .first 11 [14,18,19,20,21,22] [12,13,15,16,17]<| .first 12 [14,18,19,20,21,22] [13,15,16,17]<| .first 13 [14,18,19,20,21,22] [15,16,17]<| .first 15 [18,19,20,21,22] [14,16,17]<| .first 16 [18,19,20,21,22] [14,17]<| .first 17 [18,19,20,21,22] [14]<| .fork 14 (.fork 18 (.first 19 [20,21,22] []<| .first 20 [21,22] []<| .first 21 [22] []<| .fork 22 (.done) (.stop)) (.stop)) (.stop)) (.stop)) (.stop))],shut:=[]}
noncomputable def UC:dm:={par:=[],inn:=[],out:=[],aV:=[],frz:=[],sch:=[],shut:=[]}
noncomputable def UD:dm:={par:=[.cst false],inn:=[],out:=[(1,some ([2],[]))],aV:=[],frz:=[],sch:=[],shut:=[]}
noncomputable def UE:dm:={par:=[.cst false,.cst false,.cst false],inn:=[],out:=[],aV:=[],frz:=[],sch:=[],shut:=[]}
noncomputable def UF:dm:={par:=[.cst false,.cst false,.cst false,.cst false],inn:=[],out:=[(1,some ([8],[]))],aV:=[],frz:=[],sch:=[(1,.first 0 (rg [3,4,7,23]) [1,2,4,5,6]<| .first 1 (rg [3,4,7,23]) [2,4,5,6]<| .first 2 (rg [3,4,7,23]) [4,5,6]<| .first 4 (rg [7,23]) [3,5,6]<| .first 5 (rg [7,23]) [3,6]<| .first 6 (rg [7,23]) [3]<| .fork 3 (.fork 7 (.first 8 (rg [9,23]) []<| .first 9 (rg [10,23]) []<| .first 10 (rg [11,23]) []<| .first 11 [14,18,19,20,21,22] [12,13,15,16,17]<| .first 12 [14,18,19,20,21,22] [13,15,16,17]<| .first 13 [14,18,19,20,21,22] [15,16,17]<| .first 15 [18,19,20,21,22] [14,16,17]<| .first 16 [18,19,20,21,22] [14,17]<| .first 17 [18,19,20,21,22] [14]<| .fork 14 (.fork 18 (.first 19 [20,21,22] []<| .first 20 [21,22] []<| .first 21 [22] []<| .fork 22 (.done) (.stop)) (.stop)) (.stop)) (.stop)) (.stop))],shut:=[]}
noncomputable def UG:dm:={par:=[.cst false],inn:=[],out:=[],aV:=[],frz:=[],sch:=[],shut:=[]}
noncomputable def UH:dm:={par:=[.cst false,.cst false,.cst false],inn:=[],out:=[],aV:=[],frz:=[],sch:=[],shut:=[]}
noncomputable def fcs:List (Nat×dm):=[(4,fc4),(6,fc6),(7,fc7),(9,fc9),(10,Zb),(12,Zc),(13,Zd),(14,Ze),(15,Zg),(16,Zh),(17,Zi),(18,Zj),(19,Zk),(20,Zl),(23,Zm),(24,Zn),(25,Zo),(26,Zp),(27,Zq),(28,Zr),(29,Zt),(30,Zu),(31,Zv),(32,Zw),(33,Zx),(34,Zy),(35,Zz),(36,ZA),(37,ZB),(38,ZC),(39,ZE),(40,ZF),(41,ZG),(42,ZH),(43,ZI),(44,ZJ),(45,ZK),(46,ZL),(47,ZM),(48,ZN),(49,ZO),(50,ZP),(51,ZQ),(52,ZR),(53,ZT),(54,ZU),(55,ZV),(56,ZW),(57,ZX),(58,ZY),(62,ZZ),(63,Z5),(64,Z8),(65,aab),(66,aac),(67,aad),(68,aae),(69,aaf),(70,aag),(71,aah),(72,aai),(73,aaj),(74,aak),(75,aal),(76,aam),(77,aan),(78,aao),(79,aap),(80,aaq),(81,aar),(82,aas),(83,aat),(84,aau),(87,aav),(88,aaw),(89,aax),(90,aay),(91,aaz),(92,aaA),(93,aaB),(94,aaC),(95,aaD),(96,aaE),(97,aaF),(98,aaG),(99,aaH),(100,Us),(101,Ut),(102,Uu),(103,Uw),(104,Ux),(105,Uy),(106,Uz),(118,UA),(119,UB),(120,UC),(121,UD),(122,UE),(123,UF),(124,UG),(131,UH),(60,{par:=[.row],inn:=[],out:=[],aV:=[],frz:=[],sch:=[],shut:=[]}),(61,{par:=[.mv],inn:=[],out:=[],aV:=[],frz:=[],sch:=[],shut:=[]})]
noncomputable def ons:List (Nat×Bool):=[(4,true),(6,true),(7,true),(9,true),(10,true),(12,true),(13,true),(14,true),(15,true),(16,true),(17,true),(18,true),(19,true),(20,true),(23,true),(24,true),(25,true),(26,true),(27,true),(28,true),(29,true),(30,true),(31,true),(32,true),(33,true),(34,true),(35,true),(36,true),(37,true),(38,true),(39,true),(40,true),(41,true),(42,true),(43,true),(44,true),(45,true),(46,true),(47,true),(48,true),(49,true),(50,true),(51,true),(52,true),(53,true),(54,true),(55,true),(56,true),(57,true),(58,true),(62,true),(63,true),(64,true),(65,true),(66,true),(67,true),(68,true),(69,true),(70,true),(71,true),(72,true),(73,true),(74,true),(75,true),(76,true),(77,true),(78,true),(79,true),(80,true),(81,true),(82,true),(83,true),(84,true),(87,true),(88,true),(89,true),(90,true),(91,true),(92,true),(93,true),(94,true),(95,true),(96,true),(97,true),(98,true),(99,true),(100,true),(101,true),(102,true),(103,true),(104,true),(105,true),(106,true),(118,true),(119,true),(120,true),(121,true),(122,true),(123,true),(124,true),(131,true)]
noncomputable def cfg:Cfg:=Xt ons fcs [(59,some (Aq 1 8)),(60,some Gn),(61,some yF)] [(61,26),(112,35),(112,1000019),(112,2000019)] [] [(9,42),(9,43),(9,46)]
theorem c4:cfg.fc 4=fc4:=rfl
instance C4:Cf cfg 4 fc4:=⟨c4⟩
instance Z4:Zf cfg 4:=⟨rfl⟩
theorem z4:(cfg.fc 4).frz=[]:=rfl
theorem c6:cfg.fc 6=fc6:=rfl
instance C6:Cf cfg 6 fc6:=⟨c6⟩
instance Z6:Zf cfg 6:=⟨rfl⟩
theorem c7:cfg.fc 7=fc7:=rfl
instance C7:Cf cfg 7 fc7:=⟨c7⟩
instance Z7:Zf cfg 7:=⟨rfl⟩
theorem c9:cfg.fc 9=fc9:=rfl
instance C9:Cf cfg 9 fc9:=⟨c9⟩
instance Z9:Zf cfg 9:=⟨rfl⟩
theorem c10:cfg.fc 10=Zb:=rfl
instance C10:Cf cfg 10 Zb:=⟨c10⟩
instance Z10:Zf cfg 10:=⟨rfl⟩
theorem c12:cfg.fc 12=Zc:=rfl
instance C12:Cf cfg 12 Zc:=⟨c12⟩
instance Z12:Zf cfg 12:=⟨rfl⟩
theorem c13:cfg.fc 13=Zd:=rfl
instance C13:Cf cfg 13 Zd:=⟨c13⟩
instance Z13:Zf cfg 13:=⟨rfl⟩
theorem c14:cfg.fc 14=Ze:=rfl
instance C14:Cf cfg 14 Ze:=⟨c14⟩
instance Z14:Zf cfg 14:=⟨rfl⟩
theorem z14:(cfg.fc 14).frz=[]:=rfl
theorem c15:cfg.fc 15=Zg:=rfl
instance C15:Cf cfg 15 Zg:=⟨c15⟩
instance Z15:Zf cfg 15:=⟨rfl⟩
theorem c16:cfg.fc 16=Zh:=rfl
instance C16:Cf cfg 16 Zh:=⟨c16⟩
instance Z16:Zf cfg 16:=⟨rfl⟩
theorem c17:cfg.fc 17=Zi:=rfl
instance C17:Cf cfg 17 Zi:=⟨c17⟩
instance Z17:Zf cfg 17:=⟨rfl⟩
theorem c18:cfg.fc 18=Zj:=rfl
instance C18:Cf cfg 18 Zj:=⟨c18⟩
instance Z18:Zf cfg 18:=⟨rfl⟩
theorem c19:cfg.fc 19=Zk:=rfl
instance C19:Cf cfg 19 Zk:=⟨c19⟩
instance Z19:Zf cfg 19:=⟨rfl⟩
theorem z19:(cfg.fc 19).frz=[]:=rfl
theorem c20:cfg.fc 20=Zl:=rfl
instance C20:Cf cfg 20 Zl:=⟨c20⟩
instance Z20:Zf cfg 20:=⟨rfl⟩
theorem c23:cfg.fc 23=Zm:=rfl
instance C23:Cf cfg 23 Zm:=⟨c23⟩
instance Z23:Zf cfg 23:=⟨rfl⟩
theorem z23:(cfg.fc 23).frz=[]:=rfl
theorem c24:cfg.fc 24=Zn:=rfl
instance C24:Cf cfg 24 Zn:=⟨c24⟩
instance Z24:Zf cfg 24:=⟨rfl⟩
theorem c25:cfg.fc 25=Zo:=rfl
instance C25:Cf cfg 25 Zo:=⟨c25⟩
instance Z25:Zf cfg 25:=⟨rfl⟩
theorem c26:cfg.fc 26=Zp:=rfl
instance C26:Cf cfg 26 Zp:=⟨c26⟩
instance Z26:Zf cfg 26:=⟨rfl⟩
theorem c27:cfg.fc 27=Zq:=rfl
instance C27:Cf cfg 27 Zq:=⟨c27⟩
instance Z27:Zf cfg 27:=⟨rfl⟩
theorem z27:(cfg.fc 27).frz=[]:=rfl
theorem c28:cfg.fc 28=Zr:=rfl
instance C28:Cf cfg 28 Zr:=⟨c28⟩
instance Z28:Zf cfg 28:=⟨rfl⟩
theorem z28:(cfg.fc 28).frz=[]:=rfl
theorem c29:cfg.fc 29=Zt:=rfl
instance C29:Cf cfg 29 Zt:=⟨c29⟩
instance Z29:Zf cfg 29:=⟨rfl⟩
theorem c30:cfg.fc 30=Zu:=rfl
instance C30:Cf cfg 30 Zu:=⟨c30⟩
instance Z30:Zf cfg 30:=⟨rfl⟩
theorem c31:cfg.fc 31=Zv:=rfl
instance C31:Cf cfg 31 Zv:=⟨c31⟩
instance Z31:Zf cfg 31:=⟨rfl⟩
theorem c32:cfg.fc 32=Zw:=rfl
instance C32:Cf cfg 32 Zw:=⟨c32⟩
instance Z32:Zf cfg 32:=⟨rfl⟩
theorem c33:cfg.fc 33=Zx:=rfl
instance C33:Cf cfg 33 Zx:=⟨c33⟩
instance Z33:Zf cfg 33:=⟨rfl⟩
theorem c34:cfg.fc 34=Zy:=rfl
instance C34:Cf cfg 34 Zy:=⟨c34⟩
theorem z34:(cfg.fc 34).frz=[2]:=rfl
theorem c35:cfg.fc 35=Zz:=rfl
instance C35:Cf cfg 35 Zz:=⟨c35⟩
instance Z35:Zf cfg 35:=⟨rfl⟩
theorem z35:(cfg.fc 35).frz=[]:=rfl
theorem c36:cfg.fc 36=ZA:=rfl
instance C36:Cf cfg 36 ZA:=⟨c36⟩
instance Z36:Zf cfg 36:=⟨rfl⟩
theorem z36:(cfg.fc 36).frz=[]:=rfl
theorem c37:cfg.fc 37=ZB:=rfl
instance C37:Cf cfg 37 ZB:=⟨c37⟩
instance Z37:Zf cfg 37:=⟨rfl⟩
theorem z37:(cfg.fc 37).frz=[]:=rfl
theorem c38:cfg.fc 38=ZC:=rfl
instance C38:Cf cfg 38 ZC:=⟨c38⟩
instance Z38:Zf cfg 38:=⟨rfl⟩
theorem c39:cfg.fc 39=ZE:=rfl
instance C39:Cf cfg 39 ZE:=⟨c39⟩
instance Z39:Zf cfg 39:=⟨rfl⟩
theorem c40:cfg.fc 40=ZF:=rfl
instance C40:Cf cfg 40 ZF:=⟨c40⟩
instance Z40:Zf cfg 40:=⟨rfl⟩
theorem c41:cfg.fc 41=ZG:=rfl
instance C41:Cf cfg 41 ZG:=⟨c41⟩
instance Z41:Zf cfg 41:=⟨rfl⟩
theorem c42:cfg.fc 42=ZH:=rfl
instance C42:Cf cfg 42 ZH:=⟨c42⟩
instance Z42:Zf cfg 42:=⟨rfl⟩
theorem c43:cfg.fc 43=ZI:=rfl
instance C43:Cf cfg 43 ZI:=⟨c43⟩
instance Z43:Zf cfg 43:=⟨rfl⟩
theorem z43:(cfg.fc 43).frz=[]:=rfl
theorem c44:cfg.fc 44=ZJ:=rfl
instance C44:Cf cfg 44 ZJ:=⟨c44⟩
instance Z44:Zf cfg 44:=⟨rfl⟩
theorem c45:cfg.fc 45=ZK:=rfl
instance C45:Cf cfg 45 ZK:=⟨c45⟩
instance Z45:Zf cfg 45:=⟨rfl⟩
theorem c46:cfg.fc 46=ZL:=rfl
instance C46:Cf cfg 46 ZL:=⟨c46⟩
instance Z46:Zf cfg 46:=⟨rfl⟩
theorem c47:cfg.fc 47=ZM:=rfl
instance C47:Cf cfg 47 ZM:=⟨c47⟩
instance Z47:Zf cfg 47:=⟨rfl⟩
theorem z47:(cfg.fc 47).frz=[]:=rfl
theorem c48:cfg.fc 48=ZN:=rfl
instance C48:Cf cfg 48 ZN:=⟨c48⟩
instance Z48:Zf cfg 48:=⟨rfl⟩
theorem c49:cfg.fc 49=ZO:=rfl
instance C49:Cf cfg 49 ZO:=⟨c49⟩
instance Z49:Zf cfg 49:=⟨rfl⟩
theorem c50:cfg.fc 50=ZP:=rfl
instance C50:Cf cfg 50 ZP:=⟨c50⟩
instance Z50:Zf cfg 50:=⟨rfl⟩
theorem c51:cfg.fc 51=ZQ:=rfl
instance C51:Cf cfg 51 ZQ:=⟨c51⟩
instance Z51:Zf cfg 51:=⟨rfl⟩
theorem c52:cfg.fc 52=ZR:=rfl
instance C52:Cf cfg 52 ZR:=⟨c52⟩
instance Z52:Zf cfg 52:=⟨rfl⟩
theorem z52:(cfg.fc 52).frz=[]:=rfl
theorem c53:cfg.fc 53=ZT:=rfl
instance C53:Cf cfg 53 ZT:=⟨c53⟩
instance Z53:Zf cfg 53:=⟨rfl⟩
theorem c54:cfg.fc 54=ZU:=rfl
instance C54:Cf cfg 54 ZU:=⟨c54⟩
instance Z54:Zf cfg 54:=⟨rfl⟩
theorem c55:cfg.fc 55=ZV:=rfl
instance C55:Cf cfg 55 ZV:=⟨c55⟩
instance Z55:Zf cfg 55:=⟨rfl⟩
theorem c56:cfg.fc 56=ZW:=rfl
instance C56:Cf cfg 56 ZW:=⟨c56⟩
instance Z56:Zf cfg 56:=⟨rfl⟩
theorem c57:cfg.fc 57=ZX:=rfl
instance C57:Cf cfg 57 ZX:=⟨c57⟩
instance Z57:Zf cfg 57:=⟨rfl⟩
theorem z57:(cfg.fc 57).frz=[]:=rfl
theorem c58:cfg.fc 58=ZY:=rfl
instance C58:Cf cfg 58 ZY:=⟨c58⟩
instance Z58:Zf cfg 58:=⟨rfl⟩
theorem c62:cfg.fc 62=ZZ:=rfl
instance C62:Cf cfg 62 ZZ:=⟨c62⟩
instance Z62:Zf cfg 62:=⟨rfl⟩
theorem c63:cfg.fc 63=Z5:=rfl
instance C63:Cf cfg 63 Z5:=⟨c63⟩
instance Z63:Zf cfg 63:=⟨rfl⟩
theorem c64:cfg.fc 64=Z8:=rfl
instance C64:Cf cfg 64 Z8:=⟨c64⟩
instance Z64:Zf cfg 64:=⟨rfl⟩
theorem c65:cfg.fc 65=aab:=rfl
instance C65:Cf cfg 65 aab:=⟨c65⟩
instance Z65:Zf cfg 65:=⟨rfl⟩
theorem c66:cfg.fc 66=aac:=rfl
instance C66:Cf cfg 66 aac:=⟨c66⟩
instance Z66:Zf cfg 66:=⟨rfl⟩
theorem c67:cfg.fc 67=aad:=rfl
instance C67:Cf cfg 67 aad:=⟨c67⟩
instance Z67:Zf cfg 67:=⟨rfl⟩
theorem z67:(cfg.fc 67).frz=[]:=rfl
theorem c68:cfg.fc 68=aae:=rfl
instance C68:Cf cfg 68 aae:=⟨c68⟩
instance Z68:Zf cfg 68:=⟨rfl⟩
theorem c69:cfg.fc 69=aaf:=rfl
instance C69:Cf cfg 69 aaf:=⟨c69⟩
instance Z69:Zf cfg 69:=⟨rfl⟩
theorem z69:(cfg.fc 69).frz=[]:=rfl
theorem c70:cfg.fc 70=aag:=rfl
instance C70:Cf cfg 70 aag:=⟨c70⟩
instance Z70:Zf cfg 70:=⟨rfl⟩
theorem z70:(cfg.fc 70).frz=[]:=rfl
theorem c71:cfg.fc 71=aah:=rfl
instance C71:Cf cfg 71 aah:=⟨c71⟩
instance Z71:Zf cfg 71:=⟨rfl⟩
theorem c72:cfg.fc 72=aai:=rfl
instance C72:Cf cfg 72 aai:=⟨c72⟩
instance Z72:Zf cfg 72:=⟨rfl⟩
theorem z72:(cfg.fc 72).frz=[]:=rfl
theorem c73:cfg.fc 73=aaj:=rfl
instance C73:Cf cfg 73 aaj:=⟨c73⟩
instance Z73:Zf cfg 73:=⟨rfl⟩
theorem c74:cfg.fc 74=aak:=rfl
instance C74:Cf cfg 74 aak:=⟨c74⟩
instance Z74:Zf cfg 74:=⟨rfl⟩
theorem c75:cfg.fc 75=aal:=rfl
instance C75:Cf cfg 75 aal:=⟨c75⟩
instance Z75:Zf cfg 75:=⟨rfl⟩
theorem c76:cfg.fc 76=aam:=rfl
instance C76:Cf cfg 76 aam:=⟨c76⟩
instance Z76:Zf cfg 76:=⟨rfl⟩
theorem c77:cfg.fc 77=aan:=rfl
instance C77:Cf cfg 77 aan:=⟨c77⟩
instance Z77:Zf cfg 77:=⟨rfl⟩
theorem c78:cfg.fc 78=aao:=rfl
instance C78:Cf cfg 78 aao:=⟨c78⟩
instance Z78:Zf cfg 78:=⟨rfl⟩
theorem c79:cfg.fc 79=aap:=rfl
instance C79:Cf cfg 79 aap:=⟨c79⟩
instance Z79:Zf cfg 79:=⟨rfl⟩
theorem z79:(cfg.fc 79).frz=[]:=rfl
theorem c80:cfg.fc 80=aaq:=rfl
instance C80:Cf cfg 80 aaq:=⟨c80⟩
instance Z80:Zf cfg 80:=⟨rfl⟩
theorem c81:cfg.fc 81=aar:=rfl
instance C81:Cf cfg 81 aar:=⟨c81⟩
instance Z81:Zf cfg 81:=⟨rfl⟩
theorem c82:cfg.fc 82=aas:=rfl
instance C82:Cf cfg 82 aas:=⟨c82⟩
instance Z82:Zf cfg 82:=⟨rfl⟩
theorem c83:cfg.fc 83=aat:=rfl
instance C83:Cf cfg 83 aat:=⟨c83⟩
instance Z83:Zf cfg 83:=⟨rfl⟩
theorem c84:cfg.fc 84=aau:=rfl
instance C84:Cf cfg 84 aau:=⟨c84⟩
instance Z84:Zf cfg 84:=⟨rfl⟩
theorem c87:cfg.fc 87=aav:=rfl
instance C87:Cf cfg 87 aav:=⟨c87⟩
instance Z87:Zf cfg 87:=⟨rfl⟩
theorem c88:cfg.fc 88=aaw:=rfl
instance C88:Cf cfg 88 aaw:=⟨c88⟩
instance Z88:Zf cfg 88:=⟨rfl⟩
theorem c89:cfg.fc 89=aax:=rfl
instance C89:Cf cfg 89 aax:=⟨c89⟩
instance Z89:Zf cfg 89:=⟨rfl⟩
theorem c90:cfg.fc 90=aay:=rfl
instance C90:Cf cfg 90 aay:=⟨c90⟩
instance Z90:Zf cfg 90:=⟨rfl⟩
theorem c91:cfg.fc 91=aaz:=rfl
instance C91:Cf cfg 91 aaz:=⟨c91⟩
instance Z91:Zf cfg 91:=⟨rfl⟩
theorem c92:cfg.fc 92=aaA:=rfl
instance C92:Cf cfg 92 aaA:=⟨c92⟩
instance Z92:Zf cfg 92:=⟨rfl⟩
theorem z92:(cfg.fc 92).frz=[]:=rfl
theorem c93:cfg.fc 93=aaB:=rfl
instance C93:Cf cfg 93 aaB:=⟨c93⟩
instance Z93:Zf cfg 93:=⟨rfl⟩
theorem c94:cfg.fc 94=aaC:=rfl
instance C94:Cf cfg 94 aaC:=⟨c94⟩
instance Z94:Zf cfg 94:=⟨rfl⟩
theorem z94:(cfg.fc 94).frz=[]:=rfl
theorem c95:cfg.fc 95=aaD:=rfl
instance C95:Cf cfg 95 aaD:=⟨c95⟩
instance Z95:Zf cfg 95:=⟨rfl⟩
theorem c96:cfg.fc 96=aaE:=rfl
instance C96:Cf cfg 96 aaE:=⟨c96⟩
instance Z96:Zf cfg 96:=⟨rfl⟩
theorem c97:cfg.fc 97=aaF:=rfl
instance C97:Cf cfg 97 aaF:=⟨c97⟩
instance Z97:Zf cfg 97:=⟨rfl⟩
theorem c98:cfg.fc 98=aaG:=rfl
instance C98:Cf cfg 98 aaG:=⟨c98⟩
instance Z98:Zf cfg 98:=⟨rfl⟩
theorem c99:cfg.fc 99=aaH:=rfl
instance C99:Cf cfg 99 aaH:=⟨c99⟩
instance Z99:Zf cfg 99:=⟨rfl⟩
theorem aaI:cfg.fc 100=Us:=rfl
instance ah5:Cf cfg 100 Us:=⟨aaI⟩
instance ah6:Zf cfg 100:=⟨rfl⟩
theorem acS:cfg.fc 101=Ut:=rfl
instance ah7:Cf cfg 101 Ut:=⟨acS⟩
instance ah8:Zf cfg 101:=⟨rfl⟩
theorem aex:cfg.fc 102=Uu:=rfl
instance ah9:Cf cfg 102 Uu:=⟨aex⟩
instance aia:Zf cfg 102:=⟨rfl⟩
theorem aey:cfg.fc 103=Uw:=rfl
instance aib:Cf cfg 103 Uw:=⟨aey⟩
instance aic:Zf cfg 103:=⟨rfl⟩
theorem acT:cfg.fc 104=Ux:=rfl
instance aid:Cf cfg 104 Ux:=⟨acT⟩
instance aie:Zf cfg 104:=⟨rfl⟩
theorem c105:cfg.fc 105=Uy:=rfl
instance aif:Cf cfg 105 Uy:=⟨c105⟩
instance aih:Zf cfg 105:=⟨rfl⟩
theorem agp:cfg.fc 106=Uz:=rfl
instance aii:Cf cfg 106 Uz:=⟨agp⟩
instance aij:Zf cfg 106:=⟨rfl⟩
theorem agq:cfg.fc 118=UA:=rfl
instance aik:Cf cfg 118 UA:=⟨agq⟩
instance ail:Zf cfg 118:=⟨rfl⟩
theorem c119:cfg.fc 119=UB:=rfl
instance aim:Cf cfg 119 UB:=⟨c119⟩
instance ain:Zf cfg 119:=⟨rfl⟩
theorem z119:(cfg.fc 119).frz=[]:=rfl
theorem agr:cfg.fc 120=UC:=rfl
instance aio:Cf cfg 120 UC:=⟨agr⟩
instance aip:Zf cfg 120:=⟨rfl⟩
theorem aez:cfg.fc 121=UD:=rfl
instance aiq:Cf cfg 121 UD:=⟨aez⟩
instance air:Zf cfg 121:=⟨rfl⟩
theorem ags:cfg.fc 122=UE:=rfl
instance ais:Cf cfg 122 UE:=⟨ags⟩
instance ait:Zf cfg 122:=⟨rfl⟩
theorem aeA:cfg.fc 123=UF:=rfl
instance aiu:Cf cfg 123 UF:=⟨aeA⟩
instance aiv:Zf cfg 123:=⟨rfl⟩
theorem QK:(cfg.fc 123).frz=[]:=rfl
theorem c124:cfg.fc 124=UG:=rfl
instance aiw:Cf cfg 124 UG:=⟨c124⟩
instance aix:Zf cfg 124:=⟨rfl⟩
theorem c131:cfg.fc 131=UH:=rfl
instance aiy:Cf cfg 131 UH:=⟨c131⟩
instance aiz:Zf cfg 131:=⟨rfl⟩
noncomputable abbrev Pg:=Tryz.prog
theorem aeB:KE Pg 102=some ([z0,z0],[(0,1),(1,1)]):=kr
theorem agt:KE Pg 63=some ([.nil,.nil,z0,z0,.nil,z0,z0,.im 0 (.sc (.bool false))],[(0,1),(1,1),(2,1),(3,1),(4,1),(5,1),(6,1),(7,1)]):=kr
theorem agu:KE Pg 72=some ([.nil,.nil,z0],[(0,1),(1,1),(2,1)]):=kr
theorem aeC:pY Pg 157=some (9,1):=kr
theorem E5:pY Pg 29=some (2,1):=kr
theorem XB:pY Pg 32=some (92,2):=kr
theorem agv:pY Pg 33=some (95,2):=kr
theorem agw:pY Pg 37=some (66,3):=kr
theorem acU:pY Pg 61=some (29,1):=kr
theorem agx:pY Pg 99=some (102,2):=kr
theorem acV:iC Pg 25 0=some 0:=kr
theorem acW:iC Pg 25 1=some 1:=kr
theorem XC:iC Pg 25 2=some 2:=kr
theorem XD:iC Pg 25 3=some 3:=kr
theorem E8:iC Pg 35 0=some 0:=kr
theorem Dw:iC Pg 35 1=some 1:=kr
theorem rM:iC Pg 35 2=some 2:=kr
theorem oO:iC Pg 35 3=some 3:=kr
theorem XE:iC Pg 54 0=some 0:=kr
theorem acX:iC Pg 54 1=some 1:=kr
theorem acY:iC Pg 54 2=some 2:=kr
theorem xQ:iC Pg 63 0=some 0:=kr
theorem O4:iC Pg 63 1=some 1:=kr
theorem H9:iC Pg 63 2=some 2:=kr
theorem acZ:iC Pg 63 3=some 3:=kr
theorem Dx:iC Pg 63 4=some 4:=kr
theorem SN:iC Pg 63 5=some 5:=kr
theorem ac0:iC Pg 63 6=some 6:=kr
theorem SQ:iC Pg 63 7=some 7:=kr
theorem Ia:iC Pg 66 0=some 0:=kr
theorem rO:iC Pg 66 1=some 1:=kr
theorem zQ:iC Pg 66 2=some 2:=kr
theorem XF:iC Pg 72 0=some 0:=kr
theorem SS:iC Pg 72 1=some 1:=kr
theorem SX:iC Pg 72 2=some 2:=kr
theorem XG:iC Pg 82 0=some 0:=kr
theorem XH:iC Pg 82 1=some 1:=kr
theorem iI:iC Pg 92 0=some 0:=kr
theorem jd:iC Pg 92 1=some 1:=kr
theorem ac1:iC Pg 94 0=some 0:=kr
theorem ac2:iC Pg 94 1=some 1:=kr
theorem zS:iC Pg 95 0=some 0:=kr
theorem BN:iC Pg 95 1=some 1:=kr
theorem QL:aT Pg cfg 100 0 [32,92]=[(.cst false,[some 2]),(.cst false,[none,none])]:=kr
theorem XI:aT Pg cfg 101 0 [32]=[(.cst false,[some 2])]:=kr
theorem oq:aT Pg cfg 102 0 [92,92,92]=[(.cst false,[none,none]),(.cst false,[none,none]),(.cst false,[none,none])]:=kr
theorem Gq:aT Pg cfg 103 0 [92,92,92,92]=[(.cst false,[none,none]),(.cst false,[none,none]),(.cst false,[none,none]),(.cst false,[none,none])]:=kr
theorem XJ:aT Pg cfg 104 0 [32]=[(.cst false,[some 2])]:=kr
theorem O5:aT Pg cfg 105 0 [37,120]=[(.cst false,[some 3]),(.cst false,[none])]:=kr
theorem aaJ:aT Pg cfg 106 0 [9]=[(.cst false,[none])]:=kr
theorem JA:aT Pg cfg 10 0 [26]=[(.cst false,[some 3])]:=kr
theorem jr:aT Pg cfg 118 0 [92,92,92]=[(.cst false,[none,none]),(.cst false,[none,none]),(.cst false,[none,none])]:=kr
theorem Gs:aT Pg cfg 119 0 [92,92,92,92]=[(.cst false,[none,none]),(.cst false,[none,none]),(.cst false,[none,none]),(.cst false,[none,none])]:=kr
theorem ac3:aT Pg cfg 120 0 []=[]:=kr
theorem XK:aT Pg cfg 121 0 [92]=[(.cst false,[none,none])]:=kr
theorem lW:aT Pg cfg 122 0 [92,92,92]=[(.cst false,[none,none]),(.cst false,[none,none]),(.cst false,[none,none])]:=kr
theorem Gt:aT Pg cfg 123 0 [92,92,92,92]=[(.cst false,[none,none]),(.cst false,[none,none]),(.cst false,[none,none]),(.cst false,[none,none])]:=kr
theorem aaK:aT Pg cfg 124 0 [9]=[(.cst false,[none])]:=kr
theorem BO:aT Pg cfg 12 0 [29,29]=[(.cst false,[some 1]),(.cst false,[some 1])]:=kr
theorem KY:aT Pg cfg 131 0 [92,92,92]=[(.cst false,[none,none]),(.cst false,[none,none]),(.cst false,[none,none])]:=kr
theorem SY:aT Pg cfg 13 0 [35,35]=[(.cst false,[none,none,some 2,some 2]),(.cst false,[none,none,some 2,some 2])]:=kr
theorem S9:aT Pg cfg 14 0 [37,37]=[(.cst false,[some 3]),(.cst false,[some 3])]:=kr
theorem Vt:aT Pg cfg 15 0 [35,3]=[(.ws,[none,none,some 2,some 2]),(.cst false,[none])]:=kr
theorem Vu:aT Pg cfg 16 0 [37,3]=[(.row,[some 3]),(.cst false,[none])]:=kr
theorem NP:aT Pg cfg 17 0 [29,3]=[(.row,[some 1]),(.cst false,[none])]:=kr
theorem NQ:aT Pg cfg 18 0 [29,3]=[(.cst false,[some 1]),(.cst false,[none])]:=kr
theorem O6:aT Pg cfg 19 0 [35,37,2]=[(.cst false,[none,none,some 2,some 2]),(.cst false,[some 3]),(.cst false,[none])]:=kr
theorem Gu:aT Pg cfg 20 0 [35,37,2]=[(.cst false,[none,none,some 2,some 2]),(.cst false,[some 3]),(.cst false,[none])]:=kr
theorem Vw:aT Pg cfg 23 0 [22,3]=[(.cst false,[some 2]),(.cst false,[none])]:=kr
theorem Vx:aT Pg cfg 24 0 [23,3]=[(.cst false,[some 2]),(.cst false,[none])]:=kr
theorem Vy:aT Pg cfg 25 0 [54,3]=[(.cst false,[none,none,none]),(.cst false,[none])]:=kr
theorem KZ:aT Pg cfg 26 0 [56,37,2,2]=[(.cut 4,[none]),(.cst false,[some 3]),(.cst false,[none]),(.cst false,[none])]:=kr
theorem La:aT Pg cfg 27 0 [56,37,2,2]=[(.cut 4,[none]),(.cst false,[some 3]),(.cst false,[none]),(.cst false,[none])]:=kr
theorem UI:aT Pg cfg 28 0 [57]=[(.ptr [.gone,.sh,.imm,.imm,.sh,.imm,.imm,.imm],[none])]:=kr
theorem aaL:aT Pg cfg 29 0 [29]=[(.cst false,[some 1])]:=kr
theorem aaM:aT Pg cfg 30 0 [22]=[(.cst false,[some 2])]:=kr
theorem aaN:aT Pg cfg 31 0 [23]=[(.cst false,[some 2])]:=kr
theorem aaO:aT Pg cfg 32 0 [54]=[(.cst false,[none,none,none])]:=kr
theorem Lc:aT Pg cfg 33 0 [35,37,2,2]=[(.cst false,[none,none,some 2,some 2]),(.cst false,[some 3]),(.cst false,[none]),(.cst false,[none])]:=kr
theorem aaP:aT Pg cfg 34 0 [35]=[(.cst false,[none,none,some 2,some 2])]:=kr
theorem Dy:aT Pg cfg 35 0 [69,29,2,3]=[(.ptr [.gone,.imm,.imm],[none]),(.mv,[some 1]),(.cst false,[none]),(.cst false,[none])]:=kr
theorem Tc:aT Pg cfg 36 0 [32,32]=[(.cst false,[some 2]),(.cst false,[some 2])]:=kr
theorem Td:aT Pg cfg 37 0 [33,33]=[(.cst false,[some 2]),(.cst false,[some 2])]:=kr
theorem Tf:aT Pg cfg 38 0 [66,66]=[(.cst false,[none,none,none]),(.cst false,[none,none,none])]:=kr
theorem Vz:aT Pg cfg 39 0 [32,3]=[(.row,[some 2]),(.cst false,[none])]:=kr
theorem VA:aT Pg cfg 40 0 [33,3]=[(.ws,[some 2]),(.cst false,[none])]:=kr
theorem XL:aT Pg cfg 41 0 [3]=[(.cst false,[none])]:=kr
theorem VB:aT Pg cfg 42 0 [82,3]=[(.cst false,[none,some 1]),(.cst false,[none])]:=kr
theorem aaQ:aT Pg cfg 43 0 [56]=[(.cut 4,[none])]:=kr
theorem aaR:aT Pg cfg 44 0 [37]=[(.cst false,[some 3])]:=kr
theorem iP:aT Pg cfg 45 0 [2,2,2]=[(.cst false,[none]),(.cst false,[none]),(.cst false,[none])]:=kr
theorem aaS:aT Pg cfg 46 0 [56]=[(.cut 4,[none])]:=kr
theorem Ti:aT Pg cfg 47 0 [88,88]=[(.cut 3,[none]),(.cut 3,[none])]:=kr
theorem VC:aT Pg cfg 48 0 [29,2]=[(.cst false,[some 1]),(.cst false,[none])]:=kr
theorem VD:aT Pg cfg 49 0 [29,2]=[(.cst false,[some 1]),(.cst false,[none])]:=kr
theorem aaT:aT Pg cfg 50 0 [94]=[(.cst false,[none,none])]:=kr
theorem aaU:aT Pg cfg 51 0 [82]=[(.cst false,[none,some 1])]:=kr
theorem aaV:aT Pg cfg 52 0 [35]=[(.cst false,[none,none,some 2,some 2])]:=kr
theorem aaW:aT Pg cfg 53 0 [37]=[(.cst false,[some 3])]:=kr
theorem gB:aT Pg cfg 54 0 [2,2,2]=[(.cst false,[none]),(.cst false,[none]),(.cst false,[none])]:=kr
theorem aaX:aT Pg cfg 55 0 [29]=[(.cst false,[some 1])]:=kr
theorem QM:aT Pg cfg 56 0 [99,104]=[(.cst false,[some 2]),(.cst false,[none])]:=kr
theorem O7:aT Pg cfg 57 0 [102,0,0]=[(.cst false,[none,none]),(.cst false,[none]),(.cst false,[none])]:=kr
theorem QN:aT Pg cfg 58 0 [99,102]=[(.cst false,[some 2]),(.cst false,[none,none])]:=kr
theorem UJ:aT Pg cfg 59 0 [29]=[(.cst false,[some 1])]:=kr
theorem aaY:aT Pg cfg 60 0 [29]=[(.row,[some 1])]:=kr
theorem aaZ:aT Pg cfg 61 0 [29]=[(.mv,[some 1])]:=kr
theorem VE:aT Pg cfg 62 0 [29,2]=[(.cst false,[some 1]),(.cst false,[none])]:=kr
theorem Tj:aT Pg cfg 63 0 [66,66]=[(.cst false,[none,none,none]),(.cst false,[none,none,none])]:=kr
theorem Tm:aT Pg cfg 64 0 [92,92]=[(.cst false,[none,none]),(.cst false,[none,none])]:=kr
theorem Tn:aT Pg cfg 65 0 [95,95]=[(.cst false,[none,some 1]),(.cst false,[none,some 1])]:=kr
theorem VF:aT Pg cfg 66 0 [29,3]=[(.cst false,[some 1]),(.cst false,[none])]:=kr
theorem aa0:aT Pg cfg 67 0 [56]=[(.cut 4,[none])]:=kr
theorem Tq:aT Pg cfg 68 0 [9]=[(.cst false,[none])]:=kr
theorem Tt:aT Pg cfg 69 0 [56,29]=[(.cut 4,[none]),(.cst false,[some 1])]:=kr
theorem XM:aT Pg cfg 6 0 [25,3]=[(.cst false,[none,none,some 2,some 2]),(.cst false,[none])]:=kr
theorem aa1:aT Pg cfg 70 0 [32]=[(.cst false,[some 2])]:=kr
theorem aa2:aT Pg cfg 71 0 [88]=[(.cut 3,[none])]:=kr
theorem VG:aT Pg cfg 72 0 [56,2]=[(.cut 4,[none]),(.cst false,[none])]:=kr
theorem Dz:aT Pg cfg 73 0 [2,2]=[(.cst false,[none]),(.cst false,[none])]:=kr
theorem XN:aT Pg cfg 74 0 [2,2]=[(.cst false,[none]),(.cst false,[none])]:=kr
theorem aa3:aT Pg cfg 75 0 [29]=[(.cst false,[some 1])]:=kr
theorem Tu:aT Pg cfg 76 0 [32,92]=[(.cst false,[some 2]),(.cst false,[none,none])]:=kr
theorem Tv:aT Pg cfg 77 0 [9]=[(.cst false,[none])]:=kr
theorem Tz:aT Pg cfg 78 0 [32,29]=[(.cst false,[some 2]),(.cst false,[some 1])]:=kr
theorem aa4:aT Pg cfg 79 0 [32]=[(.cst false,[some 2])]:=kr
theorem XO:aT Pg cfg 7 0 [26,3]=[(.cst false,[some 3]),(.cst false,[none])]:=kr
theorem QO:aT Pg cfg 80 0 [37,120]=[(.cst false,[some 3]),(.cst false,[none])]:=kr
theorem aa5:aT Pg cfg 81 0 [66]=[(.cst false,[none,none,none])]:=kr
theorem aa6:aT Pg cfg 82 0 [66]=[(.cst false,[none,none,none])]:=kr
theorem QS:aT Pg cfg 83 0 [99,104]=[(.cst false,[some 2]),(.cst false,[none])]:=kr
theorem QT:aT Pg cfg 84 0 [99,102]=[(.cst false,[some 2]),(.cst false,[none,none])]:=kr
theorem VH:aT Pg cfg 87 0 [29,2]=[(.cst false,[some 1]),(.cst false,[none])]:=kr
theorem XP:aT Pg cfg 88 0 [2,2]=[(.cst false,[none]),(.cst false,[none])]:=kr
theorem XQ:aT Pg cfg 89 0 [5]=[(.cst false,[none])]:=kr
theorem ac4:aT Pg cfg 90 0 [5]=[(.cst false,[none])]:=kr
theorem aa7:aT Pg cfg 91 0 [92]=[(.cst false,[none,none])]:=kr
theorem pX:aT Pg cfg 92 0 [92,92,92]=[(.cst false,[none,none]),(.cst false,[none,none]),(.cst false,[none,none])]:=kr
theorem Ib:aT Pg cfg 93 0 [92,92,92,92]=[(.cst false,[none,none]),(.cst false,[none,none]),(.cst false,[none,none]),(.cst false,[none,none])]:=kr
theorem aa8:aT Pg cfg 94 0 [32]=[(.cst false,[some 2])]:=kr
theorem ac5:aT Pg cfg 95 0 [9]=[(.cst false,[none])]:=kr
theorem aeD:aT Pg cfg 96 0 []=[]:=kr
theorem ac6:aT Pg cfg 97 0 [2]=[(.cst false,[none])]:=kr
theorem QU:aT Pg cfg 98 0 [29,2,2]=[(.cst false,[some 1]),(.cst false,[none]),(.cst false,[none])]:=kr
theorem Gv:aT Pg cfg 99 0 [2,2]=[(.cst false,[none]),(.cst false,[none])]:=kr
theorem O8:aT Pg cfg 9 0 [25]=[(.cst false,[none,none,some 2,some 2])]:=kr
theorem ac7:∀(a0:Int) (a1:Int) (b0:Int) (b1:Int),JE Pg 102 .eql [.int .i64 a0,.int .i64 a1] [.int .i64 b0,.int .i64 b1]=some (.bool ((a0==b0)&&(a1==b1))):=by intros;kernel_rfl
theorem UK:∀(a0:Int) (a1:Int) (b0:Int) (b1:Int),JE Pg 92 .eql [.int .i64 a0,.int .i64 a1] [.int .i64 b0,.int .i64 b1]=some (.bool ((a0==b0)&&(a1==b1))):=by intros;kernel_rfl
theorem agy:dw Pg (Tryz.f10.results.toList.zip Tryz.f10.resultTypes.toList)=[(.tmp 2,[some 3],none)]:=kr
theorem abW:dw Pg (Tryz.f100.results.toList.zip Tryz.f100.resultTypes.toList)=[(.tmp 4,[none],none)]:=kr
theorem abX:dw Pg (Tryz.f101.results.toList.zip Tryz.f101.resultTypes.toList)=[(.tmp 2,[none],none)]:=kr
theorem aeE:dw Pg (Tryz.f102.results.toList.zip Tryz.f102.resultTypes.toList)=[(.tmp 6,[none],none)]:=kr
theorem aeF:dw Pg (Tryz.f103.results.toList.zip Tryz.f103.resultTypes.toList)=[(.tmp 8,[none],none)]:=kr
theorem aeG:dw Pg (Tryz.f104.results.toList.zip Tryz.f104.resultTypes.toList)=[(.tmp 2,[none],none)]:=kr
theorem abY:dw Pg (Tryz.f105.results.toList.zip Tryz.f105.resultTypes.toList)=[(.tmp 4,[none],none)]:=kr
theorem aeH:dw Pg (Tryz.f106.results.toList.zip Tryz.f106.resultTypes.toList)=[(.tmp 2,[none],none),(.tmp 3,[none],none)]:=kr
theorem XR:dw Pg (Tryz.f118.results.toList.zip Tryz.f118.resultTypes.toList)=[(.tmp 6,[none],none)]:=kr
theorem aeI:dw Pg (Tryz.f119.results.toList.zip Tryz.f119.resultTypes.toList)=[(.tmp 8,[none],none)]:=kr
theorem ac8:dw Pg (Tryz.f12.results.toList.zip Tryz.f12.resultTypes.toList)=[(.tmp 4,[none],none)]:=kr
theorem aeJ:dw Pg (Tryz.f120.results.toList.zip Tryz.f120.resultTypes.toList)=[(.tmp 0,[some 1],none)]:=kr
theorem aeK:dw Pg (Tryz.f121.results.toList.zip Tryz.f121.resultTypes.toList)=[(.tmp 2,[none],none)]:=kr
theorem XT:dw Pg (Tryz.f122.results.toList.zip Tryz.f122.resultTypes.toList)=[(.tmp 6,[none],none)]:=kr
theorem aeL:dw Pg (Tryz.f123.results.toList.zip Tryz.f123.resultTypes.toList)=[(.tmp 8,[none],none)]:=kr
theorem DC:dw Pg (Tryz.f124.results.toList.zip Tryz.f124.resultTypes.toList)=[(.tmp 2,[none],none),(.tmp 3,[none],none),(.tmp 4,[none],none),(.tmp 5,[none],none)]:=kr
theorem XU:dw Pg (Tryz.f13.results.toList.zip Tryz.f13.resultTypes.toList)=[(.tmp 4,[none],none)]:=kr
theorem aeM:dw Pg (Tryz.f131.results.toList.zip Tryz.f131.resultTypes.toList)=[(.tmp 6,[none],none)]:=kr
theorem ac9:dw Pg (Tryz.f14.results.toList.zip Tryz.f14.resultTypes.toList)=[(.tmp 4,[none],none)]:=kr
theorem agz:dw Pg (Tryz.f15.results.toList.zip Tryz.f15.resultTypes.toList)=[(.tmp 4,[none],none)]:=kr
theorem agA:dw Pg (Tryz.f16.results.toList.zip Tryz.f16.resultTypes.toList)=[(.tmp 4,[none],none)]:=kr
theorem aeN:dw Pg (Tryz.f17.results.toList.zip Tryz.f17.resultTypes.toList)=[(.tmp 4,[none],none)]:=kr
theorem aeO:dw Pg (Tryz.f18.results.toList.zip Tryz.f18.resultTypes.toList)=[(.tmp 4,[none],none)]:=kr
theorem ada:dw Pg (Tryz.f19.results.toList.zip Tryz.f19.resultTypes.toList)=[(.tmp 6,[some 1],none),(.tmp 7,[none],none),(.tmp 8,[none],none)]:=kr
theorem aa9:dw Pg (Tryz.f20.results.toList.zip Tryz.f20.resultTypes.toList)=[(.tmp 6,[some 1],none),(.tmp 7,[none],none),(.tmp 8,[none],none)]:=kr
theorem aeP:dw Pg (Tryz.f23.results.toList.zip Tryz.f23.resultTypes.toList)=[(.tmp 4,[none],none)]:=kr
theorem adb:dw Pg (Tryz.f24.results.toList.zip Tryz.f24.resultTypes.toList)=[(.tmp 4,[none],none)]:=kr
theorem aeQ:dw Pg (Tryz.f25.results.toList.zip Tryz.f25.resultTypes.toList)=[(.tmp 4,[none],none)]:=kr
theorem ade:dw Pg (Tryz.f26.results.toList.zip Tryz.f26.resultTypes.toList)=[(.tmp 8,[none],none)]:=kr
theorem agB:dw Pg (Tryz.f27.results.toList.zip Tryz.f27.resultTypes.toList)=[(.tmp 8,[none],none)]:=kr
theorem aba:dw Pg (Tryz.f28.results.toList.zip Tryz.f28.resultTypes.toList)=[(.tmp 2,[none],none)]:=kr
theorem agC:dw Pg (Tryz.f29.results.toList.zip Tryz.f29.resultTypes.toList)=[(.tmp 2,[some 1],none)]:=kr
theorem agD:dw Pg (Tryz.f30.results.toList.zip Tryz.f30.resultTypes.toList)=[(.tmp 2,[some 2],none)]:=kr
theorem agE:dw Pg (Tryz.f31.results.toList.zip Tryz.f31.resultTypes.toList)=[(.tmp 2,[some 2],none)]:=kr
theorem agF:dw Pg (Tryz.f32.results.toList.zip Tryz.f32.resultTypes.toList)=[(.cell 2 66,[none,none,none],some (true,3))]:=kr
theorem adf:dw Pg (Tryz.f33.results.toList.zip Tryz.f33.resultTypes.toList)=[(.tmp 8,[none],none)]:=kr
theorem agG:dw Pg (Tryz.f34.results.toList.zip Tryz.f34.resultTypes.toList)=[(.tmp 2,[some 1],none)]:=kr
theorem abb:dw Pg (Tryz.f35.results.toList.zip Tryz.f35.resultTypes.toList)=[(.tmp 8,[some 1],none),(.tmp 9,[none],none)]:=kr
theorem adg:dw Pg (Tryz.f36.results.toList.zip Tryz.f36.resultTypes.toList)=[(.tmp 4,[none],none)]:=kr
theorem adh:dw Pg (Tryz.f37.results.toList.zip Tryz.f37.resultTypes.toList)=[(.tmp 4,[none],none)]:=kr
theorem abd:dw Pg (Tryz.f38.results.toList.zip Tryz.f38.resultTypes.toList)=[(.tmp 4,[none],none)]:=kr
theorem agH:dw Pg (Tryz.f39.results.toList.zip Tryz.f39.resultTypes.toList)=[(.tmp 4,[none],none)]:=kr
theorem rF4:dw Pg (Tryz.f4.results.toList.zip Tryz.f4.resultTypes.toList)=[(.tmp 6,[none],none)]:=kr
theorem agI:dw Pg (Tryz.f40.results.toList.zip Tryz.f40.resultTypes.toList)=[(.tmp 4,[none],none)]:=kr
theorem aeR:dw Pg (Tryz.f41.results.toList.zip Tryz.f41.resultTypes.toList)=[(.tmp 2,[none],none)]:=kr
theorem adi:dw Pg (Tryz.f42.results.toList.zip Tryz.f42.resultTypes.toList)=[(.tmp 4,[none],none)]:=kr
theorem abe:dw Pg (Tryz.f43.results.toList.zip Tryz.f43.resultTypes.toList)=[(.tmp 2,[none],none)]:=kr
theorem aeS:dw Pg (Tryz.f44.results.toList.zip Tryz.f44.resultTypes.toList)=[(.tmp 2,[none],none)]:=kr
theorem agJ:dw Pg (Tryz.f45.results.toList.zip Tryz.f45.resultTypes.toList)=[(.tmp 6,[none],none)]:=kr
theorem agK:dw Pg (Tryz.f46.results.toList.zip Tryz.f46.resultTypes.toList)=[(.tmp 2,[some 1],none)]:=kr
theorem agL:dw Pg (Tryz.f47.results.toList.zip Tryz.f47.resultTypes.toList)=[(.tmp 4,[none],none)]:=kr
theorem agM:dw Pg (Tryz.f48.results.toList.zip Tryz.f48.resultTypes.toList)=[(.tmp 4,[some 1],none)]:=kr
theorem aeT:dw Pg (Tryz.f49.results.toList.zip Tryz.f49.resultTypes.toList)=[(.tmp 4,[none],none)]:=kr
theorem agN:dw Pg (Tryz.f50.results.toList.zip Tryz.f50.resultTypes.toList)=[(.cell 2 92,[none,none],some (true,2))]:=kr
theorem agO:dw Pg (Tryz.f51.results.toList.zip Tryz.f51.resultTypes.toList)=[(.cell 2 95,[none,some 1],some (true,2))]:=kr
theorem XV:dw Pg (Tryz.f52.results.toList.zip Tryz.f52.resultTypes.toList)=[(.tmp 2,[none],none)]:=kr
theorem agP:dw Pg (Tryz.f53.results.toList.zip Tryz.f53.resultTypes.toList)=[(.tmp 2,[none],none)]:=kr
theorem agQ:dw Pg (Tryz.f54.results.toList.zip Tryz.f54.resultTypes.toList)=[(.tmp 6,[none],none)]:=kr
theorem agR:dw Pg (Tryz.f55.results.toList.zip Tryz.f55.resultTypes.toList)=[(.tmp 2,[some 2],none)]:=kr
theorem agS:dw Pg (Tryz.f56.results.toList.zip Tryz.f56.resultTypes.toList)=[(.tmp 4,[none],none)]:=kr
theorem agT:dw Pg (Tryz.f57.results.toList.zip Tryz.f57.resultTypes.toList)=[(.tmp 4,[none],none)]:=kr
theorem agU:dw Pg (Tryz.f58.results.toList.zip Tryz.f58.resultTypes.toList)=[(.tmp 4,[none],none)]:=kr
theorem agV:dw Pg (Tryz.f59.results.toList.zip Tryz.f59.resultTypes.toList)=[(.tmp 2,[some 1],none)]:=kr
theorem rF6:dw Pg (Tryz.f6.results.toList.zip Tryz.f6.resultTypes.toList)=[(.tmp 4,[none],none)]:=kr
theorem agW:dw Pg (Tryz.f62.results.toList.zip Tryz.f62.resultTypes.toList)=[(.tmp 4,[none],none)]:=kr
theorem agX:dw Pg (Tryz.f63.results.toList.zip Tryz.f63.resultTypes.toList)=[(.tmp 4,[none],none)]:=kr
theorem adk:dw Pg (Tryz.f64.results.toList.zip Tryz.f64.resultTypes.toList)=[(.tmp 4,[none],none)]:=kr
theorem adl:dw Pg (Tryz.f65.results.toList.zip Tryz.f65.resultTypes.toList)=[(.tmp 4,[none],none)]:=kr
theorem aeU:dw Pg (Tryz.f66.results.toList.zip Tryz.f66.resultTypes.toList)=[(.tmp 4,[none],none)]:=kr
theorem abf:dw Pg (Tryz.f67.results.toList.zip Tryz.f67.resultTypes.toList)=[(.tmp 2,[none],none)]:=kr
theorem adm:dw Pg (Tryz.f68.results.toList.zip Tryz.f68.resultTypes.toList)=[(.tmp 2,[none],none)]:=kr
theorem aeV:dw Pg (Tryz.f69.results.toList.zip Tryz.f69.resultTypes.toList)=[(.tmp 4,[some 2],none),(.tmp 5,[none],none)]:=kr
theorem rF7:dw Pg (Tryz.f7.results.toList.zip Tryz.f7.resultTypes.toList)=[(.tmp 4,[none],none)]:=kr
theorem XW:dw Pg (Tryz.f70.results.toList.zip Tryz.f70.resultTypes.toList)=[(.tmp 2,[none],none)]:=kr
theorem aeW:dw Pg (Tryz.f71.results.toList.zip Tryz.f71.resultTypes.toList)=[(.tmp 2,[none],none)]:=kr
theorem agY:dw Pg (Tryz.f72.results.toList.zip Tryz.f72.resultTypes.toList)=[(.tmp 4,[some 1],none)]:=kr
theorem aeX:dw Pg (Tryz.f73.results.toList.zip Tryz.f73.resultTypes.toList)=[(.tmp 4,[none],none)]:=kr
theorem agZ:dw Pg (Tryz.f74.results.toList.zip Tryz.f74.resultTypes.toList)=[(.tmp 4,[none],none)]:=kr
theorem ag0:dw Pg (Tryz.f75.results.toList.zip Tryz.f75.resultTypes.toList)=[(.tmp 2,[some 1],none)]:=kr
theorem ag1:dw Pg (Tryz.f76.results.toList.zip Tryz.f76.resultTypes.toList)=[(.tmp 4,[none],none)]:=kr
theorem adn:dw Pg (Tryz.f77.results.toList.zip Tryz.f77.resultTypes.toList)=[(.tmp 2,[none],none)]:=kr
theorem aeY:dw Pg (Tryz.f78.results.toList.zip Tryz.f78.resultTypes.toList)=[(.tmp 4,[some 2],none),(.tmp 5,[none],none)]:=kr
theorem abg:dw Pg (Tryz.f79.results.toList.zip Tryz.f79.resultTypes.toList)=[(.tmp 2,[none],none)]:=kr
theorem ag2:dw Pg (Tryz.f80.results.toList.zip Tryz.f80.resultTypes.toList)=[(.tmp 4,[none],none)]:=kr
theorem ag3:dw Pg (Tryz.f81.results.toList.zip Tryz.f81.resultTypes.toList)=[(.tmp 2,[none],none)]:=kr
theorem ag4:dw Pg (Tryz.f82.results.toList.zip Tryz.f82.resultTypes.toList)=[(.tmp 2,[none],none)]:=kr
theorem aeZ:dw Pg (Tryz.f83.results.toList.zip Tryz.f83.resultTypes.toList)=[(.tmp 4,[none],none)]:=kr
theorem ae0:dw Pg (Tryz.f84.results.toList.zip Tryz.f84.resultTypes.toList)=[(.tmp 4,[none],none)]:=kr
theorem ae1:dw Pg (Tryz.f87.results.toList.zip Tryz.f87.resultTypes.toList)=[(.tmp 4,[none],none)]:=kr
theorem ae2:dw Pg (Tryz.f88.results.toList.zip Tryz.f88.resultTypes.toList)=[(.tmp 4,[none],none),(.tmp 5,[none],none)]:=kr
theorem ag5:dw Pg (Tryz.f89.results.toList.zip Tryz.f89.resultTypes.toList)=[(.tmp 2,[none],none)]:=kr
theorem rF9:dw Pg (Tryz.f9.results.toList.zip Tryz.f9.resultTypes.toList)=[(.cell 2 35,[none,none,some 2,some 2],some (true,4))]:=kr
theorem ag6:dw Pg (Tryz.f90.results.toList.zip Tryz.f90.resultTypes.toList)=[(.tmp 2,[none],none)]:=kr
theorem ag7:dw Pg (Tryz.f91.results.toList.zip Tryz.f91.resultTypes.toList)=[(.tmp 2,[none],none)]:=kr
theorem ag8:dw Pg (Tryz.f92.results.toList.zip Tryz.f92.resultTypes.toList)=[(.tmp 6,[none],none)]:=kr
theorem ag9:dw Pg (Tryz.f93.results.toList.zip Tryz.f93.resultTypes.toList)=[(.tmp 8,[none],none)]:=kr
theorem aha:dw Pg (Tryz.f94.results.toList.zip Tryz.f94.resultTypes.toList)=[(.tmp 2,[none],none)]:=kr
theorem ae3:dw Pg (Tryz.f95.results.toList.zip Tryz.f95.resultTypes.toList)=[(.tmp 2,[none],none)]:=kr
theorem ahb:dw Pg (Tryz.f96.results.toList.zip Tryz.f96.resultTypes.toList)=[(.tmp 0,[some 1],none)]:=kr
theorem ahc:dw Pg (Tryz.f97.results.toList.zip Tryz.f97.resultTypes.toList)=[(.tmp 2,[none],none)]:=kr
theorem ae4:dw Pg (Tryz.f98.results.toList.zip Tryz.f98.resultTypes.toList)=[(.tmp 6,[none],none)]:=kr
theorem ae5:dw Pg (Tryz.f99.results.toList.zip Tryz.f99.resultTypes.toList)=[(.tmp 4,[none],none)]:=kr
theorem ae6:gI Pg 109=some (5,1,[none],false,1,[.im 0 (.sc (.int .u8 0))]):=kr
theorem abZ:gI Pg 157=some (9,1,[none],false,16,[z1]):=kr
theorem ahd:gI Pg 22=some (94,2,[none,none],true,16,[z0,z0]):=kr
theorem ae7:gI Pg 23=some (82,2,[none,some 1],true,40,[z1,.nil]):=kr
theorem ae8:gI Pg 26=some (54,3,[none,none,none],true,32,[z1,z0,z0]):=kr
theorem fP:gI Pg 29=some (2,1,[none],false,8,[z0]):=kr
theorem pK:gI Pg 32=some (92,2,[none,none],true,16,[z0,z0]):=kr
theorem Fa:gI Pg 33=some (95,2,[none,some 1],true,40,[z1,.nil]):=kr
theorem Ic:gI Pg 37=some (66,3,[none,none,none],true,32,[z1,z0,z0]):=kr
theorem uG:gI Pg 61=some (29,1,[some 1],false,24,[.nil]):=kr
theorem XX:gI Pg 98=some (99,1,[some 2],false,24,[.nil]):=kr
theorem XY:gI Pg 99=some (102,2,[none,none],true,16,[z0,z0]):=kr
theorem IX:tyF Pg 102=some ([z0,z0],[none,none],true,2):=kr
theorem tF2:tyF Pg 2=some ([z0],[none],false,1):=kr
theorem ae9:tyF Pg 22=some ([.nil],[some 2],false,1):=kr
theorem afa:tyF Pg 23=some ([.nil],[some 2],false,1):=kr
theorem QV:tyF Pg 25=some ([z0,z0,.nil,.nil],[none,none,some 2,some 2],true,4):=kr
theorem oz:tyF Pg 29=some ([.nil],[some 1],false,1):=kr
theorem tF3:tyF Pg 3=some ([z0],[none],false,1):=kr
theorem Eh:tyF Pg 32=some ([.nil],[some 2],false,1):=kr
theorem BP:tyF Pg 33=some ([.nil],[some 2],false,1):=kr
theorem AZ:tyF Pg 35=some ([z0,z0,.nil,.nil],[none,none,some 2,some 2],true,4):=kr
theorem ado:tyF Pg 37=some ([.nil],[some 3],false,1):=kr
theorem tF4:tyF Pg 4=some ([.im 0 (.sc (.bool false))],[none],false,1):=kr
theorem abh:tyF Pg 54=some ([z1,z0,z0],[none,none,none],true,3):=kr
theorem zo:tyF Pg 61=some ([.nil],[some 1],false,1):=kr
theorem ahe:tyF Pg 63=some ([.nil,.nil,z0,z0,.nil,z0,z0,.im 0 (.sc (.bool false))],[some 1,some 1,none,none,some 1,none,none,none],true,8):=kr
theorem DD:tyF Pg 66=some ([z1,z0,z0],[none,none,none],true,3):=kr
theorem ahf:tyF Pg 72=some ([.nil,.nil,z0],[some 1,some 3,none],true,3):=kr
theorem abj:tyF Pg 82=some ([z1,.nil],[none,some 1],true,2):=kr
theorem tF9:tyF Pg 9=some ([z1],[none],false,1):=kr
theorem aJ:tyF Pg 92=some ([z0,z0],[none,none],true,2):=kr
theorem afb:tyF Pg 94=some ([z0,z0],[none,none],true,2):=kr
theorem Fb:tyF Pg 95=some ([z1,.nil],[none,some 1],true,2):=kr
theorem O9:tyF Pg 98=some ([.nil],[some 1],false,1):=kr
theorem afc:tyF Pg 99=some ([.nil],[some 2],false,1):=kr
theorem afd:Pg.underlying 109=some (.slice 5):=kr
theorem afe:Pg.underlying 157=some (.slice 9):=kr
theorem adp:Pg.underlying 22=some (.slice 94):=kr
theorem abk:Pg.underlying 23=some (.slice 82):=kr
theorem abl:Pg.underlying 26=some (.slice 54):=kr
theorem lX:Pg.underlying 29=some (.slice 2):=kr
theorem uF3:Pg.underlying 3=some (.int .i64):=kr
theorem zT:Pg.underlying 32=some (.slice 92):=kr
theorem I5:Pg.underlying 33=some (.slice 95):=kr
theorem Gw:Pg.underlying 37=some (.slice 66):=kr
theorem uF5:Pg.underlying 5=some (.int .u8):=kr
theorem TA:Pg.underlying 61=some (.slice 29):=kr
theorem uF9:Pg.underlying 9=some .string:=kr
theorem abm:Pg.underlying 98=some (.slice 99):=kr
theorem adq:Pg.underlying 99=some (.slice 102):=kr
abbrev FX (i:Nat) (a:List Arg) (r:Res×List Out):Prop:=FL Tryz.prog cfg i a=some r
theorem I7 {a_0:(List af)} {fJ:Int} {r:Int} (h:rY a_0 fJ=some r):FX 23 [.im 2 false [W 2 az a_0],.im 2 false [I fJ]] (B0 [(false,[.im 0 (I r)])]):=by
 unfold rY at h
 refine gn 12 Tryz.func23 rfl ?_
 refine gs<|g0 j j (q (ae j j)<|nl)<|us<|gs<|g0 j j (q (oMv j j)<|q (oMv j j)<|q (gJ j j adp j)<|q (oBi j j j j)<|q (ae j j)<|nl)<|us<|gs<|gs<|g0 j j (q (oMv j j)<|q (oBi j j j j)<|nl)<|us<|gc h j ah (fun hc1 h=>?_) fun hc1 h=>?_
 ·refine gs<|g0 j j (q (ae j j)<|nl)<|us<|Go.ret (Unw.ret ?_)
  cases h
  exact fr aeP j
 ·refine Go.skip<|us<|gs<|g0 j j (q (oMv j j)<|q (ae j j)<|nl)<|us<|Go.ret (Unw.ret ?_)
  cases h
  exact fr aeP j
theorem I8 {a_0:(List Int)} {fJ:Int} {r:Int} (h:rZ a_0 fJ=some r):FX 66 [.im 2 false [W 1 eI a_0],.im 2 false [I fJ]] (B0 [(false,[.im 0 (I r)])]):=by
 unfold rZ at h
 refine gn 12 Tryz.func66 rfl ?_
 refine gs<|g0 j j (q (ae j j)<|nl)<|us<|gs<|g0 j j (q (oMv j j)<|q (oMv j j)<|q (gJ j j lX j)<|q (oBi j j j j)<|q (ae j j)<|nl)<|us<|gs<|gs<|g0 j j (q (oMv j j)<|q (oBi j j j j)<|nl)<|us<|gc h j ah (fun hc1 h=>?_) fun hc1 h=>?_
 ·refine gs<|g0 j j (q (ae j j)<|nl)<|us<|Go.ret (Unw.ret ?_)
  cases h
  exact fr aeU j
 ·refine Go.skip<|us<|gs<|g0 j j (q (oMv j j)<|q (ae j j)<|nl)<|us<|Go.ret (Unw.ret ?_)
  cases h
  exact fr aeU j
theorem MC {a_0:dn} {fJ:Int} {r:Int} (h:wP a_0 fJ=some r):FX 42 [.im 2 true (vF a_0),.im 2 false [I fJ]] (B0 [(false,[.im 0 (I r)])]):=by
 unfold wP at h
 refine gn 19 Tryz.func42 rfl ?_
 refine gs<|g0 j j (q (oBx j abj j (tkI (tkI tk0)))<|q (ae j j)<|nl)<|us<|gs<|g0 j j (q (oMv j j)<|q (oFA (r':=.mp 2 0 0) j XG j j)<|q (oLd (cs:=[.im 0 _]) j tF9 j j)<|q (Sv j j uF9 j)<|q (oBi j j j j)<|q (ae j j)<|nl)<|us<|gs<|gs<|g0 j j (q (oMv j j)<|q (oBi j j j j)<|nl)<|us<|gc h j ah (fun hc1 h=>?_) fun hc1 h=>?_
 ·refine gs<|g0 j j (q (ae j j)<|nl)<|us<|Go.ret (Unw.ret ?_)
  cases h
  exact fr adi j
 ·refine Go.skip<|us<|gs<|?_
  obtain ⟨x15,A7,h⟩:=bs h
  refine g0 j j (q (oFA (r':=.mp 2 0 1) j XH j j)<|q (oLd (cs:=[.im 2 _]) j oz j j)<|q (oMv j j)<|q (oCa (xs:=[.v false [.im 2 _],.v false [.im 0 _]]) (vs:=[(false,[.im 0 _])]) (v:=.v false [.im 0 _]) (I8 A7) (.inl j) j VF j (ppC j (ppC j pp0)) j j pb0 j j j)<|q (ae j j)<|nl)<|us<|gs<|gs<|g0 j j (q (oMv j j)<|q (oBi j j j j)<|nl)<|us<|gc h j ah (fun hc2 h=>?_) fun hc2 h=>?_
  ·refine gs<|g0 j j (q (ae j j)<|nl)<|us<|Go.ret (Unw.ret ?_)
   cases h
   exact fr adi j
  ·refine Go.skip<|us<|gs<|g0 j j (q (oMv j j)<|q (ae j j)<|nl)<|us<|Go.ret (Unw.ret ?_)
   cases h
   exact fr adi j
theorem Ld {a_0:(List dn)} {fJ:Int} {r:Int} (h:uP a_0 fJ=some r):FX 24 [.im 2 false [W 2 bQ a_0],.im 2 false [I fJ]] (B0 [(false,[.im 0 (I r)])]):=by
 unfold uP at h
 refine gn 27 Tryz.func24 rfl ?_
 refine gs<|g0 j j (q (ae j j)<|nl)<|us<|gs<|g0 j j (q (oMv j j)<|q (oMv j j)<|q (gJ j j abk j)<|q (oBi j j j j)<|q (ae j j)<|nl)<|us<|gs<|gs<|g0 j j (q (oMv j j)<|q (oBi j j j j)<|nl)<|us<|gc h j ah (fun hc1 h=>?_) fun hc1 h=>?_
 ·refine gs<|g0 j j (q (ae j j)<|nl)<|us<|Go.ret (Unw.ret ?_)
  cases h
  exact fr adb j
 ·refine Go.skip<|us<|gs<|gs<|g0 j j (q (ae j j)<|nl)<|us<|Go.block<|?_
  obtain ⟨o,hl,h⟩:=bs h
  refine gl c24 j _ (fun (s:(Int×Int))=>match s with | (nO,vT)=>mk [(0,D 2 (W 2 bQ a_0)),(1,iv nO),(5,iv vT)] []) (fun (o:(Int ⊕ Int)) (p:Ex×St)=>match o with | (.inl jZ)=>p.1= .exit 0∧p.2.norm ([1],[])=mk [(1,iv jZ)] [] | (.inr r2)=>p.1= .ret∧fin Tryz.prog cfg 24 Tryz.f24 [.im 2 false [W 2 bQ a_0],.im 2 false [I fJ]] p.2=some (B0 [(false,[.im 0 (I r2)])])) hl (by kernel_rfl) ?_ ?_ ?_
  ·intro o p hp e
   rcases o with jZ | r2<;>exact nomatch (hp.1.symm.trans e)
  ·rintro ⟨nO,vT⟩ o h
   unfold oP at h
   dsimp only at h
   refine gs<|gs<|g0 j j (q (oMv j j)<|q (oMv j j)<|q (gJ j j abk j)<|q (oBi j j j j)<|nl)<|us<|gc h j ah (fun hc6 h=>?_) fun hc6 h=>?_
   ·refine Go.skip<|us<|gs<|Go.block<|gs<|?_
    obtain ⟨x20,yu,h⟩:=bs h
    obtain ⟨x23,zq,h⟩:=bs h
    refine g0 j j (q (oMv j j)<|q (oMv j j)<|q (gq j yu ae7 j j)<|q (oLd (cs:=[.im 2 _,.im 2 _]) j abj j j)<|q (oMv j j)<|q (oCa (xs:=[.v true [.im 2 _,.im 2 _],.v false [.im 0 _]]) (vs:=[(false,[.im 0 _])]) (v:=.v false [.im 0 _]) (MC zq) (.inl j) j VB j (ppC j (ppC j pp0)) j j pb0 j j j)<|q (ae j j)<|nl)<|us<|gs<|g0 j j (q (oMv j j)<|q (oBi j j j j)<|nl)<|us<|gc h j ah (fun hc7 h=>?_) fun hc7 h=>?_
    ·refine gs<|g0 j j (q (ae j j)<|nl)<|us<|Go.ret (Unw.ret ?_)
     cases h
     exact ⟨j,(fo adb j)⟩
    ·refine Go.skip<|Unw.blk<|us<|g0 j j (q (oMv j j)<|q (oBi j j j j)<|q (ae j j)<|nl)<|Unw.nil<|?_
     cases h
     exact ⟨j,(by kernel_rfl)⟩
   ·refine Go.exit<|ux<|Unw.nil<|?_
    cases h
    exact ⟨j,(by kernel_rfl)⟩
  ·rintro ⟨e,st⟩ hp
   rcases o with jZ | r2
   ·dsimp only at h
    obtain ⟨he,hst⟩:=hp
    obtain rfl:e= .exit 0:=he
    refine Unw.iU<|us<|gs<|g2 c24 j j hst (q (oMv j j)<|q (ae j j)<|nl)<|us<|Go.ret (Unw.ret ?_)
    cases h
    exact fr adb j
   ·dsimp only at h
    obtain ⟨he,hfin⟩:=hp
    obtain rfl:e= .ret:=he
    cases h
    exact Unw.ret (fO hfin)
theorem Ie {a_0:aA} {fJ:Int} {r:Int} (h:qA a_0 fJ=some r):FX 6 [.im 2 true (ak a_0),.im 2 false [I fJ]] (B0 [(false,[.im 0 (I r)])]):=by
 unfold qA at h
 refine gn 18 Tryz.func6 rfl ?_
 refine gs<|g0 j j (q (oBx j QV j (tkI (tkI (tkI (tkI tk0)))))<|q (ae j j)<|nl)<|us<|gs<|?_
 obtain ⟨x8,hx8,h⟩:=bs h
 refine g0 j j (q (oFA (r':=.mp 2 0 2) j XC j j)<|q (oLd (cs:=[.im 2 _]) j ae9 j j)<|q (oMv j j)<|q (oCa (xs:=[.v false [.im 2 _],.v false [.im 2 _]]) (vs:=[(false,[.im 0 _])]) (v:=.v false [.im 0 _]) (I7 hx8) (.inl j) j Vw j (ppC j (ppC j pp0)) j j pb0 j j j)<|q (ae j j)<|nl)<|us<|gs<|gs<|g0 j j (q (oMv j j)<|q (oBi j j j j)<|nl)<|us<|gc h j ah (fun hc1 h=>?_) fun hc1 h=>?_
 ·refine gs<|g0 j j (q (ae j j)<|nl)<|us<|Go.ret (Unw.ret ?_)
  cases h
  exact fr rF6 j
 ·refine Go.skip<|us<|gs<|?_
  obtain ⟨x14,vH,h⟩:=bs h
  refine g0 j j (q (oFA (r':=.mp 2 0 3) j XD j j)<|q (oLd (cs:=[.im 2 _]) j afa j j)<|q (oMv j j)<|q (oCa (xs:=[.v false [.im 2 _],.v false [.im 0 _]]) (vs:=[(false,[.im 0 _])]) (v:=.v false [.im 0 _]) (Ld vH) (.inl j) j Vx j (ppC j (ppC j pp0)) j j pb0 j j j)<|q (ae j j)<|nl)<|us<|gs<|gs<|g0 j j (q (oMv j j)<|q (oBi j j j j)<|nl)<|us<|gc h j ah (fun hc2 h=>?_) fun hc2 h=>?_
  ·refine gs<|g0 j j (q (ae j j)<|nl)<|us<|Go.ret (Unw.ret ?_)
   cases h
   exact fr rF6 j
  ·refine Go.skip<|us<|gs<|g0 j j (q (oMv j j)<|q (ae j j)<|nl)<|us<|Go.ret (Unw.ret ?_)
   cases h
   exact fr rF6 j
theorem I9 {a_0:ai} {fJ:Int} {r:Int} (h:su a_0 fJ=some r):FX 25 [.im 2 true (iH a_0),.im 2 false [I fJ]] (B0 [(false,[.im 0 (I r)])]):=by
 unfold su at h
 refine gn 13 Tryz.func25 rfl ?_
 refine gs<|g0 j j (q (oBx j abh j (tkI (tkI (tkI tk0))))<|q (ae j j)<|nl)<|us<|gs<|g0 j j (q (oMv j j)<|q (oFA (r':=.mp 2 0 0) j XE j j)<|q (oLd (cs:=[.im 0 _]) j tF9 j j)<|q (Sv j j uF9 j)<|q (oBi j j j j)<|q (ae j j)<|nl)<|us<|gs<|gs<|g0 j j (q (oMv j j)<|q (oBi j j j j)<|nl)<|us<|gc h j ah (fun hc1 h=>?_) fun hc1 h=>?_
 ·refine gs<|g0 j j (q (ae j j)<|nl)<|us<|Go.ret (Unw.ret ?_)
  cases h
  exact fr aeQ j
 ·refine Go.skip<|us<|gs<|g0 j j (q (oMv j j)<|q (ae j j)<|nl)<|us<|Go.ret (Unw.ret ?_)
  cases h
  exact fr aeQ j
theorem Ig {a_0:(List ai)} {fJ:Int} {r:Int} (h:qB a_0 fJ=some r):FX 7 [.im 2 false [W 3 au a_0],.im 2 false [I fJ]] (B0 [(false,[.im 0 (I r)])]):=by
 unfold qB at h
 refine gn 27 Tryz.func7 rfl ?_
 refine gs<|g0 j j (q (ae j j)<|nl)<|us<|gs<|g0 j j (q (oMv j j)<|q (oMv j j)<|q (gJ j j abl j)<|q (oBi j j j j)<|q (ae j j)<|nl)<|us<|gs<|gs<|g0 j j (q (oMv j j)<|q (oBi j j j j)<|nl)<|us<|gc h j ah (fun hc1 h=>?_) fun hc1 h=>?_
 ·refine gs<|g0 j j (q (ae j j)<|nl)<|us<|Go.ret (Unw.ret ?_)
  cases h
  exact fr rF7 j
 ·refine Go.skip<|us<|gs<|gs<|g0 j j (q (ae j j)<|nl)<|us<|Go.block<|?_
  obtain ⟨o,hl,h⟩:=bs h
  refine gl c7 j _ (fun (s:(Int×Int))=>match s with | (nO,vT)=>mk [(0,D 2 (W 3 au a_0)),(1,iv nO),(5,iv vT)] []) (fun (o:(Int ⊕ Int)) (p:Ex×St)=>match o with | (.inl jZ)=>p.1= .exit 0∧p.2.norm ([1],[])=mk [(1,iv jZ)] [] | (.inr r2)=>p.1= .ret∧fin Tryz.prog cfg 7 Tryz.f7 [.im 2 false [W 3 au a_0],.im 2 false [I fJ]] p.2=some (B0 [(false,[.im 0 (I r2)])])) hl (by kernel_rfl) ?_ ?_ ?_
  ·intro o p hp e
   rcases o with jZ | r2<;>exact nomatch (hp.1.symm.trans e)
  ·rintro ⟨nO,vT⟩ o h
   unfold mG at h
   dsimp only at h
   refine gs<|gs<|g0 j j (q (oMv j j)<|q (oMv j j)<|q (gJ j j abl j)<|q (oBi j j j j)<|nl)<|us<|gc h j ah (fun hc6 h=>?_) fun hc6 h=>?_
   ·refine Go.skip<|us<|gs<|Go.block<|gs<|?_
    obtain ⟨x20,yu,h⟩:=bs h
    obtain ⟨x23,zq,h⟩:=bs h
    refine g0 j j (q (oMv j j)<|q (oMv j j)<|q (gq j yu ae8 j j)<|q (oLd (cs:=[.im 2 _,.im 2 _,.im 2 _]) j abh j j)<|q (oMv j j)<|q (oCa (xs:=[.v true [.im 2 _,.im 2 _,.im 2 _],.v false [.im 0 _]]) (vs:=[(false,[.im 0 _])]) (v:=.v false [.im 0 _]) (I9 zq) (.inl j) j Vy j (ppC j (ppC j pp0)) j j pb0 j j j)<|q (ae j j)<|nl)<|us<|gs<|g0 j j (q (oMv j j)<|q (oBi j j j j)<|nl)<|us<|gc h j ah (fun hc7 h=>?_) fun hc7 h=>?_
    ·refine gs<|g0 j j (q (ae j j)<|nl)<|us<|Go.ret (Unw.ret ?_)
     cases h
     exact ⟨j,(fo rF7 j)⟩
    ·refine Go.skip<|Unw.blk<|us<|g0 j j (q (oMv j j)<|q (oBi j j j j)<|q (ae j j)<|nl)<|Unw.nil<|?_
     cases h
     exact ⟨j,(by kernel_rfl)⟩
   ·refine Go.exit<|ux<|Unw.nil<|?_
    cases h
    exact ⟨j,(by kernel_rfl)⟩
  ·rintro ⟨e,st⟩ hp
   rcases o with jZ | r2
   ·dsimp only at h
    obtain ⟨he,hst⟩:=hp
    obtain rfl:e= .exit 0:=he
    refine Unw.iU<|us<|gs<|g2 c7 j j hst (q (oMv j j)<|q (ae j j)<|nl)<|us<|Go.ret (Unw.ret ?_)
    cases h
    exact fr rF7 j
   ·dsimp only at h
    obtain ⟨he,hfin⟩:=hp
    obtain rfl:e= .ret:=he
    cases h
    exact Unw.ret (fO hfin)
theorem Le {a_0:af} {r:af} (h:uQ a_0=some r):FX 50 [.im 2 true (aF a_0)] (B0 [(true,J 0 (aF r))]):=by
 unfold uQ at h
 refine gn 11 Tryz.func50 rfl ?_
 refine gs<|g0 j j (q (oBx j afb j (tkI (tkI tk0)))<|q (oAl j aJ (tkI (tkI tk0)))<|nl)<|us<|gs<|g0 j j (q (oAl j aJ (tkI (tkI tk0)))<|nl)<|us<|gs<|g0 j j (q (oFA (r':=.mp 1 0 0) j ac1 j j)<|q (oLd (cs:=[.im 0 _]) j tF2 j j)<|q (oFA (r':=.mp 3 0 0) j iI j j)<|q (oSt tF2 j j j (tkI tk0) j j j)<|nl)<|us<|gs<|g1 j j (mk [(1,M 1),(2,M 2),(3,M 3)] [(1,Oa (G 0 (aF a_0))),(2,Oa [C (I 0),C (I 0)]),(3,Oa [C (I a_0.X),C (I 0)])]) (q (oFA (r':=.mp 1 0 1) j ac2 j j)<|q (oLd (cs:=[.im 0 _]) j tF2 j j)<|q (oFA (r':=.mp 3 0 1) j jd j j)<|q (oSt tF2 j j j (tkI tk0) j j j)<|nl)<|us<|gs<|g1 j j (mk [(2,M 2),(3,M 3)] [(2,Oa [C (I 0),C (I 0)]),(3,Oa (G 0 (aF a_0)))]) (q (oLd (cs:=[.im 0 _,.im 0 _]) j aJ j j)<|q (oSt aJ j j j (tkI (tkI tk0)) j j j)<|nl)<|us<|Go.ret (Unw.ret ?_)
 cases h
 exact fr agN j
theorem Ja {a_0:(List af)} {r:(List af)} (h:sG a_0=some r):FX 30 [.im 2 false [W 2 az a_0]] (B0 [(false,[.ow 0 2 (List.map az r)])]):=by
 unfold sG at h
 refine gn 23 Tryz.func30 rfl ?_
 refine gs<|g0 j j (q (vG j j XB)<|nl)<|us<|gs<|?_
 obtain ⟨x7,hx7,h⟩:=bs h
 refine g0 j j (q (oMv j j)<|q (gJ j j adp j)<|q (oMk (en:=az) j hx7 j pK j j (fxI (fxI fx0)) j (eG (L:=[_]) j fun _=>j))<|q (jX j j j j j)<|nl)<|us<|gs<|gs<|g0 j j (q (ae j j)<|nl)<|us<|Go.block<|?_
 obtain ⟨o,hl,h⟩:=bs h
 refine gl c30 j _ (fun (s:(Int×(List af)))=>match s with | (bV,aX)=>mk [(0,D 2 (W 2 az a_0)),(3,H 3 0),(4,iv bV)] [(3,Oc [Z (W 2 az aX)])]) (fun (bz:(List af)) (p:Ex×St)=>p.1= .exit 0∧p.2.norm ([3],[3])=mk [(3,H 3 0)] [(3,Oc [Z (W 2 az bz)])]) hl (by kernel_rfl) ?_ ?_ ?_
 ·intro o p hp e
  exact nomatch (hp.1.symm.trans e)
 ·rintro ⟨bV,aX⟩ o h
  unfold nP at h
  dsimp only at h
  refine gs<|gs<|g0 j j (q (oMv j j)<|q (oMv j j)<|q (gJ j j adp j)<|q (oBi j j j j)<|nl)<|us<|gc h j ah (fun hc3 h=>?_) fun hc3 h=>?_
  ·refine Go.skip<|us<|gs<|Go.block<|?_
   obtain ⟨x18,Fe,h⟩:=bs h
   obtain ⟨x20,yu,h⟩:=bs h
   obtain ⟨x21,MF,h⟩:=bs h
   refine g0 j j (q (oMv j j)<|q (oMv j j)<|q (oMv j j)<|q (oMv j j)<|q (gq j Fe ahd j j)<|q (oLd (cs:=[.im 2 _,.im 2 _]) j afb j j)<|q (oCa (xs:=[.v true [.im 2 _,.im 2 _]]) (vs:=[(true,[.im 0 _,.im 0 _])]) (v:=.v true [.im 0 _,.im 0 _]) (Le yu) (.inl j) j aaT j (ppC j pp0) j j pb0 j j j)<|q (Am j MF pK j j j j)<|q (QD (v':=x20) aJ j j j (fxI (fxI fx0)) j j (fA MF) j)<|nl)<|Unw.blk<|us<|g1 j j (mk [(0,D 2 (W 2 az a_0)),(3,H 3 0),(4,iv bV)] [(3,Oc [Z (W 2 az (aX.set bV.toNat x20))])]) (q (oMv j j)<|q (oBi j j j j)<|q (ae j j)<|nl)<|Unw.nil<|?_
   cases h
   exact ⟨j,(by kernel_rfl)⟩
  ·refine Go.exit<|ux<|Unw.nil<|?_
   cases h
   exact ⟨j,(by kernel_rfl)⟩
 ·rintro ⟨e,st⟩ hp
  obtain ⟨bz,rfl⟩:∃y,y=o:=⟨o,rfl⟩
  obtain ⟨he,hst⟩:=hp
  obtain rfl:e= .exit 0:=he
  refine Unw.iU<|us<|gs<|g2 c30 j j hst (q (oMv j j)<|q (jX j j j j j)<|nl)<|us<|Go.ret (Unw.ret ?_)
  cases h
  exact fr agD j
theorem Jb {a_0:(List Int)} {r:(List Int)} (h:sH a_0=some r):FX 75 [.im 2 false [W 1 eI a_0]] (B0 [(false,[.ow 0 1 (List.map eI r)])]):=by
 unfold sH at h
 refine gn 22 Tryz.func75 rfl ?_
 refine gs<|g0 j j (q (vG j j E5)<|nl)<|us<|gs<|?_
 obtain ⟨x7,hx7,h⟩:=bs h
 refine g0 j j (q (oMv j j)<|q (gJ j j lX j)<|q (oMk (en:=eI) j hx7 j fP j j (fxI fx0) j (eG (L:=[_]) j fun _=>j))<|q (jX j j j j j)<|nl)<|us<|gs<|gs<|g0 j j (q (ae j j)<|nl)<|us<|Go.block<|?_
 obtain ⟨o,hl,h⟩:=bs h
 refine gl c75 j _ (fun (s:(Int×(List Int)))=>match s with | (bV,aX)=>mk [(0,D 2 (W 1 eI a_0)),(3,H 3 0),(4,iv bV)] [(3,Oc [Z (W 1 eI aX)])]) (fun (bz:(List Int)) (p:Ex×St)=>p.1= .exit 0∧p.2.norm ([3],[3])=mk [(3,H 3 0)] [(3,Oc [Z (W 1 eI bz)])]) hl (by kernel_rfl) ?_ ?_ ?_
 ·intro o p hp e
  exact nomatch (hp.1.symm.trans e)
 ·rintro ⟨bV,aX⟩ o h
  unfold nR at h
  dsimp only at h
  refine gs<|gs<|g0 j j (q (oMv j j)<|q (oMv j j)<|q (gJ j j lX j)<|q (oBi j j j j)<|nl)<|us<|gc h j ah (fun hc3 h=>?_) fun hc3 h=>?_
  ·refine Go.skip<|us<|gs<|Go.block<|?_
   obtain ⟨x18,Fe,h⟩:=bs h
   obtain ⟨x20,yu,h⟩:=bs h
   refine g0 j j (q (oMv j j)<|q (oMv j j)<|q (oMv j j)<|q (oMv j j)<|q (gq j Fe fP j j)<|q (oLd (cs:=[.im 2 _]) j tF2 j j)<|q (Am j yu fP j j j j)<|q (QD (v':=x18) tF2 j j j (fxI fx0) j j (fA yu) j)<|nl)<|Unw.blk<|us<|g1 j j (mk [(0,D 2 (W 1 eI a_0)),(3,H 3 0),(4,iv bV)] [(3,Oc [Z (W 1 eI (aX.set bV.toNat x18))])]) (q (oMv j j)<|q (oBi j j j j)<|q (ae j j)<|nl)<|Unw.nil<|?_
   cases h
   exact ⟨j,(by kernel_rfl)⟩
  ·refine Go.exit<|ux<|Unw.nil<|?_
   cases h
   exact ⟨j,(by kernel_rfl)⟩
 ·rintro ⟨e,st⟩ hp
  obtain ⟨bz,rfl⟩:∃y,y=o:=⟨o,rfl⟩
  obtain ⟨he,hst⟩:=hp
  obtain rfl:e= .exit 0:=he
  refine Unw.iU<|us<|gs<|g2 c75 j j hst (q (oMv j j)<|q (jX j j j j j)<|nl)<|us<|Go.ret (Unw.ret ?_)
  cases h
  exact fr ag0 j
theorem MG {a_0:dn} {r:dn} (h:wQ a_0=some r):FX 51 [.im 2 true (vF a_0)] (B0 [(true,[.im 0 (Y r.Name),.ow 0 1 (List.map eI r.Ring)])]):=by
 unfold wQ at h
 refine gn 12 Tryz.func51 rfl ?_
 refine gs<|g0 j j (q (oBx j abj j (tkI (tkI tk0)))<|q (oAl j Fb (tkI (tkN tk0)))<|nl)<|us<|gs<|g0 j j (q (oAl j Fb (tkI (tkN tk0)))<|nl)<|us<|gs<|g0 j j (q (oFA (r':=.mp 1 0 0) j XG j j)<|q (oLd (cs:=[.im 0 _]) j tF9 j j)<|q (oFA (r':=.mp 3 0 0) j zS j j)<|q (oSt tF9 j j j (tkI tk0) j j j)<|nl)<|us<|gs<|?_
 obtain ⟨x9,hx9,h⟩:=bs h
 refine g1 j j (mk [(1,M 1),(2,M 2),(3,M 3)] [(1,Oa (G 2 (vF a_0))),(2,Oa [C (Y (⟨#[]⟩:ByteArray)),Z (W 1 eI ([]:List Int))]),(3,Oa [C (Y a_0.Name),Z (W 1 eI ([]:List Int))])]) (q (oFA (r':=.mp 1 0 1) j XH j j)<|q (oLd (cs:=[.im 2 _]) j oz j j)<|q (oCr (xs:=[.v false [.im 2 _]]) (vs:=[(false,[.own 9 0 0])]) (v:=.v false [.own 9 0 0]) (c:=⟨.sh,0,_⟩) (cs:=[]) (Jb hx9) (.inl j) j aa3 j (ppC j pp0) j j pb0 j j j)<|q (oFA (r':=.mp 3 0 1) j BN j j)<|q (oSt oz j j j (tkO j j tk0) j j j)<|nl)<|us<|gs<|g1 j j (mk [(2,M 2),(3,M 3)] [(2,Oa [C (Y (⟨#[]⟩:ByteArray)),Z (W 1 eI ([]:List Int))]),(3,Oa [C (Y a_0.Name),Z (W 1 eI x9)])]) (q (oLd (cs:=[.im 0 _,.own 3 0 1]) j Fb j j)<|q (oSt Fb j j j (tkI (tkO j j tk0)) j j j)<|nl)<|us<|Go.ret (Unw.ret ?_)
 cases h
 exact fr agO j
theorem Lh {a_0:(List dn)} {r:(List dn)} (h:uS a_0=some r):FX 31 [.im 2 false [W 2 bQ a_0]] (B0 [(false,[.ow 0 2 (List.map bQ r)])]):=by
 unfold uS at h
 refine gn 23 Tryz.func31 rfl ?_
 refine gs<|g0 j j (q (vG j j agv)<|nl)<|us<|gs<|?_
 obtain ⟨x7,hx7,h⟩:=bs h
 refine g0 j j (q (oMv j j)<|q (gJ j j abk j)<|q (oMk (en:=bQ) j hx7 j Fa j j (fxI (fxN fx0)) j (Dk j))<|q (jX j j j j j)<|nl)<|us<|gs<|gs<|g0 j j (q (ae j j)<|nl)<|us<|Go.block<|?_
 obtain ⟨o,hl,h⟩:=bs h
 refine gl c31 j _ (fun (s:(Int×(List dn)))=>match s with | (bV,aX)=>mk [(0,D 2 (W 2 bQ a_0)),(3,H 3 0),(4,iv bV)] [(3,Oc [Z (W 2 bQ aX)])]) (fun (bz:(List dn)) (p:Ex×St)=>p.1= .exit 0∧p.2.norm ([3],[3])=mk [(3,H 3 0)] [(3,Oc [Z (W 2 bQ bz)])]) hl (by kernel_rfl) ?_ ?_ ?_
 ·intro o p hp e
  exact nomatch (hp.1.symm.trans e)
 ·rintro ⟨bV,aX⟩ o h
  unfold oQ at h
  dsimp only at h
  refine gs<|gs<|g0 j j (q (oMv j j)<|q (oMv j j)<|q (gJ j j abk j)<|q (oBi j j j j)<|nl)<|us<|gc h j ah (fun hc3 h=>?_) fun hc3 h=>?_
  ·refine Go.skip<|us<|gs<|Go.block<|?_
   obtain ⟨x18,Fe,h⟩:=bs h
   obtain ⟨x20,yu,h⟩:=bs h
   obtain ⟨x21,MF,h⟩:=bs h
   refine g0 j j (q (oMv j j)<|q (oMv j j)<|q (oMv j j)<|q (oMv j j)<|q (gq j Fe ae7 j j)<|q (oLd (cs:=[.im 2 _,.im 2 _]) j abj j j)<|q (oCr (xs:=[.v true [.im 2 _,.im 2 _]]) (vs:=[(true,[.im 0 _,.own 20 0 0])]) (v:=.v true [.im 0 _,.own 20 0 0]) (c:=⟨.sh,0,_⟩) (cs:=[]) (MG yu) (.inl j) j aaU j (ppC j pp0) j j pb0 j j j)<|q (Am j MF Fa j j j j)<|q (QD (v':=x20) Fb j j j (fxI (fxO j j fx0)) j j (fA MF) j)<|nl)<|Unw.blk<|us<|g1 j j (mk [(0,D 2 (W 2 bQ a_0)),(3,H 3 0),(4,iv bV)] [(3,Oc [Z (W 2 bQ (aX.set bV.toNat x20))])]) (q (oMv j j)<|q (oBi j j j j)<|q (ae j j)<|nl)<|Unw.nil<|?_
   cases h
   exact ⟨j,(by kernel_rfl)⟩
  ·refine Go.exit<|ux<|Unw.nil<|?_
   cases h
   exact ⟨j,(by kernel_rfl)⟩
 ·rintro ⟨e,st⟩ hp
  obtain ⟨bz,rfl⟩:∃y,y=o:=⟨o,rfl⟩
  obtain ⟨he,hst⟩:=hp
  obtain rfl:e= .exit 0:=he
  refine Unw.iU<|us<|gs<|g2 c31 j j hst (q (oMv j j)<|q (jX j j j j j)<|nl)<|us<|Go.ret (Unw.ret ?_)
  cases h
  exact fr agE j
theorem qZ {a_0:aA} {r:aA} (h:ku a_0=some r):FX 9 [.im 2 true (ak a_0)] (B0 [(true,[.im 0 (I r.Width),.im 0 (I r.Height),.ow 0 2 (List.map az r.bn),.ow 0 2 (List.map bQ r.aB)])]):=by
 unfold ku at h
 refine gn 19 Tryz.func9 rfl ?_
 refine gs<|g0 j j (q (oBx j QV j (tkI (tkI (tkI (tkI tk0)))))<|q (oAl j AZ (tkI (tkI (tkN (tkN tk0)))))<|nl)<|us<|gs<|g0 j j (q (oAl j AZ (tkI (tkI (tkN (tkN tk0)))))<|nl)<|us<|gs<|g0 j j (q (oFA (r':=.mp 1 0 0) j acV j j)<|q (oLd (cs:=[.im 0 _]) j tF2 j j)<|q (oFA (r':=.mp 3 0 0) j E8 j j)<|q (oSt tF2 j j j (tkI tk0) j j j)<|nl)<|us<|gs<|g1 j j (mk [(1,M 1),(2,M 2),(3,M 3)] [(1,Oa (G 2 (ak a_0))),(2,Oa [C (I 0),C (I 0),Z (W 2 az ([]:List af)),Z (W 2 bQ ([]:List dn))]),(3,Oa [C (I a_0.Width),C (I 0),Z (W 2 az ([]:List af)),Z (W 2 bQ ([]:List dn))])]) (q (oFA (r':=.mp 1 0 1) j acW j j)<|q (oLd (cs:=[.im 0 _]) j tF2 j j)<|q (oFA (r':=.mp 3 0 1) j Dw j j)<|q (oSt tF2 j j j (tkI tk0) j j j)<|nl)<|us<|gs<|?_
 obtain ⟨x12,zU,h⟩:=bs h
 refine g1 j j (mk [(1,M 1),(2,M 2),(3,M 3)] [(1,Oa (G 2 (ak a_0))),(2,Oa [C (I 0),C (I 0),Z (W 2 az ([]:List af)),Z (W 2 bQ ([]:List dn))]),(3,Oa [C (I a_0.Width),C (I a_0.Height),Z (W 2 az ([]:List af)),Z (W 2 bQ ([]:List dn))])]) (q (oFA (r':=.mp 1 0 2) j XC j j)<|q (oLd (cs:=[.im 2 _]) j ae9 j j)<|q (oCr (xs:=[.v false [.im 2 _]]) (vs:=[(false,[.own 12 0 0])]) (v:=.v false [.own 12 0 0]) (c:=⟨.sh,0,_⟩) (cs:=[]) (Ja zU) (.inl j) j aaM j (ppC j pp0) j j pb0 j j j)<|q (oFA (r':=.mp 3 0 2) j rM j j)<|q (oSt Eh j j j (tkO j j tk0) j j j)<|nl)<|us<|gs<|?_
 obtain ⟨x16,hx16,h⟩:=bs h
 refine g1 j j (mk [(1,M 1),(2,M 2),(3,M 3)] [(1,Oa (G 2 (ak a_0))),(2,Oa [C (I 0),C (I 0),Z (W 2 az ([]:List af)),Z (W 2 bQ ([]:List dn))]),(3,Oa [C (I a_0.Width),C (I a_0.Height),Z (W 2 az x12),Z (W 2 bQ ([]:List dn))])]) (q (oFA (r':=.mp 1 0 3) j XD j j)<|q (oLd (cs:=[.im 2 _]) j afa j j)<|q (oCr (xs:=[.v false [.im 2 _]]) (vs:=[(false,[.own 16 0 0])]) (v:=.v false [.own 16 0 0]) (c:=⟨.sh,0,_⟩) (cs:=[]) (Lh hx16) (.inl j) j aaN j (ppC j pp0) j j pb0 j j j)<|q (oFA (r':=.mp 3 0 3) j oO j j)<|q (oSt BP j j j (tkO j j tk0) j j j)<|nl)<|us<|gs<|g1 j j (mk [(2,M 2),(3,M 3)] [(2,Oa [C (I 0),C (I 0),Z (W 2 az ([]:List af)),Z (W 2 bQ ([]:List dn))]),(3,Oa [C (I a_0.Width),C (I a_0.Height),Z (W 2 az x12),Z (W 2 bQ x16)])]) (q (oLd (cs:=[.im 0 _,.im 0 _,.own 3 0 2,.own 3 0 3]) j AZ j j)<|q (oSt AZ j j j (tkI (tkI (tkO j j (tkO j j tk0)))) j j j)<|nl)<|us<|Go.ret (Unw.ret ?_)
 cases h
 exact fr rF9 j
theorem Jc {a_0:ai} {r:ai} (h:sJ a_0=some r):FX 32 [.im 2 true (iH a_0)] (B0 [(true,J 0 (iH r))]):=by
 unfold sJ at h
 refine gn 14 Tryz.func32 rfl ?_
 refine gs<|g0 j j (q (oBx j abh j (tkI (tkI (tkI tk0))))<|q (oAl j DD (tkI (tkI (tkI tk0))))<|nl)<|us<|gs<|g0 j j (q (oAl j DD (tkI (tkI (tkI tk0))))<|nl)<|us<|gs<|g0 j j (q (oFA (r':=.mp 1 0 0) j XE j j)<|q (oLd (cs:=[.im 0 _]) j tF9 j j)<|q (oFA (r':=.mp 3 0 0) j Ia j j)<|q (oSt tF9 j j j (tkI tk0) j j j)<|nl)<|us<|gs<|g1 j j (mk [(1,M 1),(2,M 2),(3,M 3)] [(1,Oa (G 0 (iH a_0))),(2,Oa [C (Y (⟨#[]⟩:ByteArray)),C (I 0),C (I 0)]),(3,Oa [C (Y a_0.jo),C (I 0),C (I 0)])]) (q (oFA (r':=.mp 1 0 1) j acX j j)<|q (oLd (cs:=[.im 0 _]) j tF2 j j)<|q (oFA (r':=.mp 3 0 1) j rO j j)<|q (oSt tF2 j j j (tkI tk0) j j j)<|nl)<|us<|gs<|g1 j j (mk [(1,M 1),(2,M 2),(3,M 3)] [(1,Oa (G 0 (iH a_0))),(2,Oa [C (Y (⟨#[]⟩:ByteArray)),C (I 0),C (I 0)]),(3,Oa [C (Y a_0.jo),C (I a_0.dV),C (I 0)])]) (q (oFA (r':=.mp 1 0 2) j acY j j)<|q (oLd (cs:=[.im 0 _]) j tF2 j j)<|q (oFA (r':=.mp 3 0 2) j zQ j j)<|q (oSt tF2 j j j (tkI tk0) j j j)<|nl)<|us<|gs<|g1 j j (mk [(2,M 2),(3,M 3)] [(2,Oa [C (Y (⟨#[]⟩:ByteArray)),C (I 0),C (I 0)]),(3,Oa (G 0 (iH a_0)))]) (q (oLd (cs:=[.im 0 _,.im 0 _,.im 0 _]) j DD j j)<|q (oSt DD j j j (tkI (tkI (tkI tk0))) j j j)<|nl)<|us<|Go.ret (Unw.ret ?_)
 cases h
 exact fr agF j
theorem rf {a_0:(List ai)} {r:(List ai)} (h:kz a_0=some r):FX 10 [.im 2 false [W 3 au a_0]] (B0 [(false,[.ow 0 3 (List.map au r)])]):=by
 unfold kz at h
 refine gn 23 Tryz.func10 rfl ?_
 refine gs<|g0 j j (q (vG j j agw)<|nl)<|us<|gs<|?_
 obtain ⟨x7,hx7,h⟩:=bs h
 refine g0 j j (q (oMv j j)<|q (gJ j j abl j)<|q (oMk (en:=au) j hx7 j Ic j j (fxI (fxI (fxI fx0))) j (eG (L:=[_]) j fun _=>j))<|q (jX j j j j j)<|nl)<|us<|gs<|gs<|g0 j j (q (ae j j)<|nl)<|us<|Go.block<|?_
 obtain ⟨o,hl,h⟩:=bs h
 refine gl c10 j _ (fun (s:(Int×(List ai)))=>match s with | (bV,aX)=>mk [(0,D 2 (W 3 au a_0)),(3,H 3 0),(4,iv bV)] [(3,Oc [Z (W 3 au aX)])]) (fun (bz:(List ai)) (p:Ex×St)=>p.1= .exit 0∧p.2.norm ([3],[3])=mk [(3,H 3 0)] [(3,Oc [Z (W 3 au bz)])]) hl (by kernel_rfl) ?_ ?_ ?_
 ·intro o p hp e
  exact nomatch (hp.1.symm.trans e)
 ·rintro ⟨bV,aX⟩ o h
  unfold mJ at h
  dsimp only at h
  refine gs<|gs<|g0 j j (q (oMv j j)<|q (oMv j j)<|q (gJ j j abl j)<|q (oBi j j j j)<|nl)<|us<|gc h j ah (fun hc3 h=>?_) fun hc3 h=>?_
  ·refine Go.skip<|us<|gs<|Go.block<|?_
   obtain ⟨x18,Fe,h⟩:=bs h
   obtain ⟨x20,yu,h⟩:=bs h
   obtain ⟨x21,MF,h⟩:=bs h
   refine g0 j j (q (oMv j j)<|q (oMv j j)<|q (oMv j j)<|q (oMv j j)<|q (gq j Fe ae8 j j)<|q (oLd (cs:=[.im 2 _,.im 2 _,.im 2 _]) j abh j j)<|q (oCa (xs:=[.v true [.im 2 _,.im 2 _,.im 2 _]]) (vs:=[(true,[.im 0 _,.im 0 _,.im 0 _])]) (v:=.v true [.im 0 _,.im 0 _,.im 0 _]) (Jc yu) (.inl j) j aaO j (ppC j pp0) j j pb0 j j j)<|q (Am j MF Ic j j j j)<|q (QD (v':=x20) DD j j j (fxI (fxI (fxI fx0))) j j (fA MF) j)<|nl)<|Unw.blk<|us<|g1 j j (mk [(0,D 2 (W 3 au a_0)),(3,H 3 0),(4,iv bV)] [(3,Oc [Z (W 3 au (aX.set bV.toNat x20))])]) (q (oMv j j)<|q (oBi j j j j)<|q (ae j j)<|nl)<|Unw.nil<|?_
   cases h
   exact ⟨j,(by kernel_rfl)⟩
  ·refine Go.exit<|ux<|Unw.nil<|?_
   cases h
   exact ⟨j,(by kernel_rfl)⟩
 ·rintro ⟨e,st⟩ hp
  obtain ⟨bz,rfl⟩:∃y,y=o:=⟨o,rfl⟩
  obtain ⟨he,hst⟩:=hp
  obtain rfl:e= .exit 0:=he
  refine Unw.iU<|us<|gs<|g2 c10 j j hst (q (oMv j j)<|q (jX j j j j j)<|nl)<|us<|Go.ret (Unw.ret ?_)
  cases h
  exact fr agy j
theorem fQ {n_0:Int} {Au:Int} {vU:Int} {r:Bool} (h:fZ n_0 Au vU=some r):FX 45 [.im 2 false [I n_0],.im 2 false [I Au],.im 2 false [I vU]] (B0 [(false,[.im 0 (V r)])]):=by
 unfold fZ at h
 refine gn 15 Tryz.func45 rfl ?_
 refine gs<|g0 j j (q (ae j j)<|nl)<|us<|gs<|gX c45 j j j (mk [(6,bv ((decide (n_0≥Au))&&(decide (n_0≤vU))))] []) ?_ ?_
 ·refine xq (oMv j j)<|xq (oMv j j)<|xq (oBi j j j j)<|xq (oMv j j)<|?_
  by_cases hc1:n_0≥Au
  ·exact xqT rfl rfl (ah.2 hc1) (oMv rfl rfl)<|xqT rfl rfl (ah.2 hc1) (oMv rfl rfl)<|xqT rfl rfl (ah.2 hc1) (oBi rfl rfl rfl rfl)<|xq (bG rfl rfl (ah.2 hc1) rfl)<|xq (ae rfl rfl)<|xn (Eq.trans (b:=(fun lI:Bool=>mk [(6,bv lI)] []) (decide (n_0≤vU))) (by kernel_rfl) (congrArg (fun lI:Bool=>mk [(6,bv lI)] []) (by first | rfl | (simp [(ah.2 hc1)];done) | (simp [(ah.2 hc1)];omega))))
  ·exact aj rfl rfl (byF ah hc1) rfl<|aj rfl rfl (byF ah hc1) rfl<|aj rfl rfl (byF ah hc1) rfl<|xq (dP rfl rfl (byF ah hc1) rfl)<|xq (ae rfl rfl)<|xn (Eq.trans (b:=(fun lI:Bool=>mk [(6,bv lI)] []) false) (by kernel_rfl) (congrArg (fun lI:Bool=>mk [(6,bv lI)] []) (by first | rfl | (simp [(byF ah hc1)];done) | (simp [(byF ah hc1)];omega))))
 ·refine us<|Go.ret (Unw.ret ?_)
  cases h
  exact fr agJ j
theorem Ih {d_0:aA} {r:Bool} (h:uT d_0=some r):FX 67 [.im 2 false [.cp (ak d_0) 0]] (B0 [(false,[.im 0 (V r)])]):=by
 unfold uT at h
 refine gn 70 Tryz.func67 rfl ?_
 refine gs<|g0 j j (q (ae j j)<|nl)<|us<|gs<|gs<|g0 j j (q (oMv j j)<|q (oNl j j j)<|q (oFA (r':=.im 2 _) j rM j j)<|q (oLd (cs:=[.im 2 _]) j Eh j j)<|q (gJ j j zT j)<|q (oBi j j j j)<|nl)<|us<|gc h j ah (fun hc1 h=>?_) fun hc1 h=>?_
 ·refine gs<|g0 j j (q (ae j j)<|nl)<|us<|Go.ret (Unw.ret ?_)
  cases h
  exact fr abf j
 ·refine Go.skip<|us<|gs<|gs<|g0 j j (q (ae j j)<|nl)<|us<|Go.block<|?_
  obtain ⟨o,hl,h⟩:=bs h
  refine gl c67 j _ (fun (dM:Int)=>mk [(0,D 2 (.cp (ak d_0) 0)),(3,iv dM)] []) (fun (o:(Unit ⊕ Bool)) (p:Ex×St)=>match o with | (.inl _)=>p.1= .exit 0∧p.2.norm ([],[])=mk [] [] | (.inr r2)=>p.1= .ret∧fin Tryz.prog cfg 67 Tryz.f67 [.im 2 false [.cp (ak d_0) 0]] p.2=some (B0 [(false,[.im 0 (V r2)])])) hl (by kernel_rfl) ?_ ?_ ?_
  ·intro o p hp e
   rcases o with u | r2<;>exact nomatch (hp.1.symm.trans e)
  ·rintro dM o h
   unfold kF at h
   refine gs<|gs<|g0 j j (q (oMv j j)<|q (oMv j j)<|q (oNl j j j)<|q (oFA (r':=.im 2 _) j rM j j)<|q (oLd (cs:=[.im 2 _]) j Eh j j)<|q (gJ j j zT j)<|q (oBi j j j j)<|nl)<|us<|gc h j ah (fun hc18 h=>?_) fun hc18 h=>?_
   ·refine Go.skip<|us<|gs<|Go.block<|gs<|gs<|?_
    obtain ⟨x25,hx25,h⟩:=bs h
    obtain ⟨x32,hx32,h⟩:=bs h
    obtain ⟨BD,DF,h⟩:=bs h
    refine gd c67 j j j j (mk [(0,D 2 (.cp (ak d_0) 0)),(3,iv dM),(49,bv BD)] []) ?_ ?_
    ·refine t j j (oMv j j)<|t j j (oNl j j j)<|t j j (oFA (r':=.im 2 _) j rM j j)<|t j j (oLd (cs:=[.im 2 _]) j Eh j j)<|t j j (oMv j j)<|t j j (gq j hx25 pK j j)<|t j j (oFA (r':=.im 2 _) j iI j j)<|t j j (oLd (cs:=[.im 2 _]) j tF2 j j)<|t j j (oMv j j)<|t j j (oNl j j j)<|t j j (oFA (r':=.im 2 _) j E8 j j)<|?_
     refine ic DF (fun hc19 DF=>?_) fun hc19 DF=>?_
     ·obtain ⟨x40,Lj,DF⟩:=bs DF
      obtain ⟨x47,TB,DF⟩:=bs DF
      cases DF
      exact t j j (oLd (cs:=[.im 2 _]) j tF2 j j)<|sS (dN z67 j (oCa (xs:=[.v false [.im 2 _],.v false [.im 0 _],.v false [.im 2 _]]) (vs:=[(false,[.im 0 _])]) (v:=.v false [.im 0 _]) (fQ hx32) (.inl j) j iP j (ppC j (ppC j (ppC j pp0))) j j pb0 j j j)) trivial (t j j (oUn j j j)<|t j j (oMv j j)<|tT j j j j (nF (iR.2 hc19)) (oMv j j)<|tT j j j j (nF (iR.2 hc19)) (oNl j j j)<|tT j j j j (nF (iR.2 hc19)) (oFA (r':=.im 2 _) j rM j j)<|tT j j j j (nF (iR.2 hc19)) (oLd (cs:=[.im 2 _]) j Eh j j)<|tT j j j j (nF (iR.2 hc19)) (oMv j j)<|tT j j j j (nF (iR.2 hc19)) (gq j Lj pK j j)<|tT j j j j (nF (iR.2 hc19)) (oFA (r':=.im 2 _) j jd j j)<|tT j j j j (nF (iR.2 hc19)) (oLd (cs:=[.im 2 _]) j tF2 j j)<|tT j j j j (nF (iR.2 hc19)) (oMv j j)<|tT j j j j (nF (iR.2 hc19)) (oNl j j j)<|tT j j j j (nF (iR.2 hc19)) (oFA (r':=.im 2 _) j Dw j j)<|tT j j j j (nF (iR.2 hc19)) (oLd (cs:=[.im 2 _]) j tF2 j j)<|sS (dT z67 j j j (nF (iR.2 hc19)) (oCa (xs:=[.v false [.im 2 _],.v false [.im 0 _],.v false [.im 2 _]]) (vs:=[(false,[.im 0 _])]) (v:=.v false [.im 0 _]) (fQ TB) (.inl j) j iP j (ppC j (ppC j (ppC j pp0))) j j pb0 j j j)) trivial (tT j j j j (nF (iR.2 hc19)) (oUn j j j)<|t j j (dP j j (nF (iR.2 hc19)) j)<|sD (by kernel_rfl)))
     ·cases DF
      exact t j j (oLd (cs:=[.im 2 _]) j tF2 j j)<|sS (dN z67 j (oCa (xs:=[.v false [.im 2 _],.v false [.im 0 _],.v false [.im 2 _]]) (vs:=[(false,[.im 0 _])]) (v:=.v false [.im 0 _]) (fQ hx32) (.inl j) j iP j (ppC j (ppC j (ppC j pp0))) j j pb0 j j j)) trivial (t j j (oUn j j j)<|t j j (oMv j j)<|tF j j j j (nT (byF iR hc19)) j<|tF j j j j (nT (byF iR hc19)) j<|tF j j j j (nT (byF iR hc19)) j<|tF j j j j (nT (byF iR hc19)) j<|tF j j j j (nT (byF iR hc19)) j<|tF j j j j (nT (byF iR hc19)) j<|tF j j j j (nT (byF iR hc19)) j<|tF j j j j (nT (byF iR hc19)) j<|tF j j j j (nT (byF iR hc19)) j<|tF j j j j (nT (byF iR hc19)) j<|tF j j j j (nT (byF iR hc19)) j<|tF j j j j (nT (byF iR hc19)) j<|sS (dF j j j (nT (byF iR hc19)) j) trivial (tF j j j j (nT (byF iR hc19)) j<|t j j (bG j j (nT (byF iR hc19)) j)<|sD (by kernel_rfl)))
    ·refine us<|gc h j iR (fun Ff h=>?_) fun Ff h=>?_
     ·refine gs<|g0 j j (q (ae j j)<|nl)<|us<|Go.ret (Unw.ret ?_)
      cases h
      exact ⟨j,(fo abf j)⟩
     ·refine Go.skip<|us<|gs<|g0 j j (q (ae j j)<|nl)<|us<|Go.block<|?_
      obtain ⟨o,hl,h⟩:=bs h
      refine gl c67 j _ (fun (EX:Int)=>mk [(0,D 2 (.cp (ak d_0) 0)),(3,iv dM),(4,iv EX)] []) (fun (o:(Unit ⊕ Bool)) (p:Ex×St)=>match o with | (.inl _)=>p.1= .exit 2∧p.2.norm ([0,3],[])=mk [(0,D 2 (.cp (ak d_0) 0)),(3,iv dM)] [] | (.inr r2)=>p.1= .ret∧fin Tryz.prog cfg 67 Tryz.f67 [.im 2 false [.cp (ak d_0) 0]] p.2=some (B0 [(false,[.im 0 (V r2)])])) hl (by kernel_rfl) ?_ ?_ ?_
      ·intro o p hp e
       rcases o with u | r2<;>exact nomatch (hp.1.symm.trans e)
      ·rintro EX o h
       unfold kE at h
       refine gs<|gs<|g0 j j (q (oMv j j)<|q (oMv j j)<|q (oBi j j j j)<|nl)<|us<|gc h j ah (fun hc25 h=>?_) fun hc25 h=>?_
       ·refine Go.skip<|us<|gs<|Go.block<|gs<|?_
        obtain ⟨x60,ahg,h⟩:=bs h
        obtain ⟨x67,qj,h⟩:=bs h
        refine gd c67 j j j j (mk [(0,D 2 (.cp (ak d_0) 0)),(3,iv dM),(4,iv EX),(69,bv ((x60.X==x67.X)&&(x60.Y==x67.Y)))] []) (t j j (oMv j j)<|t j j (oNl j j j)<|t j j (oFA (r':=.im 2 _) j rM j j)<|t j j (oLd (cs:=[.im 2 _]) j Eh j j)<|t j j (oMv j j)<|t j j (gq j ahg pK j j)<|t j j (oLd (cs:=[.im 2 _,.im 2 _]) j aJ j j)<|t j j (oMv j j)<|t j j (oNl j j j)<|t j j (oFA (r':=.im 2 _) j rM j j)<|t j j (oLd (cs:=[.im 2 _]) j Eh j j)<|t j j (oMv j j)<|t j j (gq j qj pK j j)<|t j j (oLd (cs:=[.im 2 _,.im 2 _]) j aJ j j)<|t j j (oBa j (UK x60.X x60.Y x67.X x67.Y) j j j j)<|sD (by kernel_rfl))<|us<|gc h j (xK iEq iEq) (fun XZ h=>?_) fun XZ h=>?_
        ·refine gs<|g0 j j (q (ae j j)<|nl)<|us<|Go.ret (Unw.ret ?_)
         cases h
         exact ⟨j,(fo abf j)⟩
        ·refine Go.skip<|Unw.blk<|us<|g0 j j (q (oMv j j)<|q (oBi j j j j)<|q (ae j j)<|nl)<|Unw.nil<|?_
         cases h
         exact ⟨j,(by kernel_rfl)⟩
       ·refine Go.exit<|ux<|Unw.nil<|?_
        cases h
        exact ⟨j,(by kernel_rfl)⟩
      ·rintro ⟨e,st⟩ hp
       rcases o with u | r2
       ·dsimp only at h
        obtain ⟨he,hst⟩:=hp
        obtain rfl:e= .exit 2:=he
        refine Unw.iU<|Unw.blk<|us<|g2 c67 j j hst (q (oMv j j)<|q (oBi j j j j)<|q (ae j j)<|nl)<|Unw.nil<|?_
        cases h
        exact ⟨j,(by kernel_rfl)⟩
       ·dsimp only at h
        obtain ⟨he,hfin⟩:=hp
        obtain rfl:e= .ret:=he
        cases h
        exact Unw.ret ⟨j,hfin⟩
   ·refine Go.exit<|ux<|Unw.nil<|?_
    cases h
    exact ⟨j,(by kernel_rfl)⟩
  ·rintro ⟨e,st⟩ hp
   rcases o with u | r2
   ·dsimp only at h
    obtain ⟨he,hst⟩:=hp
    obtain rfl:e= .exit 0:=he
    refine Unw.iU<|us<|gs<|g2 c67 j j hst (q (ae j j)<|nl)<|us<|Go.ret (Unw.ret ?_)
    cases h
    exact fr abf j
   ·dsimp only at h
    obtain ⟨he,hfin⟩:=hp
    obtain rfl:e= .ret:=he
    cases h
    exact Unw.ret (fO hfin)
theorem Ci {c_0:Int} {r:Bool} (h:ny c_0=some r):FX 89 [.im 2 false [.sc (.int .u8 c_0)]] (B0 [(false,[.im 0 (V r)])]):=by
 unfold ny at h
 refine gn 9 Tryz.func89 rfl ?_
 refine gs<|g0 j j (q (ae j j)<|nl)<|us<|gs<|gX c89 j j j (mk [(2,bv ((decide (c_0≥97))&&(decide (c_0≤122))))] []) ?_ ?_
 ·refine xq (oMv j j)<|xq (oBi j j j j)<|xq (oMv j j)<|?_
  by_cases hc1:c_0≥97
  ·exact xqT rfl rfl (ah.2 hc1) (oMv rfl rfl)<|xqT rfl rfl (ah.2 hc1) (oBi rfl rfl rfl rfl)<|xq (bG rfl rfl (ah.2 hc1) rfl)<|xq (ae rfl rfl)<|xn (Eq.trans (b:=(fun lH:Bool=>mk [(2,bv lH)] []) (decide (c_0≤122))) (by kernel_rfl) (congrArg (fun lH:Bool=>mk [(2,bv lH)] []) (by first | rfl | (simp [(ah.2 hc1)];done) | (simp [(ah.2 hc1)];omega))))
  ·exact aj rfl rfl (byF ah hc1) rfl<|aj rfl rfl (byF ah hc1) rfl<|xq (dP rfl rfl (byF ah hc1) rfl)<|xq (ae rfl rfl)<|xn (Eq.trans (b:=(fun lH:Bool=>mk [(2,bv lH)] []) false) (by kernel_rfl) (congrArg (fun lH:Bool=>mk [(2,bv lH)] []) (by first | rfl | (simp [(byF ah hc1)];done) | (simp [(byF ah hc1)];omega))))
 ·refine us<|Go.ret (Unw.ret ?_)
  cases h
  exact fr ag5 j
theorem Jd {c_0:Int} {r:Bool} (h:sN c_0=some r):FX 90 [.im 2 false [.sc (.int .u8 c_0)]] (B0 [(false,[.im 0 (V r)])]):=by
 unfold sN at h
 refine gn 9 Tryz.func90 rfl ?_
 refine gs<|g0 j j (q (ae j j)<|nl)<|us<|gs<|gX c90 j j j (mk [(2,bv ((decide (c_0≥48))&&(decide (c_0≤57))))] []) ?_ ?_
 ·refine xq (oMv j j)<|xq (oBi j j j j)<|xq (oMv j j)<|?_
  by_cases hc1:c_0≥48
  ·exact xqT rfl rfl (ah.2 hc1) (oMv rfl rfl)<|xqT rfl rfl (ah.2 hc1) (oBi rfl rfl rfl rfl)<|xq (bG rfl rfl (ah.2 hc1) rfl)<|xq (ae rfl rfl)<|xn (Eq.trans (b:=(fun lH:Bool=>mk [(2,bv lH)] []) (decide (c_0≤57))) (by kernel_rfl) (congrArg (fun lH:Bool=>mk [(2,bv lH)] []) (by first | rfl | (simp [(ah.2 hc1)];done) | (simp [(ah.2 hc1)];omega))))
  ·exact aj rfl rfl (byF ah hc1) rfl<|aj rfl rfl (byF ah hc1) rfl<|xq (dP rfl rfl (byF ah hc1) rfl)<|xq (ae rfl rfl)<|xn (Eq.trans (b:=(fun lH:Bool=>mk [(2,bv lH)] []) false) (by kernel_rfl) (congrArg (fun lH:Bool=>mk [(2,bv lH)] []) (by first | rfl | (simp [(byF ah hc1)];done) | (simp [(byF ah hc1)];omega))))
 ·refine us<|Go.ret (Unw.ret ?_)
  cases h
  exact fr ag6 j
theorem y8 {s_0:ByteArray} {r:Bool} (h:uU s_0=some r):FX 68 [.im 2 false [Y s_0]] (B0 [(false,[.im 0 (V r)])]):=by
 unfold uU at h
 refine gn 35 Tryz.func68 rfl ?_
 refine gs<|g0 j j (q (ae j j)<|nl)<|us<|gs<|gs<|?_
 obtain ⟨BF,Ii,h⟩:=bs h
 refine gX c68 j j j (mk [(0,sv s_0),(16,bv BF)] []) ?_ ?_
 ·refine xq (oMv j j)<|xq (oBi j j j j)<|xq (oMv j j)<|?_
  refine ic Ii (fun hc1 Ii=>?_) fun hc1 Ii=>?_
  ·cases Ii
   exact aj j j (zK.2 hc1) j<|aj j j (zK.2 hc1) j<|aj j j (zK.2 hc1) j<|xq (bG j j (zK.2 hc1) j)<|xq (oMv j j)<|aj j j j j<|aj j j j j<|aj j j j j<|aj j j j j<|xq (bG j j j j)<|xn
  ·refine xqT j j (byF zK hc1) (oMv j j)<|xqT j j (byF zK hc1) (Sv j j uF9 j)<|xqT j j (byF zK hc1) (oBi j j j j)<|xq (dP j j (byF zK hc1) j)<|xq (oMv j j)<|?_
   refine ic Ii (fun hc2 Ii=>?_) fun hc2 Ii=>?_
   ·cases Ii
    exact aj j j (ah.2 hc2) j<|aj j j (ah.2 hc2) j<|aj j j (ah.2 hc2) j<|aj j j (ah.2 hc2) j<|xq (bG j j (ah.2 hc2) j)<|xn
   ·obtain ⟨x13,Ll,Ii⟩:=bs Ii
    obtain ⟨x14,vH,Ii⟩:=bs Ii
    cases Ii
    exact xqT j j (byF ah hc2) (oMv j j)<|xqT j j (byF ah hc2) (oIx j Ll uF9 j j)<|xqT j j (byF ah hc2) (oCa (xs:=[.v false [.im 0 _]]) (vs:=[(false,[.im 0 _])]) (v:=.v false [.im 0 _]) (Ci vH) (.inl j) j XQ j (ppC j pp0) j j pb0 j j j)<|xqT j j (byF ah hc2) (oUn j j j)<|xq (dP j j (byF ah hc2) j)<|xn
 ·refine us<|gc h j iR (fun hc3 h=>?_) fun hc3 h=>?_
  ·refine gs<|g0 j j (q (ae j j)<|nl)<|us<|Go.ret (Unw.ret ?_)
   cases h
   exact fr adm j
  ·refine Go.skip<|us<|gs<|gs<|g0 j j (q (ae j j)<|nl)<|us<|Go.block<|?_
   obtain ⟨o,hl,h⟩:=bs h
   refine gl c68 j _ (fun (dM:Int)=>mk [(0,sv s_0),(3,iv dM)] []) (fun (o:(Unit ⊕ Bool)) (p:Ex×St)=>match o with | (.inl _)=>p.1= .exit 0∧p.2.norm ([],[])=mk [] [] | (.inr r2)=>p.1= .ret∧fin Tryz.prog cfg 68 Tryz.f68 [.im 2 false [Y s_0]] p.2=some (B0 [(false,[.im 0 (V r2)])])) hl (by kernel_rfl) ?_ ?_ ?_
   ·intro o p hp e
    rcases o with u | r2<;>exact nomatch (hp.1.symm.trans e)
   ·rintro dM o h
    unfold kK at h
    refine gs<|gs<|g0 j j (q (oMv j j)<|q (oMv j j)<|q (Sv j j uF9 j)<|q (oBi j j j j)<|nl)<|us<|gc h j ah (fun hc12 h=>?_) fun hc12 h=>?_
    ·refine Go.skip<|us<|gs<|Go.block<|gs<|?_
     obtain ⟨x25,hx25,h⟩:=bs h
     obtain ⟨x26,TC,h⟩:=bs h
     obtain ⟨OH,Ph,h⟩:=bs h
     refine gX c68 j j j (mk [(0,sv s_0),(3,iv dM),(34,bv OH)] []) ?_ ?_
     ·refine xq (oMv j j)<|xq (oMv j j)<|xq (oIx j hx25 uF9 j j)<|xq (oCa (xs:=[.v false [.im 0 _]]) (vs:=[(false,[.im 0 _])]) (v:=.v false [.im 0 _]) (Ci TC) (.inl j) j XQ j (ppC j pp0) j j pb0 j j j)<|xq (oUn j j j)<|xq (oMv j j)<|?_
      refine ic Ph (fun hc13 Ph=>?_) fun hc13 Ph=>?_
      ·cases Ph
       exact aj j j (nF (iR.2 hc13)) j<|aj j j (nF (iR.2 hc13)) j<|aj j j (nF (iR.2 hc13)) j<|aj j j (nF (iR.2 hc13)) j<|aj j j (nF (iR.2 hc13)) j<|xq (dP j j (nF (iR.2 hc13)) j)<|xn
      ·obtain ⟨x31,hx31,Ph⟩:=bs Ph
       obtain ⟨x32,hx32,Ph⟩:=bs Ph
       cases Ph
       exact xqT j j (nT (byF iR hc13)) (oMv j j)<|xqT j j (nT (byF iR hc13)) (oMv j j)<|xqT j j (nT (byF iR hc13)) (oIx j hx31 uF9 j j)<|xqT j j (nT (byF iR hc13)) (oCa (xs:=[.v false [.im 0 _]]) (vs:=[(false,[.im 0 _])]) (v:=.v false [.im 0 _]) (Jd hx32) (.inl j) j ac4 j (ppC j pp0) j j pb0 j j j)<|xqT j j (nT (byF iR hc13)) (oUn j j j)<|xq (bG j j (nT (byF iR hc13)) j)<|xn
     ·refine us<|gc h j iR (fun A8 h=>?_) fun A8 h=>?_
      ·refine gs<|g0 j j (q (ae j j)<|nl)<|us<|Go.ret (Unw.ret ?_)
       cases h
       exact ⟨j,(fo adm j)⟩
      ·refine Go.skip<|Unw.blk<|us<|g0 j j (q (oMv j j)<|q (oBi j j j j)<|q (ae j j)<|nl)<|Unw.nil<|?_
       cases h
       exact ⟨j,(by kernel_rfl)⟩
    ·refine Go.exit<|ux<|Unw.nil<|?_
     cases h
     exact ⟨j,(by kernel_rfl)⟩
   ·rintro ⟨e,st⟩ hp
    rcases o with u | r2
    ·dsimp only at h
     obtain ⟨he,hst⟩:=hp
     obtain rfl:e= .exit 0:=he
     refine Unw.iU<|us<|gs<|g2 c68 j j hst (q (ae j j)<|nl)<|us<|Go.ret (Unw.ret ?_)
     cases h
     exact fr adm j
    ·dsimp only at h
     obtain ⟨he,hfin⟩:=hp
     obtain rfl:e= .ret:=he
     cases h
     exact Unw.ret (fO hfin)
theorem Lm {d_0:aA} {lG:(List Int)} {r:((List af)×Bool)} (h:uV d_0 lG=some r):FX 69 [.im 2 false [.cp (ak d_0) 0],.im 2 false [W 1 eI lG]] (B0 [(false,[.ow 0 2 (List.map az r.1)]),(false,[.im 0 (V r.2)])]):=by
 unfold uV at h
 refine gn 41 Tryz.func69 rfl ?_
 refine gs<|g0 j j (q (vG j j XB)<|q (ae j j)<|nl)<|us<|gs<|g0 j j (q (oBS (es:=List.map az ([]:List af)) j pK j pt0 (eG j fun _=>j))<|q (jX j j j j j)<|nl)<|us<|gs<|gs<|g0 j j (q (ae j j)<|nl)<|us<|Go.block<|?_
 obtain ⟨o,hl,h⟩:=bs h
 refine gl c69 j _ (fun (s:(Int×(List af)))=>match s with | (BG,l9)=>mk [(0,D 2 (.cp (ak d_0) 0)),(1,D 2 (W 1 eI lG)),(6,H 6 0),(7,iv BG)] [(6,Oc [Z (W 2 az l9)])]) (fun (o:((List af) ⊕ ((List af)×Bool))) (p:Ex×St)=>match o with | (.inl kC)=>p.1= .exit 0∧p.2.norm ([6],[6])=mk [(6,H 6 0)] [(6,Oc [Z (W 2 az kC)])] | (.inr r2)=>p.1= .ret∧fin Tryz.prog cfg 69 Tryz.f69 [.im 2 false [.cp (ak d_0) 0],.im 2 false [W 1 eI lG]] p.2=some (B0 [(false,[.ow 0 2 (List.map az r2.1)]),(false,[.im 0 (V r2.2)])])) hl (by kernel_rfl) ?_ ?_ ?_
 ·intro o p hp e
  rcases o with kC | r2<;>exact nomatch (hp.1.symm.trans e)
 ·rintro ⟨BG,l9⟩ o h
  unfold xN at h
  dsimp only at h
  refine gs<|gs<|g0 j j (q (oMv j j)<|q (oMv j j)<|q (gJ j j lX j)<|q (oBi j j j j)<|nl)<|us<|gc h j ah (fun hc5 h=>?_) fun hc5 h=>?_
  ·refine Go.skip<|us<|gs<|Go.block<|gs<|gs<|?_
   obtain ⟨x17,Lp,h⟩:=bs h
   obtain ⟨x25,hx25,h⟩:=bs h
   refine gd c69 j j j j (mk [(0,D 2 (.cp (ak d_0) 0)),(1,D 2 (W 1 eI lG)),(6,H 6 0),(7,iv BG),(26,bv (!x25))] [(6,Oc [Z (W 2 az l9)])]) (t j j (oMv j j)<|t j j (oMv j j)<|t j j (gq j Lp fP j j)<|t j j (oLd (cs:=[.im 2 _]) j tF2 j j)<|t j j (oMv j j)<|t j j (oNl j j j)<|t j j (oFA (r':=.im 2 _) j rM j j)<|t j j (oLd (cs:=[.im 2 _]) j Eh j j)<|t j j (gJ j j zT j)<|t j j (oBi j j j j)<|sS (dN z69 j (oCa (xs:=[.v false [.im 2 _],.v false [.im 0 _],.v false [.im 0 _]]) (vs:=[(false,[.im 0 _])]) (v:=.v false [.im 0 _]) (fQ hx25) (.inl j) j iP j (ppC j (ppC j (ppC j pp0))) j j pb0 j j j)) trivial (t j j (oUn j j j)<|sD (by kernel_rfl)))<|us<|?_
   by_cases hc6:x25=true
   ·rw [if_pos hc6] at h
    refine gF j (nF (iR.2 hc6))<|Go.skip<|us<|?_
    obtain ⟨x34,hx34,h⟩:=bs h
    obtain ⟨x36,Ba,h⟩:=bs h
    obtain ⟨x39,hx39,h⟩:=bs h
    refine gd c69 j j j j (mk [(0,D 2 (.cp (ak d_0) 0)),(1,D 2 (W 1 eI lG)),(6,H 6 0),(7,iv BG)] [(6,Oc [Z (W 2 az x39)])]) (t j j (oMv j j)<|t j j (oMv j j)<|t j j (oNl j j j)<|t j j (oFA (r':=.im 2 _) j rM j j)<|t j j (oLd (cs:=[.im 2 _]) j Eh j j)<|t j j (oMv j j)<|t j j (oMv j j)<|t j j (gq j hx34 fP j j)<|t j j (oLd (cs:=[.im 2 _]) j tF2 j j)<|t j j (gq j Ba pK j j)<|t j j (oLd (cs:=[.im 2 _,.im 2 _]) j aJ j j)<|sS (dN z69 j (oBS (es:=List.map az ([x36]:List af)) j pK j (ptC j (fxI (fxI fx0)) j pt0) (eG j fun _=>j))) trivial (sS (dN z69 j (EU (en:=az) (M:=([x36]:List af)) j hx39 j pK j j zT (.inl ⟨_,j⟩) j j j j (kJ j j) (eG j fun _=>j))) trivial (sS (dN z69 j (jX j j j j j)) trivial (sD (by kernel_rfl)))))<|Unw.blk<|us<|g0 j j (q (oMv j j)<|q (oBi j j j j)<|q (ae j j)<|nl)<|Unw.nil<|?_
    cases h
    exact ⟨j,(by kernel_rfl)⟩
   ·rw [if_neg hc6] at h
    refine gT j (nT (byF iR hc6))<|gs<|g0 j j (q (vG j j XB)<|q (ae j j)<|nl)<|us<|Go.ret (Unw.ret ?_)
    cases h
    exact ⟨j,(fo aeV j)⟩
  ·refine Go.exit<|ux<|Unw.nil<|?_
   cases h
   exact ⟨j,(by kernel_rfl)⟩
 ·rintro ⟨e,st⟩ hp
  rcases o with kC | r2
  ·dsimp only at h
   obtain ⟨he,hst⟩:=hp
   obtain rfl:e= .exit 0:=he
   refine Unw.iU<|us<|gs<|g2 c69 j j hst (q (oMv j j)<|q (jX j j j j j)<|q (ae j j)<|nl)<|us<|Go.ret (Unw.ret ?_)
   cases h
   exact fr aeV j
  ·dsimp only at h
   obtain ⟨he,hfin⟩:=hp
   obtain rfl:e= .ret:=he
   cases h
   exact Unw.ret (fO hfin)
theorem Pj {p_0:af} {r:Bool} (h:EY p_0=some r):FX 91 [.im 2 true (aF p_0)] (B0 [(false,[.im 0 (V r)])]):=by
 unfold EY at h
 refine gn 11 Tryz.func91 rfl ?_
 refine gs<|g0 j j (q (oBx j aJ j (tkI (tkI tk0)))<|q (ae j j)<|nl)<|us<|gs<|?_
 obtain ⟨x5,hx5,h⟩:=bs h
 obtain ⟨lH,hm2,h⟩:=bs h
 refine gX c91 j j j (mk [(2,bv lH)] []) ?_ ?_
 ·refine xq (oFA (r':=.mp 1 0 0) j iI j j)<|xq (oLd (cs:=[.im 0 _]) j tF2 j j)<|xq (oCa (xs:=[.v false [.im 0 _],.v false [.im 0 _],.v false [.im 0 _]]) (vs:=[(false,[.im 0 _])]) (v:=.v false [.im 0 _]) (fQ hx5) (.inl j) j iP j (ppC j (ppC j (ppC j pp0))) j j pb0 j j j)<|xq (oMv j j)<|?_
  refine ic hm2 (fun hc1 hm2=>?_) fun hc1 hm2=>?_
  ·obtain ⟨x9,hx9,hm2⟩:=bs hm2
   cases hm2
   exact xqT j j (iR.2 hc1) (oFA (r':=.mp 1 0 1) j jd j j)<|xqT j j (iR.2 hc1) (oLd (cs:=[.im 0 _]) j tF2 j j)<|xqT j j (iR.2 hc1) (oCa (xs:=[.v false [.im 0 _],.v false [.im 0 _],.v false [.im 0 _]]) (vs:=[(false,[.im 0 _])]) (v:=.v false [.im 0 _]) (fQ hx9) (.inl j) j iP j (ppC j (ppC j (ppC j pp0))) j j pb0 j j j)<|xq (bG j j (iR.2 hc1) j)<|xq (ae j j)<|xn
  ·cases hm2
   exact aj j j (byF iR hc1) j<|aj j j (byF iR hc1) j<|aj j j (byF iR hc1) j<|xq (dP j j (byF iR hc1) j)<|xq (ae j j)<|xn
 ·refine us<|Go.ret (Unw.ret ?_)
  cases h
  exact fr ag7 j
theorem Je {a_0:af} {b_1:af} {c_2:af} {r:Int} (h:wE a_0 b_1 c_2=some r):FX 131 [.im 2 true (aF a_0),.im 2 true (aF b_1),.im 2 true (aF c_2)] (B0 [(false,[.im 0 (I r)])]):=by
 unfold wE at h
 refine gn 30 Tryz.func131 rfl ?_
 refine gs<|g0 j j (q (oBx j aJ j (tkI (tkI tk0)))<|q (oBx j aJ j (tkI (tkI tk0)))<|q (oBx j aJ j (tkI (tkI tk0)))<|q (ae j j)<|nl)<|us<|gs<|g0 j j (q (oFA (r':=.mp 4 0 0) j iI j j)<|q (oLd (cs:=[.im 0 _]) j tF2 j j)<|q (oFA (r':=.mp 3 0 0) j iI j j)<|q (oLd (cs:=[.im 0 _]) j tF2 j j)<|q (oBi j j j j)<|q (oFA (r':=.mp 5 0 1) j jd j j)<|q (oLd (cs:=[.im 0 _]) j tF2 j j)<|q (oFA (r':=.mp 3 0 1) j jd j j)<|q (oLd (cs:=[.im 0 _]) j tF2 j j)<|q (oBi j j j j)<|q (oBi j j j j)<|q (oFA (r':=.mp 4 0 1) j jd j j)<|q (oLd (cs:=[.im 0 _]) j tF2 j j)<|q (oFA (r':=.mp 3 0 1) j jd j j)<|q (oLd (cs:=[.im 0 _]) j tF2 j j)<|q (oBi j j j j)<|q (oFA (r':=.mp 5 0 0) j iI j j)<|q (oLd (cs:=[.im 0 _]) j tF2 j j)<|q (oFA (r':=.mp 3 0 0) j iI j j)<|q (oLd (cs:=[.im 0 _]) j tF2 j j)<|q (oBi j j j j)<|q (oBi j j j j)<|q (oBi j j j j)<|q (ae j j)<|nl)<|us<|Go.ret (Unw.ret ?_)
 cases h
 exact fr aeM j
theorem jv {a_0:af} {b_1:af} {c_2:af} {r:Int} (h:kU a_0 b_1 c_2=some r):FX 118 [.im 2 true (aF a_0),.im 2 true (aF b_1),.im 2 true (aF c_2)] (B0 [(false,[.im 0 (I r)])]):=by
 unfold kU at h
 refine gn 16 Tryz.func118 rfl ?_
 refine gs<|g0 j j (q (oBx j aJ j (tkI (tkI tk0)))<|q (oBx j aJ j (tkI (tkI tk0)))<|q (oBx j aJ j (tkI (tkI tk0)))<|q (ae j j)<|nl)<|us<|gs<|?_
 obtain ⟨x11,X0,h⟩:=bs h
 refine g0 j j (q (oLd (cs:=[.im 0 _,.im 0 _]) j aJ j j)<|q (oLd (cs:=[.im 0 _,.im 0 _]) j aJ j j)<|q (oLd (cs:=[.im 0 _,.im 0 _]) j aJ j j)<|q (oCa (xs:=[.v true [.im 0 _,.im 0 _],.v true [.im 0 _,.im 0 _],.v true [.im 0 _,.im 0 _]]) (vs:=[(false,[.im 0 _])]) (v:=.v false [.im 0 _]) (Je X0) (.inl j) j KY j (ppC j (ppC j (ppC j pp0))) j j pb0 j j j)<|q (ae j j)<|nl)<|us<|gs<|gs<|g0 j j (q (oMv j j)<|q (oBi j j j j)<|nl)<|us<|gc h j ah (fun hc1 h=>?_) fun hc1 h=>?_
 ·refine gs<|g0 j j (q (ae j j)<|nl)<|us<|Go.ret (Unw.ret ?_)
  cases h
  exact fr XR j
 ·refine Go.skip<|us<|gs<|gs<|g0 j j (q (oMv j j)<|q (oBi j j j j)<|nl)<|us<|gc h j ah (fun hc2 h=>?_) fun hc2 h=>?_
  ·refine gs<|g0 j j (q (ae j j)<|nl)<|us<|Go.ret (Unw.ret ?_)
   cases h
   exact fr XR j
  ·refine Go.skip<|us<|gs<|g0 j j (q (ae j j)<|nl)<|us<|Go.ret (Unw.ret ?_)
   cases h
   exact fr XR j
theorem wL {a_0:Int} {b_1:Int} {r:Int} (h:mM a_0 b_1=some r):FX 99 [.im 2 false [I a_0],.im 2 false [I b_1]] (B0 [(false,[.im 0 (I r)])]):=by
 unfold mM at h
 refine gn 10 Tryz.func99 rfl ?_
 refine gs<|g0 j j (q (ae j j)<|nl)<|us<|gs<|gs<|g0 j j (q (oMv j j)<|q (oMv j j)<|q (oBi j j j j)<|nl)<|us<|gc h j ah (fun hc1 h=>?_) fun hc1 h=>?_
 ·refine gs<|g0 j j (q (oMv j j)<|q (ae j j)<|nl)<|us<|Go.ret (Unw.ret ?_)
  cases h
  exact fr ae5 j
 ·refine Go.skip<|us<|gs<|g0 j j (q (oMv j j)<|q (ae j j)<|nl)<|us<|Go.ret (Unw.ret ?_)
  cases h
  exact fr ae5 j
theorem tq {a_0:Int} {b_1:Int} {r:Int} (h:kW a_0 b_1=some r):FX 73 [.im 2 false [I a_0],.im 2 false [I b_1]] (B0 [(false,[.im 0 (I r)])]):=by
 unfold kW at h
 refine gn 10 Tryz.func73 rfl ?_
 refine gs<|g0 j j (q (ae j j)<|nl)<|us<|gs<|gs<|g0 j j (q (oMv j j)<|q (oMv j j)<|q (oBi j j j j)<|nl)<|us<|gc h j ah (fun hc1 h=>?_) fun hc1 h=>?_
 ·refine gs<|g0 j j (q (oMv j j)<|q (ae j j)<|nl)<|us<|Go.ret (Unw.ret ?_)
  cases h
  exact fr aeX j
 ·refine Go.skip<|us<|gs<|g0 j j (q (oMv j j)<|q (ae j j)<|nl)<|us<|Go.ret (Unw.ret ?_)
  cases h
  exact fr aeX j
theorem rq {a_0:af} {b_1:af} {p_2:af} {r:Bool} (h:nC a_0 b_1 p_2=some r):FX 92 [.im 2 true (aF a_0),.im 2 true (aF b_1),.im 2 true (aF p_2)] (B0 [(false,[.im 0 (V r)])]):=by
 unfold nC at h
 refine gn 42 Tryz.func92 rfl ?_
 refine gs<|g0 j j (q (oBx j aJ j (tkI (tkI tk0)))<|q (oBx j aJ j (tkI (tkI tk0)))<|q (oBx j aJ j (tkI (tkI tk0)))<|q (ae j j)<|nl)<|us<|gs<|?_
 obtain ⟨x10,Ij,h⟩:=bs h
 obtain ⟨lI,hm3,h⟩:=bs h
 refine gd c92 j j j j (mk [(6,bv lI)] []) ?_ ?_
 ·refine t j j (oLd (cs:=[.im 0 _,.im 0 _]) j aJ j j)<|t j j (oLd (cs:=[.im 0 _,.im 0 _]) j aJ j j)<|?_
  refine ic hm3 (fun hc1 hm3=>?_) fun hc1 hm3=>?_
  ·obtain ⟨x19,yw,hm3⟩:=bs hm3
   obtain ⟨x24,hx24,hm3⟩:=bs hm3
   obtain ⟨x25,hx25,hm3⟩:=bs hm3
   refine ic hm3 (fun hc2 hm3=>?_) fun hc2 hm3=>?_
   ·obtain ⟨x34,hx34,hm3⟩:=bs hm3
    obtain ⟨x39,hx39,hm3⟩:=bs hm3
    obtain ⟨x40,Lj,hm3⟩:=bs hm3
    cases hm3
    exact t j j (oLd (cs:=[.im 0 _,.im 0 _]) j aJ j j)<|sS (dN z92 j (oCa (xs:=[.v true [.im 0 _,.im 0 _],.v true [.im 0 _,.im 0 _],.v true [.im 0 _,.im 0 _]]) (vs:=[(false,[.im 0 _])]) (v:=.v false [.im 0 _]) (jv Ij) (.inl j) j jr j (ppC j (ppC j (ppC j pp0))) j j pb0 j j j)) trivial (t j j (oBi j j j j)<|t j j (oMv j j)<|tT j j j j (iEq.2 hc1) (oFA (r':=.mp 5 0 0) j iI j j)<|tT j j j j (iEq.2 hc1) (oLd (cs:=[.im 0 _]) j tF2 j j)<|tT j j j j (iEq.2 hc1) (oFA (r':=.mp 3 0 0) j iI j j)<|tT j j j j (iEq.2 hc1) (oLd (cs:=[.im 0 _]) j tF2 j j)<|tT j j j j (iEq.2 hc1) (oFA (r':=.mp 4 0 0) j iI j j)<|tT j j j j (iEq.2 hc1) (oLd (cs:=[.im 0 _]) j tF2 j j)<|tT j j j j (iEq.2 hc1) (oFA (r':=.mp 3 0 0) j iI j j)<|tT j j j j (iEq.2 hc1) (oLd (cs:=[.im 0 _]) j tF2 j j)<|tT j j j j (iEq.2 hc1) (oFA (r':=.mp 4 0 0) j iI j j)<|tT j j j j (iEq.2 hc1) (oLd (cs:=[.im 0 _]) j tF2 j j)<|sS (dT z92 j j j (iEq.2 hc1) (oCa (xs:=[.v false [.im 0 _],.v false [.im 0 _]]) (vs:=[(false,[.im 0 _])]) (v:=.v false [.im 0 _]) (wL yw) (.inl j) j Gv j (ppC j (ppC j pp0)) j j pb0 j j j)) trivial (sS (dT z92 j j j (iEq.2 hc1) (oCa (xs:=[.v false [.im 0 _],.v false [.im 0 _]]) (vs:=[(false,[.im 0 _])]) (v:=.v false [.im 0 _]) (tq hx24) (.inl j) j Dz j (ppC j (ppC j pp0)) j j pb0 j j j)) trivial (sS (dT z92 j j j (iEq.2 hc1) (oCa (xs:=[.v false [.im 0 _],.v false [.im 0 _],.v false [.im 0 _]]) (vs:=[(false,[.im 0 _])]) (v:=.v false [.im 0 _]) (fQ hx25) (.inl j) j iP j (ppC j (ppC j (ppC j pp0))) j j pb0 j j j)) trivial (t j j (bG j j (iEq.2 hc1) j)<|t j j (oMv j j)<|tT j j j j (iR.2 hc2) (oFA (r':=.mp 5 0 1) j jd j j)<|tT j j j j (iR.2 hc2) (oLd (cs:=[.im 0 _]) j tF2 j j)<|tT j j j j (iR.2 hc2) (oFA (r':=.mp 3 0 1) j jd j j)<|tT j j j j (iR.2 hc2) (oLd (cs:=[.im 0 _]) j tF2 j j)<|tT j j j j (iR.2 hc2) (oFA (r':=.mp 4 0 1) j jd j j)<|tT j j j j (iR.2 hc2) (oLd (cs:=[.im 0 _]) j tF2 j j)<|tT j j j j (iR.2 hc2) (oFA (r':=.mp 3 0 1) j jd j j)<|tT j j j j (iR.2 hc2) (oLd (cs:=[.im 0 _]) j tF2 j j)<|tT j j j j (iR.2 hc2) (oFA (r':=.mp 4 0 1) j jd j j)<|tT j j j j (iR.2 hc2) (oLd (cs:=[.im 0 _]) j tF2 j j)<|sS (dT z92 j j j (iR.2 hc2) (oCa (xs:=[.v false [.im 0 _],.v false [.im 0 _]]) (vs:=[(false,[.im 0 _])]) (v:=.v false [.im 0 _]) (wL hx34) (.inl j) j Gv j (ppC j (ppC j pp0)) j j pb0 j j j)) trivial (sS (dT z92 j j j (iR.2 hc2) (oCa (xs:=[.v false [.im 0 _],.v false [.im 0 _]]) (vs:=[(false,[.im 0 _])]) (v:=.v false [.im 0 _]) (tq hx39) (.inl j) j Dz j (ppC j (ppC j pp0)) j j pb0 j j j)) trivial (sS (dT z92 j j j (iR.2 hc2) (oCa (xs:=[.v false [.im 0 _],.v false [.im 0 _],.v false [.im 0 _]]) (vs:=[(false,[.im 0 _])]) (v:=.v false [.im 0 _]) (fQ Lj) (.inl j) j iP j (ppC j (ppC j (ppC j pp0))) j j pb0 j j j)) trivial (t j j (bG j j (iR.2 hc2) j)<|sS (dN z92 j (ae j j)) trivial (sD (by kernel_rfl)))))))))
   ·cases hm3
    exact t j j (oLd (cs:=[.im 0 _,.im 0 _]) j aJ j j)<|sS (dN z92 j (oCa (xs:=[.v true [.im 0 _,.im 0 _],.v true [.im 0 _,.im 0 _],.v true [.im 0 _,.im 0 _]]) (vs:=[(false,[.im 0 _])]) (v:=.v false [.im 0 _]) (jv Ij) (.inl j) j jr j (ppC j (ppC j (ppC j pp0))) j j pb0 j j j)) trivial (t j j (oBi j j j j)<|t j j (oMv j j)<|tT j j j j (iEq.2 hc1) (oFA (r':=.mp 5 0 0) j iI j j)<|tT j j j j (iEq.2 hc1) (oLd (cs:=[.im 0 _]) j tF2 j j)<|tT j j j j (iEq.2 hc1) (oFA (r':=.mp 3 0 0) j iI j j)<|tT j j j j (iEq.2 hc1) (oLd (cs:=[.im 0 _]) j tF2 j j)<|tT j j j j (iEq.2 hc1) (oFA (r':=.mp 4 0 0) j iI j j)<|tT j j j j (iEq.2 hc1) (oLd (cs:=[.im 0 _]) j tF2 j j)<|tT j j j j (iEq.2 hc1) (oFA (r':=.mp 3 0 0) j iI j j)<|tT j j j j (iEq.2 hc1) (oLd (cs:=[.im 0 _]) j tF2 j j)<|tT j j j j (iEq.2 hc1) (oFA (r':=.mp 4 0 0) j iI j j)<|tT j j j j (iEq.2 hc1) (oLd (cs:=[.im 0 _]) j tF2 j j)<|sS (dT z92 j j j (iEq.2 hc1) (oCa (xs:=[.v false [.im 0 _],.v false [.im 0 _]]) (vs:=[(false,[.im 0 _])]) (v:=.v false [.im 0 _]) (wL yw) (.inl j) j Gv j (ppC j (ppC j pp0)) j j pb0 j j j)) trivial (sS (dT z92 j j j (iEq.2 hc1) (oCa (xs:=[.v false [.im 0 _],.v false [.im 0 _]]) (vs:=[(false,[.im 0 _])]) (v:=.v false [.im 0 _]) (tq hx24) (.inl j) j Dz j (ppC j (ppC j pp0)) j j pb0 j j j)) trivial (sS (dT z92 j j j (iEq.2 hc1) (oCa (xs:=[.v false [.im 0 _],.v false [.im 0 _],.v false [.im 0 _]]) (vs:=[(false,[.im 0 _])]) (v:=.v false [.im 0 _]) (fQ hx25) (.inl j) j iP j (ppC j (ppC j (ppC j pp0))) j j pb0 j j j)) trivial (t j j (bG j j (iEq.2 hc1) j)<|t j j (oMv j j)<|tF j j j j (byF iR hc2) j<|tF j j j j (byF iR hc2) j<|tF j j j j (byF iR hc2) j<|tF j j j j (byF iR hc2) j<|tF j j j j (byF iR hc2) j<|tF j j j j (byF iR hc2) j<|tF j j j j (byF iR hc2) j<|tF j j j j (byF iR hc2) j<|tF j j j j (byF iR hc2) j<|tF j j j j (byF iR hc2) j<|sS (dF j j j (byF iR hc2) j) trivial (sS (dF j j j (byF iR hc2) j) trivial (sS (dF j j j (byF iR hc2) j) trivial (t j j (dP j j (byF iR hc2) j)<|sS (dN z92 j (ae j j)) trivial (sD (by kernel_rfl)))))))))
  ·cases hm3
   exact t j j (oLd (cs:=[.im 0 _,.im 0 _]) j aJ j j)<|sS (dN z92 j (oCa (xs:=[.v true [.im 0 _,.im 0 _],.v true [.im 0 _,.im 0 _],.v true [.im 0 _,.im 0 _]]) (vs:=[(false,[.im 0 _])]) (v:=.v false [.im 0 _]) (jv Ij) (.inl j) j jr j (ppC j (ppC j (ppC j pp0))) j j pb0 j j j)) trivial (t j j (oBi j j j j)<|t j j (oMv j j)<|tF j j j j (byF iEq hc1) j<|tF j j j j (byF iEq hc1) j<|tF j j j j (byF iEq hc1) j<|tF j j j j (byF iEq hc1) j<|tF j j j j (byF iEq hc1) j<|tF j j j j (byF iEq hc1) j<|tF j j j j (byF iEq hc1) j<|tF j j j j (byF iEq hc1) j<|tF j j j j (byF iEq hc1) j<|tF j j j j (byF iEq hc1) j<|sS (dF j j j (byF iEq hc1) j) trivial (sS (dF j j j (byF iEq hc1) j) trivial (sS (dF j j j (byF iEq hc1) j) trivial (t j j (dP j j (byF iEq hc1) j)<|t j j (oMv j j)<|tF j j j j j j<|tF j j j j j j<|tF j j j j j j<|tF j j j j j j<|tF j j j j j j<|tF j j j j j j<|tF j j j j j j<|tF j j j j j j<|tF j j j j j j<|tF j j j j j j<|sS (dF j j j j j) trivial (sS (dF j j j j j) trivial (sS (dF j j j j j) trivial (t j j (dP j j j j)<|sS (dN z92 j (ae j j)) trivial (sD (by kernel_rfl)))))))))
 ·refine us<|Go.ret (Unw.ret ?_)
  cases h
  exact fr ag8 j
theorem Gx {a_0:af} {b_1:af} {c_2:af} {d_3:af} {r:Bool} (h:oU a_0 b_1 c_2 d_3=some r):FX 119 [.im 2 true (aF a_0),.im 2 true (aF b_1),.im 2 true (aF c_2),.im 2 true (aF d_3)] (B0 [(false,[.im 0 (V r)])]):=by
 unfold oU at h
 refine gn 31 Tryz.func119 rfl ?_
 refine gs<|g0 j j (q (oBx j aJ j (tkI (tkI tk0)))<|q (oBx j aJ j (tkI (tkI tk0)))<|q (oBx j aJ j (tkI (tkI tk0)))<|q (oBx j aJ j (tkI (tkI tk0)))<|q (ae j j)<|nl)<|us<|gs<|?_
 obtain ⟨x12,zU,h⟩:=bs h
 obtain ⟨x16,hx16,h⟩:=bs h
 obtain ⟨tZ,hm2,h⟩:=bs h
 refine gd c119 j j j j (mk [(8,bv tZ)] []) ?_ ?_
 ·refine t j j (oLd (cs:=[.im 0 _,.im 0 _]) j aJ j j)<|t j j (oLd (cs:=[.im 0 _,.im 0 _]) j aJ j j)<|t j j (oLd (cs:=[.im 0 _,.im 0 _]) j aJ j j)<|t j j (oLd (cs:=[.im 0 _,.im 0 _]) j aJ j j)<|t j j (oLd (cs:=[.im 0 _,.im 0 _]) j aJ j j)<|?_
  refine ic hm2 (fun hc1 hm2=>?_) fun hc1 hm2=>?_
  ·obtain ⟨x23,zq,hm2⟩:=bs hm2
   obtain ⟨x27,hx27,hm2⟩:=bs hm2
   cases hm2
   exact t j j (oLd (cs:=[.im 0 _,.im 0 _]) j aJ j j)<|sS (dN z119 j (oCa (xs:=[.v true [.im 0 _,.im 0 _],.v true [.im 0 _,.im 0 _],.v true [.im 0 _,.im 0 _]]) (vs:=[(false,[.im 0 _])]) (v:=.v false [.im 0 _]) (jv zU) (.inl j) j jr j (ppC j (ppC j (ppC j pp0))) j j pb0 j j j)) trivial (sS (dN z119 j (oCa (xs:=[.v true [.im 0 _,.im 0 _],.v true [.im 0 _,.im 0 _],.v true [.im 0 _,.im 0 _]]) (vs:=[(false,[.im 0 _])]) (v:=.v false [.im 0 _]) (jv hx16) (.inl j) j jr j (ppC j (ppC j (ppC j pp0))) j j pb0 j j j)) trivial (t j j (oBi j j j j)<|t j j (oBi j j j j)<|t j j (oMv j j)<|tT j j j j (ah.2 hc1) (oLd (cs:=[.im 0 _,.im 0 _]) j aJ j j)<|tT j j j j (ah.2 hc1) (oLd (cs:=[.im 0 _,.im 0 _]) j aJ j j)<|tT j j j j (ah.2 hc1) (oLd (cs:=[.im 0 _,.im 0 _]) j aJ j j)<|tT j j j j (ah.2 hc1) (oLd (cs:=[.im 0 _,.im 0 _]) j aJ j j)<|tT j j j j (ah.2 hc1) (oLd (cs:=[.im 0 _,.im 0 _]) j aJ j j)<|tT j j j j (ah.2 hc1) (oLd (cs:=[.im 0 _,.im 0 _]) j aJ j j)<|sS (dT z119 j j j (ah.2 hc1) (oCa (xs:=[.v true [.im 0 _,.im 0 _],.v true [.im 0 _,.im 0 _],.v true [.im 0 _,.im 0 _]]) (vs:=[(false,[.im 0 _])]) (v:=.v false [.im 0 _]) (jv zq) (.inl j) j jr j (ppC j (ppC j (ppC j pp0))) j j pb0 j j j)) trivial (sS (dT z119 j j j (ah.2 hc1) (oCa (xs:=[.v true [.im 0 _,.im 0 _],.v true [.im 0 _,.im 0 _],.v true [.im 0 _,.im 0 _]]) (vs:=[(false,[.im 0 _])]) (v:=.v false [.im 0 _]) (jv hx27) (.inl j) j jr j (ppC j (ppC j (ppC j pp0))) j j pb0 j j j)) trivial (tT j j j j (ah.2 hc1) (oBi j j j j)<|tT j j j j (ah.2 hc1) (oBi j j j j)<|t j j (bG j j (ah.2 hc1) j)<|sS (dN z119 j (ae j j)) trivial (sD (by kernel_rfl))))))
  ·cases hm2
   exact t j j (oLd (cs:=[.im 0 _,.im 0 _]) j aJ j j)<|sS (dN z119 j (oCa (xs:=[.v true [.im 0 _,.im 0 _],.v true [.im 0 _,.im 0 _],.v true [.im 0 _,.im 0 _]]) (vs:=[(false,[.im 0 _])]) (v:=.v false [.im 0 _]) (jv zU) (.inl j) j jr j (ppC j (ppC j (ppC j pp0))) j j pb0 j j j)) trivial (sS (dN z119 j (oCa (xs:=[.v true [.im 0 _,.im 0 _],.v true [.im 0 _,.im 0 _],.v true [.im 0 _,.im 0 _]]) (vs:=[(false,[.im 0 _])]) (v:=.v false [.im 0 _]) (jv hx16) (.inl j) j jr j (ppC j (ppC j (ppC j pp0))) j j pb0 j j j)) trivial (t j j (oBi j j j j)<|t j j (oBi j j j j)<|t j j (oMv j j)<|tF j j j j (byF ah hc1) j<|tF j j j j (byF ah hc1) j<|tF j j j j (byF ah hc1) j<|tF j j j j (byF ah hc1) j<|tF j j j j (byF ah hc1) j<|tF j j j j (byF ah hc1) j<|sS (dF j j j (byF ah hc1) j) trivial (sS (dF j j j (byF ah hc1) j) trivial (tF j j j j (byF ah hc1) j<|tF j j j j (byF ah hc1) j<|t j j (dP j j (byF ah hc1) j)<|sS (dN z119 j (ae j j)) trivial (sD (by kernel_rfl))))))
 ·refine us<|Go.ret (Unw.ret ?_)
  cases h
  exact fr aeI j
theorem Lr {a_0:af} {b_1:af} {c_2:af} {d_3:af} {r:Bool} (h:uX a_0 b_1 c_2 d_3=some r):FX 93 [.im 2 true (aF a_0),.im 2 true (aF b_1),.im 2 true (aF c_2),.im 2 true (aF d_3)] (B0 [(false,[.im 0 (V r)])]):=by
 unfold uX at h
 refine gn 38 Tryz.func93 rfl ?_
 refine gs<|g0 j j (q (oBx j aJ j (tkI (tkI tk0)))<|q (oBx j aJ j (tkI (tkI tk0)))<|q (oBx j aJ j (tkI (tkI tk0)))<|q (oBx j aJ j (tkI (tkI tk0)))<|q (ae j j)<|nl)<|us<|gs<|?_
 obtain ⟨x13,Ll,h⟩:=bs h
 obtain ⟨tZ,hm5,h⟩:=bs h
 refine gX c93 j j j (mk [(8,bv tZ)] []) ?_ ?_
 ·refine xq (oLd (cs:=[.im 0 _,.im 0 _]) j aJ j j)<|xq (oLd (cs:=[.im 0 _,.im 0 _]) j aJ j j)<|xq (oLd (cs:=[.im 0 _,.im 0 _]) j aJ j j)<|xq (oLd (cs:=[.im 0 _,.im 0 _]) j aJ j j)<|xq (oCa (xs:=[.v true [.im 0 _,.im 0 _],.v true [.im 0 _,.im 0 _],.v true [.im 0 _,.im 0 _],.v true [.im 0 _,.im 0 _]]) (vs:=[(false,[.im 0 _])]) (v:=.v false [.im 0 _]) (Gx Ll) (.inl j) j Gs j (ppC j (ppC j (ppC j (ppC j pp0)))) j j pb0 j j j)<|xq (oMv j j)<|?_
  refine ic hm5 (fun hc1 hm5=>?_) fun hc1 hm5=>?_
  ·cases hm5
   exact aj j j (iR.2 hc1) j<|aj j j (iR.2 hc1) j<|aj j j (iR.2 hc1) j<|aj j j (iR.2 hc1) j<|xq (bG j j (iR.2 hc1) j)<|xq (oMv j j)<|aj j j j j<|aj j j j j<|aj j j j j<|aj j j j j<|xq (bG j j j j)<|xq (oMv j j)<|aj j j j j<|aj j j j j<|aj j j j j<|aj j j j j<|xq (bG j j j j)<|xq (oMv j j)<|aj j j j j<|aj j j j j<|aj j j j j<|aj j j j j<|xq (bG j j j j)<|xq (ae j j)<|xn
  ·obtain ⟨x18,Fe,hm5⟩:=bs hm5
   refine xqT j j (byF iR hc1) (oLd (cs:=[.im 0 _,.im 0 _]) j aJ j j)<|xqT j j (byF iR hc1) (oLd (cs:=[.im 0 _,.im 0 _]) j aJ j j)<|xqT j j (byF iR hc1) (oLd (cs:=[.im 0 _,.im 0 _]) j aJ j j)<|xqT j j (byF iR hc1) (oCa (xs:=[.v true [.im 0 _,.im 0 _],.v true [.im 0 _,.im 0 _],.v true [.im 0 _,.im 0 _]]) (vs:=[(false,[.im 0 _])]) (v:=.v false [.im 0 _]) (rq Fe) (.inl j) j pX j (ppC j (ppC j (ppC j pp0))) j j pb0 j j j)<|xq (dP j j (byF iR hc1) j)<|xq (oMv j j)<|?_
   refine ic hm5 (fun hc2 hm5=>?_) fun hc2 hm5=>?_
   ·cases hm5
    exact aj j j (iR.2 hc2) j<|aj j j (iR.2 hc2) j<|aj j j (iR.2 hc2) j<|aj j j (iR.2 hc2) j<|xq (bG j j (iR.2 hc2) j)<|xq (oMv j j)<|aj j j j j<|aj j j j j<|aj j j j j<|aj j j j j<|xq (bG j j j j)<|xq (oMv j j)<|aj j j j j<|aj j j j j<|aj j j j j<|aj j j j j<|xq (bG j j j j)<|xq (ae j j)<|xn
   ·obtain ⟨x24,hx24,hm5⟩:=bs hm5
    refine xqT j j (byF iR hc2) (oLd (cs:=[.im 0 _,.im 0 _]) j aJ j j)<|xqT j j (byF iR hc2) (oLd (cs:=[.im 0 _,.im 0 _]) j aJ j j)<|xqT j j (byF iR hc2) (oLd (cs:=[.im 0 _,.im 0 _]) j aJ j j)<|xqT j j (byF iR hc2) (oCa (xs:=[.v true [.im 0 _,.im 0 _],.v true [.im 0 _,.im 0 _],.v true [.im 0 _,.im 0 _]]) (vs:=[(false,[.im 0 _])]) (v:=.v false [.im 0 _]) (rq hx24) (.inl j) j pX j (ppC j (ppC j (ppC j pp0))) j j pb0 j j j)<|xq (dP j j (byF iR hc2) j)<|xq (oMv j j)<|?_
    refine ic hm5 (fun hc3 hm5=>?_) fun hc3 hm5=>?_
    ·cases hm5
     exact aj j j (iR.2 hc3) j<|aj j j (iR.2 hc3) j<|aj j j (iR.2 hc3) j<|aj j j (iR.2 hc3) j<|xq (bG j j (iR.2 hc3) j)<|xq (oMv j j)<|aj j j j j<|aj j j j j<|aj j j j j<|aj j j j j<|xq (bG j j j j)<|xq (ae j j)<|xn
    ·obtain ⟨x30,QW,hm5⟩:=bs hm5
     refine xqT j j (byF iR hc3) (oLd (cs:=[.im 0 _,.im 0 _]) j aJ j j)<|xqT j j (byF iR hc3) (oLd (cs:=[.im 0 _,.im 0 _]) j aJ j j)<|xqT j j (byF iR hc3) (oLd (cs:=[.im 0 _,.im 0 _]) j aJ j j)<|xqT j j (byF iR hc3) (oCa (xs:=[.v true [.im 0 _,.im 0 _],.v true [.im 0 _,.im 0 _],.v true [.im 0 _,.im 0 _]]) (vs:=[(false,[.im 0 _])]) (v:=.v false [.im 0 _]) (rq QW) (.inl j) j pX j (ppC j (ppC j (ppC j pp0))) j j pb0 j j j)<|xq (dP j j (byF iR hc3) j)<|xq (oMv j j)<|?_
     refine ic hm5 (fun hc4 hm5=>?_) fun hc4 hm5=>?_
     ·cases hm5
      exact aj j j (iR.2 hc4) j<|aj j j (iR.2 hc4) j<|aj j j (iR.2 hc4) j<|aj j j (iR.2 hc4) j<|xq (bG j j (iR.2 hc4) j)<|xq (ae j j)<|xn
     ·obtain ⟨x36,Ba,hm5⟩:=bs hm5
      cases hm5
      exact xqT j j (byF iR hc4) (oLd (cs:=[.im 0 _,.im 0 _]) j aJ j j)<|xqT j j (byF iR hc4) (oLd (cs:=[.im 0 _,.im 0 _]) j aJ j j)<|xqT j j (byF iR hc4) (oLd (cs:=[.im 0 _,.im 0 _]) j aJ j j)<|xqT j j (byF iR hc4) (oCa (xs:=[.v true [.im 0 _,.im 0 _],.v true [.im 0 _,.im 0 _],.v true [.im 0 _,.im 0 _]]) (vs:=[(false,[.im 0 _])]) (v:=.v false [.im 0 _]) (rq Ba) (.inl j) j pX j (ppC j (ppC j (ppC j pp0))) j j pb0 j j j)<|xq (dP j j (byF iR hc4) j)<|xq (ae j j)<|xn
 ·refine us<|Go.ret (Unw.ret ?_)
  cases h
  exact fr ag9 j
theorem Ls {p_0:(List af)} {r:Int} (h:uY p_0=some r):FX 94 [.im 2 false [W 2 az p_0]] (B0 [(false,[.im 0 (I r)])]):=by
 unfold uY at h
 refine gn 40 Tryz.func94 rfl ?_
 refine gs<|g0 j j (q (ae j j)<|nl)<|us<|gs<|g0 j j (q (ae j j)<|nl)<|us<|gs<|gs<|g0 j j (q (ae j j)<|nl)<|us<|Go.block<|?_
 obtain ⟨o,hl,h⟩:=bs h
 refine gl c94 j _ (fun (s:(Int×Int))=>match s with | (lJ,bV)=>mk [(0,D 2 (W 2 az p_0)),(3,iv lJ),(4,iv bV)] []) (fun (oL:Int) (p:Ex×St)=>p.1= .exit 0∧p.2.norm ([3],[])=mk [(3,iv oL)] []) hl (by kernel_rfl) ?_ ?_ ?_
 ·intro o p hp e
  exact nomatch (hp.1.symm.trans e)
 ·rintro ⟨lJ,bV⟩ o h
  unfold xO at h
  dsimp only at h
  refine gs<|gs<|g0 j j (q (oMv j j)<|q (oMv j j)<|q (gJ j j zT j)<|q (oBi j j j j)<|nl)<|us<|gc h j ah (fun hc3 h=>?_) fun hc3 h=>?_
  ·refine Go.skip<|us<|gs<|Go.block<|gs<|?_
   obtain ⟨x17,Lp,h⟩:=bs h
   obtain ⟨x18,Fe,h⟩:=bs h
   refine g0 j j (q (oMv j j)<|q (oMv j j)<|q (oBi j j j j)<|q (oMv j j)<|q (gJ j j zT j)<|q (Gi j Lp j j)<|q (gq j Fe pK j j)<|q (oLd (cs:=[.im 2 _,.im 2 _]) j aJ j j)<|q (oAl j aJ (tkI (tkI tk0)))<|q (oSt aJ j j j (tkI (tkI tk0)) j j j)<|nl)<|us<|?_
   obtain ⟨x23,zq,h⟩:=bs h
   obtain ⟨x31,hx31,h⟩:=bs h
   refine gd c94 j j j (st1:=mk [(0,D 2 (W 2 az p_0)),(3,iv lJ),(4,iv bV),(5,M 5)] [(5,Oa (G 0 (aF x18)))]) (by kernel_rfl) (mk [(0,D 2 (W 2 az p_0)),(3,iv (w64 (lJ+(w64 ((w64 (x23.X*x18.Y)) - (w64 (x31.Y*x18.X))))))),(4,iv bV)] []) (t j j (oMv j j)<|t j j (oMv j j)<|t j j (oMv j j)<|t j j (gq j zq pK j j)<|t j j (oFA (r':=.im 2 _) j iI j j)<|t j j (oLd (cs:=[.im 2 _]) j tF2 j j)<|t j j (oFA (r':=.mp 5 0 1) j jd j j)<|t j j (oLd (cs:=[.im 0 _]) j tF2 j j)<|t j j (oBi j j j j)<|t j j (oMv j j)<|t j j (oMv j j)<|t j j (gq j hx31 pK j j)<|t j j (oFA (r':=.im 2 _) j jd j j)<|t j j (oLd (cs:=[.im 2 _]) j tF2 j j)<|t j j (oFA (r':=.mp 5 0 0) j iI j j)<|t j j (oLd (cs:=[.im 0 _]) j tF2 j j)<|t j j (oBi j j j j)<|t j j (oBi j j j j)<|t j j (oBi j j j j)<|sS (dN z94 j (ae j j)) trivial (sD (by kernel_rfl)))<|Unw.blk<|us<|g0 j j (q (oMv j j)<|q (oBi j j j j)<|q (ae j j)<|nl)<|Unw.nil<|?_
   cases h
   exact ⟨j,(by kernel_rfl)⟩
  ·refine Go.exit<|ux<|Unw.nil<|?_
   cases h
   exact ⟨j,(by kernel_rfl)⟩
 ·rintro ⟨e,st⟩ hp
  obtain ⟨oL,rfl⟩:∃y,y=o:=⟨o,rfl⟩
  obtain ⟨he,hst⟩:=hp
  obtain rfl:e= .exit 0:=he
  refine Unw.iU<|us<|gs<|g2 c94 j j hst (q (oMv j j)<|q (ae j j)<|nl)<|us<|Go.ret (Unw.ret ?_)
  cases h
  exact fr aha j
theorem Pm {p_0:(List af)} {r:Bool} (h:yG p_0=some r):FX 70 [.im 2 false [W 2 az p_0]] (B0 [(false,[.im 0 (V r)])]):=by
 unfold yG at h
 refine gn 99 Tryz.func70 rfl ?_
 refine gs<|g0 j j (q (ae j j)<|nl)<|us<|gs<|g0 j j (q (oMv j j)<|q (gJ j j zT j)<|q (ae j j)<|nl)<|us<|gs<|gs<|gX c70 j j j (mk [(0,D 2 (W 2 az p_0)),(3,iv (p_0.length:Int)),(17,bv ((decide ((p_0.length:Int) <3))||(decide ((p_0.length:Int) >24))))] []) ?_ ?_
 ·refine xq (oMv j j)<|xq (oBi j j j j)<|xq (oMv j j)<|?_
  by_cases hc1:(p_0.length:Int) <3
  ·exact aj rfl rfl (ah.2 hc1) rfl<|aj rfl rfl (ah.2 hc1) rfl<|xq (bG rfl rfl (ah.2 hc1) rfl)<|xn (Eq.trans (b:=(fun BQ:Bool=>mk [(0,D 2 (W 2 az p_0)),(3,iv (p_0.length:Int)),(17,bv BQ)] []) true) (by kernel_rfl) (congrArg (fun BQ:Bool=>mk [(0,D 2 (W 2 az p_0)),(3,iv (p_0.length:Int)),(17,bv BQ)] []) (by first | rfl | (simp [(ah.2 hc1)];done) | (simp [(ah.2 hc1)];omega))))
  ·exact xqT rfl rfl (byF ah hc1) (oMv rfl rfl)<|xqT rfl rfl (byF ah hc1) (oBi rfl rfl rfl rfl)<|xq (dP rfl rfl (byF ah hc1) rfl)<|xn (Eq.trans (b:=(fun BQ:Bool=>mk [(0,D 2 (W 2 az p_0)),(3,iv (p_0.length:Int)),(17,bv BQ)] []) (decide ((p_0.length:Int) >24))) (by kernel_rfl) (congrArg (fun BQ:Bool=>mk [(0,D 2 (W 2 az p_0)),(3,iv (p_0.length:Int)),(17,bv BQ)] []) (by first | rfl | (simp [(byF ah hc1)];done) | (simp [(byF ah hc1)];omega))))
 ·refine us<|gc h j (iOr ah ah) (fun hc2 h=>?_) fun hc2 h=>?_
  ·refine gs<|g0 j j (q (ae j j)<|nl)<|us<|Go.ret (Unw.ret ?_)
   cases h
   exact fr XW j
  ·refine Go.skip<|us<|gs<|gs<|g0 j j (q (ae j j)<|nl)<|us<|Go.block<|?_
   obtain ⟨o,hl,h⟩:=bs h
   refine gl c70 j _ (fun (Hy:Int)=>mk [(0,D 2 (W 2 az p_0)),(3,iv (p_0.length:Int)),(4,iv Hy)] []) (fun (o:(Unit ⊕ Bool)) (p:Ex×St)=>match o with | (.inl _)=>p.1= .exit 0∧p.2.norm ([0,3],[])=mk [(0,D 2 (W 2 az p_0)),(3,iv (p_0.length:Int))] [] | (.inr r2)=>p.1= .ret∧fin Tryz.prog cfg 70 Tryz.f70 [.im 2 false [W 2 az p_0]] p.2=some (B0 [(false,[.im 0 (V r2)])])) hl (by kernel_rfl) ?_ ?_ ?_
   ·intro o p hp e
    rcases o with u | r2<;>exact nomatch (hp.1.symm.trans e)
   ·rintro Hy o h
    unfold zM at h
    refine gs<|gs<|g0 j j (q (oMv j j)<|q (oMv j j)<|q (oBi j j j j)<|nl)<|us<|gc h j ah (fun ahh h=>?_) fun ahh h=>?_
    ·refine Go.skip<|us<|gs<|Go.block<|gs<|?_
     obtain ⟨x25,hx25,h⟩:=bs h
     obtain ⟨x27,hx27,h⟩:=bs h
     refine g0 j j (q (oMv j j)<|q (oMv j j)<|q (gq j hx25 pK j j)<|q (oLd (cs:=[.im 2 _,.im 2 _]) j aJ j j)<|q (oCa (xs:=[.v true [.im 2 _,.im 2 _]]) (vs:=[(false,[.im 0 _])]) (v:=.v false [.im 0 _]) (Pj hx27) (.inl j) j aa7 j (ppC j pp0) j j pb0 j j j)<|q (oUn j j j)<|nl)<|us<|?_
     by_cases VI:x27=true
     ·rw [if_pos VI] at h
      refine gF j (nF (iR.2 VI))<|Go.skip<|Unw.blk<|us<|g0 j j (q (oMv j j)<|q (oBi j j j j)<|q (ae j j)<|nl)<|Unw.nil<|?_
      cases h
      exact ⟨j,(by kernel_rfl)⟩
     ·rw [if_neg VI] at h
      refine gT j (nT (byF iR VI))<|gs<|g0 j j (q (ae j j)<|nl)<|us<|Go.ret (Unw.ret ?_)
      cases h
      exact ⟨j,(fo XW j)⟩
    ·refine Go.exit<|ux<|Unw.nil<|?_
     cases h
     exact ⟨j,(by kernel_rfl)⟩
   ·rintro ⟨e,st⟩ hp
    rcases o with u | r2
    ·dsimp only at h
     obtain ⟨he,hst⟩:=hp
     obtain rfl:e= .exit 0:=he
     refine Unw.iU<|us<|gs<|gs<|g2 c70 j j hst (q (ae j j)<|nl)<|us<|Go.block<|?_
     obtain ⟨o,hl,h⟩:=bs h
     refine gl c70 j _ (fun (kV:Int)=>mk [(0,D 2 (W 2 az p_0)),(3,iv (p_0.length:Int)),(5,iv kV)] []) (fun (o:(Unit ⊕ Bool)) (p:Ex×St)=>match o with | (.inl _)=>p.1= .exit 2∧p.2.norm ([0],[])=mk [(0,D 2 (W 2 az p_0))] [] | (.inr r2)=>p.1= .ret∧fin Tryz.prog cfg 70 Tryz.f70 [.im 2 false [W 2 az p_0]] p.2=some (B0 [(false,[.im 0 (V r2)])])) hl (by kernel_rfl) ?_ ?_ ?_
     ·intro o p hp e
      rcases o with u | r2<;>exact nomatch (hp.1.symm.trans e)
     ·rintro kV o h
      unfold ve at h
      refine gs<|gs<|g0 j j (q (oMv j j)<|q (oMv j j)<|q (oBi j j j j)<|nl)<|us<|gc h j ah (fun vY h=>?_) fun vY h=>?_
      ·refine Go.skip<|us<|gs<|Go.block<|gs<|?_
       obtain ⟨x36,Ba,h⟩:=bs h
       refine g0 j j (q (oMv j j)<|q (oMv j j)<|q (gq j Ba pK j j)<|q (oLd (cs:=[.im 2 _,.im 2 _]) j aJ j j)<|q (oAl j aJ (tkI (tkI tk0)))<|q (oSt aJ j j j (tkI (tkI tk0)) j j j)<|nl)<|us<|gs<|?_
       obtain ⟨x42,VJ,h⟩:=bs h
       obtain ⟨x43,Jf,h⟩:=bs h
       refine g1 j j (mk [(0,D 2 (W 2 az p_0)),(3,iv (p_0.length:Int)),(5,iv kV),(6,M 6)] [(6,Oa (G 0 (aF x36)))]) (q (oMv j j)<|q (oMv j j)<|q (oBi j j j j)<|q (oMv j j)<|q (Gi j VJ j j)<|q (gq j Jf pK j j)<|q (oLd (cs:=[.im 2 _,.im 2 _]) j aJ j j)<|q (oAl j aJ (tkI (tkI tk0)))<|q (oSt aJ j j j (tkI (tkI tk0)) j j j)<|nl)<|us<|gs<|?_
       obtain ⟨x49,adr,h⟩:=bs h
       obtain ⟨x50,MH,h⟩:=bs h
       refine g1 j j (mk [(0,D 2 (W 2 az p_0)),(3,iv (p_0.length:Int)),(5,iv kV),(6,M 6),(7,M 7)] [(6,Oa (G 0 (aF x36))),(7,Oa (G 0 (aF x43)))]) (q (oMv j j)<|q (oMv j j)<|q (oBi j j j j)<|q (oMv j j)<|q (Gi j adr j j)<|q (gq j MH pK j j)<|q (oLd (cs:=[.im 2 _,.im 2 _]) j aJ j j)<|q (oAl j aJ (tkI (tkI tk0)))<|q (oSt aJ j j j (tkI (tkI tk0)) j j j)<|nl)<|us<|gs<|gs<|?_
       obtain ⟨KR,Ik,h⟩:=bs h
       refine gX c70 j j (st1:=mk [(0,D 2 (W 2 az p_0)),(3,iv (p_0.length:Int)),(5,iv kV),(6,M 6),(7,M 7),(8,M 8)] [(6,Oa (G 0 (aF x36))),(7,Oa (G 0 (aF x43))),(8,Oa (G 0 (aF x50)))]) (by kernel_rfl) (mk [(0,D 2 (W 2 az p_0)),(3,iv (p_0.length:Int)),(5,iv kV),(6,M 6),(7,M 7),(66,bv KR)] [(6,Oa (G 0 (aF x36))),(7,Oa (G 0 (aF x43)))]) ?_ ?_
       ·refine xq (oLd (cs:=[.im 0 _,.im 0 _]) j aJ j j)<|xq (oLd (cs:=[.im 0 _,.im 0 _]) j aJ j j)<|xq (oBa j (UK x36.X x36.Y x43.X x43.Y) j j j j)<|xq (oMv j j)<|?_
        refine ic Ik (fun hc34 Ik=>?_) fun hc34 Ik=>?_
        ·cases Ik
         exact aj j j ((xK iEq iEq).2 hc34) j<|aj j j ((xK iEq iEq).2 hc34) j<|aj j j ((xK iEq iEq).2 hc34) j<|aj j j ((xK iEq iEq).2 hc34) j<|xq (bG j j ((xK iEq iEq).2 hc34) j)<|xq (oMv j j)<|aj j j j j<|aj j j j j<|aj j j j j<|aj j j j j<|xq (bG j j j j)<|xn
        ·obtain ⟨x59,ads,Ik⟩:=bs Ik
         refine xqT j j (byF (xK iEq iEq) hc34) (oLd (cs:=[.im 0 _,.im 0 _]) j aJ j j)<|xqT j j (byF (xK iEq iEq) hc34) (oLd (cs:=[.im 0 _,.im 0 _]) j aJ j j)<|xqT j j (byF (xK iEq iEq) hc34) (oLd (cs:=[.im 0 _,.im 0 _]) j aJ j j)<|xqT j j (byF (xK iEq iEq) hc34) (oCa (xs:=[.v true [.im 0 _,.im 0 _],.v true [.im 0 _,.im 0 _],.v true [.im 0 _,.im 0 _]]) (vs:=[(false,[.im 0 _])]) (v:=.v false [.im 0 _]) (rq ads) (.inl j) j pX j (ppC j (ppC j (ppC j pp0))) j j pb0 j j j)<|xq (dP j j (byF (xK iEq iEq) hc34) j)<|xq (oMv j j)<|?_
         refine ic Ik (fun qf Ik=>?_) fun qf Ik=>?_
         ·cases Ik
          exact aj j j (iR.2 qf) j<|aj j j (iR.2 qf) j<|aj j j (iR.2 qf) j<|aj j j (iR.2 qf) j<|xq (bG j j (iR.2 qf) j)<|xn
         ·obtain ⟨x65,ahi,Ik⟩:=bs Ik
          cases Ik
          exact xqT j j (byF iR qf) (oLd (cs:=[.im 0 _,.im 0 _]) j aJ j j)<|xqT j j (byF iR qf) (oLd (cs:=[.im 0 _,.im 0 _]) j aJ j j)<|xqT j j (byF iR qf) (oLd (cs:=[.im 0 _,.im 0 _]) j aJ j j)<|xqT j j (byF iR qf) (oCa (xs:=[.v true [.im 0 _,.im 0 _],.v true [.im 0 _,.im 0 _],.v true [.im 0 _,.im 0 _]]) (vs:=[(false,[.im 0 _])]) (v:=.v false [.im 0 _]) (rq ahi) (.inl j) j pX j (ppC j (ppC j (ppC j pp0))) j j pb0 j j j)<|xq (dP j j (byF iR qf) j)<|xn
       ·refine us<|gc h j iR (fun X3 h=>?_) fun X3 h=>?_
        ·refine gs<|g0 j j (q (ae j j)<|nl)<|us<|Go.ret (Unw.ret ?_)
         cases h
         exact ⟨j,(fo XW j)⟩
        ·refine Go.skip<|us<|gs<|g0 j j (q (oMv j j)<|q (oBi j j j j)<|q (ae j j)<|nl)<|us<|Go.block<|?_
         obtain ⟨o,hl,h⟩:=bs h
         refine gl c70 j _ (fun (yh:Int)=>mk [(0,D 2 (W 2 az p_0)),(3,iv (p_0.length:Int)),(5,iv kV),(6,M 6),(7,M 7),(9,iv yh)] [(6,Oa (G 0 (aF x36))),(7,Oa (G 0 (aF x43)))]) (fun (o:(Unit ⊕ Bool)) (p:Ex×St)=>match o with | (.inl _)=>p.1= .exit 4∧p.2.norm ([0,3,5],[])=mk [(0,D 2 (W 2 az p_0)),(3,iv (p_0.length:Int)),(5,iv kV)] [] | (.inr r2)=>p.1= .ret∧fin Tryz.prog cfg 70 Tryz.f70 [.im 2 false [W 2 az p_0]] p.2=some (B0 [(false,[.im 0 (V r2)])])) hl (by kernel_rfl) ?_ ?_ ?_
         ·intro o p hp e
          rcases o with u | r2<;>exact nomatch (hp.1.symm.trans e)
         ·rintro yh o h
          unfold uZ at h
          refine gs<|gs<|g0 j j (q (oMv j j)<|q (oMv j j)<|q (oBi j j j j)<|nl)<|us<|gc h j ah (fun Il h=>?_) fun Il h=>?_
          ·refine Go.skip<|us<|gs<|Go.block<|gs<|?_
           obtain ⟨x77,abn,h⟩:=bs h
           obtain ⟨KQ,Io,h⟩:=bs h
           refine gd c70 j j j j (mk [(0,D 2 (W 2 az p_0)),(3,iv (p_0.length:Int)),(5,iv kV),(6,M 6),(7,M 7),(9,iv yh),(95,bv KQ)] [(6,Oa (G 0 (aF x36))),(7,Oa (G 0 (aF x43)))]) ?_ ?_
           ·refine t j j (oMv j j)<|t j j (oBi j j j j)<|t j j (oMv j j)<|t j j (Gi j abn j j)<|t j j (oMv j j)<|t j j (oBi j j j j)<|t j j (oMv j j)<|?_
            refine ic Io (fun pM Io=>?_) fun pM Io=>?_
            ·obtain ⟨x85,X4,Io⟩:=bs Io
             obtain ⟨x91,hx91,Io⟩:=bs Io
             obtain ⟨x92,ahj,Io⟩:=bs Io
             obtain ⟨x94,adt,Io⟩:=bs Io
             cases Io
             exact tT j j j j (iNe.2 pM) (oLd (cs:=[.im 0 _,.im 0 _]) j aJ j j)<|tT j j j j (iNe.2 pM) (oLd (cs:=[.im 0 _,.im 0 _]) j aJ j j)<|tT j j j j (iNe.2 pM) (oMv j j)<|tT j j j j (iNe.2 pM) (oMv j j)<|tT j j j j (iNe.2 pM) (gq j X4 pK j j)<|tT j j j j (iNe.2 pM) (oLd (cs:=[.im 2 _,.im 2 _]) j aJ j j)<|tT j j j j (iNe.2 pM) (oMv j j)<|tT j j j j (iNe.2 pM) (oMv j j)<|tT j j j j (iNe.2 pM) (oBi j j j j)<|tT j j j j (iNe.2 pM) (oMv j j)<|tT j j j j (iNe.2 pM) (Gi j hx91 j j)<|tT j j j j (iNe.2 pM) (gq j ahj pK j j)<|tT j j j j (iNe.2 pM) (oLd (cs:=[.im 2 _,.im 2 _]) j aJ j j)<|sS (dT z70 j j j (iNe.2 pM) (oCa (xs:=[.v true [.im 0 _,.im 0 _],.v true [.im 0 _,.im 0 _],.v true [.im 2 _,.im 2 _],.v true [.im 2 _,.im 2 _]]) (vs:=[(false,[.im 0 _])]) (v:=.v false [.im 0 _]) (Lr adt) (.inl j) j Ib j (ppC j (ppC j (ppC j (ppC j pp0)))) j j pb0 j j j)) trivial (t j j (bG j j (iNe.2 pM) j)<|sD (by kernel_rfl))
            ·cases Io
             exact tF j j j j (byF iNe pM) j<|tF j j j j (byF iNe pM) j<|tF j j j j (byF iNe pM) j<|tF j j j j (byF iNe pM) j<|tF j j j j (byF iNe pM) j<|tF j j j j (byF iNe pM) j<|tF j j j j (byF iNe pM) j<|tF j j j j (byF iNe pM) j<|tF j j j j (byF iNe pM) j<|tF j j j j (byF iNe pM) j<|tF j j j j (byF iNe pM) j<|tF j j j j (byF iNe pM) j<|tF j j j j (byF iNe pM) j<|sS (dF j j j (byF iNe pM) j) trivial (t j j (dP j j (byF iNe pM) j)<|sD (by kernel_rfl))
           ·refine us<|gc h j iR (fun hc47 h=>?_) fun hc47 h=>?_
            ·refine gs<|g0 j j (q (ae j j)<|nl)<|us<|Go.ret (Unw.ret ?_)
             cases h
             exact ⟨j,(fo XW j)⟩
            ·refine Go.skip<|Unw.blk<|us<|g0 j j (q (oMv j j)<|q (oBi j j j j)<|q (ae j j)<|nl)<|Unw.nil<|?_
             cases h
             exact ⟨j,(by kernel_rfl)⟩
          ·refine Go.exit<|ux<|Unw.nil<|?_
           cases h
           exact ⟨j,(by kernel_rfl)⟩
         ·rintro ⟨e,st⟩ hp
          rcases o with u | r2
          ·dsimp only at h
           obtain ⟨he,hst⟩:=hp
           obtain rfl:e= .exit 4:=he
           refine Unw.iU<|Unw.blk<|us<|g2 c70 j j hst (q (oMv j j)<|q (oBi j j j j)<|q (ae j j)<|nl)<|Unw.nil<|?_
           cases h
           exact ⟨j,(by kernel_rfl)⟩
          ·dsimp only at h
           obtain ⟨he,hfin⟩:=hp
           obtain rfl:e= .ret:=he
           cases h
           exact Unw.ret ⟨j,hfin⟩
      ·refine Go.exit<|ux<|Unw.nil<|?_
       cases h
       exact ⟨j,(by kernel_rfl)⟩
     ·rintro ⟨e,st⟩ hp
      rcases o with u | r2
      ·dsimp only at h
       obtain ⟨he,hst⟩:=hp
       obtain rfl:e= .exit 2:=he
       refine Unw.iU<|us<|gs<|?_
       obtain ⟨x97,adu,h⟩:=bs h
       refine g2 c70 j j hst (q (oMv j j)<|q (oCa (xs:=[.v false [.im 2 _]]) (vs:=[(false,[.im 0 _])]) (v:=.v false [.im 0 _]) (Ls adu) (.inl j) j aa8 j (ppC j pp0) j j pb0 j j j)<|q (oBi j j j j)<|q (ae j j)<|nl)<|us<|Go.ret (Unw.ret ?_)
       cases h
       exact fr XW j
      ·dsimp only at h
       obtain ⟨he,hfin⟩:=hp
       obtain rfl:e= .ret:=he
       cases h
       exact Unw.ret (fO hfin)
    ·dsimp only at h
     obtain ⟨he,hfin⟩:=hp
     obtain rfl:e= .ret:=he
     cases h
     exact Unw.ret (fO hfin)
theorem Pn {d_0:aA} {r:Bool} (h:yH d_0=some r):FX 43 [.im 2 false [.cp (ak d_0) 0]] (B0 [(false,[.im 0 (V r)])]):=by
 unfold yH at h
 refine gn 96 Tryz.func43 rfl ?_
 refine gs<|g0 j j (q (ae j j)<|nl)<|us<|gs<|gs<|?_
 obtain ⟨x10,Ij,h⟩:=bs h
 obtain ⟨OJ,DI,h⟩:=bs h
 refine gX c43 j j j (mk [(0,D 2 (.cp (ak d_0) 0)),(32,bv OJ)] []) ?_ ?_
 ·refine xq (oMv j j)<|xq (oNl j j j)<|xq (oFA (r':=.im 2 _) j E8 j j)<|xq (oLd (cs:=[.im 2 _]) j tF2 j j)<|xq (oCa (xs:=[.v false [.im 2 _],.v false [.im 0 _],.v false [.im 0 _]]) (vs:=[(false,[.im 0 _])]) (v:=.v false [.im 0 _]) (fQ Ij) (.inl j) j iP j (ppC j (ppC j (ppC j pp0))) j j pb0 j j j)<|xq (oUn j j j)<|xq (oMv j j)<|?_
  refine ic DI (fun hc1 DI=>?_) fun hc1 DI=>?_
  ·obtain ⟨x17,Lp,DI⟩:=bs DI
   refine xqT j j (nF (iR.2 hc1)) (oMv j j)<|xqT j j (nF (iR.2 hc1)) (oNl j j j)<|xqT j j (nF (iR.2 hc1)) (oFA (r':=.im 2 _) j Dw j j)<|xqT j j (nF (iR.2 hc1)) (oLd (cs:=[.im 2 _]) j tF2 j j)<|xqT j j (nF (iR.2 hc1)) (oCa (xs:=[.v false [.im 2 _],.v false [.im 0 _],.v false [.im 0 _]]) (vs:=[(false,[.im 0 _])]) (v:=.v false [.im 0 _]) (fQ Lp) (.inl j) j iP j (ppC j (ppC j (ppC j pp0))) j j pb0 j j j)<|xqT j j (nF (iR.2 hc1)) (oUn j j j)<|xq (dP j j (nF (iR.2 hc1)) j)<|xq (oMv j j)<|?_
   refine ic DI (fun hc2 DI=>?_) fun hc2 DI=>?_
   ·obtain ⟨x22,Gy,DI⟩:=bs DI
    refine xqT j j (nF (iR.2 hc2)) (oMv j j)<|xqT j j (nF (iR.2 hc2)) (oCa (xs:=[.v false [.im 2 _]]) (vs:=[(false,[.im 0 _])]) (v:=.v false [.im 0 _]) (Ih Gy) (.inl j) j aa0 j (ppC j pp0) j j pb0 j j j)<|xqT j j (nF (iR.2 hc2)) (oUn j j j)<|xq (dP j j (nF (iR.2 hc2)) j)<|xq (oMv j j)<|?_
    refine ic DI (fun hc3 DI=>?_) fun hc3 DI=>?_
    ·cases DI
     exact xqT j j (nF (iR.2 hc3)) (oMv j j)<|xqT j j (nF (iR.2 hc3)) (oNl j j j)<|xqT j j (nF (iR.2 hc3)) (oFA (r':=.im 2 _) j oO j j)<|xqT j j (nF (iR.2 hc3)) (oLd (cs:=[.im 2 _]) j BP j j)<|xqT j j (nF (iR.2 hc3)) (gJ j j I5 j)<|xqT j j (nF (iR.2 hc3)) (oBi j j j j)<|xq (dP j j (nF (iR.2 hc3)) j)<|xn
    ·cases DI
     exact aj j j (nT (byF iR hc3)) j<|aj j j (nT (byF iR hc3)) j<|aj j j (nT (byF iR hc3)) j<|aj j j (nT (byF iR hc3)) j<|aj j j (nT (byF iR hc3)) j<|aj j j (nT (byF iR hc3)) j<|xq (bG j j (nT (byF iR hc3)) j)<|xn
   ·cases DI
    exact aj j j (nT (byF iR hc2)) j<|aj j j (nT (byF iR hc2)) j<|aj j j (nT (byF iR hc2)) j<|xq (bG j j (nT (byF iR hc2)) j)<|xq (oMv j j)<|aj j j j j<|aj j j j j<|aj j j j j<|aj j j j j<|aj j j j j<|aj j j j j<|xq (bG j j j j)<|xn
  ·cases DI
   exact aj j j (nT (byF iR hc1)) j<|aj j j (nT (byF iR hc1)) j<|aj j j (nT (byF iR hc1)) j<|aj j j (nT (byF iR hc1)) j<|aj j j (nT (byF iR hc1)) j<|aj j j (nT (byF iR hc1)) j<|xq (bG j j (nT (byF iR hc1)) j)<|xq (oMv j j)<|aj j j j j<|aj j j j j<|aj j j j j<|xq (bG j j j j)<|xq (oMv j j)<|aj j j j j<|aj j j j j<|aj j j j j<|aj j j j j<|aj j j j j<|aj j j j j<|xq (bG j j j j)<|xn
 ·refine us<|gc h j iR (fun hc4 h=>?_) fun hc4 h=>?_
  ·refine gs<|g0 j j (q (ae j j)<|nl)<|us<|Go.ret (Unw.ret ?_)
   cases h
   exact fr abe j
  ·refine Go.skip<|us<|gs<|gs<|g0 j j (q (ae j j)<|nl)<|us<|Go.block<|?_
   obtain ⟨o,hl,h⟩:=bs h
   refine gl c43 j _ (fun (dM:Int)=>mk [(0,D 2 (.cp (ak d_0) 0)),(3,iv dM)] []) (fun (o:(Unit ⊕ Bool)) (p:Ex×St)=>match o with | (.inl _)=>p.1= .exit 0∧p.2.norm ([],[])=mk [] [] | (.inr r2)=>p.1= .ret∧fin Tryz.prog cfg 43 Tryz.f43 [.im 2 false [.cp (ak d_0) 0]] p.2=some (B0 [(false,[.im 0 (V r2)])])) hl (by kernel_rfl) ?_ ?_ ?_
   ·intro o p hp e
    rcases o with u | r2<;>exact nomatch (hp.1.symm.trans e)
   ·rintro dM o h
    unfold pU at h
    refine gs<|gs<|g0 j j (q (oMv j j)<|q (oMv j j)<|q (oNl j j j)<|q (oFA (r':=.im 2 _) j oO j j)<|q (oLd (cs:=[.im 2 _]) j BP j j)<|q (gJ j j I5 j)<|q (oBi j j j j)<|nl)<|us<|gc h j ah (fun hc21 h=>?_) fun hc21 h=>?_
    ·refine Go.skip<|us<|gs<|Go.block<|gs<|gs<|?_
     obtain ⟨x47,TB,h⟩:=bs h
     obtain ⟨x50,MH,h⟩:=bs h
     obtain ⟨OI,Ip,h⟩:=bs h
     refine gd c43 j j j j (mk [(0,D 2 (.cp (ak d_0) 0)),(3,iv dM),(75,bv OI)] []) ?_ ?_
     ·refine t j j (oMv j j)<|t j j (oNl j j j)<|t j j (oFA (r':=.im 2 _) j oO j j)<|t j j (oLd (cs:=[.im 2 _]) j BP j j)<|t j j (oMv j j)<|t j j (gq j TB Fa j j)<|t j j (oFA (r':=.im 2 _) j zS j j)<|?_
      refine ic Ip (fun hc22 Ip=>?_) fun hc22 Ip=>?_
      ·refine ic Ip (fun kP Ip=>?_) fun kP Ip=>?_
       ·obtain ⟨x62,adv,Ip⟩:=bs Ip
        obtain ⟨x70,X5,Ip⟩:=bs Ip
        cases Ip
        exact t j j (oLd (cs:=[.im 2 _]) j tF9 j j)<|sS (dN z43 j (oCa (xs:=[.v false [.im 2 _]]) (vs:=[(false,[.im 0 _])]) (v:=.v false [.im 0 _]) (y8 MH) (.inl j) j Tq j (ppC j pp0) j j pb0 j j j)) trivial (t j j (oUn j j j)<|t j j (oMv j j)<|tT j j j j (nF (iR.2 hc22)) (oMv j j)<|tT j j j j (nF (iR.2 hc22)) (oBi j j j j)<|tT j j j j (nF (iR.2 hc22)) (oMv j j)<|tT j j j j (ah.2 kP) (oMv j j)<|tT j j j j (ah.2 kP) (oNl j j j)<|tT j j j j (ah.2 kP) (oFA (r':=.im 2 _) j oO j j)<|tT j j j j (ah.2 kP) (oLd (cs:=[.im 2 _]) j BP j j)<|tT j j j j (ah.2 kP) (oMv j j)<|tT j j j j (ah.2 kP) (oBi j j j j)<|tT j j j j (ah.2 kP) (gq j adv Fa j j)<|tT j j j j (ah.2 kP) (oFA (r':=.im 2 _) j zS j j)<|tT j j j j (ah.2 kP) (oLd (cs:=[.im 2 _]) j tF9 j j)<|tT j j j j (ah.2 kP) (oMv j j)<|tT j j j j (ah.2 kP) (oNl j j j)<|tT j j j j (ah.2 kP) (oFA (r':=.im 2 _) j oO j j)<|tT j j j j (ah.2 kP) (oLd (cs:=[.im 2 _]) j BP j j)<|tT j j j j (ah.2 kP) (oMv j j)<|tT j j j j (ah.2 kP) (gq j X5 Fa j j)<|tT j j j j (ah.2 kP) (oFA (r':=.im 2 _) j zS j j)<|tT j j j j (ah.2 kP) (oLd (cs:=[.im 2 _]) j tF9 j j)<|tT j j j j (ah.2 kP) (oBi j j j j)<|tT j j j j (nF (iR.2 hc22)) (bG j j (ah.2 kP) j)<|t j j (dP j j (nF (iR.2 hc22)) j)<|sD (by kernel_rfl))
       ·cases Ip
        exact t j j (oLd (cs:=[.im 2 _]) j tF9 j j)<|sS (dN z43 j (oCa (xs:=[.v false [.im 2 _]]) (vs:=[(false,[.im 0 _])]) (v:=.v false [.im 0 _]) (y8 MH) (.inl j) j Tq j (ppC j pp0) j j pb0 j j j)) trivial (t j j (oUn j j j)<|t j j (oMv j j)<|tT j j j j (nF (iR.2 hc22)) (oMv j j)<|tT j j j j (nF (iR.2 hc22)) (oBi j j j j)<|tT j j j j (nF (iR.2 hc22)) (oMv j j)<|tF j j j j (byF ah kP) j<|tF j j j j (byF ah kP) j<|tF j j j j (byF ah kP) j<|tF j j j j (byF ah kP) j<|tF j j j j (byF ah kP) j<|tF j j j j (byF ah kP) j<|tF j j j j (byF ah kP) j<|tF j j j j (byF ah kP) j<|tF j j j j (byF ah kP) j<|tF j j j j (byF ah kP) j<|tF j j j j (byF ah kP) j<|tF j j j j (byF ah kP) j<|tF j j j j (byF ah kP) j<|tF j j j j (byF ah kP) j<|tF j j j j (byF ah kP) j<|tF j j j j (byF ah kP) j<|tF j j j j (byF ah kP) j<|tF j j j j (byF ah kP) j<|tT j j j j (nF (iR.2 hc22)) (dP j j (byF ah kP) j)<|t j j (dP j j (nF (iR.2 hc22)) j)<|sD (by kernel_rfl))
      ·cases Ip
       exact t j j (oLd (cs:=[.im 2 _]) j tF9 j j)<|sS (dN z43 j (oCa (xs:=[.v false [.im 2 _]]) (vs:=[(false,[.im 0 _])]) (v:=.v false [.im 0 _]) (y8 MH) (.inl j) j Tq j (ppC j pp0) j j pb0 j j j)) trivial (t j j (oUn j j j)<|t j j (oMv j j)<|tF j j j j (nT (byF iR hc22)) j<|tF j j j j (nT (byF iR hc22)) j<|tF j j j j (nT (byF iR hc22)) j<|sT j (dU j j j j)<|sT j (dU j j j j)<|sT j (dU j j j j)<|sT j (dU j j j j)<|sT j (dU j j j j)<|sT j (dU j j j j)<|sT j (dU j j j j)<|sT j (dU j j j j)<|sT j (dU j j j j)<|sT j (dU j j j j)<|sT j (dU j j j j)<|sT j (dU j j j j)<|sT j (dU j j j j)<|sT j (dU j j j j)<|sT j (dU j j j j)<|sT j (dU j j j j)<|sT j (dU j j j j)<|sT j (dU j j j j)<|tF j j j j (nT (byF iR hc22)) j<|t j j (bG j j (nT (byF iR hc22)) j)<|sD (by kernel_rfl))
     ·refine us<|gc h j iR (fun hc24 h=>?_) fun hc24 h=>?_
      ·refine gs<|g0 j j (q (ae j j)<|nl)<|us<|Go.ret (Unw.ret ?_)
       cases h
       exact ⟨j,(fo abe j)⟩
      ·refine Go.skip<|us<|gs<|?_
       obtain ⟨x83,VK,h⟩:=bs h
       obtain ⟨x86,ahk,h⟩:=bs h
       refine g0 j j (q (oMv j j)<|q (oMv j j)<|q (oNl j j j)<|q (oFA (r':=.im 2 _) j oO j j)<|q (oLd (cs:=[.im 2 _]) j BP j j)<|q (oMv j j)<|q (gq j VK Fa j j)<|q (oFA (r':=.im 2 _) j BN j j)<|q (oLd (cs:=[.im 2 _]) j oz j j)<|q (oCr (xs:=[.v false [.im 2 _],.v false [.im 2 _]]) (vs:=[(false,[.own 86 0 0]),(false,[.im 0 _])]) (v:=.tup [(false,[.own 86 0 0]),(false,[.im 0 _])]) (c:=⟨.sh,0,_⟩) (cs:=[]) (Lm ahk) (.inl j) j Tt j (ppC j (ppC j pp0)) j j pb0 j j j)<|q (Md j j)<|q (oEx j j j)<|q (oEx j j j)<|q (jX j j j j j)<|q (ae j j)<|nl)<|us<|gs<|?_
       obtain ⟨Gp,DF,h⟩:=bs h
       refine gX c43 j j j (mk [(0,D 2 (.cp (ak d_0) 0)),(3,iv dM),(95,bv Gp)] []) ?_ ?_
       ·refine xq (oMv j j)<|xq (oUn j j j)<|xq (oMv j j)<|?_
        refine ic DF (fun hc25 DF=>?_) fun hc25 DF=>?_
        ·obtain ⟨x93,hx93,DF⟩:=bs DF
         cases DF
         exact xqT j j (nF (iR.2 hc25)) (oMv j j)<|xqT j j (nF (iR.2 hc25)) (oCa (xs:=[.v false [.own 4 0 0]]) (vs:=[(false,[.im 0 _])]) (v:=.v false [.im 0 _]) (Pm hx93) (.inl j) j aa1 j (ppC j pp0) j j pb0 j j j)<|xqT j j (nF (iR.2 hc25)) (oUn j j j)<|xq (dP j j (nF (iR.2 hc25)) j)<|xn
        ·cases DF
         exact aj j j (nT (byF iR hc25)) j<|aj j j (nT (byF iR hc25)) j<|aj j j (nT (byF iR hc25)) j<|xq (bG j j (nT (byF iR hc25)) j)<|xn
       ·refine us<|gc h j iR (fun XZ h=>?_) fun XZ h=>?_
        ·refine gs<|g0 j j (q (ae j j)<|nl)<|us<|Go.ret (Unw.ret ?_)
         cases h
         exact ⟨j,(fo abe j)⟩
        ·refine Go.skip<|Unw.blk<|us<|g0 j j (q (oMv j j)<|q (oBi j j j j)<|q (ae j j)<|nl)<|Unw.nil<|?_
         cases h
         exact ⟨j,(by kernel_rfl)⟩
    ·refine Go.exit<|ux<|Unw.nil<|?_
     cases h
     exact ⟨j,(by kernel_rfl)⟩
   ·rintro ⟨e,st⟩ hp
    rcases o with u | r2
    ·dsimp only at h
     obtain ⟨he,hst⟩:=hp
     obtain rfl:e= .exit 0:=he
     refine Unw.iU<|us<|gs<|g2 c43 j j hst (q (ae j j)<|nl)<|us<|Go.ret (Unw.ret ?_)
     cases h
     exact fr abe j
    ·dsimp only at h
     obtain ⟨he,hfin⟩:=hp
     obtain rfl:e= .ret:=he
     cases h
     exact Unw.ret (fO hfin)
theorem Jg {r:(List ByteArray)} (h:wF=some r):FX 120 [] (B0 [(false,[.ow 0 1 (List.map eS r)])]):=by
 unfold wF at h
 refine gn 2 Tryz.func120 rfl ?_
 refine gs<|g0 j j (q (vG j j aeC)<|nl)<|us<|gs<|g0 j j (q (oBS (es:=List.map eS ([(⟨#[97,115,104]⟩:ByteArray),(⟨#[98,101,101,99,104]⟩:ByteArray),(⟨#[98,105,114,99,104]⟩:ByteArray),(⟨#[99,104,101,114,114,121]⟩:ByteArray),(⟨#[101,98,111,110,121]⟩:ByteArray),(⟨#[104,111,108,108,121]⟩:ByteArray),(⟨#[109,97,112,108,101]⟩:ByteArray),(⟨#[111,97,107]⟩:ByteArray),(⟨#[114,111,115,101,119,111,111,100]⟩:ByteArray),(⟨#[119,97,108,110,117,116]⟩:ByteArray)]:List ByteArray)) j abZ j (ptC j (fxI fx0) j (ptC j (fxI fx0) j (ptC j (fxI fx0) j (ptC j (fxI fx0) j (ptC j (fxI fx0) j (ptC j (fxI fx0) j (ptC j (fxI fx0) j (ptC j (fxI fx0) j (ptC j (fxI fx0) j (ptC j (fxI fx0) j pt0)))))))))) (eG j fun _=>j))<|q (jX j j j j j)<|nl)<|us<|Go.ret (Unw.ret ?_)
 cases h
 exact fr aeJ j
theorem Lt {jJ:ByteArray} {r:Int} (h:qV jJ=some r):FX 95 [.im 2 false [Y jJ]] (B0 [(false,[.im 0 (I r)])]):=by
 unfold qV at h
 refine gn 19 Tryz.func95 rfl ?_
 refine gs<|g0 j j (q (ae j j)<|nl)<|us<|gs<|?_
 obtain ⟨x5,hx5,h⟩:=bs h
 refine g0 j j (q (oCr (xs:=[]) (vs:=[(false,[.own 5 0 0])]) (v:=.v false [.own 5 0 0]) (c:=⟨.sh,0,_⟩) (cs:=[]) (Jg hx5) (.inl j) j ac3 j pp0 j j pb0 j j j)<|q (jX j j j j j)<|nl)<|us<|gs<|gs<|g0 j j (q (ae j j)<|nl)<|us<|Go.block<|?_
 obtain ⟨o,hl,h⟩:=bs h
 refine gl c95 j _ (fun (bV:Int)=>mk [(0,sv jJ),(3,H 3 0),(4,iv bV)] [(3,Oc [Z (W 1 eS x5)])]) (fun (o:(Unit ⊕ Int)) (p:Ex×St)=>match o with | (.inl _)=>p.1= .exit 0∧p.2.norm ([],[])=mk [] [] | (.inr r2)=>p.1= .ret∧fin Tryz.prog cfg 95 Tryz.f95 [.im 2 false [Y jJ]] p.2=some (B0 [(false,[.im 0 (I r2)])])) hl (by kernel_rfl) ?_ ?_ ?_
 ·intro o p hp e
  rcases o with u | r2<;>exact nomatch (hp.1.symm.trans e)
 ·rintro bV o h
  unfold oV at h
  refine gs<|gs<|g0 j j (q (oMv j j)<|q (oMv j j)<|q (Hr j j afe j j j (fun e=>nomatch e))<|q (oBi j j j j)<|nl)<|us<|gc h j ah (fun hc5 h=>?_) fun hc5 h=>?_
  ·refine Go.skip<|us<|gs<|Go.block<|gs<|?_
   obtain ⟨x14,vH,h⟩:=bs h
   refine g0 j j (q (oMv j j)<|q (oMv j j)<|q (Am j vH abZ j j j j)<|q (IZ (cs:=[.im 0 _]) j tF9 j j j j (fA vH) j j)<|q (oMv j j)<|q (oBi j j j j)<|nl)<|us<|gc h j zK (fun hc6 h=>?_) fun hc6 h=>?_
   ·refine gs<|g0 j j (q (oMv j j)<|q (ae j j)<|nl)<|us<|Go.ret (Unw.ret ?_)
    cases h
    exact ⟨j,(fo ae3 j)⟩
   ·refine Go.skip<|Unw.blk<|us<|g0 j j (q (oMv j j)<|q (oBi j j j j)<|q (ae j j)<|nl)<|Unw.nil<|?_
    cases h
    exact ⟨j,(by kernel_rfl)⟩
  ·refine Go.exit<|ux<|Unw.nil<|?_
   cases h
   exact ⟨j,(by kernel_rfl)⟩
 ·rintro ⟨e,st⟩ hp
  rcases o with u | r2
  ·dsimp only at h
   obtain ⟨he,hst⟩:=hp
   obtain rfl:e= .exit 0:=he
   refine Unw.iU<|us<|gs<|g2 c95 j j hst (q (ae j j)<|nl)<|us<|Go.ret (Unw.ret ?_)
   cases h
   exact fr ae3 j
  ·dsimp only at h
   obtain ⟨he,hfin⟩:=hp
   obtain rfl:e= .ret:=he
   cases h
   exact Unw.ret (fO hfin)
theorem Jh {r:(List (List Int))} (h:wG=some r):FX 96 [] (B0 [(false,[.ow 0 1 (List.map (eL 1 eI) r)])]):=by
 unfold wG at h
 refine gn 12 Tryz.func96 rfl ?_
 refine gs<|g0 j j (q (vG j j acU)<|nl)<|us<|gs<|g0 j j (q (oBS (es:=List.map eI ([20,40,310]:List Int)) j fP j (ptC j (fxI fx0) j (ptC j (fxI fx0) j (ptC j (fxI fx0) j pt0))) (eG j fun _=>j))<|q (oBS (es:=List.map eI ([35,45,410]:List Int)) j fP j (ptC j (fxI fx0) j (ptC j (fxI fx0) j (ptC j (fxI fx0) j pt0))) (eG j fun _=>j))<|q (oBS (es:=List.map eI ([15,33,280]:List Int)) j fP j (ptC j (fxI fx0) j (ptC j (fxI fx0) j (ptC j (fxI fx0) j pt0))) (eG j fun _=>j))<|q (oBS (es:=List.map eI ([50,36,240]:List Int)) j fP j (ptC j (fxI fx0) j (ptC j (fxI fx0) j (ptC j (fxI fx0) j pt0))) (eG j fun _=>j))<|q (oBS (es:=List.map eI ([95,85,270]:List Int)) j fP j (ptC j (fxI fx0) j (ptC j (fxI fx0) j (ptC j (fxI fx0) j pt0))) (eG j fun _=>j))<|q (oBS (es:=List.map eI ([5,35,370]:List Int)) j fP j (ptC j (fxI fx0) j (ptC j (fxI fx0) j (ptC j (fxI fx0) j pt0))) (eG j fun _=>j))<|q (oBS (es:=List.map eI ([10,42,290]:List Int)) j fP j (ptC j (fxI fx0) j (ptC j (fxI fx0) j (ptC j (fxI fx0) j pt0))) (eG j fun _=>j))<|q (oBS (es:=List.map eI ([40,40,330]:List Int)) j fP j (ptC j (fxI fx0) j (ptC j (fxI fx0) j (ptC j (fxI fx0) j pt0))) (eG j fun _=>j))<|q (oBS (es:=List.map eI ([80,60,220]:List Int)) j fP j (ptC j (fxI fx0) j (ptC j (fxI fx0) j (ptC j (fxI fx0) j pt0))) (eG j fun _=>j))<|q (oBS (es:=List.map eI ([70,38,260]:List Int)) j fP j (ptC j (fxI fx0) j (ptC j (fxI fx0) j (ptC j (fxI fx0) j pt0))) (eG j fun _=>j))<|q (oBS (es:=List.map (eL 1 eI) ([([20,40,310]:List Int),([35,45,410]:List Int),([15,33,280]:List Int),([50,36,240]:List Int),([95,85,270]:List Int),([5,35,370]:List Int),([10,42,290]:List Int),([40,40,330]:List Int),([80,60,220]:List Int),([70,38,260]:List Int)]:List (List Int))) j uG j (ptC j (fxO j j fx0) j (ptC j (fxO j j fx0) j (ptC j (fxO j j fx0) j (ptC j (fxO j j fx0) j (ptC j (fxO j j fx0) j (ptC j (fxO j j fx0) j (ptC j (fxO j j fx0) j (ptC j (fxO j j fx0) j (ptC j (fxO j j fx0) j (ptC j (fxO j j fx0) j pt0)))))))))) (Dk j))<|q (jX j j j j j)<|nl)<|us<|Go.ret (Unw.ret ?_)
 cases h
 exact fr ahb j
theorem Ji {g_0:Int} {r:Bool} (h:wH g_0=some r):FX 97 [.im 2 false [I g_0]] (B0 [(false,[.im 0 (V r)])]):=by
 unfold wH at h
 refine gn 5 Tryz.func97 rfl ?_
 refine gs<|g0 j j (q (ae j j)<|nl)<|us<|gs<|?_
 obtain ⟨x4,hx4,h⟩:=bs h
 refine g0 j j (q (oMv j j)<|q (oCa (xs:=[.v false [.im 2 _],.v false [.im 0 _],.v false [.im 0 _]]) (vs:=[(false,[.im 0 _])]) (v:=.v false [.im 0 _]) (fQ hx4) (.inl j) j iP j (ppC j (ppC j (ppC j pp0))) j j pb0 j j j)<|q (ae j j)<|nl)<|us<|Go.ret (Unw.ret ?_)
 cases h
 exact fr ahc j
theorem Po {v_0:ai} {r:Bool} (h:ug v_0=some r):FX 71 [.im 2 false [.cp (iH v_0) 0]] (B0 [(false,[.im 0 (V r)])]):=by
 unfold ug at h
 refine gn 42 Tryz.func71 rfl ?_
 refine gs<|g0 j j (q (ae j j)<|nl)<|us<|gs<|?_
 obtain ⟨x9,hx9,h⟩:=bs h
 refine g0 j j (q (oMv j j)<|q (oNl j j j)<|q (oFA (r':=.im 2 _) j Ia j j)<|q (oLd (cs:=[.im 2 _]) j tF9 j j)<|q (oCa (xs:=[.v false [.im 2 _]]) (vs:=[(false,[.im 0 _])]) (v:=.v false [.im 0 _]) (Lt hx9) (.inl j) j ac5 j (ppC j pp0) j j pb0 j j j)<|q (ae j j)<|nl)<|us<|gs<|gs<|?_
 obtain ⟨OL,hm5,h⟩:=bs h
 refine gX c71 j j j (mk [(0,D 2 (.cp (iH v_0) 0)),(3,iv x9),(19,bv OL)] []) ?_ ?_
 ·refine xq (oMv j j)<|xq (oBi j j j j)<|xq (oMv j j)<|?_
  refine ic hm5 (fun hc1 hm5=>?_) fun hc1 hm5=>?_
  ·cases hm5
   exact aj j j (ah.2 hc1) j<|aj j j (ah.2 hc1) j<|aj j j (ah.2 hc1) j<|aj j j (ah.2 hc1) j<|aj j j (ah.2 hc1) j<|aj j j (ah.2 hc1) j<|xq (bG j j (ah.2 hc1) j)<|xn
  ·obtain ⟨x17,Lp,hm5⟩:=bs hm5
   cases hm5
   exact xqT j j (byF ah hc1) (oMv j j)<|xqT j j (byF ah hc1) (oNl j j j)<|xqT j j (byF ah hc1) (oFA (r':=.im 2 _) j rO j j)<|xqT j j (byF ah hc1) (oLd (cs:=[.im 2 _]) j tF2 j j)<|xqT j j (byF ah hc1) (oCa (xs:=[.v false [.im 2 _],.v false [.im 0 _],.v false [.im 0 _]]) (vs:=[(false,[.im 0 _])]) (v:=.v false [.im 0 _]) (fQ Lp) (.inl j) j iP j (ppC j (ppC j (ppC j pp0))) j j pb0 j j j)<|xqT j j (byF ah hc1) (oUn j j j)<|xq (dP j j (byF ah hc1) j)<|xn
 ·refine us<|gc h j iR (fun hc2 h=>?_) fun hc2 h=>?_
  ·refine gs<|g0 j j (q (ae j j)<|nl)<|us<|Go.ret (Unw.ret ?_)
   cases h
   exact fr aeW j
  ·refine Go.skip<|us<|gs<|?_
   obtain ⟨x20,yu,h⟩:=bs h
   obtain ⟨x22,Gy,h⟩:=bs h
   obtain ⟨x24,hx24,h⟩:=bs h
   refine g0 j j (q (oCr (xs:=[]) (vs:=[(false,[.own 20 0 0])]) (v:=.v false [.own 20 0 0]) (c:=⟨.sh,0,_⟩) (cs:=[]) (Jh yu) (.inl j) j aeD j pp0 j j pb0 j j j)<|q (oMv j j)<|q (Am j Gy uG j j j j)<|q (IZ (cs:=[.im 0 _]) j oz j j j j (fA Gy) j j)<|q (gq j hx24 fP j j)<|q (oLd (cs:=[.im 0 _]) j tF2 j j)<|q (ae j j)<|nl)<|us<|gs<|?_
   obtain ⟨x34,hx34,h⟩:=bs h
   obtain ⟨SI,hm4,h⟩:=bs h
   refine gX c71 j j j (mk [(2,bv SI)] []) ?_ ?_
   ·refine xq (oMv j j)<|xq (oNl j j j)<|xq (oFA (r':=.im 2 _) j rO j j)<|xq (oLd (cs:=[.im 2 _]) j tF2 j j)<|xq (oMv j j)<|xq (oBi j j j j)<|xq (oMv j j)<|xq (oBi j j j j)<|xq (oCa (xs:=[.v false [.im 2 _],.v false [.im 0 _],.v false [.im 0 _]]) (vs:=[(false,[.im 0 _])]) (v:=.v false [.im 0 _]) (fQ hx34) (.inl j) j iP j (ppC j (ppC j (ppC j pp0))) j j pb0 j j j)<|xq (oMv j j)<|?_
    refine ic hm4 (fun hc3 hm4=>?_) fun hc3 hm4=>?_
    ·obtain ⟨x40,Lj,hm4⟩:=bs hm4
     cases hm4
     exact xqT j j (iR.2 hc3) (oMv j j)<|xqT j j (iR.2 hc3) (oNl j j j)<|xqT j j (iR.2 hc3) (oFA (r':=.im 2 _) j zQ j j)<|xqT j j (iR.2 hc3) (oLd (cs:=[.im 2 _]) j tF2 j j)<|xqT j j (iR.2 hc3) (oCa (xs:=[.v false [.im 2 _]]) (vs:=[(false,[.im 0 _])]) (v:=.v false [.im 0 _]) (Ji Lj) (.inl j) j ac6 j (ppC j pp0) j j pb0 j j j)<|xq (bG j j (iR.2 hc3) j)<|xq (ae j j)<|xn
    ·cases hm4
     exact aj j j (byF iR hc3) j<|aj j j (byF iR hc3) j<|aj j j (byF iR hc3) j<|aj j j (byF iR hc3) j<|aj j j (byF iR hc3) j<|xq (dP j j (byF iR hc3) j)<|xq (ae j j)<|xn
   ·refine us<|Go.ret (Unw.ret ?_)
    cases h
    exact fr aeW j
theorem Gz {cu:(List ai)} {r:Bool} (h:oW cu=some r):FX 44 [.im 2 false [W 3 au cu]] (B0 [(false,[.im 0 (V r)])]):=by
 unfold oW at h
 refine gn 15 Tryz.func44 rfl ?_
 refine gs<|g0 j j (q (ae j j)<|nl)<|us<|gs<|gs<|g0 j j (q (ae j j)<|nl)<|us<|Go.block<|?_
 obtain ⟨o,hl,h⟩:=bs h
 refine gl c44 j _ (fun (Hz:Int)=>mk [(0,D 2 (W 3 au cu)),(3,iv Hz)] []) (fun (o:(Unit ⊕ Bool)) (p:Ex×St)=>match o with | (.inl _)=>p.1= .exit 0∧p.2.norm ([],[])=mk [] [] | (.inr r2)=>p.1= .ret∧fin Tryz.prog cfg 44 Tryz.f44 [.im 2 false [W 3 au cu]] p.2=some (B0 [(false,[.im 0 (V r2)])])) hl (by kernel_rfl) ?_ ?_ ?_
 ·intro o p hp e
  rcases o with u | r2<;>exact nomatch (hp.1.symm.trans e)
 ·rintro Hz o h
  unfold lK at h
  refine gs<|gs<|g0 j j (q (oMv j j)<|q (oMv j j)<|q (gJ j j Gw j)<|q (oBi j j j j)<|nl)<|us<|gc h j ah (fun hc5 h=>?_) fun hc5 h=>?_
  ·refine Go.skip<|us<|gs<|Go.block<|gs<|?_
   obtain ⟨x12,zU,h⟩:=bs h
   obtain ⟨x13,Ll,h⟩:=bs h
   refine g0 j j (q (oMv j j)<|q (oMv j j)<|q (gq j zU Ic j j)<|q (oCa (xs:=[.v false [.im 2 _]]) (vs:=[(false,[.im 0 _])]) (v:=.v false [.im 0 _]) (Po Ll) (.inl j) j aa2 j (ppC j pp0) j j pb0 j j j)<|q (oUn j j j)<|nl)<|us<|?_
   by_cases hc6:x13=true
   ·rw [if_pos hc6] at h
    refine gF j (nF (iR.2 hc6))<|Go.skip<|Unw.blk<|us<|g0 j j (q (oMv j j)<|q (oBi j j j j)<|q (ae j j)<|nl)<|Unw.nil<|?_
    cases h
    exact ⟨j,(by kernel_rfl)⟩
   ·rw [if_neg hc6] at h
    refine gT j (nT (byF iR hc6))<|gs<|g0 j j (q (ae j j)<|nl)<|us<|Go.ret (Unw.ret ?_)
    cases h
    exact ⟨j,(fo aeS j)⟩
  ·refine Go.exit<|ux<|Unw.nil<|?_
   cases h
   exact ⟨j,(by kernel_rfl)⟩
 ·rintro ⟨e,st⟩ hp
  rcases o with u | r2
  ·dsimp only at h
   obtain ⟨he,hst⟩:=hp
   obtain rfl:e= .exit 0:=he
   refine Unw.iU<|us<|gs<|g2 c44 j j hst (q (ae j j)<|nl)<|us<|Go.ret (Unw.ret ?_)
   cases h
   exact fr aeS j
  ·dsimp only at h
   obtain ⟨he,hfin⟩:=hp
   obtain rfl:e= .ret:=he
   cases h
   exact Unw.ret (fO hfin)
theorem MI {d_0:aA} {aK:(List ai)} {aW:Int} {eU:Int} {r:Int} (h:wR d_0 aK aW eU=some r):FX 26 [.im 2 false [.cp (ak d_0) 0],.im 2 false [W 3 au aK],.im 2 false [I aW],.im 2 false [I eU]] (B0 [(false,[.im 0 (I r)])]):=by
 unfold wR at h
 refine gn 35 Tryz.func26 rfl ?_
 refine gs<|g0 j j (q (ae j j)<|nl)<|us<|gs<|gs<|?_
 obtain ⟨x10,Ij,h⟩:=bs h
 obtain ⟨BF,hm8,h⟩:=bs h
 refine gX c26 j j j (mk [(1,D 2 (W 3 au aK)),(2,iv aW),(3,iv eU),(16,bv BF)] []) ?_ ?_
 ·refine xq (oMv j j)<|xq (oCa (xs:=[.v false [.im 2 _]]) (vs:=[(false,[.im 0 _])]) (v:=.v false [.im 0 _]) (Pn Ij) (.inl j) j aaQ j (ppC j pp0) j j pb0 j j j)<|xq (oUn j j j)<|xq (oMv j j)<|?_
  refine ic hm8 (fun hc1 hm8=>?_) fun hc1 hm8=>?_
  ·obtain ⟨x14,vH,hm8⟩:=bs hm8
   cases hm8
   exact xqT j j (nF (iR.2 hc1)) (oMv j j)<|xqT j j (nF (iR.2 hc1)) (oCa (xs:=[.v false [.im 2 _]]) (vs:=[(false,[.im 0 _])]) (v:=.v false [.im 0 _]) (Gz vH) (.inl j) j aaR j (ppC j pp0) j j pb0 j j j)<|xqT j j (nF (iR.2 hc1)) (oUn j j j)<|xq (dP j j (nF (iR.2 hc1)) j)<|xn
  ·cases hm8
   exact aj j j (nT (byF iR hc1)) j<|aj j j (nT (byF iR hc1)) j<|aj j j (nT (byF iR hc1)) j<|xq (bG j j (nT (byF iR hc1)) j)<|xn
 ·refine us<|gc h j iR (fun hc2 h=>?_) fun hc2 h=>?_
  ·refine gs<|g0 j j (q (ae j j)<|nl)<|us<|Go.ret (Unw.ret ?_)
   cases h
   exact fr ade j
  ·refine Go.skip<|us<|gs<|gs<|?_
   obtain ⟨OO,hm7,h⟩:=bs h
   refine gX c26 j j j (mk [(34,bv OO)] []) ?_ ?_
   ·refine xq (oMv j j)<|xq (gJ j j Gw j)<|xq (oBi j j j j)<|xq (oMv j j)<|?_
    refine ic hm7 (fun hc3 hm7=>?_) fun hc3 hm7=>?_
    ·cases hm7
     exact aj j j (ah.2 hc3) j<|aj j j (ah.2 hc3) j<|aj j j (ah.2 hc3) j<|xq (bG j j (ah.2 hc3) j)<|xq (oMv j j)<|aj j j j j<|aj j j j j<|aj j j j j<|xq (bG j j j j)<|xq (oMv j j)<|aj j j j j<|aj j j j j<|aj j j j j<|xq (bG j j j j)<|xn
    ·refine xqT j j (byF ah hc3) (oMv j j)<|xqT j j (byF ah hc3) (gJ j j Gw j)<|xqT j j (byF ah hc3) (oBi j j j j)<|xq (dP j j (byF ah hc3) j)<|xq (oMv j j)<|?_
     refine ic hm7 (fun hc4 hm7=>?_) fun hc4 hm7=>?_
     ·cases hm7
      exact aj j j (ah.2 hc4) j<|aj j j (ah.2 hc4) j<|aj j j (ah.2 hc4) j<|xq (bG j j (ah.2 hc4) j)<|xq (oMv j j)<|aj j j j j<|aj j j j j<|aj j j j j<|xq (bG j j j j)<|xn
     ·obtain ⟨x27,hx27,hm7⟩:=bs hm7
      refine xqT j j (byF ah hc4) (oMv j j)<|xqT j j (byF ah hc4) (oCa (xs:=[.v false [.im 0 _],.v false [.im 0 _],.v false [.im 0 _]]) (vs:=[(false,[.im 0 _])]) (v:=.v false [.im 0 _]) (fQ hx27) (.inl j) j iP j (ppC j (ppC j (ppC j pp0))) j j pb0 j j j)<|xqT j j (byF ah hc4) (oUn j j j)<|xq (dP j j (byF ah hc4) j)<|xq (oMv j j)<|?_
      refine ic hm7 (fun hc5 hm7=>?_) fun hc5 hm7=>?_
      ·obtain ⟨x32,hx32,hm7⟩:=bs hm7
       cases hm7
       exact xqT j j (nF (iR.2 hc5)) (oMv j j)<|xqT j j (nF (iR.2 hc5)) (oCa (xs:=[.v false [.im 0 _],.v false [.im 0 _],.v false [.im 0 _]]) (vs:=[(false,[.im 0 _])]) (v:=.v false [.im 0 _]) (fQ hx32) (.inl j) j iP j (ppC j (ppC j (ppC j pp0))) j j pb0 j j j)<|xqT j j (nF (iR.2 hc5)) (oUn j j j)<|xq (dP j j (nF (iR.2 hc5)) j)<|xn
      ·cases hm7
       exact aj j j (nT (byF iR hc5)) j<|aj j j (nT (byF iR hc5)) j<|aj j j (nT (byF iR hc5)) j<|xq (bG j j (nT (byF iR hc5)) j)<|xn
   ·refine us<|gc h j iR (fun hc6 h=>?_) fun hc6 h=>?_
    ·refine gs<|g0 j j (q (ae j j)<|nl)<|us<|Go.ret (Unw.ret ?_)
     cases h
     exact fr ade j
    ·refine Go.skip<|us<|gs<|g0 j j (q (ae j j)<|nl)<|us<|Go.ret (Unw.ret ?_)
     cases h
     exact fr ade j
theorem GG {kL:(List Int)} {i_1:Int} {k_2:Int} {r:Bool} (h:oZ kL i_1 k_2=some r):FX 98 [.im 2 false [W 1 eI kL],.im 2 false [I i_1],.im 2 false [I k_2]] (B0 [(false,[.im 0 (V r)])]):=by
 unfold oZ at h
 refine gn 46 Tryz.func98 rfl ?_
 refine gs<|g0 j j (q (ae j j)<|nl)<|us<|gs<|gs<|g0 j j (q (ae j j)<|nl)<|us<|Go.block<|?_
 obtain ⟨o,hl,h⟩:=bs h
 refine gl c98 j _ (fun (Dp:Int)=>mk [(0,D 2 (W 1 eI kL)),(1,iv i_1),(2,iv k_2),(7,iv Dp)] []) (fun (o:(Unit ⊕ Bool)) (p:Ex×St)=>match o with | (.inl _)=>p.1= .exit 0∧p.2.norm ([],[])=mk [] [] | (.inr r2)=>p.1= .ret∧fin Tryz.prog cfg 98 Tryz.f98 [.im 2 false [W 1 eI kL],.im 2 false [I i_1],.im 2 false [I k_2]] p.2=some (B0 [(false,[.im 0 (V r2)])])) hl (by kernel_rfl) ?_ ?_ ?_
 ·intro o p hp e
  rcases o with u | r2<;>exact nomatch (hp.1.symm.trans e)
 ·rintro Dp o h
  unfold lM at h
  refine gs<|gs<|g0 j j (q (oMv j j)<|q (oMv j j)<|q (gJ j j lX j)<|q (oBi j j j j)<|nl)<|us<|gc h j ah (fun Bc h=>?_) fun Bc h=>?_
  ·refine Go.skip<|us<|gs<|Go.block<|gs<|?_
   obtain ⟨x18,Fe,h⟩:=bs h
   refine g0 j j (q (oMv j j)<|q (oMv j j)<|q (gq j Fe fP j j)<|q (oLd (cs:=[.im 2 _]) j tF2 j j)<|q (ae j j)<|nl)<|us<|gs<|?_
   obtain ⟨x25,hx25,h⟩:=bs h
   obtain ⟨x26,TC,h⟩:=bs h
   refine g0 j j (q (oMv j j)<|q (oMv j j)<|q (oBi j j j j)<|q (oMv j j)<|q (gJ j j lX j)<|q (Gi j hx25 j j)<|q (gq j TC fP j j)<|q (oLd (cs:=[.im 2 _]) j tF2 j j)<|q (ae j j)<|nl)<|us<|gs<|?_
   obtain ⟨OQ,DJ,h⟩:=bs h
   refine gX c98 j j j (mk [(0,D 2 (W 1 eI kL)),(1,iv i_1),(2,iv k_2),(7,iv Dp),(45,bv OQ)] []) ?_ ?_
   ·refine xq (oMv j j)<|xq (oMv j j)<|xq (oBi j j j j)<|xq (oMv j j)<|?_
    refine ic DJ (fun hc16 DJ=>?_) fun hc16 DJ=>?_
    ·refine xqT j j (iEq.2 hc16) (oMv j j)<|xqT j j (iEq.2 hc16) (oMv j j)<|xqT j j (iEq.2 hc16) (oBi j j j j)<|xq (bG j j (iEq.2 hc16) j)<|xq (oMv j j)<|?_
     refine ic DJ (fun hc17 DJ=>?_) fun hc17 DJ=>?_
     ·cases DJ
      exact aj j j (iEq.2 hc17) j<|aj j j (iEq.2 hc17) j<|aj j j (iEq.2 hc17) j<|aj j j (iEq.2 hc17) j<|SB j j j<|SB j j j<|SB j j j<|aj j j (iEq.2 hc17) j<|xq (bG j j (iEq.2 hc17) j)<|xn
     ·refine xqT j j (byF iEq hc17) (oMv j j)<|xqT j j (byF iEq hc17) (oMv j j)<|xqT j j (byF iEq hc17) (oBi j j j j)<|xqT j j (byF iEq hc17) (oMv j j)<|?_
      refine ic DJ (fun hc18 DJ=>?_) fun hc18 DJ=>?_
      ·cases DJ
       exact xqT j j (iEq.2 hc18) (oMv j j)<|xqT j j (iEq.2 hc18) (oMv j j)<|xqT j j (iEq.2 hc18) (oBi j j j j)<|xqT j j (byF iEq hc17) (bG j j (iEq.2 hc18) j)<|xq (dP j j (byF iEq hc17) j)<|xn
      ·cases DJ
       exact aj j j (byF iEq hc18) j<|aj j j (byF iEq hc18) j<|aj j j (byF iEq hc18) j<|xqT j j (byF iEq hc17) (dP j j (byF iEq hc18) j)<|xq (dP j j (byF iEq hc17) j)<|xn
    ·refine aj j j (byF iEq hc16) j<|aj j j (byF iEq hc16) j<|aj j j (byF iEq hc16) j<|xq (dP j j (byF iEq hc16) j)<|xq (oMv j j)<|xqT j j j (oMv j j)<|xqT j j j (oMv j j)<|xqT j j j (oBi j j j j)<|xqT j j j (oMv j j)<|?_
     refine ic DJ (fun hc19 DJ=>?_) fun hc19 DJ=>?_
     ·cases DJ
      exact xqT j j (iEq.2 hc19) (oMv j j)<|xqT j j (iEq.2 hc19) (oMv j j)<|xqT j j (iEq.2 hc19) (oBi j j j j)<|xqT j j j (bG j j (iEq.2 hc19) j)<|xq (dP j j j j)<|xn
     ·cases DJ
      exact aj j j (byF iEq hc19) j<|aj j j (byF iEq hc19) j<|aj j j (byF iEq hc19) j<|xqT j j j (dP j j (byF iEq hc19) j)<|xq (dP j j j j)<|xn
   ·refine us<|gc h j iR (fun Ff h=>?_) fun Ff h=>?_
    ·refine gs<|g0 j j (q (ae j j)<|nl)<|us<|Go.ret (Unw.ret ?_)
     cases h
     exact ⟨j,(fo ae4 j)⟩
    ·refine Go.skip<|Unw.blk<|us<|g0 j j (q (oMv j j)<|q (oBi j j j j)<|q (ae j j)<|nl)<|Unw.nil<|?_
     cases h
     exact ⟨j,(by kernel_rfl)⟩
  ·refine Go.exit<|ux<|Unw.nil<|?_
   cases h
   exact ⟨j,(by kernel_rfl)⟩
 ·rintro ⟨e,st⟩ hp
  rcases o with u | r2
  ·dsimp only at h
   obtain ⟨he,hst⟩:=hp
   obtain rfl:e= .exit 0:=he
   refine Unw.iU<|us<|gs<|g2 c98 j j hst (q (ae j j)<|nl)<|us<|Go.ret (Unw.ret ?_)
   cases h
   exact fr ae4 j
  ·dsimp only at h
   obtain ⟨he,hfin⟩:=hp
   obtain rfl:e= .ret:=he
   cases h
   exact Unw.ret (fO hfin)
theorem Lu {d_0:aA} {k_1:Int} {r:(List Int)} (h:vg d_0 k_1=some r):FX 72 [.im 2 false [.cp (ak d_0) 0],.im 2 false [I k_1]] (B0 [(false,[.ow 0 1 (List.map eI r)])]):=by
 unfold vg at h
 refine gn 69 Tryz.func72 rfl ?_
 refine gs<|g0 j j (q (vG j j E5)<|nl)<|us<|gs<|g0 j j (q (oBS (es:=List.map eI ([]:List Int)) j fP j pt0 (eG j fun _=>j))<|q (jX j j j j j)<|nl)<|us<|gs<|?_
 obtain ⟨x16,hx16,h⟩:=bs h
 refine g0 j j (q (oMv j j)<|q (oNl j j j)<|q (oFA (r':=.im 2 _) j oO j j)<|q (oLd (cs:=[.im 2 _]) j BP j j)<|q (oMv j j)<|q (gq j hx16 Fa j j)<|q (oFA (r':=.im 2 _) j BN j j)<|q (oLd (cs:=[.im 2 _]) j oz j j)<|q (ae j j)<|nl)<|us<|gs<|gs<|g0 j j (q (ae j j)<|nl)<|us<|Go.block<|?_
 obtain ⟨o,hl,h⟩:=bs h
 refine gl c72 j _ (fun (s:(Int×(List Int)))=>match s with | (jK,eH)=>mk [(0,D 2 (.cp (ak d_0) 0)),(1,iv k_1),(5,H 5 0),(6,D 2 (W 1 eI x16.Ring)),(7,iv jK)] [(5,Oc [Z (W 1 eI eH)])]) (fun (jC:(List Int)) (p:Ex×St)=>p.1= .exit 0∧p.2.norm ([5],[5])=mk [(5,H 5 0)] [(5,Oc [Z (W 1 eI jC)])]) hl (by kernel_rfl) ?_ ?_ ?_
 ·intro o p hp e
  exact nomatch (hp.1.symm.trans e)
 ·rintro ⟨jK,eH⟩ o h
  unfold o7 at h
  dsimp only at h
  refine gs<|gs<|g0 j j (q (oMv j j)<|q (oMv j j)<|q (oNl j j j)<|q (oFA (r':=.im 2 _) j oO j j)<|q (oLd (cs:=[.im 2 _]) j BP j j)<|q (gJ j j I5 j)<|q (oBi j j j j)<|nl)<|us<|gc h j ah (fun Bc h=>?_) fun Bc h=>?_
  ·refine Go.skip<|us<|gs<|Go.join (fun st=>∃Aw,o5 jK Aw=some o∧st.norm ([0,1,5,6,7],[5])=mk [(0,D 2 (.cp (ak d_0) 0)),(1,iv k_1),(5,H 5 0),(6,D 2 (W 1 eI x16.Ring)),(7,iv jK)] [(5,Oc [Z (W 1 eI Aw)])]) ?_ ?_
   ·rintro st ⟨Aw,h,hst⟩
    unfold o5 at h
    refine us<|g2 c72 j j hst (q (oMv j j)<|q (oBi j j j j)<|q (ae j j)<|nl)<|Unw.nil<|?_
    cases h
    exact ⟨j,(by kernel_rfl)⟩
   ·intro K22
    refine Go.block<|gs<|g0 j j (q (ae j j)<|nl)<|us<|gs<|gs<|g0 j j (q (ae j j)<|nl)<|us<|Go.block<|?_
    obtain ⟨o,hl,h⟩:=bs h
    refine gl c72 j _ (fun (s:(Bool×Int))=>match s with | (yI,Dq)=>mk [(0,D 2 (.cp (ak d_0) 0)),(1,iv k_1),(5,H 5 0),(6,D 2 (W 1 eI x16.Ring)),(7,iv jK),(8,bv yI),(9,iv Dq)] [(5,Oc [Z (W 1 eI eH)])]) (fun (qW:Bool) (p:Ex×St)=>p.1= .exit 2∧p.2.norm ([0,1,5,6,7,8],[5])=mk [(0,D 2 (.cp (ak d_0) 0)),(1,iv k_1),(5,H 5 0),(6,D 2 (W 1 eI x16.Ring)),(7,iv jK),(8,bv qW)] [(5,Oc [Z (W 1 eI eH)])]) hl (by kernel_rfl) ?_ ?_ ?_
    ·intro o p hp e
     exact nomatch (hp.1.symm.trans e)
    ·rintro ⟨yI,Dq⟩ o h
     unfold o6 at h
     dsimp only at h
     refine gs<|gs<|g0 j j (q (oMv j j)<|q (oMv j j)<|q (gJ j j lX j)<|q (oBi j j j j)<|nl)<|us<|gc h j ah (fun hc29 h=>?_) fun hc29 h=>?_
     ·refine Go.skip<|us<|gs<|Go.block<|?_
      obtain ⟨Dt,Fg,h⟩:=bs h
      refine gd c72 j j j j (mk [(0,D 2 (.cp (ak d_0) 0)),(1,iv k_1),(5,H 5 0),(6,D 2 (W 1 eI x16.Ring)),(7,iv jK),(8,bv Dt),(9,iv Dq)] [(5,Oc [Z (W 1 eI eH)])]) ?_ ?_
      ·refine t j j (oMv j j)<|t j j (oMv j j)<|?_
       refine ic Fg (fun kQ Fg=>?_) fun kQ Fg=>?_
       ·cases Fg
        exact tF j j j j (iR.2 kQ) j<|tF j j j j (iR.2 kQ) j<|tF j j j j (iR.2 kQ) j<|tF j j j j (iR.2 kQ) j<|tF j j j j (iR.2 kQ) j<|tF j j j j (iR.2 kQ) j<|tF j j j j (iR.2 kQ) j<|tF j j j j (iR.2 kQ) j<|tF j j j j (iR.2 kQ) j<|tF j j j j (iR.2 kQ) j<|tF j j j j (iR.2 kQ) j<|tF j j j j (iR.2 kQ) j<|tF j j j j (iR.2 kQ) j<|tF j j j j (iR.2 kQ) j<|tF j j j j (iR.2 kQ) j<|tF j j j j (iR.2 kQ) j<|tF j j j j (iR.2 kQ) j<|tF j j j j (iR.2 kQ) j<|tF j j j j (iR.2 kQ) j<|tF j j j j (iR.2 kQ) j<|sS (dF j j j (iR.2 kQ) j) trivial (t j j (bG j j (iR.2 kQ) j)<|sS (dN z72 j (ae j j)) trivial (sD (by kernel_rfl)))
       ·obtain ⟨x41,Pq,Fg⟩:=bs Fg
        obtain ⟨x46,TD,Fg⟩:=bs Fg
        obtain ⟨x53,ahl,Fg⟩:=bs Fg
        obtain ⟨x54,ahm,Fg⟩:=bs Fg
        obtain ⟨x56,X6,Fg⟩:=bs Fg
        cases Fg
        exact tT j j j j (byF iR kQ) (oMv j j)<|tT j j j j (byF iR kQ) (oNl j j j)<|tT j j j j (byF iR kQ) (oFA (r':=.im 2 _) j oO j j)<|tT j j j j (byF iR kQ) (oLd (cs:=[.im 2 _]) j BP j j)<|tT j j j j (byF iR kQ) (oMv j j)<|tT j j j j (byF iR kQ) (gq j Pq Fa j j)<|tT j j j j (byF iR kQ) (oFA (r':=.im 2 _) j BN j j)<|tT j j j j (byF iR kQ) (oLd (cs:=[.im 2 _]) j oz j j)<|tT j j j j (byF iR kQ) (oMv j j)<|tT j j j j (byF iR kQ) (oMv j j)<|tT j j j j (byF iR kQ) (gq j TD fP j j)<|tT j j j j (byF iR kQ) (oLd (cs:=[.im 2 _]) j tF2 j j)<|tT j j j j (byF iR kQ) (oMv j j)<|tT j j j j (byF iR kQ) (oMv j j)<|tT j j j j (byF iR kQ) (oBi j j j j)<|tT j j j j (byF iR kQ) (oMv j j)<|tT j j j j (byF iR kQ) (gJ j j lX j)<|tT j j j j (byF iR kQ) (Gi j ahl j j)<|tT j j j j (byF iR kQ) (gq j ahm fP j j)<|tT j j j j (byF iR kQ) (oLd (cs:=[.im 2 _]) j tF2 j j)<|sS (dT z72 j j j (byF iR kQ) (oCa (xs:=[.v false [.im 2 _],.v false [.im 2 _],.v false [.im 2 _]]) (vs:=[(false,[.im 0 _])]) (v:=.v false [.im 0 _]) (GG X6) (.inl j) j QU j (ppC j (ppC j (ppC j pp0))) j j pb0 j j j)) trivial (t j j (dP j j (byF iR kQ) j)<|sS (dN z72 j (ae j j)) trivial (sD (by kernel_rfl)))
      ·refine Unw.blk<|us<|g0 j j (q (oMv j j)<|q (oBi j j j j)<|q (ae j j)<|nl)<|Unw.nil<|?_
       cases h
       exact ⟨j,(by kernel_rfl)⟩
     ·refine Go.exit<|ux<|Unw.nil<|?_
      cases h
      exact ⟨j,(by kernel_rfl)⟩
    ·rintro ⟨e,st⟩ hp
     obtain ⟨qW,rfl⟩:∃y,y=o:=⟨o,rfl⟩
     obtain ⟨he,hst⟩:=hp
     obtain rfl:e= .exit 2:=he
     refine Unw.iU<|us<|gs<|gX c72 j j hst (mk [(0,D 2 (.cp (ak d_0) 0)),(1,iv k_1),(5,H 5 0),(6,D 2 (W 1 eI x16.Ring)),(7,iv jK),(63,bv ((jK != k_1)&&qW))] [(5,Oc [Z (W 1 eI eH)])]) ?_ ?_
     ·refine xq (oMv j j)<|xq (oMv j j)<|xq (oBi j j j j)<|xq (oMv j j)<|?_
      by_cases hc27:jK≠k_1
      ·exact xqT rfl rfl (iNe.2 hc27) (oMv rfl rfl)<|xq (bG rfl rfl (iNe.2 hc27) rfl)<|xn (Eq.trans (b:=(fun y9:Bool=>mk [(0,D 2 (.cp (ak d_0) 0)),(1,iv k_1),(5,H 5 0),(6,D 2 (W 1 eI x16.Ring)),(7,iv jK),(63,bv y9)] [(5,Oc [Z (W 1 eI eH)])]) qW) (by kernel_rfl) (congrArg (fun y9:Bool=>mk [(0,D 2 (.cp (ak d_0) 0)),(1,iv k_1),(5,H 5 0),(6,D 2 (W 1 eI x16.Ring)),(7,iv jK),(63,bv y9)] [(5,Oc [Z (W 1 eI eH)])]) (by first | rfl | (simp [(iNe.2 hc27)];done) | (simp [(iNe.2 hc27)];omega))))
      ·exact aj rfl rfl (byF iNe hc27) rfl<|xq (dP rfl rfl (byF iNe hc27) rfl)<|xn (Eq.trans (b:=(fun y9:Bool=>mk [(0,D 2 (.cp (ak d_0) 0)),(1,iv k_1),(5,H 5 0),(6,D 2 (W 1 eI x16.Ring)),(7,iv jK),(63,bv y9)] [(5,Oc [Z (W 1 eI eH)])]) false) (by kernel_rfl) (congrArg (fun y9:Bool=>mk [(0,D 2 (.cp (ak d_0) 0)),(1,iv k_1),(5,H 5 0),(6,D 2 (W 1 eI x16.Ring)),(7,iv jK),(63,bv y9)] [(5,Oc [Z (W 1 eI eH)])]) (by first | rfl | (simp [(byF iNe hc27)];done) | (simp [(byF iNe hc27)];omega))))
     ·refine us<|gc h j (xK iNe iR) (fun hc28 h=>?_) fun hc28 h=>?_
      ·obtain ⟨x67,qj,h⟩:=bs h
       exact g0 j j (q (oMv j j)<|q (oMv j j)<|q (oBS (es:=List.map eI ([jK]:List Int)) j fP j (ptC j (fxI fx0) j pt0) (eG j fun _=>j))<|q (EU (en:=eI) (M:=([jK]:List Int)) j qj j fP j j lX (.inl ⟨_,j⟩) j j j j (kJ j j) (eG j fun _=>j))<|q (jX j j j j j)<|nl)<|Unw.blk<|K22 _ ⟨x67,h,(by kernel_rfl)⟩
      ·exact Go.skip<|Unw.blk<|K22 _ ⟨eH,h,(by kernel_rfl)⟩
  ·refine Go.exit<|ux<|Unw.nil<|?_
   cases h
   exact ⟨j,(by kernel_rfl)⟩
 ·rintro ⟨e,st⟩ hp
  obtain ⟨jC,rfl⟩:∃y,y=o:=⟨o,rfl⟩
  obtain ⟨he,hst⟩:=hp
  obtain rfl:e= .exit 0:=he
  refine Unw.iU<|us<|gs<|g2 c72 j j hst (q (oMv j j)<|q (jX j j j j j)<|nl)<|us<|Go.ret (Unw.ret ?_)
  cases h
  exact fr agY j
theorem Jj {d_0:aA} {r:(List (List Int))} (h:sO d_0=some r):FX 46 [.im 2 false [.cp (ak d_0) 0]] (B0 [(false,[.ow 0 1 (List.map (eL 1 eI) r)])]):=by
 unfold sO at h
 refine gn 42 Tryz.func46 rfl ?_
 refine gs<|g0 j j (q (vG j j acU)<|nl)<|us<|gs<|g0 j j (q (oBS (es:=List.map (eL 1 eI) ([]:List (List Int))) j uG j pt0 (Dk j))<|q (jX j j j j j)<|nl)<|us<|gs<|gs<|g0 j j (q (ae j j)<|nl)<|us<|Go.block<|?_
 obtain ⟨o,hl,h⟩:=bs h
 refine gl c46 j _ (fun (s:(Int×(List (List Int))))=>match s with | (rJ,aX)=>mk [(0,D 2 (.cp (ak d_0) 0)),(3,H 3 0),(4,iv rJ)] [(3,Oc [Z (W 1 (eL 1 eI) aX)])]) (fun (bz:(List (List Int))) (p:Ex×St)=>p.1= .exit 0∧p.2.norm ([3],[3])=mk [(3,H 3 0)] [(3,Oc [Z (W 1 (eL 1 eI) bz)])]) hl (by kernel_rfl) ?_ ?_ ?_
 ·intro o p hp e
  exact nomatch (hp.1.symm.trans e)
 ·rintro ⟨rJ,aX⟩ o h
  unfold kZ at h
  dsimp only at h
  refine gs<|gs<|g0 j j (q (oMv j j)<|q (oMv j j)<|q (oNl j j j)<|q (oFA (r':=.im 2 _) j oO j j)<|q (oLd (cs:=[.im 2 _]) j BP j j)<|q (gJ j j I5 j)<|q (oBi j j j j)<|nl)<|us<|gc h j ah (fun MJ h=>?_) fun MJ h=>?_
  ·refine Go.skip<|us<|gs<|Go.block<|gs<|?_
   obtain ⟨x19,yw,h⟩:=bs h
   refine g0 j j (q (oMv j j)<|q (oMv j j)<|q (oCr (xs:=[.v false [.im 2 _],.v false [.im 0 _]]) (vs:=[(false,[.own 19 0 0])]) (v:=.v false [.own 19 0 0]) (c:=⟨.sh,0,_⟩) (cs:=[]) (Lu yw) (.inl j) j VG j (ppC j (ppC j pp0)) j j pb0 j j j)<|q (jX j j j j j)<|nl)<|us<|gs<|g0 j j (q (ae j j)<|nl)<|us<|Go.block<|?_
   obtain ⟨o,hl,h⟩:=bs h
   refine gl c46 j _ (fun (s:(Int×(List (List Int))))=>match s with | (xP,vV)=>mk [(0,D 2 (.cp (ak d_0) 0)),(3,H 3 0),(4,iv rJ),(5,H 5 0),(6,iv xP)] [(3,Oc [Z (W 1 (eL 1 eI) vV)]),(5,Oc [Z (W 1 eI x19)])]) (fun (zG:(List (List Int))) (p:Ex×St)=>p.1= .exit 2∧p.2.norm ([0,3,4],[3])=mk [(0,D 2 (.cp (ak d_0) 0)),(3,H 3 0),(4,iv rJ)] [(3,Oc [Z (W 1 (eL 1 eI) zG)])]) hl (by kernel_rfl) ?_ ?_ ?_
   ·intro o p hp e
    exact nomatch (hp.1.symm.trans e)
   ·rintro ⟨xP,vV⟩ o h
    unfold iK at h
    dsimp only at h
    refine gs<|gs<|g0 j j (q (oMv j j)<|q (oMv j j)<|q (Hr j j lX j j j (fun e=>nomatch e))<|q (oBi j j j j)<|nl)<|us<|gc h j ah (fun hc16 h=>?_) fun hc16 h=>?_
    ·refine Go.skip<|us<|gs<|Go.join (fun st=>∃Az,kX xP Az=some o∧st.norm ([0,3,4,5,6],[3,5])=mk [(0,D 2 (.cp (ak d_0) 0)),(3,H 3 0),(4,iv rJ),(5,H 5 0),(6,iv xP)] [(3,Oc [Z (W 1 (eL 1 eI) Az)]),(5,Oc [Z (W 1 eI x19)])]) ?_ ?_
     ·rintro st ⟨Az,h,hst⟩
      unfold kX at h
      refine us<|g2 c46 j j hst (q (oMv j j)<|q (oBi j j j j)<|q (ae j j)<|nl)<|Unw.nil<|?_
      cases h
      exact ⟨j,(by kernel_rfl)⟩
     ·intro K18
      refine Go.block<|gs<|?_
      obtain ⟨x28,hx28,h⟩:=bs h
      refine g0 j j (q (oMv j j)<|q (oMv j j)<|q (Am j hx28 fP j j j j)<|q (IZ (cs:=[.im 0 _]) j tF2 j j j j (fA hx28) j j)<|q (oMv j j)<|q (oBi j j j j)<|nl)<|us<|gc h j ah (fun hc19 h=>?_) fun hc19 h=>?_
      ·obtain ⟨x36,Ba,h⟩:=bs h
       obtain ⟨x40,Lj,h⟩:=bs h
       exact g0 j j (q (oMv j j)<|q (oMv j j)<|q (oMv j j)<|q (oMv j j)<|q (Am j Ba fP j j j j)<|q (IZ (cs:=[.im 0 _]) j tF2 j j j j (fA Ba) j j)<|q (oBS (es:=List.map eI ([rJ,x36]:List Int)) j fP j (ptC j (fxI fx0) j (ptC j (fxI fx0) j pt0)) (eG j fun _=>j))<|q (oBS (es:=List.map (eL 1 eI) ([([rJ,x36]:List Int)]:List (List Int))) j uG j (ptC j (fxO j j fx0) j pt0) (Dk j))<|q (EU (en:=(eL 1 eI)) (M:=([([rJ,x36]:List Int)]:List (List Int))) j Lj j uG j j TA (.inl ⟨_,j⟩) j j j j (kJ j j) (Dk j))<|q (jX j j j j j)<|nl)<|Unw.blk<|K18 _ ⟨x40,h,(by kernel_rfl)⟩
      ·exact Go.skip<|Unw.blk<|K18 _ ⟨vV,h,(by kernel_rfl)⟩
    ·refine Go.exit<|ux<|Unw.nil<|?_
     cases h
     exact ⟨j,(by kernel_rfl)⟩
   ·rintro ⟨e,st⟩ hp
    obtain ⟨zG,rfl⟩:∃y,y=o:=⟨o,rfl⟩
    obtain ⟨he,hst⟩:=hp
    obtain rfl:e= .exit 2:=he
    refine Unw.iU<|Unw.blk<|us<|g2 c46 j j hst (q (oMv j j)<|q (oBi j j j j)<|q (ae j j)<|nl)<|Unw.nil<|?_
    cases h
    exact ⟨j,(by kernel_rfl)⟩
  ·refine Go.exit<|ux<|Unw.nil<|?_
   cases h
   exact ⟨j,(by kernel_rfl)⟩
 ·rintro ⟨e,st⟩ hp
  obtain ⟨bz,rfl⟩:∃y,y=o:=⟨o,rfl⟩
  obtain ⟨he,hst⟩:=hp
  obtain rfl:e= .exit 0:=he
  refine Unw.iU<|us<|gs<|g2 c46 j j hst (q (oMv j j)<|q (jX j j j j j)<|nl)<|us<|Go.ret (Unw.ret ?_)
  cases h
  exact fr agK j
theorem Jk {a_0:Int} {b_1:Int} {r:Int} (h:wI a_0 b_1=some r):FX 74 [.im 2 false [I a_0],.im 2 false [I b_1]] (B0 [(false,[.im 0 (I r)])]):=by
 unfold wI at h
 refine gn 17 Tryz.func74 rfl ?_
 refine gs<|g0 j j (q (ae j j)<|nl)<|us<|gs<|?_
 obtain ⟨x12,zU,h⟩:=bs h
 refine g0 j j (q (oMv j j)<|q (oMv j j)<|q (oBi j j j j)<|q (oMv j j)<|q (oMv j j)<|q (oBi j j j j)<|q (oCa (xs:=[.v false [.im 0 _],.v false [.im 0 _]]) (vs:=[(false,[.im 0 _])]) (v:=.v false [.im 0 _]) (tq zU) (.inl j) j Dz j (ppC j (ppC j pp0)) j j pb0 j j j)<|q (ae j j)<|nl)<|us<|gs<|?_
 obtain ⟨x16,hx16,h⟩:=bs h
 refine g0 j j (q (oMv j j)<|q (oMv j j)<|q (oBi j j j j)<|q (oCa (xs:=[.v false [.im 0 _],.v false [.im 0 _]]) (vs:=[(false,[.im 0 _])]) (v:=.v false [.im 0 _]) (wL hx16) (.inl j) j Gv j (ppC j (ppC j pp0)) j j pb0 j j j)<|q (ae j j)<|nl)<|us<|Go.ret (Unw.ret ?_)
 cases h
 exact fr agZ j
theorem Fh {a_0:ai} {b_1:ai} {r:Int} (h:nS a_0 b_1=some r):FX 47 [.im 2 false [.cp (iH a_0) 0],.im 2 false [.cp (iH b_1) 0]] (B0 [(false,[.im 0 (I r)])]):=by
 unfold nS at h
 refine gn 35 Tryz.func47 rfl ?_
 refine gs<|g0 j j (q (ae j j)<|nl)<|us<|gs<|?_
 obtain ⟨x23,zq,h⟩:=bs h
 obtain ⟨x32,hx32,h⟩:=bs h
 obtain ⟨x33,adw,h⟩:=bs h
 refine gd c47 j j j j (mk [(4,iv (w64 (x23+x33)))] []) (t j j (oMv j j)<|t j j (oNl j j j)<|t j j (oFA (r':=.im 2 _) j rO j j)<|t j j (oLd (cs:=[.im 2 _]) j tF2 j j)<|t j j (oMv j j)<|t j j (oNl j j j)<|t j j (oFA (r':=.im 2 _) j rO j j)<|t j j (oLd (cs:=[.im 2 _]) j tF2 j j)<|t j j (oBi j j j j)<|t j j (oMv j j)<|t j j (oNl j j j)<|t j j (oFA (r':=.im 2 _) j rO j j)<|t j j (oLd (cs:=[.im 2 _]) j tF2 j j)<|t j j (oMv j j)<|t j j (oNl j j j)<|t j j (oFA (r':=.im 2 _) j rO j j)<|t j j (oLd (cs:=[.im 2 _]) j tF2 j j)<|t j j (oBi j j j j)<|t j j (oMv j j)<|t j j (oNl j j j)<|t j j (oFA (r':=.im 2 _) j zQ j j)<|t j j (oLd (cs:=[.im 2 _]) j tF2 j j)<|t j j (oMv j j)<|t j j (oNl j j j)<|t j j (oFA (r':=.im 2 _) j zQ j j)<|t j j (oLd (cs:=[.im 2 _]) j tF2 j j)<|sS (dN z47 j (oCa (xs:=[.v false [.im 0 _],.v false [.im 0 _]]) (vs:=[(false,[.im 0 _])]) (v:=.v false [.im 0 _]) (tq zq) (.inl j) j Dz j (ppC j (ppC j pp0)) j j pb0 j j j)) trivial (sS (dN z47 j (oCa (xs:=[.v false [.im 2 _],.v false [.im 2 _]]) (vs:=[(false,[.im 0 _])]) (v:=.v false [.im 0 _]) (Jk hx32) (.inl j) j XN j (ppC j (ppC j pp0)) j j pb0 j j j)) trivial (t j j (acG j adw j j)<|t j j (oBi j j j j)<|sS (dN z47 j (ae j j)) trivial (sD (by kernel_rfl)))))<|us<|Go.ret (Unw.ret ?_)
 cases h
 exact fr agL j
end
end Go.Proofs.YtnjgcdpleghciaaGreat
