/- The machine answers, at each function of the program that is reached, what its plain function answers. Conditions: none. -/
import Derived.Test.YtnjgcdpleghciaaGreatProg
import Derived.KernelRfl
import Derived.Test.YtnjgcdpleghciaaGreatSimRs
import Derived.Test.YtnjgcdpleghciaaGreatSimRv
import Derived.Test.YtnjgcdpleghciaaGreatTfvT
namespace Go.Proofs.YtnjgcdpleghciaaGreat
open Go Go.Sim Go.Pw Go.Proofs
set_option linter.unusedVariables false
set_option linter.unusedSimpArgs false
set_option maxRecDepth 100000
set_option maxHeartbeats 4000000
noncomputable section
noncomputable abbrev aF (x:af):List AV:=[I x.X,I x.Y]
noncomputable def az (x:af):AV:= .agg (aF x)
noncomputable abbrev vF (x:dh):List AV:=[Y x.Name,W 1 eI x.Ring]
noncomputable def bQ (x:dh):AV:= .agg (vF x)
noncomputable abbrev au (x:aA):List AV:=[I x.Width,I x.Height,W 2 az x.bg,W 2 bQ x.aC]
noncomputable def QI (x:aA):AV:= .agg (au x)
noncomputable abbrev iG (x:ai):List AV:=[Y x.jl,I x.dO,I x.aY]
noncomputable def ak (x:ai):AV:= .agg (iG x)
noncomputable abbrev wz (x:aZ):List AV:=[I x.e0,I x.e1]
noncomputable def bV (x:aZ):AV:= .agg (wz x)
noncomputable def fc5:cZ:={par:=[.cst false,.cst false,.cst false,.cst false],inn:=[(10,some ([1,2,3,4,10,11,12,13],[4,10,13])),(19,some ([1,2,3,4,10,11,12,13,14,15,16,17,18],[4,10,13,14,15])),(21,some ([1,2,3,4,10,11,12,15,16,17,18],[4,10,15])),(25,some ([1,2,3,4,10,11,12,15,19],[4,10,15]))],out:=[(12,some ([1,2,3,4,10,11,12,13,14,15,16,17,71],[4,10,13,14,15])),(14,some ([1,2,3,4,10,11,12,13,14,15,16,17,76],[4,10,13,14,15])),(21,some ([1,2,3,4,10,11,12,15,105],[4,10,15])),(32,some ([15,19,141],[15]))],aU:=[],frz:=[],sch:=[(14,.first 0 [3,4] [1,2]<| .first 1 [2,3,4] []<| .fork 2 (.fork 3 (.first 4 [] []<| .done) (.stop)) (.stop))],shut:=[19]}
noncomputable def fc6:cZ:={par:=[.cst false,.cst false],inn:=[],out:=[],aU:=[],frz:=[],sch:=[],shut:=[]}
noncomputable def fc7:cZ:={par:=[.cst false,.cst false],inn:=[(10,some ([1],[]))],out:=[],aU:=[(5,([0,1,5],[]))],frz:=[],sch:=[],shut:=[]}
noncomputable def fc9:cZ:={par:=[.cst false],inn:=[(3,some ([1,2,3],[1,2,3])),(4,some ([1,2,3],[1,2,3])),(5,some ([1,2,3],[1,2,3])),(6,some ([2,3],[2,3]))],out:=[],aU:=[],frz:=[],sch:=[],shut:=[]}
noncomputable def Y5:cZ:={par:=[.cst false],inn:=[(4,some ([0,3,4],[3])),(6,some ([3],[3]))],out:=[],aU:=[(3,([0,3,4],[3]))],frz:=[],sch:=[],shut:=[]}
noncomputable def Y6:cZ:={par:=[.cst false,.cst false],inn:=[(8,some ([],[]))],out:=[(6,some ([0,1,5,25],[]))],aU:=[(4,([0,1,5],[]))],frz:=[],sch:=[(6,.first 0 [2,3,8] [1,4,5,6,7]<| .first 1 [2,3,8] [4,5,6,7]<| .first 2 [3,8] [4,5,6,7]<| .first 3 [8] [4,5,6,7]<| .first 4 [6,7,8] [5]<| .first 5 [6,7,8] []<| .first 6 [7,8] []<| .first 7 [8] []<| .first 8 [] []<| .done)],shut:=[]}
noncomputable def Y7:cZ:={par:=[.cst false,.cst false],inn:=[],out:=[],aU:=[],frz:=[],sch:=[],shut:=[]}
noncomputable def Y8:cZ:={par:=[.cst false,.cst false],inn:=[(8,some ([],[]))],out:=[(6,some ([0,1,5,26],[]))],aU:=[(4,([0,1,5],[]))],frz:=[],sch:=[(6,.first 0 [2,3,8,9] [1,4,5,6,7]<| .first 1 [2,3,8,9] [4,5,6,7]<| .first 2 [3,8,9] [4,5,6,7]<| .first 3 [8,9] [4,5,6,7]<| .first 4 [6,7,8,9] [5]<| .first 5 [6,7,8,9] []<| .first 6 [7,8,9] []<| .first 7 [8,9] []<| .fork 8 (.first 9 [] []<| .done) (.stop))],shut:=[]}
noncomputable def Y9:cZ:={par:=[.ws,.cst false],inn:=[],out:=[],aU:=[],frz:=[],sch:=[],shut:=[]}
noncomputable def Za:cZ:={par:=[.row,.cst false],inn:=[(5,some ([0,1,5],[0])),(7,some ([0,1,5],[0])),(9,some ([0,1,5],[0])),(10,some ([1],[0]))],out:=[],aU:=[(2,([0,1,5],[0]))],frz:=[],sch:=[],shut:=[]}
noncomputable def Zb:cZ:={par:=[.row,.cst false],inn:=[(5,some ([0,1,5],[0])),(6,some ([1],[0]))],out:=[],aU:=[(2,([0,1,5],[0]))],frz:=[],sch:=[],shut:=[]}
noncomputable def Zc:cZ:={par:=[.cst false,.cst false],inn:=[(7,some ([1],[]))],out:=[],aU:=[(2,([0,1,5],[]))],frz:=[],sch:=[],shut:=[]}
noncomputable def Zd:cZ:={par:=[.cst false,.cst false,.cst false,.cst false],inn:=[(9,some ([1,12,13],[24])),(10,some ([12,13],[24])),(11,some ([1,12,13],[24])),(13,some ([],[]))],out:=[],aU:=[(6,([1,12,13],[24]))],frz:=[],sch:=[],shut:=[]}
noncomputable def Ze:cZ:={par:=[.cst false,.cst false,.cst false,.cst false],inn:=[(9,some ([1,2,12,13,14,15],[14,29])),(13,some ([],[]))],out:=[],aU:=[(6,([1,2,12,13],[29]))],frz:=[],sch:=[],shut:=[]}
noncomputable def Zg:cZ:={par:=[.cst false,.cst false],inn:=[],out:=[],aU:=[],frz:=[],sch:=[],shut:=[]}
noncomputable def Zh:cZ:={par:=[.cst false,.cst false],inn:=[(10,some ([1],[]))],out:=[],aU:=[(5,([0,1,5],[]))],frz:=[],sch:=[],shut:=[]}
noncomputable def Zi:cZ:={par:=[.cst false,.cst false],inn:=[],out:=[],aU:=[],frz:=[],sch:=[],shut:=[]}
noncomputable def Zj:cZ:={par:=[.cut 4,.cst false,.cst false,.cst false],inn:=[],out:=[(1,some ([1,2,3,16],[])),(3,some ([34],[]))],aU:=[],frz:=[],sch:=[],shut:=[]}
noncomputable def Zk:cZ:={par:=[.cut 4,.cst false,.cst false,.cst false],inn:=[(2,some ([0,1,9],[19])),(4,some ([0,1,9,10],[19])),(6,some ([0,1,9],[19])),(11,some ([1,9],[19])),(13,some ([1,9,13],[19])),(19,some ([1,9,13,14],[14,19])),(20,some ([9],[19]))],out:=[(10,some ([1,9,11,12],[11,19])),(18,some ([1,9,13,14,15],[14,19]))],aU:=[(3,([0,1,9,10],[19])),(8,([1,9,11,12],[11,19])),(12,([1,9,13],[19])),(16,([1,9,13,14,15],[14,19]))],frz:=[],sch:=[(10,.first 0 [1,2,3,30,31] (rg [4,30])<| .first 4 [6,7,8,9,30,31] (rg [1,4,5,6,10,30])<| .first 5 [6,7,8,9,30,31] (rg [1,4,10,30])<| .first 10 [11,12,13,20,21,29,30,31] (rg [1,4,6,10,14,20,22,29])<| .first 14 (rg [16,22,29,32]) (rg [1,4,6,10,11,14,15,16,22,29])<| .first 15 (rg [16,22,29,32]) (rg [1,4,6,10,11,14,22,29])<| .first 22 (rg [24,32]) (rg [1,4,6,10,11,14,16,22,23,24])<| .first 23 (rg [24,32]) (rg [1,4,6,10,11,14,16,22])<| .first 24 (rg [25,32]) (rg [1,4,6,10,11,14,16,22])<| .first 25 (rg [26,32]) (rg [1,4,6,10,11,14,16,22])<| .first 26 [27,28,29,30,31] (rg [1,4,6,10,11,14,16,22])<| .first 27 [28,29,30,31] (rg [1,4,6,10,11,14,16,22])<| .first 6 [7,8,9,30,31] (rg [1,4,11,14,16,22,28,30])<| .first 7 [8,9,30,31] (rg [1,4,11,14,16,22,28,30])<| .first 8 [9,30,31] (rg [1,4,11,14,16,22,28,30])<| .first 9 [30,31] (rg [1,4,11,14,16,22,28,30])<| .first 11 [12,13,20,21,29,30,31] [1,2,3,16,17,18,19,28]<| .first 12 [13,20,21,29,30,31] [1,2,3,16,17,18,19,28]<| .first 13 [20,21,29,30,31] [1,2,3,16,17,18,19,28]<| .first 16 (rg [17,22,29,32]) [1,2,3,28]<| .first 17 [18,19,20,21,29,30,31] [1,2,3,28]<| .first 18 [19,20,21,29,30,31] [1,2,3,28]<| .first 19 [20,21,29,30,31] [1,2,3,28]<| .first 20 [21,29,30,31] [1,2,3,28]<| .first 21 [29,30,31] [1,2,3,28]<| .fork 1 (.fork 2 (.fork 3 (.fork 28 (.fork 29 (.first 30 [31] []<| .fork 31 (.done) (.stop)) (.stop)) (.stop)) (.fork 28 (.fork 3 (.fork 29 (.first 30 [31] []<| .fork 31 (.done) (.stop)) (.stop)) (.fork 29 (.fork 3 (.first 30 [31] []<| .fork 31 (.done) (.stop)) (.stop)) (.stop))) (.stop))) (.fork 28 (.fork 2 (.fork 3 (.fork 29 (.first 30 [31] []<| .fork 31 (.done) (.stop)) (.stop)) (.fork 29 (.fork 3 (.first 30 [31] []<| .fork 31 (.done) (.stop)) (.stop)) (.stop))) (.fork 29 (.fork 2 (.fork 3 (.first 30 [31] []<| .fork 31 (.done) (.stop)) (.stop)) (.stop)) (.stop))) (.stop))) (.fork 28 (.fork 1 (.fork 2 (.fork 3 (.fork 29 (.first 30 [31] []<| .fork 31 (.done) (.stop)) (.stop)) (.fork 29 (.fork 3 (.first 30 [31] []<| .fork 31 (.done) (.stop)) (.stop)) (.stop))) (.fork 29 (.fork 2 (.fork 3 (.first 30 [31] []<| .fork 31 (.done) (.stop)) (.stop)) (.stop)) (.stop))) (.fork 29 (.fork 1 (.fork 2 (.fork 3 (.first 30 [31] []<| .fork 31 (.done) (.stop)) (.stop)) (.stop)) (.stop)) (.stop))) (.stop))),(18,.first 0 [9,10] (rg [1,9])<| .first 1 [3,7,8,9,10] [2,4,5,6]<| .first 2 [3,7,8,9,10] [4,5,6]<| .first 3 [7,8,9,10] [4,5,6]<| .first 4 [6,7,8,9,10] [5]<| .first 5 [6,7,8,9,10] []<| .first 6 [7,8,9,10] []<| .fork 7 (.fork 8 (.fork 9 (.fork 10 (.done) (.stop)) (.stop)) (.stop)) (.stop))],shut:=[]}
noncomputable def Zl:cZ:={par:=[.ptr [.gone,.sh,.imm,.imm,.sh,.imm,.imm,.imm]],inn:=[(6,some ([0,3,4],[0])),(12,some ([0,3,4,5],[0,5])),(17,some ([0,3,4,7],[0])),(20,some ([0,3,4],[0])),(23,some ([0,3,4],[0])),(24,some ([0,3,4],[0])),(25,some ([],[0])),(26,some ([0,3,4],[0])),(27,some ([],[0]))],out:=[(12,some ([0,3,4,7],[0])),(14,some ([0,3,4,7,8,69],[0])),(16,some ([0,3,4,7,8],[0])),(18,some ([0,3,4,112],[0]))],aU:=[(5,([0,3,4],[0])),(9,([0,3,4,5,6],[0,5])),(14,([0,3,4,7,8],[0]))],frz:=[],sch:=[(16,.first 0 [1,2,3,5,6,23,24,29,30] (rg [4,5,7,23,25,29])<| .first 1 [2,3,5,6,23,24,29,30] (rg [4,5,7,23,25,29])<| .first 2 [3,5,6,23,24,29,30] (rg [4,5,7,23,25,29])<| .first 3 [5,6,23,24,29,30] (rg [4,5,7,23,25,29])<| .first 4 [5,6,23,24,29,30] (rg [7,23,25,29])<| .first 5 [6,23,24,29,30] (rg [7,23,25,29])<| .first 6 [23,24,29,30] (rg [7,23,25,29])<| .first 7 [8,9,10,21,22,23,24,29,30] (rg [11,21,25,29])<| .first 8 [9,10,21,22,23,24,29,30] (rg [11,21,25,29])<| .first 9 [10,21,22,23,24,29,30] (rg [11,21,25,29])<| .first 10 [21,22,23,24,29,30] (rg [11,21,25,29])<| .first 11 (rg [12,15,16,18,19,25,29,31]) [15,18,25,26,27,28]<| .first 12 (rg [13,15,16,18,19,25,29,31]) [15,18,25,26,27,28]<| .first 13 [14,16,17,19,20,21,22,23,24,29,30] [15,18,25,26,27,28]<| .first 14 (rg [16,18,19,25,29,31]) [15,18,25,26,27,28]<| .first 15 (rg [16,18,19,25,29,31]) [18,25,26,27,28]<| .first 16 [17,19,20,21,22,23,24,29,30] [18,25,26,27,28]<| .first 17 (rg [19,25,29,31]) [18,25,26,27,28]<| .first 18 (rg [19,25,29,31]) [25,26,27,28]<| .first 19 [20,21,22,23,24,29,30] [25,26,27,28]<| .first 20 [21,22,23,24,29,30] [25,26,27,28]<| .first 21 [22,23,24,29,30] [25,26,27,28]<| .first 22 [23,24,29,30] [25,26,27,28]<| .first 23 [24,29,30] [25,26,27,28]<| .first 24 [29,30] [25,26,27,28]<| .first 25 [26,27,28,29,30] []<| .first 26 [27,28,29,30] []<| .first 27 [28,29,30] []<| .first 28 [29,30] []<| .first 29 [30] []<| .fork 30 (.done) (.stop)),(18,.first 0 [1,2,3,8] [4,5,6,7]<| .first 1 [2,3,8] [4,5,6,7]<| .first 2 [3,8] [4,5,6,7]<| .first 3 [8] [4,5,6,7]<| .first 4 [5,6,7,8] []<| .first 5 [6,7,8] []<| .first 6 [7,8] []<| .first 7 [8] []<| .first 8 [] []<| .done)],shut:=[]}
noncomputable def Zm:cZ:={par:=[.cst false],inn:=[],out:=[],aU:=[],frz:=[],sch:=[],shut:=[]}
noncomputable def Zn:cZ:={par:=[.cst false],inn:=[(4,some ([0,3,4],[3])),(6,some ([3],[3]))],out:=[],aU:=[(3,([0,3,4],[3]))],frz:=[],sch:=[],shut:=[]}
noncomputable def Zo:cZ:={par:=[.cst false],inn:=[(4,some ([0,3,4],[3])),(6,some ([3],[3]))],out:=[],aU:=[(3,([0,3,4],[3]))],frz:=[],sch:=[],shut:=[]}
noncomputable def Zp:cZ:={par:=[.cst false],inn:=[(3,some ([1,2,3],[1,2,3])),(4,some ([1,2,3],[1,2,3])),(5,some ([2,3],[2,3]))],out:=[],aU:=[],frz:=[],sch:=[],shut:=[]}
noncomputable def Zq:cZ:={par:=[.cst false,.cst false,.cst false,.cst false],inn:=[],out:=[(1,some ([1,2,3,9],[])),(3,some ([18],[]))],aU:=[],frz:=[],sch:=[],shut:=[]}
noncomputable def Zr:cZ:={par:=[.cst false],inn:=[(2,some ([1,3],[1,3])),(5,some ([3,5,11,12,13],[3,5])),(7,some ([3],[3])),(14,some ([3,6,7,8,28,29,33,34],[3,6,8])),(16,some ([3,6,7,28,29,33,34],[3,6])),(17,some ([3,6,28,29],[3,6])),(18,some ([6],[6]))],out:=[(5,some ([3,11,12,13],[3])),(14,some ([3,6,7,8,28,29,33,34,47],[3,6,8])),(15,some ([3,6,7,28,29,33,34],[3,6]))],aU:=[(3,([3,11,12,13],[3])),(9,([3,6,28,29],[3,6])),(12,([3,6,7,28,29,33,34],[3,6]))],frz:=[2],sch:=[(5,.first 1 [2,3,4,5,6] [0]<| .first 2 [3,4,5,6] [0]<| .first 0 [5,6] [3,4]<| .fork 3 (.fork 4 (.fork 5 (.fork 6 (.done) (.stop)) (.stop)) (.stop)) (.stop)),(15,.first 0 [9,10] (rg [1,9])<| .first 1 [9,10] (rg [2,9])<| .first 2 [4,5,8,9,10] [3,6,7]<| .first 3 [4,5,8,9,10] [6,7]<| .first 6 [7,8,9,10] [4,5]<| .first 4 [5,8,9,10] [7]<| .first 5 [8,9,10] [7]<| .fork 7 (.fork 8 (.first 9 [10] []<| .fork 10 (.done) (.stop)) (.stop)) (.stop))],shut:=[]}
noncomputable def Zt:cZ:={par:=[.ptr [.gone,.imm,.imm],.mv,.cst false,.cst false],inn:=[(6,some ([0,1,2,3,10,11],[0,1,11])),(17,some ([0,1,2,3,10,11,12,13,38,39],[0,1,11])),(21,some ([0,1,2,3,10,11,12,38,39],[0,1,11])),(22,some ([0,1,2,3,10,11,16,17,38,39],[0,1,11,16])),(24,some ([0,1,2,3,10,11,38,39],[0,1,11])),(25,some ([],[0]))],out:=[(10,some ([0,1,2,3,10,11,12,38,39,51],[0,1,11])),(15,some ([0,1,2,3,10,11,12,13,38,39,58,59,60],[0,1,11]))],aU:=[(8,([0,1,2,3,10,11,38,39],[0,1,11])),(13,([0,1,2,3,10,11,12,13,38,39,58,59,60],[0,1,11]))],frz:=[],sch:=[(15,.first 0 (rg [1,29]) []<| .first 1 (rg [2,29]) []<| .first 2 (rg [4,29]) [3]<| .first 3 (rg [4,29]) []<| .first 4 (rg [5,29]) []<| .first 5 (rg [6,29]) []<| .first 6 [7,8,9,11,12,23,25,26,27,28] (rg [10,11,13,23,24,25])<| .first 7 [8,9,11,12,23,25,26,27,28] (rg [10,11,13,23,24,25])<| .first 8 [9,11,12,23,25,26,27,28] (rg [10,11,13,23,24,25])<| .first 9 [11,12,23,25,26,27,28] (rg [10,11,13,23,24,25])<| .first 10 [11,12,23,25,26,27,28] (rg [13,23,24,25])<| .first 11 [12,23,25,26,27,28] (rg [13,23,24,25])<| .first 12 [23,25,26,27,28] (rg [13,23,24,25])<| .first 13 (rg [14,17,21,24,25,29]) [17,18,19,20,24]<| .first 14 [15,16,21,22,23,25,26,27,28] [17,18,19,20,24]<| .first 15 [16,21,22,23,25,26,27,28] [17,18,19,20,24]<| .first 16 [21,22,23,25,26,27,28] [17,18,19,20,24]<| .first 17 (rg [19,24,25,29]) [18,24]<| .first 18 (rg [19,24,25,29]) [24]<| .first 19 (rg [20,24,25,29]) [24]<| .first 20 [21,22,23,25,26,27,28] [24]<| .first 21 [22,23,25,26,27,28] [24]<| .first 22 [23,25,26,27,28] [24]<| .first 24 [25,26,27,28] [23]<| .fork 23 (.first 25 [26,27,28] []<| .first 26 [27,28] []<| .first 27 [28] []<| .fork 28 (.done) (.stop)) (.stop))],shut:=[]}
noncomputable def Zu:cZ:={par:=[.cst false,.cst false],inn:=[(8,some ([],[]))],out:=[(6,some ([0,1,5,26],[]))],aU:=[(4,([0,1,5],[]))],frz:=[],sch:=[(6,.first 0 [2,3,8,9] [1,4,5,6,7]<| .first 1 [2,3,8,9] [4,5,6,7]<| .first 2 [3,8,9] [4,5,6,7]<| .first 3 [8,9] [4,5,6,7]<| .first 4 [6,7,8,9] [5]<| .first 5 [6,7,8,9] []<| .first 6 [7,8,9] []<| .first 7 [8,9] []<| .fork 8 (.first 9 [] []<| .done) (.stop))],shut:=[]}
noncomputable def Zv:cZ:={par:=[.cst false,.cst false],inn:=[(8,some ([],[]))],out:=[(6,some ([0,1,5,26],[]))],aU:=[(4,([0,1,5],[]))],frz:=[],sch:=[(6,.first 0 [2,3,8,9] [1,4,5,6,7]<| .first 1 [2,3,8,9] [4,5,6,7]<| .first 2 [3,8,9] [4,5,6,7]<| .first 3 [8,9] [4,5,6,7]<| .first 4 [6,7,8,9] [5]<| .first 5 [6,7,8,9] []<| .first 6 [7,8,9] []<| .first 7 [8,9] []<| .fork 8 (.first 9 [] []<| .done) (.stop))],shut:=[]}
noncomputable def Zw:cZ:={par:=[.cst false,.cst false],inn:=[],out:=[],aU:=[],frz:=[],sch:=[],shut:=[]}
noncomputable def Zx:cZ:={par:=[.row,.cst false],inn:=[(5,some ([0,1,5],[])),(7,some ([0,1,5],[])),(8,some ([1],[]))],out:=[],aU:=[(2,([0,1,5],[]))],frz:=[],sch:=[],shut:=[]}
noncomputable def Zy:cZ:={par:=[.ws,.cst false],inn:=[(5,some ([0,1,5],[])),(7,some ([1],[]))],out:=[],aU:=[(2,([0,1,5],[]))],frz:=[],sch:=[],shut:=[]}
noncomputable def Zz:cZ:={par:=[.cst false],inn:=[(7,some ([3],[]))],out:=[],aU:=[(4,([0,3],[]))],frz:=[],sch:=[],shut:=[]}
noncomputable def ZA:cZ:={par:=[.cst false,.cst false],inn:=[],out:=[],aU:=[],frz:=[],sch:=[],shut:=[]}
noncomputable def ZB:cZ:={par:=[.cut 4],inn:=[(11,some ([],[]))],out:=[(1,some ([0,32],[])),(6,some ([0,3,75],[])),(9,some ([0,3,95],[]))],aU:=[(4,([0,3],[]))],frz:=[],sch:=[(6,.first 0 (rg [1,4,5,34]) [4]<| .first 1 (rg [2,4,5,34]) [4]<| .first 2 (rg [3,4,5,34]) [4]<| .first 3 (rg [5,34]) [4]<| .first 4 (rg [5,34]) []<| .first 5 (rg [6,34]) []<| .first 6 (rg [7,34]) []<| .first 7 (rg [8,34]) []<| .fork 8 (.first 9 (rg [10,34]) []<| .first 10 (rg [11,34]) []<| .first 11 (rg [12,34]) []<| .first 12 (rg [13,34]) []<| .first 13 (rg [14,34]) []<| .first 14 [15,16,17,20,21,22,31,32,33] (rg [18,20,23,31])<| .first 15 [16,17,20,21,22,31,32,33] (rg [18,20,23,31])<| .first 16 [17,20,21,22,31,32,33] (rg [18,20,23,31])<| .first 17 [20,21,22,31,32,33] (rg [18,20,23,31])<| .first 18 [19,20,21,22,31,32,33] (rg [23,31])<| .first 19 [20,21,22,31,32,33] (rg [23,31])<| .first 20 [21,22,31,32,33] (rg [23,31])<| .first 21 [22,31,32,33] (rg [23,31])<| .first 22 [31,32,33] (rg [23,31])<| .first 23 (rg [24,27,28,34]) [27]<| .first 24 (rg [25,27,28,34]) [27]<| .first 25 [26,28,29,30,31,32,33] [27]<| .first 26 (rg [28,34]) [27]<| .first 27 (rg [28,34]) []<| .first 28 [29,30,31,32,33] []<| .first 29 [30,31,32,33] []<| .first 30 [31,32,33] []<| .first 31 [32,33] []<| .first 32 [33] []<| .first 33 [] []<| .done) (.stop))],shut:=[]}
noncomputable def ZC:cZ:={par:=[.cst false],inn:=[(6,some ([],[]))],out:=[],aU:=[(2,([0,3],[]))],frz:=[],sch:=[],shut:=[]}
noncomputable def ZE:cZ:={par:=[.cst false,.cst false,.cst false],inn:=[],out:=[(1,some ([6],[]))],aU:=[],frz:=[],sch:=[],shut:=[]}
noncomputable def ZF:cZ:={par:=[.cut 4],inn:=[(4,some ([0,3,4],[3])),(8,some ([0,3,4,5,6],[3,5])),(11,some ([3],[3]))],out:=[],aU:=[(3,([0,3,4],[3])),(7,([0,3,4,5,6],[3,5]))],frz:=[],sch:=[],shut:=[]}
noncomputable def ZG:cZ:={par:=[.cut 3,.cut 3],inn:=[],out:=[(1,some ([4],[]))],aU:=[],frz:=[],sch:=[(1,.first 0 [1,2,3,8,18,27,28,29,30] (rg [4,8,9,18,19,27])<| .first 1 [2,3,8,18,27,28,29,30] (rg [4,8,9,18,19,27])<| .first 2 [3,8,18,27,28,29,30] (rg [4,8,9,18,19,27])<| .first 3 [8,18,27,28,29,30] (rg [4,8,9,18,19,27])<| .first 4 [5,6,7,8,18,27,28,29,30] (rg [9,18,19,27])<| .first 5 [6,7,8,18,27,28,29,30] (rg [9,18,19,27])<| .first 6 [7,8,18,27,28,29,30] (rg [9,18,19,27])<| .first 7 [8,18,27,28,29,30] (rg [9,18,19,27])<| .first 8 [18,27,28,29,30] (rg [9,18,19,27])<| .first 9 [10,11,12,17,18,27,28,29,30] (rg [13,17,19,27])<| .first 10 [11,12,17,18,27,28,29,30] (rg [13,17,19,27])<| .first 11 [12,17,18,27,28,29,30] (rg [13,17,19,27])<| .first 12 [17,18,27,28,29,30] (rg [13,17,19,27])<| .first 13 (rg [14,19,27,31]) (rg [19,27])<| .first 14 (rg [15,19,27,31]) (rg [19,27])<| .first 15 [16,17,18,27,28,29,30] (rg [19,27])<| .first 16 [17,18,27,28,29,30] (rg [19,27])<| .first 17 [18,27,28,29,30] (rg [19,27])<| .first 19 [20,21,22,27,28,29,30] [18,23,24,25,26]<| .first 20 [21,22,27,28,29,30] [18,23,24,25,26]<| .first 21 [22,27,28,29,30] [18,23,24,25,26]<| .first 22 [27,28,29,30] [18,23,24,25,26]<| .first 23 (rg [24,31]) [18]<| .first 24 (rg [25,31]) [18]<| .first 25 [26,27,28,29,30] [18]<| .first 26 [27,28,29,30] [18]<| .fork 18 (.fork 27 (.first 28 [29,30] []<| .first 29 [30] []<| .fork 30 (.done) (.stop)) (.stop)) (.stop))],shut:=[]}
noncomputable def ZH:cZ:={par:=[.cst false,.cst false],inn:=[(10,some ([0,1,5,6,7],[5])),(11,some ([1,5,6],[5])),(13,some ([5],[5]))],out:=[(6,some ([0,1,5,6,7,24],[5]))],aU:=[(4,([0,1,5,6,7],[5]))],frz:=[],sch:=[],shut:=[]}
noncomputable def ZI:cZ:={par:=[.cst false,.cst false],inn:=[(6,some ([],[]))],out:=[],aU:=[(2,([0,1,5],[]))],frz:=[],sch:=[],shut:=[]}
noncomputable def ZJ:cZ:={par:=[.cst false],inn:=[(3,some ([1,2,3],[1,2,3])),(4,some ([2,3],[2,3]))],out:=[],aU:=[],frz:=[],sch:=[],shut:=[]}
noncomputable def ZK:cZ:={par:=[.cst false],inn:=[(3,some ([1,2,3],[1,2,3])),(4,some ([2,3],[2,3]))],out:=[],aU:=[],frz:=[],sch:=[],shut:=[]}
noncomputable def ZL:cZ:={par:=[.cst false],inn:=[(6,some ([1,3,4,32,33,34],[1,4])),(9,some ([1],[1])),(12,some ([1,5,6,63,64,65],[1,6])),(18,some ([],[]))],out:=[(1,some ([1,30],[1])),(6,some ([1,32,33,34,60],[1])),(12,some ([1,6,63,64,65,89],[1,6])),(15,some ([1,63,64,65,104],[1]))],aU:=[(4,([1,32,33,34],[1])),(10,([1,63,64,65],[1]))],frz:=[],sch:=[(6,.first 0 (rg [1,2,4,22]) [2,3]<| .first 1 (rg [4,22]) [2,3]<| .first 2 (rg [3,22]) []<| .first 3 (rg [4,22]) []<| .fork 4 (.first 5 (rg [6,22]) []<| .first 6 (rg [7,22]) []<| .first 7 (rg [8,9,11,22]) [9,10]<| .first 8 (rg [11,22]) [9,10]<| .first 9 (rg [10,22]) []<| .first 10 (rg [11,22]) []<| .fork 11 (.first 12 (rg [13,22]) []<| .first 13 (rg [14,22]) []<| .first 14 (rg [15,22]) []<| .first 15 [16,18,20,21] [17,19]<| .first 16 [18,20,21] [17,19]<| .first 17 [18,20,21] [19]<| .first 19 [20,21] [18]<| .fork 18 (.fork 20 (.first 21 [] []<| .done) (.stop)) (.stop)) (.stop)) (.stop)),(12,.first 0 (rg [1,20]) []<| .first 1 (rg [2,20]) []<| .fork 2 (.first 3 (rg [4,20]) []<| .first 4 (rg [5,20]) []<| .first 5 (rg [6,20]) []<| .first 6 (rg [7,20]) []<| .first 7 (rg [8,20]) []<| .first 8 [9,12,13,14,17,18,19] [10,11,15,16]<| .first 9 [12,13,14,17,18,19] [10,11,15,16]<| .first 10 [11,12,13,14,17,18,19] [15,16]<| .first 11 [12,13,14,17,18,19] [15,16]<| .first 12 [13,14,17,18,19] [15,16]<| .first 13 [14,17,18,19] [15,16]<| .first 14 [17,18,19] [15,16]<| .first 15 [16,17,18,19] []<| .first 16 [17,18,19] []<| .first 17 [18,19] []<| .first 18 [19] []<| .first 19 [] []<| .done) (.stop))],shut:=[]}
noncomputable def ZM:cZ:={par:=[.cst false],inn:=[],out:=[],aU:=[],frz:=[],sch:=[],shut:=[]}
noncomputable def ZN:cZ:={par:=[.cst false,.cst false,.cst false],inn:=[],out:=[(1,some ([6],[]))],aU:=[],frz:=[],sch:=[],shut:=[]}
noncomputable def ZO:cZ:={par:=[.cst false],inn:=[(8,some ([3],[3]))],out:=[],aU:=[(3,([0,3,8,9,10],[3]))],frz:=[],sch:=[],shut:=[]}
noncomputable def ZP:cZ:={par:=[.cst false,.cst false],inn:=[],out:=[],aU:=[],frz:=[],sch:=[],shut:=[]}
noncomputable def ZQ:cZ:={par:=[.cst false],inn:=[],out:=[(1,some ([4],[]))],aU:=[],frz:=[],sch:=[(1,.first 0 [2,3,5,6] [1,4]<| .first 1 [2,3,5,6] [4]<| .first 2 [3,5,6] [4]<| .first 3 [5,6] [4]<| .first 4 [5,6] []<| .fork 5 (.fork 6 (.done) (.stop)) (.stop))],shut:=[]}
noncomputable def ZR:cZ:={par:=[.cst false,.cst false],inn:=[],out:=[],aU:=[],frz:=[],sch:=[],shut:=[]}
noncomputable def ZT:cZ:={par:=[.cst false,.cst false],inn:=[],out:=[],aU:=[],frz:=[],sch:=[],shut:=[]}
noncomputable def ZU:cZ:={par:=[.cst false,.cst false],inn:=[],out:=[],aU:=[],frz:=[],sch:=[],shut:=[]}
noncomputable def ZV:cZ:={par:=[.cst false,.cst false],inn:=[],out:=[],aU:=[],frz:=[],sch:=[],shut:=[]}
noncomputable def ZW:cZ:={par:=[.cst false,.cst false],inn:=[],out:=[],aU:=[],frz:=[],sch:=[],shut:=[]}
noncomputable def ZX:cZ:={par:=[.cst false,.cst false],inn:=[],out:=[],aU:=[],frz:=[],sch:=[],shut:=[]}
noncomputable def ZY:cZ:={par:=[.cut 4],inn:=[(5,some ([0,3],[])),(13,some ([],[]))],out:=[(6,some ([0,3,49],[])),(11,some ([0,3,4,69],[]))],aU:=[(4,([0,3],[])),(9,([0,3,4],[]))],frz:=[],sch:=[(6,.first 0 (rg [1,4,5,8,12,30]) [4,8,9,10,11]<| .first 1 (rg [2,4,5,8,12,30]) [4,8,9,10,11]<| .first 2 (rg [3,4,5,8,12,30]) [4,8,9,10,11]<| .first 3 (rg [5,8,12,30]) [4,8,9,10,11]<| .first 4 (rg [5,8,12,30]) [8,9,10,11]<| .first 5 (rg [6,8,12,30]) [8,9,10,11]<| .first 6 (rg [7,8,12,30]) [8,9,10,11]<| .first 7 (rg [12,30]) [8,9,10,11]<| .first 8 (rg [9,30]) []<| .first 9 (rg [10,30]) []<| .first 10 (rg [11,30]) []<| .first 11 (rg [12,30]) []<| .fork 12 (.first 13 (rg [14,30]) []<| .first 14 (rg [15,30]) []<| .first 15 [16,17,18,20,21,22,27,28,29] [19,23,24,25,26]<| .first 16 [17,18,20,21,22,27,28,29] [19,23,24,25,26]<| .first 17 [18,20,21,22,27,28,29] [19,23,24,25,26]<| .first 18 [20,21,22,27,28,29] [19,23,24,25,26]<| .first 19 [20,21,22,27,28,29] [23,24,25,26]<| .first 20 [21,22,27,28,29] [23,24,25,26]<| .first 21 [22,27,28,29] [23,24,25,26]<| .first 22 [27,28,29] [23,24,25,26]<| .first 23 (rg [24,30]) []<| .first 24 [25,26,27,28,29] []<| .first 25 [26,27,28,29] []<| .first 26 [27,28,29] []<| .fork 27 (.first 28 [29] []<| .first 29 [] []<| .done) (.stop)) (.stop)),(11,.first 0 [1,2,3,5,6,14] (rg [4,5,7,14])<| .first 1 [2,3,5,6,14] (rg [4,5,7,14])<| .first 2 [3,5,6,14] (rg [4,5,7,14])<| .first 3 [5,6,14] (rg [4,5,7,14])<| .first 4 [5,6,14] (rg [7,14])<| .first 5 [6,14] (rg [7,14])<| .first 6 [14] (rg [7,14])<| .first 7 [8,9,10,12,13,14] [11]<| .first 8 [9,10,12,13,14] [11]<| .first 9 [10,12,13,14] [11]<| .first 10 [12,13,14] [11]<| .first 11 [12,13,14] []<| .first 12 [13,14] []<| .first 13 [14] []<| .first 14 [] []<| .done)],shut:=[]}
noncomputable def ZZ:cZ:={par:=[.cst false],inn:=[(8,some ([],[]))],out:=[(1,some ([0,16],[])),(6,some ([0,3,34],[]))],aU:=[(4,([0,3],[]))],frz:=[],sch:=[],shut:=[]}
noncomputable def Z4:cZ:={par:=[.cut 4,.cst false],inn:=[(8,some ([6],[6]))],out:=[(5,some ([0,1,6,7,26],[6])),(7,some ([0,1,6,7],[6]))],aU:=[(3,([0,1,6,7],[6]))],frz:=[],sch:=[(5,.first 0 [2,3,10,11] [1,4,5,6,7,8,9]<| .first 1 [2,3,10,11] [4,5,6,7,8,9]<| .first 2 [3,10,11] [4,5,6,7,8,9]<| .first 3 [10,11] [4,5,6,7,8,9]<| .first 4 (rg [5,12]) []<| .first 5 [6,7,8,9,10,11] []<| .first 6 [7,8,9,10,11] []<| .first 7 [8,9,10,11] []<| .first 8 [9,10,11] []<| .first 9 [10,11] []<| .fork 10 (.first 11 [] []<| .done) (.stop)),(7,.first 0 [12,13] (rg [1,12])<| .first 1 (rg [2,5,9,14]) [5,6,7,8]<| .first 2 [3,4,9,10,11,12,13] [5,6,7,8]<| .first 3 [4,9,10,11,12,13] [5,6,7,8]<| .first 4 [9,10,11,12,13] [5,6,7,8]<| .first 5 (rg [7,14]) [6]<| .first 6 (rg [7,14]) []<| .first 7 (rg [8,14]) []<| .first 8 [9,10,11,12,13] []<| .first 9 [10,11,12,13] []<| .first 10 [11,12,13] []<| .fork 11 (.fork 12 (.fork 13 (.done) (.stop)) (.stop)) (.stop))],shut:=[]}
noncomputable def Z8:cZ:={par:=[.cst false],inn:=[(9,some ([0,3],[])),(11,some ([0,3,5],[])),(13,some ([0,3,5,6],[6])),(14,some ([0,3,5,6,7],[6,7])),(15,some ([0,3,5,6,7,8],[6,7,8])),(22,some ([0],[]))],out:=[(2,some ([0,3,17],[])),(15,some ([0,3,5,6,7,66],[6,7])),(20,some ([0,3,5,6,7,9,95],[6,7]))],aU:=[(5,([0,3,4],[])),(10,([0,3,5],[])),(18,([0,3,5,6,7,9],[6,7]))],frz:=[],sch:=[(20,.first 0 (rg [1,2,3,4,5,22]) [2,4]<| .first 1 (rg [3,4,5,22]) [2,4]<| .first 2 (rg [3,4,5,22]) [4]<| .first 3 (rg [5,22]) [4]<| .first 4 (rg [5,22]) []<| .first 5 (rg [6,22]) []<| .first 6 (rg [7,22]) []<| .first 7 [20,21] (rg [8,20])<| .first 8 [20,21] (rg [9,20])<| .first 9 [11,12,20,21] (rg [10,11,13,20])<| .first 10 [11,12,20,21] (rg [13,20])<| .first 11 [12,20,21] (rg [13,20])<| .first 12 [20,21] (rg [13,20])<| .first 13 [18,19,20,21] [14,15,16,17]<| .first 14 [15,17,18,19,20,21] [16]<| .first 15 [17,18,19,20,21] [16]<| .first 16 [17,18,19,20,21] []<| .first 17 [18,19,20,21] []<| .first 18 [19,20,21] []<| .first 19 [20,21] []<| .fork 20 (.first 21 [] []<| .done) (.stop))],shut:=[]}
noncomputable def aab:cZ:={par:=[.cut 3],inn:=[],out:=[(2,some ([0,3,19],[])),(5,some ([2],[]))],aU:=[],frz:=[],sch:=[],shut:=[]}
noncomputable def aac:cZ:={par:=[.cut 4,.cst false],inn:=[(5,some ([0,1,5,6,7],[5])),(11,some ([0,1,5,6,7,8],[5])),(13,some ([5],[5]))],out:=[(10,some ([0,1,5,6,7,8,9],[5])),(11,some ([0,1,5,6,7,63],[5]))],aU:=[(4,([0,1,5,6,7],[5])),(8,([0,1,5,6,7,8,9],[5]))],frz:=[],sch:=[(10,.first 0 (rg [1,25]) []<| .first 1 (rg [2,25]) []<| .first 2 [3,4,5,7,8,9,22,23,24] (rg [6,7,10,22])<| .first 3 [4,5,7,8,9,22,23,24] (rg [6,7,10,22])<| .first 4 [5,7,8,9,22,23,24] (rg [6,7,10,22])<| .first 5 [7,8,9,22,23,24] (rg [6,7,10,22])<| .first 6 [7,8,9,22,23,24] (rg [10,22])<| .first 7 [8,9,22,23,24] (rg [10,22])<| .first 8 [9,22,23,24] (rg [10,22])<| .first 9 [22,23,24] (rg [10,22])<| .first 10 [12,13,22,23,24] (rg [11,12,14,22])<| .first 11 [12,13,22,23,24] (rg [14,22])<| .first 12 [13,22,23,24] (rg [14,22])<| .first 13 [22,23,24] (rg [14,22])<| .first 14 [20,21,22,23,24] [15,16,17,18,19]<| .first 15 [16,19,20,21,22,23,24] [17,18]<| .first 16 (rg [19,25]) [17,18]<| .first 17 (rg [18,25]) []<| .first 18 (rg [19,25]) []<| .first 19 [20,21,22,23,24] []<| .first 20 [21,22,23,24] []<| .first 21 [22,23,24] []<| .fork 22 (.first 23 [24] []<| .fork 24 (.done) (.stop)) (.stop))],shut:=[]}
noncomputable def aad:cZ:={par:=[.cst false,.cst false],inn:=[],out:=[],aU:=[],frz:=[],sch:=[],shut:=[]}
noncomputable def aae:cZ:={par:=[.cst false,.cst false],inn:=[],out:=[],aU:=[],frz:=[],sch:=[],shut:=[]}
noncomputable def aaf:cZ:={par:=[.cst false],inn:=[(4,some ([0,3,4],[3])),(6,some ([3],[3]))],out:=[],aU:=[(3,([0,3,4],[3]))],frz:=[],sch:=[],shut:=[]}
noncomputable def aag:cZ:={par:=[.cst false,.cst false],inn:=[],out:=[],aU:=[],frz:=[],sch:=[],shut:=[]}
noncomputable def aah:cZ:={par:=[.cst false],inn:=[(8,some ([],[]))],out:=[(1,some ([0,21],[])),(6,some ([0,3,49],[]))],aU:=[(4,([0,3],[]))],frz:=[],sch:=[],shut:=[]}
noncomputable def aai:cZ:={par:=[.cst false,.cst false],inn:=[(9,some ([6],[6]))],out:=[],aU:=[(3,([0,6,10,11,12],[6]))],frz:=[],sch:=[],shut:=[]}
noncomputable def aaj:cZ:={par:=[.cst false],inn:=[(15,some ([0,3,23,24],[])),(16,some ([0],[]))],out:=[(2,some ([0,3,21],[])),(7,some ([0,3,4,5,6,7,23,24],[5,6,7])),(8,some ([0,3,4,5,6,23,24,59],[5,6])),(13,some ([0,3,4,5,6,8,23,24,88],[5,6]))],aU:=[(5,([0,3,23,24],[])),(11,([0,3,4,5,6,8,23,24],[5,6]))],frz:=[],sch:=[(7,.first 0 [2,3,21,22,23] (rg [1,2,4,21])<| .first 1 [2,3,21,22,23] (rg [4,21])<| .first 2 [3,21,22,23] (rg [4,21])<| .first 3 [21,22,23] (rg [4,21])<| .first 4 [9,10,22,23] (rg [5,9,11,22])<| .first 5 [6,8,9,10,22,23] (rg [7,8,11,22])<| .first 6 [8,9,10,22,23] (rg [7,8,11,22])<| .first 7 [8,9,10,22,23] (rg [11,22])<| .first 8 [9,10,22,23] (rg [11,22])<| .first 9 [10,22,23] (rg [11,22])<| .first 10 [22,23] (rg [11,22])<| .first 11 [16,17,23] (rg [12,16,18,23])<| .first 12 [13,15,16,17,23] [14,18,19,20,21,22]<| .first 13 [15,16,17,23] [14,18,19,20,21,22]<| .first 14 [15,16,17,23] [18,19,20,21,22]<| .first 15 [16,17,23] [18,19,20,21,22]<| .first 16 [17,23] [18,19,20,21,22]<| .first 17 [23] [18,19,20,21,22]<| .fork 18 (.fork 19 (.fork 20 (.fork 21 (.fork 22 (.fork 23 (.done) (.stop)) (.stop)) (.stop)) (.stop)) (.fork 20 (.fork 19 (.fork 21 (.fork 22 (.fork 23 (.done) (.stop)) (.stop)) (.stop)) (.stop)) (.stop))) (.fork 19 (.fork 18 (.fork 20 (.fork 21 (.fork 22 (.fork 23 (.done) (.stop)) (.stop)) (.stop)) (.stop)) (.fork 20 (.fork 18 (.fork 21 (.fork 22 (.fork 23 (.done) (.stop)) (.stop)) (.stop)) (.stop)) (.stop))) (.fork 20 (.fork 18 (.fork 19 (.fork 21 (.fork 22 (.fork 23 (.done) (.stop)) (.stop)) (.stop)) (.stop)) (.fork 19 (.fork 18 (.fork 21 (.fork 22 (.fork 23 (.done) (.stop)) (.stop)) (.stop)) (.stop)) (.stop))) (.stop)))),(13,.first 0 (rg [1,2,3,4,5,22]) [2,4]<| .first 1 (rg [3,4,5,22]) [2,4]<| .first 2 (rg [3,4,5,22]) [4]<| .first 3 (rg [5,22]) [4]<| .first 4 (rg [5,22]) []<| .first 5 (rg [6,22]) []<| .first 6 (rg [7,22]) []<| .first 7 [20,21] (rg [8,20])<| .first 8 [20,21] (rg [9,20])<| .first 9 [11,12,20,21] (rg [10,11,13,20])<| .first 10 [11,12,20,21] (rg [13,20])<| .first 11 [12,20,21] (rg [13,20])<| .first 12 [20,21] (rg [13,20])<| .first 13 [18,19,20,21] [14,15,16,17]<| .first 14 [15,17,18,19,20,21] [16]<| .first 15 [17,18,19,20,21] [16]<| .first 16 [17,18,19,20,21] []<| .first 17 [18,19,20,21] []<| .first 18 [19,20,21] []<| .first 19 [20,21] []<| .fork 20 (.first 21 [] []<| .done) (.stop))],shut:=[]}
noncomputable def aak:cZ:={par:=[.cst false,.cst false],inn:=[],out:=[],aU:=[],frz:=[],sch:=[],shut:=[]}
noncomputable def aal:cZ:={par:=[.cst false],inn:=[],out:=[],aU:=[],frz:=[],sch:=[],shut:=[]}
noncomputable def aam:cZ:={par:=[.cst false],inn:=[],out:=[(2,some ([2],[]))],aU:=[],frz:=[],sch:=[],shut:=[]}
noncomputable def aan:cZ:={par:=[.cst false,.cst false],inn:=[(7,some ([],[]))],out:=[],aU:=[(2,([0,1,7,8],[]))],frz:=[],sch:=[],shut:=[]}
noncomputable def aao:cZ:={par:=[.cst false,.cst false],inn:=[(7,some ([],[]))],out:=[(4,some ([0,3,5,7,8,16],[3]))],aU:=[(2,([0,3,7,8],[3]))],frz:=[],sch:=[(4,.first 0 [5] [1,2,3,4]<| .first 1 [3,4,5] [2]<| .first 2 [3,4,5] []<| .first 3 [4,5] []<| .first 4 [5] []<| .first 5 [] []<| .done)],shut:=[]}
noncomputable def aap:cZ:={par:=[.cst false,.cst false],inn:=[(7,some ([],[]))],out:=[],aU:=[(2,([0,1,7,8],[]))],frz:=[],sch:=[],shut:=[]}
noncomputable def aaq:cZ:={par:=[.cst false,.cst false],inn:=[],out:=[(1,some ([0,1,14],[]))],aU:=[],frz:=[],sch:=[],shut:=[]}
noncomputable def aar:cZ:={par:=[.cst false],inn:=[],out:=[(1,some ([2],[]))],aU:=[],frz:=[],sch:=[],shut:=[]}
noncomputable def aas:cZ:={par:=[.cst false],inn:=[],out:=[(1,some ([2],[]))],aU:=[],frz:=[],sch:=[],shut:=[]}
noncomputable def aat:cZ:={par:=[.cst false],inn:=[],out:=[(1,some ([2],[]))],aU:=[],frz:=[],sch:=[],shut:=[]}
noncomputable def aau:cZ:={par:=[.cst false,.cst false,.cst false],inn:=[],out:=[(1,some ([6],[]))],aU:=[],frz:=[],sch:=[(1,.first 0 (rg [3,36]) [1,2]<| .first 1 (rg [3,36]) [2]<| .first 2 (rg [3,36]) []<| .fork 3 (.first 4 (rg [5,36]) []<| .first 5 (rg [6,36]) []<| .first 6 (rg [7,8,18,36]) (rg [8,18])<| .first 7 (rg [18,36]) (rg [8,18])<| .first 8 (rg [9,10,12,13,17,36]) [10,11,13,14,15,16]<| .first 9 (rg [12,13,17,36]) [10,11,13,14,15,16]<| .first 10 (rg [11,13,17,36]) [13,14,15,16]<| .first 11 (rg [12,13,17,36]) [13,14,15,16]<| .first 13 (rg [14,15,17,36]) [12,15,16]<| .first 14 (rg [17,36]) [12,15,16]<| .first 15 (rg [16,36]) [12]<| .first 16 (rg [17,36]) [12]<| .fork 12 (.fork 17 (.fork 18 (.first 19 (rg [20,36]) []<| .first 20 (rg [21,36]) []<| .first 21 [22,33,34,35] (rg [23,33])<| .first 22 [33,34,35] (rg [23,33])<| .first 23 [24,27,32,33,34,35] [25,26,28,29,30,31]<| .first 24 [27,32,33,34,35] [25,26,28,29,30,31]<| .first 25 [26,27,32,33,34,35] [28,29,30,31]<| .first 26 [27,32,33,34,35] [28,29,30,31]<| .first 28 [29,32,33,34,35] [27,30,31]<| .first 29 [32,33,34,35] [27,30,31]<| .first 30 [31,32,33,34,35] [27]<| .first 31 [32,33,34,35] [27]<| .fork 27 (.fork 32 (.fork 33 (.first 34 [35] []<| .fork 35 (.done) (.stop)) (.stop)) (.stop)) (.stop)) (.stop)) (.stop)) (.stop)) (.stop))],shut:=[]}
noncomputable def aav:cZ:={par:=[.cst false,.cst false,.cst false,.cst false],inn:=[],out:=[(1,some ([8],[]))],aU:=[],frz:=[],sch:=[],shut:=[]}
noncomputable def aaw:cZ:={par:=[.cst false],inn:=[(6,some ([0,3,4,5],[5])),(7,some ([3],[]))],out:=[(6,some ([0,3,4],[]))],aU:=[(3,([0,3,4],[]))],frz:=[],sch:=[(6,.first 0 [18,19] (rg [1,18])<| .first 1 [3,4,5,8,17,18,19] (rg [2,3,6,8,9,17])<| .first 2 [3,4,5,8,17,18,19] (rg [6,8,9,17])<| .first 3 [4,5,8,17,18,19] (rg [6,8,9,17])<| .first 4 [5,8,17,18,19] (rg [6,8,9,17])<| .first 5 [8,17,18,19] (rg [6,8,9,17])<| .first 6 [7,8,17,18,19] (rg [9,17])<| .first 7 [8,17,18,19] (rg [9,17])<| .first 8 [17,18,19] (rg [9,17])<| .first 9 [11,12,13,16,17,18,19] [10,14,15]<| .first 10 [11,12,13,16,17,18,19] [14,15]<| .first 11 [12,13,16,17,18,19] [14,15]<| .first 12 [13,16,17,18,19] [14,15]<| .first 13 [16,17,18,19] [14,15]<| .first 14 [15,16,17,18,19] []<| .first 15 [16,17,18,19] []<| .first 16 [17,18,19] []<| .first 17 [18,19] []<| .first 18 [19] []<| .fork 19 (.done) (.stop))],shut:=[]}
noncomputable def aax:cZ:={par:=[.cst false],inn:=[(7,some ([],[]))],out:=[],aU:=[(3,([0,3,4],[3]))],frz:=[],sch:=[],shut:=[]}
noncomputable def aay:cZ:={par:=[],inn:=[],out:=[],aU:=[],frz:=[],sch:=[],shut:=[]}
noncomputable def aaz:cZ:={par:=[.cst false],inn:=[],out:=[],aU:=[],frz:=[],sch:=[],shut:=[]}
noncomputable def aaA:cZ:={par:=[.cst false,.cst false,.cst false],inn:=[(8,some ([],[]))],out:=[(6,some ([0,1,2,7,45],[]))],aU:=[(2,([0,1,2,7],[]))],frz:=[],sch:=[],shut:=[]}
noncomputable def aaB:cZ:={par:=[.cst false,.cst false],inn:=[],out:=[],aU:=[],frz:=[],sch:=[],shut:=[]}
noncomputable def Uj:cZ:={par:=[.cst false,.cst false],inn:=[(7,some ([],[]))],out:=[(4,some ([0,3,5,7,8,16],[3]))],aU:=[(2,([0,3,7,8],[3]))],frz:=[],sch:=[(4,.first 0 [5] [1,2,3,4]<| .first 1 [3,4,5] [2]<| .first 2 [3,4,5] []<| .first 3 [4,5] []<| .first 4 [5] []<| .first 5 [] []<| .done)],shut:=[]}
noncomputable def Uk:cZ:={par:=[.cst false],inn:=[(4,some ([4,5,6,7],[4])),(7,some ([],[]))],out:=[],aU:=[(2,([5,6,7],[]))],frz:=[],sch:=[],shut:=[]}
noncomputable def Ul:cZ:={par:=[.cst false,.cst false,.cst false],inn:=[],out:=[(1,some ([6],[]))],aU:=[],frz:=[],sch:=[],shut:=[]}
noncomputable def Um:cZ:={par:=[.cst false,.cst false,.cst false,.cst false],inn:=[],out:=[(1,some ([8],[]))],aU:=[],frz:=[],sch:=[],shut:=[]}
noncomputable def Un:cZ:={par:=[.cst false],inn:=[(5,some ([0,3,4,5,7,8,9],[5])),(6,some ([0,3,5,6,7,8,9],[5,6])),(8,some ([3],[]))],out:=[],aU:=[(3,([0,3,7,8,9],[]))],frz:=[],sch:=[],shut:=[]}
noncomputable def Uo:cZ:={par:=[.cst false,.cst false],inn:=[(7,some ([],[]))],out:=[],aU:=[(2,([0,1,7,8],[]))],frz:=[],sch:=[],shut:=[]}
noncomputable def Ur:cZ:={par:=[.cst false],inn:=[],out:=[],aU:=[],frz:=[],sch:=[],shut:=[]}
noncomputable def Us:cZ:={par:=[.cst false,.cst false,.cst false],inn:=[],out:=[],aU:=[],frz:=[],sch:=[],shut:=[]}
noncomputable def Ut:cZ:={par:=[.cst false,.cst false,.cst false,.cst false],inn:=[],out:=[(1,some ([8],[]))],aU:=[],frz:=[],sch:=[(1,.first 0 (rg [3,4,7,23]) [1,2,4,5,6]<| .first 1 (rg [3,4,7,23]) [2,4,5,6]<| .first 2 (rg [3,4,7,23]) [4,5,6]<| .first 4 (rg [7,23]) [3,5,6]<| .first 5 (rg [7,23]) [3,6]<| .first 6 (rg [7,23]) [3]<| .fork 3 (.fork 7 (.first 8 (rg [9,23]) []<| .first 9 (rg [10,23]) []<| .first 10 (rg [11,23]) []<| .first 11 [14,18,19,20,21,22] [12,13,15,16,17]<| .first 12 [14,18,19,20,21,22] [13,15,16,17]<| .first 13 [14,18,19,20,21,22] [15,16,17]<| .first 15 [18,19,20,21,22] [14,16,17]<| .first 16 [18,19,20,21,22] [14,17]<| .first 17 [18,19,20,21,22] [14]<| .fork 14 (.fork 18 (.first 19 [20,21,22] []<| .first 20 [21,22] []<| .first 21 [22] []<| .fork 22 (.done) (.stop)) (.stop)) (.stop)) (.stop)) (.stop))],shut:=[]}
noncomputable def Uu:cZ:={par:=[],inn:=[],out:=[],aU:=[],frz:=[],sch:=[],shut:=[]}
noncomputable def Uw:cZ:={par:=[.cst false],inn:=[],out:=[(1,some ([2],[]))],aU:=[],frz:=[],sch:=[],shut:=[]}
noncomputable def Ux:cZ:={par:=[.cst false,.cst false,.cst false],inn:=[],out:=[],aU:=[],frz:=[],sch:=[],shut:=[]}
noncomputable def Uy:cZ:={par:=[.cst false,.cst false,.cst false,.cst false],inn:=[],out:=[(1,some ([8],[]))],aU:=[],frz:=[],sch:=[(1,.first 0 (rg [3,4,7,23]) [1,2,4,5,6]<| .first 1 (rg [3,4,7,23]) [2,4,5,6]<| .first 2 (rg [3,4,7,23]) [4,5,6]<| .first 4 (rg [7,23]) [3,5,6]<| .first 5 (rg [7,23]) [3,6]<| .first 6 (rg [7,23]) [3]<| .fork 3 (.fork 7 (.first 8 (rg [9,23]) []<| .first 9 (rg [10,23]) []<| .first 10 (rg [11,23]) []<| .first 11 [14,18,19,20,21,22] [12,13,15,16,17]<| .first 12 [14,18,19,20,21,22] [13,15,16,17]<| .first 13 [14,18,19,20,21,22] [15,16,17]<| .first 15 [18,19,20,21,22] [14,16,17]<| .first 16 [18,19,20,21,22] [14,17]<| .first 17 [18,19,20,21,22] [14]<| .fork 14 (.fork 18 (.first 19 [20,21,22] []<| .first 20 [21,22] []<| .first 21 [22] []<| .fork 22 (.done) (.stop)) (.stop)) (.stop)) (.stop)) (.stop))],shut:=[]}
noncomputable def Uz:cZ:={par:=[.cst false],inn:=[],out:=[],aU:=[],frz:=[],sch:=[],shut:=[]}
noncomputable def UA:cZ:={par:=[.cst false,.cst false,.cst false],inn:=[],out:=[],aU:=[],frz:=[],sch:=[],shut:=[]}
noncomputable def fcs:List (Nat×cZ):=[(5,fc5),(6,fc6),(7,fc7),(9,fc9),(10,Y5),(12,Y6),(13,Y7),(14,Y8),(15,Y9),(16,Za),(17,Zb),(18,Zc),(21,Zd),(22,Ze),(23,Zg),(24,Zh),(25,Zi),(26,Zj),(27,Zk),(28,Zl),(29,Zm),(30,Zn),(31,Zo),(32,Zp),(33,Zq),(34,Zr),(35,Zt),(36,Zu),(37,Zv),(38,Zw),(39,Zx),(40,Zy),(41,Zz),(42,ZA),(43,ZB),(44,ZC),(45,ZE),(46,ZF),(47,ZG),(48,ZH),(49,ZI),(50,ZJ),(51,ZK),(52,ZL),(53,ZM),(54,ZN),(55,ZO),(56,ZP),(57,ZQ),(58,ZR),(62,ZT),(63,ZU),(64,ZV),(65,ZW),(66,ZX),(67,ZY),(68,ZZ),(69,Z4),(70,Z8),(71,aab),(72,aac),(73,aad),(74,aae),(75,aaf),(76,aag),(77,aah),(78,aai),(79,aaj),(80,aak),(81,aal),(82,aam),(83,aan),(84,aao),(87,aap),(88,aaq),(89,aar),(90,aas),(91,aat),(92,aau),(93,aav),(94,aaw),(95,aax),(96,aay),(97,aaz),(98,aaA),(99,aaB),(100,Uj),(101,Uk),(102,Ul),(103,Um),(104,Un),(105,Uo),(106,Ur),(118,Us),(119,Ut),(120,Uu),(121,Uw),(122,Ux),(123,Uy),(124,Uz),(131,UA),(60,{par:=[.row],inn:=[],out:=[],aU:=[],frz:=[],sch:=[],shut:=[]}),(61,{par:=[.mv],inn:=[],out:=[],aU:=[],frz:=[],sch:=[],shut:=[]})]
noncomputable def ons:List (Nat×Bool):=[(5,true),(6,true),(7,true),(9,true),(10,true),(12,true),(13,true),(14,true),(15,true),(16,true),(17,true),(18,true),(21,true),(22,true),(23,true),(24,true),(25,true),(26,true),(27,true),(28,true),(29,true),(30,true),(31,true),(32,true),(33,true),(34,true),(35,true),(36,true),(37,true),(38,true),(39,true),(40,true),(41,true),(42,true),(43,true),(44,true),(45,true),(46,true),(47,true),(48,true),(49,true),(50,true),(51,true),(52,true),(53,true),(54,true),(55,true),(56,true),(57,true),(58,true),(62,true),(63,true),(64,true),(65,true),(66,true),(67,true),(68,true),(69,true),(70,true),(71,true),(72,true),(73,true),(74,true),(75,true),(76,true),(77,true),(78,true),(79,true),(80,true),(81,true),(82,true),(83,true),(84,true),(87,true),(88,true),(89,true),(90,true),(91,true),(92,true),(93,true),(94,true),(95,true),(96,true),(97,true),(98,true),(99,true),(100,true),(101,true),(102,true),(103,true),(104,true),(105,true),(106,true),(118,true),(119,true),(120,true),(121,true),(122,true),(123,true),(124,true),(131,true)]
noncomputable def cfg:Cfg:=Xl ons fcs [(59,some (Ap 1 8)),(60,some Gn),(61,some yL)] [(61,26),(112,35),(112,1000019),(112,2000019)] [] [(9,42),(9,43),(9,46)]
theorem c5:cfg.fc 5=fc5:=rfl
instance C5:Cf cfg 5 fc5:=⟨c5⟩
instance Z5:Zf cfg 5:=⟨rfl⟩
theorem z5:(cfg.fc 5).frz=[]:=rfl
theorem c6:cfg.fc 6=fc6:=rfl
instance C6:Cf cfg 6 fc6:=⟨c6⟩
instance Z6:Zf cfg 6:=⟨rfl⟩
theorem c7:cfg.fc 7=fc7:=rfl
instance C7:Cf cfg 7 fc7:=⟨c7⟩
instance Z7:Zf cfg 7:=⟨rfl⟩
theorem c9:cfg.fc 9=fc9:=rfl
instance C9:Cf cfg 9 fc9:=⟨c9⟩
instance Z9:Zf cfg 9:=⟨rfl⟩
theorem c10:cfg.fc 10=Y5:=rfl
instance C10:Cf cfg 10 Y5:=⟨c10⟩
instance Z10:Zf cfg 10:=⟨rfl⟩
theorem c12:cfg.fc 12=Y6:=rfl
instance C12:Cf cfg 12 Y6:=⟨c12⟩
instance Z12:Zf cfg 12:=⟨rfl⟩
theorem c13:cfg.fc 13=Y7:=rfl
instance C13:Cf cfg 13 Y7:=⟨c13⟩
instance Z13:Zf cfg 13:=⟨rfl⟩
theorem c14:cfg.fc 14=Y8:=rfl
instance C14:Cf cfg 14 Y8:=⟨c14⟩
instance Z14:Zf cfg 14:=⟨rfl⟩
theorem z14:(cfg.fc 14).frz=[]:=rfl
theorem c15:cfg.fc 15=Y9:=rfl
instance C15:Cf cfg 15 Y9:=⟨c15⟩
instance Z15:Zf cfg 15:=⟨rfl⟩
theorem c16:cfg.fc 16=Za:=rfl
instance C16:Cf cfg 16 Za:=⟨c16⟩
instance Z16:Zf cfg 16:=⟨rfl⟩
theorem c17:cfg.fc 17=Zb:=rfl
instance C17:Cf cfg 17 Zb:=⟨c17⟩
instance Z17:Zf cfg 17:=⟨rfl⟩
theorem c18:cfg.fc 18=Zc:=rfl
instance C18:Cf cfg 18 Zc:=⟨c18⟩
instance Z18:Zf cfg 18:=⟨rfl⟩
theorem c21:cfg.fc 21=Zd:=rfl
instance C21:Cf cfg 21 Zd:=⟨c21⟩
instance Z21:Zf cfg 21:=⟨rfl⟩
theorem c22:cfg.fc 22=Ze:=rfl
instance C22:Cf cfg 22 Ze:=⟨c22⟩
instance Z22:Zf cfg 22:=⟨rfl⟩
theorem z22:(cfg.fc 22).frz=[]:=rfl
theorem c23:cfg.fc 23=Zg:=rfl
instance C23:Cf cfg 23 Zg:=⟨c23⟩
instance Z23:Zf cfg 23:=⟨rfl⟩
theorem z23:(cfg.fc 23).frz=[]:=rfl
theorem c24:cfg.fc 24=Zh:=rfl
instance C24:Cf cfg 24 Zh:=⟨c24⟩
instance Z24:Zf cfg 24:=⟨rfl⟩
theorem c25:cfg.fc 25=Zi:=rfl
instance C25:Cf cfg 25 Zi:=⟨c25⟩
instance Z25:Zf cfg 25:=⟨rfl⟩
theorem c26:cfg.fc 26=Zj:=rfl
instance C26:Cf cfg 26 Zj:=⟨c26⟩
instance Z26:Zf cfg 26:=⟨rfl⟩
theorem c27:cfg.fc 27=Zk:=rfl
instance C27:Cf cfg 27 Zk:=⟨c27⟩
instance Z27:Zf cfg 27:=⟨rfl⟩
theorem z27:(cfg.fc 27).frz=[]:=rfl
theorem c28:cfg.fc 28=Zl:=rfl
instance C28:Cf cfg 28 Zl:=⟨c28⟩
instance Z28:Zf cfg 28:=⟨rfl⟩
theorem z28:(cfg.fc 28).frz=[]:=rfl
theorem c29:cfg.fc 29=Zm:=rfl
instance C29:Cf cfg 29 Zm:=⟨c29⟩
instance Z29:Zf cfg 29:=⟨rfl⟩
theorem c30:cfg.fc 30=Zn:=rfl
instance C30:Cf cfg 30 Zn:=⟨c30⟩
instance Z30:Zf cfg 30:=⟨rfl⟩
theorem c31:cfg.fc 31=Zo:=rfl
instance C31:Cf cfg 31 Zo:=⟨c31⟩
instance Z31:Zf cfg 31:=⟨rfl⟩
theorem c32:cfg.fc 32=Zp:=rfl
instance C32:Cf cfg 32 Zp:=⟨c32⟩
instance Z32:Zf cfg 32:=⟨rfl⟩
theorem c33:cfg.fc 33=Zq:=rfl
instance C33:Cf cfg 33 Zq:=⟨c33⟩
instance Z33:Zf cfg 33:=⟨rfl⟩
theorem c34:cfg.fc 34=Zr:=rfl
instance C34:Cf cfg 34 Zr:=⟨c34⟩
theorem z34:(cfg.fc 34).frz=[2]:=rfl
theorem c35:cfg.fc 35=Zt:=rfl
instance C35:Cf cfg 35 Zt:=⟨c35⟩
instance Z35:Zf cfg 35:=⟨rfl⟩
theorem z35:(cfg.fc 35).frz=[]:=rfl
theorem c36:cfg.fc 36=Zu:=rfl
instance C36:Cf cfg 36 Zu:=⟨c36⟩
instance Z36:Zf cfg 36:=⟨rfl⟩
theorem z36:(cfg.fc 36).frz=[]:=rfl
theorem c37:cfg.fc 37=Zv:=rfl
instance C37:Cf cfg 37 Zv:=⟨c37⟩
instance Z37:Zf cfg 37:=⟨rfl⟩
theorem z37:(cfg.fc 37).frz=[]:=rfl
theorem c38:cfg.fc 38=Zw:=rfl
instance C38:Cf cfg 38 Zw:=⟨c38⟩
instance Z38:Zf cfg 38:=⟨rfl⟩
theorem c39:cfg.fc 39=Zx:=rfl
instance C39:Cf cfg 39 Zx:=⟨c39⟩
instance Z39:Zf cfg 39:=⟨rfl⟩
theorem c40:cfg.fc 40=Zy:=rfl
instance C40:Cf cfg 40 Zy:=⟨c40⟩
instance Z40:Zf cfg 40:=⟨rfl⟩
theorem c41:cfg.fc 41=Zz:=rfl
instance C41:Cf cfg 41 Zz:=⟨c41⟩
instance Z41:Zf cfg 41:=⟨rfl⟩
theorem c42:cfg.fc 42=ZA:=rfl
instance C42:Cf cfg 42 ZA:=⟨c42⟩
instance Z42:Zf cfg 42:=⟨rfl⟩
theorem c43:cfg.fc 43=ZB:=rfl
instance C43:Cf cfg 43 ZB:=⟨c43⟩
instance Z43:Zf cfg 43:=⟨rfl⟩
theorem z43:(cfg.fc 43).frz=[]:=rfl
theorem c44:cfg.fc 44=ZC:=rfl
instance C44:Cf cfg 44 ZC:=⟨c44⟩
instance Z44:Zf cfg 44:=⟨rfl⟩
theorem c45:cfg.fc 45=ZE:=rfl
instance C45:Cf cfg 45 ZE:=⟨c45⟩
instance Z45:Zf cfg 45:=⟨rfl⟩
theorem c46:cfg.fc 46=ZF:=rfl
instance C46:Cf cfg 46 ZF:=⟨c46⟩
instance Z46:Zf cfg 46:=⟨rfl⟩
theorem c47:cfg.fc 47=ZG:=rfl
instance C47:Cf cfg 47 ZG:=⟨c47⟩
instance Z47:Zf cfg 47:=⟨rfl⟩
theorem z47:(cfg.fc 47).frz=[]:=rfl
theorem c48:cfg.fc 48=ZH:=rfl
instance C48:Cf cfg 48 ZH:=⟨c48⟩
instance Z48:Zf cfg 48:=⟨rfl⟩
theorem c49:cfg.fc 49=ZI:=rfl
instance C49:Cf cfg 49 ZI:=⟨c49⟩
instance Z49:Zf cfg 49:=⟨rfl⟩
theorem c50:cfg.fc 50=ZJ:=rfl
instance C50:Cf cfg 50 ZJ:=⟨c50⟩
instance Z50:Zf cfg 50:=⟨rfl⟩
theorem c51:cfg.fc 51=ZK:=rfl
instance C51:Cf cfg 51 ZK:=⟨c51⟩
instance Z51:Zf cfg 51:=⟨rfl⟩
theorem c52:cfg.fc 52=ZL:=rfl
instance C52:Cf cfg 52 ZL:=⟨c52⟩
instance Z52:Zf cfg 52:=⟨rfl⟩
theorem z52:(cfg.fc 52).frz=[]:=rfl
theorem c53:cfg.fc 53=ZM:=rfl
instance C53:Cf cfg 53 ZM:=⟨c53⟩
instance Z53:Zf cfg 53:=⟨rfl⟩
theorem c54:cfg.fc 54=ZN:=rfl
instance C54:Cf cfg 54 ZN:=⟨c54⟩
instance Z54:Zf cfg 54:=⟨rfl⟩
theorem c55:cfg.fc 55=ZO:=rfl
instance C55:Cf cfg 55 ZO:=⟨c55⟩
instance Z55:Zf cfg 55:=⟨rfl⟩
theorem c56:cfg.fc 56=ZP:=rfl
instance C56:Cf cfg 56 ZP:=⟨c56⟩
instance Z56:Zf cfg 56:=⟨rfl⟩
theorem c57:cfg.fc 57=ZQ:=rfl
instance C57:Cf cfg 57 ZQ:=⟨c57⟩
instance Z57:Zf cfg 57:=⟨rfl⟩
theorem z57:(cfg.fc 57).frz=[]:=rfl
theorem c58:cfg.fc 58=ZR:=rfl
instance C58:Cf cfg 58 ZR:=⟨c58⟩
instance Z58:Zf cfg 58:=⟨rfl⟩
theorem c62:cfg.fc 62=ZT:=rfl
instance C62:Cf cfg 62 ZT:=⟨c62⟩
instance Z62:Zf cfg 62:=⟨rfl⟩
theorem c63:cfg.fc 63=ZU:=rfl
instance C63:Cf cfg 63 ZU:=⟨c63⟩
instance Z63:Zf cfg 63:=⟨rfl⟩
theorem c64:cfg.fc 64=ZV:=rfl
instance C64:Cf cfg 64 ZV:=⟨c64⟩
instance Z64:Zf cfg 64:=⟨rfl⟩
theorem c65:cfg.fc 65=ZW:=rfl
instance C65:Cf cfg 65 ZW:=⟨c65⟩
instance Z65:Zf cfg 65:=⟨rfl⟩
theorem c66:cfg.fc 66=ZX:=rfl
instance C66:Cf cfg 66 ZX:=⟨c66⟩
instance Z66:Zf cfg 66:=⟨rfl⟩
theorem c67:cfg.fc 67=ZY:=rfl
instance C67:Cf cfg 67 ZY:=⟨c67⟩
instance Z67:Zf cfg 67:=⟨rfl⟩
theorem z67:(cfg.fc 67).frz=[]:=rfl
theorem c68:cfg.fc 68=ZZ:=rfl
instance C68:Cf cfg 68 ZZ:=⟨c68⟩
instance Z68:Zf cfg 68:=⟨rfl⟩
theorem c69:cfg.fc 69=Z4:=rfl
instance C69:Cf cfg 69 Z4:=⟨c69⟩
instance Z69:Zf cfg 69:=⟨rfl⟩
theorem z69:(cfg.fc 69).frz=[]:=rfl
theorem c70:cfg.fc 70=Z8:=rfl
instance C70:Cf cfg 70 Z8:=⟨c70⟩
instance Z70:Zf cfg 70:=⟨rfl⟩
theorem z70:(cfg.fc 70).frz=[]:=rfl
theorem c71:cfg.fc 71=aab:=rfl
instance C71:Cf cfg 71 aab:=⟨c71⟩
instance Z71:Zf cfg 71:=⟨rfl⟩
theorem c72:cfg.fc 72=aac:=rfl
instance C72:Cf cfg 72 aac:=⟨c72⟩
instance Z72:Zf cfg 72:=⟨rfl⟩
theorem z72:(cfg.fc 72).frz=[]:=rfl
theorem c73:cfg.fc 73=aad:=rfl
instance C73:Cf cfg 73 aad:=⟨c73⟩
instance Z73:Zf cfg 73:=⟨rfl⟩
theorem c74:cfg.fc 74=aae:=rfl
instance C74:Cf cfg 74 aae:=⟨c74⟩
instance Z74:Zf cfg 74:=⟨rfl⟩
theorem c75:cfg.fc 75=aaf:=rfl
instance C75:Cf cfg 75 aaf:=⟨c75⟩
instance Z75:Zf cfg 75:=⟨rfl⟩
theorem c76:cfg.fc 76=aag:=rfl
instance C76:Cf cfg 76 aag:=⟨c76⟩
instance Z76:Zf cfg 76:=⟨rfl⟩
theorem c77:cfg.fc 77=aah:=rfl
instance C77:Cf cfg 77 aah:=⟨c77⟩
instance Z77:Zf cfg 77:=⟨rfl⟩
theorem c78:cfg.fc 78=aai:=rfl
instance C78:Cf cfg 78 aai:=⟨c78⟩
instance Z78:Zf cfg 78:=⟨rfl⟩
theorem c79:cfg.fc 79=aaj:=rfl
instance C79:Cf cfg 79 aaj:=⟨c79⟩
instance Z79:Zf cfg 79:=⟨rfl⟩
theorem z79:(cfg.fc 79).frz=[]:=rfl
theorem c80:cfg.fc 80=aak:=rfl
instance C80:Cf cfg 80 aak:=⟨c80⟩
instance Z80:Zf cfg 80:=⟨rfl⟩
theorem c81:cfg.fc 81=aal:=rfl
instance C81:Cf cfg 81 aal:=⟨c81⟩
instance Z81:Zf cfg 81:=⟨rfl⟩
theorem c82:cfg.fc 82=aam:=rfl
instance C82:Cf cfg 82 aam:=⟨c82⟩
instance Z82:Zf cfg 82:=⟨rfl⟩
theorem c83:cfg.fc 83=aan:=rfl
instance C83:Cf cfg 83 aan:=⟨c83⟩
instance Z83:Zf cfg 83:=⟨rfl⟩
theorem c84:cfg.fc 84=aao:=rfl
instance C84:Cf cfg 84 aao:=⟨c84⟩
instance Z84:Zf cfg 84:=⟨rfl⟩
theorem c87:cfg.fc 87=aap:=rfl
instance C87:Cf cfg 87 aap:=⟨c87⟩
instance Z87:Zf cfg 87:=⟨rfl⟩
theorem c88:cfg.fc 88=aaq:=rfl
instance C88:Cf cfg 88 aaq:=⟨c88⟩
instance Z88:Zf cfg 88:=⟨rfl⟩
theorem c89:cfg.fc 89=aar:=rfl
instance C89:Cf cfg 89 aar:=⟨c89⟩
instance Z89:Zf cfg 89:=⟨rfl⟩
theorem c90:cfg.fc 90=aas:=rfl
instance C90:Cf cfg 90 aas:=⟨c90⟩
instance Z90:Zf cfg 90:=⟨rfl⟩
theorem c91:cfg.fc 91=aat:=rfl
instance C91:Cf cfg 91 aat:=⟨c91⟩
instance Z91:Zf cfg 91:=⟨rfl⟩
theorem c92:cfg.fc 92=aau:=rfl
instance C92:Cf cfg 92 aau:=⟨c92⟩
instance Z92:Zf cfg 92:=⟨rfl⟩
theorem z92:(cfg.fc 92).frz=[]:=rfl
theorem c93:cfg.fc 93=aav:=rfl
instance C93:Cf cfg 93 aav:=⟨c93⟩
instance Z93:Zf cfg 93:=⟨rfl⟩
theorem c94:cfg.fc 94=aaw:=rfl
instance C94:Cf cfg 94 aaw:=⟨c94⟩
instance Z94:Zf cfg 94:=⟨rfl⟩
theorem z94:(cfg.fc 94).frz=[]:=rfl
theorem c95:cfg.fc 95=aax:=rfl
instance C95:Cf cfg 95 aax:=⟨c95⟩
instance Z95:Zf cfg 95:=⟨rfl⟩
theorem c96:cfg.fc 96=aay:=rfl
instance C96:Cf cfg 96 aay:=⟨c96⟩
instance Z96:Zf cfg 96:=⟨rfl⟩
theorem c97:cfg.fc 97=aaz:=rfl
instance C97:Cf cfg 97 aaz:=⟨c97⟩
instance Z97:Zf cfg 97:=⟨rfl⟩
theorem c98:cfg.fc 98=aaA:=rfl
instance C98:Cf cfg 98 aaA:=⟨c98⟩
instance Z98:Zf cfg 98:=⟨rfl⟩
theorem c99:cfg.fc 99=aaB:=rfl
instance C99:Cf cfg 99 aaB:=⟨c99⟩
instance Z99:Zf cfg 99:=⟨rfl⟩
theorem aaC:cfg.fc 100=Uj:=rfl
instance ah7:Cf cfg 100 Uj:=⟨aaC⟩
instance ah8:Zf cfg 100:=⟨rfl⟩
theorem acN:cfg.fc 101=Uk:=rfl
instance ah9:Cf cfg 101 Uk:=⟨acN⟩
instance aia:Zf cfg 101:=⟨rfl⟩
theorem aey:cfg.fc 102=Ul:=rfl
instance aib:Cf cfg 102 Ul:=⟨aey⟩
instance aic:Zf cfg 102:=⟨rfl⟩
theorem aez:cfg.fc 103=Um:=rfl
instance aid:Cf cfg 103 Um:=⟨aez⟩
instance aie:Zf cfg 103:=⟨rfl⟩
theorem acO:cfg.fc 104=Un:=rfl
instance aif:Cf cfg 104 Un:=⟨acO⟩
instance aih:Zf cfg 104:=⟨rfl⟩
theorem c105:cfg.fc 105=Uo:=rfl
instance aii:Cf cfg 105 Uo:=⟨c105⟩
instance aij:Zf cfg 105:=⟨rfl⟩
theorem agt:cfg.fc 106=Ur:=rfl
instance aik:Cf cfg 106 Ur:=⟨agt⟩
instance ail:Zf cfg 106:=⟨rfl⟩
theorem agu:cfg.fc 118=Us:=rfl
instance aim:Cf cfg 118 Us:=⟨agu⟩
instance ain:Zf cfg 118:=⟨rfl⟩
theorem c119:cfg.fc 119=Ut:=rfl
instance aio:Cf cfg 119 Ut:=⟨c119⟩
instance aip:Zf cfg 119:=⟨rfl⟩
theorem z119:(cfg.fc 119).frz=[]:=rfl
theorem agv:cfg.fc 120=Uu:=rfl
instance aiq:Cf cfg 120 Uu:=⟨agv⟩
instance air:Zf cfg 120:=⟨rfl⟩
theorem aeA:cfg.fc 121=Uw:=rfl
instance ais:Cf cfg 121 Uw:=⟨aeA⟩
instance ait:Zf cfg 121:=⟨rfl⟩
theorem agw:cfg.fc 122=Ux:=rfl
instance aiu:Cf cfg 122 Ux:=⟨agw⟩
instance aiv:Zf cfg 122:=⟨rfl⟩
theorem aeB:cfg.fc 123=Uy:=rfl
instance aiw:Cf cfg 123 Uy:=⟨aeB⟩
instance aix:Zf cfg 123:=⟨rfl⟩
theorem QJ:(cfg.fc 123).frz=[]:=rfl
theorem c124:cfg.fc 124=Uz:=rfl
instance aiy:Cf cfg 124 Uz:=⟨c124⟩
instance aiz:Zf cfg 124:=⟨rfl⟩
theorem c131:cfg.fc 131=UA:=rfl
instance aiA:Cf cfg 131 UA:=⟨c131⟩
instance aiB:Zf cfg 131:=⟨rfl⟩
noncomputable abbrev Pg:=Tryz.prog
theorem aeC:Ky Pg 102=some ([z0,z0],[(0,1),(1,1)]):=kr
theorem agx:Ky Pg 63=some ([.nil,.nil,z0,z0,.nil,z0,z0,.im 0 (.sc (.bool false))],[(0,1),(1,1),(2,1),(3,1),(4,1),(5,1),(6,1),(7,1)]):=kr
theorem agy:Ky Pg 72=some ([.nil,.nil,z0],[(0,1),(1,1),(2,1)]):=kr
theorem aeD:pY Pg 157=some (9,1):=kr
theorem Eg:pY Pg 29=some (2,1):=kr
theorem Xv:pY Pg 32=some (92,2):=kr
theorem agz:pY Pg 33=some (95,2):=kr
theorem agA:pY Pg 37=some (66,3):=kr
theorem acP:pY Pg 61=some (29,1):=kr
theorem agB:pY Pg 99=some (102,2):=kr
theorem acQ:iy Pg 25 0=some 0:=kr
theorem acR:iy Pg 25 1=some 1:=kr
theorem Xw:iy Pg 25 2=some 2:=kr
theorem Xx:iy Pg 25 3=some 3:=kr
theorem E8:iy Pg 35 0=some 0:=kr
theorem Dq:iy Pg 35 1=some 1:=kr
theorem rM:iy Pg 35 2=some 2:=kr
theorem oO:iy Pg 35 3=some 3:=kr
theorem Xy:iy Pg 54 0=some 0:=kr
theorem acS:iy Pg 54 1=some 1:=kr
theorem acT:iy Pg 54 2=some 2:=kr
theorem yf:iy Pg 63 0=some 0:=kr
theorem OZ:iy Pg 63 1=some 1:=kr
theorem acU:iy Pg 63 2=some 2:=kr
theorem Xz:iy Pg 63 3=some 3:=kr
theorem Dt:iy Pg 63 4=some 4:=kr
theorem SH:iy Pg 63 5=some 5:=kr
theorem acV:iy Pg 63 6=some 6:=kr
theorem SI:iy Pg 63 7=some 7:=kr
theorem H8:iy Pg 66 0=some 0:=kr
theorem rO:iy Pg 66 1=some 1:=kr
theorem zN:iy Pg 66 2=some 2:=kr
theorem XA:iy Pg 72 0=some 0:=kr
theorem SK:iy Pg 72 1=some 1:=kr
theorem SL:iy Pg 72 2=some 2:=kr
theorem XB:iy Pg 82 0=some 0:=kr
theorem XC:iy Pg 82 1=some 1:=kr
theorem iH:iy Pg 92 0=some 0:=kr
theorem jb:iy Pg 92 1=some 1:=kr
theorem acW:iy Pg 94 0=some 0:=kr
theorem acX:iy Pg 94 1=some 1:=kr
theorem zO:iy Pg 95 0=some 0:=kr
theorem BI:iy Pg 95 1=some 1:=kr
theorem QK:aT Pg cfg 100 0 [32,92]=[(.cst false,[some 2]),(.cst false,[none,none])]:=kr
theorem XD:aT Pg cfg 101 0 [32]=[(.cst false,[some 2])]:=kr
theorem ou:aT Pg cfg 102 0 [92,92,92]=[(.cst false,[none,none]),(.cst false,[none,none]),(.cst false,[none,none])]:=kr
theorem Gq:aT Pg cfg 103 0 [92,92,92,92]=[(.cst false,[none,none]),(.cst false,[none,none]),(.cst false,[none,none]),(.cst false,[none,none])]:=kr
theorem XE:aT Pg cfg 104 0 [32]=[(.cst false,[some 2])]:=kr
theorem O0:aT Pg cfg 105 0 [37,120]=[(.cst false,[some 3]),(.cst false,[none])]:=kr
theorem aaD:aT Pg cfg 106 0 [9]=[(.cst false,[none])]:=kr
theorem Jv:aT Pg cfg 10 0 [26]=[(.cst false,[some 3])]:=kr
theorem jq:aT Pg cfg 118 0 [92,92,92]=[(.cst false,[none,none]),(.cst false,[none,none]),(.cst false,[none,none])]:=kr
theorem Gs:aT Pg cfg 119 0 [92,92,92,92]=[(.cst false,[none,none]),(.cst false,[none,none]),(.cst false,[none,none]),(.cst false,[none,none])]:=kr
theorem acY:aT Pg cfg 120 0 []=[]:=kr
theorem XF:aT Pg cfg 121 0 [92]=[(.cst false,[none,none])]:=kr
theorem lZ:aT Pg cfg 122 0 [92,92,92]=[(.cst false,[none,none]),(.cst false,[none,none]),(.cst false,[none,none])]:=kr
theorem Gt:aT Pg cfg 123 0 [92,92,92,92]=[(.cst false,[none,none]),(.cst false,[none,none]),(.cst false,[none,none]),(.cst false,[none,none])]:=kr
theorem aaE:aT Pg cfg 124 0 [9]=[(.cst false,[none])]:=kr
theorem BJ:aT Pg cfg 12 0 [29,29]=[(.cst false,[some 1]),(.cst false,[some 1])]:=kr
theorem KR:aT Pg cfg 131 0 [92,92,92]=[(.cst false,[none,none]),(.cst false,[none,none]),(.cst false,[none,none])]:=kr
theorem SN:aT Pg cfg 13 0 [35,35]=[(.cst false,[none,none,some 2,some 2]),(.cst false,[none,none,some 2,some 2])]:=kr
theorem SQ:aT Pg cfg 14 0 [37,37]=[(.cst false,[some 3]),(.cst false,[some 3])]:=kr
theorem Vk:aT Pg cfg 15 0 [35,3]=[(.ws,[none,none,some 2,some 2]),(.cst false,[none])]:=kr
theorem Vl:aT Pg cfg 16 0 [37,3]=[(.row,[some 3]),(.cst false,[none])]:=kr
theorem NI:aT Pg cfg 17 0 [29,3]=[(.row,[some 1]),(.cst false,[none])]:=kr
theorem NJ:aT Pg cfg 18 0 [29,3]=[(.cst false,[some 1]),(.cst false,[none])]:=kr
theorem KT:aT Pg cfg 21 0 [35,37,2,2]=[(.cst false,[none,none,some 2,some 2]),(.cst false,[some 3]),(.cst false,[none]),(.cst false,[none])]:=kr
theorem Du:aT Pg cfg 22 0 [35,37,2,2]=[(.cst false,[none,none,some 2,some 2]),(.cst false,[some 3]),(.cst false,[none]),(.cst false,[none])]:=kr
theorem Vm:aT Pg cfg 23 0 [22,3]=[(.cst false,[some 2]),(.cst false,[none])]:=kr
theorem Vo:aT Pg cfg 24 0 [23,3]=[(.cst false,[some 2]),(.cst false,[none])]:=kr
theorem Vp:aT Pg cfg 25 0 [54,3]=[(.cst false,[none,none,none]),(.cst false,[none])]:=kr
theorem KU:aT Pg cfg 26 0 [56,37,2,2]=[(.cut 4,[none]),(.cst false,[some 3]),(.cst false,[none]),(.cst false,[none])]:=kr
theorem KW:aT Pg cfg 27 0 [56,37,2,2]=[(.cut 4,[none]),(.cst false,[some 3]),(.cst false,[none]),(.cst false,[none])]:=kr
theorem UB:aT Pg cfg 28 0 [57]=[(.ptr [.gone,.sh,.imm,.imm,.sh,.imm,.imm,.imm],[none])]:=kr
theorem aaF:aT Pg cfg 29 0 [29]=[(.cst false,[some 1])]:=kr
theorem aaG:aT Pg cfg 30 0 [22]=[(.cst false,[some 2])]:=kr
theorem aaH:aT Pg cfg 31 0 [23]=[(.cst false,[some 2])]:=kr
theorem aaI:aT Pg cfg 32 0 [54]=[(.cst false,[none,none,none])]:=kr
theorem KX:aT Pg cfg 33 0 [35,37,2,2]=[(.cst false,[none,none,some 2,some 2]),(.cst false,[some 3]),(.cst false,[none]),(.cst false,[none])]:=kr
theorem aaJ:aT Pg cfg 34 0 [35]=[(.cst false,[none,none,some 2,some 2])]:=kr
theorem Dv:aT Pg cfg 35 0 [69,29,2,3]=[(.ptr [.gone,.imm,.imm],[none]),(.mv,[some 1]),(.cst false,[none]),(.cst false,[none])]:=kr
theorem SS:aT Pg cfg 36 0 [32,32]=[(.cst false,[some 2]),(.cst false,[some 2])]:=kr
theorem SX:aT Pg cfg 37 0 [33,33]=[(.cst false,[some 2]),(.cst false,[some 2])]:=kr
theorem SY:aT Pg cfg 38 0 [66,66]=[(.cst false,[none,none,none]),(.cst false,[none,none,none])]:=kr
theorem Vq:aT Pg cfg 39 0 [32,3]=[(.row,[some 2]),(.cst false,[none])]:=kr
theorem Vr:aT Pg cfg 40 0 [33,3]=[(.ws,[some 2]),(.cst false,[none])]:=kr
theorem XG:aT Pg cfg 41 0 [3]=[(.cst false,[none])]:=kr
theorem Vs:aT Pg cfg 42 0 [82,3]=[(.cst false,[none,some 1]),(.cst false,[none])]:=kr
theorem aaK:aT Pg cfg 43 0 [56]=[(.cut 4,[none])]:=kr
theorem aaL:aT Pg cfg 44 0 [37]=[(.cst false,[some 3])]:=kr
theorem iM:aT Pg cfg 45 0 [2,2,2]=[(.cst false,[none]),(.cst false,[none]),(.cst false,[none])]:=kr
theorem aaM:aT Pg cfg 46 0 [56]=[(.cut 4,[none])]:=kr
theorem S9:aT Pg cfg 47 0 [88,88]=[(.cut 3,[none]),(.cut 3,[none])]:=kr
theorem Vt:aT Pg cfg 48 0 [29,2]=[(.cst false,[some 1]),(.cst false,[none])]:=kr
theorem Vu:aT Pg cfg 49 0 [29,2]=[(.cst false,[some 1]),(.cst false,[none])]:=kr
theorem aaN:aT Pg cfg 50 0 [94]=[(.cst false,[none,none])]:=kr
theorem aaO:aT Pg cfg 51 0 [82]=[(.cst false,[none,some 1])]:=kr
theorem aaP:aT Pg cfg 52 0 [35]=[(.cst false,[none,none,some 2,some 2])]:=kr
theorem aaQ:aT Pg cfg 53 0 [37]=[(.cst false,[some 3])]:=kr
theorem gz:aT Pg cfg 54 0 [2,2,2]=[(.cst false,[none]),(.cst false,[none]),(.cst false,[none])]:=kr
theorem aaR:aT Pg cfg 55 0 [29]=[(.cst false,[some 1])]:=kr
theorem QL:aT Pg cfg 56 0 [99,104]=[(.cst false,[some 2]),(.cst false,[none])]:=kr
theorem O1:aT Pg cfg 57 0 [102,0,0]=[(.cst false,[none,none]),(.cst false,[none]),(.cst false,[none])]:=kr
theorem QM:aT Pg cfg 58 0 [99,102]=[(.cst false,[some 2]),(.cst false,[none,none])]:=kr
theorem UC:aT Pg cfg 59 0 [29]=[(.cst false,[some 1])]:=kr
theorem aaS:aT Pg cfg 60 0 [29]=[(.row,[some 1])]:=kr
theorem aaT:aT Pg cfg 61 0 [29]=[(.mv,[some 1])]:=kr
theorem Vw:aT Pg cfg 62 0 [29,2]=[(.cst false,[some 1]),(.cst false,[none])]:=kr
theorem Tc:aT Pg cfg 63 0 [66,66]=[(.cst false,[none,none,none]),(.cst false,[none,none,none])]:=kr
theorem Td:aT Pg cfg 64 0 [92,92]=[(.cst false,[none,none]),(.cst false,[none,none])]:=kr
theorem Tf:aT Pg cfg 65 0 [95,95]=[(.cst false,[none,some 1]),(.cst false,[none,some 1])]:=kr
theorem Vx:aT Pg cfg 66 0 [29,3]=[(.cst false,[some 1]),(.cst false,[none])]:=kr
theorem aaU:aT Pg cfg 67 0 [56]=[(.cut 4,[none])]:=kr
theorem Ti:aT Pg cfg 68 0 [9]=[(.cst false,[none])]:=kr
theorem Tj:aT Pg cfg 69 0 [56,29]=[(.cut 4,[none]),(.cst false,[some 1])]:=kr
theorem XH:aT Pg cfg 6 0 [25,3]=[(.cst false,[none,none,some 2,some 2]),(.cst false,[none])]:=kr
theorem aaV:aT Pg cfg 70 0 [32]=[(.cst false,[some 2])]:=kr
theorem aaW:aT Pg cfg 71 0 [88]=[(.cut 3,[none])]:=kr
theorem Vy:aT Pg cfg 72 0 [56,2]=[(.cut 4,[none]),(.cst false,[none])]:=kr
theorem Dw:aT Pg cfg 73 0 [2,2]=[(.cst false,[none]),(.cst false,[none])]:=kr
theorem XI:aT Pg cfg 74 0 [2,2]=[(.cst false,[none]),(.cst false,[none])]:=kr
theorem aaX:aT Pg cfg 75 0 [29]=[(.cst false,[some 1])]:=kr
theorem Tm:aT Pg cfg 76 0 [32,92]=[(.cst false,[some 2]),(.cst false,[none,none])]:=kr
theorem Tn:aT Pg cfg 77 0 [9]=[(.cst false,[none])]:=kr
theorem Tq:aT Pg cfg 78 0 [32,29]=[(.cst false,[some 2]),(.cst false,[some 1])]:=kr
theorem aaY:aT Pg cfg 79 0 [32]=[(.cst false,[some 2])]:=kr
theorem XJ:aT Pg cfg 7 0 [26,3]=[(.cst false,[some 3]),(.cst false,[none])]:=kr
theorem QN:aT Pg cfg 80 0 [37,120]=[(.cst false,[some 3]),(.cst false,[none])]:=kr
theorem aaZ:aT Pg cfg 81 0 [66]=[(.cst false,[none,none,none])]:=kr
theorem aa0:aT Pg cfg 82 0 [66]=[(.cst false,[none,none,none])]:=kr
theorem QO:aT Pg cfg 83 0 [99,104]=[(.cst false,[some 2]),(.cst false,[none])]:=kr
theorem QS:aT Pg cfg 84 0 [99,102]=[(.cst false,[some 2]),(.cst false,[none,none])]:=kr
theorem Vz:aT Pg cfg 87 0 [29,2]=[(.cst false,[some 1]),(.cst false,[none])]:=kr
theorem XK:aT Pg cfg 88 0 [2,2]=[(.cst false,[none]),(.cst false,[none])]:=kr
theorem XL:aT Pg cfg 89 0 [5]=[(.cst false,[none])]:=kr
theorem acZ:aT Pg cfg 90 0 [5]=[(.cst false,[none])]:=kr
theorem aa1:aT Pg cfg 91 0 [92]=[(.cst false,[none,none])]:=kr
theorem pX:aT Pg cfg 92 0 [92,92,92]=[(.cst false,[none,none]),(.cst false,[none,none]),(.cst false,[none,none])]:=kr
theorem H9:aT Pg cfg 93 0 [92,92,92,92]=[(.cst false,[none,none]),(.cst false,[none,none]),(.cst false,[none,none]),(.cst false,[none,none])]:=kr
theorem aa2:aT Pg cfg 94 0 [32]=[(.cst false,[some 2])]:=kr
theorem ac0:aT Pg cfg 95 0 [9]=[(.cst false,[none])]:=kr
theorem aeE:aT Pg cfg 96 0 []=[]:=kr
theorem ac1:aT Pg cfg 97 0 [2]=[(.cst false,[none])]:=kr
theorem QT:aT Pg cfg 98 0 [29,2,2]=[(.cst false,[some 1]),(.cst false,[none]),(.cst false,[none])]:=kr
theorem Gu:aT Pg cfg 99 0 [2,2]=[(.cst false,[none]),(.cst false,[none])]:=kr
theorem O3:aT Pg cfg 9 0 [25]=[(.cst false,[none,none,some 2,some 2])]:=kr
theorem ac2:∀(a0:Int) (a1:Int) (b0:Int) (b1:Int),Jz Pg 102 .eql [.int .i64 a0,.int .i64 a1] [.int .i64 b0,.int .i64 b1]=some (.bool ((a0==b0)&&(a1==b1))):=by intros;kernel_rfl
theorem UD:∀(a0:Int) (a1:Int) (b0:Int) (b1:Int),Jz Pg 92 .eql [.int .i64 a0,.int .i64 a1] [.int .i64 b0,.int .i64 b1]=some (.bool ((a0==b0)&&(a1==b1))):=by intros;kernel_rfl
theorem agC:di Pg (Tryz.f10.results.toList.zip Tryz.f10.resultTypes.toList)=[(.tmp 2,[some 3],none)]:=kr
theorem abR:di Pg (Tryz.f100.results.toList.zip Tryz.f100.resultTypes.toList)=[(.tmp 4,[none],none)]:=kr
theorem abS:di Pg (Tryz.f101.results.toList.zip Tryz.f101.resultTypes.toList)=[(.tmp 2,[none],none)]:=kr
theorem aeF:di Pg (Tryz.f102.results.toList.zip Tryz.f102.resultTypes.toList)=[(.tmp 6,[none],none)]:=kr
theorem aeG:di Pg (Tryz.f103.results.toList.zip Tryz.f103.resultTypes.toList)=[(.tmp 8,[none],none)]:=kr
theorem aeH:di Pg (Tryz.f104.results.toList.zip Tryz.f104.resultTypes.toList)=[(.tmp 2,[none],none)]:=kr
theorem abT:di Pg (Tryz.f105.results.toList.zip Tryz.f105.resultTypes.toList)=[(.tmp 4,[none],none)]:=kr
theorem aeI:di Pg (Tryz.f106.results.toList.zip Tryz.f106.resultTypes.toList)=[(.tmp 2,[none],none),(.tmp 3,[none],none)]:=kr
theorem XM:di Pg (Tryz.f118.results.toList.zip Tryz.f118.resultTypes.toList)=[(.tmp 6,[none],none)]:=kr
theorem aeJ:di Pg (Tryz.f119.results.toList.zip Tryz.f119.resultTypes.toList)=[(.tmp 8,[none],none)]:=kr
theorem ac3:di Pg (Tryz.f12.results.toList.zip Tryz.f12.resultTypes.toList)=[(.tmp 4,[none],none)]:=kr
theorem aeK:di Pg (Tryz.f120.results.toList.zip Tryz.f120.resultTypes.toList)=[(.tmp 0,[some 1],none)]:=kr
theorem aeL:di Pg (Tryz.f121.results.toList.zip Tryz.f121.resultTypes.toList)=[(.tmp 2,[none],none)]:=kr
theorem XN:di Pg (Tryz.f122.results.toList.zip Tryz.f122.resultTypes.toList)=[(.tmp 6,[none],none)]:=kr
theorem aeM:di Pg (Tryz.f123.results.toList.zip Tryz.f123.resultTypes.toList)=[(.tmp 8,[none],none)]:=kr
theorem Dx:di Pg (Tryz.f124.results.toList.zip Tryz.f124.resultTypes.toList)=[(.tmp 2,[none],none),(.tmp 3,[none],none),(.tmp 4,[none],none),(.tmp 5,[none],none)]:=kr
theorem XO:di Pg (Tryz.f13.results.toList.zip Tryz.f13.resultTypes.toList)=[(.tmp 4,[none],none)]:=kr
theorem aeN:di Pg (Tryz.f131.results.toList.zip Tryz.f131.resultTypes.toList)=[(.tmp 6,[none],none)]:=kr
theorem ac4:di Pg (Tryz.f14.results.toList.zip Tryz.f14.resultTypes.toList)=[(.tmp 4,[none],none)]:=kr
theorem agD:di Pg (Tryz.f15.results.toList.zip Tryz.f15.resultTypes.toList)=[(.tmp 4,[none],none)]:=kr
theorem agE:di Pg (Tryz.f16.results.toList.zip Tryz.f16.resultTypes.toList)=[(.tmp 4,[none],none)]:=kr
theorem aeO:di Pg (Tryz.f17.results.toList.zip Tryz.f17.resultTypes.toList)=[(.tmp 4,[none],none)]:=kr
theorem aeP:di Pg (Tryz.f18.results.toList.zip Tryz.f18.resultTypes.toList)=[(.tmp 4,[none],none)]:=kr
theorem aa3:di Pg (Tryz.f21.results.toList.zip Tryz.f21.resultTypes.toList)=[(.tmp 8,[some 1],none),(.tmp 9,[none],none),(.tmp 10,[none],none)]:=kr
theorem aa4:di Pg (Tryz.f22.results.toList.zip Tryz.f22.resultTypes.toList)=[(.tmp 8,[some 1],none),(.tmp 9,[none],none),(.tmp 10,[none],none)]:=kr
theorem aeQ:di Pg (Tryz.f23.results.toList.zip Tryz.f23.resultTypes.toList)=[(.tmp 4,[none],none)]:=kr
theorem ac5:di Pg (Tryz.f24.results.toList.zip Tryz.f24.resultTypes.toList)=[(.tmp 4,[none],none)]:=kr
theorem aeR:di Pg (Tryz.f25.results.toList.zip Tryz.f25.resultTypes.toList)=[(.tmp 4,[none],none)]:=kr
theorem ac6:di Pg (Tryz.f26.results.toList.zip Tryz.f26.resultTypes.toList)=[(.tmp 8,[none],none)]:=kr
theorem agF:di Pg (Tryz.f27.results.toList.zip Tryz.f27.resultTypes.toList)=[(.tmp 8,[none],none)]:=kr
theorem aa5:di Pg (Tryz.f28.results.toList.zip Tryz.f28.resultTypes.toList)=[(.tmp 2,[none],none)]:=kr
theorem agG:di Pg (Tryz.f29.results.toList.zip Tryz.f29.resultTypes.toList)=[(.tmp 2,[some 1],none)]:=kr
theorem agH:di Pg (Tryz.f30.results.toList.zip Tryz.f30.resultTypes.toList)=[(.tmp 2,[some 2],none)]:=kr
theorem agI:di Pg (Tryz.f31.results.toList.zip Tryz.f31.resultTypes.toList)=[(.tmp 2,[some 2],none)]:=kr
theorem agJ:di Pg (Tryz.f32.results.toList.zip Tryz.f32.resultTypes.toList)=[(.cell 2 66,[none,none,none],some (true,3))]:=kr
theorem ac7:di Pg (Tryz.f33.results.toList.zip Tryz.f33.resultTypes.toList)=[(.tmp 8,[none],none)]:=kr
theorem agK:di Pg (Tryz.f34.results.toList.zip Tryz.f34.resultTypes.toList)=[(.tmp 2,[some 1],none)]:=kr
theorem aa6:di Pg (Tryz.f35.results.toList.zip Tryz.f35.resultTypes.toList)=[(.tmp 8,[some 1],none),(.tmp 9,[none],none)]:=kr
theorem ac8:di Pg (Tryz.f36.results.toList.zip Tryz.f36.resultTypes.toList)=[(.tmp 4,[none],none)]:=kr
theorem ac9:di Pg (Tryz.f37.results.toList.zip Tryz.f37.resultTypes.toList)=[(.tmp 4,[none],none)]:=kr
theorem aa7:di Pg (Tryz.f38.results.toList.zip Tryz.f38.resultTypes.toList)=[(.tmp 4,[none],none)]:=kr
theorem agL:di Pg (Tryz.f39.results.toList.zip Tryz.f39.resultTypes.toList)=[(.tmp 4,[none],none)]:=kr
theorem agM:di Pg (Tryz.f40.results.toList.zip Tryz.f40.resultTypes.toList)=[(.tmp 4,[none],none)]:=kr
theorem aeS:di Pg (Tryz.f41.results.toList.zip Tryz.f41.resultTypes.toList)=[(.tmp 2,[none],none)]:=kr
theorem ada:di Pg (Tryz.f42.results.toList.zip Tryz.f42.resultTypes.toList)=[(.tmp 4,[none],none)]:=kr
theorem aa8:di Pg (Tryz.f43.results.toList.zip Tryz.f43.resultTypes.toList)=[(.tmp 2,[none],none)]:=kr
theorem aeT:di Pg (Tryz.f44.results.toList.zip Tryz.f44.resultTypes.toList)=[(.tmp 2,[none],none)]:=kr
theorem agN:di Pg (Tryz.f45.results.toList.zip Tryz.f45.resultTypes.toList)=[(.tmp 6,[none],none)]:=kr
theorem agO:di Pg (Tryz.f46.results.toList.zip Tryz.f46.resultTypes.toList)=[(.tmp 2,[some 1],none)]:=kr
theorem agP:di Pg (Tryz.f47.results.toList.zip Tryz.f47.resultTypes.toList)=[(.tmp 4,[none],none)]:=kr
theorem agQ:di Pg (Tryz.f48.results.toList.zip Tryz.f48.resultTypes.toList)=[(.tmp 4,[some 1],none)]:=kr
theorem aeU:di Pg (Tryz.f49.results.toList.zip Tryz.f49.resultTypes.toList)=[(.tmp 4,[none],none)]:=kr
theorem rF5:di Pg (Tryz.f5.results.toList.zip Tryz.f5.resultTypes.toList)=[(.tmp 8,[none],none)]:=kr
theorem agR:di Pg (Tryz.f50.results.toList.zip Tryz.f50.resultTypes.toList)=[(.cell 2 92,[none,none],some (true,2))]:=kr
theorem agS:di Pg (Tryz.f51.results.toList.zip Tryz.f51.resultTypes.toList)=[(.cell 2 95,[none,some 1],some (true,2))]:=kr
theorem XP:di Pg (Tryz.f52.results.toList.zip Tryz.f52.resultTypes.toList)=[(.tmp 2,[none],none)]:=kr
theorem agT:di Pg (Tryz.f53.results.toList.zip Tryz.f53.resultTypes.toList)=[(.tmp 2,[none],none)]:=kr
theorem agU:di Pg (Tryz.f54.results.toList.zip Tryz.f54.resultTypes.toList)=[(.tmp 6,[none],none)]:=kr
theorem agV:di Pg (Tryz.f55.results.toList.zip Tryz.f55.resultTypes.toList)=[(.tmp 2,[some 2],none)]:=kr
theorem agW:di Pg (Tryz.f56.results.toList.zip Tryz.f56.resultTypes.toList)=[(.tmp 4,[none],none)]:=kr
theorem agX:di Pg (Tryz.f57.results.toList.zip Tryz.f57.resultTypes.toList)=[(.tmp 4,[none],none)]:=kr
theorem agY:di Pg (Tryz.f58.results.toList.zip Tryz.f58.resultTypes.toList)=[(.tmp 4,[none],none)]:=kr
theorem agZ:di Pg (Tryz.f59.results.toList.zip Tryz.f59.resultTypes.toList)=[(.tmp 2,[some 1],none)]:=kr
theorem rF6:di Pg (Tryz.f6.results.toList.zip Tryz.f6.resultTypes.toList)=[(.tmp 4,[none],none)]:=kr
theorem ag0:di Pg (Tryz.f62.results.toList.zip Tryz.f62.resultTypes.toList)=[(.tmp 4,[none],none)]:=kr
theorem ag1:di Pg (Tryz.f63.results.toList.zip Tryz.f63.resultTypes.toList)=[(.tmp 4,[none],none)]:=kr
theorem adb:di Pg (Tryz.f64.results.toList.zip Tryz.f64.resultTypes.toList)=[(.tmp 4,[none],none)]:=kr
theorem ade:di Pg (Tryz.f65.results.toList.zip Tryz.f65.resultTypes.toList)=[(.tmp 4,[none],none)]:=kr
theorem aeV:di Pg (Tryz.f66.results.toList.zip Tryz.f66.resultTypes.toList)=[(.tmp 4,[none],none)]:=kr
theorem aa9:di Pg (Tryz.f67.results.toList.zip Tryz.f67.resultTypes.toList)=[(.tmp 2,[none],none)]:=kr
theorem adf:di Pg (Tryz.f68.results.toList.zip Tryz.f68.resultTypes.toList)=[(.tmp 2,[none],none)]:=kr
theorem aeW:di Pg (Tryz.f69.results.toList.zip Tryz.f69.resultTypes.toList)=[(.tmp 4,[some 2],none),(.tmp 5,[none],none)]:=kr
theorem rF7:di Pg (Tryz.f7.results.toList.zip Tryz.f7.resultTypes.toList)=[(.tmp 4,[none],none)]:=kr
theorem XQ:di Pg (Tryz.f70.results.toList.zip Tryz.f70.resultTypes.toList)=[(.tmp 2,[none],none)]:=kr
theorem aeX:di Pg (Tryz.f71.results.toList.zip Tryz.f71.resultTypes.toList)=[(.tmp 2,[none],none)]:=kr
theorem ag2:di Pg (Tryz.f72.results.toList.zip Tryz.f72.resultTypes.toList)=[(.tmp 4,[some 1],none)]:=kr
theorem aeY:di Pg (Tryz.f73.results.toList.zip Tryz.f73.resultTypes.toList)=[(.tmp 4,[none],none)]:=kr
theorem ag3:di Pg (Tryz.f74.results.toList.zip Tryz.f74.resultTypes.toList)=[(.tmp 4,[none],none)]:=kr
theorem ag4:di Pg (Tryz.f75.results.toList.zip Tryz.f75.resultTypes.toList)=[(.tmp 2,[some 1],none)]:=kr
theorem ag5:di Pg (Tryz.f76.results.toList.zip Tryz.f76.resultTypes.toList)=[(.tmp 4,[none],none)]:=kr
theorem adg:di Pg (Tryz.f77.results.toList.zip Tryz.f77.resultTypes.toList)=[(.tmp 2,[none],none)]:=kr
theorem aeZ:di Pg (Tryz.f78.results.toList.zip Tryz.f78.resultTypes.toList)=[(.tmp 4,[some 2],none),(.tmp 5,[none],none)]:=kr
theorem aba:di Pg (Tryz.f79.results.toList.zip Tryz.f79.resultTypes.toList)=[(.tmp 2,[none],none)]:=kr
theorem ag6:di Pg (Tryz.f80.results.toList.zip Tryz.f80.resultTypes.toList)=[(.tmp 4,[none],none)]:=kr
theorem ag7:di Pg (Tryz.f81.results.toList.zip Tryz.f81.resultTypes.toList)=[(.tmp 2,[none],none)]:=kr
theorem ag8:di Pg (Tryz.f82.results.toList.zip Tryz.f82.resultTypes.toList)=[(.tmp 2,[none],none)]:=kr
theorem ae0:di Pg (Tryz.f83.results.toList.zip Tryz.f83.resultTypes.toList)=[(.tmp 4,[none],none)]:=kr
theorem ae1:di Pg (Tryz.f84.results.toList.zip Tryz.f84.resultTypes.toList)=[(.tmp 4,[none],none)]:=kr
theorem ae2:di Pg (Tryz.f87.results.toList.zip Tryz.f87.resultTypes.toList)=[(.tmp 4,[none],none)]:=kr
theorem ae3:di Pg (Tryz.f88.results.toList.zip Tryz.f88.resultTypes.toList)=[(.tmp 4,[none],none),(.tmp 5,[none],none)]:=kr
theorem ag9:di Pg (Tryz.f89.results.toList.zip Tryz.f89.resultTypes.toList)=[(.tmp 2,[none],none)]:=kr
theorem rF9:di Pg (Tryz.f9.results.toList.zip Tryz.f9.resultTypes.toList)=[(.cell 2 35,[none,none,some 2,some 2],some (true,4))]:=kr
theorem aha:di Pg (Tryz.f90.results.toList.zip Tryz.f90.resultTypes.toList)=[(.tmp 2,[none],none)]:=kr
theorem ahb:di Pg (Tryz.f91.results.toList.zip Tryz.f91.resultTypes.toList)=[(.tmp 2,[none],none)]:=kr
theorem ahc:di Pg (Tryz.f92.results.toList.zip Tryz.f92.resultTypes.toList)=[(.tmp 6,[none],none)]:=kr
theorem ahd:di Pg (Tryz.f93.results.toList.zip Tryz.f93.resultTypes.toList)=[(.tmp 8,[none],none)]:=kr
theorem ahe:di Pg (Tryz.f94.results.toList.zip Tryz.f94.resultTypes.toList)=[(.tmp 2,[none],none)]:=kr
theorem ae4:di Pg (Tryz.f95.results.toList.zip Tryz.f95.resultTypes.toList)=[(.tmp 2,[none],none)]:=kr
theorem ahf:di Pg (Tryz.f96.results.toList.zip Tryz.f96.resultTypes.toList)=[(.tmp 0,[some 1],none)]:=kr
theorem ahg:di Pg (Tryz.f97.results.toList.zip Tryz.f97.resultTypes.toList)=[(.tmp 2,[none],none)]:=kr
theorem ae5:di Pg (Tryz.f98.results.toList.zip Tryz.f98.resultTypes.toList)=[(.tmp 6,[none],none)]:=kr
theorem ae6:di Pg (Tryz.f99.results.toList.zip Tryz.f99.resultTypes.toList)=[(.tmp 4,[none],none)]:=kr
theorem ae7:gI Pg 109=some (5,1,[none],false,1,[.im 0 (.sc (.int .u8 0))]):=kr
theorem abU:gI Pg 157=some (9,1,[none],false,16,[z1]):=kr
theorem ahh:gI Pg 22=some (94,2,[none,none],true,16,[z0,z0]):=kr
theorem ae8:gI Pg 23=some (82,2,[none,some 1],true,40,[z1,.nil]):=kr
theorem ae9:gI Pg 26=some (54,3,[none,none,none],true,32,[z1,z0,z0]):=kr
theorem fO:gI Pg 29=some (2,1,[none],false,8,[z0]):=kr
theorem pK:gI Pg 32=some (92,2,[none,none],true,16,[z0,z0]):=kr
theorem Fa:gI Pg 33=some (95,2,[none,some 1],true,40,[z1,.nil]):=kr
theorem Ia:gI Pg 37=some (66,3,[none,none,none],true,32,[z1,z0,z0]):=kr
theorem uF:gI Pg 61=some (29,1,[some 1],false,24,[.nil]):=kr
theorem XR:gI Pg 98=some (99,1,[some 2],false,24,[.nil]):=kr
theorem XT:gI Pg 99=some (102,2,[none,none],true,16,[z0,z0]):=kr
theorem IU:tyF Pg 102=some ([z0,z0],[none,none],true,2):=kr
theorem tF2:tyF Pg 2=some ([z0],[none],false,1):=kr
theorem afa:tyF Pg 22=some ([.nil],[some 2],false,1):=kr
theorem afb:tyF Pg 23=some ([.nil],[some 2],false,1):=kr
theorem QU:tyF Pg 25=some ([z0,z0,.nil,.nil],[none,none,some 2,some 2],true,4):=kr
theorem oC:tyF Pg 29=some ([.nil],[some 1],false,1):=kr
theorem tF3:tyF Pg 3=some ([z0],[none],false,1):=kr
theorem Eh:tyF Pg 32=some ([.nil],[some 2],false,1):=kr
theorem BK:tyF Pg 33=some ([.nil],[some 2],false,1):=kr
theorem AX:tyF Pg 35=some ([z0,z0,.nil,.nil],[none,none,some 2,some 2],true,4):=kr
theorem adh:tyF Pg 37=some ([.nil],[some 3],false,1):=kr
theorem tF4:tyF Pg 4=some ([.im 0 (.sc (.bool false))],[none],false,1):=kr
theorem abb:tyF Pg 54=some ([z1,z0,z0],[none,none,none],true,3):=kr
theorem zl:tyF Pg 61=some ([.nil],[some 1],false,1):=kr
theorem ahi:tyF Pg 63=some ([.nil,.nil,z0,z0,.nil,z0,z0,.im 0 (.sc (.bool false))],[some 1,some 1,none,none,some 1,none,none,none],true,8):=kr
theorem Dy:tyF Pg 66=some ([z1,z0,z0],[none,none,none],true,3):=kr
theorem ahj:tyF Pg 72=some ([.nil,.nil,z0],[some 1,some 3,none],true,3):=kr
theorem abd:tyF Pg 82=some ([z1,.nil],[none,some 1],true,2):=kr
theorem tF9:tyF Pg 9=some ([z1],[none],false,1):=kr
theorem aK:tyF Pg 92=some ([z0,z0],[none,none],true,2):=kr
theorem afc:tyF Pg 94=some ([z0,z0],[none,none],true,2):=kr
theorem Fb:tyF Pg 95=some ([z1,.nil],[none,some 1],true,2):=kr
theorem O4:tyF Pg 98=some ([.nil],[some 1],false,1):=kr
theorem afd:tyF Pg 99=some ([.nil],[some 2],false,1):=kr
theorem afe:Pg.underlying 109=some (.slice 5):=kr
theorem aff:Pg.underlying 157=some (.slice 9):=kr
theorem adi:Pg.underlying 22=some (.slice 94):=kr
theorem abe:Pg.underlying 23=some (.slice 82):=kr
theorem abf:Pg.underlying 26=some (.slice 54):=kr
theorem l9:Pg.underlying 29=some (.slice 2):=kr
theorem uF3:Pg.underlying 3=some (.int .i64):=kr
theorem zQ:Pg.underlying 32=some (.slice 92):=kr
theorem IY:Pg.underlying 33=some (.slice 95):=kr
theorem Fe:Pg.underlying 37=some (.slice 66):=kr
theorem uF5:Pg.underlying 5=some (.int .u8):=kr
theorem Tt:Pg.underlying 61=some (.slice 29):=kr
theorem uF9:Pg.underlying 9=some .string:=kr
theorem abg:Pg.underlying 98=some (.slice 99):=kr
theorem adk:Pg.underlying 99=some (.slice 102):=kr
abbrev FX (i:Nat) (a:List Arg) (r:Res×List Out):Prop:=FL Tryz.prog cfg i a=some r
theorem IZ {a_0:(List af)} {fH:Int} {r:Int} (h:rY a_0 fH=some r):FX 23 [.im 2 false [W 2 az a_0],.im 2 false [I fH]] (B0 [(false,[.im 0 (I r)])]):=by
 unfold rY at h
 refine gn 12 Tryz.func23 rfl ?_
 refine gs<|g0 j j (q (ae j j)<|nl)<|us<|gs<|g0 j j (q (oMv j j)<|q (oMv j j)<|q (gB j j adi j)<|q (oBi j j j j)<|q (ae j j)<|nl)<|us<|gs<|gs<|g0 j j (q (oMv j j)<|q (oBi j j j j)<|nl)<|us<|gc h j ah (fun hc1 h=>?_) fun hc1 h=>?_
 ·refine gs<|g0 j j (q (ae j j)<|nl)<|us<|Go.ret (Unw.ret ?_)
  cases h
  exact fr aeQ j
 ·refine Go.skip<|us<|gs<|g0 j j (q (oMv j j)<|q (ae j j)<|nl)<|us<|Go.ret (Unw.ret ?_)
  cases h
  exact fr aeQ j
theorem I4 {a_0:(List Int)} {fH:Int} {r:Int} (h:rZ a_0 fH=some r):FX 66 [.im 2 false [W 1 eI a_0],.im 2 false [I fH]] (B0 [(false,[.im 0 (I r)])]):=by
 unfold rZ at h
 refine gn 12 Tryz.func66 rfl ?_
 refine gs<|g0 j j (q (ae j j)<|nl)<|us<|gs<|g0 j j (q (oMv j j)<|q (oMv j j)<|q (gB j j l9 j)<|q (oBi j j j j)<|q (ae j j)<|nl)<|us<|gs<|gs<|g0 j j (q (oMv j j)<|q (oBi j j j j)<|nl)<|us<|gc h j ah (fun hc1 h=>?_) fun hc1 h=>?_
 ·refine gs<|g0 j j (q (ae j j)<|nl)<|us<|Go.ret (Unw.ret ?_)
  cases h
  exact fr aeV j
 ·refine Go.skip<|us<|gs<|g0 j j (q (oMv j j)<|q (ae j j)<|nl)<|us<|Go.ret (Unw.ret ?_)
  cases h
  exact fr aeV j
theorem L8 {a_0:dh} {fH:Int} {r:Int} (h:wW a_0 fH=some r):FX 42 [.im 2 true (vF a_0),.im 2 false [I fH]] (B0 [(false,[.im 0 (I r)])]):=by
 unfold wW at h
 refine gn 19 Tryz.func42 rfl ?_
 refine gs<|g0 j j (q (oBx j abd j (tkI (tkI tk0)))<|q (ae j j)<|nl)<|us<|gs<|g0 j j (q (oMv j j)<|q (oFA (r':=.mp 2 0 0) j XB j j)<|q (oLd (cs:=[.im 0 _]) j tF9 j j)<|q (Sm j j uF9 j)<|q (oBi j j j j)<|q (ae j j)<|nl)<|us<|gs<|gs<|g0 j j (q (oMv j j)<|q (oBi j j j j)<|nl)<|us<|gc h j ah (fun hc1 h=>?_) fun hc1 h=>?_
 ·refine gs<|g0 j j (q (ae j j)<|nl)<|us<|Go.ret (Unw.ret ?_)
  cases h
  exact fr ada j
 ·refine Go.skip<|us<|gs<|?_
  obtain ⟨x15,AY,h⟩:=bs h
  refine g0 j j (q (oFA (r':=.mp 2 0 1) j XC j j)<|q (oLd (cs:=[.im 2 _]) j oC j j)<|q (oMv j j)<|q (oCa (xs:=[.v false [.im 2 _],.v false [.im 0 _]]) (vs:=[(false,[.im 0 _])]) (v:=.v false [.im 0 _]) (I4 AY) (.inl j) j Vx j (ppC j (ppC j pp0)) j j pb0 j j j)<|q (ae j j)<|nl)<|us<|gs<|gs<|g0 j j (q (oMv j j)<|q (oBi j j j j)<|nl)<|us<|gc h j ah (fun hc2 h=>?_) fun hc2 h=>?_
  ·refine gs<|g0 j j (q (ae j j)<|nl)<|us<|Go.ret (Unw.ret ?_)
   cases h
   exact fr ada j
  ·refine Go.skip<|us<|gs<|g0 j j (q (oMv j j)<|q (ae j j)<|nl)<|us<|Go.ret (Unw.ret ?_)
   cases h
   exact fr ada j
theorem KY {a_0:(List dh)} {fH:Int} {r:Int} (h:uP a_0 fH=some r):FX 24 [.im 2 false [W 2 bQ a_0],.im 2 false [I fH]] (B0 [(false,[.im 0 (I r)])]):=by
 unfold uP at h
 refine gn 27 Tryz.func24 rfl ?_
 refine gs<|g0 j j (q (ae j j)<|nl)<|us<|gs<|g0 j j (q (oMv j j)<|q (oMv j j)<|q (gB j j abe j)<|q (oBi j j j j)<|q (ae j j)<|nl)<|us<|gs<|gs<|g0 j j (q (oMv j j)<|q (oBi j j j j)<|nl)<|us<|gc h j ah (fun hc1 h=>?_) fun hc1 h=>?_
 ·refine gs<|g0 j j (q (ae j j)<|nl)<|us<|Go.ret (Unw.ret ?_)
  cases h
  exact fr ac5 j
 ·refine Go.skip<|us<|gs<|gs<|g0 j j (q (ae j j)<|nl)<|us<|Go.block<|?_
  obtain ⟨o,hl,h⟩:=bs h
  refine gl c24 j _ (fun (s:(Int×Int))=>match s with | (nR,vS)=>mk [(0,D 2 (W 2 bQ a_0)),(1,iv nR),(5,iv vS)] []) (fun (o:(Int ⊕ Int)) (p:Ex×St)=>match o with | (.inl kz)=>p.1= .exit 0∧p.2.norm ([1],[])=mk [(1,iv kz)] [] | (.inr r2)=>p.1= .ret∧fin Tryz.prog cfg 24 Tryz.f24 [.im 2 false [W 2 bQ a_0],.im 2 false [I fH]] p.2=some (B0 [(false,[.im 0 (I r2)])])) hl (by kernel_rfl) ?_ ?_ ?_
  ·intro o p hp e
   rcases o with kz | r2<;>exact nomatch (hp.1.symm.trans e)
  ·rintro ⟨nR,vS⟩ o h
   unfold oP at h
   dsimp only at h
   refine gs<|gs<|g0 j j (q (oMv j j)<|q (oMv j j)<|q (gB j j abe j)<|q (oBi j j j j)<|nl)<|us<|gc h j ah (fun hc6 h=>?_) fun hc6 h=>?_
   ·refine Go.skip<|us<|gs<|Go.block<|gs<|?_
    obtain ⟨x20,xM,h⟩:=bs h
    obtain ⟨x23,zn,h⟩:=bs h
    refine g0 j j (q (oMv j j)<|q (oMv j j)<|q (gp j xM ae8 j j)<|q (oLd (cs:=[.im 2 _,.im 2 _]) j abd j j)<|q (oMv j j)<|q (oCa (xs:=[.v true [.im 2 _,.im 2 _],.v false [.im 0 _]]) (vs:=[(false,[.im 0 _])]) (v:=.v false [.im 0 _]) (L8 zn) (.inl j) j Vs j (ppC j (ppC j pp0)) j j pb0 j j j)<|q (ae j j)<|nl)<|us<|gs<|g0 j j (q (oMv j j)<|q (oBi j j j j)<|nl)<|us<|gc h j ah (fun hc7 h=>?_) fun hc7 h=>?_
    ·refine gs<|g0 j j (q (ae j j)<|nl)<|us<|Go.ret (Unw.ret ?_)
     cases h
     exact ⟨j,(fo ac5 j)⟩
    ·refine Go.skip<|Unw.blk<|us<|g0 j j (q (oMv j j)<|q (oBi j j j j)<|q (ae j j)<|nl)<|Unw.nil<|?_
     cases h
     exact ⟨j,(by kernel_rfl)⟩
   ·refine Go.exit<|ux<|Unw.nil<|?_
    cases h
    exact ⟨j,(by kernel_rfl)⟩
  ·rintro ⟨e,st⟩ hp
   rcases o with kz | r2
   ·dsimp only at h
    obtain ⟨he,hst⟩:=hp
    obtain rfl:e= .exit 0:=he
    refine Unw.iT<|us<|gs<|g2 c24 j j hst (q (oMv j j)<|q (ae j j)<|nl)<|us<|Go.ret (Unw.ret ?_)
    cases h
    exact fr ac5 j
   ·dsimp only at h
    obtain ⟨he,hfin⟩:=hp
    obtain rfl:e= .ret:=he
    cases h
    exact Unw.ret (fM hfin)
theorem Ib {a_0:aA} {fH:Int} {r:Int} (h:qA a_0 fH=some r):FX 6 [.im 2 true (au a_0),.im 2 false [I fH]] (B0 [(false,[.im 0 (I r)])]):=by
 unfold qA at h
 refine gn 18 Tryz.func6 rfl ?_
 refine gs<|g0 j j (q (oBx j QU j (tkI (tkI (tkI (tkI tk0)))))<|q (ae j j)<|nl)<|us<|gs<|?_
 obtain ⟨x8,hx8,h⟩:=bs h
 refine g0 j j (q (oFA (r':=.mp 2 0 2) j Xw j j)<|q (oLd (cs:=[.im 2 _]) j afa j j)<|q (oMv j j)<|q (oCa (xs:=[.v false [.im 2 _],.v false [.im 2 _]]) (vs:=[(false,[.im 0 _])]) (v:=.v false [.im 0 _]) (IZ hx8) (.inl j) j Vm j (ppC j (ppC j pp0)) j j pb0 j j j)<|q (ae j j)<|nl)<|us<|gs<|gs<|g0 j j (q (oMv j j)<|q (oBi j j j j)<|nl)<|us<|gc h j ah (fun hc1 h=>?_) fun hc1 h=>?_
 ·refine gs<|g0 j j (q (ae j j)<|nl)<|us<|Go.ret (Unw.ret ?_)
  cases h
  exact fr rF6 j
 ·refine Go.skip<|us<|gs<|?_
  obtain ⟨x14,vG,h⟩:=bs h
  refine g0 j j (q (oFA (r':=.mp 2 0 3) j Xx j j)<|q (oLd (cs:=[.im 2 _]) j afb j j)<|q (oMv j j)<|q (oCa (xs:=[.v false [.im 2 _],.v false [.im 0 _]]) (vs:=[(false,[.im 0 _])]) (v:=.v false [.im 0 _]) (KY vG) (.inl j) j Vo j (ppC j (ppC j pp0)) j j pb0 j j j)<|q (ae j j)<|nl)<|us<|gs<|gs<|g0 j j (q (oMv j j)<|q (oBi j j j j)<|nl)<|us<|gc h j ah (fun hc2 h=>?_) fun hc2 h=>?_
  ·refine gs<|g0 j j (q (ae j j)<|nl)<|us<|Go.ret (Unw.ret ?_)
   cases h
   exact fr rF6 j
  ·refine Go.skip<|us<|gs<|g0 j j (q (oMv j j)<|q (ae j j)<|nl)<|us<|Go.ret (Unw.ret ?_)
   cases h
   exact fr rF6 j
theorem I5 {a_0:ai} {fH:Int} {r:Int} (h:su a_0 fH=some r):FX 25 [.im 2 true (iG a_0),.im 2 false [I fH]] (B0 [(false,[.im 0 (I r)])]):=by
 unfold su at h
 refine gn 13 Tryz.func25 rfl ?_
 refine gs<|g0 j j (q (oBx j abb j (tkI (tkI (tkI tk0))))<|q (ae j j)<|nl)<|us<|gs<|g0 j j (q (oMv j j)<|q (oFA (r':=.mp 2 0 0) j Xy j j)<|q (oLd (cs:=[.im 0 _]) j tF9 j j)<|q (Sm j j uF9 j)<|q (oBi j j j j)<|q (ae j j)<|nl)<|us<|gs<|gs<|g0 j j (q (oMv j j)<|q (oBi j j j j)<|nl)<|us<|gc h j ah (fun hc1 h=>?_) fun hc1 h=>?_
 ·refine gs<|g0 j j (q (ae j j)<|nl)<|us<|Go.ret (Unw.ret ?_)
  cases h
  exact fr aeR j
 ·refine Go.skip<|us<|gs<|g0 j j (q (oMv j j)<|q (ae j j)<|nl)<|us<|Go.ret (Unw.ret ?_)
  cases h
  exact fr aeR j
theorem Ic {a_0:(List ai)} {fH:Int} {r:Int} (h:qB a_0 fH=some r):FX 7 [.im 2 false [W 3 ak a_0],.im 2 false [I fH]] (B0 [(false,[.im 0 (I r)])]):=by
 unfold qB at h
 refine gn 27 Tryz.func7 rfl ?_
 refine gs<|g0 j j (q (ae j j)<|nl)<|us<|gs<|g0 j j (q (oMv j j)<|q (oMv j j)<|q (gB j j abf j)<|q (oBi j j j j)<|q (ae j j)<|nl)<|us<|gs<|gs<|g0 j j (q (oMv j j)<|q (oBi j j j j)<|nl)<|us<|gc h j ah (fun hc1 h=>?_) fun hc1 h=>?_
 ·refine gs<|g0 j j (q (ae j j)<|nl)<|us<|Go.ret (Unw.ret ?_)
  cases h
  exact fr rF7 j
 ·refine Go.skip<|us<|gs<|gs<|g0 j j (q (ae j j)<|nl)<|us<|Go.block<|?_
  obtain ⟨o,hl,h⟩:=bs h
  refine gl c7 j _ (fun (s:(Int×Int))=>match s with | (nR,vS)=>mk [(0,D 2 (W 3 ak a_0)),(1,iv nR),(5,iv vS)] []) (fun (o:(Int ⊕ Int)) (p:Ex×St)=>match o with | (.inl kz)=>p.1= .exit 0∧p.2.norm ([1],[])=mk [(1,iv kz)] [] | (.inr r2)=>p.1= .ret∧fin Tryz.prog cfg 7 Tryz.f7 [.im 2 false [W 3 ak a_0],.im 2 false [I fH]] p.2=some (B0 [(false,[.im 0 (I r2)])])) hl (by kernel_rfl) ?_ ?_ ?_
  ·intro o p hp e
   rcases o with kz | r2<;>exact nomatch (hp.1.symm.trans e)
  ·rintro ⟨nR,vS⟩ o h
   unfold mO at h
   dsimp only at h
   refine gs<|gs<|g0 j j (q (oMv j j)<|q (oMv j j)<|q (gB j j abf j)<|q (oBi j j j j)<|nl)<|us<|gc h j ah (fun hc6 h=>?_) fun hc6 h=>?_
   ·refine Go.skip<|us<|gs<|Go.block<|gs<|?_
    obtain ⟨x20,xM,h⟩:=bs h
    obtain ⟨x23,zn,h⟩:=bs h
    refine g0 j j (q (oMv j j)<|q (oMv j j)<|q (gp j xM ae9 j j)<|q (oLd (cs:=[.im 2 _,.im 2 _,.im 2 _]) j abb j j)<|q (oMv j j)<|q (oCa (xs:=[.v true [.im 2 _,.im 2 _,.im 2 _],.v false [.im 0 _]]) (vs:=[(false,[.im 0 _])]) (v:=.v false [.im 0 _]) (I5 zn) (.inl j) j Vp j (ppC j (ppC j pp0)) j j pb0 j j j)<|q (ae j j)<|nl)<|us<|gs<|g0 j j (q (oMv j j)<|q (oBi j j j j)<|nl)<|us<|gc h j ah (fun hc7 h=>?_) fun hc7 h=>?_
    ·refine gs<|g0 j j (q (ae j j)<|nl)<|us<|Go.ret (Unw.ret ?_)
     cases h
     exact ⟨j,(fo rF7 j)⟩
    ·refine Go.skip<|Unw.blk<|us<|g0 j j (q (oMv j j)<|q (oBi j j j j)<|q (ae j j)<|nl)<|Unw.nil<|?_
     cases h
     exact ⟨j,(by kernel_rfl)⟩
   ·refine Go.exit<|ux<|Unw.nil<|?_
    cases h
    exact ⟨j,(by kernel_rfl)⟩
  ·rintro ⟨e,st⟩ hp
   rcases o with kz | r2
   ·dsimp only at h
    obtain ⟨he,hst⟩:=hp
    obtain rfl:e= .exit 0:=he
    refine Unw.iT<|us<|gs<|g2 c7 j j hst (q (oMv j j)<|q (ae j j)<|nl)<|us<|Go.ret (Unw.ret ?_)
    cases h
    exact fr rF7 j
   ·dsimp only at h
    obtain ⟨he,hfin⟩:=hp
    obtain rfl:e= .ret:=he
    cases h
    exact Unw.ret (fM hfin)
theorem KZ {a_0:af} {r:af} (h:uQ a_0=some r):FX 50 [.im 2 true (aF a_0)] (B0 [(true,J 0 (aF r))]):=by
 unfold uQ at h
 refine gn 11 Tryz.func50 rfl ?_
 refine gs<|g0 j j (q (oBx j afc j (tkI (tkI tk0)))<|q (oAl j aK (tkI (tkI tk0)))<|nl)<|us<|gs<|g0 j j (q (oAl j aK (tkI (tkI tk0)))<|nl)<|us<|gs<|g0 j j (q (oFA (r':=.mp 1 0 0) j acW j j)<|q (oLd (cs:=[.im 0 _]) j tF2 j j)<|q (oFA (r':=.mp 3 0 0) j iH j j)<|q (oSt tF2 j j j (tkI tk0) j j j)<|nl)<|us<|gs<|g1 j j (mk [(1,M 1),(2,M 2),(3,M 3)] [(1,Oa (G 0 (aF a_0))),(2,Oa [C (I 0),C (I 0)]),(3,Oa [C (I a_0.X),C (I 0)])]) (q (oFA (r':=.mp 1 0 1) j acX j j)<|q (oLd (cs:=[.im 0 _]) j tF2 j j)<|q (oFA (r':=.mp 3 0 1) j jb j j)<|q (oSt tF2 j j j (tkI tk0) j j j)<|nl)<|us<|gs<|g1 j j (mk [(2,M 2),(3,M 3)] [(2,Oa [C (I 0),C (I 0)]),(3,Oa (G 0 (aF a_0)))]) (q (oLd (cs:=[.im 0 _,.im 0 _]) j aK j j)<|q (oSt aK j j j (tkI (tkI tk0)) j j j)<|nl)<|us<|Go.ret (Unw.ret ?_)
 cases h
 exact fr agR j
theorem I7 {a_0:(List af)} {r:(List af)} (h:sG a_0=some r):FX 30 [.im 2 false [W 2 az a_0]] (B0 [(false,[.ow 0 2 (List.map az r)])]):=by
 unfold sG at h
 refine gn 23 Tryz.func30 rfl ?_
 refine gs<|g0 j j (q (uO j j Xv)<|nl)<|us<|gs<|?_
 obtain ⟨x7,hx7,h⟩:=bs h
 refine g0 j j (q (oMv j j)<|q (gB j j adi j)<|q (oMk (en:=az) j hx7 j pK j j (fxI (fxI fx0)) j (dZ (L:=[_]) j fun _=>j))<|q (jZ j j j j j)<|nl)<|us<|gs<|gs<|g0 j j (q (ae j j)<|nl)<|us<|Go.block<|?_
 obtain ⟨o,hl,h⟩:=bs h
 refine gl c30 j _ (fun (s:(Int×(List af)))=>match s with | (bT,aW)=>mk [(0,D 2 (W 2 az a_0)),(3,H 3 0),(4,iv bT)] [(3,Oc [Z (W 2 az aW)])]) (fun (bu:(List af)) (p:Ex×St)=>p.1= .exit 0∧p.2.norm ([3],[3])=mk [(3,H 3 0)] [(3,Oc [Z (W 2 az bu)])]) hl (by kernel_rfl) ?_ ?_ ?_
 ·intro o p hp e
  exact nomatch (hp.1.symm.trans e)
 ·rintro ⟨bT,aW⟩ o h
  unfold nS at h
  dsimp only at h
  refine gs<|gs<|g0 j j (q (oMv j j)<|q (oMv j j)<|q (gB j j adi j)<|q (oBi j j j j)<|nl)<|us<|gc h j ah (fun hc3 h=>?_) fun hc3 h=>?_
  ·refine Go.skip<|us<|gs<|Go.block<|?_
   obtain ⟨x18,Ff,h⟩:=bs h
   obtain ⟨x20,xM,h⟩:=bs h
   obtain ⟨x21,L9,h⟩:=bs h
   refine g0 j j (q (oMv j j)<|q (oMv j j)<|q (oMv j j)<|q (oMv j j)<|q (gp j Ff ahh j j)<|q (oLd (cs:=[.im 2 _,.im 2 _]) j afc j j)<|q (oCa (xs:=[.v true [.im 2 _,.im 2 _]]) (vs:=[(true,[.im 0 _,.im 0 _])]) (v:=.v true [.im 0 _,.im 0 _]) (KZ xM) (.inl j) j aaN j (ppC j pp0) j j pb0 j j j)<|q (Ak j L9 pK j j j j)<|q (QB (v':=x20) aK j j j (fxI (fxI fx0)) j j (eX L9) j)<|nl)<|Unw.blk<|us<|g1 j j (mk [(0,D 2 (W 2 az a_0)),(3,H 3 0),(4,iv bT)] [(3,Oc [Z (W 2 az (aW.set bT.toNat x20))])]) (q (oMv j j)<|q (oBi j j j j)<|q (ae j j)<|nl)<|Unw.nil<|?_
   cases h
   exact ⟨j,(by kernel_rfl)⟩
  ·refine Go.exit<|ux<|Unw.nil<|?_
   cases h
   exact ⟨j,(by kernel_rfl)⟩
 ·rintro ⟨e,st⟩ hp
  obtain ⟨bu,rfl⟩:∃y,y=o:=⟨o,rfl⟩
  obtain ⟨he,hst⟩:=hp
  obtain rfl:e= .exit 0:=he
  refine Unw.iT<|us<|gs<|g2 c30 j j hst (q (oMv j j)<|q (jZ j j j j j)<|nl)<|us<|Go.ret (Unw.ret ?_)
  cases h
  exact fr agH j
theorem I8 {a_0:(List Int)} {r:(List Int)} (h:sH a_0=some r):FX 75 [.im 2 false [W 1 eI a_0]] (B0 [(false,[.ow 0 1 (List.map eI r)])]):=by
 unfold sH at h
 refine gn 22 Tryz.func75 rfl ?_
 refine gs<|g0 j j (q (uO j j Eg)<|nl)<|us<|gs<|?_
 obtain ⟨x7,hx7,h⟩:=bs h
 refine g0 j j (q (oMv j j)<|q (gB j j l9 j)<|q (oMk (en:=eI) j hx7 j fO j j (fxI fx0) j (dZ (L:=[_]) j fun _=>j))<|q (jZ j j j j j)<|nl)<|us<|gs<|gs<|g0 j j (q (ae j j)<|nl)<|us<|Go.block<|?_
 obtain ⟨o,hl,h⟩:=bs h
 refine gl c75 j _ (fun (s:(Int×(List Int)))=>match s with | (bT,aW)=>mk [(0,D 2 (W 1 eI a_0)),(3,H 3 0),(4,iv bT)] [(3,Oc [Z (W 1 eI aW)])]) (fun (bu:(List Int)) (p:Ex×St)=>p.1= .exit 0∧p.2.norm ([3],[3])=mk [(3,H 3 0)] [(3,Oc [Z (W 1 eI bu)])]) hl (by kernel_rfl) ?_ ?_ ?_
 ·intro o p hp e
  exact nomatch (hp.1.symm.trans e)
 ·rintro ⟨bT,aW⟩ o h
  unfold nU at h
  dsimp only at h
  refine gs<|gs<|g0 j j (q (oMv j j)<|q (oMv j j)<|q (gB j j l9 j)<|q (oBi j j j j)<|nl)<|us<|gc h j ah (fun hc3 h=>?_) fun hc3 h=>?_
  ·refine Go.skip<|us<|gs<|Go.block<|?_
   obtain ⟨x18,Ff,h⟩:=bs h
   obtain ⟨x20,xM,h⟩:=bs h
   refine g0 j j (q (oMv j j)<|q (oMv j j)<|q (oMv j j)<|q (oMv j j)<|q (gp j Ff fO j j)<|q (oLd (cs:=[.im 2 _]) j tF2 j j)<|q (Ak j xM fO j j j j)<|q (QB (v':=x18) tF2 j j j (fxI fx0) j j (eX xM) j)<|nl)<|Unw.blk<|us<|g1 j j (mk [(0,D 2 (W 1 eI a_0)),(3,H 3 0),(4,iv bT)] [(3,Oc [Z (W 1 eI (aW.set bT.toNat x18))])]) (q (oMv j j)<|q (oBi j j j j)<|q (ae j j)<|nl)<|Unw.nil<|?_
   cases h
   exact ⟨j,(by kernel_rfl)⟩
  ·refine Go.exit<|ux<|Unw.nil<|?_
   cases h
   exact ⟨j,(by kernel_rfl)⟩
 ·rintro ⟨e,st⟩ hp
  obtain ⟨bu,rfl⟩:∃y,y=o:=⟨o,rfl⟩
  obtain ⟨he,hst⟩:=hp
  obtain rfl:e= .exit 0:=he
  refine Unw.iT<|us<|gs<|g2 c75 j j hst (q (oMv j j)<|q (jZ j j j j j)<|nl)<|us<|Go.ret (Unw.ret ?_)
  cases h
  exact fr ag4 j
theorem Mc {a_0:dh} {r:dh} (h:wX a_0=some r):FX 51 [.im 2 true (vF a_0)] (B0 [(true,[.im 0 (Y r.Name),.ow 0 1 (List.map eI r.Ring)])]):=by
 unfold wX at h
 refine gn 12 Tryz.func51 rfl ?_
 refine gs<|g0 j j (q (oBx j abd j (tkI (tkI tk0)))<|q (oAl j Fb (tkI (tkN tk0)))<|nl)<|us<|gs<|g0 j j (q (oAl j Fb (tkI (tkN tk0)))<|nl)<|us<|gs<|g0 j j (q (oFA (r':=.mp 1 0 0) j XB j j)<|q (oLd (cs:=[.im 0 _]) j tF9 j j)<|q (oFA (r':=.mp 3 0 0) j zO j j)<|q (oSt tF9 j j j (tkI tk0) j j j)<|nl)<|us<|gs<|?_
 obtain ⟨x9,hx9,h⟩:=bs h
 refine g1 j j (mk [(1,M 1),(2,M 2),(3,M 3)] [(1,Oa (G 2 (vF a_0))),(2,Oa [C (Y (⟨#[]⟩:ByteArray)),Z (W 1 eI ([]:List Int))]),(3,Oa [C (Y a_0.Name),Z (W 1 eI ([]:List Int))])]) (q (oFA (r':=.mp 1 0 1) j XC j j)<|q (oLd (cs:=[.im 2 _]) j oC j j)<|q (oCr (xs:=[.v false [.im 2 _]]) (vs:=[(false,[.own 9 0 0])]) (v:=.v false [.own 9 0 0]) (c:=⟨.sh,0,_⟩) (cs:=[]) (I8 hx9) (.inl j) j aaX j (ppC j pp0) j j pb0 j j j)<|q (oFA (r':=.mp 3 0 1) j BI j j)<|q (oSt oC j j j (tkO j j tk0) j j j)<|nl)<|us<|gs<|g1 j j (mk [(2,M 2),(3,M 3)] [(2,Oa [C (Y (⟨#[]⟩:ByteArray)),Z (W 1 eI ([]:List Int))]),(3,Oa [C (Y a_0.Name),Z (W 1 eI x9)])]) (q (oLd (cs:=[.im 0 _,.own 3 0 1]) j Fb j j)<|q (oSt Fb j j j (tkI (tkO j j tk0)) j j j)<|nl)<|us<|Go.ret (Unw.ret ?_)
 cases h
 exact fr agS j
theorem La {a_0:(List dh)} {r:(List dh)} (h:uS a_0=some r):FX 31 [.im 2 false [W 2 bQ a_0]] (B0 [(false,[.ow 0 2 (List.map bQ r)])]):=by
 unfold uS at h
 refine gn 23 Tryz.func31 rfl ?_
 refine gs<|g0 j j (q (uO j j agz)<|nl)<|us<|gs<|?_
 obtain ⟨x7,hx7,h⟩:=bs h
 refine g0 j j (q (oMv j j)<|q (gB j j abe j)<|q (oMk (en:=bQ) j hx7 j Fa j j (fxI (fxN fx0)) j (Df j))<|q (jZ j j j j j)<|nl)<|us<|gs<|gs<|g0 j j (q (ae j j)<|nl)<|us<|Go.block<|?_
 obtain ⟨o,hl,h⟩:=bs h
 refine gl c31 j _ (fun (s:(Int×(List dh)))=>match s with | (bT,aW)=>mk [(0,D 2 (W 2 bQ a_0)),(3,H 3 0),(4,iv bT)] [(3,Oc [Z (W 2 bQ aW)])]) (fun (bu:(List dh)) (p:Ex×St)=>p.1= .exit 0∧p.2.norm ([3],[3])=mk [(3,H 3 0)] [(3,Oc [Z (W 2 bQ bu)])]) hl (by kernel_rfl) ?_ ?_ ?_
 ·intro o p hp e
  exact nomatch (hp.1.symm.trans e)
 ·rintro ⟨bT,aW⟩ o h
  unfold oQ at h
  dsimp only at h
  refine gs<|gs<|g0 j j (q (oMv j j)<|q (oMv j j)<|q (gB j j abe j)<|q (oBi j j j j)<|nl)<|us<|gc h j ah (fun hc3 h=>?_) fun hc3 h=>?_
  ·refine Go.skip<|us<|gs<|Go.block<|?_
   obtain ⟨x18,Ff,h⟩:=bs h
   obtain ⟨x20,xM,h⟩:=bs h
   obtain ⟨x21,L9,h⟩:=bs h
   refine g0 j j (q (oMv j j)<|q (oMv j j)<|q (oMv j j)<|q (oMv j j)<|q (gp j Ff ae8 j j)<|q (oLd (cs:=[.im 2 _,.im 2 _]) j abd j j)<|q (oCr (xs:=[.v true [.im 2 _,.im 2 _]]) (vs:=[(true,[.im 0 _,.own 20 0 0])]) (v:=.v true [.im 0 _,.own 20 0 0]) (c:=⟨.sh,0,_⟩) (cs:=[]) (Mc xM) (.inl j) j aaO j (ppC j pp0) j j pb0 j j j)<|q (Ak j L9 Fa j j j j)<|q (QB (v':=x20) Fb j j j (fxI (fxO j j fx0)) j j (eX L9) j)<|nl)<|Unw.blk<|us<|g1 j j (mk [(0,D 2 (W 2 bQ a_0)),(3,H 3 0),(4,iv bT)] [(3,Oc [Z (W 2 bQ (aW.set bT.toNat x20))])]) (q (oMv j j)<|q (oBi j j j j)<|q (ae j j)<|nl)<|Unw.nil<|?_
   cases h
   exact ⟨j,(by kernel_rfl)⟩
  ·refine Go.exit<|ux<|Unw.nil<|?_
   cases h
   exact ⟨j,(by kernel_rfl)⟩
 ·rintro ⟨e,st⟩ hp
  obtain ⟨bu,rfl⟩:∃y,y=o:=⟨o,rfl⟩
  obtain ⟨he,hst⟩:=hp
  obtain rfl:e= .exit 0:=he
  refine Unw.iT<|us<|gs<|g2 c31 j j hst (q (oMv j j)<|q (jZ j j j j j)<|nl)<|us<|Go.ret (Unw.ret ?_)
  cases h
  exact fr agI j
theorem rf {a_0:aA} {r:aA} (h:kC a_0=some r):FX 9 [.im 2 true (au a_0)] (B0 [(true,[.im 0 (I r.Width),.im 0 (I r.Height),.ow 0 2 (List.map az r.bg),.ow 0 2 (List.map bQ r.aC)])]):=by
 unfold kC at h
 refine gn 19 Tryz.func9 rfl ?_
 refine gs<|g0 j j (q (oBx j QU j (tkI (tkI (tkI (tkI tk0)))))<|q (oAl j AX (tkI (tkI (tkN (tkN tk0)))))<|nl)<|us<|gs<|g0 j j (q (oAl j AX (tkI (tkI (tkN (tkN tk0)))))<|nl)<|us<|gs<|g0 j j (q (oFA (r':=.mp 1 0 0) j acQ j j)<|q (oLd (cs:=[.im 0 _]) j tF2 j j)<|q (oFA (r':=.mp 3 0 0) j E8 j j)<|q (oSt tF2 j j j (tkI tk0) j j j)<|nl)<|us<|gs<|g1 j j (mk [(1,M 1),(2,M 2),(3,M 3)] [(1,Oa (G 2 (au a_0))),(2,Oa [C (I 0),C (I 0),Z (W 2 az ([]:List af)),Z (W 2 bQ ([]:List dh))]),(3,Oa [C (I a_0.Width),C (I 0),Z (W 2 az ([]:List af)),Z (W 2 bQ ([]:List dh))])]) (q (oFA (r':=.mp 1 0 1) j acR j j)<|q (oLd (cs:=[.im 0 _]) j tF2 j j)<|q (oFA (r':=.mp 3 0 1) j Dq j j)<|q (oSt tF2 j j j (tkI tk0) j j j)<|nl)<|us<|gs<|?_
 obtain ⟨x12,zS,h⟩:=bs h
 refine g1 j j (mk [(1,M 1),(2,M 2),(3,M 3)] [(1,Oa (G 2 (au a_0))),(2,Oa [C (I 0),C (I 0),Z (W 2 az ([]:List af)),Z (W 2 bQ ([]:List dh))]),(3,Oa [C (I a_0.Width),C (I a_0.Height),Z (W 2 az ([]:List af)),Z (W 2 bQ ([]:List dh))])]) (q (oFA (r':=.mp 1 0 2) j Xw j j)<|q (oLd (cs:=[.im 2 _]) j afa j j)<|q (oCr (xs:=[.v false [.im 2 _]]) (vs:=[(false,[.own 12 0 0])]) (v:=.v false [.own 12 0 0]) (c:=⟨.sh,0,_⟩) (cs:=[]) (I7 zS) (.inl j) j aaG j (ppC j pp0) j j pb0 j j j)<|q (oFA (r':=.mp 3 0 2) j rM j j)<|q (oSt Eh j j j (tkO j j tk0) j j j)<|nl)<|us<|gs<|?_
 obtain ⟨x16,hx16,h⟩:=bs h
 refine g1 j j (mk [(1,M 1),(2,M 2),(3,M 3)] [(1,Oa (G 2 (au a_0))),(2,Oa [C (I 0),C (I 0),Z (W 2 az ([]:List af)),Z (W 2 bQ ([]:List dh))]),(3,Oa [C (I a_0.Width),C (I a_0.Height),Z (W 2 az x12),Z (W 2 bQ ([]:List dh))])]) (q (oFA (r':=.mp 1 0 3) j Xx j j)<|q (oLd (cs:=[.im 2 _]) j afb j j)<|q (oCr (xs:=[.v false [.im 2 _]]) (vs:=[(false,[.own 16 0 0])]) (v:=.v false [.own 16 0 0]) (c:=⟨.sh,0,_⟩) (cs:=[]) (La hx16) (.inl j) j aaH j (ppC j pp0) j j pb0 j j j)<|q (oFA (r':=.mp 3 0 3) j oO j j)<|q (oSt BK j j j (tkO j j tk0) j j j)<|nl)<|us<|gs<|g1 j j (mk [(2,M 2),(3,M 3)] [(2,Oa [C (I 0),C (I 0),Z (W 2 az ([]:List af)),Z (W 2 bQ ([]:List dh))]),(3,Oa [C (I a_0.Width),C (I a_0.Height),Z (W 2 az x12),Z (W 2 bQ x16)])]) (q (oLd (cs:=[.im 0 _,.im 0 _,.own 3 0 2,.own 3 0 3]) j AX j j)<|q (oSt AX j j j (tkI (tkI (tkO j j (tkO j j tk0)))) j j j)<|nl)<|us<|Go.ret (Unw.ret ?_)
 cases h
 exact fr rF9 j
theorem I9 {a_0:ai} {r:ai} (h:sJ a_0=some r):FX 32 [.im 2 true (iG a_0)] (B0 [(true,J 0 (iG r))]):=by
 unfold sJ at h
 refine gn 14 Tryz.func32 rfl ?_
 refine gs<|g0 j j (q (oBx j abb j (tkI (tkI (tkI tk0))))<|q (oAl j Dy (tkI (tkI (tkI tk0))))<|nl)<|us<|gs<|g0 j j (q (oAl j Dy (tkI (tkI (tkI tk0))))<|nl)<|us<|gs<|g0 j j (q (oFA (r':=.mp 1 0 0) j Xy j j)<|q (oLd (cs:=[.im 0 _]) j tF9 j j)<|q (oFA (r':=.mp 3 0 0) j H8 j j)<|q (oSt tF9 j j j (tkI tk0) j j j)<|nl)<|us<|gs<|g1 j j (mk [(1,M 1),(2,M 2),(3,M 3)] [(1,Oa (G 0 (iG a_0))),(2,Oa [C (Y (⟨#[]⟩:ByteArray)),C (I 0),C (I 0)]),(3,Oa [C (Y a_0.jl),C (I 0),C (I 0)])]) (q (oFA (r':=.mp 1 0 1) j acS j j)<|q (oLd (cs:=[.im 0 _]) j tF2 j j)<|q (oFA (r':=.mp 3 0 1) j rO j j)<|q (oSt tF2 j j j (tkI tk0) j j j)<|nl)<|us<|gs<|g1 j j (mk [(1,M 1),(2,M 2),(3,M 3)] [(1,Oa (G 0 (iG a_0))),(2,Oa [C (Y (⟨#[]⟩:ByteArray)),C (I 0),C (I 0)]),(3,Oa [C (Y a_0.jl),C (I a_0.dO),C (I 0)])]) (q (oFA (r':=.mp 1 0 2) j acT j j)<|q (oLd (cs:=[.im 0 _]) j tF2 j j)<|q (oFA (r':=.mp 3 0 2) j zN j j)<|q (oSt tF2 j j j (tkI tk0) j j j)<|nl)<|us<|gs<|g1 j j (mk [(2,M 2),(3,M 3)] [(2,Oa [C (Y (⟨#[]⟩:ByteArray)),C (I 0),C (I 0)]),(3,Oa (G 0 (iG a_0)))]) (q (oLd (cs:=[.im 0 _,.im 0 _,.im 0 _]) j Dy j j)<|q (oSt Dy j j j (tkI (tkI (tkI tk0))) j j j)<|nl)<|us<|Go.ret (Unw.ret ?_)
 cases h
 exact fr agJ j
theorem rq {a_0:(List ai)} {r:(List ai)} (h:kD a_0=some r):FX 10 [.im 2 false [W 3 ak a_0]] (B0 [(false,[.ow 0 3 (List.map ak r)])]):=by
 unfold kD at h
 refine gn 23 Tryz.func10 rfl ?_
 refine gs<|g0 j j (q (uO j j agA)<|nl)<|us<|gs<|?_
 obtain ⟨x7,hx7,h⟩:=bs h
 refine g0 j j (q (oMv j j)<|q (gB j j abf j)<|q (oMk (en:=ak) j hx7 j Ia j j (fxI (fxI (fxI fx0))) j (dZ (L:=[_]) j fun _=>j))<|q (jZ j j j j j)<|nl)<|us<|gs<|gs<|g0 j j (q (ae j j)<|nl)<|us<|Go.block<|?_
 obtain ⟨o,hl,h⟩:=bs h
 refine gl c10 j _ (fun (s:(Int×(List ai)))=>match s with | (bT,aW)=>mk [(0,D 2 (W 3 ak a_0)),(3,H 3 0),(4,iv bT)] [(3,Oc [Z (W 3 ak aW)])]) (fun (bu:(List ai)) (p:Ex×St)=>p.1= .exit 0∧p.2.norm ([3],[3])=mk [(3,H 3 0)] [(3,Oc [Z (W 3 ak bu)])]) hl (by kernel_rfl) ?_ ?_ ?_
 ·intro o p hp e
  exact nomatch (hp.1.symm.trans e)
 ·rintro ⟨bT,aW⟩ o h
  unfold mP at h
  dsimp only at h
  refine gs<|gs<|g0 j j (q (oMv j j)<|q (oMv j j)<|q (gB j j abf j)<|q (oBi j j j j)<|nl)<|us<|gc h j ah (fun hc3 h=>?_) fun hc3 h=>?_
  ·refine Go.skip<|us<|gs<|Go.block<|?_
   obtain ⟨x18,Ff,h⟩:=bs h
   obtain ⟨x20,xM,h⟩:=bs h
   obtain ⟨x21,L9,h⟩:=bs h
   refine g0 j j (q (oMv j j)<|q (oMv j j)<|q (oMv j j)<|q (oMv j j)<|q (gp j Ff ae9 j j)<|q (oLd (cs:=[.im 2 _,.im 2 _,.im 2 _]) j abb j j)<|q (oCa (xs:=[.v true [.im 2 _,.im 2 _,.im 2 _]]) (vs:=[(true,[.im 0 _,.im 0 _,.im 0 _])]) (v:=.v true [.im 0 _,.im 0 _,.im 0 _]) (I9 xM) (.inl j) j aaI j (ppC j pp0) j j pb0 j j j)<|q (Ak j L9 Ia j j j j)<|q (QB (v':=x20) Dy j j j (fxI (fxI (fxI fx0))) j j (eX L9) j)<|nl)<|Unw.blk<|us<|g1 j j (mk [(0,D 2 (W 3 ak a_0)),(3,H 3 0),(4,iv bT)] [(3,Oc [Z (W 3 ak (aW.set bT.toNat x20))])]) (q (oMv j j)<|q (oBi j j j j)<|q (ae j j)<|nl)<|Unw.nil<|?_
   cases h
   exact ⟨j,(by kernel_rfl)⟩
  ·refine Go.exit<|ux<|Unw.nil<|?_
   cases h
   exact ⟨j,(by kernel_rfl)⟩
 ·rintro ⟨e,st⟩ hp
  obtain ⟨bu,rfl⟩:∃y,y=o:=⟨o,rfl⟩
  obtain ⟨he,hst⟩:=hp
  obtain rfl:e= .exit 0:=he
  refine Unw.iT<|us<|gs<|g2 c10 j j hst (q (oMv j j)<|q (jZ j j j j j)<|nl)<|us<|Go.ret (Unw.ret ?_)
  cases h
  exact fr agC j
theorem fP {n_0:Int} {Aq:Int} {vT:Int} {r:Bool} (h:fV n_0 Aq vT=some r):FX 45 [.im 2 false [I n_0],.im 2 false [I Aq],.im 2 false [I vT]] (B0 [(false,[.im 0 (V r)])]):=by
 unfold fV at h
 refine gn 15 Tryz.func45 rfl ?_
 refine gs<|g0 j j (q (ae j j)<|nl)<|us<|gs<|gX c45 j j j (mk [(6,bv ((decide (n_0≥Aq))&&(decide (n_0≤vT))))] []) ?_ ?_
 ·refine xq (oMv j j)<|xq (oMv j j)<|xq (oBi j j j j)<|xq (oMv j j)<|?_
  by_cases hc1:n_0≥Aq
  ·exact xqT rfl rfl (ah.2 hc1) (oMv rfl rfl)<|xqT rfl rfl (ah.2 hc1) (oMv rfl rfl)<|xqT rfl rfl (ah.2 hc1) (oBi rfl rfl rfl rfl)<|xq (bF rfl rfl (ah.2 hc1) rfl)<|xq (ae rfl rfl)<|xn (Eq.trans (b:=(fun lK:Bool=>mk [(6,bv lK)] []) (decide (n_0≤vT))) (by kernel_rfl) (congrArg (fun lK:Bool=>mk [(6,bv lK)] []) (by first | rfl | (simp [(ah.2 hc1)];done) | (simp [(ah.2 hc1)];omega))))
  ·exact aj rfl rfl (byF ah hc1) rfl<|aj rfl rfl (byF ah hc1) rfl<|aj rfl rfl (byF ah hc1) rfl<|xq (dK rfl rfl (byF ah hc1) rfl)<|xq (ae rfl rfl)<|xn (Eq.trans (b:=(fun lK:Bool=>mk [(6,bv lK)] []) false) (by kernel_rfl) (congrArg (fun lK:Bool=>mk [(6,bv lK)] []) (by first | rfl | (simp [(byF ah hc1)];done) | (simp [(byF ah hc1)];omega))))
 ·refine us<|Go.ret (Unw.ret ?_)
  cases h
  exact fr agN j
theorem Ie {d_0:aA} {r:Bool} (h:uT d_0=some r):FX 67 [.im 2 false [.cp (au d_0) 0]] (B0 [(false,[.im 0 (V r)])]):=by
 unfold uT at h
 refine gn 70 Tryz.func67 rfl ?_
 refine gs<|g0 j j (q (ae j j)<|nl)<|us<|gs<|gs<|g0 j j (q (oMv j j)<|q (oNl j j j)<|q (oFA (r':=.im 2 _) j rM j j)<|q (oLd (cs:=[.im 2 _]) j Eh j j)<|q (gB j j zQ j)<|q (oBi j j j j)<|nl)<|us<|gc h j ah (fun hc1 h=>?_) fun hc1 h=>?_
 ·refine gs<|g0 j j (q (ae j j)<|nl)<|us<|Go.ret (Unw.ret ?_)
  cases h
  exact fr aa9 j
 ·refine Go.skip<|us<|gs<|gs<|g0 j j (q (ae j j)<|nl)<|us<|Go.block<|?_
  obtain ⟨o,hl,h⟩:=bs h
  refine gl c67 j _ (fun (dI:Int)=>mk [(0,D 2 (.cp (au d_0) 0)),(3,iv dI)] []) (fun (o:(Unit ⊕ Bool)) (p:Ex×St)=>match o with | (.inl _)=>p.1= .exit 0∧p.2.norm ([],[])=mk [] [] | (.inr r2)=>p.1= .ret∧fin Tryz.prog cfg 67 Tryz.f67 [.im 2 false [.cp (au d_0) 0]] p.2=some (B0 [(false,[.im 0 (V r2)])])) hl (by kernel_rfl) ?_ ?_ ?_
  ·intro o p hp e
   rcases o with u | r2<;>exact nomatch (hp.1.symm.trans e)
  ·rintro dI o h
   unfold kJ at h
   refine gs<|gs<|g0 j j (q (oMv j j)<|q (oMv j j)<|q (oNl j j j)<|q (oFA (r':=.im 2 _) j rM j j)<|q (oLd (cs:=[.im 2 _]) j Eh j j)<|q (gB j j zQ j)<|q (oBi j j j j)<|nl)<|us<|gc h j ah (fun hc18 h=>?_) fun hc18 h=>?_
   ·refine Go.skip<|us<|gs<|Go.block<|gs<|gs<|?_
    obtain ⟨x25,hx25,h⟩:=bs h
    obtain ⟨x32,hx32,h⟩:=bs h
    obtain ⟨Bv,Dz,h⟩:=bs h
    refine gd c67 j j j j (mk [(0,D 2 (.cp (au d_0) 0)),(3,iv dI),(49,bv Bv)] []) ?_ ?_
    ·refine t j j (oMv j j)<|t j j (oNl j j j)<|t j j (oFA (r':=.im 2 _) j rM j j)<|t j j (oLd (cs:=[.im 2 _]) j Eh j j)<|t j j (oMv j j)<|t j j (gp j hx25 pK j j)<|t j j (oFA (r':=.im 2 _) j iH j j)<|t j j (oLd (cs:=[.im 2 _]) j tF2 j j)<|t j j (oMv j j)<|t j j (oNl j j j)<|t j j (oFA (r':=.im 2 _) j E8 j j)<|?_
     refine ic Dz (fun hc19 Dz=>?_) fun hc19 Dz=>?_
     ·obtain ⟨x40,Ig,Dz⟩:=bs Dz
      obtain ⟨x47,Tu,Dz⟩:=bs Dz
      cases Dz
      exact t j j (oLd (cs:=[.im 2 _]) j tF2 j j)<|sS (dN z67 j (oCa (xs:=[.v false [.im 2 _],.v false [.im 0 _],.v false [.im 2 _]]) (vs:=[(false,[.im 0 _])]) (v:=.v false [.im 0 _]) (fP hx32) (.inl j) j iM j (ppC j (ppC j (ppC j pp0))) j j pb0 j j j)) trivial (t j j (oUn j j j)<|t j j (oMv j j)<|tT j j j j (nF (iR.2 hc19)) (oMv j j)<|tT j j j j (nF (iR.2 hc19)) (oNl j j j)<|tT j j j j (nF (iR.2 hc19)) (oFA (r':=.im 2 _) j rM j j)<|tT j j j j (nF (iR.2 hc19)) (oLd (cs:=[.im 2 _]) j Eh j j)<|tT j j j j (nF (iR.2 hc19)) (oMv j j)<|tT j j j j (nF (iR.2 hc19)) (gp j Ig pK j j)<|tT j j j j (nF (iR.2 hc19)) (oFA (r':=.im 2 _) j jb j j)<|tT j j j j (nF (iR.2 hc19)) (oLd (cs:=[.im 2 _]) j tF2 j j)<|tT j j j j (nF (iR.2 hc19)) (oMv j j)<|tT j j j j (nF (iR.2 hc19)) (oNl j j j)<|tT j j j j (nF (iR.2 hc19)) (oFA (r':=.im 2 _) j Dq j j)<|tT j j j j (nF (iR.2 hc19)) (oLd (cs:=[.im 2 _]) j tF2 j j)<|sS (dT z67 j j j (nF (iR.2 hc19)) (oCa (xs:=[.v false [.im 2 _],.v false [.im 0 _],.v false [.im 2 _]]) (vs:=[(false,[.im 0 _])]) (v:=.v false [.im 0 _]) (fP Tu) (.inl j) j iM j (ppC j (ppC j (ppC j pp0))) j j pb0 j j j)) trivial (tT j j j j (nF (iR.2 hc19)) (oUn j j j)<|t j j (dK j j (nF (iR.2 hc19)) j)<|sD (by kernel_rfl)))
     ·cases Dz
      exact t j j (oLd (cs:=[.im 2 _]) j tF2 j j)<|sS (dN z67 j (oCa (xs:=[.v false [.im 2 _],.v false [.im 0 _],.v false [.im 2 _]]) (vs:=[(false,[.im 0 _])]) (v:=.v false [.im 0 _]) (fP hx32) (.inl j) j iM j (ppC j (ppC j (ppC j pp0))) j j pb0 j j j)) trivial (t j j (oUn j j j)<|t j j (oMv j j)<|tF j j j j (nT (byF iR hc19)) j<|tF j j j j (nT (byF iR hc19)) j<|tF j j j j (nT (byF iR hc19)) j<|tF j j j j (nT (byF iR hc19)) j<|tF j j j j (nT (byF iR hc19)) j<|tF j j j j (nT (byF iR hc19)) j<|tF j j j j (nT (byF iR hc19)) j<|tF j j j j (nT (byF iR hc19)) j<|tF j j j j (nT (byF iR hc19)) j<|tF j j j j (nT (byF iR hc19)) j<|tF j j j j (nT (byF iR hc19)) j<|tF j j j j (nT (byF iR hc19)) j<|sS (dF j j j (nT (byF iR hc19)) j) trivial (tF j j j j (nT (byF iR hc19)) j<|t j j (bF j j (nT (byF iR hc19)) j)<|sD (by kernel_rfl)))
    ·refine us<|gc h j iR (fun Fg h=>?_) fun Fg h=>?_
     ·refine gs<|g0 j j (q (ae j j)<|nl)<|us<|Go.ret (Unw.ret ?_)
      cases h
      exact ⟨j,(fo aa9 j)⟩
     ·refine Go.skip<|us<|gs<|g0 j j (q (ae j j)<|nl)<|us<|Go.block<|?_
      obtain ⟨o,hl,h⟩:=bs h
      refine gl c67 j _ (fun (EX:Int)=>mk [(0,D 2 (.cp (au d_0) 0)),(3,iv dI),(4,iv EX)] []) (fun (o:(Unit ⊕ Bool)) (p:Ex×St)=>match o with | (.inl _)=>p.1= .exit 2∧p.2.norm ([0,3],[])=mk [(0,D 2 (.cp (au d_0) 0)),(3,iv dI)] [] | (.inr r2)=>p.1= .ret∧fin Tryz.prog cfg 67 Tryz.f67 [.im 2 false [.cp (au d_0) 0]] p.2=some (B0 [(false,[.im 0 (V r2)])])) hl (by kernel_rfl) ?_ ?_ ?_
      ·intro o p hp e
       rcases o with u | r2<;>exact nomatch (hp.1.symm.trans e)
      ·rintro EX o h
       unfold kH at h
       refine gs<|gs<|g0 j j (q (oMv j j)<|q (oMv j j)<|q (oBi j j j j)<|nl)<|us<|gc h j ah (fun hc25 h=>?_) fun hc25 h=>?_
       ·refine Go.skip<|us<|gs<|Go.block<|gs<|?_
        obtain ⟨x60,adl,h⟩:=bs h
        obtain ⟨x67,qj,h⟩:=bs h
        refine gd c67 j j j j (mk [(0,D 2 (.cp (au d_0) 0)),(3,iv dI),(4,iv EX),(69,bv ((x60.X==x67.X)&&(x60.Y==x67.Y)))] []) (t j j (oMv j j)<|t j j (oNl j j j)<|t j j (oFA (r':=.im 2 _) j rM j j)<|t j j (oLd (cs:=[.im 2 _]) j Eh j j)<|t j j (oMv j j)<|t j j (gp j adl pK j j)<|t j j (oLd (cs:=[.im 2 _,.im 2 _]) j aK j j)<|t j j (oMv j j)<|t j j (oNl j j j)<|t j j (oFA (r':=.im 2 _) j rM j j)<|t j j (oLd (cs:=[.im 2 _]) j Eh j j)<|t j j (oMv j j)<|t j j (gp j qj pK j j)<|t j j (oLd (cs:=[.im 2 _,.im 2 _]) j aK j j)<|t j j (oBa j (UD x60.X x60.Y x67.X x67.Y) j j j j)<|sD (by kernel_rfl))<|us<|gc h j (xU iEq iEq) (fun XU h=>?_) fun XU h=>?_
        ·refine gs<|g0 j j (q (ae j j)<|nl)<|us<|Go.ret (Unw.ret ?_)
         cases h
         exact ⟨j,(fo aa9 j)⟩
        ·refine Go.skip<|Unw.blk<|us<|g0 j j (q (oMv j j)<|q (oBi j j j j)<|q (ae j j)<|nl)<|Unw.nil<|?_
         cases h
         exact ⟨j,(by kernel_rfl)⟩
       ·refine Go.exit<|ux<|Unw.nil<|?_
        cases h
        exact ⟨j,(by kernel_rfl)⟩
      ·rintro ⟨e,st⟩ hp
       rcases o with u | r2
       ·dsimp only at h
        obtain ⟨he,hst⟩:=hp
        obtain rfl:e= .exit 2:=he
        refine Unw.iT<|Unw.blk<|us<|g2 c67 j j hst (q (oMv j j)<|q (oBi j j j j)<|q (ae j j)<|nl)<|Unw.nil<|?_
        cases h
        exact ⟨j,(by kernel_rfl)⟩
       ·dsimp only at h
        obtain ⟨he,hfin⟩:=hp
        obtain rfl:e= .ret:=he
        cases h
        exact Unw.ret ⟨j,hfin⟩
   ·refine Go.exit<|ux<|Unw.nil<|?_
    cases h
    exact ⟨j,(by kernel_rfl)⟩
  ·rintro ⟨e,st⟩ hp
   rcases o with u | r2
   ·dsimp only at h
    obtain ⟨he,hst⟩:=hp
    obtain rfl:e= .exit 0:=he
    refine Unw.iT<|us<|gs<|g2 c67 j j hst (q (ae j j)<|nl)<|us<|Go.ret (Unw.ret ?_)
    cases h
    exact fr aa9 j
   ·dsimp only at h
    obtain ⟨he,hfin⟩:=hp
    obtain rfl:e= .ret:=he
    cases h
    exact Unw.ret (fM hfin)
theorem BX {c_0:Int} {r:Bool} (h:nD c_0=some r):FX 89 [.im 2 false [.sc (.int .u8 c_0)]] (B0 [(false,[.im 0 (V r)])]):=by
 unfold nD at h
 refine gn 9 Tryz.func89 rfl ?_
 refine gs<|g0 j j (q (ae j j)<|nl)<|us<|gs<|gX c89 j j j (mk [(2,bv ((decide (c_0≥97))&&(decide (c_0≤122))))] []) ?_ ?_
 ·refine xq (oMv j j)<|xq (oBi j j j j)<|xq (oMv j j)<|?_
  by_cases hc1:c_0≥97
  ·exact xqT rfl rfl (ah.2 hc1) (oMv rfl rfl)<|xqT rfl rfl (ah.2 hc1) (oBi rfl rfl rfl rfl)<|xq (bF rfl rfl (ah.2 hc1) rfl)<|xq (ae rfl rfl)<|xn (Eq.trans (b:=(fun lJ:Bool=>mk [(2,bv lJ)] []) (decide (c_0≤122))) (by kernel_rfl) (congrArg (fun lJ:Bool=>mk [(2,bv lJ)] []) (by first | rfl | (simp [(ah.2 hc1)];done) | (simp [(ah.2 hc1)];omega))))
  ·exact aj rfl rfl (byF ah hc1) rfl<|aj rfl rfl (byF ah hc1) rfl<|xq (dK rfl rfl (byF ah hc1) rfl)<|xq (ae rfl rfl)<|xn (Eq.trans (b:=(fun lJ:Bool=>mk [(2,bv lJ)] []) false) (by kernel_rfl) (congrArg (fun lJ:Bool=>mk [(2,bv lJ)] []) (by first | rfl | (simp [(byF ah hc1)];done) | (simp [(byF ah hc1)];omega))))
 ·refine us<|Go.ret (Unw.ret ?_)
  cases h
  exact fr ag9 j
theorem Ja {c_0:Int} {r:Bool} (h:sN c_0=some r):FX 90 [.im 2 false [.sc (.int .u8 c_0)]] (B0 [(false,[.im 0 (V r)])]):=by
 unfold sN at h
 refine gn 9 Tryz.func90 rfl ?_
 refine gs<|g0 j j (q (ae j j)<|nl)<|us<|gs<|gX c90 j j j (mk [(2,bv ((decide (c_0≥48))&&(decide (c_0≤57))))] []) ?_ ?_
 ·refine xq (oMv j j)<|xq (oBi j j j j)<|xq (oMv j j)<|?_
  by_cases hc1:c_0≥48
  ·exact xqT rfl rfl (ah.2 hc1) (oMv rfl rfl)<|xqT rfl rfl (ah.2 hc1) (oBi rfl rfl rfl rfl)<|xq (bF rfl rfl (ah.2 hc1) rfl)<|xq (ae rfl rfl)<|xn (Eq.trans (b:=(fun lJ:Bool=>mk [(2,bv lJ)] []) (decide (c_0≤57))) (by kernel_rfl) (congrArg (fun lJ:Bool=>mk [(2,bv lJ)] []) (by first | rfl | (simp [(ah.2 hc1)];done) | (simp [(ah.2 hc1)];omega))))
  ·exact aj rfl rfl (byF ah hc1) rfl<|aj rfl rfl (byF ah hc1) rfl<|xq (dK rfl rfl (byF ah hc1) rfl)<|xq (ae rfl rfl)<|xn (Eq.trans (b:=(fun lJ:Bool=>mk [(2,bv lJ)] []) false) (by kernel_rfl) (congrArg (fun lJ:Bool=>mk [(2,bv lJ)] []) (by first | rfl | (simp [(byF ah hc1)];done) | (simp [(byF ah hc1)];omega))))
 ·refine us<|Go.ret (Unw.ret ?_)
  cases h
  exact fr aha j
theorem y7 {s_0:ByteArray} {r:Bool} (h:uU s_0=some r):FX 68 [.im 2 false [Y s_0]] (B0 [(false,[.im 0 (V r)])]):=by
 unfold uU at h
 refine gn 35 Tryz.func68 rfl ?_
 refine gs<|g0 j j (q (ae j j)<|nl)<|us<|gs<|gs<|?_
 obtain ⟨Bz,Ih,h⟩:=bs h
 refine gX c68 j j j (mk [(0,sv s_0),(16,bv Bz)] []) ?_ ?_
 ·refine xq (oMv j j)<|xq (oBi j j j j)<|xq (oMv j j)<|?_
  refine ic Ih (fun hc1 Ih=>?_) fun hc1 Ih=>?_
  ·cases Ih
   exact aj j j (zI.2 hc1) j<|aj j j (zI.2 hc1) j<|aj j j (zI.2 hc1) j<|xq (bF j j (zI.2 hc1) j)<|xq (oMv j j)<|aj j j j j<|aj j j j j<|aj j j j j<|aj j j j j<|xq (bF j j j j)<|xn
  ·refine xqT j j (byF zI hc1) (oMv j j)<|xqT j j (byF zI hc1) (Sm j j uF9 j)<|xqT j j (byF zI hc1) (oBi j j j j)<|xq (dK j j (byF zI hc1) j)<|xq (oMv j j)<|?_
   refine ic Ih (fun hc2 Ih=>?_) fun hc2 Ih=>?_
   ·cases Ih
    exact aj j j (ah.2 hc2) j<|aj j j (ah.2 hc2) j<|aj j j (ah.2 hc2) j<|aj j j (ah.2 hc2) j<|xq (bF j j (ah.2 hc2) j)<|xn
   ·obtain ⟨x13,O5,Ih⟩:=bs Ih
    obtain ⟨x14,vG,Ih⟩:=bs Ih
    cases Ih
    exact xqT j j (byF ah hc2) (oMv j j)<|xqT j j (byF ah hc2) (oIx j O5 uF9 j j)<|xqT j j (byF ah hc2) (oCa (xs:=[.v false [.im 0 _]]) (vs:=[(false,[.im 0 _])]) (v:=.v false [.im 0 _]) (BX vG) (.inl j) j XL j (ppC j pp0) j j pb0 j j j)<|xqT j j (byF ah hc2) (oUn j j j)<|xq (dK j j (byF ah hc2) j)<|xn
 ·refine us<|gc h j iR (fun hc3 h=>?_) fun hc3 h=>?_
  ·refine gs<|g0 j j (q (ae j j)<|nl)<|us<|Go.ret (Unw.ret ?_)
   cases h
   exact fr adf j
  ·refine Go.skip<|us<|gs<|gs<|g0 j j (q (ae j j)<|nl)<|us<|Go.block<|?_
   obtain ⟨o,hl,h⟩:=bs h
   refine gl c68 j _ (fun (dI:Int)=>mk [(0,sv s_0),(3,iv dI)] []) (fun (o:(Unit ⊕ Bool)) (p:Ex×St)=>match o with | (.inl _)=>p.1= .exit 0∧p.2.norm ([],[])=mk [] [] | (.inr r2)=>p.1= .ret∧fin Tryz.prog cfg 68 Tryz.f68 [.im 2 false [Y s_0]] p.2=some (B0 [(false,[.im 0 (V r2)])])) hl (by kernel_rfl) ?_ ?_ ?_
   ·intro o p hp e
    rcases o with u | r2<;>exact nomatch (hp.1.symm.trans e)
   ·rintro dI o h
    unfold kM at h
    refine gs<|gs<|g0 j j (q (oMv j j)<|q (oMv j j)<|q (Sm j j uF9 j)<|q (oBi j j j j)<|nl)<|us<|gc h j ah (fun hc12 h=>?_) fun hc12 h=>?_
    ·refine Go.skip<|us<|gs<|Go.block<|gs<|?_
     obtain ⟨x25,hx25,h⟩:=bs h
     obtain ⟨x26,O6,h⟩:=bs h
     obtain ⟨OC,O7,h⟩:=bs h
     refine gX c68 j j j (mk [(0,sv s_0),(3,iv dI),(34,bv OC)] []) ?_ ?_
     ·refine xq (oMv j j)<|xq (oMv j j)<|xq (oIx j hx25 uF9 j j)<|xq (oCa (xs:=[.v false [.im 0 _]]) (vs:=[(false,[.im 0 _])]) (v:=.v false [.im 0 _]) (BX O6) (.inl j) j XL j (ppC j pp0) j j pb0 j j j)<|xq (oUn j j j)<|xq (oMv j j)<|?_
      refine ic O7 (fun hc13 O7=>?_) fun hc13 O7=>?_
      ·cases O7
       exact aj j j (nF (iR.2 hc13)) j<|aj j j (nF (iR.2 hc13)) j<|aj j j (nF (iR.2 hc13)) j<|aj j j (nF (iR.2 hc13)) j<|aj j j (nF (iR.2 hc13)) j<|xq (dK j j (nF (iR.2 hc13)) j)<|xn
      ·obtain ⟨x31,hx31,O7⟩:=bs O7
       obtain ⟨x32,hx32,O7⟩:=bs O7
       cases O7
       exact xqT j j (nT (byF iR hc13)) (oMv j j)<|xqT j j (nT (byF iR hc13)) (oMv j j)<|xqT j j (nT (byF iR hc13)) (oIx j hx31 uF9 j j)<|xqT j j (nT (byF iR hc13)) (oCa (xs:=[.v false [.im 0 _]]) (vs:=[(false,[.im 0 _])]) (v:=.v false [.im 0 _]) (Ja hx32) (.inl j) j acZ j (ppC j pp0) j j pb0 j j j)<|xqT j j (nT (byF iR hc13)) (oUn j j j)<|xq (bF j j (nT (byF iR hc13)) j)<|xn
     ·refine us<|gc h j iR (fun AZ h=>?_) fun AZ h=>?_
      ·refine gs<|g0 j j (q (ae j j)<|nl)<|us<|Go.ret (Unw.ret ?_)
       cases h
       exact ⟨j,(fo adf j)⟩
      ·refine Go.skip<|Unw.blk<|us<|g0 j j (q (oMv j j)<|q (oBi j j j j)<|q (ae j j)<|nl)<|Unw.nil<|?_
       cases h
       exact ⟨j,(by kernel_rfl)⟩
    ·refine Go.exit<|ux<|Unw.nil<|?_
     cases h
     exact ⟨j,(by kernel_rfl)⟩
   ·rintro ⟨e,st⟩ hp
    rcases o with u | r2
    ·dsimp only at h
     obtain ⟨he,hst⟩:=hp
     obtain rfl:e= .exit 0:=he
     refine Unw.iT<|us<|gs<|g2 c68 j j hst (q (ae j j)<|nl)<|us<|Go.ret (Unw.ret ?_)
     cases h
     exact fr adf j
    ·dsimp only at h
     obtain ⟨he,hfin⟩:=hp
     obtain rfl:e= .ret:=he
     cases h
     exact Unw.ret (fM hfin)
theorem Lc {d_0:aA} {lI:(List Int)} {r:((List af)×Bool)} (h:uV d_0 lI=some r):FX 69 [.im 2 false [.cp (au d_0) 0],.im 2 false [W 1 eI lI]] (B0 [(false,[.ow 0 2 (List.map az r.1)]),(false,[.im 0 (V r.2)])]):=by
 unfold uV at h
 refine gn 41 Tryz.func69 rfl ?_
 refine gs<|g0 j j (q (uO j j Xv)<|q (ae j j)<|nl)<|us<|gs<|g0 j j (q (oBS (es:=List.map az ([]:List af)) j pK j pt0 (dZ j fun _=>j))<|q (jZ j j j j j)<|nl)<|us<|gs<|gs<|g0 j j (q (ae j j)<|nl)<|us<|Go.block<|?_
 obtain ⟨o,hl,h⟩:=bs h
 refine gl c69 j _ (fun (s:(Int×(List af)))=>match s with | (BA,mF)=>mk [(0,D 2 (.cp (au d_0) 0)),(1,D 2 (W 1 eI lI)),(6,H 6 0),(7,iv BA)] [(6,Oc [Z (W 2 az mF)])]) (fun (o:((List af) ⊕ ((List af)×Bool))) (p:Ex×St)=>match o with | (.inl kE)=>p.1= .exit 0∧p.2.norm ([6],[6])=mk [(6,H 6 0)] [(6,Oc [Z (W 2 az kE)])] | (.inr r2)=>p.1= .ret∧fin Tryz.prog cfg 69 Tryz.f69 [.im 2 false [.cp (au d_0) 0],.im 2 false [W 1 eI lI]] p.2=some (B0 [(false,[.ow 0 2 (List.map az r2.1)]),(false,[.im 0 (V r2.2)])])) hl (by kernel_rfl) ?_ ?_ ?_
 ·intro o p hp e
  rcases o with kE | r2<;>exact nomatch (hp.1.symm.trans e)
 ·rintro ⟨BA,mF⟩ o h
  unfold xX at h
  dsimp only at h
  refine gs<|gs<|g0 j j (q (oMv j j)<|q (oMv j j)<|q (gB j j l9 j)<|q (oBi j j j j)<|nl)<|us<|gc h j ah (fun hc5 h=>?_) fun hc5 h=>?_
  ·refine Go.skip<|us<|gs<|Go.block<|gs<|gs<|?_
   obtain ⟨x17,Ld,h⟩:=bs h
   obtain ⟨x25,hx25,h⟩:=bs h
   refine gd c69 j j j j (mk [(0,D 2 (.cp (au d_0) 0)),(1,D 2 (W 1 eI lI)),(6,H 6 0),(7,iv BA),(26,bv (!x25))] [(6,Oc [Z (W 2 az mF)])]) (t j j (oMv j j)<|t j j (oMv j j)<|t j j (gp j Ld fO j j)<|t j j (oLd (cs:=[.im 2 _]) j tF2 j j)<|t j j (oMv j j)<|t j j (oNl j j j)<|t j j (oFA (r':=.im 2 _) j rM j j)<|t j j (oLd (cs:=[.im 2 _]) j Eh j j)<|t j j (gB j j zQ j)<|t j j (oBi j j j j)<|sS (dN z69 j (oCa (xs:=[.v false [.im 2 _],.v false [.im 0 _],.v false [.im 0 _]]) (vs:=[(false,[.im 0 _])]) (v:=.v false [.im 0 _]) (fP hx25) (.inl j) j iM j (ppC j (ppC j (ppC j pp0))) j j pb0 j j j)) trivial (t j j (oUn j j j)<|sD (by kernel_rfl)))<|us<|?_
   by_cases hc6:x25=true
   ·rw [if_pos hc6] at h
    refine gF j (nF (iR.2 hc6))<|Go.skip<|us<|?_
    obtain ⟨x34,hx34,h⟩:=bs h
    obtain ⟨x36,Ce,h⟩:=bs h
    obtain ⟨x39,hx39,h⟩:=bs h
    refine gd c69 j j j j (mk [(0,D 2 (.cp (au d_0) 0)),(1,D 2 (W 1 eI lI)),(6,H 6 0),(7,iv BA)] [(6,Oc [Z (W 2 az x39)])]) (t j j (oMv j j)<|t j j (oMv j j)<|t j j (oNl j j j)<|t j j (oFA (r':=.im 2 _) j rM j j)<|t j j (oLd (cs:=[.im 2 _]) j Eh j j)<|t j j (oMv j j)<|t j j (oMv j j)<|t j j (gp j hx34 fO j j)<|t j j (oLd (cs:=[.im 2 _]) j tF2 j j)<|t j j (gp j Ce pK j j)<|t j j (oLd (cs:=[.im 2 _,.im 2 _]) j aK j j)<|sS (dN z69 j (oBS (es:=List.map az ([x36]:List af)) j pK j (ptC j (fxI (fxI fx0)) j pt0) (dZ j fun _=>j))) trivial (sS (dN z69 j (ET (en:=az) (M:=([x36]:List af)) j hx39 j pK j j zQ (.inl ⟨_,j⟩) j j j j (kL j j) (dZ j fun _=>j))) trivial (sS (dN z69 j (jZ j j j j j)) trivial (sD (by kernel_rfl)))))<|Unw.blk<|us<|g0 j j (q (oMv j j)<|q (oBi j j j j)<|q (ae j j)<|nl)<|Unw.nil<|?_
    cases h
    exact ⟨j,(by kernel_rfl)⟩
   ·rw [if_neg hc6] at h
    refine gT j (nT (byF iR hc6))<|gs<|g0 j j (q (uO j j Xv)<|q (ae j j)<|nl)<|us<|Go.ret (Unw.ret ?_)
    cases h
    exact ⟨j,(fo aeW j)⟩
  ·refine Go.exit<|ux<|Unw.nil<|?_
   cases h
   exact ⟨j,(by kernel_rfl)⟩
 ·rintro ⟨e,st⟩ hp
  rcases o with kE | r2
  ·dsimp only at h
   obtain ⟨he,hst⟩:=hp
   obtain rfl:e= .exit 0:=he
   refine Unw.iT<|us<|gs<|g2 c69 j j hst (q (oMv j j)<|q (jZ j j j j j)<|q (ae j j)<|nl)<|us<|Go.ret (Unw.ret ?_)
   cases h
   exact fr aeW j
  ·dsimp only at h
   obtain ⟨he,hfin⟩:=hp
   obtain rfl:e= .ret:=he
   cases h
   exact Unw.ret (fM hfin)
theorem O8 {p_0:af} {r:Bool} (h:EY p_0=some r):FX 91 [.im 2 true (aF p_0)] (B0 [(false,[.im 0 (V r)])]):=by
 unfold EY at h
 refine gn 11 Tryz.func91 rfl ?_
 refine gs<|g0 j j (q (oBx j aK j (tkI (tkI tk0)))<|q (ae j j)<|nl)<|us<|gs<|?_
 obtain ⟨x5,hx5,h⟩:=bs h
 obtain ⟨lJ,hm2,h⟩:=bs h
 refine gX c91 j j j (mk [(2,bv lJ)] []) ?_ ?_
 ·refine xq (oFA (r':=.mp 1 0 0) j iH j j)<|xq (oLd (cs:=[.im 0 _]) j tF2 j j)<|xq (oCa (xs:=[.v false [.im 0 _],.v false [.im 0 _],.v false [.im 0 _]]) (vs:=[(false,[.im 0 _])]) (v:=.v false [.im 0 _]) (fP hx5) (.inl j) j iM j (ppC j (ppC j (ppC j pp0))) j j pb0 j j j)<|xq (oMv j j)<|?_
  refine ic hm2 (fun hc1 hm2=>?_) fun hc1 hm2=>?_
  ·obtain ⟨x9,hx9,hm2⟩:=bs hm2
   cases hm2
   exact xqT j j (iR.2 hc1) (oFA (r':=.mp 1 0 1) j jb j j)<|xqT j j (iR.2 hc1) (oLd (cs:=[.im 0 _]) j tF2 j j)<|xqT j j (iR.2 hc1) (oCa (xs:=[.v false [.im 0 _],.v false [.im 0 _],.v false [.im 0 _]]) (vs:=[(false,[.im 0 _])]) (v:=.v false [.im 0 _]) (fP hx9) (.inl j) j iM j (ppC j (ppC j (ppC j pp0))) j j pb0 j j j)<|xq (bF j j (iR.2 hc1) j)<|xq (ae j j)<|xn
  ·cases hm2
   exact aj j j (byF iR hc1) j<|aj j j (byF iR hc1) j<|aj j j (byF iR hc1) j<|xq (dK j j (byF iR hc1) j)<|xq (ae j j)<|xn
 ·refine us<|Go.ret (Unw.ret ?_)
  cases h
  exact fr ahb j
theorem Jb {a_0:af} {b_1:af} {c_2:af} {r:Int} (h:wJ a_0 b_1 c_2=some r):FX 131 [.im 2 true (aF a_0),.im 2 true (aF b_1),.im 2 true (aF c_2)] (B0 [(false,[.im 0 (I r)])]):=by
 unfold wJ at h
 refine gn 30 Tryz.func131 rfl ?_
 refine gs<|g0 j j (q (oBx j aK j (tkI (tkI tk0)))<|q (oBx j aK j (tkI (tkI tk0)))<|q (oBx j aK j (tkI (tkI tk0)))<|q (ae j j)<|nl)<|us<|gs<|g0 j j (q (oFA (r':=.mp 4 0 0) j iH j j)<|q (oLd (cs:=[.im 0 _]) j tF2 j j)<|q (oFA (r':=.mp 3 0 0) j iH j j)<|q (oLd (cs:=[.im 0 _]) j tF2 j j)<|q (oBi j j j j)<|q (oFA (r':=.mp 5 0 1) j jb j j)<|q (oLd (cs:=[.im 0 _]) j tF2 j j)<|q (oFA (r':=.mp 3 0 1) j jb j j)<|q (oLd (cs:=[.im 0 _]) j tF2 j j)<|q (oBi j j j j)<|q (oBi j j j j)<|q (oFA (r':=.mp 4 0 1) j jb j j)<|q (oLd (cs:=[.im 0 _]) j tF2 j j)<|q (oFA (r':=.mp 3 0 1) j jb j j)<|q (oLd (cs:=[.im 0 _]) j tF2 j j)<|q (oBi j j j j)<|q (oFA (r':=.mp 5 0 0) j iH j j)<|q (oLd (cs:=[.im 0 _]) j tF2 j j)<|q (oFA (r':=.mp 3 0 0) j iH j j)<|q (oLd (cs:=[.im 0 _]) j tF2 j j)<|q (oBi j j j j)<|q (oBi j j j j)<|q (oBi j j j j)<|q (ae j j)<|nl)<|us<|Go.ret (Unw.ret ?_)
 cases h
 exact fr aeN j
theorem jr {a_0:af} {b_1:af} {c_2:af} {r:Int} (h:kW a_0 b_1 c_2=some r):FX 118 [.im 2 true (aF a_0),.im 2 true (aF b_1),.im 2 true (aF c_2)] (B0 [(false,[.im 0 (I r)])]):=by
 unfold kW at h
 refine gn 16 Tryz.func118 rfl ?_
 refine gs<|g0 j j (q (oBx j aK j (tkI (tkI tk0)))<|q (oBx j aK j (tkI (tkI tk0)))<|q (oBx j aK j (tkI (tkI tk0)))<|q (ae j j)<|nl)<|us<|gs<|?_
 obtain ⟨x11,XV,h⟩:=bs h
 refine g0 j j (q (oLd (cs:=[.im 0 _,.im 0 _]) j aK j j)<|q (oLd (cs:=[.im 0 _,.im 0 _]) j aK j j)<|q (oLd (cs:=[.im 0 _,.im 0 _]) j aK j j)<|q (oCa (xs:=[.v true [.im 0 _,.im 0 _],.v true [.im 0 _,.im 0 _],.v true [.im 0 _,.im 0 _]]) (vs:=[(false,[.im 0 _])]) (v:=.v false [.im 0 _]) (Jb XV) (.inl j) j KR j (ppC j (ppC j (ppC j pp0))) j j pb0 j j j)<|q (ae j j)<|nl)<|us<|gs<|gs<|g0 j j (q (oMv j j)<|q (oBi j j j j)<|nl)<|us<|gc h j ah (fun hc1 h=>?_) fun hc1 h=>?_
 ·refine gs<|g0 j j (q (ae j j)<|nl)<|us<|Go.ret (Unw.ret ?_)
  cases h
  exact fr XM j
 ·refine Go.skip<|us<|gs<|gs<|g0 j j (q (oMv j j)<|q (oBi j j j j)<|nl)<|us<|gc h j ah (fun hc2 h=>?_) fun hc2 h=>?_
  ·refine gs<|g0 j j (q (ae j j)<|nl)<|us<|Go.ret (Unw.ret ?_)
   cases h
   exact fr XM j
  ·refine Go.skip<|us<|gs<|g0 j j (q (ae j j)<|nl)<|us<|Go.ret (Unw.ret ?_)
   cases h
   exact fr XM j
theorem wR {a_0:Int} {b_1:Int} {r:Int} (h:mQ a_0 b_1=some r):FX 99 [.im 2 false [I a_0],.im 2 false [I b_1]] (B0 [(false,[.im 0 (I r)])]):=by
 unfold mQ at h
 refine gn 10 Tryz.func99 rfl ?_
 refine gs<|g0 j j (q (ae j j)<|nl)<|us<|gs<|gs<|g0 j j (q (oMv j j)<|q (oMv j j)<|q (oBi j j j j)<|nl)<|us<|gc h j ah (fun hc1 h=>?_) fun hc1 h=>?_
 ·refine gs<|g0 j j (q (oMv j j)<|q (ae j j)<|nl)<|us<|Go.ret (Unw.ret ?_)
  cases h
  exact fr ae6 j
 ·refine Go.skip<|us<|gs<|g0 j j (q (oMv j j)<|q (ae j j)<|nl)<|us<|Go.ret (Unw.ret ?_)
  cases h
  exact fr ae6 j
theorem sZ {a_0:Int} {b_1:Int} {r:Int} (h:kZ a_0 b_1=some r):FX 73 [.im 2 false [I a_0],.im 2 false [I b_1]] (B0 [(false,[.im 0 (I r)])]):=by
 unfold kZ at h
 refine gn 10 Tryz.func73 rfl ?_
 refine gs<|g0 j j (q (ae j j)<|nl)<|us<|gs<|gs<|g0 j j (q (oMv j j)<|q (oMv j j)<|q (oBi j j j j)<|nl)<|us<|gc h j ah (fun hc1 h=>?_) fun hc1 h=>?_
 ·refine gs<|g0 j j (q (oMv j j)<|q (ae j j)<|nl)<|us<|Go.ret (Unw.ret ?_)
  cases h
  exact fr aeY j
 ·refine Go.skip<|us<|gs<|g0 j j (q (oMv j j)<|q (ae j j)<|nl)<|us<|Go.ret (Unw.ret ?_)
  cases h
  exact fr aeY j
theorem ru {a_0:af} {b_1:af} {p_2:af} {r:Bool} (h:nG a_0 b_1 p_2=some r):FX 92 [.im 2 true (aF a_0),.im 2 true (aF b_1),.im 2 true (aF p_2)] (B0 [(false,[.im 0 (V r)])]):=by
 unfold nG at h
 refine gn 42 Tryz.func92 rfl ?_
 refine gs<|g0 j j (q (oBx j aK j (tkI (tkI tk0)))<|q (oBx j aK j (tkI (tkI tk0)))<|q (oBx j aK j (tkI (tkI tk0)))<|q (ae j j)<|nl)<|us<|gs<|?_
 obtain ⟨x10,Ii,h⟩:=bs h
 obtain ⟨lK,hm3,h⟩:=bs h
 refine gd c92 j j j j (mk [(6,bv lK)] []) ?_ ?_
 ·refine t j j (oLd (cs:=[.im 0 _,.im 0 _]) j aK j j)<|t j j (oLd (cs:=[.im 0 _,.im 0 _]) j aK j j)<|?_
  refine ic hm3 (fun hc1 hm3=>?_) fun hc1 hm3=>?_
  ·obtain ⟨x19,zo,hm3⟩:=bs hm3
   obtain ⟨x24,hx24,hm3⟩:=bs hm3
   obtain ⟨x25,hx25,hm3⟩:=bs hm3
   refine ic hm3 (fun hc2 hm3=>?_) fun hc2 hm3=>?_
   ·obtain ⟨x34,hx34,hm3⟩:=bs hm3
    obtain ⟨x39,hx39,hm3⟩:=bs hm3
    obtain ⟨x40,Ig,hm3⟩:=bs hm3
    cases hm3
    exact t j j (oLd (cs:=[.im 0 _,.im 0 _]) j aK j j)<|sS (dN z92 j (oCa (xs:=[.v true [.im 0 _,.im 0 _],.v true [.im 0 _,.im 0 _],.v true [.im 0 _,.im 0 _]]) (vs:=[(false,[.im 0 _])]) (v:=.v false [.im 0 _]) (jr Ii) (.inl j) j jq j (ppC j (ppC j (ppC j pp0))) j j pb0 j j j)) trivial (t j j (oBi j j j j)<|t j j (oMv j j)<|tT j j j j (iEq.2 hc1) (oFA (r':=.mp 5 0 0) j iH j j)<|tT j j j j (iEq.2 hc1) (oLd (cs:=[.im 0 _]) j tF2 j j)<|tT j j j j (iEq.2 hc1) (oFA (r':=.mp 3 0 0) j iH j j)<|tT j j j j (iEq.2 hc1) (oLd (cs:=[.im 0 _]) j tF2 j j)<|tT j j j j (iEq.2 hc1) (oFA (r':=.mp 4 0 0) j iH j j)<|tT j j j j (iEq.2 hc1) (oLd (cs:=[.im 0 _]) j tF2 j j)<|tT j j j j (iEq.2 hc1) (oFA (r':=.mp 3 0 0) j iH j j)<|tT j j j j (iEq.2 hc1) (oLd (cs:=[.im 0 _]) j tF2 j j)<|tT j j j j (iEq.2 hc1) (oFA (r':=.mp 4 0 0) j iH j j)<|tT j j j j (iEq.2 hc1) (oLd (cs:=[.im 0 _]) j tF2 j j)<|sS (dT z92 j j j (iEq.2 hc1) (oCa (xs:=[.v false [.im 0 _],.v false [.im 0 _]]) (vs:=[(false,[.im 0 _])]) (v:=.v false [.im 0 _]) (wR zo) (.inl j) j Gu j (ppC j (ppC j pp0)) j j pb0 j j j)) trivial (sS (dT z92 j j j (iEq.2 hc1) (oCa (xs:=[.v false [.im 0 _],.v false [.im 0 _]]) (vs:=[(false,[.im 0 _])]) (v:=.v false [.im 0 _]) (sZ hx24) (.inl j) j Dw j (ppC j (ppC j pp0)) j j pb0 j j j)) trivial (sS (dT z92 j j j (iEq.2 hc1) (oCa (xs:=[.v false [.im 0 _],.v false [.im 0 _],.v false [.im 0 _]]) (vs:=[(false,[.im 0 _])]) (v:=.v false [.im 0 _]) (fP hx25) (.inl j) j iM j (ppC j (ppC j (ppC j pp0))) j j pb0 j j j)) trivial (t j j (bF j j (iEq.2 hc1) j)<|t j j (oMv j j)<|tT j j j j (iR.2 hc2) (oFA (r':=.mp 5 0 1) j jb j j)<|tT j j j j (iR.2 hc2) (oLd (cs:=[.im 0 _]) j tF2 j j)<|tT j j j j (iR.2 hc2) (oFA (r':=.mp 3 0 1) j jb j j)<|tT j j j j (iR.2 hc2) (oLd (cs:=[.im 0 _]) j tF2 j j)<|tT j j j j (iR.2 hc2) (oFA (r':=.mp 4 0 1) j jb j j)<|tT j j j j (iR.2 hc2) (oLd (cs:=[.im 0 _]) j tF2 j j)<|tT j j j j (iR.2 hc2) (oFA (r':=.mp 3 0 1) j jb j j)<|tT j j j j (iR.2 hc2) (oLd (cs:=[.im 0 _]) j tF2 j j)<|tT j j j j (iR.2 hc2) (oFA (r':=.mp 4 0 1) j jb j j)<|tT j j j j (iR.2 hc2) (oLd (cs:=[.im 0 _]) j tF2 j j)<|sS (dT z92 j j j (iR.2 hc2) (oCa (xs:=[.v false [.im 0 _],.v false [.im 0 _]]) (vs:=[(false,[.im 0 _])]) (v:=.v false [.im 0 _]) (wR hx34) (.inl j) j Gu j (ppC j (ppC j pp0)) j j pb0 j j j)) trivial (sS (dT z92 j j j (iR.2 hc2) (oCa (xs:=[.v false [.im 0 _],.v false [.im 0 _]]) (vs:=[(false,[.im 0 _])]) (v:=.v false [.im 0 _]) (sZ hx39) (.inl j) j Dw j (ppC j (ppC j pp0)) j j pb0 j j j)) trivial (sS (dT z92 j j j (iR.2 hc2) (oCa (xs:=[.v false [.im 0 _],.v false [.im 0 _],.v false [.im 0 _]]) (vs:=[(false,[.im 0 _])]) (v:=.v false [.im 0 _]) (fP Ig) (.inl j) j iM j (ppC j (ppC j (ppC j pp0))) j j pb0 j j j)) trivial (t j j (bF j j (iR.2 hc2) j)<|sS (dN z92 j (ae j j)) trivial (sD (by kernel_rfl)))))))))
   ·cases hm3
    exact t j j (oLd (cs:=[.im 0 _,.im 0 _]) j aK j j)<|sS (dN z92 j (oCa (xs:=[.v true [.im 0 _,.im 0 _],.v true [.im 0 _,.im 0 _],.v true [.im 0 _,.im 0 _]]) (vs:=[(false,[.im 0 _])]) (v:=.v false [.im 0 _]) (jr Ii) (.inl j) j jq j (ppC j (ppC j (ppC j pp0))) j j pb0 j j j)) trivial (t j j (oBi j j j j)<|t j j (oMv j j)<|tT j j j j (iEq.2 hc1) (oFA (r':=.mp 5 0 0) j iH j j)<|tT j j j j (iEq.2 hc1) (oLd (cs:=[.im 0 _]) j tF2 j j)<|tT j j j j (iEq.2 hc1) (oFA (r':=.mp 3 0 0) j iH j j)<|tT j j j j (iEq.2 hc1) (oLd (cs:=[.im 0 _]) j tF2 j j)<|tT j j j j (iEq.2 hc1) (oFA (r':=.mp 4 0 0) j iH j j)<|tT j j j j (iEq.2 hc1) (oLd (cs:=[.im 0 _]) j tF2 j j)<|tT j j j j (iEq.2 hc1) (oFA (r':=.mp 3 0 0) j iH j j)<|tT j j j j (iEq.2 hc1) (oLd (cs:=[.im 0 _]) j tF2 j j)<|tT j j j j (iEq.2 hc1) (oFA (r':=.mp 4 0 0) j iH j j)<|tT j j j j (iEq.2 hc1) (oLd (cs:=[.im 0 _]) j tF2 j j)<|sS (dT z92 j j j (iEq.2 hc1) (oCa (xs:=[.v false [.im 0 _],.v false [.im 0 _]]) (vs:=[(false,[.im 0 _])]) (v:=.v false [.im 0 _]) (wR zo) (.inl j) j Gu j (ppC j (ppC j pp0)) j j pb0 j j j)) trivial (sS (dT z92 j j j (iEq.2 hc1) (oCa (xs:=[.v false [.im 0 _],.v false [.im 0 _]]) (vs:=[(false,[.im 0 _])]) (v:=.v false [.im 0 _]) (sZ hx24) (.inl j) j Dw j (ppC j (ppC j pp0)) j j pb0 j j j)) trivial (sS (dT z92 j j j (iEq.2 hc1) (oCa (xs:=[.v false [.im 0 _],.v false [.im 0 _],.v false [.im 0 _]]) (vs:=[(false,[.im 0 _])]) (v:=.v false [.im 0 _]) (fP hx25) (.inl j) j iM j (ppC j (ppC j (ppC j pp0))) j j pb0 j j j)) trivial (t j j (bF j j (iEq.2 hc1) j)<|t j j (oMv j j)<|tF j j j j (byF iR hc2) j<|tF j j j j (byF iR hc2) j<|tF j j j j (byF iR hc2) j<|tF j j j j (byF iR hc2) j<|tF j j j j (byF iR hc2) j<|tF j j j j (byF iR hc2) j<|tF j j j j (byF iR hc2) j<|tF j j j j (byF iR hc2) j<|tF j j j j (byF iR hc2) j<|tF j j j j (byF iR hc2) j<|sS (dF j j j (byF iR hc2) j) trivial (sS (dF j j j (byF iR hc2) j) trivial (sS (dF j j j (byF iR hc2) j) trivial (t j j (dK j j (byF iR hc2) j)<|sS (dN z92 j (ae j j)) trivial (sD (by kernel_rfl)))))))))
  ·cases hm3
   exact t j j (oLd (cs:=[.im 0 _,.im 0 _]) j aK j j)<|sS (dN z92 j (oCa (xs:=[.v true [.im 0 _,.im 0 _],.v true [.im 0 _,.im 0 _],.v true [.im 0 _,.im 0 _]]) (vs:=[(false,[.im 0 _])]) (v:=.v false [.im 0 _]) (jr Ii) (.inl j) j jq j (ppC j (ppC j (ppC j pp0))) j j pb0 j j j)) trivial (t j j (oBi j j j j)<|t j j (oMv j j)<|tF j j j j (byF iEq hc1) j<|tF j j j j (byF iEq hc1) j<|tF j j j j (byF iEq hc1) j<|tF j j j j (byF iEq hc1) j<|tF j j j j (byF iEq hc1) j<|tF j j j j (byF iEq hc1) j<|tF j j j j (byF iEq hc1) j<|tF j j j j (byF iEq hc1) j<|tF j j j j (byF iEq hc1) j<|tF j j j j (byF iEq hc1) j<|sS (dF j j j (byF iEq hc1) j) trivial (sS (dF j j j (byF iEq hc1) j) trivial (sS (dF j j j (byF iEq hc1) j) trivial (t j j (dK j j (byF iEq hc1) j)<|t j j (oMv j j)<|tF j j j j j j<|tF j j j j j j<|tF j j j j j j<|tF j j j j j j<|tF j j j j j j<|tF j j j j j j<|tF j j j j j j<|tF j j j j j j<|tF j j j j j j<|tF j j j j j j<|sS (dF j j j j j) trivial (sS (dF j j j j j) trivial (sS (dF j j j j j) trivial (t j j (dK j j j j)<|sS (dN z92 j (ae j j)) trivial (sD (by kernel_rfl)))))))))
 ·refine us<|Go.ret (Unw.ret ?_)
  cases h
  exact fr ahc j
theorem Gv {a_0:af} {b_1:af} {c_2:af} {d_3:af} {r:Bool} (h:oU a_0 b_1 c_2 d_3=some r):FX 119 [.im 2 true (aF a_0),.im 2 true (aF b_1),.im 2 true (aF c_2),.im 2 true (aF d_3)] (B0 [(false,[.im 0 (V r)])]):=by
 unfold oU at h
 refine gn 31 Tryz.func119 rfl ?_
 refine gs<|g0 j j (q (oBx j aK j (tkI (tkI tk0)))<|q (oBx j aK j (tkI (tkI tk0)))<|q (oBx j aK j (tkI (tkI tk0)))<|q (oBx j aK j (tkI (tkI tk0)))<|q (ae j j)<|nl)<|us<|gs<|?_
 obtain ⟨x12,zS,h⟩:=bs h
 obtain ⟨x16,hx16,h⟩:=bs h
 obtain ⟨tZ,hm2,h⟩:=bs h
 refine gd c119 j j j j (mk [(8,bv tZ)] []) ?_ ?_
 ·refine t j j (oLd (cs:=[.im 0 _,.im 0 _]) j aK j j)<|t j j (oLd (cs:=[.im 0 _,.im 0 _]) j aK j j)<|t j j (oLd (cs:=[.im 0 _,.im 0 _]) j aK j j)<|t j j (oLd (cs:=[.im 0 _,.im 0 _]) j aK j j)<|t j j (oLd (cs:=[.im 0 _,.im 0 _]) j aK j j)<|?_
  refine ic hm2 (fun hc1 hm2=>?_) fun hc1 hm2=>?_
  ·obtain ⟨x23,zn,hm2⟩:=bs hm2
   obtain ⟨x27,hx27,hm2⟩:=bs hm2
   cases hm2
   exact t j j (oLd (cs:=[.im 0 _,.im 0 _]) j aK j j)<|sS (dN z119 j (oCa (xs:=[.v true [.im 0 _,.im 0 _],.v true [.im 0 _,.im 0 _],.v true [.im 0 _,.im 0 _]]) (vs:=[(false,[.im 0 _])]) (v:=.v false [.im 0 _]) (jr zS) (.inl j) j jq j (ppC j (ppC j (ppC j pp0))) j j pb0 j j j)) trivial (sS (dN z119 j (oCa (xs:=[.v true [.im 0 _,.im 0 _],.v true [.im 0 _,.im 0 _],.v true [.im 0 _,.im 0 _]]) (vs:=[(false,[.im 0 _])]) (v:=.v false [.im 0 _]) (jr hx16) (.inl j) j jq j (ppC j (ppC j (ppC j pp0))) j j pb0 j j j)) trivial (t j j (oBi j j j j)<|t j j (oBi j j j j)<|t j j (oMv j j)<|tT j j j j (ah.2 hc1) (oLd (cs:=[.im 0 _,.im 0 _]) j aK j j)<|tT j j j j (ah.2 hc1) (oLd (cs:=[.im 0 _,.im 0 _]) j aK j j)<|tT j j j j (ah.2 hc1) (oLd (cs:=[.im 0 _,.im 0 _]) j aK j j)<|tT j j j j (ah.2 hc1) (oLd (cs:=[.im 0 _,.im 0 _]) j aK j j)<|tT j j j j (ah.2 hc1) (oLd (cs:=[.im 0 _,.im 0 _]) j aK j j)<|tT j j j j (ah.2 hc1) (oLd (cs:=[.im 0 _,.im 0 _]) j aK j j)<|sS (dT z119 j j j (ah.2 hc1) (oCa (xs:=[.v true [.im 0 _,.im 0 _],.v true [.im 0 _,.im 0 _],.v true [.im 0 _,.im 0 _]]) (vs:=[(false,[.im 0 _])]) (v:=.v false [.im 0 _]) (jr zn) (.inl j) j jq j (ppC j (ppC j (ppC j pp0))) j j pb0 j j j)) trivial (sS (dT z119 j j j (ah.2 hc1) (oCa (xs:=[.v true [.im 0 _,.im 0 _],.v true [.im 0 _,.im 0 _],.v true [.im 0 _,.im 0 _]]) (vs:=[(false,[.im 0 _])]) (v:=.v false [.im 0 _]) (jr hx27) (.inl j) j jq j (ppC j (ppC j (ppC j pp0))) j j pb0 j j j)) trivial (tT j j j j (ah.2 hc1) (oBi j j j j)<|tT j j j j (ah.2 hc1) (oBi j j j j)<|t j j (bF j j (ah.2 hc1) j)<|sS (dN z119 j (ae j j)) trivial (sD (by kernel_rfl))))))
  ·cases hm2
   exact t j j (oLd (cs:=[.im 0 _,.im 0 _]) j aK j j)<|sS (dN z119 j (oCa (xs:=[.v true [.im 0 _,.im 0 _],.v true [.im 0 _,.im 0 _],.v true [.im 0 _,.im 0 _]]) (vs:=[(false,[.im 0 _])]) (v:=.v false [.im 0 _]) (jr zS) (.inl j) j jq j (ppC j (ppC j (ppC j pp0))) j j pb0 j j j)) trivial (sS (dN z119 j (oCa (xs:=[.v true [.im 0 _,.im 0 _],.v true [.im 0 _,.im 0 _],.v true [.im 0 _,.im 0 _]]) (vs:=[(false,[.im 0 _])]) (v:=.v false [.im 0 _]) (jr hx16) (.inl j) j jq j (ppC j (ppC j (ppC j pp0))) j j pb0 j j j)) trivial (t j j (oBi j j j j)<|t j j (oBi j j j j)<|t j j (oMv j j)<|tF j j j j (byF ah hc1) j<|tF j j j j (byF ah hc1) j<|tF j j j j (byF ah hc1) j<|tF j j j j (byF ah hc1) j<|tF j j j j (byF ah hc1) j<|tF j j j j (byF ah hc1) j<|sS (dF j j j (byF ah hc1) j) trivial (sS (dF j j j (byF ah hc1) j) trivial (tF j j j j (byF ah hc1) j<|tF j j j j (byF ah hc1) j<|t j j (dK j j (byF ah hc1) j)<|sS (dN z119 j (ae j j)) trivial (sD (by kernel_rfl))))))
 ·refine us<|Go.ret (Unw.ret ?_)
  cases h
  exact fr aeJ j
theorem Le {a_0:af} {b_1:af} {c_2:af} {d_3:af} {r:Bool} (h:uX a_0 b_1 c_2 d_3=some r):FX 93 [.im 2 true (aF a_0),.im 2 true (aF b_1),.im 2 true (aF c_2),.im 2 true (aF d_3)] (B0 [(false,[.im 0 (V r)])]):=by
 unfold uX at h
 refine gn 38 Tryz.func93 rfl ?_
 refine gs<|g0 j j (q (oBx j aK j (tkI (tkI tk0)))<|q (oBx j aK j (tkI (tkI tk0)))<|q (oBx j aK j (tkI (tkI tk0)))<|q (oBx j aK j (tkI (tkI tk0)))<|q (ae j j)<|nl)<|us<|gs<|?_
 obtain ⟨x13,O5,h⟩:=bs h
 obtain ⟨tZ,hm5,h⟩:=bs h
 refine gX c93 j j j (mk [(8,bv tZ)] []) ?_ ?_
 ·refine xq (oLd (cs:=[.im 0 _,.im 0 _]) j aK j j)<|xq (oLd (cs:=[.im 0 _,.im 0 _]) j aK j j)<|xq (oLd (cs:=[.im 0 _,.im 0 _]) j aK j j)<|xq (oLd (cs:=[.im 0 _,.im 0 _]) j aK j j)<|xq (oCa (xs:=[.v true [.im 0 _,.im 0 _],.v true [.im 0 _,.im 0 _],.v true [.im 0 _,.im 0 _],.v true [.im 0 _,.im 0 _]]) (vs:=[(false,[.im 0 _])]) (v:=.v false [.im 0 _]) (Gv O5) (.inl j) j Gs j (ppC j (ppC j (ppC j (ppC j pp0)))) j j pb0 j j j)<|xq (oMv j j)<|?_
  refine ic hm5 (fun hc1 hm5=>?_) fun hc1 hm5=>?_
  ·cases hm5
   exact aj j j (iR.2 hc1) j<|aj j j (iR.2 hc1) j<|aj j j (iR.2 hc1) j<|aj j j (iR.2 hc1) j<|xq (bF j j (iR.2 hc1) j)<|xq (oMv j j)<|aj j j j j<|aj j j j j<|aj j j j j<|aj j j j j<|xq (bF j j j j)<|xq (oMv j j)<|aj j j j j<|aj j j j j<|aj j j j j<|aj j j j j<|xq (bF j j j j)<|xq (oMv j j)<|aj j j j j<|aj j j j j<|aj j j j j<|aj j j j j<|xq (bF j j j j)<|xq (ae j j)<|xn
  ·obtain ⟨x18,Ff,hm5⟩:=bs hm5
   refine xqT j j (byF iR hc1) (oLd (cs:=[.im 0 _,.im 0 _]) j aK j j)<|xqT j j (byF iR hc1) (oLd (cs:=[.im 0 _,.im 0 _]) j aK j j)<|xqT j j (byF iR hc1) (oLd (cs:=[.im 0 _,.im 0 _]) j aK j j)<|xqT j j (byF iR hc1) (oCa (xs:=[.v true [.im 0 _,.im 0 _],.v true [.im 0 _,.im 0 _],.v true [.im 0 _,.im 0 _]]) (vs:=[(false,[.im 0 _])]) (v:=.v false [.im 0 _]) (ru Ff) (.inl j) j pX j (ppC j (ppC j (ppC j pp0))) j j pb0 j j j)<|xq (dK j j (byF iR hc1) j)<|xq (oMv j j)<|?_
   refine ic hm5 (fun hc2 hm5=>?_) fun hc2 hm5=>?_
   ·cases hm5
    exact aj j j (iR.2 hc2) j<|aj j j (iR.2 hc2) j<|aj j j (iR.2 hc2) j<|aj j j (iR.2 hc2) j<|xq (bF j j (iR.2 hc2) j)<|xq (oMv j j)<|aj j j j j<|aj j j j j<|aj j j j j<|aj j j j j<|xq (bF j j j j)<|xq (oMv j j)<|aj j j j j<|aj j j j j<|aj j j j j<|aj j j j j<|xq (bF j j j j)<|xq (ae j j)<|xn
   ·obtain ⟨x24,hx24,hm5⟩:=bs hm5
    refine xqT j j (byF iR hc2) (oLd (cs:=[.im 0 _,.im 0 _]) j aK j j)<|xqT j j (byF iR hc2) (oLd (cs:=[.im 0 _,.im 0 _]) j aK j j)<|xqT j j (byF iR hc2) (oLd (cs:=[.im 0 _,.im 0 _]) j aK j j)<|xqT j j (byF iR hc2) (oCa (xs:=[.v true [.im 0 _,.im 0 _],.v true [.im 0 _,.im 0 _],.v true [.im 0 _,.im 0 _]]) (vs:=[(false,[.im 0 _])]) (v:=.v false [.im 0 _]) (ru hx24) (.inl j) j pX j (ppC j (ppC j (ppC j pp0))) j j pb0 j j j)<|xq (dK j j (byF iR hc2) j)<|xq (oMv j j)<|?_
    refine ic hm5 (fun hc3 hm5=>?_) fun hc3 hm5=>?_
    ·cases hm5
     exact aj j j (iR.2 hc3) j<|aj j j (iR.2 hc3) j<|aj j j (iR.2 hc3) j<|aj j j (iR.2 hc3) j<|xq (bF j j (iR.2 hc3) j)<|xq (oMv j j)<|aj j j j j<|aj j j j j<|aj j j j j<|aj j j j j<|xq (bF j j j j)<|xq (ae j j)<|xn
    ·obtain ⟨x30,QV,hm5⟩:=bs hm5
     refine xqT j j (byF iR hc3) (oLd (cs:=[.im 0 _,.im 0 _]) j aK j j)<|xqT j j (byF iR hc3) (oLd (cs:=[.im 0 _,.im 0 _]) j aK j j)<|xqT j j (byF iR hc3) (oLd (cs:=[.im 0 _,.im 0 _]) j aK j j)<|xqT j j (byF iR hc3) (oCa (xs:=[.v true [.im 0 _,.im 0 _],.v true [.im 0 _,.im 0 _],.v true [.im 0 _,.im 0 _]]) (vs:=[(false,[.im 0 _])]) (v:=.v false [.im 0 _]) (ru QV) (.inl j) j pX j (ppC j (ppC j (ppC j pp0))) j j pb0 j j j)<|xq (dK j j (byF iR hc3) j)<|xq (oMv j j)<|?_
     refine ic hm5 (fun hc4 hm5=>?_) fun hc4 hm5=>?_
     ·cases hm5
      exact aj j j (iR.2 hc4) j<|aj j j (iR.2 hc4) j<|aj j j (iR.2 hc4) j<|aj j j (iR.2 hc4) j<|xq (bF j j (iR.2 hc4) j)<|xq (ae j j)<|xn
     ·obtain ⟨x36,Ce,hm5⟩:=bs hm5
      cases hm5
      exact xqT j j (byF iR hc4) (oLd (cs:=[.im 0 _,.im 0 _]) j aK j j)<|xqT j j (byF iR hc4) (oLd (cs:=[.im 0 _,.im 0 _]) j aK j j)<|xqT j j (byF iR hc4) (oLd (cs:=[.im 0 _,.im 0 _]) j aK j j)<|xqT j j (byF iR hc4) (oCa (xs:=[.v true [.im 0 _,.im 0 _],.v true [.im 0 _,.im 0 _],.v true [.im 0 _,.im 0 _]]) (vs:=[(false,[.im 0 _])]) (v:=.v false [.im 0 _]) (ru Ce) (.inl j) j pX j (ppC j (ppC j (ppC j pp0))) j j pb0 j j j)<|xq (dK j j (byF iR hc4) j)<|xq (ae j j)<|xn
 ·refine us<|Go.ret (Unw.ret ?_)
  cases h
  exact fr ahd j
theorem Lh {p_0:(List af)} {r:Int} (h:uY p_0=some r):FX 94 [.im 2 false [W 2 az p_0]] (B0 [(false,[.im 0 (I r)])]):=by
 unfold uY at h
 refine gn 40 Tryz.func94 rfl ?_
 refine gs<|g0 j j (q (ae j j)<|nl)<|us<|gs<|g0 j j (q (ae j j)<|nl)<|us<|gs<|gs<|g0 j j (q (ae j j)<|nl)<|us<|Go.block<|?_
 obtain ⟨o,hl,h⟩:=bs h
 refine gl c94 j _ (fun (s:(Int×Int))=>match s with | (lM,bT)=>mk [(0,D 2 (W 2 az p_0)),(3,iv lM),(4,iv bT)] []) (fun (oL:Int) (p:Ex×St)=>p.1= .exit 0∧p.2.norm ([3],[])=mk [(3,iv oL)] []) hl (by kernel_rfl) ?_ ?_ ?_
 ·intro o p hp e
  exact nomatch (hp.1.symm.trans e)
 ·rintro ⟨lM,bT⟩ o h
  unfold xY at h
  dsimp only at h
  refine gs<|gs<|g0 j j (q (oMv j j)<|q (oMv j j)<|q (gB j j zQ j)<|q (oBi j j j j)<|nl)<|us<|gc h j ah (fun hc3 h=>?_) fun hc3 h=>?_
  ·refine Go.skip<|us<|gs<|Go.block<|gs<|?_
   obtain ⟨x17,Ld,h⟩:=bs h
   obtain ⟨x18,Ff,h⟩:=bs h
   refine g0 j j (q (oMv j j)<|q (oMv j j)<|q (oBi j j j j)<|q (oMv j j)<|q (gB j j zQ j)<|q (Gj j Ld j j)<|q (gp j Ff pK j j)<|q (oLd (cs:=[.im 2 _,.im 2 _]) j aK j j)<|q (oAl j aK (tkI (tkI tk0)))<|q (oSt aK j j j (tkI (tkI tk0)) j j j)<|nl)<|us<|?_
   obtain ⟨x23,zn,h⟩:=bs h
   obtain ⟨x31,hx31,h⟩:=bs h
   refine gd c94 j j j (st1:=mk [(0,D 2 (W 2 az p_0)),(3,iv lM),(4,iv bT),(5,M 5)] [(5,Oa (G 0 (aF x18)))]) (by kernel_rfl) (mk [(0,D 2 (W 2 az p_0)),(3,iv (w64 (lM+(w64 ((w64 (x23.X*x18.Y)) - (w64 (x31.Y*x18.X))))))),(4,iv bT)] []) (t j j (oMv j j)<|t j j (oMv j j)<|t j j (oMv j j)<|t j j (gp j zn pK j j)<|t j j (oFA (r':=.im 2 _) j iH j j)<|t j j (oLd (cs:=[.im 2 _]) j tF2 j j)<|t j j (oFA (r':=.mp 5 0 1) j jb j j)<|t j j (oLd (cs:=[.im 0 _]) j tF2 j j)<|t j j (oBi j j j j)<|t j j (oMv j j)<|t j j (oMv j j)<|t j j (gp j hx31 pK j j)<|t j j (oFA (r':=.im 2 _) j jb j j)<|t j j (oLd (cs:=[.im 2 _]) j tF2 j j)<|t j j (oFA (r':=.mp 5 0 0) j iH j j)<|t j j (oLd (cs:=[.im 0 _]) j tF2 j j)<|t j j (oBi j j j j)<|t j j (oBi j j j j)<|t j j (oBi j j j j)<|sS (dN z94 j (ae j j)) trivial (sD (by kernel_rfl)))<|Unw.blk<|us<|g0 j j (q (oMv j j)<|q (oBi j j j j)<|q (ae j j)<|nl)<|Unw.nil<|?_
   cases h
   exact ⟨j,(by kernel_rfl)⟩
  ·refine Go.exit<|ux<|Unw.nil<|?_
   cases h
   exact ⟨j,(by kernel_rfl)⟩
 ·rintro ⟨e,st⟩ hp
  obtain ⟨oL,rfl⟩:∃y,y=o:=⟨o,rfl⟩
  obtain ⟨he,hst⟩:=hp
  obtain rfl:e= .exit 0:=he
  refine Unw.iT<|us<|gs<|g2 c94 j j hst (q (oMv j j)<|q (ae j j)<|nl)<|us<|Go.ret (Unw.ret ?_)
  cases h
  exact fr ahe j
theorem O9 {p_0:(List af)} {r:Bool} (h:yM p_0=some r):FX 70 [.im 2 false [W 2 az p_0]] (B0 [(false,[.im 0 (V r)])]):=by
 unfold yM at h
 refine gn 99 Tryz.func70 rfl ?_
 refine gs<|g0 j j (q (ae j j)<|nl)<|us<|gs<|g0 j j (q (oMv j j)<|q (gB j j zQ j)<|q (ae j j)<|nl)<|us<|gs<|gs<|gX c70 j j j (mk [(0,D 2 (W 2 az p_0)),(3,iv (p_0.length:Int)),(17,bv ((decide ((p_0.length:Int) <3))||(decide ((p_0.length:Int) >24))))] []) ?_ ?_
 ·refine xq (oMv j j)<|xq (oBi j j j j)<|xq (oMv j j)<|?_
  by_cases hc1:(p_0.length:Int) <3
  ·exact aj rfl rfl (ah.2 hc1) rfl<|aj rfl rfl (ah.2 hc1) rfl<|xq (bF rfl rfl (ah.2 hc1) rfl)<|xn (Eq.trans (b:=(fun BL:Bool=>mk [(0,D 2 (W 2 az p_0)),(3,iv (p_0.length:Int)),(17,bv BL)] []) true) (by kernel_rfl) (congrArg (fun BL:Bool=>mk [(0,D 2 (W 2 az p_0)),(3,iv (p_0.length:Int)),(17,bv BL)] []) (by first | rfl | (simp [(ah.2 hc1)];done) | (simp [(ah.2 hc1)];omega))))
  ·exact xqT rfl rfl (byF ah hc1) (oMv rfl rfl)<|xqT rfl rfl (byF ah hc1) (oBi rfl rfl rfl rfl)<|xq (dK rfl rfl (byF ah hc1) rfl)<|xn (Eq.trans (b:=(fun BL:Bool=>mk [(0,D 2 (W 2 az p_0)),(3,iv (p_0.length:Int)),(17,bv BL)] []) (decide ((p_0.length:Int) >24))) (by kernel_rfl) (congrArg (fun BL:Bool=>mk [(0,D 2 (W 2 az p_0)),(3,iv (p_0.length:Int)),(17,bv BL)] []) (by first | rfl | (simp [(byF ah hc1)];done) | (simp [(byF ah hc1)];omega))))
 ·refine us<|gc h j (iOr ah ah) (fun hc2 h=>?_) fun hc2 h=>?_
  ·refine gs<|g0 j j (q (ae j j)<|nl)<|us<|Go.ret (Unw.ret ?_)
   cases h
   exact fr XQ j
  ·refine Go.skip<|us<|gs<|gs<|g0 j j (q (ae j j)<|nl)<|us<|Go.block<|?_
   obtain ⟨o,hl,h⟩:=bs h
   refine gl c70 j _ (fun (Hw:Int)=>mk [(0,D 2 (W 2 az p_0)),(3,iv (p_0.length:Int)),(4,iv Hw)] []) (fun (o:(Unit ⊕ Bool)) (p:Ex×St)=>match o with | (.inl _)=>p.1= .exit 0∧p.2.norm ([0,3],[])=mk [(0,D 2 (W 2 az p_0)),(3,iv (p_0.length:Int))] [] | (.inr r2)=>p.1= .ret∧fin Tryz.prog cfg 70 Tryz.f70 [.im 2 false [W 2 az p_0]] p.2=some (B0 [(false,[.im 0 (V r2)])])) hl (by kernel_rfl) ?_ ?_ ?_
   ·intro o p hp e
    rcases o with u | r2<;>exact nomatch (hp.1.symm.trans e)
   ·rintro Hw o h
    unfold zK at h
    refine gs<|gs<|g0 j j (q (oMv j j)<|q (oMv j j)<|q (oBi j j j j)<|nl)<|us<|gc h j ah (fun ahk h=>?_) fun ahk h=>?_
    ·refine Go.skip<|us<|gs<|Go.block<|gs<|?_
     obtain ⟨x25,hx25,h⟩:=bs h
     obtain ⟨x27,hx27,h⟩:=bs h
     refine g0 j j (q (oMv j j)<|q (oMv j j)<|q (gp j hx25 pK j j)<|q (oLd (cs:=[.im 2 _,.im 2 _]) j aK j j)<|q (oCa (xs:=[.v true [.im 2 _,.im 2 _]]) (vs:=[(false,[.im 0 _])]) (v:=.v false [.im 0 _]) (O8 hx27) (.inl j) j aa1 j (ppC j pp0) j j pb0 j j j)<|q (oUn j j j)<|nl)<|us<|?_
     by_cases VA:x27=true
     ·rw [if_pos VA] at h
      refine gF j (nF (iR.2 VA))<|Go.skip<|Unw.blk<|us<|g0 j j (q (oMv j j)<|q (oBi j j j j)<|q (ae j j)<|nl)<|Unw.nil<|?_
      cases h
      exact ⟨j,(by kernel_rfl)⟩
     ·rw [if_neg VA] at h
      refine gT j (nT (byF iR VA))<|gs<|g0 j j (q (ae j j)<|nl)<|us<|Go.ret (Unw.ret ?_)
      cases h
      exact ⟨j,(fo XQ j)⟩
    ·refine Go.exit<|ux<|Unw.nil<|?_
     cases h
     exact ⟨j,(by kernel_rfl)⟩
   ·rintro ⟨e,st⟩ hp
    rcases o with u | r2
    ·dsimp only at h
     obtain ⟨he,hst⟩:=hp
     obtain rfl:e= .exit 0:=he
     refine Unw.iT<|us<|gs<|gs<|g2 c70 j j hst (q (ae j j)<|nl)<|us<|Go.block<|?_
     obtain ⟨o,hl,h⟩:=bs h
     refine gl c70 j _ (fun (kX:Int)=>mk [(0,D 2 (W 2 az p_0)),(3,iv (p_0.length:Int)),(5,iv kX)] []) (fun (o:(Unit ⊕ Bool)) (p:Ex×St)=>match o with | (.inl _)=>p.1= .exit 2∧p.2.norm ([0],[])=mk [(0,D 2 (W 2 az p_0))] [] | (.inr r2)=>p.1= .ret∧fin Tryz.prog cfg 70 Tryz.f70 [.im 2 false [W 2 az p_0]] p.2=some (B0 [(false,[.im 0 (V r2)])])) hl (by kernel_rfl) ?_ ?_ ?_
     ·intro o p hp e
      rcases o with u | r2<;>exact nomatch (hp.1.symm.trans e)
     ·rintro kX o h
      unfold ve at h
      refine gs<|gs<|g0 j j (q (oMv j j)<|q (oMv j j)<|q (oBi j j j j)<|nl)<|us<|gc h j ah (fun wB h=>?_) fun wB h=>?_
      ·refine Go.skip<|us<|gs<|Go.block<|gs<|?_
       obtain ⟨x36,Ce,h⟩:=bs h
       refine g0 j j (q (oMv j j)<|q (oMv j j)<|q (gp j Ce pK j j)<|q (oLd (cs:=[.im 2 _,.im 2 _]) j aK j j)<|q (oAl j aK (tkI (tkI tk0)))<|q (oSt aK j j j (tkI (tkI tk0)) j j j)<|nl)<|us<|gs<|?_
       obtain ⟨x42,VB,h⟩:=bs h
       obtain ⟨x43,Md,h⟩:=bs h
       refine g1 j j (mk [(0,D 2 (W 2 az p_0)),(3,iv (p_0.length:Int)),(5,iv kX),(6,M 6)] [(6,Oa (G 0 (aF x36)))]) (q (oMv j j)<|q (oMv j j)<|q (oBi j j j j)<|q (oMv j j)<|q (Gj j VB j j)<|q (gp j Md pK j j)<|q (oLd (cs:=[.im 2 _,.im 2 _]) j aK j j)<|q (oAl j aK (tkI (tkI tk0)))<|q (oSt aK j j j (tkI (tkI tk0)) j j j)<|nl)<|us<|gs<|?_
       obtain ⟨x49,adm,h⟩:=bs h
       obtain ⟨x50,QW,h⟩:=bs h
       refine g1 j j (mk [(0,D 2 (W 2 az p_0)),(3,iv (p_0.length:Int)),(5,iv kX),(6,M 6),(7,M 7)] [(6,Oa (G 0 (aF x36))),(7,Oa (G 0 (aF x43)))]) (q (oMv j j)<|q (oMv j j)<|q (oBi j j j j)<|q (oMv j j)<|q (Gj j adm j j)<|q (gp j QW pK j j)<|q (oLd (cs:=[.im 2 _,.im 2 _]) j aK j j)<|q (oAl j aK (tkI (tkI tk0)))<|q (oSt aK j j j (tkI (tkI tk0)) j j j)<|nl)<|us<|gs<|gs<|?_
       obtain ⟨KL,Ij,h⟩:=bs h
       refine gX c70 j j (st1:=mk [(0,D 2 (W 2 az p_0)),(3,iv (p_0.length:Int)),(5,iv kX),(6,M 6),(7,M 7),(8,M 8)] [(6,Oa (G 0 (aF x36))),(7,Oa (G 0 (aF x43))),(8,Oa (G 0 (aF x50)))]) (by kernel_rfl) (mk [(0,D 2 (W 2 az p_0)),(3,iv (p_0.length:Int)),(5,iv kX),(6,M 6),(7,M 7),(66,bv KL)] [(6,Oa (G 0 (aF x36))),(7,Oa (G 0 (aF x43)))]) ?_ ?_
       ·refine xq (oLd (cs:=[.im 0 _,.im 0 _]) j aK j j)<|xq (oLd (cs:=[.im 0 _,.im 0 _]) j aK j j)<|xq (oBa j (UD x36.X x36.Y x43.X x43.Y) j j j j)<|xq (oMv j j)<|?_
        refine ic Ij (fun hc34 Ij=>?_) fun hc34 Ij=>?_
        ·cases Ij
         exact aj j j ((xU iEq iEq).2 hc34) j<|aj j j ((xU iEq iEq).2 hc34) j<|aj j j ((xU iEq iEq).2 hc34) j<|aj j j ((xU iEq iEq).2 hc34) j<|xq (bF j j ((xU iEq iEq).2 hc34) j)<|xq (oMv j j)<|aj j j j j<|aj j j j j<|aj j j j j<|aj j j j j<|xq (bF j j j j)<|xn
        ·obtain ⟨x59,adn,Ij⟩:=bs Ij
         refine xqT j j (byF (xU iEq iEq) hc34) (oLd (cs:=[.im 0 _,.im 0 _]) j aK j j)<|xqT j j (byF (xU iEq iEq) hc34) (oLd (cs:=[.im 0 _,.im 0 _]) j aK j j)<|xqT j j (byF (xU iEq iEq) hc34) (oLd (cs:=[.im 0 _,.im 0 _]) j aK j j)<|xqT j j (byF (xU iEq iEq) hc34) (oCa (xs:=[.v true [.im 0 _,.im 0 _],.v true [.im 0 _,.im 0 _],.v true [.im 0 _,.im 0 _]]) (vs:=[(false,[.im 0 _])]) (v:=.v false [.im 0 _]) (ru adn) (.inl j) j pX j (ppC j (ppC j (ppC j pp0))) j j pb0 j j j)<|xq (dK j j (byF (xU iEq iEq) hc34) j)<|xq (oMv j j)<|?_
         refine ic Ij (fun qf Ij=>?_) fun qf Ij=>?_
         ·cases Ij
          exact aj j j (iR.2 qf) j<|aj j j (iR.2 qf) j<|aj j j (iR.2 qf) j<|aj j j (iR.2 qf) j<|xq (bF j j (iR.2 qf) j)<|xn
         ·obtain ⟨x65,ahl,Ij⟩:=bs Ij
          cases Ij
          exact xqT j j (byF iR qf) (oLd (cs:=[.im 0 _,.im 0 _]) j aK j j)<|xqT j j (byF iR qf) (oLd (cs:=[.im 0 _,.im 0 _]) j aK j j)<|xqT j j (byF iR qf) (oLd (cs:=[.im 0 _,.im 0 _]) j aK j j)<|xqT j j (byF iR qf) (oCa (xs:=[.v true [.im 0 _,.im 0 _],.v true [.im 0 _,.im 0 _],.v true [.im 0 _,.im 0 _]]) (vs:=[(false,[.im 0 _])]) (v:=.v false [.im 0 _]) (ru ahl) (.inl j) j pX j (ppC j (ppC j (ppC j pp0))) j j pb0 j j j)<|xq (dK j j (byF iR qf) j)<|xn
       ·refine us<|gc h j iR (fun XW h=>?_) fun XW h=>?_
        ·refine gs<|g0 j j (q (ae j j)<|nl)<|us<|Go.ret (Unw.ret ?_)
         cases h
         exact ⟨j,(fo XQ j)⟩
        ·refine Go.skip<|us<|gs<|g0 j j (q (oMv j j)<|q (oBi j j j j)<|q (ae j j)<|nl)<|us<|Go.block<|?_
         obtain ⟨o,hl,h⟩:=bs h
         refine gl c70 j _ (fun (yz:Int)=>mk [(0,D 2 (W 2 az p_0)),(3,iv (p_0.length:Int)),(5,iv kX),(6,M 6),(7,M 7),(9,iv yz)] [(6,Oa (G 0 (aF x36))),(7,Oa (G 0 (aF x43)))]) (fun (o:(Unit ⊕ Bool)) (p:Ex×St)=>match o with | (.inl _)=>p.1= .exit 4∧p.2.norm ([0,3,5],[])=mk [(0,D 2 (W 2 az p_0)),(3,iv (p_0.length:Int)),(5,iv kX)] [] | (.inr r2)=>p.1= .ret∧fin Tryz.prog cfg 70 Tryz.f70 [.im 2 false [W 2 az p_0]] p.2=some (B0 [(false,[.im 0 (V r2)])])) hl (by kernel_rfl) ?_ ?_ ?_
         ·intro o p hp e
          rcases o with u | r2<;>exact nomatch (hp.1.symm.trans e)
         ·rintro yz o h
          unfold uZ at h
          refine gs<|gs<|g0 j j (q (oMv j j)<|q (oMv j j)<|q (oBi j j j j)<|nl)<|us<|gc h j ah (fun Ik h=>?_) fun Ik h=>?_
          ·refine Go.skip<|us<|gs<|Go.block<|gs<|?_
           obtain ⟨x77,abh,h⟩:=bs h
           obtain ⟨KJ,Il,h⟩:=bs h
           refine gd c70 j j j j (mk [(0,D 2 (W 2 az p_0)),(3,iv (p_0.length:Int)),(5,iv kX),(6,M 6),(7,M 7),(9,iv yz),(95,bv KJ)] [(6,Oa (G 0 (aF x36))),(7,Oa (G 0 (aF x43)))]) ?_ ?_
           ·refine t j j (oMv j j)<|t j j (oBi j j j j)<|t j j (oMv j j)<|t j j (Gj j abh j j)<|t j j (oMv j j)<|t j j (oBi j j j j)<|t j j (oMv j j)<|?_
            refine ic Il (fun pM Il=>?_) fun pM Il=>?_
            ·obtain ⟨x85,XX,Il⟩:=bs Il
             obtain ⟨x91,hx91,Il⟩:=bs Il
             obtain ⟨x92,ahm,Il⟩:=bs Il
             obtain ⟨x94,ado,Il⟩:=bs Il
             cases Il
             exact tT j j j j (iNe.2 pM) (oLd (cs:=[.im 0 _,.im 0 _]) j aK j j)<|tT j j j j (iNe.2 pM) (oLd (cs:=[.im 0 _,.im 0 _]) j aK j j)<|tT j j j j (iNe.2 pM) (oMv j j)<|tT j j j j (iNe.2 pM) (oMv j j)<|tT j j j j (iNe.2 pM) (gp j XX pK j j)<|tT j j j j (iNe.2 pM) (oLd (cs:=[.im 2 _,.im 2 _]) j aK j j)<|tT j j j j (iNe.2 pM) (oMv j j)<|tT j j j j (iNe.2 pM) (oMv j j)<|tT j j j j (iNe.2 pM) (oBi j j j j)<|tT j j j j (iNe.2 pM) (oMv j j)<|tT j j j j (iNe.2 pM) (Gj j hx91 j j)<|tT j j j j (iNe.2 pM) (gp j ahm pK j j)<|tT j j j j (iNe.2 pM) (oLd (cs:=[.im 2 _,.im 2 _]) j aK j j)<|sS (dT z70 j j j (iNe.2 pM) (oCa (xs:=[.v true [.im 0 _,.im 0 _],.v true [.im 0 _,.im 0 _],.v true [.im 2 _,.im 2 _],.v true [.im 2 _,.im 2 _]]) (vs:=[(false,[.im 0 _])]) (v:=.v false [.im 0 _]) (Le ado) (.inl j) j H9 j (ppC j (ppC j (ppC j (ppC j pp0)))) j j pb0 j j j)) trivial (t j j (bF j j (iNe.2 pM) j)<|sD (by kernel_rfl))
            ·cases Il
             exact tF j j j j (byF iNe pM) j<|tF j j j j (byF iNe pM) j<|tF j j j j (byF iNe pM) j<|tF j j j j (byF iNe pM) j<|tF j j j j (byF iNe pM) j<|tF j j j j (byF iNe pM) j<|tF j j j j (byF iNe pM) j<|tF j j j j (byF iNe pM) j<|tF j j j j (byF iNe pM) j<|tF j j j j (byF iNe pM) j<|tF j j j j (byF iNe pM) j<|tF j j j j (byF iNe pM) j<|tF j j j j (byF iNe pM) j<|sS (dF j j j (byF iNe pM) j) trivial (t j j (dK j j (byF iNe pM) j)<|sD (by kernel_rfl))
           ·refine us<|gc h j iR (fun hc47 h=>?_) fun hc47 h=>?_
            ·refine gs<|g0 j j (q (ae j j)<|nl)<|us<|Go.ret (Unw.ret ?_)
             cases h
             exact ⟨j,(fo XQ j)⟩
            ·refine Go.skip<|Unw.blk<|us<|g0 j j (q (oMv j j)<|q (oBi j j j j)<|q (ae j j)<|nl)<|Unw.nil<|?_
             cases h
             exact ⟨j,(by kernel_rfl)⟩
          ·refine Go.exit<|ux<|Unw.nil<|?_
           cases h
           exact ⟨j,(by kernel_rfl)⟩
         ·rintro ⟨e,st⟩ hp
          rcases o with u | r2
          ·dsimp only at h
           obtain ⟨he,hst⟩:=hp
           obtain rfl:e= .exit 4:=he
           refine Unw.iT<|Unw.blk<|us<|g2 c70 j j hst (q (oMv j j)<|q (oBi j j j j)<|q (ae j j)<|nl)<|Unw.nil<|?_
           cases h
           exact ⟨j,(by kernel_rfl)⟩
          ·dsimp only at h
           obtain ⟨he,hfin⟩:=hp
           obtain rfl:e= .ret:=he
           cases h
           exact Unw.ret ⟨j,hfin⟩
      ·refine Go.exit<|ux<|Unw.nil<|?_
       cases h
       exact ⟨j,(by kernel_rfl)⟩
     ·rintro ⟨e,st⟩ hp
      rcases o with u | r2
      ·dsimp only at h
       obtain ⟨he,hst⟩:=hp
       obtain rfl:e= .exit 2:=he
       refine Unw.iT<|us<|gs<|?_
       obtain ⟨x97,adp,h⟩:=bs h
       refine g2 c70 j j hst (q (oMv j j)<|q (oCa (xs:=[.v false [.im 2 _]]) (vs:=[(false,[.im 0 _])]) (v:=.v false [.im 0 _]) (Lh adp) (.inl j) j aa2 j (ppC j pp0) j j pb0 j j j)<|q (oBi j j j j)<|q (ae j j)<|nl)<|us<|Go.ret (Unw.ret ?_)
       cases h
       exact fr XQ j
      ·dsimp only at h
       obtain ⟨he,hfin⟩:=hp
       obtain rfl:e= .ret:=he
       cases h
       exact Unw.ret (fM hfin)
    ·dsimp only at h
     obtain ⟨he,hfin⟩:=hp
     obtain rfl:e= .ret:=he
     cases h
     exact Unw.ret (fM hfin)
theorem Ph {d_0:aA} {r:Bool} (h:yN d_0=some r):FX 43 [.im 2 false [.cp (au d_0) 0]] (B0 [(false,[.im 0 (V r)])]):=by
 unfold yN at h
 refine gn 96 Tryz.func43 rfl ?_
 refine gs<|g0 j j (q (ae j j)<|nl)<|us<|gs<|gs<|?_
 obtain ⟨x10,Ii,h⟩:=bs h
 obtain ⟨OE,DC,h⟩:=bs h
 refine gX c43 j j j (mk [(0,D 2 (.cp (au d_0) 0)),(32,bv OE)] []) ?_ ?_
 ·refine xq (oMv j j)<|xq (oNl j j j)<|xq (oFA (r':=.im 2 _) j E8 j j)<|xq (oLd (cs:=[.im 2 _]) j tF2 j j)<|xq (oCa (xs:=[.v false [.im 2 _],.v false [.im 0 _],.v false [.im 0 _]]) (vs:=[(false,[.im 0 _])]) (v:=.v false [.im 0 _]) (fP Ii) (.inl j) j iM j (ppC j (ppC j (ppC j pp0))) j j pb0 j j j)<|xq (oUn j j j)<|xq (oMv j j)<|?_
  refine ic DC (fun hc1 DC=>?_) fun hc1 DC=>?_
  ·obtain ⟨x17,Ld,DC⟩:=bs DC
   refine xqT j j (nF (iR.2 hc1)) (oMv j j)<|xqT j j (nF (iR.2 hc1)) (oNl j j j)<|xqT j j (nF (iR.2 hc1)) (oFA (r':=.im 2 _) j Dq j j)<|xqT j j (nF (iR.2 hc1)) (oLd (cs:=[.im 2 _]) j tF2 j j)<|xqT j j (nF (iR.2 hc1)) (oCa (xs:=[.v false [.im 2 _],.v false [.im 0 _],.v false [.im 0 _]]) (vs:=[(false,[.im 0 _])]) (v:=.v false [.im 0 _]) (fP Ld) (.inl j) j iM j (ppC j (ppC j (ppC j pp0))) j j pb0 j j j)<|xqT j j (nF (iR.2 hc1)) (oUn j j j)<|xq (dK j j (nF (iR.2 hc1)) j)<|xq (oMv j j)<|?_
   refine ic DC (fun hc2 DC=>?_) fun hc2 DC=>?_
   ·obtain ⟨x22,Jc,DC⟩:=bs DC
    refine xqT j j (nF (iR.2 hc2)) (oMv j j)<|xqT j j (nF (iR.2 hc2)) (oCa (xs:=[.v false [.im 2 _]]) (vs:=[(false,[.im 0 _])]) (v:=.v false [.im 0 _]) (Ie Jc) (.inl j) j aaU j (ppC j pp0) j j pb0 j j j)<|xqT j j (nF (iR.2 hc2)) (oUn j j j)<|xq (dK j j (nF (iR.2 hc2)) j)<|xq (oMv j j)<|?_
    refine ic DC (fun hc3 DC=>?_) fun hc3 DC=>?_
    ·cases DC
     exact xqT j j (nF (iR.2 hc3)) (oMv j j)<|xqT j j (nF (iR.2 hc3)) (oNl j j j)<|xqT j j (nF (iR.2 hc3)) (oFA (r':=.im 2 _) j oO j j)<|xqT j j (nF (iR.2 hc3)) (oLd (cs:=[.im 2 _]) j BK j j)<|xqT j j (nF (iR.2 hc3)) (gB j j IY j)<|xqT j j (nF (iR.2 hc3)) (oBi j j j j)<|xq (dK j j (nF (iR.2 hc3)) j)<|xn
    ·cases DC
     exact aj j j (nT (byF iR hc3)) j<|aj j j (nT (byF iR hc3)) j<|aj j j (nT (byF iR hc3)) j<|aj j j (nT (byF iR hc3)) j<|aj j j (nT (byF iR hc3)) j<|aj j j (nT (byF iR hc3)) j<|xq (bF j j (nT (byF iR hc3)) j)<|xn
   ·cases DC
    exact aj j j (nT (byF iR hc2)) j<|aj j j (nT (byF iR hc2)) j<|aj j j (nT (byF iR hc2)) j<|xq (bF j j (nT (byF iR hc2)) j)<|xq (oMv j j)<|aj j j j j<|aj j j j j<|aj j j j j<|aj j j j j<|aj j j j j<|aj j j j j<|xq (bF j j j j)<|xn
  ·cases DC
   exact aj j j (nT (byF iR hc1)) j<|aj j j (nT (byF iR hc1)) j<|aj j j (nT (byF iR hc1)) j<|aj j j (nT (byF iR hc1)) j<|aj j j (nT (byF iR hc1)) j<|aj j j (nT (byF iR hc1)) j<|xq (bF j j (nT (byF iR hc1)) j)<|xq (oMv j j)<|aj j j j j<|aj j j j j<|aj j j j j<|xq (bF j j j j)<|xq (oMv j j)<|aj j j j j<|aj j j j j<|aj j j j j<|aj j j j j<|aj j j j j<|aj j j j j<|xq (bF j j j j)<|xn
 ·refine us<|gc h j iR (fun hc4 h=>?_) fun hc4 h=>?_
  ·refine gs<|g0 j j (q (ae j j)<|nl)<|us<|Go.ret (Unw.ret ?_)
   cases h
   exact fr aa8 j
  ·refine Go.skip<|us<|gs<|gs<|g0 j j (q (ae j j)<|nl)<|us<|Go.block<|?_
   obtain ⟨o,hl,h⟩:=bs h
   refine gl c43 j _ (fun (dI:Int)=>mk [(0,D 2 (.cp (au d_0) 0)),(3,iv dI)] []) (fun (o:(Unit ⊕ Bool)) (p:Ex×St)=>match o with | (.inl _)=>p.1= .exit 0∧p.2.norm ([],[])=mk [] [] | (.inr r2)=>p.1= .ret∧fin Tryz.prog cfg 43 Tryz.f43 [.im 2 false [.cp (au d_0) 0]] p.2=some (B0 [(false,[.im 0 (V r2)])])) hl (by kernel_rfl) ?_ ?_ ?_
   ·intro o p hp e
    rcases o with u | r2<;>exact nomatch (hp.1.symm.trans e)
   ·rintro dI o h
    unfold pU at h
    refine gs<|gs<|g0 j j (q (oMv j j)<|q (oMv j j)<|q (oNl j j j)<|q (oFA (r':=.im 2 _) j oO j j)<|q (oLd (cs:=[.im 2 _]) j BK j j)<|q (gB j j IY j)<|q (oBi j j j j)<|nl)<|us<|gc h j ah (fun hc21 h=>?_) fun hc21 h=>?_
    ·refine Go.skip<|us<|gs<|Go.block<|gs<|gs<|?_
     obtain ⟨x47,Tu,h⟩:=bs h
     obtain ⟨x50,QW,h⟩:=bs h
     obtain ⟨OD,Io,h⟩:=bs h
     refine gd c43 j j j j (mk [(0,D 2 (.cp (au d_0) 0)),(3,iv dI),(75,bv OD)] []) ?_ ?_
     ·refine t j j (oMv j j)<|t j j (oNl j j j)<|t j j (oFA (r':=.im 2 _) j oO j j)<|t j j (oLd (cs:=[.im 2 _]) j BK j j)<|t j j (oMv j j)<|t j j (gp j Tu Fa j j)<|t j j (oFA (r':=.im 2 _) j zO j j)<|?_
      refine ic Io (fun hc22 Io=>?_) fun hc22 Io=>?_
      ·refine ic Io (fun kR Io=>?_) fun kR Io=>?_
       ·obtain ⟨x62,adq,Io⟩:=bs Io
        obtain ⟨x70,adr,Io⟩:=bs Io
        cases Io
        exact t j j (oLd (cs:=[.im 2 _]) j tF9 j j)<|sS (dN z43 j (oCa (xs:=[.v false [.im 2 _]]) (vs:=[(false,[.im 0 _])]) (v:=.v false [.im 0 _]) (y7 QW) (.inl j) j Ti j (ppC j pp0) j j pb0 j j j)) trivial (t j j (oUn j j j)<|t j j (oMv j j)<|tT j j j j (nF (iR.2 hc22)) (oMv j j)<|tT j j j j (nF (iR.2 hc22)) (oBi j j j j)<|tT j j j j (nF (iR.2 hc22)) (oMv j j)<|tT j j j j (ah.2 kR) (oMv j j)<|tT j j j j (ah.2 kR) (oNl j j j)<|tT j j j j (ah.2 kR) (oFA (r':=.im 2 _) j oO j j)<|tT j j j j (ah.2 kR) (oLd (cs:=[.im 2 _]) j BK j j)<|tT j j j j (ah.2 kR) (oMv j j)<|tT j j j j (ah.2 kR) (oBi j j j j)<|tT j j j j (ah.2 kR) (gp j adq Fa j j)<|tT j j j j (ah.2 kR) (oFA (r':=.im 2 _) j zO j j)<|tT j j j j (ah.2 kR) (oLd (cs:=[.im 2 _]) j tF9 j j)<|tT j j j j (ah.2 kR) (oMv j j)<|tT j j j j (ah.2 kR) (oNl j j j)<|tT j j j j (ah.2 kR) (oFA (r':=.im 2 _) j oO j j)<|tT j j j j (ah.2 kR) (oLd (cs:=[.im 2 _]) j BK j j)<|tT j j j j (ah.2 kR) (oMv j j)<|tT j j j j (ah.2 kR) (gp j adr Fa j j)<|tT j j j j (ah.2 kR) (oFA (r':=.im 2 _) j zO j j)<|tT j j j j (ah.2 kR) (oLd (cs:=[.im 2 _]) j tF9 j j)<|tT j j j j (ah.2 kR) (oBi j j j j)<|tT j j j j (nF (iR.2 hc22)) (bF j j (ah.2 kR) j)<|t j j (dK j j (nF (iR.2 hc22)) j)<|sD (by kernel_rfl))
       ·cases Io
        exact t j j (oLd (cs:=[.im 2 _]) j tF9 j j)<|sS (dN z43 j (oCa (xs:=[.v false [.im 2 _]]) (vs:=[(false,[.im 0 _])]) (v:=.v false [.im 0 _]) (y7 QW) (.inl j) j Ti j (ppC j pp0) j j pb0 j j j)) trivial (t j j (oUn j j j)<|t j j (oMv j j)<|tT j j j j (nF (iR.2 hc22)) (oMv j j)<|tT j j j j (nF (iR.2 hc22)) (oBi j j j j)<|tT j j j j (nF (iR.2 hc22)) (oMv j j)<|tF j j j j (byF ah kR) j<|tF j j j j (byF ah kR) j<|tF j j j j (byF ah kR) j<|tF j j j j (byF ah kR) j<|tF j j j j (byF ah kR) j<|tF j j j j (byF ah kR) j<|tF j j j j (byF ah kR) j<|tF j j j j (byF ah kR) j<|tF j j j j (byF ah kR) j<|tF j j j j (byF ah kR) j<|tF j j j j (byF ah kR) j<|tF j j j j (byF ah kR) j<|tF j j j j (byF ah kR) j<|tF j j j j (byF ah kR) j<|tF j j j j (byF ah kR) j<|tF j j j j (byF ah kR) j<|tF j j j j (byF ah kR) j<|tF j j j j (byF ah kR) j<|tT j j j j (nF (iR.2 hc22)) (dK j j (byF ah kR) j)<|t j j (dK j j (nF (iR.2 hc22)) j)<|sD (by kernel_rfl))
      ·cases Io
       exact t j j (oLd (cs:=[.im 2 _]) j tF9 j j)<|sS (dN z43 j (oCa (xs:=[.v false [.im 2 _]]) (vs:=[(false,[.im 0 _])]) (v:=.v false [.im 0 _]) (y7 QW) (.inl j) j Ti j (ppC j pp0) j j pb0 j j j)) trivial (t j j (oUn j j j)<|t j j (oMv j j)<|tF j j j j (nT (byF iR hc22)) j<|tF j j j j (nT (byF iR hc22)) j<|tF j j j j (nT (byF iR hc22)) j<|sT j (dU j j j j)<|sT j (dU j j j j)<|sT j (dU j j j j)<|sT j (dU j j j j)<|sT j (dU j j j j)<|sT j (dU j j j j)<|sT j (dU j j j j)<|sT j (dU j j j j)<|sT j (dU j j j j)<|sT j (dU j j j j)<|sT j (dU j j j j)<|sT j (dU j j j j)<|sT j (dU j j j j)<|sT j (dU j j j j)<|sT j (dU j j j j)<|sT j (dU j j j j)<|sT j (dU j j j j)<|sT j (dU j j j j)<|tF j j j j (nT (byF iR hc22)) j<|t j j (bF j j (nT (byF iR hc22)) j)<|sD (by kernel_rfl))
     ·refine us<|gc h j iR (fun hc24 h=>?_) fun hc24 h=>?_
      ·refine gs<|g0 j j (q (ae j j)<|nl)<|us<|Go.ret (Unw.ret ?_)
       cases h
       exact ⟨j,(fo aa8 j)⟩
      ·refine Go.skip<|us<|gs<|?_
       obtain ⟨x83,abj,h⟩:=bs h
       obtain ⟨x86,ahn,h⟩:=bs h
       refine g0 j j (q (oMv j j)<|q (oMv j j)<|q (oNl j j j)<|q (oFA (r':=.im 2 _) j oO j j)<|q (oLd (cs:=[.im 2 _]) j BK j j)<|q (oMv j j)<|q (gp j abj Fa j j)<|q (oFA (r':=.im 2 _) j BI j j)<|q (oLd (cs:=[.im 2 _]) j oC j j)<|q (oCr (xs:=[.v false [.im 2 _],.v false [.im 2 _]]) (vs:=[(false,[.own 86 0 0]),(false,[.im 0 _])]) (v:=.tup [(false,[.own 86 0 0]),(false,[.im 0 _])]) (c:=⟨.sh,0,_⟩) (cs:=[]) (Lc ahn) (.inl j) j Tj j (ppC j (ppC j pp0)) j j pb0 j j j)<|q (LY j j)<|q (oEx j j j)<|q (oEx j j j)<|q (jZ j j j j j)<|q (ae j j)<|nl)<|us<|gs<|?_
       obtain ⟨Gp,Dz,h⟩:=bs h
       refine gX c43 j j j (mk [(0,D 2 (.cp (au d_0) 0)),(3,iv dI),(95,bv Gp)] []) ?_ ?_
       ·refine xq (oMv j j)<|xq (oUn j j j)<|xq (oMv j j)<|?_
        refine ic Dz (fun hc25 Dz=>?_) fun hc25 Dz=>?_
        ·obtain ⟨x93,hx93,Dz⟩:=bs Dz
         cases Dz
         exact xqT j j (nF (iR.2 hc25)) (oMv j j)<|xqT j j (nF (iR.2 hc25)) (oCa (xs:=[.v false [.own 4 0 0]]) (vs:=[(false,[.im 0 _])]) (v:=.v false [.im 0 _]) (O9 hx93) (.inl j) j aaV j (ppC j pp0) j j pb0 j j j)<|xqT j j (nF (iR.2 hc25)) (oUn j j j)<|xq (dK j j (nF (iR.2 hc25)) j)<|xn
        ·cases Dz
         exact aj j j (nT (byF iR hc25)) j<|aj j j (nT (byF iR hc25)) j<|aj j j (nT (byF iR hc25)) j<|xq (bF j j (nT (byF iR hc25)) j)<|xn
       ·refine us<|gc h j iR (fun XU h=>?_) fun XU h=>?_
        ·refine gs<|g0 j j (q (ae j j)<|nl)<|us<|Go.ret (Unw.ret ?_)
         cases h
         exact ⟨j,(fo aa8 j)⟩
        ·refine Go.skip<|Unw.blk<|us<|g0 j j (q (oMv j j)<|q (oBi j j j j)<|q (ae j j)<|nl)<|Unw.nil<|?_
         cases h
         exact ⟨j,(by kernel_rfl)⟩
    ·refine Go.exit<|ux<|Unw.nil<|?_
     cases h
     exact ⟨j,(by kernel_rfl)⟩
   ·rintro ⟨e,st⟩ hp
    rcases o with u | r2
    ·dsimp only at h
     obtain ⟨he,hst⟩:=hp
     obtain rfl:e= .exit 0:=he
     refine Unw.iT<|us<|gs<|g2 c43 j j hst (q (ae j j)<|nl)<|us<|Go.ret (Unw.ret ?_)
     cases h
     exact fr aa8 j
    ·dsimp only at h
     obtain ⟨he,hfin⟩:=hp
     obtain rfl:e= .ret:=he
     cases h
     exact Unw.ret (fM hfin)
theorem Jd {r:(List ByteArray)} (h:wK=some r):FX 120 [] (B0 [(false,[.ow 0 1 (List.map eS r)])]):=by
 unfold wK at h
 refine gn 2 Tryz.func120 rfl ?_
 refine gs<|g0 j j (q (uO j j aeD)<|nl)<|us<|gs<|g0 j j (q (oBS (es:=List.map eS ([(⟨#[97,115,104]⟩:ByteArray),(⟨#[98,101,101,99,104]⟩:ByteArray),(⟨#[98,105,114,99,104]⟩:ByteArray),(⟨#[99,104,101,114,114,121]⟩:ByteArray),(⟨#[101,98,111,110,121]⟩:ByteArray),(⟨#[104,111,108,108,121]⟩:ByteArray),(⟨#[109,97,112,108,101]⟩:ByteArray),(⟨#[111,97,107]⟩:ByteArray),(⟨#[114,111,115,101,119,111,111,100]⟩:ByteArray),(⟨#[119,97,108,110,117,116]⟩:ByteArray)]:List ByteArray)) j abU j (ptC j (fxI fx0) j (ptC j (fxI fx0) j (ptC j (fxI fx0) j (ptC j (fxI fx0) j (ptC j (fxI fx0) j (ptC j (fxI fx0) j (ptC j (fxI fx0) j (ptC j (fxI fx0) j (ptC j (fxI fx0) j (ptC j (fxI fx0) j pt0)))))))))) (dZ j fun _=>j))<|q (jZ j j j j j)<|nl)<|us<|Go.ret (Unw.ret ?_)
 cases h
 exact fr aeK j
theorem Lj {jJ:ByteArray} {r:Int} (h:qW jJ=some r):FX 95 [.im 2 false [Y jJ]] (B0 [(false,[.im 0 (I r)])]):=by
 unfold qW at h
 refine gn 19 Tryz.func95 rfl ?_
 refine gs<|g0 j j (q (ae j j)<|nl)<|us<|gs<|?_
 obtain ⟨x5,hx5,h⟩:=bs h
 refine g0 j j (q (oCr (xs:=[]) (vs:=[(false,[.own 5 0 0])]) (v:=.v false [.own 5 0 0]) (c:=⟨.sh,0,_⟩) (cs:=[]) (Jd hx5) (.inl j) j acY j pp0 j j pb0 j j j)<|q (jZ j j j j j)<|nl)<|us<|gs<|gs<|g0 j j (q (ae j j)<|nl)<|us<|Go.block<|?_
 obtain ⟨o,hl,h⟩:=bs h
 refine gl c95 j _ (fun (bT:Int)=>mk [(0,sv jJ),(3,H 3 0),(4,iv bT)] [(3,Oc [Z (W 1 eS x5)])]) (fun (o:(Unit ⊕ Int)) (p:Ex×St)=>match o with | (.inl _)=>p.1= .exit 0∧p.2.norm ([],[])=mk [] [] | (.inr r2)=>p.1= .ret∧fin Tryz.prog cfg 95 Tryz.f95 [.im 2 false [Y jJ]] p.2=some (B0 [(false,[.im 0 (I r2)])])) hl (by kernel_rfl) ?_ ?_ ?_
 ·intro o p hp e
  rcases o with u | r2<;>exact nomatch (hp.1.symm.trans e)
 ·rintro bT o h
  unfold oV at h
  refine gs<|gs<|g0 j j (q (oMv j j)<|q (oMv j j)<|q (Ho j j aff j j j (fun e=>nomatch e))<|q (oBi j j j j)<|nl)<|us<|gc h j ah (fun hc5 h=>?_) fun hc5 h=>?_
  ·refine Go.skip<|us<|gs<|Go.block<|gs<|?_
   obtain ⟨x14,vG,h⟩:=bs h
   refine g0 j j (q (oMv j j)<|q (oMv j j)<|q (Ak j vG abU j j j j)<|q (IW (cs:=[.im 0 _]) j tF9 j j j j (eX vG) j j)<|q (oMv j j)<|q (oBi j j j j)<|nl)<|us<|gc h j zI (fun hc6 h=>?_) fun hc6 h=>?_
   ·refine gs<|g0 j j (q (oMv j j)<|q (ae j j)<|nl)<|us<|Go.ret (Unw.ret ?_)
    cases h
    exact ⟨j,(fo ae4 j)⟩
   ·refine Go.skip<|Unw.blk<|us<|g0 j j (q (oMv j j)<|q (oBi j j j j)<|q (ae j j)<|nl)<|Unw.nil<|?_
    cases h
    exact ⟨j,(by kernel_rfl)⟩
  ·refine Go.exit<|ux<|Unw.nil<|?_
   cases h
   exact ⟨j,(by kernel_rfl)⟩
 ·rintro ⟨e,st⟩ hp
  rcases o with u | r2
  ·dsimp only at h
   obtain ⟨he,hst⟩:=hp
   obtain rfl:e= .exit 0:=he
   refine Unw.iT<|us<|gs<|g2 c95 j j hst (q (ae j j)<|nl)<|us<|Go.ret (Unw.ret ?_)
   cases h
   exact fr ae4 j
  ·dsimp only at h
   obtain ⟨he,hfin⟩:=hp
   obtain rfl:e= .ret:=he
   cases h
   exact Unw.ret (fM hfin)
theorem Je {r:(List (List Int))} (h:wL=some r):FX 96 [] (B0 [(false,[.ow 0 1 (List.map (eL 1 eI) r)])]):=by
 unfold wL at h
 refine gn 12 Tryz.func96 rfl ?_
 refine gs<|g0 j j (q (uO j j acP)<|nl)<|us<|gs<|g0 j j (q (oBS (es:=List.map eI ([20,40,310]:List Int)) j fO j (ptC j (fxI fx0) j (ptC j (fxI fx0) j (ptC j (fxI fx0) j pt0))) (dZ j fun _=>j))<|q (oBS (es:=List.map eI ([35,45,410]:List Int)) j fO j (ptC j (fxI fx0) j (ptC j (fxI fx0) j (ptC j (fxI fx0) j pt0))) (dZ j fun _=>j))<|q (oBS (es:=List.map eI ([15,33,280]:List Int)) j fO j (ptC j (fxI fx0) j (ptC j (fxI fx0) j (ptC j (fxI fx0) j pt0))) (dZ j fun _=>j))<|q (oBS (es:=List.map eI ([50,36,240]:List Int)) j fO j (ptC j (fxI fx0) j (ptC j (fxI fx0) j (ptC j (fxI fx0) j pt0))) (dZ j fun _=>j))<|q (oBS (es:=List.map eI ([95,85,270]:List Int)) j fO j (ptC j (fxI fx0) j (ptC j (fxI fx0) j (ptC j (fxI fx0) j pt0))) (dZ j fun _=>j))<|q (oBS (es:=List.map eI ([5,35,370]:List Int)) j fO j (ptC j (fxI fx0) j (ptC j (fxI fx0) j (ptC j (fxI fx0) j pt0))) (dZ j fun _=>j))<|q (oBS (es:=List.map eI ([10,42,290]:List Int)) j fO j (ptC j (fxI fx0) j (ptC j (fxI fx0) j (ptC j (fxI fx0) j pt0))) (dZ j fun _=>j))<|q (oBS (es:=List.map eI ([40,40,330]:List Int)) j fO j (ptC j (fxI fx0) j (ptC j (fxI fx0) j (ptC j (fxI fx0) j pt0))) (dZ j fun _=>j))<|q (oBS (es:=List.map eI ([80,60,220]:List Int)) j fO j (ptC j (fxI fx0) j (ptC j (fxI fx0) j (ptC j (fxI fx0) j pt0))) (dZ j fun _=>j))<|q (oBS (es:=List.map eI ([70,38,260]:List Int)) j fO j (ptC j (fxI fx0) j (ptC j (fxI fx0) j (ptC j (fxI fx0) j pt0))) (dZ j fun _=>j))<|q (oBS (es:=List.map (eL 1 eI) ([([20,40,310]:List Int),([35,45,410]:List Int),([15,33,280]:List Int),([50,36,240]:List Int),([95,85,270]:List Int),([5,35,370]:List Int),([10,42,290]:List Int),([40,40,330]:List Int),([80,60,220]:List Int),([70,38,260]:List Int)]:List (List Int))) j uF j (ptC j (fxO j j fx0) j (ptC j (fxO j j fx0) j (ptC j (fxO j j fx0) j (ptC j (fxO j j fx0) j (ptC j (fxO j j fx0) j (ptC j (fxO j j fx0) j (ptC j (fxO j j fx0) j (ptC j (fxO j j fx0) j (ptC j (fxO j j fx0) j (ptC j (fxO j j fx0) j pt0)))))))))) (Df j))<|q (jZ j j j j j)<|nl)<|us<|Go.ret (Unw.ret ?_)
 cases h
 exact fr ahf j
theorem Jf {g_0:Int} {r:Bool} (h:wM g_0=some r):FX 97 [.im 2 false [I g_0]] (B0 [(false,[.im 0 (V r)])]):=by
 unfold wM at h
 refine gn 5 Tryz.func97 rfl ?_
 refine gs<|g0 j j (q (ae j j)<|nl)<|us<|gs<|?_
 obtain ⟨x4,hx4,h⟩:=bs h
 refine g0 j j (q (oMv j j)<|q (oCa (xs:=[.v false [.im 2 _],.v false [.im 0 _],.v false [.im 0 _]]) (vs:=[(false,[.im 0 _])]) (v:=.v false [.im 0 _]) (fP hx4) (.inl j) j iM j (ppC j (ppC j (ppC j pp0))) j j pb0 j j j)<|q (ae j j)<|nl)<|us<|Go.ret (Unw.ret ?_)
 cases h
 exact fr ahg j
theorem Pj {v_0:ai} {r:Bool} (h:ug v_0=some r):FX 71 [.im 2 false [.cp (iG v_0) 0]] (B0 [(false,[.im 0 (V r)])]):=by
 unfold ug at h
 refine gn 42 Tryz.func71 rfl ?_
 refine gs<|g0 j j (q (ae j j)<|nl)<|us<|gs<|?_
 obtain ⟨x9,hx9,h⟩:=bs h
 refine g0 j j (q (oMv j j)<|q (oNl j j j)<|q (oFA (r':=.im 2 _) j H8 j j)<|q (oLd (cs:=[.im 2 _]) j tF9 j j)<|q (oCa (xs:=[.v false [.im 2 _]]) (vs:=[(false,[.im 0 _])]) (v:=.v false [.im 0 _]) (Lj hx9) (.inl j) j ac0 j (ppC j pp0) j j pb0 j j j)<|q (ae j j)<|nl)<|us<|gs<|gs<|?_
 obtain ⟨OG,hm5,h⟩:=bs h
 refine gX c71 j j j (mk [(0,D 2 (.cp (iG v_0) 0)),(3,iv x9),(19,bv OG)] []) ?_ ?_
 ·refine xq (oMv j j)<|xq (oBi j j j j)<|xq (oMv j j)<|?_
  refine ic hm5 (fun hc1 hm5=>?_) fun hc1 hm5=>?_
  ·cases hm5
   exact aj j j (ah.2 hc1) j<|aj j j (ah.2 hc1) j<|aj j j (ah.2 hc1) j<|aj j j (ah.2 hc1) j<|aj j j (ah.2 hc1) j<|aj j j (ah.2 hc1) j<|xq (bF j j (ah.2 hc1) j)<|xn
  ·obtain ⟨x17,Ld,hm5⟩:=bs hm5
   cases hm5
   exact xqT j j (byF ah hc1) (oMv j j)<|xqT j j (byF ah hc1) (oNl j j j)<|xqT j j (byF ah hc1) (oFA (r':=.im 2 _) j rO j j)<|xqT j j (byF ah hc1) (oLd (cs:=[.im 2 _]) j tF2 j j)<|xqT j j (byF ah hc1) (oCa (xs:=[.v false [.im 2 _],.v false [.im 0 _],.v false [.im 0 _]]) (vs:=[(false,[.im 0 _])]) (v:=.v false [.im 0 _]) (fP Ld) (.inl j) j iM j (ppC j (ppC j (ppC j pp0))) j j pb0 j j j)<|xqT j j (byF ah hc1) (oUn j j j)<|xq (dK j j (byF ah hc1) j)<|xn
 ·refine us<|gc h j iR (fun hc2 h=>?_) fun hc2 h=>?_
  ·refine gs<|g0 j j (q (ae j j)<|nl)<|us<|Go.ret (Unw.ret ?_)
   cases h
   exact fr aeX j
  ·refine Go.skip<|us<|gs<|?_
   obtain ⟨x20,xM,h⟩:=bs h
   obtain ⟨x22,Jc,h⟩:=bs h
   obtain ⟨x24,hx24,h⟩:=bs h
   refine g0 j j (q (oCr (xs:=[]) (vs:=[(false,[.own 20 0 0])]) (v:=.v false [.own 20 0 0]) (c:=⟨.sh,0,_⟩) (cs:=[]) (Je xM) (.inl j) j aeE j pp0 j j pb0 j j j)<|q (oMv j j)<|q (Ak j Jc uF j j j j)<|q (IW (cs:=[.im 0 _]) j oC j j j j (eX Jc) j j)<|q (gp j hx24 fO j j)<|q (oLd (cs:=[.im 0 _]) j tF2 j j)<|q (ae j j)<|nl)<|us<|gs<|?_
   obtain ⟨x34,hx34,h⟩:=bs h
   obtain ⟨SC,hm4,h⟩:=bs h
   refine gX c71 j j j (mk [(2,bv SC)] []) ?_ ?_
   ·refine xq (oMv j j)<|xq (oNl j j j)<|xq (oFA (r':=.im 2 _) j rO j j)<|xq (oLd (cs:=[.im 2 _]) j tF2 j j)<|xq (oMv j j)<|xq (oBi j j j j)<|xq (oMv j j)<|xq (oBi j j j j)<|xq (oCa (xs:=[.v false [.im 2 _],.v false [.im 0 _],.v false [.im 0 _]]) (vs:=[(false,[.im 0 _])]) (v:=.v false [.im 0 _]) (fP hx34) (.inl j) j iM j (ppC j (ppC j (ppC j pp0))) j j pb0 j j j)<|xq (oMv j j)<|?_
    refine ic hm4 (fun hc3 hm4=>?_) fun hc3 hm4=>?_
    ·obtain ⟨x40,Ig,hm4⟩:=bs hm4
     cases hm4
     exact xqT j j (iR.2 hc3) (oMv j j)<|xqT j j (iR.2 hc3) (oNl j j j)<|xqT j j (iR.2 hc3) (oFA (r':=.im 2 _) j zN j j)<|xqT j j (iR.2 hc3) (oLd (cs:=[.im 2 _]) j tF2 j j)<|xqT j j (iR.2 hc3) (oCa (xs:=[.v false [.im 2 _]]) (vs:=[(false,[.im 0 _])]) (v:=.v false [.im 0 _]) (Jf Ig) (.inl j) j ac1 j (ppC j pp0) j j pb0 j j j)<|xq (bF j j (iR.2 hc3) j)<|xq (ae j j)<|xn
    ·cases hm4
     exact aj j j (byF iR hc3) j<|aj j j (byF iR hc3) j<|aj j j (byF iR hc3) j<|aj j j (byF iR hc3) j<|aj j j (byF iR hc3) j<|xq (dK j j (byF iR hc3) j)<|xq (ae j j)<|xn
   ·refine us<|Go.ret (Unw.ret ?_)
    cases h
    exact fr aeX j
theorem Gw {bW:(List ai)} {r:Bool} (h:oW bW=some r):FX 44 [.im 2 false [W 3 ak bW]] (B0 [(false,[.im 0 (V r)])]):=by
 unfold oW at h
 refine gn 15 Tryz.func44 rfl ?_
 refine gs<|g0 j j (q (ae j j)<|nl)<|us<|gs<|gs<|g0 j j (q (ae j j)<|nl)<|us<|Go.block<|?_
 obtain ⟨o,hl,h⟩:=bs h
 refine gl c44 j _ (fun (Hy:Int)=>mk [(0,D 2 (W 3 ak bW)),(3,iv Hy)] []) (fun (o:(Unit ⊕ Bool)) (p:Ex×St)=>match o with | (.inl _)=>p.1= .exit 0∧p.2.norm ([],[])=mk [] [] | (.inr r2)=>p.1= .ret∧fin Tryz.prog cfg 44 Tryz.f44 [.im 2 false [W 3 ak bW]] p.2=some (B0 [(false,[.im 0 (V r2)])])) hl (by kernel_rfl) ?_ ?_ ?_
 ·intro o p hp e
  rcases o with u | r2<;>exact nomatch (hp.1.symm.trans e)
 ·rintro Hy o h
  unfold lN at h
  refine gs<|gs<|g0 j j (q (oMv j j)<|q (oMv j j)<|q (gB j j Fe j)<|q (oBi j j j j)<|nl)<|us<|gc h j ah (fun hc5 h=>?_) fun hc5 h=>?_
  ·refine Go.skip<|us<|gs<|Go.block<|gs<|?_
   obtain ⟨x12,zS,h⟩:=bs h
   obtain ⟨x13,O5,h⟩:=bs h
   refine g0 j j (q (oMv j j)<|q (oMv j j)<|q (gp j zS Ia j j)<|q (oCa (xs:=[.v false [.im 2 _]]) (vs:=[(false,[.im 0 _])]) (v:=.v false [.im 0 _]) (Pj O5) (.inl j) j aaW j (ppC j pp0) j j pb0 j j j)<|q (oUn j j j)<|nl)<|us<|?_
   by_cases hc6:x13=true
   ·rw [if_pos hc6] at h
    refine gF j (nF (iR.2 hc6))<|Go.skip<|Unw.blk<|us<|g0 j j (q (oMv j j)<|q (oBi j j j j)<|q (ae j j)<|nl)<|Unw.nil<|?_
    cases h
    exact ⟨j,(by kernel_rfl)⟩
   ·rw [if_neg hc6] at h
    refine gT j (nT (byF iR hc6))<|gs<|g0 j j (q (ae j j)<|nl)<|us<|Go.ret (Unw.ret ?_)
    cases h
    exact ⟨j,(fo aeT j)⟩
  ·refine Go.exit<|ux<|Unw.nil<|?_
   cases h
   exact ⟨j,(by kernel_rfl)⟩
 ·rintro ⟨e,st⟩ hp
  rcases o with u | r2
  ·dsimp only at h
   obtain ⟨he,hst⟩:=hp
   obtain rfl:e= .exit 0:=he
   refine Unw.iT<|us<|gs<|g2 c44 j j hst (q (ae j j)<|nl)<|us<|Go.ret (Unw.ret ?_)
   cases h
   exact fr aeT j
  ·dsimp only at h
   obtain ⟨he,hfin⟩:=hp
   obtain rfl:e= .ret:=he
   cases h
   exact Unw.ret (fM hfin)
theorem Me {d_0:aA} {aI:(List ai)} {aN:Int} {bz:Int} {r:Int} (h:wY d_0 aI aN bz=some r):FX 26 [.im 2 false [.cp (au d_0) 0],.im 2 false [W 3 ak aI],.im 2 false [I aN],.im 2 false [I bz]] (B0 [(false,[.im 0 (I r)])]):=by
 unfold wY at h
 refine gn 35 Tryz.func26 rfl ?_
 refine gs<|g0 j j (q (ae j j)<|nl)<|us<|gs<|gs<|?_
 obtain ⟨x10,Ii,h⟩:=bs h
 obtain ⟨Bz,hm8,h⟩:=bs h
 refine gX c26 j j j (mk [(1,D 2 (W 3 ak aI)),(2,iv aN),(3,iv bz),(16,bv Bz)] []) ?_ ?_
 ·refine xq (oMv j j)<|xq (oCa (xs:=[.v false [.im 2 _]]) (vs:=[(false,[.im 0 _])]) (v:=.v false [.im 0 _]) (Ph Ii) (.inl j) j aaK j (ppC j pp0) j j pb0 j j j)<|xq (oUn j j j)<|xq (oMv j j)<|?_
  refine ic hm8 (fun hc1 hm8=>?_) fun hc1 hm8=>?_
  ·obtain ⟨x14,vG,hm8⟩:=bs hm8
   cases hm8
   exact xqT j j (nF (iR.2 hc1)) (oMv j j)<|xqT j j (nF (iR.2 hc1)) (oCa (xs:=[.v false [.im 2 _]]) (vs:=[(false,[.im 0 _])]) (v:=.v false [.im 0 _]) (Gw vG) (.inl j) j aaL j (ppC j pp0) j j pb0 j j j)<|xqT j j (nF (iR.2 hc1)) (oUn j j j)<|xq (dK j j (nF (iR.2 hc1)) j)<|xn
  ·cases hm8
   exact aj j j (nT (byF iR hc1)) j<|aj j j (nT (byF iR hc1)) j<|aj j j (nT (byF iR hc1)) j<|xq (bF j j (nT (byF iR hc1)) j)<|xn
 ·refine us<|gc h j iR (fun hc2 h=>?_) fun hc2 h=>?_
  ·refine gs<|g0 j j (q (ae j j)<|nl)<|us<|Go.ret (Unw.ret ?_)
   cases h
   exact fr ac6 j
  ·refine Go.skip<|us<|gs<|gs<|?_
   obtain ⟨OH,hm7,h⟩:=bs h
   refine gX c26 j j j (mk [(34,bv OH)] []) ?_ ?_
   ·refine xq (oMv j j)<|xq (gB j j Fe j)<|xq (oBi j j j j)<|xq (oMv j j)<|?_
    refine ic hm7 (fun hc3 hm7=>?_) fun hc3 hm7=>?_
    ·cases hm7
     exact aj j j (ah.2 hc3) j<|aj j j (ah.2 hc3) j<|aj j j (ah.2 hc3) j<|xq (bF j j (ah.2 hc3) j)<|xq (oMv j j)<|aj j j j j<|aj j j j j<|aj j j j j<|xq (bF j j j j)<|xq (oMv j j)<|aj j j j j<|aj j j j j<|aj j j j j<|xq (bF j j j j)<|xn
    ·refine xqT j j (byF ah hc3) (oMv j j)<|xqT j j (byF ah hc3) (gB j j Fe j)<|xqT j j (byF ah hc3) (oBi j j j j)<|xq (dK j j (byF ah hc3) j)<|xq (oMv j j)<|?_
     refine ic hm7 (fun hc4 hm7=>?_) fun hc4 hm7=>?_
     ·cases hm7
      exact aj j j (ah.2 hc4) j<|aj j j (ah.2 hc4) j<|aj j j (ah.2 hc4) j<|xq (bF j j (ah.2 hc4) j)<|xq (oMv j j)<|aj j j j j<|aj j j j j<|aj j j j j<|xq (bF j j j j)<|xn
     ·obtain ⟨x27,hx27,hm7⟩:=bs hm7
      refine xqT j j (byF ah hc4) (oMv j j)<|xqT j j (byF ah hc4) (oCa (xs:=[.v false [.im 0 _],.v false [.im 0 _],.v false [.im 0 _]]) (vs:=[(false,[.im 0 _])]) (v:=.v false [.im 0 _]) (fP hx27) (.inl j) j iM j (ppC j (ppC j (ppC j pp0))) j j pb0 j j j)<|xqT j j (byF ah hc4) (oUn j j j)<|xq (dK j j (byF ah hc4) j)<|xq (oMv j j)<|?_
      refine ic hm7 (fun hc5 hm7=>?_) fun hc5 hm7=>?_
      ·obtain ⟨x32,hx32,hm7⟩:=bs hm7
       cases hm7
       exact xqT j j (nF (iR.2 hc5)) (oMv j j)<|xqT j j (nF (iR.2 hc5)) (oCa (xs:=[.v false [.im 0 _],.v false [.im 0 _],.v false [.im 0 _]]) (vs:=[(false,[.im 0 _])]) (v:=.v false [.im 0 _]) (fP hx32) (.inl j) j iM j (ppC j (ppC j (ppC j pp0))) j j pb0 j j j)<|xqT j j (nF (iR.2 hc5)) (oUn j j j)<|xq (dK j j (nF (iR.2 hc5)) j)<|xn
      ·cases hm7
       exact aj j j (nT (byF iR hc5)) j<|aj j j (nT (byF iR hc5)) j<|aj j j (nT (byF iR hc5)) j<|xq (bF j j (nT (byF iR hc5)) j)<|xn
   ·refine us<|gc h j iR (fun hc6 h=>?_) fun hc6 h=>?_
    ·refine gs<|g0 j j (q (ae j j)<|nl)<|us<|Go.ret (Unw.ret ?_)
     cases h
     exact fr ac6 j
    ·refine Go.skip<|us<|gs<|g0 j j (q (ae j j)<|nl)<|us<|Go.ret (Unw.ret ?_)
     cases h
     exact fr ac6 j
theorem Gx {kP:(List Int)} {i_1:Int} {k_2:Int} {r:Bool} (h:oZ kP i_1 k_2=some r):FX 98 [.im 2 false [W 1 eI kP],.im 2 false [I i_1],.im 2 false [I k_2]] (B0 [(false,[.im 0 (V r)])]):=by
 unfold oZ at h
 refine gn 46 Tryz.func98 rfl ?_
 refine gs<|g0 j j (q (ae j j)<|nl)<|us<|gs<|gs<|g0 j j (q (ae j j)<|nl)<|us<|Go.block<|?_
 obtain ⟨o,hl,h⟩:=bs h
 refine gl c98 j _ (fun (Dj:Int)=>mk [(0,D 2 (W 1 eI kP)),(1,iv i_1),(2,iv k_2),(7,iv Dj)] []) (fun (o:(Unit ⊕ Bool)) (p:Ex×St)=>match o with | (.inl _)=>p.1= .exit 0∧p.2.norm ([],[])=mk [] [] | (.inr r2)=>p.1= .ret∧fin Tryz.prog cfg 98 Tryz.f98 [.im 2 false [W 1 eI kP],.im 2 false [I i_1],.im 2 false [I k_2]] p.2=some (B0 [(false,[.im 0 (V r2)])])) hl (by kernel_rfl) ?_ ?_ ?_
 ·intro o p hp e
  rcases o with u | r2<;>exact nomatch (hp.1.symm.trans e)
 ·rintro Dj o h
  unfold lQ at h
  refine gs<|gs<|g0 j j (q (oMv j j)<|q (oMv j j)<|q (gB j j l9 j)<|q (oBi j j j j)<|nl)<|us<|gc h j ah (fun A7 h=>?_) fun A7 h=>?_
  ·refine Go.skip<|us<|gs<|Go.block<|gs<|?_
   obtain ⟨x18,Ff,h⟩:=bs h
   refine g0 j j (q (oMv j j)<|q (oMv j j)<|q (gp j Ff fO j j)<|q (oLd (cs:=[.im 2 _]) j tF2 j j)<|q (ae j j)<|nl)<|us<|gs<|?_
   obtain ⟨x25,hx25,h⟩:=bs h
   obtain ⟨x26,O6,h⟩:=bs h
   refine g0 j j (q (oMv j j)<|q (oMv j j)<|q (oBi j j j j)<|q (oMv j j)<|q (gB j j l9 j)<|q (Gj j hx25 j j)<|q (gp j O6 fO j j)<|q (oLd (cs:=[.im 2 _]) j tF2 j j)<|q (ae j j)<|nl)<|us<|gs<|?_
   obtain ⟨OI,DD,h⟩:=bs h
   refine gX c98 j j j (mk [(0,D 2 (W 1 eI kP)),(1,iv i_1),(2,iv k_2),(7,iv Dj),(45,bv OI)] []) ?_ ?_
   ·refine xq (oMv j j)<|xq (oMv j j)<|xq (oBi j j j j)<|xq (oMv j j)<|?_
    refine ic DD (fun hc16 DD=>?_) fun hc16 DD=>?_
    ·refine xqT j j (iEq.2 hc16) (oMv j j)<|xqT j j (iEq.2 hc16) (oMv j j)<|xqT j j (iEq.2 hc16) (oBi j j j j)<|xq (bF j j (iEq.2 hc16) j)<|xq (oMv j j)<|?_
     refine ic DD (fun hc17 DD=>?_) fun hc17 DD=>?_
     ·cases DD
      exact aj j j (iEq.2 hc17) j<|aj j j (iEq.2 hc17) j<|aj j j (iEq.2 hc17) j<|aj j j (iEq.2 hc17) j<|Sv j j j<|Sv j j j<|Sv j j j<|aj j j (iEq.2 hc17) j<|xq (bF j j (iEq.2 hc17) j)<|xn
     ·refine xqT j j (byF iEq hc17) (oMv j j)<|xqT j j (byF iEq hc17) (oMv j j)<|xqT j j (byF iEq hc17) (oBi j j j j)<|xqT j j (byF iEq hc17) (oMv j j)<|?_
      refine ic DD (fun hc18 DD=>?_) fun hc18 DD=>?_
      ·cases DD
       exact xqT j j (iEq.2 hc18) (oMv j j)<|xqT j j (iEq.2 hc18) (oMv j j)<|xqT j j (iEq.2 hc18) (oBi j j j j)<|xqT j j (byF iEq hc17) (bF j j (iEq.2 hc18) j)<|xq (dK j j (byF iEq hc17) j)<|xn
      ·cases DD
       exact aj j j (byF iEq hc18) j<|aj j j (byF iEq hc18) j<|aj j j (byF iEq hc18) j<|xqT j j (byF iEq hc17) (dK j j (byF iEq hc18) j)<|xq (dK j j (byF iEq hc17) j)<|xn
    ·refine aj j j (byF iEq hc16) j<|aj j j (byF iEq hc16) j<|aj j j (byF iEq hc16) j<|xq (dK j j (byF iEq hc16) j)<|xq (oMv j j)<|xqT j j j (oMv j j)<|xqT j j j (oMv j j)<|xqT j j j (oBi j j j j)<|xqT j j j (oMv j j)<|?_
     refine ic DD (fun hc19 DD=>?_) fun hc19 DD=>?_
     ·cases DD
      exact xqT j j (iEq.2 hc19) (oMv j j)<|xqT j j (iEq.2 hc19) (oMv j j)<|xqT j j (iEq.2 hc19) (oBi j j j j)<|xqT j j j (bF j j (iEq.2 hc19) j)<|xq (dK j j j j)<|xn
     ·cases DD
      exact aj j j (byF iEq hc19) j<|aj j j (byF iEq hc19) j<|aj j j (byF iEq hc19) j<|xqT j j j (dK j j (byF iEq hc19) j)<|xq (dK j j j j)<|xn
   ·refine us<|gc h j iR (fun Fg h=>?_) fun Fg h=>?_
    ·refine gs<|g0 j j (q (ae j j)<|nl)<|us<|Go.ret (Unw.ret ?_)
     cases h
     exact ⟨j,(fo ae5 j)⟩
    ·refine Go.skip<|Unw.blk<|us<|g0 j j (q (oMv j j)<|q (oBi j j j j)<|q (ae j j)<|nl)<|Unw.nil<|?_
     cases h
     exact ⟨j,(by kernel_rfl)⟩
  ·refine Go.exit<|ux<|Unw.nil<|?_
   cases h
   exact ⟨j,(by kernel_rfl)⟩
 ·rintro ⟨e,st⟩ hp
  rcases o with u | r2
  ·dsimp only at h
   obtain ⟨he,hst⟩:=hp
   obtain rfl:e= .exit 0:=he
   refine Unw.iT<|us<|gs<|g2 c98 j j hst (q (ae j j)<|nl)<|us<|Go.ret (Unw.ret ?_)
   cases h
   exact fr ae5 j
  ·dsimp only at h
   obtain ⟨he,hfin⟩:=hp
   obtain rfl:e= .ret:=he
   cases h
   exact Unw.ret (fM hfin)
theorem Ll {d_0:aA} {k_1:Int} {r:(List Int)} (h:vg d_0 k_1=some r):FX 72 [.im 2 false [.cp (au d_0) 0],.im 2 false [I k_1]] (B0 [(false,[.ow 0 1 (List.map eI r)])]):=by
 unfold vg at h
 refine gn 69 Tryz.func72 rfl ?_
 refine gs<|g0 j j (q (uO j j Eg)<|nl)<|us<|gs<|g0 j j (q (oBS (es:=List.map eI ([]:List Int)) j fO j pt0 (dZ j fun _=>j))<|q (jZ j j j j j)<|nl)<|us<|gs<|?_
 obtain ⟨x16,hx16,h⟩:=bs h
 refine g0 j j (q (oMv j j)<|q (oNl j j j)<|q (oFA (r':=.im 2 _) j oO j j)<|q (oLd (cs:=[.im 2 _]) j BK j j)<|q (oMv j j)<|q (gp j hx16 Fa j j)<|q (oFA (r':=.im 2 _) j BI j j)<|q (oLd (cs:=[.im 2 _]) j oC j j)<|q (ae j j)<|nl)<|us<|gs<|gs<|g0 j j (q (ae j j)<|nl)<|us<|Go.block<|?_
 obtain ⟨o,hl,h⟩:=bs h
 refine gl c72 j _ (fun (s:(Int×(List Int)))=>match s with | (jK,eF)=>mk [(0,D 2 (.cp (au d_0) 0)),(1,iv k_1),(5,H 5 0),(6,D 2 (W 1 eI x16.Ring)),(7,iv jK)] [(5,Oc [Z (W 1 eI eF)])]) (fun (jB:(List Int)) (p:Ex×St)=>p.1= .exit 0∧p.2.norm ([5],[5])=mk [(5,H 5 0)] [(5,Oc [Z (W 1 eI jB)])]) hl (by kernel_rfl) ?_ ?_ ?_
 ·intro o p hp e
  exact nomatch (hp.1.symm.trans e)
 ·rintro ⟨jK,eF⟩ o h
  unfold o7 at h
  dsimp only at h
  refine gs<|gs<|g0 j j (q (oMv j j)<|q (oMv j j)<|q (oNl j j j)<|q (oFA (r':=.im 2 _) j oO j j)<|q (oLd (cs:=[.im 2 _]) j BK j j)<|q (gB j j IY j)<|q (oBi j j j j)<|nl)<|us<|gc h j ah (fun A7 h=>?_) fun A7 h=>?_
  ·refine Go.skip<|us<|gs<|Go.join (fun st=>∃Ar,o5 jK Ar=some o∧st.norm ([0,1,5,6,7],[5])=mk [(0,D 2 (.cp (au d_0) 0)),(1,iv k_1),(5,H 5 0),(6,D 2 (W 1 eI x16.Ring)),(7,iv jK)] [(5,Oc [Z (W 1 eI Ar)])]) ?_ ?_
   ·rintro st ⟨Ar,h,hst⟩
    unfold o5 at h
    refine us<|g2 c72 j j hst (q (oMv j j)<|q (oBi j j j j)<|q (ae j j)<|nl)<|Unw.nil<|?_
    cases h
    exact ⟨j,(by kernel_rfl)⟩
   ·intro K22
    refine Go.block<|gs<|g0 j j (q (ae j j)<|nl)<|us<|gs<|gs<|g0 j j (q (ae j j)<|nl)<|us<|Go.block<|?_
    obtain ⟨o,hl,h⟩:=bs h
    refine gl c72 j _ (fun (s:(Bool×Int))=>match s with | (yO,Dk)=>mk [(0,D 2 (.cp (au d_0) 0)),(1,iv k_1),(5,H 5 0),(6,D 2 (W 1 eI x16.Ring)),(7,iv jK),(8,bv yO),(9,iv Dk)] [(5,Oc [Z (W 1 eI eF)])]) (fun (qX:Bool) (p:Ex×St)=>p.1= .exit 2∧p.2.norm ([0,1,5,6,7,8],[5])=mk [(0,D 2 (.cp (au d_0) 0)),(1,iv k_1),(5,H 5 0),(6,D 2 (W 1 eI x16.Ring)),(7,iv jK),(8,bv qX)] [(5,Oc [Z (W 1 eI eF)])]) hl (by kernel_rfl) ?_ ?_ ?_
    ·intro o p hp e
     exact nomatch (hp.1.symm.trans e)
    ·rintro ⟨yO,Dk⟩ o h
     unfold o6 at h
     dsimp only at h
     refine gs<|gs<|g0 j j (q (oMv j j)<|q (oMv j j)<|q (gB j j l9 j)<|q (oBi j j j j)<|nl)<|us<|gc h j ah (fun hc29 h=>?_) fun hc29 h=>?_
     ·refine Go.skip<|us<|gs<|Go.block<|?_
      obtain ⟨Dl,Fh,h⟩:=bs h
      refine gd c72 j j j j (mk [(0,D 2 (.cp (au d_0) 0)),(1,iv k_1),(5,H 5 0),(6,D 2 (W 1 eI x16.Ring)),(7,iv jK),(8,bv Dl),(9,iv Dk)] [(5,Oc [Z (W 1 eI eF)])]) ?_ ?_
      ·refine t j j (oMv j j)<|t j j (oMv j j)<|?_
       refine ic Fh (fun kS Fh=>?_) fun kS Fh=>?_
       ·cases Fh
        exact tF j j j j (iR.2 kS) j<|tF j j j j (iR.2 kS) j<|tF j j j j (iR.2 kS) j<|tF j j j j (iR.2 kS) j<|tF j j j j (iR.2 kS) j<|tF j j j j (iR.2 kS) j<|tF j j j j (iR.2 kS) j<|tF j j j j (iR.2 kS) j<|tF j j j j (iR.2 kS) j<|tF j j j j (iR.2 kS) j<|tF j j j j (iR.2 kS) j<|tF j j j j (iR.2 kS) j<|tF j j j j (iR.2 kS) j<|tF j j j j (iR.2 kS) j<|tF j j j j (iR.2 kS) j<|tF j j j j (iR.2 kS) j<|tF j j j j (iR.2 kS) j<|tF j j j j (iR.2 kS) j<|tF j j j j (iR.2 kS) j<|tF j j j j (iR.2 kS) j<|sS (dF j j j (iR.2 kS) j) trivial (t j j (bF j j (iR.2 kS) j)<|sS (dN z72 j (ae j j)) trivial (sD (by kernel_rfl)))
       ·obtain ⟨x41,Lm,Fh⟩:=bs Fh
        obtain ⟨x46,Pm,Fh⟩:=bs Fh
        obtain ⟨x53,aho,Fh⟩:=bs Fh
        obtain ⟨x54,ads,Fh⟩:=bs Fh
        obtain ⟨x56,adt,Fh⟩:=bs Fh
        cases Fh
        exact tT j j j j (byF iR kS) (oMv j j)<|tT j j j j (byF iR kS) (oNl j j j)<|tT j j j j (byF iR kS) (oFA (r':=.im 2 _) j oO j j)<|tT j j j j (byF iR kS) (oLd (cs:=[.im 2 _]) j BK j j)<|tT j j j j (byF iR kS) (oMv j j)<|tT j j j j (byF iR kS) (gp j Lm Fa j j)<|tT j j j j (byF iR kS) (oFA (r':=.im 2 _) j BI j j)<|tT j j j j (byF iR kS) (oLd (cs:=[.im 2 _]) j oC j j)<|tT j j j j (byF iR kS) (oMv j j)<|tT j j j j (byF iR kS) (oMv j j)<|tT j j j j (byF iR kS) (gp j Pm fO j j)<|tT j j j j (byF iR kS) (oLd (cs:=[.im 2 _]) j tF2 j j)<|tT j j j j (byF iR kS) (oMv j j)<|tT j j j j (byF iR kS) (oMv j j)<|tT j j j j (byF iR kS) (oBi j j j j)<|tT j j j j (byF iR kS) (oMv j j)<|tT j j j j (byF iR kS) (gB j j l9 j)<|tT j j j j (byF iR kS) (Gj j aho j j)<|tT j j j j (byF iR kS) (gp j ads fO j j)<|tT j j j j (byF iR kS) (oLd (cs:=[.im 2 _]) j tF2 j j)<|sS (dT z72 j j j (byF iR kS) (oCa (xs:=[.v false [.im 2 _],.v false [.im 2 _],.v false [.im 2 _]]) (vs:=[(false,[.im 0 _])]) (v:=.v false [.im 0 _]) (Gx adt) (.inl j) j QT j (ppC j (ppC j (ppC j pp0))) j j pb0 j j j)) trivial (t j j (dK j j (byF iR kS) j)<|sS (dN z72 j (ae j j)) trivial (sD (by kernel_rfl)))
      ·refine Unw.blk<|us<|g0 j j (q (oMv j j)<|q (oBi j j j j)<|q (ae j j)<|nl)<|Unw.nil<|?_
       cases h
       exact ⟨j,(by kernel_rfl)⟩
     ·refine Go.exit<|ux<|Unw.nil<|?_
      cases h
      exact ⟨j,(by kernel_rfl)⟩
    ·rintro ⟨e,st⟩ hp
     obtain ⟨qX,rfl⟩:∃y,y=o:=⟨o,rfl⟩
     obtain ⟨he,hst⟩:=hp
     obtain rfl:e= .exit 2:=he
     refine Unw.iT<|us<|gs<|gX c72 j j hst (mk [(0,D 2 (.cp (au d_0) 0)),(1,iv k_1),(5,H 5 0),(6,D 2 (W 1 eI x16.Ring)),(7,iv jK),(63,bv ((jK != k_1)&&qX))] [(5,Oc [Z (W 1 eI eF)])]) ?_ ?_
     ·refine xq (oMv j j)<|xq (oMv j j)<|xq (oBi j j j j)<|xq (oMv j j)<|?_
      by_cases hc27:jK≠k_1
      ·exact xqT rfl rfl (iNe.2 hc27) (oMv rfl rfl)<|xq (bF rfl rfl (iNe.2 hc27) rfl)<|xn (Eq.trans (b:=(fun y8:Bool=>mk [(0,D 2 (.cp (au d_0) 0)),(1,iv k_1),(5,H 5 0),(6,D 2 (W 1 eI x16.Ring)),(7,iv jK),(63,bv y8)] [(5,Oc [Z (W 1 eI eF)])]) qX) (by kernel_rfl) (congrArg (fun y8:Bool=>mk [(0,D 2 (.cp (au d_0) 0)),(1,iv k_1),(5,H 5 0),(6,D 2 (W 1 eI x16.Ring)),(7,iv jK),(63,bv y8)] [(5,Oc [Z (W 1 eI eF)])]) (by first | rfl | (simp [(iNe.2 hc27)];done) | (simp [(iNe.2 hc27)];omega))))
      ·exact aj rfl rfl (byF iNe hc27) rfl<|xq (dK rfl rfl (byF iNe hc27) rfl)<|xn (Eq.trans (b:=(fun y8:Bool=>mk [(0,D 2 (.cp (au d_0) 0)),(1,iv k_1),(5,H 5 0),(6,D 2 (W 1 eI x16.Ring)),(7,iv jK),(63,bv y8)] [(5,Oc [Z (W 1 eI eF)])]) false) (by kernel_rfl) (congrArg (fun y8:Bool=>mk [(0,D 2 (.cp (au d_0) 0)),(1,iv k_1),(5,H 5 0),(6,D 2 (W 1 eI x16.Ring)),(7,iv jK),(63,bv y8)] [(5,Oc [Z (W 1 eI eF)])]) (by first | rfl | (simp [(byF iNe hc27)];done) | (simp [(byF iNe hc27)];omega))))
     ·refine us<|gc h j (xU iNe iR) (fun hc28 h=>?_) fun hc28 h=>?_
      ·obtain ⟨x67,qj,h⟩:=bs h
       exact g0 j j (q (oMv j j)<|q (oMv j j)<|q (oBS (es:=List.map eI ([jK]:List Int)) j fO j (ptC j (fxI fx0) j pt0) (dZ j fun _=>j))<|q (ET (en:=eI) (M:=([jK]:List Int)) j qj j fO j j l9 (.inl ⟨_,j⟩) j j j j (kL j j) (dZ j fun _=>j))<|q (jZ j j j j j)<|nl)<|Unw.blk<|K22 _ ⟨x67,h,(by kernel_rfl)⟩
      ·exact Go.skip<|Unw.blk<|K22 _ ⟨eF,h,(by kernel_rfl)⟩
  ·refine Go.exit<|ux<|Unw.nil<|?_
   cases h
   exact ⟨j,(by kernel_rfl)⟩
 ·rintro ⟨e,st⟩ hp
  obtain ⟨jB,rfl⟩:∃y,y=o:=⟨o,rfl⟩
  obtain ⟨he,hst⟩:=hp
  obtain rfl:e= .exit 0:=he
  refine Unw.iT<|us<|gs<|g2 c72 j j hst (q (oMv j j)<|q (jZ j j j j j)<|nl)<|us<|Go.ret (Unw.ret ?_)
  cases h
  exact fr ag2 j
theorem Jg {d_0:aA} {r:(List (List Int))} (h:sO d_0=some r):FX 46 [.im 2 false [.cp (au d_0) 0]] (B0 [(false,[.ow 0 1 (List.map (eL 1 eI) r)])]):=by
 unfold sO at h
 refine gn 42 Tryz.func46 rfl ?_
 refine gs<|g0 j j (q (uO j j acP)<|nl)<|us<|gs<|g0 j j (q (oBS (es:=List.map (eL 1 eI) ([]:List (List Int))) j uF j pt0 (Df j))<|q (jZ j j j j j)<|nl)<|us<|gs<|gs<|g0 j j (q (ae j j)<|nl)<|us<|Go.block<|?_
 obtain ⟨o,hl,h⟩:=bs h
 refine gl c46 j _ (fun (s:(Int×(List (List Int))))=>match s with | (rJ,aW)=>mk [(0,D 2 (.cp (au d_0) 0)),(3,H 3 0),(4,iv rJ)] [(3,Oc [Z (W 1 (eL 1 eI) aW)])]) (fun (bu:(List (List Int))) (p:Ex×St)=>p.1= .exit 0∧p.2.norm ([3],[3])=mk [(3,H 3 0)] [(3,Oc [Z (W 1 (eL 1 eI) bu)])]) hl (by kernel_rfl) ?_ ?_ ?_
 ·intro o p hp e
  exact nomatch (hp.1.symm.trans e)
 ·rintro ⟨rJ,aW⟩ o h
  unfold lq at h
  dsimp only at h
  refine gs<|gs<|g0 j j (q (oMv j j)<|q (oMv j j)<|q (oNl j j j)<|q (oFA (r':=.im 2 _) j oO j j)<|q (oLd (cs:=[.im 2 _]) j BK j j)<|q (gB j j IY j)<|q (oBi j j j j)<|nl)<|us<|gc h j ah (fun MB h=>?_) fun MB h=>?_
  ·refine Go.skip<|us<|gs<|Go.block<|gs<|?_
   obtain ⟨x19,zo,h⟩:=bs h
   refine g0 j j (q (oMv j j)<|q (oMv j j)<|q (oCr (xs:=[.v false [.im 2 _],.v false [.im 0 _]]) (vs:=[(false,[.own 19 0 0])]) (v:=.v false [.own 19 0 0]) (c:=⟨.sh,0,_⟩) (cs:=[]) (Ll zo) (.inl j) j Vy j (ppC j (ppC j pp0)) j j pb0 j j j)<|q (jZ j j j j j)<|nl)<|us<|gs<|g0 j j (q (ae j j)<|nl)<|us<|Go.block<|?_
   obtain ⟨o,hl,h⟩:=bs h
   refine gl c46 j _ (fun (s:(Int×(List (List Int))))=>match s with | (xZ,vU)=>mk [(0,D 2 (.cp (au d_0) 0)),(3,H 3 0),(4,iv rJ),(5,H 5 0),(6,iv xZ)] [(3,Oc [Z (W 1 (eL 1 eI) vU)]),(5,Oc [Z (W 1 eI x19)])]) (fun (zD:(List (List Int))) (p:Ex×St)=>p.1= .exit 2∧p.2.norm ([0,3,4],[3])=mk [(0,D 2 (.cp (au d_0) 0)),(3,H 3 0),(4,iv rJ)] [(3,Oc [Z (W 1 (eL 1 eI) zD)])]) hl (by kernel_rfl) ?_ ?_ ?_
   ·intro o p hp e
    exact nomatch (hp.1.symm.trans e)
   ·rintro ⟨xZ,vU⟩ o h
    unfold iI at h
    dsimp only at h
    refine gs<|gs<|g0 j j (q (oMv j j)<|q (oMv j j)<|q (Ho j j l9 j j j (fun e=>nomatch e))<|q (oBi j j j j)<|nl)<|us<|gc h j ah (fun hc16 h=>?_) fun hc16 h=>?_
    ·refine Go.skip<|us<|gs<|Go.join (fun st=>∃Au,lg xZ Au=some o∧st.norm ([0,3,4,5,6],[3,5])=mk [(0,D 2 (.cp (au d_0) 0)),(3,H 3 0),(4,iv rJ),(5,H 5 0),(6,iv xZ)] [(3,Oc [Z (W 1 (eL 1 eI) Au)]),(5,Oc [Z (W 1 eI x19)])]) ?_ ?_
     ·rintro st ⟨Au,h,hst⟩
      unfold lg at h
      refine us<|g2 c46 j j hst (q (oMv j j)<|q (oBi j j j j)<|q (ae j j)<|nl)<|Unw.nil<|?_
      cases h
      exact ⟨j,(by kernel_rfl)⟩
     ·intro K18
      refine Go.block<|gs<|?_
      obtain ⟨x28,hx28,h⟩:=bs h
      refine g0 j j (q (oMv j j)<|q (oMv j j)<|q (Ak j hx28 fO j j j j)<|q (IW (cs:=[.im 0 _]) j tF2 j j j j (eX hx28) j j)<|q (oMv j j)<|q (oBi j j j j)<|nl)<|us<|gc h j ah (fun hc19 h=>?_) fun hc19 h=>?_
      ·obtain ⟨x36,Ce,h⟩:=bs h
       obtain ⟨x40,Ig,h⟩:=bs h
       exact g0 j j (q (oMv j j)<|q (oMv j j)<|q (oMv j j)<|q (oMv j j)<|q (Ak j Ce fO j j j j)<|q (IW (cs:=[.im 0 _]) j tF2 j j j j (eX Ce) j j)<|q (oBS (es:=List.map eI ([rJ,x36]:List Int)) j fO j (ptC j (fxI fx0) j (ptC j (fxI fx0) j pt0)) (dZ j fun _=>j))<|q (oBS (es:=List.map (eL 1 eI) ([([rJ,x36]:List Int)]:List (List Int))) j uF j (ptC j (fxO j j fx0) j pt0) (Df j))<|q (ET (en:=(eL 1 eI)) (M:=([([rJ,x36]:List Int)]:List (List Int))) j Ig j uF j j Tt (.inl ⟨_,j⟩) j j j j (kL j j) (Df j))<|q (jZ j j j j j)<|nl)<|Unw.blk<|K18 _ ⟨x40,h,(by kernel_rfl)⟩
      ·exact Go.skip<|Unw.blk<|K18 _ ⟨vU,h,(by kernel_rfl)⟩
    ·refine Go.exit<|ux<|Unw.nil<|?_
     cases h
     exact ⟨j,(by kernel_rfl)⟩
   ·rintro ⟨e,st⟩ hp
    obtain ⟨zD,rfl⟩:∃y,y=o:=⟨o,rfl⟩
    obtain ⟨he,hst⟩:=hp
    obtain rfl:e= .exit 2:=he
    refine Unw.iT<|Unw.blk<|us<|g2 c46 j j hst (q (oMv j j)<|q (oBi j j j j)<|q (ae j j)<|nl)<|Unw.nil<|?_
    cases h
    exact ⟨j,(by kernel_rfl)⟩
  ·refine Go.exit<|ux<|Unw.nil<|?_
   cases h
   exact ⟨j,(by kernel_rfl)⟩
 ·rintro ⟨e,st⟩ hp
  obtain ⟨bu,rfl⟩:∃y,y=o:=⟨o,rfl⟩
  obtain ⟨he,hst⟩:=hp
  obtain rfl:e= .exit 0:=he
  refine Unw.iT<|us<|gs<|g2 c46 j j hst (q (oMv j j)<|q (jZ j j j j j)<|nl)<|us<|Go.ret (Unw.ret ?_)
  cases h
  exact fr agO j
theorem Jh {a_0:Int} {b_1:Int} {r:Int} (h:wO a_0 b_1=some r):FX 74 [.im 2 false [I a_0],.im 2 false [I b_1]] (B0 [(false,[.im 0 (I r)])]):=by
 unfold wO at h
 refine gn 17 Tryz.func74 rfl ?_
 refine gs<|g0 j j (q (ae j j)<|nl)<|us<|gs<|?_
 obtain ⟨x12,zS,h⟩:=bs h
 refine g0 j j (q (oMv j j)<|q (oMv j j)<|q (oBi j j j j)<|q (oMv j j)<|q (oMv j j)<|q (oBi j j j j)<|q (oCa (xs:=[.v false [.im 0 _],.v false [.im 0 _]]) (vs:=[(false,[.im 0 _])]) (v:=.v false [.im 0 _]) (sZ zS) (.inl j) j Dw j (ppC j (ppC j pp0)) j j pb0 j j j)<|q (ae j j)<|nl)<|us<|gs<|?_
 obtain ⟨x16,hx16,h⟩:=bs h
 refine g0 j j (q (oMv j j)<|q (oMv j j)<|q (oBi j j j j)<|q (oCa (xs:=[.v false [.im 0 _],.v false [.im 0 _]]) (vs:=[(false,[.im 0 _])]) (v:=.v false [.im 0 _]) (wR hx16) (.inl j) j Gu j (ppC j (ppC j pp0)) j j pb0 j j j)<|q (ae j j)<|nl)<|us<|Go.ret (Unw.ret ?_)
 cases h
 exact fr ag3 j
theorem Fj {a_0:ai} {b_1:ai} {r:Int} (h:nV a_0 b_1=some r):FX 47 [.im 2 false [.cp (iG a_0) 0],.im 2 false [.cp (iG b_1) 0]] (B0 [(false,[.im 0 (I r)])]):=by
 unfold nV at h
 refine gn 35 Tryz.func47 rfl ?_
 refine gs<|g0 j j (q (ae j j)<|nl)<|us<|gs<|?_
 obtain ⟨x23,zn,h⟩:=bs h
 obtain ⟨x32,hx32,h⟩:=bs h
 obtain ⟨x33,adu,h⟩:=bs h
 refine gd c47 j j j j (mk [(4,iv (w64 (x23+x33)))] []) (t j j (oMv j j)<|t j j (oNl j j j)<|t j j (oFA (r':=.im 2 _) j rO j j)<|t j j (oLd (cs:=[.im 2 _]) j tF2 j j)<|t j j (oMv j j)<|t j j (oNl j j j)<|t j j (oFA (r':=.im 2 _) j rO j j)<|t j j (oLd (cs:=[.im 2 _]) j tF2 j j)<|t j j (oBi j j j j)<|t j j (oMv j j)<|t j j (oNl j j j)<|t j j (oFA (r':=.im 2 _) j rO j j)<|t j j (oLd (cs:=[.im 2 _]) j tF2 j j)<|t j j (oMv j j)<|t j j (oNl j j j)<|t j j (oFA (r':=.im 2 _) j rO j j)<|t j j (oLd (cs:=[.im 2 _]) j tF2 j j)<|t j j (oBi j j j j)<|t j j (oMv j j)<|t j j (oNl j j j)<|t j j (oFA (r':=.im 2 _) j zN j j)<|t j j (oLd (cs:=[.im 2 _]) j tF2 j j)<|t j j (oMv j j)<|t j j (oNl j j j)<|t j j (oFA (r':=.im 2 _) j zN j j)<|t j j (oLd (cs:=[.im 2 _]) j tF2 j j)<|sS (dN z47 j (oCa (xs:=[.v false [.im 0 _],.v false [.im 0 _]]) (vs:=[(false,[.im 0 _])]) (v:=.v false [.im 0 _]) (sZ zn) (.inl j) j Dw j (ppC j (ppC j pp0)) j j pb0 j j j)) trivial (sS (dN z47 j (oCa (xs:=[.v false [.im 2 _],.v false [.im 2 _]]) (vs:=[(false,[.im 0 _])]) (v:=.v false [.im 0 _]) (Jh hx32) (.inl j) j XI j (ppC j (ppC j pp0)) j j pb0 j j j)) trivial (t j j (acB j adu j j)<|t j j (oBi j j j j)<|sS (dN z47 j (ae j j)) trivial (sD (by kernel_rfl)))))<|us<|Go.ret (Unw.ret ?_)
 cases h
 exact fr agP j
end
end Go.Proofs.YtnjgcdpleghciaaGreat
