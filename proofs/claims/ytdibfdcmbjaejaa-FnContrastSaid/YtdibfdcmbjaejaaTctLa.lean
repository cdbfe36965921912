/- The machine answers, at each function of the program that is reached, what its plain function answers. Conditions: none. -/
import Derived.Test.YtdibfdcmbjaejaaProg
import Derived.KernelRfl
import Derived.Test.YtdibfdcmbjaejaaSimRs
import Derived.Test.YtdibfdcmbjaejaaTctT
namespace Go.Proofs.Ytdibfdcmbjaejaa
open Go Go.Sim Go.Pw Go.Proofs
set_option linter.unusedVariables false
set_option linter.unusedSimpArgs false
set_option maxRecDepth 100000
set_option maxHeartbeats 4000000
noncomputable section
noncomputable abbrev aQ (x:ae):List AV:=[I x.X,I x.Y]
noncomputable def af (x:ae):AV:= .agg (aQ x)
noncomputable abbrev Bg (x:aj):List AV:=[Y x.Name,W 1 eI x.Ring]
noncomputable def az (x:aj):AV:= .agg (Bg x)
noncomputable abbrev aJ (x:aB):List AV:=[I x.Width,I x.Height,W 2 af x.aI,W 2 az x.ai]
noncomputable abbrev aS (x:aC):List AV:=[W 1 (eK .u8) x.code,I x.at_,.sc (.int .u64 x.seed)]
noncomputable abbrev ou (x:aF):List AV:=[Y x.Jd,I x.iC,I x.dw]
noncomputable def aA (x:aF):AV:= .agg (ou x)
noncomputable abbrev KO (x:aK):List AV:=[W 1 (eL 1 eI) x.near,W 1 eI x.bT,I x.least,I x.left,I x.found,W 1 eI x.first,V x.one]
noncomputable def rF (x:aK):AV:= .agg (KO x)
noncomputable abbrev xZ (x:bJ):List AV:=[I x.e0,I x.e1]
noncomputable def di (x:bJ):AV:= .agg (xZ x)
noncomputable abbrev Oq (x:aZ):List AV:=[W 1 (eL 1 eI) x.pairs,I x.faces,W 3 aA x.nR,I x.least,W 1 eI x.shifts,V x.first,W 1 eI x.best,I x.count,I x.nodes,I x.budget]
noncomputable def jK (x:aZ):AV:= .agg (Oq x)
noncomputable abbrev fM (x:jO):List AV:=[W 3 aA x.qI,W 1 eI x.Shifts]
noncomputable def fc4:dH:={par:=[.cst false,.cst false],inn:=[(4,some ([1,5],[5])),(18,some ([5,7,14],[5,14]))],out:=[(11,some ([5,6,7,8,9,78],[5,6])),(19,some ([4],[]))],bD:=[],frz:=[],sch:=[],shut:=[]}
noncomputable def fc7:dH:={par:=[.cst false],inn:=[(3,some ([2,3,4],[2,4,6]))],out:=[],bD:=[],frz:=[],sch:=[],shut:=[]}
noncomputable def aa8:dH:={par:=[.cst false,.cst false],inn:=[],out:=[(1,some ([4],[]))],bD:=[],frz:=[],sch:=[],shut:=[]}
noncomputable def aa9:dH:={par:=[.cst false],inn:=[],out:=[],bD:=[],frz:=[],sch:=[],shut:=[]}
noncomputable def aba:dH:={par:=[.cst false,.cst false,.cst false],inn:=[],out:=[(1,some ([0,1,2,14],[]))],bD:=[],frz:=[],sch:=[],shut:=[]}
noncomputable def abb:dH:={par:=[.cst false,.cst false,.cst false,.cst false],inn:=[(4,some ([10,11],[]))],out:=[(2,some ([10,11,28],[]))],bD:=[],frz:=[8],sch:=[],shut:=[]}
noncomputable def abe:dH:={par:=[.cst false,.cst false,.cst false,.cst false],inn:=[(1,some ([1,2,3,4],[]))],out:=[],bD:=[],frz:=[4],sch:=[],shut:=[]}
noncomputable def abf:dH:={par:=[.cst false,.cst false,.cst false,.cst false],inn:=[],out:=[],bD:=[],frz:=[],sch:=[],shut:=[]}
noncomputable def abg:dH:={par:=[.cst false,.cst false],inn:=[(15,some ([3,6,7,8,9,38,39,40,45,46,47],[3,6])),(16,some ([3,6,7,8,38,39,40],[3,6])),(17,some ([8],[]))],out:=[(1,some ([2,3,14],[2,3])),(5,some ([2,3,6,7,8],[2,3,6])),(12,some ([3,6,7,8,9,13,38,39,40,45,46,47],[3,6])),(13,some ([3,6,7,8,9,13,38,39,40,45,46,47,75],[3,6]))],bD:=[(7,([3,6,7,8,38,39,40],[3,6])),(10,([3,6,7,8,9,38,39,40,45,46,47],[3,6]))],frz:=[],sch:=[(5,.first 0 [1,2,6,7,8] [3,4,5]<| .first 1 [2,6,7,8] [3,4,5]<| .first 3 [4,5,7,8] [2,6]<| .first 4 [5,7,8] [2,6]<| .first 5 [7,8] [2,6]<| .fork 2 (.fork 6 (.fork 7 (.fork 8 (.done) (.stop)) (.stop)) (.stop)) (.stop)),(12,.first 0 [16,17,18] (rg [1,16])<| .first 1 [2,4,5,11,13,15,16,17,18] [3,6,7,8,9,10,12,14]<| .first 2 [4,5,11,13,15,16,17,18] [3,6,7,8,9,10,12,14]<| .first 3 [4,5,11,13,15,16,17,18] [6,7,8,9,10,12,14]<| .first 4 [5,11,13,15,16,17,18] [6,7,8,9,10,12,14]<| .first 5 [11,13,15,16,17,18] [6,7,8,9,10,12,14]<| .first 6 [7,9,10,11,13,15,16,17,18] [8,12,14]<| .first 7 [9,10,11,13,15,16,17,18] [8,12,14]<| .first 8 [9,10,11,13,15,16,17,18] [12,14]<| .first 9 [10,11,13,15,16,17,18] [12,14]<| .first 10 [11,13,15,16,17,18] [12,14]<| .first 11 [13,15,16,17,18] [12,14]<| .first 12 [13,15,16,17,18] [14]<| .first 13 [15,16,17,18] [14]<| .first 14 [15,16,17,18] []<| .first 15 [16,17,18] []<| .first 16 [17,18] []<| .first 17 [18] []<| .fork 18 (.done) (.stop))],shut:=[]}
noncomputable def abh:dH:={par:=[.cst false],inn:=[],out:=[],bD:=[],frz:=[],sch:=[],shut:=[]}
noncomputable def abj:dH:={par:=[.cst false],inn:=[],out:=[],bD:=[],frz:=[],sch:=[],shut:=[]}
noncomputable def abk:dH:={par:=[.ptr [.imm,.imm,.imm]],inn:=[(2,some ([0,2],[0,2])),(3,some ([0,2],[0,2]))],out:=[],bD:=[],frz:=[],sch:=[],shut:=[]}
noncomputable def abl:dH:={par:=[.cut 4],inn:=[(11,some ([],[]))],out:=[(1,some ([0,32],[])),(6,some ([0,3,75],[])),(9,some ([0,3,95],[]))],bD:=[(4,([0,3],[]))],frz:=[],sch:=[(6,.first 0 (rg [1,4,5,34]) [4]<| .first 1 (rg [2,4,5,34]) [4]<| .first 2 (rg [3,4,5,34]) [4]<| .first 3 (rg [5,34]) [4]<| .first 4 (rg [5,34]) []<| .first 5 (rg [6,34]) []<| .first 6 (rg [7,34]) []<| .first 7 (rg [8,34]) []<| .fork 8 (.first 9 (rg [10,34]) []<| .first 10 (rg [11,34]) []<| .first 11 (rg [12,34]) []<| .first 12 (rg [13,34]) []<| .first 13 (rg [14,34]) []<| .first 14 [15,16,17,20,21,22,31,32,33] (rg [18,20,23,31])<| .first 15 [16,17,20,21,22,31,32,33] (rg [18,20,23,31])<| .first 16 [17,20,21,22,31,32,33] (rg [18,20,23,31])<| .first 17 [20,21,22,31,32,33] (rg [18,20,23,31])<| .first 18 [19,20,21,22,31,32,33] (rg [23,31])<| .first 19 [20,21,22,31,32,33] (rg [23,31])<| .first 20 [21,22,31,32,33] (rg [23,31])<| .first 21 [22,31,32,33] (rg [23,31])<| .first 22 [31,32,33] (rg [23,31])<| .first 23 (rg [24,27,28,34]) [27]<| .first 24 (rg [25,27,28,34]) [27]<| .first 25 [26,28,29,30,31,32,33] [27]<| .first 26 (rg [28,34]) [27]<| .first 27 (rg [28,34]) []<| .first 28 [29,30,31,32,33] []<| .first 29 [30,31,32,33] []<| .first 30 [31,32,33] []<| .first 31 [32,33] []<| .first 32 [33] []<| .first 33 [] []<| .done) (.stop))],shut:=[]}
noncomputable def abm:dH:={par:=[.ptr [.imm,.imm,.imm]],inn:=[(2,some ([0,2,3],[0,2,3])),(3,some ([0,2,3],[0,2,3])),(4,some ([2,3],[0,2,3]))],out:=[],bD:=[],frz:=[],sch:=[],shut:=[]}
noncomputable def abn:dH:={par:=[.cst false],inn:=[(6,some ([1,3,4,32,33,34],[1,4])),(9,some ([1],[1])),(12,some ([1,5,6,63,64,65],[1,6])),(18,some ([],[]))],out:=[(1,some ([1,30],[1])),(6,some ([1,32,33,34,60],[1])),(12,some ([1,6,63,64,65,89],[1,6])),(15,some ([1,63,64,65,104],[1]))],bD:=[(4,([1,32,33,34],[1])),(10,([1,63,64,65],[1]))],frz:=[],sch:=[(6,.first 0 (rg [1,2,4,22]) [2,3]<| .first 1 (rg [4,22]) [2,3]<| .first 2 (rg [3,22]) []<| .first 3 (rg [4,22]) []<| .fork 4 (.first 5 (rg [6,22]) []<| .first 6 (rg [7,22]) []<| .first 7 (rg [8,9,11,22]) [9,10]<| .first 8 (rg [11,22]) [9,10]<| .first 9 (rg [10,22]) []<| .first 10 (rg [11,22]) []<| .fork 11 (.first 12 (rg [13,22]) []<| .first 13 (rg [14,22]) []<| .first 14 (rg [15,22]) []<| .first 15 [16,18,20,21] [17,19]<| .first 16 [18,20,21] [17,19]<| .first 17 [18,20,21] [19]<| .first 19 [20,21] [18]<| .fork 18 (.fork 20 (.first 21 [] []<| .done) (.stop)) (.stop)) (.stop)) (.stop)),(12,.first 0 (rg [1,20]) []<| .first 1 (rg [2,20]) []<| .fork 2 (.first 3 (rg [4,20]) []<| .first 4 (rg [5,20]) []<| .first 5 (rg [6,20]) []<| .first 6 (rg [7,20]) []<| .first 7 (rg [8,20]) []<| .first 8 [9,12,13,14,17,18,19] [10,11,15,16]<| .first 9 [12,13,14,17,18,19] [10,11,15,16]<| .first 10 [11,12,13,14,17,18,19] [15,16]<| .first 11 [12,13,14,17,18,19] [15,16]<| .first 12 [13,14,17,18,19] [15,16]<| .first 13 [14,17,18,19] [15,16]<| .first 14 [17,18,19] [15,16]<| .first 15 [16,17,18,19] []<| .first 16 [17,18,19] []<| .first 17 [18,19] []<| .first 18 [19] []<| .first 19 [] []<| .done) (.stop))],shut:=[]}
noncomputable def abo:dH:={par:=[.cst false,.cst false],inn:=[],out:=[],bD:=[],frz:=[],sch:=[],shut:=[]}
noncomputable def abp:dH:={par:=[.cst false],inn:=[(2,some ([1,3],[1,3])),(5,some ([3,5,11,12,13],[3,5])),(7,some ([3],[3])),(14,some ([3,6,7,8,28,29,33,34],[3,6,8])),(16,some ([3,6,7,28,29,33,34],[3,6])),(17,some ([3,6,28,29],[3,6])),(18,some ([6],[6]))],out:=[(5,some ([3,11,12,13],[3])),(14,some ([3,6,7,8,28,29,33,34,47],[3,6,8])),(15,some ([3,6,7,28,29,33,34],[3,6]))],bD:=[(3,([3,11,12,13],[3])),(9,([3,6,28,29],[3,6])),(12,([3,6,7,28,29,33,34],[3,6]))],frz:=[2],sch:=[(5,.first 1 [2,3,4,5,6] [0]<| .first 2 [3,4,5,6] [0]<| .first 0 [5,6] [3,4]<| .fork 3 (.fork 4 (.fork 5 (.fork 6 (.done) (.stop)) (.stop)) (.stop)) (.stop)),(15,.first 0 [9,10] (rg [1,9])<| .first 1 [9,10] (rg [2,9])<| .first 2 [4,5,8,9,10] [3,6,7]<| .first 3 [4,5,8,9,10] [6,7]<| .first 6 [7,8,9,10] [4,5]<| .first 4 [5,8,9,10] [7]<| .first 5 [8,9,10] [7]<| .fork 7 (.fork 8 (.first 9 [10] []<| .fork 10 (.done) (.stop)) (.stop)) (.stop))],shut:=[]}
noncomputable def abq:dH:={par:=[.ptr [.imm,.imm,.imm]],inn:=[(4,some ([0,3,4],[0,3])),(6,some ([3],[0,3]))],out:=[],bD:=[(3,([0,3,4],[0,3]))],frz:=[],sch:=[],shut:=[]}
noncomputable def abr:dH:={par:=[.cst false,.cst false,.cst false,.cst false,.cst false],inn:=[(6,some ([12],[39])),(7,some ([12],[39]))],out:=[(1,some ([1,2,3,4,5,13],[5])),(3,some ([1,2,3,4,5,22],[5]))],bD:=[],frz:=[],sch:=[],shut:=[]}
noncomputable def abt:dH:={par:=[.cut 4,.cst false,.cst false,.cst false,.cst false],inn:=[(7,some ([3,12],[41]))],out:=[(1,some ([0,1,2,3,4,20],[])),(3,some ([0,1,2,3,4,28],[])),(5,some ([3,12],[41]))],bD:=[],frz:=[],sch:=[(5,.first 0 [1,11,12,13] (rg [2,11])<| .first 2 [3,4,5,6,11,12,13] [1,7,8,9,10]<| .first 3 [4,5,6,11,12,13] [1,7,8,9,10]<| .first 4 [5,6,11,12,13] [1,7,8,9,10]<| .first 5 [6,11,12,13] [1,7,8,9,10]<| .first 6 [11,12,13] [1,7,8,9,10]<| .first 7 [11,12,13] [1,8,9,10]<| .first 8 [11,12,13] [1,9,10]<| .first 9 [11,12,13] [1,10]<| .first 10 [11,12,13] [1]<| .fork 1 (.fork 11 (.fork 12 (.fork 13 (.done) (.stop)) (.stop)) (.stop)) (.stop))],shut:=[]}
noncomputable def abu:dH:={par:=[.cst false],inn:=[],out:=[],bD:=[],frz:=[],sch:=[],shut:=[]}
noncomputable def abv:dH:={par:=[.cst false],inn:=[],out:=[(1,some ([1,12],[1]))],bD:=[],frz:=[],sch:=[],shut:=[]}
noncomputable def abw:dH:={par:=[.cst false],inn:=[(9,some ([0,3,4,5,6,7,11,12,15,16,17],[3,7])),(12,some ([0,3,4,5,11,12,15,16,17],[3])),(13,some ([0,3,5,11,12],[3])),(15,some ([3],[3]))],out:=[(9,some ([0,3,4,5,8,11,12,15,16,17],[3])),(10,some ([0,3,4,5,8,11,12,15,16,17,39],[3]))],bD:=[(3,([0,3,11,12],[3])),(7,([0,3,4,5,11,12,15,16,17],[3]))],frz:=[],sch:=[(9,.first 0 [10,11] (rg [1,10])<| .first 1 [8,9,10,11] [2,3,4,5,6,7]<| .first 2 [4,7,8,9,10,11] [3,5,6]<| .first 3 [4,7,8,9,10,11] [5,6]<| .first 4 [7,8,9,10,11] [5,6]<| .first 5 [6,7,8,9,10,11] []<| .first 6 [7,8,9,10,11] []<| .first 7 [8,9,10,11] []<| .first 8 [9,10,11] []<| .first 9 [10,11] []<| .fork 10 (.fork 11 (.done) (.stop)) (.stop))],shut:=[]}
noncomputable def abx:dH:={par:=[.cut 2],inn:=[],out:=[(1,some ([2],[]))],bD:=[],frz:=[],sch:=[(1,.first 0 (rg [1,18]) []<| .first 1 (rg [2,18]) []<| .first 2 (rg [3,18]) []<| .first 3 (rg [4,18]) []<| .fork 4 (.first 5 (rg [6,18]) []<| .first 6 [7,8,9,15,16,17] [10,11,12,13,14]<| .first 7 [8,9,15,16,17] [10,11,12,13,14]<| .first 8 [9,15,16,17] [10,11,12,13,14]<| .first 9 [15,16,17] [10,11,12,13,14]<| .first 10 (rg [11,18]) []<| .first 11 (rg [12,18]) []<| .first 12 [13,14,15,16,17] []<| .first 13 [14,15,16,17] []<| .first 14 [15,16,17] []<| .fork 15 (.first 16 [17] []<| .fork 17 (.done) (.stop)) (.stop)) (.stop))],shut:=[]}
noncomputable def aby:dH:={par:=[.ptr [.imm,.imm,.imm]],inn:=[(2,some ([0,2,3],[0,2,3])),(4,some ([0,2,3,4,13],[0,2,3])),(20,some ([0,2,3],[0,2,3])),(21,some ([2,3,5],[0,2,3])),(23,some ([2,3,5,6],[0,2,3])),(25,some ([2,3,5,6],[0,2,3])),(29,some ([2,3],[0,2,3]))],out:=[(11,some ([2,3],[0,2,3])),(13,some ([2,3],[0,2,3])),(15,some ([2,3],[0,2,3])),(17,some ([2,3],[0,2,3])),(28,some ([2,3],[0,2,3]))],bD:=[(22,([2,3,5,6],[0,2,3]))],frz:=[],sch:=[(11,.first 2 [4,10,11,12] [0,1,3,5,6,7,8,9]<| .first 3 [4,10,11,12] [0,1,5,6,7,8,9]<| .first 0 [1,10,11,12] [4,5,6,7,8,9]<| .first 1 [10,11,12] [4,5,6,7,8,9]<| .first 5 (rg [6,13]) [4]<| .first 6 (rg [7,13]) [4]<| .first 7 [8,9,10,11,12] [4]<| .first 8 [9,10,11,12] [4]<| .fork 4 (.fork 9 (.first 10 [11,12] []<| .first 11 [12] []<| .fork 12 (.done) (.stop)) (.stop)) (.fork 9 (.fork 4 (.first 10 [11,12] []<| .first 11 [12] []<| .fork 12 (.done) (.stop)) (.stop)) (.stop))),(13,.first 2 [4,6,7,8,9] [0,1,3,5]<| .first 3 [4,6,7,8,9] [0,1,5]<| .first 5 [6,7,8,9] [0,1,4]<| .first 0 [1,7,8,9] [4,6]<| .first 1 [7,8,9] [4,6]<| .fork 4 (.fork 6 (.first 7 [8,9] []<| .first 8 [9] []<| .fork 9 (.done) (.stop)) (.stop)) (.stop)),(15,.first 2 [4,10,11,12,13,14] [0,1,3,5,6,7,8,9]<| .first 3 [4,10,11,12,13,14] [0,1,5,6,7,8,9]<| .first 5 [10,11,12,13,14] [0,1,4,6,7,8,9]<| .first 0 [1,12,13,14] [4,6,7,8,9,10,11]<| .first 1 [12,13,14] [4,6,7,8,9,10,11]<| .first 6 (rg [7,15]) [4]<| .first 7 (rg [8,15]) [4]<| .first 8 (rg [9,15]) [4]<| .fork 4 (.fork 9 (.fork 10 (.fork 11 (.first 12 [13,14] []<| .first 13 [14] []<| .fork 14 (.done) (.stop)) (.stop)) (.stop)) (.stop)) (.fork 9 (.fork 4 (.fork 10 (.fork 11 (.first 12 [13,14] []<| .first 13 [14] []<| .fork 14 (.done) (.stop)) (.stop)) (.stop)) (.stop)) (.stop))),(17,.first 0 [1,6,7] [2,3,4,5]<| .first 1 [6,7] [2,3,4,5]<| .first 2 [3,4,5,6,7] []<| .first 3 [4,5,6,7] []<| .first 4 [5,6,7] []<| .first 5 [6,7] []<| .first 6 [7] []<| .fork 7 (.done) (.stop)),(28,.first 2 (rg [6,10,11,16]) [0,1,3,4,5,10]<| .first 3 (rg [4,10,11,16]) [0,1,10]<| .first 4 (rg [5,10,11,16]) [0,1,10]<| .first 5 (rg [6,10,11,16]) [0,1,10]<| .first 10 [11,12,13,14,15] [0,1,6,7,8,9]<| .first 0 [1,7,8,9,12,13,14,15] [6,11]<| .first 1 [7,8,9,12,13,14,15] [6,11]<| .fork 6 (.first 7 [8,9,12,13,14,15] [11]<| .first 8 [9,12,13,14,15] [11]<| .first 9 [12,13,14,15] [11]<| .fork 11 (.first 12 [13,14,15] []<| .first 13 [14,15] []<| .first 14 [15] []<| .fork 15 (.done) (.stop)) (.stop)) (.stop))],shut:=[]}
noncomputable def abz:dH:={par:=[.cst false,.cst false,.cst false],inn:=[],out:=[(1,some ([6],[]))],bD:=[],frz:=[],sch:=[],shut:=[]}
noncomputable def abA:dH:={par:=[.cst false,.cst false],inn:=[],out:=[],bD:=[],frz:=[],sch:=[],shut:=[]}
noncomputable def abB:dH:={par:=[.cut 3],inn:=[],out:=[(2,some ([0,3,19],[])),(5,some ([2],[]))],bD:=[],frz:=[],sch:=[],shut:=[]}
noncomputable def abC:dH:={par:=[.cut 3,.cut 3],inn:=[],out:=[(1,some ([4],[]))],bD:=[],frz:=[],sch:=[(1,.first 0 [1,2,3,8,18,27,28,29,30] (rg [4,8,9,18,19,27])<| .first 1 [2,3,8,18,27,28,29,30] (rg [4,8,9,18,19,27])<| .first 2 [3,8,18,27,28,29,30] (rg [4,8,9,18,19,27])<| .first 3 [8,18,27,28,29,30] (rg [4,8,9,18,19,27])<| .first 4 [5,6,7,8,18,27,28,29,30] (rg [9,18,19,27])<| .first 5 [6,7,8,18,27,28,29,30] (rg [9,18,19,27])<| .first 6 [7,8,18,27,28,29,30] (rg [9,18,19,27])<| .first 7 [8,18,27,28,29,30] (rg [9,18,19,27])<| .first 8 [18,27,28,29,30] (rg [9,18,19,27])<| .first 9 [10,11,12,17,18,27,28,29,30] (rg [13,17,19,27])<| .first 10 [11,12,17,18,27,28,29,30] (rg [13,17,19,27])<| .first 11 [12,17,18,27,28,29,30] (rg [13,17,19,27])<| .first 12 [17,18,27,28,29,30] (rg [13,17,19,27])<| .first 13 (rg [14,19,27,31]) (rg [19,27])<| .first 14 (rg [15,19,27,31]) (rg [19,27])<| .first 15 [16,17,18,27,28,29,30] (rg [19,27])<| .first 16 [17,18,27,28,29,30] (rg [19,27])<| .first 17 [18,27,28,29,30] (rg [19,27])<| .first 19 [20,21,22,27,28,29,30] [18,23,24,25,26]<| .first 20 [21,22,27,28,29,30] [18,23,24,25,26]<| .first 21 [22,27,28,29,30] [18,23,24,25,26]<| .first 22 [27,28,29,30] [18,23,24,25,26]<| .first 23 (rg [24,31]) [18]<| .first 24 (rg [25,31]) [18]<| .first 25 [26,27,28,29,30] [18]<| .first 26 [27,28,29,30] [18]<| .fork 18 (.fork 27 (.first 28 [29,30] []<| .first 29 [30] []<| .fork 30 (.done) (.stop)) (.stop)) (.stop))],shut:=[]}
noncomputable def abD:dH:={par:=[.ptr [.imm,.imm,.imm],.cst false],inn:=[],out:=[],bD:=[],frz:=[],sch:=[],shut:=[]}
noncomputable def abE:dH:={par:=[.ptr [.imm,.imm,.imm]],inn:=[(2,some ([0,2,3],[0,2])),(3,some ([0,2,3,4],[0,2])),(4,some ([0,2,3,4,5],[0,2])),(5,some ([0,2,6],[0,2,6])),(6,some ([0,2,6],[0,2,6])),(7,some ([0,2,6],[0,2,6])),(8,some ([0,2,6],[0,2,6])),(9,some ([2,6],[0,2,6])),(10,some ([2,6],[0,2,6]))],out:=[],bD:=[],frz:=[],sch:=[],shut:=[]}
noncomputable def abG:dH:={par:=[.cst false,.cst false,.cst false],inn:=[],out:=[(1,some ([6],[]))],bD:=[],frz:=[],sch:=[],shut:=[]}
noncomputable def abH:dH:={par:=[.cut 4],inn:=[(5,some ([0,3],[])),(13,some ([],[]))],out:=[(6,some ([0,3,49],[])),(11,some ([0,3,4,69],[]))],bD:=[(4,([0,3],[])),(9,([0,3,4],[]))],frz:=[],sch:=[(6,.first 0 (rg [1,4,5,8,12,30]) [4,8,9,10,11]<| .first 1 (rg [2,4,5,8,12,30]) [4,8,9,10,11]<| .first 2 (rg [3,4,5,8,12,30]) [4,8,9,10,11]<| .first 3 (rg [5,8,12,30]) [4,8,9,10,11]<| .first 4 (rg [5,8,12,30]) [8,9,10,11]<| .first 5 (rg [6,8,12,30]) [8,9,10,11]<| .first 6 (rg [7,8,12,30]) [8,9,10,11]<| .first 7 (rg [12,30]) [8,9,10,11]<| .first 8 (rg [9,30]) []<| .first 9 (rg [10,30]) []<| .first 10 (rg [11,30]) []<| .first 11 (rg [12,30]) []<| .fork 12 (.first 13 (rg [14,30]) []<| .first 14 (rg [15,30]) []<| .first 15 [16,17,18,20,21,22,27,28,29] [19,23,24,25,26]<| .first 16 [17,18,20,21,22,27,28,29] [19,23,24,25,26]<| .first 17 [18,20,21,22,27,28,29] [19,23,24,25,26]<| .first 18 [20,21,22,27,28,29] [19,23,24,25,26]<| .first 19 [20,21,22,27,28,29] [23,24,25,26]<| .first 20 [21,22,27,28,29] [23,24,25,26]<| .first 21 [22,27,28,29] [23,24,25,26]<| .first 22 [27,28,29] [23,24,25,26]<| .first 23 (rg [24,30]) []<| .first 24 [25,26,27,28,29] []<| .first 25 [26,27,28,29] []<| .first 26 [27,28,29] []<| .fork 27 (.first 28 [29] []<| .first 29 [] []<| .done) (.stop)) (.stop)),(11,.first 0 [1,2,3,5,6,14] (rg [4,5,7,14])<| .first 1 [2,3,5,6,14] (rg [4,5,7,14])<| .first 2 [3,5,6,14] (rg [4,5,7,14])<| .first 3 [5,6,14] (rg [4,5,7,14])<| .first 4 [5,6,14] (rg [7,14])<| .first 5 [6,14] (rg [7,14])<| .first 6 [14] (rg [7,14])<| .first 7 [8,9,10,12,13,14] [11]<| .first 8 [9,10,12,13,14] [11]<| .first 9 [10,12,13,14] [11]<| .first 10 [12,13,14] [11]<| .first 11 [12,13,14] []<| .first 12 [13,14] []<| .first 13 [14] []<| .first 14 [] []<| .done)],shut:=[]}
noncomputable def abI:dH:={par:=[.cst false],inn:=[(8,some ([],[]))],out:=[(1,some ([0,16],[])),(6,some ([0,3,34],[]))],bD:=[(4,([0,3],[]))],frz:=[],sch:=[],shut:=[]}
noncomputable def abJ:dH:={par:=[.cut 4,.cst false],inn:=[(8,some ([6],[6]))],out:=[(5,some ([0,1,6,7,26],[6])),(7,some ([0,1,6,7],[6]))],bD:=[(3,([0,1,6,7],[6]))],frz:=[],sch:=[(5,.first 0 [2,3,10,11] [1,4,5,6,7,8,9]<| .first 1 [2,3,10,11] [4,5,6,7,8,9]<| .first 2 [3,10,11] [4,5,6,7,8,9]<| .first 3 [10,11] [4,5,6,7,8,9]<| .first 4 (rg [5,12]) []<| .first 5 [6,7,8,9,10,11] []<| .first 6 [7,8,9,10,11] []<| .first 7 [8,9,10,11] []<| .first 8 [9,10,11] []<| .first 9 [10,11] []<| .fork 10 (.first 11 [] []<| .done) (.stop)),(7,.first 0 [12,13] (rg [1,12])<| .first 1 (rg [2,5,9,14]) [5,6,7,8]<| .first 2 [3,4,9,10,11,12,13] [5,6,7,8]<| .first 3 [4,9,10,11,12,13] [5,6,7,8]<| .first 4 [9,10,11,12,13] [5,6,7,8]<| .first 5 (rg [7,14]) [6]<| .first 6 (rg [7,14]) []<| .first 7 (rg [8,14]) []<| .first 8 [9,10,11,12,13] []<| .first 9 [10,11,12,13] []<| .first 10 [11,12,13] []<| .fork 11 (.fork 12 (.fork 13 (.done) (.stop)) (.stop)) (.stop))],shut:=[]}
noncomputable def abK:dH:={par:=[.cst false],inn:=[(9,some ([0,3],[])),(11,some ([0,3,5],[])),(13,some ([0,3,5,6],[6])),(14,some ([0,3,5,6,7],[6,7])),(15,some ([0,3,5,6,7,8],[6,7,8])),(22,some ([0],[]))],out:=[(2,some ([0,3,17],[])),(15,some ([0,3,5,6,7,66],[6,7])),(20,some ([0,3,5,6,7,9,95],[6,7]))],bD:=[(5,([0,3,4],[])),(10,([0,3,5],[])),(18,([0,3,5,6,7,9],[6,7]))],frz:=[],sch:=[(20,.first 0 (rg [1,2,3,4,5,22]) [2,4]<| .first 1 (rg [3,4,5,22]) [2,4]<| .first 2 (rg [3,4,5,22]) [4]<| .first 3 (rg [5,22]) [4]<| .first 4 (rg [5,22]) []<| .first 5 (rg [6,22]) []<| .first 6 (rg [7,22]) []<| .first 7 [20,21] (rg [8,20])<| .first 8 [20,21] (rg [9,20])<| .first 9 [11,12,20,21] (rg [10,11,13,20])<| .first 10 [11,12,20,21] (rg [13,20])<| .first 11 [12,20,21] (rg [13,20])<| .first 12 [20,21] (rg [13,20])<| .first 13 [18,19,20,21] [14,15,16,17]<| .first 14 [15,17,18,19,20,21] [16]<| .first 15 [17,18,19,20,21] [16]<| .first 16 [17,18,19,20,21] []<| .first 17 [18,19,20,21] []<| .first 18 [19,20,21] []<| .first 19 [20,21] []<| .fork 20 (.first 21 [] []<| .done) (.stop))],shut:=[]}
noncomputable def abL:dH:={par:=[.ptr [.imm,.imm,.imm]],inn:=[(2,some ([0,2,3],[0,2])),(3,some ([0,2,3,4],[0,2])),(9,some ([0,2,3,4,5,6],[0,2,5,6])),(13,some ([2,3,4,5,6],[0,2,5,6])),(16,some ([2,3,4,5,6,9,10],[0,2,5,6,9])),(21,some ([2,3,4,9],[0,2,9])),(23,some ([2,3,4,9,12],[0,2,9])),(29,some ([2,9],[0,2,9]))],out:=[(8,some ([0,2,3,4,5,6,7],[0,2,5,6])),(12,some ([0,2,3,4,5,6,8],[0,2,5,6])),(13,some ([2,3,4,5,6,9],[0,2,5,6,9])),(20,some ([2,3,4,5,6,9,10,11],[0,2,5,6,9])),(28,some ([2,3,4,9,12,13],[0,2,9]))],bD:=[(6,([0,2,3,4,5,6,7],[0,2,5,6])),(10,([0,2,3,4,5,6,8],[0,2,5,6])),(15,([2,3,4,5,6,9,10],[0,2,5,6,9])),(18,([2,3,4,5,6,9,10,11],[0,2,5,6,9])),(22,([2,3,4,9,12],[0,2,9])),(25,([2,3,4,9,12,13],[0,2,9]))],frz:=[],sch:=[(8,.first 0 [10,11] (rg [1,10])<| .first 1 [3,4,5,8,9,10,11] [2,6,7]<| .first 2 [3,4,5,8,9,10,11] [6,7]<| .first 6 [7,8,9,10,11] [3,4,5]<| .first 3 [4,5,8,9,10,11] [7]<| .first 4 [5,8,9,10,11] [7]<| .first 5 [8,9,10,11] [7]<| .fork 7 (.first 8 [9,10,11] []<| .fork 9 (.fork 10 (.fork 11 (.done) (.stop)) (.stop)) (.stop)) (.stop)),(12,.first 0 [10,11] (rg [1,10])<| .first 1 [3,4,5,8,9,10,11] [2,6,7]<| .first 2 [3,4,5,8,9,10,11] [6,7]<| .first 6 [7,8,9,10,11] [3,4,5]<| .first 3 [4,5,8,9,10,11] [7]<| .first 4 [5,8,9,10,11] [7]<| .first 5 [8,9,10,11] [7]<| .fork 7 (.first 8 [9,10,11] []<| .fork 9 (.fork 10 (.fork 11 (.done) (.stop)) (.stop)) (.stop)) (.stop)),(13,.first 0 [2,3,8,10] [1,4,5,6,7,9]<| .first 1 [2,3,8,10] [4,5,6,7,9]<| .first 2 [3,8,10] [4,5,6,7,9]<| .first 3 [8,10] [4,5,6,7,9]<| .first 4 [6,7,8,10] [5,9]<| .first 5 [6,7,8,10] [9]<| .first 6 [7,8,10] [9]<| .first 7 [8,10] [9]<| .fork 8 (.fork 9 (.fork 10 (.done) (.stop)) (.stop)) (.fork 9 (.fork 8 (.fork 10 (.done) (.stop)) (.stop)) (.stop))),(20,.first 2 [4,5,10,11,12,13,14] [0,1,3,6,7,8,9]<| .first 3 [4,5,10,11,12,13,14] [0,1,6,7,8,9]<| .first 4 [5,10,11,12,13,14] [0,1,6,7,8,9]<| .first 5 [10,11,12,13,14] [0,1,6,7,8,9]<| .first 6 (rg [8,15]) [0,1,7]<| .first 7 (rg [8,15]) [0,1]<| .first 8 (rg [9,15]) [0,1]<| .first 9 [10,11,12,13,14] [0,1]<| .first 0 [1,12,13,14] [10,11]<| .first 1 [12,13,14] [10,11]<| .fork 10 (.fork 11 (.fork 12 (.first 13 [14] []<| .fork 14 (.done) (.stop)) (.stop)) (.stop)) (.stop)),(28,.first 2 [3,4,6,7,20,21,22,23,24] (rg [0,2,5,6,8,20])<| .first 5 [6,7,20,21,22,23,24] (rg [0,2,3,5,8,20])<| .first 8 (rg [19,25]) (rg [0,2,3,5,6,8,9,19])<| .first 9 [10,19,20,21,22,23,24] (rg [0,2,3,5,6,8,11,19])<| .first 10 (rg [19,25]) (rg [0,2,3,5,6,8,11,19])<| .first 11 (rg [13,15,19,25]) [0,1,3,4,6,7,12,15,16,17,18]<| .first 12 (rg [13,15,19,25]) [0,1,3,4,6,7,15,16,17,18]<| .first 13 [14,19,20,21,22,23,24] [0,1,3,4,6,7,15,16,17,18]<| .first 14 (rg [19,25]) [0,1,3,4,6,7,15,16,17,18]<| .first 15 (rg [17,25]) [0,1,3,4,6,7,16]<| .first 16 (rg [17,25]) [0,1,3,4,6,7]<| .first 17 (rg [18,25]) [0,1,3,4,6,7]<| .first 18 (rg [19,25]) [0,1,3,4,6,7]<| .first 0 [1,22,23,24] [3,4,6,7,19,20,21]<| .first 1 [22,23,24] [3,4,6,7,19,20,21]<| .fork 3 (.first 4 [7,20,21,22,23,24] [6,19]<| .fork 6 (.first 7 [20,21,22,23,24] [19]<| .fork 19 (.fork 20 (.fork 21 (.fork 22 (.first 23 [24] []<| .fork 24 (.done) (.stop)) (.stop)) (.stop)) (.stop)) (.stop)) (.fork 19 (.fork 6 (.first 7 [20,21,22,23,24] []<| .fork 20 (.fork 21 (.fork 22 (.first 23 [24] []<| .fork 24 (.done) (.stop)) (.stop)) (.stop)) (.stop)) (.stop)) (.stop))) (.fork 19 (.fork 3 (.first 4 [7,20,21,22,23,24] [6]<| .fork 6 (.first 7 [20,21,22,23,24] []<| .fork 20 (.fork 21 (.fork 22 (.first 23 [24] []<| .fork 24 (.done) (.stop)) (.stop)) (.stop)) (.stop)) (.stop)) (.stop)) (.stop)))],shut:=[]}
noncomputable def abM:dH:={par:=[.ptr [.imm,.imm,.imm],.mvs],inn:=[(2,some ([0,3,4,5],[0,3,4,5])),(4,some ([0,3,4,5,6],[0,3,4,5])),(6,some ([0,3,4,5,6,7],[0,3,4,5,7])),(10,some ([4,5],[0,4,5]))],out:=[(6,some ([0,3,4,5,6,7,34],[0,3,4,5,7])),(7,some ([0,3,4,5,6,7],[0,3,4,5,7])),(8,some ([0,3,4,5,6],[0,3,4,5]))],bD:=[(3,([0,3,4,5,6],[0,3,4,5]))],frz:=[],sch:=[(7,.first 4 (rg [5,8,16,22]) (rg [0,4,8,16])<| .first 5 (rg [6,8,16,22]) (rg [0,4,8,16])<| .first 6 (rg [7,8,16,22]) (rg [0,4,8,16])<| .first 7 (rg [16,22]) (rg [0,4,8,16])<| .first 8 (rg [9,12,16,22]) (rg [0,4,12,16])<| .first 9 (rg [10,12,16,22]) (rg [0,4,12,16])<| .first 10 [11,16,17,18,19,20,21] (rg [0,4,12,16])<| .first 11 (rg [16,22]) (rg [0,4,12,16])<| .first 12 (rg [13,22]) [0,1,2,3]<| .first 13 (rg [14,22]) [0,1,2,3]<| .first 14 (rg [15,22]) [0,1,2,3]<| .first 15 (rg [16,22]) [0,1,2,3]<| .first 0 [1,19,20,21] [2,3,16,17,18]<| .first 1 [19,20,21] [2,3,16,17,18]<| .first 2 [3,17,18,19,20,21] [16]<| .first 3 [17,18,19,20,21] [16]<| .fork 16 (.fork 17 (.fork 18 (.fork 19 (.first 20 [21] []<| .fork 21 (.done) (.stop)) (.stop)) (.stop)) (.stop)) (.stop)),(8,.first 5 (rg [6,9,17,23]) (rg [0,5,9,17])<| .first 6 (rg [7,9,17,23]) (rg [0,5,9,17])<| .first 7 (rg [8,9,17,23]) (rg [0,5,9,17])<| .first 8 (rg [17,23]) (rg [0,5,9,17])<| .first 9 (rg [10,13,17,23]) (rg [0,5,13,17])<| .first 10 (rg [11,13,17,23]) (rg [0,5,13,17])<| .first 11 [12,17,18,19,20,21,22] (rg [0,5,13,17])<| .first 12 (rg [17,23]) (rg [0,5,13,17])<| .first 13 (rg [14,23]) [0,1,2,3,4]<| .first 14 (rg [15,23]) [0,1,2,3,4]<| .first 15 (rg [16,23]) [0,1,2,3,4]<| .first 16 (rg [17,23]) [0,1,2,3,4]<| .first 0 [1,20,21,22] [2,3,4,17,18,19]<| .first 1 [20,21,22] [2,3,4,17,18,19]<| .first 2 [3,4,18,19,20,21,22] [17]<| .first 3 [4,18,19,20,21,22] [17]<| .first 4 [18,19,20,21,22] [17]<| .fork 17 (.fork 18 (.fork 19 (.fork 20 (.first 21 [22] []<| .fork 22 (.done) (.stop)) (.stop)) (.stop)) (.stop)) (.stop))],shut:=[]}
noncomputable def abN:dH:={par:=[.cst false,.cst false],inn:=[],out:=[],bD:=[],frz:=[],sch:=[],shut:=[]}
noncomputable def abO:dH:={par:=[.cst false],inn:=[(8,some ([],[]))],out:=[(1,some ([0,21],[])),(6,some ([0,3,49],[]))],bD:=[(4,([0,3],[]))],frz:=[],sch:=[],shut:=[]}
noncomputable def abP:dH:={par:=[.cst false,.cst false],inn:=[(9,some ([6],[6]))],out:=[],bD:=[(3,([0,6,10,11,12],[6]))],frz:=[],sch:=[],shut:=[]}
noncomputable def abQ:dH:={par:=[.cst false],inn:=[(15,some ([0,3,23,24],[])),(16,some ([0],[]))],out:=[(2,some ([0,3,21],[])),(7,some ([0,3,4,5,6,7,23,24],[5,6,7])),(8,some ([0,3,4,5,6,23,24,59],[5,6])),(13,some ([0,3,4,5,6,8,23,24,88],[5,6]))],bD:=[(5,([0,3,23,24],[])),(11,([0,3,4,5,6,8,23,24],[5,6]))],frz:=[],sch:=[(7,.first 0 [2,3,21,22,23] (rg [1,2,4,21])<| .first 1 [2,3,21,22,23] (rg [4,21])<| .first 2 [3,21,22,23] (rg [4,21])<| .first 3 [21,22,23] (rg [4,21])<| .first 4 [9,10,22,23] (rg [5,9,11,22])<| .first 5 [6,8,9,10,22,23] (rg [7,8,11,22])<| .first 6 [8,9,10,22,23] (rg [7,8,11,22])<| .first 7 [8,9,10,22,23] (rg [11,22])<| .first 8 [9,10,22,23] (rg [11,22])<| .first 9 [10,22,23] (rg [11,22])<| .first 10 [22,23] (rg [11,22])<| .first 11 [16,17,23] (rg [12,16,18,23])<| .first 12 [13,15,16,17,23] [14,18,19,20,21,22]<| .first 13 [15,16,17,23] [14,18,19,20,21,22]<| .first 14 [15,16,17,23] [18,19,20,21,22]<| .first 15 [16,17,23] [18,19,20,21,22]<| .first 16 [17,23] [18,19,20,21,22]<| .first 17 [23] [18,19,20,21,22]<| .fork 18 (.fork 19 (.fork 20 (.fork 21 (.fork 22 (.fork 23 (.done) (.stop)) (.stop)) (.stop)) (.stop)) (.fork 20 (.fork 19 (.fork 21 (.fork 22 (.fork 23 (.done) (.stop)) (.stop)) (.stop)) (.stop)) (.stop))) (.fork 19 (.fork 18 (.fork 20 (.fork 21 (.fork 22 (.fork 23 (.done) (.stop)) (.stop)) (.stop)) (.stop)) (.fork 20 (.fork 18 (.fork 21 (.fork 22 (.fork 23 (.done) (.stop)) (.stop)) (.stop)) (.stop)) (.stop))) (.fork 20 (.fork 18 (.fork 19 (.fork 21 (.fork 22 (.fork 23 (.done) (.stop)) (.stop)) (.stop)) (.stop)) (.fork 19 (.fork 18 (.fork 21 (.fork 22 (.fork 23 (.done) (.stop)) (.stop)) (.stop)) (.stop)) (.stop))) (.stop)))),(13,.first 0 (rg [1,2,3,4,5,22]) [2,4]<| .first 1 (rg [3,4,5,22]) [2,4]<| .first 2 (rg [3,4,5,22]) [4]<| .first 3 (rg [5,22]) [4]<| .first 4 (rg [5,22]) []<| .first 5 (rg [6,22]) []<| .first 6 (rg [7,22]) []<| .first 7 [20,21] (rg [8,20])<| .first 8 [20,21] (rg [9,20])<| .first 9 [11,12,20,21] (rg [10,11,13,20])<| .first 10 [11,12,20,21] (rg [13,20])<| .first 11 [12,20,21] (rg [13,20])<| .first 12 [20,21] (rg [13,20])<| .first 13 [18,19,20,21] [14,15,16,17]<| .first 14 [15,17,18,19,20,21] [16]<| .first 15 [17,18,19,20,21] [16]<| .first 16 [17,18,19,20,21] []<| .first 17 [18,19,20,21] []<| .first 18 [19,20,21] []<| .first 19 [20,21] []<| .fork 20 (.first 21 [] []<| .done) (.stop))],shut:=[]}
noncomputable def abR:dH:={par:=[.cst false,.cst false],inn:=[(7,some ([],[]))],out:=[],bD:=[(2,([0,1,7,8],[]))],frz:=[],sch:=[],shut:=[]}
noncomputable def abS:dH:={par:=[.cst false],inn:=[(8,some ([3],[3]))],out:=[],bD:=[(3,([0,3,8,9,10],[3]))],frz:=[],sch:=[],shut:=[]}
noncomputable def Vs:dH:={par:=[.cst false,.cst false],inn:=[],out:=[],bD:=[],frz:=[],sch:=[],shut:=[]}
noncomputable def Vt:dH:={par:=[.cst false],inn:=[],out:=[(1,some ([4],[]))],bD:=[],frz:=[],sch:=[(1,.first 0 [2,3,5,6] [1,4]<| .first 1 [2,3,5,6] [4]<| .first 2 [3,5,6] [4]<| .first 3 [5,6] [4]<| .first 4 [5,6] []<| .fork 5 (.fork 6 (.done) (.stop)) (.stop))],shut:=[]}
noncomputable def Vu:dH:={par:=[.cst false,.cst false],inn:=[],out:=[],bD:=[],frz:=[],sch:=[],shut:=[]}
noncomputable def Vw:dH:={par:=[.ptr [.imm,.imm,.imm],.cst false],inn:=[(4,some ([0,1,5],[0])),(6,some ([1,5],[0]))],out:=[],bD:=[],frz:=[],sch:=[],shut:=[]}
noncomputable def Vx:dH:={par:=[.ptr [.imm,.imm,.imm]],inn:=[(2,some ([0,2,3],[0,2])),(5,some ([0,2,5,6],[0,2,5])),(6,some ([2,5],[0,2,5]))],out:=[(2,some ([0,2,3,4],[0,2])),(3,some ([0,2,5],[0,2,5]))],bD:=[],frz:=[],sch:=[(2,.first 1 [2,3,4,5,8,9,10] [0,6,7]<| .first 6 [7,8,9,10] [0,2,3,4,5]<| .fork 0 (.first 2 [3,4,5,8,9,10] [7]<| .first 3 [4,5,8,9,10] [7]<| .first 4 [5,8,9,10] [7]<| .first 5 [8,9,10] [7]<| .fork 7 (.first 8 [9,10] []<| .first 9 [10] []<| .fork 10 (.done) (.stop)) (.stop)) (.stop)),(3,.first 1 [2,3,7,9] [0,4,5,6,8]<| .first 4 [5,6,7,9] [0,2,3,8]<| .fork 0 (.first 2 [3,7,9] [5,6,8]<| .first 3 [7,9] [5,6,8]<| .fork 5 (.fork 6 (.fork 7 (.fork 8 (.fork 9 (.done) (.stop)) (.stop)) (.fork 8 (.fork 7 (.fork 9 (.done) (.stop)) (.stop)) (.stop))) (.fork 8 (.fork 6 (.fork 7 (.fork 9 (.done) (.stop)) (.stop)) (.stop)) (.stop))) (.fork 8 (.fork 5 (.fork 6 (.fork 7 (.fork 9 (.done) (.stop)) (.stop)) (.stop)) (.stop)) (.stop))) (.fork 8 (.fork 0 (.first 2 [3,7,9] [5,6]<| .first 3 [7,9] [5,6]<| .fork 5 (.fork 6 (.fork 7 (.fork 9 (.done) (.stop)) (.stop)) (.stop)) (.stop)) (.stop)) (.stop)))],shut:=[]}
noncomputable def Vy:dH:={par:=[.cst false],inn:=[],out:=[(1,some ([2],[]))],bD:=[],frz:=[],sch:=[],shut:=[]}
noncomputable def Vz:dH:={par:=[.ptr [.imm,.imm,.imm,.imm,.imm,.sh,.imm],.mv],inn:=[(2,some ([0,1],[0,1])),(8,some ([0],[0])),(9,some ([0],[0])),(19,some ([0,1,5,6,7,8,57,58],[0,1])),(22,some ([],[0]))],out:=[(4,some ([0,1,5,6],[0,1])),(17,some ([0,1,5,6,7,8,57,58,67,68,69],[0,1])),(19,some ([0,1,5,6,57,58,112],[0,1]))],bD:=[(11,([0,1,5,6,57,58],[0,1])),(15,([0,1,5,6,7,8,57,58,67,68,69],[0,1]))],frz:=[],sch:=[(4,.first 0 [1,7,8] [2,3,4,5,6]<| .first 1 [7,8] [2,3,4,5,6]<| .first 2 [3,4,5,6,8] [7]<| .first 3 [4,5,6,8] [7]<| .first 4 [5,6,8] [7]<| .first 5 [6,8] [7]<| .first 6 [8] [7]<| .fork 7 (.fork 8 (.done) (.stop)) (.stop)),(17,.first 0 (rg [1,30]) []<| .first 1 (rg [2,30]) []<| .first 2 (rg [4,30]) [3]<| .first 3 (rg [4,30]) []<| .first 4 (rg [5,30]) []<| .first 5 (rg [6,30]) []<| .first 6 [7,8,9,20,21,26,27,28,29] (rg [10,20,22,26])<| .first 7 [8,9,20,21,26,27,28,29] (rg [10,20,22,26])<| .first 8 [9,20,21,26,27,28,29] (rg [10,20,22,26])<| .first 9 [20,21,26,27,28,29] (rg [10,20,22,26])<| .first 10 [15,17,19,20,21,26,27,28,29] [11,12,13,14,16,18,22,23,24,25]<| .first 11 [13,14,15,17,19,20,21,26,27,28,29] [12,16,18,22,23,24,25]<| .first 12 [13,14,15,17,19,20,21,26,27,28,29] [16,18,22,23,24,25]<| .first 13 [14,15,17,19,20,21,26,27,28,29] [16,18,22,23,24,25]<| .first 14 [15,17,19,20,21,26,27,28,29] [16,18,22,23,24,25]<| .first 15 [17,19,20,21,26,27,28,29] [16,18,22,23,24,25]<| .first 16 [17,19,20,21,26,27,28,29] [18,22,23,24,25]<| .first 17 [19,20,21,26,27,28,29] [18,22,23,24,25]<| .first 18 [19,20,21,26,27,28,29] [22,23,24,25]<| .first 19 [20,21,26,27,28,29] [22,23,24,25]<| .first 20 [21,26,27,28,29] [22,23,24,25]<| .first 21 [26,27,28,29] [22,23,24,25]<| .first 22 (rg [23,30]) []<| .first 23 (rg [24,30]) []<| .first 24 [25,26,27,28,29] []<| .first 25 [26,27,28,29] []<| .first 26 [27,28,29] []<| .first 27 [28,29] []<| .first 28 [29] []<| .fork 29 (.done) (.stop))],shut:=[]}
noncomputable def VA:dH:={par:=[.cst false],inn:=[(6,some ([0],[]))],out:=[(6,some ([2],[]))],bD:=[(2,([0,3],[]))],frz:=[],sch:=[],shut:=[]}
noncomputable def VB:dH:={par:=[.cut 4],inn:=[(4,some ([0,3,4],[3])),(8,some ([0,3,4,5,6],[3,5])),(11,some ([3],[3]))],out:=[],bD:=[(3,([0,3,4],[3])),(7,([0,3,4,5,6],[3,5]))],frz:=[],sch:=[],shut:=[]}
noncomputable def VC:dH:={par:=[.ptr [.imm,.imm,.imm,.imm,.sh,.imm,.sh,.imm,.imm,.imm]],inn:=[(2,some ([0],[0])),(6,some ([0],[0])),(8,some ([0],[0])),(13,some ([0,3],[0])),(17,some ([],[0]))],out:=[(2,some ([0,20],[0])),(4,some ([0,30],[0])),(13,some ([0,3,4],[0])),(14,some ([0,3,4],[0]))],bD:=[(10,([0,3],[0]))],frz:=[],sch:=[(2,.first 0 [1,2,3,8] [4,5,6,7]<| .first 1 [2,3,8] [4,5,6,7]<| .first 2 [3,8] [4,5,6,7]<| .first 3 [8] [4,5,6,7]<| .first 4 [5,6,7,8] []<| .first 5 [6,7,8] []<| .first 6 [7,8] []<| .first 7 [8] []<| .first 8 [] []<| .done),(4,.first 0 [1,2,3,4,9] [5,6,7,8]<| .first 1 [2,3,4,9] [5,6,7,8]<| .first 2 [3,4,9] [5,6,7,8]<| .first 3 [4,9] [5,6,7,8]<| .first 4 [9] [5,6,7,8]<| .first 5 [6,7,8,9] []<| .first 6 [7,8,9] []<| .first 7 [8,9] []<| .first 8 [9] []<| .first 9 [] []<| .done),(14,.first 0 [12,13,14] (rg [1,12])<| .first 1 [2,3,4,11,12,13,14] [5,6,7,8,9,10]<| .first 2 [3,4,11,12,13,14] [5,6,7,8,9,10]<| .first 3 [4,11,12,13,14] [5,6,7,8,9,10]<| .first 4 [11,12,13,14] [5,6,7,8,9,10]<| .first 5 (rg [6,15]) []<| .first 6 (rg [7,15]) []<| .first 7 (rg [8,15]) []<| .first 8 (rg [9,15]) []<| .first 9 [10,11,12,13,14] []<| .first 10 [11,12,13,14] []<| .fork 11 (.first 12 [13,14] []<| .first 13 [14] []<| .fork 14 (.done) (.stop)) (.stop))],shut:=[]}
noncomputable def VD:dH:={par:=[.cst false],inn:=[],out:=[],bD:=[],frz:=[],sch:=[],shut:=[]}
noncomputable def VE:dH:={par:=[.cst false,.cst false],inn:=[(6,some ([0],[]))],out:=[],bD:=[(2,([0,1,5],[]))],frz:=[],sch:=[],shut:=[]}
noncomputable def VF:dH:={par:=[.ptr [.imm,.imm,.imm],.cst false],inn:=[],out:=[],bD:=[],frz:=[],sch:=[],shut:=[]}
noncomputable def VG:dH:={par:=[.ptr [.imm,.imm,.imm]],inn:=[],out:=[],bD:=[],frz:=[],sch:=[],shut:=[]}
noncomputable def VH:dH:={par:=[.cst false],inn:=[],out:=[],bD:=[],frz:=[],sch:=[],shut:=[]}
noncomputable def VI:dH:={par:=[.cst false,.cst false],inn:=[],out:=[(1,some ([0,1,14],[]))],bD:=[],frz:=[],sch:=[],shut:=[]}
noncomputable def VJ:dH:={par:=[.cst false],inn:=[],out:=[(2,some ([2],[]))],bD:=[],frz:=[],sch:=[],shut:=[]}
noncomputable def VK:dH:={par:=[.cst false],inn:=[(7,some ([],[]))],out:=[],bD:=[(3,([0,3,4],[3]))],frz:=[],sch:=[],shut:=[]}
noncomputable def VL:dH:={par:=[],inn:=[],out:=[],bD:=[],frz:=[],sch:=[],shut:=[]}
noncomputable def VM:dH:={par:=[.cst false],inn:=[],out:=[],bD:=[],frz:=[],sch:=[],shut:=[]}
noncomputable def VN:dH:={par:=[.cst false,.cst false],inn:=[],out:=[],bD:=[],frz:=[],sch:=[],shut:=[]}
noncomputable def VO:dH:={par:=[.cst false,.cst false],inn:=[],out:=[],bD:=[],frz:=[],sch:=[],shut:=[]}
noncomputable def VP:dH:={par:=[.cst false],inn:=[],out:=[(1,some ([2],[]))],bD:=[],frz:=[],sch:=[],shut:=[]}
noncomputable def VQ:dH:={par:=[.cst false],inn:=[],out:=[(1,some ([2],[]))],bD:=[],frz:=[],sch:=[],shut:=[]}
noncomputable def VR:dH:={par:=[.cst false],inn:=[],out:=[(1,some ([2],[]))],bD:=[],frz:=[],sch:=[],shut:=[]}
noncomputable def VS:dH:={par:=[.cst false,.cst false,.cst false],inn:=[],out:=[(1,some ([6],[]))],bD:=[],frz:=[],sch:=[(1,.first 0 (rg [3,36]) [1,2]<| .first 1 (rg [3,36]) [2]<| .first 2 (rg [3,36]) []<| .fork 3 (.first 4 (rg [5,36]) []<| .first 5 (rg [6,36]) []<| .first 6 (rg [7,8,18,36]) (rg [8,18])<| .first 7 (rg [18,36]) (rg [8,18])<| .first 8 (rg [9,10,12,13,17,36]) [10,11,13,14,15,16]<| .first 9 (rg [12,13,17,36]) [10,11,13,14,15,16]<| .first 10 (rg [11,13,17,36]) [13,14,15,16]<| .first 11 (rg [12,13,17,36]) [13,14,15,16]<| .first 13 (rg [14,15,17,36]) [12,15,16]<| .first 14 (rg [17,36]) [12,15,16]<| .first 15 (rg [16,36]) [12]<| .first 16 (rg [17,36]) [12]<| .fork 12 (.fork 17 (.fork 18 (.first 19 (rg [20,36]) []<| .first 20 (rg [21,36]) []<| .first 21 [22,33,34,35] (rg [23,33])<| .first 22 [33,34,35] (rg [23,33])<| .first 23 [24,27,32,33,34,35] [25,26,28,29,30,31]<| .first 24 [27,32,33,34,35] [25,26,28,29,30,31]<| .first 25 [26,27,32,33,34,35] [28,29,30,31]<| .first 26 [27,32,33,34,35] [28,29,30,31]<| .first 28 [29,32,33,34,35] [27,30,31]<| .first 29 [32,33,34,35] [27,30,31]<| .first 30 [31,32,33,34,35] [27]<| .first 31 [32,33,34,35] [27]<| .fork 27 (.fork 32 (.fork 33 (.first 34 [35] []<| .fork 35 (.done) (.stop)) (.stop)) (.stop)) (.stop)) (.stop)) (.stop)) (.stop)) (.stop))],shut:=[]}
noncomputable def VT:dH:={par:=[.cst false,.cst false,.cst false,.cst false],inn:=[],out:=[(1,some ([8],[]))],bD:=[],frz:=[],sch:=[],shut:=[]}
noncomputable def VU:dH:={par:=[.cst false],inn:=[(6,some ([0,3,4,5],[5])),(7,some ([3],[]))],out:=[(6,some ([0,3,4],[]))],bD:=[(3,([0,3,4],[]))],frz:=[],sch:=[(6,.first 0 [18,19] (rg [1,18])<| .first 1 [3,4,5,8,17,18,19] (rg [2,3,6,8,9,17])<| .first 2 [3,4,5,8,17,18,19] (rg [6,8,9,17])<| .first 3 [4,5,8,17,18,19] (rg [6,8,9,17])<| .first 4 [5,8,17,18,19] (rg [6,8,9,17])<| .first 5 [8,17,18,19] (rg [6,8,9,17])<| .first 6 [7,8,17,18,19] (rg [9,17])<| .first 7 [8,17,18,19] (rg [9,17])<| .first 8 [17,18,19] (rg [9,17])<| .first 9 [11,12,13,16,17,18,19] [10,14,15]<| .first 10 [11,12,13,16,17,18,19] [14,15]<| .first 11 [12,13,16,17,18,19] [14,15]<| .first 12 [13,16,17,18,19] [14,15]<| .first 13 [16,17,18,19] [14,15]<| .first 14 [15,16,17,18,19] []<| .first 15 [16,17,18,19] []<| .first 16 [17,18,19] []<| .first 17 [18,19] []<| .first 18 [19] []<| .fork 19 (.done) (.stop))],shut:=[]}
noncomputable def VV:dH:={par:=[.cst false],inn:=[(10,some ([0,3,4,5],[3])),(11,some ([0,3],[3])),(13,some ([3],[3])),(18,some ([6],[6]))],out:=[],bD:=[(5,([0,3,4],[3])),(15,([3,6,7],[3,6]))],frz:=[],sch:=[],shut:=[]}
noncomputable def VW:dH:={par:=[.cst false,.cst false],inn:=[(7,some ([],[]))],out:=[(4,some ([0,3,5,7,8,16],[3]))],bD:=[(2,([0,3,7,8],[3]))],frz:=[],sch:=[(4,.first 0 [5] [1,2,3,4]<| .first 1 [3,4,5] [2]<| .first 2 [3,4,5] []<| .first 3 [4,5] []<| .first 4 [5] []<| .first 5 [] []<| .done)],shut:=[]}
noncomputable def VX:dH:={par:=[.cst false],inn:=[(4,some ([4,5,6,7],[4])),(7,some ([],[]))],out:=[],bD:=[(2,([5,6,7],[]))],frz:=[],sch:=[],shut:=[]}
noncomputable def VY:dH:={par:=[.cst false,.cst false,.cst false],inn:=[],out:=[(1,some ([6],[]))],bD:=[],frz:=[],sch:=[],shut:=[]}
noncomputable def VZ:dH:={par:=[.cst false,.cst false,.cst false,.cst false],inn:=[],out:=[(1,some ([8],[]))],bD:=[],frz:=[],sch:=[],shut:=[]}
noncomputable def V3:dH:={par:=[.cst false],inn:=[(5,some ([0,3,4,5,7,8,9],[5])),(6,some ([0,3,5,6,7,8,9],[5,6])),(8,some ([3],[]))],out:=[],bD:=[(3,([0,3,7,8,9],[]))],frz:=[],sch:=[],shut:=[]}
noncomputable def V4:dH:={par:=[.cst false,.cst false],inn:=[(7,some ([],[]))],out:=[],bD:=[(2,([0,1,7,8],[]))],frz:=[],sch:=[],shut:=[]}
noncomputable def V5:dH:={par:=[.cst false,.cst false],inn:=[(7,some ([],[]))],out:=[(4,some ([0,3,5,7,8,16],[3]))],bD:=[(2,([0,3,7,8],[3]))],frz:=[],sch:=[(4,.first 0 [5] [1,2,3,4]<| .first 1 [3,4,5] [2]<| .first 2 [3,4,5] []<| .first 3 [4,5] []<| .first 4 [5] []<| .first 5 [] []<| .done)],shut:=[]}
noncomputable def V6:dH:={par:=[.ptr [.imm,.imm,.imm]],inn:=[(4,some ([0,3],[0])),(5,some ([0,3],[0])),(6,some ([0,3],[0]))],out:=[(2,some ([0,3,13],[0])),(3,some ([0,3],[0])),(6,some ([0,3,53],[0]))],bD:=[],frz:=[],sch:=[(2,.first 0 [1,2,3,9] [4,5,6,7,8]<| .first 1 [2,3,9] [4,5,6,7,8]<| .first 2 [3,9] [4,5,6,7,8]<| .first 3 [9] [4,5,6,7,8]<| .first 4 [5,6,7,8,9] []<| .first 5 [6,7,8,9] []<| .first 6 [7,8,9] []<| .first 7 [8,9] []<| .first 8 [9] []<| .first 9 [] []<| .done),(3,.first 0 [1,2,3,8,9,10,11] [4,5,6,7]<| .first 1 [2,3,8,9,10,11] [4,5,6,7]<| .first 2 [3,8,9,10,11] [4,5,6,7]<| .first 3 [8,9,10,11] [4,5,6,7]<| .first 4 (rg [5,12]) []<| .first 5 [6,7,8,9,10,11] []<| .first 6 [7,8,9,10,11] []<| .first 7 [8,9,10,11] []<| .first 8 [9,10,11] []<| .first 9 [10,11] []<| .fork 10 (.fork 11 (.done) (.stop)) (.stop)),(6,.first 0 [1,2,3,9] [4,5,6,7,8]<| .first 1 [2,3,9] [4,5,6,7,8]<| .first 2 [3,9] [4,5,6,7,8]<| .first 3 [9] [4,5,6,7,8]<| .first 4 [5,6,7,8,9] []<| .first 5 [6,7,8,9] []<| .first 6 [7,8,9] []<| .first 7 [8,9] []<| .first 8 [9] []<| .first 9 [] []<| .done)],shut:=[]}
noncomputable def V7:dH:={par:=[],inn:=[],out:=[],bD:=[],frz:=[],sch:=[],shut:=[]}
noncomputable def V8:dH:={par:=[.cst false,.cst false],inn:=[],out:=[],bD:=[],frz:=[],sch:=[],shut:=[]}
noncomputable def V9:dH:={par:=[.cut 4,.cst false],inn:=[(5,some ([0,1,5,6,7],[5])),(11,some ([0,1,5,6,7,8],[5])),(13,some ([5],[5]))],out:=[(10,some ([0,1,5,6,7,8,9],[5])),(11,some ([0,1,5,6,7,63],[5]))],bD:=[(4,([0,1,5,6,7],[5])),(8,([0,1,5,6,7,8,9],[5]))],frz:=[],sch:=[(10,.first 0 (rg [1,25]) []<| .first 1 (rg [2,25]) []<| .first 2 [3,4,5,7,8,9,22,23,24] (rg [6,7,10,22])<| .first 3 [4,5,7,8,9,22,23,24] (rg [6,7,10,22])<| .first 4 [5,7,8,9,22,23,24] (rg [6,7,10,22])<| .first 5 [7,8,9,22,23,24] (rg [6,7,10,22])<| .first 6 [7,8,9,22,23,24] (rg [10,22])<| .first 7 [8,9,22,23,24] (rg [10,22])<| .first 8 [9,22,23,24] (rg [10,22])<| .first 9 [22,23,24] (rg [10,22])<| .first 10 [12,13,22,23,24] (rg [11,12,14,22])<| .first 11 [12,13,22,23,24] (rg [14,22])<| .first 12 [13,22,23,24] (rg [14,22])<| .first 13 [22,23,24] (rg [14,22])<| .first 14 [20,21,22,23,24] [15,16,17,18,19]<| .first 15 [16,19,20,21,22,23,24] [17,18]<| .first 16 (rg [19,25]) [17,18]<| .first 17 (rg [18,25]) []<| .first 18 (rg [19,25]) []<| .first 19 [20,21,22,23,24] []<| .first 20 [21,22,23,24] []<| .first 21 [22,23,24] []<| .fork 22 (.first 23 [24] []<| .fork 24 (.done) (.stop)) (.stop))],shut:=[]}
noncomputable def We:dH:={par:=[.cut 10],inn:=[(7,some ([],[]))],out:=[(5,some ([0,3,4,64],[]))],bD:=[(3,([0,3,4],[]))],frz:=[],sch:=[(5,.first 0 (rg [1,4,5,9,10,45]) [4,9]<| .first 1 (rg [2,4,5,9,10,45]) [4,9]<| .first 2 (rg [3,4,5,9,10,45]) [4,9]<| .first 3 (rg [5,9,10,45]) [4,9]<| .first 4 (rg [5,9,10,45]) [9]<| .first 5 (rg [6,9,10,45]) [9]<| .first 6 (rg [7,9,10,45]) [9]<| .first 7 (rg [8,9,10,45]) [9]<| .first 8 (rg [10,45]) [9]<| .first 9 (rg [10,45]) []<| .first 10 (rg [11,45]) []<| .first 11 (rg [12,45]) []<| .first 12 [13,14,15,38,43,44] (rg [16,38,39,43])<| .first 13 [14,15,38,43,44] (rg [16,38,39,43])<| .first 14 [15,38,43,44] (rg [16,38,39,43])<| .first 15 [38,43,44] (rg [16,38,39,43])<| .first 16 [17,18,19,29,30,38,43,44] (rg [20,29,31,38,39,43])<| .first 17 [18,19,29,30,38,43,44] (rg [20,29,31,38,39,43])<| .first 18 [19,29,30,38,43,44] (rg [20,29,31,38,39,43])<| .first 19 [29,30,38,43,44] (rg [20,29,31,38,39,43])<| .first 20 (rg [21,24,25,31,38,39,43,45]) (rg [24,25,31,38,39,43])<| .first 21 [22,23,25,26,27,28,29,30,38,43,44] (rg [24,25,31,38,39,43])<| .first 22 [23,25,26,27,28,29,30,38,43,44] (rg [24,25,31,38,39,43])<| .first 23 [25,26,27,28,29,30,38,43,44] (rg [24,25,31,38,39,43])<| .first 24 [25,26,27,28,29,30,38,43,44] (rg [31,38,39,43])<| .first 25 [26,27,28,29,30,38,43,44] (rg [31,38,39,43])<| .first 26 [27,28,29,30,38,43,44] (rg [31,38,39,43])<| .first 27 [28,29,30,38,43,44] (rg [31,38,39,43])<| .first 28 [29,30,38,43,44] (rg [31,38,39,43])<| .first 29 [30,38,43,44] (rg [31,38,39,43])<| .first 30 [38,43,44] (rg [31,38,39,43])<| .first 31 [32,33,34,36,37,38,43,44] [35,39,40,41,42]<| .first 32 [33,34,36,37,38,43,44] [35,39,40,41,42]<| .first 33 [34,36,37,38,43,44] [35,39,40,41,42]<| .first 34 [36,37,38,43,44] [35,39,40,41,42]<| .first 35 [36,37,38,43,44] [39,40,41,42]<| .first 36 [37,38,43,44] [39,40,41,42]<| .first 37 [38,43,44] [39,40,41,42]<| .first 39 [40,41,42,43,44] [38]<| .first 40 [41,42,43,44] [38]<| .first 41 [42,43,44] [38]<| .first 42 [43,44] [38]<| .fork 38 (.first 43 [44] []<| .first 44 [] []<| .done) (.stop))],shut:=[]}
noncomputable def Wh:dH:={par:=[.ptr [.imm,.imm,.imm],.cst false],inn:=[],out:=[],bD:=[],frz:=[],sch:=[],shut:=[]}
noncomputable def Wi:dH:={par:=[.cst false,.cst false],inn:=[],out:=[],bD:=[],frz:=[],sch:=[],shut:=[]}
noncomputable def Wj:dH:={par:=[.cst false],inn:=[],out:=[],bD:=[],frz:=[],sch:=[],shut:=[]}
noncomputable def Wl:dH:={par:=[.cst false],inn:=[],out:=[],bD:=[],frz:=[],sch:=[],shut:=[]}
noncomputable def Wn:dH:={par:=[.cst false,.cst false,.cst false],inn:=[],out:=[],bD:=[],frz:=[],sch:=[],shut:=[]}
noncomputable def Wp:dH:={par:=[.cst false,.cst false,.cst false,.cst false],inn:=[],out:=[(1,some ([8],[]))],bD:=[],frz:=[],sch:=[(1,.first 0 (rg [3,4,7,23]) [1,2,4,5,6]<| .first 1 (rg [3,4,7,23]) [2,4,5,6]<| .first 2 (rg [3,4,7,23]) [4,5,6]<| .first 4 (rg [7,23]) [3,5,6]<| .first 5 (rg [7,23]) [3,6]<| .first 6 (rg [7,23]) [3]<| .fork 3 (.fork 7 (.first 8 (rg [9,23]) []<| .first 9 (rg [10,23]) []<| .first 10 (rg [11,23]) []<| .first 11 [14,18,19,20,21,22] [12,13,15,16,17]<| .first 12 [14,18,19,20,21,22] [13,15,16,17]<| .first 13 [14,18,19,20,21,22] [15,16,17]<| .first 15 [18,19,20,21,22] [14,16,17]<| .first 16 [18,19,20,21,22] [14,17]<| .first 17 [18,19,20,21,22] [14]<| .fork 14 (.fork 18 (.first 19 [20,21,22] []<| .first 20 [21,22] []<| .first 21 [22] []<| .fork 22 (.done) (.stop)) (.stop)) (.stop)) (.stop)) (.stop))],shut:=[]}
noncomputable def Wq:dH:={par:=[.cst false],inn:=[],out:=[(1,some ([2],[]))],bD:=[],frz:=[],sch:=[],shut:=[]}
noncomputable def Ws:dH:={par:=[.cst false,.cst false,.cst false],inn:=[],out:=[],bD:=[],frz:=[],sch:=[],shut:=[]}
noncomputable def Wu:dH:={par:=[.cst false,.cst false,.cst false,.cst false],inn:=[],out:=[(1,some ([8],[]))],bD:=[],frz:=[],sch:=[(1,.first 0 (rg [3,4,7,23]) [1,2,4,5,6]<| .first 1 (rg [3,4,7,23]) [2,4,5,6]<| .first 2 (rg [3,4,7,23]) [4,5,6]<| .first 4 (rg [7,23]) [3,5,6]<| .first 5 (rg [7,23]) [3,6]<| .first 6 (rg [7,23]) [3]<| .fork 3 (.fork 7 (.first 8 (rg [9,23]) []<| .first 9 (rg [10,23]) []<| .first 10 (rg [11,23]) []<| .first 11 [14,18,19,20,21,22] [12,13,15,16,17]<| .first 12 [14,18,19,20,21,22] [13,15,16,17]<| .first 13 [14,18,19,20,21,22] [15,16,17]<| .first 15 [18,19,20,21,22] [14,16,17]<| .first 16 [18,19,20,21,22] [14,17]<| .first 17 [18,19,20,21,22] [14]<| .fork 14 (.fork 18 (.first 19 [20,21,22] []<| .first 20 [21,22] []<| .first 21 [22] []<| .fork 22 (.done) (.stop)) (.stop)) (.stop)) (.stop)) (.stop))],shut:=[]}
noncomputable def Wv:dH:={par:=[.cst false,.cst false,.cst false],inn:=[(8,some ([],[]))],out:=[(6,some ([0,1,2,7,45],[]))],bD:=[(2,([0,1,2,7],[]))],frz:=[],sch:=[],shut:=[]}
noncomputable def Wx:dH:={par:=[.cst false,.cst false,.cst false],inn:=[(5,some ([0,1,2,7,8,9],[])),(9,some ([8],[]))],out:=[(6,some ([0,1,2,7,8,9,10],[])),(7,some ([0,1,2,7,8,9,10,39],[]))],bD:=[(4,([0,1,2,7,8,9],[]))],frz:=[],sch:=[(6,.first 0 [6,14,15] (rg [1,6,7,14])<| .first 1 [3,5,6,14,15] [2,4,7,8,9,10,11,12,13]<| .first 2 [3,5,6,14,15] (rg [4,5,7,14])<| .first 3 [5,6,14,15] (rg [4,5,7,14])<| .first 4 [5,6,14,15] (rg [7,14])<| .first 5 [6,14,15] (rg [7,14])<| .first 6 [14,15] (rg [7,14])<| .first 7 [13,14,15] [8,9,10,11,12]<| .first 8 [10,12,13,14,15] [9,11]<| .first 9 [10,12,13,14,15] [11]<| .first 10 [12,13,14,15] [11]<| .first 11 [12,13,14,15] []<| .first 12 [13,14,15] []<| .first 13 [14,15] []<| .fork 14 (.fork 15 (.done) (.stop)) (.stop))],shut:=[]}
noncomputable def Wy:dH:={par:=[.cst false,.cst false],inn:=[(7,some ([],[]))],out:=[],bD:=[(2,([0,1,7,8],[]))],frz:=[],sch:=[],shut:=[]}
noncomputable def WA:dH:={par:=[.cst false],inn:=[],out:=[],bD:=[],frz:=[],sch:=[],shut:=[]}
noncomputable def WB:dH:={par:=[.cst false,.cst false,.cst false],inn:=[],out:=[],bD:=[],frz:=[],sch:=[],shut:=[]}
noncomputable def fcs:List (Nat×dH):=[(4,fc4),(7,fc7),(14,aa8),(15,aa9),(16,aba),(17,abb),(18,abe),(19,abf),(20,abg),(21,abh),(39,abj),(40,abk),(41,abl),(42,abm),(43,abn),(46,abo),(49,abp),(53,abq),(54,abr),(55,abt),(56,abu),(57,abv),(58,abw),(59,abx),(60,aby),(66,abz),(67,abA),(79,abB),(80,abC),(83,abD),(84,abE),(85,abG),(86,abH),(87,abI),(88,abJ),(89,abK),(90,abL),(91,abM),(92,abN),(93,abO),(94,abP),(95,abQ),(98,abR),(99,abS),(100,Vs),(101,Vt),(102,Vu),(106,Vw),(107,Vx),(108,Vy),(109,Vz),(110,VA),(111,VB),(112,VC),(113,VD),(114,VE),(115,VF),(116,VG),(118,VH),(121,VI),(129,VJ),(134,VK),(135,VL),(136,VM),(137,VN),(138,VO),(143,VP),(144,VQ),(145,VR),(146,VS),(147,VT),(148,VU),(149,VV),(150,VW),(151,VX),(152,VY),(153,VZ),(154,V3),(155,V4),(156,V5),(158,V6),(159,V7),(160,V8),(161,V9),(162,We),(163,Wh),(164,Wi),(165,Wj),(182,Wl),(189,Wn),(190,Wp),(191,Wq),(192,Ws),(193,Wu),(195,Wv),(196,Wx),(197,Wy),(206,WA),(207,WB)]
noncomputable def ons:List (Nat×Bool):=[(4,true),(7,true),(14,true),(15,true),(16,true),(17,true),(18,true),(19,true),(20,true),(21,true),(39,true),(40,true),(41,true),(42,true),(43,true),(46,true),(49,true),(53,true),(54,true),(55,true),(56,true),(57,true),(58,true),(59,true),(60,true),(66,true),(67,true),(79,true),(80,true),(83,true),(84,true),(85,true),(86,true),(87,true),(88,true),(89,true),(90,true),(91,true),(92,true),(93,true),(94,true),(95,true),(98,true),(99,true),(100,true),(101,true),(102,true),(106,true),(107,true),(108,true),(109,true),(110,true),(111,true),(112,true),(113,true),(114,true),(115,true),(116,true),(118,true),(121,true),(129,true),(134,true),(135,true),(136,true),(137,true),(138,true),(143,true),(144,true),(145,true),(146,true),(147,true),(148,true),(149,true),(150,true),(151,true),(152,true),(153,true),(154,true),(155,true),(156,true),(158,true),(159,true),(160,true),(161,true),(162,true),(163,true),(164,true),(165,true),(182,true),(189,true),(190,true),(191,true),(192,true),(193,true),(195,true),(196,true),(197,true),(206,true),(207,true)]
noncomputable def cfg:Cfg:=Zh ons fcs [(119,some (Dc 1 8))] [(61,26)]
theorem c4:cfg.fc 4=fc4:=rfl
instance C4:Cf cfg 4 fc4:=⟨c4⟩
instance Z4:Zf cfg 4:=⟨rfl⟩
theorem c7:cfg.fc 7=fc7:=rfl
instance C7:Cf cfg 7 fc7:=⟨c7⟩
instance Z7:Zf cfg 7:=⟨rfl⟩
theorem c14:cfg.fc 14=aa8:=rfl
instance C14:Cf cfg 14 aa8:=⟨c14⟩
instance Z14:Zf cfg 14:=⟨rfl⟩
theorem c15:cfg.fc 15=aa9:=rfl
instance C15:Cf cfg 15 aa9:=⟨c15⟩
instance Z15:Zf cfg 15:=⟨rfl⟩
theorem c16:cfg.fc 16=aba:=rfl
instance C16:Cf cfg 16 aba:=⟨c16⟩
instance Z16:Zf cfg 16:=⟨rfl⟩
theorem c17:cfg.fc 17=abb:=rfl
instance C17:Cf cfg 17 abb:=⟨c17⟩
theorem z17:(cfg.fc 17).frz=[8]:=rfl
theorem c18:cfg.fc 18=abe:=rfl
instance C18:Cf cfg 18 abe:=⟨c18⟩
theorem z18:(cfg.fc 18).frz=[4]:=rfl
theorem c19:cfg.fc 19=abf:=rfl
instance C19:Cf cfg 19 abf:=⟨c19⟩
instance Z19:Zf cfg 19:=⟨rfl⟩
theorem c20:cfg.fc 20=abg:=rfl
instance C20:Cf cfg 20 abg:=⟨c20⟩
instance Z20:Zf cfg 20:=⟨rfl⟩
theorem z20:(cfg.fc 20).frz=[]:=rfl
theorem c21:cfg.fc 21=abh:=rfl
instance C21:Cf cfg 21 abh:=⟨c21⟩
instance Z21:Zf cfg 21:=⟨rfl⟩
theorem c39:cfg.fc 39=abj:=rfl
instance C39:Cf cfg 39 abj:=⟨c39⟩
instance Z39:Zf cfg 39:=⟨rfl⟩
theorem c40:cfg.fc 40=abk:=rfl
instance C40:Cf cfg 40 abk:=⟨c40⟩
instance Z40:Zf cfg 40:=⟨rfl⟩
theorem c41:cfg.fc 41=abl:=rfl
instance C41:Cf cfg 41 abl:=⟨c41⟩
instance Z41:Zf cfg 41:=⟨rfl⟩
theorem z41:(cfg.fc 41).frz=[]:=rfl
theorem c42:cfg.fc 42=abm:=rfl
instance C42:Cf cfg 42 abm:=⟨c42⟩
instance Z42:Zf cfg 42:=⟨rfl⟩
theorem c43:cfg.fc 43=abn:=rfl
instance C43:Cf cfg 43 abn:=⟨c43⟩
instance Z43:Zf cfg 43:=⟨rfl⟩
theorem z43:(cfg.fc 43).frz=[]:=rfl
theorem c46:cfg.fc 46=abo:=rfl
instance C46:Cf cfg 46 abo:=⟨c46⟩
instance Z46:Zf cfg 46:=⟨rfl⟩
theorem c49:cfg.fc 49=abp:=rfl
instance C49:Cf cfg 49 abp:=⟨c49⟩
theorem z49:(cfg.fc 49).frz=[2]:=rfl
theorem c53:cfg.fc 53=abq:=rfl
instance C53:Cf cfg 53 abq:=⟨c53⟩
instance Z53:Zf cfg 53:=⟨rfl⟩
theorem c54:cfg.fc 54=abr:=rfl
instance C54:Cf cfg 54 abr:=⟨c54⟩
instance Z54:Zf cfg 54:=⟨rfl⟩
theorem c55:cfg.fc 55=abt:=rfl
instance C55:Cf cfg 55 abt:=⟨c55⟩
instance Z55:Zf cfg 55:=⟨rfl⟩
theorem z55:(cfg.fc 55).frz=[]:=rfl
theorem c56:cfg.fc 56=abu:=rfl
instance C56:Cf cfg 56 abu:=⟨c56⟩
instance Z56:Zf cfg 56:=⟨rfl⟩
theorem c57:cfg.fc 57=abv:=rfl
instance C57:Cf cfg 57 abv:=⟨c57⟩
instance Z57:Zf cfg 57:=⟨rfl⟩
theorem c58:cfg.fc 58=abw:=rfl
instance C58:Cf cfg 58 abw:=⟨c58⟩
instance Z58:Zf cfg 58:=⟨rfl⟩
theorem z58:(cfg.fc 58).frz=[]:=rfl
theorem c59:cfg.fc 59=abx:=rfl
instance C59:Cf cfg 59 abx:=⟨c59⟩
instance Z59:Zf cfg 59:=⟨rfl⟩
theorem z59:(cfg.fc 59).frz=[]:=rfl
theorem c60:cfg.fc 60=aby:=rfl
instance C60:Cf cfg 60 aby:=⟨c60⟩
instance Z60:Zf cfg 60:=⟨rfl⟩
theorem z60:(cfg.fc 60).frz=[]:=rfl
theorem c66:cfg.fc 66=abz:=rfl
instance C66:Cf cfg 66 abz:=⟨c66⟩
instance Z66:Zf cfg 66:=⟨rfl⟩
theorem c67:cfg.fc 67=abA:=rfl
instance C67:Cf cfg 67 abA:=⟨c67⟩
instance Z67:Zf cfg 67:=⟨rfl⟩
theorem c79:cfg.fc 79=abB:=rfl
instance C79:Cf cfg 79 abB:=⟨c79⟩
instance Z79:Zf cfg 79:=⟨rfl⟩
theorem c80:cfg.fc 80=abC:=rfl
instance C80:Cf cfg 80 abC:=⟨c80⟩
instance Z80:Zf cfg 80:=⟨rfl⟩
theorem z80:(cfg.fc 80).frz=[]:=rfl
theorem c83:cfg.fc 83=abD:=rfl
instance C83:Cf cfg 83 abD:=⟨c83⟩
instance Z83:Zf cfg 83:=⟨rfl⟩
theorem c84:cfg.fc 84=abE:=rfl
instance C84:Cf cfg 84 abE:=⟨c84⟩
instance Z84:Zf cfg 84:=⟨rfl⟩
theorem c85:cfg.fc 85=abG:=rfl
instance C85:Cf cfg 85 abG:=⟨c85⟩
instance Z85:Zf cfg 85:=⟨rfl⟩
theorem c86:cfg.fc 86=abH:=rfl
instance C86:Cf cfg 86 abH:=⟨c86⟩
instance Z86:Zf cfg 86:=⟨rfl⟩
theorem z86:(cfg.fc 86).frz=[]:=rfl
theorem c87:cfg.fc 87=abI:=rfl
instance C87:Cf cfg 87 abI:=⟨c87⟩
instance Z87:Zf cfg 87:=⟨rfl⟩
theorem c88:cfg.fc 88=abJ:=rfl
instance C88:Cf cfg 88 abJ:=⟨c88⟩
instance Z88:Zf cfg 88:=⟨rfl⟩
theorem z88:(cfg.fc 88).frz=[]:=rfl
theorem c89:cfg.fc 89=abK:=rfl
instance C89:Cf cfg 89 abK:=⟨c89⟩
instance Z89:Zf cfg 89:=⟨rfl⟩
theorem z89:(cfg.fc 89).frz=[]:=rfl
theorem c90:cfg.fc 90=abL:=rfl
instance C90:Cf cfg 90 abL:=⟨c90⟩
instance Z90:Zf cfg 90:=⟨rfl⟩
theorem z90:(cfg.fc 90).frz=[]:=rfl
theorem c91:cfg.fc 91=abM:=rfl
instance C91:Cf cfg 91 abM:=⟨c91⟩
instance Z91:Zf cfg 91:=⟨rfl⟩
theorem z91:(cfg.fc 91).frz=[]:=rfl
theorem c92:cfg.fc 92=abN:=rfl
instance C92:Cf cfg 92 abN:=⟨c92⟩
instance Z92:Zf cfg 92:=⟨rfl⟩
theorem c93:cfg.fc 93=abO:=rfl
instance C93:Cf cfg 93 abO:=⟨c93⟩
instance Z93:Zf cfg 93:=⟨rfl⟩
theorem c94:cfg.fc 94=abP:=rfl
instance C94:Cf cfg 94 abP:=⟨c94⟩
instance Z94:Zf cfg 94:=⟨rfl⟩
theorem c95:cfg.fc 95=abQ:=rfl
instance C95:Cf cfg 95 abQ:=⟨c95⟩
instance Z95:Zf cfg 95:=⟨rfl⟩
theorem z95:(cfg.fc 95).frz=[]:=rfl
theorem c98:cfg.fc 98=abR:=rfl
instance C98:Cf cfg 98 abR:=⟨c98⟩
instance Z98:Zf cfg 98:=⟨rfl⟩
theorem c99:cfg.fc 99=abS:=rfl
instance C99:Cf cfg 99 abS:=⟨c99⟩
instance Z99:Zf cfg 99:=⟨rfl⟩
theorem ahe:cfg.fc 100=Vs:=rfl
instance ajd:Cf cfg 100 Vs:=⟨ahe⟩
instance aje:Zf cfg 100:=⟨rfl⟩
theorem afd:cfg.fc 101=Vt:=rfl
instance ajf:Cf cfg 101 Vt:=⟨afd⟩
instance ajg:Zf cfg 101:=⟨rfl⟩
theorem afe:(cfg.fc 101).frz=[]:=rfl
theorem ahf:cfg.fc 102=Vu:=rfl
instance ajh:Cf cfg 102 Vu:=⟨ahf⟩
instance aji:Zf cfg 102:=⟨rfl⟩
theorem aff:cfg.fc 106=Vw:=rfl
instance ajj:Cf cfg 106 Vw:=⟨aff⟩
instance ajk:Zf cfg 106:=⟨rfl⟩
theorem c107:cfg.fc 107=Vx:=rfl
instance ajl:Cf cfg 107 Vx:=⟨c107⟩
instance ajm:Zf cfg 107:=⟨rfl⟩
theorem z107:(cfg.fc 107).frz=[]:=rfl
theorem afg:cfg.fc 108=Vy:=rfl
instance ajn:Cf cfg 108 Vy:=⟨afg⟩
instance ajo:Zf cfg 108:=⟨rfl⟩
theorem c109:cfg.fc 109=Vz:=rfl
instance ajp:Cf cfg 109 Vz:=⟨c109⟩
instance ajq:Zf cfg 109:=⟨rfl⟩
theorem z109:(cfg.fc 109).frz=[]:=rfl
theorem ad2:cfg.fc 110=VA:=rfl
instance ajr:Cf cfg 110 VA:=⟨ad2⟩
instance ajs:Zf cfg 110:=⟨rfl⟩
theorem XL:cfg.fc 111=VB:=rfl
instance ajt:Cf cfg 111 VB:=⟨XL⟩
instance aju:Zf cfg 111:=⟨rfl⟩
theorem Tm:cfg.fc 112=VC:=rfl
instance ajv:Cf cfg 112 VC:=⟨Tm⟩
instance ajw:Zf cfg 112:=⟨rfl⟩
theorem afh:(cfg.fc 112).frz=[]:=rfl
theorem ahg:cfg.fc 113=VD:=rfl
instance ajx:Cf cfg 113 VD:=⟨ahg⟩
instance ajy:Zf cfg 113:=⟨rfl⟩
theorem ad3:cfg.fc 114=VE:=rfl
instance ajz:Cf cfg 114 VE:=⟨ad3⟩
instance ajA:Zf cfg 114:=⟨rfl⟩
theorem ahh:cfg.fc 115=VF:=rfl
instance ajB:Cf cfg 115 VF:=⟨ahh⟩
instance ajC:Zf cfg 115:=⟨rfl⟩
theorem c116:cfg.fc 116=VG:=rfl
instance ajD:Cf cfg 116 VG:=⟨c116⟩
instance ajE:Zf cfg 116:=⟨rfl⟩
theorem ahi:cfg.fc 118=VH:=rfl
instance ajF:Cf cfg 118 VH:=⟨ahi⟩
instance ajG:Zf cfg 118:=⟨rfl⟩
theorem afi:cfg.fc 121=VI:=rfl
instance ajH:Cf cfg 121 VI:=⟨afi⟩
instance ajI:Zf cfg 121:=⟨rfl⟩
theorem afj:cfg.fc 129=VJ:=rfl
instance ajJ:Cf cfg 129 VJ:=⟨afj⟩
instance ajK:Zf cfg 129:=⟨rfl⟩
theorem ad4:cfg.fc 134=VK:=rfl
instance ajL:Cf cfg 134 VK:=⟨ad4⟩
instance ajM:Zf cfg 134:=⟨rfl⟩
theorem ahj:cfg.fc 135=VL:=rfl
instance ajN:Cf cfg 135 VL:=⟨ahj⟩
instance ajO:Zf cfg 135:=⟨rfl⟩
theorem ahk:cfg.fc 136=VM:=rfl
instance ajP:Cf cfg 136 VM:=⟨ahk⟩
instance ajQ:Zf cfg 136:=⟨rfl⟩
theorem ahl:cfg.fc 137=VN:=rfl
instance ajR:Cf cfg 137 VN:=⟨ahl⟩
instance ajS:Zf cfg 137:=⟨rfl⟩
theorem c138:cfg.fc 138=VO:=rfl
instance ajT:Cf cfg 138 VO:=⟨c138⟩
instance ajU:Zf cfg 138:=⟨rfl⟩
theorem c143:cfg.fc 143=VP:=rfl
instance ajV:Cf cfg 143 VP:=⟨c143⟩
instance ajW:Zf cfg 143:=⟨rfl⟩
theorem afk:cfg.fc 144=VQ:=rfl
instance ajX:Cf cfg 144 VQ:=⟨afk⟩
instance ajY:Zf cfg 144:=⟨rfl⟩
theorem c145:cfg.fc 145=VR:=rfl
instance ajZ:Cf cfg 145 VR:=⟨c145⟩
instance aj0:Zf cfg 145:=⟨rfl⟩
theorem c146:cfg.fc 146=VS:=rfl
instance aj1:Cf cfg 146 VS:=⟨c146⟩
instance aj2:Zf cfg 146:=⟨rfl⟩
theorem z146:(cfg.fc 146).frz=[]:=rfl
theorem afl:cfg.fc 147=VT:=rfl
instance aj3:Cf cfg 147 VT:=⟨afl⟩
instance aj6:Zf cfg 147:=⟨rfl⟩
theorem c148:cfg.fc 148=VU:=rfl
instance aj7:Cf cfg 148 VU:=⟨c148⟩
instance aj8:Zf cfg 148:=⟨rfl⟩
theorem z148:(cfg.fc 148).frz=[]:=rfl
theorem Uy:cfg.fc 149=VV:=rfl
instance aj9:Cf cfg 149 VV:=⟨Uy⟩
instance aka:Zf cfg 149:=⟨rfl⟩
theorem abT:cfg.fc 150=VW:=rfl
instance akb:Cf cfg 150 VW:=⟨abT⟩
instance akc:Zf cfg 150:=⟨rfl⟩
theorem ad5:cfg.fc 151=VX:=rfl
instance akd:Cf cfg 151 VX:=⟨ad5⟩
instance ake:Zf cfg 151:=⟨rfl⟩
theorem c152:cfg.fc 152=VY:=rfl
instance akf:Cf cfg 152 VY:=⟨c152⟩
instance akg:Zf cfg 152:=⟨rfl⟩
theorem afm:cfg.fc 153=VZ:=rfl
instance akh:Cf cfg 153 VZ:=⟨afm⟩
instance aki:Zf cfg 153:=⟨rfl⟩
theorem c154:cfg.fc 154=V3:=rfl
instance akj:Cf cfg 154 V3:=⟨c154⟩
instance akk:Zf cfg 154:=⟨rfl⟩
theorem ad6:cfg.fc 155=V4:=rfl
instance akl:Cf cfg 155 V4:=⟨ad6⟩
instance akm:Zf cfg 155:=⟨rfl⟩
theorem c156:cfg.fc 156=V5:=rfl
instance akn:Cf cfg 156 V5:=⟨c156⟩
instance ako:Zf cfg 156:=⟨rfl⟩
theorem Zl:cfg.fc 158=V6:=rfl
instance akp:Cf cfg 158 V6:=⟨Zl⟩
instance akq:Zf cfg 158:=⟨rfl⟩
theorem afn:(cfg.fc 158).frz=[]:=rfl
theorem c159:cfg.fc 159=V7:=rfl
instance akr:Cf cfg 159 V7:=⟨c159⟩
instance aks:Zf cfg 159:=⟨rfl⟩
theorem c160:cfg.fc 160=V8:=rfl
instance akt:Cf cfg 160 V8:=⟨c160⟩
instance aku:Zf cfg 160:=⟨rfl⟩
theorem Uz:cfg.fc 161=V9:=rfl
instance akv:Cf cfg 161 V9:=⟨Uz⟩
instance akw:Zf cfg 161:=⟨rfl⟩
theorem ad7:(cfg.fc 161).frz=[]:=rfl
theorem c162:cfg.fc 162=We:=rfl
instance akx:Cf cfg 162 We:=⟨c162⟩
instance aky:Zf cfg 162:=⟨rfl⟩
theorem z162:(cfg.fc 162).frz=[]:=rfl
theorem ahm:cfg.fc 163=Wh:=rfl
instance akz:Cf cfg 163 Wh:=⟨ahm⟩
instance akA:Zf cfg 163:=⟨rfl⟩
theorem c164:cfg.fc 164=Wi:=rfl
instance akB:Cf cfg 164 Wi:=⟨c164⟩
instance akC:Zf cfg 164:=⟨rfl⟩
theorem ahn:cfg.fc 165=Wj:=rfl
instance akD:Cf cfg 165 Wj:=⟨ahn⟩
instance akE:Zf cfg 165:=⟨rfl⟩
theorem c182:cfg.fc 182=Wl:=rfl
instance akF:Cf cfg 182 Wl:=⟨c182⟩
instance akG:Zf cfg 182:=⟨rfl⟩
theorem aho:cfg.fc 189=Wn:=rfl
instance akH:Cf cfg 189 Wn:=⟨aho⟩
instance akI:Zf cfg 189:=⟨rfl⟩
theorem afo:cfg.fc 190=Wp:=rfl
instance akJ:Cf cfg 190 Wp:=⟨afo⟩
instance akK:Zf cfg 190:=⟨rfl⟩
theorem Tn:(cfg.fc 190).frz=[]:=rfl
theorem afp:cfg.fc 191=Wq:=rfl
instance akL:Cf cfg 191 Wq:=⟨afp⟩
instance akM:Zf cfg 191:=⟨rfl⟩
theorem ahp:cfg.fc 192=Ws:=rfl
instance akN:Cf cfg 192 Ws:=⟨ahp⟩
instance akO:Zf cfg 192:=⟨rfl⟩
theorem c193:cfg.fc 193=Wu:=rfl
instance akP:Cf cfg 193 Wu:=⟨c193⟩
instance akQ:Zf cfg 193:=⟨rfl⟩
theorem z193:(cfg.fc 193).frz=[]:=rfl
theorem abU:cfg.fc 195=Wv:=rfl
instance akR:Cf cfg 195 Wv:=⟨abU⟩
instance akS:Zf cfg 195:=⟨rfl⟩
theorem c196:cfg.fc 196=Wx:=rfl
instance akT:Cf cfg 196 Wx:=⟨c196⟩
instance akU:Zf cfg 196:=⟨rfl⟩
theorem z196:(cfg.fc 196).frz=[]:=rfl
theorem ad8:cfg.fc 197=Wy:=rfl
instance akV:Cf cfg 197 Wy:=⟨ad8⟩
instance akW:Zf cfg 197:=⟨rfl⟩
theorem c206:cfg.fc 206=WA:=rfl
instance akX:Cf cfg 206 WA:=⟨c206⟩
instance akY:Zf cfg 206:=⟨rfl⟩
theorem ahq:cfg.fc 207=WB:=rfl
instance akZ:Cf cfg 207 WB:=⟨ahq⟩
instance ak0:Zf cfg 207:=⟨rfl⟩
noncomputable abbrev Pg:=Try.prog
theorem afq:zU Pg 104=some ([.nil,z0,.nil,z0,.nil,.im 0 (.sc (.bool false)),.nil,z0,z0,z0],[(0,1),(1,1),(2,1),(3,1),(4,1),(5,1),(6,1),(7,1),(8,1),(9,1)]):=kr
theorem afr:zU Pg 136=some ([.nil,z0,.im 0 (.sc (.int .u64 0))],[(0,1),(1,1),(2,1)]):=kr
theorem EL:zU Pg 139=some ([z1,.nil],[(0,1),(1,1)]):=kr
theorem EM:zU Pg 145=some ([z0,z0],[(0,1),(1,1)]):=kr
theorem afs:zU Pg 155=some ([z0,z0],[(0,1),(1,1)]):=kr
theorem Zm:zU Pg 26=some ([z0,z0,.nil,.nil],[(0,1),(1,1),(2,1),(3,1)]):=kr
theorem ahr:zU Pg 43=some ([.nil,.nil],[(0,1),(1,1)]):=kr
theorem Zn:zU Pg 66=some ([z1,z0,z0],[(0,1),(1,1),(2,1)]):=kr
theorem ahs:zU Pg 99=some ([.nil,.nil,z0,z0,z0,.nil,.im 0 (.sc (.bool false))],[(0,1),(1,1),(2,1),(3,1),(4,1),(5,1),(6,1)]):=kr
theorem afu:sN Pg 152=some (155,2):=kr
theorem afv:sN Pg 175=some (9,1):=kr
theorem abV:sN Pg 23=some (145,2):=kr
theorem QM:sN Pg 28=some (2,1):=kr
theorem afw:sN Pg 36=some (66,3):=kr
theorem ad9:sN Pg 80=some (28,1):=kr
theorem QN:iP Pg 104 0=some 0:=kr
theorem abW:iP Pg 104 1=some 1:=kr
theorem WC:iP Pg 104 2=some 2:=kr
theorem abX:iP Pg 104 3=some 3:=kr
theorem yG:iP Pg 104 4=some 4:=kr
theorem abY:iP Pg 104 5=some 5:=kr
theorem WE:iP Pg 104 6=some 6:=kr
theorem LG:iP Pg 104 7=some 7:=kr
theorem LH:iP Pg 104 8=some 8:=kr
theorem abZ:iP Pg 104 9=some 9:=kr
theorem QO:iP Pg 136 0=some 0:=kr
theorem Jf:iP Pg 136 1=some 1:=kr
theorem QS:iP Pg 136 2=some 2:=kr
theorem zF:iP Pg 139 0=some 0:=kr
theorem pJ:iP Pg 139 1=some 1:=kr
theorem gG:iP Pg 145 0=some 0:=kr
theorem jb:iP Pg 145 1=some 1:=kr
theorem H7:iP Pg 26 0=some 0:=kr
theorem JL:iP Pg 26 1=some 1:=kr
theorem mD:iP Pg 26 2=some 2:=kr
theorem gU:iP Pg 26 3=some 3:=kr
theorem JM:iP Pg 43 0=some 0:=kr
theorem JO:iP Pg 43 1=some 1:=kr
theorem Zo:iP Pg 66 0=some 0:=kr
theorem y7:iP Pg 66 1=some 1:=kr
theorem H8:iP Pg 66 2=some 2:=kr
theorem Zp:iP Pg 99 0=some 0:=kr
theorem Zq:iP Pg 99 1=some 1:=kr
theorem aea:iP Pg 99 2=some 2:=kr
theorem QT:iP Pg 99 3=some 3:=kr
theorem Nv:iP Pg 99 4=some 4:=kr
theorem Zr:iP Pg 99 5=some 5:=kr
theorem aeb:iP Pg 99 6=some 6:=kr
theorem Ot:bz Pg cfg 100 0 [152,157]=[(.cst false,[some 2]),(.cst false,[none])]:=kr
theorem Ou:bz Pg cfg 101 0 [155,0,0]=[(.cst false,[none,none]),(.cst false,[none]),(.cst false,[none])]:=kr
theorem Ov:bz Pg cfg 102 0 [152,155]=[(.cst false,[some 2]),(.cst false,[none,none])]:=kr
theorem eF:bz Pg cfg 106 0 [74,2]=[(.ptr [.imm,.imm,.imm],[none]),(.cst false,[none])]:=kr
theorem Zt:bz Pg cfg 107 0 [74]=[(.ptr [.imm,.imm,.imm],[none])]:=kr
theorem Tq:bz Pg cfg 108 0 [36]=[(.cst false,[some 3])]:=kr
theorem KG:bz Pg cfg 109 0 [95,28]=[(.ptr [.imm,.imm,.imm,.imm,.imm,.sh,.imm],[none]),(.mv,[some 1])]:=kr
theorem Nw:bz Pg cfg 110 0 [36]=[(.cst false,[some 3])]:=kr
theorem Zu:bz Pg cfg 111 0 [78]=[(.cut 4,[none])]:=kr
theorem Py:bz Pg cfg 112 0 [100]=[(.ptr [.imm,.imm,.imm,.imm,.sh,.imm,.sh,.imm,.imm,.imm],[none])]:=kr
theorem XM:bz Pg cfg 113 0 [2,0]=[(.cst false,[none]),(.cst false,[none])]:=kr
theorem UA:bz Pg cfg 114 0 [28,2]=[(.cst false,[some 1]),(.cst false,[none])]:=kr
theorem BV:bz Pg cfg 115 0 [74,28]=[(.ptr [.imm,.imm,.imm],[none]),(.cst false,[some 1])]:=kr
theorem Zv:bz Pg cfg 116 0 [74]=[(.ptr [.imm,.imm,.imm],[none])]:=kr
theorem Zw:bz Pg cfg 118 0 [36]=[(.cst false,[some 3])]:=kr
theorem Zx:bz Pg cfg 119 0 [28]=[(.cst false,[some 1])]:=kr
theorem XN:bz Pg cfg 121 0 [2,2]=[(.cst false,[none]),(.cst false,[none])]:=kr
theorem Zy:bz Pg cfg 129 0 [66]=[(.cst false,[none,none,none])]:=kr
theorem ab1:bz Pg cfg 134 0 [9]=[(.cst false,[none])]:=kr
theorem Zz:bz Pg cfg 135 0 []=[]:=kr
theorem ab2:bz Pg cfg 136 0 [2]=[(.cst false,[none])]:=kr
theorem vS:bz Pg cfg 137 0 [2,2]=[(.cst false,[none]),(.cst false,[none])]:=kr
theorem XO:bz Pg cfg 138 0 [2,2]=[(.cst false,[none]),(.cst false,[none])]:=kr
theorem WG:bz Pg cfg 143 0 [5]=[(.cst false,[none])]:=kr
theorem ab3:bz Pg cfg 144 0 [5]=[(.cst false,[none])]:=kr
theorem XP:bz Pg cfg 145 0 [145]=[(.cst false,[none,none])]:=kr
theorem lW:bz Pg cfg 146 0 [145,145,145]=[(.cst false,[none,none]),(.cst false,[none,none]),(.cst false,[none,none])]:=kr
theorem ER:bz Pg cfg 147 0 [145,145,145,145]=[(.cst false,[none,none]),(.cst false,[none,none]),(.cst false,[none,none]),(.cst false,[none,none])]:=kr
theorem ZA:bz Pg cfg 148 0 [23]=[(.cst false,[some 2])]:=kr
theorem Jg:bz Pg cfg 149 0 [2]=[(.cst false,[none])]:=kr
theorem UB:bz Pg cfg 14 0 [22,22]=[(.cst false,[some 1]),(.cst false,[some 1])]:=kr
theorem QU:bz Pg cfg 150 0 [23,145]=[(.cst false,[some 2]),(.cst false,[none,none])]:=kr
theorem ZB:bz Pg cfg 151 0 [23]=[(.cst false,[some 2])]:=kr
theorem lX:bz Pg cfg 152 0 [145,145,145]=[(.cst false,[none,none]),(.cst false,[none,none]),(.cst false,[none,none])]:=kr
theorem ES:bz Pg cfg 153 0 [145,145,145,145]=[(.cst false,[none,none]),(.cst false,[none,none]),(.cst false,[none,none]),(.cst false,[none,none])]:=kr
theorem ZC:bz Pg cfg 154 0 [23]=[(.cst false,[some 2])]:=kr
theorem Ox:bz Pg cfg 155 0 [152,157]=[(.cst false,[some 2]),(.cst false,[none])]:=kr
theorem Oy:bz Pg cfg 156 0 [152,155]=[(.cst false,[some 2]),(.cst false,[none,none])]:=kr
theorem Tt:bz Pg cfg 158 0 [74]=[(.ptr [.imm,.imm,.imm],[none])]:=kr
theorem UC:bz Pg cfg 159 0 []=[]:=kr
theorem ab4:bz Pg cfg 15 0 [22]=[(.cst false,[some 1])]:=kr
theorem vT:bz Pg cfg 160 0 [2,2]=[(.cst false,[none]),(.cst false,[none])]:=kr
theorem UD:bz Pg cfg 161 0 [78,2]=[(.cut 4,[none]),(.cst false,[none])]:=kr
theorem XQ:bz Pg cfg 162 0 [100]=[(.cut 10,[none])]:=kr
theorem QV:bz Pg cfg 163 0 [74,175]=[(.ptr [.imm,.imm,.imm],[none]),(.cst false,[some 1])]:=kr
theorem QW:bz Pg cfg 164 0 [36,177]=[(.cst false,[some 3]),(.cst false,[none])]:=kr
theorem ZE:bz Pg cfg 165 0 [66]=[(.cst false,[none,none,none])]:=kr
theorem Tu:bz Pg cfg 16 0 [22,2,2]=[(.cst false,[some 1]),(.cst false,[none]),(.cst false,[none])]:=kr
theorem Ny:bz Pg cfg 17 0 [26,36,2,2]=[(.cst false,[none,none,some 2,some 2]),(.cst false,[some 3]),(.cst false,[none]),(.cst false,[none])]:=kr
theorem ab5:bz Pg cfg 182 0 [9]=[(.cst false,[none])]:=kr
theorem iL:bz Pg cfg 189 0 [145,145,145]=[(.cst false,[none,none]),(.cst false,[none,none]),(.cst false,[none,none])]:=kr
theorem Nz:bz Pg cfg 18 0 [26,36,2,2]=[(.cst false,[none,none,some 2,some 2]),(.cst false,[some 3]),(.cst false,[none]),(.cst false,[none])]:=kr
theorem ET:bz Pg cfg 190 0 [145,145,145,145]=[(.cst false,[none,none]),(.cst false,[none,none]),(.cst false,[none,none]),(.cst false,[none,none])]:=kr
theorem XR:bz Pg cfg 191 0 [145]=[(.cst false,[none,none])]:=kr
theorem jW:bz Pg cfg 192 0 [145,145,145]=[(.cst false,[none,none]),(.cst false,[none,none]),(.cst false,[none,none])]:=kr
theorem EU:bz Pg cfg 193 0 [145,145,145,145]=[(.cst false,[none,none]),(.cst false,[none,none]),(.cst false,[none,none]),(.cst false,[none,none])]:=kr
theorem QX:bz Pg cfg 195 0 [28,2,2]=[(.cst false,[some 1]),(.cst false,[none]),(.cst false,[none])]:=kr
theorem QY:bz Pg cfg 196 0 [36,2,2]=[(.cst false,[some 3]),(.cst false,[none]),(.cst false,[none])]:=kr
theorem QZ:bz Pg cfg 197 0 [36,177]=[(.cst false,[some 3]),(.cst false,[none])]:=kr
theorem NC:bz Pg cfg 19 0 [26,36,2,2]=[(.cst false,[none,none,some 2,some 2]),(.cst false,[some 3]),(.cst false,[none]),(.cst false,[none])]:=kr
theorem ab6:bz Pg cfg 206 0 [9]=[(.cst false,[none])]:=kr
theorem Jh:bz Pg cfg 207 0 [145,145,145]=[(.cst false,[none,none]),(.cst false,[none,none]),(.cst false,[none,none])]:=kr
theorem UE:bz Pg cfg 20 0 [26,43]=[(.cst false,[none,none,some 2,some 2]),(.cst false,[some 3,some 1])]:=kr
theorem ab7:bz Pg cfg 21 0 [43]=[(.cst false,[some 3,some 1])]:=kr
theorem WH:bz Pg cfg 39 0 [22]=[(.cst false,[some 1])]:=kr
theorem ab8:bz Pg cfg 40 0 [74]=[(.ptr [.imm,.imm,.imm],[none])]:=kr
theorem WI:bz Pg cfg 41 0 [78]=[(.cut 4,[none])]:=kr
theorem WJ:bz Pg cfg 42 0 [74]=[(.ptr [.imm,.imm,.imm],[none])]:=kr
theorem WL:bz Pg cfg 43 0 [26]=[(.cst false,[none,none,some 2,some 2])]:=kr
theorem UF:bz Pg cfg 46 0 [28,86]=[(.cst false,[some 1]),(.cst false,[none])]:=kr
theorem WM:bz Pg cfg 49 0 [26]=[(.cst false,[none,none,some 2,some 2])]:=kr
theorem ab9:bz Pg cfg 53 0 [74]=[(.ptr [.imm,.imm,.imm],[none])]:=kr
theorem DF:bz Pg cfg 54 0 [26,36,2,2,4]=[(.cst false,[none,none,some 2,some 2]),(.cst false,[some 3]),(.cst false,[none]),(.cst false,[none]),(.cst false,[none])]:=kr
theorem JP:bz Pg cfg 55 0 [78,36,2,2,4]=[(.cut 4,[none]),(.cst false,[some 3]),(.cst false,[none]),(.cst false,[none]),(.cst false,[none])]:=kr
theorem WN:bz Pg cfg 56 0 [28]=[(.cst false,[some 1])]:=kr
theorem acd:bz Pg cfg 57 0 [43]=[(.cst false,[some 3,some 1])]:=kr
theorem WO:bz Pg cfg 58 0 [36]=[(.cst false,[some 3])]:=kr
theorem ZF:bz Pg cfg 59 0 [108]=[(.cut 2,[none])]:=kr
theorem ace:bz Pg cfg 60 0 [74]=[(.ptr [.imm,.imm,.imm],[none])]:=kr
theorem fO:bz Pg cfg 66 0 [2,2,2]=[(.cst false,[none]),(.cst false,[none]),(.cst false,[none])]:=kr
theorem UG:bz Pg cfg 67 0 [66,66]=[(.cst false,[none,none,none]),(.cst false,[none,none,none])]:=kr
theorem ZG:bz Pg cfg 79 0 [129]=[(.cut 3,[none])]:=kr
theorem aec:bz Pg cfg 7 0 [22]=[(.cst false,[some 1])]:=kr
theorem Q3:bz Pg cfg 80 0 [129,129]=[(.cut 3,[none]),(.cut 3,[none])]:=kr
theorem DI:bz Pg cfg 83 0 [74,2]=[(.ptr [.imm,.imm,.imm],[none]),(.cst false,[none])]:=kr
theorem acf:bz Pg cfg 84 0 [74]=[(.ptr [.imm,.imm,.imm],[none])]:=kr
theorem iU:bz Pg cfg 85 0 [2,2,2]=[(.cst false,[none]),(.cst false,[none]),(.cst false,[none])]:=kr
theorem acg:bz Pg cfg 86 0 [78]=[(.cut 4,[none])]:=kr
theorem UH:bz Pg cfg 87 0 [9]=[(.cst false,[none])]:=kr
theorem UI:bz Pg cfg 88 0 [78,28]=[(.cut 4,[none]),(.cst false,[some 1])]:=kr
theorem ach:bz Pg cfg 89 0 [23]=[(.cst false,[some 2])]:=kr
theorem aci:bz Pg cfg 90 0 [74]=[(.ptr [.imm,.imm,.imm],[none])]:=kr
theorem UJ:bz Pg cfg 91 0 [74,26]=[(.ptr [.imm,.imm,.imm],[none]),(.mvs,[none,none,some 2,some 2])]:=kr
theorem Tv:bz Pg cfg 92 0 [23,145]=[(.cst false,[some 2]),(.cst false,[none,none])]:=kr
theorem UK:bz Pg cfg 93 0 [9]=[(.cst false,[none])]:=kr
theorem UL:bz Pg cfg 94 0 [23,28]=[(.cst false,[some 2]),(.cst false,[some 1])]:=kr
theorem acj:bz Pg cfg 95 0 [23]=[(.cst false,[some 2])]:=kr
theorem UM:bz Pg cfg 98 0 [28,86]=[(.cst false,[some 1]),(.cst false,[none])]:=kr
theorem ack:bz Pg cfg 99 0 [28]=[(.cst false,[some 1])]:=kr
theorem Q4:∀(a0:Int) (a1:Int) (b0:Int) (b1:Int),LM Pg 145 .eql [.int .i64 a0,.int .i64 a1] [.int .i64 b0,.int .i64 b1]=some (.bool ((a0==b0)&&(a1==b1))):=by intros;kernel_rfl
theorem aed:∀(a0:Int) (a1:Int) (b0:Int) (b1:Int),LM Pg 155 .eql [.int .i64 a0,.int .i64 a1] [.int .i64 b0,.int .i64 b1]=some (.bool ((a0==b0)&&(a1==b1))):=by intros;kernel_rfl
theorem afx:dJ Pg (Try.f100.results.toList.zip Try.f100.resultTypes.toList)=[(.tmp 4,[none],none)]:=kr
theorem afy:dJ Pg (Try.f101.results.toList.zip Try.f101.resultTypes.toList)=[(.tmp 4,[none],none)]:=kr
theorem afz:dJ Pg (Try.f102.results.toList.zip Try.f102.resultTypes.toList)=[(.tmp 4,[none],none)]:=kr
theorem ac3:dJ Pg (Try.f106.results.toList.zip Try.f106.resultTypes.toList)=[(.tmp 4,[none],none)]:=kr
theorem afA:dJ Pg (Try.f107.results.toList.zip Try.f107.resultTypes.toList)=[(.cell 2 66,[none,none,none],some (true,3))]:=kr
theorem afB:dJ Pg (Try.f108.results.toList.zip Try.f108.resultTypes.toList)=[(.tmp 2,[none],none)]:=kr
theorem WQ:dJ Pg (Try.f109.results.toList.zip Try.f109.resultTypes.toList)=[(.tmp 4,[none],none)]:=kr
theorem ac4:dJ Pg (Try.f110.results.toList.zip Try.f110.resultTypes.toList)=[(.tmp 2,[none],none)]:=kr
theorem afC:dJ Pg (Try.f111.results.toList.zip Try.f111.resultTypes.toList)=[(.tmp 2,[some 1],none)]:=kr
theorem WR:dJ Pg (Try.f112.results.toList.zip Try.f112.resultTypes.toList)=[(.tmp 2,[none],none)]:=kr
theorem afD:dJ Pg (Try.f113.results.toList.zip Try.f113.resultTypes.toList)=[(.tmp 3,[none],none)]:=kr
theorem ac5:dJ Pg (Try.f114.results.toList.zip Try.f114.resultTypes.toList)=[(.tmp 4,[none],none)]:=kr
theorem afE:dJ Pg (Try.f115.results.toList.zip Try.f115.resultTypes.toList)=[(.tmp 4,[none],none)]:=kr
theorem afF:dJ Pg (Try.f116.results.toList.zip Try.f116.resultTypes.toList)=[(.tmp 2,[none],none)]:=kr
theorem afG:dJ Pg (Try.f118.results.toList.zip Try.f118.resultTypes.toList)=[(.tmp 2,[none],none)]:=kr
theorem afH:dJ Pg (Try.f119.results.toList.zip Try.f119.resultTypes.toList)=[(.tmp 2,[some 1],none)]:=kr
theorem ac6:dJ Pg (Try.f121.results.toList.zip Try.f121.resultTypes.toList)=[(.tmp 4,[none],none),(.tmp 5,[none],none)]:=kr
theorem afI:dJ Pg (Try.f129.results.toList.zip Try.f129.resultTypes.toList)=[(.tmp 2,[none],none)]:=kr
theorem ac7:dJ Pg (Try.f134.results.toList.zip Try.f134.resultTypes.toList)=[(.tmp 2,[none],none)]:=kr
theorem afJ:dJ Pg (Try.f135.results.toList.zip Try.f135.resultTypes.toList)=[(.tmp 0,[some 1],none)]:=kr
theorem afK:dJ Pg (Try.f136.results.toList.zip Try.f136.resultTypes.toList)=[(.tmp 2,[none],none)]:=kr
theorem ac8:dJ Pg (Try.f137.results.toList.zip Try.f137.resultTypes.toList)=[(.tmp 4,[none],none)]:=kr
theorem afL:dJ Pg (Try.f138.results.toList.zip Try.f138.resultTypes.toList)=[(.tmp 4,[none],none)]:=kr
theorem aht:dJ Pg (Try.f14.results.toList.zip Try.f14.resultTypes.toList)=[(.tmp 4,[none],none)]:=kr
theorem afM:dJ Pg (Try.f143.results.toList.zip Try.f143.resultTypes.toList)=[(.tmp 2,[none],none)]:=kr
theorem afN:dJ Pg (Try.f144.results.toList.zip Try.f144.resultTypes.toList)=[(.tmp 2,[none],none)]:=kr
theorem afO:dJ Pg (Try.f145.results.toList.zip Try.f145.resultTypes.toList)=[(.tmp 2,[none],none)]:=kr
theorem afP:dJ Pg (Try.f146.results.toList.zip Try.f146.resultTypes.toList)=[(.tmp 6,[none],none)]:=kr
theorem afQ:dJ Pg (Try.f147.results.toList.zip Try.f147.resultTypes.toList)=[(.tmp 8,[none],none)]:=kr
theorem afR:dJ Pg (Try.f148.results.toList.zip Try.f148.resultTypes.toList)=[(.tmp 2,[none],none)]:=kr
theorem ac9:dJ Pg (Try.f149.results.toList.zip Try.f149.resultTypes.toList)=[(.tmp 2,[none],none)]:=kr
theorem ahu:dJ Pg (Try.f15.results.toList.zip Try.f15.resultTypes.toList)=[(.tmp 2,[some 3],none)]:=kr
theorem ada:dJ Pg (Try.f150.results.toList.zip Try.f150.resultTypes.toList)=[(.tmp 4,[none],none)]:=kr
theorem adb:dJ Pg (Try.f151.results.toList.zip Try.f151.resultTypes.toList)=[(.tmp 2,[none],none)]:=kr
theorem afS:dJ Pg (Try.f152.results.toList.zip Try.f152.resultTypes.toList)=[(.tmp 6,[none],none)]:=kr
theorem afT:dJ Pg (Try.f153.results.toList.zip Try.f153.resultTypes.toList)=[(.tmp 8,[none],none)]:=kr
theorem afU:dJ Pg (Try.f154.results.toList.zip Try.f154.resultTypes.toList)=[(.tmp 2,[none],none)]:=kr
theorem ade:dJ Pg (Try.f155.results.toList.zip Try.f155.resultTypes.toList)=[(.tmp 4,[none],none)]:=kr
theorem adf:dJ Pg (Try.f156.results.toList.zip Try.f156.resultTypes.toList)=[(.tmp 4,[none],none)]:=kr
theorem adg:dJ Pg (Try.f158.results.toList.zip Try.f158.resultTypes.toList)=[(.tmp 2,[none],none)]:=kr
theorem afV:dJ Pg (Try.f159.results.toList.zip Try.f159.resultTypes.toList)=[(.tmp 0,[some 1],none)]:=kr
theorem afW:dJ Pg (Try.f16.results.toList.zip Try.f16.resultTypes.toList)=[(.tmp 6,[none],none)]:=kr
theorem adh:dJ Pg (Try.f160.results.toList.zip Try.f160.resultTypes.toList)=[(.tmp 4,[none],none)]:=kr
theorem afX:dJ Pg (Try.f161.results.toList.zip Try.f161.resultTypes.toList)=[(.tmp 4,[some 1],none)]:=kr
theorem adi:dJ Pg (Try.f162.results.toList.zip Try.f162.resultTypes.toList)=[(.tmp 2,[none],none)]:=kr
theorem afY:dJ Pg (Try.f163.results.toList.zip Try.f163.resultTypes.toList)=[(.tmp 4,[none],none)]:=kr
theorem afZ:dJ Pg (Try.f164.results.toList.zip Try.f164.resultTypes.toList)=[(.tmp 4,[none],none)]:=kr
theorem af0:dJ Pg (Try.f165.results.toList.zip Try.f165.resultTypes.toList)=[(.tmp 2,[none],none)]:=kr
theorem af1:dJ Pg (Try.f17.results.toList.zip Try.f17.resultTypes.toList)=[(.tmp 8,[some 1],none),(.tmp 9,[none],none)]:=kr
theorem aee:dJ Pg (Try.f18.results.toList.zip Try.f18.resultTypes.toList)=[(.tmp 8,[some 1],none),(.tmp 9,[none],none)]:=kr
theorem af2:dJ Pg (Try.f182.results.toList.zip Try.f182.resultTypes.toList)=[(.tmp 2,[none],none),(.tmp 3,[none],none)]:=kr
theorem ZH:dJ Pg (Try.f189.results.toList.zip Try.f189.resultTypes.toList)=[(.tmp 6,[none],none)]:=kr
theorem af4:dJ Pg (Try.f19.results.toList.zip Try.f19.resultTypes.toList)=[(.tmp 8,[none],none),(.tmp 9,[none],none)]:=kr
theorem af5:dJ Pg (Try.f190.results.toList.zip Try.f190.resultTypes.toList)=[(.tmp 8,[none],none)]:=kr
theorem af6:dJ Pg (Try.f191.results.toList.zip Try.f191.resultTypes.toList)=[(.tmp 2,[none],none)]:=kr
theorem ZI:dJ Pg (Try.f192.results.toList.zip Try.f192.resultTypes.toList)=[(.tmp 6,[none],none)]:=kr
theorem af7:dJ Pg (Try.f193.results.toList.zip Try.f193.resultTypes.toList)=[(.tmp 8,[none],none)]:=kr
theorem adk:dJ Pg (Try.f195.results.toList.zip Try.f195.resultTypes.toList)=[(.tmp 6,[none],none)]:=kr
theorem af8:dJ Pg (Try.f196.results.toList.zip Try.f196.resultTypes.toList)=[(.tmp 6,[none],none)]:=kr
theorem adl:dJ Pg (Try.f197.results.toList.zip Try.f197.resultTypes.toList)=[(.tmp 4,[none],none)]:=kr
theorem acm:dJ Pg (Try.f20.results.toList.zip Try.f20.resultTypes.toList)=[(.tmp 4,[none],none),(.tmp 5,[none],none)]:=kr
theorem FO:dJ Pg (Try.f206.results.toList.zip Try.f206.resultTypes.toList)=[(.tmp 2,[none],none),(.tmp 3,[none],none),(.tmp 4,[none],none),(.tmp 5,[none],none)]:=kr
theorem af9:dJ Pg (Try.f207.results.toList.zip Try.f207.resultTypes.toList)=[(.tmp 6,[none],none)]:=kr
theorem ahv:dJ Pg (Try.f21.results.toList.zip Try.f21.resultTypes.toList)=[(.tmp 2,[none],none)]:=kr
theorem ahw:dJ Pg (Try.f39.results.toList.zip Try.f39.resultTypes.toList)=[(.tmp 2,[none],none)]:=kr
theorem rF4:dJ Pg (Try.f4.results.toList.zip Try.f4.resultTypes.toList)=[(.tmp 4,[none],none)]:=kr
theorem aga:dJ Pg (Try.f40.results.toList.zip Try.f40.resultTypes.toList)=[(.cell 2 26,[none,none,some 2,some 2],some (true,4))]:=kr
theorem acn:dJ Pg (Try.f41.results.toList.zip Try.f41.resultTypes.toList)=[(.tmp 2,[none],none)]:=kr
theorem ahx:dJ Pg (Try.f42.results.toList.zip Try.f42.resultTypes.toList)=[(.cell 2 26,[none,none,some 2,some 2],some (true,4))]:=kr
theorem ZJ:dJ Pg (Try.f43.results.toList.zip Try.f43.resultTypes.toList)=[(.tmp 2,[none],none)]:=kr
theorem ahy:dJ Pg (Try.f46.results.toList.zip Try.f46.resultTypes.toList)=[(.tmp 4,[none],none)]:=kr
theorem ahz:dJ Pg (Try.f49.results.toList.zip Try.f49.resultTypes.toList)=[(.tmp 2,[some 1],none)]:=kr
theorem ahA:dJ Pg (Try.f53.results.toList.zip Try.f53.resultTypes.toList)=[(.tmp 2,[some 3],none)]:=kr
theorem aco:dJ Pg (Try.f54.results.toList.zip Try.f54.resultTypes.toList)=[(.tmp 10,[none],none),(.tmp 11,[none],none)]:=kr
theorem acp:dJ Pg (Try.f55.results.toList.zip Try.f55.resultTypes.toList)=[(.tmp 10,[none],none),(.tmp 11,[none],none)]:=kr
theorem ahB:dJ Pg (Try.f56.results.toList.zip Try.f56.resultTypes.toList)=[(.tmp 2,[some 1],none)]:=kr
theorem agb:dJ Pg (Try.f57.results.toList.zip Try.f57.resultTypes.toList)=[(.tmp 2,[none],none)]:=kr
theorem ahC:dJ Pg (Try.f58.results.toList.zip Try.f58.resultTypes.toList)=[(.tmp 2,[some 1],none)]:=kr
theorem ahD:dJ Pg (Try.f59.results.toList.zip Try.f59.resultTypes.toList)=[(.tmp 2,[none],none)]:=kr
theorem ahE:dJ Pg (Try.f60.results.toList.zip Try.f60.resultTypes.toList)=[(.cell 2 26,[none,none,some 2,some 2],some (true,4))]:=kr
theorem ahF:dJ Pg (Try.f66.results.toList.zip Try.f66.resultTypes.toList)=[(.tmp 6,[none],none)]:=kr
theorem ahG:dJ Pg (Try.f67.results.toList.zip Try.f67.resultTypes.toList)=[(.tmp 4,[none],none)]:=kr
theorem rF7:dJ Pg (Try.f7.results.toList.zip Try.f7.resultTypes.toList)=[(.cell 2 26,[none,none,some 2,some 2],some (true,4))]:=kr
theorem agc:dJ Pg (Try.f79.results.toList.zip Try.f79.resultTypes.toList)=[(.tmp 2,[none],none)]:=kr
theorem ahH:dJ Pg (Try.f80.results.toList.zip Try.f80.resultTypes.toList)=[(.tmp 4,[none],none)]:=kr
theorem ahI:dJ Pg (Try.f83.results.toList.zip Try.f83.resultTypes.toList)=[(.tmp 4,[none],none)]:=kr
theorem ahJ:dJ Pg (Try.f84.results.toList.zip Try.f84.resultTypes.toList)=[(.cell 2 26,[none,none,some 2,some 2],some (true,4))]:=kr
theorem ahK:dJ Pg (Try.f85.results.toList.zip Try.f85.resultTypes.toList)=[(.tmp 6,[none],none)]:=kr
theorem acr:dJ Pg (Try.f86.results.toList.zip Try.f86.resultTypes.toList)=[(.tmp 2,[none],none)]:=kr
theorem aef:dJ Pg (Try.f87.results.toList.zip Try.f87.resultTypes.toList)=[(.tmp 2,[none],none)]:=kr
theorem agd:dJ Pg (Try.f88.results.toList.zip Try.f88.resultTypes.toList)=[(.tmp 4,[some 2],none),(.tmp 5,[none],none)]:=kr
theorem ZK:dJ Pg (Try.f89.results.toList.zip Try.f89.resultTypes.toList)=[(.tmp 2,[none],none)]:=kr
theorem ahL:dJ Pg (Try.f90.results.toList.zip Try.f90.resultTypes.toList)=[(.cell 2 26,[none,none,some 2,some 2],some (true,4))]:=kr
theorem ahM:dJ Pg (Try.f91.results.toList.zip Try.f91.resultTypes.toList)=[(.cell 4 26,[none,none,some 2,some 2],some (true,4))]:=kr
theorem ahN:dJ Pg (Try.f92.results.toList.zip Try.f92.resultTypes.toList)=[(.tmp 4,[none],none)]:=kr
theorem aeg:dJ Pg (Try.f93.results.toList.zip Try.f93.resultTypes.toList)=[(.tmp 2,[none],none)]:=kr
theorem age:dJ Pg (Try.f94.results.toList.zip Try.f94.resultTypes.toList)=[(.tmp 4,[some 2],none),(.tmp 5,[none],none)]:=kr
theorem acs:dJ Pg (Try.f95.results.toList.zip Try.f95.resultTypes.toList)=[(.tmp 2,[none],none)]:=kr
theorem agf:dJ Pg (Try.f98.results.toList.zip Try.f98.resultTypes.toList)=[(.tmp 4,[none],none)]:=kr
theorem ahO:dJ Pg (Try.f99.results.toList.zip Try.f99.resultTypes.toList)=[(.tmp 2,[some 2],none)]:=kr
theorem Tz:jG Pg 151=some (152,1,[some 2],false,24,[.nil]):=kr
theorem TA:jG Pg 152=some (155,2,[none,none],true,16,[z0,z0]):=kr
theorem Pz:jG Pg 175=some (9,1,[none],false,16,[z1]):=kr
theorem KP:jG Pg 22=some (5,1,[none],false,1,[.im 0 (.sc (.int .u8 0))]):=kr
theorem pG:jG Pg 23=some (145,2,[none,none],true,16,[z0,z0]):=kr
theorem uF:jG Pg 24=some (139,2,[none,some 1],true,40,[z1,.nil]):=kr
theorem eX:jG Pg 28=some (2,1,[none],false,8,[z0]):=kr
theorem Q5:jG Pg 36=some (66,3,[none,none,none],true,32,[z1,z0,z0]):=kr
theorem JQ:jG Pg 80=some (28,1,[some 1],false,24,[.nil]):=kr
theorem agh:tyF Pg 104=some ([.nil,z0,.nil,z0,.nil,.im 0 (.sc (.bool false)),.nil,z0,z0,z0],[some 1,none,some 3,none,some 1,none,some 1,none,none,none],true,10):=kr
theorem ZL:tyF Pg 134=some ([.im 0 (.sc (.int .u64 0))],[none],false,1):=kr
theorem agi:tyF Pg 136=some ([.nil,z0,.im 0 (.sc (.int .u64 0))],[some 1,none,none],true,3):=kr
theorem GN:tyF Pg 139=some ([z1,.nil],[none,some 1],true,2):=kr
theorem aH:tyF Pg 145=some ([z0,z0],[none,none],true,2):=kr
theorem Ji:tyF Pg 151=some ([.nil],[some 1],false,1):=kr
theorem adm:tyF Pg 152=some ([.nil],[some 2],false,1):=kr
theorem KH:tyF Pg 155=some ([z0,z0],[none,none],true,2):=kr
theorem tF2:tyF Pg 2=some ([z0],[none],false,1):=kr
theorem aeh:tyF Pg 22=some ([.nil],[some 1],false,1):=kr
theorem y8:tyF Pg 23=some ([.nil],[some 2],false,1):=kr
theorem qw:tyF Pg 24=some ([.nil],[some 2],false,1):=kr
theorem jX:tyF Pg 26=some ([z0,z0,.nil,.nil],[none,none,some 2,some 2],true,4):=kr
theorem oz:tyF Pg 28=some ([.nil],[some 1],false,1):=kr
theorem tF3:tyF Pg 3=some ([z0],[none],false,1):=kr
theorem Q7:tyF Pg 36=some ([.nil],[some 3],false,1):=kr
theorem tF4:tyF Pg 4=some ([.im 0 (.sc (.bool false))],[none],false,1):=kr
theorem TB:tyF Pg 43=some ([.nil,.nil],[some 3,some 1],true,2):=kr
theorem tF5:tyF Pg 5=some ([.im 0 (.sc (.int .u8 0))],[none],false,1):=kr
theorem zG:tyF Pg 66=some ([z1,z0,z0],[none,none,none],true,3):=kr
theorem ZM:tyF Pg 80=some ([.nil],[some 1],false,1):=kr
theorem tF9:tyF Pg 9=some ([z1],[none],false,1):=kr
theorem ahP:tyF Pg 99=some ([.nil,.nil,z0,z0,z0,.nil,.im 0 (.sc (.bool false))],[some 1,some 1,none,none,none,some 1,none],true,7):=kr
theorem adn:Pg.underlying 134=some (.int .u64):=kr
theorem WS:Pg.underlying 151=some (.slice 152):=kr
theorem ZN:Pg.underlying 152=some (.slice 155):=kr
theorem ado:Pg.underlying 175=some (.slice 9):=kr
theorem uF2:Pg.underlying 2=some (.int .i64):=kr
theorem ND:Pg.underlying 22=some (.slice 5):=kr
theorem Bh:Pg.underlying 23=some (.slice 145):=kr
theorem Eo:Pg.underlying 24=some (.slice 139):=kr
theorem uG:Pg.underlying 28=some (.slice 2):=kr
theorem uF3:Pg.underlying 3=some (.int .i64):=kr
theorem Jj:Pg.underlying 36=some (.slice 66):=kr
theorem uF4:Pg.underlying 4=some .bool:=kr
theorem uF5:Pg.underlying 5=some (.int .u8):=kr
theorem acu:Pg.underlying 80=some (.slice 28):=kr
theorem uF9:Pg.underlying 9=some .string:=kr
abbrev FX (i:Nat) (a:List Arg) (r:Res×List Out):Prop:=FL Try.prog cfg i a=some r
theorem Oz {gW:(List Int)} {vZ:(List Int)} {r:Bool} (h:BM gW vZ=some r):FX 14 [.im 2 false [W 1 (eK .u8) gW],.im 2 false [W 1 (eK .u8) vZ]] (B0 [(false,[.im 0 (V r)])]):=by
 unfold BM at h
 refine gn 13 Try.func14 rfl ?_
 refine gs<|g0 j j (q (ah j j)<|nl)<|us<|gs<|gX c14 j j j (mk [(4,bv ((decide ((gW.length:Int) >1048576))||(decide ((vZ.length:Int) >1048576))))] []) ?_ ?_
 ·refine xq (oMv j j)<|xq (jd j j ND j)<|xq (oBi j j j j)<|xq (oMv j j)<|?_
  by_cases hc1:(gW.length:Int) >1048576
  ·exact au rfl rfl (ak.2 hc1) rfl<|au rfl rfl (ak.2 hc1) rfl<|au rfl rfl (ak.2 hc1) rfl<|xq (bQ rfl rfl (ak.2 hc1) rfl)<|xq (ah rfl rfl)<|xn (Eq.trans (b:=(fun H9:Bool=>mk [(4,bv H9)] []) true) (by kernel_rfl) (congrArg (fun H9:Bool=>mk [(4,bv H9)] []) (by first | rfl | (simp [(ak.2 hc1)];done) | (simp [(ak.2 hc1)];omega))))
  ·exact xqT rfl rfl (byF ak hc1) (oMv rfl rfl)<|xqT rfl rfl (byF ak hc1) (jd rfl rfl ND rfl)<|xqT rfl rfl (byF ak hc1) (oBi rfl rfl rfl rfl)<|xq (bV rfl rfl (byF ak hc1) rfl)<|xq (ah rfl rfl)<|xn (Eq.trans (b:=(fun H9:Bool=>mk [(4,bv H9)] []) (decide ((vZ.length:Int) >1048576))) (by kernel_rfl) (congrArg (fun H9:Bool=>mk [(4,bv H9)] []) (by first | rfl | (simp [(byF ak hc1)];done) | (simp [(byF ak hc1)];omega))))
 ·refine us<|Go.ret (Unw.ret ?_)
  cases h
  exact fr aht j
theorem FP {gW:(List Int)} {r:aC} (h:wo gW=some r):FX 39 [.im 2 false [W 1 (eK .u8) gW]] (B0 [(false,[.pt true [⟨.imm,2,W 1 (eK .u8) r.code⟩,⟨.imm,0,I r.at_⟩,⟨.imm,0,.sc (.int .u64 r.seed)⟩]])]):=by
 unfold wo at h
 refine gn 6 Try.func39 rfl ?_
 refine gs<|g0 j j (q (ah j j)<|nl)<|us<|gs<|g0 j j (q (oMv j j)<|q (oBu (cs:=[.im 2 _,.im 0 _,.im 0 _]) j afr j)<|q (oBx j agi j (tkI (tkI (tkI tk0))))<|q (Um j j)<|nl)<|us<|Go.ret (Unw.ret ?_)
 cases h
 exact fr ahw j
theorem Bi {s_0:aC} {r:(Int×aC)} (h:nC s_0=some r):FX 158 [.ptr true [(.imm,W 1 (eK .u8) s_0.code),(.imm,I s_0.at_),(.imm,.sc (.int .u64 s_0.seed))]] ([(false,[.im 0 (I r.1)])],[.ptr true [(.imm,W 1 (eK .u8) r.2.code),(.imm,I r.2.at_),(.imm,.sc (.int .u64 r.2.seed))]]):=by
 unfold nC at h
 refine sV (A:=[(0,M 0)]) (B:=[(0,Od (G 1 (aS s_0)))]) (nt:=62) rfl rfl Try.func158 rfl rfl rfl rfl ?_
 refine gs<|g0 j j (q (ah j j)<|nl)<|us<|gs<|g0 j j (q (ah j j)<|nl)<|us<|gs<|gs<|gd Zl j j j j (mk [(0,M 0),(3,iv 0),(13,bv (decide (s_0.at_< (s_0.code.length:Int))))] [(0,Od (G 1 (aS s_0)))]) (t j j (oMv j j)<|t j j (oNl j j j)<|t j j (oFA (r':=.mp 0 0 1) j Jf j j)<|t j j (oLd (cs:=[.im 0 _]) j tF3 j j)<|t j j (oMv j j)<|t j j (oNl j j j)<|t j j (oFA (r':=.mp 0 0 0) j QO j j)<|t j j (oLd (cs:=[.im 1 _]) j aeh j j)<|t j j (jd j j ND j)<|t j j (oBi j j j j)<|sD (by kernel_rfl))<|us<|Go.join (fun st=>∃xP,jZ s_0 xP=some r∧st.norm ([0,3],[0])=mk [(0,M 0),(3,iv xP)] [(0,Od (G 1 (aS s_0)))]) ?_ ?_
 ·rintro st ⟨xP,h,hst⟩
  unfold jZ at h
  refine us<|gs<|g2 Zl j j hst (q (oMv j j)<|q (oNl j j j)<|q (oFA (r':=.mp 0 0 1) j Jf j j)<|q (oLd (cs:=[.im 0 _]) j tF3 j j)<|q (oBi j j j j)<|q (oNl j j j)<|q (oFA (r':=.mp 0 0 1) j Jf j j)<|q (oSt tF3 j j j (tkI tk0) j j j)<|nl)<|us<|gs<|g1 j j (mk [(0,M 0),(3,iv xP)] [(0,Od [Ct 1 (W 1 (eK .u8) s_0.code),C (I (w64 (s_0.at_+1))),C (.sc (.int .u64 s_0.seed))])]) (q (oMv j j)<|q (oMv j j)<|q (oNl j j j)<|q (oFA (r':=.mp 0 0 2) j QS j j)<|q (oLd (cs:=[.im 0 _]) j ZL j j)<|q (oBi j j j j)<|q (oMv j j)<|q (XI j uF3 adn j)<|q (oBi j j j j)<|q (oBi j j j j)<|q (oNl j j j)<|q (oFA (r':=.mp 0 0 2) j QS j j)<|q (oSt ZL j j j (tkI tk0) j j j)<|nl)<|us<|gs<|gs<|gd Zl j j j (st1:=mk [(0,M 0),(3,iv xP)] [(0,Od [Ct 1 (W 1 (eK .u8) s_0.code),C (I (w64 (s_0.at_+1))),C (.sc (.int .u64 (IntKind.wrap .u64 ((IntKind.wrap .u64 ((IntKind.wrap .u64 (s_0.seed*6364136223846793005))+(IntKind.wrap .u64 (xP))))+1442695040888963407))))])]) (by kernel_rfl) (mk [(0,M 0),(3,iv xP),(53,bv (decide ((w64 (s_0.at_+1))≤(s_0.code.length:Int))))] [(0,Od [Ct 1 (W 1 (eK .u8) s_0.code),C (I (w64 (s_0.at_+1))),C (.sc (.int .u64 (IntKind.wrap .u64 ((IntKind.wrap .u64 ((IntKind.wrap .u64 (s_0.seed*6364136223846793005))+(IntKind.wrap .u64 (xP))))+1442695040888963407))))])]) (t j j (oMv j j)<|t j j (oNl j j j)<|t j j (oFA (r':=.mp 0 0 1) j Jf j j)<|t j j (oLd (cs:=[.im 0 _]) j tF3 j j)<|t j j (oMv j j)<|t j j (oNl j j j)<|t j j (oFA (r':=.mp 0 0 0) j QO j j)<|t j j (oLd (cs:=[.im 1 _]) j aeh j j)<|t j j (jd j j ND j)<|t j j (oBi j j j j)<|sD (by kernel_rfl))<|us<|gc h j ak (fun hc2 h=>?_) fun hc2 h=>?_
  ·refine gs<|g0 j j (q (oMv j j)<|q (ah j j)<|nl)<|us<|Go.ret (Unw.ret ?_)
   cases h
   exact fr adg j
  ·refine Go.skip<|us<|gs<|?_
   obtain ⟨x59,UN,h⟩:=bs h
   refine g0 j j (q (oMv j j)<|q (oNl j j j)<|q (oFA (r':=.mp 0 0 2) j QS j j)<|q (oLd (cs:=[.im 0 _]) j ZL j j)<|q (ag0 j UN j j)<|q (oBi j j j j)<|q (XI j adn uF2 j)<|q (ah j j)<|nl)<|us<|Go.ret (Unw.ret ?_)
   cases h
   exact fr adg j
 ·intro K3
  refine gc h j ak (fun hc4 h=>?_) fun hc4 h=>?_
  ·obtain ⟨x22,KQ,h⟩:=bs h
   exact gd Zl j j j j (mk [(0,M 0),(3,iv (w64 (x22)))] [(0,Od (G 1 (aS s_0)))]) (t j j (oMv j j)<|t j j (oNl j j j)<|t j j (oFA (r':=.mp 0 0 0) j QO j j)<|t j j (oLd (cs:=[.im 1 _]) j aeh j j)<|t j j (oMv j j)<|t j j (oNl j j j)<|t j j (oFA (r':=.mp 0 0 1) j Jf j j)<|t j j (oLd (cs:=[.im 0 _]) j tF3 j j)<|t j j (gZ j KQ KP j j)<|t j j (oLd (cs:=[.im 1 _]) j tF5 j j)<|sS (dN afn j (XI j uF5 uF3 j)) trivial (sS (dN afn j (ah j j)) trivial (sD (by kernel_rfl))))<|K3 _ ⟨(w64 (x22)),h,(by kernel_rfl)⟩
  ·exact Go.skip<|K3 _ ⟨0,h,(by kernel_rfl)⟩
theorem aW {s_0:aC} {n_1:Int} {r:(Int×aC)} (h:bf s_0 n_1=some r):FX 106 [.ptr true [(.imm,W 1 (eK .u8) s_0.code),(.imm,I s_0.at_),(.imm,.sc (.int .u64 s_0.seed))],.im 2 false [I n_1]] ([(false,[.im 0 (I r.1)])],[.ptr true [(.imm,W 1 (eK .u8) r.2.code),(.imm,I r.2.at_),(.imm,.sc (.int .u64 r.2.seed))]]):=by
 unfold bf at h
 refine sV (A:=[(0,M 0),(1,D 2 (I n_1))]) (B:=[(0,Od (G 1 (aS s_0))),(1,none)]) (nt:=20) rfl rfl Try.func106 rfl rfl rfl rfl ?_
 refine gs<|g0 j j (q (ah j j)<|nl)<|us<|gs<|gs<|g0 j j (q (oMv j j)<|q (oBi j j j j)<|nl)<|us<|gc h j ak (fun hc1 h=>?_) fun hc1 h=>?_
 ·refine gs<|g0 j j (q (ah j j)<|nl)<|us<|Go.ret (Unw.ret ?_)
  cases h
  exact fr ac3 j
 ·refine Go.skip<|us<|gs<|?_
  obtain ⟨x9,hx9,h⟩:=bs h
  refine g0 j j (q (oMv j j)<|q (oCa (xs:=[.v false [.mp 0 0 0]]) (vs:=[(false,[.im 0 _])]) (v:=.v false [.im 0 _]) (Bi hx9) (.inl j) j Tt j (ppP j j j pp0) j j (pbP j j pb0) j j j)<|q (ah j j)<|nl)<|us<|gs<|gs<|g1 j j (mk [(0,M 0),(1,iv n_1),(5,iv x9.1)] [(0,Od (G 1 (aS x9.2)))]) (q (oMv j j)<|q (oBi j j j j)<|nl)<|us<|Go.join (fun st=>∃Nk,∃Df,∃Dh,∃Di,ku n_1 Nk Df Dh Di=some r∧st.norm ([1,5],[0])=mk [(1,iv n_1),(5,iv Nk)] [(0,Od [Ct 1 (W 1 (eK .u8) Df),C (I Dh),C (.sc (.int .u64 Di))])]) ?_ ?_
  ·rintro st ⟨Nk,Df,Dh,Di,h,hst⟩
   unfold ku at h
   refine us<|gs<|?_
   obtain ⟨x19,Cm,h⟩:=bs h
   refine g2 aff j j hst (q (oMv j j)<|q (oMv j j)<|q (Ce j Cm j j)<|q (ah j j)<|nl)<|us<|Go.ret (Unw.ret ?_)
   cases h
   exact fr ac3 j
  ·intro K3
   refine gc h j ak (fun hc4 h=>?_) fun hc4 h=>?_
   ·obtain ⟨x15,NF,h⟩:=bs h
    exact g0 j j (q (oMv j j)<|q (oBi j j j j)<|q (oMv j j)<|q (oCa (xs:=[.v false [.mp 0 0 0]]) (vs:=[(false,[.im 0 _])]) (v:=.v false [.im 0 _]) (Bi NF) (.inl j) j Tt j (ppP j j j pp0) j j (pbP j j pb0) j j j)<|q (oBi j j j j)<|q (ah j j)<|nl)<|K3 _ ⟨(w64 ((w64 (x9.1*256))+x15.1)),x15.2.code,x15.2.at_,x15.2.seed,h,(by kernel_rfl)⟩
   ·exact Go.skip<|K3 _ ⟨x9.1,x9.2.code,x9.2.at_,x9.2.seed,h,(by kernel_rfl)⟩
theorem oU {s_0:aC} {n_1:Int} {r:(Bool×aC)} (h:iW s_0 n_1=some r):FX 83 [.ptr true [(.imm,W 1 (eK .u8) s_0.code),(.imm,I s_0.at_),(.imm,.sc (.int .u64 s_0.seed))],.im 2 false [I n_1]] ([(false,[.im 0 (V r.1)])],[.ptr true [(.imm,W 1 (eK .u8) r.2.code),(.imm,I r.2.at_),(.imm,.sc (.int .u64 r.2.seed))]]):=by
 unfold iW at h
 refine sV (A:=[(0,M 0),(1,D 2 (I n_1))]) (B:=[(0,Od (G 1 (aS s_0))),(1,none)]) (nt:=9) rfl rfl Try.func83 rfl rfl rfl rfl ?_
 refine gs<|g0 j j (q (ah j j)<|nl)<|us<|gs<|?_
 obtain ⟨x7,hx7,h⟩:=bs h
 refine g0 j j (q (oMv j j)<|q (oMv j j)<|q (oCa (xs:=[.v false [.mp 0 0 0],.v false [.im 2 _]]) (vs:=[(false,[.im 0 _])]) (v:=.v false [.im 0 _]) (aW hx7) (.inl j) j eF j (ppP j j j (ppC j pp0)) j j (pbP j j pb0) j j j)<|q (oBi j j j j)<|q (ah j j)<|nl)<|us<|Go.ret (Unw.ret ?_)
 cases h
 exact fr ahI j
theorem NG {s_0:aC} {r:(aB×aC)} (h:wu s_0=some r):FX 84 [.ptr true [(.imm,W 1 (eK .u8) s_0.code),(.imm,I s_0.at_),(.imm,.sc (.int .u64 s_0.seed))]] ([(true,[.im 0 (I r.1.Width),.im 0 (I r.1.Height),.ow 0 2 (List.map af r.1.aI),.ow 0 2 (List.map az r.1.ai)])],[.ptr true [(.imm,W 1 (eK .u8) r.2.code),(.imm,I r.2.at_),(.imm,.sc (.int .u64 r.2.seed))]]):=by
 unfold wu at h
 refine sV (A:=[(0,M 0)]) (B:=[(0,Od (G 1 (aS s_0)))]) (nt:=69) rfl rfl Try.func84 rfl rfl rfl rfl ?_
 refine gs<|g0 j j (q (oAl j jX (tkI (tkI (tkN (tkN tk0)))))<|nl)<|us<|gs<|?_
 obtain ⟨x8,hx8,h⟩:=bs h
 refine g0 j j (q (oMv j j)<|q (oCa (xs:=[.v false [.mp 0 0 0],.v false [.im 0 _]]) (vs:=[(false,[.im 0 _])]) (v:=.v false [.im 0 _]) (aW hx8) (.inl j) j eF j (ppP j j j (ppC j pp0)) j j (pbP j j pb0) j j j)<|q (oBi j j j j)<|q (ah j j)<|nl)<|us<|gs<|?_
 obtain ⟨x13,Ia,h⟩:=bs h
 refine g1 j j (mk [(0,M 0),(2,M 2),(3,iv (w64 (20+x8.1)))] [(0,Od (G 1 (aS x8.2))),(2,Oa [C (I 0),C (I 0),Z (W 2 af ([]:List ae)),Z (W 2 az ([]:List aj))])]) (q (oMv j j)<|q (oBi j j j j)<|q (oMv j j)<|q (oCa (xs:=[.v false [.mp 0 0 0],.v false [.im 0 _]]) (vs:=[(false,[.im 0 _])]) (v:=.v false [.im 0 _]) (aW Ia) (.inl j) j eF j (ppP j j j (ppC j pp0)) j j (pbP j j pb0) j j j)<|q (oBi j j j j)<|q (ah j j)<|nl)<|us<|gs<|?_
 obtain ⟨x18,FQ,h⟩:=bs h
 refine g1 j j (mk [(0,M 0),(2,M 2),(3,iv (w64 (20+x8.1))),(4,iv (w64 ((w64 ((w64 (20+x8.1))+20))+x13.1)))] [(0,Od (G 1 (aS x13.2))),(2,Oa [C (I 0),C (I 0),Z (W 2 af ([]:List ae)),Z (W 2 az ([]:List aj))])]) (q (oMv j j)<|q (oBi j j j j)<|q (oMv j j)<|q (oCa (xs:=[.v false [.mp 0 0 0],.v false [.im 0 _]]) (vs:=[(false,[.im 0 _])]) (v:=.v false [.im 0 _]) (aW FQ) (.inl j) j eF j (ppP j j j (ppC j pp0)) j j (pbP j j pb0) j j j)<|q (oBi j j j j)<|q (ah j j)<|nl)<|us<|gs<|g1 j j (mk [(0,M 0),(2,M 2),(3,iv (w64 (20+x8.1))),(4,iv (w64 ((w64 ((w64 (20+x8.1))+20))+x13.1))),(5,iv (w64 ((w64 ((w64 ((w64 ((w64 (20+x8.1))+20))+x13.1))+20))+x18.1)))] [(0,Od (G 1 (aS x18.2))),(2,Oa [C (I 0),C (I 0),Z (W 2 af ([]:List ae)),Z (W 2 az ([]:List aj))])]) (q (oMv j j)<|q (oMv j j)<|q (oBu (cs:=[.im 0 _,.im 0 _]) j EM j)<|q (oMv j j)<|q (oBu (cs:=[.im 0 _,.im 0 _]) j EM j)<|q (oMv j j)<|q (oMv j j)<|q (oBu (cs:=[.im 0 _,.im 0 _]) j EM j)<|q (oMv j j)<|q (oBu (cs:=[.im 0 _,.im 0 _]) j EM j)<|q (oMv j j)<|q (oMv j j)<|q (oBu (cs:=[.im 0 _,.im 0 _]) j EM j)<|q (oMv j j)<|q (oMv j j)<|q (oBu (cs:=[.im 0 _,.im 0 _]) j EM j)<|q (oMv j j)<|q (oMv j j)<|q (oBu (cs:=[.im 0 _,.im 0 _]) j EM j)<|q (oMv j j)<|q (oMv j j)<|q (oBu (cs:=[.im 0 _,.im 0 _]) j EM j)<|q (oBS (es:=List.map af ([(⟨0,0⟩:ae),(⟨(w64 ((w64 ((w64 ((w64 ((w64 (20+x8.1))+20))+x13.1))+20))+x18.1)),0⟩:ae),(⟨(w64 ((w64 ((w64 ((w64 ((w64 (20+x8.1))+20))+x13.1))+20))+x18.1)),(w64 ((w64 ((w64 ((w64 ((w64 (20+x8.1))+20))+x13.1))+20))+x18.1))⟩:ae),(⟨0,(w64 ((w64 ((w64 ((w64 ((w64 (20+x8.1))+20))+x13.1))+20))+x18.1))⟩:ae),(⟨(w64 (20+x8.1)),(w64 (20+x8.1))⟩:ae),(⟨(w64 ((w64 ((w64 (20+x8.1))+20))+x13.1)),(w64 (20+x8.1))⟩:ae),(⟨(w64 ((w64 ((w64 (20+x8.1))+20))+x13.1)),(w64 ((w64 ((w64 (20+x8.1))+20))+x13.1))⟩:ae),(⟨(w64 (20+x8.1)),(w64 ((w64 ((w64 (20+x8.1))+20))+x13.1))⟩:ae)]:List ae)) j pG j (ptC j (fxI (fxI fx0)) j (ptC j (fxI (fxI fx0)) j (ptC j (fxI (fxI fx0)) j (ptC j (fxI (fxI fx0)) j (ptC j (fxI (fxI fx0)) j (ptC j (fxI (fxI fx0)) j (ptC j (fxI (fxI fx0)) j (ptC j (fxI (fxI fx0)) j pt0)))))))) (dn j fun _=>j))<|q (oBu (cs:=[.im 0 _,.im 0 _,.own 42 0 0,.nil]) j Zm j)<|q (oAl j jX (tkI (tkI (tkN (tkN tk0)))))<|q (oSt jX j j j (tkI (tkI (tkO j j (tkN tk0)))) j j j)<|nl)<|us<|gs<|g1 j j (mk [(0,M 0),(2,M 2),(6,M 6)] [(0,Od (G 1 (aS x18.2))),(2,Oa [C (I 0),C (I 0),Z (W 2 af ([]:List ae)),Z (W 2 az ([]:List aj))]),(6,Oa [C (I (w64 ((w64 ((w64 ((w64 ((w64 (20+x8.1))+20))+x13.1))+20))+x18.1))),C (I (w64 ((w64 ((w64 ((w64 ((w64 (20+x8.1))+20))+x13.1))+20))+x18.1))),Z (W 2 af ([(⟨0,0⟩:ae),(⟨(w64 ((w64 ((w64 ((w64 ((w64 (20+x8.1))+20))+x13.1))+20))+x18.1)),0⟩:ae),(⟨(w64 ((w64 ((w64 ((w64 ((w64 (20+x8.1))+20))+x13.1))+20))+x18.1)),(w64 ((w64 ((w64 ((w64 ((w64 (20+x8.1))+20))+x13.1))+20))+x18.1))⟩:ae),(⟨0,(w64 ((w64 ((w64 ((w64 ((w64 (20+x8.1))+20))+x13.1))+20))+x18.1))⟩:ae),(⟨(w64 (20+x8.1)),(w64 (20+x8.1))⟩:ae),(⟨(w64 ((w64 ((w64 (20+x8.1))+20))+x13.1)),(w64 (20+x8.1))⟩:ae),(⟨(w64 ((w64 ((w64 (20+x8.1))+20))+x13.1)),(w64 ((w64 ((w64 (20+x8.1))+20))+x13.1))⟩:ae),(⟨(w64 (20+x8.1)),(w64 ((w64 ((w64 (20+x8.1))+20))+x13.1))⟩:ae)]:List ae)),Z (W 2 az ([]:List aj))])]) (q (oBS (es:=List.map eI ([0,1,5,4]:List Int)) j eX j (ptC j (fxI fx0) j (ptC j (fxI fx0) j (ptC j (fxI fx0) j (ptC j (fxI fx0) j pt0)))) (dn j fun _=>j))<|q (oBu (cs:=[.im 0 _,.own 44 0 0]) j EL j)<|q (oBS (es:=List.map eI ([1,2,6,5]:List Int)) j eX j (ptC j (fxI fx0) j (ptC j (fxI fx0) j (ptC j (fxI fx0) j (ptC j (fxI fx0) j pt0)))) (dn j fun _=>j))<|q (oBu (cs:=[.im 0 _,.own 46 0 0]) j EL j)<|q (oBS (es:=List.map eI ([2,3,7,6]:List Int)) j eX j (ptC j (fxI fx0) j (ptC j (fxI fx0) j (ptC j (fxI fx0) j (ptC j (fxI fx0) j pt0)))) (dn j fun _=>j))<|q (oBu (cs:=[.im 0 _,.own 48 0 0]) j EL j)<|q (oBS (es:=List.map eI ([3,0,4,7]:List Int)) j eX j (ptC j (fxI fx0) j (ptC j (fxI fx0) j (ptC j (fxI fx0) j (ptC j (fxI fx0) j pt0)))) (dn j fun _=>j))<|q (oBu (cs:=[.im 0 _,.own 50 0 0]) j EL j)<|q (oBS (es:=List.map eI ([4,5,6,7]:List Int)) j eX j (ptC j (fxI fx0) j (ptC j (fxI fx0) j (ptC j (fxI fx0) j (ptC j (fxI fx0) j pt0)))) (dn j fun _=>j))<|q (oBu (cs:=[.im 0 _,.own 52 0 0]) j EL j)<|q (oBS (es:=List.map az ([(⟨(⟨#[97]⟩:ByteArray),([0,1,5,4]:List Int)⟩:aj),(⟨(⟨#[98]⟩:ByteArray),([1,2,6,5]:List Int)⟩:aj),(⟨(⟨#[99]⟩:ByteArray),([2,3,7,6]:List Int)⟩:aj),(⟨(⟨#[100]⟩:ByteArray),([3,0,4,7]:List Int)⟩:aj),(⟨(⟨#[101]⟩:ByteArray),([4,5,6,7]:List Int)⟩:aj)]:List aj)) j uF j (ptC j (fxI (fxO j j fx0)) j (ptC j (fxI (fxO j j fx0)) j (ptC j (fxI (fxO j j fx0)) j (ptC j (fxI (fxO j j fx0)) j (ptC j (fxI (fxO j j fx0)) j pt0))))) (su j))<|q (oFA (r':=.mp 6 0 3) j gU j j)<|q (oSt qw j j j (tkO j j tk0) j j j)<|nl)<|us<|gs<|gs<|?_
 obtain ⟨x57,NH,h⟩:=bs h
 refine g1 j j (mk [(0,M 0),(2,M 2),(6,M 6)] [(0,Od (G 1 (aS x18.2))),(2,Oa [C (I 0),C (I 0),Z (W 2 af ([]:List ae)),Z (W 2 az ([]:List aj))]),(6,Oa [C (I (w64 ((w64 ((w64 ((w64 ((w64 (20+x8.1))+20))+x13.1))+20))+x18.1))),C (I (w64 ((w64 ((w64 ((w64 ((w64 (20+x8.1))+20))+x13.1))+20))+x18.1))),Z (W 2 af ([(⟨0,0⟩:ae),(⟨(w64 ((w64 ((w64 ((w64 ((w64 (20+x8.1))+20))+x13.1))+20))+x18.1)),0⟩:ae),(⟨(w64 ((w64 ((w64 ((w64 ((w64 (20+x8.1))+20))+x13.1))+20))+x18.1)),(w64 ((w64 ((w64 ((w64 ((w64 (20+x8.1))+20))+x13.1))+20))+x18.1))⟩:ae),(⟨0,(w64 ((w64 ((w64 ((w64 ((w64 (20+x8.1))+20))+x13.1))+20))+x18.1))⟩:ae),(⟨(w64 (20+x8.1)),(w64 (20+x8.1))⟩:ae),(⟨(w64 ((w64 ((w64 (20+x8.1))+20))+x13.1)),(w64 (20+x8.1))⟩:ae),(⟨(w64 ((w64 ((w64 (20+x8.1))+20))+x13.1)),(w64 ((w64 ((w64 (20+x8.1))+20))+x13.1))⟩:ae),(⟨(w64 (20+x8.1)),(w64 ((w64 ((w64 (20+x8.1))+20))+x13.1))⟩:ae)]:List ae)),Z (W 2 az ([(⟨(⟨#[97]⟩:ByteArray),([0,1,5,4]:List Int)⟩:aj),(⟨(⟨#[98]⟩:ByteArray),([1,2,6,5]:List Int)⟩:aj),(⟨(⟨#[99]⟩:ByteArray),([2,3,7,6]:List Int)⟩:aj),(⟨(⟨#[100]⟩:ByteArray),([3,0,4,7]:List Int)⟩:aj),(⟨(⟨#[101]⟩:ByteArray),([4,5,6,7]:List Int)⟩:aj)]:List aj))])]) (q (oMv j j)<|q (oCa (xs:=[.v false [.mp 0 0 0],.v false [.im 0 _]]) (vs:=[(false,[.im 0 _])]) (v:=.v false [.im 0 _]) (oU NH) (.inl j) j DI j (ppP j j j (ppC j pp0)) j j (pbP j j pb0) j j j)<|nl)<|us<|Go.join (fun st=>∃xQ,oG x13 x18 x57 x8 xQ=some r∧st.norm ([0,2,6],[0,2,6])=mk [(0,M 0),(2,M 2),(6,M 6)] [(0,Od (G 1 (aS x57.2))),(2,Oa [C (I 0),C (I 0),Z (W 2 af ([]:List ae)),Z (W 2 az ([]:List aj))]),(6,Oa [C (I (w64 ((w64 ((w64 ((w64 ((w64 (20+x8.1))+20))+x13.1))+20))+x18.1))),C (I (w64 ((w64 ((w64 ((w64 ((w64 (20+x8.1))+20))+x13.1))+20))+x18.1))),Z (W 2 af ([(⟨0,0⟩:ae),(⟨(w64 ((w64 ((w64 ((w64 ((w64 (20+x8.1))+20))+x13.1))+20))+x18.1)),0⟩:ae),(⟨(w64 ((w64 ((w64 ((w64 ((w64 (20+x8.1))+20))+x13.1))+20))+x18.1)),(w64 ((w64 ((w64 ((w64 ((w64 (20+x8.1))+20))+x13.1))+20))+x18.1))⟩:ae),(⟨0,(w64 ((w64 ((w64 ((w64 ((w64 (20+x8.1))+20))+x13.1))+20))+x18.1))⟩:ae),(⟨(w64 (20+x8.1)),(w64 (20+x8.1))⟩:ae),(⟨(w64 ((w64 ((w64 (20+x8.1))+20))+x13.1)),(w64 (20+x8.1))⟩:ae),(⟨(w64 ((w64 ((w64 (20+x8.1))+20))+x13.1)),(w64 ((w64 ((w64 (20+x8.1))+20))+x13.1))⟩:ae),(⟨(w64 (20+x8.1)),(w64 ((w64 ((w64 (20+x8.1))+20))+x13.1))⟩:ae)]:List ae)),Z (W 2 az xQ)])]) ?_ ?_
 ·rintro st ⟨xQ,h,hst⟩
  unfold oG at h
  refine us<|gs<|gs<|?_
  obtain ⟨x63,aei,h⟩:=bs h
  refine g2 c84 j j hst (q (oMv j j)<|q (oCa (xs:=[.v false [.mp 0 0 0],.v false [.im 0 _]]) (vs:=[(false,[.im 0 _])]) (v:=.v false [.im 0 _]) (oU aei) (.inl j) j DI j (ppP j j j (ppC j pp0)) j j (pbP j j pb0) j j j)<|nl)<|us<|Go.join (fun st=>∃zV,pR x13 x18 x63 x8 zV=some r∧st.norm ([2,6],[0,2,6])=mk [(2,M 2),(6,M 6)] [(0,Od (G 1 (aS x63.2))),(2,Oa [C (I 0),C (I 0),Z (W 2 af ([]:List ae)),Z (W 2 az ([]:List aj))]),(6,Oa [C (I (w64 ((w64 ((w64 ((w64 ((w64 (20+x8.1))+20))+x13.1))+20))+x18.1))),C (I (w64 ((w64 ((w64 ((w64 ((w64 (20+x8.1))+20))+x13.1))+20))+x18.1))),Z (W 2 af ([(⟨0,0⟩:ae),(⟨(w64 ((w64 ((w64 ((w64 ((w64 (20+x8.1))+20))+x13.1))+20))+x18.1)),0⟩:ae),(⟨(w64 ((w64 ((w64 ((w64 ((w64 (20+x8.1))+20))+x13.1))+20))+x18.1)),(w64 ((w64 ((w64 ((w64 ((w64 (20+x8.1))+20))+x13.1))+20))+x18.1))⟩:ae),(⟨0,(w64 ((w64 ((w64 ((w64 ((w64 (20+x8.1))+20))+x13.1))+20))+x18.1))⟩:ae),(⟨(w64 (20+x8.1)),(w64 (20+x8.1))⟩:ae),(⟨(w64 ((w64 ((w64 (20+x8.1))+20))+x13.1)),(w64 (20+x8.1))⟩:ae),(⟨(w64 ((w64 ((w64 (20+x8.1))+20))+x13.1)),(w64 ((w64 ((w64 (20+x8.1))+20))+x13.1))⟩:ae),(⟨(w64 (20+x8.1)),(w64 ((w64 ((w64 (20+x8.1))+20))+x13.1))⟩:ae)]:List ae)),Z (W 2 az zV)])]) ?_ ?_
  ·rintro st ⟨zV,h,hst⟩
   unfold pR at h
   refine us<|gs<|g2 c84 j j hst (q (oLd (cs:=[.im 0 _,.im 0 _,.own 6 0 2,.own 6 0 3]) j jX j j)<|q (oSt jX j j j (tkI (tkI (tkO j j (tkO j j tk0)))) j j j)<|nl)<|us<|Go.ret (Unw.ret ?_)
   cases h
   exact fr ahJ j
  ·intro K3
   refine gc h j iR (fun hc4 h=>?_) fun hc4 h=>?_
   ·exact g1 j j (mk [(2,M 2),(6,M 6)] [(0,Od (G 1 (aS x63.2))),(2,Oa [C (I 0),C (I 0),Z (W 2 af ([]:List ae)),Z (W 2 az ([]:List aj))]),(6,Oa [C (I (w64 ((w64 ((w64 ((w64 ((w64 (20+x8.1))+20))+x13.1))+20))+x18.1))),C (I (w64 ((w64 ((w64 ((w64 ((w64 (20+x8.1))+20))+x13.1))+20))+x18.1))),Z (W 2 af ([(⟨0,0⟩:ae),(⟨(w64 ((w64 ((w64 ((w64 ((w64 (20+x8.1))+20))+x13.1))+20))+x18.1)),0⟩:ae),(⟨(w64 ((w64 ((w64 ((w64 ((w64 (20+x8.1))+20))+x13.1))+20))+x18.1)),(w64 ((w64 ((w64 ((w64 ((w64 (20+x8.1))+20))+x13.1))+20))+x18.1))⟩:ae),(⟨0,(w64 ((w64 ((w64 ((w64 ((w64 (20+x8.1))+20))+x13.1))+20))+x18.1))⟩:ae),(⟨(w64 (20+x8.1)),(w64 (20+x8.1))⟩:ae),(⟨(w64 ((w64 ((w64 (20+x8.1))+20))+x13.1)),(w64 (20+x8.1))⟩:ae),(⟨(w64 ((w64 ((w64 (20+x8.1))+20))+x13.1)),(w64 ((w64 ((w64 (20+x8.1))+20))+x13.1))⟩:ae),(⟨(w64 (20+x8.1)),(w64 ((w64 ((w64 (20+x8.1))+20))+x13.1))⟩:ae)]:List ae)),Z (W 2 az xQ)])]) (q (oBS (es:=List.map eI ([4,5,6,7]:List Int)) j eX j (ptC j (fxI fx0) j (ptC j (fxI fx0) j (ptC j (fxI fx0) j (ptC j (fxI fx0) j pt0)))) (dn j fun _=>j))<|q (oBu (cs:=[.im 0 _,.own 64 0 0]) j EL j)<|q (oBS (es:=List.map az ([(⟨(⟨#[101]⟩:ByteArray),([4,5,6,7]:List Int)⟩:aj)]:List aj)) j uF j (ptC j (fxI (fxO j j fx0)) j pt0) (su j))<|q (oFA (r':=.mp 6 0 3) j gU j j)<|q (oSt qw j j j (tkO j j tk0) j j j)<|nl)<|K3 _ ⟨([(⟨(⟨#[101]⟩:ByteArray),([4,5,6,7]:List Int)⟩:aj)]:List aj),h,(by kernel_rfl)⟩
   ·exact Go.skip<|K3 _ ⟨xQ,h,(by kernel_rfl)⟩
 ·intro K5
  refine gc h j iR (fun hc6 h=>?_) fun hc6 h=>?_
  ·obtain ⟨x60,OA,h⟩:=bs h
   exact g1 j j (mk [(0,M 0),(2,M 2),(6,M 6)] [(0,Od (G 1 (aS x57.2))),(2,Oa [C (I 0),C (I 0),Z (W 2 af ([]:List ae)),Z (W 2 az ([]:List aj))]),(6,Oa [C (I (w64 ((w64 ((w64 ((w64 ((w64 (20+x8.1))+20))+x13.1))+20))+x18.1))),C (I (w64 ((w64 ((w64 ((w64 ((w64 (20+x8.1))+20))+x13.1))+20))+x18.1))),Z (W 2 af ([(⟨0,0⟩:ae),(⟨(w64 ((w64 ((w64 ((w64 ((w64 (20+x8.1))+20))+x13.1))+20))+x18.1)),0⟩:ae),(⟨(w64 ((w64 ((w64 ((w64 ((w64 (20+x8.1))+20))+x13.1))+20))+x18.1)),(w64 ((w64 ((w64 ((w64 ((w64 (20+x8.1))+20))+x13.1))+20))+x18.1))⟩:ae),(⟨0,(w64 ((w64 ((w64 ((w64 ((w64 (20+x8.1))+20))+x13.1))+20))+x18.1))⟩:ae),(⟨(w64 (20+x8.1)),(w64 (20+x8.1))⟩:ae),(⟨(w64 ((w64 ((w64 (20+x8.1))+20))+x13.1)),(w64 (20+x8.1))⟩:ae),(⟨(w64 ((w64 ((w64 (20+x8.1))+20))+x13.1)),(w64 ((w64 ((w64 (20+x8.1))+20))+x13.1))⟩:ae),(⟨(w64 (20+x8.1)),(w64 ((w64 ((w64 (20+x8.1))+20))+x13.1))⟩:ae)]:List ae)),Z (W 2 az ([(⟨(⟨#[97]⟩:ByteArray),([0,1,5,4]:List Int)⟩:aj),(⟨(⟨#[98]⟩:ByteArray),([1,2,6,5]:List Int)⟩:aj),(⟨(⟨#[99]⟩:ByteArray),([2,3,7,6]:List Int)⟩:aj),(⟨(⟨#[100]⟩:ByteArray),([3,0,4,7]:List Int)⟩:aj),(⟨(⟨#[101]⟩:ByteArray),([4,5,6,7]:List Int)⟩:aj)]:List aj))])]) (q (oFA (r':=.mp 6 0 3) j gU j j)<|q (oLd (cs:=[.own 6 0 3]) j qw j j)<|q (adV j OA uF j j j (bn1 j) bn0 j j j)<|q (oFA (r':=.mp 6 0 3) j gU j j)<|q (oSt qw j j j (adU j j tk0) j j j)<|nl)<|K5 _ ⟨((([(⟨(⟨#[97]⟩:ByteArray),([0,1,5,4]:List Int)⟩:aj),(⟨(⟨#[98]⟩:ByteArray),([1,2,6,5]:List Int)⟩:aj),(⟨(⟨#[99]⟩:ByteArray),([2,3,7,6]:List Int)⟩:aj),(⟨(⟨#[100]⟩:ByteArray),([3,0,4,7]:List Int)⟩:aj),(⟨(⟨#[101]⟩:ByteArray),([4,5,6,7]:List Int)⟩:aj)]:List aj).take ((([(⟨(⟨#[97]⟩:ByteArray),([0,1,5,4]:List Int)⟩:aj),(⟨(⟨#[98]⟩:ByteArray),([1,2,6,5]:List Int)⟩:aj),(⟨(⟨#[99]⟩:ByteArray),([2,3,7,6]:List Int)⟩:aj),(⟨(⟨#[100]⟩:ByteArray),([3,0,4,7]:List Int)⟩:aj),(⟨(⟨#[101]⟩:ByteArray),([4,5,6,7]:List Int)⟩:aj)]:List aj).length:Int).toNat)).drop ((1:Int).toNat)),h,(by kernel_rfl)⟩
  ·exact Go.skip<|K5 _ ⟨([(⟨(⟨#[97]⟩:ByteArray),([0,1,5,4]:List Int)⟩:aj),(⟨(⟨#[98]⟩:ByteArray),([1,2,6,5]:List Int)⟩:aj),(⟨(⟨#[99]⟩:ByteArray),([2,3,7,6]:List Int)⟩:aj),(⟨(⟨#[100]⟩:ByteArray),([3,0,4,7]:List Int)⟩:aj),(⟨(⟨#[101]⟩:ByteArray),([4,5,6,7]:List Int)⟩:aj)]:List aj),h,(by kernel_rfl)⟩
theorem uS {n_0:Int} {r:ByteArray} (h:sW n_0=some r):FX 149 [.im 2 false [I n_0]] (B0 [(false,[.im 0 (Y r)])]):=by
 unfold sW at h
 refine gn 50 Try.func149 rfl ?_
 refine gs<|g0 j j (q (ah j j)<|nl)<|us<|gs<|gs<|g0 j j (q (oMv j j)<|q (oBi j j j j)<|nl)<|us<|gc h j iEq (fun hc1 h=>?_) fun hc1 h=>?_
 ·refine gs<|g0 j j (q (ah j j)<|nl)<|us<|Go.ret (Unw.ret ?_)
  cases h
  exact fr ac9 j
 ·refine Go.skip<|us<|gs<|g0 j j (q (oBS (es:=List.map (eK .u8) ([]:List Int)) j KP j pt0 (dn j fun _=>j))<|q (oZ j j j j j)<|nl)<|us<|gs<|gs<|g0 j j (q (oMv j j)<|q (ah j j)<|nl)<|us<|Go.block<|?_
  obtain ⟨o,hl,h⟩:=bs h
  refine gl Uy j _ (fun (s:(Int×(List Int)))=>match s with | (zX,lC)=>mk [(0,iv n_0),(3,H 3 0),(4,iv zX)] [(3,Oc [Z (W 1 (eK .u8) lC)])]) (fun (pU:(List Int)) (p:Ex×St)=>p.1= .exit 0∧p.2.norm ([0,3],[3])=mk [(0,iv n_0),(3,H 3 0)] [(3,Oc [Z (W 1 (eK .u8) pU)])]) hl (by kernel_rfl) ?_ ?_ ?_
  ·intro o p hp e
   exact nomatch (hp.1.symm.trans e)
  ·rintro ⟨zX,lC⟩ o h
   unfold jk at h
   dsimp only at h
   refine gs<|gs<|g0 j j (q (oMv j j)<|q (oBi j j j j)<|nl)<|us<|gc h j iNe (fun hc12 h=>?_) fun hc12 h=>?_
   ·refine Go.skip<|us<|gs<|Go.block<|gs<|?_
    obtain ⟨x17,FT,h⟩:=bs h
    refine g0 j j (q (oMv j j)<|q (Ce j FT j j)<|q (ah j j)<|nl)<|us<|gs<|gs<|g0 j j (q (oMv j j)<|q (oBi j j j j)<|nl)<|us<|Go.join (fun st=>∃D7,uU lC zX D7=some o∧st.norm ([0,3,4,5],[3])=mk [(0,iv n_0),(3,H 3 0),(4,iv zX),(5,iv D7)] [(3,Oc [Z (W 1 (eK .u8) lC)])]) ?_ ?_
    ·rintro st ⟨D7,h,hst⟩
     unfold uU at h
     refine us<|?_
     obtain ⟨x27,hx27,h⟩:=bs h
     refine g2 Uy j j hst (q (oMv j j)<|q (oMv j j)<|q (oBi j j j j)<|q (XI j uF2 uF5 j)<|q (oBS (es:=List.map (eK .u8) ([(IntKind.wrap .u8 ((w64 (48+D7))))]:List Int)) j KP j (ptC j (fxI fx0) j pt0) (dn j fun _=>j))<|q (xO (en:=(eK .u8)) (M:=([(IntKind.wrap .u8 ((w64 (48+D7))))]:List Int)) j hx27 j KP j j ND (.inl ⟨_,j⟩) j j j j (kG j j) (dn j fun _=>j))<|q (oZ j j j j j)<|nl)<|Unw.blk<|us<|?_
     obtain ⟨x15,NF,h⟩:=bs h
     refine g0 j j (q (oMv j j)<|q (adT j NF j j)<|q (ah j j)<|nl)<|Unw.nil<|?_
     cases h
     exact ⟨j,(by kernel_rfl)⟩
    ·intro K14
     refine gc h j ak (fun yc h=>?_) fun yc h=>?_
     ·exact g0 j j (q (oMv j j)<|q (oUn j j j)<|q (ah j j)<|nl)<|K14 _ ⟨(w64 (0 - x17)),h,(by kernel_rfl)⟩
     ·exact Go.skip<|K14 _ ⟨x17,h,(by kernel_rfl)⟩
   ·refine Go.exit<|ux<|Unw.nil<|?_
    cases h
    exact ⟨j,(by kernel_rfl)⟩
  ·rintro ⟨e,st⟩ hp
   obtain ⟨pU,rfl⟩:∃y,y=o:=⟨o,rfl⟩
   obtain ⟨he,hst⟩:=hp
   obtain rfl:e= .exit 0:=he
   refine Unw.lq<|us<|gs<|gs<|g2 Uy j j hst (q (oMv j j)<|q (oBi j j j j)<|nl)<|us<|Go.join (fun st=>∃lu,oH lu=some r∧st.norm ([3],[3])=mk [(3,H 3 0)] [(3,Oc [Z (W 1 (eK .u8) lu)])]) ?_ ?_
   ·rintro st ⟨lu,h,hst⟩
    unfold oH at h
    refine us<|gs<|g2 Uy j j hst (q (oBS (es:=List.map (eK .u8) ([]:List Int)) j KP j pt0 (dn j fun _=>j))<|q (oZ j j j j j)<|nl)<|us<|gs<|gs<|g0 j j (q (oMv j j)<|q (Hu j j ND j j j (fun e=>nomatch e))<|q (oBi j j j j)<|q (ah j j)<|nl)<|us<|Go.block<|?_
    obtain ⟨o,hl,h⟩:=bs h
    refine gl Uy j _ (fun (s:(Int×(List Int)))=>match s with | (Gv,zW)=>mk [(3,H 3 0),(6,H 6 0),(7,iv Gv)] [(3,Oc [Z (W 1 (eK .u8) lu)]),(6,Oc [Z (W 1 (eK .u8) zW)])]) (fun (wz:(List Int)) (p:Ex×St)=>p.1= .exit 2∧p.2.norm ([6],[6])=mk [(6,H 6 0)] [(6,Oc [Z (W 1 (eK .u8) wz)])]) hl (by kernel_rfl) ?_ ?_ ?_
    ·intro o p hp e
     exact nomatch (hp.1.symm.trans e)
    ·rintro ⟨Gv,zW⟩ o h
     unfold kD at h
     dsimp only at h
     refine gs<|gs<|g0 j j (q (oMv j j)<|q (oBi j j j j)<|nl)<|us<|gc h j ak (fun hc9 h=>?_) fun hc9 h=>?_
     ·refine Go.skip<|us<|gs<|Go.block<|?_
      obtain ⟨x44,agj,h⟩:=bs h
      obtain ⟨x47,KR,h⟩:=bs h
      refine g0 j j (q (oMv j j)<|q (oMv j j)<|q (oMv j j)<|q (xN j agj KP j j j j)<|q (C9 (cs:=[.im 0 _]) j tF5 j j j j (jH agj) j j)<|q (oBS (es:=List.map (eK .u8) ([x44]:List Int)) j KP j (ptC j (fxI fx0) j pt0) (dn j fun _=>j))<|q (xO (en:=(eK .u8)) (M:=([x44]:List Int)) j KR j KP j j ND (.inl ⟨_,j⟩) j j j j (kG j j) (dn j fun _=>j))<|q (oZ j j j j j)<|nl)<|Unw.blk<|us<|g0 j j (q (oMv j j)<|q (oBi j j j j)<|q (ah j j)<|nl)<|Unw.nil<|?_
      cases h
      exact ⟨j,(by kernel_rfl)⟩
     ·refine Go.exit<|ux<|Unw.nil<|?_
      cases h
      exact ⟨j,(by kernel_rfl)⟩
    ·rintro ⟨e,st⟩ hp
     obtain ⟨wz,rfl⟩:∃y,y=o:=⟨o,rfl⟩
     obtain ⟨he,hst⟩:=hp
     obtain rfl:e= .exit 2:=he
     refine Unw.lq<|us<|gs<|g2 Uy j j hst (q (oMv j j)<|q (ae6 (l:=wz) j ND uF5 uF9 j (kG j j))<|q (ah j j)<|nl)<|us<|Go.ret (Unw.ret ?_)
     cases h
     exact fr ac9 j
   ·intro K10
    refine gc h j ak (fun eY h=>?_) fun eY h=>?_
    ·obtain ⟨x32,hx32,h⟩:=bs h
     exact g0 j j (q (oMv j j)<|q (oBS (es:=List.map (eK .u8) ([45]:List Int)) j KP j (ptC j (fxI fx0) j pt0) (dn j fun _=>j))<|q (xO (en:=(eK .u8)) (M:=([45]:List Int)) j hx32 j KP j j ND (.inl ⟨_,j⟩) j j j j (kG j j) (dn j fun _=>j))<|q (oZ j j j j j)<|nl)<|K10 _ ⟨x32,h,(by kernel_rfl)⟩
    ·exact Go.skip<|K10 _ ⟨pU,h,(by kernel_rfl)⟩
theorem NI {s_0:aC} {r:(aB×aC)} (h:wB s_0=some r):FX 90 [.ptr true [(.imm,W 1 (eK .u8) s_0.code),(.imm,I s_0.at_),(.imm,.sc (.int .u64 s_0.seed))]] ([(true,[.im 0 (I r.1.Width),.im 0 (I r.1.Height),.ow 0 2 (List.map af r.1.aI),.ow 0 2 (List.map az r.1.ai)])],[.ptr true [(.imm,W 1 (eK .u8) r.2.code),(.imm,I r.2.at_),(.imm,.sc (.int .u64 r.2.seed))]]):=by
 unfold wB at h
 refine sV (A:=[(0,M 0)]) (B:=[(0,Od (G 1 (aS s_0)))]) (nt:=129) rfl rfl Try.func90 rfl rfl rfl rfl ?_
 refine gs<|g0 j j (q (oAl j jX (tkI (tkI (tkN (tkN tk0)))))<|nl)<|us<|gs<|?_
 obtain ⟨x16,hx16,h⟩:=bs h
 refine g0 j j (q (oMv j j)<|q (oCa (xs:=[.v false [.mp 0 0 0],.v false [.im 0 _]]) (vs:=[(false,[.im 0 _])]) (v:=.v false [.im 0 _]) (aW hx16) (.inl j) j eF j (ppP j j j (ppC j pp0)) j j (pbP j j pb0) j j j)<|q (oBi j j j j)<|q (ah j j)<|nl)<|us<|gs<|?_
 obtain ⟨x19,Cm,h⟩:=bs h
 refine g1 j j (mk [(0,M 0),(2,M 2),(3,iv (w64 (1+x16.1)))] [(0,Od (G 1 (aS x16.2))),(2,Oa [C (I 0),C (I 0),Z (W 2 af ([]:List ae)),Z (W 2 az ([]:List aj))])]) (q (oMv j j)<|q (oCa (xs:=[.v false [.mp 0 0 0],.v false [.im 0 _]]) (vs:=[(false,[.im 0 _])]) (v:=.v false [.im 0 _]) (aW Cm) (.inl j) j eF j (ppP j j j (ppC j pp0)) j j (pbP j j pb0) j j j)<|q (oBi j j j j)<|q (ah j j)<|nl)<|us<|gs<|g1 j j (mk [(0,M 0),(2,M 2),(3,iv (w64 (1+x16.1))),(4,iv (w64 (1+x19.1)))] [(0,Od (G 1 (aS x19.2))),(2,Oa [C (I 0),C (I 0),Z (W 2 af ([]:List ae)),Z (W 2 az ([]:List aj))])]) (q (oBS (es:=List.map eI ([0]:List Int)) j eX j (ptC j (fxI fx0) j pt0) (dn j fun _=>j))<|q (oZ j j j j j)<|nl)<|us<|gs<|g0 j j (q (oBS (es:=List.map eI ([0]:List Int)) j eX j (ptC j (fxI fx0) j pt0) (dn j fun _=>j))<|q (oZ j j j j j)<|nl)<|us<|gs<|gs<|g0 j j (q (ah j j)<|nl)<|us<|Go.block<|?_
 obtain ⟨o,hl,h⟩:=bs h
 refine gl c90 j _ (fun (s:(Int×(List Int)×Int×Int×(List Int)))=>match s with | (Hw,Dj,Dk,Dl,Dn)=>mk [(0,M 0),(2,M 2),(3,iv (w64 (1+x16.1))),(4,iv (w64 (1+x19.1))),(5,H 5 0),(6,H 6 0),(7,iv Hw)] [(0,Od [Ct 1 (W 1 (eK .u8) Dj),C (I Dk),C (.sc (.int .u64 Dl))]),(2,Oa [C (I 0),C (I 0),Z (W 2 af ([]:List ae)),Z (W 2 az ([]:List aj))]),(5,Oc [Z (W 1 eI Dn)]),(6,Oc [Z (W 1 eI ([0]:List Int))])]) (fun (o:((List Int)×Int×Int×(List Int))) (p:Ex×St)=>match o with | (yL,yM,yN,iG)=>p.1= .exit 0∧p.2.norm ([0,2,3,4,5,6],[0,2,5,6])=mk [(0,M 0),(2,M 2),(3,iv (w64 (1+x16.1))),(4,iv (w64 (1+x19.1))),(5,H 5 0),(6,H 6 0)] [(0,Od [Ct 1 (W 1 (eK .u8) yL),C (I yM),C (.sc (.int .u64 yN))]),(2,Oa [C (I 0),C (I 0),Z (W 2 af ([]:List ae)),Z (W 2 az ([]:List aj))]),(5,Oc [Z (W 1 eI iG)]),(6,Oc [Z (W 1 eI ([0]:List Int))])]) hl (by kernel_rfl) ?_ ?_ ?_
 ·intro o p hp e
  obtain ⟨yL,yM,yN,iG⟩:=o
  exact nomatch (hp.1.symm.trans e)
 ·rintro ⟨Hw,Dj,Dk,Dl,Dn⟩ o h
  unfold jm at h
  dsimp only at h
  refine gs<|gs<|g0 j j (q (oMv j j)<|q (oMv j j)<|q (oBi j j j j)<|nl)<|us<|gc h j ak (fun DJ h=>?_) fun DJ h=>?_
  ·refine Go.skip<|us<|gs<|Go.block<|?_
   obtain ⟨x31,hx31,h⟩:=bs h
   obtain ⟨x35,UO,h⟩:=bs h
   obtain ⟨x38,hx38,h⟩:=bs h
   refine gd c90 j j j j (mk [(0,M 0),(2,M 2),(3,iv (w64 (1+x16.1))),(4,iv (w64 (1+x19.1))),(5,H 5 0),(6,H 6 0),(7,iv Hw)] [(0,Od (G 1 (aS x35.2))),(2,Oa [C (I 0),C (I 0),Z (W 2 af ([]:List ae)),Z (W 2 az ([]:List aj))]),(5,Oc [Z (W 1 eI x38)]),(6,Oc [Z (W 1 eI ([0]:List Int))])]) (t j j (oMv j j)<|t j j (oMv j j)<|t j j (oMv j j)<|t j j (oMv j j)<|sK (O:=[5]) j j j (dN z90 j (xN j hx31 eX j j j j))<|sK (O:=[5]) j j j (dN z90 j (C9 (cs:=[.im 0 _]) j tF2 j j j j (jH hx31) j j))<|t j j (oBi j j j j)<|sS (dN z90 j (oCa (xs:=[.v false [.mp 0 0 0],.v false [.im 0 _]]) (vs:=[(false,[.im 0 _])]) (v:=.v false [.im 0 _]) (aW UO) (.inl j) j eF j (ppP j j j (ppC j pp0)) j j (pbP j j pb0) j j j)) (kY ⟨j,trivial⟩ (kY ⟨j,trivial⟩ trivial)) (t j j (oBi j j j j)<|sS (dN z90 j (oBS (es:=List.map eI ([(w64 ((w64 (x31+20))+x35.1))]:List Int)) j eX j (ptC j (fxI fx0) j pt0) (dn j fun _=>j))) (kN j (kN j trivial)) (sS (dN z90 j (xO (en:=eI) (M:=([(w64 ((w64 (x31+20))+x35.1))]:List Int)) j hx38 j eX j j uG (.inl ⟨_,j⟩) j j j j (kG j j) (dn j fun _=>j))) (kN j (kN j trivial)) (sS (dN z90 j (oZ j j j j j)) (kN j (kN j trivial)) (sD (by kernel_rfl))))))<|Unw.blk<|us<|g0 j j (q (oMv j j)<|q (oBi j j j j)<|q (ah j j)<|nl)<|Unw.nil<|?_
   cases h
   exact ⟨j,(by kernel_rfl)⟩
  ·refine Go.exit<|ux<|Unw.nil<|?_
   cases h
   exact ⟨j,(by kernel_rfl)⟩
 ·rintro ⟨e,st⟩ hp
  obtain ⟨yL,yM,yN,iG⟩:=o
  dsimp only at h
  obtain ⟨he,hst⟩:=hp
  obtain rfl:e= .exit 0:=he
  refine Unw.lq<|us<|gs<|gs<|g2 c90 j j hst (q (ah j j)<|nl)<|us<|Go.block<|?_
  obtain ⟨o,hl,h⟩:=bs h
  refine gl c90 j _ (fun (s:(Int×(List Int)×Int×Int×(List Int)))=>match s with | (D8,Ae,Af,Ag,zI)=>mk [(0,M 0),(2,M 2),(3,iv (w64 (1+x16.1))),(4,iv (w64 (1+x19.1))),(5,H 5 0),(6,H 6 0),(8,iv D8)] [(0,Od [Ct 1 (W 1 (eK .u8) Ae),C (I Af),C (.sc (.int .u64 Ag))]),(2,Oa [C (I 0),C (I 0),Z (W 2 af ([]:List ae)),Z (W 2 az ([]:List aj))]),(5,Oc [Z (W 1 eI iG)]),(6,Oc [Z (W 1 eI zI)])]) (fun (o:((List Int)×Int×Int×(List Int))) (p:Ex×St)=>match o with | (gy,gz,gB,iQ)=>p.1= .exit 2∧p.2.norm ([2,3,4,5,6],[0,2,5,6])=mk [(2,M 2),(3,iv (w64 (1+x16.1))),(4,iv (w64 (1+x19.1))),(5,H 5 0),(6,H 6 0)] [(0,Od [Ct 1 (W 1 (eK .u8) gy),C (I gz),C (.sc (.int .u64 gB))]),(2,Oa [C (I 0),C (I 0),Z (W 2 af ([]:List ae)),Z (W 2 az ([]:List aj))]),(5,Oc [Z (W 1 eI iG)]),(6,Oc [Z (W 1 eI iQ)])]) hl (by kernel_rfl) ?_ ?_ ?_
  ·intro o p hp e
   obtain ⟨gy,gz,gB,iQ⟩:=o
   exact nomatch (hp.1.symm.trans e)
  ·rintro ⟨D8,Ae,Af,Ag,zI⟩ o h
   unfold xR at h
   dsimp only at h
   refine gs<|gs<|g0 j j (q (oMv j j)<|q (oMv j j)<|q (oBi j j j j)<|nl)<|us<|gc h j ak (fun hc25 h=>?_) fun hc25 h=>?_
   ·refine Go.skip<|us<|gs<|Go.block<|?_
    obtain ⟨x47,KR,h⟩:=bs h
    obtain ⟨x51,ahQ,h⟩:=bs h
    obtain ⟨x54,ZO,h⟩:=bs h
    refine gd c90 j j j j (mk [(0,M 0),(2,M 2),(3,iv (w64 (1+x16.1))),(4,iv (w64 (1+x19.1))),(5,H 5 0),(6,H 6 0),(8,iv D8)] [(0,Od (G 1 (aS x51.2))),(2,Oa [C (I 0),C (I 0),Z (W 2 af ([]:List ae)),Z (W 2 az ([]:List aj))]),(5,Oc [Z (W 1 eI iG)]),(6,Oc [Z (W 1 eI x54)])]) (t j j (oMv j j)<|t j j (oMv j j)<|t j j (oMv j j)<|t j j (oMv j j)<|sK (O:=[6]) j j j (dN z90 j (xN j KR eX j j j j))<|sK (O:=[6]) j j j (dN z90 j (C9 (cs:=[.im 0 _]) j tF2 j j j j (jH KR) j j))<|t j j (oBi j j j j)<|sS (dN z90 j (oCa (xs:=[.v false [.mp 0 0 0],.v false [.im 0 _]]) (vs:=[(false,[.im 0 _])]) (v:=.v false [.im 0 _]) (aW ahQ) (.inl j) j eF j (ppP j j j (ppC j pp0)) j j (pbP j j pb0) j j j)) (kY ⟨j,trivial⟩ (kY ⟨j,trivial⟩ trivial)) (t j j (oBi j j j j)<|sS (dN z90 j (oBS (es:=List.map eI ([(w64 ((w64 (x47+20))+x51.1))]:List Int)) j eX j (ptC j (fxI fx0) j pt0) (dn j fun _=>j))) (kN j (kN j trivial)) (sS (dN z90 j (xO (en:=eI) (M:=([(w64 ((w64 (x47+20))+x51.1))]:List Int)) j ZO j eX j j uG (.inl ⟨_,j⟩) j j j j (kG j j) (dn j fun _=>j))) (kN j (kN j trivial)) (sS (dN z90 j (oZ j j j j j)) (kN j (kN j trivial)) (sD (by kernel_rfl))))))<|Unw.blk<|us<|g0 j j (q (oMv j j)<|q (oBi j j j j)<|q (ah j j)<|nl)<|Unw.nil<|?_
    cases h
    exact ⟨j,(by kernel_rfl)⟩
   ·refine Go.exit<|ux<|Unw.nil<|?_
    cases h
    exact ⟨j,(by kernel_rfl)⟩
  ·rintro ⟨e,st⟩ hp
   obtain ⟨gy,gz,gB,iQ⟩:=o
   dsimp only at h
   obtain ⟨he,hst⟩:=hp
   obtain rfl:e= .exit 2:=he
   refine Unw.lq<|us<|gs<|?_
   obtain ⟨x57,NH,h⟩:=bs h
   obtain ⟨x61,agk,h⟩:=bs h
   refine gd c90 j j j hst (mk [(2,M 2),(3,iv (w64 (1+x16.1))),(4,iv (w64 (1+x19.1))),(5,H 5 0),(6,H 6 0),(9,M 9)] [(0,Od [Ct 1 (W 1 (eK .u8) gy),C (I gz),C (.sc (.int .u64 gB))]),(2,Oa [C (I 0),C (I 0),Z (W 2 af ([]:List ae)),Z (W 2 az ([]:List aj))]),(5,Oc [Z (W 1 eI iG)]),(6,Oc [Z (W 1 eI iQ)]),(9,Oa [C (I x57),C (I x61),Z (W 2 af ([]:List ae)),Z (W 2 az ([]:List aj))])]) (t j j (oMv j j)<|t j j (oMv j j)<|t j j (xN j NH eX j j j j)<|t j j (C9 (cs:=[.im 0 _]) j tF2 j j j j (jH NH) j j)<|t j j (oMv j j)<|t j j (oMv j j)<|t j j (xN j agk eX j j j j)<|t j j (C9 (cs:=[.im 0 _]) j tF2 j j j j (jH agk) j j)<|sF (dN z90 j (oBu (cs:=[.im 0 _,.im 0 _,.nil,.nil]) j Zm j)) trivial (sS (dN z90 j (oAl j jX (tkI (tkI (tkN (tkN tk0)))))) trivial (sS (dN z90 j (oSt jX j j j (tkI (tkI (tkN (tkN tk0)))) j j j)) trivial (sD (by kernel_rfl)))) (sS (dN z90 j (oAl j jX (tkI (tkI (tkN (tkN tk0)))))) trivial (sS (dN z90 j (oBu (cs:=[.im 0 _,.im 0 _,.nil,.nil]) j Zm j)) trivial (sS (dN z90 j (oSt jX j j j (tkI (tkI (tkN (tkN tk0)))) j j j)) trivial (sD (by kernel_rfl))))))<|us<|gs<|gs<|g0 j j (q (ah j j)<|nl)<|us<|Go.block<|?_
   obtain ⟨o,hl,h⟩:=bs h
   refine gl c90 j _ (fun (s:(Int×(List ae)))=>match s with | (sZ,Ad)=>mk [(2,M 2),(3,iv (w64 (1+x16.1))),(4,iv (w64 (1+x19.1))),(5,H 5 0),(6,H 6 0),(9,M 9),(10,iv sZ)] [(0,Od [Ct 1 (W 1 (eK .u8) gy),C (I gz),C (.sc (.int .u64 gB))]),(2,Oa [C (I 0),C (I 0),Z (W 2 af ([]:List ae)),Z (W 2 az ([]:List aj))]),(5,Oc [Z (W 1 eI iG)]),(6,Oc [Z (W 1 eI iQ)]),(9,Oa [C (I x57),C (I x61),Z (W 2 af Ad),Z (W 2 az ([]:List aj))])]) (fun (mQ:(List ae)) (p:Ex×St)=>p.1= .exit 4∧p.2.norm ([2,3,4,9],[0,2,9])=mk [(2,M 2),(3,iv (w64 (1+x16.1))),(4,iv (w64 (1+x19.1))),(9,M 9)] [(0,Od [Ct 1 (W 1 (eK .u8) gy),C (I gz),C (.sc (.int .u64 gB))]),(2,Oa [C (I 0),C (I 0),Z (W 2 af ([]:List ae)),Z (W 2 az ([]:List aj))]),(9,Oa [C (I x57),C (I x61),Z (W 2 af mQ),Z (W 2 az ([]:List aj))])]) hl (by kernel_rfl) ?_ ?_ ?_
   ·intro o p hp e
    exact nomatch (hp.1.symm.trans e)
   ·rintro ⟨sZ,Ad⟩ o h
    unfold kQ at h
    dsimp only at h
    refine gs<|gs<|g0 j j (q (oMv j j)<|q (oMv j j)<|q (oBi j j j j)<|nl)<|us<|gc h j ak (fun hc21 h=>?_) fun hc21 h=>?_
    ·refine Go.skip<|us<|gs<|Go.block<|gs<|g0 j j (q (ah j j)<|nl)<|us<|Go.block<|?_
     obtain ⟨o,hl,h⟩:=bs h
     refine gl c90 j _ (fun (s:(Int×(List ae)))=>match s with | (Aa,Ac)=>mk [(2,M 2),(3,iv (w64 (1+x16.1))),(4,iv (w64 (1+x19.1))),(5,H 5 0),(6,H 6 0),(9,M 9),(10,iv sZ),(11,iv Aa)] [(0,Od [Ct 1 (W 1 (eK .u8) gy),C (I gz),C (.sc (.int .u64 gB))]),(2,Oa [C (I 0),C (I 0),Z (W 2 af ([]:List ae)),Z (W 2 az ([]:List aj))]),(5,Oc [Z (W 1 eI iG)]),(6,Oc [Z (W 1 eI iQ)]),(9,Oa [C (I x57),C (I x61),Z (W 2 af Ac),Z (W 2 az ([]:List aj))])]) (fun (zu:(List ae)) (p:Ex×St)=>p.1= .exit 6∧p.2.norm ([2,3,4,5,6,9,10],[0,2,5,6,9])=mk [(2,M 2),(3,iv (w64 (1+x16.1))),(4,iv (w64 (1+x19.1))),(5,H 5 0),(6,H 6 0),(9,M 9),(10,iv sZ)] [(0,Od [Ct 1 (W 1 (eK .u8) gy),C (I gz),C (.sc (.int .u64 gB))]),(2,Oa [C (I 0),C (I 0),Z (W 2 af ([]:List ae)),Z (W 2 az ([]:List aj))]),(5,Oc [Z (W 1 eI iG)]),(6,Oc [Z (W 1 eI iQ)]),(9,Oa [C (I x57),C (I x61),Z (W 2 af zu),Z (W 2 az ([]:List aj))])]) hl (by kernel_rfl) ?_ ?_ ?_
     ·intro o p hp e
      exact nomatch (hp.1.symm.trans e)
     ·rintro ⟨Aa,Ac⟩ o h
      unfold kP at h
      dsimp only at h
      refine gs<|gs<|g0 j j (q (oMv j j)<|q (oMv j j)<|q (oBi j j j j)<|nl)<|us<|gc h j ak (fun hc24 h=>?_) fun hc24 h=>?_
      ·refine Go.skip<|us<|gs<|Go.block<|?_
       obtain ⟨x78,acv,h⟩:=bs h
       obtain ⟨x82,XT,h⟩:=bs h
       obtain ⟨x86,Q8,h⟩:=bs h
       refine gd c90 j j j j (mk [(2,M 2),(3,iv (w64 (1+x16.1))),(4,iv (w64 (1+x19.1))),(5,H 5 0),(6,H 6 0),(9,M 9),(10,iv sZ),(11,iv Aa)] [(0,Od [Ct 1 (W 1 (eK .u8) gy),C (I gz),C (.sc (.int .u64 gB))]),(2,Oa [C (I 0),C (I 0),Z (W 2 af ([]:List ae)),Z (W 2 az ([]:List aj))]),(5,Oc [Z (W 1 eI iG)]),(6,Oc [Z (W 1 eI iQ)]),(9,Oa [C (I x57),C (I x61),Z (W 2 af x86),Z (W 2 az ([]:List aj))])]) (t j j (oMv j j)<|t j j (oMv j j)<|t j j (xN j acv eX j j j j)<|t j j (C9 (cs:=[.im 0 _]) j tF2 j j j j (jH acv) j j)<|t j j (oMv j j)<|t j j (oMv j j)<|t j j (xN j XT eX j j j j)<|t j j (C9 (cs:=[.im 0 _]) j tF2 j j j j (jH XT) j j)<|sK (O:=[9]) j j j (dN z90 j (oFA (r':=.mp 9 0 2) j mD j j))<|sK (O:=[9]) j j j (dN z90 j (oLd (cs:=[.own 9 0 2]) j y8 j j))<|sS (dN z90 j (oBu (cs:=[.im 0 _,.im 0 _]) j EM j)) (kY ⟨j,trivial⟩ (kY ⟨j,trivial⟩ trivial)) (sS (dN z90 j (oBS (es:=List.map af ([(⟨x78,x82⟩:ae)]:List ae)) j pG j (ptC j (fxI (fxI fx0)) j pt0) (dn j fun _=>j))) (kY ⟨j,trivial⟩ (kY ⟨j,trivial⟩ trivial)) (sS (dN z90 j (xO (en:=af) (M:=([(⟨x78,x82⟩:ae)]:List ae)) j Q8 j pG j j Bh (.inl ⟨_,j⟩) j j j j (kG j j) (dn j fun _=>j))) (kN j (kN j trivial)) (t j j (oFA (r':=.mp 9 0 2) j mD j j)<|sS (dN z90 j (oSt y8 j j j (tkO j j tk0) j j j)) (kN j (kN j trivial)) (sD (by kernel_rfl))))))<|Unw.blk<|us<|g0 j j (q (oMv j j)<|q (oBi j j j j)<|q (ah j j)<|nl)<|Unw.nil<|?_
       cases h
       exact ⟨j,(by kernel_rfl)⟩
      ·refine Go.exit<|ux<|Unw.nil<|?_
       cases h
       exact ⟨j,(by kernel_rfl)⟩
     ·rintro ⟨e,st⟩ hp
      obtain ⟨zu,rfl⟩:∃y,y=o:=⟨o,rfl⟩
      obtain ⟨he,hst⟩:=hp
      obtain rfl:e= .exit 6:=he
      refine Unw.lq<|Unw.blk<|us<|g2 c90 j j hst (q (oMv j j)<|q (oBi j j j j)<|q (ah j j)<|nl)<|Unw.nil<|?_
      cases h
      exact ⟨j,(by kernel_rfl)⟩
    ·refine Go.exit<|ux<|Unw.nil<|?_
     cases h
     exact ⟨j,(by kernel_rfl)⟩
   ·rintro ⟨e,st⟩ hp
    obtain ⟨mQ,rfl⟩:∃y,y=o:=⟨o,rfl⟩
    obtain ⟨he,hst⟩:=hp
    obtain rfl:e= .exit 4:=he
    refine Unw.lq<|us<|gs<|gs<|g2 c90 j j hst (q (ah j j)<|nl)<|us<|Go.block<|?_
    obtain ⟨o,hl,h⟩:=bs h
    refine gl c90 j _ (fun (s:(Int×(List aj)))=>match s with | (bH,zZ)=>mk [(2,M 2),(3,iv (w64 (1+x16.1))),(4,iv (w64 (1+x19.1))),(9,M 9),(12,iv bH)] [(0,Od [Ct 1 (W 1 (eK .u8) gy),C (I gz),C (.sc (.int .u64 gB))]),(2,Oa [C (I 0),C (I 0),Z (W 2 af ([]:List ae)),Z (W 2 az ([]:List aj))]),(9,Oa [C (I x57),C (I x61),Z (W 2 af mQ),Z (W 2 az zZ)])]) (fun (zx:(List aj)) (p:Ex×St)=>p.1= .exit 8∧p.2.norm ([2,9],[0,2,9])=mk [(2,M 2),(9,M 9)] [(0,Od [Ct 1 (W 1 (eK .u8) gy),C (I gz),C (.sc (.int .u64 gB))]),(2,Oa [C (I 0),C (I 0),Z (W 2 af ([]:List ae)),Z (W 2 az ([]:List aj))]),(9,Oa [C (I x57),C (I x61),Z (W 2 af mQ),Z (W 2 az zx)])]) hl (by kernel_rfl) ?_ ?_ ?_
    ·intro o p hp e
     exact nomatch (hp.1.symm.trans e)
    ·rintro ⟨bH,zZ⟩ o h
     unfold kM at h
     dsimp only at h
     refine gs<|gs<|g0 j j (q (oMv j j)<|q (oMv j j)<|q (oBi j j j j)<|nl)<|us<|gc h j ak (fun hc17 h=>?_) fun hc17 h=>?_
     ·refine Go.skip<|us<|gs<|Go.block<|gs<|g0 j j (q (ah j j)<|nl)<|us<|Go.block<|?_
      obtain ⟨o,hl,h⟩:=bs h
      refine gl c90 j _ (fun (s:(Int×(List aj)))=>match s with | (bK,zY)=>mk [(2,M 2),(3,iv (w64 (1+x16.1))),(4,iv (w64 (1+x19.1))),(9,M 9),(12,iv bH),(13,iv bK)] [(0,Od [Ct 1 (W 1 (eK .u8) gy),C (I gz),C (.sc (.int .u64 gB))]),(2,Oa [C (I 0),C (I 0),Z (W 2 af ([]:List ae)),Z (W 2 az ([]:List aj))]),(9,Oa [C (I x57),C (I x61),Z (W 2 af mQ),Z (W 2 az zY)])]) (fun (yA:(List aj)) (p:Ex×St)=>p.1= .exit 10∧p.2.norm ([2,3,4,9,12],[0,2,9])=mk [(2,M 2),(3,iv (w64 (1+x16.1))),(4,iv (w64 (1+x19.1))),(9,M 9),(12,iv bH)] [(0,Od [Ct 1 (W 1 (eK .u8) gy),C (I gz),C (.sc (.int .u64 gB))]),(2,Oa [C (I 0),C (I 0),Z (W 2 af ([]:List ae)),Z (W 2 az ([]:List aj))]),(9,Oa [C (I x57),C (I x61),Z (W 2 af mQ),Z (W 2 az yA)])]) hl (by kernel_rfl) ?_ ?_ ?_
      ·intro o p hp e
       exact nomatch (hp.1.symm.trans e)
      ·rintro ⟨bK,zY⟩ o h
       unfold kL at h
       dsimp only at h
       refine gs<|gs<|g0 j j (q (oMv j j)<|q (oMv j j)<|q (oBi j j j j)<|nl)<|us<|gc h j ak (fun qA h=>?_) fun qA h=>?_
       ·refine Go.skip<|us<|gs<|Go.block<|gs<|g0 j j (q (oMv j j)<|q (oMv j j)<|q (oBi j j j j)<|q (oBi j j j j)<|q (oMv j j)<|q (oBi j j j j)<|q (ah j j)<|nl)<|us<|?_
        obtain ⟨x107,PD,h⟩:=bs h
        obtain ⟨afb,adp,h⟩:=bs h
        obtain ⟨Zj,TC,h⟩:=bs h
        obtain ⟨yX,TD,h⟩:=bs h
        obtain ⟨adZ,ZP,h⟩:=bs h
        refine gd c90 j j j j (mk [(2,M 2),(3,iv (w64 (1+x16.1))),(4,iv (w64 (1+x19.1))),(9,M 9),(12,iv bH),(13,iv bK)] [(0,Od [Ct 1 (W 1 (eK .u8) gy),C (I gz),C (.sc (.int .u64 gB))]),(2,Oa [C (I 0),C (I 0),Z (W 2 af ([]:List ae)),Z (W 2 az ([]:List aj))]),(9,Oa [C (I x57),C (I x61),Z (W 2 af mQ),Z (W 2 az adZ)])]) (t j j (oMv j j)<|t j j (oMv j j)<|t j j (oMv j j)<|t j j (oMv j j)<|t j j (oBi j j j j)<|t j j (oMv j j)<|t j j (oMv j j)<|t j j (oBi j j j j)<|t j j (oBi j j j j)<|t j j (oMv j j)<|t j j (oMv j j)<|t j j (oBi j j j j)<|t j j (oBi j j j j)<|sK (O:=[9]) j j j (dN z90 j (oFA (r':=.mp 9 0 3) j gU j j))<|sK (O:=[9]) j j j (dN z90 j (oLd (cs:=[.own 9 0 3]) j qw j j))<|sF (dN z90 j (oCa (xs:=[.v false [.im 0 _]]) (vs:=[(false,[.im 0 _])]) (v:=.v false [.im 0 _]) (uS PD) (.inl j) j Jg j (ppC j pp0) j j pb0 j j j)) (kY ⟨j,trivial⟩ (kY ⟨j,trivial⟩ trivial)) (t j j (Un j adp j j)<|sF (dN z90 j (oCa (xs:=[.v false [.im 0 _]]) (vs:=[(false,[.im 0 _])]) (v:=.v false [.im 0 _]) (uS TC) (.inl j) j Jg j (ppC j pp0) j j pb0 j j j)) (kY ⟨j,trivial⟩ (kY ⟨j,trivial⟩ trivial)) (t j j (Un j TD j j)<|sS (dN z90 j (oBS (es:=List.map eI ([(w64 ((w64 (bH* (w64 ((w64 (1+x16.1))+1))))+bK)),(w64 ((w64 ((w64 (bH* (w64 ((w64 (1+x16.1))+1))))+bK))+1)),(w64 ((w64 ((w64 ((w64 (bH* (w64 ((w64 (1+x16.1))+1))))+bK))+(w64 (1+x16.1))))+2)),(w64 ((w64 ((w64 ((w64 (bH* (w64 ((w64 (1+x16.1))+1))))+bK))+(w64 (1+x16.1))))+1))]:List Int)) j eX j (ptC j (fxI fx0) j (ptC j (fxI fx0) j (ptC j (fxI fx0) j (ptC j (fxI fx0) j pt0)))) (dn j fun _=>j))) (kY ⟨j,trivial⟩ (kY ⟨j,trivial⟩ trivial)) (sS (dN z90 j (oBu (cs:=[.im 0 _,.own 123 0 0]) j EL j)) (kY ⟨j,trivial⟩ (kY ⟨j,trivial⟩ trivial)) (sS (dN z90 j (oBS (es:=List.map az ([(⟨yX,([(w64 ((w64 (bH* (w64 ((w64 (1+x16.1))+1))))+bK)),(w64 ((w64 ((w64 (bH* (w64 ((w64 (1+x16.1))+1))))+bK))+1)),(w64 ((w64 ((w64 ((w64 (bH* (w64 ((w64 (1+x16.1))+1))))+bK))+(w64 (1+x16.1))))+2)),(w64 ((w64 ((w64 ((w64 (bH* (w64 ((w64 (1+x16.1))+1))))+bK))+(w64 (1+x16.1))))+1))]:List Int)⟩:aj)]:List aj)) j uF j (ptC j (fxI (fxO j j fx0)) j pt0) (su j))) (kY ⟨j,trivial⟩ (kY ⟨j,trivial⟩ trivial)) (sS (dN z90 j (xO (en:=az) (M:=([(⟨yX,([(w64 ((w64 (bH* (w64 ((w64 (1+x16.1))+1))))+bK)),(w64 ((w64 ((w64 (bH* (w64 ((w64 (1+x16.1))+1))))+bK))+1)),(w64 ((w64 ((w64 ((w64 (bH* (w64 ((w64 (1+x16.1))+1))))+bK))+(w64 (1+x16.1))))+2)),(w64 ((w64 ((w64 ((w64 (bH* (w64 ((w64 (1+x16.1))+1))))+bK))+(w64 (1+x16.1))))+1))]:List Int)⟩:aj)]:List aj)) j ZP j uF j j Eo (.inl ⟨_,j⟩) j j j j (kG j j) (su j))) (kN j (kN j trivial)) (t j j (oFA (r':=.mp 9 0 3) j gU j j)<|sS (dN z90 j (oSt qw j j j (tkO j j tk0) j j j)) (kN j (kN j trivial)) (sD (by kernel_rfl))))))) (sS (dN z90 j (oBS (es:=List.map eI ([(w64 ((w64 (bH* (w64 ((w64 (1+x16.1))+1))))+bK)),(w64 ((w64 ((w64 (bH* (w64 ((w64 (1+x16.1))+1))))+bK))+1)),(w64 ((w64 ((w64 ((w64 (bH* (w64 ((w64 (1+x16.1))+1))))+bK))+(w64 (1+x16.1))))+2)),(w64 ((w64 ((w64 ((w64 (bH* (w64 ((w64 (1+x16.1))+1))))+bK))+(w64 (1+x16.1))))+1))]:List Int)) j eX j (ptC j (fxI fx0) j (ptC j (fxI fx0) j (ptC j (fxI fx0) j (ptC j (fxI fx0) j pt0)))) (dn j fun _=>j))) (kY ⟨j,trivial⟩ (kY ⟨j,trivial⟩ trivial)) (sS (dN z90 j (oCa (xs:=[.v false [.im 0 _]]) (vs:=[(false,[.im 0 _])]) (v:=.v false [.im 0 _]) (uS TC) (.inl j) j Jg j (ppC j pp0) j j pb0 j j j)) (kY ⟨j,trivial⟩ (kY ⟨j,trivial⟩ trivial)) (t j j (Un j TD j j)<|sS (dN z90 j (oBu (cs:=[.im 0 _,.own 123 0 0]) j EL j)) (kY ⟨j,trivial⟩ (kY ⟨j,trivial⟩ trivial)) (sS (dN z90 j (oBS (es:=List.map az ([(⟨yX,([(w64 ((w64 (bH* (w64 ((w64 (1+x16.1))+1))))+bK)),(w64 ((w64 ((w64 (bH* (w64 ((w64 (1+x16.1))+1))))+bK))+1)),(w64 ((w64 ((w64 ((w64 (bH* (w64 ((w64 (1+x16.1))+1))))+bK))+(w64 (1+x16.1))))+2)),(w64 ((w64 ((w64 ((w64 (bH* (w64 ((w64 (1+x16.1))+1))))+bK))+(w64 (1+x16.1))))+1))]:List Int)⟩:aj)]:List aj)) j uF j (ptC j (fxI (fxO j j fx0)) j pt0) (su j))) (kY ⟨j,trivial⟩ (kY ⟨j,trivial⟩ trivial)) (sS (dN z90 j (xO (en:=az) (M:=([(⟨yX,([(w64 ((w64 (bH* (w64 ((w64 (1+x16.1))+1))))+bK)),(w64 ((w64 ((w64 (bH* (w64 ((w64 (1+x16.1))+1))))+bK))+1)),(w64 ((w64 ((w64 ((w64 (bH* (w64 ((w64 (1+x16.1))+1))))+bK))+(w64 (1+x16.1))))+2)),(w64 ((w64 ((w64 ((w64 (bH* (w64 ((w64 (1+x16.1))+1))))+bK))+(w64 (1+x16.1))))+1))]:List Int)⟩:aj)]:List aj)) j ZP j uF j j Eo (.inl ⟨_,j⟩) j j j j (kG j j) (su j))) (kN j (kN j trivial)) (t j j (oFA (r':=.mp 9 0 3) j gU j j)<|sS (dN z90 j (oSt qw j j j (tkO j j tk0) j j j)) (kN j (kN j trivial)) (sD (by kernel_rfl))))))))) (sS (dN z90 j (oBS (es:=List.map eI ([(w64 ((w64 (bH* (w64 ((w64 (1+x16.1))+1))))+bK)),(w64 ((w64 ((w64 (bH* (w64 ((w64 (1+x16.1))+1))))+bK))+1)),(w64 ((w64 ((w64 ((w64 (bH* (w64 ((w64 (1+x16.1))+1))))+bK))+(w64 (1+x16.1))))+2)),(w64 ((w64 ((w64 ((w64 (bH* (w64 ((w64 (1+x16.1))+1))))+bK))+(w64 (1+x16.1))))+1))]:List Int)) j eX j (ptC j (fxI fx0) j (ptC j (fxI fx0) j (ptC j (fxI fx0) j (ptC j (fxI fx0) j pt0)))) (dn j fun _=>j))) (kY ⟨j,trivial⟩ (kY ⟨j,trivial⟩ trivial)) (sS (dN z90 j (oCa (xs:=[.v false [.im 0 _]]) (vs:=[(false,[.im 0 _])]) (v:=.v false [.im 0 _]) (uS PD) (.inl j) j Jg j (ppC j pp0) j j pb0 j j j)) (kY ⟨j,trivial⟩ (kY ⟨j,trivial⟩ trivial)) (t j j (Un j adp j j)<|sS (dN z90 j (oCa (xs:=[.v false [.im 0 _]]) (vs:=[(false,[.im 0 _])]) (v:=.v false [.im 0 _]) (uS TC) (.inl j) j Jg j (ppC j pp0) j j pb0 j j j)) (kY ⟨j,trivial⟩ (kY ⟨j,trivial⟩ trivial)) (t j j (Un j TD j j)<|sS (dN z90 j (oBu (cs:=[.im 0 _,.own 123 0 0]) j EL j)) (kY ⟨j,trivial⟩ (kY ⟨j,trivial⟩ trivial)) (sS (dN z90 j (oBS (es:=List.map az ([(⟨yX,([(w64 ((w64 (bH* (w64 ((w64 (1+x16.1))+1))))+bK)),(w64 ((w64 ((w64 (bH* (w64 ((w64 (1+x16.1))+1))))+bK))+1)),(w64 ((w64 ((w64 ((w64 (bH* (w64 ((w64 (1+x16.1))+1))))+bK))+(w64 (1+x16.1))))+2)),(w64 ((w64 ((w64 ((w64 (bH* (w64 ((w64 (1+x16.1))+1))))+bK))+(w64 (1+x16.1))))+1))]:List Int)⟩:aj)]:List aj)) j uF j (ptC j (fxI (fxO j j fx0)) j pt0) (su j))) (kY ⟨j,trivial⟩ (kY ⟨j,trivial⟩ trivial)) (sS (dN z90 j (xO (en:=az) (M:=([(⟨yX,([(w64 ((w64 (bH* (w64 ((w64 (1+x16.1))+1))))+bK)),(w64 ((w64 ((w64 (bH* (w64 ((w64 (1+x16.1))+1))))+bK))+1)),(w64 ((w64 ((w64 ((w64 (bH* (w64 ((w64 (1+x16.1))+1))))+bK))+(w64 (1+x16.1))))+2)),(w64 ((w64 ((w64 ((w64 (bH* (w64 ((w64 (1+x16.1))+1))))+bK))+(w64 (1+x16.1))))+1))]:List Int)⟩:aj)]:List aj)) j ZP j uF j j Eo (.inl ⟨_,j⟩) j j j j (kG j j) (su j))) (kN j (kN j trivial)) (t j j (oFA (r':=.mp 9 0 3) j gU j j)<|sS (dN z90 j (oSt qw j j j (tkO j j tk0) j j j)) (kN j (kN j trivial)) (sD (by kernel_rfl))))))))))<|Unw.blk<|us<|g0 j j (q (oMv j j)<|q (oBi j j j j)<|q (ah j j)<|nl)<|Unw.nil<|?_
        cases h
        exact ⟨j,(by kernel_rfl)⟩
       ·refine Go.exit<|ux<|Unw.nil<|?_
        cases h
        exact ⟨j,(by kernel_rfl)⟩
      ·rintro ⟨e,st⟩ hp
       obtain ⟨yA,rfl⟩:∃y,y=o:=⟨o,rfl⟩
       obtain ⟨he,hst⟩:=hp
       obtain rfl:e= .exit 10:=he
       refine Unw.lq<|Unw.blk<|us<|g2 c90 j j hst (q (oMv j j)<|q (oBi j j j j)<|q (ah j j)<|nl)<|Unw.nil<|?_
       cases h
       exact ⟨j,(by kernel_rfl)⟩
     ·refine Go.exit<|ux<|Unw.nil<|?_
      cases h
      exact ⟨j,(by kernel_rfl)⟩
    ·rintro ⟨e,st⟩ hp
     obtain ⟨zx,rfl⟩:∃y,y=o:=⟨o,rfl⟩
     obtain ⟨he,hst⟩:=hp
     obtain rfl:e= .exit 8:=he
     refine Unw.lq<|us<|gs<|g2 c90 j j hst (q (oLd (cs:=[.im 0 _,.im 0 _,.own 9 0 2,.own 9 0 3]) j jX j j)<|q (oSt jX j j j (tkI (tkI (tkO j j (tkO j j tk0)))) j j j)<|nl)<|us<|Go.ret (Unw.ret ?_)
     cases h
     exact fr ahL j
theorem OB {s_0:aC} {d_1:aB} {r:(aB×aC)} (h:BN s_0 d_1=some r):FX 91 [.ptr true [(.imm,W 1 (eK .u8) s_0.code),(.imm,I s_0.at_),(.imm,.sc (.int .u64 s_0.seed))],.mvs [(.imm,I d_1.Width),(.imm,I d_1.Height),(.sh,W 2 af d_1.aI),(.sh,W 2 az d_1.ai)]] ([(true,[.im 0 (I r.1.Width),.im 0 (I r.1.Height),.ow 0 2 (List.map af r.1.aI),.ow 0 2 (List.map az r.1.ai)])],[.ptr true [(.imm,W 1 (eK .u8) r.2.code),(.imm,I r.2.at_),(.imm,.sc (.int .u64 r.2.seed))]]):=by
 unfold BN at h
 refine sV (A:=[(0,M 0),(1,.v true [.im 0 (I d_1.Width),.im 0 (I d_1.Height),.own 1 0 2,.own 1 0 3])]) (B:=[(0,Od (G 1 (aS s_0))),(1,some ⟨0,0,false,false,false,true,[C (I d_1.Width),C (I d_1.Height),Z (W 2 af d_1.aI),Z (W 2 az d_1.ai)]⟩)]) (nt:=85) rfl rfl Try.func91 rfl rfl rfl rfl ?_
 refine gs<|g0 j j (q (oBx j jX j (tkI (tkI (tkO j j (tkO j j tk0)))))<|q (oAl j jX (tkI (tkI (tkN (tkN tk0)))))<|nl)<|us<|gs<|g0 j j (q (oFA (r':=.mp 3 0 0) j H7 j j)<|q (oLd (cs:=[.im 0 _]) j tF2 j j)<|q (oFA (r':=.mp 3 0 1) j JL j j)<|q (oLd (cs:=[.im 0 _]) j tF2 j j)<|q (oFA (r':=.mp 3 0 2) j mD j j)<|q (oLd (cs:=[.own 3 0 2]) j y8 j j)<|q (oBu (cs:=[.im 0 _,.im 0 _,.own 3 0 2,.nil]) j Zm j)<|q (oAl j jX (tkI (tkI (tkN (tkN tk0)))))<|q (oSt jX j j j (tkI (tkI (tkO j j (tkN tk0)))) j j j)<|nl)<|us<|gs<|gs<|g1 j j (mk [(0,M 0),(3,M 3),(4,M 4),(5,M 5)] [(0,Od (G 1 (aS s_0))),(3,Oa [C (I d_1.Width),C (I d_1.Height),⟨.gone,0,0,V false⟩,Z (W 2 az d_1.ai)]),(4,Oa [C (I 0),C (I 0),Z (W 2 af ([]:List ae)),Z (W 2 az ([]:List aj))]),(5,Oa [C (I d_1.Width),C (I d_1.Height),Z (W 2 af d_1.aI),Z (W 2 az ([]:List aj))])]) (q (ah j j)<|nl)<|us<|Go.block<|?_
 obtain ⟨o,hl,h⟩:=bs h
 refine gl c91 j _ (fun (s:(Int×(List Int)×Int×Int×(List aj)))=>match s with | (vw,nD,nG,nH,qC)=>mk [(0,M 0),(3,M 3),(4,M 4),(5,M 5),(6,iv vw)] [(0,Od [Ct 1 (W 1 (eK .u8) nD),C (I nG),C (.sc (.int .u64 nH))]),(3,Oa [C (I d_1.Width),C (I d_1.Height),⟨.gone,0,0,V false⟩,Z (W 2 az d_1.ai)]),(4,Oa [C (I 0),C (I 0),Z (W 2 af ([]:List ae)),Z (W 2 az ([]:List aj))]),(5,Oa [C (I d_1.Width),C (I d_1.Height),Z (W 2 af d_1.aI),Z (W 2 az qC)])]) (fun (o:((List Int)×Int×Int×(List aj))) (p:Ex×St)=>match o with | (lH,lI,lJ,uK)=>p.1= .exit 0∧p.2.norm ([4,5],[0,4,5])=mk [(4,M 4),(5,M 5)] [(0,Od [Ct 1 (W 1 (eK .u8) lH),C (I lI),C (.sc (.int .u64 lJ))]),(4,Oa [C (I 0),C (I 0),Z (W 2 af ([]:List ae)),Z (W 2 az ([]:List aj))]),(5,Oa [C (I d_1.Width),C (I d_1.Height),Z (W 2 af d_1.aI),Z (W 2 az uK)])]) hl (by kernel_rfl) ?_ ?_ ?_
 ·intro o p hp e
  obtain ⟨lH,lI,lJ,uK⟩:=o
  exact nomatch (hp.1.symm.trans e)
 ·rintro ⟨vw,nD,nG,nH,qC⟩ o h
  unfold nS at h
  dsimp only at h
  refine gs<|gs<|g0 j j (q (oMv j j)<|q (oFA (r':=.mp 3 0 3) j gU j j)<|q (oLd (cs:=[.own 3 0 3]) j qw j j)<|q (Hu j j Eo j j j (fun e=>nomatch e))<|q (oBi j j j j)<|nl)<|us<|gc h j ak (fun hc9 h=>?_) fun hc9 h=>?_
  ·refine Go.skip<|us<|gs<|Go.join (fun st=>∃yO,∃pV,∃pW,∃pX,tq vw yO pV pW pX=some o∧st.norm ([0,3,4,5,6],[0,3,4,5])=mk [(0,M 0),(3,M 3),(4,M 4),(5,M 5),(6,iv vw)] [(0,Od [Ct 1 (W 1 (eK .u8) pV),C (I pW),C (.sc (.int .u64 pX))]),(3,Oa [C (I d_1.Width),C (I d_1.Height),⟨.gone,0,0,V false⟩,Z (W 2 az d_1.ai)]),(4,Oa [C (I 0),C (I 0),Z (W 2 af ([]:List ae)),Z (W 2 az ([]:List aj))]),(5,Oa [C (I d_1.Width),C (I d_1.Height),Z (W 2 af d_1.aI),Z (W 2 az yO)])]) ?_ ?_
   ·rintro st ⟨yO,pV,pW,pX,h,hst⟩
    unfold tq at h
    refine us<|g2 c91 j j hst (q (oMv j j)<|q (oBi j j j j)<|q (ah j j)<|nl)<|Unw.nil<|?_
    cases h
    exact ⟨j,(by kernel_rfl)⟩
   ·intro K13
    refine Go.block<|gs<|?_
    obtain ⟨x25,hx25,h⟩:=bs h
    refine g0 j j (q (oFA (r':=.mp 3 0 3) j gU j j)<|q (oLd (cs:=[.own 3 0 3]) j qw j j)<|q (oMv j j)<|q (xN j hx25 uF j j j j)<|q (C9 (cs:=[.im 0 _,.im 0 _]) j GN j j j j (jH hx25) j j)<|q (oAl j GN (tkI (tkN tk0)))<|q (oSt GN j j j (tkI (tkI tk0)) j j j)<|nl)<|us<|gs<|?_
    obtain ⟨⟨D9,vK,vM,vN⟩,CB,h⟩:=bs h
    dsimp only at h
    refine gX c91 j j (st1:=mk [(0,M 0),(3,M 3),(4,M 4),(5,M 5),(6,iv vw),(7,M 7)] [(0,Od [Ct 1 (W 1 (eK .u8) nD),C (I nG),C (.sc (.int .u64 nH))]),(3,Oa [C (I d_1.Width),C (I d_1.Height),⟨.gone,0,0,V false⟩,Z (W 2 az d_1.ai)]),(4,Oa [C (I 0),C (I 0),Z (W 2 af ([]:List ae)),Z (W 2 az ([]:List aj))]),(5,Oa [C (I d_1.Width),C (I d_1.Height),Z (W 2 af d_1.aI),Z (W 2 az qC)]),(7,Oa (G 0 (Bg x25)))]) (by kernel_rfl) (mk [(0,M 0),(3,M 3),(4,M 4),(5,M 5),(6,iv vw),(7,M 7),(34,bv D9)] [(0,Od [Ct 1 (W 1 (eK .u8) vK),C (I vM),C (.sc (.int .u64 vN))]),(3,Oa [C (I d_1.Width),C (I d_1.Height),⟨.gone,0,0,V false⟩,Z (W 2 az d_1.ai)]),(4,Oa [C (I 0),C (I 0),Z (W 2 af ([]:List ae)),Z (W 2 az ([]:List aj))]),(5,Oa [C (I d_1.Width),C (I d_1.Height),Z (W 2 af d_1.aI),Z (W 2 az qC)]),(7,Oa (G 0 (Bg x25)))]) ?_ ?_
    ·refine xq (oFA (r':=.mp 7 0 1) j pJ j j)<|xq (oLd (cs:=[.im 0 _]) j oz j j)<|xq (jd j j uG j)<|xq (oBi j j j j)<|xq (oMv j j)<|?_
     refine ic CB (fun Ep CB=>?_) fun Ep CB=>?_
     ·obtain ⟨x33,UQ,CB⟩:=bs CB
      cases CB
      exact xqT j j (iEq.2 Ep) (oMv j j)<|xqT j j (iEq.2 Ep) (oCa (xs:=[.v false [.mp 0 0 0],.v false [.im 0 _]]) (vs:=[(false,[.im 0 _])]) (v:=.v false [.im 0 _]) (oU UQ) (.inl j) j DI j (ppP j j j (ppC j pp0)) j j (pbP j j pb0) j j j)<|xq (bQ j j (iEq.2 Ep) j)<|xn
     ·cases CB
      exact au j j (byF iEq Ep) j<|au j j (byF iEq Ep) j<|xq (bV j j (byF iEq Ep) j)<|xn
    ·refine us<|gc h j iR (fun yc h=>?_) fun yc h=>?_
     ·refine gs<|?_
      obtain ⟨x41,Q9,h⟩:=bs h
      obtain ⟨x45,ZQ,h⟩:=bs h
      obtain ⟨x49,KT,h⟩:=bs h
      obtain ⟨x54,ZO,h⟩:=bs h
      refine gd c91 j j j j (mk [(0,M 0),(3,M 3),(4,M 4),(5,M 5),(6,iv vw),(7,M 7)] [(0,Od [Ct 1 (W 1 (eK .u8) vK),C (I vM),C (.sc (.int .u64 vN))]),(3,Oa [C (I d_1.Width),C (I d_1.Height),⟨.gone,0,0,V false⟩,Z (W 2 az d_1.ai)]),(4,Oa [C (I 0),C (I 0),Z (W 2 af ([]:List ae)),Z (W 2 az ([]:List aj))]),(5,Oa [C (I d_1.Width),C (I d_1.Height),Z (W 2 af d_1.aI),Z (W 2 az x54)]),(7,Oa (G 0 (Bg x25)))]) (t j j (oFA (r':=.mp 7 0 1) j pJ j j)<|t j j (oLd (cs:=[.im 0 _]) j oz j j)<|t j j (gZ j Q9 eX j j)<|t j j (oLd (cs:=[.im 0 _]) j tF2 j j)<|t j j (oFA (r':=.mp 7 0 1) j pJ j j)<|t j j (oLd (cs:=[.im 0 _]) j oz j j)<|t j j (gZ j ZQ eX j j)<|t j j (oLd (cs:=[.im 0 _]) j tF2 j j)<|t j j (oFA (r':=.mp 7 0 1) j pJ j j)<|t j j (oLd (cs:=[.im 0 _]) j oz j j)<|t j j (gZ j KT eX j j)<|t j j (oLd (cs:=[.im 0 _]) j tF2 j j)<|sK (O:=[5]) j j j (dN z91 j (oFA (r':=.mp 5 0 3) j gU j j))<|sK (O:=[5]) j j j (dN z91 j (oLd (cs:=[.own 5 0 3]) j qw j j))<|sK (O:=[7]) j j j (dN z91 j (oFA (r':=.mp 7 0 0) j zF j j))<|sK (O:=[7]) j j j (dN z91 j (oLd (cs:=[.im 0 _]) j tF9 j j))<|sS (dN z91 j (oBS (es:=List.map eI ([x41,x45,x49]:List Int)) j eX j (ptC j (fxI fx0) j (ptC j (fxI fx0) j (ptC j (fxI fx0) j pt0))) (dn j fun _=>j))) (kY ⟨j,trivial⟩ (kY ⟨j,trivial⟩ (kY ⟨j,trivial⟩ (kY ⟨j,trivial⟩ trivial)))) (sS (dN z91 j (oBu (cs:=[.im 0 _,.own 51 0 0]) j EL j)) (kN j (kN j (kY ⟨j,trivial⟩ (kY ⟨j,trivial⟩ trivial)))) (sS (dN z91 j (oBS (es:=List.map az ([(⟨x25.Name,([x41,x45,x49]:List Int)⟩:aj)]:List aj)) j uF j (ptC j (fxI (fxO j j fx0)) j pt0) (su j))) (kN j (kN j (kY ⟨j,trivial⟩ (kY ⟨j,trivial⟩ trivial)))) (sS (dN z91 j (xO (en:=az) (M:=([(⟨x25.Name,([x41,x45,x49]:List Int)⟩:aj)]:List aj)) j ZO j uF j j Eo (.inl ⟨_,j⟩) j j j j (kG j j) (su j))) (kN j (kN j (kN j (kN j trivial)))) (t j j (oFA (r':=.mp 5 0 3) j gU j j)<|sS (dN z91 j (oSt qw j j j (tkO j j tk0) j j j)) (kN j (kN j (kN j (kN j trivial)))) (sD (by kernel_rfl)))))))<|us<|?_
      obtain ⟨x63,aei,h⟩:=bs h
      obtain ⟨x67,TE,h⟩:=bs h
      obtain ⟨x71,aej,h⟩:=bs h
      obtain ⟨x60,OA,h⟩:=bs h
      obtain ⟨x76,TF,h⟩:=bs h
      exact gd c91 j j j j (mk [(0,M 0),(3,M 3),(4,M 4),(5,M 5),(6,iv vw)] [(0,Od [Ct 1 (W 1 (eK .u8) vK),C (I vM),C (.sc (.int .u64 vN))]),(3,Oa [C (I d_1.Width),C (I d_1.Height),⟨.gone,0,0,V false⟩,Z (W 2 az d_1.ai)]),(4,Oa [C (I 0),C (I 0),Z (W 2 af ([]:List ae)),Z (W 2 az ([]:List aj))]),(5,Oa [C (I d_1.Width),C (I d_1.Height),Z (W 2 af d_1.aI),Z (W 2 az x76)])]) (t j j (oFA (r':=.mp 7 0 1) j pJ j j)<|t j j (oLd (cs:=[.im 0 _]) j oz j j)<|t j j (gZ j aei eX j j)<|t j j (oLd (cs:=[.im 0 _]) j tF2 j j)<|t j j (oFA (r':=.mp 7 0 1) j pJ j j)<|t j j (oLd (cs:=[.im 0 _]) j oz j j)<|t j j (gZ j TE eX j j)<|t j j (oLd (cs:=[.im 0 _]) j tF2 j j)<|t j j (oFA (r':=.mp 7 0 1) j pJ j j)<|t j j (oLd (cs:=[.im 0 _]) j oz j j)<|t j j (gZ j aej eX j j)<|t j j (oLd (cs:=[.im 0 _]) j tF2 j j)<|sK (O:=[5]) j j j (dN z91 j (oFA (r':=.mp 5 0 3) j gU j j))<|sK (O:=[5]) j j j (dN z91 j (oLd (cs:=[.own 5 0 3]) j qw j j))<|sK (O:=[7]) j j j (dN z91 j (oFA (r':=.mp 7 0 0) j zF j j))<|sK (O:=[7]) j j j (dN z91 j (oLd (cs:=[.im 0 _]) j tF9 j j))<|t j j (Un j OA j j)<|sS (dN z91 j (oBS (es:=List.map eI ([x63,x67,x71]:List Int)) j eX j (ptC j (fxI fx0) j (ptC j (fxI fx0) j (ptC j (fxI fx0) j pt0))) (dn j fun _=>j))) (kY ⟨j,trivial⟩ (kY ⟨j,trivial⟩ (kY ⟨j,trivial⟩ (kY ⟨j,trivial⟩ trivial)))) (sS (dN z91 j (oBu (cs:=[.im 0 _,.own 73 0 0]) j EL j)) (kN j (kN j (kY ⟨j,trivial⟩ (kY ⟨j,trivial⟩ trivial)))) (sS (dN z91 j (oBS (es:=List.map az ([(⟨x60,([x63,x67,x71]:List Int)⟩:aj)]:List aj)) j uF j (ptC j (fxI (fxO j j fx0)) j pt0) (su j))) (kN j (kN j (kY ⟨j,trivial⟩ (kY ⟨j,trivial⟩ trivial)))) (sS (dN z91 j (xO (en:=az) (M:=([(⟨x60,([x63,x67,x71]:List Int)⟩:aj)]:List aj)) j TF j uF j j Eo (.inl ⟨_,j⟩) j j j j (kG j j) (su j))) (kN j (kN j (kN j (kN j trivial)))) (t j j (oFA (r':=.mp 5 0 3) j gU j j)<|sS (dN z91 j (oSt qw j j j (tkO j j tk0) j j j)) (kN j (kN j (kN j (kN j trivial)))) (sD (by kernel_rfl)))))))<|Unw.blk<|K13 _ ⟨x76,vK,vM,vN,h,(by kernel_rfl)⟩
     ·obtain ⟨x82,XT,h⟩:=bs h
      exact g0 j j (q (oFA (r':=.mp 5 0 3) j gU j j)<|q (oLd (cs:=[.own 5 0 3]) j qw j j)<|q (oLd (cs:=[.im 0 _,.im 0 _]) j GN j j)<|q (oBS (es:=List.map az ([x25]:List aj)) j uF j (ptC j (fxI (fxI fx0)) j pt0) (su j))<|q (xO (en:=az) (M:=([x25]:List aj)) j XT j uF j j Eo (.inl ⟨_,j⟩) j j j j (kG j j) (su j))<|q (oFA (r':=.mp 5 0 3) j gU j j)<|q (oSt qw j j j (tkO j j tk0) j j j)<|nl)<|Unw.blk<|K13 _ ⟨x82,vK,vM,vN,h,(by kernel_rfl)⟩
  ·refine Go.exit<|ux<|Unw.nil<|?_
   cases h
   exact ⟨j,(by kernel_rfl)⟩
 ·rintro ⟨e,st⟩ hp
  obtain ⟨lH,lI,lJ,uK⟩:=o
  dsimp only at h
  obtain ⟨he,hst⟩:=hp
  obtain rfl:e= .exit 0:=he
  refine Unw.lq<|us<|gs<|g2 c91 j j hst (q (oLd (cs:=[.im 0 _,.im 0 _,.own 5 0 2,.own 5 0 3]) j jX j j)<|q (oSt jX j j j (tkI (tkI (tkO j j (tkO j j tk0)))) j j j)<|nl)<|us<|Go.ret (Unw.ret ?_)
  cases h
  exact fr ahM j
theorem FU {s_0:aC} {r:(aB×aC)} (h:uh s_0=some r):FX 42 [.ptr true [(.imm,W 1 (eK .u8) s_0.code),(.imm,I s_0.at_),(.imm,.sc (.int .u64 s_0.seed))]] ([(true,[.im 0 (I r.1.Width),.im 0 (I r.1.Height),.ow 0 2 (List.map af r.1.aI),.ow 0 2 (List.map az r.1.ai)])],[.ptr true [(.imm,W 1 (eK .u8) r.2.code),(.imm,I r.2.at_),(.imm,.sc (.int .u64 r.2.seed))]]):=by
 unfold uh at h
 refine sV (A:=[(0,M 0)]) (B:=[(0,Od (G 1 (aS s_0)))]) (nt:=12) rfl rfl Try.func42 rfl rfl rfl rfl ?_
 refine gs<|g0 j j (q (oAl j jX (tkI (tkI (tkN (tkN tk0)))))<|nl)<|us<|gs<|?_
 obtain ⟨x5,hx5,h⟩:=bs h
 refine g0 j j (q (oMv j j)<|q (oCr (xs:=[.v false [.mp 0 0 0]]) (vs:=[(true,[.im 0 _,.im 0 _,.own 5 0 0,.own 5 0 1])]) (v:=.v true [.im 0 _,.im 0 _,.own 5 0 0,.own 5 0 1]) (c:=⟨.sh,0,_⟩) (cs:=[⟨.sh,0,_⟩]) (NI hx5) (.inl j) j aci j (ppP j j j pp0) j j (pbP j j pb0) j j j)<|q (oAl j jX (tkI (tkI (tkN (tkN tk0)))))<|q (oSt jX j j j (tkI (tkI (tkO j j (tkO j j tk0)))) j j j)<|nl)<|us<|gs<|gs<|?_
 obtain ⟨x7,hx7,h⟩:=bs h
 refine g1 j j (mk [(0,M 0),(2,M 2),(3,M 3)] [(0,Od (G 1 (aS x5.2))),(2,Oa [C (I 0),C (I 0),Z (W 2 af ([]:List ae)),Z (W 2 az ([]:List aj))]),(3,Oa [C (I x5.1.Width),C (I x5.1.Height),Z (W 2 af x5.1.aI),Z (W 2 az x5.1.ai)])]) (q (oMv j j)<|q (oCa (xs:=[.v false [.mp 0 0 0],.v false [.im 0 _]]) (vs:=[(false,[.im 0 _])]) (v:=.v false [.im 0 _]) (oU hx7) (.inl j) j DI j (ppP j j j (ppC j pp0)) j j (pbP j j pb0) j j j)<|nl)<|us<|Go.join (fun st=>∃pV,∃pW,∃pX,∃Dp,∃Dq,∃Dt,∃Du,qY pV pW pX Dp Dq Dt Du=some r∧st.norm ([2,3],[0,2,3])=mk [(2,M 2),(3,M 3)] [(0,Od [Ct 1 (W 1 (eK .u8) pV),C (I pW),C (.sc (.int .u64 pX))]),(2,Oa [C (I 0),C (I 0),Z (W 2 af ([]:List ae)),Z (W 2 az ([]:List aj))]),(3,Oa [C (I Dp),C (I Dq),Z (W 2 af Dt),Z (W 2 az Du)])]) ?_ ?_
 ·rintro st ⟨pV,pW,pX,Dp,Dq,Dt,Du,h,hst⟩
  unfold qY at h
  refine us<|gs<|g2 c42 j j hst (q (oLd (cs:=[.im 0 _,.im 0 _,.own 3 0 2,.own 3 0 3]) j jX j j)<|q (oSt jX j j j (tkI (tkI (tkO j j (tkO j j tk0)))) j j j)<|nl)<|us<|Go.ret (Unw.ret ?_)
  cases h
  exact fr ahx j
 ·intro K2
  refine gc h j iR (fun hc3 h=>?_) fun hc3 h=>?_
  ·obtain ⟨x10,FV,h⟩:=bs h
   exact g1 j j (mk [(0,M 0),(2,M 2),(3,M 3)] [(0,Od (G 1 (aS x7.2))),(2,Oa [C (I 0),C (I 0),Z (W 2 af ([]:List ae)),Z (W 2 az ([]:List aj))]),(3,Oa [C (I x5.1.Width),C (I x5.1.Height),Z (W 2 af x5.1.aI),Z (W 2 az x5.1.ai)])]) (q (oMv j j)<|q (oLd (cs:=[.im 0 _,.im 0 _,.own 3 0 2,.own 3 0 3]) j jX j j)<|q (oCr (xs:=[.v false [.mp 0 0 0],.v true [.im 0 _,.im 0 _,.own 3 0 2,.own 3 0 3]]) (vs:=[(true,[.im 0 _,.im 0 _,.own 10 0 0,.own 10 0 1])]) (v:=.v true [.im 0 _,.im 0 _,.own 10 0 0,.own 10 0 1]) (c:=⟨.sh,0,_⟩) (cs:=[⟨.sh,0,_⟩]) (OB FV) (.inl j) j UJ j (ppP j j j (ppS (tkI (tkI (tkO j j (tkO j j tk0)))) j pp0)) j j (pbP j j pb0) j j j)<|q (oSt jX j j j (tkI (tkI (tkO j j (tkO j j tk0)))) j j j)<|nl)<|K2 _ ⟨x10.2.code,x10.2.at_,x10.2.seed,x10.1.Width,x10.1.Height,x10.1.aI,x10.1.ai,h,(by kernel_rfl)⟩
  ·exact Go.skip<|K2 _ ⟨x7.2.code,x7.2.at_,x7.2.seed,x5.1.Width,x5.1.Height,x5.1.aI,x5.1.ai,h,(by kernel_rfl)⟩
theorem pK {s_0:aC} {xU:(List Int)} {r:(Int×aC)} (h:jP s_0 xU=some r):FX 115 [.ptr true [(.imm,W 1 (eK .u8) s_0.code),(.imm,I s_0.at_),(.imm,.sc (.int .u64 s_0.seed))],.im 2 false [W 1 eI xU]] ([(false,[.im 0 (I r.1)])],[.ptr true [(.imm,W 1 (eK .u8) r.2.code),(.imm,I r.2.at_),(.imm,.sc (.int .u64 r.2.seed))]]):=by
 unfold jP at h
 refine sV (A:=[(0,M 0),(1,D 2 (W 1 eI xU))]) (B:=[(0,Od (G 1 (aS s_0))),(1,none)]) (nt:=12) rfl rfl Try.func115 rfl rfl rfl rfl ?_
 refine gs<|g0 j j (q (ah j j)<|nl)<|us<|gs<|?_
 obtain ⟨x9,hx9,h⟩:=bs h
 obtain ⟨x10,FV,h⟩:=bs h
 refine g0 j j (q (oMv j j)<|q (oMv j j)<|q (oMv j j)<|q (jd j j uG j)<|q (oCa (xs:=[.v false [.mp 0 0 0],.v false [.im 0 _]]) (vs:=[(false,[.im 0 _])]) (v:=.v false [.im 0 _]) (aW hx9) (.inl j) j eF j (ppP j j j (ppC j pp0)) j j (pbP j j pb0) j j j)<|q (gZ j FV eX j j)<|q (oLd (cs:=[.im 2 _]) j tF2 j j)<|q (ah j j)<|nl)<|us<|Go.ret (Unw.ret ?_)
 cases h
 exact fr afE j
theorem Ib {s_0:aC} {xU:(List ByteArray)} {r:(ByteArray×aC)} (h:pY s_0 xU=some r):FX 163 [.ptr true [(.imm,W 1 (eK .u8) s_0.code),(.imm,I s_0.at_),(.imm,.sc (.int .u64 s_0.seed))],.im 2 false [W 1 eS xU]] ([(false,[.im 0 (Y r.1)])],[.ptr true [(.imm,W 1 (eK .u8) r.2.code),(.imm,I r.2.at_),(.imm,.sc (.int .u64 r.2.seed))]]):=by
 unfold pY at h
 refine sV (A:=[(0,M 0),(1,D 2 (W 1 eS xU))]) (B:=[(0,Od (G 1 (aS s_0))),(1,none)]) (nt:=12) rfl rfl Try.func163 rfl rfl rfl rfl ?_
 refine gs<|g0 j j (q (ah j j)<|nl)<|us<|gs<|?_
 obtain ⟨x9,hx9,h⟩:=bs h
 obtain ⟨x10,FV,h⟩:=bs h
 refine g0 j j (q (oMv j j)<|q (oMv j j)<|q (oMv j j)<|q (jd j j ado j)<|q (oCa (xs:=[.v false [.mp 0 0 0],.v false [.im 0 _]]) (vs:=[(false,[.im 0 _])]) (v:=.v false [.im 0 _]) (aW hx9) (.inl j) j eF j (ppP j j j (ppC j pp0)) j j (pbP j j pb0) j j j)<|q (gZ j FV Pz j j)<|q (oLd (cs:=[.im 2 _]) j tF9 j j)<|q (ah j j)<|nl)<|us<|Go.ret (Unw.ret ?_)
 cases h
 exact fr afY j
theorem Ic {s_0:aC} {r:(ByteArray×aC)} (h:qf s_0=some r):FX 116 [.ptr true [(.imm,W 1 (eK .u8) s_0.code),(.imm,I s_0.at_),(.imm,.sc (.int .u64 s_0.seed))]] ([(false,[.im 0 (Y r.1)])],[.ptr true [(.imm,W 1 (eK .u8) r.2.code),(.imm,I r.2.at_),(.imm,.sc (.int .u64 r.2.seed))]]):=by
 unfold qf at h
 refine sV (A:=[(0,M 0)]) (B:=[(0,Od (G 1 (aS s_0)))]) (nt:=6) rfl rfl Try.func116 rfl rfl rfl rfl ?_
 refine gs<|g0 j j (q (ah j j)<|nl)<|us<|gs<|?_
 obtain ⟨x5,hx5,h⟩:=bs h
 refine g0 j j (q (oMv j j)<|q (oBS (es:=List.map eS ([(⟨#[97]⟩:ByteArray),(⟨#[98]⟩:ByteArray),(⟨#[99]⟩:ByteArray),(⟨#[111,97,107]⟩:ByteArray),(⟨#[115,116,97,114,55]⟩:ByteArray),(⟨#[114,111,115,101]⟩:ByteArray),(⟨#[120,57]⟩:ByteArray),(⟨#[97,98,99,100,101,102,103,104,105,106]⟩:ByteArray),(⟨#[97,98,99,100,101,102,103,104,105,106,107]⟩:ByteArray),(⟨#[65]⟩:ByteArray),(⟨#[]⟩:ByteArray),(⟨#[49,97]⟩:ByteArray),(⟨#[97,45,98]⟩:ByteArray)]:List ByteArray)) j Pz j (ptC j (fxI fx0) j (ptC j (fxI fx0) j (ptC j (fxI fx0) j (ptC j (fxI fx0) j (ptC j (fxI fx0) j (ptC j (fxI fx0) j (ptC j (fxI fx0) j (ptC j (fxI fx0) j (ptC j (fxI fx0) j (ptC j (fxI fx0) j (ptC j (fxI fx0) j (ptC j (fxI fx0) j (ptC j (fxI fx0) j pt0))))))))))))) (dn j fun _=>j))<|q (oCa (xs:=[.v false [.mp 0 0 0],.v false [.own 4 0 0]]) (vs:=[(false,[.im 0 _])]) (v:=.v false [.im 0 _]) (Ib hx5) (.inl j) j QV j (ppP j j j (ppC j pp0)) j j (pbP j j pb0) j j j)<|q (ah j j)<|nl)<|us<|Go.ret (Unw.ret ?_)
 cases h
 exact fr afF j
theorem NJ {s_0:aC} {r:(aB×aC)} (h:wC s_0=some r):FX 60 [.ptr true [(.imm,W 1 (eK .u8) s_0.code),(.imm,I s_0.at_),(.imm,.sc (.int .u64 s_0.seed))]] ([(true,[.im 0 (I r.1.Width),.im 0 (I r.1.Height),.ow 0 2 (List.map af r.1.aI),.ow 0 2 (List.map az r.1.ai)])],[.ptr true [(.imm,W 1 (eK .u8) r.2.code),(.imm,I r.2.at_),(.imm,.sc (.int .u64 r.2.seed))]]):=by
 unfold wC at h
 refine sV (A:=[(0,M 0)]) (B:=[(0,Od (G 1 (aS s_0)))]) (nt:=153) rfl rfl Try.func60 rfl rfl rfl rfl ?_
 refine gs<|g0 j j (q (oAl j jX (tkI (tkI (tkN (tkN tk0)))))<|nl)<|us<|gs<|?_
 obtain ⟨x8,hx8,h⟩:=bs h
 refine g0 j j (q (oMv j j)<|q (oCr (xs:=[.v false [.mp 0 0 0]]) (vs:=[(true,[.im 0 _,.im 0 _,.own 8 0 0,.own 8 0 1])]) (v:=.v true [.im 0 _,.im 0 _,.own 8 0 0,.own 8 0 1]) (c:=⟨.sh,0,_⟩) (cs:=[⟨.sh,0,_⟩]) (FU hx8) (.inl j) j WJ j (ppP j j j pp0) j j (pbP j j pb0) j j j)<|q (oAl j jX (tkI (tkI (tkN (tkN tk0)))))<|q (oSt jX j j j (tkI (tkI (tkO j j (tkO j j tk0)))) j j j)<|nl)<|us<|gs<|g1 j j (mk [(0,M 0),(2,M 2),(3,M 3)] [(0,Od (G 1 (aS x8.2))),(2,Oa [C (I 0),C (I 0),Z (W 2 af ([]:List ae)),Z (W 2 az ([]:List aj))]),(3,Oa [C (I x8.1.Width),C (I x8.1.Height),Z (W 2 af x8.1.aI),Z (W 2 az x8.1.ai)])]) (q (oFA (r':=.mp 3 0 3) j gU j j)<|q (oLd (cs:=[.own 3 0 3]) j qw j j)<|q (Hu j j Eo j j j (fun e=>nomatch e))<|q (ah j j)<|nl)<|us<|gs<|gs<|?_
 obtain ⟨x13,Ia,h⟩:=bs h
 refine g0 j j (q (oMv j j)<|q (oCa (xs:=[.v false [.mp 0 0 0],.v false [.im 0 _]]) (vs:=[(false,[.im 0 _])]) (v:=.v false [.im 0 _]) (aW Ia) (.inl j) j eF j (ppP j j j (ppC j pp0)) j j (pbP j j pb0) j j j)<|nl)<|us<|Go.join (fun st=>∃Ah,∃Ai,∃Aj,∃Ak,∃Am,∃Ap,∃Aq,dX Ah Ai Aj Ak Am Ap Aq=some r∧st.norm ([2,3],[0,2,3])=mk [(2,M 2),(3,M 3)] [(0,Od [Ct 1 (W 1 (eK .u8) Ah),C (I Ai),C (.sc (.int .u64 Aj))]),(2,Oa [C (I 0),C (I 0),Z (W 2 af ([]:List ae)),Z (W 2 az ([]:List aj))]),(3,Oa [C (I Ak),C (I Am),Z (W 2 af Ap),Z (W 2 az Aq)])]) ?_ ?_
 ·rintro st ⟨Ah,Ai,Aj,Ak,Am,Ap,Aq,h,hst⟩
  unfold dX at h
  refine us<|gs<|g2 c60 j j hst (q (oLd (cs:=[.im 0 _,.im 0 _,.own 3 0 2,.own 3 0 3]) j jX j j)<|q (oSt jX j j j (tkI (tkI (tkO j j (tkO j j tk0)))) j j j)<|nl)<|us<|Go.ret (Unw.ret ?_)
  cases h
  exact fr ahE j
 ·intro K14
  refine Go.block<|gs<|g1 j j (mk [(0,M 0),(2,M 2),(3,M 3),(4,iv (x8.1.ai.length:Int)),(13,iv x13.1)] [(0,Od (G 1 (aS x13.2))),(2,Oa [C (I 0),C (I 0),Z (W 2 af ([]:List ae)),Z (W 2 az ([]:List aj))]),(3,Oa [C (I x8.1.Width),C (I x8.1.Height),Z (W 2 af x8.1.aI),Z (W 2 az x8.1.ai)])]) (q (oBi j j j j)<|q (ah j j)<|nl)<|us<|gc h j iEq (fun yc h=>?_) fun yc h=>?_
  ·obtain ⟨x18,FQ,h⟩:=bs h
   exact g0 j j (q (oFA (r':=.mp 3 0 3) j gU j j)<|q (oLd (cs:=[.own 3 0 3]) j qw j j)<|q (adV j FQ uF j j j (bn1 j) bn0 j j j)<|q (oFA (r':=.mp 3 0 3) j gU j j)<|q (oSt qw j j j (adU j j tk0) j j j)<|nl)<|Unw.blk<|K14 _ ⟨x13.2.code,x13.2.at_,x13.2.seed,x8.1.Width,x8.1.Height,x8.1.aI,((x8.1.ai.take ((x8.1.ai.length:Int).toNat)).drop ((1:Int).toNat)),h,(by kernel_rfl)⟩
  ·refine gs<|g0 j j (q (oBi j j j j)<|q (ah j j)<|nl)<|us<|gc h j iEq (fun hc16 h=>?_) fun hc16 h=>?_
   ·obtain ⟨x26,Rf,h⟩:=bs h
    exact g0 j j (q (oFA (r':=.mp 3 0 2) j mD j j)<|q (oLd (cs:=[.own 3 0 2]) j y8 j j)<|q (oBu (cs:=[.im 0 _,.im 0 _]) j EM j)<|q (oBS (es:=List.map af ([(⟨7,3⟩:ae)]:List ae)) j pG j (ptC j (fxI (fxI fx0)) j pt0) (dn j fun _=>j))<|q (xO (en:=af) (M:=([(⟨7,3⟩:ae)]:List ae)) j Rf j pG j j Bh (.inl ⟨_,j⟩) j j j j (kG j j) (dn j fun _=>j))<|q (oFA (r':=.mp 3 0 2) j mD j j)<|q (oSt y8 j j j (tkO j j tk0) j j j)<|nl)<|Unw.blk<|K14 _ ⟨x13.2.code,x13.2.at_,x13.2.seed,x8.1.Width,x8.1.Height,x26,x8.1.ai,h,(by kernel_rfl)⟩
   ·refine gs<|g0 j j (q (oBi j j j j)<|q (ah j j)<|nl)<|us<|gc h j iEq (fun hc17 h=>?_) fun hc17 h=>?_
    ·obtain ⟨x35,UO,h⟩:=bs h
     exact g0 j j (q (oMv j j)<|q (oFA (r':=.mp 3 0 0) j H7 j j)<|q (oLd (cs:=[.im 0 _]) j tF2 j j)<|q (oBi j j j j)<|q (oBS (es:=List.map eI ([(w64 (x8.1.Width+5)),9,10,20000,20001]:List Int)) j eX j (ptC j (fxI fx0) j (ptC j (fxI fx0) j (ptC j (fxI fx0) j (ptC j (fxI fx0) j (ptC j (fxI fx0) j pt0))))) (dn j fun _=>j))<|q (oCa (xs:=[.v false [.mp 0 0 0],.v false [.own 34 0 0]]) (vs:=[(false,[.im 0 _])]) (v:=.v false [.im 0 _]) (pK UO) (.inl j) j BV j (ppP j j j (ppC j pp0)) j j (pbP j j pb0) j j j)<|q (oFA (r':=.mp 3 0 0) j H7 j j)<|q (oSt tF2 j j j (tkI tk0) j j j)<|nl)<|Unw.blk<|K14 _ ⟨x35.2.code,x35.2.at_,x35.2.seed,x35.1,x8.1.Height,x8.1.aI,x8.1.ai,h,(by kernel_rfl)⟩
    ·refine gs<|g0 j j (q (oBi j j j j)<|q (ah j j)<|nl)<|us<|gc h j iEq (fun hc18 h=>?_) fun hc18 h=>?_
     ·obtain ⟨x43,FW,h⟩:=bs h
      obtain ⟨x49,KT,h⟩:=bs h
      exact gd c60 j j j j (mk [(2,M 2),(3,M 3)] [(0,Od (G 1 (aS x43.2))),(2,Oa [C (I 0),C (I 0),Z (W 2 af ([]:List ae)),Z (W 2 az ([]:List aj))]),(3,Oa [C (I x8.1.Width),C (I x8.1.Height),Z (W 2 af x8.1.aI),Z (W 2 az (x8.1.ai.set x43.1.toNat (⟨x49.Name,([0,1,(w64 ((x8.1.aI.length:Int) - 1))]:List Int)⟩:aj)))])]) (t j j (oMv j j)<|t j j (oMv j j)<|sK (O:=[3]) j j j (dN z60 j (oFA (r':=.mp 3 0 3) j gU j j))<|sK (O:=[3]) j j j (dN z60 j (oLd (cs:=[.own 3 0 3]) j qw j j))<|sK (O:=[3]) j j j (dN z60 j (oFA (r':=.mp 3 0 2) j mD j j))<|sK (O:=[3]) j j j (dN z60 j (oLd (cs:=[.own 3 0 2]) j y8 j j))<|sK (O:=[3]) j j j (dN z60 j (Hu j j Bh j j j (fun e=>nomatch e)))<|t j j (oBi j j j j)<|sF (dN z60 j (oCa (xs:=[.v false [.mp 0 0 0],.v false [.im 0 _]]) (vs:=[(false,[.im 0 _])]) (v:=.v false [.im 0 _]) (aW FW) (.inl j) j eF j (ppP j j j (ppC j pp0)) j j (pbP j j pb0) j j j)) (kY ⟨j,trivial⟩ (kY ⟨j,trivial⟩ (kY ⟨j,trivial⟩ (kY ⟨j,trivial⟩ (kY ⟨j,trivial⟩ trivial))))) (sS (dN z60 j (oBS (es:=List.map eI ([0,1,(w64 ((x8.1.aI.length:Int) - 1))]:List Int)) j eX j (ptC j (fxI fx0) j (ptC j (fxI fx0) j (ptC j (fxI fx0) j pt0))) (dn j fun _=>j))) (kN j (kN j (kN j (kY ⟨j,trivial⟩ (kY ⟨j,trivial⟩ trivial))))) (t j j (xN j KT uF j j j j)<|t j j (oFA (r':=.mpe 3 0 3 _ 1) j pJ j j)<|sS (dN z60 j (Ur (v':=(⟨x49.Name,([0,1,(w64 ((x8.1.aI.length:Int) - 1))]:List Int)⟩:aj)) oz j j j (fxO j j fx0) j j (jH KT) j)) (kN j (kN j (kN j (kN j (kN j trivial))))) (sD (by kernel_rfl)))) (sS (dN z60 j (oBS (es:=List.map eI ([0,1,(w64 ((x8.1.aI.length:Int) - 1))]:List Int)) j eX j (ptC j (fxI fx0) j (ptC j (fxI fx0) j (ptC j (fxI fx0) j pt0))) (dn j fun _=>j))) (kN j (kN j (kN j (kY ⟨j,trivial⟩ (kY ⟨j,trivial⟩ trivial))))) (sS (dN z60 j (oCa (xs:=[.v false [.mp 0 0 0],.v false [.im 0 _]]) (vs:=[(false,[.im 0 _])]) (v:=.v false [.im 0 _]) (aW FW) (.inl j) j eF j (ppP j j j (ppC j pp0)) j j (pbP j j pb0) j j j)) (kY ⟨j,trivial⟩ (kY ⟨j,trivial⟩ (kY ⟨j,trivial⟩ (kY ⟨j,trivial⟩ (kY ⟨j,trivial⟩ trivial))))) (t j j (xN j KT uF j j j j)<|t j j (oFA (r':=.mpe 3 0 3 _ 1) j pJ j j)<|sS (dN z60 j (Ur (v':=(⟨x49.Name,([0,1,(w64 ((x8.1.aI.length:Int) - 1))]:List Int)⟩:aj)) oz j j j (fxO j j fx0) j j (jH KT) j)) (kN j (kN j (kN j (kN j (kN j trivial))))) (sD (by kernel_rfl))))))<|Unw.blk<|K14 _ ⟨x43.2.code,x43.2.at_,x43.2.seed,x8.1.Width,x8.1.Height,x8.1.aI,(x8.1.ai.set x43.1.toNat (⟨x49.Name,([0,1,(w64 ((x8.1.aI.length:Int) - 1))]:List Int)⟩:aj)),h,(by kernel_rfl)⟩
     ·refine gs<|g0 j j (q (oBi j j j j)<|q (ah j j)<|nl)<|us<|gc h j iEq (fun hc19 h=>?_) fun hc19 h=>?_
      ·obtain ⟨x57,NH,h⟩:=bs h
       obtain ⟨x59,UN,h⟩:=bs h
       obtain ⟨x60,OA,h⟩:=bs h
       exact gd c60 j j j j (mk [(2,M 2),(3,M 3)] [(0,Od (G 1 (aS x59.2))),(2,Oa [C (I 0),C (I 0),Z (W 2 af ([]:List ae)),Z (W 2 az ([]:List aj))]),(3,Oa [C (I x8.1.Width),C (I x8.1.Height),Z (W 2 af x8.1.aI),Z (W 2 az (x8.1.ai.set x57.1.toNat (⟨x59.1,x60.Ring⟩:aj)))])]) (t j j (oMv j j)<|t j j (oMv j j)<|t j j (oMv j j)<|sK (O:=[3]) j j j (dN z60 j (oFA (r':=.mp 3 0 3) j gU j j))<|sK (O:=[3]) j j j (dN z60 j (oLd (cs:=[.own 3 0 3]) j qw j j))<|sS (dN z60 j (oCa (xs:=[.v false [.mp 0 0 0],.v false [.im 0 _]]) (vs:=[(false,[.im 0 _])]) (v:=.v false [.im 0 _]) (aW NH) (.inl j) j eF j (ppP j j j (ppC j pp0)) j j (pbP j j pb0) j j j)) (kY ⟨j,trivial⟩ (kY ⟨j,trivial⟩ trivial)) (sS (dN z60 j (oCa (xs:=[.v false [.mp 0 0 0]]) (vs:=[(false,[.im 0 _])]) (v:=.v false [.im 0 _]) (Ic UN) (.inl j) j Zv j (ppP j j j pp0) j j (pbP j j pb0) j j j)) (kY ⟨j,trivial⟩ (kY ⟨j,trivial⟩ trivial)) (t j j (xN j OA uF j j j j)<|t j j (oFA (r':=.mpe 3 0 3 _ 0) j zF j j)<|sS (dN z60 j (Ur (v':=(⟨x59.1,x60.Ring⟩:aj)) tF9 j j j (fxI fx0) j j (jH OA) j)) (kN j (kN j trivial)) (sD (by kernel_rfl)))))<|Unw.blk<|K14 _ ⟨x59.2.code,x59.2.at_,x59.2.seed,x8.1.Width,x8.1.Height,x8.1.aI,(x8.1.ai.set x57.1.toNat (⟨x59.1,x60.Ring⟩:aj)),h,(by kernel_rfl)⟩
      ·refine gs<|g0 j j (q (oBi j j j j)<|q (ah j j)<|nl)<|us<|gc h j iEq (fun qA h=>?_) fun qA h=>?_
       ·obtain ⟨x68,acw,h⟩:=bs h
        obtain ⟨x74,agl,h⟩:=bs h
        obtain ⟨x76,TF,h⟩:=bs h
        exact gd c60 j j j j (mk [(2,M 2),(3,M 3)] [(0,Od (G 1 (aS x74.2))),(2,Oa [C (I 0),C (I 0),Z (W 2 af ([]:List ae)),Z (W 2 az ([]:List aj))]),(3,Oa [C (I x8.1.Width),C (I x8.1.Height),Z (W 2 af x8.1.aI),Z (W 2 az (x8.1.ai.set x68.1.toNat (⟨x76.Name,([0,x74.1]:List Int)⟩:aj)))])]) (t j j (oMv j j)<|t j j (oMv j j)<|t j j (oMv j j)<|sK (O:=[3]) j j j (dN z60 j (oFA (r':=.mp 3 0 3) j gU j j))<|sK (O:=[3]) j j j (dN z60 j (oLd (cs:=[.own 3 0 3]) j qw j j))<|sK (O:=[3]) j j j (dN z60 j (oFA (r':=.mp 3 0 2) j mD j j))<|sK (O:=[3]) j j j (dN z60 j (oLd (cs:=[.own 3 0 2]) j y8 j j))<|sK (O:=[3]) j j j (dN z60 j (Hu j j Bh j j j (fun e=>nomatch e)))<|sF (dN z60 j (oCa (xs:=[.v false [.mp 0 0 0],.v false [.im 0 _]]) (vs:=[(false,[.im 0 _])]) (v:=.v false [.im 0 _]) (aW acw) (.inl j) j eF j (ppP j j j (ppC j pp0)) j j (pbP j j pb0) j j j)) (kY ⟨j,trivial⟩ (kY ⟨j,trivial⟩ (kY ⟨j,trivial⟩ (kY ⟨j,trivial⟩ (kY ⟨j,trivial⟩ trivial))))) (sS (dN z60 j (oBS (es:=List.map eI ([1,(-1),(x8.1.aI.length:Int)]:List Int)) j eX j (ptC j (fxI fx0) j (ptC j (fxI fx0) j (ptC j (fxI fx0) j pt0))) (dn j fun _=>j))) (kN j (kN j (kN j (kY ⟨j,trivial⟩ (kY ⟨j,trivial⟩ trivial))))) (sS (dN z60 j (oCa (xs:=[.v false [.mp 0 0 0],.v false [.own 73 0 0]]) (vs:=[(false,[.im 0 _])]) (v:=.v false [.im 0 _]) (pK agl) (.inl j) j BV j (ppP j j j (ppC j pp0)) j j (pbP j j pb0) j j j)) (kN j (kN j (kN j (kY ⟨j,trivial⟩ (kY ⟨j,trivial⟩ trivial))))) (sS (dN z60 j (oBS (es:=List.map eI ([0,x74.1]:List Int)) j eX j (ptC j (fxI fx0) j (ptC j (fxI fx0) j pt0)) (dn j fun _=>j))) (kN j (kN j (kN j (kY ⟨j,trivial⟩ (kY ⟨j,trivial⟩ trivial))))) (t j j (xN j TF uF j j j j)<|t j j (oFA (r':=.mpe 3 0 3 _ 1) j pJ j j)<|sS (dN z60 j (Ur (v':=(⟨x76.Name,([0,x74.1]:List Int)⟩:aj)) oz j j j (fxO j j fx0) j j (jH TF) j)) (kN j (kN j (kN j (kN j (kN j trivial))))) (sD (by kernel_rfl)))))) (sS (dN z60 j (oBS (es:=List.map eI ([1,(-1),(x8.1.aI.length:Int)]:List Int)) j eX j (ptC j (fxI fx0) j (ptC j (fxI fx0) j (ptC j (fxI fx0) j pt0))) (dn j fun _=>j))) (kN j (kN j (kN j (kY ⟨j,trivial⟩ (kY ⟨j,trivial⟩ trivial))))) (sS (dN z60 j (oCa (xs:=[.v false [.mp 0 0 0],.v false [.im 0 _]]) (vs:=[(false,[.im 0 _])]) (v:=.v false [.im 0 _]) (aW acw) (.inl j) j eF j (ppP j j j (ppC j pp0)) j j (pbP j j pb0) j j j)) (kY ⟨j,trivial⟩ (kY ⟨j,trivial⟩ (kY ⟨j,trivial⟩ (kY ⟨j,trivial⟩ (kY ⟨j,trivial⟩ trivial))))) (sS (dN z60 j (oCa (xs:=[.v false [.mp 0 0 0],.v false [.own 73 0 0]]) (vs:=[(false,[.im 0 _])]) (v:=.v false [.im 0 _]) (pK agl) (.inl j) j BV j (ppP j j j (ppC j pp0)) j j (pbP j j pb0) j j j)) (kN j (kN j (kN j (kY ⟨j,trivial⟩ (kY ⟨j,trivial⟩ trivial))))) (sS (dN z60 j (oBS (es:=List.map eI ([0,x74.1]:List Int)) j eX j (ptC j (fxI fx0) j (ptC j (fxI fx0) j pt0)) (dn j fun _=>j))) (kN j (kN j (kN j (kY ⟨j,trivial⟩ (kY ⟨j,trivial⟩ trivial))))) (t j j (xN j TF uF j j j j)<|t j j (oFA (r':=.mpe 3 0 3 _ 1) j pJ j j)<|sS (dN z60 j (Ur (v':=(⟨x76.Name,([0,x74.1]:List Int)⟩:aj)) oz j j j (fxO j j fx0) j j (jH TF) j)) (kN j (kN j (kN j (kN j (kN j trivial))))) (sD (by kernel_rfl))))))))<|Unw.blk<|K14 _ ⟨x74.2.code,x74.2.at_,x74.2.seed,x8.1.Width,x8.1.Height,x8.1.aI,(x8.1.ai.set x68.1.toNat (⟨x76.Name,([0,x74.1]:List Int)⟩:aj)),h,(by kernel_rfl)⟩
       ·refine gs<|g0 j j (q (oBi j j j j)<|q (ah j j)<|nl)<|us<|gc h j iEq (fun hc21 h=>?_) fun hc21 h=>?_
        ·obtain ⟨x84,acy,h⟩:=bs h
         obtain ⟨x86,Q8,h⟩:=bs h
         exact gd c60 j j j j (mk [(2,M 2),(3,M 3)] [(0,Od (G 1 (aS x13.2))),(2,Oa [C (I 0),C (I 0),Z (W 2 af ([]:List ae)),Z (W 2 az ([]:List aj))]),(3,Oa [C (I x8.1.Width),C (I x8.1.Height),Z (W 2 af (x8.1.aI.set ((1:Int).toNat) x84)),Z (W 2 az x8.1.ai)])]) (t j j (oFA (r':=.mp 3 0 2) j mD j j)<|t j j (oLd (cs:=[.own 3 0 2]) j y8 j j)<|t j j (oFA (r':=.mp 3 0 2) j mD j j)<|t j j (oLd (cs:=[.own 3 0 2]) j y8 j j)<|t j j (xN j acy pG j j j j)<|t j j (C9 (cs:=[.im 0 _,.im 0 _]) j aH j j j j (jH acy) j j)<|t j j (xN j Q8 pG j j j j)<|sS (dN z60 j (Ur (v':=x84) aH j j j (fxI (fxI fx0)) j j (jH Q8) j)) trivial (sD (by kernel_rfl)))<|Unw.blk<|K14 _ ⟨x13.2.code,x13.2.at_,x13.2.seed,x8.1.Width,x8.1.Height,(x8.1.aI.set ((1:Int).toNat) x84),x8.1.ai,h,(by kernel_rfl)⟩
        ·refine gs<|g0 j j (q (oBi j j j j)<|q (ah j j)<|nl)<|us<|gc h j iEq (fun hc22 h=>?_) fun hc22 h=>?_
         ·refine gs<|g0 j j (q (oBu (cs:=[.im 0 _,.im 0 _,.nil,.nil]) j Zm j)<|q (oSt jX j j j (tkI (tkI (tkN (tkN tk0)))) j j j)<|nl)<|us<|gs<|?_
          obtain ⟨x91,hx91,h⟩:=bs h
          refine g1 j j (mk [(0,M 0),(2,M 2),(3,M 3)] [(0,Od (G 1 (aS x13.2))),(2,Oa [C (I 0),C (I 0),Z (W 2 af ([]:List ae)),Z (W 2 az ([]:List aj))]),(3,Oa [C (I 480),C (I 20),Z (W 2 af ([]:List ae)),Z (W 2 az ([]:List aj))])]) (q (oMv j j)<|q (oCa (xs:=[.v false [.mp 0 0 0],.v false [.im 0 _]]) (vs:=[(false,[.im 0 _])]) (v:=.v false [.im 0 _]) (aW hx91) (.inl j) j eF j (ppP j j j (ppC j pp0)) j j (pbP j j pb0) j j j)<|q (oBi j j j j)<|q (ah j j)<|nl)<|us<|gs<|g1 j j (mk [(2,M 2),(3,M 3),(5,iv (w64 (23+x91.1)))] [(0,Od (G 1 (aS x91.2))),(2,Oa [C (I 0),C (I 0),Z (W 2 af ([]:List ae)),Z (W 2 az ([]:List aj))]),(3,Oa [C (I 480),C (I 20),Z (W 2 af ([]:List ae)),Z (W 2 az ([]:List aj))])]) (q (ah j j)<|nl)<|us<|Go.block<|?_
          obtain ⟨o,hl,h⟩:=bs h
          refine gl c60 j _ (fun (s:(Int×(List ae)×(List aj)))=>match s with | (eG,Aw,tu)=>mk [(2,M 2),(3,M 3),(5,iv (w64 (23+x91.1))),(6,iv eG)] [(0,Od (G 1 (aS x91.2))),(2,Oa [C (I 0),C (I 0),Z (W 2 af ([]:List ae)),Z (W 2 az ([]:List aj))]),(3,Oa [C (I 480),C (I 20),Z (W 2 af Aw),Z (W 2 az tu)])]) (fun (o:((List ae)×(List aj))) (p:Ex×St)=>match o with | (uj,uk)=>p.1= .exit 1∧p.2.norm ([2,3],[0,2,3])=mk [(2,M 2),(3,M 3)] [(0,Od (G 1 (aS x91.2))),(2,Oa [C (I 0),C (I 0),Z (W 2 af ([]:List ae)),Z (W 2 az ([]:List aj))]),(3,Oa [C (I 480),C (I 20),Z (W 2 af uj),Z (W 2 az uk)])]) hl (by kernel_rfl) ?_ ?_ ?_
          ·intro o p hp e
           obtain ⟨uj,uk⟩:=o
           exact nomatch (hp.1.symm.trans e)
          ·rintro ⟨eG,Aw,tu⟩ o h
           unfold kR at h
           dsimp only at h
           refine gs<|gs<|g0 j j (q (oMv j j)<|q (oMv j j)<|q (oBi j j j j)<|nl)<|us<|gc h j ak (fun hc27 h=>?_) fun hc27 h=>?_
           ·refine Go.skip<|us<|gs<|Go.join (fun st=>∃Ar,∃Au,qg eG Ar Au=some o∧st.norm ([2,3,5,6],[0,2,3])=mk [(2,M 2),(3,M 3),(5,iv (w64 (23+x91.1))),(6,iv eG)] [(0,Od (G 1 (aS x91.2))),(2,Oa [C (I 0),C (I 0),Z (W 2 af ([]:List ae)),Z (W 2 az ([]:List aj))]),(3,Oa [C (I 480),C (I 20),Z (W 2 af Au),Z (W 2 az Ar)])]) ?_ ?_
            ·rintro st ⟨Ar,Au,h,hst⟩
             unfold qg at h
             refine us<|g2 c60 j j hst (q (oMv j j)<|q (oBi j j j j)<|q (ah j j)<|nl)<|Unw.nil<|?_
             cases h
             exact ⟨j,(by kernel_rfl)⟩
            ·intro K29
             refine Go.block<|gs<|?_
             obtain ⟨x107,PD,h⟩:=bs h
             refine g0 j j (q (oFA (r':=.mp 3 0 2) j mD j j)<|q (oLd (cs:=[.own 3 0 2]) j y8 j j)<|q (oMv j j)<|q (oBi j j j j)<|q (oBu (cs:=[.im 0 _,.im 0 _]) j EM j)<|q (oMv j j)<|q (oBi j j j j)<|q (oBu (cs:=[.im 0 _,.im 0 _]) j EM j)<|q (oBS (es:=List.map af ([(⟨(w64 (20*eG)),0⟩:ae),(⟨(w64 (20*eG)),10⟩:ae)]:List ae)) j pG j (ptC j (fxI (fxI fx0)) j (ptC j (fxI (fxI fx0)) j pt0)) (dn j fun _=>j))<|q (xO (en:=af) (M:=([(⟨(w64 (20*eG)),0⟩:ae),(⟨(w64 (20*eG)),10⟩:ae)]:List ae)) j PD j pG j j Bh (.inl ⟨_,j⟩) j j j j (kG j j) (dn j fun _=>j))<|q (oFA (r':=.mp 3 0 2) j mD j j)<|q (oSt y8 j j j (tkO j j tk0) j j j)<|nl)<|us<|gs<|g1 j j (mk [(2,M 2),(3,M 3),(5,iv (w64 (23+x91.1))),(6,iv eG)] [(0,Od (G 1 (aS x91.2))),(2,Oa [C (I 0),C (I 0),Z (W 2 af ([]:List ae)),Z (W 2 az ([]:List aj))]),(3,Oa [C (I 480),C (I 20),Z (W 2 af x107),Z (W 2 az tu)])]) (q (oMv j j)<|q (oBi j j j j)<|nl)<|us<|gc h j ak (fun jv h=>?_) fun jv h=>?_
             ·obtain ⟨aa7,agm,h⟩:=bs h
              obtain ⟨ad1,agn,h⟩:=bs h
              exact g0 j j (q (oFA (r':=.mp 3 0 3) j gU j j)<|q (oLd (cs:=[.own 3 0 3]) j qw j j)<|q (oMv j j)<|q (oBi j j j j)<|q (XI j uF2 uF5 j)<|q (oBS (es:=List.map (eK .u8) ([(IntKind.wrap .u8 ((w64 (97+eG))))]:List Int)) j KP j (ptC j (fxI fx0) j pt0) (dn j fun _=>j))<|q (ae6 (l:=([(IntKind.wrap .u8 ((w64 (97+eG))))]:List Int)) j ND uF5 uF9 j (kG j j))<|q (Un j agm j j)<|q (oMv j j)<|q (oBi j j j j)<|q (oBi j j j j)<|q (oMv j j)<|q (oBi j j j j)<|q (oMv j j)<|q (oBi j j j j)<|q (oBi j j j j)<|q (oMv j j)<|q (oBi j j j j)<|q (oBi j j j j)<|q (oBS (es:=List.map eI ([(w64 ((w64 (2*eG)) - 2)),(w64 (2*eG)),(w64 ((w64 (2*eG))+1)),(w64 ((w64 (2*eG)) - 1))]:List Int)) j eX j (ptC j (fxI fx0) j (ptC j (fxI fx0) j (ptC j (fxI fx0) j (ptC j (fxI fx0) j pt0)))) (dn j fun _=>j))<|q (oBu (cs:=[.im 0 _,.own 130 0 0]) j EL j)<|q (oBS (es:=List.map az ([(⟨aa7,([(w64 ((w64 (2*eG)) - 2)),(w64 (2*eG)),(w64 ((w64 (2*eG))+1)),(w64 ((w64 (2*eG)) - 1))]:List Int)⟩:aj)]:List aj)) j uF j (ptC j (fxI (fxO j j fx0)) j pt0) (su j))<|q (xO (en:=az) (M:=([(⟨aa7,([(w64 ((w64 (2*eG)) - 2)),(w64 (2*eG)),(w64 ((w64 (2*eG))+1)),(w64 ((w64 (2*eG)) - 1))]:List Int)⟩:aj)]:List aj)) j agn j uF j j Eo (.inl ⟨_,j⟩) j j j j (kG j j) (su j))<|q (oFA (r':=.mp 3 0 3) j gU j j)<|q (oSt qw j j j (tkO j j tk0) j j j)<|nl)<|Unw.blk<|K29 _ ⟨ad1,x107,h,(by kernel_rfl)⟩
             ·exact Go.skip<|Unw.blk<|K29 _ ⟨tu,x107,h,(by kernel_rfl)⟩
           ·refine Go.exit<|ux<|Unw.nil<|?_
            cases h
            exact ⟨j,(by kernel_rfl)⟩
          ·rintro ⟨e,st⟩ hp
           obtain ⟨uj,uk⟩:=o
           dsimp only at h
           obtain ⟨he,hst⟩:=hp
           obtain rfl:e= .exit 1:=he
           exact Unw.lq<|Unw.blk<|K14 _ ⟨x91.2.code,x91.2.at_,x91.2.seed,480,20,uj,uk,h,hst⟩
         ·refine gs<|g0 j j (q (oBi j j j j)<|q (ah j j)<|nl)<|us<|gc h j iEq (fun hc31 h=>?_) fun hc31 h=>?_
          ·obtain ⟨Ut,agp,h⟩:=bs h
           obtain ⟨Zk,adq,h⟩:=bs h
           obtain ⟨KN,agq,h⟩:=bs h
           obtain ⟨x150,hx150,h⟩:=bs h
           exact gd c60 j j j j (mk [(2,M 2),(3,M 3)] [(0,Od (G 1 (aS KN.2))),(2,Oa [C (I 0),C (I 0),Z (W 2 af ([]:List ae)),Z (W 2 az ([]:List aj))]),(3,Oa [C (I x8.1.Width),C (I x8.1.Height),Z (W 2 af (x8.1.aI.set Ut.1.toNat (⟨(w64 (Zk.X+KN.1)),x150.Y⟩:ae))),Z (W 2 az x8.1.ai)])]) (t j j (oMv j j)<|t j j (oFA (r':=.mp 3 0 2) j mD j j)<|t j j (oLd (cs:=[.own 3 0 2]) j y8 j j)<|t j j (Hu j j Bh j j j (fun e=>nomatch e))<|t j j (oMv j j)<|sK (O:=[3]) j j j (dN z60 j (oFA (r':=.mp 3 0 2) j mD j j))<|sK (O:=[3]) j j j (dN z60 j (oLd (cs:=[.own 3 0 2]) j y8 j j))<|sS (dN z60 j (oCa (xs:=[.v false [.mp 0 0 0],.v false [.im 0 _]]) (vs:=[(false,[.im 0 _])]) (v:=.v false [.im 0 _]) (aW agp) (.inl j) j eF j (ppP j j j (ppC j pp0)) j j (pbP j j pb0) j j j)) (kY ⟨j,trivial⟩ (kY ⟨j,trivial⟩ trivial)) (sK (O:=[3]) j j j (dN z60 j (xN j adq pG j j j j))<|sK (O:=[3]) j j j (dN z60 j (oFA (r':=.mpe 3 0 2 _ 0) j gG j j))<|sK (O:=[3]) j j j (dN z60 j (C9 (cs:=[.im 0 _]) j tF2 j j j j (jH adq) j j))<|sS (dN z60 j (oCa (xs:=[.v false [.mp 0 0 0],.v false [.im 0 _]]) (vs:=[(false,[.im 0 _])]) (v:=.v false [.im 0 _]) (aW agq) (.inl j) j eF j (ppP j j j (ppC j pp0)) j j (pbP j j pb0) j j j)) (kY ⟨j,trivial⟩ (kY ⟨j,trivial⟩ (kY ⟨j,trivial⟩ (kY ⟨j,trivial⟩ (kY ⟨j,trivial⟩ trivial))))) (t j j (oBi j j j j)<|t j j (xN j hx150 pG j j j j)<|t j j (oFA (r':=.mpe 3 0 2 _ 0) j gG j j)<|sS (dN z60 j (Ur (v':=(⟨(w64 (Zk.X+KN.1)),x150.Y⟩:ae)) tF2 j j j (fxI fx0) j j (jH hx150) j)) (kN j (kN j (kN j (kN j (kN j trivial))))) (sD (by kernel_rfl)))))<|Unw.blk<|K14 _ ⟨KN.2.code,KN.2.at_,KN.2.seed,x8.1.Width,x8.1.Height,(x8.1.aI.set Ut.1.toNat (⟨(w64 (Zk.X+KN.1)),x150.Y⟩:ae)),x8.1.ai,h,(by kernel_rfl)⟩
          ·exact Go.skip<|Unw.blk<|K14 _ ⟨x13.2.code,x13.2.at_,x13.2.seed,x8.1.Width,x8.1.Height,x8.1.aI,x8.1.ai,h,(by kernel_rfl)⟩
theorem NK {s_0:aC} {r:(aB×aC)} (h:wE s_0=some r):FX 40 [.ptr true [(.imm,W 1 (eK .u8) s_0.code),(.imm,I s_0.at_),(.imm,.sc (.int .u64 s_0.seed))]] ([(true,[.im 0 (I r.1.Width),.im 0 (I r.1.Height),.ow 0 2 (List.map af r.1.aI),.ow 0 2 (List.map az r.1.ai)])],[.ptr true [(.imm,W 1 (eK .u8) r.2.code),(.imm,I r.2.at_),(.imm,.sc (.int .u64 r.2.seed))]]):=by
 unfold wE at h
 refine sV (A:=[(0,M 0)]) (B:=[(0,Od (G 1 (aS s_0)))]) (nt:=9) rfl rfl Try.func40 rfl rfl rfl rfl ?_
 refine gs<|g0 j j (q (oAl j jX (tkI (tkI (tkN (tkN tk0)))))<|nl)<|us<|gs<|gs<|?_
 obtain ⟨x4,hx4,h⟩:=bs h
 refine g0 j j (q (oMv j j)<|q (oCa (xs:=[.v false [.mp 0 0 0],.v false [.im 0 _]]) (vs:=[(false,[.im 0 _])]) (v:=.v false [.im 0 _]) (oU hx4) (.inl j) j DI j (ppP j j j (ppC j pp0)) j j (pbP j j pb0) j j j)<|nl)<|us<|gc h j iR (fun hc1 h=>?_) fun hc1 h=>?_
 ·refine gs<|?_
  obtain ⟨x6,hx6,h⟩:=bs h
  refine g1 j j (mk [(0,M 0),(2,M 2)] [(0,Od (G 1 (aS x4.2))),(2,Oa [C (I 0),C (I 0),Z (W 2 af ([]:List ae)),Z (W 2 az ([]:List aj))])]) (q (oMv j j)<|q (oCr (xs:=[.v false [.mp 0 0 0]]) (vs:=[(true,[.im 0 _,.im 0 _,.own 6 0 0,.own 6 0 1])]) (v:=.v true [.im 0 _,.im 0 _,.own 6 0 0,.own 6 0 1]) (c:=⟨.sh,0,_⟩) (cs:=[⟨.sh,0,_⟩]) (NG hx6) (.inl j) j acf j (ppP j j j pp0) j j (pbP j j pb0) j j j)<|q (oSt jX j j j (tkI (tkI (tkO j j (tkO j j tk0)))) j j j)<|nl)<|us<|Go.ret (Unw.ret ?_)
  cases h
  exact fr aga j
 ·refine Go.skip<|us<|gs<|?_
  obtain ⟨x8,hx8,h⟩:=bs h
  refine g1 j j (mk [(0,M 0),(2,M 2)] [(0,Od (G 1 (aS x4.2))),(2,Oa [C (I 0),C (I 0),Z (W 2 af ([]:List ae)),Z (W 2 az ([]:List aj))])]) (q (oMv j j)<|q (oCr (xs:=[.v false [.mp 0 0 0]]) (vs:=[(true,[.im 0 _,.im 0 _,.own 8 0 0,.own 8 0 1])]) (v:=.v true [.im 0 _,.im 0 _,.own 8 0 0,.own 8 0 1]) (c:=⟨.sh,0,_⟩) (cs:=[⟨.sh,0,_⟩]) (NJ hx8) (.inl j) j ace j (ppP j j j pp0) j j (pbP j j pb0) j j j)<|q (oSt jX j j j (tkI (tkI (tkO j j (tkO j j tk0)))) j j j)<|nl)<|us<|Go.ret (Unw.ret ?_)
  cases h
  exact fr aga j
theorem fH {n_0:Int} {Dv:Int} {xW:Int} {r:Bool} (h:fJ n_0 Dv xW=some r):FX 85 [.im 2 false [I n_0],.im 2 false [I Dv],.im 2 false [I xW]] (B0 [(false,[.im 0 (V r)])]):=by
 unfold fJ at h
 refine gn 15 Try.func85 rfl ?_
 refine gs<|g0 j j (q (ah j j)<|nl)<|us<|gs<|gX c85 j j j (mk [(6,bv ((decide (n_0≥Dv))&&(decide (n_0≤xW))))] []) ?_ ?_
 ·refine xq (oMv j j)<|xq (oMv j j)<|xq (oBi j j j j)<|xq (oMv j j)<|?_
  by_cases hc1:n_0≥Dv
  ·exact xqT rfl rfl (ak.2 hc1) (oMv rfl rfl)<|xqT rfl rfl (ak.2 hc1) (oMv rfl rfl)<|xqT rfl rfl (ak.2 hc1) (oBi rfl rfl rfl rfl)<|xq (bQ rfl rfl (ak.2 hc1) rfl)<|xq (ah rfl rfl)<|xn (Eq.trans (b:=(fun nV:Bool=>mk [(6,bv nV)] []) (decide (n_0≤xW))) (by kernel_rfl) (congrArg (fun nV:Bool=>mk [(6,bv nV)] []) (by first | rfl | (simp [(ak.2 hc1)];done) | (simp [(ak.2 hc1)];omega))))
  ·exact au rfl rfl (byF ak hc1) rfl<|au rfl rfl (byF ak hc1) rfl<|au rfl rfl (byF ak hc1) rfl<|xq (bV rfl rfl (byF ak hc1) rfl)<|xq (ah rfl rfl)<|xn (Eq.trans (b:=(fun nV:Bool=>mk [(6,bv nV)] []) false) (by kernel_rfl) (congrArg (fun nV:Bool=>mk [(6,bv nV)] []) (by first | rfl | (simp [(byF ak hc1)];done) | (simp [(byF ak hc1)];omega))))
 ·refine us<|Go.ret (Unw.ret ?_)
  cases h
  exact fr ahK j
theorem JR {d_0:aB} {r:Bool} (h:tC d_0=some r):FX 86 [.im 2 false [.cp (aJ d_0) 0]] (B0 [(false,[.im 0 (V r)])]):=by
 unfold tC at h
 refine gn 70 Try.func86 rfl ?_
 refine gs<|g0 j j (q (ah j j)<|nl)<|us<|gs<|gs<|g0 j j (q (oMv j j)<|q (oNl j j j)<|q (oFA (r':=.im 2 _) j mD j j)<|q (oLd (cs:=[.im 2 _]) j y8 j j)<|q (jd j j Bh j)<|q (oBi j j j j)<|nl)<|us<|gc h j ak (fun hc1 h=>?_) fun hc1 h=>?_
 ·refine gs<|g0 j j (q (ah j j)<|nl)<|us<|Go.ret (Unw.ret ?_)
  cases h
  exact fr acr j
 ·refine Go.skip<|us<|gs<|gs<|g0 j j (q (ah j j)<|nl)<|us<|Go.block<|?_
  obtain ⟨o,hl,h⟩:=bs h
  refine gl c86 j _ (fun (dQ:Int)=>mk [(0,D 2 (.cp (aJ d_0) 0)),(3,iv dQ)] []) (fun (o:(Unit ⊕ Bool)) (p:Ex×St)=>match o with | (.inl _)=>p.1= .exit 0∧p.2.norm ([],[])=mk [] [] | (.inr r2)=>p.1= .ret∧fin Try.prog cfg 86 Try.f86 [.im 2 false [.cp (aJ d_0) 0]] p.2=some (B0 [(false,[.im 0 (V r2)])])) hl (by kernel_rfl) ?_ ?_ ?_
  ·intro o p hp e
   rcases o with u | r2<;>exact nomatch (hp.1.symm.trans e)
  ·rintro dQ o h
   unfold lU at h
   refine gs<|gs<|g0 j j (q (oMv j j)<|q (oMv j j)<|q (oNl j j j)<|q (oFA (r':=.im 2 _) j mD j j)<|q (oLd (cs:=[.im 2 _]) j y8 j j)<|q (jd j j Bh j)<|q (oBi j j j j)<|nl)<|us<|gc h j ak (fun hc18 h=>?_) fun hc18 h=>?_
   ·refine Go.skip<|us<|gs<|Go.block<|gs<|gs<|?_
    obtain ⟨x25,hx25,h⟩:=bs h
    obtain ⟨x32,hx32,h⟩:=bs h
    obtain ⟨Ea,FY,h⟩:=bs h
    refine gd c86 j j j j (mk [(0,D 2 (.cp (aJ d_0) 0)),(3,iv dQ),(49,bv Ea)] []) ?_ ?_
    ·refine t j j (oMv j j)<|t j j (oNl j j j)<|t j j (oFA (r':=.im 2 _) j mD j j)<|t j j (oLd (cs:=[.im 2 _]) j y8 j j)<|t j j (oMv j j)<|t j j (gZ j hx25 pG j j)<|t j j (oFA (r':=.im 2 _) j gG j j)<|t j j (oLd (cs:=[.im 2 _]) j tF2 j j)<|t j j (oMv j j)<|t j j (oNl j j j)<|t j j (oFA (r':=.im 2 _) j H7 j j)<|?_
     refine ic FY (fun hc19 FY=>?_) fun hc19 FY=>?_
     ·obtain ⟨x40,Rh,FY⟩:=bs FY
      obtain ⟨x47,KR,FY⟩:=bs FY
      cases FY
      exact t j j (oLd (cs:=[.im 2 _]) j tF2 j j)<|sS (dN z86 j (oCa (xs:=[.v false [.im 2 _],.v false [.im 0 _],.v false [.im 2 _]]) (vs:=[(false,[.im 0 _])]) (v:=.v false [.im 0 _]) (fH hx32) (.inl j) j iU j (ppC j (ppC j (ppC j pp0))) j j pb0 j j j)) trivial (t j j (oUn j j j)<|t j j (oMv j j)<|tT j j j j (nF (iR.2 hc19)) (oMv j j)<|tT j j j j (nF (iR.2 hc19)) (oNl j j j)<|tT j j j j (nF (iR.2 hc19)) (oFA (r':=.im 2 _) j mD j j)<|tT j j j j (nF (iR.2 hc19)) (oLd (cs:=[.im 2 _]) j y8 j j)<|tT j j j j (nF (iR.2 hc19)) (oMv j j)<|tT j j j j (nF (iR.2 hc19)) (gZ j Rh pG j j)<|tT j j j j (nF (iR.2 hc19)) (oFA (r':=.im 2 _) j jb j j)<|tT j j j j (nF (iR.2 hc19)) (oLd (cs:=[.im 2 _]) j tF2 j j)<|tT j j j j (nF (iR.2 hc19)) (oMv j j)<|tT j j j j (nF (iR.2 hc19)) (oNl j j j)<|tT j j j j (nF (iR.2 hc19)) (oFA (r':=.im 2 _) j JL j j)<|tT j j j j (nF (iR.2 hc19)) (oLd (cs:=[.im 2 _]) j tF2 j j)<|sS (dT z86 j j j (nF (iR.2 hc19)) (oCa (xs:=[.v false [.im 2 _],.v false [.im 0 _],.v false [.im 2 _]]) (vs:=[(false,[.im 0 _])]) (v:=.v false [.im 0 _]) (fH KR) (.inl j) j iU j (ppC j (ppC j (ppC j pp0))) j j pb0 j j j)) trivial (tT j j j j (nF (iR.2 hc19)) (oUn j j j)<|t j j (bV j j (nF (iR.2 hc19)) j)<|sD (by kernel_rfl)))
     ·cases FY
      exact t j j (oLd (cs:=[.im 2 _]) j tF2 j j)<|sS (dN z86 j (oCa (xs:=[.v false [.im 2 _],.v false [.im 0 _],.v false [.im 2 _]]) (vs:=[(false,[.im 0 _])]) (v:=.v false [.im 0 _]) (fH hx32) (.inl j) j iU j (ppC j (ppC j (ppC j pp0))) j j pb0 j j j)) trivial (t j j (oUn j j j)<|t j j (oMv j j)<|tF j j j j (nT (byF iR hc19)) j<|tF j j j j (nT (byF iR hc19)) j<|tF j j j j (nT (byF iR hc19)) j<|tF j j j j (nT (byF iR hc19)) j<|tF j j j j (nT (byF iR hc19)) j<|tF j j j j (nT (byF iR hc19)) j<|tF j j j j (nT (byF iR hc19)) j<|tF j j j j (nT (byF iR hc19)) j<|tF j j j j (nT (byF iR hc19)) j<|tF j j j j (nT (byF iR hc19)) j<|tF j j j j (nT (byF iR hc19)) j<|tF j j j j (nT (byF iR hc19)) j<|sS (dF j j j (nT (byF iR hc19)) j) trivial (tF j j j j (nT (byF iR hc19)) j<|t j j (bQ j j (nT (byF iR hc19)) j)<|sD (by kernel_rfl)))
    ·refine us<|gc h j iR (fun qA h=>?_) fun qA h=>?_
     ·refine gs<|g0 j j (q (ah j j)<|nl)<|us<|Go.ret (Unw.ret ?_)
      cases h
      exact ⟨j,(fo acr j)⟩
     ·refine Go.skip<|us<|gs<|g0 j j (q (ah j j)<|nl)<|us<|Go.block<|?_
      obtain ⟨o,hl,h⟩:=bs h
      refine gl c86 j _ (fun (Hy:Int)=>mk [(0,D 2 (.cp (aJ d_0) 0)),(3,iv dQ),(4,iv Hy)] []) (fun (o:(Unit ⊕ Bool)) (p:Ex×St)=>match o with | (.inl _)=>p.1= .exit 2∧p.2.norm ([0,3],[])=mk [(0,D 2 (.cp (aJ d_0) 0)),(3,iv dQ)] [] | (.inr r2)=>p.1= .ret∧fin Try.prog cfg 86 Try.f86 [.im 2 false [.cp (aJ d_0) 0]] p.2=some (B0 [(false,[.im 0 (V r2)])])) hl (by kernel_rfl) ?_ ?_ ?_
      ·intro o p hp e
       rcases o with u | r2<;>exact nomatch (hp.1.symm.trans e)
      ·rintro Hy o h
       unfold lT at h
       refine gs<|gs<|g0 j j (q (oMv j j)<|q (oMv j j)<|q (oBi j j j j)<|nl)<|us<|gc h j ak (fun hc25 h=>?_) fun hc25 h=>?_
       ·refine Go.skip<|us<|gs<|Go.block<|gs<|?_
        obtain ⟨x60,OA,h⟩:=bs h
        obtain ⟨x67,TE,h⟩:=bs h
        refine gd c86 j j j j (mk [(0,D 2 (.cp (aJ d_0) 0)),(3,iv dQ),(4,iv Hy),(69,bv ((x60.X==x67.X)&&(x60.Y==x67.Y)))] []) (t j j (oMv j j)<|t j j (oNl j j j)<|t j j (oFA (r':=.im 2 _) j mD j j)<|t j j (oLd (cs:=[.im 2 _]) j y8 j j)<|t j j (oMv j j)<|t j j (gZ j OA pG j j)<|t j j (oLd (cs:=[.im 2 _,.im 2 _]) j aH j j)<|t j j (oMv j j)<|t j j (oNl j j j)<|t j j (oFA (r':=.im 2 _) j mD j j)<|t j j (oLd (cs:=[.im 2 _]) j y8 j j)<|t j j (oMv j j)<|t j j (gZ j TE pG j j)<|t j j (oLd (cs:=[.im 2 _,.im 2 _]) j aH j j)<|t j j (oBa j (Q4 x60.X x60.Y x67.X x67.Y) j j j j)<|sD (by kernel_rfl))<|us<|gc h j (zq iEq iEq) (fun DJ h=>?_) fun DJ h=>?_
        ·refine gs<|g0 j j (q (ah j j)<|nl)<|us<|Go.ret (Unw.ret ?_)
         cases h
         exact ⟨j,(fo acr j)⟩
        ·refine Go.skip<|Unw.blk<|us<|g0 j j (q (oMv j j)<|q (oBi j j j j)<|q (ah j j)<|nl)<|Unw.nil<|?_
         cases h
         exact ⟨j,(by kernel_rfl)⟩
       ·refine Go.exit<|ux<|Unw.nil<|?_
        cases h
        exact ⟨j,(by kernel_rfl)⟩
      ·rintro ⟨e,st⟩ hp
       rcases o with u | r2
       ·dsimp only at h
        obtain ⟨he,hst⟩:=hp
        obtain rfl:e= .exit 2:=he
        refine Unw.lq<|Unw.blk<|us<|g2 c86 j j hst (q (oMv j j)<|q (oBi j j j j)<|q (ah j j)<|nl)<|Unw.nil<|?_
        cases h
        exact ⟨j,(by kernel_rfl)⟩
       ·dsimp only at h
        obtain ⟨he,hfin⟩:=hp
        obtain rfl:e= .ret:=he
        cases h
        exact Unw.ret ⟨j,hfin⟩
   ·refine Go.exit<|ux<|Unw.nil<|?_
    cases h
    exact ⟨j,(by kernel_rfl)⟩
  ·rintro ⟨e,st⟩ hp
   rcases o with u | r2
   ·dsimp only at h
    obtain ⟨he,hst⟩:=hp
    obtain rfl:e= .exit 0:=he
    refine Unw.lq<|us<|gs<|g2 c86 j j hst (q (ah j j)<|nl)<|us<|Go.ret (Unw.ret ?_)
    cases h
    exact fr acr j
   ·dsimp only at h
    obtain ⟨he,hfin⟩:=hp
    obtain rfl:e= .ret:=he
    cases h
    exact Unw.ret (jl hfin)
theorem EN {c_0:Int} {r:Bool} (h:o5 c_0=some r):FX 143 [.im 2 false [.sc (.int .u8 c_0)]] (B0 [(false,[.im 0 (V r)])]):=by
 unfold o5 at h
 refine gn 9 Try.func143 rfl ?_
 refine gs<|g0 j j (q (ah j j)<|nl)<|us<|gs<|gX c143 j j j (mk [(2,bv ((decide (c_0≥97))&&(decide (c_0≤122))))] []) ?_ ?_
 ·refine xq (oMv j j)<|xq (oBi j j j j)<|xq (oMv j j)<|?_
  by_cases hc1:c_0≥97
  ·exact xqT rfl rfl (ak.2 hc1) (oMv rfl rfl)<|xqT rfl rfl (ak.2 hc1) (oBi rfl rfl rfl rfl)<|xq (bQ rfl rfl (ak.2 hc1) rfl)<|xq (ah rfl rfl)<|xn (Eq.trans (b:=(fun jw:Bool=>mk [(2,bv jw)] []) (decide (c_0≤122))) (by kernel_rfl) (congrArg (fun jw:Bool=>mk [(2,bv jw)] []) (by first | rfl | (simp [(ak.2 hc1)];done) | (simp [(ak.2 hc1)];omega))))
  ·exact au rfl rfl (byF ak hc1) rfl<|au rfl rfl (byF ak hc1) rfl<|xq (bV rfl rfl (byF ak hc1) rfl)<|xq (ah rfl rfl)<|xn (Eq.trans (b:=(fun jw:Bool=>mk [(2,bv jw)] []) false) (by kernel_rfl) (congrArg (fun jw:Bool=>mk [(2,bv jw)] []) (by first | rfl | (simp [(byF ak hc1)];done) | (simp [(byF ak hc1)];omega))))
 ·refine us<|Go.ret (Unw.ret ?_)
  cases h
  exact fr afM j
theorem KU {c_0:Int} {r:Bool} (h:uM c_0=some r):FX 144 [.im 2 false [.sc (.int .u8 c_0)]] (B0 [(false,[.im 0 (V r)])]):=by
 unfold uM at h
 refine gn 9 Try.func144 rfl ?_
 refine gs<|g0 j j (q (ah j j)<|nl)<|us<|gs<|gX afk j j j (mk [(2,bv ((decide (c_0≥48))&&(decide (c_0≤57))))] []) ?_ ?_
 ·refine xq (oMv j j)<|xq (oBi j j j j)<|xq (oMv j j)<|?_
  by_cases hc1:c_0≥48
  ·exact xqT rfl rfl (ak.2 hc1) (oMv rfl rfl)<|xqT rfl rfl (ak.2 hc1) (oBi rfl rfl rfl rfl)<|xq (bQ rfl rfl (ak.2 hc1) rfl)<|xq (ah rfl rfl)<|xn (Eq.trans (b:=(fun jw:Bool=>mk [(2,bv jw)] []) (decide (c_0≤57))) (by kernel_rfl) (congrArg (fun jw:Bool=>mk [(2,bv jw)] []) (by first | rfl | (simp [(ak.2 hc1)];done) | (simp [(ak.2 hc1)];omega))))
  ·exact au rfl rfl (byF ak hc1) rfl<|au rfl rfl (byF ak hc1) rfl<|xq (bV rfl rfl (byF ak hc1) rfl)<|xq (ah rfl rfl)<|xn (Eq.trans (b:=(fun jw:Bool=>mk [(2,bv jw)] []) false) (by kernel_rfl) (congrArg (fun jw:Bool=>mk [(2,bv jw)] []) (by first | rfl | (simp [(byF ak hc1)];done) | (simp [(byF ak hc1)];omega))))
 ·refine us<|Go.ret (Unw.ret ?_)
  cases h
  exact fr afN j
theorem Bj {s_0:ByteArray} {r:Bool} (h:um s_0=some r):FX 87 [.im 2 false [Y s_0]] (B0 [(false,[.im 0 (V r)])]):=by
 unfold um at h
 refine gn 35 Try.func87 rfl ?_
 refine gs<|g0 j j (q (ah j j)<|nl)<|us<|gs<|gs<|?_
 obtain ⟨Qs,CB,h⟩:=bs h
 refine gX c87 j j j (mk [(0,sv s_0),(16,bv Qs)] []) ?_ ?_
 ·refine xq (oMv j j)<|xq (oBi j j j j)<|xq (oMv j j)<|?_
  refine ic CB (fun hc1 CB=>?_) fun hc1 CB=>?_
  ·cases CB
   exact au j j (D6.2 hc1) j<|au j j (D6.2 hc1) j<|au j j (D6.2 hc1) j<|xq (bQ j j (D6.2 hc1) j)<|xq (oMv j j)<|au j j j j<|au j j j j<|au j j j j<|au j j j j<|xq (bQ j j j j)<|xn
  ·refine xqT j j (byF D6 hc1) (oMv j j)<|xqT j j (byF D6 hc1) (Zb j j uF9 j)<|xqT j j (byF D6 hc1) (oBi j j j j)<|xq (bV j j (byF D6 hc1) j)<|xq (oMv j j)<|?_
   refine ic CB (fun hc2 CB=>?_) fun hc2 CB=>?_
   ·cases CB
    exact au j j (ak.2 hc2) j<|au j j (ak.2 hc2) j<|au j j (ak.2 hc2) j<|au j j (ak.2 hc2) j<|xq (bQ j j (ak.2 hc2) j)<|xn
   ·obtain ⟨x13,Ia,CB⟩:=bs CB
    obtain ⟨x14,BH,CB⟩:=bs CB
    cases CB
    exact xqT j j (byF ak hc2) (oMv j j)<|xqT j j (byF ak hc2) (oIx j Ia uF9 j j)<|xqT j j (byF ak hc2) (oCa (xs:=[.v false [.im 0 _]]) (vs:=[(false,[.im 0 _])]) (v:=.v false [.im 0 _]) (EN BH) (.inl j) j WG j (ppC j pp0) j j pb0 j j j)<|xqT j j (byF ak hc2) (oUn j j j)<|xq (bV j j (byF ak hc2) j)<|xn
 ·refine us<|gc h j iR (fun hc3 h=>?_) fun hc3 h=>?_
  ·refine gs<|g0 j j (q (ah j j)<|nl)<|us<|Go.ret (Unw.ret ?_)
   cases h
   exact fr aef j
  ·refine Go.skip<|us<|gs<|gs<|g0 j j (q (ah j j)<|nl)<|us<|Go.block<|?_
   obtain ⟨o,hl,h⟩:=bs h
   refine gl c87 j _ (fun (dQ:Int)=>mk [(0,sv s_0),(3,iv dQ)] []) (fun (o:(Unit ⊕ Bool)) (p:Ex×St)=>match o with | (.inl _)=>p.1= .exit 0∧p.2.norm ([],[])=mk [] [] | (.inr r2)=>p.1= .ret∧fin Try.prog cfg 87 Try.f87 [.im 2 false [Y s_0]] p.2=some (B0 [(false,[.im 0 (V r2)])])) hl (by kernel_rfl) ?_ ?_ ?_
   ·intro o p hp e
    rcases o with u | r2<;>exact nomatch (hp.1.symm.trans e)
   ·rintro dQ o h
    unfold lZ at h
    refine gs<|gs<|g0 j j (q (oMv j j)<|q (oMv j j)<|q (Zb j j uF9 j)<|q (oBi j j j j)<|nl)<|us<|gc h j ak (fun hc12 h=>?_) fun hc12 h=>?_
    ·refine Go.skip<|us<|gs<|Go.block<|gs<|?_
     obtain ⟨x25,hx25,h⟩:=bs h
     obtain ⟨x26,Rf,h⟩:=bs h
     obtain ⟨D9,Ri,h⟩:=bs h
     refine gX c87 j j j (mk [(0,sv s_0),(3,iv dQ),(34,bv D9)] []) ?_ ?_
     ·refine xq (oMv j j)<|xq (oMv j j)<|xq (oIx j hx25 uF9 j j)<|xq (oCa (xs:=[.v false [.im 0 _]]) (vs:=[(false,[.im 0 _])]) (v:=.v false [.im 0 _]) (EN Rf) (.inl j) j WG j (ppC j pp0) j j pb0 j j j)<|xq (oUn j j j)<|xq (oMv j j)<|?_
      refine ic Ri (fun hc13 Ri=>?_) fun hc13 Ri=>?_
      ·cases Ri
       exact au j j (nF (iR.2 hc13)) j<|au j j (nF (iR.2 hc13)) j<|au j j (nF (iR.2 hc13)) j<|au j j (nF (iR.2 hc13)) j<|au j j (nF (iR.2 hc13)) j<|xq (bV j j (nF (iR.2 hc13)) j)<|xn
      ·obtain ⟨x31,hx31,Ri⟩:=bs Ri
       obtain ⟨x32,hx32,Ri⟩:=bs Ri
       cases Ri
       exact xqT j j (nT (byF iR hc13)) (oMv j j)<|xqT j j (nT (byF iR hc13)) (oMv j j)<|xqT j j (nT (byF iR hc13)) (oIx j hx31 uF9 j j)<|xqT j j (nT (byF iR hc13)) (oCa (xs:=[.v false [.im 0 _]]) (vs:=[(false,[.im 0 _])]) (v:=.v false [.im 0 _]) (KU hx32) (.inl j) j ab3 j (ppC j pp0) j j pb0 j j j)<|xqT j j (nT (byF iR hc13)) (oUn j j j)<|xq (bQ j j (nT (byF iR hc13)) j)<|xn
     ·refine us<|gc h j iR (fun Ep h=>?_) fun Ep h=>?_
      ·refine gs<|g0 j j (q (ah j j)<|nl)<|us<|Go.ret (Unw.ret ?_)
       cases h
       exact ⟨j,(fo aef j)⟩
      ·refine Go.skip<|Unw.blk<|us<|g0 j j (q (oMv j j)<|q (oBi j j j j)<|q (ah j j)<|nl)<|Unw.nil<|?_
       cases h
       exact ⟨j,(by kernel_rfl)⟩
    ·refine Go.exit<|ux<|Unw.nil<|?_
     cases h
     exact ⟨j,(by kernel_rfl)⟩
   ·rintro ⟨e,st⟩ hp
    rcases o with u | r2
    ·dsimp only at h
     obtain ⟨he,hst⟩:=hp
     obtain rfl:e= .exit 0:=he
     refine Unw.lq<|us<|gs<|g2 c87 j j hst (q (ah j j)<|nl)<|us<|Go.ret (Unw.ret ?_)
     cases h
     exact fr aef j
    ·dsimp only at h
     obtain ⟨he,hfin⟩:=hp
     obtain rfl:e= .ret:=he
     cases h
     exact Unw.ret (jl hfin)
theorem NL {d_0:aB} {nU:(List Int)} {r:((List ae)×Bool)} (h:wF d_0 nU=some r):FX 88 [.im 2 false [.cp (aJ d_0) 0],.im 2 false [W 1 eI nU]] (B0 [(false,[.ow 0 2 (List.map af r.1)]),(false,[.im 0 (V r.2)])]):=by
 unfold wF at h
 refine gn 41 Try.func88 rfl ?_
 refine gs<|g0 j j (q (Cc j j abV)<|q (ah j j)<|nl)<|us<|gs<|g0 j j (q (oBS (es:=List.map af ([]:List ae)) j pG j pt0 (dn j fun _=>j))<|q (oZ j j j j j)<|nl)<|us<|gs<|gs<|g0 j j (q (ah j j)<|nl)<|us<|Go.block<|?_
 obtain ⟨o,hl,h⟩:=bs h
 refine gl c88 j _ (fun (s:(Int×(List ae)))=>match s with | (Eb,oI)=>mk [(0,D 2 (.cp (aJ d_0) 0)),(1,D 2 (W 1 eI nU)),(6,H 6 0),(7,iv Eb)] [(6,Oc [Z (W 2 af oI)])]) (fun (o:((List ae) ⊕ ((List ae)×Bool))) (p:Ex×St)=>match o with | (.inl lK)=>p.1= .exit 0∧p.2.norm ([6],[6])=mk [(6,H 6 0)] [(6,Oc [Z (W 2 af lK)])] | (.inr r2)=>p.1= .ret∧fin Try.prog cfg 88 Try.f88 [.im 2 false [.cp (aJ d_0) 0],.im 2 false [W 1 eI nU]] p.2=some (B0 [(false,[.ow 0 2 (List.map af r2.1)]),(false,[.im 0 (V r2.2)])])) hl (by kernel_rfl) ?_ ?_ ?_
 ·intro o p hp e
  rcases o with lK | r2<;>exact nomatch (hp.1.symm.trans e)
 ·rintro ⟨Eb,oI⟩ o h
  unfold yY at h
  dsimp only at h
  refine gs<|gs<|g0 j j (q (oMv j j)<|q (oMv j j)<|q (jd j j uG j)<|q (oBi j j j j)<|nl)<|us<|gc h j ak (fun hc5 h=>?_) fun hc5 h=>?_
  ·refine Go.skip<|us<|gs<|Go.block<|gs<|gs<|?_
   obtain ⟨x17,FT,h⟩:=bs h
   obtain ⟨x25,hx25,h⟩:=bs h
   refine gd c88 j j j j (mk [(0,D 2 (.cp (aJ d_0) 0)),(1,D 2 (W 1 eI nU)),(6,H 6 0),(7,iv Eb),(26,bv (!x25))] [(6,Oc [Z (W 2 af oI)])]) (t j j (oMv j j)<|t j j (oMv j j)<|t j j (gZ j FT eX j j)<|t j j (oLd (cs:=[.im 2 _]) j tF2 j j)<|t j j (oMv j j)<|t j j (oNl j j j)<|t j j (oFA (r':=.im 2 _) j mD j j)<|t j j (oLd (cs:=[.im 2 _]) j y8 j j)<|t j j (jd j j Bh j)<|t j j (oBi j j j j)<|sS (dN z88 j (oCa (xs:=[.v false [.im 2 _],.v false [.im 0 _],.v false [.im 0 _]]) (vs:=[(false,[.im 0 _])]) (v:=.v false [.im 0 _]) (fH hx25) (.inl j) j iU j (ppC j (ppC j (ppC j pp0))) j j pb0 j j j)) trivial (t j j (oUn j j j)<|sD (by kernel_rfl)))<|us<|?_
   by_cases hc6:x25=true
   ·rw [if_pos hc6] at h
    refine gF j (nF (iR.2 hc6))<|Go.skip<|us<|?_
    obtain ⟨x34,hx34,h⟩:=bs h
    obtain ⟨x36,KW,h⟩:=bs h
    obtain ⟨x39,hx39,h⟩:=bs h
    refine gd c88 j j j j (mk [(0,D 2 (.cp (aJ d_0) 0)),(1,D 2 (W 1 eI nU)),(6,H 6 0),(7,iv Eb)] [(6,Oc [Z (W 2 af x39)])]) (t j j (oMv j j)<|t j j (oMv j j)<|t j j (oNl j j j)<|t j j (oFA (r':=.im 2 _) j mD j j)<|t j j (oLd (cs:=[.im 2 _]) j y8 j j)<|t j j (oMv j j)<|t j j (oMv j j)<|t j j (gZ j hx34 eX j j)<|t j j (oLd (cs:=[.im 2 _]) j tF2 j j)<|t j j (gZ j KW pG j j)<|t j j (oLd (cs:=[.im 2 _,.im 2 _]) j aH j j)<|sS (dN z88 j (oBS (es:=List.map af ([x36]:List ae)) j pG j (ptC j (fxI (fxI fx0)) j pt0) (dn j fun _=>j))) trivial (sS (dN z88 j (xO (en:=af) (M:=([x36]:List ae)) j hx39 j pG j j Bh (.inl ⟨_,j⟩) j j j j (kG j j) (dn j fun _=>j))) trivial (sS (dN z88 j (oZ j j j j j)) trivial (sD (by kernel_rfl)))))<|Unw.blk<|us<|g0 j j (q (oMv j j)<|q (oBi j j j j)<|q (ah j j)<|nl)<|Unw.nil<|?_
    cases h
    exact ⟨j,(by kernel_rfl)⟩
   ·rw [if_neg hc6] at h
    refine gT j (nT (byF iR hc6))<|gs<|g0 j j (q (Cc j j abV)<|q (ah j j)<|nl)<|us<|Go.ret (Unw.ret ?_)
    cases h
    exact ⟨j,(fo agd j)⟩
  ·refine Go.exit<|ux<|Unw.nil<|?_
   cases h
   exact ⟨j,(by kernel_rfl)⟩
 ·rintro ⟨e,st⟩ hp
  rcases o with lK | r2
  ·dsimp only at h
   obtain ⟨he,hst⟩:=hp
   obtain rfl:e= .exit 0:=he
   refine Unw.lq<|us<|gs<|g2 c88 j j hst (q (oMv j j)<|q (oZ j j j j j)<|q (ah j j)<|nl)<|us<|Go.ret (Unw.ret ?_)
   cases h
   exact fr agd j
  ·dsimp only at h
   obtain ⟨he,hfin⟩:=hp
   obtain rfl:e= .ret:=he
   cases h
   exact Unw.ret (jl hfin)
theorem Rj {p_0:ae} {r:Bool} (h:Hz p_0=some r):FX 145 [.im 2 true (aQ p_0)] (B0 [(false,[.im 0 (V r)])]):=by
 unfold Hz at h
 refine gn 11 Try.func145 rfl ?_
 refine gs<|g0 j j (q (oBx j aH j (tkI (tkI tk0)))<|q (ah j j)<|nl)<|us<|gs<|?_
 obtain ⟨x5,hx5,h⟩:=bs h
 obtain ⟨jw,hm2,h⟩:=bs h
 refine gX c145 j j j (mk [(2,bv jw)] []) ?_ ?_
 ·refine xq (oFA (r':=.mp 1 0 0) j gG j j)<|xq (oLd (cs:=[.im 0 _]) j tF2 j j)<|xq (oCa (xs:=[.v false [.im 0 _],.v false [.im 0 _],.v false [.im 0 _]]) (vs:=[(false,[.im 0 _])]) (v:=.v false [.im 0 _]) (fH hx5) (.inl j) j iU j (ppC j (ppC j (ppC j pp0))) j j pb0 j j j)<|xq (oMv j j)<|?_
  refine ic hm2 (fun hc1 hm2=>?_) fun hc1 hm2=>?_
  ·obtain ⟨x9,hx9,hm2⟩:=bs hm2
   cases hm2
   exact xqT j j (iR.2 hc1) (oFA (r':=.mp 1 0 1) j jb j j)<|xqT j j (iR.2 hc1) (oLd (cs:=[.im 0 _]) j tF2 j j)<|xqT j j (iR.2 hc1) (oCa (xs:=[.v false [.im 0 _],.v false [.im 0 _],.v false [.im 0 _]]) (vs:=[(false,[.im 0 _])]) (v:=.v false [.im 0 _]) (fH hx9) (.inl j) j iU j (ppC j (ppC j (ppC j pp0))) j j pb0 j j j)<|xq (bQ j j (iR.2 hc1) j)<|xq (ah j j)<|xn
  ·cases hm2
   exact au j j (byF iR hc1) j<|au j j (byF iR hc1) j<|au j j (byF iR hc1) j<|xq (bV j j (byF iR hc1) j)<|xq (ah j j)<|xn
 ·refine us<|Go.ret (Unw.ret ?_)
  cases h
  exact fr afO j
theorem KX {a_0:ae} {b_1:ae} {c_2:ae} {r:Int} (h:yB a_0 b_1 c_2=some r):FX 207 [.im 2 true (aQ a_0),.im 2 true (aQ b_1),.im 2 true (aQ c_2)] (B0 [(false,[.im 0 (I r)])]):=by
 unfold yB at h
 refine gn 30 Try.func207 rfl ?_
 refine gs<|g0 j j (q (oBx j aH j (tkI (tkI tk0)))<|q (oBx j aH j (tkI (tkI tk0)))<|q (oBx j aH j (tkI (tkI tk0)))<|q (ah j j)<|nl)<|us<|gs<|g0 j j (q (oFA (r':=.mp 4 0 0) j gG j j)<|q (oLd (cs:=[.im 0 _]) j tF2 j j)<|q (oFA (r':=.mp 3 0 0) j gG j j)<|q (oLd (cs:=[.im 0 _]) j tF2 j j)<|q (oBi j j j j)<|q (oFA (r':=.mp 5 0 1) j jb j j)<|q (oLd (cs:=[.im 0 _]) j tF2 j j)<|q (oFA (r':=.mp 3 0 1) j jb j j)<|q (oLd (cs:=[.im 0 _]) j tF2 j j)<|q (oBi j j j j)<|q (oBi j j j j)<|q (oFA (r':=.mp 4 0 1) j jb j j)<|q (oLd (cs:=[.im 0 _]) j tF2 j j)<|q (oFA (r':=.mp 3 0 1) j jb j j)<|q (oLd (cs:=[.im 0 _]) j tF2 j j)<|q (oBi j j j j)<|q (oFA (r':=.mp 5 0 0) j gG j j)<|q (oLd (cs:=[.im 0 _]) j tF2 j j)<|q (oFA (r':=.mp 3 0 0) j gG j j)<|q (oLd (cs:=[.im 0 _]) j tF2 j j)<|q (oBi j j j j)<|q (oBi j j j j)<|q (oBi j j j j)<|q (ah j j)<|nl)<|us<|Go.ret (Unw.ret ?_)
 cases h
 exact fr af9 j
theorem jY {a_0:ae} {b_1:ae} {c_2:ae} {r:Int} (h:mV a_0 b_1 c_2=some r):FX 189 [.im 2 true (aQ a_0),.im 2 true (aQ b_1),.im 2 true (aQ c_2)] (B0 [(false,[.im 0 (I r)])]):=by
 unfold mV at h
 refine gn 16 Try.func189 rfl ?_
 refine gs<|g0 j j (q (oBx j aH j (tkI (tkI tk0)))<|q (oBx j aH j (tkI (tkI tk0)))<|q (oBx j aH j (tkI (tkI tk0)))<|q (ah j j)<|nl)<|us<|gs<|?_
 obtain ⟨x11,XU,h⟩:=bs h
 refine g0 j j (q (oLd (cs:=[.im 0 _,.im 0 _]) j aH j j)<|q (oLd (cs:=[.im 0 _,.im 0 _]) j aH j j)<|q (oLd (cs:=[.im 0 _,.im 0 _]) j aH j j)<|q (oCa (xs:=[.v true [.im 0 _,.im 0 _],.v true [.im 0 _,.im 0 _],.v true [.im 0 _,.im 0 _]]) (vs:=[(false,[.im 0 _])]) (v:=.v false [.im 0 _]) (KX XU) (.inl j) j Jh j (ppC j (ppC j (ppC j pp0))) j j pb0 j j j)<|q (ah j j)<|nl)<|us<|gs<|gs<|g0 j j (q (oMv j j)<|q (oBi j j j j)<|nl)<|us<|gc h j ak (fun hc1 h=>?_) fun hc1 h=>?_
 ·refine gs<|g0 j j (q (ah j j)<|nl)<|us<|Go.ret (Unw.ret ?_)
  cases h
  exact fr ZH j
 ·refine Go.skip<|us<|gs<|gs<|g0 j j (q (oMv j j)<|q (oBi j j j j)<|nl)<|us<|gc h j ak (fun hc2 h=>?_) fun hc2 h=>?_
  ·refine gs<|g0 j j (q (ah j j)<|nl)<|us<|Go.ret (Unw.ret ?_)
   cases h
   exact fr ZH j
  ·refine Go.skip<|us<|gs<|g0 j j (q (ah j j)<|nl)<|us<|Go.ret (Unw.ret ?_)
   cases h
   exact fr ZH j
theorem ng {a_0:Int} {b_1:Int} {r:Int} (h:mX a_0 b_1=some r):FX 160 [.im 2 false [I a_0],.im 2 false [I b_1]] (B0 [(false,[.im 0 (I r)])]):=by
 unfold mX at h
 refine gn 10 Try.func160 rfl ?_
 refine gs<|g0 j j (q (ah j j)<|nl)<|us<|gs<|gs<|g0 j j (q (oMv j j)<|q (oMv j j)<|q (oBi j j j j)<|nl)<|us<|gc h j ak (fun hc1 h=>?_) fun hc1 h=>?_
 ·refine gs<|g0 j j (q (oMv j j)<|q (ah j j)<|nl)<|us<|Go.ret (Unw.ret ?_)
  cases h
  exact fr adh j
 ·refine Go.skip<|us<|gs<|g0 j j (q (oMv j j)<|q (ah j j)<|nl)<|us<|Go.ret (Unw.ret ?_)
  cases h
  exact fr adh j
theorem ni {a_0:Int} {b_1:Int} {r:Int} (h:lM a_0 b_1=some r):FX 137 [.im 2 false [I a_0],.im 2 false [I b_1]] (B0 [(false,[.im 0 (I r)])]):=by
 unfold lM at h
 refine gn 10 Try.func137 rfl ?_
 refine gs<|g0 j j (q (ah j j)<|nl)<|us<|gs<|gs<|g0 j j (q (oMv j j)<|q (oMv j j)<|q (oBi j j j j)<|nl)<|us<|gc h j ak (fun hc1 h=>?_) fun hc1 h=>?_
 ·refine gs<|g0 j j (q (oMv j j)<|q (ah j j)<|nl)<|us<|Go.ret (Unw.ret ?_)
  cases h
  exact fr ac8 j
 ·refine Go.skip<|us<|gs<|g0 j j (q (oMv j j)<|q (ah j j)<|nl)<|us<|Go.ret (Unw.ret ?_)
  cases h
  exact fr ac8 j
end
end Go.Proofs.Ytdibfdcmbjaejaa
