/- The machine answers, at each function of the program that is reached, what its plain function answers. Conditions: none. -/
import Derived.Test.YtdibfdcmbjaejaaProg
import Derived.KernelRfl
import Derived.Test.YtdibfdcmbjaejaaSimRs
import Derived.Test.YtdibfdcmbjaejaaTrpT
namespace Go.Proofs.Ytdibfdcmbjaejaa
open Go Go.Sim Go.Pw Go.Proofs
set_option linter.unusedVariables false
set_option linter.unusedSimpArgs false
set_option maxRecDepth 100000
set_option maxHeartbeats 4000000
noncomputable section
noncomputable abbrev nH (x:dW):List AV:=[Y x.gm,I x.eF,I x.bC]
noncomputable abbrev dB (x:aH):List AV:=[Y x.Name,Y x.dX.gm,I x.dX.eF,I x.dX.bC,I x.Area,I x.Priority,I x.wH,I x.iV]
noncomputable def ai (x:aH):AV:= .agg (dB x)
noncomputable abbrev bg (x:aB):List AV:=[W 1 (eK .u8) x.code,I x.at_,.sc (.int .u64 x.seed)]
noncomputable abbrev nS (x:cO):List AV:=[I x.X,I x.Y,I x.Width,I x.Length]
noncomputable def gJ (x:cO):AV:= .agg (nS x)
noncomputable abbrev bI (x:dH):List AV:=[Y x.Id,Y x.Fb,I x.Number,Y x.dX.gm,I x.dX.eF,I x.dX.bC,I x.Width,I x.Length,W 4 gJ x.aG]
noncomputable def dG (x:dH):AV:= .agg (bI x)
noncomputable def fc6:dJ:={par:=[.cst false,.cst false],inn:=[],out:=[(10,some ([1,5,112],[5])),(18,some ([5,21,22,23,138],[5,21])),(20,some ([5,21,22,23,25,26],[5,21])),(22,some ([4],[]))],bn:=[],frz:=[],sch:=[(20,.first 0 (rg [1,4,9,15]) [4,5,6,7,8]<| .first 1 (rg [2,4,9,15]) [4,5,6,7,8]<| .first 2 (rg [3,4,9,15]) [4,5,6,7,8]<| .first 3 (rg [9,15]) [4,5,6,7,8]<| .first 4 (rg [6,15]) [5]<| .first 5 (rg [6,15]) []<| .first 6 (rg [7,15]) []<| .first 7 (rg [8,15]) []<| .first 8 (rg [9,15]) []<| .fork 9 (.first 10 [11,12,13,14] []<| .first 11 [13,14] [12]<| .first 12 [14] [13]<| .fork 13 (.fork 14 (.done) (.stop)) (.stop)) (.stop)),(22,.first 0 (rg [1,34]) []<| .first 1 (rg [2,34]) []<| .first 2 (rg [3,34]) []<| .first 3 (rg [5,34]) [4]<| .first 4 (rg [5,34]) []<| .first 5 (rg [6,34]) []<| .first 6 (rg [7,34]) []<| .first 7 (rg [8,34]) []<| .first 8 (rg [9,34]) []<| .first 9 (rg [10,34]) []<| .first 10 (rg [11,34]) []<| .first 11 (rg [12,34]) []<| .first 12 (rg [17,34]) [13,14,15,16]<| .first 13 (rg [14,34]) []<| .first 14 (rg [15,34]) []<| .first 15 (rg [16,34]) []<| .first 16 (rg [17,34]) []<| .first 17 (rg [18,34]) []<| .first 18 (rg [19,34]) []<| .first 19 (rg [20,34]) []<| .first 20 [22,23,24,25,31,32,33] [21,26,27,28,29,30]<| .first 21 [22,23,24,25,31,32,33] [26,27,28,29,30]<| .first 22 [23,24,25,31,32,33] [26,27,28,29,30]<| .first 23 [24,25,31,32,33] [26,27,28,29,30]<| .first 24 [25,31,32,33] [26,27,28,29,30]<| .first 25 [31,32,33] [26,27,28,29,30]<| .first 26 (rg [27,34]) []<| .first 27 (rg [28,34]) []<| .first 28 [29,30,31,32,33] []<| .first 29 [30,31,32,33] []<| .first 30 [31,32,33] []<| .first 31 [32,33] []<| .first 32 [33] []<| .fork 33 (.done) (.stop))],shut:=[]}
noncomputable def aby:dJ:={par:=[.cst false,.cst false],inn:=[],out:=[(1,some ([4],[]))],bn:=[],frz:=[],sch:=[],shut:=[]}
noncomputable def abz:dJ:={par:=[.cst false,.cst false,.cst false],inn:=[],out:=[(1,some ([0,1,2,14],[]))],bn:=[],frz:=[],sch:=[],shut:=[]}
noncomputable def abA:dJ:={par:=[.cst false],inn:=[],out:=[],bn:=[],frz:=[],sch:=[],shut:=[]}
noncomputable def abB:dJ:={par:=[.cst false,.cst false,.cst false],inn:=[],out:=[],bn:=[],frz:=[],sch:=[],shut:=[]}
noncomputable def abC:dJ:={par:=[.cst false,.cst false,.cst false],inn:=[(9,some ([0,1,2,9,11,12,22,23,24],[9,12,22])),(13,some ([0,1,2,9,22,23,24],[9,22])),(14,some ([9],[9])),(15,some ([9],[9]))],out:=[(9,some ([0,1,2,9,11,12,22,23,24,41],[9,12,22]))],bn:=[(6,([0,1,2,9,22,23,24],[9,22]))],frz:=[],sch:=[],shut:=[]}
noncomputable def abD:dJ:={par:=[.cst false,.cst false,.cst false,.cst false],inn:=[(6,some ([],[])),(7,some ([12],[24]))],out:=[(7,some ([8,9,10],[]))],bn:=[],frz:=[8],sch:=[(7,.fork 0 (.fork 1 (.fork 2 (.fork 3 (.fork 4 (.fork 5 (.fork 6 (.fork 7 (.fork 8 (.fork 9 (.fork 10 (.done) (.stop)) (.stop)) (.stop)) (.fork 8 (.fork 7 (.fork 9 (.fork 10 (.done) (.stop)) (.stop)) (.stop)) (.stop))) (.fork 8 (.fork 6 (.fork 7 (.fork 9 (.fork 10 (.done) (.stop)) (.stop)) (.stop)) (.stop)) (.stop))) (.fork 8 (.fork 5 (.fork 6 (.fork 7 (.fork 9 (.fork 10 (.done) (.stop)) (.stop)) (.stop)) (.stop)) (.stop)) (.stop))) (.fork 8 (.fork 4 (.fork 5 (.fork 6 (.fork 7 (.fork 9 (.fork 10 (.done) (.stop)) (.stop)) (.stop)) (.stop)) (.stop)) (.stop)) (.stop))) (.fork 4 (.fork 3 (.fork 5 (.fork 6 (.fork 7 (.fork 8 (.fork 9 (.fork 10 (.done) (.stop)) (.stop)) (.stop)) (.fork 8 (.fork 7 (.fork 9 (.fork 10 (.done) (.stop)) (.stop)) (.stop)) (.stop))) (.fork 8 (.fork 6 (.fork 7 (.fork 9 (.fork 10 (.done) (.stop)) (.stop)) (.stop)) (.stop)) (.stop))) (.fork 8 (.fork 5 (.fork 6 (.fork 7 (.fork 9 (.fork 10 (.done) (.stop)) (.stop)) (.stop)) (.stop)) (.stop)) (.stop))) (.fork 5 (.fork 3 (.fork 6 (.fork 7 (.fork 8 (.fork 9 (.fork 10 (.done) (.stop)) (.stop)) (.stop)) (.fork 8 (.fork 7 (.fork 9 (.fork 10 (.done) (.stop)) (.stop)) (.stop)) (.stop))) (.fork 8 (.fork 6 (.fork 7 (.fork 9 (.fork 10 (.done) (.stop)) (.stop)) (.stop)) (.stop)) (.stop))) (.fork 6 (.fork 3 (.fork 7 (.fork 8 (.fork 9 (.fork 10 (.done) (.stop)) (.stop)) (.stop)) (.fork 8 (.fork 7 (.fork 9 (.fork 10 (.done) (.stop)) (.stop)) (.stop)) (.stop))) (.fork 7 (.fork 3 (.fork 8 (.fork 9 (.fork 10 (.done) (.stop)) (.stop)) (.stop)) (.stop)) (.stop))) (.stop))) (.stop))) (.stop))) (.fork 4 (.fork 2 (.fork 3 (.fork 5 (.fork 6 (.fork 7 (.fork 8 (.fork 9 (.fork 10 (.done) (.stop)) (.stop)) (.stop)) (.fork 8 (.fork 7 (.fork 9 (.fork 10 (.done) (.stop)) (.stop)) (.stop)) (.stop))) (.fork 8 (.fork 6 (.fork 7 (.fork 9 (.fork 10 (.done) (.stop)) (.stop)) (.stop)) (.stop)) (.stop))) (.fork 8 (.fork 5 (.fork 6 (.fork 7 (.fork 9 (.fork 10 (.done) (.stop)) (.stop)) (.stop)) (.stop)) (.stop)) (.stop))) (.fork 5 (.fork 3 (.fork 6 (.fork 7 (.fork 8 (.fork 9 (.fork 10 (.done) (.stop)) (.stop)) (.stop)) (.fork 8 (.fork 7 (.fork 9 (.fork 10 (.done) (.stop)) (.stop)) (.stop)) (.stop))) (.fork 8 (.fork 6 (.fork 7 (.fork 9 (.fork 10 (.done) (.stop)) (.stop)) (.stop)) (.stop)) (.stop))) (.fork 6 (.fork 3 (.fork 7 (.fork 8 (.fork 9 (.fork 10 (.done) (.stop)) (.stop)) (.stop)) (.fork 8 (.fork 7 (.fork 9 (.fork 10 (.done) (.stop)) (.stop)) (.stop)) (.stop))) (.fork 7 (.fork 3 (.fork 8 (.fork 9 (.fork 10 (.done) (.stop)) (.stop)) (.stop)) (.stop)) (.stop))) (.stop))) (.stop))) (.fork 5 (.fork 2 (.fork 3 (.fork 6 (.fork 7 (.fork 8 (.fork 9 (.fork 10 (.done) (.stop)) (.stop)) (.stop)) (.fork 8 (.fork 7 (.fork 9 (.fork 10 (.done) (.stop)) (.stop)) (.stop)) (.stop))) (.fork 8 (.fork 6 (.fork 7 (.fork 9 (.fork 10 (.done) (.stop)) (.stop)) (.stop)) (.stop)) (.stop))) (.fork 6 (.fork 3 (.fork 7 (.fork 8 (.fork 9 (.fork 10 (.done) (.stop)) (.stop)) (.stop)) (.fork 8 (.fork 7 (.fork 9 (.fork 10 (.done) (.stop)) (.stop)) (.stop)) (.stop))) (.fork 7 (.fork 3 (.fork 8 (.fork 9 (.fork 10 (.done) (.stop)) (.stop)) (.stop)) (.stop)) (.stop))) (.stop))) (.fork 6 (.fork 2 (.fork 3 (.fork 7 (.fork 8 (.fork 9 (.fork 10 (.done) (.stop)) (.stop)) (.stop)) (.fork 8 (.fork 7 (.fork 9 (.fork 10 (.done) (.stop)) (.stop)) (.stop)) (.stop))) (.fork 7 (.fork 3 (.fork 8 (.fork 9 (.fork 10 (.done) (.stop)) (.stop)) (.stop)) (.stop)) (.stop))) (.fork 7 (.fork 2 (.fork 3 (.fork 8 (.fork 9 (.fork 10 (.done) (.stop)) (.stop)) (.stop)) (.stop)) (.stop)) (.stop))) (.stop))) (.stop))) (.stop))) (.fork 4 (.fork 1 (.fork 2 (.fork 3 (.fork 5 (.fork 6 (.fork 7 (.fork 8 (.fork 9 (.fork 10 (.done) (.stop)) (.stop)) (.stop)) (.fork 8 (.fork 7 (.fork 9 (.fork 10 (.done) (.stop)) (.stop)) (.stop)) (.stop))) (.fork 8 (.fork 6 (.fork 7 (.fork 9 (.fork 10 (.done) (.stop)) (.stop)) (.stop)) (.stop)) (.stop))) (.fork 8 (.fork 5 (.fork 6 (.fork 7 (.fork 9 (.fork 10 (.done) (.stop)) (.stop)) (.stop)) (.stop)) (.stop)) (.stop))) (.fork 5 (.fork 3 (.fork 6 (.fork 7 (.fork 8 (.fork 9 (.fork 10 (.done) (.stop)) (.stop)) (.stop)) (.fork 8 (.fork 7 (.fork 9 (.fork 10 (.done) (.stop)) (.stop)) (.stop)) (.stop))) (.fork 8 (.fork 6 (.fork 7 (.fork 9 (.fork 10 (.done) (.stop)) (.stop)) (.stop)) (.stop)) (.stop))) (.fork 6 (.fork 3 (.fork 7 (.fork 8 (.fork 9 (.fork 10 (.done) (.stop)) (.stop)) (.stop)) (.fork 8 (.fork 7 (.fork 9 (.fork 10 (.done) (.stop)) (.stop)) (.stop)) (.stop))) (.fork 7 (.fork 3 (.fork 8 (.fork 9 (.fork 10 (.done) (.stop)) (.stop)) (.stop)) (.stop)) (.stop))) (.stop))) (.stop))) (.fork 5 (.fork 2 (.fork 3 (.fork 6 (.fork 7 (.fork 8 (.fork 9 (.fork 10 (.done) (.stop)) (.stop)) (.stop)) (.fork 8 (.fork 7 (.fork 9 (.fork 10 (.done) (.stop)) (.stop)) (.stop)) (.stop))) (.fork 8 (.fork 6 (.fork 7 (.fork 9 (.fork 10 (.done) (.stop)) (.stop)) (.stop)) (.stop)) (.stop))) (.fork 6 (.fork 3 (.fork 7 (.fork 8 (.fork 9 (.fork 10 (.done) (.stop)) (.stop)) (.stop)) (.fork 8 (.fork 7 (.fork 9 (.fork 10 (.done) (.stop)) (.stop)) (.stop)) (.stop))) (.fork 7 (.fork 3 (.fork 8 (.fork 9 (.fork 10 (.done) (.stop)) (.stop)) (.stop)) (.stop)) (.stop))) (.stop))) (.fork 6 (.fork 2 (.fork 3 (.fork 7 (.fork 8 (.fork 9 (.fork 10 (.done) (.stop)) (.stop)) (.stop)) (.fork 8 (.fork 7 (.fork 9 (.fork 10 (.done) (.stop)) (.stop)) (.stop)) (.stop))) (.fork 7 (.fork 3 (.fork 8 (.fork 9 (.fork 10 (.done) (.stop)) (.stop)) (.stop)) (.stop)) (.stop))) (.fork 7 (.fork 2 (.fork 3 (.fork 8 (.fork 9 (.fork 10 (.done) (.stop)) (.stop)) (.stop)) (.stop)) (.stop)) (.stop))) (.stop))) (.stop))) (.fork 5 (.fork 1 (.fork 2 (.fork 3 (.fork 6 (.fork 7 (.fork 8 (.fork 9 (.fork 10 (.done) (.stop)) (.stop)) (.stop)) (.fork 8 (.fork 7 (.fork 9 (.fork 10 (.done) (.stop)) (.stop)) (.stop)) (.stop))) (.fork 8 (.fork 6 (.fork 7 (.fork 9 (.fork 10 (.done) (.stop)) (.stop)) (.stop)) (.stop)) (.stop))) (.fork 6 (.fork 3 (.fork 7 (.fork 8 (.fork 9 (.fork 10 (.done) (.stop)) (.stop)) (.stop)) (.fork 8 (.fork 7 (.fork 9 (.fork 10 (.done) (.stop)) (.stop)) (.stop)) (.stop))) (.fork 7 (.fork 3 (.fork 8 (.fork 9 (.fork 10 (.done) (.stop)) (.stop)) (.stop)) (.stop)) (.stop))) (.stop))) (.fork 6 (.fork 2 (.fork 3 (.fork 7 (.fork 8 (.fork 9 (.fork 10 (.done) (.stop)) (.stop)) (.stop)) (.fork 8 (.fork 7 (.fork 9 (.fork 10 (.done) (.stop)) (.stop)) (.stop)) (.stop))) (.fork 7 (.fork 3 (.fork 8 (.fork 9 (.fork 10 (.done) (.stop)) (.stop)) (.stop)) (.stop)) (.stop))) (.fork 7 (.fork 2 (.fork 3 (.fork 8 (.fork 9 (.fork 10 (.done) (.stop)) (.stop)) (.stop)) (.stop)) (.stop)) (.stop))) (.stop))) (.fork 6 (.fork 1 (.fork 2 (.fork 3 (.fork 7 (.fork 8 (.fork 9 (.fork 10 (.done) (.stop)) (.stop)) (.stop)) (.fork 8 (.fork 7 (.fork 9 (.fork 10 (.done) (.stop)) (.stop)) (.stop)) (.stop))) (.fork 7 (.fork 3 (.fork 8 (.fork 9 (.fork 10 (.done) (.stop)) (.stop)) (.stop)) (.stop)) (.stop))) (.fork 7 (.fork 2 (.fork 3 (.fork 8 (.fork 9 (.fork 10 (.done) (.stop)) (.stop)) (.stop)) (.stop)) (.stop)) (.stop))) (.fork 7 (.fork 1 (.fork 2 (.fork 3 (.fork 8 (.fork 9 (.fork 10 (.done) (.stop)) (.stop)) (.stop)) (.stop)) (.stop)) (.stop)) (.stop))) (.stop))) (.stop))) (.stop))) (.fork 4 (.fork 0 (.fork 1 (.fork 2 (.fork 3 (.fork 5 (.fork 6 (.fork 7 (.fork 8 (.fork 9 (.fork 10 (.done) (.stop)) (.stop)) (.stop)) (.fork 8 (.fork 7 (.fork 9 (.fork 10 (.done) (.stop)) (.stop)) (.stop)) (.stop))) (.fork 8 (.fork 6 (.fork 7 (.fork 9 (.fork 10 (.done) (.stop)) (.stop)) (.stop)) (.stop)) (.stop))) (.fork 8 (.fork 5 (.fork 6 (.fork 7 (.fork 9 (.fork 10 (.done) (.stop)) (.stop)) (.stop)) (.stop)) (.stop)) (.stop))) (.fork 5 (.fork 3 (.fork 6 (.fork 7 (.fork 8 (.fork 9 (.fork 10 (.done) (.stop)) (.stop)) (.stop)) (.fork 8 (.fork 7 (.fork 9 (.fork 10 (.done) (.stop)) (.stop)) (.stop)) (.stop))) (.fork 8 (.fork 6 (.fork 7 (.fork 9 (.fork 10 (.done) (.stop)) (.stop)) (.stop)) (.stop)) (.stop))) (.fork 6 (.fork 3 (.fork 7 (.fork 8 (.fork 9 (.fork 10 (.done) (.stop)) (.stop)) (.stop)) (.fork 8 (.fork 7 (.fork 9 (.fork 10 (.done) (.stop)) (.stop)) (.stop)) (.stop))) (.fork 7 (.fork 3 (.fork 8 (.fork 9 (.fork 10 (.done) (.stop)) (.stop)) (.stop)) (.stop)) (.stop))) (.stop))) (.stop))) (.fork 5 (.fork 2 (.fork 3 (.fork 6 (.fork 7 (.fork 8 (.fork 9 (.fork 10 (.done) (.stop)) (.stop)) (.stop)) (.fork 8 (.fork 7 (.fork 9 (.fork 10 (.done) (.stop)) (.stop)) (.stop)) (.stop))) (.fork 8 (.fork 6 (.fork 7 (.fork 9 (.fork 10 (.done) (.stop)) (.stop)) (.stop)) (.stop)) (.stop))) (.fork 6 (.fork 3 (.fork 7 (.fork 8 (.fork 9 (.fork 10 (.done) (.stop)) (.stop)) (.stop)) (.fork 8 (.fork 7 (.fork 9 (.fork 10 (.done) (.stop)) (.stop)) (.stop)) (.stop))) (.fork 7 (.fork 3 (.fork 8 (.fork 9 (.fork 10 (.done) (.stop)) (.stop)) (.stop)) (.stop)) (.stop))) (.stop))) (.fork 6 (.fork 2 (.fork 3 (.fork 7 (.fork 8 (.fork 9 (.fork 10 (.done) (.stop)) (.stop)) (.stop)) (.fork 8 (.fork 7 (.fork 9 (.fork 10 (.done) (.stop)) (.stop)) (.stop)) (.stop))) (.fork 7 (.fork 3 (.fork 8 (.fork 9 (.fork 10 (.done) (.stop)) (.stop)) (.stop)) (.stop)) (.stop))) (.fork 7 (.fork 2 (.fork 3 (.fork 8 (.fork 9 (.fork 10 (.done) (.stop)) (.stop)) (.stop)) (.stop)) (.stop)) (.stop))) (.stop))) (.stop))) (.fork 5 (.fork 1 (.fork 2 (.fork 3 (.fork 6 (.fork 7 (.fork 8 (.fork 9 (.fork 10 (.done) (.stop)) (.stop)) (.stop)) (.fork 8 (.fork 7 (.fork 9 (.fork 10 (.done) (.stop)) (.stop)) (.stop)) (.stop))) (.fork 8 (.fork 6 (.fork 7 (.fork 9 (.fork 10 (.done) (.stop)) (.stop)) (.stop)) (.stop)) (.stop))) (.fork 6 (.fork 3 (.fork 7 (.fork 8 (.fork 9 (.fork 10 (.done) (.stop)) (.stop)) (.stop)) (.fork 8 (.fork 7 (.fork 9 (.fork 10 (.done) (.stop)) (.stop)) (.stop)) (.stop))) (.fork 7 (.fork 3 (.fork 8 (.fork 9 (.fork 10 (.done) (.stop)) (.stop)) (.stop)) (.stop)) (.stop))) (.stop))) (.fork 6 (.fork 2 (.fork 3 (.fork 7 (.fork 8 (.fork 9 (.fork 10 (.done) (.stop)) (.stop)) (.stop)) (.fork 8 (.fork 7 (.fork 9 (.fork 10 (.done) (.stop)) (.stop)) (.stop)) (.stop))) (.fork 7 (.fork 3 (.fork 8 (.fork 9 (.fork 10 (.done) (.stop)) (.stop)) (.stop)) (.stop)) (.stop))) (.fork 7 (.fork 2 (.fork 3 (.fork 8 (.fork 9 (.fork 10 (.done) (.stop)) (.stop)) (.stop)) (.stop)) (.stop)) (.stop))) (.stop))) (.fork 6 (.fork 1 (.fork 2 (.fork 3 (.fork 7 (.fork 8 (.fork 9 (.fork 10 (.done) (.stop)) (.stop)) (.stop)) (.fork 8 (.fork 7 (.fork 9 (.fork 10 (.done) (.stop)) (.stop)) (.stop)) (.stop))) (.fork 7 (.fork 3 (.fork 8 (.fork 9 (.fork 10 (.done) (.stop)) (.stop)) (.stop)) (.stop)) (.stop))) (.fork 7 (.fork 2 (.fork 3 (.fork 8 (.fork 9 (.fork 10 (.done) (.stop)) (.stop)) (.stop)) (.stop)) (.stop)) (.stop))) (.fork 7 (.fork 1 (.fork 2 (.fork 3 (.fork 8 (.fork 9 (.fork 10 (.done) (.stop)) (.stop)) (.stop)) (.stop)) (.stop)) (.stop)) (.stop))) (.stop))) (.stop))) (.fork 5 (.fork 0 (.fork 1 (.fork 2 (.fork 3 (.fork 6 (.fork 7 (.fork 8 (.fork 9 (.fork 10 (.done) (.stop)) (.stop)) (.stop)) (.fork 8 (.fork 7 (.fork 9 (.fork 10 (.done) (.stop)) (.stop)) (.stop)) (.stop))) (.fork 8 (.fork 6 (.fork 7 (.fork 9 (.fork 10 (.done) (.stop)) (.stop)) (.stop)) (.stop)) (.stop))) (.fork 6 (.fork 3 (.fork 7 (.fork 8 (.fork 9 (.fork 10 (.done) (.stop)) (.stop)) (.stop)) (.fork 8 (.fork 7 (.fork 9 (.fork 10 (.done) (.stop)) (.stop)) (.stop)) (.stop))) (.fork 7 (.fork 3 (.fork 8 (.fork 9 (.fork 10 (.done) (.stop)) (.stop)) (.stop)) (.stop)) (.stop))) (.stop))) (.fork 6 (.fork 2 (.fork 3 (.fork 7 (.fork 8 (.fork 9 (.fork 10 (.done) (.stop)) (.stop)) (.stop)) (.fork 8 (.fork 7 (.fork 9 (.fork 10 (.done) (.stop)) (.stop)) (.stop)) (.stop))) (.fork 7 (.fork 3 (.fork 8 (.fork 9 (.fork 10 (.done) (.stop)) (.stop)) (.stop)) (.stop)) (.stop))) (.fork 7 (.fork 2 (.fork 3 (.fork 8 (.fork 9 (.fork 10 (.done) (.stop)) (.stop)) (.stop)) (.stop)) (.stop)) (.stop))) (.stop))) (.fork 6 (.fork 1 (.fork 2 (.fork 3 (.fork 7 (.fork 8 (.fork 9 (.fork 10 (.done) (.stop)) (.stop)) (.stop)) (.fork 8 (.fork 7 (.fork 9 (.fork 10 (.done) (.stop)) (.stop)) (.stop)) (.stop))) (.fork 7 (.fork 3 (.fork 8 (.fork 9 (.fork 10 (.done) (.stop)) (.stop)) (.stop)) (.stop)) (.stop))) (.fork 7 (.fork 2 (.fork 3 (.fork 8 (.fork 9 (.fork 10 (.done) (.stop)) (.stop)) (.stop)) (.stop)) (.stop)) (.stop))) (.fork 7 (.fork 1 (.fork 2 (.fork 3 (.fork 8 (.fork 9 (.fork 10 (.done) (.stop)) (.stop)) (.stop)) (.stop)) (.stop)) (.stop)) (.stop))) (.stop))) (.fork 6 (.fork 0 (.fork 1 (.fork 2 (.fork 3 (.fork 7 (.fork 8 (.fork 9 (.fork 10 (.done) (.stop)) (.stop)) (.stop)) (.fork 8 (.fork 7 (.fork 9 (.fork 10 (.done) (.stop)) (.stop)) (.stop)) (.stop))) (.fork 7 (.fork 3 (.fork 8 (.fork 9 (.fork 10 (.done) (.stop)) (.stop)) (.stop)) (.stop)) (.stop))) (.fork 7 (.fork 2 (.fork 3 (.fork 8 (.fork 9 (.fork 10 (.done) (.stop)) (.stop)) (.stop)) (.stop)) (.stop)) (.stop))) (.fork 7 (.fork 1 (.fork 2 (.fork 3 (.fork 8 (.fork 9 (.fork 10 (.done) (.stop)) (.stop)) (.stop)) (.stop)) (.stop)) (.stop)) (.stop))) (.fork 7 (.fork 0 (.fork 1 (.fork 2 (.fork 3 (.fork 8 (.fork 9 (.fork 10 (.done) (.stop)) (.stop)) (.stop)) (.stop)) (.stop)) (.stop)) (.stop)) (.stop))) (.stop))) (.stop))) (.stop)))],shut:=[]}
noncomputable def abE:dJ:={par:=[.cst false,.cst false],inn:=[(13,some ([8,9,10],[]))],out:=[(7,some ([0,1,8,9,10,12,16,17,18,41],[]))],bn:=[(5,([0,1,8,9,10,16,17,18],[]))],frz:=[],sch:=[],shut:=[]}
noncomputable def abG:dJ:={par:=[.cst false],inn:=[],out:=[],bn:=[],frz:=[],sch:=[],shut:=[]}
noncomputable def abH:dJ:={par:=[.cst false,.cst false],inn:=[(1,some ([1,2],[2])),(7,some ([2,7,8,9,10,22,23,24],[2,10])),(12,some ([2,7,8,22,23,24],[2])),(13,some ([7,8],[]))],out:=[(1,some ([1,2,21],[2])),(8,some ([2,7,8,9,10,22,23,24,46],[2,10])),(10,some ([2,7,8,9,13,22,23,24,58],[2]))],bn:=[(5,([2,7,8,22,23,24],[2]))],frz:=[],sch:=[],shut:=[]}
noncomputable def abI:dJ:={par:=[.cst false,.cst false],inn:=[],out:=[(1,some ([2,3,11],[2,3]))],bn:=[],frz:=[],sch:=[],shut:=[]}
noncomputable def abJ:dJ:={par:=[.cst false],inn:=[(1,some ([1],[1]))],out:=[],bn:=[],frz:=[],sch:=[],shut:=[]}
noncomputable def abK:dJ:={par:=[.cst false],inn:=[],out:=[],bn:=[],frz:=[],sch:=[],shut:=[]}
noncomputable def abL:dJ:={par:=[.cst false,.cst false,.cst false],inn:=[],out:=[(1,some ([6],[]))],bn:=[],frz:=[],sch:=[],shut:=[]}
noncomputable def abM:dJ:={par:=[.cst false,.cst false],inn:=[],out:=[],bn:=[],frz:=[],sch:=[],shut:=[]}
noncomputable def abN:dJ:={par:=[.ptr [.imm,.imm,.imm]],inn:=[(4,some ([0,3,4],[0,3])),(6,some ([0,3,4,5,6],[0,3,5])),(8,some ([3],[0,3]))],out:=[],bn:=[(3,([0,3,4],[0,3]))],frz:=[],sch:=[],shut:=[]}
noncomputable def abO:dJ:={par:=[.cst false,.cst false,.cst false,.cst false],inn:=[],out:=[(3,some ([13],[]))],bn:=[],frz:=[],sch:=[],shut:=[]}
noncomputable def abP:dJ:={par:=[.cst false],inn:=[(7,some ([1,3],[1,3])),(8,some ([3],[3]))],out:=[],bn:=[(3,([1,3,7,8],[1,3]))],frz:=[],sch:=[],shut:=[]}
noncomputable def abQ:dJ:={par:=[.row],inn:=[],out:=[],bn:=[],frz:=[],sch:=[],shut:=[]}
noncomputable def abR:dJ:={par:=[.ptr [.imm,.imm,.gone,.imm],.cst true,.cst false,.cst false,.cst false,.cst false],inn:=[(4,some ([0,1,2,3,4,5],[0])),(6,some ([0,1,2,3,4,5],[0])),(8,some ([0,1,3,4,5,13],[0])),(10,some ([0,1,3,4,5,13,14],[0,14])),(13,some ([],[0]))],out:=[(10,some ([0,1,3,4,5,13,14,67],[0,14])),(11,some ([0,1,3,4,5,13,88],[0]))],bn:=[(7,([0,1,3,4,5,13],[0]))],frz:=[],sch:=[(11,.first 0 [20] (rg [1,20])<| .first 1 [2,5,20] (rg [3,5,6,20])<| .first 3 [4,5,20] (rg [2,3,6,20])<| .first 6 [7,20] (rg [2,3,4,6,8,20])<| .first 7 [20] (rg [2,3,4,6,8,20])<| .first 8 [11,20] (rg [2,3,4,6,9,11,12,20])<| .first 12 [15,20] [2,4,5,9,10,11,13,14,16,17,18,19]<| .first 16 [19,20] [2,4,5,9,10,11,13,14,15,17,18]<| .first 9 [10,11,20] [2,4,5,13,14,15,17,18,19]<| .first 10 [11,20] [2,4,5,13,14,15,17,18,19]<| .first 11 [20] [2,4,5,13,14,15,17,18,19]<| .first 13 [14,15,20] [2,4,5,17,18,19]<| .first 14 [15,20] [2,4,5,17,18,19]<| .first 15 [20] [2,4,5,17,18,19]<| .first 17 [18,19,20] [2,4,5]<| .first 18 [19,20] [2,4,5]<| .first 19 [20] [2,4,5]<| .fork 2 (.fork 4 (.fork 5 (.fork 20 (.done) (.stop)) (.stop)) (.stop)) (.fork 4 (.fork 2 (.fork 5 (.fork 20 (.done) (.stop)) (.stop)) (.stop)) (.stop)))],shut:=[]}
noncomputable def abS:dJ:={par:=[.cst false],inn:=[(4,some ([0,3,4,5,6,7],[4])),(7,some ([0],[]))],out:=[(4,some ([0,5,6,7,29],[]))],bn:=[(2,([0,5,6,7],[]))],frz:=[],sch:=[(4,.first 0 (rg [1,18]) []<| .fork 1 (.first 2 (rg [3,18]) []<| .first 3 (rg [4,18]) []<| .first 4 (rg [5,18]) []<| .first 5 (rg [6,18]) []<| .first 6 (rg [7,18]) []<| .first 7 [10,11,12,15,16,17] [8,9,13,14]<| .first 8 [9,10,11,12,15,16,17] [13,14]<| .first 9 [10,11,12,15,16,17] [13,14]<| .first 10 [11,12,15,16,17] [13,14]<| .first 11 [12,15,16,17] [13,14]<| .first 12 [15,16,17] [13,14]<| .first 13 [14,15,16,17] []<| .first 14 [15,16,17] []<| .first 15 [16,17] []<| .first 16 [17] []<| .first 17 [] []<| .done) (.stop))],shut:=[]}
noncomputable def abT:dJ:={par:=[.ptr [.imm,.imm,.imm]],inn:=[(3,some ([0,3,4],[0,3])),(6,some ([0,3,4,5,6],[0,3,5])),(8,some ([5],[0,5]))],out:=[],bn:=[(5,([0,3,4,5,6],[0,3,5]))],frz:=[],sch:=[],shut:=[]}
noncomputable def abU:dJ:={par:=[.cst false],inn:=[(1,some ([1],[1]))],out:=[(1,some ([2],[]))],bn:=[],frz:=[],sch:=[],shut:=[]}
noncomputable def abV:dJ:={par:=[.cst false],inn:=[(4,some ([0,3,4,5,6,7],[4])),(7,some ([0],[]))],out:=[(4,some ([0,5,6,7,29],[]))],bn:=[(2,([0,5,6,7],[]))],frz:=[],sch:=[(4,.first 0 (rg [1,18]) []<| .fork 1 (.first 2 (rg [3,18]) []<| .first 3 (rg [4,18]) []<| .first 4 (rg [5,18]) []<| .first 5 (rg [6,18]) []<| .first 6 (rg [7,18]) []<| .first 7 [10,11,12,15,16,17] [8,9,13,14]<| .first 8 [9,10,11,12,15,16,17] [13,14]<| .first 9 [10,11,12,15,16,17] [13,14]<| .first 10 [11,12,15,16,17] [13,14]<| .first 11 [12,15,16,17] [13,14]<| .first 12 [15,16,17] [13,14]<| .first 13 [14,15,16,17] []<| .first 14 [15,16,17] []<| .first 15 [16,17] []<| .first 16 [17] []<| .first 17 [] []<| .done) (.stop))],shut:=[]}
noncomputable def abW:dJ:={par:=[.cst false],inn:=[(1,some ([1],[1])),(7,some ([1,4,5,7,22,23,24],[1,4,5,7])),(10,some ([1,4,5],[1,4,5])),(11,some ([1,4,5],[1,4,5])),(12,some ([1,4,5],[1,4,5])),(15,some ([1,4,5,8,9],[1,4,5])),(18,some ([1,4,5,8,9,10],[1,4,5])),(22,some ([8],[]))],out:=[(3,some ([1,4,5],[1,4,5])),(19,some ([1,4,5,8,9,10,11],[1,4,5,11]))],bn:=[(5,([1,4,5,22,23,24],[1,4,5])),(14,([1,4,5,8,9],[1,4,5])),(17,([1,4,5,8,9,10],[1,4,5]))],frz:=[],sch:=[(3,.first 0 [1,2,6,7] [3,4,5]<| .first 1 [2,6,7] [3,4,5]<| .first 3 [4,5,7] [2,6]<| .first 4 [5,7] [2,6]<| .fork 2 (.fork 5 (.fork 6 (.fork 7 (.done) (.stop)) (.stop)) (.fork 6 (.fork 5 (.fork 7 (.done) (.stop)) (.stop)) (.stop))) (.fork 5 (.fork 2 (.fork 6 (.fork 7 (.done) (.stop)) (.stop)) (.stop)) (.stop))),(19,.first 0 [3,4,30,32] (rg [1,3,5,30,31,32])<| .first 1 [2,3,4,30,32] (rg [5,30,31,32])<| .first 2 [3,4,30,32] (rg [5,30,31,32])<| .first 3 [4,30,32] (rg [5,30,31,32])<| .first 4 [30,32] (rg [5,30,31,32])<| .first 5 [8,9,30,32] (rg [6,8,10,30,31,32])<| .first 6 [7,8,9,30,32] (rg [10,30,31,32])<| .first 7 [8,9,30,32] (rg [10,30,31,32])<| .first 8 [9,30,32] (rg [10,30,31,32])<| .first 9 [30,32] (rg [10,30,31,32])<| .first 10 [12,13,19,30,32] (rg [11,12,14,19,20,30,31,32])<| .first 11 [12,13,19,30,32] (rg [14,19,20,30,31,32])<| .first 12 [13,19,30,32] (rg [14,19,20,30,31,32])<| .first 13 [19,30,32] (rg [14,19,20,30,31,32])<| .first 14 [17,18,19,30,32] (rg [15,17,20,30,31,32])<| .first 15 [16,17,18,19,30,32] (rg [20,30,31,32])<| .first 16 [17,18,19,30,32] (rg [20,30,31,32])<| .first 17 [18,19,30,32] (rg [20,30,31,32])<| .first 18 [19,30,32] (rg [20,30,31,32])<| .first 19 [30,32] (rg [20,30,31,32])<| .first 20 [22,23,29,30,32] [21,24,25,26,27,28,31]<| .first 21 [22,23,29,30,32] [24,25,26,27,28,31]<| .first 22 [23,29,30,32] [24,25,26,27,28,31]<| .first 23 [29,30,32] [24,25,26,27,28,31]<| .first 24 [27,28,29,30,32] [25,26,31]<| .first 25 [26,27,28,29,30,32] [31]<| .first 26 [27,28,29,30,32] [31]<| .first 27 [28,29,30,32] [31]<| .first 28 [29,30,32] [31]<| .first 29 [30,32] [31]<| .fork 30 (.fork 31 (.fork 32 (.done) (.stop)) (.stop)) (.fork 31 (.fork 30 (.fork 32 (.done) (.stop)) (.stop)) (.stop)))],shut:=[]}
noncomputable def abX:dJ:={par:=[.cut 3],inn:=[],out:=[(2,some ([0,3,19],[])),(5,some ([2],[]))],bn:=[],frz:=[],sch:=[],shut:=[]}
noncomputable def abY:dJ:={par:=[.cut 3,.cut 3],inn:=[],out:=[(1,some ([4],[]))],bn:=[],frz:=[],sch:=[(1,.first 0 [1,2,3,8,18,27,28,29,30] (rg [4,8,9,18,19,27])<| .first 1 [2,3,8,18,27,28,29,30] (rg [4,8,9,18,19,27])<| .first 2 [3,8,18,27,28,29,30] (rg [4,8,9,18,19,27])<| .first 3 [8,18,27,28,29,30] (rg [4,8,9,18,19,27])<| .first 4 [5,6,7,8,18,27,28,29,30] (rg [9,18,19,27])<| .first 5 [6,7,8,18,27,28,29,30] (rg [9,18,19,27])<| .first 6 [7,8,18,27,28,29,30] (rg [9,18,19,27])<| .first 7 [8,18,27,28,29,30] (rg [9,18,19,27])<| .first 8 [18,27,28,29,30] (rg [9,18,19,27])<| .first 9 [10,11,12,17,18,27,28,29,30] (rg [13,17,19,27])<| .first 10 [11,12,17,18,27,28,29,30] (rg [13,17,19,27])<| .first 11 [12,17,18,27,28,29,30] (rg [13,17,19,27])<| .first 12 [17,18,27,28,29,30] (rg [13,17,19,27])<| .first 13 (rg [14,19,27,31]) (rg [19,27])<| .first 14 (rg [15,19,27,31]) (rg [19,27])<| .first 15 [16,17,18,27,28,29,30] (rg [19,27])<| .first 16 [17,18,27,28,29,30] (rg [19,27])<| .first 17 [18,27,28,29,30] (rg [19,27])<| .first 19 [20,21,22,27,28,29,30] [18,23,24,25,26]<| .first 20 [21,22,27,28,29,30] [18,23,24,25,26]<| .first 21 [22,27,28,29,30] [18,23,24,25,26]<| .first 22 [27,28,29,30] [18,23,24,25,26]<| .first 23 (rg [24,31]) [18]<| .first 24 (rg [25,31]) [18]<| .first 25 [26,27,28,29,30] [18]<| .first 26 [27,28,29,30] [18]<| .fork 18 (.fork 27 (.first 28 [29,30] []<| .first 29 [30] []<| .fork 30 (.done) (.stop)) (.stop)) (.stop))],shut:=[]}
noncomputable def abZ:dJ:={par:=[.cut 9],inn:=[(10,some ([],[]))],out:=[(1,some ([0,32],[])),(3,some ([0,54],[])),(8,some ([0,3,79],[]))],bn:=[(6,([0,3],[]))],frz:=[],sch:=[(8,.first 0 [1,2,3,5,14,15] (rg [4,5,6,14])<| .first 1 [2,3,5,14,15] (rg [4,5,6,14])<| .first 2 [3,5,14,15] (rg [4,5,6,14])<| .first 3 [5,14,15] (rg [4,5,6,14])<| .first 4 [5,14,15] (rg [6,14])<| .first 5 [14,15] (rg [6,14])<| .first 6 [7,8,9,14,15] [10,11,12,13]<| .first 7 [8,9,14,15] [10,11,12,13]<| .first 8 [9,14,15] [10,11,12,13]<| .first 9 [14,15] [10,11,12,13]<| .first 10 [11,12,13,14,15] []<| .first 11 [12,13,14,15] []<| .first 12 [13,14,15] []<| .first 13 [14,15] []<| .fork 14 (.first 15 [] []<| .done) (.stop))],shut:=[]}
noncomputable def ab1:dJ:={par:=[.cut 9],inn:=[(6,some ([0,3,4,5,6],[3,4])),(9,some ([0,3,4,5,6,7],[3,4])),(13,some ([5],[]))],out:=[(10,some ([0,3,4,5,6,7,8],[3,4,8]))],bn:=[(5,([0,3,4,5,6],[3,4])),(8,([0,3,4,5,6,7],[3,4]))],frz:=[],sch:=[(10,.first 0 [3,4,30,32] (rg [1,3,5,30,31,32])<| .first 1 [2,3,4,30,32] (rg [5,30,31,32])<| .first 2 [3,4,30,32] (rg [5,30,31,32])<| .first 3 [4,30,32] (rg [5,30,31,32])<| .first 4 [30,32] (rg [5,30,31,32])<| .first 5 [8,9,30,32] (rg [6,8,10,30,31,32])<| .first 6 [7,8,9,30,32] (rg [10,30,31,32])<| .first 7 [8,9,30,32] (rg [10,30,31,32])<| .first 8 [9,30,32] (rg [10,30,31,32])<| .first 9 [30,32] (rg [10,30,31,32])<| .first 10 [12,13,19,30,32] (rg [11,12,14,19,20,30,31,32])<| .first 11 [12,13,19,30,32] (rg [14,19,20,30,31,32])<| .first 12 [13,19,30,32] (rg [14,19,20,30,31,32])<| .first 13 [19,30,32] (rg [14,19,20,30,31,32])<| .first 14 [17,18,19,30,32] (rg [15,17,20,30,31,32])<| .first 15 [16,17,18,19,30,32] (rg [20,30,31,32])<| .first 16 [17,18,19,30,32] (rg [20,30,31,32])<| .first 17 [18,19,30,32] (rg [20,30,31,32])<| .first 18 [19,30,32] (rg [20,30,31,32])<| .first 19 [30,32] (rg [20,30,31,32])<| .first 20 [22,23,29,30,32] [21,24,25,26,27,28,31]<| .first 21 [22,23,29,30,32] [24,25,26,27,28,31]<| .first 22 [23,29,30,32] [24,25,26,27,28,31]<| .first 23 [29,30,32] [24,25,26,27,28,31]<| .first 24 [27,28,29,30,32] [25,26,31]<| .first 25 [26,27,28,29,30,32] [31]<| .first 26 [27,28,29,30,32] [31]<| .first 27 [28,29,30,32] [31]<| .first 28 [29,30,32] [31]<| .first 29 [30,32] [31]<| .fork 30 (.fork 31 (.fork 32 (.done) (.stop)) (.stop)) (.fork 31 (.fork 30 (.fork 32 (.done) (.stop)) (.stop)) (.stop)))],shut:=[]}
noncomputable def ab2:dJ:={par:=[.cst false,.cst false,.cst false],inn:=[],out:=[(1,some ([6],[]))],bn:=[],frz:=[],sch:=[],shut:=[]}
noncomputable def ab3:dJ:={par:=[.cst false],inn:=[(8,some ([],[]))],out:=[(1,some ([0,16],[])),(6,some ([0,3,34],[]))],bn:=[(4,([0,3],[]))],frz:=[],sch:=[],shut:=[]}
noncomputable def ab4:dJ:={par:=[.cst false],inn:=[(8,some ([],[]))],out:=[(1,some ([0,21],[])),(6,some ([0,3,49],[]))],bn:=[(4,([0,3],[]))],frz:=[],sch:=[],shut:=[]}
noncomputable def V3:dJ:={par:=[.ptr [.imm,.imm,.imm],.cst false],inn:=[(4,some ([0,1,5],[0])),(6,some ([1,5],[0]))],out:=[],bn:=[],frz:=[],sch:=[],shut:=[]}
noncomputable def V4:dJ:={par:=[.ptr [.imm,.imm,.imm]],inn:=[(2,some ([0,2,3],[0,2])),(5,some ([0,2,5,6],[0,2,5])),(6,some ([2,5],[0,2,5]))],out:=[(2,some ([0,2,3,4],[0,2])),(3,some ([0,2,5],[0,2,5]))],bn:=[],frz:=[],sch:=[(2,.first 1 [2,3,4,5,8,9,10] [0,6,7]<| .first 6 [7,8,9,10] [0,2,3,4,5]<| .fork 0 (.first 2 [3,4,5,8,9,10] [7]<| .first 3 [4,5,8,9,10] [7]<| .first 4 [5,8,9,10] [7]<| .first 5 [8,9,10] [7]<| .fork 7 (.first 8 [9,10] []<| .first 9 [10] []<| .fork 10 (.done) (.stop)) (.stop)) (.stop)),(3,.first 1 [2,3,7,9] [0,4,5,6,8]<| .first 4 [5,6,7,9] [0,2,3,8]<| .fork 0 (.first 2 [3,7,9] [5,6,8]<| .first 3 [7,9] [5,6,8]<| .fork 5 (.fork 6 (.fork 7 (.fork 8 (.fork 9 (.done) (.stop)) (.stop)) (.fork 8 (.fork 7 (.fork 9 (.done) (.stop)) (.stop)) (.stop))) (.fork 8 (.fork 6 (.fork 7 (.fork 9 (.done) (.stop)) (.stop)) (.stop)) (.stop))) (.fork 8 (.fork 5 (.fork 6 (.fork 7 (.fork 9 (.done) (.stop)) (.stop)) (.stop)) (.stop)) (.stop))) (.fork 8 (.fork 0 (.first 2 [3,7,9] [5,6]<| .first 3 [7,9] [5,6]<| .fork 5 (.fork 6 (.fork 7 (.fork 9 (.done) (.stop)) (.stop)) (.stop)) (.stop)) (.stop)) (.stop)))],shut:=[]}
noncomputable def V5:dJ:={par:=[.ptr [.imm,.imm,.imm],.cst false],inn:=[],out:=[],bn:=[],frz:=[],sch:=[],shut:=[]}
noncomputable def V6:dJ:={par:=[.cst false,.cst false],inn:=[],out:=[(1,some ([0,1,14],[]))],bn:=[],frz:=[],sch:=[],shut:=[]}
noncomputable def V7:dJ:={par:=[.cst false,.cst false],inn:=[(1,some ([0,3],[3])),(10,some ([0,3,6],[3]))],out:=[(1,some ([0,3,14],[3])),(8,some ([0,3,6,37],[3]))],bn:=[(8,([0,3,6],[3]))],frz:=[],sch:=[(8,.first 0 (rg [1,13]) []<| .first 1 (rg [2,13]) []<| .first 2 (rg [3,13]) []<| .first 3 [6,7,8,11,12] [4,5,9,10]<| .first 4 [5,6,7,8,11,12] [9,10]<| .first 5 [6,7,8,11,12] [9,10]<| .first 6 [7,8,11,12] [9,10]<| .first 7 [8,11,12] [9,10]<| .first 8 [11,12] [9,10]<| .first 9 [10,11,12] []<| .first 10 [11,12] []<| .first 11 [12] []<| .first 12 [] []<| .done)],shut:=[]}
noncomputable def V8:dJ:={par:=[.ptr [.imm,.imm,.imm]],inn:=[(1,some ([0,2],[0,2])),(2,some ([0,2,3],[0,2,3])),(3,some ([0,2,3],[0,2,3])),(4,some ([0,2,3],[0,2,3])),(5,some ([0,2,3],[0,2,3])),(6,some ([0,2,3],[0,2,3])),(7,some ([0,2,3,27],[0,2,3])),(15,some ([2,3],[0,2,3]))],out:=[],bn:=[],frz:=[],sch:=[],shut:=[]}
noncomputable def V9:dJ:={par:=[.row,.cst false],inn:=[],out:=[],bn:=[],frz:=[],sch:=[],shut:=[]}
noncomputable def We:dJ:={par:=[.cst false,.cst false],inn:=[],out:=[(1,some ([0,1,2,6],[])),(4,some ([5],[]))],bn:=[],frz:=[],sch:=[(1,.first 0 [2,3,4,10,11] [1,5,6,7,8,9]<| .first 1 [2,3,4,10,11] [5,6,7,8,9]<| .first 2 [3,4,10,11] [5,6,7,8,9]<| .first 3 [4,10,11] [5,6,7,8,9]<| .first 4 [10,11] [5,6,7,8,9]<| .first 5 [7,8,9,10,11] [6]<| .first 6 [7,8,9,10,11] []<| .first 7 [8,9,10,11] []<| .first 8 [9,10,11] []<| .first 9 [10,11] []<| .first 10 [11] []<| .fork 11 (.done) (.stop)),(4,.first 0 [2,3,4,10,11] [1,5,6,7,8,9]<| .first 1 [2,3,4,10,11] [5,6,7,8,9]<| .first 2 [3,4,10,11] [5,6,7,8,9]<| .first 3 [4,10,11] [5,6,7,8,9]<| .first 4 [10,11] [5,6,7,8,9]<| .first 5 [7,8,9,10,11] [6]<| .first 6 [7,8,9,10,11] []<| .first 7 [8,9,10,11] []<| .first 8 [9,10,11] []<| .first 9 [10,11] []<| .first 10 [11] []<| .fork 11 (.done) (.stop))],shut:=[]}
noncomputable def Wh:dJ:={par:=[.row,.cst false,.cst false,.cst false],inn:=[(9,some ([0,1,2,3,8,9,10],[0])),(10,some ([0,1,2,3,8,9,10],[0])),(13,some ([0,1,2,3,8,9,10,11],[0])),(15,some ([0,1,2,3,8,9,10,11,12],[0])),(17,some ([0,1,2,3,8,9,10,11],[0])),(19,some ([0,2,3,8,9,13],[0])),(21,some ([0,1,2,3,10,14,15],[0])),(27,some ([0,2,3,8,9,14],[0])),(30,some ([0,1,3,8,9,14],[0]))],out:=[(15,some ([0,1,2,3,8,9,10,11,68],[0])),(17,some ([0,1,2,3,8,9,10,11,87],[0]))],bn:=[(2,([0,1,2,3,8,9],[0]))],frz:=[],sch:=[(17,.first 0 (rg [1,15]) []<| .first 1 (rg [2,15]) []<| .first 2 (rg [3,15]) []<| .first 3 [6,7,12,13,14] [4,5,8,9,10,11]<| .first 4 [5,6,7,12,13,14] [8,9,10,11]<| .first 5 [6,7,12,13,14] [8,9,10,11]<| .first 6 [7,12,13,14] [8,9,10,11]<| .first 7 [12,13,14] [8,9,10,11]<| .first 8 [10,11,12,13,14] [9]<| .first 9 [10,11,12,13,14] []<| .first 10 [11,12,13,14] []<| .first 11 [12,13,14] []<| .fork 12 (.first 13 [14] []<| .first 14 [] []<| .done) (.stop))],shut:=[]}
noncomputable def Wi:dJ:={par:=[.cst false],inn:=[],out:=[],bn:=[],frz:=[],sch:=[],shut:=[]}
noncomputable def Wj:dJ:={par:=[.ptr [.imm,.imm,.imm],.cst false],inn:=[(1,some ([0,1,4],[0,4])),(2,some ([0,4,5],[0,4,5])),(3,some ([0,4,5],[0,4,5])),(4,some ([0,4,5],[0,4,5])),(5,some ([0,4,5],[0,4,5])),(9,some ([4,5],[0,4,5]))],out:=[(8,some ([0,4,5,6],[0,4,5]))],bn:=[(6,([0,4,5,6],[0,4,5]))],frz:=[],sch:=[(8,.first 2 [7,8,9,10,11] [0,1,3,4,5,6]<| .first 3 [4,7,8,9,10,11] [0,1,5,6]<| .first 4 [7,8,9,10,11] [0,1,5,6]<| .first 5 [6,7,8,9,10,11] [0,1]<| .first 6 [7,8,9,10,11] [0,1]<| .first 0 [1,9,10,11] [7,8]<| .first 1 [9,10,11] [7,8]<| .fork 7 (.fork 8 (.fork 9 (.first 10 [11] []<| .fork 11 (.done) (.stop)) (.stop)) (.stop)) (.stop))],shut:=[]}
noncomputable def Wl:dJ:={par:=[.cst false],inn:=[],out:=[(2,some ([2],[]))],bn:=[],frz:=[],sch:=[],shut:=[]}
noncomputable def Wn:dJ:={par:=[.cst false],inn:=[(1,some ([1],[1]))],out:=[(1,some ([1,24],[1])),(3,some ([1,40],[1]))],bn:=[],frz:=[],sch:=[],shut:=[]}
noncomputable def Wp:dJ:={par:=[.cst false,.cst false],inn:=[],out:=[],bn:=[],frz:=[],sch:=[],shut:=[]}
noncomputable def Wq:dJ:={par:=[.cst false],inn:=[],out:=[],bn:=[],frz:=[],sch:=[],shut:=[]}
noncomputable def Ws:dJ:={par:=[.cst false,.cst false],inn:=[(2,some ([6],[]))],out:=[],bn:=[],frz:=[],sch:=[],shut:=[]}
noncomputable def Wu:dJ:={par:=[.cst false],inn:=[(7,some ([],[]))],out:=[],bn:=[(3,([0,3,4],[3]))],frz:=[],sch:=[],shut:=[]}
noncomputable def Wv:dJ:={par:=[],inn:=[],out:=[],bn:=[],frz:=[],sch:=[],shut:=[]}
noncomputable def Wx:dJ:={par:=[.cst false],inn:=[],out:=[],bn:=[],frz:=[],sch:=[],shut:=[]}
noncomputable def Wy:dJ:={par:=[.cst false,.cst false],inn:=[],out:=[],bn:=[],frz:=[],sch:=[],shut:=[]}
noncomputable def WA:dJ:={par:=[.cst false,.cst false],inn:=[],out:=[],bn:=[],frz:=[],sch:=[],shut:=[]}
noncomputable def WB:dJ:={par:=[.cut 4,.cst false,.cst false],inn:=[],out:=[(1,some ([6],[]))],bn:=[],frz:=[],sch:=[(1,.first 0 (rg [1,4,5,41]) [4]<| .first 1 (rg [2,4,5,41]) [4]<| .first 2 (rg [3,4,5,41]) [4]<| .first 3 (rg [5,41]) [4]<| .first 4 (rg [5,41]) []<| .fork 5 (.first 6 (rg [7,41]) []<| .first 7 (rg [8,11,12,41]) [11]<| .first 8 (rg [9,11,12,41]) [11]<| .first 9 (rg [10,11,12,41]) [11]<| .first 10 (rg [12,41]) [11]<| .first 11 (rg [12,41]) []<| .fork 12 (.first 13 (rg [14,41]) []<| .first 14 (rg [15,41]) []<| .first 15 (rg [16,19,25,41]) (rg [19,25])<| .first 16 (rg [17,19,25,41]) (rg [19,25])<| .first 17 (rg [18,19,25,41]) (rg [19,25])<| .first 18 (rg [25,41]) (rg [19,25])<| .first 19 (rg [24,41]) [20,21,22,23]<| .first 20 (rg [21,41]) []<| .first 21 (rg [22,41]) []<| .first 22 (rg [23,41]) []<| .first 23 (rg [24,41]) []<| .first 24 (rg [25,41]) []<| .fork 25 (.first 26 (rg [27,41]) []<| .first 27 (rg [28,41]) []<| .first 28 [29,30,31,38,39,40] (rg [32,38])<| .first 29 [30,31,38,39,40] (rg [32,38])<| .first 30 [31,38,39,40] (rg [32,38])<| .first 31 [38,39,40] (rg [32,38])<| .first 32 [37,38,39,40] [33,34,35,36]<| .first 33 (rg [34,41]) []<| .first 34 (rg [35,41]) []<| .first 35 [36,37,38,39,40] []<| .first 36 [37,38,39,40] []<| .first 37 [38,39,40] []<| .fork 38 (.first 39 [40] []<| .fork 40 (.done) (.stop)) (.stop)) (.stop)) (.stop)) (.stop))],shut:=[]}
noncomputable def WC:dJ:={par:=[.cut 9],inn:=[(7,some ([3],[3]))],out:=[(6,some ([0,3,4],[3]))],bn:=[(3,([0,3,4],[3]))],frz:=[],sch:=[(6,.first 0 [18,19] (rg [1,18])<| .first 1 [2,3,4,6,7,8,17,18,19] (rg [5,6,9,17])<| .first 2 [3,4,6,7,8,17,18,19] (rg [5,6,9,17])<| .first 3 [4,6,7,8,17,18,19] (rg [5,6,9,17])<| .first 4 [6,7,8,17,18,19] (rg [5,6,9,17])<| .first 5 [6,7,8,17,18,19] (rg [9,17])<| .first 6 [7,8,17,18,19] (rg [9,17])<| .first 7 [8,17,18,19] (rg [9,17])<| .first 8 [17,18,19] (rg [9,17])<| .first 9 (rg [10,13,14,20]) [13]<| .first 10 (rg [11,13,14,20]) [13]<| .first 11 [12,14,15,16,17,18,19] [13]<| .first 12 (rg [14,20]) [13]<| .first 13 (rg [14,20]) []<| .first 14 [15,16,17,18,19] []<| .first 15 [16,17,18,19] []<| .first 16 [17,18,19] []<| .first 17 [18,19] []<| .fork 18 (.fork 19 (.done) (.stop)) (.stop))],shut:=[]}
noncomputable def WE:dJ:={par:=[.cut 9],inn:=[(7,some ([3],[3]))],out:=[(6,some ([0,3,4],[3]))],bn:=[(3,([0,3,4],[3]))],frz:=[],sch:=[(6,.first 0 [18,19] (rg [1,18])<| .first 1 [2,3,4,6,7,8,17,18,19] (rg [5,6,9,17])<| .first 2 [3,4,6,7,8,17,18,19] (rg [5,6,9,17])<| .first 3 [4,6,7,8,17,18,19] (rg [5,6,9,17])<| .first 4 [6,7,8,17,18,19] (rg [5,6,9,17])<| .first 5 [6,7,8,17,18,19] (rg [9,17])<| .first 6 [7,8,17,18,19] (rg [9,17])<| .first 7 [8,17,18,19] (rg [9,17])<| .first 8 [17,18,19] (rg [9,17])<| .first 9 (rg [10,13,14,20]) [13]<| .first 10 (rg [11,13,14,20]) [13]<| .first 11 [12,14,15,16,17,18,19] [13]<| .first 12 (rg [14,20]) [13]<| .first 13 (rg [14,20]) []<| .first 14 [15,16,17,18,19] []<| .first 15 [16,17,18,19] []<| .first 16 [17,18,19] []<| .first 17 [18,19] []<| .fork 18 (.fork 19 (.done) (.stop)) (.stop))],shut:=[]}
noncomputable def WG:dJ:={par:=[.cut 9,.cut 4],inn:=[(6,some ([],[]))],out:=[],bn:=[(2,([0,1,5],[]))],frz:=[],sch:=[],shut:=[]}
noncomputable def WH:dJ:={par:=[.cst false],inn:=[],out:=[(1,some ([2],[]))],bn:=[],frz:=[],sch:=[],shut:=[]}
noncomputable def WI:dJ:={par:=[.cst false],inn:=[],out:=[(1,some ([2],[]))],bn:=[],frz:=[],sch:=[],shut:=[]}
noncomputable def WJ:dJ:={par:=[.ptr [.imm,.imm,.imm]],inn:=[(4,some ([0,3],[0])),(5,some ([0,3],[0])),(6,some ([0,3],[0]))],out:=[(2,some ([0,3,13],[0])),(3,some ([0,3],[0])),(6,some ([0,3,53],[0]))],bn:=[],frz:=[],sch:=[(2,.first 0 [1,2,3,9] [4,5,6,7,8]<| .first 1 [2,3,9] [4,5,6,7,8]<| .first 2 [3,9] [4,5,6,7,8]<| .first 3 [9] [4,5,6,7,8]<| .first 4 [5,6,7,8,9] []<| .first 5 [6,7,8,9] []<| .first 6 [7,8,9] []<| .first 7 [8,9] []<| .first 8 [9] []<| .first 9 [] []<| .done),(3,.first 0 [1,2,3,8,9,10,11] [4,5,6,7]<| .first 1 [2,3,8,9,10,11] [4,5,6,7]<| .first 2 [3,8,9,10,11] [4,5,6,7]<| .first 3 [8,9,10,11] [4,5,6,7]<| .first 4 (rg [5,12]) []<| .first 5 [6,7,8,9,10,11] []<| .first 6 [7,8,9,10,11] []<| .first 7 [8,9,10,11] []<| .first 8 [9,10,11] []<| .first 9 [10,11] []<| .fork 10 (.fork 11 (.done) (.stop)) (.stop)),(6,.first 0 [1,2,3,9] [4,5,6,7,8]<| .first 1 [2,3,9] [4,5,6,7,8]<| .first 2 [3,9] [4,5,6,7,8]<| .first 3 [9] [4,5,6,7,8]<| .first 4 [5,6,7,8,9] []<| .first 5 [6,7,8,9] []<| .first 6 [7,8,9] []<| .first 7 [8,9] []<| .first 8 [9] []<| .first 9 [] []<| .done)],shut:=[]}
noncomputable def WL:dJ:={par:=[],inn:=[],out:=[],bn:=[],frz:=[],sch:=[],shut:=[]}
noncomputable def WM:dJ:={par:=[.cst false,.cst false],inn:=[],out:=[],bn:=[],frz:=[],sch:=[],shut:=[]}
noncomputable def WN:dJ:={par:=[.ptr [.imm,.imm,.imm],.cst false],inn:=[],out:=[],bn:=[],frz:=[],sch:=[],shut:=[]}
noncomputable def WO:dJ:={par:=[.cst false],inn:=[(6,some ([0],[]))],out:=[(4,some ([0,3,32],[]))],bn:=[(2,([0,3],[]))],frz:=[],sch:=[(4,.first 0 (rg [2,23]) [1]<| .first 1 (rg [2,23]) []<| .first 2 (rg [3,23]) []<| .fork 3 (.first 4 (rg [5,23]) []<| .first 5 (rg [6,23]) []<| .first 6 (rg [7,23]) []<| .first 7 (rg [8,23]) []<| .first 8 (rg [9,23]) []<| .first 9 [12,13,14,20,21,22] [10,11,15,16,17,18,19]<| .first 10 [11,12,13,14,20,21,22] [15,16,17,18,19]<| .first 11 [12,13,14,20,21,22] [15,16,17,18,19]<| .first 12 [13,14,20,21,22] [15,16,17,18,19]<| .first 13 [14,20,21,22] [15,16,17,18,19]<| .first 14 [20,21,22] [15,16,17,18,19]<| .first 15 (rg [17,23]) [16]<| .first 16 (rg [17,23]) []<| .first 17 [18,19,20,21,22] []<| .first 18 [19,20,21,22] []<| .first 19 [20,21,22] []<| .first 20 [21,22] []<| .first 21 [22] []<| .first 22 [] []<| .done) (.stop))],shut:=[]}
noncomputable def WQ:dJ:={par:=[.cut 8],inn:=[],out:=[(1,some ([2],[]))],bn:=[],frz:=[],sch:=[],shut:=[]}
noncomputable def WR:dJ:={par:=[.cst false,.cst false],inn:=[(6,some ([],[]))],out:=[],bn:=[(2,([0,1,5],[]))],frz:=[],sch:=[],shut:=[]}
noncomputable def WS:dJ:={par:=[.row,.cst false,.cst false],inn:=[(4,some ([0,1,2,6,8],[0])),(6,some ([0,1,2,6,7],[0])),(11,some ([0,1,2,6,8],[0])),(13,some ([0,1,2,6,7],[0])),(16,some ([0,1,2,6],[0]))],out:=[],bn:=[(2,([0,1,2,6,7,8],[0])),(7,([0,1,2,6],[0])),(9,([0,1,2,6,7,8],[0]))],frz:=[],sch:=[],shut:=[]}
noncomputable def WT:dJ:={par:=[.row,.cst false,.cst false],inn:=[(2,some ([0,1,2,6],[0]))],out:=[(4,some ([0,1,2,6,7,30],[0])),(6,some ([0,1,2,6,7],[0]))],bn:=[(1,([0,1,2,6],[0])),(4,([0,1,2,6,7],[0]))],frz:=[],sch:=[(4,.first 0 (rg [2,15]) [1]<| .first 1 (rg [2,15]) []<| .first 2 (rg [3,15]) []<| .first 3 (rg [4,15]) []<| .first 4 [6,7,13,14] [5,8,9,10,11,12]<| .first 5 [6,7,13,14] [8,9,10,11,12]<| .first 6 [7,13,14] [8,9,10,11,12]<| .first 7 [13,14] [8,9,10,11,12]<| .first 8 [11,12,13,14] [9,10]<| .first 9 [10,11,12,13,14] []<| .first 10 [11,12,13,14] []<| .first 11 [12,13,14] []<| .first 12 [13,14] []<| .fork 13 (.first 14 [] []<| .done) (.stop)),(6,.first 0 [14,15,16,17] (rg [1,14])<| .first 1 [14,15,16,17] (rg [2,14])<| .first 2 [16,17] (rg [3,16])<| .first 3 [4,16,17] (rg [5,16])<| .first 4 [16,17] (rg [5,16])<| .first 5 [8,9,14,15,16,17] [6,7,10,11,12,13]<| .first 6 [7,8,9,14,15,16,17] [10,11,12,13]<| .first 7 [8,9,14,15,16,17] [10,11,12,13]<| .first 8 [9,14,15,16,17] [10,11,12,13]<| .first 9 [14,15,16,17] [10,11,12,13]<| .first 10 (rg [12,18]) [11]<| .first 11 (rg [12,18]) []<| .first 12 [13,14,15,16,17] []<| .first 13 [14,15,16,17] []<| .first 14 [15,16,17] []<| .fork 15 (.first 16 [17] []<| .fork 17 (.done) (.stop)) (.stop))],shut:=[]}
noncomputable def WU:dJ:={par:=[.row,.cst false,.cst false],inn:=[(5,some ([0,6,7,8,9],[0])),(7,some ([0,6,7,8],[0])),(9,some ([0,6,7,10],[0]))],out:=[(10,some ([0,6,7,10],[0]))],bn:=[(4,([0,6,7,8,9],[0])),(8,([0,6,7,10],[0]))],frz:=[],sch:=[(10,.first 0 [16,17,18,19] (rg [1,16])<| .first 1 [16,17,18,19] (rg [2,16])<| .first 2 [18,19] (rg [3,18])<| .first 3 [5,18,19] (rg [4,5,6,18])<| .first 4 [5,18,19] (rg [6,18])<| .first 5 [18,19] (rg [6,18])<| .first 6 [10,11,16,17,18,19] [7,8,9,12,13,14,15]<| .first 7 [9,10,11,16,17,18,19] [8,12,13,14,15]<| .first 8 [9,10,11,16,17,18,19] [12,13,14,15]<| .first 9 [10,11,16,17,18,19] [12,13,14,15]<| .first 10 [11,16,17,18,19] [12,13,14,15]<| .first 11 [16,17,18,19] [12,13,14,15]<| .first 12 (rg [14,20]) [13]<| .first 13 (rg [14,20]) []<| .first 14 [15,16,17,18,19] []<| .first 15 [16,17,18,19] []<| .first 16 [17,18,19] []<| .fork 17 (.first 18 [19] []<| .fork 19 (.done) (.stop)) (.stop))],shut:=[]}
noncomputable def WV:dJ:={par:=[.row,.cst false,.cst false],inn:=[(3,some ([0,1,6,7],[0,7])),(8,some ([0,1,6,7,8,9,10],[0,7])),(10,some ([0,1,6,7,8,9,10],[0,7]))],out:=[(10,some ([0,1,6,7,8,9],[0,7]))],bn:=[(5,([0,1,6,7,8,9],[0,7]))],frz:=[],sch:=[(10,.first 0 [16,17,18,19] (rg [1,16])<| .first 1 [16,17,18,19] (rg [2,16])<| .first 2 [18,19] (rg [3,18])<| .first 3 [5,18,19] (rg [4,5,6,18])<| .first 4 [5,18,19] (rg [6,18])<| .first 5 [18,19] (rg [6,18])<| .first 6 [10,11,16,17,18,19] [7,8,9,12,13,14,15]<| .first 7 [9,10,11,16,17,18,19] [8,12,13,14,15]<| .first 8 [9,10,11,16,17,18,19] [12,13,14,15]<| .first 9 [10,11,16,17,18,19] [12,13,14,15]<| .first 10 [11,16,17,18,19] [12,13,14,15]<| .first 11 [16,17,18,19] [12,13,14,15]<| .first 12 (rg [14,20]) [13]<| .first 13 (rg [14,20]) []<| .first 14 [15,16,17,18,19] []<| .first 15 [16,17,18,19] []<| .first 16 [17,18,19] []<| .fork 17 (.first 18 [19] []<| .fork 19 (.done) (.stop)) (.stop))],shut:=[]}
noncomputable def WW:dJ:={par:=[.cst false,.cst false,.cst false],inn:=[(9,some ([0,9,10,11,12],[9])),(10,some ([0,9,10,11,12],[9])),(11,some ([0,9,10,11,12],[9])),(12,some ([9,11],[9]))],out:=[],bn:=[],frz:=[],sch:=[],shut:=[]}
noncomputable def WX:dJ:={par:=[.row,.cst false,.cst false],inn:=[],out:=[(3,some ([0,6,7],[0]))],bn:=[(2,([0,6,7],[0]))],frz:=[],sch:=[(3,.first 0 [12,13,14,15] (rg [1,12])<| .first 1 [12,13,14,15] (rg [2,12])<| .first 2 [14,15] (rg [3,14])<| .first 3 [14,15] (rg [4,14])<| .first 4 [6,7,12,13,14,15] [5,8,9,10,11]<| .first 5 [6,7,12,13,14,15] [8,9,10,11]<| .first 6 [7,12,13,14,15] [8,9,10,11]<| .first 7 [12,13,14,15] [8,9,10,11]<| .first 8 (rg [10,16]) [9]<| .first 9 (rg [10,16]) []<| .first 10 [11,12,13,14,15] []<| .first 11 [12,13,14,15] []<| .first 12 [13,14,15] []<| .fork 13 (.first 14 [15] []<| .fork 15 (.done) (.stop)) (.stop))],shut:=[]}
noncomputable def WY:dJ:={par:=[.row,.cst false,.cst false],inn:=[(4,some ([0,1,2,7,8],[0])),(7,some ([0,1,2,7,8],[0])),(18,some ([0,1,2,7,8],[0])),(24,some ([],[0]))],out:=[(5,some ([0,1,2,7,8,32],[0])),(11,some ([0,1,2,7,8],[0])),(16,some ([0,1,2,7,8,9,78],[0])),(17,some ([0,1,2,7,8,9],[0])),(22,some ([0,1,2,7,8,10,116],[0])),(23,some ([0,1,2,7,8,10],[0]))],bn:=[(3,([0,1,2,7,8],[0])),(5,([0,1,2,7,8],[0])),(14,([0,1,2,7,8,9],[0])),(20,([0,1,2,7,8,10],[0]))],frz:=[],sch:=[(5,.first 0 (rg [2,16]) [1]<| .first 1 (rg [2,16]) []<| .first 2 (rg [3,16]) []<| .first 3 (rg [4,16]) []<| .first 4 [6,7,13,14,15] [5,8,9,10,11,12]<| .first 5 [6,7,13,14,15] [8,9,10,11,12]<| .first 6 [7,13,14,15] [8,9,10,11,12]<| .first 7 [13,14,15] [8,9,10,11,12]<| .first 8 [11,12,13,14,15] [9,10]<| .first 9 (rg [10,16]) []<| .first 10 [11,12,13,14,15] []<| .first 11 [12,13,14,15] []<| .first 12 [13,14,15] []<| .fork 13 (.first 14 [15] []<| .first 15 [] []<| .done) (.stop)),(11,.first 0 [14,15,16,17] (rg [1,14])<| .first 1 [14,15,16,17] (rg [2,14])<| .first 2 [16,17] (rg [3,16])<| .first 3 [4,16,17] (rg [5,16])<| .first 4 [16,17] (rg [5,16])<| .first 5 [8,9,14,15,16,17] [6,7,10,11,12,13]<| .first 6 [7,8,9,14,15,16,17] [10,11,12,13]<| .first 7 [8,9,14,15,16,17] [10,11,12,13]<| .first 8 [9,14,15,16,17] [10,11,12,13]<| .first 9 [14,15,16,17] [10,11,12,13]<| .first 10 (rg [12,18]) [11]<| .first 11 (rg [12,18]) []<| .first 12 [13,14,15,16,17] []<| .first 13 [14,15,16,17] []<| .first 14 [15,16,17] []<| .fork 15 (.first 16 [17] []<| .fork 17 (.done) (.stop)) (.stop)),(16,.first 0 [2,3,9,10] [1,4,5,6,7,8]<| .first 1 [2,3,9,10] [4,5,6,7,8]<| .first 2 [3,9,10] [4,5,6,7,8]<| .first 3 [9,10] [4,5,6,7,8]<| .first 4 [7,8,9,10] [5,6]<| .first 5 [6,7,8,9,10] []<| .first 6 [7,8,9,10] []<| .first 7 [8,9,10] []<| .first 8 [9,10] []<| .fork 9 (.first 10 [] []<| .done) (.stop)),(17,.first 0 [14,15,16,17] (rg [1,14])<| .first 1 [14,15,16,17] (rg [2,14])<| .first 2 [16,17] (rg [3,16])<| .first 3 [4,16,17] (rg [5,16])<| .first 4 [16,17] (rg [5,16])<| .first 5 [8,9,14,15,16,17] [6,7,10,11,12,13]<| .first 6 [7,8,9,14,15,16,17] [10,11,12,13]<| .first 7 [8,9,14,15,16,17] [10,11,12,13]<| .first 8 [9,14,15,16,17] [10,11,12,13]<| .first 9 [14,15,16,17] [10,11,12,13]<| .first 10 (rg [12,18]) [11]<| .first 11 (rg [12,18]) []<| .first 12 [13,14,15,16,17] []<| .first 13 [14,15,16,17] []<| .first 14 [15,16,17] []<| .fork 15 (.first 16 [17] []<| .fork 17 (.done) (.stop)) (.stop)),(22,.first 0 [2,3,9,10] [1,4,5,6,7,8]<| .first 1 [2,3,9,10] [4,5,6,7,8]<| .first 2 [3,9,10] [4,5,6,7,8]<| .first 3 [9,10] [4,5,6,7,8]<| .first 4 [7,8,9,10] [5,6]<| .first 5 [6,7,8,9,10] []<| .first 6 [7,8,9,10] []<| .first 7 [8,9,10] []<| .first 8 [9,10] []<| .fork 9 (.first 10 [] []<| .done) (.stop)),(23,.first 0 [14,15,16,17] (rg [1,14])<| .first 1 [14,15,16,17] (rg [2,14])<| .first 2 [16,17] (rg [3,16])<| .first 3 [4,16,17] (rg [5,16])<| .first 4 [16,17] (rg [5,16])<| .first 5 [8,9,14,15,16,17] [6,7,10,11,12,13]<| .first 6 [7,8,9,14,15,16,17] [10,11,12,13]<| .first 7 [8,9,14,15,16,17] [10,11,12,13]<| .first 8 [9,14,15,16,17] [10,11,12,13]<| .first 9 [14,15,16,17] [10,11,12,13]<| .first 10 (rg [12,18]) [11]<| .first 11 (rg [12,18]) []<| .first 12 [13,14,15,16,17] []<| .first 13 [14,15,16,17] []<| .first 14 [15,16,17] []<| .fork 15 (.first 16 [17] []<| .fork 17 (.done) (.stop)) (.stop))],shut:=[]}
noncomputable def WZ:dJ:={par:=[.cst false,.cst false],inn:=[],out:=[(1,some ([4],[]))],bn:=[],frz:=[],sch:=[],shut:=[]}
noncomputable def W9:dJ:={par:=[.row,.cst false,.cst false,.cst false],inn:=[(7,some ([0,1,9,10],[0])),(11,some ([9],[0]))],out:=[(1,some ([0,1,2],[0])),(3,some ([0,1,9,10,43],[0])),(5,some ([0,1,9,10,59],[0])),(8,some ([0,1,9,10],[0]))],bn:=[(3,([0,1,9,10],[0])),(5,([0,1,9,10],[0]))],frz:=[],sch:=[(1,.first 0 [12,13,14,15] (rg [1,12])<| .first 1 [12,13,14,15] (rg [2,12])<| .first 2 [14,15] (rg [3,14])<| .first 3 [14,15] (rg [4,14])<| .first 4 [6,7,12,13,14,15] [5,8,9,10,11]<| .first 5 [6,7,12,13,14,15] [8,9,10,11]<| .first 6 [7,12,13,14,15] [8,9,10,11]<| .first 7 [12,13,14,15] [8,9,10,11]<| .first 8 (rg [10,16]) [9]<| .first 9 (rg [10,16]) []<| .first 10 [11,12,13,14,15] []<| .first 11 [12,13,14,15] []<| .first 12 [13,14,15] []<| .fork 13 (.first 14 [15] []<| .fork 15 (.done) (.stop)) (.stop)),(3,.first 0 (rg [2,15]) [1]<| .first 1 (rg [2,15]) []<| .first 2 (rg [3,15]) []<| .first 3 (rg [4,15]) []<| .first 4 [6,7,12,13,14] [5,8,9,10,11]<| .first 5 [6,7,12,13,14] [8,9,10,11]<| .first 6 [7,12,13,14] [8,9,10,11]<| .first 7 [12,13,14] [8,9,10,11]<| .first 8 [10,11,12,13,14] [9]<| .first 9 [10,11,12,13,14] []<| .first 10 [11,12,13,14] []<| .first 11 [12,13,14] []<| .fork 12 (.first 13 [14] []<| .first 14 [] []<| .done) (.stop)),(5,.first 0 (rg [2,14]) [1]<| .first 1 (rg [2,14]) []<| .first 2 (rg [3,14]) []<| .first 3 (rg [4,14]) []<| .first 4 [6,7,12,13] [5,8,9,10,11]<| .first 5 [6,7,12,13] [8,9,10,11]<| .first 6 [7,12,13] [8,9,10,11]<| .first 7 [12,13] [8,9,10,11]<| .first 8 [10,11,12,13] [9]<| .first 9 [10,11,12,13] []<| .first 10 [11,12,13] []<| .first 11 [12,13] []<| .fork 12 (.first 13 [] []<| .done) (.stop)),(8,.first 0 [12,13,14,15] (rg [1,12])<| .first 1 [12,13,14,15] (rg [2,12])<| .first 2 [14,15] (rg [3,14])<| .first 3 [14,15] (rg [4,14])<| .first 4 [6,7,12,13,14,15] [5,8,9,10,11]<| .first 5 [6,7,12,13,14,15] [8,9,10,11]<| .first 6 [7,12,13,14,15] [8,9,10,11]<| .first 7 [12,13,14,15] [8,9,10,11]<| .first 8 (rg [10,16]) [9]<| .first 9 (rg [10,16]) []<| .first 10 [11,12,13,14,15] []<| .first 11 [12,13,14,15] []<| .first 12 [13,14,15] []<| .fork 13 (.first 14 [15] []<| .fork 15 (.done) (.stop)) (.stop))],shut:=[]}
noncomputable def Xa:dJ:={par:=[.row,.cst false,.cst false,.cst false],inn:=[(7,some ([0,1,10,11],[0])),(17,some ([0,1,10,11],[0])),(21,some ([0,1,11],[0]))],out:=[(1,some ([0,1,2],[0])),(3,some ([0,1,10,11,43],[0])),(5,some ([0,1,10,11,60],[0])),(8,some ([11],[0])),(10,some ([0,1,10,11],[0])),(13,some ([0,1,10,11,112],[0])),(15,some ([0,1,10,11,129],[0])),(18,some ([0,1,10,11],[0])),(21,some ([11],[0]))],bn:=[(3,([0,1,10,11],[0])),(5,([0,1,10,11],[0])),(13,([0,1,10,11],[0])),(15,([0,1,10,11],[0]))],frz:=[],sch:=[(1,.first 0 [12,13,14,15] (rg [1,12])<| .first 1 [12,13,14,15] (rg [2,12])<| .first 2 [14,15] (rg [3,14])<| .first 3 [14,15] (rg [4,14])<| .first 4 [6,7,12,13,14,15] [5,8,9,10,11]<| .first 5 [6,7,12,13,14,15] [8,9,10,11]<| .first 6 [7,12,13,14,15] [8,9,10,11]<| .first 7 [12,13,14,15] [8,9,10,11]<| .first 8 (rg [10,16]) [9]<| .first 9 (rg [10,16]) []<| .first 10 [11,12,13,14,15] []<| .first 11 [12,13,14,15] []<| .first 12 [13,14,15] []<| .fork 13 (.first 14 [15] []<| .fork 15 (.done) (.stop)) (.stop)),(3,.first 0 (rg [2,14]) [1]<| .first 1 (rg [2,14]) []<| .first 2 (rg [3,14]) []<| .first 3 (rg [4,14]) []<| .first 4 [6,7,12,13] [5,8,9,10,11]<| .first 5 [6,7,12,13] [8,9,10,11]<| .first 6 [7,12,13] [8,9,10,11]<| .first 7 [12,13] [8,9,10,11]<| .first 8 [10,11,12,13] [9]<| .first 9 [10,11,12,13] []<| .first 10 [11,12,13] []<| .first 11 [12,13] []<| .fork 12 (.first 13 [] []<| .done) (.stop)),(5,.first 0 (rg [2,15]) [1]<| .first 1 (rg [2,15]) []<| .first 2 (rg [3,15]) []<| .first 3 (rg [4,15]) []<| .first 4 [6,7,12,13,14] [5,8,9,10,11]<| .first 5 [6,7,12,13,14] [8,9,10,11]<| .first 6 [7,12,13,14] [8,9,10,11]<| .first 7 [12,13,14] [8,9,10,11]<| .first 8 [10,11,12,13,14] [9]<| .first 9 [10,11,12,13,14] []<| .first 10 [11,12,13,14] []<| .first 11 [12,13,14] []<| .fork 12 (.first 13 [14] []<| .first 14 [] []<| .done) (.stop)),(8,.first 0 [12,13,14,15] (rg [1,12])<| .first 1 [12,13,14,15] (rg [2,12])<| .first 2 [14,15] (rg [3,14])<| .first 3 [14,15] (rg [4,14])<| .first 4 [6,7,12,13,14,15] [5,8,9,10,11]<| .first 5 [6,7,12,13,14,15] [8,9,10,11]<| .first 6 [7,12,13,14,15] [8,9,10,11]<| .first 7 [12,13,14,15] [8,9,10,11]<| .first 8 (rg [10,16]) [9]<| .first 9 (rg [10,16]) []<| .first 10 [11,12,13,14,15] []<| .first 11 [12,13,14,15] []<| .first 12 [13,14,15] []<| .fork 13 (.first 14 [15] []<| .fork 15 (.done) (.stop)) (.stop)),(10,.first 0 [12,13,14,15] (rg [1,12])<| .first 1 [12,13,14,15] (rg [2,12])<| .first 2 [14,15] (rg [3,14])<| .first 3 [14,15] (rg [4,14])<| .first 4 [6,7,12,13,14,15] [5,8,9,10,11]<| .first 5 [6,7,12,13,14,15] [8,9,10,11]<| .first 6 [7,12,13,14,15] [8,9,10,11]<| .first 7 [12,13,14,15] [8,9,10,11]<| .first 8 (rg [10,16]) [9]<| .first 9 (rg [10,16]) []<| .first 10 [11,12,13,14,15] []<| .first 11 [12,13,14,15] []<| .first 12 [13,14,15] []<| .fork 13 (.first 14 [15] []<| .fork 15 (.done) (.stop)) (.stop)),(13,.first 0 (rg [2,14]) [1]<| .first 1 (rg [2,14]) []<| .first 2 (rg [3,14]) []<| .first 3 (rg [4,14]) []<| .first 4 [6,7,12,13] [5,8,9,10,11]<| .first 5 [6,7,12,13] [8,9,10,11]<| .first 6 [7,12,13] [8,9,10,11]<| .first 7 [12,13] [8,9,10,11]<| .first 8 [10,11,12,13] [9]<| .first 9 [10,11,12,13] []<| .first 10 [11,12,13] []<| .first 11 [12,13] []<| .fork 12 (.first 13 [] []<| .done) (.stop)),(15,.first 0 (rg [2,15]) [1]<| .first 1 (rg [2,15]) []<| .first 2 (rg [3,15]) []<| .first 3 (rg [4,15]) []<| .first 4 [6,7,12,13,14] [5,8,9,10,11]<| .first 5 [6,7,12,13,14] [8,9,10,11]<| .first 6 [7,12,13,14] [8,9,10,11]<| .first 7 [12,13,14] [8,9,10,11]<| .first 8 [10,11,12,13,14] [9]<| .first 9 [10,11,12,13,14] []<| .first 10 [11,12,13,14] []<| .first 11 [12,13,14] []<| .fork 12 (.first 13 [14] []<| .first 14 [] []<| .done) (.stop)),(18,.first 0 [12,13,14,15] (rg [1,12])<| .first 1 [12,13,14,15] (rg [2,12])<| .first 2 [14,15] (rg [3,14])<| .first 3 [14,15] (rg [4,14])<| .first 4 [6,7,12,13,14,15] [5,8,9,10,11]<| .first 5 [6,7,12,13,14,15] [8,9,10,11]<| .first 6 [7,12,13,14,15] [8,9,10,11]<| .first 7 [12,13,14,15] [8,9,10,11]<| .first 8 (rg [10,16]) [9]<| .first 9 (rg [10,16]) []<| .first 10 [11,12,13,14,15] []<| .first 11 [12,13,14,15] []<| .first 12 [13,14,15] []<| .fork 13 (.first 14 [15] []<| .fork 15 (.done) (.stop)) (.stop)),(21,.first 0 [12,13,14,15] (rg [1,12])<| .first 1 [12,13,14,15] (rg [2,12])<| .first 2 [14,15] (rg [3,14])<| .first 3 [14,15] (rg [4,14])<| .first 4 [6,7,12,13,14,15] [5,8,9,10,11]<| .first 5 [6,7,12,13,14,15] [8,9,10,11]<| .first 6 [7,12,13,14,15] [8,9,10,11]<| .first 7 [12,13,14,15] [8,9,10,11]<| .first 8 (rg [10,16]) [9]<| .first 9 (rg [10,16]) []<| .first 10 [11,12,13,14,15] []<| .first 11 [12,13,14,15] []<| .first 12 [13,14,15] []<| .fork 13 (.first 14 [15] []<| .fork 15 (.done) (.stop)) (.stop))],shut:=[]}
noncomputable def Xb:dJ:={par:=[.cst false],inn:=[(4,some ([0,2],[])),(7,some ([0,2],[])),(10,some ([0,2],[]))],out:=[],bn:=[],frz:=[],sch:=[],shut:=[]}
noncomputable def Xc:dJ:={par:=[.ptr [.imm,.imm,.imm],.cst false,.cst false],inn:=[(2,some ([0,1,2,6,7],[0,6,7])),(3,some ([0,1,2,6,7],[0,6,7])),(4,some ([0,2,6,7],[0,6,7])),(5,some ([6,7],[0,6,7]))],out:=[],bn:=[],frz:=[],sch:=[],shut:=[]}
noncomputable def Xd:dJ:={par:=[.cst false],inn:=[],out:=[],bn:=[],frz:=[],sch:=[],shut:=[]}
noncomputable def Xe:dJ:={par:=[.cst false],inn:=[],out:=[],bn:=[],frz:=[],sch:=[],shut:=[]}
noncomputable def Xf:dJ:={par:=[.cst false,.cst false,.cst false],inn:=[],out:=[(1,some ([6],[]))],bn:=[],frz:=[],sch:=[],shut:=[]}
noncomputable def Xg:dJ:={par:=[.cst false,.cst false],inn:=[(7,some ([],[]))],out:=[],bn:=[(2,([0,1,7,8],[]))],frz:=[],sch:=[],shut:=[]}
noncomputable def Xh:dJ:={par:=[.cst false,.cst false],inn:=[(3,some ([4,8],[4,8]))],out:=[(1,some ([2,3,4,6,7],[2,3,4])),(3,some ([4,5],[4]))],bn:=[],frz:=[],sch:=[(1,.first 0 [1,4,10,11] [2,3,5,6,7,8,9]<| .first 1 [4,10,11] [2,3,5,6,7,8,9]<| .first 2 [3,4,10,11] [5,6,7,8,9]<| .first 3 [4,10,11] [5,6,7,8,9]<| .first 5 [6,9,11] [4,7,8,10]<| .first 6 [9,11] [4,7,8,10]<| .first 7 [8,9,11] [4,10]<| .first 8 [9,11] [4,10]<| .fork 4 (.fork 9 (.fork 10 (.fork 11 (.done) (.stop)) (.stop)) (.fork 10 (.fork 9 (.fork 11 (.done) (.stop)) (.stop)) (.stop))) (.fork 9 (.fork 4 (.fork 10 (.fork 11 (.done) (.stop)) (.stop)) (.stop)) (.stop))),(3,.first 0 [9,10] (rg [1,9])<| .first 1 (rg [2,11]) []<| .first 2 (rg [3,11]) []<| .first 3 (rg [4,11]) []<| .first 4 [5,6,7,8,9,10] []<| .fork 5 (.fork 6 (.first 7 [8,10] [9]<| .first 8 [10] [9]<| .fork 9 (.fork 10 (.done) (.stop)) (.stop)) (.fork 9 (.first 6 [7,8,10] []<| .first 7 [8,10] []<| .first 8 [10] []<| .fork 10 (.done) (.stop)) (.stop))) (.fork 9 (.first 5 [6,7,8,10] []<| .first 6 [7,8,10] []<| .first 7 [8,10] []<| .first 8 [10] []<| .fork 10 (.done) (.stop)) (.stop)))],shut:=[]}
noncomputable def Xi:dJ:={par:=[.cst false,.cst false],inn:=[(10,some ([0,1,5,6,7],[5])),(11,some ([1,5,6],[5])),(13,some ([5],[5]))],out:=[(6,some ([0,1,5,6,7,24],[5]))],bn:=[(4,([0,1,5,6,7],[5]))],frz:=[],sch:=[],shut:=[]}
noncomputable def Xj:dJ:={par:=[.cut 4,.cut 4],inn:=[],out:=[(1,some ([4],[]))],bn:=[],frz:=[],sch:=[(1,.first 0 (rg [1,4,13,63]) (rg [4,13])<| .first 1 (rg [2,4,13,63]) (rg [4,13])<| .first 2 (rg [3,4,13,63]) (rg [4,13])<| .first 3 (rg [13,63]) (rg [4,13])<| .first 4 (rg [5,8,12,63]) [8,9,10,11]<| .first 5 (rg [6,8,12,63]) [8,9,10,11]<| .first 6 (rg [7,8,12,63]) [8,9,10,11]<| .first 7 (rg [12,63]) [8,9,10,11]<| .first 8 (rg [9,63]) []<| .first 9 (rg [10,63]) []<| .first 10 (rg [11,63]) []<| .first 11 (rg [12,63]) []<| .first 12 (rg [13,63]) []<| .first 13 (rg [14,63]) []<| .first 14 (rg [15,63]) []<| .first 15 (rg [16,19,28,63]) (rg [19,28])<| .first 16 (rg [17,19,28,63]) (rg [19,28])<| .first 17 (rg [18,19,28,63]) (rg [19,28])<| .first 18 (rg [28,63]) (rg [19,28])<| .first 19 (rg [20,23,27,63]) [23,24,25,26]<| .first 20 (rg [21,23,27,63]) [23,24,25,26]<| .first 21 (rg [22,23,27,63]) [23,24,25,26]<| .first 22 (rg [27,63]) [23,24,25,26]<| .first 23 (rg [24,63]) []<| .first 24 (rg [25,63]) []<| .first 25 (rg [26,63]) []<| .first 26 (rg [27,63]) []<| .first 27 (rg [28,63]) []<| .first 28 (rg [29,63]) []<| .first 29 (rg [30,63]) []<| .first 30 (rg [31,63]) []<| .first 31 (rg [32,35,44,63]) (rg [35,44])<| .first 32 (rg [33,35,44,63]) (rg [35,44])<| .first 33 (rg [34,35,44,63]) (rg [35,44])<| .first 34 (rg [44,63]) (rg [35,44])<| .first 35 (rg [36,39,43,63]) [39,40,41,42]<| .first 36 (rg [37,39,43,63]) [39,40,41,42]<| .first 37 (rg [38,39,43,63]) [39,40,41,42]<| .first 38 (rg [43,63]) [39,40,41,42]<| .first 39 (rg [40,63]) []<| .first 40 (rg [41,63]) []<| .first 41 (rg [42,63]) []<| .first 42 (rg [43,63]) []<| .first 43 (rg [44,63]) []<| .first 44 (rg [45,63]) []<| .first 45 (rg [46,63]) []<| .first 46 (rg [47,63]) []<| .first 47 [48,49,50,60,61,62] (rg [51,60])<| .first 48 [49,50,60,61,62] (rg [51,60])<| .first 49 [50,60,61,62] (rg [51,60])<| .first 50 [60,61,62] (rg [51,60])<| .first 51 [52,53,54,59,60,61,62] [55,56,57,58]<| .first 52 [53,54,59,60,61,62] [55,56,57,58]<| .first 53 [54,59,60,61,62] [55,56,57,58]<| .first 54 [59,60,61,62] [55,56,57,58]<| .first 55 (rg [56,63]) []<| .first 56 (rg [57,63]) []<| .first 57 [58,59,60,61,62] []<| .first 58 [59,60,61,62] []<| .first 59 [60,61,62] []<| .first 60 [61,62] []<| .first 61 [62] []<| .fork 62 (.done) (.stop))],shut:=[]}
noncomputable def Xk:dJ:={par:=[.row,.cst false,.cst false,.cst false],inn:=[(2,some ([0,1,2,3,8],[0]))],out:=[(4,some ([0,1,2,3,8,9,34],[0])),(6,some ([0,1,2,3,8,9],[0]))],bn:=[(1,([0,1,2,3,8],[0])),(4,([0,1,2,3,8,9],[0]))],frz:=[],sch:=[(4,.first 0 (rg [2,17]) [1]<| .first 1 (rg [2,17]) []<| .first 2 (rg [3,17]) []<| .first 3 (rg [4,17]) []<| .first 4 [14,15,16] (rg [5,14])<| .first 5 [7,8,14,15,16] [6,9,10,11,12,13]<| .first 6 [7,8,14,15,16] [9,10,11,12,13]<| .first 7 [8,14,15,16] [9,10,11,12,13]<| .first 8 [14,15,16] [9,10,11,12,13]<| .first 9 [12,13,14,15,16] [10,11]<| .first 10 (rg [11,17]) []<| .first 11 [12,13,14,15,16] []<| .first 12 [13,14,15,16] []<| .first 13 [14,15,16] []<| .fork 14 (.first 15 [16] []<| .first 16 [] []<| .done) (.stop)),(6,.first 0 [14,15,16,17] (rg [1,14])<| .first 1 [14,15,16,17] (rg [2,14])<| .first 2 [16,17] (rg [3,16])<| .first 3 [4,16,17] (rg [5,16])<| .first 4 [16,17] (rg [5,16])<| .first 5 [8,9,14,15,16,17] [6,7,10,11,12,13]<| .first 6 [7,8,9,14,15,16,17] [10,11,12,13]<| .first 7 [8,9,14,15,16,17] [10,11,12,13]<| .first 8 [9,14,15,16,17] [10,11,12,13]<| .first 9 [14,15,16,17] [10,11,12,13]<| .first 10 (rg [12,18]) [11]<| .first 11 (rg [12,18]) []<| .first 12 [13,14,15,16,17] []<| .first 13 [14,15,16,17] []<| .first 14 [15,16,17] []<| .fork 15 (.first 16 [17] []<| .fork 17 (.done) (.stop)) (.stop))],shut:=[]}
noncomputable def Xl:dJ:={par:=[.row,.cst false,.cst false,.cst false,.cst false],inn:=[(8,some ([0,1,10],[0])),(20,some ([0,2,14],[0])),(32,some ([0,1,2,3,4,18,19,20,21],[0])),(38,some ([0,1,2,3,4,18,19,20],[0])),(41,some ([0,1,3,4,18,20,24],[0])),(43,some ([0,3,4,18,24],[0]))],out:=[(5,some ([0,1,4,10,11,12,50],[0])),(11,some ([0,10,13],[0])),(17,some ([0,2,4,14,15,16,103],[0])),(23,some ([0,14,17],[0])),(35,some ([0,1,2,3,4,18,19,20,21,22,23,171],[0])),(39,some ([0,1,2,3,4,18,20,24,185],[0])),(41,some ([0,1,3,4,18,20,24,199],[0])),(43,some ([0,3,4,18,24,213],[0]))],bn:=[(3,([0,1,4,10,11],[0])),(9,([0,10,13],[0])),(15,([0,2,4,14,15],[0])),(21,([0,14,17],[0])),(33,([0,1,2,3,4,18,19,20,21,22],[0]))],frz:=[],sch:=[(5,.first 0 [9,10] (rg [1,9])<| .first 1 [3,4,9,10] [2,5,6,7,8]<| .first 2 [3,4,9,10] [5,6,7,8]<| .first 3 [4,9,10] [5,6,7,8]<| .first 4 [9,10] [5,6,7,8]<| .first 5 [7,8,9,10] [6]<| .first 6 [7,8,9,10] []<| .first 7 [8,9,10] []<| .first 8 [9,10] []<| .fork 9 (.first 10 [] []<| .done) (.stop)),(11,.first 0 [14,15,16,17] (rg [1,14])<| .first 1 [14,15,16,17] (rg [2,14])<| .first 2 [16,17] (rg [3,16])<| .first 3 [4,16,17] (rg [5,16])<| .first 4 [16,17] (rg [5,16])<| .first 5 [8,9,14,15,16,17] [6,7,10,11,12,13]<| .first 6 [7,8,9,14,15,16,17] [10,11,12,13]<| .first 7 [8,9,14,15,16,17] [10,11,12,13]<| .first 8 [9,14,15,16,17] [10,11,12,13]<| .first 9 [14,15,16,17] [10,11,12,13]<| .first 10 (rg [12,18]) [11]<| .first 11 (rg [12,18]) []<| .first 12 [13,14,15,16,17] []<| .first 13 [14,15,16,17] []<| .first 14 [15,16,17] []<| .fork 15 (.first 16 [17] []<| .fork 17 (.done) (.stop)) (.stop)),(17,.first 0 [9,10,11] (rg [1,9])<| .first 1 [3,4,9,10,11] [2,5,6,7,8]<| .first 2 [3,4,9,10,11] [5,6,7,8]<| .first 3 [4,9,10,11] [5,6,7,8]<| .first 4 [9,10,11] [5,6,7,8]<| .first 5 [7,8,9,10,11] [6]<| .first 6 [7,8,9,10,11] []<| .first 7 [8,9,10,11] []<| .first 8 [9,10,11] []<| .fork 9 (.first 10 [11] []<| .first 11 [] []<| .done) (.stop)),(23,.first 0 [14,15,16,17] (rg [1,14])<| .first 1 [14,15,16,17] (rg [2,14])<| .first 2 [16,17] (rg [3,16])<| .first 3 [4,16,17] (rg [5,16])<| .first 4 [16,17] (rg [5,16])<| .first 5 [8,9,14,15,16,17] [6,7,10,11,12,13]<| .first 6 [7,8,9,14,15,16,17] [10,11,12,13]<| .first 7 [8,9,14,15,16,17] [10,11,12,13]<| .first 8 [9,14,15,16,17] [10,11,12,13]<| .first 9 [14,15,16,17] [10,11,12,13]<| .first 10 (rg [12,18]) [11]<| .first 11 (rg [12,18]) []<| .first 12 [13,14,15,16,17] []<| .first 13 [14,15,16,17] []<| .first 14 [15,16,17] []<| .fork 15 (.first 16 [17] []<| .fork 17 (.done) (.stop)) (.stop)),(35,.first 0 [11,12,13] (rg [1,11])<| .first 1 [5,6,11,12,13] [2,3,4,7,8,9,10]<| .first 2 [4,5,6,11,12,13] [3,7,8,9,10]<| .first 3 [4,5,6,11,12,13] [7,8,9,10]<| .first 4 [5,6,11,12,13] [7,8,9,10]<| .first 5 [6,11,12,13] [7,8,9,10]<| .first 6 [11,12,13] [7,8,9,10]<| .first 7 [9,10,11,12,13] [8]<| .first 8 [9,10,11,12,13] []<| .first 9 [10,11,12,13] []<| .first 10 [11,12,13] []<| .fork 11 (.first 12 [13] []<| .first 13 [] []<| .done) (.stop))],shut:=[]}
noncomputable def Xm:dJ:={par:=[.row,.cst false,.cst false,.cst false],inn:=[(5,some ([0,2,3,8,9],[0]))],out:=[(3,some ([0,2,3,8,9,36],[0])),(5,some ([0,2,3,8,9,52],[0])),(6,some ([0,2,3,9],[0]))],bn:=[(1,([0,2,3,8],[0]))],frz:=[],sch:=[(3,.first 0 (rg [1,2,3,20]) [2]<| .first 1 (rg [3,20]) [2]<| .first 2 (rg [3,20]) []<| .first 3 (rg [4,20]) []<| .first 4 (rg [5,20]) []<| .first 5 [9,10,18,19] (rg [6,9,11,18])<| .first 6 [8,9,10,18,19] (rg [7,8,11,18])<| .first 7 [8,9,10,18,19] (rg [11,18])<| .first 8 [9,10,18,19] (rg [11,18])<| .first 9 [10,18,19] (rg [11,18])<| .first 10 [18,19] (rg [11,18])<| .first 11 [16,17,18,19] [12,13,14,15]<| .first 12 (rg [14,20]) [13]<| .first 13 (rg [14,20]) []<| .first 14 [15,16,17,18,19] []<| .first 15 [16,17,18,19] []<| .first 16 [17,18,19] []<| .first 17 [18,19] []<| .fork 18 (.first 19 [] []<| .done) (.stop)),(5,.first 0 [4,5,12,13] (rg [1,4,6,12])<| .first 1 [3,4,5,12,13] [2,6,7,8,9,10,11]<| .first 2 [3,4,5,12,13] [6,7,8,9,10,11]<| .first 3 [4,5,12,13] [6,7,8,9,10,11]<| .first 4 [5,12,13] [6,7,8,9,10,11]<| .first 5 [12,13] [6,7,8,9,10,11]<| .first 6 [10,11,12,13] [7,8,9]<| .first 7 [9,10,11,12,13] [8]<| .first 8 [9,10,11,12,13] []<| .first 9 [10,11,12,13] []<| .first 10 [11,12,13] []<| .first 11 [12,13] []<| .fork 12 (.first 13 [] []<| .done) (.stop)),(6,.first 0 [20,21,22,23] (rg [1,20])<| .first 1 [3,20,21,22,23] (rg [2,3,4,20])<| .first 2 [3,20,21,22,23] (rg [4,20])<| .first 3 [20,21,22,23] (rg [4,20])<| .first 4 [22,23] (rg [5,22])<| .first 5 [7,22,23] (rg [6,7,8,22])<| .first 6 [7,22,23] (rg [8,22])<| .first 7 [22,23] (rg [8,22])<| .first 8 [12,13,20,21,22,23] (rg [9,12,14,20])<| .first 9 [11,12,13,20,21,22,23] [10,14,15,16,17,18,19]<| .first 10 [11,12,13,20,21,22,23] (rg [14,20])<| .first 11 [12,13,20,21,22,23] (rg [14,20])<| .first 12 [13,20,21,22,23] (rg [14,20])<| .first 13 [20,21,22,23] (rg [14,20])<| .first 14 (rg [18,24]) [15,16,17]<| .first 15 (rg [17,24]) [16]<| .first 16 (rg [17,24]) []<| .first 17 (rg [18,24]) []<| .first 18 [19,20,21,22,23] []<| .first 19 [20,21,22,23] []<| .first 20 [21,22,23] []<| .fork 21 (.first 22 [23] []<| .fork 23 (.done) (.stop)) (.stop))],shut:=[]}
noncomputable def Xn:dJ:={par:=[.cst false],inn:=[],out:=[],bn:=[],frz:=[],sch:=[],shut:=[]}
noncomputable def Xo:dJ:={par:=[.ptr [.imm]],inn:=[],out:=[(1,some ([0],[0])),(2,some ([0],[0])),(3,some ([0],[0]))],bn:=[],frz:=[],sch:=[(1,.first 0 [1,2,7,8,9] [3,4,5,6]<| .first 1 [2,7,8,9] [3,4,5,6]<| .first 2 [7,8,9] [3,4,5,6]<| .first 3 [4,5,6,7,8,9] []<| .first 4 [5,6,7,8,9] []<| .first 5 [6,7,8,9] []<| .first 6 [7,8,9] []<| .first 7 [8,9] []<| .first 8 [9] []<| .fork 9 (.done) (.stop)),(2,.first 0 [1,2,7,8,9] [3,4,5,6]<| .first 1 [2,7,8,9] [3,4,5,6]<| .first 2 [7,8,9] [3,4,5,6]<| .first 3 [4,5,6,7,8,9] []<| .first 4 [5,6,7,8,9] []<| .first 5 [6,7,8,9] []<| .first 6 [7,8,9] []<| .first 7 [8,9] []<| .first 8 [9] []<| .fork 9 (.done) (.stop)),(3,.first 0 [1,2,7,8,9] [3,4,5,6]<| .first 1 [2,7,8,9] [3,4,5,6]<| .first 2 [7,8,9] [3,4,5,6]<| .first 3 [4,5,6,7,8,9] []<| .first 4 [5,6,7,8,9] []<| .first 5 [6,7,8,9] []<| .first 6 [7,8,9] []<| .first 7 [8,9] []<| .first 8 [9] []<| .fork 9 (.done) (.stop))],shut:=[]}
noncomputable def Xp:dJ:={par:=[.cst false,.cst false,.ptr [.imm]],inn:=[],out:=[],bn:=[],frz:=[],sch:=[],shut:=[]}
noncomputable def Xq:dJ:={par:=[.cst false,.cst false,.cst false,.cst false,.ptr [.imm]],inn:=[(2,some ([0,1,2,3,4],[4])),(3,some ([0,1,2,4],[4])),(4,some ([2],[4]))],out:=[],bn:=[],frz:=[],sch:=[],shut:=[]}
noncomputable def Xr:dJ:={par:=[.cst false],inn:=[],out:=[],bn:=[],frz:=[],sch:=[],shut:=[]}
noncomputable def Xt:dJ:={par:=[.cst false],inn:=[],out:=[],bn:=[],frz:=[],sch:=[],shut:=[]}
noncomputable def Xu:dJ:={par:=[.row,.cst false,.cst false,.cst false,.cst false],inn:=[(5,some ([0,2,4,10,11],[0])),(7,some ([0,2,4,10,11],[0])),(8,some ([0,2,4,10],[0]))],out:=[],bn:=[(2,([0,2,4,10,11],[0]))],frz:=[],sch:=[],shut:=[]}
noncomputable def Xv:dJ:={par:=[.cst false,.cst false,.cst false,.ptr [.imm]],inn:=[(3,some ([1,2],[3]))],out:=[(1,some ([1,2,3,18],[3]))],bn:=[],frz:=[],sch:=[(1,.first 0 [2,3,8] [1,4,5,6,7]<| .first 1 [2,3,8] [4,5,6,7]<| .first 2 [3,8] [4,5,6,7]<| .first 3 [8] [4,5,6,7]<| .first 4 [6,7,8] [5]<| .first 5 [6,7,8] []<| .first 6 [7,8] []<| .first 7 [8] []<| .fork 8 (.done) (.stop))],shut:=[]}
noncomputable def Xw:dJ:={par:=[.row,.cst false,.cst false,.cst false,.cst false],inn:=[],out:=[(3,some ([0,1,2,3,10],[0]))],bn:=[(1,([0,1,2,3,10],[0]))],frz:=[],sch:=[(3,.first 0 [20,21,22,23] (rg [1,20])<| .first 1 [3,20,21,22,23] (rg [2,3,4,20])<| .first 2 [3,20,21,22,23] (rg [4,20])<| .first 3 [20,21,22,23] (rg [4,20])<| .first 4 [22,23] (rg [5,22])<| .first 5 [7,22,23] (rg [6,7,8,22])<| .first 6 [7,22,23] (rg [8,22])<| .first 7 [22,23] (rg [8,22])<| .first 8 [12,13,20,21,22,23] (rg [9,12,14,20])<| .first 9 [11,12,13,20,21,22,23] [10,14,15,16,17,18,19]<| .first 10 [11,12,13,20,21,22,23] (rg [14,20])<| .first 11 [12,13,20,21,22,23] (rg [14,20])<| .first 12 [13,20,21,22,23] (rg [14,20])<| .first 13 [20,21,22,23] (rg [14,20])<| .first 14 (rg [18,24]) [15,16,17]<| .first 15 (rg [17,24]) [16]<| .first 16 (rg [17,24]) []<| .first 17 (rg [18,24]) []<| .first 18 [19,20,21,22,23] []<| .first 19 [20,21,22,23] []<| .first 20 [21,22,23] []<| .fork 21 (.first 22 [23] []<| .fork 23 (.done) (.stop)) (.stop))],shut:=[]}
noncomputable def fcs:List (Nat×dJ):=[(6,fc6),(14,aby),(16,abz),(30,abA),(31,abB),(32,abC),(33,abD),(34,abE),(35,abG),(36,abH),(37,abI),(38,abJ),(39,abK),(66,abL),(67,abM),(69,abN),(70,abO),(71,abP),(72,abQ),(73,abR),(74,abS),(75,abT),(76,abU),(77,abV),(78,abW),(79,abX),(80,abY),(81,abZ),(82,ab1),(85,ab2),(87,ab3),(93,ab4),(106,V3),(107,V4),(115,V5),(121,V6),(122,V7),(123,V8),(124,V9),(125,We),(126,Wh),(127,Wi),(128,Wj),(129,Wl),(130,Wn),(131,Wp),(132,Wq),(133,Ws),(134,Wu),(135,Wv),(136,Wx),(137,Wy),(138,WA),(139,WB),(140,WC),(141,WE),(142,WG),(143,WH),(144,WI),(158,WJ),(159,WL),(160,WM),(163,WN),(166,WO),(167,WQ),(168,WR),(169,WS),(170,WT),(171,WU),(172,WV),(173,WW),(174,WX),(175,WY),(176,WZ),(177,W9),(178,Xa),(180,Xb),(181,Xc),(182,Xd),(183,Xe),(184,Xf),(185,Xg),(186,Xh),(187,Xi),(188,Xj),(198,Xk),(199,Xl),(200,Xm),(201,Xn),(202,Xo),(203,Xp),(204,Xq),(205,Xr),(206,Xt),(209,Xu),(210,Xv),(212,Xw)]
noncomputable def ons:List (Nat×Bool):=[(6,true),(14,true),(16,true),(30,true),(31,true),(32,true),(33,true),(34,true),(35,true),(36,true),(37,true),(38,true),(39,true),(66,true),(67,true),(69,true),(70,true),(71,true),(72,true),(73,true),(74,true),(75,true),(76,true),(77,true),(78,true),(79,true),(80,true),(81,true),(82,true),(85,true),(87,true),(93,true),(106,true),(107,true),(115,true),(121,true),(122,true),(123,true),(124,true),(125,true),(126,true),(127,true),(128,true),(129,true),(130,true),(131,true),(132,true),(133,true),(134,true),(135,true),(136,true),(137,true),(138,true),(139,true),(140,true),(141,true),(142,true),(143,true),(144,true),(158,true),(159,true),(160,true),(163,true),(166,true),(167,true),(168,true),(169,true),(170,true),(171,true),(172,true),(173,true),(174,true),(175,true),(176,true),(177,true),(178,true),(180,true),(181,true),(182,true),(183,true),(184,true),(185,true),(186,true),(187,true),(188,true),(198,true),(199,true),(200,true),(201,true),(202,true),(203,true),(204,true),(205,true),(206,true),(209,true),(210,true),(212,true)]
noncomputable def cfg:Cfg:=ZV ons fcs [(119,some (Ea 1 8))]
theorem c6:cfg.fc 6=fc6:=rfl
instance C6:Cf cfg 6 fc6:=⟨c6⟩
instance Z6:Zf cfg 6:=⟨rfl⟩
theorem z6:(cfg.fc 6).frz=[]:=rfl
theorem c14:cfg.fc 14=aby:=rfl
instance C14:Cf cfg 14 aby:=⟨c14⟩
instance Z14:Zf cfg 14:=⟨rfl⟩
theorem c16:cfg.fc 16=abz:=rfl
instance C16:Cf cfg 16 abz:=⟨c16⟩
instance Z16:Zf cfg 16:=⟨rfl⟩
theorem c30:cfg.fc 30=abA:=rfl
instance C30:Cf cfg 30 abA:=⟨c30⟩
instance Z30:Zf cfg 30:=⟨rfl⟩
theorem c31:cfg.fc 31=abB:=rfl
instance C31:Cf cfg 31 abB:=⟨c31⟩
instance Z31:Zf cfg 31:=⟨rfl⟩
theorem c32:cfg.fc 32=abC:=rfl
instance C32:Cf cfg 32 abC:=⟨c32⟩
instance Z32:Zf cfg 32:=⟨rfl⟩
theorem c33:cfg.fc 33=abD:=rfl
instance C33:Cf cfg 33 abD:=⟨c33⟩
theorem z33:(cfg.fc 33).frz=[8]:=rfl
theorem c34:cfg.fc 34=abE:=rfl
instance C34:Cf cfg 34 abE:=⟨c34⟩
instance Z34:Zf cfg 34:=⟨rfl⟩
theorem c35:cfg.fc 35=abG:=rfl
instance C35:Cf cfg 35 abG:=⟨c35⟩
instance Z35:Zf cfg 35:=⟨rfl⟩
theorem c36:cfg.fc 36=abH:=rfl
instance C36:Cf cfg 36 abH:=⟨c36⟩
instance Z36:Zf cfg 36:=⟨rfl⟩
theorem c37:cfg.fc 37=abI:=rfl
instance C37:Cf cfg 37 abI:=⟨c37⟩
instance Z37:Zf cfg 37:=⟨rfl⟩
theorem c38:cfg.fc 38=abJ:=rfl
instance C38:Cf cfg 38 abJ:=⟨c38⟩
instance Z38:Zf cfg 38:=⟨rfl⟩
theorem c39:cfg.fc 39=abK:=rfl
instance C39:Cf cfg 39 abK:=⟨c39⟩
instance Z39:Zf cfg 39:=⟨rfl⟩
theorem c66:cfg.fc 66=abL:=rfl
instance C66:Cf cfg 66 abL:=⟨c66⟩
instance Z66:Zf cfg 66:=⟨rfl⟩
theorem c67:cfg.fc 67=abM:=rfl
instance C67:Cf cfg 67 abM:=⟨c67⟩
instance Z67:Zf cfg 67:=⟨rfl⟩
theorem c69:cfg.fc 69=abN:=rfl
instance C69:Cf cfg 69 abN:=⟨c69⟩
instance Z69:Zf cfg 69:=⟨rfl⟩
theorem c70:cfg.fc 70=abO:=rfl
instance C70:Cf cfg 70 abO:=⟨c70⟩
instance Z70:Zf cfg 70:=⟨rfl⟩
theorem c71:cfg.fc 71=abP:=rfl
instance C71:Cf cfg 71 abP:=⟨c71⟩
instance Z71:Zf cfg 71:=⟨rfl⟩
theorem c72:cfg.fc 72=abQ:=rfl
instance C72:Cf cfg 72 abQ:=⟨c72⟩
instance Z72:Zf cfg 72:=⟨rfl⟩
theorem c73:cfg.fc 73=abR:=rfl
instance C73:Cf cfg 73 abR:=⟨c73⟩
instance Z73:Zf cfg 73:=⟨rfl⟩
theorem z73:(cfg.fc 73).frz=[]:=rfl
theorem c74:cfg.fc 74=abS:=rfl
instance C74:Cf cfg 74 abS:=⟨c74⟩
instance Z74:Zf cfg 74:=⟨rfl⟩
theorem z74:(cfg.fc 74).frz=[]:=rfl
theorem c75:cfg.fc 75=abT:=rfl
instance C75:Cf cfg 75 abT:=⟨c75⟩
instance Z75:Zf cfg 75:=⟨rfl⟩
theorem c76:cfg.fc 76=abU:=rfl
instance C76:Cf cfg 76 abU:=⟨c76⟩
instance Z76:Zf cfg 76:=⟨rfl⟩
theorem c77:cfg.fc 77=abV:=rfl
instance C77:Cf cfg 77 abV:=⟨c77⟩
instance Z77:Zf cfg 77:=⟨rfl⟩
theorem z77:(cfg.fc 77).frz=[]:=rfl
theorem c78:cfg.fc 78=abW:=rfl
instance C78:Cf cfg 78 abW:=⟨c78⟩
instance Z78:Zf cfg 78:=⟨rfl⟩
theorem z78:(cfg.fc 78).frz=[]:=rfl
theorem c79:cfg.fc 79=abX:=rfl
instance C79:Cf cfg 79 abX:=⟨c79⟩
instance Z79:Zf cfg 79:=⟨rfl⟩
theorem c80:cfg.fc 80=abY:=rfl
instance C80:Cf cfg 80 abY:=⟨c80⟩
instance Z80:Zf cfg 80:=⟨rfl⟩
theorem z80:(cfg.fc 80).frz=[]:=rfl
theorem c81:cfg.fc 81=abZ:=rfl
instance C81:Cf cfg 81 abZ:=⟨c81⟩
instance Z81:Zf cfg 81:=⟨rfl⟩
theorem z81:(cfg.fc 81).frz=[]:=rfl
theorem c82:cfg.fc 82=ab1:=rfl
instance C82:Cf cfg 82 ab1:=⟨c82⟩
instance Z82:Zf cfg 82:=⟨rfl⟩
theorem z82:(cfg.fc 82).frz=[]:=rfl
theorem c85:cfg.fc 85=ab2:=rfl
instance C85:Cf cfg 85 ab2:=⟨c85⟩
instance Z85:Zf cfg 85:=⟨rfl⟩
theorem c87:cfg.fc 87=ab3:=rfl
instance C87:Cf cfg 87 ab3:=⟨c87⟩
instance Z87:Zf cfg 87:=⟨rfl⟩
theorem c93:cfg.fc 93=ab4:=rfl
instance C93:Cf cfg 93 ab4:=⟨c93⟩
instance Z93:Zf cfg 93:=⟨rfl⟩
theorem afl:cfg.fc 106=V3:=rfl
instance ajy:Cf cfg 106 V3:=⟨afl⟩
instance ajz:Zf cfg 106:=⟨rfl⟩
theorem c107:cfg.fc 107=V4:=rfl
instance ajA:Cf cfg 107 V4:=⟨c107⟩
instance ajB:Zf cfg 107:=⟨rfl⟩
theorem z107:(cfg.fc 107).frz=[]:=rfl
theorem ahu:cfg.fc 115=V5:=rfl
instance ajC:Cf cfg 115 V5:=⟨ahu⟩
instance ajD:Zf cfg 115:=⟨rfl⟩
theorem afm:cfg.fc 121=V6:=rfl
instance ajE:Cf cfg 121 V6:=⟨afm⟩
instance ajF:Zf cfg 121:=⟨rfl⟩
theorem Z4:cfg.fc 122=V7:=rfl
instance ajG:Cf cfg 122 V7:=⟨Z4⟩
instance ajH:Zf cfg 122:=⟨rfl⟩
theorem afn:cfg.fc 123=V8:=rfl
instance ajI:Cf cfg 123 V8:=⟨afn⟩
instance ajJ:Zf cfg 123:=⟨rfl⟩
theorem c124:cfg.fc 124=V9:=rfl
instance ajK:Cf cfg 124 V9:=⟨c124⟩
instance ajL:Zf cfg 124:=⟨rfl⟩
theorem aed:cfg.fc 125=We:=rfl
instance ajM:Cf cfg 125 We:=⟨aed⟩
instance ajN:Zf cfg 125:=⟨rfl⟩
theorem afo:(cfg.fc 125).frz=[]:=rfl
theorem Z5:cfg.fc 126=Wh:=rfl
instance ajO:Cf cfg 126 Wh:=⟨Z5⟩
instance ajP:Zf cfg 126:=⟨rfl⟩
theorem ahv:(cfg.fc 126).frz=[]:=rfl
theorem c127:cfg.fc 127=Wi:=rfl
instance ajQ:Cf cfg 127 Wi:=⟨c127⟩
instance ajR:Zf cfg 127:=⟨rfl⟩
theorem ab5:cfg.fc 128=Wj:=rfl
instance ajS:Cf cfg 128 Wj:=⟨ab5⟩
instance ajT:Zf cfg 128:=⟨rfl⟩
theorem Yt:(cfg.fc 128).frz=[]:=rfl
theorem afp:cfg.fc 129=Wl:=rfl
instance ajU:Cf cfg 129 Wl:=⟨afp⟩
instance ajV:Zf cfg 129:=⟨rfl⟩
theorem c130:cfg.fc 130=Wn:=rfl
instance ajW:Cf cfg 130 Wn:=⟨c130⟩
instance ajX:Zf cfg 130:=⟨rfl⟩
theorem c131:cfg.fc 131=Wp:=rfl
instance ajY:Cf cfg 131 Wp:=⟨c131⟩
instance ajZ:Zf cfg 131:=⟨rfl⟩
theorem ahw:cfg.fc 132=Wq:=rfl
instance aj0:Cf cfg 132 Wq:=⟨ahw⟩
instance aj1:Zf cfg 132:=⟨rfl⟩
theorem ahx:cfg.fc 133=Ws:=rfl
instance aj2:Cf cfg 133 Ws:=⟨ahx⟩
instance aj3:Zf cfg 133:=⟨rfl⟩
theorem aee:cfg.fc 134=Wu:=rfl
instance aj6:Cf cfg 134 Wu:=⟨aee⟩
instance aj7:Zf cfg 134:=⟨rfl⟩
theorem ahy:cfg.fc 135=Wv:=rfl
instance aj8:Cf cfg 135 Wv:=⟨ahy⟩
instance aj9:Zf cfg 135:=⟨rfl⟩
theorem ahz:cfg.fc 136=Wx:=rfl
instance aka:Cf cfg 136 Wx:=⟨ahz⟩
instance akb:Zf cfg 136:=⟨rfl⟩
theorem ahA:cfg.fc 137=Wy:=rfl
instance akc:Cf cfg 137 Wy:=⟨ahA⟩
instance akd:Zf cfg 137:=⟨rfl⟩
theorem c138:cfg.fc 138=WA:=rfl
instance ake:Cf cfg 138 WA:=⟨c138⟩
instance akf:Zf cfg 138:=⟨rfl⟩
theorem c139:cfg.fc 139=WB:=rfl
instance akg:Cf cfg 139 WB:=⟨c139⟩
instance akh:Zf cfg 139:=⟨rfl⟩
theorem z139:(cfg.fc 139).frz=[]:=rfl
theorem ab6:cfg.fc 140=WC:=rfl
instance aki:Cf cfg 140 WC:=⟨ab6⟩
instance akj:Zf cfg 140:=⟨rfl⟩
theorem afq:(cfg.fc 140).frz=[]:=rfl
theorem c141:cfg.fc 141=WE:=rfl
instance akk:Cf cfg 141 WE:=⟨c141⟩
instance akl:Zf cfg 141:=⟨rfl⟩
theorem z141:(cfg.fc 141).frz=[]:=rfl
theorem aef:cfg.fc 142=WG:=rfl
instance akm:Cf cfg 142 WG:=⟨aef⟩
instance akn:Zf cfg 142:=⟨rfl⟩
theorem c143:cfg.fc 143=WH:=rfl
instance ako:Cf cfg 143 WH:=⟨c143⟩
instance akp:Zf cfg 143:=⟨rfl⟩
theorem afr:cfg.fc 144=WI:=rfl
instance akq:Cf cfg 144 WI:=⟨afr⟩
instance akr:Zf cfg 144:=⟨rfl⟩
theorem Z7:cfg.fc 158=WJ:=rfl
instance aks:Cf cfg 158 WJ:=⟨Z7⟩
instance akt:Zf cfg 158:=⟨rfl⟩
theorem afs:(cfg.fc 158).frz=[]:=rfl
theorem c159:cfg.fc 159=WL:=rfl
instance aku:Cf cfg 159 WL:=⟨c159⟩
instance akv:Zf cfg 159:=⟨rfl⟩
theorem c160:cfg.fc 160=WM:=rfl
instance akw:Cf cfg 160 WM:=⟨c160⟩
instance akx:Zf cfg 160:=⟨rfl⟩
theorem ahB:cfg.fc 163=WN:=rfl
instance aky:Cf cfg 163 WN:=⟨ahB⟩
instance akz:Zf cfg 163:=⟨rfl⟩
theorem ab7:cfg.fc 166=WO:=rfl
instance akA:Cf cfg 166 WO:=⟨ab7⟩
instance akB:Zf cfg 166:=⟨rfl⟩
theorem aeg:(cfg.fc 166).frz=[]:=rfl
theorem c167:cfg.fc 167=WQ:=rfl
instance akC:Cf cfg 167 WQ:=⟨c167⟩
instance akD:Zf cfg 167:=⟨rfl⟩
theorem c168:cfg.fc 168=WR:=rfl
instance akE:Cf cfg 168 WR:=⟨c168⟩
instance akF:Zf cfg 168:=⟨rfl⟩
theorem Vd:cfg.fc 169=WS:=rfl
instance akG:Cf cfg 169 WS:=⟨Vd⟩
instance akH:Zf cfg 169:=⟨rfl⟩
theorem Yu:cfg.fc 170=WT:=rfl
instance akI:Cf cfg 170 WT:=⟨Yu⟩
instance akJ:Zf cfg 170:=⟨rfl⟩
theorem aeh:(cfg.fc 170).frz=[]:=rfl
theorem c171:cfg.fc 171=WU:=rfl
instance akK:Cf cfg 171 WU:=⟨c171⟩
instance akL:Zf cfg 171:=⟨rfl⟩
theorem z171:(cfg.fc 171).frz=[]:=rfl
theorem aei:cfg.fc 172=WV:=rfl
instance akM:Cf cfg 172 WV:=⟨aei⟩
instance akN:Zf cfg 172:=⟨rfl⟩
theorem afu:(cfg.fc 172).frz=[]:=rfl
theorem c173:cfg.fc 173=WW:=rfl
instance akO:Cf cfg 173 WW:=⟨c173⟩
instance akP:Zf cfg 173:=⟨rfl⟩
theorem aej:cfg.fc 174=WX:=rfl
instance akQ:Cf cfg 174 WX:=⟨aej⟩
instance akR:Zf cfg 174:=⟨rfl⟩
theorem afv:(cfg.fc 174).frz=[]:=rfl
theorem c175:cfg.fc 175=WY:=rfl
instance akS:Cf cfg 175 WY:=⟨c175⟩
instance akT:Zf cfg 175:=⟨rfl⟩
theorem z175:(cfg.fc 175).frz=[]:=rfl
theorem afw:cfg.fc 176=WZ:=rfl
instance akU:Cf cfg 176 WZ:=⟨afw⟩
instance akV:Zf cfg 176:=⟨rfl⟩
theorem Ph:cfg.fc 177=W9:=rfl
instance akW:Cf cfg 177 W9:=⟨Ph⟩
instance akX:Zf cfg 177:=⟨rfl⟩
theorem Yv:(cfg.fc 177).frz=[]:=rfl
theorem HY:cfg.fc 178=Xa:=rfl
instance akY:Cf cfg 178 Xa:=⟨HY⟩
instance akZ:Zf cfg 178:=⟨rfl⟩
theorem JZ:(cfg.fc 178).frz=[]:=rfl
theorem ab8:cfg.fc 180=Xb:=rfl
instance ak0:Cf cfg 180 Xb:=⟨ab8⟩
instance ak1:Zf cfg 180:=⟨rfl⟩
theorem ahC:cfg.fc 181=Xc:=rfl
instance ak2:Cf cfg 181 Xc:=⟨ahC⟩
instance ak3:Zf cfg 181:=⟨rfl⟩
theorem c182:cfg.fc 182=Xd:=rfl
instance ak4:Cf cfg 182 Xd:=⟨c182⟩
instance ak5:Zf cfg 182:=⟨rfl⟩
theorem c183:cfg.fc 183=Xe:=rfl
instance ak6:Cf cfg 183 Xe:=⟨c183⟩
instance ak7:Zf cfg 183:=⟨rfl⟩
theorem afx:cfg.fc 184=Xf:=rfl
instance ak8:Cf cfg 184 Xf:=⟨afx⟩
instance ak9:Zf cfg 184:=⟨rfl⟩
theorem Z8:cfg.fc 185=Xg:=rfl
instance ala:Cf cfg 185 Xg:=⟨Z8⟩
instance alb:Zf cfg 185:=⟨rfl⟩
theorem aek:cfg.fc 186=Xh:=rfl
instance alc:Cf cfg 186 Xh:=⟨aek⟩
instance ald:Zf cfg 186:=⟨rfl⟩
theorem wI:(cfg.fc 186).frz=[]:=rfl
theorem Yw:cfg.fc 187=Xi:=rfl
instance ale:Cf cfg 187 Xi:=⟨Yw⟩
instance alf:Zf cfg 187:=⟨rfl⟩
theorem afy:cfg.fc 188=Xj:=rfl
instance alg:Cf cfg 188 Xj:=⟨afy⟩
instance alh:Zf cfg 188:=⟨rfl⟩
theorem ab9:(cfg.fc 188).frz=[]:=rfl
theorem c198:cfg.fc 198=Xk:=rfl
instance ali:Cf cfg 198 Xk:=⟨c198⟩
instance alj:Zf cfg 198:=⟨rfl⟩
theorem z198:(cfg.fc 198).frz=[]:=rfl
theorem Gm:cfg.fc 199=Xl:=rfl
instance alk:Cf cfg 199 Xl:=⟨Gm⟩
instance alm:Zf cfg 199:=⟨rfl⟩
theorem Ve:(cfg.fc 199).frz=[]:=rfl
theorem Z9:cfg.fc 200=Xm:=rfl
instance aln:Cf cfg 200 Xm:=⟨Z9⟩
instance alo:Zf cfg 200:=⟨rfl⟩
theorem acd:(cfg.fc 200).frz=[]:=rfl
theorem c201:cfg.fc 201=Xn:=rfl
instance alp:Cf cfg 201 Xn:=⟨c201⟩
instance alq:Zf cfg 201:=⟨rfl⟩
theorem ace:cfg.fc 202=Xo:=rfl
instance alr:Cf cfg 202 Xo:=⟨ace⟩
instance als:Zf cfg 202:=⟨rfl⟩
theorem ael:(cfg.fc 202).frz=[]:=rfl
theorem c203:cfg.fc 203=Xp:=rfl
instance alu:Cf cfg 203 Xp:=⟨c203⟩
instance alv:Zf cfg 203:=⟨rfl⟩
theorem ahD:cfg.fc 204=Xq:=rfl
instance alx:Cf cfg 204 Xq:=⟨ahD⟩
instance aly:Zf cfg 204:=⟨rfl⟩
theorem ahE:cfg.fc 205=Xr:=rfl
instance alz:Cf cfg 205 Xr:=⟨ahE⟩
instance alA:Zf cfg 205:=⟨rfl⟩
theorem c206:cfg.fc 206=Xt:=rfl
instance alB:Cf cfg 206 Xt:=⟨c206⟩
instance alC:Zf cfg 206:=⟨rfl⟩
theorem aem:cfg.fc 209=Xu:=rfl
instance alD:Cf cfg 209 Xu:=⟨aem⟩
instance alE:Zf cfg 209:=⟨rfl⟩
theorem c210:cfg.fc 210=Xv:=rfl
instance alF:Cf cfg 210 Xv:=⟨c210⟩
instance alG:Zf cfg 210:=⟨rfl⟩
theorem z210:(cfg.fc 210).frz=[]:=rfl
theorem c212:cfg.fc 212=Xw:=rfl
instance alH:Cf cfg 212 Xw:=⟨c212⟩
instance alI:Zf cfg 212:=⟨rfl⟩
theorem z212:(cfg.fc 212).frz=[]:=rfl
noncomputable abbrev Pg:=Try.prog
theorem afz:GV Pg 122=some ([.nil,z0,.nil,z0],[(0,1),(1,1),(2,1),(3,1)]):=kr
theorem afA:GV Pg 136=some ([.nil,z0,.im 0 (.sc (.int .u64 0))],[(0,1),(1,1),(2,1)]):=kr
theorem Qu:GV Pg 180=some ([z0,z0,z0,z0],[(0,1),(1,1),(2,1),(3,1)]):=kr
theorem aab:GV Pg 66=some ([z1,z0,z0],[(0,1),(1,1),(2,1)]):=kr
theorem ahF:GV Pg 68=some ([z1,z1,z0,z0,z0,z0,z0,z0],[(0,1),(1,3),(4,1),(5,1),(6,1),(7,1)]):=kr
theorem ahG:GV Pg 72=some ([z1,z1,z0,z1,z0,z0,z0,z0,.nil],[(0,1),(1,1),(2,1),(3,3),(6,1),(7,1),(8,1)]):=kr
theorem afB:wF Pg 175=some (9,1):=kr
theorem Pj:wF Pg 28=some (2,1):=kr
theorem Yx:wF Pg 55=some (68,8):=kr
theorem afC:wF Pg 61=some (72,9):=kr
theorem ahH:wF Pg 80=some (28,1):=kr
theorem Xx:kP Pg 122 0=some 0:=kr
theorem RQ:kP Pg 122 1=some 1:=kr
theorem gp:kP Pg 122 2=some 2:=kr
theorem bH:kP Pg 122 3=some 3:=kr
theorem RS:kP Pg 136 0=some 0:=kr
theorem J3:kP Pg 136 1=some 1:=kr
theorem RU:kP Pg 136 2=some 2:=kr
theorem pz:kP Pg 180 0=some 0:=kr
theorem mZ:kP Pg 180 1=some 1:=kr
theorem wu:kP Pg 180 2=some 2:=kr
theorem wz:kP Pg 180 3=some 3:=kr
theorem Lj:kP Pg 66 0=some 0:=kr
theorem Ak:kP Pg 66 1=some 1:=kr
theorem Jk:kP Pg 66 2=some 2:=kr
theorem DT:kP Pg 68 0=some 0:=kr
theorem Ll:kP Pg 68 1=some 1:=kr
theorem Lm:kP Pg 68 2=some 4:=kr
theorem H6:kP Pg 68 3=some 5:=kr
theorem Ci:kP Pg 68 4=some 6:=kr
theorem FD:kP Pg 68 5=some 7:=kr
theorem RX:kP Pg 72 0=some 0:=kr
theorem aac:kP Pg 72 1=some 1:=kr
theorem aad:kP Pg 72 2=some 2:=kr
theorem Jl:kP Pg 72 3=some 3:=kr
theorem H7:kP Pg 72 4=some 6:=kr
theorem H8:kP Pg 72 5=some 7:=kr
theorem sZ:kP Pg 72 6=some 8:=kr
theorem iq:aZ Pg cfg 106 0 [74,2]=[(.ptr [.imm,.imm,.imm],[none]),(.cst false,[none])]:=kr
theorem Uh:aZ Pg cfg 107 0 [74]=[(.ptr [.imm,.imm,.imm],[none])]:=kr
theorem Ae:aZ Pg cfg 115 0 [74,28]=[(.ptr [.imm,.imm,.imm],[none]),(.cst false,[some 1])]:=kr
theorem Ui:aZ Pg cfg 119 0 [28]=[(.cst false,[some 1])]:=kr
theorem Yy:aZ Pg cfg 121 0 [2,2]=[(.cst false,[none]),(.cst false,[none])]:=kr
theorem Uj:aZ Pg cfg 122 0 [55,68]=[(.cst false,[some 8]),(.cst false,[none,none,none,none,none,none,none,none])]:=kr
theorem aae:aZ Pg cfg 123 0 [74]=[(.ptr [.imm,.imm,.imm],[none])]:=kr
theorem RY:aZ Pg cfg 124 0 [28,171]=[(.row,[some 1]),(.cst false,[none])]:=kr
theorem DC:aZ Pg cfg 125 0 [2,2,0]=[(.cst false,[none]),(.cst false,[none]),(.cst false,[none])]:=kr
theorem Cj:aZ Pg cfg 126 0 [28,3,3,3]=[(.row,[some 1]),(.cst false,[none]),(.cst false,[none]),(.cst false,[none])]:=kr
theorem Qv:aZ Pg cfg 127 0 [174]=[(.cst false,[none])]:=kr
theorem Vf:aZ Pg cfg 128 0 [74,9]=[(.ptr [.imm,.imm,.imm],[none]),(.cst false,[none])]:=kr
theorem Uk:aZ Pg cfg 129 0 [66]=[(.cst false,[none,none,none])]:=kr
theorem J4:aZ Pg cfg 130 0 [72]=[(.cst false,[none,none,none,none,none,none,none,none,some 4])]:=kr
theorem J5:aZ Pg cfg 131 0 [70,183]=[(.cst false,[some 4]),(.cst false,[none])]:=kr
theorem Ul:aZ Pg cfg 132 0 [180,0]=[(.cst false,[none,none,none,none]),(.cst false,[none])]:=kr
theorem Pm:aZ Pg cfg 133 0 [180,180]=[(.cst false,[none,none,none,none]),(.cst false,[none,none,none,none])]:=kr
theorem acf:aZ Pg cfg 134 0 [9]=[(.cst false,[none])]:=kr
theorem aaf:aZ Pg cfg 135 0 []=[]:=kr
theorem acg:aZ Pg cfg 136 0 [2]=[(.cst false,[none])]:=kr
theorem EK:aZ Pg cfg 137 0 [2,2]=[(.cst false,[none]),(.cst false,[none])]:=kr
theorem Yz:aZ Pg cfg 138 0 [2,2]=[(.cst false,[none]),(.cst false,[none])]:=kr
theorem Pn:aZ Pg cfg 139 0 [188,2,2]=[(.cut 4,[none]),(.cst false,[none]),(.cst false,[none])]:=kr
theorem YA:aZ Pg cfg 140 0 [132]=[(.cut 9,[none])]:=kr
theorem YB:aZ Pg cfg 141 0 [132]=[(.cut 9,[none])]:=kr
theorem Po:aZ Pg cfg 142 0 [132,188]=[(.cut 9,[none]),(.cut 4,[none])]:=kr
theorem Xy:aZ Pg cfg 143 0 [5]=[(.cst false,[none])]:=kr
theorem ach:aZ Pg cfg 144 0 [5]=[(.cst false,[none])]:=kr
theorem Vg:aZ Pg cfg 14 0 [22,22]=[(.cst false,[some 1]),(.cst false,[some 1])]:=kr
theorem Um:aZ Pg cfg 158 0 [74]=[(.ptr [.imm,.imm,.imm],[none])]:=kr
theorem Vh:aZ Pg cfg 159 0 []=[]:=kr
theorem y7:aZ Pg cfg 160 0 [2,2]=[(.cst false,[none]),(.cst false,[none])]:=kr
theorem J6:aZ Pg cfg 163 0 [74,175]=[(.ptr [.imm,.imm,.imm],[none]),(.cst false,[some 1])]:=kr
theorem aag:aZ Pg cfg 166 0 [55]=[(.cst false,[some 8])]:=kr
theorem IA:aZ Pg cfg 167 0 [207]=[(.cut 8,[none])]:=kr
theorem Vj:aZ Pg cfg 168 0 [55,9]=[(.cst false,[some 8]),(.cst false,[none])]:=kr
theorem Ot:aZ Pg cfg 169 0 [28,3,171]=[(.row,[some 1]),(.cst false,[none]),(.cst false,[none])]:=kr
theorem LY:aZ Pg cfg 16 0 [22,2,2]=[(.cst false,[some 1]),(.cst false,[none]),(.cst false,[none])]:=kr
theorem RZ:aZ Pg cfg 170 0 [28,3,3]=[(.row,[some 1]),(.cst false,[none]),(.cst false,[none])]:=kr
theorem Si:aZ Pg cfg 171 0 [28,3,3]=[(.row,[some 1]),(.cst false,[none]),(.cst false,[none])]:=kr
theorem Sj:aZ Pg cfg 172 0 [28,3,3]=[(.row,[some 1]),(.cst false,[none]),(.cst false,[none])]:=kr
theorem Sl:aZ Pg cfg 173 0 [28,3,3]=[(.cst false,[some 1]),(.cst false,[none]),(.cst false,[none])]:=kr
theorem Sm:aZ Pg cfg 174 0 [28,3,3]=[(.row,[some 1]),(.cst false,[none]),(.cst false,[none])]:=kr
theorem Su:aZ Pg cfg 175 0 [28,3,3]=[(.row,[some 1]),(.cst false,[none]),(.cst false,[none])]:=kr
theorem ng:aZ Pg cfg 176 0 [2,2]=[(.cst false,[none]),(.cst false,[none])]:=kr
theorem Ou:aZ Pg cfg 177 0 [28,3,3,3]=[(.row,[some 1]),(.cst false,[none]),(.cst false,[none]),(.cst false,[none])]:=kr
theorem Ov:aZ Pg cfg 178 0 [28,3,3,3]=[(.row,[some 1]),(.cst false,[none]),(.cst false,[none]),(.cst false,[none])]:=kr
theorem YC:aZ Pg cfg 180 0 [134]=[(.cst false,[none])]:=kr
theorem Sv:aZ Pg cfg 181 0 [74,2,2]=[(.ptr [.imm,.imm,.imm],[none]),(.cst false,[none]),(.cst false,[none])]:=kr
theorem aci:aZ Pg cfg 182 0 [9]=[(.cst false,[none])]:=kr
theorem Un:aZ Pg cfg 183 0 [180,0]=[(.cst false,[none,none,none,none]),(.cst false,[none])]:=kr
theorem Pq:aZ Pg cfg 184 0 [180,2,2]=[(.cst false,[none,none,none,none]),(.cst false,[none]),(.cst false,[none])]:=kr
theorem J7:aZ Pg cfg 185 0 [70,183]=[(.cst false,[some 4]),(.cst false,[none])]:=kr
theorem Pv:aZ Pg cfg 186 0 [180,180]=[(.cst false,[none,none,none,none]),(.cst false,[none,none,none,none])]:=kr
theorem FH:aZ Pg cfg 187 0 [28,2]=[(.cst false,[some 1]),(.cst false,[none])]:=kr
theorem Px:aZ Pg cfg 188 0 [188,188]=[(.cut 4,[none]),(.cut 4,[none])]:=kr
theorem EL:aZ Pg cfg 198 0 [28,3,3,171]=[(.row,[some 1]),(.cst false,[none]),(.cst false,[none]),(.cst false,[none])]:=kr
theorem tq:aZ Pg cfg 199 0 [28,3,3,3,171]=[(.row,[some 1]),(.cst false,[none]),(.cst false,[none]),(.cst false,[none]),(.cst false,[none])]:=kr
theorem H9:aZ Pg cfg 200 0 [28,3,3,3]=[(.row,[some 1]),(.cst false,[none]),(.cst false,[none]),(.cst false,[none])]:=kr
theorem acj:aZ Pg cfg 201 0 [3]=[(.cst false,[none])]:=kr
theorem YD:aZ Pg cfg 202 0 [238]=[(.ptr [.imm],[none])]:=kr
theorem Cm:aZ Pg cfg 203 0 [28,3,242]=[(.cst false,[some 1]),(.cst false,[none]),(.ptr [.imm],[none])]:=kr
theorem CB:aZ Pg cfg 204 0 [28,3,3,3,242]=[(.cst false,[some 1]),(.cst false,[none]),(.cst false,[none]),(.cst false,[none]),(.ptr [.imm],[none])]:=kr
theorem Xz:aZ Pg cfg 205 0 [2]=[(.cst false,[none])]:=kr
theorem ack:aZ Pg cfg 206 0 [9]=[(.cst false,[none])]:=kr
theorem Jm:aZ Pg cfg 209 0 [28,3,3,3,171]=[(.row,[some 1]),(.cst false,[none]),(.cst false,[none]),(.cst false,[none]),(.cst false,[none])]:=kr
theorem y8:aZ Pg cfg 210 0 [28,3,3,242]=[(.cst false,[some 1]),(.cst false,[none]),(.cst false,[none]),(.ptr [.imm],[none])]:=kr
theorem xK:aZ Pg cfg 212 0 [28,3,3,3,171]=[(.row,[some 1]),(.cst false,[none]),(.cst false,[none]),(.cst false,[none]),(.cst false,[none])]:=kr
theorem acm:aZ Pg cfg 30 0 [22]=[(.cst false,[some 1])]:=kr
theorem LZ:aZ Pg cfg 31 0 [22,2,2]=[(.cst false,[some 1]),(.cst false,[none]),(.cst false,[none])]:=kr
theorem Uo:aZ Pg cfg 32 0 [55,2,2]=[(.cst false,[some 8]),(.cst false,[none]),(.cst false,[none])]:=kr
theorem Py:aZ Pg cfg 33 0 [55,2,2,2]=[(.cst false,[some 8]),(.cst false,[none]),(.cst false,[none]),(.cst false,[none])]:=kr
theorem Ox:aZ Pg cfg 34 0 [55,28]=[(.cst false,[some 8]),(.cst false,[some 1])]:=kr
theorem acn:aZ Pg cfg 35 0 [22]=[(.cst false,[some 1])]:=kr
theorem Vk:aZ Pg cfg 36 0 [68,61]=[(.cst false,[none,none,none,none,none,none,none,none]),(.cst false,[some 9])]:=kr
theorem Vm:aZ Pg cfg 37 0 [66,66]=[(.cst false,[none,none,none]),(.cst false,[none,none,none])]:=kr
theorem aco:aZ Pg cfg 38 0 [72]=[(.cst false,[none,none,none,none,none,none,none,none,some 4])]:=kr
theorem XA:aZ Pg cfg 39 0 [22]=[(.cst false,[some 1])]:=kr
theorem iw:aZ Pg cfg 66 0 [2,2,2]=[(.cst false,[none]),(.cst false,[none]),(.cst false,[none])]:=kr
theorem Vo:aZ Pg cfg 67 0 [66,66]=[(.cst false,[none,none,none]),(.cst false,[none,none,none])]:=kr
theorem acp:aZ Pg cfg 69 0 [74]=[(.ptr [.imm,.imm,.imm],[none])]:=kr
theorem IP:aZ Pg cfg 70 0 [55,2,2,2]=[(.cst false,[some 8]),(.cst false,[none]),(.cst false,[none]),(.cst false,[none])]:=kr
theorem acr:aZ Pg cfg 71 0 [55]=[(.cst false,[some 8])]:=kr
theorem Sz:aZ Pg cfg 72 0 [28]=[(.row,[some 1])]:=kr
theorem wJ:aZ Pg cfg 73 0 [120,28,3,2,2,2]=[(.ptr [.imm,.imm,.gone,.imm],[none]),(.cst true,[some 1]),(.cst false,[none]),(.cst false,[none]),(.cst false,[none]),(.cst false,[none])]:=kr
theorem XB:aZ Pg cfg 74 0 [55]=[(.cst false,[some 8])]:=kr
theorem acs:aZ Pg cfg 75 0 [74]=[(.ptr [.imm,.imm,.imm],[none])]:=kr
theorem MX:aZ Pg cfg 76 0 [68]=[(.cst false,[none,none,none,none,none,none,none,none])]:=kr
theorem acu:aZ Pg cfg 77 0 [61]=[(.cst false,[some 9])]:=kr
theorem acv:aZ Pg cfg 78 0 [72]=[(.cst false,[none,none,none,none,none,none,none,none,some 4])]:=kr
theorem J8:aZ Pg cfg 79 0 [129]=[(.cut 3,[none])]:=kr
theorem SA:aZ Pg cfg 80 0 [129,129]=[(.cut 3,[none]),(.cut 3,[none])]:=kr
theorem aah:aZ Pg cfg 81 0 [132]=[(.cut 9,[none])]:=kr
theorem aai:aZ Pg cfg 82 0 [132]=[(.cut 9,[none])]:=kr
theorem iy:aZ Pg cfg 85 0 [2,2,2]=[(.cst false,[none]),(.cst false,[none]),(.cst false,[none])]:=kr
theorem Vp:aZ Pg cfg 87 0 [9]=[(.cst false,[none])]:=kr
theorem Vq:aZ Pg cfg 93 0 [9]=[(.cst false,[none])]:=kr
theorem ac5:dR Pg (Try.f106.results.toList.zip Try.f106.resultTypes.toList)=[(.tmp 4,[none],none)]:=kr
theorem afD:dR Pg (Try.f107.results.toList.zip Try.f107.resultTypes.toList)=[(.cell 2 66,[none,none,none],some (true,3))]:=kr
theorem afE:dR Pg (Try.f115.results.toList.zip Try.f115.resultTypes.toList)=[(.tmp 4,[none],none)]:=kr
theorem afF:dR Pg (Try.f119.results.toList.zip Try.f119.resultTypes.toList)=[(.tmp 2,[some 1],none)]:=kr
theorem ac6:dR Pg (Try.f121.results.toList.zip Try.f121.resultTypes.toList)=[(.tmp 4,[none],none),(.tmp 5,[none],none)]:=kr
theorem XC:dR Pg (Try.f122.results.toList.zip Try.f122.resultTypes.toList)=[(.tmp 4,[some 8],none),(.tmp 5,[none],none)]:=kr
theorem afG:dR Pg (Try.f123.results.toList.zip Try.f123.resultTypes.toList)=[(.cell 2 68,[none,none,none,none,none,none,none,none],some (true,8))]:=kr
theorem afH:dR Pg (Try.f124.results.toList.zip Try.f124.resultTypes.toList)=[]:=kr
theorem ac7:dR Pg (Try.f125.results.toList.zip Try.f125.resultTypes.toList)=[(.tmp 5,[none],none)]:=kr
theorem aaj:dR Pg (Try.f126.results.toList.zip Try.f126.resultTypes.toList)=[]:=kr
theorem afI:dR Pg (Try.f127.results.toList.zip Try.f127.resultTypes.toList)=[(.tmp 2,[none],none)]:=kr
theorem afJ:dR Pg (Try.f128.results.toList.zip Try.f128.resultTypes.toList)=[(.cell 4 72,[none,none,none,none,none,none,none,none,some 4],some (true,9))]:=kr
theorem afK:dR Pg (Try.f129.results.toList.zip Try.f129.resultTypes.toList)=[(.tmp 2,[none],none)]:=kr
theorem aak:dR Pg (Try.f130.results.toList.zip Try.f130.resultTypes.toList)=[(.tmp 2,[none],none)]:=kr
theorem ac8:dR Pg (Try.f131.results.toList.zip Try.f131.resultTypes.toList)=[(.tmp 4,[none],none)]:=kr
theorem afL:dR Pg (Try.f132.results.toList.zip Try.f132.resultTypes.toList)=[(.tmp 3,[none],none)]:=kr
theorem afM:dR Pg (Try.f133.results.toList.zip Try.f133.resultTypes.toList)=[(.tmp 4,[none],none)]:=kr
theorem ac9:dR Pg (Try.f134.results.toList.zip Try.f134.resultTypes.toList)=[(.tmp 2,[none],none)]:=kr
theorem afN:dR Pg (Try.f135.results.toList.zip Try.f135.resultTypes.toList)=[(.tmp 0,[some 1],none)]:=kr
theorem afO:dR Pg (Try.f136.results.toList.zip Try.f136.resultTypes.toList)=[(.tmp 2,[none],none)]:=kr
theorem ada:dR Pg (Try.f137.results.toList.zip Try.f137.resultTypes.toList)=[(.tmp 4,[none],none)]:=kr
theorem afP:dR Pg (Try.f138.results.toList.zip Try.f138.resultTypes.toList)=[(.tmp 4,[none],none)]:=kr
theorem afQ:dR Pg (Try.f139.results.toList.zip Try.f139.resultTypes.toList)=[(.tmp 6,[none],none)]:=kr
theorem ahI:dR Pg (Try.f14.results.toList.zip Try.f14.resultTypes.toList)=[(.tmp 4,[none],none)]:=kr
theorem afR:dR Pg (Try.f140.results.toList.zip Try.f140.resultTypes.toList)=[(.tmp 2,[some 1],none)]:=kr
theorem afS:dR Pg (Try.f141.results.toList.zip Try.f141.resultTypes.toList)=[(.tmp 2,[some 1],none)]:=kr
theorem adb:dR Pg (Try.f142.results.toList.zip Try.f142.resultTypes.toList)=[(.tmp 4,[none],none)]:=kr
theorem afT:dR Pg (Try.f143.results.toList.zip Try.f143.resultTypes.toList)=[(.tmp 2,[none],none)]:=kr
theorem afU:dR Pg (Try.f144.results.toList.zip Try.f144.resultTypes.toList)=[(.tmp 2,[none],none)]:=kr
theorem ade:dR Pg (Try.f158.results.toList.zip Try.f158.resultTypes.toList)=[(.tmp 2,[none],none)]:=kr
theorem afV:dR Pg (Try.f159.results.toList.zip Try.f159.resultTypes.toList)=[(.tmp 0,[some 1],none)]:=kr
theorem afW:dR Pg (Try.f16.results.toList.zip Try.f16.resultTypes.toList)=[(.tmp 6,[none],none)]:=kr
theorem adf:dR Pg (Try.f160.results.toList.zip Try.f160.resultTypes.toList)=[(.tmp 4,[none],none)]:=kr
theorem afX:dR Pg (Try.f163.results.toList.zip Try.f163.resultTypes.toList)=[(.tmp 4,[none],none)]:=kr
theorem adg:dR Pg (Try.f166.results.toList.zip Try.f166.resultTypes.toList)=[(.tmp 2,[none],none)]:=kr
theorem afY:dR Pg (Try.f167.results.toList.zip Try.f167.resultTypes.toList)=[(.tmp 2,[none],none)]:=kr
theorem adh:dR Pg (Try.f168.results.toList.zip Try.f168.resultTypes.toList)=[(.tmp 4,[none],none)]:=kr
theorem afZ:dR Pg (Try.f169.results.toList.zip Try.f169.resultTypes.toList)=[]:=kr
theorem af0:dR Pg (Try.f170.results.toList.zip Try.f170.resultTypes.toList)=[]:=kr
theorem af1:dR Pg (Try.f171.results.toList.zip Try.f171.resultTypes.toList)=[]:=kr
theorem adi:dR Pg (Try.f172.results.toList.zip Try.f172.resultTypes.toList)=[]:=kr
theorem aal:dR Pg (Try.f173.results.toList.zip Try.f173.resultTypes.toList)=[(.tmp 6,[none],none),(.tmp 7,[none],none)]:=kr
theorem af2:dR Pg (Try.f174.results.toList.zip Try.f174.resultTypes.toList)=[]:=kr
theorem aam:dR Pg (Try.f175.results.toList.zip Try.f175.resultTypes.toList)=[(.tmp 6,[none],none)]:=kr
theorem af4:dR Pg (Try.f176.results.toList.zip Try.f176.resultTypes.toList)=[(.tmp 4,[none],none)]:=kr
theorem af5:dR Pg (Try.f177.results.toList.zip Try.f177.resultTypes.toList)=[(.tmp 8,[none],none)]:=kr
theorem adk:dR Pg (Try.f178.results.toList.zip Try.f178.resultTypes.toList)=[(.tmp 8,[none],none),(.tmp 9,[none],none)]:=kr
theorem af6:dR Pg (Try.f180.results.toList.zip Try.f180.resultTypes.toList)=[(.tmp 2,[none],none)]:=kr
theorem af7:dR Pg (Try.f181.results.toList.zip Try.f181.resultTypes.toList)=[(.cell 6 180,[none,none,none,none],some (true,4))]:=kr
theorem af8:dR Pg (Try.f182.results.toList.zip Try.f182.resultTypes.toList)=[(.tmp 2,[none],none),(.tmp 3,[none],none)]:=kr
theorem af9:dR Pg (Try.f183.results.toList.zip Try.f183.resultTypes.toList)=[(.tmp 3,[none],none)]:=kr
theorem aga:dR Pg (Try.f184.results.toList.zip Try.f184.resultTypes.toList)=[(.tmp 6,[none],none)]:=kr
theorem XD:dR Pg (Try.f185.results.toList.zip Try.f185.resultTypes.toList)=[(.tmp 4,[none],none)]:=kr
theorem agb:dR Pg (Try.f186.results.toList.zip Try.f186.resultTypes.toList)=[(.cell 4 180,[none,none,none,none],some (true,4)),(.tmp 5,[none],none)]:=kr
theorem agc:dR Pg (Try.f187.results.toList.zip Try.f187.resultTypes.toList)=[(.tmp 4,[some 1],none)]:=kr
theorem agd:dR Pg (Try.f188.results.toList.zip Try.f188.resultTypes.toList)=[(.tmp 4,[none],none)]:=kr
theorem age:dR Pg (Try.f198.results.toList.zip Try.f198.resultTypes.toList)=[]:=kr
theorem XE:dR Pg (Try.f199.results.toList.zip Try.f199.resultTypes.toList)=[]:=kr
theorem adl:dR Pg (Try.f200.results.toList.zip Try.f200.resultTypes.toList)=[]:=kr
theorem agf:dR Pg (Try.f201.results.toList.zip Try.f201.resultTypes.toList)=[(.tmp 2,[none],none)]:=kr
theorem agh:dR Pg (Try.f202.results.toList.zip Try.f202.resultTypes.toList)=[(.tmp 2,[none],none)]:=kr
theorem agi:dR Pg (Try.f203.results.toList.zip Try.f203.resultTypes.toList)=[(.tmp 6,[none],none)]:=kr
theorem agj:dR Pg (Try.f204.results.toList.zip Try.f204.resultTypes.toList)=[(.tmp 10,[none],none)]:=kr
theorem agk:dR Pg (Try.f205.results.toList.zip Try.f205.resultTypes.toList)=[(.tmp 2,[none],none)]:=kr
theorem Ia:dR Pg (Try.f206.results.toList.zip Try.f206.resultTypes.toList)=[(.tmp 2,[none],none),(.tmp 3,[none],none),(.tmp 4,[none],none),(.tmp 5,[none],none)]:=kr
theorem agl:dR Pg (Try.f209.results.toList.zip Try.f209.resultTypes.toList)=[]:=kr
theorem adm:dR Pg (Try.f210.results.toList.zip Try.f210.resultTypes.toList)=[(.tmp 8,[none],none),(.tmp 9,[none],none)]:=kr
theorem agm:dR Pg (Try.f212.results.toList.zip Try.f212.resultTypes.toList)=[]:=kr
theorem ahJ:dR Pg (Try.f30.results.toList.zip Try.f30.resultTypes.toList)=[(.tmp 2,[some 8],none)]:=kr
theorem ahK:dR Pg (Try.f31.results.toList.zip Try.f31.resultTypes.toList)=[(.tmp 6,[none],none)]:=kr
theorem agn:dR Pg (Try.f32.results.toList.zip Try.f32.resultTypes.toList)=[(.tmp 6,[some 1],none),(.tmp 7,[none],none)]:=kr
theorem aen:dR Pg (Try.f33.results.toList.zip Try.f33.resultTypes.toList)=[(.tmp 8,[some 1],none),(.tmp 9,[none],none),(.tmp 10,[none],none)]:=kr
theorem aeo:dR Pg (Try.f34.results.toList.zip Try.f34.resultTypes.toList)=[(.tmp 4,[none],none),(.tmp 5,[none],none),(.tmp 6,[none],none),(.tmp 7,[none],none)]:=kr
theorem ahL:dR Pg (Try.f35.results.toList.zip Try.f35.resultTypes.toList)=[(.tmp 2,[some 9],none)]:=kr
theorem aep:dR Pg (Try.f36.results.toList.zip Try.f36.resultTypes.toList)=[(.tmp 4,[none],none),(.tmp 5,[none],none),(.tmp 6,[none],none)]:=kr
theorem agp:dR Pg (Try.f37.results.toList.zip Try.f37.resultTypes.toList)=[(.tmp 4,[none],none),(.tmp 5,[none],none)]:=kr
theorem agq:dR Pg (Try.f38.results.toList.zip Try.f38.resultTypes.toList)=[(.tmp 2,[none],none),(.tmp 3,[none],none)]:=kr
theorem ahM:dR Pg (Try.f39.results.toList.zip Try.f39.resultTypes.toList)=[(.tmp 2,[none],none)]:=kr
theorem rF6:dR Pg (Try.f6.results.toList.zip Try.f6.resultTypes.toList)=[(.tmp 4,[none],none)]:=kr
theorem ahN:dR Pg (Try.f66.results.toList.zip Try.f66.resultTypes.toList)=[(.tmp 6,[none],none)]:=kr
theorem ahO:dR Pg (Try.f67.results.toList.zip Try.f67.resultTypes.toList)=[(.tmp 4,[none],none)]:=kr
theorem ahP:dR Pg (Try.f69.results.toList.zip Try.f69.resultTypes.toList)=[(.tmp 2,[some 8],none)]:=kr
theorem aeq:dR Pg (Try.f70.results.toList.zip Try.f70.resultTypes.toList)=[(.tmp 8,[none],none)]:=kr
theorem ahQ:dR Pg (Try.f71.results.toList.zip Try.f71.resultTypes.toList)=[(.tmp 2,[some 1],none)]:=kr
theorem ahR:dR Pg (Try.f72.results.toList.zip Try.f72.resultTypes.toList)=[]:=kr
theorem aer:dR Pg (Try.f73.results.toList.zip Try.f73.resultTypes.toList)=[(.tmp 12,[none],none)]:=kr
theorem agr:dR Pg (Try.f74.results.toList.zip Try.f74.resultTypes.toList)=[(.tmp 2,[none],none)]:=kr
theorem ahS:dR Pg (Try.f75.results.toList.zip Try.f75.resultTypes.toList)=[(.tmp 2,[some 9],none)]:=kr
theorem ahT:dR Pg (Try.f76.results.toList.zip Try.f76.resultTypes.toList)=[(.tmp 2,[none],none)]:=kr
theorem ags:dR Pg (Try.f77.results.toList.zip Try.f77.resultTypes.toList)=[(.tmp 2,[none],none)]:=kr
theorem agt:dR Pg (Try.f78.results.toList.zip Try.f78.resultTypes.toList)=[(.tmp 2,[none],none),(.tmp 3,[none],none)]:=kr
theorem agu:dR Pg (Try.f79.results.toList.zip Try.f79.resultTypes.toList)=[(.tmp 2,[none],none)]:=kr
theorem ahU:dR Pg (Try.f80.results.toList.zip Try.f80.resultTypes.toList)=[(.tmp 4,[none],none)]:=kr
theorem acw:dR Pg (Try.f81.results.toList.zip Try.f81.resultTypes.toList)=[(.tmp 2,[none],none)]:=kr
theorem ahV:dR Pg (Try.f82.results.toList.zip Try.f82.resultTypes.toList)=[(.tmp 2,[none],none)]:=kr
theorem ahW:dR Pg (Try.f85.results.toList.zip Try.f85.resultTypes.toList)=[(.tmp 6,[none],none)]:=kr
theorem aes:dR Pg (Try.f87.results.toList.zip Try.f87.resultTypes.toList)=[(.tmp 2,[none],none)]:=kr
theorem aet:dR Pg (Try.f93.results.toList.zip Try.f93.resultTypes.toList)=[(.tmp 2,[none],none)]:=kr
theorem J9:pJ Pg 175=some (9,1,[none],false,16,[z1]):=kr
theorem agv:pJ Pg 22=some (5,1,[none],false,1,[.im 0 (.sc (.int .u8 0))]):=kr
theorem aU:pJ Pg 28=some (2,1,[none],false,8,[z0]):=kr
theorem xX:pJ Pg 55=some (68,8,[none,none,none,none,none,none,none,none],true,80,[z1,z1,z0,z0,z0,z0,z0,z0]):=kr
theorem SB:pJ Pg 61=some (72,9,[none,none,none,none,none,none,none,none,some 4],true,112,[z1,z1,z0,z1,z0,z0,z0,z0,.nil]):=kr
theorem Lp:pJ Pg 70=some (180,4,[none,none,none,none],true,32,[z0,z0,z0,z0]):=kr
theorem aeu:pJ Pg 80=some (28,1,[some 1],false,24,[.nil]):=kr
theorem agw:tyF Pg 122=some ([.nil,z0,.nil,z0],[some 8,none,some 1,none],true,4):=kr
theorem aan:tyF Pg 134=some ([.im 0 (.sc (.int .u64 0))],[none],false,1):=kr
theorem agx:tyF Pg 136=some ([.nil,z0,.im 0 (.sc (.int .u64 0))],[some 1,none,none],true,3):=kr
theorem jW:tyF Pg 180=some ([z0,z0,z0,z0],[none,none,none,none],true,4):=kr
theorem tF2:tyF Pg 2=some ([z0],[none],false,1):=kr
theorem aev:tyF Pg 22=some ([.nil],[some 1],false,1):=kr
theorem F9:tyF Pg 238=some ([.im 0 (.sc (.int .u64 0))],[none],false,1):=kr
theorem jb:tyF Pg 28=some ([.nil],[some 1],false,1):=kr
theorem tF3:tyF Pg 3=some ([z0],[none],false,1):=kr
theorem tF5:tyF Pg 5=some ([.im 0 (.sc (.int .u8 0))],[none],false,1):=kr
theorem Ur:tyF Pg 55=some ([.nil],[some 8],false,1):=kr
theorem Am:tyF Pg 66=some ([z1,z0,z0],[none,none,none],true,3):=kr
theorem CE:tyF Pg 68=some ([z1,z1,z0,z0,z0,z0,z0,z0],[none,none,none,none,none,none,none,none],true,8):=kr
theorem FI:tyF Pg 70=some ([.nil],[some 4],false,1):=kr
theorem EM:tyF Pg 72=some ([z1,z1,z0,z1,z0,z0,z0,z0,.nil],[none,none,none,none,none,none,none,none,some 4],true,9):=kr
theorem tF9:tyF Pg 9=some ([z1],[none],false,1):=kr
theorem aao:Pg.underlying 134=some (.int .u64):=kr
theorem Ib:Pg.underlying 174=some (.int .u64):=kr
theorem adn:Pg.underlying 175=some (.slice 9):=kr
theorem uF2:Pg.underlying 2=some (.int .i64):=kr
theorem aap:Pg.underlying 22=some (.slice 5):=kr
theorem agy:Pg.underlying 238=some (.int .u64):=kr
theorem EN:Pg.underlying 28=some (.slice 2):=kr
theorem uF3:Pg.underlying 3=some (.int .i64):=kr
theorem uF5:Pg.underlying 5=some (.int .u8):=kr
theorem Ko:Pg.underlying 55=some (.slice 68):=kr
theorem aaq:Pg.underlying 61=some (.slice 72):=kr
theorem Pz:Pg.underlying 70=some (.slice 180):=kr
theorem uF9:Pg.underlying 9=some .string:=kr
abbrev FX (i:Nat) (a:List Arg) (r:Res×List Out):Prop:=FL Try.prog cfg i a=some r
theorem PD {fU:(List Int)} {jd:(List Int)} {r:Bool} (h:Dn fU jd=some r):FX 14 [.im 2 false [W 1 (eK .u8) fU],.im 2 false [W 1 (eK .u8) jd]] (B0 [(false,[.im 0 (V r)])]):=by
 unfold Dn at h
 refine gn 13 Try.func14 rfl ?_
 refine gs<|g0 j j (q (ae j j)<|nl)<|us<|gs<|gX c14 j j j (mk [(4,bv ((decide ((fU.length:Int) >1048576))||(decide ((jd.length:Int) >1048576))))] []) ?_ ?_
 ·refine xq (oMv j j)<|xq (xI j j aap j)<|xq (oBi j j j j)<|xq (oMv j j)<|?_
  by_cases hc1:(fU.length:Int) >1048576
  ·exact ah rfl rfl (af.2 hc1) rfl<|ah rfl rfl (af.2 hc1) rfl<|ah rfl rfl (af.2 hc1) rfl<|xq (bf rfl rfl (af.2 hc1) rfl)<|xq (ae rfl rfl)<|xn (Eq.trans (b:=(fun lQ:Bool=>mk [(4,bv lQ)] []) true) (by kernel_rfl) (congrArg (fun lQ:Bool=>mk [(4,bv lQ)] []) (by first | rfl | (simp [(af.2 hc1)];done) | (simp [(af.2 hc1)];omega))))
  ·exact xqT rfl rfl (byF af hc1) (oMv rfl rfl)<|xqT rfl rfl (byF af hc1) (xI rfl rfl aap rfl)<|xqT rfl rfl (byF af hc1) (oBi rfl rfl rfl rfl)<|xq (bD rfl rfl (byF af hc1) rfl)<|xq (ae rfl rfl)<|xn (Eq.trans (b:=(fun lQ:Bool=>mk [(4,bv lQ)] []) (decide ((jd.length:Int) >1048576))) (by kernel_rfl) (congrArg (fun lQ:Bool=>mk [(4,bv lQ)] []) (by first | rfl | (simp [(byF af hc1)];done) | (simp [(byF af hc1)];omega))))
 ·refine us<|Go.ret (Unw.ret ?_)
  cases h
  exact fr ahI j
theorem Ic {fU:(List Int)} {r:aB} (h:yj fU=some r):FX 39 [.im 2 false [W 1 (eK .u8) fU]] (B0 [(false,[.pt true [⟨.imm,2,W 1 (eK .u8) r.code⟩,⟨.imm,0,I r.at_⟩,⟨.imm,0,.sc (.int .u64 r.seed)⟩]])]):=by
 unfold yj at h
 refine gn 6 Try.func39 rfl ?_
 refine gs<|g0 j j (q (ae j j)<|nl)<|us<|gs<|g0 j j (q (oMv j j)<|q (oBu (cs:=[.im 2 _,.im 0 _,.im 0 _]) j afA j)<|q (oBx j agx j (tkI (tkI (tkI tk0))))<|q (abl j j)<|nl)<|us<|Go.ret (Unw.ret ?_)
 cases h
 exact fr ahM j
theorem CG {s_0:aB} {r:(Int×aB)} (h:ou s_0=some r):FX 158 [.ptr true [(.imm,W 1 (eK .u8) s_0.code),(.imm,I s_0.at_),(.imm,.sc (.int .u64 s_0.seed))]] ([(false,[.im 0 (I r.1)])],[.ptr true [(.imm,W 1 (eK .u8) r.2.code),(.imm,I r.2.at_),(.imm,.sc (.int .u64 r.2.seed))]]):=by
 unfold ou at h
 refine jP (A:=[(0,M 0)]) (B:=[(0,Od (G 1 (bg s_0)))]) (nt:=62) rfl rfl Try.func158 rfl rfl rfl rfl ?_
 refine gs<|g0 j j (q (ae j j)<|nl)<|us<|gs<|g0 j j (q (ae j j)<|nl)<|us<|gs<|gs<|gd Z7 j j j j (mk [(0,M 0),(3,iv 0),(13,bv (decide (s_0.at_< (s_0.code.length:Int))))] [(0,Od (G 1 (bg s_0)))]) (t j j (oMv j j)<|t j j (oNl j j j)<|t j j (oFA (r':=.mp 0 0 1) j J3 j j)<|t j j (oLd (cs:=[.im 0 _]) j tF3 j j)<|t j j (oMv j j)<|t j j (oNl j j j)<|t j j (oFA (r':=.mp 0 0 0) j RS j j)<|t j j (oLd (cs:=[.im 1 _]) j aev j j)<|t j j (xI j j aap j)<|t j j (oBi j j j j)<|sD (by kernel_rfl))<|us<|Go.join (fun st=>∃yV,kV s_0 yV=some r∧st.norm ([0,3],[0])=mk [(0,M 0),(3,iv yV)] [(0,Od (G 1 (bg s_0)))]) ?_ ?_
 ·rintro st ⟨yV,h,hst⟩
  unfold kV at h
  refine us<|gs<|g2 Z7 j j hst (q (oMv j j)<|q (oNl j j j)<|q (oFA (r':=.mp 0 0 1) j J3 j j)<|q (oLd (cs:=[.im 0 _]) j tF3 j j)<|q (oBi j j j j)<|q (oNl j j j)<|q (oFA (r':=.mp 0 0 1) j J3 j j)<|q (oSt tF3 j j j (tkI tk0) j j j)<|nl)<|us<|gs<|g1 j j (mk [(0,M 0),(3,iv yV)] [(0,Od [Ct 1 (W 1 (eK .u8) s_0.code),C (I (w64 (s_0.at_+1))),C (.sc (.int .u64 s_0.seed))])]) (q (oMv j j)<|q (oMv j j)<|q (oNl j j j)<|q (oFA (r':=.mp 0 0 2) j RU j j)<|q (oLd (cs:=[.im 0 _]) j aan j j)<|q (oBi j j j j)<|q (oMv j j)<|q (Gl j uF3 aao j)<|q (oBi j j j j)<|q (oBi j j j j)<|q (oNl j j j)<|q (oFA (r':=.mp 0 0 2) j RU j j)<|q (oSt aan j j j (tkI tk0) j j j)<|nl)<|us<|gs<|gs<|gd Z7 j j j (st1:=mk [(0,M 0),(3,iv yV)] [(0,Od [Ct 1 (W 1 (eK .u8) s_0.code),C (I (w64 (s_0.at_+1))),C (.sc (.int .u64 (IntKind.wrap .u64 ((IntKind.wrap .u64 ((IntKind.wrap .u64 (s_0.seed*6364136223846793005))+(IntKind.wrap .u64 (yV))))+1442695040888963407))))])]) (by kernel_rfl) (mk [(0,M 0),(3,iv yV),(53,bv (decide ((w64 (s_0.at_+1))≤(s_0.code.length:Int))))] [(0,Od [Ct 1 (W 1 (eK .u8) s_0.code),C (I (w64 (s_0.at_+1))),C (.sc (.int .u64 (IntKind.wrap .u64 ((IntKind.wrap .u64 ((IntKind.wrap .u64 (s_0.seed*6364136223846793005))+(IntKind.wrap .u64 (yV))))+1442695040888963407))))])]) (t j j (oMv j j)<|t j j (oNl j j j)<|t j j (oFA (r':=.mp 0 0 1) j J3 j j)<|t j j (oLd (cs:=[.im 0 _]) j tF3 j j)<|t j j (oMv j j)<|t j j (oNl j j j)<|t j j (oFA (r':=.mp 0 0 0) j RS j j)<|t j j (oLd (cs:=[.im 1 _]) j aev j j)<|t j j (xI j j aap j)<|t j j (oBi j j j j)<|sD (by kernel_rfl))<|us<|gc h j af (fun hc2 h=>?_) fun hc2 h=>?_
  ·refine gs<|g0 j j (q (oMv j j)<|q (ae j j)<|nl)<|us<|Go.ret (Unw.ret ?_)
   cases h
   exact fr ade j
  ·refine Go.skip<|us<|gs<|?_
   obtain ⟨x59,aew,h⟩:=bs h
   refine g0 j j (q (oMv j j)<|q (oNl j j j)<|q (oFA (r':=.mp 0 0 2) j RU j j)<|q (oLd (cs:=[.im 0 _]) j aan j j)<|q (Q7 j aew j j)<|q (oBi j j j j)<|q (Gl j aao uF2 j)<|q (ae j j)<|nl)<|us<|Go.ret (Unw.ret ?_)
   cases h
   exact fr ade j
 ·intro K3
  refine gc h j af (fun hc4 h=>?_) fun hc4 h=>?_
  ·obtain ⟨x22,xg,h⟩:=bs h
   exact gd Z7 j j j j (mk [(0,M 0),(3,iv (w64 (x22)))] [(0,Od (G 1 (bg s_0)))]) (t j j (oMv j j)<|t j j (oNl j j j)<|t j j (oFA (r':=.mp 0 0 0) j RS j j)<|t j j (oLd (cs:=[.im 1 _]) j aev j j)<|t j j (oMv j j)<|t j j (oNl j j j)<|t j j (oFA (r':=.mp 0 0 1) j J3 j j)<|t j j (oLd (cs:=[.im 0 _]) j tF3 j j)<|t j j (pK j xg agv j j)<|t j j (oLd (cs:=[.im 1 _]) j tF5 j j)<|sS (dN afs j (Gl j uF5 uF3 j)) trivial (sS (dN afs j (ae j j)) trivial (sD (by kernel_rfl))))<|K3 _ ⟨(w64 (x22)),h,(by kernel_rfl)⟩
  ·exact Go.skip<|K3 _ ⟨0,h,(by kernel_rfl)⟩
theorem aY {s_0:aB} {n_1:Int} {r:(Int×aB)} (h:aS s_0 n_1=some r):FX 106 [.ptr true [(.imm,W 1 (eK .u8) s_0.code),(.imm,I s_0.at_),(.imm,.sc (.int .u64 s_0.seed))],.im 2 false [I n_1]] ([(false,[.im 0 (I r.1)])],[.ptr true [(.imm,W 1 (eK .u8) r.2.code),(.imm,I r.2.at_),(.imm,.sc (.int .u64 r.2.seed))]]):=by
 unfold aS at h
 refine jP (A:=[(0,M 0),(1,D 2 (I n_1))]) (B:=[(0,Od (G 1 (bg s_0))),(1,none)]) (nt:=20) rfl rfl Try.func106 rfl rfl rfl rfl ?_
 refine gs<|g0 j j (q (ae j j)<|nl)<|us<|gs<|gs<|g0 j j (q (oMv j j)<|q (oBi j j j j)<|nl)<|us<|gc h j af (fun hc1 h=>?_) fun hc1 h=>?_
 ·refine gs<|g0 j j (q (ae j j)<|nl)<|us<|Go.ret (Unw.ret ?_)
  cases h
  exact fr ac5 j
 ·refine Go.skip<|us<|gs<|?_
  obtain ⟨x9,hx9,h⟩:=bs h
  refine g0 j j (q (oMv j j)<|q (oCa (xs:=[.v false [.mp 0 0 0]]) (vs:=[(false,[.im 0 _])]) (v:=.v false [.im 0 _]) (CG hx9) (.inl j) j Um j (ppP j j j pp0) j j (pbP j j pb0) j j j)<|q (ae j j)<|nl)<|us<|gs<|gs<|g1 j j (mk [(0,M 0),(1,iv n_1),(5,iv x9.1)] [(0,Od (G 1 (bg x9.2)))]) (q (oMv j j)<|q (oBi j j j j)<|nl)<|us<|Go.join (fun st=>∃Ol,∃Eb,∃Ec,∃qY,kW n_1 Ol Eb Ec qY=some r∧st.norm ([1,5],[0])=mk [(1,iv n_1),(5,iv Ol)] [(0,Od [Ct 1 (W 1 (eK .u8) Eb),C (I Ec),C (.sc (.int .u64 qY))])]) ?_ ?_
  ·rintro st ⟨Ol,Eb,Ec,qY,h,hst⟩
   unfold kW at h
   refine us<|gs<|?_
   obtain ⟨x19,Dc,h⟩:=bs h
   refine g2 afl j j hst (q (oMv j j)<|q (oMv j j)<|q (ad4 j Dc j j)<|q (ae j j)<|nl)<|us<|Go.ret (Unw.ret ?_)
   cases h
   exact fr ac5 j
  ·intro K3
   refine gc h j af (fun hc4 h=>?_) fun hc4 h=>?_
   ·obtain ⟨x15,Jn,h⟩:=bs h
    exact g0 j j (q (oMv j j)<|q (oBi j j j j)<|q (oMv j j)<|q (oCa (xs:=[.v false [.mp 0 0 0]]) (vs:=[(false,[.im 0 _])]) (v:=.v false [.im 0 _]) (CG Jn) (.inl j) j Um j (ppP j j j pp0) j j (pbP j j pb0) j j j)<|q (oBi j j j j)<|q (ae j j)<|nl)<|K3 _ ⟨(w64 ((w64 (x9.1*256))+x15.1)),x15.2.code,x15.2.at_,x15.2.seed,h,(by kernel_rfl)⟩
   ·exact Go.skip<|K3 _ ⟨x9.1,x9.2.code,x9.2.at_,x9.2.seed,h,(by kernel_rfl)⟩
theorem CJ {s_0:aB} {yX:(List ByteArray)} {r:(ByteArray×aB)} (h:jm s_0 yX=some r):FX 163 [.ptr true [(.imm,W 1 (eK .u8) s_0.code),(.imm,I s_0.at_),(.imm,.sc (.int .u64 s_0.seed))],.im 2 false [W 1 eS yX]] ([(false,[.im 0 (Y r.1)])],[.ptr true [(.imm,W 1 (eK .u8) r.2.code),(.imm,I r.2.at_),(.imm,.sc (.int .u64 r.2.seed))]]):=by
 unfold jm at h
 refine jP (A:=[(0,M 0),(1,D 2 (W 1 eS yX))]) (B:=[(0,Od (G 1 (bg s_0))),(1,none)]) (nt:=12) rfl rfl Try.func163 rfl rfl rfl rfl ?_
 refine gs<|g0 j j (q (ae j j)<|nl)<|us<|gs<|?_
 obtain ⟨x9,hx9,h⟩:=bs h
 obtain ⟨x10,CO,h⟩:=bs h
 refine g0 j j (q (oMv j j)<|q (oMv j j)<|q (oMv j j)<|q (xI j j adn j)<|q (oCa (xs:=[.v false [.mp 0 0 0],.v false [.im 0 _]]) (vs:=[(false,[.im 0 _])]) (v:=.v false [.im 0 _]) (aY hx9) (.inl j) j iq j (ppP j j j (ppC j pp0)) j j (pbP j j pb0) j j j)<|q (pK j CO J9 j j)<|q (oLd (cs:=[.im 2 _]) j tF9 j j)<|q (ae j j)<|nl)<|us<|Go.ret (Unw.ret ?_)
 cases h
 exact fr afX j
theorem Gf {r:(List (List Int))} (h:nX=some r):FX 135 [] (B0 [(false,[.ow 0 1 (List.map (eL 1 eI) r)])]):=by
 unfold nX at h
 refine gn 12 Try.func135 rfl ?_
 refine gs<|g0 j j (q (DI j j ahH)<|nl)<|us<|gs<|g0 j j (q (oBS (es:=List.map eI ([20,40,310]:List Int)) j aU j (ptC j (fxI fx0) j (ptC j (fxI fx0) j (ptC j (fxI fx0) j pt0))) (gY j fun _=>j))<|q (oBS (es:=List.map eI ([35,45,410]:List Int)) j aU j (ptC j (fxI fx0) j (ptC j (fxI fx0) j (ptC j (fxI fx0) j pt0))) (gY j fun _=>j))<|q (oBS (es:=List.map eI ([15,33,280]:List Int)) j aU j (ptC j (fxI fx0) j (ptC j (fxI fx0) j (ptC j (fxI fx0) j pt0))) (gY j fun _=>j))<|q (oBS (es:=List.map eI ([50,36,240]:List Int)) j aU j (ptC j (fxI fx0) j (ptC j (fxI fx0) j (ptC j (fxI fx0) j pt0))) (gY j fun _=>j))<|q (oBS (es:=List.map eI ([95,85,270]:List Int)) j aU j (ptC j (fxI fx0) j (ptC j (fxI fx0) j (ptC j (fxI fx0) j pt0))) (gY j fun _=>j))<|q (oBS (es:=List.map eI ([5,35,370]:List Int)) j aU j (ptC j (fxI fx0) j (ptC j (fxI fx0) j (ptC j (fxI fx0) j pt0))) (gY j fun _=>j))<|q (oBS (es:=List.map eI ([10,42,290]:List Int)) j aU j (ptC j (fxI fx0) j (ptC j (fxI fx0) j (ptC j (fxI fx0) j pt0))) (gY j fun _=>j))<|q (oBS (es:=List.map eI ([40,40,330]:List Int)) j aU j (ptC j (fxI fx0) j (ptC j (fxI fx0) j (ptC j (fxI fx0) j pt0))) (gY j fun _=>j))<|q (oBS (es:=List.map eI ([80,60,220]:List Int)) j aU j (ptC j (fxI fx0) j (ptC j (fxI fx0) j (ptC j (fxI fx0) j pt0))) (gY j fun _=>j))<|q (oBS (es:=List.map eI ([70,38,260]:List Int)) j aU j (ptC j (fxI fx0) j (ptC j (fxI fx0) j (ptC j (fxI fx0) j pt0))) (gY j fun _=>j))<|q (oBS (es:=List.map (eL 1 eI) ([([20,40,310]:List Int),([35,45,410]:List Int),([15,33,280]:List Int),([50,36,240]:List Int),([95,85,270]:List Int),([5,35,370]:List Int),([10,42,290]:List Int),([40,40,330]:List Int),([80,60,220]:List Int),([70,38,260]:List Int)]:List (List Int))) j aeu j (ptC j (fxO j j fx0) j (ptC j (fxO j j fx0) j (ptC j (fxO j j fx0) j (ptC j (fxO j j fx0) j (ptC j (fxO j j fx0) j (ptC j (fxO j j fx0) j (ptC j (fxO j j fx0) j (ptC j (fxO j j fx0) j (ptC j (fxO j j fx0) j (ptC j (fxO j j fx0) j pt0)))))))))) (VZ j))<|q (nO j j j j j)<|nl)<|us<|Go.ret (Unw.ret ?_)
 cases h
 exact fr afN j
theorem Ap {r:(List ByteArray)} (h:uA=some r):FX 159 [] (B0 [(false,[.ow 0 1 (List.map eS r)])]):=by
 unfold uA at h
 refine gn 2 Try.func159 rfl ?_
 refine gs<|g0 j j (q (DI j j afB)<|nl)<|us<|gs<|g0 j j (q (oBS (es:=List.map eS ([(⟨#[97,115,104]⟩:ByteArray),(⟨#[98,101,101,99,104]⟩:ByteArray),(⟨#[98,105,114,99,104]⟩:ByteArray),(⟨#[99,104,101,114,114,121]⟩:ByteArray),(⟨#[101,98,111,110,121]⟩:ByteArray),(⟨#[104,111,108,108,121]⟩:ByteArray),(⟨#[109,97,112,108,101]⟩:ByteArray),(⟨#[111,97,107]⟩:ByteArray),(⟨#[114,111,115,101,119,111,111,100]⟩:ByteArray),(⟨#[119,97,108,110,117,116]⟩:ByteArray)]:List ByteArray)) j J9 j (ptC j (fxI fx0) j (ptC j (fxI fx0) j (ptC j (fxI fx0) j (ptC j (fxI fx0) j (ptC j (fxI fx0) j (ptC j (fxI fx0) j (ptC j (fxI fx0) j (ptC j (fxI fx0) j (ptC j (fxI fx0) j (ptC j (fxI fx0) j pt0)))))))))) (gY j fun _=>j))<|q (nO j j j j j)<|nl)<|us<|Go.ret (Unw.ret ?_)
 cases h
 exact fr afV j
theorem xh {a_0:Int} {b_1:Int} {r:Int} (h:vw a_0 b_1=some r):FX 137 [.im 2 false [I a_0],.im 2 false [I b_1]] (B0 [(false,[.im 0 (I r)])]):=by
 unfold vw at h
 refine gn 10 Try.func137 rfl ?_
 refine gs<|g0 j j (q (ae j j)<|nl)<|us<|gs<|gs<|g0 j j (q (oMv j j)<|q (oMv j j)<|q (oBi j j j j)<|nl)<|us<|gc h j af (fun hc1 h=>?_) fun hc1 h=>?_
 ·refine gs<|g0 j j (q (oMv j j)<|q (ae j j)<|nl)<|us<|Go.ret (Unw.ret ?_)
  cases h
  exact fr ada j
 ·refine Go.skip<|us<|gs<|g0 j j (q (oMv j j)<|q (ae j j)<|nl)<|us<|Go.ret (Unw.ret ?_)
  cases h
  exact fr ada j
theorem qK {a_0:Int} {b_1:Int} {r:Int} (h:rM a_0 b_1=some r):FX 160 [.im 2 false [I a_0],.im 2 false [I b_1]] (B0 [(false,[.im 0 (I r)])]):=by
 unfold rM at h
 refine gn 10 Try.func160 rfl ?_
 refine gs<|g0 j j (q (ae j j)<|nl)<|us<|gs<|gs<|g0 j j (q (oMv j j)<|q (oMv j j)<|q (oBi j j j j)<|nl)<|us<|gc h j af (fun hc1 h=>?_) fun hc1 h=>?_
 ·refine gs<|g0 j j (q (oMv j j)<|q (ae j j)<|nl)<|us<|Go.ret (Unw.ret ?_)
  cases h
  exact fr adf j
 ·refine Go.skip<|us<|gs<|g0 j j (q (oMv j j)<|q (ae j j)<|nl)<|us<|Go.ret (Unw.ret ?_)
  cases h
  exact fr adf j
theorem nN {s_0:aB} {yX:(List Int)} {r:(Int×aB)} (h:iC s_0 yX=some r):FX 115 [.ptr true [(.imm,W 1 (eK .u8) s_0.code),(.imm,I s_0.at_),(.imm,.sc (.int .u64 s_0.seed))],.im 2 false [W 1 eI yX]] ([(false,[.im 0 (I r.1)])],[.ptr true [(.imm,W 1 (eK .u8) r.2.code),(.imm,I r.2.at_),(.imm,.sc (.int .u64 r.2.seed))]]):=by
 unfold iC at h
 refine jP (A:=[(0,M 0),(1,D 2 (W 1 eI yX))]) (B:=[(0,Od (G 1 (bg s_0))),(1,none)]) (nt:=12) rfl rfl Try.func115 rfl rfl rfl rfl ?_
 refine gs<|g0 j j (q (ae j j)<|nl)<|us<|gs<|?_
 obtain ⟨x9,hx9,h⟩:=bs h
 obtain ⟨x10,CO,h⟩:=bs h
 refine g0 j j (q (oMv j j)<|q (oMv j j)<|q (oMv j j)<|q (xI j j EN j)<|q (oCa (xs:=[.v false [.mp 0 0 0],.v false [.im 0 _]]) (vs:=[(false,[.im 0 _])]) (v:=.v false [.im 0 _]) (aY hx9) (.inl j) j iq j (ppP j j j (ppC j pp0)) j j (pbP j j pb0) j j j)<|q (pK j CO aU j j)<|q (oLd (cs:=[.im 2 _]) j tF2 j j)<|q (ae j j)<|nl)<|us<|Go.ret (Unw.ret ?_)
 cases h
 exact fr afE j
theorem Ie {s_0:aB} {r:(dW×aB)} (h:vX s_0=some r):FX 107 [.ptr true [(.imm,W 1 (eK .u8) s_0.code),(.imm,I s_0.at_),(.imm,.sc (.int .u64 s_0.seed))]] ([(true,J 0 (nH r.1))],[.ptr true [(.imm,W 1 (eK .u8) r.2.code),(.imm,I r.2.at_),(.imm,.sc (.int .u64 r.2.seed))]]):=by
 unfold vX at h
 refine jP (A:=[(0,M 0)]) (B:=[(0,Od (G 1 (bg s_0)))]) (nt:=36) rfl rfl Try.func107 rfl rfl rfl rfl ?_
 refine gs<|g0 j j (q (oAl j Am (tkI (tkI (tkI tk0))))<|nl)<|us<|gs<|?_
 obtain ⟨x8,hx8,h⟩:=bs h
 refine g0 j j (q (oMv j j)<|q (oCa (xs:=[.v false [.mp 0 0 0],.v false [.im 0 _]]) (vs:=[(false,[.im 0 _])]) (v:=.v false [.im 0 _]) (aY hx8) (.inl j) j iq j (ppP j j j (ppC j pp0)) j j (pbP j j pb0) j j j)<|q (ae j j)<|nl)<|us<|gs<|?_
 obtain ⟨x9,hx9,h⟩:=bs h
 obtain ⟨x11,Us,h⟩:=bs h
 obtain ⟨x13,Ig,h⟩:=bs h
 obtain ⟨x16,hx16,h⟩:=bs h
 refine gd c107 j j j (st1:=mk [(0,M 0),(2,M 2),(3,iv x8.1)] [(0,Od (G 1 (bg x8.2))),(2,Oa [C (Y (⟨#[]⟩:ByteArray)),C (I 0),C (I 0)])]) (by kernel_rfl) (mk [(0,M 0),(2,M 2),(3,iv x8.1),(4,iv (w64 ((w64 (x13+x16.1)) - 10)))] [(0,Od (G 1 (bg x16.2))),(2,Oa [C (Y (⟨#[]⟩:ByteArray)),C (I 0),C (I 0)])]) (t j j (oMv j j)<|t j j (oMv j j)<|sS (dN z107 j (oCr (xs:=[]) (vs:=[(false,[.own 9 0 0])]) (v:=.v false [.own 9 0 0]) (c:=⟨.sh,0,_⟩) (cs:=[]) (Gf hx9) (.inl j) j aaf j pp0 j j pb0 j j j)) trivial (sK (O:=[9]) j j j (dN z107 j (bK j Us aeu j j j j))<|sK (O:=[9]) j j j (dN z107 j (fH (cs:=[.im 0 _]) j jb j j j j (aA Us) j j))<|t j j (pK j Ig aU j j)<|t j j (oLd (cs:=[.im 0 _]) j tF2 j j)<|sS (dN z107 j (oCa (xs:=[.v false [.mp 0 0 0],.v false [.im 0 _]]) (vs:=[(false,[.im 0 _])]) (v:=.v false [.im 0 _]) (aY hx16) (.inl j) j iq j (ppP j j j (ppC j pp0)) j j (pbP j j pb0) j j j)) (kY ⟨j,trivial⟩ (kY ⟨j,trivial⟩ trivial)) (t j j (oBi j j j j)<|t j j (oBi j j j j)<|sS (dN z107 j (ae j j)) (kN j (kN j trivial)) (sD (by kernel_rfl)))))<|us<|gs<|?_
 obtain ⟨x19,Dc,h⟩:=bs h
 obtain ⟨x21,Lr,h⟩:=bs h
 obtain ⟨x24,hx24,h⟩:=bs h
 obtain ⟨x25,hx25,h⟩:=bs h
 refine gd c107 j j j j (mk [(0,M 0),(2,M 2),(5,M 5)] [(0,Od (G 1 (bg x16.2))),(2,Oa [C (Y (⟨#[]⟩:ByteArray)),C (I 0),C (I 0)]),(5,Oa [C (Y x21),C (I x25),C (I 0)])]) (t j j (oMv j j)<|t j j (oMv j j)<|sF (dN z107 j (oCr (xs:=[]) (vs:=[(false,[.own 19 0 0])]) (v:=.v false [.own 19 0 0]) (c:=⟨.sh,0,_⟩) (cs:=[]) (Ap Dc) (.inl j) j Vh j pp0 j j pb0 j j j)) trivial (t j j (bK j Lr J9 j j j j)<|t j j (fH (cs:=[.im 0 _]) j tF9 j j j j (aA Lr) j j)<|sF (dN z107 j (oCa (xs:=[.v false [.im 0 _],.v false [.im 0 _]]) (vs:=[(false,[.im 0 _])]) (v:=.v false [.im 0 _]) (xh hx24) (.inl j) j EK j (ppC j (ppC j pp0)) j j pb0 j j j)) trivial (sF (dN z107 j (oCa (xs:=[.v false [.im 0 _],.v false [.im 0 _]]) (vs:=[(false,[.im 0 _])]) (v:=.v false [.im 0 _]) (qK hx25) (.inl j) j y7 j (ppC j (ppC j pp0)) j j pb0 j j j)) trivial (sF (dN z107 j (oBu (cs:=[.im 0 _,.im 0 _,.im 0 _]) j aab j)) trivial (sS (dN z107 j (oAl j Am (tkI (tkI (tkI tk0))))) trivial (sS (dN z107 j (oSt Am j j j (tkI (tkI (tkI tk0))) j j j)) trivial (sD (by kernel_rfl)))) (sS (dN z107 j (oAl j Am (tkI (tkI (tkI tk0))))) trivial (sS (dN z107 j (oBu (cs:=[.im 0 _,.im 0 _,.im 0 _]) j aab j)) trivial (sS (dN z107 j (oSt Am j j j (tkI (tkI (tkI tk0))) j j j)) trivial (sD (by kernel_rfl)))))) (sS (dN z107 j (oAl j Am (tkI (tkI (tkI tk0))))) trivial (sS (dN z107 j (oCa (xs:=[.v false [.im 0 _],.v false [.im 0 _]]) (vs:=[(false,[.im 0 _])]) (v:=.v false [.im 0 _]) (qK hx25) (.inl j) j y7 j (ppC j (ppC j pp0)) j j pb0 j j j)) trivial (sS (dN z107 j (oBu (cs:=[.im 0 _,.im 0 _,.im 0 _]) j aab j)) trivial (sS (dN z107 j (oSt Am j j j (tkI (tkI (tkI tk0))) j j j)) trivial (sD (by kernel_rfl))))))) (sS (dN z107 j (oAl j Am (tkI (tkI (tkI tk0))))) trivial (sS (dN z107 j (oCa (xs:=[.v false [.im 0 _],.v false [.im 0 _]]) (vs:=[(false,[.im 0 _])]) (v:=.v false [.im 0 _]) (xh hx24) (.inl j) j EK j (ppC j (ppC j pp0)) j j pb0 j j j)) trivial (sS (dN z107 j (oCa (xs:=[.v false [.im 0 _],.v false [.im 0 _]]) (vs:=[(false,[.im 0 _])]) (v:=.v false [.im 0 _]) (qK hx25) (.inl j) j y7 j (ppC j (ppC j pp0)) j j pb0 j j j)) trivial (sS (dN z107 j (oBu (cs:=[.im 0 _,.im 0 _,.im 0 _]) j aab j)) trivial (sS (dN z107 j (oSt Am j j j (tkI (tkI (tkI tk0))) j j j)) trivial (sD (by kernel_rfl)))))))) (sS (dN z107 j (oAl j Am (tkI (tkI (tkI tk0))))) trivial (sS (dN z107 j (oCr (xs:=[]) (vs:=[(false,[.own 19 0 0])]) (v:=.v false [.own 19 0 0]) (c:=⟨.sh,0,_⟩) (cs:=[]) (Ap Dc) (.inl j) j Vh j pp0 j j pb0 j j j)) trivial (t j j (bK j Lr J9 j j j j)<|t j j (fH (cs:=[.im 0 _]) j tF9 j j j j (aA Lr) j j)<|sS (dN z107 j (oCa (xs:=[.v false [.im 0 _],.v false [.im 0 _]]) (vs:=[(false,[.im 0 _])]) (v:=.v false [.im 0 _]) (xh hx24) (.inl j) j EK j (ppC j (ppC j pp0)) j j pb0 j j j)) trivial (sS (dN z107 j (oCa (xs:=[.v false [.im 0 _],.v false [.im 0 _]]) (vs:=[(false,[.im 0 _])]) (v:=.v false [.im 0 _]) (qK hx25) (.inl j) j y7 j (ppC j (ppC j pp0)) j j pb0 j j j)) trivial (sS (dN z107 j (oBu (cs:=[.im 0 _,.im 0 _,.im 0 _]) j aab j)) trivial (sS (dN z107 j (oSt Am j j j (tkI (tkI (tkI tk0))) j j j)) trivial (sD (by kernel_rfl)))))))))<|us<|gs<|?_
 obtain ⟨x28,hx28,h⟩:=bs h
 refine g0 j j (q (oMv j j)<|q (oCa (xs:=[.v false [.mp 0 0 0],.v false [.im 0 _]]) (vs:=[(false,[.im 0 _])]) (v:=.v false [.im 0 _]) (aY hx28) (.inl j) j iq j (ppP j j j (ppC j pp0)) j j (pbP j j pb0) j j j)<|q (ae j j)<|nl)<|us<|gs<|?_
 obtain ⟨x33,FK,h⟩:=bs h
 refine g1 j j (mk [(0,M 0),(2,M 2),(5,M 5),(6,iv x28.1)] [(0,Od (G 1 (bg x28.2))),(2,Oa [C (Y (⟨#[]⟩:ByteArray)),C (I 0),C (I 0)]),(5,Oa [C (Y x21),C (I x25),C (I 0)])]) (q (oMv j j)<|q (oMv j j)<|q (oMv j j)<|q (oBS (es:=List.map eI ([x28.1,x28.1,0,90,45]:List Int)) j aU j (ptC j (fxI fx0) j (ptC j (fxI fx0) j (ptC j (fxI fx0) j (ptC j (fxI fx0) j (ptC j (fxI fx0) j pt0))))) (gY j fun _=>j))<|q (oCa (xs:=[.v false [.mp 0 0 0],.v false [.own 32 0 0]]) (vs:=[(false,[.im 0 _])]) (v:=.v false [.im 0 _]) (nN FK) (.inl j) j Ae j (ppP j j j (ppC j pp0)) j j (pbP j j pb0) j j j)<|q (oFA (r':=.mp 5 0 2) j Jk j j)<|q (oSt tF2 j j j (tkI tk0) j j j)<|nl)<|us<|gs<|g1 j j (mk [(2,M 2),(5,M 5)] [(0,Od (G 1 (bg x33.2))),(2,Oa [C (Y (⟨#[]⟩:ByteArray)),C (I 0),C (I 0)]),(5,Oa [C (Y x21),C (I x25),C (I x33.1)])]) (q (oLd (cs:=[.im 0 _,.im 0 _,.im 0 _]) j Am j j)<|q (oSt Am j j j (tkI (tkI (tkI tk0))) j j j)<|nl)<|us<|Go.ret (Unw.ret ?_)
 cases h
 exact fr afD j
theorem Kq {s_0:aB} {r:(aH×aB)} (h:tV s_0=some r):FX 123 [.ptr true [(.imm,W 1 (eK .u8) s_0.code),(.imm,I s_0.at_),(.imm,.sc (.int .u64 s_0.seed))]] ([(true,J 0 (dB r.1))],[.ptr true [(.imm,W 1 (eK .u8) r.2.code),(.imm,I r.2.at_),(.imm,.sc (.int .u64 r.2.seed))]]):=by
 unfold tV at h
 refine jP (A:=[(0,M 0)]) (B:=[(0,Od (G 1 (bg s_0)))]) (nt:=53) rfl rfl Try.func123 rfl rfl rfl rfl ?_
 refine gs<|g0 j j (q (oAl j CE (tkI (tkI (tkI (tkI (tkI (tkI (tkI (tkI tk0)))))))))<|nl)<|us<|gs<|?_
 obtain ⟨x6,hx6,h⟩:=bs h
 obtain ⟨x8,hx8,h⟩:=bs h
 refine g1 j j (mk [(0,M 0),(2,M 2)] [(0,Od (G 1 (bg s_0))),(2,Oa [C (Y (⟨#[]⟩:ByteArray)),C (Y (⟨#[]⟩:ByteArray)),C (I 0),C (I 0),C (I 0),C (I 0),C (I 0),C (I 0)])]) (q (oMv j j)<|q (oBS (es:=List.map eS ([(⟨#[97]⟩:ByteArray),(⟨#[98]⟩:ByteArray),(⟨#[99]⟩:ByteArray),(⟨#[100]⟩:ByteArray),(⟨#[101]⟩:ByteArray),(⟨#[102]⟩:ByteArray),(⟨#[103]⟩:ByteArray)]:List ByteArray)) j J9 j (ptC j (fxI fx0) j (ptC j (fxI fx0) j (ptC j (fxI fx0) j (ptC j (fxI fx0) j (ptC j (fxI fx0) j (ptC j (fxI fx0) j (ptC j (fxI fx0) j pt0))))))) (gY j fun _=>j))<|q (oCa (xs:=[.v false [.mp 0 0 0],.v false [.own 5 0 0]]) (vs:=[(false,[.im 0 _])]) (v:=.v false [.im 0 _]) (CJ hx6) (.inl j) j J6 j (ppP j j j (ppC j pp0)) j j (pbP j j pb0) j j j)<|q (oMv j j)<|q (oCa (xs:=[.v false [.mp 0 0 0]]) (vs:=[(true,[.im 0 _,.im 0 _,.im 0 _])]) (v:=.v true [.im 0 _,.im 0 _,.im 0 _]) (Ie hx8) (.inl j) j Uh j (ppP j j j pp0) j j (pbP j j pb0) j j j)<|q (oBu (cs:=[.im 0 _,.im 0 _,.im 0 _,.im 0 _,.im 0 _,.im 0 _,.im 0 _,.im 0 _]) j ahF j)<|q (oAl j CE (tkI (tkI (tkI (tkI (tkI (tkI (tkI (tkI tk0)))))))))<|q (oSt CE j j j (tkI (tkI (tkI (tkI (tkI (tkI (tkI (tkI tk0)))))))) j j j)<|nl)<|us<|gs<|?_
 obtain ⟨x11,Us,h⟩:=bs h
 refine g1 j j (mk [(0,M 0),(2,M 2),(3,M 3)] [(0,Od (G 1 (bg x8.2))),(2,Oa [C (Y (⟨#[]⟩:ByteArray)),C (Y (⟨#[]⟩:ByteArray)),C (I 0),C (I 0),C (I 0),C (I 0),C (I 0),C (I 0)]),(3,Oa [C (Y x6.1),C (Y x8.1.gm),C (I x8.1.eF),C (I x8.1.bC),C (I 0),C (I 0),C (I 0),C (I 0)])]) (q (oMv j j)<|q (oCa (xs:=[.v false [.mp 0 0 0],.v false [.im 0 _]]) (vs:=[(false,[.im 0 _])]) (v:=.v false [.im 0 _]) (aY Us) (.inl j) j iq j (ppP j j j (ppC j pp0)) j j (pbP j j pb0) j j j)<|q (oBi j j j j)<|q (oFA (r':=.mp 3 0 4) j Lm j j)<|q (oSt tF2 j j j (tkI tk0) j j j)<|nl)<|us<|gs<|?_
 obtain ⟨x15,Jn,h⟩:=bs h
 refine g1 j j (mk [(0,M 0),(2,M 2),(3,M 3)] [(0,Od (G 1 (bg x11.2))),(2,Oa [C (Y (⟨#[]⟩:ByteArray)),C (Y (⟨#[]⟩:ByteArray)),C (I 0),C (I 0),C (I 0),C (I 0),C (I 0),C (I 0)]),(3,Oa [C (Y x6.1),C (Y x8.1.gm),C (I x8.1.eF),C (I x8.1.bC),C (I (w64 (1+x11.1))),C (I 0),C (I 0),C (I 0)])]) (q (oMv j j)<|q (oCa (xs:=[.v false [.mp 0 0 0],.v false [.im 0 _]]) (vs:=[(false,[.im 0 _])]) (v:=.v false [.im 0 _]) (aY Jn) (.inl j) j iq j (ppP j j j (ppC j pp0)) j j (pbP j j pb0) j j j)<|q (oBi j j j j)<|q (oFA (r':=.mp 3 0 5) j H6 j j)<|q (oSt tF2 j j j (tkI tk0) j j j)<|nl)<|us<|gs<|?_
 obtain ⟨x19,Dc,h⟩:=bs h
 refine g1 j j (mk [(0,M 0),(2,M 2),(3,M 3)] [(0,Od (G 1 (bg x15.2))),(2,Oa [C (Y (⟨#[]⟩:ByteArray)),C (Y (⟨#[]⟩:ByteArray)),C (I 0),C (I 0),C (I 0),C (I 0),C (I 0),C (I 0)]),(3,Oa [C (Y x6.1),C (Y x8.1.gm),C (I x8.1.eF),C (I x8.1.bC),C (I (w64 (1+x11.1))),C (I (w64 (1+x15.1))),C (I 0),C (I 0)])]) (q (oMv j j)<|q (oCa (xs:=[.v false [.mp 0 0 0],.v false [.im 0 _]]) (vs:=[(false,[.im 0 _])]) (v:=.v false [.im 0 _]) (aY Dc) (.inl j) j iq j (ppP j j j (ppC j pp0)) j j (pbP j j pb0) j j j)<|q (oBi j j j j)<|q (oFA (r':=.mp 3 0 6) j Ci j j)<|q (oSt tF2 j j j (tkI tk0) j j j)<|nl)<|us<|gs<|?_
 obtain ⟨x23,Ih,h⟩:=bs h
 refine g1 j j (mk [(0,M 0),(2,M 2),(3,M 3)] [(0,Od (G 1 (bg x19.2))),(2,Oa [C (Y (⟨#[]⟩:ByteArray)),C (Y (⟨#[]⟩:ByteArray)),C (I 0),C (I 0),C (I 0),C (I 0),C (I 0),C (I 0)]),(3,Oa [C (Y x6.1),C (Y x8.1.gm),C (I x8.1.eF),C (I x8.1.bC),C (I (w64 (1+x11.1))),C (I (w64 (1+x15.1))),C (I (w64 (10*x19.1))),C (I 0)])]) (q (oMv j j)<|q (oCa (xs:=[.v false [.mp 0 0 0],.v false [.im 0 _]]) (vs:=[(false,[.im 0 _])]) (v:=.v false [.im 0 _]) (aY Ih) (.inl j) j iq j (ppP j j j (ppC j pp0)) j j (pbP j j pb0) j j j)<|q (oBi j j j j)<|q (oFA (r':=.mp 3 0 7) j FD j j)<|q (oSt tF2 j j j (tkI tk0) j j j)<|nl)<|us<|gs<|gs<|?_
 obtain ⟨x27,hx27,h⟩:=bs h
 refine g1 j j (mk [(0,M 0),(2,M 2),(3,M 3)] [(0,Od (G 1 (bg x23.2))),(2,Oa [C (Y (⟨#[]⟩:ByteArray)),C (Y (⟨#[]⟩:ByteArray)),C (I 0),C (I 0),C (I 0),C (I 0),C (I 0),C (I 0)]),(3,Oa [C (Y x6.1),C (Y x8.1.gm),C (I x8.1.eF),C (I x8.1.bC),C (I (w64 (1+x11.1))),C (I (w64 (1+x15.1))),C (I (w64 (10*x19.1))),C (I (w64 (5*x23.1)))])]) (q (oMv j j)<|q (oCa (xs:=[.v false [.mp 0 0 0],.v false [.im 0 _]]) (vs:=[(false,[.im 0 _])]) (v:=.v false [.im 0 _]) (aY hx27) (.inl j) j iq j (ppP j j j (ppC j pp0)) j j (pbP j j pb0) j j j)<|nl)<|us<|Go.join (fun st=>∃BB,∃BC,∃BD,∃BF,∃BG,∃BH,∃BI,iO x6 x8 BB BC BD BF BG BH BI=some r∧st.norm ([2,3],[0,2,3])=mk [(2,M 2),(3,M 3)] [(0,Od [Ct 1 (W 1 (eK .u8) BB),C (I BC),C (.sc (.int .u64 BD))]),(2,Oa [C (Y (⟨#[]⟩:ByteArray)),C (Y (⟨#[]⟩:ByteArray)),C (I 0),C (I 0),C (I 0),C (I 0),C (I 0),C (I 0)]),(3,Oa [C (Y x6.1),C (Y x8.1.gm),C (I x8.1.eF),C (I x8.1.bC),C (I BF),C (I BG),C (I BH),C (I BI)])]) ?_ ?_
 ·rintro st ⟨BB,BC,BD,BF,BG,BH,BI,h,hst⟩
  unfold iO at h
  refine us<|gs<|g2 afn j j hst (q (oLd (cs:=[.im 0 _,.im 0 _,.im 0 _,.im 0 _,.im 0 _,.im 0 _,.im 0 _,.im 0 _]) j CE j j)<|q (oSt CE j j j (tkI (tkI (tkI (tkI (tkI (tkI (tkI (tkI tk0)))))))) j j j)<|nl)<|us<|Go.ret (Unw.ret ?_)
  cases h
  exact fr afG j
 ·intro K5
  refine Go.block<|gs<|g1 j j (mk [(0,M 0),(2,M 2),(3,M 3),(27,iv x27.1)] [(0,Od (G 1 (bg x27.2))),(2,Oa [C (Y (⟨#[]⟩:ByteArray)),C (Y (⟨#[]⟩:ByteArray)),C (I 0),C (I 0),C (I 0),C (I 0),C (I 0),C (I 0)]),(3,Oa [C (Y x6.1),C (Y x8.1.gm),C (I x8.1.eF),C (I x8.1.bC),C (I (w64 (1+x11.1))),C (I (w64 (1+x15.1))),C (I (w64 (10*x19.1))),C (I (w64 (5*x23.1)))])]) (q (oBi j j j j)<|q (ae j j)<|nl)<|us<|gc h j iEq (fun hc6 h=>?_) fun hc6 h=>?_
  ·obtain ⟨x32,hx32,h⟩:=bs h
   exact g0 j j (q (oMv j j)<|q (oBS (es:=List.map eI ([0,9,10]:List Int)) j aU j (ptC j (fxI fx0) j (ptC j (fxI fx0) j (ptC j (fxI fx0) j pt0))) (gY j fun _=>j))<|q (oCa (xs:=[.v false [.mp 0 0 0],.v false [.own 31 0 0]]) (vs:=[(false,[.im 0 _])]) (v:=.v false [.im 0 _]) (nN hx32) (.inl j) j Ae j (ppP j j j (ppC j pp0)) j j (pbP j j pb0) j j j)<|q (oFA (r':=.mp 3 0 5) j H6 j j)<|q (oSt tF2 j j j (tkI tk0) j j j)<|nl)<|Unw.blk<|K5 _ ⟨x32.2.code,x32.2.at_,x32.2.seed,(w64 (1+x11.1)),x32.1,(w64 (10*x19.1)),(w64 (5*x23.1)),h,(by kernel_rfl)⟩
  ·refine gs<|g0 j j (q (oBi j j j j)<|q (ae j j)<|nl)<|us<|gc h j iEq (fun hc7 h=>?_) fun hc7 h=>?_
   ·obtain ⟨x38,hx38,h⟩:=bs h
    exact g0 j j (q (oMv j j)<|q (oBS (es:=List.map eI ([0,400000000,400000001]:List Int)) j aU j (ptC j (fxI fx0) j (ptC j (fxI fx0) j (ptC j (fxI fx0) j pt0))) (gY j fun _=>j))<|q (oCa (xs:=[.v false [.mp 0 0 0],.v false [.own 37 0 0]]) (vs:=[(false,[.im 0 _])]) (v:=.v false [.im 0 _]) (nN hx38) (.inl j) j Ae j (ppP j j j (ppC j pp0)) j j (pbP j j pb0) j j j)<|q (oFA (r':=.mp 3 0 4) j Lm j j)<|q (oSt tF2 j j j (tkI tk0) j j j)<|nl)<|Unw.blk<|K5 _ ⟨x38.2.code,x38.2.at_,x38.2.seed,x38.1,(w64 (1+x15.1)),(w64 (10*x19.1)),(w64 (5*x23.1)),h,(by kernel_rfl)⟩
   ·refine gs<|g0 j j (q (oBi j j j j)<|q (ae j j)<|nl)<|us<|gc h j iEq (fun hc8 h=>?_) fun hc8 h=>?_
    ·obtain ⟨x44,Vr,h⟩:=bs h
     exact g0 j j (q (oMv j j)<|q (oBS (es:=List.map eI ([(-1),1000000,1000001]:List Int)) j aU j (ptC j (fxI fx0) j (ptC j (fxI fx0) j (ptC j (fxI fx0) j pt0))) (gY j fun _=>j))<|q (oCa (xs:=[.v false [.mp 0 0 0],.v false [.own 43 0 0]]) (vs:=[(false,[.im 0 _])]) (v:=.v false [.im 0 _]) (nN Vr) (.inl j) j Ae j (ppP j j j (ppC j pp0)) j j (pbP j j pb0) j j j)<|q (oFA (r':=.mp 3 0 6) j Ci j j)<|q (oSt tF2 j j j (tkI tk0) j j j)<|nl)<|Unw.blk<|K5 _ ⟨x44.2.code,x44.2.at_,x44.2.seed,(w64 (1+x11.1)),(w64 (1+x15.1)),x44.1,(w64 (5*x23.1)),h,(by kernel_rfl)⟩
    ·refine gs<|g0 j j (q (oBi j j j j)<|q (ae j j)<|nl)<|us<|gc h j iEq (fun hc9 h=>?_) fun hc9 h=>?_
     ·obtain ⟨x50,SC,h⟩:=bs h
      exact g0 j j (q (oMv j j)<|q (oBS (es:=List.map eI ([(-1),10000,10001]:List Int)) j aU j (ptC j (fxI fx0) j (ptC j (fxI fx0) j (ptC j (fxI fx0) j pt0))) (gY j fun _=>j))<|q (oCa (xs:=[.v false [.mp 0 0 0],.v false [.own 49 0 0]]) (vs:=[(false,[.im 0 _])]) (v:=.v false [.im 0 _]) (nN SC) (.inl j) j Ae j (ppP j j j (ppC j pp0)) j j (pbP j j pb0) j j j)<|q (oFA (r':=.mp 3 0 7) j FD j j)<|q (oSt tF2 j j j (tkI tk0) j j j)<|nl)<|Unw.blk<|K5 _ ⟨x50.2.code,x50.2.at_,x50.2.seed,(w64 (1+x11.1)),(w64 (1+x15.1)),(w64 (10*x19.1)),x50.1,h,(by kernel_rfl)⟩
     ·exact Go.skip<|Unw.blk<|K5 _ ⟨x27.2.code,x27.2.at_,x27.2.seed,(w64 (1+x11.1)),(w64 (1+x15.1)),(w64 (10*x19.1)),(w64 (5*x23.1)),h,(by kernel_rfl)⟩
theorem Gg {c_0:Int} {r:Bool} (h:qG c_0=some r):FX 143 [.im 2 false [.sc (.int .u8 c_0)]] (B0 [(false,[.im 0 (V r)])]):=by
 unfold qG at h
 refine gn 9 Try.func143 rfl ?_
 refine gs<|g0 j j (q (ae j j)<|nl)<|us<|gs<|gX c143 j j j (mk [(2,bv ((decide (c_0≥97))&&(decide (c_0≤122))))] []) ?_ ?_
 ·refine xq (oMv j j)<|xq (oBi j j j j)<|xq (oMv j j)<|?_
  by_cases hc1:c_0≥97
  ·exact xqT rfl rfl (af.2 hc1) (oMv rfl rfl)<|xqT rfl rfl (af.2 hc1) (oBi rfl rfl rfl rfl)<|xq (bf rfl rfl (af.2 hc1) rfl)<|xq (ae rfl rfl)<|xn (Eq.trans (b:=(fun oN:Bool=>mk [(2,bv oN)] []) (decide (c_0≤122))) (by kernel_rfl) (congrArg (fun oN:Bool=>mk [(2,bv oN)] []) (by first | rfl | (simp [(af.2 hc1)];done) | (simp [(af.2 hc1)];omega))))
  ·exact ah rfl rfl (byF af hc1) rfl<|ah rfl rfl (byF af hc1) rfl<|xq (bD rfl rfl (byF af hc1) rfl)<|xq (ae rfl rfl)<|xn (Eq.trans (b:=(fun oN:Bool=>mk [(2,bv oN)] []) false) (by kernel_rfl) (congrArg (fun oN:Bool=>mk [(2,bv oN)] []) (by first | rfl | (simp [(byF af hc1)];done) | (simp [(byF af hc1)];omega))))
 ·refine us<|Go.ret (Unw.ret ?_)
  cases h
  exact fr afT j
theorem Me {c_0:Int} {r:Bool} (h:wQ c_0=some r):FX 144 [.im 2 false [.sc (.int .u8 c_0)]] (B0 [(false,[.im 0 (V r)])]):=by
 unfold wQ at h
 refine gn 9 Try.func144 rfl ?_
 refine gs<|g0 j j (q (ae j j)<|nl)<|us<|gs<|gX afr j j j (mk [(2,bv ((decide (c_0≥48))&&(decide (c_0≤57))))] []) ?_ ?_
 ·refine xq (oMv j j)<|xq (oBi j j j j)<|xq (oMv j j)<|?_
  by_cases hc1:c_0≥48
  ·exact xqT rfl rfl (af.2 hc1) (oMv rfl rfl)<|xqT rfl rfl (af.2 hc1) (oBi rfl rfl rfl rfl)<|xq (bf rfl rfl (af.2 hc1) rfl)<|xq (ae rfl rfl)<|xn (Eq.trans (b:=(fun oN:Bool=>mk [(2,bv oN)] []) (decide (c_0≤57))) (by kernel_rfl) (congrArg (fun oN:Bool=>mk [(2,bv oN)] []) (by first | rfl | (simp [(af.2 hc1)];done) | (simp [(af.2 hc1)];omega))))
  ·exact ah rfl rfl (byF af hc1) rfl<|ah rfl rfl (byF af hc1) rfl<|xq (bD rfl rfl (byF af hc1) rfl)<|xq (ae rfl rfl)<|xn (Eq.trans (b:=(fun oN:Bool=>mk [(2,bv oN)] []) false) (by kernel_rfl) (congrArg (fun oN:Bool=>mk [(2,bv oN)] []) (by first | rfl | (simp [(byF af hc1)];done) | (simp [(byF af hc1)];omega))))
 ·refine us<|Go.ret (Unw.ret ?_)
  cases h
  exact fr afU j
theorem CP {s_0:ByteArray} {r:Bool} (h:pW s_0=some r):FX 87 [.im 2 false [Y s_0]] (B0 [(false,[.im 0 (V r)])]):=by
 unfold pW at h
 refine gn 35 Try.func87 rfl ?_
 refine gs<|g0 j j (q (ae j j)<|nl)<|us<|gs<|gs<|?_
 obtain ⟨Rf,Aq,h⟩:=bs h
 refine gX c87 j j j (mk [(0,sv s_0),(16,bv Rf)] []) ?_ ?_
 ·refine xq (oMv j j)<|xq (oBi j j j j)<|xq (oMv j j)<|?_
  refine ic Aq (fun hc1 Aq=>?_) fun hc1 Aq=>?_
  ·cases Aq
   exact ah j j (uX.2 hc1) j<|ah j j (uX.2 hc1) j<|ah j j (uX.2 hc1) j<|xq (bf j j (uX.2 hc1) j)<|xq (oMv j j)<|ah j j j j<|ah j j j j<|ah j j j j<|ah j j j j<|xq (bf j j j j)<|xn
  ·refine xqT j j (byF uX hc1) (oMv j j)<|xqT j j (byF uX hc1) (ZQ j j uF9 j)<|xqT j j (byF uX hc1) (oBi j j j j)<|xq (bD j j (byF uX hc1) j)<|xq (oMv j j)<|?_
   refine ic Aq (fun hc2 Aq=>?_) fun hc2 Aq=>?_
   ·cases Aq
    exact ah j j (af.2 hc2) j<|ah j j (af.2 hc2) j<|ah j j (af.2 hc2) j<|ah j j (af.2 hc2) j<|xq (bf j j (af.2 hc2) j)<|xn
   ·obtain ⟨x13,Ig,Aq⟩:=bs Aq
    obtain ⟨x14,A8,Aq⟩:=bs Aq
    cases Aq
    exact xqT j j (byF af hc2) (oMv j j)<|xqT j j (byF af hc2) (oIx j Ig uF9 j j)<|xqT j j (byF af hc2) (oCa (xs:=[.v false [.im 0 _]]) (vs:=[(false,[.im 0 _])]) (v:=.v false [.im 0 _]) (Gg A8) (.inl j) j Xy j (ppC j pp0) j j pb0 j j j)<|xqT j j (byF af hc2) (oUn j j j)<|xq (bD j j (byF af hc2) j)<|xn
 ·refine us<|gc h j iR (fun hc3 h=>?_) fun hc3 h=>?_
  ·refine gs<|g0 j j (q (ae j j)<|nl)<|us<|Go.ret (Unw.ret ?_)
   cases h
   exact fr aes j
  ·refine Go.skip<|us<|gs<|gs<|g0 j j (q (ae j j)<|nl)<|us<|Go.block<|?_
   obtain ⟨o,hl,h⟩:=bs h
   refine gl c87 j _ (fun (qH:Int)=>mk [(0,sv s_0),(3,iv qH)] []) (fun (o:(Unit ⊕ Bool)) (p:Ex×St)=>match o with | (.inl _)=>p.1= .exit 0∧p.2.norm ([],[])=mk [] [] | (.inr r2)=>p.1= .ret∧fin Try.prog cfg 87 Try.f87 [.im 2 false [Y s_0]] p.2=some (B0 [(false,[.im 0 (V r2)])])) hl (by kernel_rfl) ?_ ?_ ?_
   ·intro o p hp e
    rcases o with u | r2<;>exact nomatch (hp.1.symm.trans e)
   ·rintro qH o h
    unfold ni at h
    refine gs<|gs<|g0 j j (q (oMv j j)<|q (oMv j j)<|q (ZQ j j uF9 j)<|q (oBi j j j j)<|nl)<|us<|gc h j af (fun hc12 h=>?_) fun hc12 h=>?_
    ·refine Go.skip<|us<|gs<|Go.block<|gs<|?_
     obtain ⟨x25,hx25,h⟩:=bs h
     obtain ⟨x26,Gn,h⟩:=bs h
     obtain ⟨Q9,jD,h⟩:=bs h
     refine gX c87 j j j (mk [(0,sv s_0),(3,iv qH),(34,bv Q9)] []) ?_ ?_
     ·refine xq (oMv j j)<|xq (oMv j j)<|xq (oIx j hx25 uF9 j j)<|xq (oCa (xs:=[.v false [.im 0 _]]) (vs:=[(false,[.im 0 _])]) (v:=.v false [.im 0 _]) (Gg Gn) (.inl j) j Xy j (ppC j pp0) j j pb0 j j j)<|xq (oUn j j j)<|xq (oMv j j)<|?_
      refine ic jD (fun hc13 jD=>?_) fun hc13 jD=>?_
      ·cases jD
       exact ah j j (nF (iR.2 hc13)) j<|ah j j (nF (iR.2 hc13)) j<|ah j j (nF (iR.2 hc13)) j<|ah j j (nF (iR.2 hc13)) j<|ah j j (nF (iR.2 hc13)) j<|xq (bD j j (nF (iR.2 hc13)) j)<|xn
      ·obtain ⟨x31,hx31,jD⟩:=bs jD
       obtain ⟨x32,hx32,jD⟩:=bs jD
       cases jD
       exact xqT j j (nT (byF iR hc13)) (oMv j j)<|xqT j j (nT (byF iR hc13)) (oMv j j)<|xqT j j (nT (byF iR hc13)) (oIx j hx31 uF9 j j)<|xqT j j (nT (byF iR hc13)) (oCa (xs:=[.v false [.im 0 _]]) (vs:=[(false,[.im 0 _])]) (v:=.v false [.im 0 _]) (Me hx32) (.inl j) j ach j (ppC j pp0) j j pb0 j j j)<|xqT j j (nT (byF iR hc13)) (oUn j j j)<|xq (bf j j (nT (byF iR hc13)) j)<|xn
     ·refine us<|gc h j iR (fun nU h=>?_) fun nU h=>?_
      ·refine gs<|g0 j j (q (ae j j)<|nl)<|us<|Go.ret (Unw.ret ?_)
       cases h
       exact ⟨j,(fo aes j)⟩
      ·refine Go.skip<|Unw.blk<|us<|g0 j j (q (oMv j j)<|q (oBi j j j j)<|q (ae j j)<|nl)<|Unw.nil<|?_
       cases h
       exact ⟨j,(by kernel_rfl)⟩
    ·refine Go.exit<|ux<|Unw.nil<|?_
     cases h
     exact ⟨j,(by kernel_rfl)⟩
   ·rintro ⟨e,st⟩ hp
    rcases o with u | r2
    ·dsimp only at h
     obtain ⟨he,hst⟩:=hp
     obtain rfl:e= .exit 0:=he
     refine Unw.jZ<|us<|gs<|g2 c87 j j hst (q (ae j j)<|nl)<|us<|Go.ret (Unw.ret ?_)
     cases h
     exact fr aes j
    ·dsimp only at h
     obtain ⟨he,hfin⟩:=hp
     obtain rfl:e= .ret:=he
     cases h
     exact Unw.ret (nP hfin)
theorem Oy {lK:ByteArray} {r:Int} (h:vY lK=some r):FX 134 [.im 2 false [Y lK]] (B0 [(false,[.im 0 (I r)])]):=by
 unfold vY at h
 refine gn 19 Try.func134 rfl ?_
 refine gs<|g0 j j (q (ae j j)<|nl)<|us<|gs<|?_
 obtain ⟨x5,hx5,h⟩:=bs h
 refine g0 j j (q (oCr (xs:=[]) (vs:=[(false,[.own 5 0 0])]) (v:=.v false [.own 5 0 0]) (c:=⟨.sh,0,_⟩) (cs:=[]) (Ap hx5) (.inl j) j Vh j pp0 j j pb0 j j j)<|q (nO j j j j j)<|nl)<|us<|gs<|gs<|g0 j j (q (ae j j)<|nl)<|us<|Go.block<|?_
 obtain ⟨o,hl,h⟩:=bs h
 refine gl aee j _ (fun (lM:Int)=>mk [(0,sv lK),(3,H 3 0),(4,iv lM)] [(3,Oc [Z (W 1 eS x5)])]) (fun (o:(Unit ⊕ Int)) (p:Ex×St)=>match o with | (.inl _)=>p.1= .exit 0∧p.2.norm ([],[])=mk [] [] | (.inr r2)=>p.1= .ret∧fin Try.prog cfg 134 Try.f134 [.im 2 false [Y lK]] p.2=some (B0 [(false,[.im 0 (I r2)])])) hl (by kernel_rfl) ?_ ?_ ?_
 ·intro o p hp e
  rcases o with u | r2<;>exact nomatch (hp.1.symm.trans e)
 ·rintro lM o h
  unfold tX at h
  refine gs<|gs<|g0 j j (q (oMv j j)<|q (oMv j j)<|q (O9 j j adn j j j (fun e=>nomatch e))<|q (oBi j j j j)<|nl)<|us<|gc h j af (fun hc5 h=>?_) fun hc5 h=>?_
  ·refine Go.skip<|us<|gs<|Go.block<|gs<|?_
   obtain ⟨x14,A8,h⟩:=bs h
   refine g0 j j (q (oMv j j)<|q (oMv j j)<|q (bK j A8 J9 j j j j)<|q (fH (cs:=[.im 0 _]) j tF9 j j j j (aA A8) j j)<|q (oMv j j)<|q (oBi j j j j)<|nl)<|us<|gc h j uX (fun hc6 h=>?_) fun hc6 h=>?_
   ·refine gs<|g0 j j (q (oMv j j)<|q (ae j j)<|nl)<|us<|Go.ret (Unw.ret ?_)
    cases h
    exact ⟨j,(fo ac9 j)⟩
   ·refine Go.skip<|Unw.blk<|us<|g0 j j (q (oMv j j)<|q (oBi j j j j)<|q (ae j j)<|nl)<|Unw.nil<|?_
    cases h
    exact ⟨j,(by kernel_rfl)⟩
  ·refine Go.exit<|ux<|Unw.nil<|?_
   cases h
   exact ⟨j,(by kernel_rfl)⟩
 ·rintro ⟨e,st⟩ hp
  rcases o with u | r2
  ·dsimp only at h
   obtain ⟨he,hst⟩:=hp
   obtain rfl:e= .exit 0:=he
   refine Unw.jZ<|us<|gs<|g2 aee j j hst (q (ae j j)<|nl)<|us<|Go.ret (Unw.ret ?_)
   cases h
   exact fr ac9 j
  ·dsimp only at h
   obtain ⟨he,hfin⟩:=hp
   obtain rfl:e= .ret:=he
   cases h
   exact Unw.ret (nP hfin)
theorem eU {n_0:Int} {Ed:Int} {yY:Int} {r:Bool} (h:iP n_0 Ed yY=some r):FX 85 [.im 2 false [I n_0],.im 2 false [I Ed],.im 2 false [I yY]] (B0 [(false,[.im 0 (V r)])]):=by
 unfold iP at h
 refine gn 15 Try.func85 rfl ?_
 refine gs<|g0 j j (q (ae j j)<|nl)<|us<|gs<|gX c85 j j j (mk [(6,bv ((decide (n_0≥Ed))&&(decide (n_0≤yY))))] []) ?_ ?_
 ·refine xq (oMv j j)<|xq (oMv j j)<|xq (oBi j j j j)<|xq (oMv j j)<|?_
  by_cases hc1:n_0≥Ed
  ·exact xqT rfl rfl (af.2 hc1) (oMv rfl rfl)<|xqT rfl rfl (af.2 hc1) (oMv rfl rfl)<|xqT rfl rfl (af.2 hc1) (oBi rfl rfl rfl rfl)<|xq (bf rfl rfl (af.2 hc1) rfl)<|xq (ae rfl rfl)<|xn (Eq.trans (b:=(fun o6:Bool=>mk [(6,bv o6)] []) (decide (n_0≤yY))) (by kernel_rfl) (congrArg (fun o6:Bool=>mk [(6,bv o6)] []) (by first | rfl | (simp [(af.2 hc1)];done) | (simp [(af.2 hc1)];omega))))
  ·exact ah rfl rfl (byF af hc1) rfl<|ah rfl rfl (byF af hc1) rfl<|ah rfl rfl (byF af hc1) rfl<|xq (bD rfl rfl (byF af hc1) rfl)<|xq (ae rfl rfl)<|xn (Eq.trans (b:=(fun o6:Bool=>mk [(6,bv o6)] []) false) (by kernel_rfl) (congrArg (fun o6:Bool=>mk [(6,bv o6)] []) (by first | rfl | (simp [(byF af hc1)];done) | (simp [(byF af hc1)];omega))))
 ·refine us<|Go.ret (Unw.ret ?_)
  cases h
  exact fr ahW j
theorem MB {g_0:Int} {r:Bool} (h:zu g_0=some r):FX 136 [.im 2 false [I g_0]] (B0 [(false,[.im 0 (V r)])]):=by
 unfold zu at h
 refine gn 5 Try.func136 rfl ?_
 refine gs<|g0 j j (q (ae j j)<|nl)<|us<|gs<|?_
 obtain ⟨x4,hx4,h⟩:=bs h
 refine g0 j j (q (oMv j j)<|q (oCa (xs:=[.v false [.im 2 _],.v false [.im 0 _],.v false [.im 0 _]]) (vs:=[(false,[.im 0 _])]) (v:=.v false [.im 0 _]) (eU hx4) (.inl j) j iy j (ppC j (ppC j (ppC j pp0))) j j pb0 j j j)<|q (ae j j)<|nl)<|us<|Go.ret (Unw.ret ?_)
 cases h
 exact fr afO j
theorem Ba {v_0:dW} {r:Bool} (h:qI v_0=some r):FX 79 [.im 2 false [.cp (nH v_0) 0]] (B0 [(false,[.im 0 (V r)])]):=by
 unfold qI at h
 refine gn 42 Try.func79 rfl ?_
 refine gs<|g0 j j (q (ae j j)<|nl)<|us<|gs<|?_
 obtain ⟨x9,hx9,h⟩:=bs h
 refine g0 j j (q (oMv j j)<|q (oNl j j j)<|q (oFA (r':=.im 2 _) j Lj j j)<|q (oLd (cs:=[.im 2 _]) j tF9 j j)<|q (oCa (xs:=[.v false [.im 2 _]]) (vs:=[(false,[.im 0 _])]) (v:=.v false [.im 0 _]) (Oy hx9) (.inl j) j acf j (ppC j pp0) j j pb0 j j j)<|q (ae j j)<|nl)<|us<|gs<|gs<|?_
 obtain ⟨Rh,hm5,h⟩:=bs h
 refine gX c79 j j j (mk [(0,D 2 (.cp (nH v_0) 0)),(3,iv x9),(19,bv Rh)] []) ?_ ?_
 ·refine xq (oMv j j)<|xq (oBi j j j j)<|xq (oMv j j)<|?_
  refine ic hm5 (fun hc1 hm5=>?_) fun hc1 hm5=>?_
  ·cases hm5
   exact ah j j (af.2 hc1) j<|ah j j (af.2 hc1) j<|ah j j (af.2 hc1) j<|ah j j (af.2 hc1) j<|ah j j (af.2 hc1) j<|ah j j (af.2 hc1) j<|xq (bf j j (af.2 hc1) j)<|xn
  ·obtain ⟨x17,Kr,hm5⟩:=bs hm5
   cases hm5
   exact xqT j j (byF af hc1) (oMv j j)<|xqT j j (byF af hc1) (oNl j j j)<|xqT j j (byF af hc1) (oFA (r':=.im 2 _) j Ak j j)<|xqT j j (byF af hc1) (oLd (cs:=[.im 2 _]) j tF2 j j)<|xqT j j (byF af hc1) (oCa (xs:=[.v false [.im 2 _],.v false [.im 0 _],.v false [.im 0 _]]) (vs:=[(false,[.im 0 _])]) (v:=.v false [.im 0 _]) (eU Kr) (.inl j) j iy j (ppC j (ppC j (ppC j pp0))) j j pb0 j j j)<|xqT j j (byF af hc1) (oUn j j j)<|xq (bD j j (byF af hc1) j)<|xn
 ·refine us<|gc h j iR (fun hc2 h=>?_) fun hc2 h=>?_
  ·refine gs<|g0 j j (q (ae j j)<|nl)<|us<|Go.ret (Unw.ret ?_)
   cases h
   exact fr agu j
  ·refine Go.skip<|us<|gs<|?_
   obtain ⟨x20,SE,h⟩:=bs h
   obtain ⟨x22,xg,h⟩:=bs h
   obtain ⟨x24,hx24,h⟩:=bs h
   refine g0 j j (q (oCr (xs:=[]) (vs:=[(false,[.own 20 0 0])]) (v:=.v false [.own 20 0 0]) (c:=⟨.sh,0,_⟩) (cs:=[]) (Gf SE) (.inl j) j aaf j pp0 j j pb0 j j j)<|q (oMv j j)<|q (bK j xg aeu j j j j)<|q (fH (cs:=[.im 0 _]) j jb j j j j (aA xg) j j)<|q (pK j hx24 aU j j)<|q (oLd (cs:=[.im 0 _]) j tF2 j j)<|q (ae j j)<|nl)<|us<|gs<|?_
   obtain ⟨x34,hx34,h⟩:=bs h
   obtain ⟨U5,hm4,h⟩:=bs h
   refine gX c79 j j j (mk [(2,bv U5)] []) ?_ ?_
   ·refine xq (oMv j j)<|xq (oNl j j j)<|xq (oFA (r':=.im 2 _) j Ak j j)<|xq (oLd (cs:=[.im 2 _]) j tF2 j j)<|xq (oMv j j)<|xq (oBi j j j j)<|xq (oMv j j)<|xq (oBi j j j j)<|xq (oCa (xs:=[.v false [.im 2 _],.v false [.im 0 _],.v false [.im 0 _]]) (vs:=[(false,[.im 0 _])]) (v:=.v false [.im 0 _]) (eU hx34) (.inl j) j iy j (ppC j (ppC j (ppC j pp0))) j j pb0 j j j)<|xq (oMv j j)<|?_
    refine ic hm4 (fun hc3 hm4=>?_) fun hc3 hm4=>?_
    ·obtain ⟨x40,PE,hm4⟩:=bs hm4
     cases hm4
     exact xqT j j (iR.2 hc3) (oMv j j)<|xqT j j (iR.2 hc3) (oNl j j j)<|xqT j j (iR.2 hc3) (oFA (r':=.im 2 _) j Jk j j)<|xqT j j (iR.2 hc3) (oLd (cs:=[.im 2 _]) j tF2 j j)<|xqT j j (iR.2 hc3) (oCa (xs:=[.v false [.im 2 _]]) (vs:=[(false,[.im 0 _])]) (v:=.v false [.im 0 _]) (MB PE) (.inl j) j acg j (ppC j pp0) j j pb0 j j j)<|xq (bf j j (iR.2 hc3) j)<|xq (ae j j)<|xn
    ·cases hm4
     exact ah j j (byF iR hc3) j<|ah j j (byF iR hc3) j<|ah j j (byF iR hc3) j<|ah j j (byF iR hc3) j<|ah j j (byF iR hc3) j<|xq (bD j j (byF iR hc3) j)<|xq (ae j j)<|xn
   ·refine us<|Go.ret (Unw.ret ?_)
    cases h
    exact fr agu j
theorem zD {x_0:aH} {r:Bool} (h:xQ x_0=some r):FX 167 [.im 2 false [.cp (dB x_0) 0]] (B0 [(false,[.im 0 (V r)])]):=by
 unfold xQ at h
 refine gn 42 Try.func167 rfl ?_
 refine gs<|g0 j j (q (ae j j)<|nl)<|us<|gs<|?_
 obtain ⟨x7,hx7,h⟩:=bs h
 obtain ⟨oN,hm6,h⟩:=bs h
 refine gX c167 j j j (mk [(2,bv oN)] []) ?_ ?_
 ·refine xq (oMv j j)<|xq (oNl j j j)<|xq (oFA (r':=.im 2 _) j DT j j)<|xq (oLd (cs:=[.im 2 _]) j tF9 j j)<|xq (oCa (xs:=[.v false [.im 2 _]]) (vs:=[(false,[.im 0 _])]) (v:=.v false [.im 0 _]) (CP hx7) (.inl j) j Vp j (ppC j pp0) j j pb0 j j j)<|xq (oMv j j)<|?_
  refine ic hm6 (fun hc1 hm6=>?_) fun hc1 hm6=>?_
  ·obtain ⟨x12,Af,hm6⟩:=bs hm6
   refine xqT j j (iR.2 hc1) (oMv j j)<|xqT j j (iR.2 hc1) (oNl j j j)<|xqT j j (iR.2 hc1) (oFA (r':=.im 2 _) j Ll j j)<|xqT j j (iR.2 hc1) (oCa (xs:=[.v false [.im 2 _]]) (vs:=[(false,[.im 0 _])]) (v:=.v false [.im 0 _]) (Ba Af) (.inl j) j J8 j (ppC j pp0) j j pb0 j j j)<|xq (bf j j (iR.2 hc1) j)<|xq (oMv j j)<|?_
   refine ic hm6 (fun hc2 hm6=>?_) fun hc2 hm6=>?_
   ·obtain ⟨x19,Dc,hm6⟩:=bs hm6
    refine xqT j j (iR.2 hc2) (oMv j j)<|xqT j j (iR.2 hc2) (oNl j j j)<|xqT j j (iR.2 hc2) (oFA (r':=.im 2 _) j Lm j j)<|xqT j j (iR.2 hc2) (oLd (cs:=[.im 2 _]) j tF2 j j)<|xqT j j (iR.2 hc2) (oCa (xs:=[.v false [.im 2 _],.v false [.im 0 _],.v false [.im 0 _]]) (vs:=[(false,[.im 0 _])]) (v:=.v false [.im 0 _]) (eU Dc) (.inl j) j iy j (ppC j (ppC j (ppC j pp0))) j j pb0 j j j)<|xq (bf j j (iR.2 hc2) j)<|xq (oMv j j)<|?_
    refine ic hm6 (fun hc3 hm6=>?_) fun hc3 hm6=>?_
    ·obtain ⟨x26,Gn,hm6⟩:=bs hm6
     refine xqT j j (iR.2 hc3) (oMv j j)<|xqT j j (iR.2 hc3) (oNl j j j)<|xqT j j (iR.2 hc3) (oFA (r':=.im 2 _) j H6 j j)<|xqT j j (iR.2 hc3) (oLd (cs:=[.im 2 _]) j tF2 j j)<|xqT j j (iR.2 hc3) (oCa (xs:=[.v false [.im 2 _],.v false [.im 0 _],.v false [.im 0 _]]) (vs:=[(false,[.im 0 _])]) (v:=.v false [.im 0 _]) (eU Gn) (.inl j) j iy j (ppC j (ppC j (ppC j pp0))) j j pb0 j j j)<|xq (bf j j (iR.2 hc3) j)<|xq (oMv j j)<|?_
     refine ic hm6 (fun hc4 hm6=>?_) fun hc4 hm6=>?_
     ·obtain ⟨x33,FK,hm6⟩:=bs hm6
      refine xqT j j (iR.2 hc4) (oMv j j)<|xqT j j (iR.2 hc4) (oNl j j j)<|xqT j j (iR.2 hc4) (oFA (r':=.im 2 _) j Ci j j)<|xqT j j (iR.2 hc4) (oLd (cs:=[.im 2 _]) j tF2 j j)<|xqT j j (iR.2 hc4) (oCa (xs:=[.v false [.im 2 _],.v false [.im 0 _],.v false [.im 0 _]]) (vs:=[(false,[.im 0 _])]) (v:=.v false [.im 0 _]) (eU FK) (.inl j) j iy j (ppC j (ppC j (ppC j pp0))) j j pb0 j j j)<|xq (bf j j (iR.2 hc4) j)<|xq (oMv j j)<|?_
      refine ic hm6 (fun hc5 hm6=>?_) fun hc5 hm6=>?_
      ·obtain ⟨x40,PE,hm6⟩:=bs hm6
       cases hm6
       exact xqT j j (iR.2 hc5) (oMv j j)<|xqT j j (iR.2 hc5) (oNl j j j)<|xqT j j (iR.2 hc5) (oFA (r':=.im 2 _) j FD j j)<|xqT j j (iR.2 hc5) (oLd (cs:=[.im 2 _]) j tF2 j j)<|xqT j j (iR.2 hc5) (oCa (xs:=[.v false [.im 2 _],.v false [.im 0 _],.v false [.im 0 _]]) (vs:=[(false,[.im 0 _])]) (v:=.v false [.im 0 _]) (eU PE) (.inl j) j iy j (ppC j (ppC j (ppC j pp0))) j j pb0 j j j)<|xq (bf j j (iR.2 hc5) j)<|xq (ae j j)<|xn
      ·cases hm6
       exact ah j j (byF iR hc5) j<|ah j j (byF iR hc5) j<|ah j j (byF iR hc5) j<|ah j j (byF iR hc5) j<|ah j j (byF iR hc5) j<|xq (bD j j (byF iR hc5) j)<|xq (ae j j)<|xn
     ·cases hm6
      exact ah j j (byF iR hc4) j<|ah j j (byF iR hc4) j<|ah j j (byF iR hc4) j<|ah j j (byF iR hc4) j<|ah j j (byF iR hc4) j<|xq (bD j j (byF iR hc4) j)<|xq (oMv j j)<|ah j j j j<|ah j j j j<|ah j j j j<|ah j j j j<|ah j j j j<|xq (bD j j j j)<|xq (ae j j)<|xn
    ·cases hm6
     exact ah j j (byF iR hc3) j<|ah j j (byF iR hc3) j<|ah j j (byF iR hc3) j<|ah j j (byF iR hc3) j<|ah j j (byF iR hc3) j<|xq (bD j j (byF iR hc3) j)<|xq (oMv j j)<|ah j j j j<|ah j j j j<|ah j j j j<|ah j j j j<|ah j j j j<|xq (bD j j j j)<|xq (oMv j j)<|ah j j j j<|ah j j j j<|ah j j j j<|ah j j j j<|ah j j j j<|xq (bD j j j j)<|xq (ae j j)<|xn
   ·cases hm6
    exact ah j j (byF iR hc2) j<|ah j j (byF iR hc2) j<|ah j j (byF iR hc2) j<|ah j j (byF iR hc2) j<|ah j j (byF iR hc2) j<|xq (bD j j (byF iR hc2) j)<|xq (oMv j j)<|ah j j j j<|ah j j j j<|ah j j j j<|ah j j j j<|ah j j j j<|xq (bD j j j j)<|xq (oMv j j)<|ah j j j j<|ah j j j j<|ah j j j j<|ah j j j j<|ah j j j j<|xq (bD j j j j)<|xq (oMv j j)<|ah j j j j<|ah j j j j<|ah j j j j<|ah j j j j<|ah j j j j<|xq (bD j j j j)<|xq (ae j j)<|xn
  ·cases hm6
   exact ah j j (byF iR hc1) j<|ah j j (byF iR hc1) j<|ah j j (byF iR hc1) j<|ah j j (byF iR hc1) j<|xq (bD j j (byF iR hc1) j)<|xq (oMv j j)<|ah j j j j<|ah j j j j<|ah j j j j<|ah j j j j<|ah j j j j<|xq (bD j j j j)<|xq (oMv j j)<|ah j j j j<|ah j j j j<|ah j j j j<|ah j j j j<|ah j j j j<|xq (bD j j j j)<|xq (oMv j j)<|ah j j j j<|ah j j j j<|ah j j j j<|ah j j j j<|ah j j j j<|xq (bD j j j j)<|xq (oMv j j)<|ah j j j j<|ah j j j j<|ah j j j j<|ah j j j j<|ah j j j j<|xq (bD j j j j)<|xq (ae j j)<|xn
 ·refine us<|Go.ret (Unw.ret ?_)
  cases h
  exact fr afY j
theorem SG {au:(List aH)} {r:Bool} (h:BJ au=some r):FX 166 [.im 2 false [W 8 ai au]] (B0 [(false,[.im 0 (V r)])]):=by
 unfold BJ at h
 refine gn 36 Try.func166 rfl ?_
 refine gs<|g0 j j (q (ae j j)<|nl)<|us<|gs<|gs<|g0 j j (q (ae j j)<|nl)<|us<|Go.block<|?_
 obtain ⟨o,hl,h⟩:=bs h
 refine gl ab7 j _ (fun (DJ:Int)=>mk [(0,D 2 (W 8 ai au)),(3,iv DJ)] []) (fun (o:(Unit ⊕ Bool)) (p:Ex×St)=>match o with | (.inl _)=>p.1= .exit 0∧p.2.norm ([0],[])=mk [(0,D 2 (W 8 ai au))] [] | (.inr r2)=>p.1= .ret∧fin Try.prog cfg 166 Try.f166 [.im 2 false [W 8 ai au]] p.2=some (B0 [(false,[.im 0 (V r2)])])) hl (by kernel_rfl) ?_ ?_ ?_
 ·intro o p hp e
  rcases o with u | r2<;>exact nomatch (hp.1.symm.trans e)
 ·rintro DJ o h
  unfold zx at h
  refine gs<|gs<|g0 j j (q (oMv j j)<|q (oMv j j)<|q (xI j j Ko j)<|q (oBi j j j j)<|nl)<|us<|gc h j af (fun qC h=>?_) fun qC h=>?_
  ·refine Go.skip<|us<|gs<|Go.block<|gs<|?_
   obtain ⟨x12,Af,h⟩:=bs h
   obtain ⟨x13,Ig,h⟩:=bs h
   obtain ⟨Ri,jD,h⟩:=bs h
   refine gd ab7 j j j j (mk [(0,D 2 (W 8 ai au)),(3,iv DJ),(32,bv Ri)] []) ?_ ?_
   ·refine t j j (oMv j j)<|t j j (oMv j j)<|?_
    refine ic jD (fun hc12 jD=>?_) fun hc12 jD=>?_
    ·refine ic jD (fun hc13 jD=>?_) fun hc13 jD=>?_
     ·obtain ⟨x22,xg,jD⟩:=bs jD
      obtain ⟨x27,hx27,jD⟩:=bs jD
      cases jD
      exact t j j (pK j Af xX j j)<|sS (dN aeg j (oCa (xs:=[.v false [.im 2 _]]) (vs:=[(false,[.im 0 _])]) (v:=.v false [.im 0 _]) (zD Ig) (.inl j) j IA j (ppC j pp0) j j pb0 j j j)) trivial (t j j (oUn j j j)<|t j j (oMv j j)<|tT j j j j (nF (iR.2 hc12)) (oMv j j)<|tT j j j j (nF (iR.2 hc12)) (oBi j j j j)<|tT j j j j (nF (iR.2 hc12)) (oMv j j)<|tT j j j j (af.2 hc13) (oMv j j)<|tT j j j j (af.2 hc13) (oMv j j)<|tT j j j j (af.2 hc13) (oBi j j j j)<|tT j j j j (af.2 hc13) (pK j xg xX j j)<|tT j j j j (af.2 hc13) (oFA (r':=.im 2 _) j DT j j)<|tT j j j j (af.2 hc13) (oLd (cs:=[.im 2 _]) j tF9 j j)<|tT j j j j (af.2 hc13) (oMv j j)<|tT j j j j (af.2 hc13) (oMv j j)<|tT j j j j (af.2 hc13) (pK j hx27 xX j j)<|tT j j j j (af.2 hc13) (oFA (r':=.im 2 _) j DT j j)<|tT j j j j (af.2 hc13) (oLd (cs:=[.im 2 _]) j tF9 j j)<|tT j j j j (af.2 hc13) (oBi j j j j)<|tT j j j j (nF (iR.2 hc12)) (bf j j (af.2 hc13) j)<|t j j (bD j j (nF (iR.2 hc12)) j)<|sD (by kernel_rfl))
     ·cases jD
      exact t j j (pK j Af xX j j)<|sS (dN aeg j (oCa (xs:=[.v false [.im 2 _]]) (vs:=[(false,[.im 0 _])]) (v:=.v false [.im 0 _]) (zD Ig) (.inl j) j IA j (ppC j pp0) j j pb0 j j j)) trivial (t j j (oUn j j j)<|t j j (oMv j j)<|tT j j j j (nF (iR.2 hc12)) (oMv j j)<|tT j j j j (nF (iR.2 hc12)) (oBi j j j j)<|tT j j j j (nF (iR.2 hc12)) (oMv j j)<|tF j j j j (byF af hc13) j<|tF j j j j (byF af hc13) j<|tF j j j j (byF af hc13) j<|tF j j j j (byF af hc13) j<|tF j j j j (byF af hc13) j<|tF j j j j (byF af hc13) j<|tF j j j j (byF af hc13) j<|tF j j j j (byF af hc13) j<|tF j j j j (byF af hc13) j<|tF j j j j (byF af hc13) j<|tF j j j j (byF af hc13) j<|tF j j j j (byF af hc13) j<|tT j j j j (nF (iR.2 hc12)) (bD j j (byF af hc13) j)<|t j j (bD j j (nF (iR.2 hc12)) j)<|sD (by kernel_rfl))
    ·cases jD
     exact t j j (pK j Af xX j j)<|sS (dN aeg j (oCa (xs:=[.v false [.im 2 _]]) (vs:=[(false,[.im 0 _])]) (v:=.v false [.im 0 _]) (zD Ig) (.inl j) j IA j (ppC j pp0) j j pb0 j j j)) trivial (t j j (oUn j j j)<|t j j (oMv j j)<|tF j j j j (nT (byF iR hc12)) j<|tF j j j j (nT (byF iR hc12)) j<|tF j j j j (nT (byF iR hc12)) j<|sT j (dU j j j j)<|sT j (dU j j j j)<|sT j (dU j j j j)<|sT j (dU j j j j)<|sT j (dU j j j j)<|sT j (dU j j j j)<|sT j (dU j j j j)<|sT j (dU j j j j)<|sT j (dU j j j j)<|sT j (dU j j j j)<|sT j (dU j j j j)<|sT j (dU j j j j)<|tF j j j j (nT (byF iR hc12)) j<|t j j (bf j j (nT (byF iR hc12)) j)<|sD (by kernel_rfl))
   ·refine us<|gc h j iR (fun nU h=>?_) fun nU h=>?_
    ·refine gs<|g0 j j (q (ae j j)<|nl)<|us<|Go.ret (Unw.ret ?_)
     cases h
     exact ⟨j,(fo adg j)⟩
    ·refine Go.skip<|Unw.blk<|us<|g0 j j (q (oMv j j)<|q (oBi j j j j)<|q (ae j j)<|nl)<|Unw.nil<|?_
     cases h
     exact ⟨j,(by kernel_rfl)⟩
  ·refine Go.exit<|ux<|Unw.nil<|?_
   cases h
   exact ⟨j,(by kernel_rfl)⟩
 ·rintro ⟨e,st⟩ hp
  rcases o with u | r2
  ·dsimp only at h
   obtain ⟨he,hst⟩:=hp
   obtain rfl:e= .exit 0:=he
   refine Unw.jZ<|us<|gs<|g2 ab7 j j hst (q (oMv j j)<|q (xI j j Ko j)<|q (oBi j j j j)<|q (ae j j)<|nl)<|us<|Go.ret (Unw.ret ?_)
   cases h
   exact fr adg j
  ·dsimp only at h
   obtain ⟨he,hfin⟩:=hp
   obtain rfl:e= .ret:=he
   cases h
   exact Unw.ret (nP hfin)
theorem Oz {au:(List aH)} {GY:ByteArray} {r:Int} (h:AP au GY=some r):FX 168 [.im 2 false [W 8 ai au],.im 2 false [Y GY]] (B0 [(false,[.im 0 (I r)])]):=by
 unfold AP at h
 refine gn 20 Try.func168 rfl ?_
 refine gs<|g0 j j (q (ae j j)<|nl)<|us<|gs<|gs<|g0 j j (q (ae j j)<|nl)<|us<|Go.block<|?_
 obtain ⟨o,hl,h⟩:=bs h
 refine gl c168 j _ (fun (yt:Int)=>mk [(0,D 2 (W 8 ai au)),(1,sv GY),(5,iv yt)] []) (fun (o:(Unit ⊕ Int)) (p:Ex×St)=>match o with | (.inl _)=>p.1= .exit 0∧p.2.norm ([],[])=mk [] [] | (.inr r2)=>p.1= .ret∧fin Try.prog cfg 168 Try.f168 [.im 2 false [W 8 ai au],.im 2 false [Y GY]] p.2=some (B0 [(false,[.im 0 (I r2)])])) hl (by kernel_rfl) ?_ ?_ ?_
 ·intro o p hp e
  rcases o with u | r2<;>exact nomatch (hp.1.symm.trans e)
 ·rintro yt o h
  unfold tY at h
  refine gs<|gs<|g0 j j (q (oMv j j)<|q (oMv j j)<|q (xI j j Ko j)<|q (oBi j j j j)<|nl)<|us<|gc h j af (fun hc5 h=>?_) fun hc5 h=>?_
  ·refine Go.skip<|us<|gs<|Go.block<|gs<|?_
   obtain ⟨x14,A8,h⟩:=bs h
   refine g0 j j (q (oMv j j)<|q (oMv j j)<|q (pK j A8 xX j j)<|q (oFA (r':=.im 2 _) j DT j j)<|q (oLd (cs:=[.im 2 _]) j tF9 j j)<|q (oMv j j)<|q (oBi j j j j)<|nl)<|us<|gc h j uX (fun hc6 h=>?_) fun hc6 h=>?_
   ·refine gs<|g0 j j (q (oMv j j)<|q (ae j j)<|nl)<|us<|Go.ret (Unw.ret ?_)
    cases h
    exact ⟨j,(fo adh j)⟩
   ·refine Go.skip<|Unw.blk<|us<|g0 j j (q (oMv j j)<|q (oBi j j j j)<|q (ae j j)<|nl)<|Unw.nil<|?_
    cases h
    exact ⟨j,(by kernel_rfl)⟩
  ·refine Go.exit<|ux<|Unw.nil<|?_
   cases h
   exact ⟨j,(by kernel_rfl)⟩
 ·rintro ⟨e,st⟩ hp
  rcases o with u | r2
  ·dsimp only at h
   obtain ⟨he,hst⟩:=hp
   obtain rfl:e= .exit 0:=he
   refine Unw.jZ<|us<|gs<|g2 c168 j j hst (q (ae j j)<|nl)<|us<|Go.ret (Unw.ret ?_)
   cases h
   exact fr adh j
  ·dsimp only at h
   obtain ⟨he,hfin⟩:=hp
   obtain rfl:e= .ret:=he
   cases h
   exact Unw.ret (nP hfin)
theorem OA {au:(List aH)} {x_1:aH} {r:((List aH)×Int)} (h:yu au x_1=some r):FX 122 [.im 2 false [W 8 ai au],.im 2 true (dB x_1)] (B0 [(false,[.ow 0 8 (List.map ai r.1)]),(false,[.im 0 (I r.2)])]):=by
 unfold yu at h
 refine gn 54 Try.func122 rfl ?_
 refine gs<|g0 j j (q (oBx j CE j (tkI (tkI (tkI (tkI (tkI (tkI (tkI (tkI tk0)))))))))<|q (DI j j Yx)<|q (ae j j)<|nl)<|us<|gs<|gs<|?_
 obtain ⟨x9,hx9,h⟩:=bs h
 obtain ⟨sN,FM,h⟩:=bs h
 refine gX Z4 j j (st1:=mk [(0,D 2 (W 8 ai au)),(3,M 3)] [(3,Oa (G 0 (dB x_1)))]) (by kernel_rfl) (mk [(0,D 2 (W 8 ai au)),(3,M 3),(14,bv sN)] [(3,Oa (G 0 (dB x_1)))]) ?_ ?_
 ·refine xq (oMv j j)<|xq (oCa (xs:=[.v false [.im 2 _]]) (vs:=[(false,[.im 0 _])]) (v:=.v false [.im 0 _]) (SG hx9) (.inl j) j aag j (ppC j pp0) j j pb0 j j j)<|xq (oUn j j j)<|xq (oMv j j)<|?_
  refine ic FM (fun hc1 FM=>?_) fun hc1 FM=>?_
  ·obtain ⟨x12,Af,FM⟩:=bs FM
   cases FM
   exact xqT j j (nF (iR.2 hc1)) (oCa (xs:=[.v false [.mp 3 0 0]]) (vs:=[(false,[.im 0 _])]) (v:=.v false [.im 0 _]) (zD Af) (.inl j) j IA j (ppC j pp0) j j pb0 j j j)<|xqT j j (nF (iR.2 hc1)) (oUn j j j)<|xq (bD j j (nF (iR.2 hc1)) j)<|xn
  ·cases FM
   exact ah j j (nT (byF iR hc1)) j<|ah j j (nT (byF iR hc1)) j<|xq (bf j j (nT (byF iR hc1)) j)<|xn
 ·refine us<|gc h j iR (fun hc2 h=>?_) fun hc2 h=>?_
  ·refine gs<|g0 j j (q (DI j j Yx)<|q (ae j j)<|nl)<|us<|Go.ret (Unw.ret ?_)
   cases h
   exact fr XC j
  ·refine Go.skip<|us<|gs<|gs<|?_
   obtain ⟨x18,Gp,h⟩:=bs h
   refine g0 j j (q (oMv j j)<|q (oFA (r':=.mp 3 0 0) j DT j j)<|q (oLd (cs:=[.im 0 _]) j tF9 j j)<|q (oCa (xs:=[.v false [.im 2 _],.v false [.im 0 _]]) (vs:=[(false,[.im 0 _])]) (v:=.v false [.im 0 _]) (Oz Gp) (.inl j) j Vj j (ppC j (ppC j pp0)) j j pb0 j j j)<|q (oBi j j j j)<|nl)<|us<|gc h j af (fun hc3 h=>?_) fun hc3 h=>?_
   ·refine gs<|g0 j j (q (DI j j Yx)<|q (ae j j)<|nl)<|us<|Go.ret (Unw.ret ?_)
    cases h
    exact fr XC j
   ·refine Go.skip<|us<|gs<|gs<|g0 j j (q (oMv j j)<|q (xI j j Ko j)<|q (oBi j j j j)<|nl)<|us<|gc h j iEq (fun hc4 h=>?_) fun hc4 h=>?_
    ·refine gs<|g0 j j (q (DI j j Yx)<|q (ae j j)<|nl)<|us<|Go.ret (Unw.ret ?_)
     cases h
     exact fr XC j
    ·refine Go.skip<|us<|gs<|g0 j j (q (oMv j j)<|q (xI j j Ko j)<|q (ae j j)<|nl)<|us<|gs<|Go.block<|?_
     obtain ⟨o,hl,h⟩:=bs h
     refine gl Z4 j _ (fun (Dp:Int)=>mk [(0,D 2 (W 8 ai au)),(3,M 3),(6,iv Dp)] [(3,Oa (G 0 (dB x_1)))]) (fun (Ee:Int) (p:Ex×St)=>p.1= .exit 0∧p.2.norm ([0,3,6],[3])=mk [(0,D 2 (W 8 ai au)),(3,M 3),(6,iv Ee)] [(3,Oa (G 0 (dB x_1)))]) hl (by kernel_rfl) ?_ ?_ ?_
     ·intro o p hp e
      exact nomatch (hp.1.symm.trans e)
     ·rintro Dp o h
      unfold ny at h
      refine gs<|gs<|?_
      obtain ⟨Rj,Vs,h⟩:=bs h
      refine gd Z4 j j j j (mk [(0,D 2 (W 8 ai au)),(3,M 3),(6,iv Dp),(37,bv Rj)] [(3,Oa (G 0 (dB x_1)))]) ?_ ?_
      ·refine t j j (oMv j j)<|t j j (oBi j j j j)<|t j j (oMv j j)<|?_
       refine ic Vs (fun qC Vs=>?_) fun qC Vs=>?_
       ·obtain ⟨x31,hx31,Vs⟩:=bs Vs
        cases Vs
        exact tT j j j j (af.2 qC) (oMv j j)<|tT j j j j (af.2 qC) (oMv j j)<|tT j j j j (af.2 qC) (oBi j j j j)<|tT j j j j (af.2 qC) (pK j hx31 xX j j)<|tT j j j j (af.2 qC) (oFA (r':=.im 2 _) j DT j j)<|tT j j j j (af.2 qC) (oLd (cs:=[.im 2 _]) j tF9 j j)<|tT j j j j (af.2 qC) (oFA (r':=.mp 3 0 0) j DT j j)<|tT j j j j (af.2 qC) (oLd (cs:=[.im 0 _]) j tF9 j j)<|tT j j j j (af.2 qC) (oBi j j j j)<|t j j (bf j j (af.2 qC) j)<|sD (by kernel_rfl)
       ·cases Vs
        exact tF j j j j (byF af qC) j<|tF j j j j (byF af qC) j<|tF j j j j (byF af qC) j<|tF j j j j (byF af qC) j<|tF j j j j (byF af qC) j<|tF j j j j (byF af qC) j<|tF j j j j (byF af qC) j<|tF j j j j (byF af qC) j<|tF j j j j (byF af qC) j<|t j j (bD j j (byF af qC) j)<|sD (by kernel_rfl)
      ·refine us<|gc h j iR (fun hc12 h=>?_) fun hc12 h=>?_
       ·refine Go.skip<|us<|Go.block<|g0 j j (q (oMv j j)<|q (oBi j j j j)<|q (ae j j)<|nl)<|Unw.blk<|Unw.nil<|?_
        cases h
        exact ⟨j,(by kernel_rfl)⟩
       ·refine Go.exit<|ux<|Unw.nil<|?_
        cases h
        exact ⟨j,(by kernel_rfl)⟩
     ·rintro ⟨e,st⟩ hp
      obtain ⟨Ee,rfl⟩:∃y,y=o:=⟨o,rfl⟩
      obtain ⟨he,hst⟩:=hp
      obtain rfl:e= .exit 0:=he
      refine Unw.jZ<|us<|gs<|?_
      obtain ⟨x43,Gq,h⟩:=bs h
      obtain ⟨x44,Vr,h⟩:=bs h
      refine g2 Z4 j j hst (q (oBS (es:=List.map ai ([]:List aH)) j xX j pt0 (gY j fun _=>j))<|q (oMv j j)<|q (oMv j j)<|q (ae9 j Gq xX j bn0 (bn1 j) j j)<|q (Je (en:=ai) (M:=x43) j Vr j xX j j Ko (.inl ⟨_,j⟩) j j j j ZT (gY j fun _=>j))<|q (nO j j j j j)<|nl)<|us<|gs<|?_
      obtain ⟨x48,YE,h⟩:=bs h
      refine g0 j j (q (oMv j j)<|q (oLd (cs:=[.im 0 _,.im 0 _,.im 0 _,.im 0 _,.im 0 _,.im 0 _,.im 0 _,.im 0 _]) j CE j j)<|q (oBS (es:=List.map ai ([x_1]:List aH)) j xX j (ptC j (fxI (fxI (fxI (fxI (fxI (fxI (fxI (fxI fx0)))))))) j pt0) (gY j fun _=>j))<|q (Je (en:=ai) (M:=([x_1]:List aH)) j YE j xX j j Ko (.inl ⟨_,j⟩) j j j j (Ai j j) (gY j fun _=>j))<|q (nO j j j j j)<|nl)<|us<|gs<|?_
      obtain ⟨x52,Ii,h⟩:=bs h
      obtain ⟨x53,ahX,h⟩:=bs h
      refine g0 j j (q (oMv j j)<|q (oMv j j)<|q (oMv j j)<|q (ae9 j Ii xX j (bn1 j) bn0 j j)<|q (Je (en:=ai) (M:=x52) j ahX j xX j j Ko (.inl ⟨_,j⟩) j j j j ZT (gY j fun _=>j))<|q (nO j j j j j)<|q (ae j j)<|nl)<|us<|Go.ret (Unw.ret ?_)
      cases h
      exact fr XC j
theorem OB {s_0:aB} {r:((List aH)×aB)} (h:AQ s_0=some r):FX 69 [.ptr true [(.imm,W 1 (eK .u8) s_0.code),(.imm,I s_0.at_),(.imm,.sc (.int .u64 s_0.seed))]] ([(false,[.ow 0 8 (List.map ai r.1)])],[.ptr true [(.imm,W 1 (eK .u8) r.2.code),(.imm,I r.2.at_),(.imm,.sc (.int .u64 r.2.seed))]]):=by
 unfold AQ at h
 refine jP (A:=[(0,M 0)]) (B:=[(0,Od (G 1 (bg s_0)))]) (nt:=25) rfl rfl Try.func69 rfl rfl rfl rfl ?_
 refine gs<|g0 j j (q (DI j j Yx)<|nl)<|us<|gs<|g0 j j (q (oBS (es:=List.map ai ([]:List aH)) j xX j pt0 (gY j fun _=>j))<|q (nO j j j j j)<|nl)<|us<|gs<|gs<|?_
 obtain ⟨x9,hx9,h⟩:=bs h
 refine g0 j j (q (oMv j j)<|q (oCa (xs:=[.v false [.mp 0 0 0],.v false [.im 0 _]]) (vs:=[(false,[.im 0 _])]) (v:=.v false [.im 0 _]) (aY hx9) (.inl j) j iq j (ppP j j j (ppC j pp0)) j j (pbP j j pb0) j j j)<|q (ae j j)<|nl)<|us<|Go.block<|?_
 obtain ⟨o,hl,h⟩:=bs h
 refine gl c69 j _ (fun (s:(Int×(List Int)×Int×Int×(List aH)))=>match s with | (BK,Ei,Ej,Em,vz)=>mk [(0,M 0),(3,H 3 0),(4,iv BK)] [(0,Od [Ct 1 (W 1 (eK .u8) Ei),C (I Ej),C (.sc (.int .u64 Em))]),(3,Oc [Z (W 8 ai vz)])]) (fun (o:((List Int)×Int×Int×(List aH))) (p:Ex×St)=>match o with | (zJ,zK,zL,yw)=>p.1= .exit 0∧p.2.norm ([3],[0,3])=mk [(3,H 3 0)] [(0,Od [Ct 1 (W 1 (eK .u8) zJ),C (I zK),C (.sc (.int .u64 zL))]),(3,Oc [Z (W 8 ai yw)])]) hl (by kernel_rfl) ?_ ?_ ?_
 ·intro o p hp e
  obtain ⟨zJ,zK,zL,yw⟩:=o
  exact nomatch (hp.1.symm.trans e)
 ·rintro ⟨BK,Ei,Ej,Em,vz⟩ o h
  unfold lq at h
  dsimp only at h
  refine gs<|gs<|g0 j j (q (oMv j j)<|q (oBi j j j j)<|nl)<|us<|gc h j af (fun hc5 h=>?_) fun hc5 h=>?_
  ·refine Go.skip<|us<|gs<|Go.join (fun st=>∃BL,∃Ef,∃Eg,∃Eh,pO BK BL Ef Eg Eh=some o∧st.norm ([0,3,4],[0,3])=mk [(0,M 0),(3,H 3 0),(4,iv BK)] [(0,Od [Ct 1 (W 1 (eK .u8) Ef),C (I Eg),C (.sc (.int .u64 Eh))]),(3,Oc [Z (W 8 ai BL)])]) ?_ ?_
   ·rintro st ⟨BL,Ef,Eg,Eh,h,hst⟩
    unfold pO at h
    refine us<|g2 c69 j j hst (q (oMv j j)<|q (oBi j j j j)<|q (ae j j)<|nl)<|Unw.nil<|?_
    cases h
    exact ⟨j,(by kernel_rfl)⟩
   ·intro K7
    refine Go.block<|gs<|?_
    obtain ⟨x17,Kr,h⟩:=bs h
    obtain ⟨x18,Gp,h⟩:=bs h
    refine g0 j j (q (oMv j j)<|q (oMv j j)<|q (oCa (xs:=[.v false [.mp 0 0 0]]) (vs:=[(true,[.im 0 _,.im 0 _,.im 0 _,.im 0 _,.im 0 _,.im 0 _,.im 0 _,.im 0 _])]) (v:=.v true [.im 0 _,.im 0 _,.im 0 _,.im 0 _,.im 0 _,.im 0 _,.im 0 _,.im 0 _]) (Kq Kr) (.inl j) j aae j (ppP j j j pp0) j j (pbP j j pb0) j j j)<|q (oCr (xs:=[.v false [.own 3 0 0],.v true [.im 0 _,.im 0 _,.im 0 _,.im 0 _,.im 0 _,.im 0 _,.im 0 _,.im 0 _]]) (vs:=[(false,[.own 18 0 0]),(false,[.im 0 _])]) (v:=.tup [(false,[.own 18 0 0]),(false,[.im 0 _])]) (c:=⟨.sh,0,_⟩) (cs:=[]) (OA Gp) (.inl j) j Uj j (ppC j (ppC j pp0)) j j pb0 j j j)<|q (Gj j j)<|q (oEx j j j)<|q (oEx j j j)<|q (nO j j j j j)<|q (ae j j)<|nl)<|us<|gs<|g1 j j (mk [(0,M 0),(3,H 3 0),(4,iv BK),(5,H 5 0),(6,iv x18.2)] [(0,Od (G 1 (bg x17.2))),(3,Oc [Z (W 8 ai vz)]),(5,Oc [Z (W 8 ai x18.1)])]) (q (oMv j j)<|q (oBi j j j j)<|nl)<|us<|gc h j iEq (fun hc8 h=>?_) fun hc8 h=>?_
    ·exact g0 j j (q (oMv j j)<|q (nO j j j j j)<|nl)<|Unw.blk<|K7 _ ⟨x18.1,x17.2.code,x17.2.at_,x17.2.seed,h,(by kernel_rfl)⟩
    ·exact Go.skip<|Unw.blk<|K7 _ ⟨vz,x17.2.code,x17.2.at_,x17.2.seed,h,(by kernel_rfl)⟩
  ·refine Go.exit<|ux<|Unw.nil<|?_
   cases h
   exact ⟨j,(by kernel_rfl)⟩
 ·rintro ⟨e,st⟩ hp
  obtain ⟨zJ,zK,zL,yw⟩:=o
  dsimp only at h
  obtain ⟨he,hst⟩:=hp
  obtain rfl:e= .exit 0:=he
  refine Unw.jZ<|us<|gs<|g2 c69 j j hst (q (oMv j j)<|q (nO j j j j j)<|nl)<|us<|Go.ret (Unw.ret ?_)
  cases h
  exact fr ahP j
theorem MC {fU:(List Int)} {r:(List aH)} (h:wR fU=some r):FX 30 [.im 2 false [W 1 (eK .u8) fU]] (B0 [(false,[.ow 0 8 (List.map ai r)])]):=by
 unfold wR at h
 refine gn 8 Try.func30 rfl ?_
 refine gs<|g0 j j (q (DI j j Yx)<|nl)<|us<|gs<|?_
 obtain ⟨x5,hx5,h⟩:=bs h
 refine g0 j j (q (oMv j j)<|q (oCp (xs:=[.v false [.im 2 _]]) (Ic hx5) (.inl j) j XA j (ppC j pp0) j j pb0 j)<|q (abl j j)<|nl)<|us<|gs<|?_
 obtain ⟨x7,hx7,h⟩:=bs h
 refine g0 j j (q (oMv j j)<|q (oCr (xs:=[.v false [.mp 5 0 0]]) (vs:=[(false,[.own 7 0 0])]) (v:=.v false [.own 7 0 0]) (c:=⟨.sh,0,_⟩) (cs:=[]) (OB hx7) (.inl j) j acp j (ppP j j j pp0) j j (pbP j j pb0) j j j)<|q (nO j j j j j)<|nl)<|us<|Go.ret (Unw.ret ?_)
 cases h
 exact fr ahJ j
theorem L6 {fU:(List Int)} {k_1:Int} {n_2:Int} {r:Int} (h:Bf fU k_1 n_2=some r):FX 16 [.im 2 false [W 1 (eK .u8) fU],.im 2 false [I k_1],.im 2 false [I n_2]] (B0 [(false,[.im 0 (I r)])]):=by
 unfold Bf at h
 refine gn 22 Try.func16 rfl ?_
 refine gs<|g0 j j (q (ae j j)<|nl)<|us<|gs<|gs<|gX c16 j j j (mk [(0,D 2 (W 1 (eK .u8) fU)),(1,iv k_1),(2,iv n_2),(14,bv ((decide (n_2≤1))||(decide (k_1≥(fU.length:Int)))))] []) ?_ ?_
 ·refine xq (oMv j j)<|xq (oBi j j j j)<|xq (oMv j j)<|?_
  by_cases hc1:n_2≤1
  ·exact ah rfl rfl (af.2 hc1) rfl<|ah rfl rfl (af.2 hc1) rfl<|ah rfl rfl (af.2 hc1) rfl<|ah rfl rfl (af.2 hc1) rfl<|xq (bf rfl rfl (af.2 hc1) rfl)<|xn (Eq.trans (b:=(fun sN:Bool=>mk [(0,D 2 (W 1 (eK .u8) fU)),(1,iv k_1),(2,iv n_2),(14,bv sN)] []) true) (by kernel_rfl) (congrArg (fun sN:Bool=>mk [(0,D 2 (W 1 (eK .u8) fU)),(1,iv k_1),(2,iv n_2),(14,bv sN)] []) (by first | rfl | (simp [(af.2 hc1)];done) | (simp [(af.2 hc1)];omega))))
  ·exact xqT rfl rfl (byF af hc1) (oMv rfl rfl)<|xqT rfl rfl (byF af hc1) (oMv rfl rfl)<|xqT rfl rfl (byF af hc1) (xI rfl rfl aap rfl)<|xqT rfl rfl (byF af hc1) (oBi rfl rfl rfl rfl)<|xq (bD rfl rfl (byF af hc1) rfl)<|xn (Eq.trans (b:=(fun sN:Bool=>mk [(0,D 2 (W 1 (eK .u8) fU)),(1,iv k_1),(2,iv n_2),(14,bv sN)] []) (decide (k_1≥(fU.length:Int)))) (by kernel_rfl) (congrArg (fun sN:Bool=>mk [(0,D 2 (W 1 (eK .u8) fU)),(1,iv k_1),(2,iv n_2),(14,bv sN)] []) (by first | rfl | (simp [(byF af hc1)];done) | (simp [(byF af hc1)];omega))))
 ·refine us<|gc h j (iOr af af) (fun hc2 h=>?_) fun hc2 h=>?_
  ·refine gs<|g0 j j (q (ae j j)<|nl)<|us<|Go.ret (Unw.ret ?_)
   cases h
   exact fr afW j
  ·refine Go.skip<|us<|gs<|?_
   obtain ⟨x17,Kr,h⟩:=bs h
   obtain ⟨x21,Lr,h⟩:=bs h
   refine g0 j j (q (oMv j j)<|q (oMv j j)<|q (pK j Kr agv j j)<|q (oLd (cs:=[.im 2 _]) j tF5 j j)<|q (Gl j uF5 uF2 j)<|q (oMv j j)<|q (ad4 j Lr j j)<|q (ae j j)<|nl)<|us<|Go.ret (Unw.ret ?_)
   cases h
   exact fr afW j
theorem IQ {fU:(List Int)} {k_1:Int} {n_2:Int} {r:Int} (h:rO fU k_1 n_2=some r):FX 31 [.im 2 false [W 1 (eK .u8) fU],.im 2 false [I k_1],.im 2 false [I n_2]] (B0 [(false,[.im 0 (I r)])]):=by
 unfold rO at h
 refine gn 18 Try.func31 rfl ?_
 refine gs<|g0 j j (q (ae j j)<|nl)<|us<|gs<|?_
 obtain ⟨x9,hx9,h⟩:=bs h
 obtain ⟨x14,A8,h⟩:=bs h
 obtain ⟨x17,Kr,h⟩:=bs h
 refine g0 j j (q (oMv j j)<|q (oMv j j)<|q (oCa (xs:=[.v false [.im 2 _],.v false [.im 2 _],.v false [.im 0 _]]) (vs:=[(false,[.im 0 _])]) (v:=.v false [.im 0 _]) (L6 hx9) (.inl j) j LY j (ppC j (ppC j (ppC j pp0))) j j pb0 j j j)<|q (oBi j j j j)<|q (oMv j j)<|q (oMv j j)<|q (oBi j j j j)<|q (oCa (xs:=[.v false [.im 2 _],.v false [.im 0 _],.v false [.im 0 _]]) (vs:=[(false,[.im 0 _])]) (v:=.v false [.im 0 _]) (L6 A8) (.inl j) j LY j (ppC j (ppC j (ppC j pp0))) j j pb0 j j j)<|q (oBi j j j j)<|q (oMv j j)<|q (ad4 j Kr j j)<|q (ae j j)<|nl)<|us<|Go.ret (Unw.ret ?_)
 cases h
 exact fr ahK j
theorem DU {s_0:ByteArray} {r:Bool} (h:iF s_0=some r):FX 93 [.im 2 false [Y s_0]] (B0 [(false,[.im 0 (V r)])]):=by
 unfold iF at h
 refine gn 50 Try.func93 rfl ?_
 refine gs<|g0 j j (q (ae j j)<|nl)<|us<|gs<|gs<|?_
 obtain ⟨Fe,Ij,h⟩:=bs h
 refine gX c93 j j j (mk [(0,sv s_0),(21,bv Fe)] []) ?_ ?_
 ·refine xq (oMv j j)<|xq (ZQ j j uF9 j)<|xq (oBi j j j j)<|xq (oMv j j)<|?_
  refine ic Ij (fun hc1 Ij=>?_) fun hc1 Ij=>?_
  ·cases Ij
   exact ah j j (af.2 hc1) j<|ah j j (af.2 hc1) j<|ah j j (af.2 hc1) j<|xq (bf j j (af.2 hc1) j)<|xq (oMv j j)<|ah j j j j<|ah j j j j<|ah j j j j<|xq (bf j j j j)<|xq (oMv j j)<|ah j j j j<|ah j j j j<|ah j j j j<|xq (bf j j j j)<|xn
  ·refine xqT j j (byF af hc1) (oMv j j)<|xqT j j (byF af hc1) (ZQ j j uF9 j)<|xqT j j (byF af hc1) (oBi j j j j)<|xq (bD j j (byF af hc1) j)<|xq (oMv j j)<|?_
   refine ic Ij (fun hc2 Ij=>?_) fun hc2 Ij=>?_
   ·cases Ij
    exact ah j j (af.2 hc2) j<|ah j j (af.2 hc2) j<|ah j j (af.2 hc2) j<|xq (bf j j (af.2 hc2) j)<|xq (oMv j j)<|ah j j j j<|ah j j j j<|ah j j j j<|xq (bf j j j j)<|xn
   ·obtain ⟨x14,A8,Ij⟩:=bs Ij
    refine xqT j j (byF af hc2) (oMv j j)<|xqT j j (byF af hc2) (oIx j A8 uF9 j j)<|xqT j j (byF af hc2) (oBi j j j j)<|xq (bD j j (byF af hc2) j)<|xq (oMv j j)<|?_
    refine ic Ij (fun hc3 Ij=>?_) fun hc3 Ij=>?_
    ·cases Ij
     exact ah j j (af.2 hc3) j<|ah j j (af.2 hc3) j<|ah j j (af.2 hc3) j<|xq (bf j j (af.2 hc3) j)<|xn
    ·obtain ⟨x19,Dc,Ij⟩:=bs Ij
     cases Ij
     exact xqT j j (byF af hc3) (oMv j j)<|xqT j j (byF af hc3) (oIx j Dc uF9 j j)<|xqT j j (byF af hc3) (oBi j j j j)<|xq (bD j j (byF af hc3) j)<|xn
 ·refine us<|gc h j iR (fun hc4 h=>?_) fun hc4 h=>?_
  ·refine gs<|g0 j j (q (ae j j)<|nl)<|us<|Go.ret (Unw.ret ?_)
   cases h
   exact fr aet j
  ·refine Go.skip<|us<|gs<|gs<|g0 j j (q (ae j j)<|nl)<|us<|Go.block<|?_
   obtain ⟨o,hl,h⟩:=bs h
   refine gl c93 j _ (fun (qH:Int)=>mk [(0,sv s_0),(3,iv qH)] []) (fun (o:(Unit ⊕ Bool)) (p:Ex×St)=>match o with | (.inl _)=>p.1= .exit 0∧p.2.norm ([],[])=mk [] [] | (.inr r2)=>p.1= .ret∧fin Try.prog cfg 93 Try.f93 [.im 2 false [Y s_0]] p.2=some (B0 [(false,[.im 0 (V r2)])])) hl (by kernel_rfl) ?_ ?_ ?_
   ·intro o p hp e
    rcases o with u | r2<;>exact nomatch (hp.1.symm.trans e)
   ·rintro qH o h
    unfold fK at h
    refine gs<|gs<|g0 j j (q (oMv j j)<|q (oMv j j)<|q (ZQ j j uF9 j)<|q (oBi j j j j)<|nl)<|us<|gc h j af (fun hc19 h=>?_) fun hc19 h=>?_
    ·refine Go.skip<|us<|gs<|Go.block<|gs<|?_
     obtain ⟨x30,PG,h⟩:=bs h
     obtain ⟨Rk,y9,h⟩:=bs h
     refine gX c93 j j j (mk [(0,sv s_0),(3,iv qH),(49,bv Rk)] []) ?_ ?_
     ·refine xq (oMv j j)<|xq (oMv j j)<|xq (oIx j PG uF9 j j)<|xq (oBi j j j j)<|xq (oMv j j)<|?_
      refine ic y9 (fun wK y9=>?_) fun wK y9=>?_
      ·obtain ⟨x41,PI,y9⟩:=bs y9
       refine ah j j (af.2 wK) j<|ah j j (af.2 wK) j<|ah j j (af.2 wK) j<|ah j j (af.2 wK) j<|xq (bf j j (af.2 wK) j)<|xq (oMv j j)<|xqT j j j (oMv j j)<|xqT j j j (oMv j j)<|xqT j j j (oIx j PI uF9 j j)<|xqT j j j (oBi j j j j)<|xqT j j j (oMv j j)<|?_
       refine ic y9 (fun hc21 y9=>?_) fun hc21 y9=>?_
       ·cases y9
        exact ah j j (af.2 hc21) j<|ah j j (af.2 hc21) j<|ah j j (af.2 hc21) j<|ah j j (af.2 hc21) j<|xqT j j j (bf j j (af.2 hc21) j)<|xq (bf j j j j)<|xn
       ·obtain ⟨x46,Vt,y9⟩:=bs y9
        cases y9
        exact xqT j j (byF af hc21) (oMv j j)<|xqT j j (byF af hc21) (oMv j j)<|xqT j j (byF af hc21) (oIx j Vt uF9 j j)<|xqT j j (byF af hc21) (oBi j j j j)<|xqT j j j (bD j j (byF af hc21) j)<|xq (bf j j j j)<|xn
      ·obtain ⟨x35,MF,y9⟩:=bs y9
       refine xqT j j (byF af wK) (oMv j j)<|xqT j j (byF af wK) (oMv j j)<|xqT j j (byF af wK) (oIx j MF uF9 j j)<|xqT j j (byF af wK) (oBi j j j j)<|xq (bD j j (byF af wK) j)<|xq (oMv j j)<|?_
       refine ic y9 (fun hc22 y9=>?_) fun hc22 y9=>?_
       ·obtain ⟨x41,PI,y9⟩:=bs y9
        refine xqT j j (af.2 hc22) (oMv j j)<|xqT j j (af.2 hc22) (oMv j j)<|xqT j j (af.2 hc22) (oIx j PI uF9 j j)<|xqT j j (af.2 hc22) (oBi j j j j)<|xqT j j (af.2 hc22) (oMv j j)<|?_
        refine ic y9 (fun FN y9=>?_) fun FN y9=>?_
        ·cases y9
         exact ah j j (af.2 FN) j<|ah j j (af.2 FN) j<|ah j j (af.2 FN) j<|ah j j (af.2 FN) j<|xqT j j (af.2 hc22) (bf j j (af.2 FN) j)<|xq (bf j j (af.2 hc22) j)<|xn
        ·obtain ⟨x46,Vt,y9⟩:=bs y9
         cases y9
         exact xqT j j (byF af FN) (oMv j j)<|xqT j j (byF af FN) (oMv j j)<|xqT j j (byF af FN) (oIx j Vt uF9 j j)<|xqT j j (byF af FN) (oBi j j j j)<|xqT j j (af.2 hc22) (bD j j (byF af FN) j)<|xq (bf j j (af.2 hc22) j)<|xn
       ·cases y9
        exact ah j j (byF af hc22) j<|ah j j (byF af hc22) j<|ah j j (byF af hc22) j<|ah j j (byF af hc22) j<|ah j j (byF af hc22) j<|Oj j j j<|Oj j j j<|Oj j j j<|Oj j j j<|ah j j (byF af hc22) j<|xq (bD j j (byF af hc22) j)<|xn
     ·refine us<|gc h j iR (fun hc24 h=>?_) fun hc24 h=>?_
      ·refine gs<|g0 j j (q (ae j j)<|nl)<|us<|Go.ret (Unw.ret ?_)
       cases h
       exact ⟨j,(fo aet j)⟩
      ·refine Go.skip<|Unw.blk<|us<|g0 j j (q (oMv j j)<|q (oBi j j j j)<|q (ae j j)<|nl)<|Unw.nil<|?_
       cases h
       exact ⟨j,(by kernel_rfl)⟩
    ·refine Go.exit<|ux<|Unw.nil<|?_
     cases h
     exact ⟨j,(by kernel_rfl)⟩
   ·rintro ⟨e,st⟩ hp
    rcases o with u | r2
    ·dsimp only at h
     obtain ⟨he,hst⟩:=hp
     obtain rfl:e= .exit 0:=he
     refine Unw.jZ<|us<|gs<|g2 c93 j j hst (q (ae j j)<|nl)<|us<|Go.ret (Unw.ret ?_)
     cases h
     exact fr aet j
    ·dsimp only at h
     obtain ⟨he,hfin⟩:=hp
     obtain rfl:e= .ret:=he
     cases h
     exact Unw.ret (nP hfin)
theorem Jo {lK:ByteArray} {r:(Int×Int×Int×Int)} (h:oz lK=some r):FX 206 [.im 2 false [Y lK]] (B0 [(false,[.im 0 (I r.1)]),(false,[.im 0 (I r.2.1)]),(false,[.im 0 (I r.2.2.1)]),(false,[.im 0 (I r.2.2.2)])]):=by
 unfold oz at h
 refine gn 27 Try.func206 rfl ?_
 refine gs<|g0 j j (q (ae j j)<|q (ae j j)<|q (ae j j)<|q (ae j j)<|nl)<|us<|gs<|gs<|g0 j j (q (oMv j j)<|nl)<|us<|Go.block<|gs<|g0 j j (q (oBi j j j j)<|q (ae j j)<|nl)<|us<|gc h j uX (fun hc1 h=>?_) fun hc1 h=>?_
 ·refine gs<|g0 j j (q (ae j j)<|q (ae j j)<|q (ae j j)<|q (ae j j)<|nl)<|us<|Go.ret (Unw.ret ?_)
  cases h
  exact fr Ia j
 ·refine gs<|g0 j j (q (oBi j j j j)<|q (ae j j)<|nl)<|us<|gc h j uX (fun hc2 h=>?_) fun hc2 h=>?_
  ·refine gs<|g0 j j (q (ae j j)<|q (ae j j)<|q (ae j j)<|q (ae j j)<|nl)<|us<|Go.ret (Unw.ret ?_)
   cases h
   exact fr Ia j
  ·refine gs<|g0 j j (q (oBi j j j j)<|q (ae j j)<|nl)<|us<|gc h j uX (fun hc3 h=>?_) fun hc3 h=>?_
   ·refine gs<|g0 j j (q (ae j j)<|q (ae j j)<|q (ae j j)<|q (ae j j)<|nl)<|us<|Go.ret (Unw.ret ?_)
    cases h
    exact fr Ia j
   ·refine gs<|g0 j j (q (oBi j j j j)<|q (ae j j)<|nl)<|us<|gc h j uX (fun hc4 h=>?_) fun hc4 h=>?_
    ·refine gs<|g0 j j (q (ae j j)<|q (ae j j)<|q (ae j j)<|q (ae j j)<|nl)<|us<|Go.ret (Unw.ret ?_)
     cases h
     exact fr Ia j
    ·refine gs<|g0 j j (q (oBi j j j j)<|q (ae j j)<|nl)<|us<|gc h j uX (fun hc5 h=>?_) fun hc5 h=>?_
     ·refine gs<|g0 j j (q (ae j j)<|q (ae j j)<|q (ae j j)<|q (ae j j)<|nl)<|us<|Go.ret (Unw.ret ?_)
      cases h
      exact fr Ia j
     ·refine gs<|g0 j j (q (oBi j j j j)<|q (ae j j)<|nl)<|us<|gc h j uX (fun hc6 h=>?_) fun hc6 h=>?_
      ·refine gs<|g0 j j (q (ae j j)<|q (ae j j)<|q (ae j j)<|q (ae j j)<|nl)<|us<|Go.ret (Unw.ret ?_)
       cases h
       exact fr Ia j
      ·refine gs<|g0 j j (q (oBi j j j j)<|q (ae j j)<|nl)<|us<|gc h j uX (fun hc7 h=>?_) fun hc7 h=>?_
       ·refine gs<|g0 j j (q (ae j j)<|q (ae j j)<|q (ae j j)<|q (ae j j)<|nl)<|us<|Go.ret (Unw.ret ?_)
        cases h
        exact fr Ia j
       ·refine gs<|g0 j j (q (oBi j j j j)<|q (ae j j)<|nl)<|us<|gc h j uX (fun hc8 h=>?_) fun hc8 h=>?_
        ·refine gs<|g0 j j (q (ae j j)<|q (ae j j)<|q (ae j j)<|q (ae j j)<|nl)<|us<|Go.ret (Unw.ret ?_)
         cases h
         exact fr Ia j
        ·refine gs<|g0 j j (q (oBi j j j j)<|q (ae j j)<|nl)<|us<|gc h j uX (fun hc9 h=>?_) fun hc9 h=>?_
         ·refine gs<|g0 j j (q (ae j j)<|q (ae j j)<|q (ae j j)<|q (ae j j)<|nl)<|us<|Go.ret (Unw.ret ?_)
          cases h
          exact fr Ia j
         ·refine gs<|g0 j j (q (oBi j j j j)<|q (ae j j)<|nl)<|us<|gc h j uX (fun Gs h=>?_) fun Gs h=>?_
          ·refine gs<|g0 j j (q (ae j j)<|q (ae j j)<|q (ae j j)<|q (ae j j)<|nl)<|us<|Go.ret (Unw.ret ?_)
           cases h
           exact fr Ia j
          ·refine Go.skip<|Unw.blk<|us<|gs<|g0 j j (q (ae j j)<|q (ae j j)<|q (ae j j)<|q (ae j j)<|nl)<|us<|Go.ret (Unw.ret ?_)
           cases h
           exact fr Ia j
theorem IE {lK:ByteArray} {r:(Int×Bool)} (h:fJ lK=some r):FX 182 [.im 2 false [Y lK]] (B0 [(false,[.im 0 (I r.1)]),(false,[.im 0 (V r.2)])]):=by
 unfold fJ at h
 refine gn 18 Try.func182 rfl ?_
 refine gs<|g0 j j (q (ae j j)<|q (ae j j)<|nl)<|us<|gs<|?_
 obtain ⟨x10,CO,h⟩:=bs h
 refine g0 j j (q (oMv j j)<|q (oCa (xs:=[.v false [.im 2 _]]) (vs:=[(false,[.im 0 _]),(false,[.im 0 _]),(false,[.im 0 _]),(false,[.im 0 _])]) (v:=.tup [(false,[.im 0 _]),(false,[.im 0 _]),(false,[.im 0 _]),(false,[.im 0 _])]) (Jo CO) (.inl j) j ack j (ppC j pp0) j j pb0 j j j)<|q (Gj j j)<|q (oEx j j j)<|q (oEx j j j)<|q (oEx j j j)<|q (oEx j j j)<|q (ae j j)<|q (ae j j)<|q (ae j j)<|q (ae j j)<|nl)<|us<|gs<|g0 j j (q (oMv j j)<|q (oMv j j)<|q (oBi j j j j)<|q (ae j j)<|q (ae j j)<|nl)<|us<|Go.ret (Unw.ret ?_)
 cases h
 exact fr af8 j
theorem dK {n_0:Int} {Ed:Int} {yY:Int} {r:Bool} (h:dO n_0 Ed yY=some r):FX 66 [.im 2 false [I n_0],.im 2 false [I Ed],.im 2 false [I yY]] (B0 [(false,[.im 0 (V r)])]):=by
 unfold dO at h
 refine gn 15 Try.func66 rfl ?_
 refine gs<|g0 j j (q (ae j j)<|nl)<|us<|gs<|gX c66 j j j (mk [(6,bv ((decide (n_0≥Ed))&&(decide (n_0≤yY))))] []) ?_ ?_
 ·refine xq (oMv j j)<|xq (oMv j j)<|xq (oBi j j j j)<|xq (oMv j j)<|?_
  by_cases hc1:n_0≥Ed
  ·exact xqT rfl rfl (af.2 hc1) (oMv rfl rfl)<|xqT rfl rfl (af.2 hc1) (oMv rfl rfl)<|xqT rfl rfl (af.2 hc1) (oBi rfl rfl rfl rfl)<|xq (bf rfl rfl (af.2 hc1) rfl)<|xq (ae rfl rfl)<|xn (Eq.trans (b:=(fun o6:Bool=>mk [(6,bv o6)] []) (decide (n_0≤yY))) (by kernel_rfl) (congrArg (fun o6:Bool=>mk [(6,bv o6)] []) (by first | rfl | (simp [(af.2 hc1)];done) | (simp [(af.2 hc1)];omega))))
  ·exact ah rfl rfl (byF af hc1) rfl<|ah rfl rfl (byF af hc1) rfl<|ah rfl rfl (byF af hc1) rfl<|xq (bD rfl rfl (byF af hc1) rfl)<|xq (ae rfl rfl)<|xn (Eq.trans (b:=(fun o6:Bool=>mk [(6,bv o6)] []) false) (by kernel_rfl) (congrArg (fun o6:Bool=>mk [(6,bv o6)] []) (by first | rfl | (simp [(byF af hc1)];done) | (simp [(byF af hc1)];omega))))
 ·refine us<|Go.ret (Unw.ret ?_)
  cases h
  exact fr ahN j
theorem CQ {v_0:dW} {r:Bool} (h:jo v_0=some r):FX 129 [.im 2 true (nH v_0)] (B0 [(false,[.im 0 (V r)])]):=by
 unfold jo at h
 refine gn 29 Try.func129 rfl ?_
 refine gs<|g0 j j (q (oBx j Am j (tkI (tkI (tkI tk0))))<|q (ae j j)<|nl)<|us<|gs<|?_
 obtain ⟨x8,hx8,h⟩:=bs h
 refine g0 j j (q (oFA (r':=.mp 1 0 0) j Lj j j)<|q (oLd (cs:=[.im 0 _]) j tF9 j j)<|q (oCa (xs:=[.v false [.im 0 _]]) (vs:=[(false,[.im 0 _]),(false,[.im 0 _])]) (v:=.tup [(false,[.im 0 _]),(false,[.im 0 _])]) (IE hx8) (.inl j) j aci j (ppC j pp0) j j pb0 j j j)<|q (Gj j j)<|q (oEx j j j)<|q (oEx j j j)<|q (ae j j)<|q (ae j j)<|nl)<|us<|gs<|?_
 obtain ⟨U6,hm4,h⟩:=bs h
 refine gX afp j j j (mk [(2,bv U6)] []) ?_ ?_
 ·refine xq (oMv j j)<|xq (oMv j j)<|?_
  refine ic hm4 (fun hc1 hm4=>?_) fun hc1 hm4=>?_
  ·obtain ⟨x15,Jn,hm4⟩:=bs hm4
   refine xqT j j (iR.2 hc1) (oFA (r':=.mp 1 0 1) j Ak j j)<|xqT j j (iR.2 hc1) (oLd (cs:=[.im 0 _]) j tF2 j j)<|xqT j j (iR.2 hc1) (oCa (xs:=[.v false [.im 0 _],.v false [.im 0 _],.v false [.im 0 _]]) (vs:=[(false,[.im 0 _])]) (v:=.v false [.im 0 _]) (dK Jn) (.inl j) j iw j (ppC j (ppC j (ppC j pp0))) j j pb0 j j j)<|xq (bf j j (iR.2 hc1) j)<|xq (oMv j j)<|?_
   refine ic hm4 (fun hc2 hm4=>?_) fun hc2 hm4=>?_
   ·obtain ⟨x22,xg,hm4⟩:=bs hm4
    refine xqT j j (iR.2 hc2) (oFA (r':=.mp 1 0 1) j Ak j j)<|xqT j j (iR.2 hc2) (oLd (cs:=[.im 0 _]) j tF2 j j)<|xqT j j (iR.2 hc2) (oMv j j)<|xqT j j (iR.2 hc2) (oBi j j j j)<|xqT j j (iR.2 hc2) (oCa (xs:=[.v false [.im 0 _],.v false [.im 0 _],.v false [.im 0 _]]) (vs:=[(false,[.im 0 _])]) (v:=.v false [.im 0 _]) (dK xg) (.inl j) j iw j (ppC j (ppC j (ppC j pp0))) j j pb0 j j j)<|xq (bf j j (iR.2 hc2) j)<|xq (oMv j j)<|?_
    refine ic hm4 (fun hc3 hm4=>?_) fun hc3 hm4=>?_
    ·obtain ⟨x27,hx27,hm4⟩:=bs hm4
     cases hm4
     exact xqT j j (iR.2 hc3) (oFA (r':=.mp 1 0 2) j Jk j j)<|xqT j j (iR.2 hc3) (oLd (cs:=[.im 0 _]) j tF2 j j)<|xqT j j (iR.2 hc3) (oCa (xs:=[.v false [.im 0 _],.v false [.im 0 _],.v false [.im 0 _]]) (vs:=[(false,[.im 0 _])]) (v:=.v false [.im 0 _]) (dK hx27) (.inl j) j iw j (ppC j (ppC j (ppC j pp0))) j j pb0 j j j)<|xq (bf j j (iR.2 hc3) j)<|xq (ae j j)<|xn
    ·cases hm4
     exact ah j j (byF iR hc3) j<|ah j j (byF iR hc3) j<|ah j j (byF iR hc3) j<|xq (bD j j (byF iR hc3) j)<|xq (ae j j)<|xn
   ·cases hm4
    exact ah j j (byF iR hc2) j<|ah j j (byF iR hc2) j<|ah j j (byF iR hc2) j<|ah j j (byF iR hc2) j<|ah j j (byF iR hc2) j<|xq (bD j j (byF iR hc2) j)<|xq (oMv j j)<|ah j j j j<|ah j j j j<|ah j j j j<|xq (bD j j j j)<|xq (ae j j)<|xn
  ·cases hm4
   exact ah j j (byF iR hc1) j<|ah j j (byF iR hc1) j<|ah j j (byF iR hc1) j<|xq (bD j j (byF iR hc1) j)<|xq (oMv j j)<|ah j j j j<|ah j j j j<|ah j j j j<|ah j j j j<|ah j j j j<|xq (bD j j j j)<|xq (oMv j j)<|ah j j j j<|ah j j j j<|ah j j j j<|xq (bD j j j j)<|xq (ae j j)<|xn
 ·refine us<|Go.ret (Unw.ret ?_)
  cases h
  exact fr afK j
theorem wB {x_0:aH} {r:Bool} (h:jQ x_0=some r):FX 76 [.im 2 true (dB x_0)] (B0 [(false,[.im 0 (V r)])]):=by
 unfold jQ at h
 refine gn 31 Try.func76 rfl ?_
 refine gs<|g0 j j (q (oBx j CE j (tkI (tkI (tkI (tkI (tkI (tkI (tkI (tkI tk0)))))))))<|q (ae j j)<|nl)<|us<|gs<|?_
 obtain ⟨x5,hx5,h⟩:=bs h
 obtain ⟨oN,hm6,h⟩:=bs h
 refine gX c76 j j (st1:=mk [(1,M 1)] [(1,Oa (G 0 (dB x_0)))]) (by kernel_rfl) (mk [(2,bv oN)] []) ?_ ?_
 ·refine xq (oFA (r':=.mp 1 0 0) j DT j j)<|xq (oLd (cs:=[.im 0 _]) j tF9 j j)<|xq (oCa (xs:=[.v false [.im 0 _]]) (vs:=[(false,[.im 0 _])]) (v:=.v false [.im 0 _]) (DU hx5) (.inl j) j Vq j (ppC j pp0) j j pb0 j j j)<|xq (oMv j j)<|?_
  refine ic hm6 (fun hc1 hm6=>?_) fun hc1 hm6=>?_
  ·obtain ⟨x9,hx9,hm6⟩:=bs hm6
   refine xqT j j (iR.2 hc1) (oFA (r':=.mp 1 0 1) j Ll j j)<|xqT j j (iR.2 hc1) (oLd (cs:=[.im 0 _,.im 0 _,.im 0 _]) j Am j j)<|xqT j j (iR.2 hc1) (oCa (xs:=[.v true [.im 0 _,.im 0 _,.im 0 _]]) (vs:=[(false,[.im 0 _])]) (v:=.v false [.im 0 _]) (CQ hx9) (.inl j) j Uk j (ppC j pp0) j j pb0 j j j)<|xq (bf j j (iR.2 hc1) j)<|xq (oMv j j)<|?_
   refine ic hm6 (fun hc2 hm6=>?_) fun hc2 hm6=>?_
   ·obtain ⟨x14,A8,hm6⟩:=bs hm6
    refine xqT j j (iR.2 hc2) (oFA (r':=.mp 1 0 4) j Lm j j)<|xqT j j (iR.2 hc2) (oLd (cs:=[.im 0 _]) j tF2 j j)<|xqT j j (iR.2 hc2) (oCa (xs:=[.v false [.im 0 _],.v false [.im 0 _],.v false [.im 0 _]]) (vs:=[(false,[.im 0 _])]) (v:=.v false [.im 0 _]) (dK A8) (.inl j) j iw j (ppC j (ppC j (ppC j pp0))) j j pb0 j j j)<|xq (bf j j (iR.2 hc2) j)<|xq (oMv j j)<|?_
    refine ic hm6 (fun hc3 hm6=>?_) fun hc3 hm6=>?_
    ·obtain ⟨x19,Dc,hm6⟩:=bs hm6
     refine xqT j j (iR.2 hc3) (oFA (r':=.mp 1 0 5) j H6 j j)<|xqT j j (iR.2 hc3) (oLd (cs:=[.im 0 _]) j tF2 j j)<|xqT j j (iR.2 hc3) (oCa (xs:=[.v false [.im 0 _],.v false [.im 0 _],.v false [.im 0 _]]) (vs:=[(false,[.im 0 _])]) (v:=.v false [.im 0 _]) (dK Dc) (.inl j) j iw j (ppC j (ppC j (ppC j pp0))) j j pb0 j j j)<|xq (bf j j (iR.2 hc3) j)<|xq (oMv j j)<|?_
     refine ic hm6 (fun hc4 hm6=>?_) fun hc4 hm6=>?_
     ·obtain ⟨x24,hx24,hm6⟩:=bs hm6
      refine xqT j j (iR.2 hc4) (oFA (r':=.mp 1 0 6) j Ci j j)<|xqT j j (iR.2 hc4) (oLd (cs:=[.im 0 _]) j tF2 j j)<|xqT j j (iR.2 hc4) (oCa (xs:=[.v false [.im 0 _],.v false [.im 0 _],.v false [.im 0 _]]) (vs:=[(false,[.im 0 _])]) (v:=.v false [.im 0 _]) (dK hx24) (.inl j) j iw j (ppC j (ppC j (ppC j pp0))) j j pb0 j j j)<|xq (bf j j (iR.2 hc4) j)<|xq (oMv j j)<|?_
      refine ic hm6 (fun hc5 hm6=>?_) fun hc5 hm6=>?_
      ·obtain ⟨x29,hx29,hm6⟩:=bs hm6
       cases hm6
       exact xqT j j (iR.2 hc5) (oFA (r':=.mp 1 0 7) j FD j j)<|xqT j j (iR.2 hc5) (oLd (cs:=[.im 0 _]) j tF2 j j)<|xqT j j (iR.2 hc5) (oCa (xs:=[.v false [.im 0 _],.v false [.im 0 _],.v false [.im 0 _]]) (vs:=[(false,[.im 0 _])]) (v:=.v false [.im 0 _]) (dK hx29) (.inl j) j iw j (ppC j (ppC j (ppC j pp0))) j j pb0 j j j)<|xq (bf j j (iR.2 hc5) j)<|xq (ae j j)<|xn
      ·cases hm6
       exact ah j j (byF iR hc5) j<|ah j j (byF iR hc5) j<|ah j j (byF iR hc5) j<|xq (bD j j (byF iR hc5) j)<|xq (ae j j)<|xn
     ·cases hm6
      exact ah j j (byF iR hc4) j<|ah j j (byF iR hc4) j<|ah j j (byF iR hc4) j<|xq (bD j j (byF iR hc4) j)<|xq (oMv j j)<|ah j j j j<|ah j j j j<|ah j j j j<|xq (bD j j j j)<|xq (ae j j)<|xn
    ·cases hm6
     exact ah j j (byF iR hc3) j<|ah j j (byF iR hc3) j<|ah j j (byF iR hc3) j<|xq (bD j j (byF iR hc3) j)<|xq (oMv j j)<|ah j j j j<|ah j j j j<|ah j j j j<|xq (bD j j j j)<|xq (oMv j j)<|ah j j j j<|ah j j j j<|ah j j j j<|xq (bD j j j j)<|xq (ae j j)<|xn
   ·cases hm6
    exact ah j j (byF iR hc2) j<|ah j j (byF iR hc2) j<|ah j j (byF iR hc2) j<|xq (bD j j (byF iR hc2) j)<|xq (oMv j j)<|ah j j j j<|ah j j j j<|ah j j j j<|xq (bD j j j j)<|xq (oMv j j)<|ah j j j j<|ah j j j j<|ah j j j j<|xq (bD j j j j)<|xq (oMv j j)<|ah j j j j<|ah j j j j<|ah j j j j<|xq (bD j j j j)<|xq (ae j j)<|xn
  ·cases hm6
   exact ah j j (byF iR hc1) j<|ah j j (byF iR hc1) j<|ah j j (byF iR hc1) j<|xq (bD j j (byF iR hc1) j)<|xq (oMv j j)<|ah j j j j<|ah j j j j<|ah j j j j<|xq (bD j j j j)<|xq (oMv j j)<|ah j j j j<|ah j j j j<|ah j j j j<|xq (bD j j j j)<|xq (oMv j j)<|ah j j j j<|ah j j j j<|ah j j j j<|xq (bD j j j j)<|xq (oMv j j)<|ah j j j j<|ah j j j j<|ah j j j j<|xq (bD j j j j)<|xq (ae j j)<|xn
 ·refine us<|Go.ret (Unw.ret ?_)
  cases h
  exact fr ahT j
theorem CS {au:(List aH)} {r:Bool} (h:eG au=some r):FX 74 [.im 2 false [W 8 ai au]] (B0 [(false,[.im 0 (V r)])]):=by
 unfold eG at h
 refine gn 34 Try.func74 rfl ?_
 refine gs<|g0 j j (q (ae j j)<|nl)<|us<|gs<|gs<|g0 j j (q (oMv j j)<|q (xI j j Ko j)<|q (oMv j j)<|nl)<|us<|Go.block<|?_
 obtain ⟨o,hl,h⟩:=bs h
 refine gl c74 j _ (fun (oO:Int)=>mk [(0,D 2 (W 8 ai au)),(5,D 2 (W 8 ai au)),(6,iv (au.length:Int)),(7,iv oO)] []) (fun (o:(Unit ⊕ Bool)) (p:Ex×St)=>match o with | (.inl _)=>p.1= .exit 0∧p.2.norm ([0],[])=mk [(0,D 2 (W 8 ai au))] [] | (.inr r2)=>p.1= .ret∧fin Try.prog cfg 74 Try.f74 [.im 2 false [W 8 ai au]] p.2=some (B0 [(false,[.im 0 (V r2)])])) hl (by kernel_rfl) ?_ ?_ ?_
 ·intro o p hp e
  rcases o with u | r2<;>exact nomatch (hp.1.symm.trans e)
 ·rintro oO o h
  unfold fA at h
  refine gs<|g0 j j (q (oBi j j j j)<|nl)<|us<|gs<|gc h j af (fun qC h=>?_) fun qC h=>?_
  ·refine Go.skip<|us<|gs<|Go.block<|gs<|?_
   obtain ⟨x10,CO,h⟩:=bs h
   refine g0 j j (q (oMv j j)<|q (pK j CO xX j j)<|q (oLd (cs:=[.im 2 _,.im 2 _,.im 2 _,.im 2 _,.im 2 _,.im 2 _,.im 2 _,.im 2 _]) j CE j j)<|q (oAl j CE (tkI (tkI (tkI (tkI (tkI (tkI (tkI (tkI tk0)))))))))<|q (ae j j)<|q (oSt CE j j j (tkI (tkI (tkI (tkI (tkI (tkI (tkI (tkI tk0)))))))) j j j)<|nl)<|us<|gs<|?_
   obtain ⟨x13,Ig,h⟩:=bs h
   obtain ⟨Ff,jD,h⟩:=bs h
   refine gd c74 j j j (st1:=mk [(0,D 2 (W 8 ai au)),(3,iv oO),(4,M 4),(5,D 2 (W 8 ai au)),(6,iv (au.length:Int)),(7,iv oO)] [(4,Oa (G 0 (dB x10)))]) (by kernel_rfl) (mk [(0,D 2 (W 8 ai au)),(5,D 2 (W 8 ai au)),(6,iv (au.length:Int)),(7,iv oO),(29,bv Ff)] []) ?_ ?_
   ·refine ic jD (fun hc12 jD=>?_) fun hc12 jD=>?_
    ·refine ic jD (fun hc13 jD=>?_) fun hc13 jD=>?_
     ·obtain ⟨x22,xg,jD⟩:=bs jD
      cases jD
      exact t j j (oLd (cs:=[.im 0 _,.im 0 _,.im 0 _,.im 0 _,.im 0 _,.im 0 _,.im 0 _,.im 0 _]) j CE j j)<|sS (dN z74 j (oCa (xs:=[.v true [.im 0 _,.im 0 _,.im 0 _,.im 0 _,.im 0 _,.im 0 _,.im 0 _,.im 0 _]]) (vs:=[(false,[.im 0 _])]) (v:=.v false [.im 0 _]) (wB Ig) (.inl j) j MX j (ppC j pp0) j j pb0 j j j)) trivial (t j j (oUn j j j)<|t j j (oMv j j)<|tT j j j j (nF (iR.2 hc12)) (oMv j j)<|tT j j j j (nF (iR.2 hc12)) (oBi j j j j)<|tT j j j j (nF (iR.2 hc12)) (oMv j j)<|tT j j j j (af.2 hc13) (oMv j j)<|tT j j j j (af.2 hc13) (oMv j j)<|tT j j j j (af.2 hc13) (oBi j j j j)<|tT j j j j (af.2 hc13) (pK j xg xX j j)<|tT j j j j (af.2 hc13) (oFA (r':=.im 2 _) j DT j j)<|tT j j j j (af.2 hc13) (oLd (cs:=[.im 2 _]) j tF9 j j)<|tT j j j j (af.2 hc13) (oFA (r':=.mp 4 0 0) j DT j j)<|tT j j j j (af.2 hc13) (oLd (cs:=[.im 0 _]) j tF9 j j)<|tT j j j j (af.2 hc13) (oBi j j j j)<|tT j j j j (nF (iR.2 hc12)) (bf j j (af.2 hc13) j)<|t j j (bD j j (nF (iR.2 hc12)) j)<|sD (by kernel_rfl))
     ·cases jD
      exact t j j (oLd (cs:=[.im 0 _,.im 0 _,.im 0 _,.im 0 _,.im 0 _,.im 0 _,.im 0 _,.im 0 _]) j CE j j)<|sS (dN z74 j (oCa (xs:=[.v true [.im 0 _,.im 0 _,.im 0 _,.im 0 _,.im 0 _,.im 0 _,.im 0 _,.im 0 _]]) (vs:=[(false,[.im 0 _])]) (v:=.v false [.im 0 _]) (wB Ig) (.inl j) j MX j (ppC j pp0) j j pb0 j j j)) trivial (t j j (oUn j j j)<|t j j (oMv j j)<|tT j j j j (nF (iR.2 hc12)) (oMv j j)<|tT j j j j (nF (iR.2 hc12)) (oBi j j j j)<|tT j j j j (nF (iR.2 hc12)) (oMv j j)<|tF j j j j (byF af hc13) j<|tF j j j j (byF af hc13) j<|tF j j j j (byF af hc13) j<|tF j j j j (byF af hc13) j<|tF j j j j (byF af hc13) j<|tF j j j j (byF af hc13) j<|tF j j j j (byF af hc13) j<|tF j j j j (byF af hc13) j<|tF j j j j (byF af hc13) j<|tT j j j j (nF (iR.2 hc12)) (bD j j (byF af hc13) j)<|t j j (bD j j (nF (iR.2 hc12)) j)<|sD (by kernel_rfl))
    ·cases jD
     exact t j j (oLd (cs:=[.im 0 _,.im 0 _,.im 0 _,.im 0 _,.im 0 _,.im 0 _,.im 0 _,.im 0 _]) j CE j j)<|sS (dN z74 j (oCa (xs:=[.v true [.im 0 _,.im 0 _,.im 0 _,.im 0 _,.im 0 _,.im 0 _,.im 0 _,.im 0 _]]) (vs:=[(false,[.im 0 _])]) (v:=.v false [.im 0 _]) (wB Ig) (.inl j) j MX j (ppC j pp0) j j pb0 j j j)) trivial (t j j (oUn j j j)<|t j j (oMv j j)<|tF j j j j (nT (byF iR hc12)) j<|tF j j j j (nT (byF iR hc12)) j<|tF j j j j (nT (byF iR hc12)) j<|sT j (dU j j j j)<|sT j (dU j j j j)<|sT j (dU j j j j)<|sT j (dU j j j j)<|sT j (dU j j j j)<|sT j (dU j j j j)<|sT j (dU j j j j)<|sT j (dU j j j j)<|sT j (dU j j j j)<|tF j j j j (nT (byF iR hc12)) j<|t j j (bf j j (nT (byF iR hc12)) j)<|sD (by kernel_rfl))
   ·refine us<|gc h j iR (fun nU h=>?_) fun nU h=>?_
    ·refine gs<|g0 j j (q (ae j j)<|nl)<|us<|Go.ret (Unw.ret ?_)
     cases h
     exact ⟨j,(fo agr j)⟩
    ·refine Go.skip<|Unw.blk<|us<|g0 j j (q (oBi j j j j)<|q (oMv j j)<|nl)<|Unw.nil<|?_
     cases h
     exact ⟨j,(by kernel_rfl)⟩
  ·refine Go.exit<|ux<|Unw.nil<|?_
   cases h
   exact ⟨j,(by kernel_rfl)⟩
 ·rintro ⟨e,st⟩ hp
  rcases o with u | r2
  ·dsimp only at h
   obtain ⟨he,hst⟩:=hp
   obtain rfl:e= .exit 0:=he
   refine Unw.jZ<|us<|gs<|g2 c74 j j hst (q (oMv j j)<|q (xI j j Ko j)<|q (oBi j j j j)<|q (ae j j)<|nl)<|us<|Go.ret (Unw.ret ?_)
   cases h
   exact fr agr j
  ·dsimp only at h
   obtain ⟨he,hfin⟩:=hp
   obtain rfl:e= .ret:=he
   cases h
   exact Unw.ret (nP hfin)
theorem CU {au:(List aH)} {qU:Int} {kX:Int} {wS:Int} {r:Int} (h:oC au qU kX wS=some r):FX 70 [.im 2 false [W 8 ai au],.im 2 false [I qU],.im 2 false [I kX],.im 2 false [I wS]] (B0 [(false,[.im 0 (I r)])]):=by
 unfold oC at h
 refine gn 27 Try.func70 rfl ?_
 refine gs<|g0 j j (q (ae j j)<|nl)<|us<|gs<|Go.block<|gs<|?_
 obtain ⟨x11,Us,h⟩:=bs h
 refine g0 j j (q (oMv j j)<|q (oCa (xs:=[.v false [.im 2 _]]) (vs:=[(false,[.im 0 _])]) (v:=.v false [.im 0 _]) (CS Us) (.inl j) j XB j (ppC j pp0) j j pb0 j j j)<|q (oUn j j j)<|q (ae j j)<|nl)<|us<|?_
 by_cases hc1:x11=true
 ·rw [if_pos hc1] at h
  refine gF j (nF (iR.2 hc1))<|gs<|?_
  obtain ⟨x15,Jn,h⟩:=bs h
  obtain ⟨Rl,hm5,h⟩:=bs h
  refine gX c70 j j j (mk [(13,bv Rl)] []) ?_ ?_
  ·refine xq (oMv j j)<|xq (oCa (xs:=[.v false [.im 2 _],.v false [.im 0 _],.v false [.im 0 _]]) (vs:=[(false,[.im 0 _])]) (v:=.v false [.im 0 _]) (dK Jn) (.inl j) j iw j (ppC j (ppC j (ppC j pp0))) j j pb0 j j j)<|xq (oUn j j j)<|xq (oMv j j)<|?_
   refine ic hm5 (fun hc2 hm5=>?_) fun hc2 hm5=>?_
   ·obtain ⟨x19,Dc,hm5⟩:=bs hm5
    refine xqT j j (nF (iR.2 hc2)) (oMv j j)<|xqT j j (nF (iR.2 hc2)) (oCa (xs:=[.v false [.im 2 _],.v false [.im 0 _],.v false [.im 0 _]]) (vs:=[(false,[.im 0 _])]) (v:=.v false [.im 0 _]) (dK Dc) (.inl j) j iw j (ppC j (ppC j (ppC j pp0))) j j pb0 j j j)<|xqT j j (nF (iR.2 hc2)) (oUn j j j)<|xq (bD j j (nF (iR.2 hc2)) j)<|xq (oMv j j)<|?_
    refine ic hm5 (fun hc3 hm5=>?_) fun hc3 hm5=>?_
    ·obtain ⟨x24,hx24,hm5⟩:=bs hm5
     cases hm5
     exact xqT j j (nF (iR.2 hc3)) (oMv j j)<|xqT j j (nF (iR.2 hc3)) (oCa (xs:=[.v false [.im 2 _],.v false [.im 0 _],.v false [.im 0 _]]) (vs:=[(false,[.im 0 _])]) (v:=.v false [.im 0 _]) (dK hx24) (.inl j) j iw j (ppC j (ppC j (ppC j pp0))) j j pb0 j j j)<|xqT j j (nF (iR.2 hc3)) (oUn j j j)<|xq (bD j j (nF (iR.2 hc3)) j)<|xq (ae j j)<|xn
    ·cases hm5
     exact ah j j (nT (byF iR hc3)) j<|ah j j (nT (byF iR hc3)) j<|ah j j (nT (byF iR hc3)) j<|xq (bf j j (nT (byF iR hc3)) j)<|xq (ae j j)<|xn
   ·cases hm5
    exact ah j j (nT (byF iR hc2)) j<|ah j j (nT (byF iR hc2)) j<|ah j j (nT (byF iR hc2)) j<|xq (bf j j (nT (byF iR hc2)) j)<|xq (oMv j j)<|ah j j j j<|ah j j j j<|ah j j j j<|xq (bf j j j j)<|xq (ae j j)<|xn
  ·refine us<|gc h j iR (fun hc4 h=>?_) fun hc4 h=>?_
   ·refine gs<|g0 j j (q (ae j j)<|nl)<|us<|Go.ret (Unw.ret ?_)
    cases h
    exact fr aeq j
   ·refine Go.skip<|Unw.blk<|us<|gs<|g0 j j (q (ae j j)<|nl)<|us<|Go.ret (Unw.ret ?_)
    cases h
    exact fr aeq j
 ·rw [if_neg hc1] at h
  refine gT j (nT (byF iR hc1))<|gs<|g0 j j (q (ae j j)<|nl)<|us<|Go.ret (Unw.ret ?_)
  cases h
  exact fr aeq j
theorem wC {i_0:Int} {k_1:Int} {vC:(List aH)} {r:Int} (h:fB i_0 k_1 vC=some r):FX 125 [.im 2 false [I i_0],.im 2 false [I k_1],.im 2 false [.cp [W 8 ai vC] 0]] (B0 [(false,[.im 0 (I r)])]):=by
 unfold fB at h
 refine gn 32 Try.func125 rfl ?_
 refine gs<|g0 j j (q (ae j j)<|nl)<|us<|gs<|gs<|?_
 obtain ⟨x9,hx9,h⟩:=bs h
 obtain ⟨x14,A8,h⟩:=bs h
 refine gd aed j j j j (mk [(0,iv i_0),(1,iv k_1),(2,D 2 (.cp [W 8 ai vC] 0)),(6,iv (w64 (x9.Priority - x14.Priority)))] []) (t j j (oLd (cs:=[.im 2 _]) j Ur j j)<|t j j (oMv j j)<|t j j (pK j hx9 xX j j)<|t j j (oFA (r':=.im 2 _) j H6 j j)<|t j j (oLd (cs:=[.im 2 _]) j tF2 j j)<|t j j (oLd (cs:=[.im 2 _]) j Ur j j)<|t j j (oMv j j)<|t j j (pK j A8 xX j j)<|t j j (oFA (r':=.im 2 _) j H6 j j)<|t j j (oLd (cs:=[.im 2 _]) j tF2 j j)<|t j j (oBi j j j j)<|sS (dN afo j (ae j j)) trivial (sD (by kernel_rfl)))<|us<|gs<|g0 j j (q (oMv j j)<|q (oBi j j j j)<|nl)<|us<|gc h j iNe (fun hc1 h=>?_) fun hc1 h=>?_
 ·refine gs<|g0 j j (q (oMv j j)<|q (ae j j)<|nl)<|us<|Go.ret (Unw.ret ?_)
  cases h
  exact fr ac7 j
 ·refine Go.skip<|us<|gs<|?_
  obtain ⟨x23,Ih,h⟩:=bs h
  obtain ⟨x28,hx28,h⟩:=bs h
  refine gd aed j j j j (mk [(5,iv (w64 (x23.wH - x28.wH)))] []) (t j j (oLd (cs:=[.im 2 _]) j Ur j j)<|t j j (oMv j j)<|t j j (pK j Ih xX j j)<|t j j (oFA (r':=.im 2 _) j Ci j j)<|t j j (oLd (cs:=[.im 2 _]) j tF2 j j)<|t j j (oLd (cs:=[.im 2 _]) j Ur j j)<|t j j (oMv j j)<|t j j (pK j hx28 xX j j)<|t j j (oFA (r':=.im 2 _) j Ci j j)<|t j j (oLd (cs:=[.im 2 _]) j tF2 j j)<|t j j (oBi j j j j)<|sS (dN afo j (ae j j)) trivial (sD (by kernel_rfl)))<|us<|Go.ret (Unw.ret ?_)
  cases h
  exact fr ac7 j
theorem lZ {aj:(List Int)} {a_1:Int} {b_2:Int} {Bc:(List aH)} {r:(List Int)} (h:dV aj a_1 b_2 (fun b0 b1=>fB b0 b1 Bc)=some r):FX 198 [.ow 1 (List.map eI aj),.im 2 false [I a_1],.im 2 false [I b_2],.im 2 false [.clo 125 [.cp [W 8 ai Bc] 0]]] ([],[.ow 1 (List.map eI r)]):=by
 unfold dV at h
 refine jP (A:=[(0,H 0 0),(1,D 2 (I a_1)),(2,D 2 (I b_2)),(3,D 2 (.clo 125 [.cp [W 8 ai Bc] 0]))]) (B:=[(0,Oe [Z (W 1 eI aj)]),(1,none),(2,none),(3,none)]) (nt:=53) rfl rfl Try.func198 rfl rfl rfl rfl ?_
 refine gs<|g0 j j (q (oMv j j)<|q (oBi j j j j)<|q (ae j j)<|nl)<|us<|Go.block<|?_
 obtain ⟨o,hl,h⟩:=bs h
 refine gl c198 j _ (fun (s:(Int×(List Int)))=>match s with | (DK,aQ)=>mk [(0,H 0 0),(1,iv a_1),(2,iv b_2),(3,D 2 (.clo 125 [.cp [W 8 ai Bc] 0])),(8,iv DK)] [(0,Oe [Z (W 1 eI aQ)])]) (fun (r2:(List Int)) (p:Ex×St)=>p.1= .exit 0∧fin Try.prog cfg 198 Try.f198 [.ow 1 (List.map eI aj),.im 2 false [I a_1],.im 2 false [I b_2],.im 2 false [.clo 125 [.cp [W 8 ai Bc] 0]]] p.2=some ([],[.ow 1 (List.map eI r2)])) hl (by kernel_rfl) ?_ ?_ ?_
 ·intro o p hp e
  exact nomatch (hp.1.symm.trans e)
 ·rintro ⟨DK,aQ⟩ o h
  unfold aX at h
  dsimp only at h
  refine gs<|gs<|g0 j j (q (oMv j j)<|q (oMv j j)<|q (oBi j j j j)<|nl)<|us<|gc h j af (fun Vu h=>?_) fun Vu h=>?_
  ·refine Go.skip<|us<|gs<|Go.block<|gs<|g0 j j (q (oMv j j)<|q (ae j j)<|nl)<|us<|Go.block<|?_
   obtain ⟨o,hl,h⟩:=bs h
   refine gl c198 j _ (fun (s:(Int×(List Int)))=>match s with | (uO,bP)=>mk [(0,H 0 0),(1,iv a_1),(2,iv b_2),(3,D 2 (.clo 125 [.cp [W 8 ai Bc] 0])),(8,iv DK),(9,iv uO)] [(0,Oe [Z (W 1 eI bP)])]) (fun (nR:(List Int)) (p:Ex×St)=>p.1= .exit 2∧p.2.norm ([0,1,2,3,8],[0])=mk [(0,H 0 0),(1,iv a_1),(2,iv b_2),(3,D 2 (.clo 125 [.cp [W 8 ai Bc] 0])),(8,iv DK)] [(0,Oe [Z (W 1 eI nR)])]) hl (by kernel_rfl) ?_ ?_ ?_
   ·intro o p hp e
    exact nomatch (hp.1.symm.trans e)
   ·rintro ⟨uO,bP⟩ o h
    unfold bM at h
    dsimp only at h
    refine gs<|gs<|?_
    obtain ⟨Rn,xM,h⟩:=bs h
    refine gd c198 j j j j (mk [(0,H 0 0),(1,iv a_1),(2,iv b_2),(3,D 2 (.clo 125 [.cp [W 8 ai Bc] 0])),(8,iv DK),(9,iv uO),(34,bv Rn)] [(0,Oe [Z (W 1 eI bP)])]) ?_ ?_
    ·refine t j j (oMv j j)<|t j j (oMv j j)<|t j j (oBi j j j j)<|t j j (oMv j j)<|?_
     refine ic xM (fun hc22 xM=>?_) fun hc22 xM=>?_
     ·obtain ⟨x25,hx25,xM⟩:=bs xM
      obtain ⟨x30,PG,xM⟩:=bs xM
      obtain ⟨x32,hx32,xM⟩:=bs xM
      cases xM
      exact tT j j j j (af.2 hc22) (oMv j j)<|tT j j j j (af.2 hc22) (oMv j j)<|tT j j j j (af.2 hc22) (oMv j j)<|tT j j j j (af.2 hc22) (bK j hx25 aU j j j j)<|tT j j j j (af.2 hc22) (fH (cs:=[.im 0 _]) j tF2 j j j j (aA hx25) j j)<|tT j j j j (af.2 hc22) (oMv j j)<|tT j j j j (af.2 hc22) (oMv j j)<|tT j j j j (af.2 hc22) (oBi j j j j)<|tT j j j j (af.2 hc22) (bK j PG aU j j j j)<|tT j j j j (af.2 hc22) (fH (cs:=[.im 0 _]) j tF2 j j j j (aA PG) j j)<|sS (dT z198 j j j (af.2 hc22) (oCa (xs:=[.v false [.im 0 _],.v false [.im 0 _],.v false [.im 2 _]]) (vs:=[(false,[.im 0 _])]) (v:=.v false [.im 0 _]) (wC hx32) (.inr ⟨_,_,j,j⟩) j DC j (ppC j (ppC j (ppC j pp0))) j j pb0 j j j)) trivial (tT j j j j (af.2 hc22) (oBi j j j j)<|t j j (bf j j (af.2 hc22) j)<|sD (by kernel_rfl))
     ·cases xM
      exact tF j j j j (byF af hc22) j<|tF j j j j (byF af hc22) j<|tF j j j j (byF af hc22) j<|tF j j j j (byF af hc22) j<|tF j j j j (byF af hc22) j<|tF j j j j (byF af hc22) j<|tF j j j j (byF af hc22) j<|tF j j j j (byF af hc22) j<|tF j j j j (byF af hc22) j<|tF j j j j (byF af hc22) j<|sS (dF j j j (byF af hc22) j) trivial (tF j j j j (byF af hc22) j<|t j j (bD j j (byF af hc22) j)<|sD (by kernel_rfl))
    ·refine us<|gc h j iR (fun FN h=>?_) fun FN h=>?_
     ·refine Go.skip<|us<|gs<|Go.block<|?_
      obtain ⟨x45,OC,h⟩:=bs h
      obtain ⟨x49,MG,h⟩:=bs h
      obtain ⟨x51,YF,h⟩:=bs h
      obtain ⟨x52,Ii,h⟩:=bs h
      refine gd c198 j j j j (mk [(0,H 0 0),(1,iv a_1),(2,iv b_2),(3,D 2 (.clo 125 [.cp [W 8 ai Bc] 0])),(8,iv DK),(9,iv uO)] [(0,Oe [Z (W 1 eI ((bP.set uO.toNat x45).set ((w64 (uO - 1)).toNat) x49))])]) (t j j (oMv j j)<|t j j (oMv j j)<|t j j (oMv j j)<|t j j (oMv j j)<|t j j (oBi j j j j)<|t j j (oMv j j)<|t j j (oMv j j)<|t j j (oBi j j j j)<|t j j (bK j OC aU j j j j)<|t j j (fH (cs:=[.im 0 _]) j tF2 j j j j (aA OC) j j)<|t j j (oMv j j)<|t j j (oMv j j)<|t j j (bK j MG aU j j j j)<|t j j (fH (cs:=[.im 0 _]) j tF2 j j j j (aA MG) j j)<|t j j (bK j YF aU j j j j)<|sS (dN z198 j (tN (v':=x45) tF2 j j j (fxI fx0) j j (aA YF) j)) trivial (t j j (bK j Ii aU j j j j)<|sS (dN z198 j (tN (v':=x49) tF2 j j j (fxI fx0) j j (aA Ii) j)) trivial (sD (by kernel_rfl))))<|Unw.blk<|us<|g0 j j (q (oMv j j)<|q (oBi j j j j)<|q (ae j j)<|nl)<|Unw.nil<|?_
      cases h
      exact ⟨j,(by kernel_rfl)⟩
     ·refine Go.exit<|ux<|Unw.nil<|?_
      cases h
      exact ⟨j,(by kernel_rfl)⟩
   ·rintro ⟨e,st⟩ hp
    obtain ⟨nR,rfl⟩:∃y,y=o:=⟨o,rfl⟩
    obtain ⟨he,hst⟩:=hp
    obtain rfl:e= .exit 2:=he
    refine Unw.jZ<|Unw.blk<|us<|g2 c198 j j hst (q (oMv j j)<|q (oBi j j j j)<|q (ae j j)<|nl)<|Unw.nil<|?_
    cases h
    exact ⟨j,(by kernel_rfl)⟩
  ·refine Go.exit<|ux<|Unw.nil<|?_
   cases h
   exact ⟨j,(fo age j)⟩
 ·rintro ⟨e,st⟩ hp
  obtain ⟨r2,rfl⟩:∃y,y=o:=⟨o,rfl⟩
  obtain ⟨he,hfin⟩:=hp
  obtain rfl:e= .exit 0:=he
  cases h
  exact Unw.jZ<|Unw.nil (uU hfin)
theorem jS {aj:(List Int)} {a_1:Int} {b_2:Int} {n_3:Int} {bZ:(List aH)} {r:(List Int)} (h:iG aj a_1 b_2 n_3 (fun b0 b1=>fB b0 b1 bZ)=some r):FX 212 [.ow 1 (List.map eI aj),.im 2 false [I a_1],.im 2 false [I b_2],.im 2 false [I n_3],.im 2 false [.clo 125 [.cp [W 8 ai bZ] 0]]] ([],[.ow 1 (List.map eI r)]):=by
 unfold iG at h
 refine jP (A:=[(0,H 0 0),(1,D 2 (I a_1)),(2,D 2 (I b_2)),(3,D 2 (I n_3)),(4,D 2 (.clo 125 [.cp [W 8 ai bZ] 0]))]) (B:=[(0,Oe [Z (W 1 eI aj)]),(1,none),(2,none),(3,none),(4,none)]) (nt:=38) rfl rfl Try.func212 rfl rfl rfl rfl ?_
 refine gs<|g0 j j (q (ae j j)<|nl)<|us<|Go.block<|?_
 obtain ⟨o,hl,h⟩:=bs h
 refine gl c212 j _ (fun (s:(Int×(List Int)))=>match s with | (sO,aQ)=>mk [(0,H 0 0),(1,iv a_1),(2,iv b_2),(3,iv n_3),(10,iv sO)] [(0,Oe [Z (W 1 eI aQ)])]) (fun (r2:(List Int)) (p:Ex×St)=>p.1= .exit 0∧fin Try.prog cfg 212 Try.f212 [.ow 1 (List.map eI aj),.im 2 false [I a_1],.im 2 false [I b_2],.im 2 false [I n_3],.im 2 false [.clo 125 [.cp [W 8 ai bZ] 0]]] p.2=some ([],[.ow 1 (List.map eI r2)])) hl (by kernel_rfl) ?_ ?_ ?_
 ·intro o p hp e
  exact nomatch (hp.1.symm.trans e)
 ·rintro ⟨sO,aQ⟩ o h
  unfold pX at h
  dsimp only at h
  refine gs<|gs<|g0 j j (q (oMv j j)<|q (oMv j j)<|q (oBi j j j j)<|nl)<|us<|gc h j af (fun hc3 h=>?_) fun hc3 h=>?_
  ·refine Go.skip<|us<|gs<|Go.block<|?_
   obtain ⟨x28,hx28,h⟩:=bs h
   obtain ⟨x34,hx34,h⟩:=bs h
   obtain ⟨x36,SH,h⟩:=bs h
   obtain ⟨x37,Lt,h⟩:=bs h
   refine gd c212 j j j j (mk [(0,H 0 0),(1,iv a_1),(2,iv b_2),(3,iv n_3),(10,iv sO)] [(0,Oe [Z (W 1 eI ((aQ.set ((w64 (a_1+sO)).toNat) x28).set ((w64 (b_2+sO)).toNat) x34))])]) (t j j (oMv j j)<|t j j (oMv j j)<|t j j (oMv j j)<|t j j (oBi j j j j)<|t j j (oMv j j)<|t j j (oMv j j)<|t j j (oMv j j)<|t j j (oBi j j j j)<|t j j (oMv j j)<|t j j (oMv j j)<|t j j (oMv j j)<|t j j (oBi j j j j)<|t j j (bK j hx28 aU j j j j)<|t j j (fH (cs:=[.im 0 _]) j tF2 j j j j (aA hx28) j j)<|t j j (oMv j j)<|t j j (oMv j j)<|t j j (oMv j j)<|t j j (oBi j j j j)<|t j j (bK j hx34 aU j j j j)<|t j j (fH (cs:=[.im 0 _]) j tF2 j j j j (aA hx34) j j)<|t j j (bK j SH aU j j j j)<|sS (dN z212 j (tN (v':=x28) tF2 j j j (fxI fx0) j j (aA SH) j)) trivial (t j j (bK j Lt aU j j j j)<|sS (dN z212 j (tN (v':=x34) tF2 j j j (fxI fx0) j j (aA Lt) j)) trivial (sD (by kernel_rfl))))<|Unw.blk<|us<|g0 j j (q (oMv j j)<|q (oBi j j j j)<|q (ae j j)<|nl)<|Unw.nil<|?_
   cases h
   exact ⟨j,(by kernel_rfl)⟩
  ·refine Go.exit<|ux<|Unw.nil<|?_
   cases h
   exact ⟨j,(fo agm j)⟩
 ·rintro ⟨e,st⟩ hp
  obtain ⟨r2,rfl⟩:∃y,y=o:=⟨o,rfl⟩
  obtain ⟨he,hfin⟩:=hp
  obtain rfl:e= .exit 0:=he
  cases h
  exact Unw.jZ<|Unw.nil (uU hfin)
end
end Go.Proofs.Ytdibfdcmbjaejaa
