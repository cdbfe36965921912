/- The machine answers, at each function of the program that is reached, what its plain function answers. Conditions: none. -/
import Derived.Test.YtngbehdgjocndaaGreatProg
import Derived.KernelRfl
import Derived.Test.YtngbehdgjocndaaGreatSimRq
import Derived.Test.YtngbehdgjocndaaGreatTofT
namespace Go.Proofs.YtngbehdgjocndaaGreat
open Go Go.Sim Go.Pw Go.Proofs
set_option linter.unusedVariables false
set_option linter.unusedSimpArgs false
set_option maxRecDepth 100000
set_option maxHeartbeats 4000000
noncomputable section
noncomputable abbrev aN (x:ae):List AV:=[I x.X,I x.Y]
noncomputable def af (x:ae):AV:= .agg (aN x)
noncomputable abbrev wO (x:bT):List AV:=[Y x.Name,W 1 eI x.Ring]
noncomputable def aQ (x:bT):AV:= .agg (wO x)
noncomputable abbrev au (x:aB):List AV:=[I x.Width,I x.Height,W 2 af x.bG,W 2 aQ x.aG]
noncomputable def Xz (x:aB):AV:= .agg (au x)
noncomputable abbrev kz (x:aI):List AV:=[Y x.jr,I x.iK,I x.Bl]
noncomputable def aK (x:aI):AV:= .agg (kz x)
noncomputable abbrev fB (x:dJ):List AV:=[I x.az.Width,I x.az.Height,W 2 af x.az.bG,W 2 aQ x.az.aG,W 3 aK x.dM]
noncomputable def XA (x:dJ):AV:= .agg (fB x)
noncomputable abbrev xe (x:dn):List AV:=[I x.X,I x.Y,I x.Width,I x.Length]
noncomputable def cu (x:dn):AV:= .agg (xe x)
noncomputable abbrev gu (x:bU):List AV:=[Y x.Id,Y x.lM,I x.Number,Y x.jL.jr,I x.jL.iK,I x.jL.Bl,I x.Width,I x.Length,W 4 cu x.fU]
noncomputable def aW (x:bU):AV:= .agg (gu x)
noncomputable abbrev dZ (x:ak):List AV:=[I x.nI,I x.OJ,I x.X,I x.Y,I x.Turn]
noncomputable def aj (x:ak):AV:= .agg (dZ x)
noncomputable abbrev qj (x:jv):List AV:=[I x.kD,I x.o8,I x.yg,I x.iK]
noncomputable def ab2 (x:jv):AV:= .agg (qj x)
noncomputable abbrev bI (x:fM):List AV:=[I x.aS.az.Width,I x.aS.az.Height,W 2 af x.aS.az.bG,W 2 aQ x.aS.az.aG,W 3 aK x.aS.dM,W 9 aW x.Leaves,W 5 aj x.bP,I x.yh.kD,I x.yh.o8,I x.yh.yg,I x.yh.iK,I x.jk,I x.Jb,I x.Ci,I x.Gap,W 1 eI x.Order,W 1 eI x.G6]
noncomputable def agG (x:fM):AV:= .agg (bI x)
noncomputable abbrev Ho (x:ai):List AV:=[I x.Kind,Y x.Who,Y x.What]
noncomputable def aA (x:ai):AV:= .agg (Ho x)
noncomputable abbrev jC (x:eG):List AV:=[W 1 (eL 1 eI) x.near,W 1 eB x.AU]
noncomputable abbrev zD (x:bW):List AV:=[I x.e0,I x.e1]
noncomputable def dB (x:bW):AV:= .agg (zD x)
noncomputable def fc5:bC:={par:=[.cst false],inn:=[(1,some ([1],[1])),(7,some ([1,4,5,6],[1,4,6])),(13,some ([1,4,5,6,7,8,9],[1,4,6,7])),(18,some ([1,4,5,7,10],[1,4,7]))],out:=[(8,some ([1,4,5,6,7,8,40],[1,4,6,7])),(10,some ([1,4,5,6,7,8,45],[1,4,6,7])),(14,some ([1,4,5,7,61],[1,4,7])),(25,some ([7,10,87],[7]))],aO:=[],frz:=[],sch:=[(10,.first 0 [3,4] [1,2]<| .first 1 [2,3,4] []<| .fork 2 (.fork 3 (.first 4 [] []<| .done) (.stop)) (.stop))],shut:=[13]}
noncomputable def fc6:bC:={par:=[.cst false,.cst false],inn:=[(1,some ([1,2],[2]))],out:=[],aO:=[],frz:=[],sch:=[],shut:=[]}
noncomputable def fc8:bC:={par:=[.cst false],inn:=[(1,some ([1,2],[1,2])),(2,some ([1,2,3],[1,2,3])),(3,some ([1,2,3],[1,2,3])),(4,some ([1,2,3],[1,2,3])),(5,some ([1,2,3],[1,2,3])),(6,some ([1,2,3],[1,2,3])),(7,some ([1,2,3],[1,2,3])),(8,some ([1,2,3],[1,2,3])),(9,some ([1,2,3],[1,2,3])),(10,some ([1,2,3],[1,2,3])),(11,some ([1,2,3],[1,2,3])),(12,some ([2,3],[2,3]))],out:=[],aO:=[],frz:=[],sch:=[],shut:=[]}
noncomputable def agH:bC:={par:=[.cst false,.cst false],inn:=[(8,some ([],[]))],out:=[(6,some ([0,1,5,26],[]))],aO:=[(4,([0,1,5],[]))],frz:=[],sch:=[(6,.first 0 [2,3,8,9] [1,4,5,6,7]<| .first 1 [2,3,8,9] [4,5,6,7]<| .first 2 [3,8,9] [4,5,6,7]<| .first 3 [8,9] [4,5,6,7]<| .first 4 [6,7,8,9] [5]<| .first 5 [6,7,8,9] []<| .first 6 [7,8,9] []<| .first 7 [8,9] []<| .fork 8 (.first 9 [] []<| .done) (.stop))],shut:=[]}
noncomputable def ajC:bC:={par:=[.cst false,.cst false],inn:=[(1,some ([2,3],[2,3]))],out:=[],aO:=[],frz:=[],sch:=[],shut:=[]}
noncomputable def ajD:bC:={par:=[.ws,.cst false],inn:=[(1,some ([1,2],[2]))],out:=[],aO:=[],frz:=[],sch:=[],shut:=[]}
noncomputable def agI:bC:={par:=[.row,.cst false],inn:=[(5,some ([0,1,5],[0])),(7,some ([0,1,5],[0])),(9,some ([0,1,5],[0])),(10,some ([1],[0]))],out:=[],aO:=[(2,([0,1,5],[0]))],frz:=[],sch:=[],shut:=[]}
noncomputable def agJ:bC:={par:=[.cst false,.cst false],inn:=[(13,some ([1],[]))],out:=[(7,some ([0,1,5,28],[])),(10,some ([0,1,5,38],[]))],aO:=[(2,([0,1,5],[]))],frz:=[],sch:=[(7,.first 0 [2,3,4,7] [1,5,6]<| .first 1 [2,3,4,7] [5,6]<| .first 2 [3,4,7] [5,6]<| .first 3 [4,7] [5,6]<| .first 4 [7] [5,6]<| .first 5 [6,7] []<| .fork 6 (.first 7 [] []<| .done) (.stop)),(10,.first 0 [2,3,4,7] [1,5,6]<| .first 1 [2,3,4,7] [5,6]<| .first 2 [3,4,7] [5,6]<| .first 3 [4,7] [5,6]<| .first 4 [7] [5,6]<| .first 5 [6,7] []<| .fork 6 (.first 7 [] []<| .done) (.stop))],shut:=[]}
noncomputable def ajE:bC:={par:=[.cst false],inn:=[(1,some ([1],[1]))],out:=[],aO:=[],frz:=[],sch:=[],shut:=[]}
noncomputable def ajF:bC:={par:=[.cst false],inn:=[(1,some ([1],[1]))],out:=[],aO:=[],frz:=[],sch:=[],shut:=[]}
noncomputable def ajG:bC:={par:=[.cst false,.cst false],inn:=[(1,some ([1,2],[2]))],out:=[],aO:=[],frz:=[],sch:=[],shut:=[]}
noncomputable def agK:bC:={par:=[.cst false,.cst false],inn:=[(10,some ([1],[]))],out:=[],aO:=[(5,([0,1,5],[]))],frz:=[],sch:=[],shut:=[]}
noncomputable def ajH:bC:={par:=[.cst false,.cst false],inn:=[],out:=[],aO:=[],frz:=[],sch:=[],shut:=[]}
noncomputable def ajI:bC:={par:=[.cst false,.cst false],inn:=[],out:=[],aO:=[],frz:=[],sch:=[],shut:=[]}
noncomputable def ajJ:bC:={par:=[.cut 17,.cst false],inn:=[],out:=[],aO:=[],frz:=[],sch:=[],shut:=[]}
noncomputable def ajK:bC:={par:=[.cst false],inn:=[(1,some ([1,2],[1,2])),(2,some ([1,2,3],[1,2,3])),(3,some ([1,2,3],[1,2,3])),(4,some ([2,3],[2,3]))],out:=[],aO:=[],frz:=[],sch:=[],shut:=[]}
noncomputable def agL:bC:={par:=[.cst false],inn:=[(4,some ([0,3,4],[3])),(6,some ([3],[3]))],out:=[],aO:=[(3,([0,3,4],[3]))],frz:=[],sch:=[],shut:=[]}
noncomputable def agM:bC:={par:=[.cst false],inn:=[(4,some ([0,3,4],[3])),(6,some ([3],[3]))],out:=[],aO:=[(3,([0,3,4],[3]))],frz:=[],sch:=[],shut:=[]}
noncomputable def ajL:bC:={par:=[.cst false],inn:=[(3,some ([1,2,3],[1,2,3])),(4,some ([1,2,3],[1,2,3])),(5,some ([1,2,3],[1,2,3])),(6,some ([2,3],[2,3]))],out:=[],aO:=[],frz:=[],sch:=[],shut:=[]}
noncomputable def agN:bC:={par:=[.cst false],inn:=[(4,some ([0,3,4],[3])),(6,some ([3],[3]))],out:=[],aO:=[(3,([0,3,4],[3]))],frz:=[],sch:=[],shut:=[]}
noncomputable def agO:bC:={par:=[.cst false],inn:=[(1,some ([1],[1]))],out:=[(1,some ([1,26],[1])),(5,some ([1,3,46],[1])),(7,some ([2],[]))],aO:=[],frz:=[],sch:=[],shut:=[]}
noncomputable def ajM:bC:={par:=[.cst false,.cst false],inn:=[],out:=[],aO:=[],frz:=[],sch:=[],shut:=[]}
noncomputable def ajN:bC:={par:=[.cst false,.cst false],inn:=[(1,some ([2,3],[2,3]))],out:=[],aO:=[],frz:=[],sch:=[],shut:=[]}
noncomputable def agP:bC:={par:=[.cst false,.cst false],inn:=[(8,some ([],[]))],out:=[(6,some ([0,1,5,26],[]))],aO:=[(4,([0,1,5],[]))],frz:=[],sch:=[(6,.first 0 [2,3,8,9] [1,4,5,6,7]<| .first 1 [2,3,8,9] [4,5,6,7]<| .first 2 [3,8,9] [4,5,6,7]<| .first 3 [8,9] [4,5,6,7]<| .first 4 [6,7,8,9] [5]<| .first 5 [6,7,8,9] []<| .first 6 [7,8,9] []<| .first 7 [8,9] []<| .fork 8 (.first 9 [] []<| .done) (.stop))],shut:=[]}
noncomputable def agQ:bC:={par:=[.cst false,.cst false],inn:=[(8,some ([],[]))],out:=[(6,some ([0,1,5,26],[]))],aO:=[(4,([0,1,5],[]))],frz:=[],sch:=[(6,.first 0 [2,3,8,9] [1,4,5,6,7]<| .first 1 [2,3,8,9] [4,5,6,7]<| .first 2 [3,8,9] [4,5,6,7]<| .first 3 [8,9] [4,5,6,7]<| .first 4 [6,7,8,9] [5]<| .first 5 [6,7,8,9] []<| .first 6 [7,8,9] []<| .first 7 [8,9] []<| .fork 8 (.first 9 [] []<| .done) (.stop))],shut:=[]}
noncomputable def ajO:bC:={par:=[.cst false,.cst false],inn:=[],out:=[],aO:=[],frz:=[],sch:=[],shut:=[]}
noncomputable def agR:bC:={par:=[.cst false,.cst false],inn:=[(8,some ([],[]))],out:=[(6,some ([0,1,5,25],[]))],aO:=[(4,([0,1,5],[]))],frz:=[],sch:=[(6,.first 0 [2,3,8] [1,4,5,6,7]<| .first 1 [2,3,8] [4,5,6,7]<| .first 2 [3,8] [4,5,6,7]<| .first 3 [8] [4,5,6,7]<| .first 4 [6,7,8] [5]<| .first 5 [6,7,8] []<| .first 6 [7,8] []<| .first 7 [8] []<| .first 8 [] []<| .done)],shut:=[]}
noncomputable def ajP:bC:={par:=[.ws,.cst false],inn:=[(1,some ([1,2],[2]))],out:=[],aO:=[],frz:=[],sch:=[],shut:=[]}
noncomputable def agS:bC:={par:=[.ws,.cst false],inn:=[(5,some ([0,1,5],[])),(7,some ([0,1,5],[])),(9,some ([0,1,5],[])),(11,some ([0,1,5],[])),(13,some ([0,1,5],[])),(15,some ([0,1,5],[])),(17,some ([0,1,5],[])),(19,some ([0,1,5],[])),(21,some ([1],[]))],out:=[],aO:=[(2,([0,1,5],[]))],frz:=[],sch:=[],shut:=[]}
noncomputable def agT:bC:={par:=[.row,.cst false],inn:=[(5,some ([0,1,5],[])),(7,some ([0,1,5],[])),(9,some ([0,1,5],[])),(11,some ([0,1,5],[])),(13,some ([0,1,5],[])),(14,some ([1],[]))],out:=[],aO:=[(2,([0,1,5],[]))],frz:=[],sch:=[],shut:=[]}
noncomputable def agU:bC:={par:=[.row,.cst false],inn:=[(5,some ([0,1,5],[])),(6,some ([1],[]))],out:=[],aO:=[(2,([0,1,5],[]))],frz:=[],sch:=[],shut:=[]}
noncomputable def agV:bC:={par:=[.cst false],inn:=[(7,some ([3],[]))],out:=[],aO:=[(4,([0,3],[]))],frz:=[],sch:=[],shut:=[]}
noncomputable def agW:bC:={par:=[.cst false],inn:=[(1,some ([1],[1])),(7,some ([1,3,4,5,8],[1,3])),(8,some ([1,3,4],[1,3])),(11,some ([1,3,9,10,44,45,46],[1,3,10])),(13,some ([1,3,44,45,46],[1,3])),(14,some ([3],[3]))],out:=[(1,some ([1,3,4],[1,3]))],aO:=[(9,([1,3,44,45,46],[1,3]))],frz:=[],sch:=[(1,.first 1 [2,3,4,6] [0,5]<| .first 2 [3,4,6] [0,5]<| .first 3 [4,6] [0,5]<| .first 4 [6] [0,5]<| .fork 0 (.fork 5 (.fork 6 (.done) (.stop)) (.stop)) (.stop))],shut:=[]}
noncomputable def ajQ:bC:={par:=[.cst false,.cst false],inn:=[],out:=[],aO:=[],frz:=[],sch:=[],shut:=[]}
noncomputable def agX:bC:={par:=[.cst false,.cst false],inn:=[(10,some ([1],[]))],out:=[],aO:=[(5,([0,1,5],[]))],frz:=[],sch:=[],shut:=[]}
noncomputable def ajR:bC:={par:=[.cst false,.cst false],inn:=[(1,some ([1,2],[2]))],out:=[],aO:=[],frz:=[],sch:=[],shut:=[]}
noncomputable def agY:bC:={par:=[.cut 17],inn:=[],out:=[(1,some ([0,41],[])),(3,some ([2],[]))],aO:=[],frz:=[],sch:=[(1,fR 3 0 39<| .fork 3 (fR 6 4 39<| .fork 10 (fR 7 11 39<| .fork 18 (fR 3 19 39<| .first 22 (rg [23,25,29,39]) [25,26,27,28]<| .first 23 (rg [24,25,29,39]) [25,26,27,28]<| .first 24 (rg [29,39]) [25,26,27,28]<|fR 4 25 39<| .fork 29 (fR 3 30 39<| .first 33 [34,35,36,37,38] []<| .first 34 [35,36,37,38] []<| .first 35 [36,37,38] []<| .fork 36 (.first 37 [38] []<| .first 38 [] []<| .done) (.stop)) (.stop)) (.stop)) (.stop)) (.stop)),(3,.first 0 (rg [1,4,8,35]) [4,5,6,7]<| .first 1 (rg [2,4,8,35]) [4,5,6,7]<| .first 2 (rg [3,4,8,35]) [4,5,6,7]<| .first 3 (rg [8,35]) [4,5,6,7]<|fR 4 4 35<| .fork 8 (fR 5 9 35<| .fork 14 (fR 6 15 35<| .fork 21 (fR 2 22 35<| .first 24 [25,26,27,32,33,34] [28,29,30,31]<| .first 25 [26,27,32,33,34] [28,29,30,31]<| .first 26 [27,32,33,34] [28,29,30,31]<| .first 27 [32,33,34] [28,29,30,31]<| .first 28 (rg [29,35]) []<| .first 29 [30,31,32,33,34] []<| .first 30 [31,32,33,34] []<| .first 31 [32,33,34] []<| .fork 32 (.first 33 [34] []<| .fork 34 (.done) (.stop)) (.stop)) (.stop)) (.stop)) (.stop))],shut:=[]}
noncomputable def agZ:bC:={par:=[.cut 17],inn:=[(5,some ([0,3,4,5],[3])),(7,some ([0,3],[3])),(9,some ([0,3,6],[3])),(12,some ([3],[3]))],out:=[(2,some ([0,3,4,5],[3]))],aO:=[(8,([0,3,6],[3]))],frz:=[],sch:=[(2,.first 0 (rg [1,5,9,15]) [5,6,7,8]<| .first 1 (rg [2,5,9,15]) [5,6,7,8]<| .first 2 (rg [3,5,9,15]) [5,6,7,8]<| .first 3 (rg [4,5,9,15]) [5,6,7,8]<| .first 5 (rg [6,15]) [4]<| .first 6 (rg [7,15]) [4]<| .first 7 (rg [8,15]) [4]<| .first 8 (rg [9,15]) [4]<| .fork 4 (.fork 9 (.first 10 [11,12,13,14] []<| .first 11 [13,14] [12]<| .first 12 [14] [13]<| .fork 13 (.fork 14 (.done) (.stop)) (.stop)) (.stop)) (.stop))],shut:=[]}
noncomputable def ajS:bC:={par:=[.cst false],inn:=[(3,some ([1,2,3],[1,2,3])),(4,some ([1,2,3],[1,2,3])),(5,some ([1,2,3],[1,2,3])),(6,some ([2,3],[2,3]))],out:=[],aO:=[],frz:=[],sch:=[],shut:=[]}
noncomputable def ag0:bC:={par:=[.cst false],inn:=[(4,some ([0,3,4],[3])),(6,some ([3],[3]))],out:=[],aO:=[(3,([0,3,4],[3]))],frz:=[],sch:=[],shut:=[]}
noncomputable def ajT:bC:={par:=[.cst false],inn:=[(1,some ([1,2],[1,2])),(2,some ([1,2,3],[1,2,3])),(3,some ([1,2,3],[1,2,3])),(4,some ([1,2,3],[1,2,3])),(5,some ([1,2,3],[1,2,3])),(6,some ([1,2,3],[1,2,3])),(7,some ([1,2,3],[1,2,3])),(8,some ([1,2,3],[1,2,3])),(9,some ([2,3],[2,3]))],out:=[],aO:=[],frz:=[],sch:=[],shut:=[]}
noncomputable def ajU:bC:={par:=[.cst false],inn:=[(1,some ([1,2],[1,2])),(2,some ([1,2,3],[1,2,3])),(3,some ([1,2,3],[1,2,3])),(4,some ([1,2,3],[1,2,3])),(5,some ([1,2,3],[1,2,3])),(6,some ([1,2,3],[1,2,3])),(7,some ([2,3],[2,3]))],out:=[],aO:=[],frz:=[],sch:=[],shut:=[]}
noncomputable def ag1:bC:={par:=[.cst false],inn:=[(1,some ([1],[1]))],out:=[(1,some ([2],[]))],aO:=[],frz:=[],sch:=[],shut:=[]}
noncomputable def ag2:bC:={par:=[.cst false],inn:=[(4,some ([0,3,4,5,6,7],[4])),(7,some ([0],[]))],out:=[(4,some ([0,5,6,7,29],[]))],aO:=[(2,([0,5,6,7],[]))],frz:=[],sch:=[(4,.first 0 (rg [1,18]) []<| .fork 1 (fR 5 2 18<| .first 7 [10,11,12,15,16,17] [8,9,13,14]<| .first 8 [9,10,11,12,15,16,17] [13,14]<| .first 9 [10,11,12,15,16,17] [13,14]<| .first 10 [11,12,15,16,17] [13,14]<| .first 11 [12,15,16,17] [13,14]<| .first 12 [15,16,17] [13,14]<| .first 13 [14,15,16,17] []<| .first 14 [15,16,17] []<| .first 15 [16,17] []<| .first 16 [17] []<| .first 17 [] []<| .done) (.stop))],shut:=[]}
noncomputable def ag3:bC:={par:=[.cst false],inn:=[(4,some ([0,3,4,5,6,7],[4])),(7,some ([0],[]))],out:=[(4,some ([0,5,6,7,29],[]))],aO:=[(2,([0,5,6,7],[]))],frz:=[],sch:=[(4,.first 0 (rg [1,18]) []<| .fork 1 (fR 5 2 18<| .first 7 [10,11,12,15,16,17] [8,9,13,14]<| .first 8 [9,10,11,12,15,16,17] [13,14]<| .first 9 [10,11,12,15,16,17] [13,14]<| .first 10 [11,12,15,16,17] [13,14]<| .first 11 [12,15,16,17] [13,14]<| .first 12 [15,16,17] [13,14]<| .first 13 [14,15,16,17] []<| .first 14 [15,16,17] []<| .first 15 [16,17] []<| .first 16 [17] []<| .first 17 [] []<| .done) (.stop))],shut:=[]}
noncomputable def ag4:bC:={par:=[.cst false],inn:=[],out:=[(1,some ([2],[]))],aO:=[],frz:=[],sch:=[],shut:=[]}
noncomputable def ag5:bC:={par:=[.cst false,.cst false,.cst false],inn:=[],out:=[(1,some ([6],[]))],aO:=[],frz:=[],sch:=[],shut:=[]}
noncomputable def ag6:bC:={par:=[.cst false,.cst false],inn:=[(7,some ([],[]))],out:=[(4,some ([0,1,7,8,9,25],[]))],aO:=[(2,([0,1,7,8,9],[]))],frz:=[],sch:=[],shut:=[]}
noncomputable def ajV:bC:={par:=[.cst false,.cst false],inn:=[],out:=[],aO:=[],frz:=[],sch:=[],shut:=[]}
noncomputable def ag7:bC:={par:=[.cst false,.cst false],inn:=[(8,some ([],[]))],out:=[(6,some ([0,1,5,26],[]))],aO:=[(4,([0,1,5],[]))],frz:=[],sch:=[(6,.first 0 [2,3,8,9] [1,4,5,6,7]<| .first 1 [2,3,8,9] [4,5,6,7]<| .first 2 [3,8,9] [4,5,6,7]<| .first 3 [8,9] [4,5,6,7]<| .first 4 [6,7,8,9] [5]<| .first 5 [6,7,8,9] []<| .first 6 [7,8,9] []<| .first 7 [8,9] []<| .fork 8 (.first 9 [] []<| .done) (.stop))],shut:=[]}
noncomputable def ajW:bC:={par:=[.cst false,.cst false],inn:=[(1,some ([2,3],[2,3]))],out:=[],aO:=[],frz:=[],sch:=[],shut:=[]}
noncomputable def ajX:bC:={par:=[.cst false,.cst false],inn:=[(1,some ([2,3],[2,3]))],out:=[],aO:=[],frz:=[],sch:=[],shut:=[]}
noncomputable def ajY:bC:={par:=[.ws,.cst false],inn:=[],out:=[],aO:=[],frz:=[],sch:=[],shut:=[]}
noncomputable def ag8:bC:={par:=[.row,.cst false],inn:=[(5,some ([0,1,5],[])),(7,some ([0,1,5],[])),(9,some ([0,1,5],[])),(10,some ([1],[]))],out:=[],aO:=[(2,([0,1,5],[]))],frz:=[],sch:=[],shut:=[]}
noncomputable def ag9:bC:={par:=[.row,.cst false],inn:=[(5,some ([0,1,5],[])),(7,some ([0,1,5],[])),(9,some ([0,1,5],[])),(11,some ([0,1,5],[])),(12,some ([1],[]))],out:=[],aO:=[(2,([0,1,5],[]))],frz:=[],sch:=[],shut:=[]}
noncomputable def aha:bC:={par:=[.cst false,.cst false],inn:=[(6,some ([1,7],[7])),(13,some ([],[]))],out:=[(9,some ([1,7,8,10,24,25,26],[7]))],aO:=[(7,([1,7,24,25,26],[7]))],frz:=[],sch:=[(9,.first 1 [3,5,6] [0,2,4]<| .first 2 [3,5,6] [0,4]<| .first 4 [5,6] [0,3]<| .first 0 [5,6] [3]<| .fork 3 (.fork 5 (.fork 6 (.done) (.stop)) (.stop)) (.stop))],shut:=[]}
noncomputable def ajZ:bC:={par:=[.cst false,.cst false],inn:=[],out:=[],aO:=[],frz:=[],sch:=[],shut:=[]}
noncomputable def aj0:bC:={par:=[.cst false,.cst false],inn:=[],out:=[],aO:=[],frz:=[],sch:=[],shut:=[]}
noncomputable def ahb:bC:={par:=[.cst false,.cst false],inn:=[(10,some ([1],[]))],out:=[],aO:=[(5,([0,1,5],[]))],frz:=[],sch:=[],shut:=[]}
noncomputable def aj1:bC:={par:=[.cst false,.cst false],inn:=[],out:=[],aO:=[],frz:=[],sch:=[],shut:=[]}
noncomputable def aj2:bC:={par:=[.cst false,.cst false],inn:=[],out:=[],aO:=[],frz:=[],sch:=[],shut:=[]}
noncomputable def ahc:bC:={par:=[.cut 5],inn:=[],out:=[(1,some ([2],[]))],aO:=[],frz:=[],sch:=[(1,fR 3 0 26<| .fork 3 (fR 5 4 26<| .fork 9 (fR 2 10 26<| .first 12 [13,14,15,16,23,24,25] (rg [17,23])<| .first 13 [14,15,16,23,24,25] (rg [17,23])<| .first 14 [15,16,23,24,25] (rg [17,23])<| .first 15 [16,23,24,25] (rg [17,23])<| .first 16 [23,24,25] (rg [17,23])<|fR 3 17 26<| .first 20 [21,22,23,24,25] []<| .first 21 [22,23,24,25] []<| .first 22 [23,24,25] []<| .first 23 [24,25] []<| .first 24 [25] []<| .fork 25 (.done) (.stop)) (.stop)) (.stop))],shut:=[]}
noncomputable def ahd:bC:={par:=[.cst false],inn:=[(6,some ([0],[]))],out:=[(4,some ([0,3,32],[]))],aO:=[(2,([0,3],[]))],frz:=[],sch:=[(4,.first 0 (rg [2,23]) [1]<|fR 2 1 23<| .fork 3 (fR 5 4 23<| .first 9 [12,13,14,20,21,22] [10,11,15,16,17,18,19]<| .first 10 [11,12,13,14,20,21,22] [15,16,17,18,19]<| .first 11 [12,13,14,20,21,22] [15,16,17,18,19]<| .first 12 [13,14,20,21,22] [15,16,17,18,19]<| .first 13 [14,20,21,22] [15,16,17,18,19]<| .first 14 [20,21,22] [15,16,17,18,19]<| .first 15 (rg [17,23]) [16]<| .first 16 (rg [17,23]) []<| .first 17 [18,19,20,21,22] []<| .first 18 [19,20,21,22] []<| .first 19 [20,21,22] []<| .first 20 [21,22] []<| .first 21 [22] []<| .first 22 [] []<| .done) (.stop))],shut:=[]}
noncomputable def ahe:bC:={par:=[.cst false],inn:=[(6,some ([0],[]))],out:=[(4,some ([0,3,32],[]))],aO:=[(2,([0,3],[]))],frz:=[],sch:=[(4,.first 0 (rg [2,23]) [1]<|fR 2 1 23<| .fork 3 (fR 5 4 23<| .first 9 [12,13,14,20,21,22] [10,11,15,16,17,18,19]<| .first 10 [11,12,13,14,20,21,22] [15,16,17,18,19]<| .first 11 [12,13,14,20,21,22] [15,16,17,18,19]<| .first 12 [13,14,20,21,22] [15,16,17,18,19]<| .first 13 [14,20,21,22] [15,16,17,18,19]<| .first 14 [20,21,22] [15,16,17,18,19]<| .first 15 (rg [17,23]) [16]<| .first 16 (rg [17,23]) []<| .first 17 [18,19,20,21,22] []<| .first 18 [19,20,21,22] []<| .first 19 [20,21,22] []<| .first 20 [21,22] []<| .first 21 [22] []<| .first 22 [] []<| .done) (.stop))],shut:=[]}
noncomputable def ahf:bC:={par:=[.cut 5,.cst false],inn:=[(6,some ([],[]))],out:=[(4,some ([0,1,5,21],[]))],aO:=[(2,([0,1,5],[]))],frz:=[],sch:=[(4,.first 0 [1,2,8,9] [3,4,5,6,7]<| .first 1 [2,8,9] [3,4,5,6,7]<| .first 2 [8,9] [3,4,5,6,7]<| .first 3 [5,6,7,8,9] [4]<| .first 4 [5,6,7,8,9] []<| .first 5 [6,7,8,9] []<| .first 6 [7,8,9] []<| .first 7 [8,9] []<| .fork 8 (.first 9 [] []<| .done) (.stop))],shut:=[]}
noncomputable def ahg:bC:={par:=[.cut 4],inn:=[],out:=[(1,some ([2],[]))],aO:=[],frz:=[],sch:=[],shut:=[]}
noncomputable def ahh:bC:={par:=[.cst false,.cst false],inn:=[],out:=[(1,some ([4],[]))],aO:=[],frz:=[],sch:=[],shut:=[]}
noncomputable def aj3:bC:={par:=[.cst false],inn:=[],out:=[],aO:=[],frz:=[],sch:=[],shut:=[]}
noncomputable def aj6:bC:={par:=[.cst false],inn:=[],out:=[],aO:=[],frz:=[],sch:=[],shut:=[]}
noncomputable def ahi:bC:={par:=[.cut 4,.cst false],inn:=[(6,some ([],[]))],out:=[(4,some ([0,1,5,28],[]))],aO:=[(2,([0,1,5],[]))],frz:=[],sch:=[(4,.first 0 (rg [5,17]) [1,2,3,4]<| .first 1 (rg [3,17]) [2]<|fR 3 2 17<| .fork 5 (fR 2 6 17<| .first 8 [10,15,16] [9,11,12,13,14]<| .first 9 [10,15,16] [11,12,13,14]<| .first 11 [13,14,15,16] [10,12]<| .first 12 [13,14,15,16] [10]<| .first 13 [14,15,16] [10]<| .first 14 [15,16] [10]<| .fork 10 (.fork 15 (.first 16 [] []<| .done) (.stop)) (.stop)) (.stop))],shut:=[]}
noncomputable def aj7:bC:={par:=[.cut 17,.cst false],inn:=[],out:=[],aO:=[],frz:=[],sch:=[],shut:=[]}
noncomputable def ahj:bC:={par:=[.cut 2,.cst false],inn:=[(7,some ([],[]))],out:=[(4,some ([0,1,6,7],[]))],aO:=[(2,([0,1,6],[]))],frz:=[],sch:=[(4,.first 0 [8,9] (rg [1,8])<| .first 1 [3,8,9] [2,4,5,6,7]<| .first 2 [3,8,9] [4,5,6,7]<| .first 4 [6,7,8,9] [3,5]<| .first 5 [6,7,8,9] [3]<| .first 6 [7,8,9] [3]<| .first 7 [8,9] [3]<| .fork 3 (.fork 8 (.fork 9 (.done) (.stop)) (.stop)) (.stop))],shut:=[]}
noncomputable def ahk:bC:={par:=[.cut 4],inn:=[(7,some ([3],[6]))],out:=[(5,some ([0,3,4],[6])),(6,some ([0,3,4],[6]))],aO:=[(3,([0,3,4],[6]))],frz:=[],sch:=[(5,.first 0 [10,11,12] (rg [1,10])<| .first 1 [2,3,4,9,10,11,12] [5,6,7,8]<| .first 5 (rg [7,13]) [2,3,4,6]<| .first 6 (rg [7,13]) [2,3,4]<| .first 2 [3,4,9,10,11,12] [7,8]<| .first 3 [4,9,10,11,12] [7,8]<| .first 4 [9,10,11,12] [7,8]<| .fork 7 (.fork 8 (.fork 9 (.first 10 [11,12] []<| .first 11 [12] []<| .fork 12 (.done) (.stop)) (.stop)) (.stop)) (.stop)),(6,.first 0 [10,11,12] (rg [1,10])<| .first 1 [2,3,4,9,10,11,12] [5,6,7,8]<| .first 5 (rg [7,13]) [2,3,4,6]<| .first 6 (rg [7,13]) [2,3,4]<| .first 2 [3,4,9,10,11,12] [7,8]<| .first 3 [4,9,10,11,12] [7,8]<| .first 4 [9,10,11,12] [7,8]<| .fork 7 (.fork 8 (.fork 9 (.first 10 [11,12] []<| .first 11 [12] []<| .fork 12 (.done) (.stop)) (.stop)) (.stop)) (.stop))],shut:=[]}
noncomputable def ahl:bC:={par:=[.cst false,.cst false],inn:=[(6,some ([],[]))],out:=[],aO:=[(2,([0,1,5],[]))],frz:=[],sch:=[],shut:=[]}
noncomputable def aae:bC:={par:=[.cst false],inn:=[(4,some ([0,3,4],[3])),(6,some ([3],[3]))],out:=[],aO:=[(3,([0,3,4],[3]))],frz:=[],sch:=[],shut:=[]}
noncomputable def aaf:bC:={par:=[.cst false],inn:=[(4,some ([0,3,4],[3])),(6,some ([3],[3]))],out:=[],aO:=[(3,([0,3,4],[3]))],frz:=[],sch:=[],shut:=[]}
noncomputable def ad6:bC:={par:=[.cst false],inn:=[(3,some ([1,2,3],[1,2,3])),(4,some ([1,2,3],[1,2,3])),(5,some ([2,3],[2,3]))],out:=[],aO:=[],frz:=[],sch:=[],shut:=[]}
noncomputable def aag:bC:={par:=[.cst false],inn:=[(4,some ([0,3,4],[3])),(6,some ([3],[3]))],out:=[],aO:=[(3,([0,3,4],[3]))],frz:=[],sch:=[],shut:=[]}
noncomputable def aah:bC:={par:=[.cst false],inn:=[(6,some ([1,3,4,32,33,34],[1,4])),(9,some ([1],[1])),(12,some ([1,5,6,63,64,65],[1,6])),(18,some ([],[]))],out:=[(1,some ([1,30],[1])),(6,some ([1,32,33,34,60],[1])),(12,some ([1,6,63,64,65,89],[1,6])),(15,some ([1,63,64,65,104],[1]))],aO:=[(4,([1,32,33,34],[1])),(10,([1,63,64,65],[1]))],frz:=[],sch:=[(6,.first 0 (rg [1,2,4,22]) [2,3]<| .first 1 (rg [4,22]) [2,3]<|fR 2 2 22<| .fork 4 (fR 2 5 22<| .first 7 (rg [8,9,11,22]) [9,10]<| .first 8 (rg [11,22]) [9,10]<|fR 2 9 22<| .fork 11 (fR 3 12 22<| .first 15 [16,18,20,21] [17,19]<| .first 16 [18,20,21] [17,19]<| .first 17 [18,20,21] [19]<| .first 19 [20,21] [18]<| .fork 18 (.fork 20 (.first 21 [] []<| .done) (.stop)) (.stop)) (.stop)) (.stop)),(12,fR 2 0 20<| .fork 2 (fR 5 3 20<| .first 8 [9,12,13,14,17,18,19] [10,11,15,16]<| .first 9 [12,13,14,17,18,19] [10,11,15,16]<| .first 10 [11,12,13,14,17,18,19] [15,16]<| .first 11 [12,13,14,17,18,19] [15,16]<| .first 12 [13,14,17,18,19] [15,16]<| .first 13 [14,17,18,19] [15,16]<| .first 14 [17,18,19] [15,16]<| .first 15 [16,17,18,19] []<| .first 16 [17,18,19] []<| .first 17 [18,19] []<| .first 18 [19] []<| .first 19 [] []<| .done) (.stop))],shut:=[]}
noncomputable def ad7:bC:={par:=[.cst false],inn:=[],out:=[],aO:=[],frz:=[],sch:=[],shut:=[]}
noncomputable def aai:bC:={par:=[.cst false],inn:=[(1,some ([1],[1]))],out:=[(1,some ([1,24],[1])),(3,some ([1,40],[1]))],aO:=[],frz:=[],sch:=[],shut:=[]}
noncomputable def aaj:bC:={par:=[.cst false],inn:=[(1,some ([1],[1]))],out:=[(1,some ([2],[]))],aO:=[],frz:=[],sch:=[],shut:=[]}
noncomputable def aak:bC:={par:=[.cst false,.cst false],inn:=[(8,some ([],[]))],out:=[(6,some ([0,1,5,26],[]))],aO:=[(4,([0,1,5],[]))],frz:=[],sch:=[(6,.first 0 [2,3,8,9] [1,4,5,6,7]<| .first 1 [2,3,8,9] [4,5,6,7]<| .first 2 [3,8,9] [4,5,6,7]<| .first 3 [8,9] [4,5,6,7]<| .first 4 [6,7,8,9] [5]<| .first 5 [6,7,8,9] []<| .first 6 [7,8,9] []<| .first 7 [8,9] []<| .fork 8 (.first 9 [] []<| .done) (.stop))],shut:=[]}
noncomputable def aal:bC:={par:=[.cst false,.cst false],inn:=[(8,some ([],[]))],out:=[(6,some ([0,1,5,26],[]))],aO:=[(4,([0,1,5],[]))],frz:=[],sch:=[(6,.first 0 [2,3,8,9] [1,4,5,6,7]<| .first 1 [2,3,8,9] [4,5,6,7]<| .first 2 [3,8,9] [4,5,6,7]<| .first 3 [8,9] [4,5,6,7]<| .first 4 [6,7,8,9] [5]<| .first 5 [6,7,8,9] []<| .first 6 [7,8,9] []<| .first 7 [8,9] []<| .fork 8 (.first 9 [] []<| .done) (.stop))],shut:=[]}
noncomputable def ad8:bC:={par:=[.cst false,.cst false],inn:=[],out:=[],aO:=[],frz:=[],sch:=[],shut:=[]}
noncomputable def aam:bC:={par:=[.cst false,.cst false],inn:=[(8,some ([],[]))],out:=[(6,some ([0,1,5,26],[]))],aO:=[(4,([0,1,5],[]))],frz:=[],sch:=[(6,.first 0 [2,3,8,9] [1,4,5,6,7]<| .first 1 [2,3,8,9] [4,5,6,7]<| .first 2 [3,8,9] [4,5,6,7]<| .first 3 [8,9] [4,5,6,7]<| .first 4 [6,7,8,9] [5]<| .first 5 [6,7,8,9] []<| .first 6 [7,8,9] []<| .first 7 [8,9] []<| .fork 8 (.first 9 [] []<| .done) (.stop))],shut:=[]}
noncomputable def aan:bC:={par:=[.row,.cst false],inn:=[(5,some ([0,1,5],[])),(7,some ([0,1,5],[])),(8,some ([1],[]))],out:=[],aO:=[(2,([0,1,5],[]))],frz:=[],sch:=[],shut:=[]}
noncomputable def aao:bC:={par:=[.ws,.cst false],inn:=[(5,some ([0,1,5],[])),(7,some ([1],[]))],out:=[],aO:=[(2,([0,1,5],[]))],frz:=[],sch:=[],shut:=[]}
noncomputable def aap:bC:={par:=[.cst false,.cst false],inn:=[],out:=[(1,some ([5],[5]))],aO:=[],frz:=[],sch:=[(1,.first 0 [1,8,9,10,11,12,13] [2,3,4,5,6,7]<| .first 1 (rg [8,14]) [2,3,4,5,6,7]<| .first 2 (rg [3,4,5,14]) [4]<| .first 3 (rg [5,14]) [4]<|fR 4 4 14<| .fork 8 (.first 9 [10,11,12,13] []<| .first 10 [12,13] [11]<| .first 11 [13] [12]<| .fork 12 (.fork 13 (.done) (.stop)) (.stop)) (.stop))],shut:=[]}
noncomputable def aaq:bC:={par:=[.cst false],inn:=[(5,some ([0,3,4,5,7,8,9],[5])),(6,some ([0,3,5,6,7,8,9],[5,6])),(8,some ([3],[]))],out:=[],aO:=[(3,([0,3,7,8,9],[]))],frz:=[],sch:=[],shut:=[]}
noncomputable def aar:bC:={par:=[.cst false],inn:=[(9,some ([1,2,3,4,5,6,7,18,19,25,26,27],[1,2,3,5,7])),(10,some ([1,2,3,4,5,7,8,18,19,25,26,27],[1,2,3,5,7,8])),(12,some ([1,2,3,4,5,18,19,25,26,27],[1,2,3,5])),(13,some ([1,2,3,18,19],[1,2,3])),(14,some ([2,3],[2,3]))],out:=[(1,some ([1,2,3],[1,2,3])),(10,some ([1,2,3,4,5,18,19,25,26,27,75],[1,2,3,5]))],aO:=[(3,([1,2,3,18,19],[1,2,3])),(7,([1,2,3,4,5,18,19,25,26,27],[1,2,3,5]))],frz:=[],sch:=[(1,.first 0 [1,6,8] [2,3,4,5,7]<| .first 2 [3,4,5,6,8] [1,7]<| .first 3 [4,5,6,8] [1,7]<| .first 4 [5,6,8] [1,7]<| .fork 1 (.fork 5 (.fork 6 (.fork 7 (.fork 8 (.done) (.stop)) (.stop)) (.fork 7 (.fork 6 (.fork 8 (.done) (.stop)) (.stop)) (.stop))) (.fork 7 (.fork 5 (.fork 6 (.fork 8 (.done) (.stop)) (.stop)) (.stop)) (.stop))) (.fork 5 (.fork 1 (.fork 6 (.fork 7 (.fork 8 (.done) (.stop)) (.stop)) (.fork 7 (.fork 6 (.fork 8 (.done) (.stop)) (.stop)) (.stop))) (.fork 7 (.fork 1 (.fork 6 (.fork 8 (.done) (.stop)) (.stop)) (.stop)) (.stop))) (.fork 7 (.fork 1 (.fork 5 (.fork 6 (.fork 8 (.done) (.stop)) (.stop)) (.stop)) (.fork 5 (.fork 1 (.fork 6 (.fork 8 (.done) (.stop)) (.stop)) (.stop)) (.stop))) (.stop))))],shut:=[]}
noncomputable def ad9:bC:={par:=[.cst false,.cst false,.cst false],inn:=[],out:=[],aO:=[],frz:=[],sch:=[],shut:=[]}
noncomputable def aas:bC:={par:=[.cst false,.cst false],inn:=[(7,some ([],[]))],out:=[],aO:=[(2,([0,1,7,8],[]))],frz:=[],sch:=[],shut:=[]}
noncomputable def aea:bC:={par:=[.cst false,.cst false],inn:=[],out:=[],aO:=[],frz:=[],sch:=[],shut:=[]}
noncomputable def aat:bC:={par:=[.cut 4],inn:=[(11,some ([],[]))],out:=[(1,some ([0,32],[])),(6,some ([0,3,75],[])),(9,some ([0,3,95],[]))],aO:=[(4,([0,3],[]))],frz:=[],sch:=[(6,.first 0 (rg [1,4,5,34]) [4]<| .first 1 (rg [2,4,5,34]) [4]<| .first 2 (rg [3,4,5,34]) [4]<| .first 3 (rg [5,34]) [4]<|fR 4 4 34<| .fork 8 (fR 5 9 34<| .first 14 [15,16,17,20,21,22,31,32,33] (rg [18,20,23,31])<| .first 15 [16,17,20,21,22,31,32,33] (rg [18,20,23,31])<| .first 16 [17,20,21,22,31,32,33] (rg [18,20,23,31])<| .first 17 [20,21,22,31,32,33] (rg [18,20,23,31])<| .first 18 [19,20,21,22,31,32,33] (rg [23,31])<| .first 19 [20,21,22,31,32,33] (rg [23,31])<| .first 20 [21,22,31,32,33] (rg [23,31])<| .first 21 [22,31,32,33] (rg [23,31])<| .first 22 [31,32,33] (rg [23,31])<| .first 23 (rg [24,27,28,34]) [27]<| .first 24 (rg [25,27,28,34]) [27]<| .first 25 [26,28,29,30,31,32,33] [27]<| .first 26 (rg [28,34]) [27]<| .first 27 (rg [28,34]) []<| .first 28 [29,30,31,32,33] []<| .first 29 [30,31,32,33] []<| .first 30 [31,32,33] []<| .first 31 [32,33] []<| .first 32 [33] []<| .first 33 [] []<| .done) (.stop))],shut:=[]}
noncomputable def aau:bC:={par:=[.cst false],inn:=[(6,some ([],[]))],out:=[],aO:=[(2,([0,3],[]))],frz:=[],sch:=[],shut:=[]}
noncomputable def aav:bC:={par:=[.cut 9],inn:=[(10,some ([],[]))],out:=[(1,some ([0,32],[])),(3,some ([0,54],[])),(8,some ([0,3,79],[]))],aO:=[(6,([0,3],[]))],frz:=[],sch:=[(8,.first 0 [1,2,3,5,14,15] (rg [4,5,6,14])<| .first 1 [2,3,5,14,15] (rg [4,5,6,14])<| .first 2 [3,5,14,15] (rg [4,5,6,14])<| .first 3 [5,14,15] (rg [4,5,6,14])<| .first 4 [5,14,15] (rg [6,14])<| .first 5 [14,15] (rg [6,14])<| .first 6 [7,8,9,14,15] [10,11,12,13]<| .first 7 [8,9,14,15] [10,11,12,13]<| .first 8 [9,14,15] [10,11,12,13]<| .first 9 [14,15] [10,11,12,13]<| .first 10 [11,12,13,14,15] []<| .first 11 [12,13,14,15] []<| .first 12 [13,14,15] []<| .first 13 [14,15] []<| .fork 14 (.first 15 [] []<| .done) (.stop))],shut:=[]}
noncomputable def aaw:bC:={par:=[.cut 5],inn:=[],out:=[(1,some ([2],[]))],aO:=[],frz:=[],sch:=[],shut:=[]}
noncomputable def aeb:bC:={par:=[.cut 4,.cst false],inn:=[],out:=[],aO:=[],frz:=[],sch:=[],shut:=[]}
noncomputable def aax:bC:={par:=[.cst false,.cst false,.cst false],inn:=[],out:=[(1,some ([6],[]))],aO:=[],frz:=[],sch:=[],shut:=[]}
noncomputable def aec:bC:={par:=[.cut 4,.cst false],inn:=[],out:=[],aO:=[],frz:=[],sch:=[],shut:=[]}
noncomputable def aay:bC:={par:=[.cst false],inn:=[(6,some ([0,3,4,5],[5])),(7,some ([3],[]))],out:=[(6,some ([0,3,4],[]))],aO:=[(3,([0,3,4],[]))],frz:=[],sch:=[(6,.first 0 [18,19] (rg [1,18])<| .first 1 [3,4,5,8,17,18,19] (rg [2,3,6,8,9,17])<| .first 2 [3,4,5,8,17,18,19] (rg [6,8,9,17])<| .first 3 [4,5,8,17,18,19] (rg [6,8,9,17])<| .first 4 [5,8,17,18,19] (rg [6,8,9,17])<| .first 5 [8,17,18,19] (rg [6,8,9,17])<| .first 6 [7,8,17,18,19] (rg [9,17])<| .first 7 [8,17,18,19] (rg [9,17])<| .first 8 [17,18,19] (rg [9,17])<| .first 9 [11,12,13,16,17,18,19] [10,14,15]<| .first 10 [11,12,13,16,17,18,19] [14,15]<| .first 11 [12,13,16,17,18,19] [14,15]<| .first 12 [13,16,17,18,19] [14,15]<| .first 13 [16,17,18,19] [14,15]<| .first 14 [15,16,17,18,19] []<| .first 15 [16,17,18,19] []<| .first 16 [17,18,19] []<| .first 17 [18,19] []<| .first 18 [19] []<| .fork 19 (.done) (.stop))],shut:=[]}
noncomputable def aed:bC:={par:=[.cut 2,.cst false,.cst false],inn:=[],out:=[],aO:=[],frz:=[],sch:=[],shut:=[]}
noncomputable def aaz:bC:={par:=[.cut 4,.cst false],inn:=[(5,some ([0,1,5,6,7],[5])),(11,some ([0,1,5,6,7,8],[5])),(13,some ([5],[5]))],out:=[(10,some ([0,1,5,6,7,8,9],[5])),(11,some ([0,1,5,6,7,63],[5]))],aO:=[(4,([0,1,5,6,7],[5])),(8,([0,1,5,6,7,8,9],[5]))],frz:=[],sch:=[(10,fR 2 0 25<| .first 2 [3,4,5,7,8,9,22,23,24] (rg [6,7,10,22])<| .first 3 [4,5,7,8,9,22,23,24] (rg [6,7,10,22])<| .first 4 [5,7,8,9,22,23,24] (rg [6,7,10,22])<| .first 5 [7,8,9,22,23,24] (rg [6,7,10,22])<| .first 6 [7,8,9,22,23,24] (rg [10,22])<| .first 7 [8,9,22,23,24] (rg [10,22])<| .first 8 [9,22,23,24] (rg [10,22])<| .first 9 [22,23,24] (rg [10,22])<| .first 10 [12,13,22,23,24] (rg [11,12,14,22])<| .first 11 [12,13,22,23,24] (rg [14,22])<| .first 12 [13,22,23,24] (rg [14,22])<| .first 13 [22,23,24] (rg [14,22])<| .first 14 [20,21,22,23,24] [15,16,17,18,19]<| .first 15 [16,19,20,21,22,23,24] [17,18]<| .first 16 (rg [19,25]) [17,18]<|fR 2 17 25<| .first 19 [20,21,22,23,24] []<| .first 20 [21,22,23,24] []<| .first 21 [22,23,24] []<| .fork 22 (.first 23 [24] []<| .fork 24 (.done) (.stop)) (.stop))],shut:=[]}
noncomputable def aaA:bC:={par:=[.cut 4,.cst false],inn:=[(7,some ([],[]))],out:=[(5,some ([0,5,6,29],[5]))],aO:=[(3,([0,5,6],[5]))],frz:=[],sch:=[(5,.first 0 [13] (rg [1,13])<| .first 1 [3,4,13] (rg [2,3,5,13])<| .first 2 [3,4,13] (rg [5,13])<| .first 3 [4,13] (rg [5,13])<| .first 4 [13] (rg [5,13])<| .first 5 [11,12,13] [6,7,8,9,10]<| .first 6 [7,10,11,12,13] [8,9]<| .first 7 [10,11,12,13] [8,9]<| .first 8 [9,10,11,12,13] []<| .first 9 [10,11,12,13] []<| .first 10 [11,12,13] []<| .first 11 [12,13] []<| .first 12 [13] []<| .fork 13 (.done) (.stop))],shut:=[]}
noncomputable def aee:bC:={par:=[.cst false],inn:=[(3,some ([1,2,3],[1,2,3])),(4,some ([2,3],[2,3]))],out:=[],aO:=[],frz:=[],sch:=[],shut:=[]}
noncomputable def aef:bC:={par:=[.cst false],inn:=[(3,some ([1,2,3],[1,2,3])),(4,some ([2,3],[2,3]))],out:=[],aO:=[],frz:=[],sch:=[],shut:=[]}
noncomputable def aeg:bC:={par:=[.cst false],inn:=[(3,some ([1,2,3],[1,2,3])),(4,some ([1,2,3],[1,2,3])),(5,some ([1,2,3],[1,2,3])),(6,some ([2,3],[2,3]))],out:=[],aO:=[],frz:=[],sch:=[],shut:=[]}
noncomputable def aeh:bC:={par:=[.cst false,.cst false],inn:=[],out:=[],aO:=[],frz:=[],sch:=[],shut:=[]}
noncomputable def aaB:bC:={par:=[.cst false],inn:=[(8,some ([],[]))],out:=[(1,some ([0,21],[])),(6,some ([0,3,49],[]))],aO:=[(4,([0,3],[]))],frz:=[],sch:=[],shut:=[]}
noncomputable def aaC:bC:={par:=[.cst false,.cst false],inn:=[(9,some ([6],[6]))],out:=[],aO:=[(3,([0,6,10,11,12],[6]))],frz:=[],sch:=[],shut:=[]}
noncomputable def aaD:bC:={par:=[.cst false],inn:=[(15,some ([0,3,23,24],[])),(16,some ([0],[]))],out:=[(2,some ([0,3,21],[])),(7,some ([0,3,4,5,6,7,23,24],[5,6,7])),(8,some ([0,3,4,5,6,23,24,59],[5,6])),(13,some ([0,3,4,5,6,8,23,24,88],[5,6]))],aO:=[(5,([0,3,23,24],[])),(11,([0,3,4,5,6,8,23,24],[5,6]))],frz:=[],sch:=[(7,.first 0 [2,3,21,22,23] (rg [1,2,4,21])<| .first 1 [2,3,21,22,23] (rg [4,21])<| .first 2 [3,21,22,23] (rg [4,21])<| .first 3 [21,22,23] (rg [4,21])<| .first 4 [9,10,22,23] (rg [5,9,11,22])<| .first 5 [6,8,9,10,22,23] (rg [7,8,11,22])<| .first 6 [8,9,10,22,23] (rg [7,8,11,22])<| .first 7 [8,9,10,22,23] (rg [11,22])<| .first 8 [9,10,22,23] (rg [11,22])<| .first 9 [10,22,23] (rg [11,22])<| .first 10 [22,23] (rg [11,22])<| .first 11 [16,17,23] (rg [12,16,18,23])<| .first 12 [13,15,16,17,23] [14,18,19,20,21,22]<| .first 13 [15,16,17,23] [14,18,19,20,21,22]<| .first 14 [15,16,17,23] [18,19,20,21,22]<| .first 15 [16,17,23] [18,19,20,21,22]<| .first 16 [17,23] [18,19,20,21,22]<| .first 17 [23] [18,19,20,21,22]<| .fork 18 (.fork 19 (.fork 20 (.fork 21 (.fork 22 (.fork 23 (.done) (.stop)) (.stop)) (.stop)) (.stop)) (.fork 20 (.fork 19 (.fork 21 (.fork 22 (.fork 23 (.done) (.stop)) (.stop)) (.stop)) (.stop)) (.stop))) (.fork 19 (.fork 18 (.fork 20 (.fork 21 (.fork 22 (.fork 23 (.done) (.stop)) (.stop)) (.stop)) (.stop)) (.fork 20 (.fork 18 (.fork 21 (.fork 22 (.fork 23 (.done) (.stop)) (.stop)) (.stop)) (.stop)) (.stop))) (.fork 20 (.fork 18 (.fork 19 (.fork 21 (.fork 22 (.fork 23 (.done) (.stop)) (.stop)) (.stop)) (.stop)) (.fork 19 (.fork 18 (.fork 21 (.fork 22 (.fork 23 (.done) (.stop)) (.stop)) (.stop)) (.stop)) (.stop))) (.stop)))),(13,.first 0 (rg [1,2,3,4,5,22]) [2,4]<| .first 1 (rg [3,4,5,22]) [2,4]<| .first 2 (rg [3,4,5,22]) [4]<| .first 3 (rg [5,22]) [4]<|fR 3 4 22<| .first 7 [20,21] (rg [8,20])<| .first 8 [20,21] (rg [9,20])<| .first 9 [11,12,20,21] (rg [10,11,13,20])<| .first 10 [11,12,20,21] (rg [13,20])<| .first 11 [12,20,21] (rg [13,20])<| .first 12 [20,21] (rg [13,20])<| .first 13 [18,19,20,21] [14,15,16,17]<| .first 14 [15,17,18,19,20,21] [16]<| .first 15 [17,18,19,20,21] [16]<| .first 16 [17,18,19,20,21] []<| .first 17 [18,19,20,21] []<| .first 18 [19,20,21] []<| .first 19 [20,21] []<| .fork 20 (.first 21 [] []<| .done) (.stop))],shut:=[]}
noncomputable def aei:bC:={par:=[.cst false,.cst false],inn:=[],out:=[],aO:=[],frz:=[],sch:=[],shut:=[]}
noncomputable def aej:bC:={par:=[.cst false],inn:=[],out:=[],aO:=[],frz:=[],sch:=[],shut:=[]}
noncomputable def aaE:bC:={par:=[.cst false],inn:=[],out:=[(2,some ([2],[]))],aO:=[],frz:=[],sch:=[],shut:=[]}
noncomputable def aek:bC:={par:=[.cst false,.cst false],inn:=[],out:=[],aO:=[],frz:=[],sch:=[],shut:=[]}
noncomputable def ael:bC:={par:=[.cst false],inn:=[],out:=[],aO:=[],frz:=[],sch:=[],shut:=[]}
noncomputable def aaF:bC:={par:=[.cst false,.cst false,.cst false],inn:=[],out:=[(1,some ([6],[]))],aO:=[],frz:=[],sch:=[],shut:=[]}
noncomputable def aem:bC:={par:=[.cst false,.cst false],inn:=[],out:=[],aO:=[],frz:=[],sch:=[],shut:=[]}
noncomputable def aen:bC:={par:=[.cst false,.cst false],inn:=[],out:=[],aO:=[],frz:=[],sch:=[],shut:=[]}
noncomputable def aeo:bC:={par:=[.cst false,.cst false],inn:=[],out:=[],aO:=[],frz:=[],sch:=[],shut:=[]}
noncomputable def aaG:bC:={par:=[.cst false],inn:=[(2,some ([1,3],[1,3])),(5,some ([3,5,11,12,13],[3,5])),(7,some ([3],[3])),(14,some ([3,6,7,8,28,29,33,34],[3,6,8])),(16,some ([3,6,7,28,29,33,34],[3,6])),(17,some ([3,6,28,29],[3,6])),(18,some ([6],[6]))],out:=[(5,some ([3,11,12,13],[3])),(14,some ([3,6,7,8,28,29,33,34,47],[3,6,8])),(15,some ([3,6,7,28,29,33,34],[3,6]))],aO:=[(3,([3,11,12,13],[3])),(9,([3,6,28,29],[3,6])),(12,([3,6,7,28,29,33,34],[3,6]))],frz:=[2],sch:=[(5,.first 1 [2,3,4,5,6] [0]<| .first 2 [3,4,5,6] [0]<| .first 0 [5,6] [3,4]<| .fork 3 (.fork 4 (.fork 5 (.fork 6 (.done) (.stop)) (.stop)) (.stop)) (.stop)),(15,.first 0 [9,10] (rg [1,9])<| .first 1 [9,10] (rg [2,9])<| .first 2 [4,5,8,9,10] [3,6,7]<| .first 3 [4,5,8,9,10] [6,7]<| .first 6 [7,8,9,10] [4,5]<| .first 4 [5,8,9,10] [7]<| .first 5 [8,9,10] [7]<| .fork 7 (.fork 8 (.first 9 [10] []<| .fork 10 (.done) (.stop)) (.stop)) (.stop))],shut:=[]}
noncomputable def aaH:bC:={par:=[.cst false,.cst false,.cst false],inn:=[],out:=[(1,some ([6],[]))],aO:=[],frz:=[],sch:=[],shut:=[]}
noncomputable def aaI:bC:={par:=[.cst false,.cst false,.cst false],inn:=[],out:=[(1,some ([6],[]))],aO:=[],frz:=[],sch:=[],shut:=[]}
noncomputable def aaJ:bC:={par:=[.cut 4],inn:=[(5,some ([0,3],[])),(13,some ([],[]))],out:=[(6,some ([0,3,49],[])),(11,some ([0,3,4,69],[]))],aO:=[(4,([0,3],[])),(9,([0,3,4],[]))],frz:=[],sch:=[(6,.first 0 (rg [1,4,5,8,12,30]) [4,8,9,10,11]<| .first 1 (rg [2,4,5,8,12,30]) [4,8,9,10,11]<| .first 2 (rg [3,4,5,8,12,30]) [4,8,9,10,11]<| .first 3 (rg [5,8,12,30]) [4,8,9,10,11]<| .first 4 (rg [5,8,12,30]) [8,9,10,11]<| .first 5 (rg [6,8,12,30]) [8,9,10,11]<| .first 6 (rg [7,8,12,30]) [8,9,10,11]<| .first 7 (rg [12,30]) [8,9,10,11]<|fR 4 8 30<| .fork 12 (fR 2 13 30<| .first 15 [16,17,18,20,21,22,27,28,29] [19,23,24,25,26]<| .first 16 [17,18,20,21,22,27,28,29] [19,23,24,25,26]<| .first 17 [18,20,21,22,27,28,29] [19,23,24,25,26]<| .first 18 [20,21,22,27,28,29] [19,23,24,25,26]<| .first 19 [20,21,22,27,28,29] [23,24,25,26]<| .first 20 [21,22,27,28,29] [23,24,25,26]<| .first 21 [22,27,28,29] [23,24,25,26]<| .first 22 [27,28,29] [23,24,25,26]<| .first 23 (rg [24,30]) []<| .first 24 [25,26,27,28,29] []<| .first 25 [26,27,28,29] []<| .first 26 [27,28,29] []<| .fork 27 (.first 28 [29] []<| .first 29 [] []<| .done) (.stop)) (.stop)),(11,.first 0 [1,2,3,5,6,14] (rg [4,5,7,14])<| .first 1 [2,3,5,6,14] (rg [4,5,7,14])<| .first 2 [3,5,6,14] (rg [4,5,7,14])<| .first 3 [5,6,14] (rg [4,5,7,14])<| .first 4 [5,6,14] (rg [7,14])<| .first 5 [6,14] (rg [7,14])<| .first 6 [14] (rg [7,14])<| .first 7 [8,9,10,12,13,14] [11]<| .first 8 [9,10,12,13,14] [11]<| .first 9 [10,12,13,14] [11]<| .first 10 [12,13,14] [11]<| .first 11 [12,13,14] []<| .first 12 [13,14] []<| .first 13 [14] []<| .first 14 [] []<| .done)],shut:=[]}
noncomputable def aaK:bC:={par:=[.cst false],inn:=[(8,some ([],[]))],out:=[(1,some ([0,16],[])),(6,some ([0,3,34],[]))],aO:=[(4,([0,3],[]))],frz:=[],sch:=[],shut:=[]}
noncomputable def aaL:bC:={par:=[.cut 4,.cst false],inn:=[(8,some ([6],[6]))],out:=[(5,some ([0,1,6,7,26],[6])),(7,some ([0,1,6,7],[6]))],aO:=[(3,([0,1,6,7],[6]))],frz:=[],sch:=[(5,.first 0 [2,3,10,11] [1,4,5,6,7,8,9]<| .first 1 [2,3,10,11] [4,5,6,7,8,9]<| .first 2 [3,10,11] [4,5,6,7,8,9]<| .first 3 [10,11] [4,5,6,7,8,9]<| .first 4 (rg [5,12]) []<| .first 5 [6,7,8,9,10,11] []<| .first 6 [7,8,9,10,11] []<| .first 7 [8,9,10,11] []<| .first 8 [9,10,11] []<| .first 9 [10,11] []<| .fork 10 (.first 11 [] []<| .done) (.stop)),(7,.first 0 [12,13] (rg [1,12])<| .first 1 (rg [2,5,9,14]) [5,6,7,8]<| .first 2 [3,4,9,10,11,12,13] [5,6,7,8]<| .first 3 [4,9,10,11,12,13] [5,6,7,8]<| .first 4 [9,10,11,12,13] [5,6,7,8]<| .first 5 (rg [7,14]) [6]<|fR 2 6 14<| .first 8 [9,10,11,12,13] []<| .first 9 [10,11,12,13] []<| .first 10 [11,12,13] []<| .fork 11 (.fork 12 (.fork 13 (.done) (.stop)) (.stop)) (.stop))],shut:=[]}
noncomputable def aaM:bC:={par:=[.cst false],inn:=[(9,some ([0,3],[])),(11,some ([0,3,5],[])),(13,some ([0,3,5,6],[6])),(14,some ([0,3,5,6,7],[6,7])),(15,some ([0,3,5,6,7,8],[6,7,8])),(22,some ([0],[]))],out:=[(2,some ([0,3,17],[])),(15,some ([0,3,5,6,7,66],[6,7])),(20,some ([0,3,5,6,7,9,95],[6,7]))],aO:=[(5,([0,3,4],[])),(10,([0,3,5],[])),(18,([0,3,5,6,7,9],[6,7]))],frz:=[],sch:=[(20,.first 0 (rg [1,2,3,4,5,22]) [2,4]<| .first 1 (rg [3,4,5,22]) [2,4]<| .first 2 (rg [3,4,5,22]) [4]<| .first 3 (rg [5,22]) [4]<|fR 3 4 22<| .first 7 [20,21] (rg [8,20])<| .first 8 [20,21] (rg [9,20])<| .first 9 [11,12,20,21] (rg [10,11,13,20])<| .first 10 [11,12,20,21] (rg [13,20])<| .first 11 [12,20,21] (rg [13,20])<| .first 12 [20,21] (rg [13,20])<| .first 13 [18,19,20,21] [14,15,16,17]<| .first 14 [15,17,18,19,20,21] [16]<| .first 15 [17,18,19,20,21] [16]<| .first 16 [17,18,19,20,21] []<| .first 17 [18,19,20,21] []<| .first 18 [19,20,21] []<| .first 19 [20,21] []<| .fork 20 (.first 21 [] []<| .done) (.stop))],shut:=[]}
noncomputable def aaN:bC:={par:=[.cut 3],inn:=[],out:=[(2,some ([0,3,19],[])),(5,some ([2],[]))],aO:=[],frz:=[],sch:=[],shut:=[]}
noncomputable def aaO:bC:={par:=[.cut 4,.cst false,.cst false],inn:=[],out:=[(1,some ([6],[]))],aO:=[],frz:=[],sch:=[(1,.first 0 (rg [1,4,5,41]) [4]<| .first 1 (rg [2,4,5,41]) [4]<| .first 2 (rg [3,4,5,41]) [4]<| .first 3 (rg [5,41]) [4]<| .first 4 (rg [5,41]) []<| .fork 5 (.first 6 (rg [7,41]) []<| .first 7 (rg [8,11,12,41]) [11]<| .first 8 (rg [9,11,12,41]) [11]<| .first 9 (rg [10,11,12,41]) [11]<| .first 10 (rg [12,41]) [11]<| .first 11 (rg [12,41]) []<| .fork 12 (fR 2 13 41<| .first 15 (rg [16,19,25,41]) (rg [19,25])<| .first 16 (rg [17,19,25,41]) (rg [19,25])<| .first 17 (rg [18,19,25,41]) (rg [19,25])<| .first 18 (rg [25,41]) (rg [19,25])<| .first 19 (rg [24,41]) [20,21,22,23]<|fR 5 20 41<| .fork 25 (fR 2 26 41<| .first 28 [29,30,31,38,39,40] (rg [32,38])<| .first 29 [30,31,38,39,40] (rg [32,38])<| .first 30 [31,38,39,40] (rg [32,38])<| .first 31 [38,39,40] (rg [32,38])<| .first 32 [37,38,39,40] [33,34,35,36]<|fR 2 33 41<| .first 35 [36,37,38,39,40] []<| .first 36 [37,38,39,40] []<| .first 37 [38,39,40] []<| .fork 38 (.first 39 [40] []<| .fork 40 (.done) (.stop)) (.stop)) (.stop)) (.stop)) (.stop))],shut:=[]}
noncomputable def aep:bC:={par:=[.cst false],inn:=[],out:=[],aO:=[],frz:=[],sch:=[],shut:=[]}
noncomputable def aeq:bC:={par:=[.cst false,.cst false],inn:=[],out:=[],aO:=[],frz:=[],sch:=[],shut:=[]}
noncomputable def aer:bC:={par:=[.cst false,.cst false],inn:=[],out:=[],aO:=[],frz:=[],sch:=[],shut:=[]}
noncomputable def aaP:bC:={par:=[.cut 2,.cst false,.cst false],inn:=[(8,some ([],[]))],out:=[],aO:=[(4,([0,1,2,7],[]))],frz:=[],sch:=[],shut:=[]}
noncomputable def aaQ:bC:={par:=[.cut 2,.cst false,.cst false],inn:=[(8,some ([],[]))],out:=[],aO:=[(4,([0,1,2,7],[]))],frz:=[],sch:=[],shut:=[]}
noncomputable def aaR:bC:={par:=[.cst false,.cst false,.cst false],inn:=[(8,some ([],[]))],out:=[(6,some ([0,1,2,7,45],[]))],aO:=[(2,([0,1,2,7],[]))],frz:=[],sch:=[],shut:=[]}
noncomputable def aaS:bC:={par:=[.cut 4,.cst false,.cst false],inn:=[],out:=[(1,some ([6],[]))],aO:=[],frz:=[],sch:=[(1,.first 0 (rg [1,2,4,41]) [2,3]<| .first 1 (rg [4,41]) [2,3]<|fR 8 2 41<| .first 10 (rg [11,12,16,41]) [12,13,14,15]<| .first 11 (rg [16,41]) [12,13,14,15]<|fR 8 12 41<| .first 20 (rg [21,22,24,41]) [22,23]<| .first 21 (rg [24,41]) [22,23]<|fR 8 22 41<| .first 30 [31,36,37,38,39,40] [32,33,34,35]<| .first 31 [36,37,38,39,40] [32,33,34,35]<|fR 3 32 41<| .first 35 [36,37,38,39,40] []<| .first 36 [37,38,39,40] []<| .first 37 [38,39,40] []<| .first 38 [39,40] []<| .first 39 [40] []<| .fork 40 (.done) (.stop))],shut:=[]}
noncomputable def aaT:bC:={par:=[.cst false,.cst false],inn:=[(7,some ([],[]))],out:=[(4,some ([0,3,5,7,8,16],[3]))],aO:=[(2,([0,3,7,8],[3]))],frz:=[],sch:=[(4,.first 0 [5] [1,2,3,4]<| .first 1 [3,4,5] [2]<| .first 2 [3,4,5] []<| .first 3 [4,5] []<| .first 4 [5] []<| .first 5 [] []<| .done)],shut:=[]}
noncomputable def aaU:bC:={par:=[.cst false],inn:=[(4,some ([4,5,6,7],[4])),(7,some ([],[]))],out:=[],aO:=[(2,([5,6,7],[]))],frz:=[],sch:=[],shut:=[]}
noncomputable def aaV:bC:={par:=[.cst false,.cst false,.cst false],inn:=[],out:=[(1,some ([6],[]))],aO:=[],frz:=[],sch:=[],shut:=[]}
noncomputable def aaW:bC:={par:=[.cst false,.cst false,.cst false,.cst false],inn:=[],out:=[(1,some ([8],[]))],aO:=[],frz:=[],sch:=[],shut:=[]}
noncomputable def aaX:bC:={par:=[.cst false,.cst false],inn:=[(7,some ([],[]))],out:=[],aO:=[(2,([0,1,7,8],[]))],frz:=[],sch:=[],shut:=[]}
noncomputable def aes:bC:={par:=[.cst false],inn:=[],out:=[],aO:=[],frz:=[],sch:=[],shut:=[]}
noncomputable def aaY:bC:={par:=[.cst false,.cst false],inn:=[(7,some ([],[]))],out:=[],aO:=[(2,([0,1,7,8],[]))],frz:=[],sch:=[],shut:=[]}
noncomputable def aet:bC:={par:=[.cst false,.cst false,.cst false],inn:=[],out:=[],aO:=[],frz:=[],sch:=[],shut:=[]}
noncomputable def aaZ:bC:={par:=[.cst false],inn:=[(8,some ([3],[3]))],out:=[],aO:=[(3,([0,3,8,9,10],[3]))],frz:=[],sch:=[],shut:=[]}
noncomputable def aeu:bC:={par:=[.cst false,.cst false],inn:=[],out:=[],aO:=[],frz:=[],sch:=[],shut:=[]}
noncomputable def aa0:bC:={par:=[.cst false],inn:=[],out:=[(1,some ([4],[]))],aO:=[],frz:=[],sch:=[(1,.first 0 [2,3,5,6] [1,4]<| .first 1 [2,3,5,6] [4]<| .first 2 [3,5,6] [4]<| .first 3 [5,6] [4]<| .first 4 [5,6] []<| .fork 5 (.fork 6 (.done) (.stop)) (.stop))],shut:=[]}
noncomputable def aev:bC:={par:=[.cst false,.cst false],inn:=[],out:=[],aO:=[],frz:=[],sch:=[],shut:=[]}
noncomputable def aew:bC:={par:=[.cst false,.cst false],inn:=[],out:=[],aO:=[],frz:=[],sch:=[],shut:=[]}
noncomputable def aex:bC:={par:=[.cst false],inn:=[],out:=[],aO:=[],frz:=[],sch:=[],shut:=[]}
noncomputable def aey:bC:={par:=[.cst false],inn:=[],out:=[],aO:=[],frz:=[],sch:=[],shut:=[]}
noncomputable def aa1:bC:={par:=[.cst false],inn:=[],out:=[(1,some ([2],[]))],aO:=[],frz:=[],sch:=[],shut:=[]}
noncomputable def aa2:bC:={par:=[.cst false],inn:=[],out:=[(1,some ([2],[]))],aO:=[],frz:=[],sch:=[],shut:=[]}
noncomputable def aa3:bC:={par:=[.cst false],inn:=[],out:=[(1,some ([2],[]))],aO:=[],frz:=[],sch:=[],shut:=[]}
noncomputable def aa4:bC:={par:=[.cst false,.cst false,.cst false],inn:=[],out:=[(1,some ([6],[]))],aO:=[],frz:=[],sch:=[(1,.first 0 (rg [3,36]) [1,2]<| .first 1 (rg [3,36]) [2]<| .first 2 (rg [3,36]) []<| .fork 3 (fR 2 4 36<| .first 6 (rg [7,8,18,36]) (rg [8,18])<| .first 7 (rg [18,36]) (rg [8,18])<| .first 8 (rg [9,10,12,13,17,36]) [10,11,13,14,15,16]<| .first 9 (rg [12,13,17,36]) [10,11,13,14,15,16]<| .first 10 (rg [11,13,17,36]) [13,14,15,16]<| .first 11 (rg [12,13,17,36]) [13,14,15,16]<| .first 13 (rg [14,15,17,36]) [12,15,16]<| .first 14 (rg [17,36]) [12,15,16]<| .first 15 (rg [16,36]) [12]<| .first 16 (rg [17,36]) [12]<| .fork 12 (.fork 17 (.fork 18 (fR 2 19 36<| .first 21 [22,33,34,35] (rg [23,33])<| .first 22 [33,34,35] (rg [23,33])<| .first 23 [24,27,32,33,34,35] [25,26,28,29,30,31]<| .first 24 [27,32,33,34,35] [25,26,28,29,30,31]<| .first 25 [26,27,32,33,34,35] [28,29,30,31]<| .first 26 [27,32,33,34,35] [28,29,30,31]<| .first 28 [29,32,33,34,35] [27,30,31]<| .first 29 [32,33,34,35] [27,30,31]<| .first 30 [31,32,33,34,35] [27]<| .first 31 [32,33,34,35] [27]<| .fork 27 (.fork 32 (.fork 33 (.first 34 [35] []<| .fork 35 (.done) (.stop)) (.stop)) (.stop)) (.stop)) (.stop)) (.stop)) (.stop)) (.stop))],shut:=[]}
noncomputable def aa5:bC:={par:=[.cst false,.cst false,.cst false,.cst false],inn:=[],out:=[(1,some ([8],[]))],aO:=[],frz:=[],sch:=[],shut:=[]}
noncomputable def aa6:bC:={par:=[.cst false],inn:=[(7,some ([],[]))],out:=[],aO:=[(3,([0,3,4],[3]))],frz:=[],sch:=[],shut:=[]}
noncomputable def aez:bC:={par:=[],inn:=[],out:=[],aO:=[],frz:=[],sch:=[],shut:=[]}
noncomputable def aeA:bC:={par:=[.cst false],inn:=[],out:=[],aO:=[],frz:=[],sch:=[],shut:=[]}
noncomputable def aeB:bC:={par:=[.cst false,.cst false,.cst false],inn:=[],out:=[],aO:=[],frz:=[],sch:=[],shut:=[]}
noncomputable def aa7:bC:={par:=[.cst false],inn:=[],out:=[(1,some ([2],[]))],aO:=[],frz:=[],sch:=[],shut:=[]}
noncomputable def aa8:bC:={par:=[.cst false,.cst false,.cst false,.cst false],inn:=[],out:=[(1,some ([8],[]))],aO:=[],frz:=[],sch:=[(1,.first 0 (rg [3,4,7,23]) [1,2,4,5,6]<| .first 1 (rg [3,4,7,23]) [2,4,5,6]<| .first 2 (rg [3,4,7,23]) [4,5,6]<| .first 4 (rg [7,23]) [3,5,6]<| .first 5 (rg [7,23]) [3,6]<| .first 6 (rg [7,23]) [3]<| .fork 3 (.fork 7 (fR 3 8 23<| .first 11 [14,18,19,20,21,22] [12,13,15,16,17]<| .first 12 [14,18,19,20,21,22] [13,15,16,17]<| .first 13 [14,18,19,20,21,22] [15,16,17]<| .first 15 [18,19,20,21,22] [14,16,17]<| .first 16 [18,19,20,21,22] [14,17]<| .first 17 [18,19,20,21,22] [14]<| .fork 14 (.fork 18 (.first 19 [20,21,22] []<| .first 20 [21,22] []<| .first 21 [22] []<| .fork 22 (.done) (.stop)) (.stop)) (.stop)) (.stop)) (.stop))],shut:=[]}
noncomputable def aeC:bC:={par:=[.cst false],inn:=[],out:=[],aO:=[],frz:=[],sch:=[],shut:=[]}
noncomputable def aa9:bC:={par:=[.cst false,.cst false],inn:=[(7,some ([],[]))],out:=[],aO:=[(2,([0,1,7,8],[]))],frz:=[],sch:=[],shut:=[]}
noncomputable def aba:bC:={par:=[.cst false,.cst false],inn:=[(7,some ([],[]))],out:=[(4,some ([0,3,5,7,8,16],[3]))],aO:=[(2,([0,3,7,8],[3]))],frz:=[],sch:=[(4,.first 0 [5] [1,2,3,4]<| .first 1 [3,4,5] [2]<| .first 2 [3,4,5] []<| .first 3 [4,5] []<| .first 4 [5] []<| .first 5 [] []<| .done)],shut:=[]}
noncomputable def abb:bC:={par:=[.cst false,.cst false],inn:=[(7,some ([],[]))],out:=[],aO:=[(2,([0,1,7,8],[]))],frz:=[],sch:=[],shut:=[]}
noncomputable def abd:bC:={par:=[.cst false,.cst false,.cst false,.cst false],inn:=[],out:=[(1,some ([8],[]))],aO:=[],frz:=[],sch:=[(1,.first 0 (rg [3,4,7,23]) [1,2,4,5,6]<| .first 1 (rg [3,4,7,23]) [2,4,5,6]<| .first 2 (rg [3,4,7,23]) [4,5,6]<| .first 4 (rg [7,23]) [3,5,6]<| .first 5 (rg [7,23]) [3,6]<| .first 6 (rg [7,23]) [3]<| .fork 3 (.fork 7 (fR 3 8 23<| .first 11 [14,18,19,20,21,22] [12,13,15,16,17]<| .first 12 [14,18,19,20,21,22] [13,15,16,17]<| .first 13 [14,18,19,20,21,22] [15,16,17]<| .first 15 [18,19,20,21,22] [14,16,17]<| .first 16 [18,19,20,21,22] [14,17]<| .first 17 [18,19,20,21,22] [14]<| .fork 14 (.fork 18 (.first 19 [20,21,22] []<| .first 20 [21,22] []<| .first 21 [22] []<| .fork 22 (.done) (.stop)) (.stop)) (.stop)) (.stop)) (.stop))],shut:=[]}
noncomputable def aeD:bC:={par:=[],inn:=[],out:=[],aO:=[],frz:=[],sch:=[],shut:=[]}
noncomputable def aeE:bC:={par:=[.cst false,.cst false,.cst false],inn:=[],out:=[],aO:=[],frz:=[],sch:=[],shut:=[]}
noncomputable def fcs:List (Nat×bC):=[(5,fc5),(6,fc6),(8,fc8),(10,agH),(11,ajC),(12,ajD),(13,agI),(14,agJ),(17,ajE),(18,ajF),(19,ajG),(20,agK),(21,ajH),(22,ajI),(23,ajJ),(24,ajK),(25,agL),(26,agM),(27,ajL),(28,agN),(29,agO),(31,ajM),(32,ajN),(33,agP),(34,agQ),(35,ajO),(36,agR),(37,ajP),(38,agS),(39,agT),(40,agU),(41,agV),(43,agW),(44,ajQ),(45,agX),(46,ajR),(47,agY),(51,agZ),(52,ajS),(53,ag0),(54,ajT),(55,ajU),(56,ag1),(57,ag2),(58,ag3),(59,ag4),(60,ag5),(61,ag6),(64,ajV),(65,ag7),(66,ajW),(67,ajX),(68,ajY),(69,ag8),(70,ag9),(73,aha),(74,ajZ),(75,aj0),(76,ahb),(77,aj1),(78,aj2),(79,ahc),(80,ahd),(81,ahe),(82,ahf),(83,ahg),(84,ahh),(85,aj3),(86,aj6),(87,ahi),(89,aj7),(97,ahj),(98,ahk),(99,ahl),(100,aae),(101,aaf),(102,ad6),(103,aag),(104,aah),(105,ad7),(106,aai),(107,aaj),(114,aak),(115,aal),(116,ad8),(117,aam),(118,aan),(119,aao),(121,aap),(122,aaq),(123,aar),(124,ad9),(125,aas),(126,aea),(127,aat),(128,aau),(129,aav),(130,aaw),(131,aeb),(132,aax),(134,aec),(135,aay),(146,aed),(147,aaz),(148,aaA),(149,aee),(150,aef),(151,aeg),(152,aeh),(153,aaB),(154,aaC),(155,aaD),(156,aei),(157,aej),(158,aaE),(159,aek),(160,ael),(161,aaF),(169,aem),(170,aen),(171,aeo),(174,aaG),(175,aaH),(176,aaI),(177,aaJ),(178,aaK),(179,aaL),(180,aaM),(181,aaN),(182,aaO),(183,aep),(189,aeq),(196,aer),(197,aaP),(198,aaQ),(199,aaR),(200,aaS),(201,aaT),(202,aaU),(203,aaV),(204,aaW),(205,aaX),(206,aes),(207,aaY),(215,aet),(216,aaZ),(217,aeu),(218,aa0),(219,aev),(220,aew),(221,aex),(222,aey),(223,aa1),(224,aa2),(225,aa3),(226,aa4),(227,aa5),(228,aa6),(229,aez),(230,aeA),(232,aeB),(239,aa7),(240,aa8),(241,aeC),(244,aa9),(245,aba),(246,abb),(247,abd),(248,aeD),(250,aeE),(48,{par:=[.cut 17],inn:=[],out:=[],aO:=[],frz:=[],sch:=[],shut:=[]}),(49,{par:=[.cut 17],inn:=[],out:=[],aO:=[],frz:=[],sch:=[],shut:=[]}),(50,{par:=[.cut 17],inn:=[],out:=[],aO:=[],frz:=[],sch:=[],shut:=[]})]
noncomputable def ons:List (Nat×Bool):=[(5,true),(6,true),(8,true),(10,true),(11,true),(12,true),(13,true),(14,true),(17,true),(18,true),(19,true),(20,true),(21,true),(22,true),(23,true),(24,true),(25,true),(26,true),(27,true),(28,true),(29,true),(31,true),(32,true),(33,true),(34,true),(35,true),(36,true),(37,true),(38,true),(39,true),(40,true),(41,true),(43,true),(44,true),(45,true),(46,true),(47,true),(51,true),(52,true),(53,true),(54,true),(55,true),(56,true),(57,true),(58,true),(59,true),(60,true),(61,true),(64,true),(65,true),(66,true),(67,true),(68,true),(69,true),(70,true),(73,true),(74,true),(75,true),(76,true),(77,true),(78,true),(79,true),(80,true),(81,true),(82,true),(83,true),(84,true),(85,true),(86,true),(87,true),(89,true),(97,true),(98,true),(99,true),(100,true),(101,true),(102,true),(103,true),(104,true),(105,true),(106,true),(107,true),(114,true),(115,true),(116,true),(117,true),(118,true),(119,true),(121,true),(122,true),(123,true),(124,true),(125,true),(126,true),(127,true),(128,true),(129,true),(130,true),(131,true),(132,true),(134,true),(135,true),(146,true),(147,true),(148,true),(149,true),(150,true),(151,true),(152,true),(153,true),(154,true),(155,true),(156,true),(157,true),(158,true),(159,true),(160,true),(161,true),(169,true),(170,true),(171,true),(174,true),(175,true),(176,true),(177,true),(178,true),(179,true),(180,true),(181,true),(182,true),(183,true),(189,true),(196,true),(197,true),(198,true),(199,true),(200,true),(201,true),(202,true),(203,true),(204,true),(205,true),(206,true),(207,true),(215,true),(216,true),(217,true),(218,true),(219,true),(220,true),(221,true),(222,true),(223,true),(224,true),(225,true),(226,true),(227,true),(228,true),(229,true),(230,true),(232,true),(239,true),(240,true),(241,true),(244,true),(245,true),(246,true),(247,true),(248,true),(250,true)]
noncomputable def cfg:Cfg:=ad4 ons fcs [] [(61,26)] [] [(8,26)]
theorem c5:cfg.fc 5=fc5:=rfl
instance C5:Cf cfg 5 fc5:=⟨rfl⟩
instance Z5:Zf cfg 5:=⟨rfl⟩
theorem c6:cfg.fc 6=fc6:=rfl
instance C6:Cf cfg 6 fc6:=⟨rfl⟩
instance Z6:Zf cfg 6:=⟨rfl⟩
theorem c8:cfg.fc 8=fc8:=rfl
instance C8:Cf cfg 8 fc8:=⟨rfl⟩
instance Z8:Zf cfg 8:=⟨rfl⟩
theorem c10:cfg.fc 10=agH:=rfl
instance C10:Cf cfg 10 agH:=⟨rfl⟩
instance Z10:Zf cfg 10:=⟨rfl⟩
instance C11:Cf cfg 11 ajC:=⟨rfl⟩
instance Z11:Zf cfg 11:=⟨rfl⟩
instance C12:Cf cfg 12 ajD:=⟨rfl⟩
instance Z12:Zf cfg 12:=⟨rfl⟩
theorem c13:cfg.fc 13=agI:=rfl
instance C13:Cf cfg 13 agI:=⟨rfl⟩
instance Z13:Zf cfg 13:=⟨rfl⟩
theorem c14:cfg.fc 14=agJ:=rfl
instance C14:Cf cfg 14 agJ:=⟨rfl⟩
instance Z14:Zf cfg 14:=⟨rfl⟩
instance C17:Cf cfg 17 ajE:=⟨rfl⟩
instance Z17:Zf cfg 17:=⟨rfl⟩
instance C18:Cf cfg 18 ajF:=⟨rfl⟩
instance Z18:Zf cfg 18:=⟨rfl⟩
instance C19:Cf cfg 19 ajG:=⟨rfl⟩
instance Z19:Zf cfg 19:=⟨rfl⟩
theorem c20:cfg.fc 20=agK:=rfl
instance C20:Cf cfg 20 agK:=⟨rfl⟩
instance Z20:Zf cfg 20:=⟨rfl⟩
instance C21:Cf cfg 21 ajH:=⟨rfl⟩
instance Z21:Zf cfg 21:=⟨rfl⟩
instance C22:Cf cfg 22 ajI:=⟨rfl⟩
instance Z22:Zf cfg 22:=⟨rfl⟩
instance C23:Cf cfg 23 ajJ:=⟨rfl⟩
instance Z23:Zf cfg 23:=⟨rfl⟩
instance C24:Cf cfg 24 ajK:=⟨rfl⟩
instance Z24:Zf cfg 24:=⟨rfl⟩
theorem c25:cfg.fc 25=agL:=rfl
instance C25:Cf cfg 25 agL:=⟨rfl⟩
instance Z25:Zf cfg 25:=⟨rfl⟩
theorem c26:cfg.fc 26=agM:=rfl
instance C26:Cf cfg 26 agM:=⟨rfl⟩
instance Z26:Zf cfg 26:=⟨rfl⟩
instance C27:Cf cfg 27 ajL:=⟨rfl⟩
instance Z27:Zf cfg 27:=⟨rfl⟩
theorem c28:cfg.fc 28=agN:=rfl
instance C28:Cf cfg 28 agN:=⟨rfl⟩
instance Z28:Zf cfg 28:=⟨rfl⟩
theorem c29:cfg.fc 29=agO:=rfl
instance C29:Cf cfg 29 agO:=⟨rfl⟩
instance Z29:Zf cfg 29:=⟨rfl⟩
instance C31:Cf cfg 31 ajM:=⟨rfl⟩
instance Z31:Zf cfg 31:=⟨rfl⟩
instance C32:Cf cfg 32 ajN:=⟨rfl⟩
instance Z32:Zf cfg 32:=⟨rfl⟩
theorem c33:cfg.fc 33=agP:=rfl
instance C33:Cf cfg 33 agP:=⟨rfl⟩
instance Z33:Zf cfg 33:=⟨rfl⟩
theorem c34:cfg.fc 34=agQ:=rfl
instance C34:Cf cfg 34 agQ:=⟨rfl⟩
instance Z34:Zf cfg 34:=⟨rfl⟩
instance C35:Cf cfg 35 ajO:=⟨rfl⟩
instance Z35:Zf cfg 35:=⟨rfl⟩
theorem c36:cfg.fc 36=agR:=rfl
instance C36:Cf cfg 36 agR:=⟨rfl⟩
instance Z36:Zf cfg 36:=⟨rfl⟩
instance C37:Cf cfg 37 ajP:=⟨rfl⟩
instance Z37:Zf cfg 37:=⟨rfl⟩
theorem c38:cfg.fc 38=agS:=rfl
instance C38:Cf cfg 38 agS:=⟨rfl⟩
instance Z38:Zf cfg 38:=⟨rfl⟩
theorem c39:cfg.fc 39=agT:=rfl
instance C39:Cf cfg 39 agT:=⟨rfl⟩
instance Z39:Zf cfg 39:=⟨rfl⟩
theorem c40:cfg.fc 40=agU:=rfl
instance C40:Cf cfg 40 agU:=⟨rfl⟩
instance Z40:Zf cfg 40:=⟨rfl⟩
theorem c41:cfg.fc 41=agV:=rfl
instance C41:Cf cfg 41 agV:=⟨rfl⟩
instance Z41:Zf cfg 41:=⟨rfl⟩
theorem c43:cfg.fc 43=agW:=rfl
instance C43:Cf cfg 43 agW:=⟨rfl⟩
instance Z43:Zf cfg 43:=⟨rfl⟩
theorem z43:(cfg.fc 43).frz=[]:=rfl
instance C44:Cf cfg 44 ajQ:=⟨rfl⟩
instance Z44:Zf cfg 44:=⟨rfl⟩
theorem c45:cfg.fc 45=agX:=rfl
instance C45:Cf cfg 45 agX:=⟨rfl⟩
instance Z45:Zf cfg 45:=⟨rfl⟩
instance C46:Cf cfg 46 ajR:=⟨rfl⟩
instance Z46:Zf cfg 46:=⟨rfl⟩
theorem c47:cfg.fc 47=agY:=rfl
instance C47:Cf cfg 47 agY:=⟨rfl⟩
instance Z47:Zf cfg 47:=⟨rfl⟩
theorem c51:cfg.fc 51=agZ:=rfl
instance C51:Cf cfg 51 agZ:=⟨rfl⟩
instance Z51:Zf cfg 51:=⟨rfl⟩
instance C52:Cf cfg 52 ajS:=⟨rfl⟩
instance Z52:Zf cfg 52:=⟨rfl⟩
theorem c53:cfg.fc 53=ag0:=rfl
instance C53:Cf cfg 53 ag0:=⟨rfl⟩
instance Z53:Zf cfg 53:=⟨rfl⟩
instance C54:Cf cfg 54 ajT:=⟨rfl⟩
instance Z54:Zf cfg 54:=⟨rfl⟩
instance C55:Cf cfg 55 ajU:=⟨rfl⟩
instance Z55:Zf cfg 55:=⟨rfl⟩
theorem c56:cfg.fc 56=ag1:=rfl
instance C56:Cf cfg 56 ag1:=⟨rfl⟩
instance Z56:Zf cfg 56:=⟨rfl⟩
theorem c57:cfg.fc 57=ag2:=rfl
instance C57:Cf cfg 57 ag2:=⟨rfl⟩
instance Z57:Zf cfg 57:=⟨rfl⟩
theorem c58:cfg.fc 58=ag3:=rfl
instance C58:Cf cfg 58 ag3:=⟨rfl⟩
instance Z58:Zf cfg 58:=⟨rfl⟩
theorem c59:cfg.fc 59=ag4:=rfl
instance C59:Cf cfg 59 ag4:=⟨rfl⟩
instance Z59:Zf cfg 59:=⟨rfl⟩
theorem c60:cfg.fc 60=ag5:=rfl
instance C60:Cf cfg 60 ag5:=⟨rfl⟩
instance Z60:Zf cfg 60:=⟨rfl⟩
theorem c61:cfg.fc 61=ag6:=rfl
instance C61:Cf cfg 61 ag6:=⟨rfl⟩
instance Z61:Zf cfg 61:=⟨rfl⟩
instance C64:Cf cfg 64 ajV:=⟨rfl⟩
instance Z64:Zf cfg 64:=⟨rfl⟩
theorem c65:cfg.fc 65=ag7:=rfl
instance C65:Cf cfg 65 ag7:=⟨rfl⟩
instance Z65:Zf cfg 65:=⟨rfl⟩
instance C66:Cf cfg 66 ajW:=⟨rfl⟩
instance Z66:Zf cfg 66:=⟨rfl⟩
instance C67:Cf cfg 67 ajX:=⟨rfl⟩
instance Z67:Zf cfg 67:=⟨rfl⟩
instance C68:Cf cfg 68 ajY:=⟨rfl⟩
instance Z68:Zf cfg 68:=⟨rfl⟩
theorem c69:cfg.fc 69=ag8:=rfl
instance C69:Cf cfg 69 ag8:=⟨rfl⟩
instance Z69:Zf cfg 69:=⟨rfl⟩
theorem c70:cfg.fc 70=ag9:=rfl
instance C70:Cf cfg 70 ag9:=⟨rfl⟩
instance Z70:Zf cfg 70:=⟨rfl⟩
theorem c73:cfg.fc 73=aha:=rfl
instance C73:Cf cfg 73 aha:=⟨rfl⟩
instance Z73:Zf cfg 73:=⟨rfl⟩
theorem z73:(cfg.fc 73).frz=[]:=rfl
instance C74:Cf cfg 74 ajZ:=⟨rfl⟩
instance Z74:Zf cfg 74:=⟨rfl⟩
instance C75:Cf cfg 75 aj0:=⟨rfl⟩
instance Z75:Zf cfg 75:=⟨rfl⟩
theorem c76:cfg.fc 76=ahb:=rfl
instance C76:Cf cfg 76 ahb:=⟨rfl⟩
instance Z76:Zf cfg 76:=⟨rfl⟩
instance C77:Cf cfg 77 aj1:=⟨rfl⟩
instance Z77:Zf cfg 77:=⟨rfl⟩
instance C78:Cf cfg 78 aj2:=⟨rfl⟩
instance Z78:Zf cfg 78:=⟨rfl⟩
theorem c79:cfg.fc 79=ahc:=rfl
instance C79:Cf cfg 79 ahc:=⟨rfl⟩
instance Z79:Zf cfg 79:=⟨rfl⟩
theorem c80:cfg.fc 80=ahd:=rfl
instance C80:Cf cfg 80 ahd:=⟨rfl⟩
instance Z80:Zf cfg 80:=⟨rfl⟩
theorem c81:cfg.fc 81=ahe:=rfl
instance C81:Cf cfg 81 ahe:=⟨rfl⟩
instance Z81:Zf cfg 81:=⟨rfl⟩
theorem c82:cfg.fc 82=ahf:=rfl
instance C82:Cf cfg 82 ahf:=⟨rfl⟩
instance Z82:Zf cfg 82:=⟨rfl⟩
theorem c83:cfg.fc 83=ahg:=rfl
instance C83:Cf cfg 83 ahg:=⟨rfl⟩
instance Z83:Zf cfg 83:=⟨rfl⟩
theorem c84:cfg.fc 84=ahh:=rfl
instance C84:Cf cfg 84 ahh:=⟨rfl⟩
instance Z84:Zf cfg 84:=⟨rfl⟩
instance C85:Cf cfg 85 aj3:=⟨rfl⟩
instance Z85:Zf cfg 85:=⟨rfl⟩
instance C86:Cf cfg 86 aj6:=⟨rfl⟩
instance Z86:Zf cfg 86:=⟨rfl⟩
theorem c87:cfg.fc 87=ahi:=rfl
instance C87:Cf cfg 87 ahi:=⟨rfl⟩
instance Z87:Zf cfg 87:=⟨rfl⟩
instance C89:Cf cfg 89 aj7:=⟨rfl⟩
instance Z89:Zf cfg 89:=⟨rfl⟩
theorem c97:cfg.fc 97=ahj:=rfl
instance C97:Cf cfg 97 ahj:=⟨rfl⟩
instance Z97:Zf cfg 97:=⟨rfl⟩
theorem c98:cfg.fc 98=ahk:=rfl
instance C98:Cf cfg 98 ahk:=⟨rfl⟩
instance Z98:Zf cfg 98:=⟨rfl⟩
theorem z98:(cfg.fc 98).frz=[]:=rfl
theorem c99:cfg.fc 99=ahl:=rfl
instance C99:Cf cfg 99 ahl:=⟨rfl⟩
instance Z99:Zf cfg 99:=⟨rfl⟩
theorem alG:cfg.fc 100=aae:=rfl
instance arx:Cf cfg 100 aae:=⟨rfl⟩
instance ary:Zf cfg 100:=⟨rfl⟩
theorem alH:cfg.fc 101=aaf:=rfl
instance arz:Cf cfg 101 aaf:=⟨rfl⟩
instance arA:Zf cfg 101:=⟨rfl⟩
instance arB:Cf cfg 102 ad6:=⟨rfl⟩
instance arC:Zf cfg 102:=⟨rfl⟩
theorem alI:cfg.fc 103=aag:=rfl
instance arD:Cf cfg 103 aag:=⟨rfl⟩
instance arE:Zf cfg 103:=⟨rfl⟩
theorem XB:cfg.fc 104=aah:=rfl
instance arF:Cf cfg 104 aah:=⟨rfl⟩
instance arG:Zf cfg 104:=⟨rfl⟩
theorem aj8:(cfg.fc 104).frz=[]:=rfl
instance arH:Cf cfg 105 ad7:=⟨rfl⟩
instance arI:Zf cfg 105:=⟨rfl⟩
theorem alJ:cfg.fc 106=aai:=rfl
instance arJ:Cf cfg 106 aai:=⟨rfl⟩
instance arK:Zf cfg 106:=⟨rfl⟩
theorem c107:cfg.fc 107=aaj:=rfl
instance arL:Cf cfg 107 aaj:=⟨rfl⟩
instance arM:Zf cfg 107:=⟨rfl⟩
theorem aj9:cfg.fc 114=aak:=rfl
instance arN:Cf cfg 114 aak:=⟨rfl⟩
instance arO:Zf cfg 114:=⟨rfl⟩
theorem aka:cfg.fc 115=aal:=rfl
instance arP:Cf cfg 115 aal:=⟨rfl⟩
instance arQ:Zf cfg 115:=⟨rfl⟩
instance arR:Cf cfg 116 ad8:=⟨rfl⟩
instance arS:Zf cfg 116:=⟨rfl⟩
theorem c117:cfg.fc 117=aam:=rfl
instance arT:Cf cfg 117 aam:=⟨rfl⟩
instance arU:Zf cfg 117:=⟨rfl⟩
theorem alK:cfg.fc 118=aan:=rfl
instance arV:Cf cfg 118 aan:=⟨rfl⟩
instance arW:Zf cfg 118:=⟨rfl⟩
theorem c119:cfg.fc 119=aao:=rfl
instance arX:Cf cfg 119 aao:=⟨rfl⟩
instance arY:Zf cfg 119:=⟨rfl⟩
theorem aon:cfg.fc 121=aap:=rfl
instance arZ:Cf cfg 121 aap:=⟨rfl⟩
instance ar0:Zf cfg 121:=⟨rfl⟩
theorem alL:cfg.fc 122=aaq:=rfl
instance ar1:Cf cfg 122 aaq:=⟨rfl⟩
instance ar2:Zf cfg 122:=⟨rfl⟩
theorem YZ:cfg.fc 123=aar:=rfl
instance ar4:Cf cfg 123 aar:=⟨rfl⟩
instance ar5:Zf cfg 123:=⟨rfl⟩
instance ar6:Cf cfg 124 ad9:=⟨rfl⟩
instance ar7:Zf cfg 124:=⟨rfl⟩
theorem alM:cfg.fc 125=aas:=rfl
instance ar8:Cf cfg 125 aas:=⟨rfl⟩
instance ar9:Zf cfg 125:=⟨rfl⟩
instance asa:Cf cfg 126 aea:=⟨rfl⟩
instance asb:Zf cfg 126:=⟨rfl⟩
theorem c127:cfg.fc 127=aat:=rfl
instance asc:Cf cfg 127 aat:=⟨rfl⟩
instance ase:Zf cfg 127:=⟨rfl⟩
theorem alN:cfg.fc 128=aau:=rfl
instance asf:Cf cfg 128 aau:=⟨rfl⟩
instance asg:Zf cfg 128:=⟨rfl⟩
theorem aeF:cfg.fc 129=aav:=rfl
instance ash:Cf cfg 129 aav:=⟨rfl⟩
instance asi:Zf cfg 129:=⟨rfl⟩
theorem c130:cfg.fc 130=aaw:=rfl
instance asj:Cf cfg 130 aaw:=⟨rfl⟩
instance asl:Zf cfg 130:=⟨rfl⟩
instance asn:Cf cfg 131 aeb:=⟨rfl⟩
instance aso:Zf cfg 131:=⟨rfl⟩
theorem aoo:cfg.fc 132=aax:=rfl
instance asq:Cf cfg 132 aax:=⟨rfl⟩
instance asr:Zf cfg 132:=⟨rfl⟩
instance ass:Cf cfg 134 aec:=⟨rfl⟩
instance ast:Zf cfg 134:=⟨rfl⟩
theorem akb:cfg.fc 135=aay:=rfl
instance asu:Cf cfg 135 aay:=⟨rfl⟩
instance asv:Zf cfg 135:=⟨rfl⟩
instance asw:Cf cfg 146 aed:=⟨rfl⟩
instance asx:Zf cfg 146:=⟨rfl⟩
theorem ab3:cfg.fc 147=aaz:=rfl
instance asy:Cf cfg 147 aaz:=⟨rfl⟩
instance asz:Zf cfg 147:=⟨rfl⟩
theorem c148:cfg.fc 148=aaA:=rfl
instance asA:Cf cfg 148 aaA:=⟨rfl⟩
instance asB:Zf cfg 148:=⟨rfl⟩
instance asC:Cf cfg 149 aee:=⟨rfl⟩
instance asD:Zf cfg 149:=⟨rfl⟩
instance asE:Cf cfg 150 aef:=⟨rfl⟩
instance asF:Zf cfg 150:=⟨rfl⟩
instance asG:Cf cfg 151 aeg:=⟨rfl⟩
instance asH:Zf cfg 151:=⟨rfl⟩
instance asI:Cf cfg 152 aeh:=⟨rfl⟩
instance asJ:Zf cfg 152:=⟨rfl⟩
theorem ahm:cfg.fc 153=aaB:=rfl
instance asK:Cf cfg 153 aaB:=⟨rfl⟩
instance asL:Zf cfg 153:=⟨rfl⟩
theorem c154:cfg.fc 154=aaC:=rfl
instance asM:Cf cfg 154 aaC:=⟨rfl⟩
instance asN:Zf cfg 154:=⟨rfl⟩
theorem XC:cfg.fc 155=aaD:=rfl
instance asO:Cf cfg 155 aaD:=⟨rfl⟩
instance asP:Zf cfg 155:=⟨rfl⟩
instance asQ:Cf cfg 156 aei:=⟨rfl⟩
instance asR:Zf cfg 156:=⟨rfl⟩
instance asT:Cf cfg 157 aej:=⟨rfl⟩
instance asU:Zf cfg 157:=⟨rfl⟩
theorem aop:cfg.fc 158=aaE:=rfl
instance asV:Cf cfg 158 aaE:=⟨rfl⟩
instance asW:Zf cfg 158:=⟨rfl⟩
instance asX:Cf cfg 159 aek:=⟨rfl⟩
instance asY:Zf cfg 159:=⟨rfl⟩
instance asZ:Cf cfg 160 ael:=⟨rfl⟩
instance as1:Zf cfg 160:=⟨rfl⟩
theorem aoq:cfg.fc 161=aaF:=rfl
instance as3:Cf cfg 161 aaF:=⟨rfl⟩
instance as4:Zf cfg 161:=⟨rfl⟩
instance as5:Cf cfg 169 aem:=⟨rfl⟩
instance as6:Zf cfg 169:=⟨rfl⟩
instance as7:Cf cfg 170 aen:=⟨rfl⟩
instance as8:Zf cfg 170:=⟨rfl⟩
instance as9:Cf cfg 171 aeo:=⟨rfl⟩
instance ata:Zf cfg 171:=⟨rfl⟩
theorem SQ:cfg.fc 174=aaG:=rfl
instance atb:Cf cfg 174 aaG:=⟨rfl⟩
theorem jd:(cfg.fc 174).frz=[2]:=rfl
theorem c175:cfg.fc 175=aaH:=rfl
instance atc:Cf cfg 175 aaH:=⟨rfl⟩
instance atd:Zf cfg 175:=⟨rfl⟩
theorem aor:cfg.fc 176=aaI:=rfl
instance ate:Cf cfg 176 aaI:=⟨rfl⟩
instance atf:Zf cfg 176:=⟨rfl⟩
theorem ab4:cfg.fc 177=aaJ:=rfl
instance atg:Cf cfg 177 aaJ:=⟨rfl⟩
instance ath:Zf cfg 177:=⟨rfl⟩
theorem ahn:cfg.fc 178=aaK:=rfl
instance ati:Cf cfg 178 aaK:=⟨rfl⟩
instance atj:Zf cfg 178:=⟨rfl⟩
theorem aho:cfg.fc 179=aaL:=rfl
instance atl:Cf cfg 179 aaL:=⟨rfl⟩
instance atm:Zf cfg 179:=⟨rfl⟩
theorem VA:cfg.fc 180=aaM:=rfl
instance atn:Cf cfg 180 aaM:=⟨rfl⟩
instance ato:Zf cfg 180:=⟨rfl⟩
theorem alO:cfg.fc 181=aaN:=rfl
instance atp:Cf cfg 181 aaN:=⟨rfl⟩
instance atq:Zf cfg 181:=⟨rfl⟩
theorem c182:cfg.fc 182=aaO:=rfl
instance atr:Cf cfg 182 aaO:=⟨rfl⟩
instance att:Zf cfg 182:=⟨rfl⟩
instance atu:Cf cfg 183 aep:=⟨rfl⟩
instance atv:Zf cfg 183:=⟨rfl⟩
instance atw:Cf cfg 189 aeq:=⟨rfl⟩
instance atx:Zf cfg 189:=⟨rfl⟩
instance aty:Cf cfg 196 aer:=⟨rfl⟩
instance atz:Zf cfg 196:=⟨rfl⟩
theorem alP:cfg.fc 197=aaP:=rfl
instance atA:Cf cfg 197 aaP:=⟨rfl⟩
instance atB:Zf cfg 197:=⟨rfl⟩
theorem c198:cfg.fc 198=aaQ:=rfl
instance atC:Cf cfg 198 aaQ:=⟨rfl⟩
instance atE:Zf cfg 198:=⟨rfl⟩
theorem akc:cfg.fc 199=aaR:=rfl
instance atF:Cf cfg 199 aaR:=⟨rfl⟩
instance atG:Zf cfg 199:=⟨rfl⟩
theorem aos:cfg.fc 200=aaS:=rfl
instance atH:Cf cfg 200 aaS:=⟨rfl⟩
instance atI:Zf cfg 200:=⟨rfl⟩
theorem c201:cfg.fc 201=aaT:=rfl
instance atJ:Cf cfg 201 aaT:=⟨rfl⟩
instance atK:Zf cfg 201:=⟨rfl⟩
theorem alQ:cfg.fc 202=aaU:=rfl
instance atL:Cf cfg 202 aaU:=⟨rfl⟩
instance atM:Zf cfg 202:=⟨rfl⟩
theorem c203:cfg.fc 203=aaV:=rfl
instance atN:Cf cfg 203 aaV:=⟨rfl⟩
instance atO:Zf cfg 203:=⟨rfl⟩
theorem aot:cfg.fc 204=aaW:=rfl
instance atP:Cf cfg 204 aaW:=⟨rfl⟩
instance atQ:Zf cfg 204:=⟨rfl⟩
theorem alR:cfg.fc 205=aaX:=rfl
instance atS:Cf cfg 205 aaX:=⟨rfl⟩
instance atT:Zf cfg 205:=⟨rfl⟩
instance atU:Cf cfg 206 aes:=⟨rfl⟩
instance atV:Zf cfg 206:=⟨rfl⟩
theorem alS:cfg.fc 207=aaY:=rfl
instance atW:Cf cfg 207 aaY:=⟨rfl⟩
instance atX:Zf cfg 207:=⟨rfl⟩
instance atY:Cf cfg 215 aet:=⟨rfl⟩
instance atZ:Zf cfg 215:=⟨rfl⟩
theorem alT:cfg.fc 216=aaZ:=rfl
instance at1:Cf cfg 216 aaZ:=⟨rfl⟩
instance at6:Zf cfg 216:=⟨rfl⟩
instance at7:Cf cfg 217 aeu:=⟨rfl⟩
instance aua:Zf cfg 217:=⟨rfl⟩
theorem c218:cfg.fc 218=aa0:=rfl
instance aub:Cf cfg 218 aa0:=⟨rfl⟩
instance auc:Zf cfg 218:=⟨rfl⟩
instance aud:Cf cfg 219 aev:=⟨rfl⟩
instance aue:Zf cfg 219:=⟨rfl⟩
instance auf:Cf cfg 220 aew:=⟨rfl⟩
instance aug:Zf cfg 220:=⟨rfl⟩
instance auh:Cf cfg 221 aex:=⟨rfl⟩
instance aui:Zf cfg 221:=⟨rfl⟩
instance auj:Cf cfg 222 aey:=⟨rfl⟩
instance auk:Zf cfg 222:=⟨rfl⟩
theorem aou:cfg.fc 223=aa1:=rfl
instance aul:Cf cfg 223 aa1:=⟨rfl⟩
instance aum:Zf cfg 223:=⟨rfl⟩
theorem aov:cfg.fc 224=aa2:=rfl
instance aun:Cf cfg 224 aa2:=⟨rfl⟩
instance auo:Zf cfg 224:=⟨rfl⟩
theorem aow:cfg.fc 225=aa3:=rfl
instance aup:Cf cfg 225 aa3:=⟨rfl⟩
instance auq:Zf cfg 225:=⟨rfl⟩
theorem c226:cfg.fc 226=aa4:=rfl
instance aur:Cf cfg 226 aa4:=⟨rfl⟩
instance aus:Zf cfg 226:=⟨rfl⟩
theorem c227:cfg.fc 227=aa5:=rfl
instance aut:Cf cfg 227 aa5:=⟨rfl⟩
instance auu:Zf cfg 227:=⟨rfl⟩
theorem c228:cfg.fc 228=aa6:=rfl
instance auv:Cf cfg 228 aa6:=⟨rfl⟩
instance auw:Zf cfg 228:=⟨rfl⟩
instance auy:Cf cfg 229 aez:=⟨rfl⟩
instance auz:Zf cfg 229:=⟨rfl⟩
instance auA:Cf cfg 230 aeA:=⟨rfl⟩
instance auB:Zf cfg 230:=⟨rfl⟩
instance auC:Cf cfg 232 aeB:=⟨rfl⟩
instance auD:Zf cfg 232:=⟨rfl⟩
theorem aox:cfg.fc 239=aa7:=rfl
instance auE:Cf cfg 239 aa7:=⟨rfl⟩
instance auF:Zf cfg 239:=⟨rfl⟩
theorem aoy:cfg.fc 240=aa8:=rfl
instance auG:Cf cfg 240 aa8:=⟨rfl⟩
instance auH:Zf cfg 240:=⟨rfl⟩
instance auI:Cf cfg 241 aeC:=⟨rfl⟩
instance auJ:Zf cfg 241:=⟨rfl⟩
theorem alU:cfg.fc 244=aa9:=rfl
instance auK:Cf cfg 244 aa9:=⟨rfl⟩
instance auL:Zf cfg 244:=⟨rfl⟩
theorem akd:cfg.fc 245=aba:=rfl
instance auM:Cf cfg 245 aba:=⟨rfl⟩
instance auN:Zf cfg 245:=⟨rfl⟩
theorem ahp:cfg.fc 246=abb:=rfl
instance auO:Cf cfg 246 abb:=⟨rfl⟩
instance auP:Zf cfg 246:=⟨rfl⟩
theorem aoz:cfg.fc 247=abd:=rfl
instance auQ:Cf cfg 247 abd:=⟨rfl⟩
instance auR:Zf cfg 247:=⟨rfl⟩
instance auS:Cf cfg 248 aeD:=⟨rfl⟩
instance auT:Zf cfg 248:=⟨rfl⟩
instance auU:Cf cfg 250 aeE:=⟨rfl⟩
instance auV:Zf cfg 250:=⟨rfl⟩
noncomputable abbrev Pg:=Tryz.prog
theorem Ox:MO Pg 184=some ([.nil,.nil],[(0,1),(1,1)]):=kr
theorem alV:MO Pg 206=some ([.nil,.nil],[(0,1),(1,1)]):=kr
theorem alW:MO Pg 269=some ([z0,z0],[(0,1),(1,1)]):=kr
theorem aeG:MO Pg 73=some ([z0,z1,z1],[(0,1),(1,1),(2,1)]):=kr
theorem aiD:oG Pg 126=some (33,1):=kr
theorem alX:oG Pg 149=some (9,1):=kr
theorem alY:oG Pg 266=some (269,2):=kr
theorem alZ:oG Pg 33=some (2,1):=kr
theorem Y0:oG Pg 37=some (73,3):=kr
theorem Y1:oG Pg 40=some (209,2):=kr
theorem aoA:oG Pg 41=some (116,2):=kr
theorem aoB:oG Pg 44=some (95,3):=kr
theorem aoC:oG Pg 47=some (98,9):=kr
theorem aoD:oG Pg 48=some (101,5):=kr
theorem aoE:oG Pg 96=some (179,4):=kr
theorem xg:bu Pg 101 0=some 0:=kr
theorem IU:bu Pg 101 1=some 1:=kr
theorem IV:bu Pg 101 2=some 2:=kr
theorem IW:bu Pg 101 3=some 3:=kr
theorem IX:bu Pg 101 4=some 4:=kr
theorem ahq:bu Pg 103 0=some 0:=kr
theorem ahr:bu Pg 103 1=some 1:=kr
theorem ahs:bu Pg 103 2=some 2:=kr
theorem aht:bu Pg 103 3=some 3:=kr
theorem ahu:bu Pg 103 4=some 4:=kr
theorem vM:bu Pg 116 0=some 0:=kr
theorem yT:bu Pg 116 1=some 1:=kr
theorem BM:bu Pg 179 0=some 0:=kr
theorem Aa:bu Pg 179 1=some 1:=kr
theorem Fg:bu Pg 179 2=some 2:=kr
theorem IY:bu Pg 179 3=some 3:=kr
theorem abe:bu Pg 184 0=some 0:=kr
theorem abf:bu Pg 184 1=some 1:=kr
theorem abg:bu Pg 189 0=some 0:=kr
theorem abh:bu Pg 189 1=some 1:=kr
theorem IZ:bu Pg 206 0=some 0:=kr
theorem VB:bu Pg 206 1=some 1:=kr
theorem dO:bu Pg 209 0=some 0:=kr
theorem dH:bu Pg 209 1=some 1:=kr
theorem ahv:bu Pg 211 0=some 0:=kr
theorem ahw:bu Pg 211 1=some 1:=kr
theorem ahx:bu Pg 214 0=some 0:=kr
theorem ahy:bu Pg 214 1=some 1:=kr
theorem ahz:bu Pg 214 2=some 2:=kr
theorem ahA:bu Pg 214 3=some 3:=kr
theorem ake:bu Pg 25 0=some 0:=kr
theorem akf:bu Pg 25 1=some 1:=kr
theorem aeH:bu Pg 25 2=some 2:=kr
theorem aeI:bu Pg 25 3=some 3:=kr
theorem aeJ:bu Pg 28 0=some 0:=kr
theorem aeK:bu Pg 28 1=some 4:=kr
theorem akg:bu Pg 32 0=some 0:=kr
theorem akh:bu Pg 32 1=some 1:=kr
theorem aki:bu Pg 32 2=some 2:=kr
theorem akj:bu Pg 32 3=some 3:=kr
theorem aeL:bu Pg 35 0=some 0:=kr
theorem aeM:bu Pg 35 1=some 5:=kr
theorem aeN:bu Pg 35 2=some 6:=kr
theorem akk:bu Pg 35 3=some 7:=kr
theorem akl:bu Pg 35 4=some 11:=kr
theorem akm:bu Pg 35 5=some 12:=kr
theorem akn:bu Pg 35 6=some 13:=kr
theorem ako:bu Pg 35 7=some 14:=kr
theorem aeO:bu Pg 35 8=some 15:=kr
theorem aeP:bu Pg 35 9=some 16:=kr
theorem Fh:bu Pg 43 0=some 0:=kr
theorem A7:bu Pg 43 1=some 1:=kr
theorem uO:bu Pg 43 2=some 2:=kr
theorem jD:bu Pg 43 3=some 3:=kr
theorem uP:bu Pg 46 0=some 0:=kr
theorem D5:bu Pg 46 1=some 4:=kr
theorem QH:bu Pg 49 0=some 0:=kr
theorem QI:bu Pg 49 1=some 1:=kr
theorem QJ:bu Pg 49 2=some 2:=kr
theorem QK:bu Pg 49 3=some 3:=kr
theorem qQ:bu Pg 51 0=some 0:=kr
theorem Fj:bu Pg 51 1=some 5:=kr
theorem A8:bu Pg 51 2=some 6:=kr
theorem QL:bu Pg 51 3=some 7:=kr
theorem QM:bu Pg 51 4=some 11:=kr
theorem QN:bu Pg 51 5=some 12:=kr
theorem JS:bu Pg 51 6=some 13:=kr
theorem MX:bu Pg 51 7=some 14:=kr
theorem zF:bu Pg 51 8=some 15:=kr
theorem VC:bu Pg 51 9=some 16:=kr
theorem VD:bu Pg 73 0=some 0:=kr
theorem VE:bu Pg 73 1=some 1:=kr
theorem VF:bu Pg 73 2=some 2:=kr
theorem aeQ:bu Pg 87 0=some 0:=kr
theorem akp:bu Pg 87 1=some 1:=kr
theorem akq:bu Pg 87 2=some 2:=kr
theorem aeR:bu Pg 90 0=some 0:=kr
theorem aeS:bu Pg 90 1=some 1:=kr
theorem akr:bu Pg 90 2=some 2:=kr
theorem aeT:bu Pg 90 3=some 3:=kr
theorem aks:bu Pg 90 4=some 6:=kr
theorem akt:bu Pg 90 5=some 7:=kr
theorem aeU:bu Pg 90 6=some 8:=kr
theorem JU:bu Pg 95 0=some 0:=kr
theorem Fq:bu Pg 95 1=some 1:=kr
theorem JV:bu Pg 95 2=some 2:=kr
theorem D6:bu Pg 98 0=some 0:=kr
theorem MZ:bu Pg 98 1=some 1:=kr
theorem Na:bu Pg 98 2=some 2:=kr
theorem Hq:bu Pg 98 3=some 3:=kr
theorem Hr:bu Pg 98 4=some 6:=kr
theorem Ht:bu Pg 98 5=some 7:=kr
theorem Fv:bu Pg 98 6=some 8:=kr
theorem aeV:aJ Pg cfg 100 0 [22]=[(.cst false,[some 2])]:=kr
theorem aeW:aJ Pg cfg 101 0 [23]=[(.cst false,[some 2])]:=kr
theorem XD:aJ Pg cfg 102 0 [87]=[(.cst false,[none,none,none])]:=kr
theorem aeX:aJ Pg cfg 103 0 [88]=[(.cst false,[some 4])]:=kr
theorem XE:aJ Pg cfg 104 0 [43]=[(.cst false,[none,none,some 2,some 2])]:=kr
theorem aeY:aJ Pg cfg 105 0 [44]=[(.cst false,[some 3])]:=kr
theorem QO:aJ Pg cfg 106 0 [98]=[(.cst false,[none,none,none,none,none,none,none,none,some 4])]:=kr
theorem Nb:aJ Pg cfg 107 0 [101]=[(.cst false,[none,none,none,none,none])]:=kr
theorem JW:aJ Pg cfg 10 0 [37,37]=[(.cst false,[some 3]),(.cst false,[some 3])]:=kr
theorem XF:aJ Pg cfg 114 0 [40,40]=[(.cst false,[some 2]),(.cst false,[some 2])]:=kr
theorem XG:aJ Pg cfg 115 0 [41,41]=[(.cst false,[some 2]),(.cst false,[some 2])]:=kr
theorem Oy:aJ Pg cfg 116 0 [95,95]=[(.cst false,[none,none,none]),(.cst false,[none,none,none])]:=kr
theorem XH:aJ Pg cfg 117 0 [96,96]=[(.cst false,[some 4]),(.cst false,[some 4])]:=kr
theorem Y2:aJ Pg cfg 118 0 [40,3]=[(.row,[some 2]),pn]:=kr
theorem Y3:aJ Pg cfg 119 0 [41,3]=[(.ws,[some 2]),pn]:=kr
theorem Y4:aJ Pg cfg 11 0 [51,51]=[(.cst false,[none,none,some 2,some 2,some 3,some 9,some 5,none,none,none,none,none,none,none,none,some 1,some 1]),(.cst false,[none,none,some 2,some 2,some 3,some 9,some 5,none,none,none,none,none,none,none,none,some 1,some 1])]:=kr
theorem Y5:aJ Pg cfg 121 0 [43,2]=[(.cst false,[none,none,some 2,some 2]),pn]:=kr
theorem aeZ:aJ Pg cfg 122 0 [40]=[(.cst false,[some 2])]:=kr
theorem ae0:aJ Pg cfg 123 0 [43]=[(.cst false,[none,none,some 2,some 2])]:=kr
theorem QS:aJ Pg cfg 124 0 [184,33,2]=[(.cst false,[some 1,some 1]),(.cst false,[some 1]),pn]:=kr
theorem Y6:aJ Pg cfg 125 0 [33,2]=[(.cst false,[some 1]),pn]:=kr
theorem XI:aJ Pg cfg 126 0 [189,3]=[(.cst false,[none,some 1]),pn]:=kr
theorem Nc:aJ Pg cfg 127 0 [144]=[(.cut 4,[none])]:=kr
theorem XJ:aJ Pg cfg 128 0 [44]=[(.cst false,[some 3])]:=kr
theorem Nh:aJ Pg cfg 129 0 [192]=[(.cut 9,[none])]:=kr
theorem ab5:aJ Pg cfg 12 0 [51,3]=[(.ws,[none,none,some 2,some 2,some 3,some 9,some 5,none,none,none,none,none,none,none,none,some 1,some 1]),pn]:=kr
theorem Nj:aJ Pg cfg 130 0 [194]=[(.cut 5,[none])]:=kr
theorem Hu:aJ Pg cfg 131 0 [144,2]=[(.cut 4,[none]),pn]:=kr
theorem bF:aJ Pg cfg 132 0 [2,2,2]=[pn,pn,pn]:=kr
theorem XK:aJ Pg cfg 134 0 [144,2]=[(.cut 4,[none]),pn]:=kr
theorem ae1:aJ Pg cfg 135 0 [40]=[(.cst false,[some 2])]:=kr
theorem ab6:aJ Pg cfg 13 0 [37,3]=[(.row,[some 3]),pn]:=kr
theorem QT:aJ Pg cfg 146 0 [156,33,2]=[(.cut 2,[none]),(.cst false,[some 1]),pn]:=kr
theorem XL:aJ Pg cfg 147 0 [144,2]=[(.cut 4,[none]),pn]:=kr
theorem XM:aJ Pg cfg 148 0 [144,2]=[(.cut 4,[none]),pn]:=kr
theorem ab7:aJ Pg cfg 149 0 [211]=[(.cst false,[none,none])]:=kr
theorem Uw:aJ Pg cfg 14 0 [37,3]=[(.cst false,[some 3]),pn]:=kr
theorem ab8:aJ Pg cfg 150 0 [189]=[(.cst false,[none,some 1])]:=kr
theorem ab9:aJ Pg cfg 151 0 [214]=[(.cst false,[none,none,none,none])]:=kr
theorem VG:aJ Pg cfg 152 0 [40,209]=[(.cst false,[some 2]),(.cst false,[none,none])]:=kr
theorem Lj:aJ Pg cfg 153 0 [9]=[pn]:=kr
theorem Oz:aJ Pg cfg 154 0 [40,33]=[(.cst false,[some 2]),(.cst false,[some 1])]:=kr
theorem ae2:aJ Pg cfg 155 0 [40]=[(.cst false,[some 2])]:=kr
theorem VH:aJ Pg cfg 156 0 [44,221]=[(.cst false,[some 3]),pn]:=kr
theorem ae3:aJ Pg cfg 157 0 [95]=[(.cst false,[none,none,none])]:=kr
theorem XN:aJ Pg cfg 158 0 [95]=[(.cst false,[none,none,none])]:=kr
theorem VI:aJ Pg cfg 159 0 [96,224]=[(.cst false,[some 4]),pn]:=kr
theorem XO:aJ Pg cfg 160 0 [179,0]=[(.cst false,[none,none,none,none]),pn]:=kr
theorem SS:aJ Pg cfg 161 0 [179,2,2]=[(.cst false,[none,none,none,none]),pn,pn]:=kr
theorem SX:aJ Pg cfg 169 0 [209,209]=[(.cst false,[none,none]),(.cst false,[none,none])]:=kr
theorem SY:aJ Pg cfg 170 0 [116,116]=[(.cst false,[none,some 1]),(.cst false,[none,some 1])]:=kr
theorem S9:aJ Pg cfg 171 0 [179,179]=[(.cst false,[none,none,none,none]),(.cst false,[none,none,none,none])]:=kr
theorem Hw:aJ Pg cfg 174 0 [43]=[(.cst false,[none,none,some 2,some 2])]:=kr
theorem QU:aJ Pg cfg 175 0 [184,33,2]=[(.cst false,[some 1,some 1]),(.cst false,[some 1]),pn]:=kr
theorem QV:aJ Pg cfg 176 0 [184,33,2]=[(.cst false,[some 1,some 1]),(.cst false,[some 1]),pn]:=kr
theorem acd:aJ Pg cfg 177 0 [144]=[(.cut 4,[none])]:=kr
theorem Ll:aJ Pg cfg 178 0 [9]=[pn]:=kr
theorem Lm:aJ Pg cfg 179 0 [144,33]=[(.cut 4,[none]),(.cst false,[some 1])]:=kr
theorem ahB:aJ Pg cfg 17 0 [51]=[(.cst false,[none,none,some 2,some 2,some 3,some 9,some 5,none,none,none,none,none,none,none,none,some 1,some 1])]:=kr
theorem ae4:aJ Pg cfg 180 0 [40]=[(.cst false,[some 2])]:=kr
theorem Ux:aJ Pg cfg 181 0 [238]=[(.cut 3,[none])]:=kr
theorem Tc:aJ Pg cfg 182 0 [240,2,2]=[(.cut 4,[none]),pn,pn]:=kr
theorem ahC:aJ Pg cfg 183 0 [2]=[pn]:=kr
theorem Nk:aJ Pg cfg 189 0 [2,2]=[pn,pn]:=kr
theorem abj:aJ Pg cfg 18 0 [51]=[(.cst false,[none,none,some 2,some 2,some 3,some 9,some 5,none,none,none,none,none,none,none,none,some 1,some 1])]:=kr
theorem Nl:aJ Pg cfg 196 0 [2,2]=[pn,pn]:=kr
theorem QW:aJ Pg cfg 197 0 [156,33,2]=[(.cut 2,[none]),(.cst false,[some 1]),pn]:=kr
theorem QX:aJ Pg cfg 198 0 [156,33,2]=[(.cut 2,[none]),(.cst false,[some 1]),pn]:=kr
theorem VJ:aJ Pg cfg 199 0 [33,2,2]=[(.cst false,[some 1]),pn,pn]:=kr
theorem ace:aJ Pg cfg 19 0 [28,3]=[(.cst false,[none,none,some 2,some 2,some 3]),pn]:=kr
theorem Lp:aJ Pg cfg 200 0 [144,209,209]=[(.cut 4,[none]),(.cst false,[none,none]),(.cst false,[none,none])]:=kr
theorem VK:aJ Pg cfg 201 0 [40,209]=[(.cst false,[some 2]),(.cst false,[none,none])]:=kr
theorem ae5:aJ Pg cfg 202 0 [40]=[(.cst false,[some 2])]:=kr
theorem kX:aJ Pg cfg 203 0 [209,209,209]=[(.cst false,[none,none]),(.cst false,[none,none]),(.cst false,[none,none])]:=kr
theorem Gn:aJ Pg cfg 204 0 [209,209,209,209]=[(.cst false,[none,none]),(.cst false,[none,none]),(.cst false,[none,none]),(.cst false,[none,none])]:=kr
theorem VL:aJ Pg cfg 205 0 [44,221]=[(.cst false,[some 3]),pn]:=kr
theorem ahD:aJ Pg cfg 206 0 [9]=[pn]:=kr
theorem VM:aJ Pg cfg 207 0 [96,224]=[(.cst false,[some 4]),pn]:=kr
theorem acf:aJ Pg cfg 20 0 [29,3]=[(.cst false,[some 9]),pn]:=kr
theorem jE:aJ Pg cfg 215 0 [209,209,209]=[(.cst false,[none,none]),(.cst false,[none,none]),(.cst false,[none,none])]:=kr
theorem ae6:aJ Pg cfg 216 0 [33]=[(.cst false,[some 1])]:=kr
theorem Td:aJ Pg cfg 217 0 [266,271]=[(.cst false,[some 2]),pn]:=kr
theorem Tf:aJ Pg cfg 218 0 [269,0,0]=[(.cst false,[none,none]),pn,pn]:=kr
theorem Ti:aJ Pg cfg 219 0 [266,269]=[(.cst false,[some 2]),(.cst false,[none,none])]:=kr
theorem acg:aJ Pg cfg 21 0 [30,3]=[(.cst false,[some 5]),pn]:=kr
theorem Lr:aJ Pg cfg 220 0 [33,142]=[(.cst false,[some 1]),pn]:=kr
theorem ach:aJ Pg cfg 221 0 [2,0]=[pn,pn]:=kr
theorem aci:aJ Pg cfg 222 0 [2,0]=[pn,pn]:=kr
theorem abk:aJ Pg cfg 223 0 [5]=[pn]:=kr
theorem ahE:aJ Pg cfg 224 0 [5]=[pn]:=kr
theorem acj:aJ Pg cfg 225 0 [209]=[(.cst false,[none,none])]:=kr
theorem kZ:aJ Pg cfg 226 0 [209,209,209]=[(.cst false,[none,none]),(.cst false,[none,none]),(.cst false,[none,none])]:=kr
theorem Gp:aJ Pg cfg 227 0 [209,209,209,209]=[(.cst false,[none,none]),(.cst false,[none,none]),(.cst false,[none,none]),(.cst false,[none,none])]:=kr
theorem ahF:aJ Pg cfg 228 0 [9]=[pn]:=kr
theorem aku:aJ Pg cfg 229 0 []=[]:=kr
theorem Np:aJ Pg cfg 22 0 [33,3]=[(.cst false,[some 1]),pn]:=kr
theorem ahG:aJ Pg cfg 230 0 [2]=[pn]:=kr
theorem iC:aJ Pg cfg 232 0 [209,209,209]=[(.cst false,[none,none]),(.cst false,[none,none]),(.cst false,[none,none])]:=kr
theorem ack:aJ Pg cfg 239 0 [209]=[(.cst false,[none,none])]:=kr
theorem acm:aJ Pg cfg 23 0 [63,3]=[(.cut 17,[none]),pn]:=kr
theorem Gq:aJ Pg cfg 240 0 [209,209,209,209]=[(.cst false,[none,none]),(.cst false,[none,none]),(.cst false,[none,none]),(.cst false,[none,none])]:=kr
theorem ahH:aJ Pg cfg 241 0 [9]=[pn]:=kr
theorem Tj:aJ Pg cfg 244 0 [266,271]=[(.cst false,[some 2]),pn]:=kr
theorem Tm:aJ Pg cfg 245 0 [266,269]=[(.cst false,[some 2]),(.cst false,[none,none])]:=kr
theorem Ls:aJ Pg cfg 246 0 [33,142]=[(.cst false,[some 1]),pn]:=kr
theorem Gs:aJ Pg cfg 247 0 [209,209,209,209]=[(.cst false,[none,none]),(.cst false,[none,none]),(.cst false,[none,none]),(.cst false,[none,none])]:=kr
theorem akv:aJ Pg cfg 248 0 []=[]:=kr
theorem ahI:aJ Pg cfg 24 0 [28]=[(.cst false,[none,none,some 2,some 2,some 3])]:=kr
theorem Lt:aJ Pg cfg 250 0 [209,209,209]=[(.cst false,[none,none]),(.cst false,[none,none]),(.cst false,[none,none])]:=kr
theorem ahJ:aJ Pg cfg 25 0 [29]=[(.cst false,[some 9])]:=kr
theorem ahK:aJ Pg cfg 26 0 [30]=[(.cst false,[some 5])]:=kr
theorem ahL:aJ Pg cfg 27 0 [32]=[(.cst false,[none,none,none,none])]:=kr
theorem VN:aJ Pg cfg 28 0 [33]=[(.cst false,[some 1])]:=kr
theorem ahM:aJ Pg cfg 29 0 [51]=[(.cst false,[none,none,some 2,some 2,some 3,some 9,some 5,none,none,none,none,none,none,none,none,some 1,some 1])]:=kr
theorem Y7:aJ Pg cfg 31 0 [73,73]=[(.cst false,[none,none,none]),(.cst false,[none,none,none])]:=kr
theorem Y8:aJ Pg cfg 32 0 [46,46]=[(.cst false,[none,none,some 2,some 2,some 3]),(.cst false,[none,none,some 2,some 2,some 3])]:=kr
theorem Y9:aJ Pg cfg 33 0 [47,47]=[(.cst false,[some 9]),(.cst false,[some 9])]:=kr
theorem Za:aJ Pg cfg 34 0 [48,48]=[(.cst false,[some 5]),(.cst false,[some 5])]:=kr
theorem Zb:aJ Pg cfg 35 0 [49,49]=[(.cst false,[none,none,none,none]),(.cst false,[none,none,none,none])]:=kr
theorem JX:aJ Pg cfg 36 0 [33,33]=[(.cst false,[some 1]),(.cst false,[some 1])]:=kr
theorem acn:aJ Pg cfg 37 0 [46,3]=[(.ws,[none,none,some 2,some 2,some 3]),pn]:=kr
theorem aco:aJ Pg cfg 38 0 [47,3]=[(.ws,[some 9]),pn]:=kr
theorem acp:aJ Pg cfg 39 0 [48,3]=[(.row,[some 5]),pn]:=kr
theorem Nq:aJ Pg cfg 40 0 [33,3]=[(.row,[some 1]),pn]:=kr
theorem Fz:aJ Pg cfg 41 0 [3]=[pn]:=kr
theorem ahN:aJ Pg cfg 43 0 [51]=[(.cst false,[none,none,some 2,some 2,some 3,some 9,some 5,none,none,none,none,none,none,none,none,some 1,some 1])]:=kr
theorem acr:aJ Pg cfg 44 0 [25,3]=[(.cst false,[none,none,some 2,some 2]),pn]:=kr
theorem acs:aJ Pg cfg 45 0 [26,3]=[(.cst false,[some 3]),pn]:=kr
theorem acu:aJ Pg cfg 46 0 [90,3]=[(.cst false,[none,none,none,none,none,none,none,none,some 4]),pn]:=kr
theorem ahO:aJ Pg cfg 47 0 [63]=[(.cut 17,[none])]:=kr
theorem ahP:aJ Pg cfg 48 0 [63]=[(.cut 17,[none])]:=kr
theorem ahQ:aJ Pg cfg 49 0 [63]=[(.cut 17,[none])]:=kr
theorem ahR:aJ Pg cfg 50 0 [63]=[(.cut 17,[none])]:=kr
theorem ahS:aJ Pg cfg 51 0 [63]=[(.cut 17,[none])]:=kr
theorem ahT:aJ Pg cfg 52 0 [25]=[(.cst false,[none,none,some 2,some 2])]:=kr
theorem ahU:aJ Pg cfg 53 0 [26]=[(.cst false,[some 3])]:=kr
theorem ahV:aJ Pg cfg 54 0 [90]=[(.cst false,[none,none,none,none,none,none,none,none,some 4])]:=kr
theorem ae7:aJ Pg cfg 55 0 [103]=[(.cst false,[none,none,none,none,none])]:=kr
theorem ahW:aJ Pg cfg 56 0 [46]=[(.cst false,[none,none,some 2,some 2,some 3])]:=kr
theorem ahX:aJ Pg cfg 57 0 [47]=[(.cst false,[some 9])]:=kr
theorem ahY:aJ Pg cfg 58 0 [48]=[(.cst false,[some 5])]:=kr
theorem ahZ:aJ Pg cfg 59 0 [49]=[(.cst false,[none,none,none,none])]:=kr
theorem bV:aJ Pg cfg 60 0 [2,2,2]=[pn,pn,pn]:=kr
theorem Uy:aJ Pg cfg 61 0 [33,3]=[(.cst false,[some 1]),pn]:=kr
theorem Zc:aJ Pg cfg 64 0 [43,43]=[(.cst false,[none,none,some 2,some 2]),(.cst false,[none,none,some 2,some 2])]:=kr
theorem Zd:aJ Pg cfg 65 0 [44,44]=[(.cst false,[some 3]),(.cst false,[some 3])]:=kr
theorem Ze:aJ Pg cfg 66 0 [98,98]=[(.cst false,[none,none,none,none,none,none,none,none,some 4]),(.cst false,[none,none,none,none,none,none,none,none,some 4])]:=kr
theorem VO:aJ Pg cfg 67 0 [101,101]=[(.cst false,[none,none,none,none,none]),(.cst false,[none,none,none,none,none])]:=kr
theorem acv:aJ Pg cfg 68 0 [43,3]=[(.ws,[none,none,some 2,some 2]),pn]:=kr
theorem acw:aJ Pg cfg 69 0 [44,3]=[(.row,[some 3]),pn]:=kr
theorem ae8:aJ Pg cfg 6 0 [35,3]=[(.cst false,[none,none,some 2,some 2,some 3,some 9,some 5,none,none,none,none,none,none,none,none,some 1,some 1]),pn]:=kr
theorem acy:aJ Pg cfg 70 0 [96,3]=[(.row,[some 4]),pn]:=kr
theorem Zg:aJ Pg cfg 73 0 [43,33]=[(.cst false,[none,none,some 2,some 2]),(.cst false,[some 1])]:=kr
theorem I4:aJ Pg cfg 74 0 [33,2]=[(.cst false,[some 1]),pn]:=kr
theorem acz:aJ Pg cfg 75 0 [22,3]=[(.cst false,[some 2]),pn]:=kr
theorem acA:aJ Pg cfg 76 0 [23,3]=[(.cst false,[some 2]),pn]:=kr
theorem Uz:aJ Pg cfg 77 0 [87,3]=[(.cst false,[none,none,none]),pn]:=kr
theorem acB:aJ Pg cfg 78 0 [88,3]=[(.cst false,[some 4]),pn]:=kr
theorem Hy:aJ Pg cfg 79 0 [137]=[(.cut 5,[none])]:=kr
theorem Pz:aJ Pg cfg 80 0 [47]=[(.cst false,[some 9])]:=kr
theorem VP:aJ Pg cfg 81 0 [48]=[(.cst false,[some 5])]:=kr
theorem OA:aJ Pg cfg 82 0 [137,48]=[(.cut 5,[none]),(.cst false,[some 5])]:=kr
theorem ae9:aJ Pg cfg 83 0 [140]=[(.cut 4,[none])]:=kr
theorem Lu:aJ Pg cfg 84 0 [2,2]=[pn,pn]:=kr
theorem Zh:aJ Pg cfg 85 0 [2]=[pn]:=kr
theorem afa:aJ Pg cfg 86 0 [2]=[pn]:=kr
theorem XP:aJ Pg cfg 87 0 [144,33]=[(.cut 4,[none]),(.cst false,[some 1])]:=kr
theorem Nr:aJ Pg cfg 89 0 [63,2]=[(.cut 17,[none]),pn]:=kr
theorem VQ:aJ Pg cfg 8 0 [35]=[(.cst false,[none,none,some 2,some 2,some 3,some 9,some 5,none,none,none,none,none,none,none,none,some 1,some 1])]:=kr
theorem XQ:aJ Pg cfg 97 0 [156,33]=[(.cut 2,[none]),(.cst false,[some 1])]:=kr
theorem afb:aJ Pg cfg 98 0 [144]=[(.cut 4,[none])]:=kr
theorem I5:aJ Pg cfg 99 0 [33,2]=[(.cst false,[some 1]),pn]:=kr
theorem VR:∀(a0:Int) (a1:Int) (b0:Int) (b1:Int),PE Pg 209 .eql [.int .i64 a0,.int .i64 a1] [.int .i64 b0,.int .i64 b1]=some (.bool ((a0==b0)&&(a1==b1))):=by intros;kernel_rfl
theorem akw:∀(a0:Int) (a1:Int) (b0:Int) (b1:Int),PE Pg 269 .eql [.int .i64 a0,.int .i64 a1] [.int .i64 b0,.int .i64 b1]=some (.bool ((a0==b0)&&(a1==b1))):=by intros;kernel_rfl
theorem akx:rK Pg Tryz.f10=[(.tmp 4,[none],none)]:=kr
theorem al0:rK Pg Tryz.f100=[(.tmp 2,[some 2],none)]:=kr
theorem al1:rK Pg Tryz.f101=[(.tmp 2,[some 2],none)]:=kr
theorem al2:rK Pg Tryz.f102=[(.cell 2 95,[none,none,none],some (true,3))]:=kr
theorem al3:rK Pg Tryz.f103=[(.tmp 2,[some 4],none)]:=kr
theorem XR:rK Pg Tryz.f104=[(.tmp 2,[none],none)]:=kr
theorem al4:rK Pg Tryz.f105=[(.tmp 2,[none],none)]:=kr
theorem afc:rK Pg Tryz.f106=[(.tmp 2,[none],none)]:=kr
theorem al5:rK Pg Tryz.f107=[(.tmp 2,[none],none)]:=kr
theorem QY:rK Pg Tryz.f11=[(.tmp 4,[none],none)]:=kr
theorem afd:rK Pg Tryz.f114=[(.tmp 4,[none],none)]:=kr
theorem afe:rK Pg Tryz.f115=[(.tmp 4,[none],none)]:=kr
theorem abl:rK Pg Tryz.f116=[(.tmp 4,[none],none)]:=kr
theorem aff:rK Pg Tryz.f117=[(.tmp 4,[none],none)]:=kr
theorem al6:rK Pg Tryz.f118=[(.tmp 4,[none],none)]:=kr
theorem al7:rK Pg Tryz.f119=[(.tmp 4,[none],none)]:=kr
theorem aoF:rK Pg Tryz.f12=[(.tmp 4,[none],none)]:=kr
theorem al8:rK Pg Tryz.f121=[(.tmp 4,[some 2],none)]:=kr
theorem al9:rK Pg Tryz.f122=[(.tmp 2,[none],none)]:=kr
theorem ama:rK Pg Tryz.f123=[(.cell 2 184,[some 1,some 1],some (true,2))]:=kr
theorem afg:rK Pg Tryz.f124=[(.tmp 6,[none],none)]:=kr
theorem aiE:rK Pg Tryz.f125=[(.tmp 4,[none],none)]:=kr
theorem afh:rK Pg Tryz.f126=[(.tmp 4,[none],none)]:=kr
theorem abm:rK Pg Tryz.f127=[(.tmp 2,[none],none)]:=kr
theorem aiF:rK Pg Tryz.f128=[(.tmp 2,[none],none)]:=kr
theorem abn:rK Pg Tryz.f129=[(.tmp 2,[none],none)]:=kr
theorem aoG:rK Pg Tryz.f13=[(.tmp 4,[none],none)]:=kr
theorem amb:rK Pg Tryz.f130=[(.tmp 2,[none],none)]:=kr
theorem amc:rK Pg Tryz.f131=[(.tmp 4,[none],none)]:=kr
theorem amd:rK Pg Tryz.f132=[(.tmp 6,[none],none)]:=kr
theorem ame:rK Pg Tryz.f134=[(.tmp 4,[some 2],none)]:=kr
theorem amf:rK Pg Tryz.f135=[(.tmp 2,[none],none)]:=kr
theorem ah0:rK Pg Tryz.f14=[(.tmp 4,[none],none)]:=kr
theorem afi:rK Pg Tryz.f146=[(.tmp 6,[none],none)]:=kr
theorem amg:rK Pg Tryz.f147=[(.tmp 4,[some 1],none)]:=kr
theorem aiG:rK Pg Tryz.f148=[(.tmp 4,[none],none)]:=kr
theorem amh:rK Pg Tryz.f149=[(.cell 2 209,[none,none],some (true,2))]:=kr
theorem ami:rK Pg Tryz.f150=[(.cell 2 116,[none,some 1],some (true,2))]:=kr
theorem amj:rK Pg Tryz.f151=[(.cell 2 179,[none,none,none,none],some (true,4))]:=kr
theorem amk:rK Pg Tryz.f152=[(.tmp 4,[none],none)]:=kr
theorem afj:rK Pg Tryz.f153=[(.tmp 2,[none],none)]:=kr
theorem aiH:rK Pg Tryz.f154=[(.tmp 4,[some 2],none),(.tmp 5,[none],none)]:=kr
theorem abo:rK Pg Tryz.f155=[(.tmp 2,[none],none)]:=kr
theorem aml:rK Pg Tryz.f156=[(.tmp 4,[none],none)]:=kr
theorem amm:rK Pg Tryz.f157=[(.tmp 2,[none],none)]:=kr
theorem amn:rK Pg Tryz.f158=[(.tmp 2,[none],none)]:=kr
theorem amo:rK Pg Tryz.f159=[(.tmp 4,[none],none)]:=kr
theorem amq:rK Pg Tryz.f160=[(.tmp 3,[none],none)]:=kr
theorem amr:rK Pg Tryz.f161=[(.tmp 6,[none],none)]:=kr
theorem afk:rK Pg Tryz.f169=[(.tmp 4,[none],none)]:=kr
theorem aoH:rK Pg Tryz.f17=[(.tmp 2,[some 3],none),(.tmp 3,[none],none)]:=kr
theorem afl:rK Pg Tryz.f170=[(.tmp 4,[none],none)]:=kr
theorem XT:rK Pg Tryz.f171=[(.tmp 4,[none],none)]:=kr
theorem ams:rK Pg Tryz.f174=[(.tmp 2,[some 1],none)]:=kr
theorem amu:rK Pg Tryz.f175=[(.tmp 6,[none],none)]:=kr
theorem amv:rK Pg Tryz.f176=[(.tmp 6,[none],none)]:=kr
theorem abp:rK Pg Tryz.f177=[(.tmp 2,[none],none)]:=kr
theorem afm:rK Pg Tryz.f178=[(.tmp 2,[none],none)]:=kr
theorem aiI:rK Pg Tryz.f179=[(.tmp 4,[some 2],none),(.tmp 5,[none],none)]:=kr
theorem amw:rK Pg Tryz.f18=[(.tmp 2,[some 3],none),(.tmp 3,[none],none)]:=kr
theorem XU:rK Pg Tryz.f180=[(.tmp 2,[none],none)]:=kr
theorem aiJ:rK Pg Tryz.f181=[(.tmp 2,[none],none)]:=kr
theorem amx:rK Pg Tryz.f182=[(.tmp 6,[none],none)]:=kr
theorem amy:rK Pg Tryz.f183=[(.tmp 2,[none],none)]:=kr
theorem aiK:rK Pg Tryz.f189=[(.tmp 4,[none],none)]:=kr
theorem aky:rK Pg Tryz.f19=[(.tmp 4,[none],none)]:=kr
theorem aiL:rK Pg Tryz.f196=[(.tmp 4,[none],none)]:=kr
theorem afn:rK Pg Tryz.f197=[(.tmp 6,[none],none)]:=kr
theorem afo:rK Pg Tryz.f198=[(.tmp 6,[none],none)]:=kr
theorem aiM:rK Pg Tryz.f199=[(.tmp 6,[none],none)]:=kr
theorem akz:rK Pg Tryz.f20=[(.tmp 4,[none],none)]:=kr
theorem amz:rK Pg Tryz.f200=[(.tmp 6,[none],none)]:=kr
theorem aiN:rK Pg Tryz.f201=[(.tmp 4,[none],none)]:=kr
theorem aiO:rK Pg Tryz.f202=[(.tmp 2,[none],none)]:=kr
theorem amA:rK Pg Tryz.f203=[(.tmp 6,[none],none)]:=kr
theorem amB:rK Pg Tryz.f204=[(.tmp 8,[none],none)]:=kr
theorem aiP:rK Pg Tryz.f205=[(.tmp 4,[none],none)]:=kr
theorem amC:rK Pg Tryz.f206=[(.tmp 2,[none],none),(.tmp 3,[none],none)]:=kr
theorem aiQ:rK Pg Tryz.f207=[(.tmp 4,[none],none)]:=kr
theorem amD:rK Pg Tryz.f21=[(.tmp 4,[none],none)]:=kr
theorem afp:rK Pg Tryz.f215=[(.tmp 6,[none],none)]:=kr
theorem amE:rK Pg Tryz.f216=[(.tmp 2,[some 2],none)]:=kr
theorem amF:rK Pg Tryz.f217=[(.tmp 4,[none],none)]:=kr
theorem amG:rK Pg Tryz.f218=[(.tmp 4,[none],none)]:=kr
theorem amH:rK Pg Tryz.f219=[(.tmp 4,[none],none)]:=kr
theorem amI:rK Pg Tryz.f22=[(.tmp 4,[none],none)]:=kr
theorem aiR:rK Pg Tryz.f220=[(.tmp 4,[none],none)]:=kr
theorem amJ:rK Pg Tryz.f221=[(.tmp 3,[none],none)]:=kr
theorem amK:rK Pg Tryz.f222=[(.tmp 3,[none],none)]:=kr
theorem amL:rK Pg Tryz.f223=[(.tmp 2,[none],none)]:=kr
theorem amM:rK Pg Tryz.f224=[(.tmp 2,[none],none)]:=kr
theorem amN:rK Pg Tryz.f225=[(.tmp 2,[none],none)]:=kr
theorem amO:rK Pg Tryz.f226=[(.tmp 6,[none],none)]:=kr
theorem amP:rK Pg Tryz.f227=[(.tmp 8,[none],none)]:=kr
theorem aiS:rK Pg Tryz.f228=[(.tmp 2,[none],none)]:=kr
theorem amQ:rK Pg Tryz.f229=[(.tmp 0,[some 1],none)]:=kr
theorem afq:rK Pg Tryz.f23=[(.tmp 4,[some 3],none),(.tmp 5,[none],none)]:=kr
theorem amR:rK Pg Tryz.f230=[(.tmp 2,[none],none)]:=kr
theorem afr:rK Pg Tryz.f232=[(.tmp 6,[none],none)]:=kr
theorem amS:rK Pg Tryz.f239=[(.tmp 2,[none],none)]:=kr
theorem aoI:rK Pg Tryz.f24=[(.cell 2 46,[none,none,some 2,some 2,some 3],some (true,5))]:=kr
theorem amT:rK Pg Tryz.f240=[(.tmp 8,[none],none)]:=kr
theorem Hz:rK Pg Tryz.f241=[(.tmp 2,[none],none),(.tmp 3,[none],none),(.tmp 4,[none],none),(.tmp 5,[none],none)]:=kr
theorem aiT:rK Pg Tryz.f244=[(.tmp 4,[none],none)]:=kr
theorem aiU:rK Pg Tryz.f245=[(.tmp 4,[none],none)]:=kr
theorem abq:rK Pg Tryz.f246=[(.tmp 4,[none],none)]:=kr
theorem amU:rK Pg Tryz.f247=[(.tmp 8,[none],none)]:=kr
theorem amV:rK Pg Tryz.f248=[(.tmp 0,[some 1],none)]:=kr
theorem aoJ:rK Pg Tryz.f25=[(.tmp 2,[some 9],none)]:=kr
theorem amW:rK Pg Tryz.f250=[(.tmp 6,[none],none)]:=kr
theorem aoK:rK Pg Tryz.f26=[(.tmp 2,[some 5],none)]:=kr
theorem aoL:rK Pg Tryz.f27=[(.cell 2 49,[none,none,none,none],some (true,4))]:=kr
theorem aoM:rK Pg Tryz.f28=[(.tmp 2,[some 1],none)]:=kr
theorem akA:rK Pg Tryz.f29=[(.tmp 2,[none],none)]:=kr
theorem ah1:rK Pg Tryz.f31=[(.tmp 4,[none],none)]:=kr
theorem akB:rK Pg Tryz.f32=[(.tmp 4,[none],none)]:=kr
theorem akC:rK Pg Tryz.f33=[(.tmp 4,[none],none)]:=kr
theorem akD:rK Pg Tryz.f34=[(.tmp 4,[none],none)]:=kr
theorem afs:rK Pg Tryz.f35=[(.tmp 4,[none],none)]:=kr
theorem akE:rK Pg Tryz.f36=[(.tmp 4,[none],none)]:=kr
theorem aoN:rK Pg Tryz.f37=[(.tmp 4,[none],none)]:=kr
theorem aoO:rK Pg Tryz.f38=[(.tmp 4,[none],none)]:=kr
theorem aoP:rK Pg Tryz.f39=[(.tmp 4,[none],none)]:=kr
theorem aoQ:rK Pg Tryz.f40=[(.tmp 4,[none],none)]:=kr
theorem amX:rK Pg Tryz.f41=[(.tmp 2,[none],none)]:=kr
theorem aoR:rK Pg Tryz.f43=[(.tmp 2,[some 3],none)]:=kr
theorem akF:rK Pg Tryz.f44=[(.tmp 4,[none],none)]:=kr
theorem akG:rK Pg Tryz.f45=[(.tmp 4,[none],none)]:=kr
theorem afu:rK Pg Tryz.f46=[(.tmp 4,[none],none)]:=kr
theorem amY:rK Pg Tryz.f47=[(.tmp 2,[none],none)]:=kr
theorem rF5:rK Pg Tryz.f5=[(.tmp 2,[none],none)]:=kr
theorem aoS:rK Pg Tryz.f51=[(.tmp 2,[some 3],none)]:=kr
theorem aoT:rK Pg Tryz.f52=[(.cell 2 43,[none,none,some 2,some 2],some (true,4))]:=kr
theorem aoU:rK Pg Tryz.f53=[(.tmp 2,[some 3],none)]:=kr
theorem aoV:rK Pg Tryz.f54=[(.cell 2 98,[none,none,none,none,none,none,none,none,some 4],some (true,9))]:=kr
theorem aoW:rK Pg Tryz.f55=[(.cell 2 101,[none,none,none,none,none],some (true,5))]:=kr
theorem aoX:rK Pg Tryz.f56=[(.tmp 2,[none],none)]:=kr
theorem amZ:rK Pg Tryz.f57=[(.tmp 2,[none],none)]:=kr
theorem am0:rK Pg Tryz.f58=[(.tmp 2,[none],none)]:=kr
theorem aoY:rK Pg Tryz.f59=[(.tmp 2,[none],none)]:=kr
theorem rF6:rK Pg Tryz.f6=[(.tmp 4,[none],none)]:=kr
theorem aoZ:rK Pg Tryz.f60=[(.tmp 6,[none],none)]:=kr
theorem am1:rK Pg Tryz.f61=[(.tmp 4,[none],none)]:=kr
theorem afv:rK Pg Tryz.f64=[(.tmp 4,[none],none)]:=kr
theorem akH:rK Pg Tryz.f65=[(.tmp 4,[none],none)]:=kr
theorem XV:rK Pg Tryz.f66=[(.tmp 4,[none],none)]:=kr
theorem acC:rK Pg Tryz.f67=[(.tmp 4,[none],none)]:=kr
theorem ao0:rK Pg Tryz.f68=[(.tmp 4,[none],none)]:=kr
theorem ao1:rK Pg Tryz.f69=[(.tmp 4,[none],none)]:=kr
theorem ao2:rK Pg Tryz.f70=[(.tmp 4,[none],none)]:=kr
theorem ah2:rK Pg Tryz.f73=[(.tmp 4,[none],none),(.tmp 5,[none],none),(.tmp 6,[none],none)]:=kr
theorem ao3:rK Pg Tryz.f74=[(.tmp 4,[none],none)]:=kr
theorem am2:rK Pg Tryz.f75=[(.tmp 4,[none],none)]:=kr
theorem akI:rK Pg Tryz.f76=[(.tmp 4,[none],none)]:=kr
theorem am3:rK Pg Tryz.f77=[(.tmp 4,[none],none)]:=kr
theorem am4:rK Pg Tryz.f78=[(.tmp 4,[none],none)]:=kr
theorem ao4:rK Pg Tryz.f79=[(.tmp 2,[none],none)]:=kr
theorem rF8:rK Pg Tryz.f8=[(.cell 2 51,[none,none,some 2,some 2,some 3,some 9,some 5,none,none,none,none,none,none,none,none,some 1,some 1],some (true,17))]:=kr
theorem am5:rK Pg Tryz.f80=[(.tmp 2,[none],none)]:=kr
theorem am6:rK Pg Tryz.f81=[(.tmp 2,[none],none)]:=kr
theorem am7:rK Pg Tryz.f82=[(.tmp 4,[none],none)]:=kr
theorem ao5:rK Pg Tryz.f83=[(.tmp 2,[none],none)]:=kr
theorem ao6:rK Pg Tryz.f84=[(.tmp 4,[none],none)]:=kr
theorem ao7:rK Pg Tryz.f85=[(.tmp 2,[none],none)]:=kr
theorem ao8:rK Pg Tryz.f86=[(.tmp 2,[none],none)]:=kr
theorem am8:rK Pg Tryz.f87=[(.tmp 4,[none],none)]:=kr
theorem ao9:rK Pg Tryz.f89=[(.tmp 4,[none],none)]:=kr
theorem am9:rK Pg Tryz.f97=[(.tmp 4,[none],none),(.tmp 5,[none],none)]:=kr
theorem apa:rK Pg Tryz.f98=[(.tmp 2,[none],none)]:=kr
theorem ana:rK Pg Tryz.f99=[(.tmp 4,[none],none)]:=kr
theorem anb:gm Pg 125=some (5,1,[none],false,1,[.im 0 (.sc (.int .u8 0))]):=kr
theorem EF:gm Pg 126=some (33,1,[some 1],false,24,[.nil]):=kr
theorem aiV:gm Pg 149=some (9,1,[none],false,16,[z1]):=kr
theorem Ju:gm Pg 182=some (4,1,[none],false,1,[.im 0 (.sc (.bool false))]):=kr
theorem apb:gm Pg 22=some (211,2,[none,none],true,16,[z0,z0]):=kr
theorem anc:gm Pg 23=some (189,2,[none,some 1],true,40,[z1,.nil]):=kr
theorem ane:gm Pg 26=some (87,3,[none,none,none],true,32,[z1,z0,z0]):=kr
theorem XW:gm Pg 265=some (266,1,[some 2],false,24,[.nil]):=kr
theorem XX:gm Pg 266=some (269,2,[none,none],true,16,[z0,z0]):=kr
theorem anf:gm Pg 29=some (90,9,[none,none,none,none,none,none,none,none,some 4],true,112,[z1,z1,z0,z1,z0,z0,z0,z0,.nil]):=kr
theorem apc:gm Pg 30=some (103,5,[none,none,none,none,none],true,40,[z0,z0,z0,z0,z0]):=kr
theorem lS:gm Pg 33=some (2,1,[none],false,8,[z0]):=kr
theorem EG:gm Pg 37=some (73,3,[none,none,none],true,40,[z0,z1,z1]):=kr
theorem oZ:gm Pg 40=some (209,2,[none,none],true,16,[z0,z0]):=kr
theorem EH:gm Pg 41=some (116,2,[none,some 1],true,40,[z1,.nil]):=kr
theorem VS:gm Pg 44=some (95,3,[none,none,none],true,32,[z1,z0,z0]):=kr
theorem EI:gm Pg 47=some (98,9,[none,none,none,none,none,none,none,none,some 4],true,112,[z1,z1,z0,z1,z0,z0,z0,z0,.nil]):=kr
theorem Gt:gm Pg 48=some (101,5,[none,none,none,none,none],true,40,[z0,z0,z0,z0,z0]):=kr
theorem ape:gm Pg 88=some (214,4,[none,none,none,none],true,32,[z0,z0,z0,z0]):=kr
theorem Tn:gm Pg 96=some (179,4,[none,none,none,none],true,32,[z0,z0,z0,z0]):=kr
theorem Bo:tyF Pg 101=some ([z0,z0,z0,z0,z0],[none,none,none,none,none],true,5):=kr
theorem aiW:tyF Pg 103=some ([z0,z0,z0,z0,z0],[none,none,none,none,none],true,5):=kr
theorem zh:tyF Pg 116=some ([z1,.nil],[none,some 1],true,2):=kr
theorem OB:tyF Pg 126=some ([.nil],[some 1],false,1):=kr
theorem EJ:tyF Pg 179=some ([z0,z0,z0,z0],[none,none,none,none],true,4):=kr
theorem XY:tyF Pg 182=some ([.nil],[some 1],false,1):=kr
theorem qB:tyF Pg 184=some ([.nil,.nil],[some 1,some 1],true,2):=kr
theorem abr:tyF Pg 189=some ([z1,.nil],[none,some 1],true,2):=kr
theorem tF2:tyF Pg 2=some ([z0],[none],false,1):=kr
theorem ang:tyF Pg 206=some ([.nil,.nil],[some 1,some 1],true,2):=kr
theorem aC:tyF Pg 209=some ([z0,z0],[none,none],true,2):=kr
theorem aiX:tyF Pg 211=some ([z0,z0],[none,none],true,2):=kr
theorem aiY:tyF Pg 214=some ([z0,z0,z0,z0],[none,none,none,none],true,4):=kr
theorem anh:tyF Pg 22=some ([.nil],[some 2],false,1):=kr
theorem ani:tyF Pg 23=some ([.nil],[some 2],false,1):=kr
theorem ah3:tyF Pg 25=some ([z0,z0,.nil,.nil],[none,none,some 2,some 2],true,4):=kr
theorem anj:tyF Pg 26=some ([.nil],[some 3],false,1):=kr
theorem LC:tyF Pg 265=some ([.nil],[some 1],false,1):=kr
theorem aiZ:tyF Pg 266=some ([.nil],[some 2],false,1):=kr
theorem OC:tyF Pg 269=some ([z0,z0],[none,none],true,2):=kr
theorem ah4:tyF Pg 28=some ([z0,z0,.nil,.nil,.nil],[none,none,some 2,some 2,some 3],true,5):=kr
theorem ank:tyF Pg 29=some ([.nil],[some 9],false,1):=kr
theorem tF3:tyF Pg 3=some ([z0],[none],false,1):=kr
theorem anl:tyF Pg 30=some ([.nil],[some 5],false,1):=kr
theorem anm:tyF Pg 32=some ([z0,z0,z0,z0],[none,none,none,none],true,4):=kr
theorem l9:tyF Pg 33=some ([.nil],[some 1],false,1):=kr
theorem XZ:tyF Pg 35=some ([z0,z0,.nil,.nil,.nil,.nil,.nil,z0,z0,z0,z0,z0,z0,z0,z0,.nil,.nil],[none,none,some 2,some 2,some 3,some 9,some 5,none,none,none,none,none,none,none,none,some 1,some 1],true,17):=kr
theorem tF4:tyF Pg 4=some ([.im 0 (.sc (.bool false))],[none],false,1):=kr
theorem HY:tyF Pg 40=some ([.nil],[some 2],false,1):=kr
theorem yU:tyF Pg 41=some ([.nil],[some 2],false,1):=kr
theorem Du:tyF Pg 43=some ([z0,z0,.nil,.nil],[none,none,some 2,some 2],true,4):=kr
theorem Tq:tyF Pg 44=some ([.nil],[some 3],false,1):=kr
theorem Ns:tyF Pg 46=some ([z0,z0,.nil,.nil,.nil],[none,none,some 2,some 2,some 3],true,5):=kr
theorem VT:tyF Pg 47=some ([.nil],[some 9],false,1):=kr
theorem OL:tyF Pg 48=some ([.nil],[some 5],false,1):=kr
theorem QZ:tyF Pg 49=some ([z0,z0,z0,z0],[none,none,none,none],true,4):=kr
theorem Gu:tyF Pg 51=some ([z0,z0,.nil,.nil,.nil,.nil,.nil,z0,z0,z0,z0,z0,z0,z0,z0,.nil,.nil],[none,none,some 2,some 2,some 3,some 9,some 5,none,none,none,none,none,none,none,none,some 1,some 1],true,17):=kr
theorem ah5:tyF Pg 73=some ([z0,z1,z1],[none,none,none],true,3):=kr
theorem acD:tyF Pg 87=some ([z1,z0,z0],[none,none,none],true,3):=kr
theorem ann:tyF Pg 88=some ([.nil],[some 4],false,1):=kr
theorem tF9:tyF Pg 9=some ([z1],[none],false,1):=kr
theorem ah6:tyF Pg 90=some ([z1,z1,z0,z1,z0,z0,z0,z0,.nil],[none,none,none,none,none,none,none,none,some 4],true,9):=kr
theorem H6:tyF Pg 95=some ([z1,z0,z0],[none,none,none],true,3):=kr
theorem VU:tyF Pg 96=some ([.nil],[some 4],false,1):=kr
theorem Jc:tyF Pg 98=some ([z1,z1,z0,z1,z0,z0,z0,z0,.nil],[none,none,none,none,none,none,none,none,some 4],true,9):=kr
theorem ano:Pg.underlying 125=some (.slice 5):=kr
theorem anp:Pg.underlying 126=some (.slice 33):=kr
theorem anq:Pg.underlying 149=some (.slice 9):=kr
theorem anr:Pg.underlying 182=some (.slice 4):=kr
theorem akJ:Pg.underlying 22=some (.slice 211):=kr
theorem ah7:Pg.underlying 23=some (.slice 189):=kr
theorem ah8:Pg.underlying 26=some (.slice 87):=kr
theorem abt:Pg.underlying 265=some (.slice 266):=kr
theorem afw:Pg.underlying 266=some (.slice 269):=kr
theorem ah9:Pg.underlying 29=some (.slice 90):=kr
theorem uF3:Pg.underlying 3=some (.int .i64):=kr
theorem akK:Pg.underlying 30=some (.slice 103):=kr
theorem yV:Pg.underlying 33=some (.slice 2):=kr
theorem Tt:Pg.underlying 37=some (.slice 73):=kr
theorem Ba:Pg.underlying 40=some (.slice 209):=kr
theorem FB:Pg.underlying 41=some (.slice 116):=kr
theorem VV:Pg.underlying 44=some (.slice 95):=kr
theorem X0:Pg.underlying 47=some (.slice 98):=kr
theorem Tu:Pg.underlying 48=some (.slice 101):=kr
theorem uF5:Pg.underlying 5=some (.int .u8):=kr
theorem akL:Pg.underlying 88=some (.slice 214):=kr
theorem uF9:Pg.underlying 9=some .string:=kr
theorem X3:Pg.underlying 96=some (.slice 179):=kr
abbrev FX (i:Nat) (a:List Arg) (r:Res×List Out):Prop:=FL Tryz.prog cfg i a=some r
theorem OO {a_0:(List ae)} {bK:Int} {r:Int} (h:wE a_0 bK=some r):FX 75 [.im 2 false [W 2 af a_0],.im 2 false [I bK]] (B0 [(false,[.im 0 (I r)])]):=by
 unfold wE at h
 refine gn 12 Tryz.func75 rfl ?_
 refine gs<|G0 (q (pA j)<|nl)<|us<|gs<|G0 (q (pM j)<|q (pM j)<|q (pI akJ j)<|q (pB j)<|q (pA j)<|nl)<|us<|gs<|gs<|G0 (q (pM j)<|q (pB j)<|nl)<|us<|gc h j ah (fun hc1 h=>?_) fun hc1 h=>?_
 ·obtain rfl:=rn h
  exact gs<|G0 (q (pA j)<|nl)<|us<|gr am2 j
 ·obtain rfl:=rn h
  exact Go.skip<|us<|gs<|G0 (q (pM j)<|q (pA j)<|nl)<|us<|gr am2 j
theorem Bc {a_0:(List Int)} {bK:Int} {r:Int} (h:oI a_0 bK=some r):FX 22 [.im 2 false [W 1 eI a_0],.im 2 false [I bK]] (B0 [(false,[.im 0 (I r)])]):=by
 unfold oI at h
 refine gn 12 Tryz.func22 rfl ?_
 refine gs<|G0 (q (pA j)<|nl)<|us<|gs<|G0 (q (pM j)<|q (pM j)<|q (pI yV j)<|q (pB j)<|q (pA j)<|nl)<|us<|gs<|gs<|G0 (q (pM j)<|q (pB j)<|nl)<|us<|gc h j ah (fun hc1 h=>?_) fun hc1 h=>?_
 ·obtain rfl:=rn h
  exact gs<|G0 (q (pA j)<|nl)<|us<|gr amI j
 ·obtain rfl:=rn h
  exact Go.skip<|us<|gs<|G0 (q (pM j)<|q (pA j)<|nl)<|us<|gr amI j
theorem Tv {a_0:bT} {bK:Int} {r:Int} (h:Af a_0 bK=some r):FX 126 [.im 2 true (wO a_0),.im 2 false [I bK]] (B0 [(false,[.im 0 (I r)])]):=by
 unfold Af at h
 refine gn 19 Tryz.func126 rfl ?_
 refine gs<|G0 (q (pX abr j (tkI (tkI tk0)))<|q (pA j)<|nl)<|us<|gs<|G0 (q (pM j)<|q (pF (r':=.mp 2 0 0) abg j)<|q (l0 tF9 j)<|q (U6 j j uF9 j)<|q (pB j)<|q (pA j)<|nl)<|us<|gs<|gs<|G0 (q (pM j)<|q (pB j)<|nl)<|us<|gc h j ah (fun hc1 h=>?_) fun hc1 h=>?_
 ·obtain rfl:=rn h
  exact gs<|G0 (q (pA j)<|nl)<|us<|gr afh j
 ·refine Go.skip<|us<|gs<|?_
  obtain ⟨x15,rW,h⟩:=bs h
  refine G0 (q (pF (r':=.mp 2 0 1) abh j)<|q (l2 l9 j)<|q (pM j)<|q (c1 (Bc rW) Np j j j j)<|q (pA j)<|nl)<|us<|gs<|gs<|G0 (q (pM j)<|q (pB j)<|nl)<|us<|gc h j ah (fun hc2 h=>?_) fun hc2 h=>?_
  ·obtain rfl:=rn h
   exact gs<|G0 (q (pA j)<|nl)<|us<|gr afh j
  ·obtain rfl:=rn h
   exact Go.skip<|us<|gs<|G0 (q (pM j)<|q (pA j)<|nl)<|us<|gr afh j
theorem Q3 {a_0:(List bT)} {bK:Int} {r:Int} (h:yj a_0 bK=some r):FX 76 [.im 2 false [W 2 aQ a_0],.im 2 false [I bK]] (B0 [(false,[.im 0 (I r)])]):=by
 unfold yj at h
 refine gn 27 Tryz.func76 rfl ?_
 refine gs<|G0 (q (pA j)<|nl)<|us<|gs<|G0 (q (pM j)<|q (pM j)<|q (pI ah7 j)<|q (pB j)<|q (pA j)<|nl)<|us<|gs<|gs<|G0 (q (pM j)<|q (pB j)<|nl)<|us<|gc h j ah (fun hc1 h=>?_) fun hc1 h=>?_
 ·obtain rfl:=rn h
  exact gs<|G0 (q (pA j)<|nl)<|us<|gr akI j
 ·refine Go.skip<|us<|gs<|gs<|G0 (q (pA j)<|nl)<|us<|Go.block<|?_
  obtain ⟨o,hl,h⟩:=bs h
  refine gl c76 j _ (fun (s:(Int×Int))=>match s with | (jl,o9)=>mk [(0,D 2 (W 2 aQ a_0)),(1,iv jl),(5,iv o9)] []) (fun (o:(Int ⊕ Int)) (p:Ex×St)=>match o with | (.inl gG)=>p.1= .exit 0∧p.2.norm ([1],[])=mk [(1,iv gG)] [] | (.inr r2)=>p.1= .ret∧fin Tryz.prog cfg 76 Tryz.f76 [.im 2 false [W 2 aQ a_0],.im 2 false [I bK]] p.2=some (B0 [(false,[.im 0 (I r2)])])) hl (by kernel_rfl) ?_ ?_ ?_
  ·intro o p hp e
   rcases o with gG | r2<;>exact nomatch (hp.1.symm.trans e)
  ·rintro ⟨jl,o9⟩ o h
   unfold qR at h
   dsimp only at h
   refine gs<|gs<|G0 (q (pM j)<|q (pM j)<|q (pI ah7 j)<|q (pB j)<|nl)<|us<|gc h j ah (fun hc6 h=>?_) fun hc6 h=>?_
   ·refine Go.skip<|us<|gs<|Go.block<|gs<|?_
    obtain ⟨x20,ny,x23,oq,h⟩:=b2 h
    refine G0 (q (pM j)<|q (pM j)<|q (pJ ny anc j)<|q (pL (cs:=[.im 2 _,.im 2 _]) abr j)<|q (pM j)<|q (c1 (Tv oq) XI j j j j)<|q (pA j)<|nl)<|us<|gs<|G0 (q (pM j)<|q (pB j)<|nl)<|us<|gc h j ah (fun hc7 h=>?_) fun hc7 h=>?_
    ·refine gs<|G0 (q (pA j)<|nl)<|us<|Go.ret (Unw.ret ?_)
     cases h
     exact ⟨j,(fo akI j)⟩
    ·refine Go.skip<|Unw.blk<|us<|G0 (q (pM j)<|q (pB j)<|q (pA j)<|nl)<|Unw.nil<|?_
     cases h
     exact ⟨j,(by kernel_rfl)⟩
   ·refine Go.exit<|ux<|Unw.nil<|?_
    cases h
    exact ⟨j,(by kernel_rfl)⟩
  ·rintro ⟨e,st⟩ hp
   rcases o with gG | r2
   ·dsimp only at h
    obtain ⟨he,hst⟩:=hp
    obtain rfl:e= .exit 0:=he
    obtain rfl:=rn h
    exact Unw.gz<|us<|gs<|g2 c76 j j hst (q (pM j)<|q (pA j)<|nl)<|us<|gr akI j
   ·dsimp only at h
    obtain ⟨he,hfin⟩:=hp
    obtain rfl:e= .ret:=he
    cases h
    exact Unw.ret (di hfin)
theorem Nu {a_0:aB} {bK:Int} {r:Int} (h:ug a_0 bK=some r):FX 44 [.im 2 true (au a_0),.im 2 false [I bK]] (B0 [(false,[.im 0 (I r)])]):=by
 unfold ug at h
 refine gn 18 Tryz.func44 rfl ?_
 refine gs<|G0 (q (pX ah3 j (tkI (tkI (tkI (tkI tk0)))))<|q (pA j)<|nl)<|us<|gs<|?_
 obtain ⟨x8,hx8,h⟩:=bs h
 refine G0 (q (pF (r':=.mp 2 0 2) aeH j)<|q (l2 anh j)<|q (pM j)<|q (c1 (OO hx8) acz j j j j)<|q (pA j)<|nl)<|us<|gs<|gs<|G0 (q (pM j)<|q (pB j)<|nl)<|us<|gc h j ah (fun hc1 h=>?_) fun hc1 h=>?_
 ·obtain rfl:=rn h
  exact gs<|G0 (q (pA j)<|nl)<|us<|gr akF j
 ·refine Go.skip<|us<|gs<|?_
  obtain ⟨x14,kR,h⟩:=bs h
  refine G0 (q (pF (r':=.mp 2 0 3) aeI j)<|q (l2 ani j)<|q (pM j)<|q (c1 (Q3 kR) acA j j j j)<|q (pA j)<|nl)<|us<|gs<|gs<|G0 (q (pM j)<|q (pB j)<|nl)<|us<|gc h j ah (fun hc2 h=>?_) fun hc2 h=>?_
  ·obtain rfl:=rn h
   exact gs<|G0 (q (pA j)<|nl)<|us<|gr akF j
  ·obtain rfl:=rn h
   exact Go.skip<|us<|gs<|G0 (q (pM j)<|q (pA j)<|nl)<|us<|gr akF j
theorem Gf {a_0:aI} {bK:Int} {r:Int} (h:sH a_0 bK=some r):FX 77 [.im 2 true (kz a_0),.im 2 false [I bK]] (B0 [(false,[.im 0 (I r)])]):=by
 unfold sH at h
 refine gn 13 Tryz.func77 rfl ?_
 refine gs<|G0 (q (pX acD j (tkI (tkI (tkI tk0))))<|q (pA j)<|nl)<|us<|gs<|G0 (q (pM j)<|q (pF (r':=.mp 2 0 0) aeQ j)<|q (l0 tF9 j)<|q (U6 j j uF9 j)<|q (pB j)<|q (pA j)<|nl)<|us<|gs<|gs<|G0 (q (pM j)<|q (pB j)<|nl)<|us<|gc h j ah (fun hc1 h=>?_) fun hc1 h=>?_
 ·obtain rfl:=rn h
  exact gs<|G0 (q (pA j)<|nl)<|us<|gr am3 j
 ·obtain rfl:=rn h
  exact Go.skip<|us<|gs<|G0 (q (pM j)<|q (pA j)<|nl)<|us<|gr am3 j
theorem Nv {a_0:(List aI)} {bK:Int} {r:Int} (h:uh a_0 bK=some r):FX 45 [.im 2 false [W 3 aK a_0],.im 2 false [I bK]] (B0 [(false,[.im 0 (I r)])]):=by
 unfold uh at h
 refine gn 27 Tryz.func45 rfl ?_
 refine gs<|G0 (q (pA j)<|nl)<|us<|gs<|G0 (q (pM j)<|q (pM j)<|q (pI ah8 j)<|q (pB j)<|q (pA j)<|nl)<|us<|gs<|gs<|G0 (q (pM j)<|q (pB j)<|nl)<|us<|gc h j ah (fun hc1 h=>?_) fun hc1 h=>?_
 ·obtain rfl:=rn h
  exact gs<|G0 (q (pA j)<|nl)<|us<|gr akG j
 ·refine Go.skip<|us<|gs<|gs<|G0 (q (pA j)<|nl)<|us<|Go.block<|?_
  obtain ⟨o,hl,h⟩:=bs h
  refine gl c45 j _ (fun (s:(Int×Int))=>match s with | (jl,o9)=>mk [(0,D 2 (W 3 aK a_0)),(1,iv jl),(5,iv o9)] []) (fun (o:(Int ⊕ Int)) (p:Ex×St)=>match o with | (.inl gG)=>p.1= .exit 0∧p.2.norm ([1],[])=mk [(1,iv gG)] [] | (.inr r2)=>p.1= .ret∧fin Tryz.prog cfg 45 Tryz.f45 [.im 2 false [W 3 aK a_0],.im 2 false [I bK]] p.2=some (B0 [(false,[.im 0 (I r2)])])) hl (by kernel_rfl) ?_ ?_ ?_
  ·intro o p hp e
   rcases o with gG | r2<;>exact nomatch (hp.1.symm.trans e)
  ·rintro ⟨jl,o9⟩ o h
   unfold nJ at h
   dsimp only at h
   refine gs<|gs<|G0 (q (pM j)<|q (pM j)<|q (pI ah8 j)<|q (pB j)<|nl)<|us<|gc h j ah (fun hc6 h=>?_) fun hc6 h=>?_
   ·refine Go.skip<|us<|gs<|Go.block<|gs<|?_
    obtain ⟨x20,ny,x23,oq,h⟩:=b2 h
    refine G0 (q (pM j)<|q (pM j)<|q (pJ ny ane j)<|q (pL (cs:=[.im 2 _,.im 2 _,.im 2 _]) acD j)<|q (pM j)<|q (c1 (Gf oq) Uz j j j j)<|q (pA j)<|nl)<|us<|gs<|G0 (q (pM j)<|q (pB j)<|nl)<|us<|gc h j ah (fun hc7 h=>?_) fun hc7 h=>?_
    ·refine gs<|G0 (q (pA j)<|nl)<|us<|Go.ret (Unw.ret ?_)
     cases h
     exact ⟨j,(fo akG j)⟩
    ·refine Go.skip<|Unw.blk<|us<|G0 (q (pM j)<|q (pB j)<|q (pA j)<|nl)<|Unw.nil<|?_
     cases h
     exact ⟨j,(by kernel_rfl)⟩
   ·refine Go.exit<|ux<|Unw.nil<|?_
    cases h
    exact ⟨j,(by kernel_rfl)⟩
  ·rintro ⟨e,st⟩ hp
   rcases o with gG | r2
   ·dsimp only at h
    obtain ⟨he,hst⟩:=hp
    obtain rfl:e= .exit 0:=he
    obtain rfl:=rn h
    exact Unw.gz<|us<|gs<|g2 c45 j j hst (q (pM j)<|q (pA j)<|nl)<|us<|gr akG j
   ·dsimp only at h
    obtain ⟨he,hfin⟩:=hp
    obtain rfl:e= .ret:=he
    cases h
    exact Unw.ret (di hfin)
theorem Nw {a_0:dJ} {bK:Int} {r:Int} (h:uj a_0 bK=some r):FX 19 [.im 2 true (fB a_0),.im 2 false [I bK]] (B0 [(false,[.im 0 (I r)])]):=by
 unfold uj at h
 refine gn 18 Tryz.func19 rfl ?_
 refine gs<|G0 (q (pX ah4 j (tkI (tkI (tkI (tkI (tkI tk0))))))<|q (pA j)<|nl)<|us<|gs<|?_
 obtain ⟨x8,hx8,h⟩:=bs h
 refine g1 j j (mk [(1,iv bK),(2,M 2)] [(2,Oa (G 2 (fB a_0)))]) (q (pF (r':=.mp 2 0 0) aeJ j)<|q (pL (cs:=[.im 0 _,.im 0 _,.im 2 _,.im 2 _]) ah3 j)<|q (pM j)<|q (c1 (Nu hx8) acr j j j j)<|q (pA j)<|nl)<|us<|gs<|gs<|G0 (q (pM j)<|q (pB j)<|nl)<|us<|gc h j ah (fun hc1 h=>?_) fun hc1 h=>?_
 ·obtain rfl:=rn h
  exact gs<|G0 (q (pA j)<|nl)<|us<|gr aky j
 ·refine Go.skip<|us<|gs<|?_
  obtain ⟨x14,kR,h⟩:=bs h
  refine G0 (q (pF (r':=.mp 2 0 4) aeK j)<|q (l2 anj j)<|q (pM j)<|q (c1 (Nv kR) acs j j j j)<|q (pA j)<|nl)<|us<|gs<|gs<|G0 (q (pM j)<|q (pB j)<|nl)<|us<|gc h j ah (fun hc2 h=>?_) fun hc2 h=>?_
  ·obtain rfl:=rn h
   exact gs<|G0 (q (pA j)<|nl)<|us<|gr aky j
  ·obtain rfl:=rn h
   exact Go.skip<|us<|gs<|G0 (q (pM j)<|q (pA j)<|nl)<|us<|gr aky j
theorem Tz {a_0:(List dn)} {bK:Int} {r:Int} (h:Ag a_0 bK=some r):FX 78 [.im 2 false [W 4 cu a_0],.im 2 false [I bK]] (B0 [(false,[.im 0 (I r)])]):=by
 unfold Ag at h
 refine gn 12 Tryz.func78 rfl ?_
 refine gs<|G0 (q (pA j)<|nl)<|us<|gs<|G0 (q (pM j)<|q (pM j)<|q (pI akL j)<|q (pB j)<|q (pA j)<|nl)<|us<|gs<|gs<|G0 (q (pM j)<|q (pB j)<|nl)<|us<|gc h j ah (fun hc1 h=>?_) fun hc1 h=>?_
 ·obtain rfl:=rn h
  exact gs<|G0 (q (pA j)<|nl)<|us<|gr am4 j
 ·obtain rfl:=rn h
  exact Go.skip<|us<|gs<|G0 (q (pM j)<|q (pA j)<|nl)<|us<|gr am4 j
theorem TA {a_0:bU} {bK:Int} {r:Int} (h:Ah a_0 bK=some r):FX 46 [.im 2 true (gu a_0),.im 2 false [I bK]] (B0 [(false,[.im 0 (I r)])]):=by
 unfold Ah at h
 refine gn 32 Tryz.func46 rfl ?_
 refine gs<|G0 (q (pX ah6 j (tkI (tkI (tkI (tkI (tkI (tkI (tkI (tkI (tkI tk0))))))))))<|q (pA j)<|nl)<|us<|gs<|g1 j j (mk [(1,iv bK),(2,M 2)] [(2,Oa (G 2 (gu a_0)))]) (q (pM j)<|q (pF (r':=.mp 2 0 0) aeR j)<|q (l0 tF9 j)<|q (U6 j j uF9 j)<|q (pB j)<|q (pA j)<|nl)<|us<|gs<|gs<|G0 (q (pM j)<|q (pB j)<|nl)<|us<|gc h j ah (fun hc1 h=>?_) fun hc1 h=>?_
 ·obtain rfl:=rn h
  exact gs<|G0 (q (pA j)<|nl)<|us<|gr afu j
 ·refine Go.skip<|us<|gs<|G0 (q (pM j)<|q (pF (r':=.mp 2 0 1) aeS j)<|q (l0 tF9 j)<|q (U6 j j uF9 j)<|q (pB j)<|q (pA j)<|nl)<|us<|gs<|gs<|G0 (q (pM j)<|q (pB j)<|nl)<|us<|gc h j ah (fun hc2 h=>?_) fun hc2 h=>?_
  ·obtain rfl:=rn h
   exact gs<|G0 (q (pA j)<|nl)<|us<|gr afu j
  ·refine Go.skip<|us<|gs<|?_
   obtain ⟨x22,qp,h⟩:=bs h
   refine G0 (q (pF (r':=.mp 2 0 3) aeT j)<|q (pL (cs:=[.im 0 _,.im 0 _,.im 0 _]) acD j)<|q (pM j)<|q (c1 (Gf qp) Uz j j j j)<|q (pA j)<|nl)<|us<|gs<|gs<|G0 (q (pM j)<|q (pB j)<|nl)<|us<|gc h j ah (fun hc3 h=>?_) fun hc3 h=>?_
   ·obtain rfl:=rn h
    exact gs<|G0 (q (pA j)<|nl)<|us<|gr afu j
   ·refine Go.skip<|us<|gs<|?_
    obtain ⟨x28,hx28,h⟩:=bs h
    refine G0 (q (pF (r':=.mp 2 0 8) aeU j)<|q (l2 ann j)<|q (pM j)<|q (c1 (Tz hx28) acB j j j j)<|q (pA j)<|nl)<|us<|gs<|gs<|G0 (q (pM j)<|q (pB j)<|nl)<|us<|gc h j ah (fun hc4 h=>?_) fun hc4 h=>?_
    ·obtain rfl:=rn h
     exact gs<|G0 (q (pA j)<|nl)<|us<|gr afu j
    ·obtain rfl:=rn h
     exact Go.skip<|us<|gs<|G0 (q (pM j)<|q (pA j)<|nl)<|us<|gr afu j
theorem Q4 {a_0:(List bU)} {bK:Int} {r:Int} (h:yl a_0 bK=some r):FX 20 [.im 2 false [W 9 aW a_0],.im 2 false [I bK]] (B0 [(false,[.im 0 (I r)])]):=by
 unfold yl at h
 refine gn 27 Tryz.func20 rfl ?_
 refine gs<|G0 (q (pA j)<|nl)<|us<|gs<|G0 (q (pM j)<|q (pM j)<|q (pI ah9 j)<|q (pB j)<|q (pA j)<|nl)<|us<|gs<|gs<|G0 (q (pM j)<|q (pB j)<|nl)<|us<|gc h j ah (fun hc1 h=>?_) fun hc1 h=>?_
 ·obtain rfl:=rn h
  exact gs<|G0 (q (pA j)<|nl)<|us<|gr akz j
 ·refine Go.skip<|us<|gs<|gs<|G0 (q (pA j)<|nl)<|us<|Go.block<|?_
  obtain ⟨o,hl,h⟩:=bs h
  refine gl c20 j _ (fun (s:(Int×Int))=>match s with | (jl,o9)=>mk [(0,D 2 (W 9 aW a_0)),(1,iv jl),(5,iv o9)] []) (fun (o:(Int ⊕ Int)) (p:Ex×St)=>match o with | (.inl gG)=>p.1= .exit 0∧p.2.norm ([1],[])=mk [(1,iv gG)] [] | (.inr r2)=>p.1= .ret∧fin Tryz.prog cfg 20 Tryz.f20 [.im 2 false [W 9 aW a_0],.im 2 false [I bK]] p.2=some (B0 [(false,[.im 0 (I r2)])])) hl (by kernel_rfl) ?_ ?_ ?_
  ·intro o p hp e
   rcases o with gG | r2<;>exact nomatch (hp.1.symm.trans e)
  ·rintro ⟨jl,o9⟩ o h
   unfold qU at h
   dsimp only at h
   refine gs<|gs<|G0 (q (pM j)<|q (pM j)<|q (pI ah9 j)<|q (pB j)<|nl)<|us<|gc h j ah (fun hc6 h=>?_) fun hc6 h=>?_
   ·refine Go.skip<|us<|gs<|Go.block<|gs<|?_
    obtain ⟨x20,ny,x23,oq,h⟩:=b2 h
    refine G0 (q (pM j)<|q (pM j)<|q (pJ ny anf j)<|q (pL (cs:=[.im 2 _,.im 2 _,.im 2 _,.im 2 _,.im 2 _,.im 2 _,.im 2 _,.im 2 _,.im 2 _]) ah6 j)<|q (pM j)<|q (c1 (TA oq) acu j j j j)<|q (pA j)<|nl)<|us<|gs<|G0 (q (pM j)<|q (pB j)<|nl)<|us<|gc h j ah (fun hc7 h=>?_) fun hc7 h=>?_
    ·refine gs<|G0 (q (pA j)<|nl)<|us<|Go.ret (Unw.ret ?_)
     cases h
     exact ⟨j,(fo akz j)⟩
    ·refine Go.skip<|Unw.blk<|us<|G0 (q (pM j)<|q (pB j)<|q (pA j)<|nl)<|Unw.nil<|?_
     cases h
     exact ⟨j,(by kernel_rfl)⟩
   ·refine Go.exit<|ux<|Unw.nil<|?_
    cases h
    exact ⟨j,(by kernel_rfl)⟩
  ·rintro ⟨e,st⟩ hp
   rcases o with gG | r2
   ·dsimp only at h
    obtain ⟨he,hst⟩:=hp
    obtain rfl:e= .exit 0:=he
    obtain rfl:=rn h
    exact Unw.gz<|us<|gs<|g2 c20 j j hst (q (pM j)<|q (pA j)<|nl)<|us<|gr akz j
   ·dsimp only at h
    obtain ⟨he,hfin⟩:=hp
    obtain rfl:e= .ret:=he
    cases h
    exact Unw.ret (di hfin)
theorem Jd {a_0:(List ak)} {bK:Int} {r:Int} (h:nK a_0 bK=some r):FX 21 [.im 2 false [W 5 aj a_0],.im 2 false [I bK]] (B0 [(false,[.im 0 (I r)])]):=by
 unfold nK at h
 refine gn 12 Tryz.func21 rfl ?_
 refine gs<|G0 (q (pA j)<|nl)<|us<|gs<|G0 (q (pM j)<|q (pM j)<|q (pI akK j)<|q (pB j)<|q (pA j)<|nl)<|us<|gs<|gs<|G0 (q (pM j)<|q (pB j)<|nl)<|us<|gc h j ah (fun hc1 h=>?_) fun hc1 h=>?_
 ·obtain rfl:=rn h
  exact gs<|G0 (q (pA j)<|nl)<|us<|gr amD j
 ·obtain rfl:=rn h
  exact Go.skip<|us<|gs<|G0 (q (pM j)<|q (pA j)<|nl)<|us<|gr amD j
theorem VW {a_0:fM} {bK:Int} {r:Int} (h:Cj a_0 bK=some r):FX 6 [.im 2 true (bI a_0),.im 2 false [I bK]] (B0 [(false,[.im 0 (I r)])]):=by
 unfold Cj at h
 refine gn 36 Tryz.func6 rfl ?_
 refine gs<|G0 (q (pX XZ j (tkI (tkI (tkI (tkI (tkI (tkI (tkI (tkI (tkI (tkI (tkI (tkI (tkI (tkI (tkI (tkI (tkI tk0))))))))))))))))))<|q (pA j)<|nl)<|us<|gs<|?_
 obtain ⟨x8,hx8,h⟩:=bs h
 refine g1 j j (mk [(1,iv bK),(2,M 2)] [(2,Oa (G 2 (bI a_0)))]) (q (pF (r':=.mp 2 0 0) aeL j)<|q (pL (cs:=[.im 0 _,.im 0 _,.im 2 _,.im 2 _,.im 2 _]) ah4 j)<|q (pM j)<|q (c1 (Nw hx8) ace j j j j)<|q (pA j)<|nl)<|us<|gs<|gs<|G0 (q (pM j)<|q (pB j)<|nl)<|us<|gc h j ah (fun hc1 h=>?_) fun hc1 h=>?_
 ·obtain rfl:=rn h
  exact gs<|G0 (q (pA j)<|nl)<|us<|gr rF6 j
 ·refine Go.skip<|us<|gs<|?_
  obtain ⟨x14,kR,h⟩:=bs h
  refine G0 (q (pF (r':=.mp 2 0 5) aeM j)<|q (l2 ank j)<|q (pM j)<|q (c1 (Q4 kR) acf j j j j)<|q (pA j)<|nl)<|us<|gs<|gs<|G0 (q (pM j)<|q (pB j)<|nl)<|us<|gc h j ah (fun hc2 h=>?_) fun hc2 h=>?_
  ·obtain rfl:=rn h
   exact gs<|G0 (q (pA j)<|nl)<|us<|gr rF6 j
  ·refine Go.skip<|us<|gs<|?_
   obtain ⟨x20,ny,h⟩:=bs h
   refine G0 (q (pF (r':=.mp 2 0 6) aeN j)<|q (l2 anl j)<|q (pM j)<|q (c1 (Jd ny) acg j j j j)<|q (pA j)<|nl)<|us<|gs<|gs<|G0 (q (pM j)<|q (pB j)<|nl)<|us<|gc h j ah (fun hc3 h=>?_) fun hc3 h=>?_
   ·obtain rfl:=rn h
    exact gs<|G0 (q (pA j)<|nl)<|us<|gr rF6 j
   ·refine Go.skip<|us<|gs<|?_
    obtain ⟨x26,Ny,h⟩:=bs h
    refine G0 (q (pF (r':=.mp 2 0 15) aeO j)<|q (l2 l9 j)<|q (pM j)<|q (c1 (Bc Ny) Np j j j j)<|q (pA j)<|nl)<|us<|gs<|gs<|G0 (q (pM j)<|q (pB j)<|nl)<|us<|gc h j ah (fun hc4 h=>?_) fun hc4 h=>?_
    ·obtain rfl:=rn h
     exact gs<|G0 (q (pA j)<|nl)<|us<|gr rF6 j
    ·refine Go.skip<|us<|gs<|?_
     obtain ⟨x32,hx32,h⟩:=bs h
     refine G0 (q (pF (r':=.mp 2 0 16) aeP j)<|q (l2 l9 j)<|q (pM j)<|q (c1 (Bc hx32) Np j j j j)<|q (pA j)<|nl)<|us<|gs<|gs<|G0 (q (pM j)<|q (pB j)<|nl)<|us<|gc h j ah (fun hc5 h=>?_) fun hc5 h=>?_
     ·obtain rfl:=rn h
      exact gs<|G0 (q (pA j)<|nl)<|us<|gr rF6 j
     ·obtain rfl:=rn h
      exact Go.skip<|us<|gs<|G0 (q (pM j)<|q (pA j)<|nl)<|us<|gr rF6 j
theorem Q5 {a_0:ae} {r:ae} (h:yt a_0=some r):FX 149 [.im 2 true (aN a_0)] (B0 [(true,J 0 (aN r))]):=by
 unfold yt at h
 refine gn 11 Tryz.func149 rfl ?_
 obtain rfl:=rn h
 exact gs<|G0 (q (pX aiX j (tkI (tkI tk0)))<|q (oAl j aC (tkI (tkI tk0)))<|nl)<|us<|gs<|G0 (q (oAl j aC (tkI (tkI tk0)))<|nl)<|us<|gs<|G0 (q (pF (r':=.mp 1 0 0) ahv j)<|q (l0 tF2 j)<|q (pF (r':=.mp 3 0 0) dO j)<|q (pS tF2 j (tkI tk0) j)<|nl)<|us<|gs<|g1 j j (mk [(1,M 1),(2,M 2),(3,M 3)] [(1,Oa (G 0 (aN a_0))),(2,Oa [C (I 0),C (I 0)]),(3,Oa [C (I a_0.X),C (I 0)])]) (q (pF (r':=.mp 1 0 1) ahw j)<|q (l0 tF2 j)<|q (pF (r':=.mp 3 0 1) dH j)<|q (pS tF2 j (tkI tk0) j)<|nl)<|us<|gs<|g1 j j (mk [(2,M 2),(3,M 3)] [(2,Oa [C (I 0),C (I 0)]),(3,Oa (G 0 (aN a_0)))]) (q (pL (cs:=[.im 0 _,.im 0 _]) aC j)<|q (pS aC j (tkI (tkI tk0)) j)<|nl)<|us<|gr amh j
theorem OQ {a_0:(List ae)} {r:(List ae)} (h:wF a_0=some r):FX 100 [.im 2 false [W 2 af a_0]] (B0 [(false,[.ow 0 2 (List.map af r)])]):=by
 unfold wF at h
 refine gn 23 Tryz.func100 rfl ?_
 refine gs<|G0 (q (AP j j Y1)<|nl)<|us<|gs<|?_
 obtain ⟨x7,hx7,h⟩:=bs h
 refine G0 (q (pM j)<|q (pI akJ j)<|q (oMk (en:=af) j hx7 j oZ j j (fxI (fxI fx0)) j (gY (L:=[_]) j fun _=>j))<|q (jU j j j j j)<|nl)<|us<|gs<|gs<|G0 (q (pA j)<|nl)<|us<|Go.block<|?_
 obtain ⟨o,hl,h⟩:=bs h
 refine gl alG j _ (fun (s:(Int×(List ae)))=>match s with | (bz,aV)=>mk [(0,D 2 (W 2 af a_0)),(3,H 3 0),(4,iv bz)] [(3,Oc [Z (W 2 af aV)])]) (fun (bH:(List ae)) (p:Ex×St)=>p.1= .exit 0∧p.2.norm ([3],[3])=mk [(3,H 3 0)] [(3,Oc [Z (W 2 af bH)])]) hl (by kernel_rfl) ?_ ?_ ?_
 ·intro o p hp e
  exact nomatch (hp.1.symm.trans e)
 ·rintro ⟨bz,aV⟩ o h
  unfold pg at h
  dsimp only at h
  refine gs<|gs<|G0 (q (pM j)<|q (pM j)<|q (pI akJ j)<|q (pB j)<|nl)<|us<|gc h j ah (fun hc3 h=>?_) fun hc3 h=>?_
  ·refine Go.skip<|us<|gs<|Go.block<|?_
   obtain ⟨x18,zG,x20,ny,h⟩:=b2 h
   obtain ⟨x21,xx,h⟩:=bs h
   refine G0 (q (pM j)<|q (pM j)<|q (pM j)<|q (pM j)<|q (pJ zG apb j)<|q (pL (cs:=[.im 2 _,.im 2 _]) aiX j)<|q (cA (vs:=[(true,[.im 0 _,.im 0 _])]) (v:=.v true [.im 0 _,.im 0 _]) (Q5 ny) ab7 j j j j j)<|q (Gm j xx oZ j j j j)<|q (Qz (v':=x20) aC j j j (fxI (fxI fx0)) j j (oH xx) j)<|nl)<|Unw.blk<|us<|g1 j j (mk [(0,D 2 (W 2 af a_0)),(3,H 3 0),(4,iv bz)] [(3,Oc [Z (W 2 af (aV.set bz.toNat x20))])]) (q (pM j)<|q (pB j)<|q (pA j)<|nl)<|Unw.nil<|?_
   cases h
   exact ⟨j,(by kernel_rfl)⟩
  ·refine Go.exit<|ux<|Unw.nil<|?_
   cases h
   exact ⟨j,(by kernel_rfl)⟩
 ·rintro ⟨e,st⟩ hp
  obtain ⟨bH,rfl⟩:∃y,y=o:=⟨o,rfl⟩
  obtain ⟨he,hst⟩:=hp
  obtain rfl:e= .exit 0:=he
  obtain rfl:=rn h
  exact Unw.gz<|us<|gs<|g2 alG j j hst (q (pM j)<|q (jU j j j j j)<|nl)<|us<|gr al0 j
theorem Bd {a_0:(List Int)} {r:(List Int)} (h:oJ a_0=some r):FX 28 [.im 2 false [W 1 eI a_0]] (B0 [(false,[.ow 0 1 (List.map eI r)])]):=by
 unfold oJ at h
 refine gn 22 Tryz.func28 rfl ?_
 refine gs<|G0 (q (AP j j alZ)<|nl)<|us<|gs<|?_
 obtain ⟨x7,hx7,h⟩:=bs h
 refine G0 (q (pM j)<|q (pI yV j)<|q (oMk (en:=eI) j hx7 j lS j j (fxI fx0) j (gY (L:=[_]) j fun _=>j))<|q (jU j j j j j)<|nl)<|us<|gs<|gs<|G0 (q (pA j)<|nl)<|us<|Go.block<|?_
 obtain ⟨o,hl,h⟩:=bs h
 refine gl c28 j _ (fun (s:(Int×(List Int)))=>match s with | (bz,aV)=>mk [(0,D 2 (W 1 eI a_0)),(3,H 3 0),(4,iv bz)] [(3,Oc [Z (W 1 eI aV)])]) (fun (bH:(List Int)) (p:Ex×St)=>p.1= .exit 0∧p.2.norm ([3],[3])=mk [(3,H 3 0)] [(3,Oc [Z (W 1 eI bH)])]) hl (by kernel_rfl) ?_ ?_ ?_
 ·intro o p hp e
  exact nomatch (hp.1.symm.trans e)
 ·rintro ⟨bz,aV⟩ o h
  unfold pq at h
  dsimp only at h
  refine gs<|gs<|G0 (q (pM j)<|q (pM j)<|q (pI yV j)<|q (pB j)<|nl)<|us<|gc h j ah (fun hc3 h=>?_) fun hc3 h=>?_
  ·refine Go.skip<|us<|gs<|Go.block<|?_
   obtain ⟨x18,zG,x20,ny,h⟩:=b2 h
   refine G0 (q (pM j)<|q (pM j)<|q (pM j)<|q (pM j)<|q (pJ zG lS j)<|q (l2 tF2 j)<|q (Gm j ny lS j j j j)<|q (Qz (v':=x18) tF2 j j j (fxI fx0) j j (oH ny) j)<|nl)<|Unw.blk<|us<|g1 j j (mk [(0,D 2 (W 1 eI a_0)),(3,H 3 0),(4,iv bz)] [(3,Oc [Z (W 1 eI (aV.set bz.toNat x18))])]) (q (pM j)<|q (pB j)<|q (pA j)<|nl)<|Unw.nil<|?_
   cases h
   exact ⟨j,(by kernel_rfl)⟩
  ·refine Go.exit<|ux<|Unw.nil<|?_
   cases h
   exact ⟨j,(by kernel_rfl)⟩
 ·rintro ⟨e,st⟩ hp
  obtain ⟨bH,rfl⟩:∃y,y=o:=⟨o,rfl⟩
  obtain ⟨he,hst⟩:=hp
  obtain rfl:e= .exit 0:=he
  obtain rfl:=rn h
  exact Unw.gz<|us<|gs<|g2 c28 j j hst (q (pM j)<|q (jU j j j j j)<|nl)<|us<|gr aoM j
theorem TB {a_0:bT} {r:bT} (h:Ai a_0=some r):FX 150 [.im 2 true (wO a_0)] (B0 [(true,[.im 0 (Y r.Name),.ow 0 1 (List.map eI r.Ring)])]):=by
 unfold Ai at h
 refine gn 12 Tryz.func150 rfl ?_
 refine gs<|G0 (q (pX abr j (tkI (tkI tk0)))<|q (oAl j zh (tkI (tkN tk0)))<|nl)<|us<|gs<|G0 (q (oAl j zh (tkI (tkN tk0)))<|nl)<|us<|gs<|G0 (q (pF (r':=.mp 1 0 0) abg j)<|q (l0 tF9 j)<|q (pF (r':=.mp 3 0 0) vM j)<|q (pS tF9 j (tkI tk0) j)<|nl)<|us<|gs<|?_
 obtain ⟨x9,hx9,h⟩:=bs h
 obtain rfl:=rn h
 exact g1 j j (mk [(1,M 1),(2,M 2),(3,M 3)] [(1,Oa (G 2 (wO a_0))),(2,Oa [C (Y (⟨#[]⟩:ByteArray)),Z (W 1 eI ([]:List Int))]),(3,Oa [C (Y a_0.Name),Z (W 1 eI ([]:List Int))])]) (q (pF (r':=.mp 1 0 1) abh j)<|q (l2 l9 j)<|q (cR (vs:=[(false,[.own 9 0 0])]) (v:=.v false [.own 9 0 0]) (c:=⟨.sh,0,_⟩) (cs:=[]) (Bd hx9) VN j j j j j)<|q (pF (r':=.mp 3 0 1) yT j)<|q (pS l9 j (tkO j j tk0) j)<|nl)<|us<|gs<|g1 j j (mk [(2,M 2),(3,M 3)] [(2,Oa [C (Y (⟨#[]⟩:ByteArray)),Z (W 1 eI ([]:List Int))]),(3,Oa [C (Y a_0.Name),Z (W 1 eI x9)])]) (q (pL (cs:=[.im 0 _,.own 3 0 1]) zh j)<|q (pS zh j (tkI (tkO j j tk0)) j)<|nl)<|us<|gr ami j
theorem Q7 {a_0:(List bT)} {r:(List bT)} (h:yu a_0=some r):FX 101 [.im 2 false [W 2 aQ a_0]] (B0 [(false,[.ow 0 2 (List.map aQ r)])]):=by
 unfold yu at h
 refine gn 23 Tryz.func101 rfl ?_
 refine gs<|G0 (q (AP j j aoA)<|nl)<|us<|gs<|?_
 obtain ⟨x7,hx7,h⟩:=bs h
 refine G0 (q (pM j)<|q (pI ah7 j)<|q (oMk (en:=aQ) j hx7 j EH j j (fxI (fxN fx0)) j (Ld j))<|q (jU j j j j j)<|nl)<|us<|gs<|gs<|G0 (q (pA j)<|nl)<|us<|Go.block<|?_
 obtain ⟨o,hl,h⟩:=bs h
 refine gl alH j _ (fun (s:(Int×(List bT)))=>match s with | (bz,aV)=>mk [(0,D 2 (W 2 aQ a_0)),(3,H 3 0),(4,iv bz)] [(3,Oc [Z (W 2 aQ aV)])]) (fun (bH:(List bT)) (p:Ex×St)=>p.1= .exit 0∧p.2.norm ([3],[3])=mk [(3,H 3 0)] [(3,Oc [Z (W 2 aQ bH)])]) hl (by kernel_rfl) ?_ ?_ ?_
 ·intro o p hp e
  exact nomatch (hp.1.symm.trans e)
 ·rintro ⟨bz,aV⟩ o h
  unfold qV at h
  dsimp only at h
  refine gs<|gs<|G0 (q (pM j)<|q (pM j)<|q (pI ah7 j)<|q (pB j)<|nl)<|us<|gc h j ah (fun hc3 h=>?_) fun hc3 h=>?_
  ·refine Go.skip<|us<|gs<|Go.block<|?_
   obtain ⟨x18,zG,x20,ny,h⟩:=b2 h
   obtain ⟨x21,xx,h⟩:=bs h
   refine G0 (q (pM j)<|q (pM j)<|q (pM j)<|q (pM j)<|q (pJ zG anc j)<|q (pL (cs:=[.im 2 _,.im 2 _]) abr j)<|q (cR (vs:=[(true,[.im 0 _,.own 20 0 0])]) (v:=.v true [.im 0 _,.own 20 0 0]) (c:=⟨.sh,0,_⟩) (cs:=[]) (TB ny) ab8 j j j j j)<|q (Gm j xx EH j j j j)<|q (Qz (v':=x20) zh j j j (fxI (fxO j j fx0)) j j (oH xx) j)<|nl)<|Unw.blk<|us<|g1 j j (mk [(0,D 2 (W 2 aQ a_0)),(3,H 3 0),(4,iv bz)] [(3,Oc [Z (W 2 aQ (aV.set bz.toNat x20))])]) (q (pM j)<|q (pB j)<|q (pA j)<|nl)<|Unw.nil<|?_
   cases h
   exact ⟨j,(by kernel_rfl)⟩
  ·refine Go.exit<|ux<|Unw.nil<|?_
   cases h
   exact ⟨j,(by kernel_rfl)⟩
 ·rintro ⟨e,st⟩ hp
  obtain ⟨bH,rfl⟩:∃y,y=o:=⟨o,rfl⟩
  obtain ⟨he,hst⟩:=hp
  obtain rfl:e= .exit 0:=he
  obtain rfl:=rn h
  exact Unw.gz<|us<|gs<|g2 alH j j hst (q (pM j)<|q (jU j j j j j)<|nl)<|us<|gr al1 j
theorem Nz {a_0:aB} {r:aB} (h:uk a_0=some r):FX 52 [.im 2 true (au a_0)] (B0 [(true,[.im 0 (I r.Width),.im 0 (I r.Height),.ow 0 2 (List.map af r.bG),.ow 0 2 (List.map aQ r.aG)])]):=by
 unfold uk at h
 refine gn 19 Tryz.func52 rfl ?_
 refine gs<|G0 (q (pX ah3 j (tkI (tkI (tkI (tkI tk0)))))<|q (oAl j Du (tkI (tkI (tkN (tkN tk0)))))<|nl)<|us<|gs<|G0 (q (oAl j Du (tkI (tkI (tkN (tkN tk0)))))<|nl)<|us<|gs<|G0 (q (pF (r':=.mp 1 0 0) ake j)<|q (l0 tF2 j)<|q (pF (r':=.mp 3 0 0) Fh j)<|q (pS tF2 j (tkI tk0) j)<|nl)<|us<|gs<|g1 j j (mk [(1,M 1),(2,M 2),(3,M 3)] [(1,Oa (G 2 (au a_0))),(2,Oa [C (I 0),C (I 0),Z (W 2 af ([]:List ae)),Z (W 2 aQ ([]:List bT))]),(3,Oa [C (I a_0.Width),C (I 0),Z (W 2 af ([]:List ae)),Z (W 2 aQ ([]:List bT))])]) (q (pF (r':=.mp 1 0 1) akf j)<|q (l0 tF2 j)<|q (pF (r':=.mp 3 0 1) A7 j)<|q (pS tF2 j (tkI tk0) j)<|nl)<|us<|gs<|?_
 obtain ⟨x12,oP,h⟩:=bs h
 refine g1 j j (mk [(1,M 1),(2,M 2),(3,M 3)] [(1,Oa (G 2 (au a_0))),(2,Oa [C (I 0),C (I 0),Z (W 2 af ([]:List ae)),Z (W 2 aQ ([]:List bT))]),(3,Oa [C (I a_0.Width),C (I a_0.Height),Z (W 2 af ([]:List ae)),Z (W 2 aQ ([]:List bT))])]) (q (pF (r':=.mp 1 0 2) aeH j)<|q (l2 anh j)<|q (cR (vs:=[(false,[.own 12 0 0])]) (v:=.v false [.own 12 0 0]) (c:=⟨.sh,0,_⟩) (cs:=[]) (OQ oP) aeV j j j j j)<|q (pF (r':=.mp 3 0 2) uO j)<|q (pS HY j (tkO j j tk0) j)<|nl)<|us<|gs<|?_
 obtain ⟨x16,hx16,h⟩:=bs h
 obtain rfl:=rn h
 exact g1 j j (mk [(1,M 1),(2,M 2),(3,M 3)] [(1,Oa (G 2 (au a_0))),(2,Oa [C (I 0),C (I 0),Z (W 2 af ([]:List ae)),Z (W 2 aQ ([]:List bT))]),(3,Oa [C (I a_0.Width),C (I a_0.Height),Z (W 2 af x12),Z (W 2 aQ ([]:List bT))])]) (q (pF (r':=.mp 1 0 3) aeI j)<|q (l2 ani j)<|q (cR (vs:=[(false,[.own 16 0 0])]) (v:=.v false [.own 16 0 0]) (c:=⟨.sh,0,_⟩) (cs:=[]) (Q7 hx16) aeW j j j j j)<|q (pF (r':=.mp 3 0 3) jD j)<|q (pS yU j (tkO j j tk0) j)<|nl)<|us<|gs<|g1 j j (mk [(2,M 2),(3,M 3)] [(2,Oa [C (I 0),C (I 0),Z (W 2 af ([]:List ae)),Z (W 2 aQ ([]:List bT))]),(3,Oa [C (I a_0.Width),C (I a_0.Height),Z (W 2 af x12),Z (W 2 aQ x16)])]) (q (pL (cs:=[.im 0 _,.im 0 _,.own 3 0 2,.own 3 0 3]) Du j)<|q (pS Du j (tkI (tkI (tkO j j (tkO j j tk0)))) j)<|nl)<|us<|gr aoT j
theorem Gg {a_0:aI} {r:aI} (h:sJ a_0=some r):FX 102 [.im 2 true (kz a_0)] (B0 [(true,J 0 (kz r))]):=by
 unfold sJ at h
 refine gn 14 Tryz.func102 rfl ?_
 obtain rfl:=rn h
 exact gs<|G0 (q (pX acD j (tkI (tkI (tkI tk0))))<|q (oAl j H6 (tkI (tkI (tkI tk0))))<|nl)<|us<|gs<|G0 (q (oAl j H6 (tkI (tkI (tkI tk0))))<|nl)<|us<|gs<|G0 (q (pF (r':=.mp 1 0 0) aeQ j)<|q (l0 tF9 j)<|q (pF (r':=.mp 3 0 0) JU j)<|q (pS tF9 j (tkI tk0) j)<|nl)<|us<|gs<|g1 j j (mk [(1,M 1),(2,M 2),(3,M 3)] [(1,Oa (G 0 (kz a_0))),(2,Oa [C (Y (⟨#[]⟩:ByteArray)),C (I 0),C (I 0)]),(3,Oa [C (Y a_0.jr),C (I 0),C (I 0)])]) (q (pF (r':=.mp 1 0 1) akp j)<|q (l0 tF2 j)<|q (pF (r':=.mp 3 0 1) Fq j)<|q (pS tF2 j (tkI tk0) j)<|nl)<|us<|gs<|g1 j j (mk [(1,M 1),(2,M 2),(3,M 3)] [(1,Oa (G 0 (kz a_0))),(2,Oa [C (Y (⟨#[]⟩:ByteArray)),C (I 0),C (I 0)]),(3,Oa [C (Y a_0.jr),C (I a_0.iK),C (I 0)])]) (q (pF (r':=.mp 1 0 2) akq j)<|q (l0 tF2 j)<|q (pF (r':=.mp 3 0 2) JV j)<|q (pS tF2 j (tkI tk0) j)<|nl)<|us<|gs<|g1 j j (mk [(2,M 2),(3,M 3)] [(2,Oa [C (Y (⟨#[]⟩:ByteArray)),C (I 0),C (I 0)]),(3,Oa (G 0 (kz a_0)))]) (q (pL (cs:=[.im 0 _,.im 0 _,.im 0 _]) H6 j)<|q (pS H6 j (tkI (tkI (tkI tk0))) j)<|nl)<|us<|gr al2 j
theorem NC {a_0:(List aI)} {r:(List aI)} (h:um a_0=some r):FX 53 [.im 2 false [W 3 aK a_0]] (B0 [(false,[.ow 0 3 (List.map aK r)])]):=by
 unfold um at h
 refine gn 23 Tryz.func53 rfl ?_
 refine gs<|G0 (q (AP j j aoB)<|nl)<|us<|gs<|?_
 obtain ⟨x7,hx7,h⟩:=bs h
 refine G0 (q (pM j)<|q (pI ah8 j)<|q (oMk (en:=aK) j hx7 j VS j j (fxI (fxI (fxI fx0))) j (gY (L:=[_]) j fun _=>j))<|q (jU j j j j j)<|nl)<|us<|gs<|gs<|G0 (q (pA j)<|nl)<|us<|Go.block<|?_
 obtain ⟨o,hl,h⟩:=bs h
 refine gl c53 j _ (fun (s:(Int×(List aI)))=>match s with | (bz,aV)=>mk [(0,D 2 (W 3 aK a_0)),(3,H 3 0),(4,iv bz)] [(3,Oc [Z (W 3 aK aV)])]) (fun (bH:(List aI)) (p:Ex×St)=>p.1= .exit 0∧p.2.norm ([3],[3])=mk [(3,H 3 0)] [(3,Oc [Z (W 3 aK bH)])]) hl (by kernel_rfl) ?_ ?_ ?_
 ·intro o p hp e
  exact nomatch (hp.1.symm.trans e)
 ·rintro ⟨bz,aV⟩ o h
  unfold nM at h
  dsimp only at h
  refine gs<|gs<|G0 (q (pM j)<|q (pM j)<|q (pI ah8 j)<|q (pB j)<|nl)<|us<|gc h j ah (fun hc3 h=>?_) fun hc3 h=>?_
  ·refine Go.skip<|us<|gs<|Go.block<|?_
   obtain ⟨x18,zG,x20,ny,h⟩:=b2 h
   obtain ⟨x21,xx,h⟩:=bs h
   refine G0 (q (pM j)<|q (pM j)<|q (pM j)<|q (pM j)<|q (pJ zG ane j)<|q (pL (cs:=[.im 2 _,.im 2 _,.im 2 _]) acD j)<|q (cA (vs:=[(true,[.im 0 _,.im 0 _,.im 0 _])]) (v:=.v true [.im 0 _,.im 0 _,.im 0 _]) (Gg ny) XD j j j j j)<|q (Gm j xx VS j j j j)<|q (Qz (v':=x20) H6 j j j (fxI (fxI (fxI fx0))) j j (oH xx) j)<|nl)<|Unw.blk<|us<|g1 j j (mk [(0,D 2 (W 3 aK a_0)),(3,H 3 0),(4,iv bz)] [(3,Oc [Z (W 3 aK (aV.set bz.toNat x20))])]) (q (pM j)<|q (pB j)<|q (pA j)<|nl)<|Unw.nil<|?_
   cases h
   exact ⟨j,(by kernel_rfl)⟩
  ·refine Go.exit<|ux<|Unw.nil<|?_
   cases h
   exact ⟨j,(by kernel_rfl)⟩
 ·rintro ⟨e,st⟩ hp
  obtain ⟨bH,rfl⟩:∃y,y=o:=⟨o,rfl⟩
  obtain ⟨he,hst⟩:=hp
  obtain rfl:e= .exit 0:=he
  obtain rfl:=rn h
  exact Unw.gz<|us<|gs<|g2 c53 j j hst (q (pM j)<|q (jU j j j j j)<|nl)<|us<|gr aoU j
theorem ND {a_0:dJ} {r:dJ} (h:uq a_0=some r):FX 24 [.im 2 true (fB a_0)] (B0 [(true,[.im 0 (I r.az.Width),.im 0 (I r.az.Height),.ow 0 2 (List.map af r.az.bG),.ow 0 2 (List.map aQ r.az.aG),.ow 0 3 (List.map aK r.dM)])]):=by
 unfold uq at h
 refine gn 13 Tryz.func24 rfl ?_
 refine gs<|G0 (q (pX ah4 j (tkI (tkI (tkI (tkI (tkI tk0))))))<|q (oAl j Ns (tkI (tkI (tkN (tkN (tkN tk0))))))<|nl)<|us<|gs<|g1 j j (mk [(1,M 1),(2,M 2)] [(1,Oa (G 2 (fB a_0))),(2,Oa [C (I 0),C (I 0),Z (W 2 af ([]:List ae)),Z (W 2 aQ ([]:List bT)),Z (W 3 aK ([]:List aI))])]) (q (oAl j Ns (tkI (tkI (tkN (tkN (tkN tk0))))))<|nl)<|us<|gs<|?_
 obtain ⟨x6,hx6,h⟩:=bs h
 refine g1 j j (mk [(1,M 1),(2,M 2),(3,M 3)] [(1,Oa (G 2 (fB a_0))),(2,Oa [C (I 0),C (I 0),Z (W 2 af ([]:List ae)),Z (W 2 aQ ([]:List bT)),Z (W 3 aK ([]:List aI))]),(3,Oa [C (I 0),C (I 0),Z (W 2 af ([]:List ae)),Z (W 2 aQ ([]:List bT)),Z (W 3 aK ([]:List aI))])]) (q (pF (r':=.mp 1 0 0) aeJ j)<|q (pL (cs:=[.im 0 _,.im 0 _,.im 2 _,.im 2 _]) ah3 j)<|q (cR (vs:=[(true,[.im 0 _,.im 0 _,.own 6 0 0,.own 6 0 1])]) (v:=.v true [.im 0 _,.im 0 _,.own 6 0 0,.own 6 0 1]) (c:=⟨.sh,0,_⟩) (cs:=[⟨.sh,0,_⟩]) (Nz hx6) ahT j j j j j)<|q (pF (r':=.mp 3 0 0) uP j)<|q (pS Du j (tkI (tkI (tkO j j (tkO j j tk0)))) j)<|nl)<|us<|gs<|?_
 obtain ⟨x10,wo,h⟩:=bs h
 obtain rfl:=rn h
 exact g1 j j (mk [(1,M 1),(2,M 2),(3,M 3)] [(1,Oa (G 2 (fB a_0))),(2,Oa [C (I 0),C (I 0),Z (W 2 af ([]:List ae)),Z (W 2 aQ ([]:List bT)),Z (W 3 aK ([]:List aI))]),(3,Oa [C (I x6.Width),C (I x6.Height),Z (W 2 af x6.bG),Z (W 2 aQ x6.aG),Z (W 3 aK ([]:List aI))])]) (q (pF (r':=.mp 1 0 4) aeK j)<|q (l2 anj j)<|q (cR (vs:=[(false,[.own 10 0 0])]) (v:=.v false [.own 10 0 0]) (c:=⟨.sh,0,_⟩) (cs:=[]) (NC wo) ahU j j j j j)<|q (pF (r':=.mp 3 0 4) D5 j)<|q (pS Tq j (tkO j j tk0) j)<|nl)<|us<|gs<|g1 j j (mk [(2,M 2),(3,M 3)] [(2,Oa [C (I 0),C (I 0),Z (W 2 af ([]:List ae)),Z (W 2 aQ ([]:List bT)),Z (W 3 aK ([]:List aI))]),(3,Oa [C (I x6.Width),C (I x6.Height),Z (W 2 af x6.bG),Z (W 2 aQ x6.aG),Z (W 3 aK x10)])]) (q (pL (cs:=[.im 0 _,.im 0 _,.own 3 0 2,.own 3 0 3,.own 3 0 4]) Ns j)<|q (pS Ns j (tkI (tkI (tkO j j (tkO j j (tkO j j tk0))))) j)<|nl)<|us<|gr aoI j
theorem VX {a_0:dn} {r:dn} (h:Cm a_0=some r):FX 151 [.im 2 true (xe a_0)] (B0 [(true,J 0 (xe r))]):=by
 unfold Cm at h
 refine gn 17 Tryz.func151 rfl ?_
 obtain rfl:=rn h
 exact gs<|G0 (q (pX aiY j (tkI (tkI (tkI (tkI tk0)))))<|q (oAl j EJ (tkI (tkI (tkI (tkI tk0)))))<|nl)<|us<|gs<|G0 (q (oAl j EJ (tkI (tkI (tkI (tkI tk0)))))<|nl)<|us<|gs<|G0 (q (pF (r':=.mp 1 0 0) ahx j)<|q (l0 tF2 j)<|q (pF (r':=.mp 3 0 0) BM j)<|q (pS tF2 j (tkI tk0) j)<|nl)<|us<|gs<|g1 j j (mk [(1,M 1),(2,M 2),(3,M 3)] [(1,Oa (G 0 (xe a_0))),(2,Oa [C (I 0),C (I 0),C (I 0),C (I 0)]),(3,Oa [C (I a_0.X),C (I 0),C (I 0),C (I 0)])]) (q (pF (r':=.mp 1 0 1) ahy j)<|q (l0 tF2 j)<|q (pF (r':=.mp 3 0 1) Aa j)<|q (pS tF2 j (tkI tk0) j)<|nl)<|us<|gs<|g1 j j (mk [(1,M 1),(2,M 2),(3,M 3)] [(1,Oa (G 0 (xe a_0))),(2,Oa [C (I 0),C (I 0),C (I 0),C (I 0)]),(3,Oa [C (I a_0.X),C (I a_0.Y),C (I 0),C (I 0)])]) (q (pF (r':=.mp 1 0 2) ahz j)<|q (l0 tF2 j)<|q (pF (r':=.mp 3 0 2) Fg j)<|q (pS tF2 j (tkI tk0) j)<|nl)<|us<|gs<|g1 j j (mk [(1,M 1),(2,M 2),(3,M 3)] [(1,Oa (G 0 (xe a_0))),(2,Oa [C (I 0),C (I 0),C (I 0),C (I 0)]),(3,Oa [C (I a_0.X),C (I a_0.Y),C (I a_0.Width),C (I 0)])]) (q (pF (r':=.mp 1 0 3) ahA j)<|q (l0 tF2 j)<|q (pF (r':=.mp 3 0 3) IY j)<|q (pS tF2 j (tkI tk0) j)<|nl)<|us<|gs<|g1 j j (mk [(2,M 2),(3,M 3)] [(2,Oa [C (I 0),C (I 0),C (I 0),C (I 0)]),(3,Oa (G 0 (xe a_0)))]) (q (pL (cs:=[.im 0 _,.im 0 _,.im 0 _,.im 0 _]) EJ j)<|q (pS EJ j (tkI (tkI (tkI (tkI tk0)))) j)<|nl)<|us<|gr amj j
theorem TC {a_0:(List dn)} {r:(List dn)} (h:Aj a_0=some r):FX 103 [.im 2 false [W 4 cu a_0]] (B0 [(false,[.ow 0 4 (List.map cu r)])]):=by
 unfold Aj at h
 refine gn 23 Tryz.func103 rfl ?_
 refine gs<|G0 (q (AP j j aoE)<|nl)<|us<|gs<|?_
 obtain ⟨x7,hx7,h⟩:=bs h
 refine G0 (q (pM j)<|q (pI akL j)<|q (oMk (en:=cu) j hx7 j Tn j j (fxI (fxI (fxI (fxI fx0)))) j (gY (L:=[_]) j fun _=>j))<|q (jU j j j j j)<|nl)<|us<|gs<|gs<|G0 (q (pA j)<|nl)<|us<|Go.block<|?_
 obtain ⟨o,hl,h⟩:=bs h
 refine gl alI j _ (fun (s:(Int×(List dn)))=>match s with | (bz,aV)=>mk [(0,D 2 (W 4 cu a_0)),(3,H 3 0),(4,iv bz)] [(3,Oc [Z (W 4 cu aV)])]) (fun (bH:(List dn)) (p:Ex×St)=>p.1= .exit 0∧p.2.norm ([3],[3])=mk [(3,H 3 0)] [(3,Oc [Z (W 4 cu bH)])]) hl (by kernel_rfl) ?_ ?_ ?_
 ·intro o p hp e
  exact nomatch (hp.1.symm.trans e)
 ·rintro ⟨bz,aV⟩ o h
  unfold uu at h
  dsimp only at h
  refine gs<|gs<|G0 (q (pM j)<|q (pM j)<|q (pI akL j)<|q (pB j)<|nl)<|us<|gc h j ah (fun hc3 h=>?_) fun hc3 h=>?_
  ·refine Go.skip<|us<|gs<|Go.block<|?_
   obtain ⟨x18,zG,x20,ny,h⟩:=b2 h
   obtain ⟨x21,xx,h⟩:=bs h
   refine G0 (q (pM j)<|q (pM j)<|q (pM j)<|q (pM j)<|q (pJ zG ape j)<|q (pL (cs:=[.im 2 _,.im 2 _,.im 2 _,.im 2 _]) aiY j)<|q (cA (vs:=[(true,[.im 0 _,.im 0 _,.im 0 _,.im 0 _])]) (v:=.v true [.im 0 _,.im 0 _,.im 0 _,.im 0 _]) (VX ny) ab9 j j j j j)<|q (Gm j xx Tn j j j j)<|q (Qz (v':=x20) EJ j j j (fxI (fxI (fxI (fxI fx0)))) j j (oH xx) j)<|nl)<|Unw.blk<|us<|g1 j j (mk [(0,D 2 (W 4 cu a_0)),(3,H 3 0),(4,iv bz)] [(3,Oc [Z (W 4 cu (aV.set bz.toNat x20))])]) (q (pM j)<|q (pB j)<|q (pA j)<|nl)<|Unw.nil<|?_
   cases h
   exact ⟨j,(by kernel_rfl)⟩
  ·refine Go.exit<|ux<|Unw.nil<|?_
   cases h
   exact ⟨j,(by kernel_rfl)⟩
 ·rintro ⟨e,st⟩ hp
  obtain ⟨bH,rfl⟩:∃y,y=o:=⟨o,rfl⟩
  obtain ⟨he,hst⟩:=hp
  obtain rfl:e= .exit 0:=he
  obtain rfl:=rn h
  exact Unw.gz<|us<|gs<|g2 alI j j hst (q (pM j)<|q (jU j j j j j)<|nl)<|us<|gr al3 j
theorem TD {a_0:bU} {r:bU} (h:Ak a_0=some r):FX 54 [.im 2 true (gu a_0)] (B0 [(true,[.im 0 (Y r.Id),.im 0 (Y r.lM),.im 0 (I r.Number),.im 0 (Y r.jL.jr),.im 0 (I r.jL.iK),.im 0 (I r.jL.Bl),.im 0 (I r.Width),.im 0 (I r.Length),.ow 0 4 (List.map cu r.fU)])]):=by
 unfold Ak at h
 refine gn 28 Tryz.func54 rfl ?_
 refine gs<|G0 (q (pX ah6 j (tkI (tkI (tkI (tkI (tkI (tkI (tkI (tkI (tkI tk0))))))))))<|q (oAl j Jc (tkI (tkI (tkI (tkI (tkI (tkI (tkI (tkI (tkN tk0))))))))))<|nl)<|us<|gs<|g1 j j (mk [(1,M 1),(2,M 2)] [(1,Oa (G 2 (gu a_0))),(2,Oa [C (Y (⟨#[]⟩:ByteArray)),C (Y (⟨#[]⟩:ByteArray)),C (I 0),C (Y (⟨#[]⟩:ByteArray)),C (I 0),C (I 0),C (I 0),C (I 0),Z (W 4 cu ([]:List dn))])]) (q (oAl j Jc (tkI (tkI (tkI (tkI (tkI (tkI (tkI (tkI (tkN tk0))))))))))<|nl)<|us<|gs<|g1 j j (mk [(1,M 1),(2,M 2),(3,M 3)] [(1,Oa (G 2 (gu a_0))),(2,Oa [C (Y (⟨#[]⟩:ByteArray)),C (Y (⟨#[]⟩:ByteArray)),C (I 0),C (Y (⟨#[]⟩:ByteArray)),C (I 0),C (I 0),C (I 0),C (I 0),Z (W 4 cu ([]:List dn))]),(3,Oa [C (Y (⟨#[]⟩:ByteArray)),C (Y (⟨#[]⟩:ByteArray)),C (I 0),C (Y (⟨#[]⟩:ByteArray)),C (I 0),C (I 0),C (I 0),C (I 0),Z (W 4 cu ([]:List dn))])]) (q (pF (r':=.mp 1 0 0) aeR j)<|q (l0 tF9 j)<|q (pF (r':=.mp 3 0 0) D6 j)<|q (pS tF9 j (tkI tk0) j)<|nl)<|us<|gs<|g1 j j (mk [(1,M 1),(2,M 2),(3,M 3)] [(1,Oa (G 2 (gu a_0))),(2,Oa [C (Y (⟨#[]⟩:ByteArray)),C (Y (⟨#[]⟩:ByteArray)),C (I 0),C (Y (⟨#[]⟩:ByteArray)),C (I 0),C (I 0),C (I 0),C (I 0),Z (W 4 cu ([]:List dn))]),(3,Oa [C (Y a_0.Id),C (Y (⟨#[]⟩:ByteArray)),C (I 0),C (Y (⟨#[]⟩:ByteArray)),C (I 0),C (I 0),C (I 0),C (I 0),Z (W 4 cu ([]:List dn))])]) (q (pF (r':=.mp 1 0 1) aeS j)<|q (l0 tF9 j)<|q (pF (r':=.mp 3 0 1) MZ j)<|q (pS tF9 j (tkI tk0) j)<|nl)<|us<|gs<|g1 j j (mk [(1,M 1),(2,M 2),(3,M 3)] [(1,Oa (G 2 (gu a_0))),(2,Oa [C (Y (⟨#[]⟩:ByteArray)),C (Y (⟨#[]⟩:ByteArray)),C (I 0),C (Y (⟨#[]⟩:ByteArray)),C (I 0),C (I 0),C (I 0),C (I 0),Z (W 4 cu ([]:List dn))]),(3,Oa [C (Y a_0.Id),C (Y a_0.lM),C (I 0),C (Y (⟨#[]⟩:ByteArray)),C (I 0),C (I 0),C (I 0),C (I 0),Z (W 4 cu ([]:List dn))])]) (q (pF (r':=.mp 1 0 2) akr j)<|q (l0 tF2 j)<|q (pF (r':=.mp 3 0 2) Na j)<|q (pS tF2 j (tkI tk0) j)<|nl)<|us<|gs<|?_
 obtain ⟨x15,rW,h⟩:=bs h
 refine g1 j j (mk [(1,M 1),(2,M 2),(3,M 3)] [(1,Oa (G 2 (gu a_0))),(2,Oa [C (Y (⟨#[]⟩:ByteArray)),C (Y (⟨#[]⟩:ByteArray)),C (I 0),C (Y (⟨#[]⟩:ByteArray)),C (I 0),C (I 0),C (I 0),C (I 0),Z (W 4 cu ([]:List dn))]),(3,Oa [C (Y a_0.Id),C (Y a_0.lM),C (I a_0.Number),C (Y (⟨#[]⟩:ByteArray)),C (I 0),C (I 0),C (I 0),C (I 0),Z (W 4 cu ([]:List dn))])]) (q (pF (r':=.mp 1 0 3) aeT j)<|q (pL (cs:=[.im 0 _,.im 0 _,.im 0 _]) acD j)<|q (cA (vs:=[(true,[.im 0 _,.im 0 _,.im 0 _])]) (v:=.v true [.im 0 _,.im 0 _,.im 0 _]) (Gg rW) XD j j j j j)<|q (pF (r':=.mp 3 0 3) Hq j)<|q (pS H6 j (tkI (tkI (tkI tk0))) j)<|nl)<|us<|gs<|g1 j j (mk [(1,M 1),(2,M 2),(3,M 3)] [(1,Oa (G 2 (gu a_0))),(2,Oa [C (Y (⟨#[]⟩:ByteArray)),C (Y (⟨#[]⟩:ByteArray)),C (I 0),C (Y (⟨#[]⟩:ByteArray)),C (I 0),C (I 0),C (I 0),C (I 0),Z (W 4 cu ([]:List dn))]),(3,Oa [C (Y a_0.Id),C (Y a_0.lM),C (I a_0.Number),C (Y x15.jr),C (I x15.iK),C (I x15.Bl),C (I 0),C (I 0),Z (W 4 cu ([]:List dn))])]) (q (pF (r':=.mp 1 0 6) aks j)<|q (l0 tF2 j)<|q (pF (r':=.mp 3 0 6) Hr j)<|q (pS tF2 j (tkI tk0) j)<|nl)<|us<|gs<|g1 j j (mk [(1,M 1),(2,M 2),(3,M 3)] [(1,Oa (G 2 (gu a_0))),(2,Oa [C (Y (⟨#[]⟩:ByteArray)),C (Y (⟨#[]⟩:ByteArray)),C (I 0),C (Y (⟨#[]⟩:ByteArray)),C (I 0),C (I 0),C (I 0),C (I 0),Z (W 4 cu ([]:List dn))]),(3,Oa [C (Y a_0.Id),C (Y a_0.lM),C (I a_0.Number),C (Y x15.jr),C (I x15.iK),C (I x15.Bl),C (I a_0.Width),C (I 0),Z (W 4 cu ([]:List dn))])]) (q (pF (r':=.mp 1 0 7) akt j)<|q (l0 tF2 j)<|q (pF (r':=.mp 3 0 7) Ht j)<|q (pS tF2 j (tkI tk0) j)<|nl)<|us<|gs<|?_
 obtain ⟨x25,hx25,h⟩:=bs h
 obtain rfl:=rn h
 exact g1 j j (mk [(1,M 1),(2,M 2),(3,M 3)] [(1,Oa (G 2 (gu a_0))),(2,Oa [C (Y (⟨#[]⟩:ByteArray)),C (Y (⟨#[]⟩:ByteArray)),C (I 0),C (Y (⟨#[]⟩:ByteArray)),C (I 0),C (I 0),C (I 0),C (I 0),Z (W 4 cu ([]:List dn))]),(3,Oa [C (Y a_0.Id),C (Y a_0.lM),C (I a_0.Number),C (Y x15.jr),C (I x15.iK),C (I x15.Bl),C (I a_0.Width),C (I a_0.Length),Z (W 4 cu ([]:List dn))])]) (q (pF (r':=.mp 1 0 8) aeU j)<|q (l2 ann j)<|q (cR (vs:=[(false,[.own 25 0 0])]) (v:=.v false [.own 25 0 0]) (c:=⟨.sh,0,_⟩) (cs:=[]) (TC hx25) aeX j j j j j)<|q (pF (r':=.mp 3 0 8) Fv j)<|q (pS VU j (tkO j j tk0) j)<|nl)<|us<|gs<|g1 j j (mk [(2,M 2),(3,M 3)] [(2,Oa [C (Y (⟨#[]⟩:ByteArray)),C (Y (⟨#[]⟩:ByteArray)),C (I 0),C (Y (⟨#[]⟩:ByteArray)),C (I 0),C (I 0),C (I 0),C (I 0),Z (W 4 cu ([]:List dn))]),(3,Oa [C (Y a_0.Id),C (Y a_0.lM),C (I a_0.Number),C (Y x15.jr),C (I x15.iK),C (I x15.Bl),C (I a_0.Width),C (I a_0.Length),Z (W 4 cu x25)])]) (q (pL (cs:=[.im 0 _,.im 0 _,.im 0 _,.im 0 _,.im 0 _,.im 0 _,.im 0 _,.im 0 _,.own 3 0 8]) Jc j)<|q (pS Jc j (tkI (tkI (tkI (tkI (tkI (tkI (tkI (tkI (tkO j j tk0))))))))) j)<|nl)<|us<|gr aoV j
theorem Q8 {a_0:(List bU)} {r:(List bU)} (h:yw a_0=some r):FX 25 [.im 2 false [W 9 aW a_0]] (B0 [(false,[.ow 0 9 (List.map aW r)])]):=by
 unfold yw at h
 refine gn 23 Tryz.func25 rfl ?_
 refine gs<|G0 (q (AP j j aoC)<|nl)<|us<|gs<|?_
 obtain ⟨x7,hx7,h⟩:=bs h
 refine G0 (q (pM j)<|q (pI ah9 j)<|q (oMk (en:=aW) j hx7 j EI j j (fxI (fxI (fxI (fxI (fxI (fxI (fxI (fxI (fxN fx0))))))))) j (Ld j))<|q (jU j j j j j)<|nl)<|us<|gs<|gs<|G0 (q (pA j)<|nl)<|us<|Go.block<|?_
 obtain ⟨o,hl,h⟩:=bs h
 refine gl c25 j _ (fun (s:(Int×(List bU)))=>match s with | (bz,aV)=>mk [(0,D 2 (W 9 aW a_0)),(3,H 3 0),(4,iv bz)] [(3,Oc [Z (W 9 aW aV)])]) (fun (bH:(List bU)) (p:Ex×St)=>p.1= .exit 0∧p.2.norm ([3],[3])=mk [(3,H 3 0)] [(3,Oc [Z (W 9 aW bH)])]) hl (by kernel_rfl) ?_ ?_ ?_
 ·intro o p hp e
  exact nomatch (hp.1.symm.trans e)
 ·rintro ⟨bz,aV⟩ o h
  unfold qW at h
  dsimp only at h
  refine gs<|gs<|G0 (q (pM j)<|q (pM j)<|q (pI ah9 j)<|q (pB j)<|nl)<|us<|gc h j ah (fun hc3 h=>?_) fun hc3 h=>?_
  ·refine Go.skip<|us<|gs<|Go.block<|?_
   obtain ⟨x18,zG,x20,ny,h⟩:=b2 h
   obtain ⟨x21,xx,h⟩:=bs h
   refine G0 (q (pM j)<|q (pM j)<|q (pM j)<|q (pM j)<|q (pJ zG anf j)<|q (pL (cs:=[.im 2 _,.im 2 _,.im 2 _,.im 2 _,.im 2 _,.im 2 _,.im 2 _,.im 2 _,.im 2 _]) ah6 j)<|q (cR (vs:=[(true,[.im 0 _,.im 0 _,.im 0 _,.im 0 _,.im 0 _,.im 0 _,.im 0 _,.im 0 _,.own 20 0 0])]) (v:=.v true [.im 0 _,.im 0 _,.im 0 _,.im 0 _,.im 0 _,.im 0 _,.im 0 _,.im 0 _,.own 20 0 0]) (c:=⟨.sh,0,_⟩) (cs:=[]) (TD ny) ahV j j j j j)<|q (Gm j xx EI j j j j)<|q (Qz (v':=x20) Jc j j j (fxI (fxI (fxI (fxI (fxI (fxI (fxI (fxI (fxO j j fx0))))))))) j j (oH xx) j)<|nl)<|Unw.blk<|us<|g1 j j (mk [(0,D 2 (W 9 aW a_0)),(3,H 3 0),(4,iv bz)] [(3,Oc [Z (W 9 aW (aV.set bz.toNat x20))])]) (q (pM j)<|q (pB j)<|q (pA j)<|nl)<|Unw.nil<|?_
   cases h
   exact ⟨j,(by kernel_rfl)⟩
  ·refine Go.exit<|ux<|Unw.nil<|?_
   cases h
   exact ⟨j,(by kernel_rfl)⟩
 ·rintro ⟨e,st⟩ hp
  obtain ⟨bH,rfl⟩:∃y,y=o:=⟨o,rfl⟩
  obtain ⟨he,hst⟩:=hp
  obtain rfl:e= .exit 0:=he
  obtain rfl:=rn h
  exact Unw.gz<|us<|gs<|g2 c25 j j hst (q (pM j)<|q (jU j j j j j)<|nl)<|us<|gr aoJ j
theorem JY {a_0:ak} {r:ak} (h:pz a_0=some r):FX 55 [.im 2 true (dZ a_0)] (B0 [(true,J 0 (dZ r))]):=by
 unfold pz at h
 refine gn 20 Tryz.func55 rfl ?_
 obtain rfl:=rn h
 exact gs<|G0 (q (pX aiW j (tkI (tkI (tkI (tkI (tkI tk0))))))<|q (oAl j Bo (tkI (tkI (tkI (tkI (tkI tk0))))))<|nl)<|us<|gs<|g1 j j (mk [(1,M 1),(2,M 2)] [(1,Oa (G 0 (dZ a_0))),(2,Oa [C (I 0),C (I 0),C (I 0),C (I 0),C (I 0)])]) (q (oAl j Bo (tkI (tkI (tkI (tkI (tkI tk0))))))<|nl)<|us<|gs<|g1 j j (mk [(1,M 1),(2,M 2),(3,M 3)] [(1,Oa (G 0 (dZ a_0))),(2,Oa [C (I 0),C (I 0),C (I 0),C (I 0),C (I 0)]),(3,Oa [C (I 0),C (I 0),C (I 0),C (I 0),C (I 0)])]) (q (pF (r':=.mp 1 0 0) ahq j)<|q (l0 tF2 j)<|q (pF (r':=.mp 3 0 0) xg j)<|q (pS tF2 j (tkI tk0) j)<|nl)<|us<|gs<|g1 j j (mk [(1,M 1),(2,M 2),(3,M 3)] [(1,Oa (G 0 (dZ a_0))),(2,Oa [C (I 0),C (I 0),C (I 0),C (I 0),C (I 0)]),(3,Oa [C (I a_0.nI),C (I 0),C (I 0),C (I 0),C (I 0)])]) (q (pF (r':=.mp 1 0 1) ahr j)<|q (l0 tF2 j)<|q (pF (r':=.mp 3 0 1) IU j)<|q (pS tF2 j (tkI tk0) j)<|nl)<|us<|gs<|g1 j j (mk [(1,M 1),(2,M 2),(3,M 3)] [(1,Oa (G 0 (dZ a_0))),(2,Oa [C (I 0),C (I 0),C (I 0),C (I 0),C (I 0)]),(3,Oa [C (I a_0.nI),C (I a_0.OJ),C (I 0),C (I 0),C (I 0)])]) (q (pF (r':=.mp 1 0 2) ahs j)<|q (l0 tF2 j)<|q (pF (r':=.mp 3 0 2) IV j)<|q (pS tF2 j (tkI tk0) j)<|nl)<|us<|gs<|g1 j j (mk [(1,M 1),(2,M 2),(3,M 3)] [(1,Oa (G 0 (dZ a_0))),(2,Oa [C (I 0),C (I 0),C (I 0),C (I 0),C (I 0)]),(3,Oa [C (I a_0.nI),C (I a_0.OJ),C (I a_0.X),C (I 0),C (I 0)])]) (q (pF (r':=.mp 1 0 3) aht j)<|q (l0 tF2 j)<|q (pF (r':=.mp 3 0 3) IW j)<|q (pS tF2 j (tkI tk0) j)<|nl)<|us<|gs<|g1 j j (mk [(1,M 1),(2,M 2),(3,M 3)] [(1,Oa (G 0 (dZ a_0))),(2,Oa [C (I 0),C (I 0),C (I 0),C (I 0),C (I 0)]),(3,Oa [C (I a_0.nI),C (I a_0.OJ),C (I a_0.X),C (I a_0.Y),C (I 0)])]) (q (pF (r':=.mp 1 0 4) ahu j)<|q (l0 tF2 j)<|q (pF (r':=.mp 3 0 4) IX j)<|q (pS tF2 j (tkI tk0) j)<|nl)<|us<|gs<|g1 j j (mk [(2,M 2),(3,M 3)] [(2,Oa [C (I 0),C (I 0),C (I 0),C (I 0),C (I 0)]),(3,Oa (G 0 (dZ a_0)))]) (q (pL (cs:=[.im 0 _,.im 0 _,.im 0 _,.im 0 _,.im 0 _]) Bo j)<|q (pS Bo j (tkI (tkI (tkI (tkI (tkI tk0))))) j)<|nl)<|us<|gr aoW j
theorem Je {a_0:(List ak)} {r:(List ak)} (h:nN a_0=some r):FX 26 [.im 2 false [W 5 aj a_0]] (B0 [(false,[.ow 0 5 (List.map aj r)])]):=by
 unfold nN at h
 refine gn 23 Tryz.func26 rfl ?_
 refine gs<|G0 (q (AP j j aoD)<|nl)<|us<|gs<|?_
 obtain ⟨x7,hx7,h⟩:=bs h
 refine G0 (q (pM j)<|q (pI akK j)<|q (oMk (en:=aj) j hx7 j Gt j j (fxI (fxI (fxI (fxI (fxI fx0))))) j (gY (L:=[_]) j fun _=>j))<|q (jU j j j j j)<|nl)<|us<|gs<|gs<|G0 (q (pA j)<|nl)<|us<|Go.block<|?_
 obtain ⟨o,hl,h⟩:=bs h
 refine gl c26 j _ (fun (s:(Int×(List ak)))=>match s with | (bz,aV)=>mk [(0,D 2 (W 5 aj a_0)),(3,H 3 0),(4,iv bz)] [(3,Oc [Z (W 5 aj aV)])]) (fun (bH:(List ak)) (p:Ex×St)=>p.1= .exit 0∧p.2.norm ([3],[3])=mk [(3,H 3 0)] [(3,Oc [Z (W 5 aj bH)])]) hl (by kernel_rfl) ?_ ?_ ?_
 ·intro o p hp e
  exact nomatch (hp.1.symm.trans e)
 ·rintro ⟨bz,aV⟩ o h
  unfold kM at h
  dsimp only at h
  refine gs<|gs<|G0 (q (pM j)<|q (pM j)<|q (pI akK j)<|q (pB j)<|nl)<|us<|gc h j ah (fun hc3 h=>?_) fun hc3 h=>?_
  ·refine Go.skip<|us<|gs<|Go.block<|?_
   obtain ⟨x18,zG,x20,ny,h⟩:=b2 h
   obtain ⟨x21,xx,h⟩:=bs h
   refine G0 (q (pM j)<|q (pM j)<|q (pM j)<|q (pM j)<|q (pJ zG apc j)<|q (pL (cs:=[.im 2 _,.im 2 _,.im 2 _,.im 2 _,.im 2 _]) aiW j)<|q (cA (vs:=[(true,[.im 0 _,.im 0 _,.im 0 _,.im 0 _,.im 0 _])]) (v:=.v true [.im 0 _,.im 0 _,.im 0 _,.im 0 _,.im 0 _]) (JY ny) ae7 j j j j j)<|q (Gm j xx Gt j j j j)<|q (Qz (v':=x20) Bo j j j (fxI (fxI (fxI (fxI (fxI fx0))))) j j (oH xx) j)<|nl)<|Unw.blk<|us<|g1 j j (mk [(0,D 2 (W 5 aj a_0)),(3,H 3 0),(4,iv bz)] [(3,Oc [Z (W 5 aj (aV.set bz.toNat x20))])]) (q (pM j)<|q (pB j)<|q (pA j)<|nl)<|Unw.nil<|?_
   cases h
   exact ⟨j,(by kernel_rfl)⟩
  ·refine Go.exit<|ux<|Unw.nil<|?_
   cases h
   exact ⟨j,(by kernel_rfl)⟩
 ·rintro ⟨e,st⟩ hp
  obtain ⟨bH,rfl⟩:∃y,y=o:=⟨o,rfl⟩
  obtain ⟨he,hst⟩:=hp
  obtain rfl:e= .exit 0:=he
  obtain rfl:=rn h
  exact Unw.gz<|us<|gs<|g2 c26 j j hst (q (pM j)<|q (jU j j j j j)<|nl)<|us<|gr aoK j
theorem Q9 {a_0:jv} {r:jv} (h:yx a_0=some r):FX 27 [.im 2 true (qj a_0)] (B0 [(true,J 0 (qj r))]):=by
 unfold yx at h
 refine gn 17 Tryz.func27 rfl ?_
 obtain rfl:=rn h
 exact gs<|G0 (q (pX anm j (tkI (tkI (tkI (tkI tk0)))))<|q (oAl j QZ (tkI (tkI (tkI (tkI tk0)))))<|nl)<|us<|gs<|G0 (q (oAl j QZ (tkI (tkI (tkI (tkI tk0)))))<|nl)<|us<|gs<|G0 (q (pF (r':=.mp 1 0 0) akg j)<|q (l0 tF2 j)<|q (pF (r':=.mp 3 0 0) QH j)<|q (pS tF2 j (tkI tk0) j)<|nl)<|us<|gs<|g1 j j (mk [(1,M 1),(2,M 2),(3,M 3)] [(1,Oa (G 0 (qj a_0))),(2,Oa [C (I 0),C (I 0),C (I 0),C (I 0)]),(3,Oa [C (I a_0.kD),C (I 0),C (I 0),C (I 0)])]) (q (pF (r':=.mp 1 0 1) akh j)<|q (l0 tF2 j)<|q (pF (r':=.mp 3 0 1) QI j)<|q (pS tF2 j (tkI tk0) j)<|nl)<|us<|gs<|g1 j j (mk [(1,M 1),(2,M 2),(3,M 3)] [(1,Oa (G 0 (qj a_0))),(2,Oa [C (I 0),C (I 0),C (I 0),C (I 0)]),(3,Oa [C (I a_0.kD),C (I a_0.o8),C (I 0),C (I 0)])]) (q (pF (r':=.mp 1 0 2) aki j)<|q (l0 tF2 j)<|q (pF (r':=.mp 3 0 2) QJ j)<|q (pS tF2 j (tkI tk0) j)<|nl)<|us<|gs<|g1 j j (mk [(1,M 1),(2,M 2),(3,M 3)] [(1,Oa (G 0 (qj a_0))),(2,Oa [C (I 0),C (I 0),C (I 0),C (I 0)]),(3,Oa [C (I a_0.kD),C (I a_0.o8),C (I a_0.yg),C (I 0)])]) (q (pF (r':=.mp 1 0 3) akj j)<|q (l0 tF2 j)<|q (pF (r':=.mp 3 0 3) QK j)<|q (pS tF2 j (tkI tk0) j)<|nl)<|us<|gs<|g1 j j (mk [(2,M 2),(3,M 3)] [(2,Oa [C (I 0),C (I 0),C (I 0),C (I 0)]),(3,Oa (G 0 (qj a_0)))]) (q (pL (cs:=[.im 0 _,.im 0 _,.im 0 _,.im 0 _]) QZ j)<|q (pS QZ j (tkI (tkI (tkI (tkI tk0)))) j)<|nl)<|us<|gr aoL j
theorem BN {a_0:fM} {r:fM} (h:uw a_0=some r):FX 8 [.im 2 true (bI a_0)] (B0 [(true,[.im 0 (I r.aS.az.Width),.im 0 (I r.aS.az.Height),.ow 0 2 (List.map af r.aS.az.bG),.ow 0 2 (List.map aQ r.aS.az.aG),.ow 0 3 (List.map aK r.aS.dM),.ow 0 9 (List.map aW r.Leaves),.ow 0 5 (List.map aj r.bP),.im 0 (I r.yh.kD),.im 0 (I r.yh.o8),.im 0 (I r.yh.yg),.im 0 (I r.yh.iK),.im 0 (I r.jk),.im 0 (I r.Jb),.im 0 (I r.Ci),.im 0 (I r.Gap),.ow 0 1 (List.map eI r.Order),.ow 0 1 (List.map eI r.G6)])]):=by
 unfold uw at h
 refine gn 41 Tryz.func8 rfl ?_
 refine gs<|G0 (q (pX XZ j (tkI (tkI (tkI (tkI (tkI (tkI (tkI (tkI (tkI (tkI (tkI (tkI (tkI (tkI (tkI (tkI (tkI tk0))))))))))))))))))<|q (oAl j Gu (tkI (tkI (tkN (tkN (tkN (tkN (tkN (tkI (tkI (tkI (tkI (tkI (tkI (tkI (tkI (tkN (tkN tk0))))))))))))))))))<|nl)<|us<|gs<|g1 j j (mk [(1,M 1),(2,M 2)] [(1,Oa (G 2 (bI a_0))),(2,Oa [C (I 0),C (I 0),Z (W 2 af ([]:List ae)),Z (W 2 aQ ([]:List bT)),Z (W 3 aK ([]:List aI)),Z (W 9 aW ([]:List bU)),Z (W 5 aj ([]:List ak)),C (I 0),C (I 0),C (I 0),C (I 0),C (I 0),C (I 0),C (I 0),C (I 0),Z (W 1 eI ([]:List Int)),Z (W 1 eI ([]:List Int))])]) (q (oAl j Gu (tkI (tkI (tkN (tkN (tkN (tkN (tkN (tkI (tkI (tkI (tkI (tkI (tkI (tkI (tkI (tkN (tkN tk0))))))))))))))))))<|nl)<|us<|gs<|?_
 obtain ⟨x6,hx6,h⟩:=bs h
 refine g1 j j (mk [(1,M 1),(2,M 2),(3,M 3)] [(1,Oa (G 2 (bI a_0))),(2,Oa [C (I 0),C (I 0),Z (W 2 af ([]:List ae)),Z (W 2 aQ ([]:List bT)),Z (W 3 aK ([]:List aI)),Z (W 9 aW ([]:List bU)),Z (W 5 aj ([]:List ak)),C (I 0),C (I 0),C (I 0),C (I 0),C (I 0),C (I 0),C (I 0),C (I 0),Z (W 1 eI ([]:List Int)),Z (W 1 eI ([]:List Int))]),(3,Oa [C (I 0),C (I 0),Z (W 2 af ([]:List ae)),Z (W 2 aQ ([]:List bT)),Z (W 3 aK ([]:List aI)),Z (W 9 aW ([]:List bU)),Z (W 5 aj ([]:List ak)),C (I 0),C (I 0),C (I 0),C (I 0),C (I 0),C (I 0),C (I 0),C (I 0),Z (W 1 eI ([]:List Int)),Z (W 1 eI ([]:List Int))])]) (q (pF (r':=.mp 1 0 0) aeL j)<|q (pL (cs:=[.im 0 _,.im 0 _,.im 2 _,.im 2 _,.im 2 _]) ah4 j)<|q (cR (vs:=[(true,[.im 0 _,.im 0 _,.own 6 0 0,.own 6 0 1,.own 6 0 2])]) (v:=.v true [.im 0 _,.im 0 _,.own 6 0 0,.own 6 0 1,.own 6 0 2]) (c:=⟨.sh,0,_⟩) (cs:=[⟨.sh,0,_⟩,⟨.sh,0,_⟩]) (ND hx6) ahI j j j j j)<|q (pF (r':=.mp 3 0 0) qQ j)<|q (pS Ns j (tkI (tkI (tkO j j (tkO j j (tkO j j tk0))))) j)<|nl)<|us<|gs<|?_
 obtain ⟨x10,wo,h⟩:=bs h
 refine g1 j j (mk [(1,M 1),(2,M 2),(3,M 3)] [(1,Oa (G 2 (bI a_0))),(2,Oa [C (I 0),C (I 0),Z (W 2 af ([]:List ae)),Z (W 2 aQ ([]:List bT)),Z (W 3 aK ([]:List aI)),Z (W 9 aW ([]:List bU)),Z (W 5 aj ([]:List ak)),C (I 0),C (I 0),C (I 0),C (I 0),C (I 0),C (I 0),C (I 0),C (I 0),Z (W 1 eI ([]:List Int)),Z (W 1 eI ([]:List Int))]),(3,Oa [C (I x6.az.Width),C (I x6.az.Height),Z (W 2 af x6.az.bG),Z (W 2 aQ x6.az.aG),Z (W 3 aK x6.dM),Z (W 9 aW ([]:List bU)),Z (W 5 aj ([]:List ak)),C (I 0),C (I 0),C (I 0),C (I 0),C (I 0),C (I 0),C (I 0),C (I 0),Z (W 1 eI ([]:List Int)),Z (W 1 eI ([]:List Int))])]) (q (pF (r':=.mp 1 0 5) aeM j)<|q (l2 ank j)<|q (cR (vs:=[(false,[.own 10 0 0])]) (v:=.v false [.own 10 0 0]) (c:=⟨.sh,0,_⟩) (cs:=[]) (Q8 wo) ahJ j j j j j)<|q (pF (r':=.mp 3 0 5) Fj j)<|q (pS VT j (tkO j j tk0) j)<|nl)<|us<|gs<|?_
 obtain ⟨x14,kR,h⟩:=bs h
 refine g1 j j (mk [(1,M 1),(2,M 2),(3,M 3)] [(1,Oa (G 2 (bI a_0))),(2,Oa [C (I 0),C (I 0),Z (W 2 af ([]:List ae)),Z (W 2 aQ ([]:List bT)),Z (W 3 aK ([]:List aI)),Z (W 9 aW ([]:List bU)),Z (W 5 aj ([]:List ak)),C (I 0),C (I 0),C (I 0),C (I 0),C (I 0),C (I 0),C (I 0),C (I 0),Z (W 1 eI ([]:List Int)),Z (W 1 eI ([]:List Int))]),(3,Oa [C (I x6.az.Width),C (I x6.az.Height),Z (W 2 af x6.az.bG),Z (W 2 aQ x6.az.aG),Z (W 3 aK x6.dM),Z (W 9 aW x10),Z (W 5 aj ([]:List ak)),C (I 0),C (I 0),C (I 0),C (I 0),C (I 0),C (I 0),C (I 0),C (I 0),Z (W 1 eI ([]:List Int)),Z (W 1 eI ([]:List Int))])]) (q (pF (r':=.mp 1 0 6) aeN j)<|q (l2 anl j)<|q (cR (vs:=[(false,[.own 14 0 0])]) (v:=.v false [.own 14 0 0]) (c:=⟨.sh,0,_⟩) (cs:=[]) (Je kR) ahK j j j j j)<|q (pF (r':=.mp 3 0 6) A8 j)<|q (pS OL j (tkO j j tk0) j)<|nl)<|us<|gs<|?_
 obtain ⟨x18,zG,h⟩:=bs h
 refine g1 j j (mk [(1,M 1),(2,M 2),(3,M 3)] [(1,Oa (G 2 (bI a_0))),(2,Oa [C (I 0),C (I 0),Z (W 2 af ([]:List ae)),Z (W 2 aQ ([]:List bT)),Z (W 3 aK ([]:List aI)),Z (W 9 aW ([]:List bU)),Z (W 5 aj ([]:List ak)),C (I 0),C (I 0),C (I 0),C (I 0),C (I 0),C (I 0),C (I 0),C (I 0),Z (W 1 eI ([]:List Int)),Z (W 1 eI ([]:List Int))]),(3,Oa [C (I x6.az.Width),C (I x6.az.Height),Z (W 2 af x6.az.bG),Z (W 2 aQ x6.az.aG),Z (W 3 aK x6.dM),Z (W 9 aW x10),Z (W 5 aj x14),C (I 0),C (I 0),C (I 0),C (I 0),C (I 0),C (I 0),C (I 0),C (I 0),Z (W 1 eI ([]:List Int)),Z (W 1 eI ([]:List Int))])]) (q (pF (r':=.mp 1 0 7) akk j)<|q (pL (cs:=[.im 0 _,.im 0 _,.im 0 _,.im 0 _]) anm j)<|q (cA (vs:=[(true,[.im 0 _,.im 0 _,.im 0 _,.im 0 _])]) (v:=.v true [.im 0 _,.im 0 _,.im 0 _,.im 0 _]) (Q9 zG) ahL j j j j j)<|q (pF (r':=.mp 3 0 7) QL j)<|q (pS QZ j (tkI (tkI (tkI (tkI tk0)))) j)<|nl)<|us<|gs<|g1 j j (mk [(1,M 1),(2,M 2),(3,M 3)] [(1,Oa (G 2 (bI a_0))),(2,Oa [C (I 0),C (I 0),Z (W 2 af ([]:List ae)),Z (W 2 aQ ([]:List bT)),Z (W 3 aK ([]:List aI)),Z (W 9 aW ([]:List bU)),Z (W 5 aj ([]:List ak)),C (I 0),C (I 0),C (I 0),C (I 0),C (I 0),C (I 0),C (I 0),C (I 0),Z (W 1 eI ([]:List Int)),Z (W 1 eI ([]:List Int))]),(3,Oa [C (I x6.az.Width),C (I x6.az.Height),Z (W 2 af x6.az.bG),Z (W 2 aQ x6.az.aG),Z (W 3 aK x6.dM),Z (W 9 aW x10),Z (W 5 aj x14),C (I x18.kD),C (I x18.o8),C (I x18.yg),C (I x18.iK),C (I 0),C (I 0),C (I 0),C (I 0),Z (W 1 eI ([]:List Int)),Z (W 1 eI ([]:List Int))])]) (q (pF (r':=.mp 1 0 11) akl j)<|q (l0 tF2 j)<|q (pF (r':=.mp 3 0 11) QM j)<|q (pS tF2 j (tkI tk0) j)<|nl)<|us<|gs<|g1 j j (mk [(1,M 1),(2,M 2),(3,M 3)] [(1,Oa (G 2 (bI a_0))),(2,Oa [C (I 0),C (I 0),Z (W 2 af ([]:List ae)),Z (W 2 aQ ([]:List bT)),Z (W 3 aK ([]:List aI)),Z (W 9 aW ([]:List bU)),Z (W 5 aj ([]:List ak)),C (I 0),C (I 0),C (I 0),C (I 0),C (I 0),C (I 0),C (I 0),C (I 0),Z (W 1 eI ([]:List Int)),Z (W 1 eI ([]:List Int))]),(3,Oa [C (I x6.az.Width),C (I x6.az.Height),Z (W 2 af x6.az.bG),Z (W 2 aQ x6.az.aG),Z (W 3 aK x6.dM),Z (W 9 aW x10),Z (W 5 aj x14),C (I x18.kD),C (I x18.o8),C (I x18.yg),C (I x18.iK),C (I a_0.jk),C (I 0),C (I 0),C (I 0),Z (W 1 eI ([]:List Int)),Z (W 1 eI ([]:List Int))])]) (q (pF (r':=.mp 1 0 12) akm j)<|q (l0 tF2 j)<|q (pF (r':=.mp 3 0 12) QN j)<|q (pS tF2 j (tkI tk0) j)<|nl)<|us<|gs<|g1 j j (mk [(1,M 1),(2,M 2),(3,M 3)] [(1,Oa (G 2 (bI a_0))),(2,Oa [C (I 0),C (I 0),Z (W 2 af ([]:List ae)),Z (W 2 aQ ([]:List bT)),Z (W 3 aK ([]:List aI)),Z (W 9 aW ([]:List bU)),Z (W 5 aj ([]:List ak)),C (I 0),C (I 0),C (I 0),C (I 0),C (I 0),C (I 0),C (I 0),C (I 0),Z (W 1 eI ([]:List Int)),Z (W 1 eI ([]:List Int))]),(3,Oa [C (I x6.az.Width),C (I x6.az.Height),Z (W 2 af x6.az.bG),Z (W 2 aQ x6.az.aG),Z (W 3 aK x6.dM),Z (W 9 aW x10),Z (W 5 aj x14),C (I x18.kD),C (I x18.o8),C (I x18.yg),C (I x18.iK),C (I a_0.jk),C (I a_0.Jb),C (I 0),C (I 0),Z (W 1 eI ([]:List Int)),Z (W 1 eI ([]:List Int))])]) (q (pF (r':=.mp 1 0 13) akn j)<|q (l0 tF2 j)<|q (pF (r':=.mp 3 0 13) JS j)<|q (pS tF2 j (tkI tk0) j)<|nl)<|us<|gs<|g1 j j (mk [(1,M 1),(2,M 2),(3,M 3)] [(1,Oa (G 2 (bI a_0))),(2,Oa [C (I 0),C (I 0),Z (W 2 af ([]:List ae)),Z (W 2 aQ ([]:List bT)),Z (W 3 aK ([]:List aI)),Z (W 9 aW ([]:List bU)),Z (W 5 aj ([]:List ak)),C (I 0),C (I 0),C (I 0),C (I 0),C (I 0),C (I 0),C (I 0),C (I 0),Z (W 1 eI ([]:List Int)),Z (W 1 eI ([]:List Int))]),(3,Oa [C (I x6.az.Width),C (I x6.az.Height),Z (W 2 af x6.az.bG),Z (W 2 aQ x6.az.aG),Z (W 3 aK x6.dM),Z (W 9 aW x10),Z (W 5 aj x14),C (I x18.kD),C (I x18.o8),C (I x18.yg),C (I x18.iK),C (I a_0.jk),C (I a_0.Jb),C (I a_0.Ci),C (I 0),Z (W 1 eI ([]:List Int)),Z (W 1 eI ([]:List Int))])]) (q (pF (r':=.mp 1 0 14) ako j)<|q (l0 tF2 j)<|q (pF (r':=.mp 3 0 14) MX j)<|q (pS tF2 j (tkI tk0) j)<|nl)<|us<|gs<|?_
 obtain ⟨x34,hx34,h⟩:=bs h
 refine g1 j j (mk [(1,M 1),(2,M 2),(3,M 3)] [(1,Oa (G 2 (bI a_0))),(2,Oa [C (I 0),C (I 0),Z (W 2 af ([]:List ae)),Z (W 2 aQ ([]:List bT)),Z (W 3 aK ([]:List aI)),Z (W 9 aW ([]:List bU)),Z (W 5 aj ([]:List ak)),C (I 0),C (I 0),C (I 0),C (I 0),C (I 0),C (I 0),C (I 0),C (I 0),Z (W 1 eI ([]:List Int)),Z (W 1 eI ([]:List Int))]),(3,Oa [C (I x6.az.Width),C (I x6.az.Height),Z (W 2 af x6.az.bG),Z (W 2 aQ x6.az.aG),Z (W 3 aK x6.dM),Z (W 9 aW x10),Z (W 5 aj x14),C (I x18.kD),C (I x18.o8),C (I x18.yg),C (I x18.iK),C (I a_0.jk),C (I a_0.Jb),C (I a_0.Ci),C (I a_0.Gap),Z (W 1 eI ([]:List Int)),Z (W 1 eI ([]:List Int))])]) (q (pF (r':=.mp 1 0 15) aeO j)<|q (l2 l9 j)<|q (cR (vs:=[(false,[.own 34 0 0])]) (v:=.v false [.own 34 0 0]) (c:=⟨.sh,0,_⟩) (cs:=[]) (Bd hx34) VN j j j j j)<|q (pF (r':=.mp 3 0 15) zF j)<|q (pS l9 j (tkO j j tk0) j)<|nl)<|us<|gs<|?_
 obtain ⟨x38,hx38,h⟩:=bs h
 obtain rfl:=rn h
 exact g1 j j (mk [(1,M 1),(2,M 2),(3,M 3)] [(1,Oa (G 2 (bI a_0))),(2,Oa [C (I 0),C (I 0),Z (W 2 af ([]:List ae)),Z (W 2 aQ ([]:List bT)),Z (W 3 aK ([]:List aI)),Z (W 9 aW ([]:List bU)),Z (W 5 aj ([]:List ak)),C (I 0),C (I 0),C (I 0),C (I 0),C (I 0),C (I 0),C (I 0),C (I 0),Z (W 1 eI ([]:List Int)),Z (W 1 eI ([]:List Int))]),(3,Oa [C (I x6.az.Width),C (I x6.az.Height),Z (W 2 af x6.az.bG),Z (W 2 aQ x6.az.aG),Z (W 3 aK x6.dM),Z (W 9 aW x10),Z (W 5 aj x14),C (I x18.kD),C (I x18.o8),C (I x18.yg),C (I x18.iK),C (I a_0.jk),C (I a_0.Jb),C (I a_0.Ci),C (I a_0.Gap),Z (W 1 eI x34),Z (W 1 eI ([]:List Int))])]) (q (pF (r':=.mp 1 0 16) aeP j)<|q (l2 l9 j)<|q (cR (vs:=[(false,[.own 38 0 0])]) (v:=.v false [.own 38 0 0]) (c:=⟨.sh,0,_⟩) (cs:=[]) (Bd hx38) VN j j j j j)<|q (pF (r':=.mp 3 0 16) VC j)<|q (pS l9 j (tkO j j tk0) j)<|nl)<|us<|gs<|g1 j j (mk [(2,M 2),(3,M 3)] [(2,Oa [C (I 0),C (I 0),Z (W 2 af ([]:List ae)),Z (W 2 aQ ([]:List bT)),Z (W 3 aK ([]:List aI)),Z (W 9 aW ([]:List bU)),Z (W 5 aj ([]:List ak)),C (I 0),C (I 0),C (I 0),C (I 0),C (I 0),C (I 0),C (I 0),C (I 0),Z (W 1 eI ([]:List Int)),Z (W 1 eI ([]:List Int))]),(3,Oa [C (I x6.az.Width),C (I x6.az.Height),Z (W 2 af x6.az.bG),Z (W 2 aQ x6.az.aG),Z (W 3 aK x6.dM),Z (W 9 aW x10),Z (W 5 aj x14),C (I x18.kD),C (I x18.o8),C (I x18.yg),C (I x18.iK),C (I a_0.jk),C (I a_0.Jb),C (I a_0.Ci),C (I a_0.Gap),Z (W 1 eI x34),Z (W 1 eI x38)])]) (q (pL (cs:=[.im 0 _,.im 0 _,.own 3 0 2,.own 3 0 3,.own 3 0 4,.own 3 0 5,.own 3 0 6,.im 0 _,.im 0 _,.im 0 _,.im 0 _,.im 0 _,.im 0 _,.im 0 _,.im 0 _,.own 3 0 15,.own 3 0 16]) Gu j)<|q (pS Gu j (tkI (tkI (tkO j j (tkO j j (tkO j j (tkO j j (tkO j j (tkI (tkI (tkI (tkI (tkI (tkI (tkI (tkI (tkO j j (tkO j j tk0))))))))))))))))) j)<|nl)<|us<|gr rF8 j
theorem aX {n_0:Int} {Et:Int} {zx:Int} {r:Bool} (h:bM n_0 Et zx=some r):FX 132 [.im 2 false [I n_0],.im 2 false [I Et],.im 2 false [I zx]] (B0 [(false,[.im 0 (V r)])]):=by
 unfold bM at h
 refine gn 15 Tryz.func132 rfl ?_
 refine gs<|G0 (q (pA j)<|nl)<|us<|gs<|gX aoo j j j (mk [(6,bv ((decide (n_0≥Et))&&(decide (n_0≤zx))))] []) ?_ ?_
 ·refine xq (pM j)<|xq (pM j)<|xq (pB j)<|xq (pM j)<|?_
  by_cases hc1:n_0≥Et
  ·exact xG rfl (ah.2 hc1) (pM rfl)<|xG rfl (ah.2 hc1) (pM rfl)<|xG rfl (ah.2 hc1) (pB rfl)<|xq (pT rfl (ah.2 hc1))<|xq (pA rfl)<|xn (Eq.trans (b:=(fun fP:Bool=>mk [(6,bv fP)] []) (decide (n_0≤zx))) (by kernel_rfl) (congrArg (fun fP:Bool=>mk [(6,bv fP)] []) (by first | rfl | (simp [(ah.2 hc1)];done) | (simp [(ah.2 hc1)];omega))))
  ·exact xF rfl (byF ah hc1)<|xF rfl (byF ah hc1)<|xF rfl (byF ah hc1)<|xq (pW rfl (byF ah hc1))<|xq (pA rfl)<|xn (Eq.trans (b:=(fun fP:Bool=>mk [(6,bv fP)] []) false) (by kernel_rfl) (congrArg (fun fP:Bool=>mk [(6,bv fP)] []) (by first | rfl | (simp [(byF ah hc1)];done) | (simp [(byF ah hc1)];omega))))
 ·obtain rfl:=rn h
  exact us<|gr amd j
theorem NF {d_0:aB} {r:Bool} (h:yz d_0=some r):FX 177 [.im 2 false [.cp (au d_0) 0]] (B0 [(false,[.im 0 (V r)])]):=by
 unfold yz at h
 refine gn 70 Tryz.func177 rfl ?_
 refine gs<|G0 (q (pA j)<|nl)<|us<|gs<|gs<|G0 (q (pM j)<|q (pN j)<|q (f2 uO j)<|q (l2 HY j)<|q (pI Ba j)<|q (pB j)<|nl)<|us<|gc h j ah (fun hc1 h=>?_) fun hc1 h=>?_
 ·obtain rfl:=rn h
  exact gs<|G0 (q (pA j)<|nl)<|us<|gr abp j
 ·refine Go.skip<|us<|gs<|gs<|G0 (q (pA j)<|nl)<|us<|Go.block<|?_
  obtain ⟨o,hl,h⟩:=bs h
  refine gl ab4 j _ (fun (eH:Int)=>mk [(0,D 2 (.cp (au d_0) 0)),(3,iv eH)] []) (fun (o:(Unit ⊕ Bool)) (p:Ex×St)=>match o with | (.inl _)=>p.1= .exit 0∧p.2.norm ([],[])=mk [] [] | (.inr r2)=>p.1= .ret∧fin Tryz.prog cfg 177 Tryz.f177 [.im 2 false [.cp (au d_0) 0]] p.2=some (B0 [(false,[.im 0 (V r2)])])) hl (by kernel_rfl) ?_ ?_ ?_
  ·intro o p hp e
   rcases o with u | r2<;>exact nomatch (hp.1.symm.trans e)
  ·rintro eH o h
   unfold kU at h
   refine gs<|gs<|G0 (q (pM j)<|q (pM j)<|q (pN j)<|q (f2 uO j)<|q (l2 HY j)<|q (pI Ba j)<|q (pB j)<|nl)<|us<|gc h j ah (fun hc18 h=>?_) fun hc18 h=>?_
   ·refine Go.skip<|us<|gs<|Go.block<|gs<|gs<|?_
    obtain ⟨x25,hx25,x32,hx32,h⟩:=b2 h
    obtain ⟨ET,H7,h⟩:=bs h
    refine gd ab4 j j j j (mk [(0,D 2 (.cp (au d_0) 0)),(3,iv eH),(49,bv ET)] []) ?_ ?_
    ·refine t1 j (pM j)<|t1 j (pN j)<|t1 j (f2 uO j)<|t1 j (l2 HY j)<|t1 j (pM j)<|t1 j (pJ hx25 oZ j)<|t1 j (f2 dO j)<|t1 j (l2 tF2 j)<|t1 j (pM j)<|t1 j (pN j)<|t1 j (f2 Fh j)<|?_
     refine ic H7 (fun hc19 H7=>?_) fun hc19 H7=>?_
     ·obtain ⟨x40,VY,H7⟩:=bs H7
      obtain ⟨x47,Zi,H7⟩:=bs H7
      cases H7
      exact t1 j (l2 tF2 j)<|s1 j (c1 (aX hx32) bF j j j j) (t1 j (pU j)<|t1 j (pM j)<|t2 j (nF (iR.2 hc19)) (pM j)<|t2 j (nF (iR.2 hc19)) (pN j)<|t2 j (nF (iR.2 hc19)) (f2 uO j)<|t2 j (nF (iR.2 hc19)) (l2 HY j)<|t2 j (nF (iR.2 hc19)) (pM j)<|t2 j (nF (iR.2 hc19)) (pJ VY oZ j)<|t2 j (nF (iR.2 hc19)) (f2 dH j)<|t2 j (nF (iR.2 hc19)) (l2 tF2 j)<|t2 j (nF (iR.2 hc19)) (pM j)<|t2 j (nF (iR.2 hc19)) (pN j)<|t2 j (nF (iR.2 hc19)) (f2 A7 j)<|t2 j (nF (iR.2 hc19)) (l2 tF2 j)<|s2 j (nF (iR.2 hc19)) (c1 (aX Zi) bF j j j j) (t2 j (nF (iR.2 hc19)) (pU j)<|t1 j (pW j (nF (iR.2 hc19)))<|sD (by kernel_rfl)))
     ·cases H7
      exact t1 j (l2 tF2 j)<|s1 j (c1 (aX hx32) bF j j j j) (t1 j (pU j)<|t1 j (pM j)<|t3 j (nT (byF iR hc19))<|t3 j (nT (byF iR hc19))<|t3 j (nT (byF iR hc19))<|t3 j (nT (byF iR hc19))<|t3 j (nT (byF iR hc19))<|t3 j (nT (byF iR hc19))<|t3 j (nT (byF iR hc19))<|t3 j (nT (byF iR hc19))<|t3 j (nT (byF iR hc19))<|t3 j (nT (byF iR hc19))<|t3 j (nT (byF iR hc19))<|t3 j (nT (byF iR hc19))<|sS (dF j j j (nT (byF iR hc19)) j) trivial (t3 j (nT (byF iR hc19))<|t1 j (pT j (nT (byF iR hc19)))<|sD (by kernel_rfl)))
    ·refine us<|gc h j iR (fun JZ h=>?_) fun JZ h=>?_
     ·refine gs<|G0 (q (pA j)<|nl)<|us<|Go.ret (Unw.ret ?_)
      cases h
      exact ⟨j,(fo abp j)⟩
     ·refine Go.skip<|us<|gs<|G0 (q (pA j)<|nl)<|us<|Go.block<|?_
      obtain ⟨o,hl,h⟩:=bs h
      refine gl ab4 j _ (fun (JP:Int)=>mk [(0,D 2 (.cp (au d_0) 0)),(3,iv eH),(4,iv JP)] []) (fun (o:(Unit ⊕ Bool)) (p:Ex×St)=>match o with | (.inl _)=>p.1= .exit 2∧p.2.norm ([0,3],[])=mk [(0,D 2 (.cp (au d_0) 0)),(3,iv eH)] [] | (.inr r2)=>p.1= .ret∧fin Tryz.prog cfg 177 Tryz.f177 [.im 2 false [.cp (au d_0) 0]] p.2=some (B0 [(false,[.im 0 (V r2)])])) hl (by kernel_rfl) ?_ ?_ ?_
      ·intro o p hp e
       rcases o with u | r2<;>exact nomatch (hp.1.symm.trans e)
      ·rintro JP o h
       unfold kT at h
       refine gs<|gs<|G0 (q (pM j)<|q (pM j)<|q (pB j)<|nl)<|us<|gc h j ah (fun hc25 h=>?_) fun hc25 h=>?_
       ·refine Go.skip<|us<|gs<|Go.block<|gs<|?_
        obtain ⟨x60,apf,x67,Zj,h⟩:=b2 h
        refine gd ab4 j j j j (mk [(0,D 2 (.cp (au d_0) 0)),(3,iv eH),(4,iv JP),(69,bv ((x60.X==x67.X)&&(x60.Y==x67.Y)))] []) (t1 j (pM j)<|t1 j (pN j)<|t1 j (f2 uO j)<|t1 j (l2 HY j)<|t1 j (pM j)<|t1 j (pJ apf oZ j)<|t1 j (pL (cs:=[.im 2 _,.im 2 _]) aC j)<|t1 j (pM j)<|t1 j (pN j)<|t1 j (f2 uO j)<|t1 j (l2 HY j)<|t1 j (pM j)<|t1 j (pJ Zj oZ j)<|t1 j (pL (cs:=[.im 2 _,.im 2 _]) aC j)<|t1 j (oBa j (VR x60.X x60.Y x67.X x67.Y) j j j j)<|sD (by kernel_rfl))<|us<|gc h j (BG iEq iEq) (fun akM h=>?_) fun akM h=>?_
        ·refine gs<|G0 (q (pA j)<|nl)<|us<|Go.ret (Unw.ret ?_)
         cases h
         exact ⟨j,(fo abp j)⟩
        ·refine Go.skip<|Unw.blk<|us<|G0 (q (pM j)<|q (pB j)<|q (pA j)<|nl)<|Unw.nil<|?_
         cases h
         exact ⟨j,(by kernel_rfl)⟩
       ·refine Go.exit<|ux<|Unw.nil<|?_
        cases h
        exact ⟨j,(by kernel_rfl)⟩
      ·rintro ⟨e,st⟩ hp
       rcases o with u | r2
       ·dsimp only at h
        obtain ⟨he,hst⟩:=hp
        obtain rfl:e= .exit 2:=he
        refine Unw.gz<|Unw.blk<|us<|g2 ab4 j j hst (q (pM j)<|q (pB j)<|q (pA j)<|nl)<|Unw.nil<|?_
        cases h
        exact ⟨j,(by kernel_rfl)⟩
       ·dsimp only at h
        obtain ⟨he,hfin⟩:=hp
        obtain rfl:e= .ret:=he
        cases h
        exact Unw.ret ⟨j,hfin⟩
   ·refine Go.exit<|ux<|Unw.nil<|?_
    cases h
    exact ⟨j,(by kernel_rfl)⟩
  ·rintro ⟨e,st⟩ hp
   rcases o with u | r2
   ·dsimp only at h
    obtain ⟨he,hst⟩:=hp
    obtain rfl:e= .exit 0:=he
    obtain rfl:=rn h
    exact Unw.gz<|us<|gs<|g2 ab4 j j hst (q (pA j)<|nl)<|us<|gr abp j
   ·dsimp only at h
    obtain ⟨he,hfin⟩:=hp
    obtain rfl:e= .ret:=he
    cases h
    exact Unw.ret (di hfin)
theorem Gh {c_0:Int} {r:Bool} (h:oK c_0=some r):FX 223 [.im 2 false [.sc (.int .u8 c_0)]] (B0 [(false,[.im 0 (V r)])]):=by
 unfold oK at h
 refine gn 9 Tryz.func223 rfl ?_
 refine gs<|G0 (q (pA j)<|nl)<|us<|gs<|gX aou j j j (mk [(2,bv ((decide (c_0≥97))&&(decide (c_0≤122))))] []) ?_ ?_
 ·refine xq (pM j)<|xq (pB j)<|xq (pM j)<|?_
  by_cases hc1:c_0≥97
  ·exact xG rfl (ah.2 hc1) (pM rfl)<|xG rfl (ah.2 hc1) (pB rfl)<|xq (pT rfl (ah.2 hc1))<|xq (pA rfl)<|xn (Eq.trans (b:=(fun fD:Bool=>mk [(2,bv fD)] []) (decide (c_0≤122))) (by kernel_rfl) (congrArg (fun fD:Bool=>mk [(2,bv fD)] []) (by first | rfl | (simp [(ah.2 hc1)];done) | (simp [(ah.2 hc1)];omega))))
  ·exact xF rfl (byF ah hc1)<|xF rfl (byF ah hc1)<|xq (pW rfl (byF ah hc1))<|xq (pA rfl)<|xn (Eq.trans (b:=(fun fD:Bool=>mk [(2,bv fD)] []) false) (by kernel_rfl) (congrArg (fun fD:Bool=>mk [(2,bv fD)] []) (by first | rfl | (simp [(byF ah hc1)];done) | (simp [(byF ah hc1)];omega))))
 ·obtain rfl:=rn h
  exact us<|gr amL j
theorem OT {c_0:Int} {r:Bool} (h:wG c_0=some r):FX 224 [.im 2 false [.sc (.int .u8 c_0)]] (B0 [(false,[.im 0 (V r)])]):=by
 unfold wG at h
 refine gn 9 Tryz.func224 rfl ?_
 refine gs<|G0 (q (pA j)<|nl)<|us<|gs<|gX aov j j j (mk [(2,bv ((decide (c_0≥48))&&(decide (c_0≤57))))] []) ?_ ?_
 ·refine xq (pM j)<|xq (pB j)<|xq (pM j)<|?_
  by_cases hc1:c_0≥48
  ·exact xG rfl (ah.2 hc1) (pM rfl)<|xG rfl (ah.2 hc1) (pB rfl)<|xq (pT rfl (ah.2 hc1))<|xq (pA rfl)<|xn (Eq.trans (b:=(fun fD:Bool=>mk [(2,bv fD)] []) (decide (c_0≤57))) (by kernel_rfl) (congrArg (fun fD:Bool=>mk [(2,bv fD)] []) (by first | rfl | (simp [(ah.2 hc1)];done) | (simp [(ah.2 hc1)];omega))))
  ·exact xF rfl (byF ah hc1)<|xF rfl (byF ah hc1)<|xq (pW rfl (byF ah hc1))<|xq (pA rfl)<|xn (Eq.trans (b:=(fun fD:Bool=>mk [(2,bv fD)] []) false) (by kernel_rfl) (congrArg (fun fD:Bool=>mk [(2,bv fD)] []) (by first | rfl | (simp [(byF ah hc1)];done) | (simp [(byF ah hc1)];omega))))
 ·obtain rfl:=rn h
  exact us<|gr amM j
theorem uQ {s_0:ByteArray} {r:Bool} (h:qL s_0=some r):FX 178 [.im 2 false [Y s_0]] (B0 [(false,[.im 0 (V r)])]):=by
 unfold qL at h
 refine gn 35 Tryz.func178 rfl ?_
 refine gs<|G0 (q (pA j)<|nl)<|us<|gs<|gs<|?_
 obtain ⟨Va,NG,h⟩:=bs h
 refine gX ahn j j j (mk [(0,sv s_0),(16,bv Va)] []) ?_ ?_
 ·refine xq (pM j)<|xq (pB j)<|xq (pM j)<|?_
  refine ic NG (fun hc1 NG=>?_) fun hc1 NG=>?_
  ·cases NG
   exact xF j (zu.2 hc1)<|xF j (zu.2 hc1)<|xF j (zu.2 hc1)<|xq (pT j (zu.2 hc1))<|xq (pM j)<|xF j j<|xF j j<|xF j j<|xF j j<|xq (pT j j)<|xn
  ·refine xG j (byF zu hc1) (pM j)<|xG j (byF zu hc1) (U6 j j uF9 j)<|xG j (byF zu hc1) (pB j)<|xq (pW j (byF zu hc1))<|xq (pM j)<|?_
   refine ic NG (fun hc2 NG=>?_) fun hc2 NG=>?_
   ·cases NG
    exact xF j (ah.2 hc2)<|xF j (ah.2 hc2)<|xF j (ah.2 hc2)<|xF j (ah.2 hc2)<|xq (pT j (ah.2 hc2))<|xn
   ·obtain ⟨x13,ou,NG⟩:=bs NG
    obtain ⟨x14,kR,NG⟩:=bs NG
    cases NG
    exact xG j (byF ah hc2) (pM j)<|xG j (byF ah hc2) (oIx j ou uF9 j j)<|xG j (byF ah hc2) (c1 (Gh kR) abk j j j j)<|xG j (byF ah hc2) (pU j)<|xq (pW j (byF ah hc2))<|xn
 ·refine us<|gc h j iR (fun hc3 h=>?_) fun hc3 h=>?_
  ·obtain rfl:=rn h
   exact gs<|G0 (q (pA j)<|nl)<|us<|gr afm j
  ·refine Go.skip<|us<|gs<|gs<|G0 (q (pA j)<|nl)<|us<|Go.block<|?_
   obtain ⟨o,hl,h⟩:=bs h
   refine gl ahn j _ (fun (eH:Int)=>mk [(0,sv s_0),(3,iv eH)] []) (fun (o:(Unit ⊕ Bool)) (p:Ex×St)=>match o with | (.inl _)=>p.1= .exit 0∧p.2.norm ([],[])=mk [] [] | (.inr r2)=>p.1= .ret∧fin Tryz.prog cfg 178 Tryz.f178 [.im 2 false [Y s_0]] p.2=some (B0 [(false,[.im 0 (V r2)])])) hl (by kernel_rfl) ?_ ?_ ?_
   ·intro o p hp e
    rcases o with u | r2<;>exact nomatch (hp.1.symm.trans e)
   ·rintro eH o h
    unfold lg at h
    refine gs<|gs<|G0 (q (pM j)<|q (pM j)<|q (U6 j j uF9 j)<|q (pB j)<|nl)<|us<|gc h j ah (fun hc12 h=>?_) fun hc12 h=>?_
    ·refine Go.skip<|us<|gs<|Go.block<|gs<|?_
     obtain ⟨x25,hx25,x26,Ny,h⟩:=b2 h
     obtain ⟨U9,gB,h⟩:=bs h
     refine gX ahn j j j (mk [(0,sv s_0),(3,iv eH),(34,bv U9)] []) ?_ ?_
     ·refine xq (pM j)<|xq (pM j)<|xq (oIx j hx25 uF9 j j)<|xq (c1 (Gh Ny) abk j j j j)<|xq (pU j)<|xq (pM j)<|?_
      refine ic gB (fun hc13 gB=>?_) fun hc13 gB=>?_
      ·cases gB
       exact xF j (nF (iR.2 hc13))<|xF j (nF (iR.2 hc13))<|xF j (nF (iR.2 hc13))<|xF j (nF (iR.2 hc13))<|xF j (nF (iR.2 hc13))<|xq (pW j (nF (iR.2 hc13)))<|xn
      ·obtain ⟨x31,hx31,gB⟩:=bs gB
       obtain ⟨x32,hx32,gB⟩:=bs gB
       cases gB
       exact xG j (nT (byF iR hc13)) (pM j)<|xG j (nT (byF iR hc13)) (pM j)<|xG j (nT (byF iR hc13)) (oIx j hx31 uF9 j j)<|xG j (nT (byF iR hc13)) (c1 (OT hx32) ahE j j j j)<|xG j (nT (byF iR hc13)) (pU j)<|xq (pT j (nT (byF iR hc13)))<|xn
     ·refine us<|gc h j iR (fun Rf h=>?_) fun Rf h=>?_
      ·refine gs<|G0 (q (pA j)<|nl)<|us<|Go.ret (Unw.ret ?_)
       cases h
       exact ⟨j,(fo afm j)⟩
      ·refine Go.skip<|Unw.blk<|us<|G0 (q (pM j)<|q (pB j)<|q (pA j)<|nl)<|Unw.nil<|?_
       cases h
       exact ⟨j,(by kernel_rfl)⟩
    ·refine Go.exit<|ux<|Unw.nil<|?_
     cases h
     exact ⟨j,(by kernel_rfl)⟩
   ·rintro ⟨e,st⟩ hp
    rcases o with u | r2
    ·dsimp only at h
     obtain ⟨he,hst⟩:=hp
     obtain rfl:e= .exit 0:=he
     obtain rfl:=rn h
     exact Unw.gz<|us<|gs<|g2 ahn j j hst (q (pA j)<|nl)<|us<|gr afm j
    ·dsimp only at h
     obtain ⟨he,hfin⟩:=hp
     obtain rfl:e= .ret:=he
     cases h
     exact Unw.ret (di hfin)
theorem H8 {d_0:aB} {mG:(List Int)} {r:((List ae)×Bool)} (h:vw d_0 mG=some r):FX 179 [.im 2 false [.cp (au d_0) 0],.im 2 false [W 1 eI mG]] (B0 [(false,[.ow 0 2 (List.map af r.1)]),(false,[.im 0 (V r.2)])]):=by
 unfold vw at h
 refine gn 41 Tryz.func179 rfl ?_
 refine gs<|G0 (q (AP j j Y1)<|q (pA j)<|nl)<|us<|gs<|G0 (q (oBS (es:=List.map af ([]:List ae)) j oZ j pt0 (gY j fun _=>j))<|q (jU j j j j j)<|nl)<|us<|gs<|gs<|G0 (q (pA j)<|nl)<|us<|Go.block<|?_
 obtain ⟨o,hl,h⟩:=bs h
 refine gl aho j _ (fun (s:(Int×(List ae)))=>match s with | (EU,nG)=>mk [(0,D 2 (.cp (au d_0) 0)),(1,D 2 (W 1 eI mG)),(6,H 6 0),(7,iv EU)] [(6,Oc [Z (W 2 af nG)])]) (fun (o:((List ae) ⊕ ((List ae)×Bool))) (p:Ex×St)=>match o with | (.inl kP)=>p.1= .exit 0∧p.2.norm ([6],[6])=mk [(6,H 6 0)] [(6,Oc [Z (W 2 af kP)])] | (.inr r2)=>p.1= .ret∧fin Tryz.prog cfg 179 Tryz.f179 [.im 2 false [.cp (au d_0) 0],.im 2 false [W 1 eI mG]] p.2=some (B0 [(false,[.ow 0 2 (List.map af r2.1)]),(false,[.im 0 (V r2.2)])])) hl (by kernel_rfl) ?_ ?_ ?_
 ·intro o p hp e
  rcases o with kP | r2<;>exact nomatch (hp.1.symm.trans e)
 ·rintro ⟨EU,nG⟩ o h
  unfold AX at h
  dsimp only at h
  refine gs<|gs<|G0 (q (pM j)<|q (pM j)<|q (pI yV j)<|q (pB j)<|nl)<|us<|gc h j ah (fun hc5 h=>?_) fun hc5 h=>?_
  ·refine Go.skip<|us<|gs<|Go.block<|gs<|gs<|?_
   obtain ⟨x17,xP,x25,hx25,h⟩:=b2 h
   refine gd aho j j j j (mk [(0,D 2 (.cp (au d_0) 0)),(1,D 2 (W 1 eI mG)),(6,H 6 0),(7,iv EU),(26,bv (!x25))] [(6,Oc [Z (W 2 af nG)])]) (t1 j (pM j)<|t1 j (pM j)<|t1 j (pJ xP lS j)<|t1 j (l2 tF2 j)<|t1 j (pM j)<|t1 j (pN j)<|t1 j (f2 uO j)<|t1 j (l2 HY j)<|t1 j (pI Ba j)<|t1 j (pB j)<|s1 j (c1 (aX hx25) bF j j j j) (t1 j (pU j)<|sD (by kernel_rfl)))<|us<|?_
   by_cases hc6:x25=true
   ·rw [if_pos hc6] at h
    refine gF j (nF (iR.2 hc6))<|Go.skip<|us<|?_
    obtain ⟨x34,hx34,x36,H9,h⟩:=b2 h
    obtain ⟨x39,hx39,h⟩:=bs h
    refine gd aho j j j j (mk [(0,D 2 (.cp (au d_0) 0)),(1,D 2 (W 1 eI mG)),(6,H 6 0),(7,iv EU)] [(6,Oc [Z (W 2 af x39)])]) (t1 j (pM j)<|t1 j (pM j)<|t1 j (pN j)<|t1 j (f2 uO j)<|t1 j (l2 HY j)<|t1 j (pM j)<|t1 j (pM j)<|t1 j (pJ hx34 lS j)<|t1 j (l2 tF2 j)<|t1 j (pJ H9 oZ j)<|t1 j (pL (cs:=[.im 2 _,.im 2 _]) aC j)<|s1 j (oBS (es:=List.map af ([x36]:List ae)) j oZ j (ptC j (fxI (fxI fx0)) j pt0) (gY j fun _=>j)) (s1 j (OI (en:=af) (M:=([x36]:List ae)) j hx39 j oZ j j Ba (.inl ⟨_,j⟩) j j j j (yf j j) (gY j fun _=>j)) (s1 j (jU j j j j j) (sD (by kernel_rfl)))))<|Unw.blk<|us<|G0 (q (pM j)<|q (pB j)<|q (pA j)<|nl)<|Unw.nil<|?_
    cases h
    exact ⟨j,(by kernel_rfl)⟩
   ·rw [if_neg hc6] at h
    refine gT j (nT (byF iR hc6))<|gs<|G0 (q (AP j j Y1)<|q (pA j)<|nl)<|us<|Go.ret (Unw.ret ?_)
    cases h
    exact ⟨j,(fo aiI j)⟩
  ·refine Go.exit<|ux<|Unw.nil<|?_
   cases h
   exact ⟨j,(by kernel_rfl)⟩
 ·rintro ⟨e,st⟩ hp
  rcases o with kP | r2
  ·dsimp only at h
   obtain ⟨he,hst⟩:=hp
   obtain rfl:e= .exit 0:=he
   obtain rfl:=rn h
   exact Unw.gz<|us<|gs<|g2 aho j j hst (q (pM j)<|q (jU j j j j j)<|q (pA j)<|nl)<|us<|gr aiI j
  ·dsimp only at h
   obtain ⟨he,hfin⟩:=hp
   obtain rfl:e= .ret:=he
   cases h
   exact Unw.ret (di hfin)
theorem VZ {p_0:ae} {r:Bool} (h:JQ p_0=some r):FX 225 [.im 2 true (aN p_0)] (B0 [(false,[.im 0 (V r)])]):=by
 unfold JQ at h
 refine gn 11 Tryz.func225 rfl ?_
 refine gs<|G0 (q (pX aC j (tkI (tkI tk0)))<|q (pA j)<|nl)<|us<|gs<|?_
 obtain ⟨x5,hx5,fD,hm2,h⟩:=b2 h
 refine gX aow j j j (mk [(2,bv fD)] []) ?_ ?_
 ·refine xq (pF (r':=.mp 1 0 0) dO j)<|xq (l0 tF2 j)<|xq (c1 (aX hx5) bF j j j j)<|xq (pM j)<|?_
  refine ic hm2 (fun hc1 hm2=>?_) fun hc1 hm2=>?_
  ·obtain ⟨x9,hx9,hm2⟩:=bs hm2
   cases hm2
   exact xG j (iR.2 hc1) (pF (r':=.mp 1 0 1) dH j)<|xG j (iR.2 hc1) (l0 tF2 j)<|xG j (iR.2 hc1) (c1 (aX hx9) bF j j j j)<|xq (pT j (iR.2 hc1))<|xq (pA j)<|xn
  ·cases hm2
   exact xF j (byF iR hc1)<|xF j (byF iR hc1)<|xF j (byF iR hc1)<|xq (pW j (byF iR hc1))<|xq (pA j)<|xn
 ·obtain rfl:=rn h
  exact us<|gr amN j
theorem OU {a_0:ae} {b_1:ae} {c_2:ae} {r:Int} (h:zN a_0 b_1 c_2=some r):FX 250 [.im 2 true (aN a_0),.im 2 true (aN b_1),.im 2 true (aN c_2)] (B0 [(false,[.im 0 (I r)])]):=by
 unfold zN at h
 refine gn 30 Tryz.func250 rfl ?_
 obtain rfl:=rn h
 exact gs<|G0 (q (pX aC j (tkI (tkI tk0)))<|q (pX aC j (tkI (tkI tk0)))<|q (pX aC j (tkI (tkI tk0)))<|q (pA j)<|nl)<|us<|gs<|G0 (q (pF (r':=.mp 4 0 0) dO j)<|q (l0 tF2 j)<|q (pF (r':=.mp 3 0 0) dO j)<|q (l0 tF2 j)<|q (pB j)<|q (pF (r':=.mp 5 0 1) dH j)<|q (l0 tF2 j)<|q (pF (r':=.mp 3 0 1) dH j)<|q (l0 tF2 j)<|q (pB j)<|q (pB j)<|q (pF (r':=.mp 4 0 1) dH j)<|q (l0 tF2 j)<|q (pF (r':=.mp 3 0 1) dH j)<|q (l0 tF2 j)<|q (pB j)<|q (pF (r':=.mp 5 0 0) dO j)<|q (l0 tF2 j)<|q (pF (r':=.mp 3 0 0) dO j)<|q (l0 tF2 j)<|q (pB j)<|q (pB j)<|q (pB j)<|q (pA j)<|nl)<|us<|gr amW j
theorem jF {a_0:ae} {b_1:ae} {c_2:ae} {r:Int} (h:lN a_0 b_1 c_2=some r):FX 232 [.im 2 true (aN a_0),.im 2 true (aN b_1),.im 2 true (aN c_2)] (B0 [(false,[.im 0 (I r)])]):=by
 unfold lN at h
 refine gn 16 Tryz.func232 rfl ?_
 refine gs<|G0 (q (pX aC j (tkI (tkI tk0)))<|q (pX aC j (tkI (tkI tk0)))<|q (pX aC j (tkI (tkI tk0)))<|q (pA j)<|nl)<|us<|gs<|?_
 obtain ⟨x11,afx,h⟩:=bs h
 refine G0 (q (pL (cs:=[.im 0 _,.im 0 _]) aC j)<|q (pL (cs:=[.im 0 _,.im 0 _]) aC j)<|q (pL (cs:=[.im 0 _,.im 0 _]) aC j)<|q (c1 (OU afx) Lt j j j j)<|q (pA j)<|nl)<|us<|gs<|gs<|G0 (q (pM j)<|q (pB j)<|nl)<|us<|gc h j ah (fun hc1 h=>?_) fun hc1 h=>?_
 ·obtain rfl:=rn h
  exact gs<|G0 (q (pA j)<|nl)<|us<|gr afr j
 ·refine Go.skip<|us<|gs<|gs<|G0 (q (pM j)<|q (pB j)<|nl)<|us<|gc h j ah (fun hc2 h=>?_) fun hc2 h=>?_
  ·obtain rfl:=rn h
   exact gs<|G0 (q (pA j)<|nl)<|us<|gr afr j
  ·obtain rfl:=rn h
   exact Go.skip<|us<|gs<|G0 (q (pA j)<|nl)<|us<|gr afr j
theorem D7 {a_0:Int} {b_1:Int} {r:Int} (h:xJ a_0 b_1=some r):FX 196 [.im 2 false [I a_0],.im 2 false [I b_1]] (B0 [(false,[.im 0 (I r)])]):=by
 unfold xJ at h
 refine gn 10 Tryz.func196 rfl ?_
 refine gs<|G0 (q (pA j)<|nl)<|us<|gs<|gs<|G0 (q (pM j)<|q (pM j)<|q (pB j)<|nl)<|us<|gc h j ah (fun hc1 h=>?_) fun hc1 h=>?_
 ·obtain rfl:=rn h
  exact gs<|G0 (q (pM j)<|q (pA j)<|nl)<|us<|gr aiL j
 ·obtain rfl:=rn h
  exact Go.skip<|us<|gs<|G0 (q (pM j)<|q (pA j)<|nl)<|us<|gr aiL j
theorem D8 {a_0:Int} {b_1:Int} {r:Int} (h:xK a_0 b_1=some r):FX 189 [.im 2 false [I a_0],.im 2 false [I b_1]] (B0 [(false,[.im 0 (I r)])]):=by
 unfold xK at h
 refine gn 10 Tryz.func189 rfl ?_
 refine gs<|G0 (q (pA j)<|nl)<|us<|gs<|gs<|G0 (q (pM j)<|q (pM j)<|q (pB j)<|nl)<|us<|gc h j ah (fun hc1 h=>?_) fun hc1 h=>?_
 ·obtain rfl:=rn h
  exact gs<|G0 (q (pM j)<|q (pA j)<|nl)<|us<|gr aiK j
 ·obtain rfl:=rn h
  exact Go.skip<|us<|gs<|G0 (q (pM j)<|q (pA j)<|nl)<|us<|gr aiK j
theorem vN {a_0:ae} {b_1:ae} {p_2:ae} {r:Bool} (h:oL a_0 b_1 p_2=some r):FX 226 [.im 2 true (aN a_0),.im 2 true (aN b_1),.im 2 true (aN p_2)] (B0 [(false,[.im 0 (V r)])]):=by
 unfold oL at h
 refine gn 42 Tryz.func226 rfl ?_
 refine gs<|G0 (q (pX aC j (tkI (tkI tk0)))<|q (pX aC j (tkI (tkI tk0)))<|q (pX aC j (tkI (tkI tk0)))<|q (pA j)<|nl)<|us<|gs<|?_
 obtain ⟨x10,wo,fP,hm3,h⟩:=b2 h
 refine gd c226 j j j j (mk [(6,bv fP)] []) ?_ ?_
 ·refine t1 j (pL (cs:=[.im 0 _,.im 0 _]) aC j)<|t1 j (pL (cs:=[.im 0 _,.im 0 _]) aC j)<|?_
  refine ic hm3 (fun hc1 hm3=>?_) fun hc1 hm3=>?_
  ·obtain ⟨x19,ql,hm3⟩:=bs hm3
   obtain ⟨x24,hx24,hm3⟩:=bs hm3
   obtain ⟨x25,hx25,hm3⟩:=bs hm3
   refine ic hm3 (fun hc2 hm3=>?_) fun hc2 hm3=>?_
   ·obtain ⟨x34,hx34,hm3⟩:=bs hm3
    obtain ⟨x39,hx39,hm3⟩:=bs hm3
    obtain ⟨x40,VY,hm3⟩:=bs hm3
    cases hm3
    exact t1 j (pL (cs:=[.im 0 _,.im 0 _]) aC j)<|s1 j (c1 (jF wo) iC j j j j) (t1 j (pB j)<|t1 j (pM j)<|t2 j (iEq.2 hc1) (pF (r':=.mp 5 0 0) dO j)<|t2 j (iEq.2 hc1) (l0 tF2 j)<|t2 j (iEq.2 hc1) (pF (r':=.mp 3 0 0) dO j)<|t2 j (iEq.2 hc1) (l0 tF2 j)<|t2 j (iEq.2 hc1) (pF (r':=.mp 4 0 0) dO j)<|t2 j (iEq.2 hc1) (l0 tF2 j)<|t2 j (iEq.2 hc1) (pF (r':=.mp 3 0 0) dO j)<|t2 j (iEq.2 hc1) (l0 tF2 j)<|t2 j (iEq.2 hc1) (pF (r':=.mp 4 0 0) dO j)<|t2 j (iEq.2 hc1) (l0 tF2 j)<|s2 j (iEq.2 hc1) (c1 (D7 ql) Nl j j j j) (s2 j (iEq.2 hc1) (c1 (D8 hx24) Nk j j j j) (s2 j (iEq.2 hc1) (c1 (aX hx25) bF j j j j) (t1 j (pT j (iEq.2 hc1))<|t1 j (pM j)<|t2 j (iR.2 hc2) (pF (r':=.mp 5 0 1) dH j)<|t2 j (iR.2 hc2) (l0 tF2 j)<|t2 j (iR.2 hc2) (pF (r':=.mp 3 0 1) dH j)<|t2 j (iR.2 hc2) (l0 tF2 j)<|t2 j (iR.2 hc2) (pF (r':=.mp 4 0 1) dH j)<|t2 j (iR.2 hc2) (l0 tF2 j)<|t2 j (iR.2 hc2) (pF (r':=.mp 3 0 1) dH j)<|t2 j (iR.2 hc2) (l0 tF2 j)<|t2 j (iR.2 hc2) (pF (r':=.mp 4 0 1) dH j)<|t2 j (iR.2 hc2) (l0 tF2 j)<|s2 j (iR.2 hc2) (c1 (D7 hx34) Nl j j j j) (s2 j (iR.2 hc2) (c1 (D8 hx39) Nk j j j j) (s2 j (iR.2 hc2) (c1 (aX VY) bF j j j j) (t1 j (pT j (iR.2 hc2))<|s1 j (pA j) (sD (by kernel_rfl)))))))))
   ·cases hm3
    exact t1 j (pL (cs:=[.im 0 _,.im 0 _]) aC j)<|s1 j (c1 (jF wo) iC j j j j) (t1 j (pB j)<|t1 j (pM j)<|t2 j (iEq.2 hc1) (pF (r':=.mp 5 0 0) dO j)<|t2 j (iEq.2 hc1) (l0 tF2 j)<|t2 j (iEq.2 hc1) (pF (r':=.mp 3 0 0) dO j)<|t2 j (iEq.2 hc1) (l0 tF2 j)<|t2 j (iEq.2 hc1) (pF (r':=.mp 4 0 0) dO j)<|t2 j (iEq.2 hc1) (l0 tF2 j)<|t2 j (iEq.2 hc1) (pF (r':=.mp 3 0 0) dO j)<|t2 j (iEq.2 hc1) (l0 tF2 j)<|t2 j (iEq.2 hc1) (pF (r':=.mp 4 0 0) dO j)<|t2 j (iEq.2 hc1) (l0 tF2 j)<|s2 j (iEq.2 hc1) (c1 (D7 ql) Nl j j j j) (s2 j (iEq.2 hc1) (c1 (D8 hx24) Nk j j j j) (s2 j (iEq.2 hc1) (c1 (aX hx25) bF j j j j) (t1 j (pT j (iEq.2 hc1))<|t1 j (pM j)<|t3 j (byF iR hc2)<|t3 j (byF iR hc2)<|t3 j (byF iR hc2)<|t3 j (byF iR hc2)<|t3 j (byF iR hc2)<|t3 j (byF iR hc2)<|t3 j (byF iR hc2)<|t3 j (byF iR hc2)<|t3 j (byF iR hc2)<|t3 j (byF iR hc2)<|sS (dF j j j (byF iR hc2) j) trivial (sS (dF j j j (byF iR hc2) j) trivial (sS (dF j j j (byF iR hc2) j) trivial (t1 j (pW j (byF iR hc2))<|s1 j (pA j) (sD (by kernel_rfl)))))))))
  ·cases hm3
   exact t1 j (pL (cs:=[.im 0 _,.im 0 _]) aC j)<|s1 j (c1 (jF wo) iC j j j j) (t1 j (pB j)<|t1 j (pM j)<|t3 j (byF iEq hc1)<|t3 j (byF iEq hc1)<|t3 j (byF iEq hc1)<|t3 j (byF iEq hc1)<|t3 j (byF iEq hc1)<|t3 j (byF iEq hc1)<|t3 j (byF iEq hc1)<|t3 j (byF iEq hc1)<|t3 j (byF iEq hc1)<|t3 j (byF iEq hc1)<|sS (dF j j j (byF iEq hc1) j) trivial (sS (dF j j j (byF iEq hc1) j) trivial (sS (dF j j j (byF iEq hc1) j) trivial (t1 j (pW j (byF iEq hc1))<|t1 j (pM j)<|t3 j j<|t3 j j<|t3 j j<|t3 j j<|t3 j j<|t3 j j<|t3 j j<|t3 j j<|t3 j j<|t3 j j<|sS (dF j j j j j) trivial (sS (dF j j j j j) trivial (sS (dF j j j j j) trivial (t1 j (pW j j)<|s1 j (pA j) (sD (by kernel_rfl)))))))))
 ·obtain rfl:=rn h
  exact us<|gr amO j
theorem LD {a_0:ae} {b_1:ae} {c_2:ae} {d_3:ae} {r:Bool} (h:qX a_0 b_1 c_2 d_3=some r):FX 247 [.im 2 true (aN a_0),.im 2 true (aN b_1),.im 2 true (aN c_2),.im 2 true (aN d_3)] (B0 [(false,[.im 0 (V r)])]):=by
 unfold qX at h
 refine gn 31 Tryz.func247 rfl ?_
 refine gs<|G0 (q (pX aC j (tkI (tkI tk0)))<|q (pX aC j (tkI (tkI tk0)))<|q (pX aC j (tkI (tkI tk0)))<|q (pX aC j (tkI (tkI tk0)))<|q (pA j)<|nl)<|us<|gs<|?_
 obtain ⟨x12,oP,x16,hx16,h⟩:=b2 h
 obtain ⟨xw,hm2,h⟩:=bs h
 refine gd aoz j j j j (mk [(8,bv xw)] []) ?_ ?_
 ·refine t1 j (pL (cs:=[.im 0 _,.im 0 _]) aC j)<|t1 j (pL (cs:=[.im 0 _,.im 0 _]) aC j)<|t1 j (pL (cs:=[.im 0 _,.im 0 _]) aC j)<|t1 j (pL (cs:=[.im 0 _,.im 0 _]) aC j)<|t1 j (pL (cs:=[.im 0 _,.im 0 _]) aC j)<|?_
  refine ic hm2 (fun hc1 hm2=>?_) fun hc1 hm2=>?_
  ·obtain ⟨x23,oq,hm2⟩:=bs hm2
   obtain ⟨x27,hx27,hm2⟩:=bs hm2
   cases hm2
   exact t1 j (pL (cs:=[.im 0 _,.im 0 _]) aC j)<|s1 j (c1 (jF oP) iC j j j j) (s1 j (c1 (jF hx16) iC j j j j) (t1 j (pB j)<|t1 j (pB j)<|t1 j (pM j)<|t2 j (ah.2 hc1) (pL (cs:=[.im 0 _,.im 0 _]) aC j)<|t2 j (ah.2 hc1) (pL (cs:=[.im 0 _,.im 0 _]) aC j)<|t2 j (ah.2 hc1) (pL (cs:=[.im 0 _,.im 0 _]) aC j)<|t2 j (ah.2 hc1) (pL (cs:=[.im 0 _,.im 0 _]) aC j)<|t2 j (ah.2 hc1) (pL (cs:=[.im 0 _,.im 0 _]) aC j)<|t2 j (ah.2 hc1) (pL (cs:=[.im 0 _,.im 0 _]) aC j)<|s2 j (ah.2 hc1) (c1 (jF oq) iC j j j j) (s2 j (ah.2 hc1) (c1 (jF hx27) iC j j j j) (t2 j (ah.2 hc1) (pB j)<|t2 j (ah.2 hc1) (pB j)<|t1 j (pT j (ah.2 hc1))<|s1 j (pA j) (sD (by kernel_rfl))))))
  ·cases hm2
   exact t1 j (pL (cs:=[.im 0 _,.im 0 _]) aC j)<|s1 j (c1 (jF oP) iC j j j j) (s1 j (c1 (jF hx16) iC j j j j) (t1 j (pB j)<|t1 j (pB j)<|t1 j (pM j)<|t3 j (byF ah hc1)<|t3 j (byF ah hc1)<|t3 j (byF ah hc1)<|t3 j (byF ah hc1)<|t3 j (byF ah hc1)<|t3 j (byF ah hc1)<|sS (dF j j j (byF ah hc1) j) trivial (sS (dF j j j (byF ah hc1) j) trivial (t3 j (byF ah hc1)<|t3 j (byF ah hc1)<|t1 j (pW j (byF ah hc1))<|s1 j (pA j) (sD (by kernel_rfl))))))
 ·obtain rfl:=rn h
  exact us<|gr amU j
theorem Rh {a_0:ae} {b_1:ae} {c_2:ae} {d_3:ae} {r:Bool} (h:yA a_0 b_1 c_2 d_3=some r):FX 227 [.im 2 true (aN a_0),.im 2 true (aN b_1),.im 2 true (aN c_2),.im 2 true (aN d_3)] (B0 [(false,[.im 0 (V r)])]):=by
 unfold yA at h
 refine gn 38 Tryz.func227 rfl ?_
 refine gs<|G0 (q (pX aC j (tkI (tkI tk0)))<|q (pX aC j (tkI (tkI tk0)))<|q (pX aC j (tkI (tkI tk0)))<|q (pX aC j (tkI (tkI tk0)))<|q (pA j)<|nl)<|us<|gs<|?_
 obtain ⟨x13,ou,xw,hm5,h⟩:=b2 h
 refine gX c227 j j j (mk [(8,bv xw)] []) ?_ ?_
 ·refine xq (pL (cs:=[.im 0 _,.im 0 _]) aC j)<|xq (pL (cs:=[.im 0 _,.im 0 _]) aC j)<|xq (pL (cs:=[.im 0 _,.im 0 _]) aC j)<|xq (pL (cs:=[.im 0 _,.im 0 _]) aC j)<|xq (c1 (LD ou) Gs j j j j)<|xq (pM j)<|?_
  refine ic hm5 (fun hc1 hm5=>?_) fun hc1 hm5=>?_
  ·cases hm5
   exact xF j (iR.2 hc1)<|xF j (iR.2 hc1)<|xF j (iR.2 hc1)<|xF j (iR.2 hc1)<|xq (pT j (iR.2 hc1))<|xq (pM j)<|xF j j<|xF j j<|xF j j<|xF j j<|xq (pT j j)<|xq (pM j)<|xF j j<|xF j j<|xF j j<|xF j j<|xq (pT j j)<|xq (pM j)<|xF j j<|xF j j<|xF j j<|xF j j<|xq (pT j j)<|xq (pA j)<|xn
  ·obtain ⟨x18,zG,hm5⟩:=bs hm5
   refine xG j (byF iR hc1) (pL (cs:=[.im 0 _,.im 0 _]) aC j)<|xG j (byF iR hc1) (pL (cs:=[.im 0 _,.im 0 _]) aC j)<|xG j (byF iR hc1) (pL (cs:=[.im 0 _,.im 0 _]) aC j)<|xG j (byF iR hc1) (c1 (vN zG) kZ j j j j)<|xq (pW j (byF iR hc1))<|xq (pM j)<|?_
   refine ic hm5 (fun hc2 hm5=>?_) fun hc2 hm5=>?_
   ·cases hm5
    exact xF j (iR.2 hc2)<|xF j (iR.2 hc2)<|xF j (iR.2 hc2)<|xF j (iR.2 hc2)<|xq (pT j (iR.2 hc2))<|xq (pM j)<|xF j j<|xF j j<|xF j j<|xF j j<|xq (pT j j)<|xq (pM j)<|xF j j<|xF j j<|xF j j<|xF j j<|xq (pT j j)<|xq (pA j)<|xn
   ·obtain ⟨x24,hx24,hm5⟩:=bs hm5
    refine xG j (byF iR hc2) (pL (cs:=[.im 0 _,.im 0 _]) aC j)<|xG j (byF iR hc2) (pL (cs:=[.im 0 _,.im 0 _]) aC j)<|xG j (byF iR hc2) (pL (cs:=[.im 0 _,.im 0 _]) aC j)<|xG j (byF iR hc2) (c1 (vN hx24) kZ j j j j)<|xq (pW j (byF iR hc2))<|xq (pM j)<|?_
    refine ic hm5 (fun hc3 hm5=>?_) fun hc3 hm5=>?_
    ·cases hm5
     exact xF j (iR.2 hc3)<|xF j (iR.2 hc3)<|xF j (iR.2 hc3)<|xF j (iR.2 hc3)<|xq (pT j (iR.2 hc3))<|xq (pM j)<|xF j j<|xF j j<|xF j j<|xF j j<|xq (pT j j)<|xq (pA j)<|xn
    ·obtain ⟨x30,Jf,hm5⟩:=bs hm5
     refine xG j (byF iR hc3) (pL (cs:=[.im 0 _,.im 0 _]) aC j)<|xG j (byF iR hc3) (pL (cs:=[.im 0 _,.im 0 _]) aC j)<|xG j (byF iR hc3) (pL (cs:=[.im 0 _,.im 0 _]) aC j)<|xG j (byF iR hc3) (c1 (vN Jf) kZ j j j j)<|xq (pW j (byF iR hc3))<|xq (pM j)<|?_
     refine ic hm5 (fun hc4 hm5=>?_) fun hc4 hm5=>?_
     ·cases hm5
      exact xF j (iR.2 hc4)<|xF j (iR.2 hc4)<|xF j (iR.2 hc4)<|xF j (iR.2 hc4)<|xq (pT j (iR.2 hc4))<|xq (pA j)<|xn
     ·obtain ⟨x36,H9,hm5⟩:=bs hm5
      cases hm5
      exact xG j (byF iR hc4) (pL (cs:=[.im 0 _,.im 0 _]) aC j)<|xG j (byF iR hc4) (pL (cs:=[.im 0 _,.im 0 _]) aC j)<|xG j (byF iR hc4) (pL (cs:=[.im 0 _,.im 0 _]) aC j)<|xG j (byF iR hc4) (c1 (vN H9) kZ j j j j)<|xq (pW j (byF iR hc4))<|xq (pA j)<|xn
 ·obtain rfl:=rn h
  exact us<|gr amP j
theorem Ri {p_0:(List ae)} {r:Int} (h:yB p_0=some r):FX 135 [.im 2 false [W 2 af p_0]] (B0 [(false,[.im 0 (I r)])]):=by
 unfold yB at h
 refine gn 40 Tryz.func135 rfl ?_
 refine gs<|G0 (q (pA j)<|nl)<|us<|gs<|G0 (q (pA j)<|nl)<|us<|gs<|gs<|G0 (q (pA j)<|nl)<|us<|Go.block<|?_
 obtain ⟨o,hl,h⟩:=bs h
 refine gl akb j _ (fun (s:(Int×Int))=>match s with | (mJ,bz)=>mk [(0,D 2 (W 2 af p_0)),(3,iv mJ),(4,iv bz)] []) (fun (qM:Int) (p:Ex×St)=>p.1= .exit 0∧p.2.norm ([3],[])=mk [(3,iv qM)] []) hl (by kernel_rfl) ?_ ?_ ?_
 ·intro o p hp e
  exact nomatch (hp.1.symm.trans e)
 ·rintro ⟨mJ,bz⟩ o h
  unfold AY at h
  dsimp only at h
  refine gs<|gs<|G0 (q (pM j)<|q (pM j)<|q (pI Ba j)<|q (pB j)<|nl)<|us<|gc h j ah (fun hc3 h=>?_) fun hc3 h=>?_
  ·refine Go.skip<|us<|gs<|Go.block<|gs<|?_
   obtain ⟨x17,xP,x18,zG,h⟩:=b2 h
   refine G0 (q (pM j)<|q (pM j)<|q (pB j)<|q (pM j)<|q (pI Ba j)<|q (Ja j xP j j)<|q (pJ zG oZ j)<|q (pL (cs:=[.im 2 _,.im 2 _]) aC j)<|q (oAl j aC (tkI (tkI tk0)))<|q (pS aC j (tkI (tkI tk0)) j)<|nl)<|us<|?_
   obtain ⟨x23,oq,x31,hx31,h⟩:=b2 h
   refine gd akb j j j (st1:=mk [(0,D 2 (W 2 af p_0)),(3,iv mJ),(4,iv bz),(5,M 5)] [(5,Oa (G 0 (aN x18)))]) (by kernel_rfl) (mk [(0,D 2 (W 2 af p_0)),(3,iv (w64 (mJ+(w64 ((w64 (x23.X*x18.Y)) - (w64 (x31.Y*x18.X))))))),(4,iv bz)] []) (t1 j (pM j)<|t1 j (pM j)<|t1 j (pM j)<|t1 j (pJ oq oZ j)<|t1 j (f2 dO j)<|t1 j (l2 tF2 j)<|t1 j (pF (r':=.mp 5 0 1) dH j)<|t1 j (l0 tF2 j)<|t1 j (pB j)<|t1 j (pM j)<|t1 j (pM j)<|t1 j (pJ hx31 oZ j)<|t1 j (f2 dH j)<|t1 j (l2 tF2 j)<|t1 j (pF (r':=.mp 5 0 0) dO j)<|t1 j (l0 tF2 j)<|t1 j (pB j)<|t1 j (pB j)<|t1 j (pB j)<|s1 j (pA j) (sD (by kernel_rfl)))<|Unw.blk<|us<|G0 (q (pM j)<|q (pB j)<|q (pA j)<|nl)<|Unw.nil<|?_
   cases h
   exact ⟨j,(by kernel_rfl)⟩
  ·refine Go.exit<|ux<|Unw.nil<|?_
   cases h
   exact ⟨j,(by kernel_rfl)⟩
 ·rintro ⟨e,st⟩ hp
  obtain ⟨qM,rfl⟩:∃y,y=o:=⟨o,rfl⟩
  obtain ⟨he,hst⟩:=hp
  obtain rfl:e= .exit 0:=he
  obtain rfl:=rn h
  exact Unw.gz<|us<|gs<|g2 akb j j hst (q (pM j)<|q (pA j)<|nl)<|us<|gr amf j
end
end Go.Proofs.YtngbehdgjocndaaGreat
