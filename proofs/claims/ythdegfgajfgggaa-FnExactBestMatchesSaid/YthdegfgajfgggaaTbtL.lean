/- The machine answers, at each function of the program that is reached, what its plain function answers. Conditions: none. -/
import Derived.Test.YthdegfgajfgggaaProg
import Derived.KernelRfl
import Derived.Test.YthdegfgajfgggaaSimRs
import Derived.Test.YthdegfgajfgggaaTbtT
namespace Go.Proofs.Ythdegfgajfgggaa
open Go Go.Sim Go.Pw Go.Proofs
set_option linter.unusedVariables false
set_option linter.unusedSimpArgs false
set_option maxRecDepth 100000
set_option maxHeartbeats 4000000
noncomputable section
noncomputable abbrev u_S_Feature (x:S_Feature):List AV:=[Y x.Id,W 1 eI x.Values]
noncomputable def e_S_Feature (x:S_Feature):AV:= .agg (u_S_Feature x)
noncomputable def fc3:FCfg:={par:=[.cst false,.cst false,.cst false],inn:=[(19,some ([0,1,2,8,9,10,11,12,13,14,15,16],[8,13])),(25,some ([0,1,2,8,9,10,13,17],[8,13]))],out:=[(12,some ([0,1,2,8,9,10,11,12,13,14,15,67],[8,13])),(21,some ([0,1,2,8,9,10,13,101],[8,13])),(32,some ([13,17,136],[13]))],loopK:=[],frz:=[],sch:=[],shut:=[19]}
noncomputable def fc4:FCfg:={par:=[.cst false,.cst false],inn:=[(10,some ([1],[]))],out:=[],loopK:=[(5,([0,1,5],[]))],frz:=[],sch:=[],shut:=[]}
noncomputable def fc5:FCfg:={par:=[.cst false,.cst false,.cst false],inn:=[(8,some ([9],[30])),(9,some ([9],[30]))],out:=[(1,some ([0,1,2,17],[])),(11,some ([6,7,8],[6]))],loopK:=[],frz:=[],sch:=[(11,.first 0 [1,2,3,8,9,10] [4,5,6,7]<| .first 1 [2,3,8,9,10] [4,5,6,7]<| .first 2 [3,8,9,10] [4,5,6,7]<| .first 3 [8,9,10] [4,5,6,7]<| .first 4 [5,6,7,9,10] [8]<| .fork 5 (.fork 6 (.fork 7 (.fork 8 (.fork 9 (.fork 10 (.done) (.stop)) (.stop)) (.stop)) (.fork 8 (.first 7 [9,10] []<| .fork 9 (.fork 10 (.done) (.stop)) (.stop)) (.stop))) (.fork 8 (.first 6 [7,9,10] []<| .first 7 [9,10] []<| .fork 9 (.fork 10 (.done) (.stop)) (.stop)) (.stop))) (.fork 8 (.first 5 [6,7,9,10] []<| .first 6 [7,9,10] []<| .first 7 [9,10] []<| .fork 9 (.fork 10 (.done) (.stop)) (.stop)) (.stop)))],shut:=[]}
noncomputable def fc6:FCfg:={par:=[.cst false],inn:=[(4,some ([0,3,4],[3])),(6,some ([3],[3]))],out:=[],loopK:=[(3,([0,3,4],[3]))],frz:=[],sch:=[],shut:=[]}
noncomputable def fc7:FCfg:={par:=[.cst false,.cst false,.cst false],inn:=[(5,some ([10],[22])),(6,some ([],[])),(7,some ([10],[22]))],out:=[(7,some ([6,7,8],[6]))],loopK:=[],frz:=[],sch:=[(7,.first 0 [1,2,3,8,9,10] [4,5,6,7]<| .first 1 [2,3,8,9,10] [4,5,6,7]<| .first 2 [3,8,9,10] [4,5,6,7]<| .first 3 [8,9,10] [4,5,6,7]<| .first 4 [5,6,7,9,10] [8]<| .fork 5 (.fork 6 (.fork 7 (.fork 8 (.fork 9 (.fork 10 (.done) (.stop)) (.stop)) (.stop)) (.fork 8 (.first 7 [9,10] []<| .fork 9 (.fork 10 (.done) (.stop)) (.stop)) (.stop))) (.fork 8 (.first 6 [7,9,10] []<| .first 7 [9,10] []<| .fork 9 (.fork 10 (.done) (.stop)) (.stop)) (.stop))) (.fork 8 (.first 5 [6,7,9,10] []<| .first 6 [7,9,10] []<| .first 7 [9,10] []<| .fork 9 (.fork 10 (.done) (.stop)) (.stop)) (.stop)))],shut:=[]}
noncomputable def fc8:FCfg:={par:=[.cst false,.cst false],inn:=[(8,some ([],[]))],out:=[(6,some ([0,1,5,25],[]))],loopK:=[(4,([0,1,5],[]))],frz:=[],sch:=[(6,.first 0 [2,3,8] [1,4,5,6,7]<| .first 1 [2,3,8] [4,5,6,7]<| .first 2 [3,8] [4,5,6,7]<| .first 3 [8] [4,5,6,7]<| .first 4 [6,7,8] [5]<| .first 5 [6,7,8] []<| .first 6 [7,8] []<| .first 7 [8] []<| .first 8 [] []<| .done)],shut:=[]}
noncomputable def fc9:FCfg:={par:=[.cst false,.cst false],inn:=[(8,some ([],[]))],out:=[(6,some ([0,1,5,26],[]))],loopK:=[(4,([0,1,5],[]))],frz:=[],sch:=[(6,.first 0 [2,3,8,9] [1,4,5,6,7]<| .first 1 [2,3,8,9] [4,5,6,7]<| .first 2 [3,8,9] [4,5,6,7]<| .first 3 [8,9] [4,5,6,7]<| .first 4 [6,7,8,9] [5]<| .first 5 [6,7,8,9] []<| .first 6 [7,8,9] []<| .first 7 [8,9] []<| .fork 8 (.first 9 [] []<| .done) (.stop))],shut:=[]}
noncomputable def fc10:FCfg:={par:=[.ws,.cst false],inn:=[(5,some ([0,1,5],[])),(7,some ([1],[]))],out:=[],loopK:=[(2,([0,1,5],[]))],frz:=[],sch:=[],shut:=[]}
noncomputable def fc11:FCfg:={par:=[.row,.cst false],inn:=[(5,some ([0,1,5],[0])),(6,some ([1],[0]))],out:=[],loopK:=[(2,([0,1,5],[0]))],frz:=[],sch:=[],shut:=[]}
noncomputable def fc12:FCfg:={par:=[.cst false,.cst false],inn:=[(7,some ([1],[]))],out:=[],loopK:=[(2,([0,1,5],[]))],frz:=[],sch:=[],shut:=[]}
noncomputable def fc13:FCfg:={par:=[.cst false,.cst false],inn:=[],out:=[],loopK:=[],frz:=[],sch:=[],shut:=[]}
noncomputable def fc14:FCfg:={par:=[.cst false],inn:=[(6,some ([0],[]))],out:=[(4,some ([0,3,32],[]))],loopK:=[(2,([0,3],[]))],frz:=[],sch:=[(4,.first 0 (rg [2,23]) [1]<| .first 1 (rg [2,23]) []<| .first 2 (rg [3,23]) []<| .fork 3 (.first 4 (rg [5,23]) []<| .first 5 (rg [6,23]) []<| .first 6 (rg [7,23]) []<| .first 7 (rg [8,23]) []<| .first 8 (rg [9,23]) []<| .first 9 [12,13,14,20,21,22] [10,11,15,16,17,18,19]<| .first 10 [11,12,13,14,20,21,22] [15,16,17,18,19]<| .first 11 [12,13,14,20,21,22] [15,16,17,18,19]<| .first 12 [13,14,20,21,22] [15,16,17,18,19]<| .first 13 [14,20,21,22] [15,16,17,18,19]<| .first 14 [20,21,22] [15,16,17,18,19]<| .first 15 (rg [17,23]) [16]<| .first 16 (rg [17,23]) []<| .first 17 [18,19,20,21,22] []<| .first 18 [19,20,21,22] []<| .first 19 [20,21,22] []<| .first 20 [21,22] []<| .first 21 [22] []<| .first 22 [] []<| .done) (.stop))],shut:=[]}
noncomputable def fc15:FCfg:={par:=[.cst false,.cst false,.cst false],inn:=[],out:=[(1,some ([6],[]))],loopK:=[],frz:=[],sch:=[],shut:=[]}
noncomputable def fc16:FCfg:={par:=[.ptr [.imm,.imm,.sh,.imm,.sh,.imm,.imm,.imm,.imm]],inn:=[(3,some ([0],[0])),(6,some ([0,2,3],[0])),(12,some ([0,2,3,4],[0])),(13,some ([0,2,3,4],[0])),(14,some ([0,2,3,4],[0])),(15,some ([0,2,3,4],[0])),(16,some ([0,2,3,4],[0]))],out:=[(5,some ([0,2,3,45],[0])),(7,some ([0,2,3,4],[0])),(8,some ([0,2,3,4,86],[0])),(9,some ([0,2,3,4,95],[0]))],loopK:=[(5,([0,2,3],[0]))],frz:=[],sch:=[(7,.first 0 [1,2,3,5,12,13] [4,6,7,8,9,10,11]<| .first 1 [2,3,5,12,13] [4,6,7,8,9,10,11]<| .first 2 [3,5,12,13] [4,6,7,8,9,10,11]<| .first 3 [5,12,13] [4,6,7,8,9,10,11]<| .first 4 [5,12,13] [6,7,8,9,10,11]<| .first 5 [12,13] [6,7,8,9,10,11]<| .first 6 [7,8,9,11,12,13] [10]<| .first 7 [8,9,11,12,13] [10]<| .first 8 [9,11,12,13] [10]<| .first 9 [11,12,13] [10]<| .first 10 [11,12,13] []<| .first 11 [12,13] []<| .fork 12 (.fork 13 (.done) (.stop)) (.stop)),(8,.first 0 (rg [1,4,5,26]) [4]<| .first 1 (rg [2,4,5,26]) [4]<| .first 2 (rg [3,4,5,26]) [4]<| .first 3 (rg [5,26]) [4]<| .first 4 (rg [5,26]) []<| .fork 5 (.first 6 (rg [7,26]) []<| .first 7 (rg [8,26]) []<| .first 8 (rg [9,26]) []<| .first 9 (rg [10,26]) []<| .first 10 (rg [11,26]) []<| .first 11 (rg [12,26]) []<| .first 12 (rg [13,26]) []<| .first 13 [14,15,16,18,23,24,25] [17,19,20,21,22]<| .first 14 [15,16,18,23,24,25] [17,19,20,21,22]<| .first 15 [16,18,23,24,25] [17,19,20,21,22]<| .first 16 [18,23,24,25] [17,19,20,21,22]<| .first 17 [18,23,24,25] [19,20,21,22]<| .first 18 [23,24,25] [19,20,21,22]<| .first 19 (rg [20,26]) []<| .first 20 [21,22,23,24,25] []<| .first 21 [22,23,24,25] []<| .first 22 [23,24,25] []<| .first 23 [24,25] []<| .first 24 [25] []<| .first 25 [] []<| .done) (.stop)),(9,.first 0 [1,2,3,8] [4,5,6,7]<| .first 1 [2,3,8] [4,5,6,7]<| .first 2 [3,8] [4,5,6,7]<| .first 3 [8] [4,5,6,7]<| .first 4 [5,6,7,8] []<| .first 5 [6,7,8] []<| .first 6 [7,8] []<| .first 7 [8] []<| .first 8 [] []<| .done)],shut:=[]}
noncomputable def fc17:FCfg:={par:=[.cst false],inn:=[(3,some ([1,2,3],[1,2,3])),(4,some ([2,3],[2,3]))],out:=[],loopK:=[],frz:=[],sch:=[],shut:=[]}
noncomputable def fc18:FCfg:={par:=[.cst false,.cst false,.cst false],inn:=[],out:=[(1,some ([0,1,2,7],[]))],loopK:=[],frz:=[],sch:=[],shut:=[]}
noncomputable def fc19:FCfg:={par:=[.ptr [.imm,.imm,.imm,.imm,.sh,.imm],.mv,.cst false],inn:=[(3,some ([],[0])),(7,some ([0,1,2,7,8,32,33,34],[0,1,8])),(13,some ([0,1,2,7,9,32,33,34],[0,1])),(14,some ([],[0])),(15,some ([0,1,2,32,33,34],[0,1])),(16,some ([],[0]))],out:=[(8,some ([0,1,2,7,9,32,33,34],[0,1])),(9,some ([0,1,2,7,9,32,33,34,65],[0,1]))],loopK:=[(5,([0,1,2,32,33,34],[0,1]))],frz:=[],sch:=[(8,.first 0 [11,12] (rg [1,11])<| .first 1 [2,3,4,7,8,10,11,12] [5,6,9]<| .first 2 [3,4,7,8,10,11,12] [5,6,9]<| .first 3 [4,7,8,10,11,12] [5,6,9]<| .first 4 [7,8,10,11,12] [5,6,9]<| .first 5 [6,7,8,10,11,12] [9]<| .first 6 [7,8,10,11,12] [9]<| .first 7 [8,10,11,12] [9]<| .first 8 [10,11,12] [9]<| .first 9 [10,11,12] []<| .fork 10 (.first 11 [12] []<| .fork 12 (.done) (.stop)) (.stop))],shut:=[]}
noncomputable def fc20:FCfg:={par:=[.cst false,.cst false],inn:=[],out:=[],loopK:=[],frz:=[],sch:=[],shut:=[]}
noncomputable def fc21:FCfg:={par:=[.cst false],inn:=[(7,some ([3],[]))],out:=[],loopK:=[(4,([0,3],[]))],frz:=[],sch:=[],shut:=[]}
noncomputable def fc22:FCfg:={par:=[.cst false,.cst false],inn:=[],out:=[],loopK:=[],frz:=[],sch:=[],shut:=[]}
noncomputable def fc23:FCfg:={par:=[.cut 2],inn:=[(8,some ([],[]))],out:=[(1,some ([0,17],[]))],loopK:=[(4,([0,3],[]))],frz:=[],sch:=[],shut:=[]}
noncomputable def fc24:FCfg:={par:=[.cst false],inn:=[],out:=[],loopK:=[],frz:=[],sch:=[],shut:=[]}
noncomputable def fc25:FCfg:={par:=[.cut 2,.cut 2],inn:=[(6,some ([5],[]))],out:=[(5,some ([0,1,5,6],[]))],loopK:=[(3,([0,1,5,6],[]))],frz:=[],sch:=[(5,.first 0 [32,33] (rg [1,32])<| .first 1 [2,3,4,6,7,15,31,32,33] (rg [5,6,8,15,16,31])<| .first 2 [3,4,6,7,15,31,32,33] (rg [5,6,8,15,16,31])<| .first 3 [4,6,7,15,31,32,33] (rg [5,6,8,15,16,31])<| .first 4 [6,7,15,31,32,33] (rg [5,6,8,15,16,31])<| .first 5 [6,7,15,31,32,33] (rg [8,15,16,31])<| .first 6 [7,15,31,32,33] (rg [8,15,16,31])<| .first 7 [15,31,32,33] (rg [8,15,16,31])<| .first 8 [9,10,11,13,14,15,31,32,33] (rg [12,13,16,31])<| .first 9 [10,11,13,14,15,31,32,33] (rg [12,13,16,31])<| .first 10 [11,13,14,15,31,32,33] (rg [12,13,16,31])<| .first 11 [13,14,15,31,32,33] (rg [12,13,16,31])<| .first 12 [13,14,15,31,32,33] (rg [16,31])<| .first 13 [14,15,31,32,33] (rg [16,31])<| .first 14 [15,31,32,33] (rg [16,31])<| .first 15 [31,32,33] (rg [16,31])<| .first 16 [17,18,19,21,22,30,31,32,33] (rg [20,21,23,30])<| .first 17 [18,19,21,22,30,31,32,33] (rg [20,21,23,30])<| .first 18 [19,21,22,30,31,32,33] (rg [20,21,23,30])<| .first 19 [21,22,30,31,32,33] (rg [20,21,23,30])<| .first 20 [21,22,30,31,32,33] (rg [23,30])<| .first 21 [22,30,31,32,33] (rg [23,30])<| .first 22 [30,31,32,33] (rg [23,30])<| .first 23 (rg [24,27,28,34]) [27]<| .first 24 (rg [25,27,28,34]) [27]<| .first 25 [26,28,29,30,31,32,33] [27]<| .first 26 (rg [28,34]) [27]<| .first 27 (rg [28,34]) []<| .first 28 [29,30,31,32,33] []<| .first 29 [30,31,32,33] []<| .first 30 [31,32,33] []<| .fork 31 (.first 32 [33] []<| .fork 33 (.done) (.stop)) (.stop))],shut:=[]}
noncomputable def fc26:FCfg:={par:=[.cst false,.cst false],inn:=[(6,some ([],[]))],out:=[],loopK:=[(2,([0,1,5],[]))],frz:=[],sch:=[],shut:=[]}
noncomputable def fc27:FCfg:={par:=[.cst false],inn:=[(4,some ([0,3,4],[3])),(6,some ([3],[3]))],out:=[],loopK:=[(3,([0,3,4],[3]))],frz:=[],sch:=[],shut:=[]}
noncomputable def fc28:FCfg:={par:=[.cst false],inn:=[(4,some ([0,3,4,5,6,7],[4])),(7,some ([0],[]))],out:=[(4,some ([0,5,6,7,29],[]))],loopK:=[(2,([0,5,6,7],[]))],frz:=[],sch:=[(4,.first 0 (rg [1,18]) []<| .fork 1 (.first 2 (rg [3,18]) []<| .first 3 (rg [4,18]) []<| .first 4 (rg [5,18]) []<| .first 5 (rg [6,18]) []<| .first 6 (rg [7,18]) []<| .first 7 [10,11,12,15,16,17] [8,9,13,14]<| .first 8 [9,10,11,12,15,16,17] [13,14]<| .first 9 [10,11,12,15,16,17] [13,14]<| .first 10 [11,12,15,16,17] [13,14]<| .first 11 [12,15,16,17] [13,14]<| .first 12 [15,16,17] [13,14]<| .first 13 [14,15,16,17] []<| .first 14 [15,16,17] []<| .first 15 [16,17] []<| .first 16 [17] []<| .first 17 [] []<| .done) (.stop))],shut:=[]}
noncomputable def fc29:FCfg:={par:=[.cst false,.cst false,.cst false],inn:=[],out:=[(1,some ([6],[]))],loopK:=[],frz:=[],sch:=[],shut:=[]}
noncomputable def fc30:FCfg:={par:=[.cst false,.cst false],inn:=[],out:=[],loopK:=[],frz:=[],sch:=[],shut:=[]}
noncomputable def fc31:FCfg:={par:=[.cst false,.cst false],inn:=[(7,some ([5],[]))],out:=[],loopK:=[(3,([3,5,9,10,11],[3]))],frz:=[],sch:=[],shut:=[]}
noncomputable def fc33:FCfg:={par:=[.cst false],inn:=[(8,some ([],[]))],out:=[(1,some ([0,16],[])),(6,some ([0,3,34],[]))],loopK:=[(4,([0,3],[]))],frz:=[],sch:=[],shut:=[]}
noncomputable def fc34:FCfg:={par:=[.cst false,.cst false],inn:=[],out:=[],loopK:=[],frz:=[],sch:=[],shut:=[]}
noncomputable def fc35:FCfg:={par:=[.cst false],inn:=[],out:=[(1,some ([2],[]))],loopK:=[],frz:=[],sch:=[],shut:=[]}
noncomputable def fc36:FCfg:={par:=[.cst false,.cst false],inn:=[(7,some ([],[]))],out:=[],loopK:=[(2,([0,1,7,8],[]))],frz:=[],sch:=[],shut:=[]}
noncomputable def fc37:FCfg:={par:=[.cst false],inn:=[],out:=[],loopK:=[],frz:=[],sch:=[],shut:=[]}
noncomputable def fc38:FCfg:={par:=[.cst false],inn:=[],out:=[(1,some ([2],[]))],loopK:=[],frz:=[],sch:=[],shut:=[]}
noncomputable def fc39:FCfg:={par:=[.cst false],inn:=[],out:=[(1,some ([2],[]))],loopK:=[],frz:=[],sch:=[],shut:=[]}
noncomputable def fc40:FCfg:={par:=[.cst false],inn:=[(8,some ([],[]))],out:=[(1,some ([0,21],[])),(6,some ([0,3,49],[]))],loopK:=[(4,([0,3],[]))],frz:=[],sch:=[],shut:=[]}
noncomputable def fc41:FCfg:={par:=[.cst false,.cst false],inn:=[],out:=[],loopK:=[],frz:=[],sch:=[],shut:=[]}
noncomputable def fc42:FCfg:={par:=[.cst false],inn:=[],out:=[],loopK:=[],frz:=[],sch:=[],shut:=[]}
noncomputable def fc43:FCfg:={par:=[.cst false,.cst false],inn:=[(7,some ([],[]))],out:=[],loopK:=[(2,([0,1,7,8],[]))],frz:=[],sch:=[],shut:=[]}
noncomputable def fcs:List (Nat×FCfg):=[(3,fc3),(4,fc4),(5,fc5),(6,fc6),(7,fc7),(8,fc8),(9,fc9),(10,fc10),(11,fc11),(12,fc12),(13,fc13),(14,fc14),(15,fc15),(16,fc16),(17,fc17),(18,fc18),(19,fc19),(20,fc20),(21,fc21),(22,fc22),(23,fc23),(24,fc24),(25,fc25),(26,fc26),(27,fc27),(28,fc28),(29,fc29),(30,fc30),(31,fc31),(33,fc33),(34,fc34),(35,fc35),(36,fc36),(37,fc37),(38,fc38),(39,fc39),(40,fc40),(41,fc41),(42,fc42),(43,fc43)]
noncomputable def ons:List (Nat×Bool):=[(3,true),(4,true),(5,true),(6,true),(7,true),(8,true),(9,true),(10,true),(11,true),(12,true),(13,true),(14,true),(15,true),(16,true),(17,true),(18,true),(19,true),(20,true),(21,true),(22,true),(23,true),(24,true),(25,true),(26,true),(27,true),(28,true),(29,true),(30,true),(31,true),(33,true),(34,true),(35,true),(36,true),(37,true),(38,true),(39,true),(40,true),(41,true),(42,true),(43,true)]
noncomputable def cfg:Cfg:=mkCfg ons fcs [(32,some (extCloneN 1 8))] [] [] [(6,43),(6,45)]
theorem c3:cfg.fc 3=fc3:=rfl
instance C3:Cf cfg 3 fc3:=⟨c3⟩
instance Z3:Zf cfg 3:=⟨rfl⟩
theorem c4:cfg.fc 4=fc4:=rfl
instance C4:Cf cfg 4 fc4:=⟨c4⟩
instance Z4:Zf cfg 4:=⟨rfl⟩
theorem c5:cfg.fc 5=fc5:=rfl
instance C5:Cf cfg 5 fc5:=⟨c5⟩
instance Z5:Zf cfg 5:=⟨rfl⟩
theorem z5:(cfg.fc 5).frz=[]:=rfl
theorem c6:cfg.fc 6=fc6:=rfl
instance C6:Cf cfg 6 fc6:=⟨c6⟩
instance Z6:Zf cfg 6:=⟨rfl⟩
theorem c7:cfg.fc 7=fc7:=rfl
instance C7:Cf cfg 7 fc7:=⟨c7⟩
instance Z7:Zf cfg 7:=⟨rfl⟩
theorem z7:(cfg.fc 7).frz=[]:=rfl
theorem c8:cfg.fc 8=fc8:=rfl
instance C8:Cf cfg 8 fc8:=⟨c8⟩
instance Z8:Zf cfg 8:=⟨rfl⟩
theorem c9:cfg.fc 9=fc9:=rfl
instance C9:Cf cfg 9 fc9:=⟨c9⟩
instance Z9:Zf cfg 9:=⟨rfl⟩
theorem z9:(cfg.fc 9).frz=[]:=rfl
theorem c10:cfg.fc 10=fc10:=rfl
instance C10:Cf cfg 10 fc10:=⟨c10⟩
instance Z10:Zf cfg 10:=⟨rfl⟩
theorem c11:cfg.fc 11=fc11:=rfl
instance C11:Cf cfg 11 fc11:=⟨c11⟩
instance Z11:Zf cfg 11:=⟨rfl⟩
theorem c12:cfg.fc 12=fc12:=rfl
instance C12:Cf cfg 12 fc12:=⟨c12⟩
instance Z12:Zf cfg 12:=⟨rfl⟩
theorem c13:cfg.fc 13=fc13:=rfl
instance C13:Cf cfg 13 fc13:=⟨c13⟩
instance Z13:Zf cfg 13:=⟨rfl⟩
theorem c14:cfg.fc 14=fc14:=rfl
instance C14:Cf cfg 14 fc14:=⟨c14⟩
instance Z14:Zf cfg 14:=⟨rfl⟩
theorem z14:(cfg.fc 14).frz=[]:=rfl
theorem c15:cfg.fc 15=fc15:=rfl
instance C15:Cf cfg 15 fc15:=⟨c15⟩
instance Z15:Zf cfg 15:=⟨rfl⟩
theorem c16:cfg.fc 16=fc16:=rfl
instance C16:Cf cfg 16 fc16:=⟨c16⟩
instance Z16:Zf cfg 16:=⟨rfl⟩
theorem z16:(cfg.fc 16).frz=[]:=rfl
theorem c17:cfg.fc 17=fc17:=rfl
instance C17:Cf cfg 17 fc17:=⟨c17⟩
instance Z17:Zf cfg 17:=⟨rfl⟩
theorem c18:cfg.fc 18=fc18:=rfl
instance C18:Cf cfg 18 fc18:=⟨c18⟩
instance Z18:Zf cfg 18:=⟨rfl⟩
theorem c19:cfg.fc 19=fc19:=rfl
instance C19:Cf cfg 19 fc19:=⟨c19⟩
instance Z19:Zf cfg 19:=⟨rfl⟩
theorem z19:(cfg.fc 19).frz=[]:=rfl
theorem c20:cfg.fc 20=fc20:=rfl
instance C20:Cf cfg 20 fc20:=⟨c20⟩
instance Z20:Zf cfg 20:=⟨rfl⟩
theorem c21:cfg.fc 21=fc21:=rfl
instance C21:Cf cfg 21 fc21:=⟨c21⟩
instance Z21:Zf cfg 21:=⟨rfl⟩
theorem c22:cfg.fc 22=fc22:=rfl
instance C22:Cf cfg 22 fc22:=⟨c22⟩
instance Z22:Zf cfg 22:=⟨rfl⟩
theorem c23:cfg.fc 23=fc23:=rfl
instance C23:Cf cfg 23 fc23:=⟨c23⟩
instance Z23:Zf cfg 23:=⟨rfl⟩
theorem c24:cfg.fc 24=fc24:=rfl
instance C24:Cf cfg 24 fc24:=⟨c24⟩
instance Z24:Zf cfg 24:=⟨rfl⟩
theorem c25:cfg.fc 25=fc25:=rfl
instance C25:Cf cfg 25 fc25:=⟨c25⟩
instance Z25:Zf cfg 25:=⟨rfl⟩
theorem z25:(cfg.fc 25).frz=[]:=rfl
theorem c26:cfg.fc 26=fc26:=rfl
instance C26:Cf cfg 26 fc26:=⟨c26⟩
instance Z26:Zf cfg 26:=⟨rfl⟩
theorem c27:cfg.fc 27=fc27:=rfl
instance C27:Cf cfg 27 fc27:=⟨c27⟩
instance Z27:Zf cfg 27:=⟨rfl⟩
theorem c28:cfg.fc 28=fc28:=rfl
instance C28:Cf cfg 28 fc28:=⟨c28⟩
instance Z28:Zf cfg 28:=⟨rfl⟩
theorem z28:(cfg.fc 28).frz=[]:=rfl
theorem c29:cfg.fc 29=fc29:=rfl
instance C29:Cf cfg 29 fc29:=⟨c29⟩
instance Z29:Zf cfg 29:=⟨rfl⟩
theorem c30:cfg.fc 30=fc30:=rfl
instance C30:Cf cfg 30 fc30:=⟨c30⟩
instance Z30:Zf cfg 30:=⟨rfl⟩
theorem c31:cfg.fc 31=fc31:=rfl
instance C31:Cf cfg 31 fc31:=⟨c31⟩
instance Z31:Zf cfg 31:=⟨rfl⟩
theorem c33:cfg.fc 33=fc33:=rfl
instance C33:Cf cfg 33 fc33:=⟨c33⟩
instance Z33:Zf cfg 33:=⟨rfl⟩
theorem c34:cfg.fc 34=fc34:=rfl
instance C34:Cf cfg 34 fc34:=⟨c34⟩
instance Z34:Zf cfg 34:=⟨rfl⟩
theorem c35:cfg.fc 35=fc35:=rfl
instance C35:Cf cfg 35 fc35:=⟨c35⟩
instance Z35:Zf cfg 35:=⟨rfl⟩
theorem c36:cfg.fc 36=fc36:=rfl
instance C36:Cf cfg 36 fc36:=⟨c36⟩
instance Z36:Zf cfg 36:=⟨rfl⟩
theorem c37:cfg.fc 37=fc37:=rfl
instance C37:Cf cfg 37 fc37:=⟨c37⟩
instance Z37:Zf cfg 37:=⟨rfl⟩
theorem c38:cfg.fc 38=fc38:=rfl
instance C38:Cf cfg 38 fc38:=⟨c38⟩
instance Z38:Zf cfg 38:=⟨rfl⟩
theorem c39:cfg.fc 39=fc39:=rfl
instance C39:Cf cfg 39 fc39:=⟨c39⟩
instance Z39:Zf cfg 39:=⟨rfl⟩
theorem c40:cfg.fc 40=fc40:=rfl
instance C40:Cf cfg 40 fc40:=⟨c40⟩
instance Z40:Zf cfg 40:=⟨rfl⟩
theorem c41:cfg.fc 41=fc41:=rfl
instance C41:Cf cfg 41 fc41:=⟨c41⟩
instance Z41:Zf cfg 41:=⟨rfl⟩
theorem c42:cfg.fc 42=fc42:=rfl
instance C42:Cf cfg 42 fc42:=⟨c42⟩
instance Z42:Zf cfg 42:=⟨rfl⟩
theorem c43:cfg.fc 43=fc43:=rfl
instance C43:Cf cfg 43 fc43:=⟨c43⟩
instance Z43:Zf cfg 43:=⟨rfl⟩
noncomputable abbrev Pg:=Try.prog
theorem bF41:buildF Pg 41=some ([.nil,.nil,.nil,z0,.nil,z0,z0,z0,.im 0 (.sc (.bool false))],[(0,1),(1,1),(2,1),(3,1),(4,1),(5,1),(6,1),(7,1),(8,1)]):=kr
theorem bF47:buildF Pg 47=some ([.nil,.nil,z0,.im 0 (.sc (.bool false)),.nil,z0],[(0,1),(1,1),(2,1),(3,1),(4,1),(5,1)]):=kr
theorem eF24:elemSz Pg 24=some (2,1):=kr
theorem eF27:elemSz Pg 27=some (42,2):=kr
theorem fF36_0:fieldF Pg 36 0=some 0:=kr
theorem fF36_1:fieldF Pg 36 1=some 1:=kr
theorem fF41_0:fieldF Pg 41 0=some 0:=kr
theorem fF41_1:fieldF Pg 41 1=some 1:=kr
theorem fF41_2:fieldF Pg 41 2=some 2:=kr
theorem fF41_3:fieldF Pg 41 3=some 3:=kr
theorem fF41_4:fieldF Pg 41 4=some 4:=kr
theorem fF41_5:fieldF Pg 41 5=some 5:=kr
theorem fF41_6:fieldF Pg 41 6=some 6:=kr
theorem fF41_7:fieldF Pg 41 7=some 7:=kr
theorem fF41_8:fieldF Pg 41 8=some 8:=kr
theorem fF42_0:fieldF Pg 42 0=some 0:=kr
theorem fF42_1:fieldF Pg 42 1=some 1:=kr
theorem fF47_0:fieldF Pg 47 0=some 0:=kr
theorem fF47_1:fieldF Pg 47 1=some 1:=kr
theorem fF47_2:fieldF Pg 47 2=some 2:=kr
theorem fF47_3:fieldF Pg 47 3=some 3:=kr
theorem fF47_4:fieldF Pg 47 4=some 4:=kr
theorem fF47_5:fieldF Pg 47 5=some 5:=kr
theorem kF10_27_3:callK Pg cfg 10 0 [27,3]=[(.ws,[some 2]),(.cst false,[none])]:=kr
theorem kF11_24_3:callK Pg cfg 11 0 [24,3]=[(.row,[some 1]),(.cst false,[none])]:=kr
theorem kF12_24_3:callK Pg cfg 12 0 [24,3]=[(.cst false,[some 1]),(.cst false,[none])]:=kr
theorem kF13_36_3:callK Pg cfg 13 0 [36,3]=[(.cst false,[none,some 1]),(.cst false,[none])]:=kr
theorem kF14_27:callK Pg cfg 14 0 [27]=[(.cst false,[some 2])]:=kr
theorem kF15_2_2_2:callK Pg cfg 15 0 [2,2,2]=[(.cst false,[none]),(.cst false,[none]),(.cst false,[none])]:=kr
theorem kF16_39:callK Pg cfg 16 0 [39]=[(.ptr [.imm,.imm,.sh,.imm,.sh,.imm,.imm,.imm,.imm],[none])]:=kr
theorem kF17_36:callK Pg cfg 17 0 [36]=[(.cst false,[none,some 1])]:=kr
theorem kF18_27_27_2:callK Pg cfg 18 0 [27,27,2]=[(.cst false,[some 2]),(.cst false,[some 2]),(.cst false,[none])]:=kr
theorem kF19_45_24_2:callK Pg cfg 19 0 [45,24,2]=[(.ptr [.imm,.imm,.imm,.imm,.sh,.imm],[none]),(.mv,[some 1]),(.cst false,[none])]:=kr
theorem kF20_42_42:callK Pg cfg 20 0 [42,42]=[(.cst false,[none,some 1]),(.cst false,[none,some 1])]:=kr
theorem kF21_3:callK Pg cfg 21 0 [3]=[(.cst false,[none])]:=kr
theorem kF22_24_3:callK Pg cfg 22 0 [24,3]=[(.cst false,[some 1]),(.cst false,[none])]:=kr
theorem kF23_52:callK Pg cfg 23 0 [52]=[(.cut 2,[none])]:=kr
theorem kF24_24:callK Pg cfg 24 0 [24]=[(.cst false,[some 1])]:=kr
theorem kF25_52_52:callK Pg cfg 25 0 [52,52]=[(.cut 2,[none]),(.cut 2,[none])]:=kr
theorem kF26_24_2:callK Pg cfg 26 0 [24,2]=[(.cst false,[some 1]),(.cst false,[none])]:=kr
theorem kF27_24:callK Pg cfg 27 0 [24]=[(.cst false,[some 1])]:=kr
theorem kF28_27:callK Pg cfg 28 0 [27]=[(.cst false,[some 2])]:=kr
theorem kF29_2_2_2:callK Pg cfg 29 0 [2,2,2]=[(.cst false,[none]),(.cst false,[none]),(.cst false,[none])]:=kr
theorem kF30_24_2:callK Pg cfg 30 0 [24,2]=[(.cst false,[some 1]),(.cst false,[none])]:=kr
theorem kF31_42_42:callK Pg cfg 31 0 [42,42]=[(.cst false,[none,some 1]),(.cst false,[none,some 1])]:=kr
theorem kF32_24:callK Pg cfg 32 0 [24]=[(.cst false,[some 1])]:=kr
theorem kF33_9:callK Pg cfg 33 0 [9]=[(.cst false,[none])]:=kr
theorem kF34_2_2:callK Pg cfg 34 0 [2,2]=[(.cst false,[none]),(.cst false,[none])]:=kr
theorem kF35_42:callK Pg cfg 35 0 [42]=[(.cst false,[none,some 1])]:=kr
theorem kF36_24_2:callK Pg cfg 36 0 [24,2]=[(.cst false,[some 1]),(.cst false,[none])]:=kr
theorem kF37_2:callK Pg cfg 37 0 [2]=[(.cst false,[none])]:=kr
theorem kF38_5:callK Pg cfg 38 0 [5]=[(.cst false,[none])]:=kr
theorem kF39_5:callK Pg cfg 39 0 [5]=[(.cst false,[none])]:=kr
theorem kF40_9:callK Pg cfg 40 0 [9]=[(.cst false,[none])]:=kr
theorem kF41_24_64:callK Pg cfg 41 0 [24,64]=[(.cst false,[some 1]),(.cst false,[none])]:=kr
theorem kF42_2:callK Pg cfg 42 0 [2]=[(.cst false,[none])]:=kr
theorem kF43_24_64:callK Pg cfg 43 0 [24,64]=[(.cst false,[some 1]),(.cst false,[none])]:=kr
theorem kF4_22_3:callK Pg cfg 4 0 [22,3]=[(.cst false,[some 2]),(.cst false,[none])]:=kr
theorem kF5_27_27_2:callK Pg cfg 5 0 [27,27,2]=[(.cst false,[some 2]),(.cst false,[some 2]),(.cst false,[none])]:=kr
theorem kF6_22:callK Pg cfg 6 0 [22]=[(.cst false,[some 2])]:=kr
theorem kF7_27_27_2:callK Pg cfg 7 0 [27,27,2]=[(.cst false,[some 2]),(.cst false,[some 2]),(.cst false,[none])]:=kr
theorem kF8_24_24:callK Pg cfg 8 0 [24,24]=[(.cst false,[some 1]),(.cst false,[some 1])]:=kr
theorem kF9_27_27:callK Pg cfg 9 0 [27,27]=[(.cst false,[some 2]),(.cst false,[some 2])]:=kr
theorem rF10:resK Pg (Try.f10.results.toList.zip Try.f10.resultTypes.toList)=[(.tmp 4,[none],none)]:=kr
theorem rF11:resK Pg (Try.f11.results.toList.zip Try.f11.resultTypes.toList)=[(.tmp 4,[none],none)]:=kr
theorem rF12:resK Pg (Try.f12.results.toList.zip Try.f12.resultTypes.toList)=[(.tmp 4,[none],none)]:=kr
theorem rF13:resK Pg (Try.f13.results.toList.zip Try.f13.resultTypes.toList)=[(.tmp 4,[none],none)]:=kr
theorem rF14:resK Pg (Try.f14.results.toList.zip Try.f14.resultTypes.toList)=[(.tmp 2,[none],none)]:=kr
theorem rF15:resK Pg (Try.f15.results.toList.zip Try.f15.resultTypes.toList)=[(.tmp 6,[none],none)]:=kr
theorem rF16:resK Pg (Try.f16.results.toList.zip Try.f16.resultTypes.toList)=[]:=kr
theorem rF17:resK Pg (Try.f17.results.toList.zip Try.f17.resultTypes.toList)=[(.cell 2 42,[none,some 1],some (true,2))]:=kr
theorem rF18:resK Pg (Try.f18.results.toList.zip Try.f18.resultTypes.toList)=[(.tmp 6,[none],none)]:=kr
theorem rF19:resK Pg (Try.f19.results.toList.zip Try.f19.resultTypes.toList)=[(.tmp 6,[none],none)]:=kr
theorem rF20:resK Pg (Try.f20.results.toList.zip Try.f20.resultTypes.toList)=[(.tmp 4,[none],none)]:=kr
theorem rF21:resK Pg (Try.f21.results.toList.zip Try.f21.resultTypes.toList)=[(.tmp 2,[none],none)]:=kr
theorem rF22:resK Pg (Try.f22.results.toList.zip Try.f22.resultTypes.toList)=[(.tmp 4,[none],none)]:=kr
theorem rF23:resK Pg (Try.f23.results.toList.zip Try.f23.resultTypes.toList)=[(.tmp 2,[none],none)]:=kr
theorem rF24:resK Pg (Try.f24.results.toList.zip Try.f24.resultTypes.toList)=[(.tmp 2,[some 1],none)]:=kr
theorem rF25:resK Pg (Try.f25.results.toList.zip Try.f25.resultTypes.toList)=[(.tmp 4,[none],none)]:=kr
theorem rF26:resK Pg (Try.f26.results.toList.zip Try.f26.resultTypes.toList)=[(.tmp 4,[none],none)]:=kr
theorem rF27:resK Pg (Try.f27.results.toList.zip Try.f27.resultTypes.toList)=[(.tmp 2,[some 1],none)]:=kr
theorem rF28:resK Pg (Try.f28.results.toList.zip Try.f28.resultTypes.toList)=[(.tmp 2,[none],none)]:=kr
theorem rF29:resK Pg (Try.f29.results.toList.zip Try.f29.resultTypes.toList)=[(.tmp 6,[none],none)]:=kr
theorem rF3:resK Pg (Try.f3.results.toList.zip Try.f3.resultTypes.toList)=[(.tmp 6,[none],none)]:=kr
theorem rF30:resK Pg (Try.f30.results.toList.zip Try.f30.resultTypes.toList)=[(.tmp 4,[none],none)]:=kr
theorem rF31:resK Pg (Try.f31.results.toList.zip Try.f31.resultTypes.toList)=[(.tmp 4,[none],none)]:=kr
theorem rF32:resK Pg (Try.f32.results.toList.zip Try.f32.resultTypes.toList)=[(.tmp 2,[some 1],none)]:=kr
theorem rF33:resK Pg (Try.f33.results.toList.zip Try.f33.resultTypes.toList)=[(.tmp 2,[none],none)]:=kr
theorem rF34:resK Pg (Try.f34.results.toList.zip Try.f34.resultTypes.toList)=[(.tmp 4,[none],none)]:=kr
theorem rF35:resK Pg (Try.f35.results.toList.zip Try.f35.resultTypes.toList)=[(.tmp 2,[none],none)]:=kr
theorem rF36:resK Pg (Try.f36.results.toList.zip Try.f36.resultTypes.toList)=[(.tmp 4,[none],none)]:=kr
theorem rF37:resK Pg (Try.f37.results.toList.zip Try.f37.resultTypes.toList)=[(.tmp 2,[none],none)]:=kr
theorem rF38:resK Pg (Try.f38.results.toList.zip Try.f38.resultTypes.toList)=[(.tmp 2,[none],none)]:=kr
theorem rF39:resK Pg (Try.f39.results.toList.zip Try.f39.resultTypes.toList)=[(.tmp 2,[none],none)]:=kr
theorem rF4:resK Pg (Try.f4.results.toList.zip Try.f4.resultTypes.toList)=[(.tmp 4,[none],none)]:=kr
theorem rF40:resK Pg (Try.f40.results.toList.zip Try.f40.resultTypes.toList)=[(.tmp 2,[none],none)]:=kr
theorem rF41:resK Pg (Try.f41.results.toList.zip Try.f41.resultTypes.toList)=[(.tmp 4,[none],none)]:=kr
theorem rF42:resK Pg (Try.f42.results.toList.zip Try.f42.resultTypes.toList)=[(.tmp 2,[none],none)]:=kr
theorem rF43:resK Pg (Try.f43.results.toList.zip Try.f43.resultTypes.toList)=[(.tmp 4,[none],none)]:=kr
theorem rF5:resK Pg (Try.f5.results.toList.zip Try.f5.resultTypes.toList)=[(.tmp 6,[some 1],none),(.tmp 7,[none],none),(.tmp 8,[none],none)]:=kr
theorem rF6:resK Pg (Try.f6.results.toList.zip Try.f6.resultTypes.toList)=[(.tmp 2,[some 2],none)]:=kr
theorem rF7:resK Pg (Try.f7.results.toList.zip Try.f7.resultTypes.toList)=[(.tmp 6,[some 1],none),(.tmp 7,[none],none),(.tmp 8,[none],none)]:=kr
theorem rF8:resK Pg (Try.f8.results.toList.zip Try.f8.resultTypes.toList)=[(.tmp 4,[none],none)]:=kr
theorem rF9:resK Pg (Try.f9.results.toList.zip Try.f9.resultTypes.toList)=[(.tmp 4,[none],none)]:=kr
theorem sF22:sliceF Pg 22=some (36,2,[none,some 1],true,40,[z1,.nil]):=kr
theorem sF24:sliceF Pg 24=some (2,1,[none],false,8,[z0]):=kr
theorem sF27:sliceF Pg 27=some (42,2,[none,some 1],true,40,[z1,.nil]):=kr
theorem sF56:sliceF Pg 56=some (5,1,[none],false,1,[.im 0 (.sc (.int .u8 0))]):=kr
theorem tF2:tyF Pg 2=some ([z0],[none],false,1):=kr
theorem tF24:tyF Pg 24=some ([.nil],[some 1],false,1):=kr
theorem tF27:tyF Pg 27=some ([.nil],[some 2],false,1):=kr
theorem tF36:tyF Pg 36=some ([z1,.nil],[none,some 1],true,2):=kr
theorem tF4:tyF Pg 4=some ([.im 0 (.sc (.bool false))],[none],false,1):=kr
theorem tF41:tyF Pg 41=some ([.nil,.nil,.nil,z0,.nil,z0,z0,z0,.im 0 (.sc (.bool false))],[some 2,some 2,some 1,none,some 1,none,none,none,none],true,9):=kr
theorem tF42:tyF Pg 42=some ([z1,.nil],[none,some 1],true,2):=kr
theorem tF47:tyF Pg 47=some ([.nil,.nil,z0,.im 0 (.sc (.bool false)),.nil,z0],[some 2,some 2,none,none,some 1,none],true,6):=kr
theorem tF9:tyF Pg 9=some ([z1],[none],false,1):=kr
theorem uF22:Pg.underlying 22=some (.slice 36):=kr
theorem uF24:Pg.underlying 24=some (.slice 2):=kr
theorem uF27:Pg.underlying 27=some (.slice 42):=kr
theorem uF3:Pg.underlying 3=some (.int .i64):=kr
theorem uF5:Pg.underlying 5=some (.int .u8):=kr
theorem uF56:Pg.underlying 56=some (.slice 5):=kr
theorem uF9:Pg.underlying 9=some .string:=kr
abbrev FX (i:Nat) (a:List Arg) (r:Res×List Out):Prop:=FL Try.prog cfg i a=some r
theorem L_laws_szInt64S {a_0:(List Int)} {left_1:Int} {r:Int} (h:laws_szInt64S a_0 left_1=some r):FX 22 [.im 2 false [W 1 eI a_0],.im 2 false [I left_1]] (B0 [(false,[.im 0 (I r)])]):=by
 unfold laws_szInt64S at h
 refine gn 12 Try.func22 rfl ?_
 refine gs<|g0 j j (q (oAsI j j)<|nl)<|us<|gs<|g0 j j (q (oMv j j)<|q (oMv j j)<|q (oLnI j j uF24 j)<|q (oBi j j j j)<|q (oAsI j j)<|nl)<|us<|gs<|gs<|g0 j j (q (oMv j j)<|q (oBi j j j j)<|nl)<|us<|gc h j iDec (fun hc1 h=>?_) fun hc1 h=>?_
 ·refine gs<|g0 j j (q (oAsI j j)<|nl)<|us<|Go.ret (Unw.ret ?_)
  cases h
  exact fr rF22 j
 ·refine Go.skip<|us<|gs<|g0 j j (q (oMv j j)<|q (oAsI j j)<|nl)<|us<|Go.ret (Unw.ret ?_)
  cases h
  exact fr rF22 j
theorem L_laws_szFeature {a_0:S_Feature} {left_1:Int} {r:Int} (h:laws_szFeature a_0 left_1=some r):FX 13 [.im 2 true (u_S_Feature a_0),.im 2 false [I left_1]] (B0 [(false,[.im 0 (I r)])]):=by
 unfold laws_szFeature at h
 refine gn 19 Try.func13 rfl ?_
 refine gs<|g0 j j (q (oBx j tF36 j (tkI (tkI tk0)))<|q (oAsI j j)<|nl)<|us<|gs<|g0 j j (q (oMv j j)<|q (oFA (r':=.mp 2 0 0) j fF36_0 j j)<|q (oLd (cs:=[.im 0 _]) j tF9 j j)<|q (oLnS j j uF9 j)<|q (oBi j j j j)<|q (oAsI j j)<|nl)<|us<|gs<|gs<|g0 j j (q (oMv j j)<|q (oBi j j j j)<|nl)<|us<|gc h j iDec (fun hc1 h=>?_) fun hc1 h=>?_
 ·refine gs<|g0 j j (q (oAsI j j)<|nl)<|us<|Go.ret (Unw.ret ?_)
  cases h
  exact fr rF13 j
 ·refine Go.skip<|us<|gs<|?_
  obtain ⟨x15,hx15,h⟩:=bs h
  refine g0 j j (q (oFA (r':=.mp 2 0 1) j fF36_1 j j)<|q (oLd (cs:=[.im 2 _]) j tF24 j j)<|q (oMv j j)<|q (oCa (xs:=[.v false [.im 2 _],.v false [.im 0 _]]) (vs:=[(false,[.im 0 _])]) (v:=.v false [.im 0 _]) (L_laws_szInt64S hx15) (.inl j) j kF22_24_3 j (ppC j (ppC j pp0)) j j pb0 j j j)<|q (oAsI j j)<|nl)<|us<|gs<|gs<|g0 j j (q (oMv j j)<|q (oBi j j j j)<|nl)<|us<|gc h j iDec (fun hc2 h=>?_) fun hc2 h=>?_
  ·refine gs<|g0 j j (q (oAsI j j)<|nl)<|us<|Go.ret (Unw.ret ?_)
   cases h
   exact fr rF13 j
  ·refine Go.skip<|us<|gs<|g0 j j (q (oMv j j)<|q (oAsI j j)<|nl)<|us<|Go.ret (Unw.ret ?_)
   cases h
   exact fr rF13 j
theorem L_laws_szFeatureS {a_0:(List S_Feature)} {left_1:Int} {r:Int} (h:laws_szFeatureS a_0 left_1=some r):FX 4 [.im 2 false [W 2 e_S_Feature a_0],.im 2 false [I left_1]] (B0 [(false,[.im 0 (I r)])]):=by
 unfold laws_szFeatureS at h
 refine gn 27 Try.func4 rfl ?_
 refine gs<|g0 j j (q (oAsI j j)<|nl)<|us<|gs<|g0 j j (q (oMv j j)<|q (oMv j j)<|q (oLnI j j uF22 j)<|q (oBi j j j j)<|q (oAsI j j)<|nl)<|us<|gs<|gs<|g0 j j (q (oMv j j)<|q (oBi j j j j)<|nl)<|us<|gc h j iDec (fun hc1 h=>?_) fun hc1 h=>?_
 ·refine gs<|g0 j j (q (oAsI j j)<|nl)<|us<|Go.ret (Unw.ret ?_)
  cases h
  exact fr rF4 j
 ·refine Go.skip<|us<|gs<|gs<|g0 j j (q (oAsI j j)<|nl)<|us<|Go.block<|?_
  obtain ⟨o,hl,h⟩:=bs h
  refine gl c4 j _ (fun (s:(Int×Int))=>match s with | (left_1_l5,i_5_l5)=>mk [(0,D 2 (W 2 e_S_Feature a_0)),(1,iv left_1_l5),(5,iv i_5_l5)] []) (fun (o:(Int ⊕ Int)) (p:Ex×St)=>match o with | (.inl left_1_e0_5)=>p.1= .exit 0∧p.2.norm ([1],[])=mk [(1,iv left_1_e0_5)] [] | (.inr r2)=>p.1= .ret∧fin Try.prog cfg 4 Try.f4 [.im 2 false [W 2 e_S_Feature a_0],.im 2 false [I left_1]] p.2=some (B0 [(false,[.im 0 (I r2)])])) hl (by kernel_rfl) ?_ ?_ ?_
  ·intro o p hp e
   rcases o with left_1_e0_5 | r2<;>exact nomatch (hp.1.symm.trans e)
  ·rintro ⟨left_1_l5,i_5_l5⟩ o h
   unfold laws_szFeatureS_l5 at h
   dsimp only at h
   refine gs<|gs<|g0 j j (q (oMv j j)<|q (oMv j j)<|q (oLnI j j uF22 j)<|q (oBi j j j j)<|nl)<|us<|gc h j iDec (fun hc6 h=>?_) fun hc6 h=>?_
   ·refine Go.skip<|us<|gs<|Go.block<|gs<|?_
    obtain ⟨x20,hx20,h⟩:=bs h
    obtain ⟨x23,hx23,h⟩:=bs h
    refine g0 j j (q (oMv j j)<|q (oMv j j)<|q (oIAI j hx20 sF22 j j)<|q (oLd (cs:=[.im 2 _,.im 2 _]) j tF36 j j)<|q (oMv j j)<|q (oCa (xs:=[.v true [.im 2 _,.im 2 _],.v false [.im 0 _]]) (vs:=[(false,[.im 0 _])]) (v:=.v false [.im 0 _]) (L_laws_szFeature hx23) (.inl j) j kF13_36_3 j (ppC j (ppC j pp0)) j j pb0 j j j)<|q (oAsI j j)<|nl)<|us<|gs<|g0 j j (q (oMv j j)<|q (oBi j j j j)<|nl)<|us<|gc h j iDec (fun hc7 h=>?_) fun hc7 h=>?_
    ·refine gs<|g0 j j (q (oAsI j j)<|nl)<|us<|Go.ret (Unw.ret ?_)
     cases h
     exact ⟨j,(fo rF4 j)⟩
    ·refine Go.skip<|Unw.blk<|us<|g0 j j (q (oMv j j)<|q (oBi j j j j)<|q (oAsI j j)<|nl)<|Unw.nil<|?_
     cases h
     exact ⟨j,(by kernel_rfl)⟩
   ·refine Go.exit<|ux<|Unw.nil<|?_
    cases h
    exact ⟨j,(by kernel_rfl)⟩
  ·rintro ⟨e,st⟩ hp
   rcases o with left_1_e0_5 | r2
   ·dsimp only at h
    obtain ⟨he,hst⟩:=hp
    obtain rfl:e= .exit 0:=he
    refine Unw.blkx<|us<|gs<|g2 c4 j j hst (q (oMv j j)<|q (oAsI j j)<|nl)<|us<|Go.ret (Unw.ret ?_)
    cases h
    exact fr rF4 j
   ·dsimp only at h
    obtain ⟨he,hfin⟩:=hp
    obtain rfl:e= .ret:=he
    cases h
    exact Unw.ret (Fin_ret hfin)
theorem L_laws_toInt64S {a_0:(List Int)} {r:(List Int)} (h:laws_toInt64S a_0=some r):FX 27 [.im 2 false [W 1 eI a_0]] (B0 [(false,[.ow 0 1 (List.map eI r)])]):=by
 unfold laws_toInt64S at h
 refine gn 22 Try.func27 rfl ?_
 refine gs<|g0 j j (q (oAsN j j eF24)<|nl)<|us<|gs<|?_
 obtain ⟨x7,hx7,h⟩:=bs h
 refine g0 j j (q (oMv j j)<|q (oLnI j j uF24 j)<|q (oMk (en:=eI) j hx7 j sF24 j j (fxI fx0) j (flat0 (L:=[_]) j fun _=>j))<|q (oAsO j j j j j)<|nl)<|us<|gs<|gs<|g0 j j (q (oAsI j j)<|nl)<|us<|Go.block<|?_
 obtain ⟨o,hl,h⟩:=bs h
 refine gl c27 j _ (fun (s:(Int×(List Int)))=>match s with | (i_4_l3,out_o3_l3)=>mk [(0,D 2 (W 1 eI a_0)),(3,H 3 0),(4,iv i_4_l3)] [(3,Oc [Z (W 1 eI out_o3_l3)])]) (fun (out_o3_e0_3:(List Int)) (p:Ex×St)=>p.1= .exit 0∧p.2.norm ([3],[3])=mk [(3,H 3 0)] [(3,Oc [Z (W 1 eI out_o3_e0_3)])]) hl (by kernel_rfl) ?_ ?_ ?_
 ·intro o p hp e
  exact nomatch (hp.1.symm.trans e)
 ·rintro ⟨i_4_l3,out_o3_l3⟩ o h
  unfold laws_toInt64S_l3 at h
  dsimp only at h
  refine gs<|gs<|g0 j j (q (oMv j j)<|q (oMv j j)<|q (oLnI j j uF24 j)<|q (oBi j j j j)<|nl)<|us<|gc h j iDec (fun hc3 h=>?_) fun hc3 h=>?_
  ·refine Go.skip<|us<|gs<|Go.block<|?_
   obtain ⟨x18,hx18,h⟩:=bs h
   obtain ⟨x20,hx20,h⟩:=bs h
   refine g0 j j (q (oMv j j)<|q (oMv j j)<|q (oMv j j)<|q (oMv j j)<|q (oIAI j hx18 sF24 j j)<|q (oLd (cs:=[.im 2 _]) j tF2 j j)<|q (oIAO j hx20 sF24 j j j j)<|q (oStE (v':=x18) tF2 j j j (fxI fx0) j j (rd_get hx20) j)<|nl)<|Unw.blk<|us<|g1 j j (mk [(0,D 2 (W 1 eI a_0)),(3,H 3 0),(4,iv i_4_l3)] [(3,Oc [Z (W 1 eI (out_o3_l3.set i_4_l3.toNat x18))])]) (q (oMv j j)<|q (oBi j j j j)<|q (oAsI j j)<|nl)<|Unw.nil<|?_
   cases h
   exact ⟨j,(by kernel_rfl)⟩
  ·refine Go.exit<|ux<|Unw.nil<|?_
   cases h
   exact ⟨j,(by kernel_rfl)⟩
 ·rintro ⟨e,st⟩ hp
  obtain ⟨out_o3_e0_3,rfl⟩:∃y,y=o:=⟨o,rfl⟩
  obtain ⟨he,hst⟩:=hp
  obtain rfl:e= .exit 0:=he
  refine Unw.blkx<|us<|gs<|g2 c27 j j hst (q (oMv j j)<|q (oAsO j j j j j)<|nl)<|us<|Go.ret (Unw.ret ?_)
  cases h
  exact fr rF27 j
theorem L_laws_toFeature {a_0:S_Feature} {r:S_Feature} (h:laws_toFeature a_0=some r):FX 17 [.im 2 true (u_S_Feature a_0)] (B0 [(true,[.im 0 (Y r.Id),.ow 0 1 (List.map eI r.Values)])]):=by
 unfold laws_toFeature at h
 refine gn 12 Try.func17 rfl ?_
 refine gs<|g0 j j (q (oBx j tF36 j (tkI (tkI tk0)))<|q (oAl j tF42 (tkI (tkN tk0)))<|nl)<|us<|gs<|g0 j j (q (oAl j tF42 (tkI (tkN tk0)))<|nl)<|us<|gs<|g0 j j (q (oFA (r':=.mp 1 0 0) j fF36_0 j j)<|q (oLd (cs:=[.im 0 _]) j tF9 j j)<|q (oFA (r':=.mp 3 0 0) j fF42_0 j j)<|q (oSt tF9 j j j (tkI tk0) j j j)<|nl)<|us<|gs<|?_
 obtain ⟨x9,hx9,h⟩:=bs h
 refine g1 j j (mk [(1,M 1),(2,M 2),(3,M 3)] [(1,Oa (G 2 (u_S_Feature a_0))),(2,Oa [C (Y (⟨#[]⟩:ByteArray)),Z (W 1 eI ([]:List Int))]),(3,Oa [C (Y a_0.Id),Z (W 1 eI ([]:List Int))])]) (q (oFA (r':=.mp 1 0 1) j fF36_1 j j)<|q (oLd (cs:=[.im 2 _]) j tF24 j j)<|q (oCr (xs:=[.v false [.im 2 _]]) (vs:=[(false,[.own 9 0 0])]) (v:=.v false [.own 9 0 0]) (c:=⟨.sh,0,_⟩) (cs:=[]) (L_laws_toInt64S hx9) (.inl j) j kF27_24 j (ppC j pp0) j j pb0 j j j)<|q (oFA (r':=.mp 3 0 1) j fF42_1 j j)<|q (oSt tF24 j j j (tkO j j tk0) j j j)<|nl)<|us<|gs<|g1 j j (mk [(2,M 2),(3,M 3)] [(2,Oa [C (Y (⟨#[]⟩:ByteArray)),Z (W 1 eI ([]:List Int))]),(3,Oa [C (Y a_0.Id),Z (W 1 eI x9)])]) (q (oLd (cs:=[.im 0 _,.own 3 0 1]) j tF42 j j)<|q (oSt tF42 j j j (tkI (tkO j j tk0)) j j j)<|nl)<|us<|Go.ret (Unw.ret ?_)
 cases h
 exact fr rF17 j
theorem L_laws_toFeatureS {a_0:(List S_Feature)} {r:(List S_Feature)} (h:laws_toFeatureS a_0=some r):FX 6 [.im 2 false [W 2 e_S_Feature a_0]] (B0 [(false,[.ow 0 2 (List.map e_S_Feature r)])]):=by
 unfold laws_toFeatureS at h
 refine gn 23 Try.func6 rfl ?_
 refine gs<|g0 j j (q (oAsN j j eF27)<|nl)<|us<|gs<|?_
 obtain ⟨x7,hx7,h⟩:=bs h
 refine g0 j j (q (oMv j j)<|q (oLnI j j uF22 j)<|q (oMk (en:=e_S_Feature) j hx7 j sF27 j j (fxI (fxN fx0)) j (flat1 j))<|q (oAsO j j j j j)<|nl)<|us<|gs<|gs<|g0 j j (q (oAsI j j)<|nl)<|us<|Go.block<|?_
 obtain ⟨o,hl,h⟩:=bs h
 refine gl c6 j _ (fun (s:(Int×(List S_Feature)))=>match s with | (i_4_l3,out_o3_l3)=>mk [(0,D 2 (W 2 e_S_Feature a_0)),(3,H 3 0),(4,iv i_4_l3)] [(3,Oc [Z (W 2 e_S_Feature out_o3_l3)])]) (fun (out_o3_e0_3:(List S_Feature)) (p:Ex×St)=>p.1= .exit 0∧p.2.norm ([3],[3])=mk [(3,H 3 0)] [(3,Oc [Z (W 2 e_S_Feature out_o3_e0_3)])]) hl (by kernel_rfl) ?_ ?_ ?_
 ·intro o p hp e
  exact nomatch (hp.1.symm.trans e)
 ·rintro ⟨i_4_l3,out_o3_l3⟩ o h
  unfold laws_toFeatureS_l3 at h
  dsimp only at h
  refine gs<|gs<|g0 j j (q (oMv j j)<|q (oMv j j)<|q (oLnI j j uF22 j)<|q (oBi j j j j)<|nl)<|us<|gc h j iDec (fun hc3 h=>?_) fun hc3 h=>?_
  ·refine Go.skip<|us<|gs<|Go.block<|?_
   obtain ⟨x18,hx18,h⟩:=bs h
   obtain ⟨x20,hx20,h⟩:=bs h
   obtain ⟨x21,hx21,h⟩:=bs h
   refine g0 j j (q (oMv j j)<|q (oMv j j)<|q (oMv j j)<|q (oMv j j)<|q (oIAI j hx18 sF22 j j)<|q (oLd (cs:=[.im 2 _,.im 2 _]) j tF36 j j)<|q (oCr (xs:=[.v true [.im 2 _,.im 2 _]]) (vs:=[(true,[.im 0 _,.own 20 0 0])]) (v:=.v true [.im 0 _,.own 20 0 0]) (c:=⟨.sh,0,_⟩) (cs:=[]) (L_laws_toFeature hx20) (.inl j) j kF17_36 j (ppC j pp0) j j pb0 j j j)<|q (oIAO j hx21 sF27 j j j j)<|q (oStE (v':=x20) tF42 j j j (fxI (fxO j j fx0)) j j (rd_get hx21) j)<|nl)<|Unw.blk<|us<|g1 j j (mk [(0,D 2 (W 2 e_S_Feature a_0)),(3,H 3 0),(4,iv i_4_l3)] [(3,Oc [Z (W 2 e_S_Feature (out_o3_l3.set i_4_l3.toNat x20))])]) (q (oMv j j)<|q (oBi j j j j)<|q (oAsI j j)<|nl)<|Unw.nil<|?_
   cases h
   exact ⟨j,(by kernel_rfl)⟩
  ·refine Go.exit<|ux<|Unw.nil<|?_
   cases h
   exact ⟨j,(by kernel_rfl)⟩
 ·rintro ⟨e,st⟩ hp
  obtain ⟨out_o3_e0_3,rfl⟩:∃y,y=o:=⟨o,rfl⟩
  obtain ⟨he,hst⟩:=hp
  obtain rfl:e= .exit 0:=he
  refine Unw.blkx<|us<|gs<|g2 c6 j j hst (q (oMv j j)<|q (oAsO j j j j j)<|nl)<|us<|Go.ret (Unw.ret ?_)
  cases h
  exact fr rF6 j
theorem L_spec_l01Small {c_0:Int} {r:Bool} (h:spec_l01Small c_0=some r):FX 38 [.im 2 false [.sc (.int .u8 c_0)]] (B0 [(false,[.im 0 (V r)])]):=by
 unfold spec_l01Small at h
 refine gn 9 Try.func38 rfl ?_
 refine gs<|g0 j j (q (oAsI j j)<|nl)<|us<|gs<|gX c38 j j j (mk [(2,bv ((decide (c_0≥97))&&(decide (c_0≤122))))] []) ?_ ?_
 ·refine xq (oMv j j)<|xq (oBi j j j j)<|xq (oMv j j)<|?_
  by_cases hc1:c_0≥97
  ·exact xqT rfl rfl (iDec.2 hc1) (oMv rfl rfl)<|xqT rfl rfl (iDec.2 hc1) (oBi rfl rfl rfl rfl)<|xq (oPkT rfl rfl (iDec.2 hc1) rfl)<|xq (oAsI rfl rfl)<|xn (Eq.trans (b:=(fun t_2_m1:Bool=>mk [(2,bv t_2_m1)] []) (decide (c_0≤122))) (by kernel_rfl) (congrArg (fun t_2_m1:Bool=>mk [(2,bv t_2_m1)] []) (by first | rfl | (simp [(iDec.2 hc1)];done) | (simp [(iDec.2 hc1)];omega))))
  ·exact xsgF rfl rfl (byF iDec hc1) rfl<|xsgF rfl rfl (byF iDec hc1) rfl<|xq (oPkF rfl rfl (byF iDec hc1) rfl)<|xq (oAsI rfl rfl)<|xn (Eq.trans (b:=(fun t_2_m1:Bool=>mk [(2,bv t_2_m1)] []) false) (by kernel_rfl) (congrArg (fun t_2_m1:Bool=>mk [(2,bv t_2_m1)] []) (by first | rfl | (simp [(byF iDec hc1)];done) | (simp [(byF iDec hc1)];omega))))
 ·refine us<|Go.ret (Unw.ret ?_)
  cases h
  exact fr rF38 j
theorem L_spec_l01Digit {c_0:Int} {r:Bool} (h:spec_l01Digit c_0=some r):FX 39 [.im 2 false [.sc (.int .u8 c_0)]] (B0 [(false,[.im 0 (V r)])]):=by
 unfold spec_l01Digit at h
 refine gn 9 Try.func39 rfl ?_
 refine gs<|g0 j j (q (oAsI j j)<|nl)<|us<|gs<|gX c39 j j j (mk [(2,bv ((decide (c_0≥48))&&(decide (c_0≤57))))] []) ?_ ?_
 ·refine xq (oMv j j)<|xq (oBi j j j j)<|xq (oMv j j)<|?_
  by_cases hc1:c_0≥48
  ·exact xqT rfl rfl (iDec.2 hc1) (oMv rfl rfl)<|xqT rfl rfl (iDec.2 hc1) (oBi rfl rfl rfl rfl)<|xq (oPkT rfl rfl (iDec.2 hc1) rfl)<|xq (oAsI rfl rfl)<|xn (Eq.trans (b:=(fun t_2_m1:Bool=>mk [(2,bv t_2_m1)] []) (decide (c_0≤57))) (by kernel_rfl) (congrArg (fun t_2_m1:Bool=>mk [(2,bv t_2_m1)] []) (by first | rfl | (simp [(iDec.2 hc1)];done) | (simp [(iDec.2 hc1)];omega))))
  ·exact xsgF rfl rfl (byF iDec hc1) rfl<|xsgF rfl rfl (byF iDec hc1) rfl<|xq (oPkF rfl rfl (byF iDec hc1) rfl)<|xq (oAsI rfl rfl)<|xn (Eq.trans (b:=(fun t_2_m1:Bool=>mk [(2,bv t_2_m1)] []) false) (by kernel_rfl) (congrArg (fun t_2_m1:Bool=>mk [(2,bv t_2_m1)] []) (by first | rfl | (simp [(byF iDec hc1)];done) | (simp [(byF iDec hc1)];omega))))
 ·refine us<|Go.ret (Unw.ret ?_)
  cases h
  exact fr rF39 j
theorem L_spec_l01Name {s_0:ByteArray} {r:Bool} (h:spec_l01Name s_0=some r):FX 33 [.im 2 false [Y s_0]] (B0 [(false,[.im 0 (V r)])]):=by
 unfold spec_l01Name at h
 refine gn 35 Try.func33 rfl ?_
 refine gs<|g0 j j (q (oAsI j j)<|nl)<|us<|gs<|gs<|?_
 obtain ⟨t_16_m1,hm16,h⟩:=bs h
 refine gX c33 j j j (mk [(0,sv s_0),(16,bv t_16_m1)] []) ?_ ?_
 ·refine xq (oMv j j)<|xq (oBi j j j j)<|xq (oMv j j)<|?_
  refine ic hm16 (fun hc1 hm16=>?_) fun hc1 hm16=>?_
  ·cases hm16
   exact xsgF j j (iStr.2 hc1) j<|xsgF j j (iStr.2 hc1) j<|xsgF j j (iStr.2 hc1) j<|xq (oPkT j j (iStr.2 hc1) j)<|xq (oMv j j)<|xsgF j j j j<|xsgF j j j j<|xsgF j j j j<|xsgF j j j j<|xq (oPkT j j j j)<|xn
  ·refine xqT j j (byF iStr hc1) (oMv j j)<|xqT j j (byF iStr hc1) (oLnS j j uF9 j)<|xqT j j (byF iStr hc1) (oBi j j j j)<|xq (oPkF j j (byF iStr hc1) j)<|xq (oMv j j)<|?_
   refine ic hm16 (fun hc2 hm16=>?_) fun hc2 hm16=>?_
   ·cases hm16
    exact xsgF j j (iDec.2 hc2) j<|xsgF j j (iDec.2 hc2) j<|xsgF j j (iDec.2 hc2) j<|xsgF j j (iDec.2 hc2) j<|xq (oPkT j j (iDec.2 hc2) j)<|xn
   ·obtain ⟨x13,hx13,hm16⟩:=bs hm16
    obtain ⟨x14,hx14,hm16⟩:=bs hm16
    cases hm16
    exact xqT j j (byF iDec hc2) (oMv j j)<|xqT j j (byF iDec hc2) (oIx j hx13 uF9 j j)<|xqT j j (byF iDec hc2) (oCa (xs:=[.v false [.im 0 _]]) (vs:=[(false,[.im 0 _])]) (v:=.v false [.im 0 _]) (L_spec_l01Small hx14) (.inl j) j kF38_5 j (ppC j pp0) j j pb0 j j j)<|xqT j j (byF iDec hc2) (oUn j j j)<|xq (oPkF j j (byF iDec hc2) j)<|xn
 ·refine us<|gc h j iR (fun hc3 h=>?_) fun hc3 h=>?_
  ·refine gs<|g0 j j (q (oAsI j j)<|nl)<|us<|Go.ret (Unw.ret ?_)
   cases h
   exact fr rF33 j
  ·refine Go.skip<|us<|gs<|gs<|g0 j j (q (oAsI j j)<|nl)<|us<|Go.block<|?_
   obtain ⟨o,hl,h⟩:=bs h
   refine gl c33 j _ (fun (i_3_l4:Int)=>mk [(0,sv s_0),(3,iv i_3_l4)] []) (fun (o:(Unit ⊕ Bool)) (p:Ex×St)=>match o with | (.inl _)=>p.1= .exit 0∧p.2.norm ([],[])=mk [] [] | (.inr r2)=>p.1= .ret∧fin Try.prog cfg 33 Try.f33 [.im 2 false [Y s_0]] p.2=some (B0 [(false,[.im 0 (V r2)])])) hl (by kernel_rfl) ?_ ?_ ?_
   ·intro o p hp e
    rcases o with u | r2<;>exact nomatch (hp.1.symm.trans e)
   ·rintro i_3_l4 o h
    unfold spec_l01Name_l4 at h
    refine gs<|gs<|g0 j j (q (oMv j j)<|q (oMv j j)<|q (oLnS j j uF9 j)<|q (oBi j j j j)<|nl)<|us<|gc h j iDec (fun hc12 h=>?_) fun hc12 h=>?_
    ·refine Go.skip<|us<|gs<|Go.block<|gs<|?_
     obtain ⟨x25,hx25,h⟩:=bs h
     obtain ⟨x26,hx26,h⟩:=bs h
     obtain ⟨t_34_m6,hm15,h⟩:=bs h
     refine gX c33 j j j (mk [(0,sv s_0),(3,iv i_3_l4),(34,bv t_34_m6)] []) ?_ ?_
     ·refine xq (oMv j j)<|xq (oMv j j)<|xq (oIx j hx25 uF9 j j)<|xq (oCa (xs:=[.v false [.im 0 _]]) (vs:=[(false,[.im 0 _])]) (v:=.v false [.im 0 _]) (L_spec_l01Small hx26) (.inl j) j kF38_5 j (ppC j pp0) j j pb0 j j j)<|xq (oUn j j j)<|xq (oMv j j)<|?_
      refine ic hm15 (fun hc13 hm15=>?_) fun hc13 hm15=>?_
      ·cases hm15
       exact xsgF j j (nF (iR.2 hc13)) j<|xsgF j j (nF (iR.2 hc13)) j<|xsgF j j (nF (iR.2 hc13)) j<|xsgF j j (nF (iR.2 hc13)) j<|xsgF j j (nF (iR.2 hc13)) j<|xq (oPkF j j (nF (iR.2 hc13)) j)<|xn
      ·obtain ⟨x31,hx31,hm15⟩:=bs hm15
       obtain ⟨x32,hx32,hm15⟩:=bs hm15
       cases hm15
       exact xqT j j (nT (byF iR hc13)) (oMv j j)<|xqT j j (nT (byF iR hc13)) (oMv j j)<|xqT j j (nT (byF iR hc13)) (oIx j hx31 uF9 j j)<|xqT j j (nT (byF iR hc13)) (oCa (xs:=[.v false [.im 0 _]]) (vs:=[(false,[.im 0 _])]) (v:=.v false [.im 0 _]) (L_spec_l01Digit hx32) (.inl j) j kF39_5 j (ppC j pp0) j j pb0 j j j)<|xqT j j (nT (byF iR hc13)) (oUn j j j)<|xq (oPkT j j (nT (byF iR hc13)) j)<|xn
     ·refine us<|gc h j iR (fun hc14 h=>?_) fun hc14 h=>?_
      ·refine gs<|g0 j j (q (oAsI j j)<|nl)<|us<|Go.ret (Unw.ret ?_)
       cases h
       exact ⟨j,(fo rF33 j)⟩
      ·refine Go.skip<|Unw.blk<|us<|g0 j j (q (oMv j j)<|q (oBi j j j j)<|q (oAsI j j)<|nl)<|Unw.nil<|?_
       cases h
       exact ⟨j,(by kernel_rfl)⟩
    ·refine Go.exit<|ux<|Unw.nil<|?_
     cases h
     exact ⟨j,(by kernel_rfl)⟩
   ·rintro ⟨e,st⟩ hp
    rcases o with u | r2
    ·dsimp only at h
     obtain ⟨he,hst⟩:=hp
     obtain rfl:e= .exit 0:=he
     refine Unw.blkx<|us<|gs<|g2 c33 j j hst (q (oAsI j j)<|nl)<|us<|Go.ret (Unw.ret ?_)
     cases h
     exact fr rF33 j
    ·dsimp only at h
     obtain ⟨he,hfin⟩:=hp
     obtain rfl:e= .ret:=he
     cases h
     exact Unw.ret (Fin_ret hfin)
theorem L_spec_l00In {n_0:Int} {low_1:Int} {high_2:Int} {r:Bool} (h:spec_l00In n_0 low_1 high_2=some r):FX 15 [.im 2 false [I n_0],.im 2 false [I low_1],.im 2 false [I high_2]] (B0 [(false,[.im 0 (V r)])]):=by
 unfold spec_l00In at h
 refine gn 15 Try.func15 rfl ?_
 refine gs<|g0 j j (q (oAsI j j)<|nl)<|us<|gs<|gX c15 j j j (mk [(6,bv ((decide (n_0≥low_1))&&(decide (n_0≤high_2))))] []) ?_ ?_
 ·refine xq (oMv j j)<|xq (oMv j j)<|xq (oBi j j j j)<|xq (oMv j j)<|?_
  by_cases hc1:n_0≥low_1
  ·exact xqT rfl rfl (iDec.2 hc1) (oMv rfl rfl)<|xqT rfl rfl (iDec.2 hc1) (oMv rfl rfl)<|xqT rfl rfl (iDec.2 hc1) (oBi rfl rfl rfl rfl)<|xq (oPkT rfl rfl (iDec.2 hc1) rfl)<|xq (oAsI rfl rfl)<|xn (Eq.trans (b:=(fun t_6_m1:Bool=>mk [(6,bv t_6_m1)] []) (decide (n_0≤high_2))) (by kernel_rfl) (congrArg (fun t_6_m1:Bool=>mk [(6,bv t_6_m1)] []) (by first | rfl | (simp [(iDec.2 hc1)];done) | (simp [(iDec.2 hc1)];omega))))
  ·exact xsgF rfl rfl (byF iDec hc1) rfl<|xsgF rfl rfl (byF iDec hc1) rfl<|xsgF rfl rfl (byF iDec hc1) rfl<|xq (oPkF rfl rfl (byF iDec hc1) rfl)<|xq (oAsI rfl rfl)<|xn (Eq.trans (b:=(fun t_6_m1:Bool=>mk [(6,bv t_6_m1)] []) false) (by kernel_rfl) (congrArg (fun t_6_m1:Bool=>mk [(6,bv t_6_m1)] []) (by first | rfl | (simp [(byF iDec hc1)];done) | (simp [(byF iDec hc1)];omega))))
 ·refine us<|Go.ret (Unw.ret ?_)
  cases h
  exact fr rF15 j
theorem L_spec_l26One {f_0:S_Feature} {r:Bool} (h:spec_l26One f_0=some r):FX 23 [.im 2 false [.cp (u_S_Feature f_0) 0]] (B0 [(false,[.im 0 (V r)])]):=by
 unfold spec_l26One at h
 refine gn 36 Try.func23 rfl ?_
 refine gs<|g0 j j (q (oAsI j j)<|nl)<|us<|gs<|gs<|?_
 obtain ⟨x8,hx8,h⟩:=bs h
 refine gX c23 j j j (mk [(0,D 2 (.cp (u_S_Feature f_0) 0)),(17,bv ((!x8)||((f_0.Values.length:Int) != 6)))] []) ?_ ?_
 ·refine xq (oMv j j)<|xq (oNl j j j)<|xq (oFA (r':=.im 2 _) j fF42_0 j j)<|xq (oLd (cs:=[.im 2 _]) j tF9 j j)<|xq (oCa (xs:=[.v false [.im 2 _]]) (vs:=[(false,[.im 0 _])]) (v:=.v false [.im 0 _]) (L_spec_l01Name hx8) (.inl j) j kF33_9 j (ppC j pp0) j j pb0 j j j)<|xq (oUn j j j)<|xq (oMv j j)<|?_
  by_cases hc1:x8=true
  ·exact xqT rfl rfl (nF (iR.2 hc1)) (oMv rfl rfl)<|xqT rfl rfl (nF (iR.2 hc1)) (oNl rfl rfl rfl)<|xqT rfl rfl (nF (iR.2 hc1)) (oFA (r':=.im 2 _) rfl fF42_1 rfl rfl)<|xqT rfl rfl (nF (iR.2 hc1)) (oLd (cs:=[.im 2 _]) rfl tF24 rfl rfl)<|xqT rfl rfl (nF (iR.2 hc1)) (oLnI rfl rfl uF24 rfl)<|xqT rfl rfl (nF (iR.2 hc1)) (oBi rfl rfl rfl rfl)<|xq (oPkF rfl rfl (nF (iR.2 hc1)) rfl)<|xn (Eq.trans (b:=(fun t_17_m1:Bool=>mk [(0,D 2 (.cp (u_S_Feature f_0) 0)),(17,bv t_17_m1)] []) ((f_0.Values.length:Int) != 6)) (by kernel_rfl) (congrArg (fun t_17_m1:Bool=>mk [(0,D 2 (.cp (u_S_Feature f_0) 0)),(17,bv t_17_m1)] []) (by first | rfl | (simp [(iR.2 hc1)];done) | (simp [(iR.2 hc1)];omega))))
  ·exact xsgF rfl rfl (nT (byF iR hc1)) rfl<|xsgF rfl rfl (nT (byF iR hc1)) rfl<|xsgF rfl rfl (nT (byF iR hc1)) rfl<|xsgF rfl rfl (nT (byF iR hc1)) rfl<|xsgF rfl rfl (nT (byF iR hc1)) rfl<|xsgF rfl rfl (nT (byF iR hc1)) rfl<|xq (oPkT rfl rfl (nT (byF iR hc1)) rfl)<|xn (Eq.trans (b:=(fun t_17_m1:Bool=>mk [(0,D 2 (.cp (u_S_Feature f_0) 0)),(17,bv t_17_m1)] []) true) (by kernel_rfl) (congrArg (fun t_17_m1:Bool=>mk [(0,D 2 (.cp (u_S_Feature f_0) 0)),(17,bv t_17_m1)] []) (by first | rfl | (simp [(byF iR hc1)];done) | (simp [(byF iR hc1)];omega))))
 ·refine us<|gc h j (iOr (iNot iR) iNe) (fun hc2 h=>?_) fun hc2 h=>?_
  ·refine gs<|g0 j j (q (oAsI j j)<|nl)<|us<|Go.ret (Unw.ret ?_)
   cases h
   exact fr rF23 j
  ·refine Go.skip<|us<|gs<|gs<|g0 j j (q (oAsI j j)<|nl)<|us<|Go.block<|?_
   obtain ⟨o,hl,h⟩:=bs h
   refine gl c23 j _ (fun (i_3_l4:Int)=>mk [(0,D 2 (.cp (u_S_Feature f_0) 0)),(3,iv i_3_l4)] []) (fun (o:(Unit ⊕ Bool)) (p:Ex×St)=>match o with | (.inl _)=>p.1= .exit 0∧p.2.norm ([],[])=mk [] [] | (.inr r2)=>p.1= .ret∧fin Try.prog cfg 23 Try.f23 [.im 2 false [.cp (u_S_Feature f_0) 0]] p.2=some (B0 [(false,[.im 0 (V r2)])])) hl (by kernel_rfl) ?_ ?_ ?_
   ·intro o p hp e
    rcases o with u | r2<;>exact nomatch (hp.1.symm.trans e)
   ·rintro i_3_l4 o h
    unfold spec_l26One_l4 at h
    refine gs<|gs<|g0 j j (q (oMv j j)<|q (oMv j j)<|q (oNl j j j)<|q (oFA (r':=.im 2 _) j fF42_1 j j)<|q (oLd (cs:=[.im 2 _]) j tF24 j j)<|q (oLnI j j uF24 j)<|q (oBi j j j j)<|nl)<|us<|gc h j iDec (fun hc7 h=>?_) fun hc7 h=>?_
    ·refine Go.skip<|us<|gs<|Go.block<|gs<|?_
     obtain ⟨x32,hx32,h⟩:=bs h
     obtain ⟨x34,hx34,h⟩:=bs h
     refine g0 j j (q (oMv j j)<|q (oNl j j j)<|q (oFA (r':=.im 2 _) j fF42_1 j j)<|q (oLd (cs:=[.im 2 _]) j tF24 j j)<|q (oMv j j)<|q (oIAI j hx32 sF24 j j)<|q (oLd (cs:=[.im 2 _]) j tF2 j j)<|q (oCa (xs:=[.v false [.im 2 _],.v false [.im 0 _],.v false [.im 0 _]]) (vs:=[(false,[.im 0 _])]) (v:=.v false [.im 0 _]) (L_spec_l00In hx34) (.inl j) j kF15_2_2_2 j (ppC j (ppC j (ppC j pp0))) j j pb0 j j j)<|q (oUn j j j)<|nl)<|us<|?_
     by_cases hc8:x34=true
     ·rw [if_pos hc8] at h
      refine gF j (nF (iR.2 hc8))<|Go.skip<|Unw.blk<|us<|g0 j j (q (oMv j j)<|q (oBi j j j j)<|q (oAsI j j)<|nl)<|Unw.nil<|?_
      cases h
      exact ⟨j,(by kernel_rfl)⟩
     ·rw [if_neg hc8] at h
      refine gT j (nT (byF iR hc8))<|gs<|g0 j j (q (oAsI j j)<|nl)<|us<|Go.ret (Unw.ret ?_)
      cases h
      exact ⟨j,(fo rF23 j)⟩
    ·refine Go.exit<|ux<|Unw.nil<|?_
     cases h
     exact ⟨j,(by kernel_rfl)⟩
   ·rintro ⟨e,st⟩ hp
    rcases o with u | r2
    ·dsimp only at h
     obtain ⟨he,hst⟩:=hp
     obtain rfl:e= .exit 0:=he
     refine Unw.blkx<|us<|gs<|g2 c23 j j hst (q (oAsI j j)<|nl)<|us<|Go.ret (Unw.ret ?_)
     cases h
     exact fr rF23 j
    ·dsimp only at h
     obtain ⟨he,hfin⟩:=hp
     obtain rfl:e= .ret:=he
     cases h
     exact Unw.ret (Fin_ret hfin)
theorem L_spec_l26Ok {list_0:(List S_Feature)} {r:Bool} (h:spec_l26Ok list_0=some r):FX 14 [.im 2 false [W 2 e_S_Feature list_0]] (B0 [(false,[.im 0 (V r)])]):=by
 unfold spec_l26Ok at h
 refine gn 36 Try.func14 rfl ?_
 refine gs<|g0 j j (q (oAsI j j)<|nl)<|us<|gs<|gs<|g0 j j (q (oAsI j j)<|nl)<|us<|Go.block<|?_
 obtain ⟨o,hl,h⟩:=bs h
 refine gl c14 j _ (fun (i_3_l2:Int)=>mk [(0,D 2 (W 2 e_S_Feature list_0)),(3,iv i_3_l2)] []) (fun (o:(Unit ⊕ Bool)) (p:Ex×St)=>match o with | (.inl _)=>p.1= .exit 0∧p.2.norm ([0],[])=mk [(0,D 2 (W 2 e_S_Feature list_0))] [] | (.inr r2)=>p.1= .ret∧fin Try.prog cfg 14 Try.f14 [.im 2 false [W 2 e_S_Feature list_0]] p.2=some (B0 [(false,[.im 0 (V r2)])])) hl (by kernel_rfl) ?_ ?_ ?_
 ·intro o p hp e
  rcases o with u | r2<;>exact nomatch (hp.1.symm.trans e)
 ·rintro i_3_l2 o h
  unfold spec_l26Ok_l2 at h
  refine gs<|gs<|g0 j j (q (oMv j j)<|q (oMv j j)<|q (oLnI j j uF27 j)<|q (oBi j j j j)<|nl)<|us<|gc h j iDec (fun hc11 h=>?_) fun hc11 h=>?_
  ·refine Go.skip<|us<|gs<|Go.block<|gs<|?_
   obtain ⟨x12,hx12,h⟩:=bs h
   obtain ⟨x13,hx13,h⟩:=bs h
   obtain ⟨t_32_m4,hm15,h⟩:=bs h
   refine gd c14 j j j j (mk [(0,D 2 (W 2 e_S_Feature list_0)),(3,iv i_3_l2),(32,bv t_32_m4)] []) ?_ ?_
   ·refine t j j (oMv j j)<|t j j (oMv j j)<|?_
    refine ic hm15 (fun hc12 hm15=>?_) fun hc12 hm15=>?_
    ·refine ic hm15 (fun hc13 hm15=>?_) fun hc13 hm15=>?_
     ·obtain ⟨x22,hx22,hm15⟩:=bs hm15
      obtain ⟨x27,hx27,hm15⟩:=bs hm15
      cases hm15
      exact t j j (oIAI j hx12 sF27 j j)<|sS (dN z14 j (oCa (xs:=[.v false [.im 2 _]]) (vs:=[(false,[.im 0 _])]) (v:=.v false [.im 0 _]) (L_spec_l26One hx13) (.inl j) j kF23_52 j (ppC j pp0) j j pb0 j j j)) trivial (t j j (oUn j j j)<|t j j (oMv j j)<|tT j j j j (nF (iR.2 hc12)) (oMv j j)<|tT j j j j (nF (iR.2 hc12)) (oBi j j j j)<|tT j j j j (nF (iR.2 hc12)) (oMv j j)<|tT j j j j (iDec.2 hc13) (oMv j j)<|tT j j j j (iDec.2 hc13) (oMv j j)<|tT j j j j (iDec.2 hc13) (oBi j j j j)<|tT j j j j (iDec.2 hc13) (oIAI j hx22 sF27 j j)<|tT j j j j (iDec.2 hc13) (oFA (r':=.im 2 _) j fF42_0 j j)<|tT j j j j (iDec.2 hc13) (oLd (cs:=[.im 2 _]) j tF9 j j)<|tT j j j j (iDec.2 hc13) (oMv j j)<|tT j j j j (iDec.2 hc13) (oMv j j)<|tT j j j j (iDec.2 hc13) (oIAI j hx27 sF27 j j)<|tT j j j j (iDec.2 hc13) (oFA (r':=.im 2 _) j fF42_0 j j)<|tT j j j j (iDec.2 hc13) (oLd (cs:=[.im 2 _]) j tF9 j j)<|tT j j j j (iDec.2 hc13) (oBi j j j j)<|tT j j j j (nF (iR.2 hc12)) (oPkT j j (iDec.2 hc13) j)<|t j j (oPkF j j (nF (iR.2 hc12)) j)<|sD (by kernel_rfl))
     ·cases hm15
      exact t j j (oIAI j hx12 sF27 j j)<|sS (dN z14 j (oCa (xs:=[.v false [.im 2 _]]) (vs:=[(false,[.im 0 _])]) (v:=.v false [.im 0 _]) (L_spec_l26One hx13) (.inl j) j kF23_52 j (ppC j pp0) j j pb0 j j j)) trivial (t j j (oUn j j j)<|t j j (oMv j j)<|tT j j j j (nF (iR.2 hc12)) (oMv j j)<|tT j j j j (nF (iR.2 hc12)) (oBi j j j j)<|tT j j j j (nF (iR.2 hc12)) (oMv j j)<|tF j j j j (byF iDec hc13) j<|tF j j j j (byF iDec hc13) j<|tF j j j j (byF iDec hc13) j<|tF j j j j (byF iDec hc13) j<|tF j j j j (byF iDec hc13) j<|tF j j j j (byF iDec hc13) j<|tF j j j j (byF iDec hc13) j<|tF j j j j (byF iDec hc13) j<|tF j j j j (byF iDec hc13) j<|tF j j j j (byF iDec hc13) j<|tF j j j j (byF iDec hc13) j<|tF j j j j (byF iDec hc13) j<|tT j j j j (nF (iR.2 hc12)) (oPkF j j (byF iDec hc13) j)<|t j j (oPkF j j (nF (iR.2 hc12)) j)<|sD (by kernel_rfl))
    ·cases hm15
     exact t j j (oIAI j hx12 sF27 j j)<|sS (dN z14 j (oCa (xs:=[.v false [.im 2 _]]) (vs:=[(false,[.im 0 _])]) (v:=.v false [.im 0 _]) (L_spec_l26One hx13) (.inl j) j kF23_52 j (ppC j pp0) j j pb0 j j j)) trivial (t j j (oUn j j j)<|t j j (oMv j j)<|tF j j j j (nT (byF iR hc12)) j<|tF j j j j (nT (byF iR hc12)) j<|tF j j j j (nT (byF iR hc12)) j<|sT j (dU j j j j)<|sT j (dU j j j j)<|sT j (dU j j j j)<|sT j (dU j j j j)<|sT j (dU j j j j)<|sT j (dU j j j j)<|sT j (dU j j j j)<|sT j (dU j j j j)<|sT j (dU j j j j)<|sT j (dU j j j j)<|sT j (dU j j j j)<|sT j (dU j j j j)<|tF j j j j (nT (byF iR hc12)) j<|t j j (oPkT j j (nT (byF iR hc12)) j)<|sD (by kernel_rfl))
   ·refine us<|gc h j iR (fun hc14 h=>?_) fun hc14 h=>?_
    ·refine gs<|g0 j j (q (oAsI j j)<|nl)<|us<|Go.ret (Unw.ret ?_)
     cases h
     exact ⟨j,(fo rF14 j)⟩
    ·refine Go.skip<|Unw.blk<|us<|g0 j j (q (oMv j j)<|q (oBi j j j j)<|q (oAsI j j)<|nl)<|Unw.nil<|?_
     cases h
     exact ⟨j,(by kernel_rfl)⟩
  ·refine Go.exit<|ux<|Unw.nil<|?_
   cases h
   exact ⟨j,(by kernel_rfl)⟩
 ·rintro ⟨e,st⟩ hp
  rcases o with u | r2
  ·dsimp only at h
   obtain ⟨he,hst⟩:=hp
   obtain rfl:e= .exit 0:=he
   refine Unw.blkx<|us<|gs<|g2 c14 j j hst (q (oMv j j)<|q (oLnI j j uF27 j)<|q (oBi j j j j)<|q (oAsI j j)<|nl)<|us<|Go.ret (Unw.ret ?_)
   cases h
   exact fr rF14 j
  ·dsimp only at h
   obtain ⟨he,hfin⟩:=hp
   obtain rfl:e= .ret:=he
   cases h
   exact Unw.ret (Fin_ret hfin)
theorem L_spec_l00Own {list_0:(List Int)} {r:(List Int)} (h:spec_l00Own list_0=some r):FX 24 [.im 2 false [W 1 eI list_0]] (B0 [(false,[.ow 0 1 (List.map eI r)])]):=by
 unfold spec_l00Own at h
 refine gn 6 Try.func24 rfl ?_
 refine gs<|g0 j j (q (oAsN j j eF24)<|nl)<|us<|gs<|?_
 obtain ⟨x5,hx5,h⟩:=bs h
 refine g0 j j (q (oBS (es:=List.map eI ([]:List Int)) j sF24 j pt0 (flat0 j fun _=>j))<|q (oMv j j)<|q (oApO (en:=eI) (M:=list_0) j hx5 j sF24 j j uF24 (.inl ⟨_,j⟩) j j j j el_im (flat0 j fun _=>j))<|q (oAsO j j j j j)<|nl)<|us<|Go.ret (Unw.ret ?_)
 cases h
 exact fr rF24 j
theorem L_spec_l00Max {a_0:Int} {b_1:Int} {r:Int} (h:spec_l00Max a_0 b_1=some r):FX 34 [.im 2 false [I a_0],.im 2 false [I b_1]] (B0 [(false,[.im 0 (I r)])]):=by
 unfold spec_l00Max at h
 refine gn 10 Try.func34 rfl ?_
 refine gs<|g0 j j (q (oAsI j j)<|nl)<|us<|gs<|gs<|g0 j j (q (oMv j j)<|q (oMv j j)<|q (oBi j j j j)<|nl)<|us<|gc h j iDec (fun hc1 h=>?_) fun hc1 h=>?_
 ·refine gs<|g0 j j (q (oMv j j)<|q (oAsI j j)<|nl)<|us<|Go.ret (Unw.ret ?_)
  cases h
  exact fr rF34 j
 ·refine Go.skip<|us<|gs<|g0 j j (q (oMv j j)<|q (oAsI j j)<|nl)<|us<|Go.ret (Unw.ret ?_)
  cases h
  exact fr rF34 j
theorem L_spec_l26Away {a_0:S_Feature} {b_1:S_Feature} {r:Int} (h:spec_l26Away a_0 b_1=some r):FX 25 [.im 2 false [.cp (u_S_Feature a_0) 0],.im 2 false [.cp (u_S_Feature b_1) 0]] (B0 [(false,[.im 0 (I r)])]):=by
 unfold spec_l26Away at h
 refine gn 45 Try.func25 rfl ?_
 refine gs<|g0 j j (q (oAsI j j)<|nl)<|us<|gs<|g0 j j (q (oAsI j j)<|nl)<|us<|gs<|gs<|g0 j j (q (oAsI j j)<|nl)<|us<|Go.block<|?_
 obtain ⟨o,hl,h⟩:=bs h
 refine gl c25 j _ (fun (s:(Int×Int))=>match s with | (sum_5_l3,i_6_l3)=>mk [(0,D 2 (.cp (u_S_Feature a_0) 0)),(1,D 2 (.cp (u_S_Feature b_1) 0)),(5,iv sum_5_l3),(6,iv i_6_l3)] []) (fun (sum_5_e0_3:Int) (p:Ex×St)=>p.1= .exit 0∧p.2.norm ([5],[])=mk [(5,iv sum_5_e0_3)] []) hl (by kernel_rfl) ?_ ?_ ?_
 ·intro o p hp e
  exact nomatch (hp.1.symm.trans e)
 ·rintro ⟨sum_5_l3,i_6_l3⟩ o h
  unfold spec_l26Away_l3 at h
  dsimp only at h
  refine gs<|gs<|g0 j j (q (oMv j j)<|q (oBi j j j j)<|nl)<|us<|gc h j iDec (fun hc3 h=>?_) fun hc3 h=>?_
  ·refine Go.skip<|us<|gs<|Go.block<|?_
   obtain ⟨x17,hx17,h⟩:=bs h
   obtain ⟨x24,hx24,h⟩:=bs h
   obtain ⟨x32,hx32,h⟩:=bs h
   obtain ⟨x39,hx39,h⟩:=bs h
   obtain ⟨x42,hx42,h⟩:=bs h
   refine gd c25 j j j j (mk [(0,D 2 (.cp (u_S_Feature a_0) 0)),(1,D 2 (.cp (u_S_Feature b_1) 0)),(5,iv (w64 (sum_5_l3+x42))),(6,iv i_6_l3)] []) (t j j (oMv j j)<|t j j (oMv j j)<|t j j (oNl j j j)<|t j j (oFA (r':=.im 2 _) j fF42_1 j j)<|t j j (oLd (cs:=[.im 2 _]) j tF24 j j)<|t j j (oMv j j)<|t j j (oIAI j hx17 sF24 j j)<|t j j (oLd (cs:=[.im 2 _]) j tF2 j j)<|t j j (oMv j j)<|t j j (oNl j j j)<|t j j (oFA (r':=.im 2 _) j fF42_1 j j)<|t j j (oLd (cs:=[.im 2 _]) j tF24 j j)<|t j j (oMv j j)<|t j j (oIAI j hx24 sF24 j j)<|t j j (oLd (cs:=[.im 2 _]) j tF2 j j)<|t j j (oBi j j j j)<|t j j (oMv j j)<|t j j (oNl j j j)<|t j j (oFA (r':=.im 2 _) j fF42_1 j j)<|t j j (oLd (cs:=[.im 2 _]) j tF24 j j)<|t j j (oMv j j)<|t j j (oIAI j hx32 sF24 j j)<|t j j (oLd (cs:=[.im 2 _]) j tF2 j j)<|t j j (oMv j j)<|t j j (oNl j j j)<|t j j (oFA (r':=.im 2 _) j fF42_1 j j)<|t j j (oLd (cs:=[.im 2 _]) j tF24 j j)<|t j j (oMv j j)<|t j j (oIAI j hx39 sF24 j j)<|t j j (oLd (cs:=[.im 2 _]) j tF2 j j)<|t j j (oBi j j j j)<|sS (dN z25 j (oCa (xs:=[.v false [.im 0 _],.v false [.im 0 _]]) (vs:=[(false,[.im 0 _])]) (v:=.v false [.im 0 _]) (L_spec_l00Max hx42) (.inl j) j kF34_2_2 j (ppC j (ppC j pp0)) j j pb0 j j j)) trivial (t j j (oBi j j j j)<|sS (dN z25 j (oAsI j j)) trivial (sD (by kernel_rfl))))<|Unw.blk<|us<|g0 j j (q (oMv j j)<|q (oBi j j j j)<|q (oAsI j j)<|nl)<|Unw.nil<|?_
   cases h
   exact ⟨j,(by kernel_rfl)⟩
  ·refine Go.exit<|ux<|Unw.nil<|?_
   cases h
   exact ⟨j,(by kernel_rfl)⟩
 ·rintro ⟨e,st⟩ hp
  obtain ⟨sum_5_e0_3,rfl⟩:∃y,y=o:=⟨o,rfl⟩
  obtain ⟨he,hst⟩:=hp
  obtain rfl:e= .exit 0:=he
  refine Unw.blkx<|us<|gs<|g2 c25 j j hst (q (oMv j j)<|q (oAsI j j)<|nl)<|us<|Go.ret (Unw.ret ?_)
  cases h
  exact fr rF25 j
theorem L_spec_l00Has {list_0:(List Int)} {n_1:Int} {r:Bool} (h:spec_l00Has list_0 n_1=some r):FX 26 [.im 2 false [W 1 eI list_0],.im 2 false [I n_1]] (B0 [(false,[.im 0 (V r)])]):=by
 unfold spec_l00Has at h
 refine gn 18 Try.func26 rfl ?_
 refine gs<|g0 j j (q (oAsI j j)<|nl)<|us<|gs<|gs<|g0 j j (q (oAsI j j)<|nl)<|us<|Go.block<|?_
 obtain ⟨o,hl,h⟩:=bs h
 refine gl c26 j _ (fun (i_5_l2:Int)=>mk [(0,D 2 (W 1 eI list_0)),(1,iv n_1),(5,iv i_5_l2)] []) (fun (o:(Unit ⊕ Bool)) (p:Ex×St)=>match o with | (.inl _)=>p.1= .exit 0∧p.2.norm ([],[])=mk [] [] | (.inr r2)=>p.1= .ret∧fin Try.prog cfg 26 Try.f26 [.im 2 false [W 1 eI list_0],.im 2 false [I n_1]] p.2=some (B0 [(false,[.im 0 (V r2)])])) hl (by kernel_rfl) ?_ ?_ ?_
 ·intro o p hp e
  rcases o with u | r2<;>exact nomatch (hp.1.symm.trans e)
 ·rintro i_5_l2 o h
  unfold spec_l00Has_l2 at h
  refine gs<|gs<|g0 j j (q (oMv j j)<|q (oMv j j)<|q (oLnI j j uF24 j)<|q (oBi j j j j)<|nl)<|us<|gc h j iDec (fun hc5 h=>?_) fun hc5 h=>?_
  ·refine Go.skip<|us<|gs<|Go.block<|gs<|?_
   obtain ⟨x14,hx14,h⟩:=bs h
   refine g0 j j (q (oMv j j)<|q (oMv j j)<|q (oIAI j hx14 sF24 j j)<|q (oLd (cs:=[.im 2 _]) j tF2 j j)<|q (oMv j j)<|q (oBi j j j j)<|nl)<|us<|gc h j iEq (fun hc6 h=>?_) fun hc6 h=>?_
   ·refine gs<|g0 j j (q (oAsI j j)<|nl)<|us<|Go.ret (Unw.ret ?_)
    cases h
    exact ⟨j,(fo rF26 j)⟩
   ·refine Go.skip<|Unw.blk<|us<|g0 j j (q (oMv j j)<|q (oBi j j j j)<|q (oAsI j j)<|nl)<|Unw.nil<|?_
    cases h
    exact ⟨j,(by kernel_rfl)⟩
  ·refine Go.exit<|ux<|Unw.nil<|?_
   cases h
   exact ⟨j,(by kernel_rfl)⟩
 ·rintro ⟨e,st⟩ hp
  rcases o with u | r2
  ·dsimp only at h
   obtain ⟨he,hst⟩:=hp
   obtain rfl:e= .exit 0:=he
   refine Unw.blkx<|us<|gs<|g2 c26 j j hst (q (oAsI j j)<|nl)<|us<|Go.ret (Unw.ret ?_)
   cases h
   exact fr rF26 j
  ·dsimp only at h
   obtain ⟨he,hfin⟩:=hp
   obtain rfl:e= .ret:=he
   cases h
   exact Unw.ret (Fin_ret hfin)
theorem L_spec_l26Search_run_F {self:S_l26Search→Option S_l26Search} (ih:∀{x_0:S_l26Search} {r:S_l26Search},self x_0=some r→FX 16 [.ptr true [(.imm,W 2 e_S_Feature x_0.targets),(.imm,W 2 e_S_Feature x_0.stock),(.sh,W 1 eI x_0.chosen),(.imm,I x_0.sum),(.sh,W 1 eI x_0.best),(.imm,I x_0.least),(.imm,I x_0.nodes),(.imm,I x_0.budget),(.imm,V x_0.full)]] ([],[.ptr true [(.imm,W 2 e_S_Feature r.targets),(.imm,W 2 e_S_Feature r.stock),(.sh,W 1 eI r.chosen),(.imm,I r.sum),(.sh,W 1 eI r.best),(.imm,I r.least),(.imm,I r.nodes),(.imm,I r.budget),(.imm,V r.full)]])) {x_0:S_l26Search} {r:S_l26Search} (h:spec_l26Search_run_F self x_0=some r):FX 16 [.ptr true [(.imm,W 2 e_S_Feature x_0.targets),(.imm,W 2 e_S_Feature x_0.stock),(.sh,W 1 eI x_0.chosen),(.imm,I x_0.sum),(.sh,W 1 eI x_0.best),(.imm,I x_0.least),(.imm,I x_0.nodes),(.imm,I x_0.budget),(.imm,V x_0.full)]] ([],[.ptr true [(.imm,W 2 e_S_Feature r.targets),(.imm,W 2 e_S_Feature r.stock),(.sh,W 1 eI r.chosen),(.imm,I r.sum),(.sh,W 1 eI r.best),(.imm,I r.least),(.imm,I r.nodes),(.imm,I r.budget),(.imm,V r.full)]]):=by
 unfold spec_l26Search_run_F at h
 refine FL_goS (A:=[(0,M 0)]) (B:=[(0,Od [Ct 1 (W 2 e_S_Feature x_0.targets),Ct 1 (W 2 e_S_Feature x_0.stock),Z (W 1 eI x_0.chosen),C (I x_0.sum),Z (W 1 eI x_0.best),C (I x_0.least),C (I x_0.nodes),C (I x_0.budget),C (V x_0.full)])]) (nt:=143) rfl rfl Try.func16 rfl rfl rfl rfl ?_
 refine gs<|g0 j j (q (oMv j j)<|q (oNl j j j)<|q (oFA (r':=.mp 0 0 2) j fF41_2 j j)<|q (oLd (cs:=[.own 0 0 2]) j tF24 j j)<|q (oLnO j j uF24 j j j (fun e=>nomatch e))<|q (oAsI j j)<|nl)<|us<|gs<|gs<|g0 j j (q (oMv j j)<|q (oMv j j)<|q (oNl j j j)<|q (oFA (r':=.mp 0 0 0) j fF41_0 j j)<|q (oLd (cs:=[.im 1 _]) j tF27 j j)<|q (oLnI j j uF27 j)<|q (oBi j j j j)<|nl)<|us<|gc h j iEq (fun hc1 h=>?_) fun hc1 h=>?_
 ·refine gs<|g0 j j (q (oMv j j)<|q (oMv j j)<|q (oNl j j j)<|q (oFA (r':=.mp 0 0 3) j fF41_3 j j)<|q (oLd (cs:=[.im 0 _]) j tF2 j j)<|q (oNl j j j)<|q (oFA (r':=.mp 0 0 5) j fF41_5 j j)<|q (oSt tF2 j j j (tkI tk0) j j j)<|nl)<|us<|gs<|?_
  obtain ⟨x29,hx29,h⟩:=bs h
  refine g1 j j (mk [(0,M 0)] [(0,Od [Ct 1 (W 2 e_S_Feature x_0.targets),Ct 1 (W 2 e_S_Feature x_0.stock),Z (W 1 eI x_0.chosen),C (I x_0.sum),Z (W 1 eI x_0.best),C (I x_0.sum),C (I x_0.nodes),C (I x_0.budget),C (V x_0.full)])]) (q (oMv j j)<|q (oMv j j)<|q (oNl j j j)<|q (oFA (r':=.mp 0 0 2) j fF41_2 j j)<|q (oLd (cs:=[.own 0 0 2]) j tF24 j j)<|q (oCr (xs:=[.v false [.own 0 0 2]]) (vs:=[(false,[.own 29 0 0])]) (v:=.v false [.own 29 0 0]) (c:=⟨.sh,0,_⟩) (cs:=[]) (L_spec_l00Own hx29) (.inl j) j kF24_24 j (ppC j pp0) j j pb0 j j j)<|q (oNl j j j)<|q (oFA (r':=.mp 0 0 4) j fF41_4 j j)<|q (oSt tF24 j j j (tkO j j tk0) j j j)<|nl)<|us<|Go.ret (Unw.ret ?_)
  cases h
  exact fr rF16 j
 ·refine Go.skip<|us<|gs<|g0 j j (q (oAsI j j)<|nl)<|us<|Go.block<|?_
  obtain ⟨o,hl,h⟩:=bs h
  refine gl c16 j _ (fun (s:(Int×(List S_Feature)×(List S_Feature)×(List Int)×Int×(List Int)×Int×Int×Int×Bool))=>match s with | (k_3_l5,x_o0_0_l5,x_o0_1_l5,x_o0_2_l5,x_o0_3_l5,x_o0_4_l5,x_o0_5_l5,x_o0_6_l5,x_o0_7_l5,x_o0_8_l5)=>mk [(0,M 0),(2,iv (x_0.chosen.length:Int)),(3,iv k_3_l5)] [(0,Od [Ct 1 (W 2 e_S_Feature x_o0_0_l5),Ct 1 (W 2 e_S_Feature x_o0_1_l5),Z (W 1 eI x_o0_2_l5),C (I x_o0_3_l5),Z (W 1 eI x_o0_4_l5),C (I x_o0_5_l5),C (I x_o0_6_l5),C (I x_o0_7_l5),C (V x_o0_8_l5)])]) (fun (o:(S_l26Search ⊕ S_l26Search)) (p:Ex×St)=>match o with | (.inl r2)=>p.1= .exit 0∧fin Try.prog cfg 16 Try.f16 [.ptr true [(.imm,W 2 e_S_Feature x_0.targets),(.imm,W 2 e_S_Feature x_0.stock),(.sh,W 1 eI x_0.chosen),(.imm,I x_0.sum),(.sh,W 1 eI x_0.best),(.imm,I x_0.least),(.imm,I x_0.nodes),(.imm,I x_0.budget),(.imm,V x_0.full)]] p.2=some ([],[.ptr true [(.imm,W 2 e_S_Feature r2.targets),(.imm,W 2 e_S_Feature r2.stock),(.sh,W 1 eI r2.chosen),(.imm,I r2.sum),(.sh,W 1 eI r2.best),(.imm,I r2.least),(.imm,I r2.nodes),(.imm,I r2.budget),(.imm,V r2.full)]]) | (.inr r2)=>p.1= .ret∧fin Try.prog cfg 16 Try.f16 [.ptr true [(.imm,W 2 e_S_Feature x_0.targets),(.imm,W 2 e_S_Feature x_0.stock),(.sh,W 1 eI x_0.chosen),(.imm,I x_0.sum),(.sh,W 1 eI x_0.best),(.imm,I x_0.least),(.imm,I x_0.nodes),(.imm,I x_0.budget),(.imm,V x_0.full)]] p.2=some ([],[.ptr true [(.imm,W 2 e_S_Feature r2.targets),(.imm,W 2 e_S_Feature r2.stock),(.sh,W 1 eI r2.chosen),(.imm,I r2.sum),(.sh,W 1 eI r2.best),(.imm,I r2.least),(.imm,I r2.nodes),(.imm,I r2.budget),(.imm,V r2.full)]])) hl (by kernel_rfl) ?_ ?_ ?_
  ·intro o p hp e
   rcases o with r2 | r2<;>exact nomatch (hp.1.symm.trans e)
  ·rintro ⟨k_3_l5,x_o0_0_l5,x_o0_1_l5,x_o0_2_l5,x_o0_3_l5,x_o0_4_l5,x_o0_5_l5,x_o0_6_l5,x_o0_7_l5,x_o0_8_l5⟩ o h
   unfold spec_l26Search_run_l5 at h
   dsimp only at h
   refine gs<|gs<|gX c16 j j j (mk [(0,M 0),(2,iv (x_0.chosen.length:Int)),(3,iv k_3_l5),(45,bv ((decide (k_3_l5< (x_o0_1_l5.length:Int)))&&(!x_o0_8_l5)))] [(0,Od [Ct 1 (W 2 e_S_Feature x_o0_0_l5),Ct 1 (W 2 e_S_Feature x_o0_1_l5),Z (W 1 eI x_o0_2_l5),C (I x_o0_3_l5),Z (W 1 eI x_o0_4_l5),C (I x_o0_5_l5),C (I x_o0_6_l5),C (I x_o0_7_l5),C (V x_o0_8_l5)])]) ?_ ?_
   ·refine xq (oMv j j)<|xq (oMv j j)<|xq (oNl j j j)<|xq (oFA (r':=.mp 0 0 1) j fF41_1 j j)<|xq (oLd (cs:=[.im 1 _]) j tF27 j j)<|xq (oLnI j j uF27 j)<|xq (oBi j j j j)<|xq (oMv j j)<|?_
    by_cases hc14:k_3_l5< (x_o0_1_l5.length:Int)
    ·exact xqT rfl rfl (iDec.2 hc14) (oMv rfl rfl)<|xqT rfl rfl (iDec.2 hc14) (oNl rfl rfl rfl)<|xqT rfl rfl (iDec.2 hc14) (oFA (r':=.mp 0 0 8) rfl fF41_8 rfl rfl)<|xqT rfl rfl (iDec.2 hc14) (oLd (cs:=[.im 0 _]) rfl tF4 rfl rfl)<|xqT rfl rfl (iDec.2 hc14) (oUn rfl rfl rfl)<|xq (oPkT rfl rfl (iDec.2 hc14) rfl)<|xn (Eq.trans (b:=(fun t_45_m5:Bool=>mk [(0,M 0),(2,iv (x_0.chosen.length:Int)),(3,iv k_3_l5),(45,bv t_45_m5)] [(0,Od [Ct 1 (W 2 e_S_Feature x_o0_0_l5),Ct 1 (W 2 e_S_Feature x_o0_1_l5),Z (W 1 eI x_o0_2_l5),C (I x_o0_3_l5),Z (W 1 eI x_o0_4_l5),C (I x_o0_5_l5),C (I x_o0_6_l5),C (I x_o0_7_l5),C (V x_o0_8_l5)])]) (!x_o0_8_l5)) (by kernel_rfl) (congrArg (fun t_45_m5:Bool=>mk [(0,M 0),(2,iv (x_0.chosen.length:Int)),(3,iv k_3_l5),(45,bv t_45_m5)] [(0,Od [Ct 1 (W 2 e_S_Feature x_o0_0_l5),Ct 1 (W 2 e_S_Feature x_o0_1_l5),Z (W 1 eI x_o0_2_l5),C (I x_o0_3_l5),Z (W 1 eI x_o0_4_l5),C (I x_o0_5_l5),C (I x_o0_6_l5),C (I x_o0_7_l5),C (V x_o0_8_l5)])]) (by first | rfl | (simp [(iDec.2 hc14)];done) | (simp [(iDec.2 hc14)];omega))))
    ·exact xsgF rfl rfl (byF iDec hc14) rfl<|xsgF rfl rfl (byF iDec hc14) rfl<|xsgF rfl rfl (byF iDec hc14) rfl<|xsgF rfl rfl (byF iDec hc14) rfl<|xsgF rfl rfl (byF iDec hc14) rfl<|xq (oPkF rfl rfl (byF iDec hc14) rfl)<|xn (Eq.trans (b:=(fun t_45_m5:Bool=>mk [(0,M 0),(2,iv (x_0.chosen.length:Int)),(3,iv k_3_l5),(45,bv t_45_m5)] [(0,Od [Ct 1 (W 2 e_S_Feature x_o0_0_l5),Ct 1 (W 2 e_S_Feature x_o0_1_l5),Z (W 1 eI x_o0_2_l5),C (I x_o0_3_l5),Z (W 1 eI x_o0_4_l5),C (I x_o0_5_l5),C (I x_o0_6_l5),C (I x_o0_7_l5),C (V x_o0_8_l5)])]) false) (by kernel_rfl) (congrArg (fun t_45_m5:Bool=>mk [(0,M 0),(2,iv (x_0.chosen.length:Int)),(3,iv k_3_l5),(45,bv t_45_m5)] [(0,Od [Ct 1 (W 2 e_S_Feature x_o0_0_l5),Ct 1 (W 2 e_S_Feature x_o0_1_l5),Z (W 1 eI x_o0_2_l5),C (I x_o0_3_l5),Z (W 1 eI x_o0_4_l5),C (I x_o0_5_l5),C (I x_o0_6_l5),C (I x_o0_7_l5),C (V x_o0_8_l5)])]) (by first | rfl | (simp [(byF iDec hc14)];done) | (simp [(byF iDec hc14)];omega))))
   ·refine us<|gc h j (iAnd iDec (iNot iR)) (fun hc15 h=>?_) fun hc15 h=>?_
    ·refine Go.skip<|us<|gs<|Go.join (fun st=>∃x_o0_0_r6,∃x_o0_1_r6,∃x_o0_2_r6,∃x_o0_3_r6,∃x_o0_4_r6,∃x_o0_5_r6,∃x_o0_6_r6,∃x_o0_7_r6,∃x_o0_8_r6,spec_l26Search_run_k6 self k_3_l5 x_o0_0_r6 x_o0_1_r6 x_o0_2_r6 x_o0_3_r6 x_o0_4_r6 x_o0_5_r6 x_o0_6_r6 x_o0_7_r6 x_o0_8_r6=some o∧st.norm ([0,2,3],[0])=mk [(0,M 0),(2,iv (x_0.chosen.length:Int)),(3,iv k_3_l5)] [(0,Od [Ct 1 (W 2 e_S_Feature x_o0_0_r6),Ct 1 (W 2 e_S_Feature x_o0_1_r6),Z (W 1 eI x_o0_2_r6),C (I x_o0_3_r6),Z (W 1 eI x_o0_4_r6),C (I x_o0_5_r6),C (I x_o0_6_r6),C (I x_o0_7_r6),C (V x_o0_8_r6)])]) ?_ ?_
     ·rintro st ⟨x_o0_0_r6,x_o0_1_r6,x_o0_2_r6,x_o0_3_r6,x_o0_4_r6,x_o0_5_r6,x_o0_6_r6,x_o0_7_r6,x_o0_8_r6,h,hst⟩
      unfold spec_l26Search_run_k6 at h
      refine us<|g2 c16 j j hst (q (oMv j j)<|q (oBi j j j j)<|q (oAsI j j)<|nl)<|Unw.nil<|?_
      cases h
      exact ⟨j,(by kernel_rfl)⟩
     ·intro K20
      refine Go.block<|gs<|?_
      obtain ⟨x53,hx53,h⟩:=bs h
      obtain ⟨x59,hx59,h⟩:=bs h
      obtain ⟨x60,hx60,h⟩:=bs h
      refine gd c16 j j j j (mk [(0,M 0),(2,iv (x_0.chosen.length:Int)),(3,iv k_3_l5),(4,iv x60)] [(0,Od [Ct 1 (W 2 e_S_Feature x_o0_0_l5),Ct 1 (W 2 e_S_Feature x_o0_1_l5),Z (W 1 eI x_o0_2_l5),C (I x_o0_3_l5),Z (W 1 eI x_o0_4_l5),C (I x_o0_5_l5),C (I x_o0_6_l5),C (I x_o0_7_l5),C (V x_o0_8_l5)])]) (t j j (oMv j j)<|t j j (oNl j j j)<|t j j (oFA (r':=.mp 0 0 0) j fF41_0 j j)<|t j j (oLd (cs:=[.im 1 _]) j tF27 j j)<|t j j (oMv j j)<|t j j (oIAI j hx53 sF27 j j)<|t j j (oMv j j)<|t j j (oNl j j j)<|t j j (oFA (r':=.mp 0 0 1) j fF41_1 j j)<|t j j (oLd (cs:=[.im 1 _]) j tF27 j j)<|t j j (oMv j j)<|t j j (oIAI j hx59 sF27 j j)<|sS (dN z16 j (oCa (xs:=[.v false [.im 1 _],.v false [.im 1 _]]) (vs:=[(false,[.im 0 _])]) (v:=.v false [.im 0 _]) (L_spec_l26Away hx60) (.inl j) j kF25_52_52 j (ppC j (ppC j pp0)) j j pb0 j j j)) trivial (sS (dN z16 j (oAsI j j)) trivial (sD (by kernel_rfl))))<|us<|gs<|gs<|?_
      obtain ⟨x66,hx66,h⟩:=bs h
      refine gd c16 j j j j (mk [(0,M 0),(2,iv (x_0.chosen.length:Int)),(3,iv k_3_l5),(4,iv x60),(86,bv (x66||((decide (x_o0_5_l5≥0))&&(decide ((w64 (x_o0_3_l5+x60))≥x_o0_5_l5)))))] [(0,Od [Ct 1 (W 2 e_S_Feature x_o0_0_l5),Ct 1 (W 2 e_S_Feature x_o0_1_l5),Z (W 1 eI x_o0_2_l5),C (I x_o0_3_l5),Z (W 1 eI x_o0_4_l5),C (I x_o0_5_l5),C (I x_o0_6_l5),C (I x_o0_7_l5),C (V x_o0_8_l5)])]) ?_ ?_
      ·refine t j j (oMv j j)<|t j j (oNl j j j)<|t j j (oFA (r':=.mp 0 0 2) j fF41_2 j j)<|t j j (oLd (cs:=[.own 0 0 2]) j tF24 j j)<|?_
       by_cases hc21:x66=true
       ·exact t rfl rfl (oMv rfl rfl)<|sS (dN z16 rfl (oCa (xs:=[.v false [.own 0 0 2],.v false [.im 0 _]]) (vs:=[(false,[.im 0 _])]) (v:=.v false [.im 0 _]) (L_spec_l00Has hx66) (.inl rfl) rfl kF26_24_2 rfl (ppC rfl (ppC rfl pp0)) rfl rfl pb0 rfl rfl rfl)) trivial (t rfl rfl (oMv rfl rfl)<|tF rfl rfl rfl rfl (iR.2 hc21) rfl<|tF rfl rfl rfl rfl (iR.2 hc21) rfl<|tF rfl rfl rfl rfl (iR.2 hc21) rfl<|tF rfl rfl rfl rfl (iR.2 hc21) rfl<|tF rfl rfl rfl rfl (iR.2 hc21) rfl<|tF rfl rfl rfl rfl (iR.2 hc21) rfl<|sT rfl (dU rfl rfl rfl rfl)<|sT rfl (dU rfl rfl rfl rfl)<|sT rfl (dU rfl rfl rfl rfl)<|sT rfl (dU rfl rfl rfl rfl)<|sT rfl (dU rfl rfl rfl rfl)<|sT rfl (dU rfl rfl rfl rfl)<|sT rfl (dU rfl rfl rfl rfl)<|sT rfl (dU rfl rfl rfl rfl)<|sT rfl (dU rfl rfl rfl rfl)<|sT rfl (dU rfl rfl rfl rfl)<|sT rfl (dU rfl rfl rfl rfl)<|tF rfl rfl rfl rfl (iR.2 hc21) rfl<|t rfl rfl (oPkT rfl rfl (iR.2 hc21) rfl)<|sD (Eq.trans (b:=(fun t_86_m8:Bool=>mk [(0,M 0),(2,iv (x_0.chosen.length:Int)),(3,iv k_3_l5),(4,iv x60),(86,bv t_86_m8)] [(0,Od [Ct 1 (W 2 e_S_Feature x_o0_0_l5),Ct 1 (W 2 e_S_Feature x_o0_1_l5),Z (W 1 eI x_o0_2_l5),C (I x_o0_3_l5),Z (W 1 eI x_o0_4_l5),C (I x_o0_5_l5),C (I x_o0_6_l5),C (I x_o0_7_l5),C (V x_o0_8_l5)])]) true) (by kernel_rfl) (congrArg (fun t_86_m8:Bool=>mk [(0,M 0),(2,iv (x_0.chosen.length:Int)),(3,iv k_3_l5),(4,iv x60),(86,bv t_86_m8)] [(0,Od [Ct 1 (W 2 e_S_Feature x_o0_0_l5),Ct 1 (W 2 e_S_Feature x_o0_1_l5),Z (W 1 eI x_o0_2_l5),C (I x_o0_3_l5),Z (W 1 eI x_o0_4_l5),C (I x_o0_5_l5),C (I x_o0_6_l5),C (I x_o0_7_l5),C (V x_o0_8_l5)])]) (by first | rfl | (simp [(iR.2 hc21)];done) | (simp [(iR.2 hc21)];omega)))))
       ·by_cases hc22:x_o0_5_l5≥0
        ·exact t rfl rfl (oMv rfl rfl)<|sS (dN z16 rfl (oCa (xs:=[.v false [.own 0 0 2],.v false [.im 0 _]]) (vs:=[(false,[.im 0 _])]) (v:=.v false [.im 0 _]) (L_spec_l00Has hx66) (.inl rfl) rfl kF26_24_2 rfl (ppC rfl (ppC rfl pp0)) rfl rfl pb0 rfl rfl rfl)) trivial (t rfl rfl (oMv rfl rfl)<|tT rfl rfl rfl rfl (byF iR hc21) (oMv rfl rfl)<|tT rfl rfl rfl rfl (byF iR hc21) (oNl rfl rfl rfl)<|tT rfl rfl rfl rfl (byF iR hc21) (oFA (r':=.mp 0 0 5) rfl fF41_5 rfl rfl)<|tT rfl rfl rfl rfl (byF iR hc21) (oLd (cs:=[.im 0 _]) rfl tF2 rfl rfl)<|tT rfl rfl rfl rfl (byF iR hc21) (oBi rfl rfl rfl rfl)<|tT rfl rfl rfl rfl (byF iR hc21) (oMv rfl rfl)<|tT rfl rfl rfl rfl (iDec.2 hc22) (oMv rfl rfl)<|tT rfl rfl rfl rfl (iDec.2 hc22) (oNl rfl rfl rfl)<|tT rfl rfl rfl rfl (iDec.2 hc22) (oFA (r':=.mp 0 0 3) rfl fF41_3 rfl rfl)<|tT rfl rfl rfl rfl (iDec.2 hc22) (oLd (cs:=[.im 0 _]) rfl tF2 rfl rfl)<|tT rfl rfl rfl rfl (iDec.2 hc22) (oMv rfl rfl)<|tT rfl rfl rfl rfl (iDec.2 hc22) (oBi rfl rfl rfl rfl)<|tT rfl rfl rfl rfl (iDec.2 hc22) (oMv rfl rfl)<|tT rfl rfl rfl rfl (iDec.2 hc22) (oNl rfl rfl rfl)<|tT rfl rfl rfl rfl (iDec.2 hc22) (oFA (r':=.mp 0 0 5) rfl fF41_5 rfl rfl)<|tT rfl rfl rfl rfl (iDec.2 hc22) (oLd (cs:=[.im 0 _]) rfl tF2 rfl rfl)<|tT rfl rfl rfl rfl (iDec.2 hc22) (oBi rfl rfl rfl rfl)<|tT rfl rfl rfl rfl (byF iR hc21) (oPkT rfl rfl (iDec.2 hc22) rfl)<|t rfl rfl (oPkF rfl rfl (byF iR hc21) rfl)<|sD (Eq.trans (b:=(fun t_86_m8:Bool=>mk [(0,M 0),(2,iv (x_0.chosen.length:Int)),(3,iv k_3_l5),(4,iv x60),(86,bv t_86_m8)] [(0,Od [Ct 1 (W 2 e_S_Feature x_o0_0_l5),Ct 1 (W 2 e_S_Feature x_o0_1_l5),Z (W 1 eI x_o0_2_l5),C (I x_o0_3_l5),Z (W 1 eI x_o0_4_l5),C (I x_o0_5_l5),C (I x_o0_6_l5),C (I x_o0_7_l5),C (V x_o0_8_l5)])]) (decide ((w64 (x_o0_3_l5+x60))≥x_o0_5_l5))) (by kernel_rfl) (congrArg (fun t_86_m8:Bool=>mk [(0,M 0),(2,iv (x_0.chosen.length:Int)),(3,iv k_3_l5),(4,iv x60),(86,bv t_86_m8)] [(0,Od [Ct 1 (W 2 e_S_Feature x_o0_0_l5),Ct 1 (W 2 e_S_Feature x_o0_1_l5),Z (W 1 eI x_o0_2_l5),C (I x_o0_3_l5),Z (W 1 eI x_o0_4_l5),C (I x_o0_5_l5),C (I x_o0_6_l5),C (I x_o0_7_l5),C (V x_o0_8_l5)])]) (by first | rfl | (simp [(byF iR hc21),(iDec.2 hc22)];done) | (simp [(byF iR hc21),(iDec.2 hc22)];omega) | (have q0:=(byF iR hc21);have q1:=(iDec.2 hc22);simp_all)))))
        ·exact t rfl rfl (oMv rfl rfl)<|sS (dN z16 rfl (oCa (xs:=[.v false [.own 0 0 2],.v false [.im 0 _]]) (vs:=[(false,[.im 0 _])]) (v:=.v false [.im 0 _]) (L_spec_l00Has hx66) (.inl rfl) rfl kF26_24_2 rfl (ppC rfl (ppC rfl pp0)) rfl rfl pb0 rfl rfl rfl)) trivial (t rfl rfl (oMv rfl rfl)<|tT rfl rfl rfl rfl (byF iR hc21) (oMv rfl rfl)<|tT rfl rfl rfl rfl (byF iR hc21) (oNl rfl rfl rfl)<|tT rfl rfl rfl rfl (byF iR hc21) (oFA (r':=.mp 0 0 5) rfl fF41_5 rfl rfl)<|tT rfl rfl rfl rfl (byF iR hc21) (oLd (cs:=[.im 0 _]) rfl tF2 rfl rfl)<|tT rfl rfl rfl rfl (byF iR hc21) (oBi rfl rfl rfl rfl)<|tT rfl rfl rfl rfl (byF iR hc21) (oMv rfl rfl)<|tF rfl rfl rfl rfl (byF iDec hc22) rfl<|tF rfl rfl rfl rfl (byF iDec hc22) rfl<|tF rfl rfl rfl rfl (byF iDec hc22) rfl<|tF rfl rfl rfl rfl (byF iDec hc22) rfl<|tF rfl rfl rfl rfl (byF iDec hc22) rfl<|tF rfl rfl rfl rfl (byF iDec hc22) rfl<|tF rfl rfl rfl rfl (byF iDec hc22) rfl<|tF rfl rfl rfl rfl (byF iDec hc22) rfl<|tF rfl rfl rfl rfl (byF iDec hc22) rfl<|tF rfl rfl rfl rfl (byF iDec hc22) rfl<|tF rfl rfl rfl rfl (byF iDec hc22) rfl<|tT rfl rfl rfl rfl (byF iR hc21) (oPkF rfl rfl (byF iDec hc22) rfl)<|t rfl rfl (oPkF rfl rfl (byF iR hc21) rfl)<|sD (Eq.trans (b:=(fun t_86_m8:Bool=>mk [(0,M 0),(2,iv (x_0.chosen.length:Int)),(3,iv k_3_l5),(4,iv x60),(86,bv t_86_m8)] [(0,Od [Ct 1 (W 2 e_S_Feature x_o0_0_l5),Ct 1 (W 2 e_S_Feature x_o0_1_l5),Z (W 1 eI x_o0_2_l5),C (I x_o0_3_l5),Z (W 1 eI x_o0_4_l5),C (I x_o0_5_l5),C (I x_o0_6_l5),C (I x_o0_7_l5),C (V x_o0_8_l5)])]) false) (by kernel_rfl) (congrArg (fun t_86_m8:Bool=>mk [(0,M 0),(2,iv (x_0.chosen.length:Int)),(3,iv k_3_l5),(4,iv x60),(86,bv t_86_m8)] [(0,Od [Ct 1 (W 2 e_S_Feature x_o0_0_l5),Ct 1 (W 2 e_S_Feature x_o0_1_l5),Z (W 1 eI x_o0_2_l5),C (I x_o0_3_l5),Z (W 1 eI x_o0_4_l5),C (I x_o0_5_l5),C (I x_o0_6_l5),C (I x_o0_7_l5),C (V x_o0_8_l5)])]) (by first | rfl | (simp [(byF iR hc21),(byF iDec hc22)];done) | (simp [(byF iR hc21),(byF iDec hc22)];omega) | (have q0:=(byF iR hc21);have q1:=(byF iDec hc22);simp_all)))))
      ·refine us<|gc h j (iOr iR (iAnd iDec iDec)) (fun hc23 h=>?_) fun hc23 h=>?_
       ·exact Go.exit<|ux<|Unw.blkx<|K20 _ ⟨x_o0_0_l5,x_o0_1_l5,x_o0_2_l5,x_o0_3_l5,x_o0_4_l5,x_o0_5_l5,x_o0_6_l5,x_o0_7_l5,x_o0_8_l5,h,(by kernel_rfl)⟩
       ·refine Go.skip<|us<|gs<|gs<|gd c16 j j j j (mk [(0,M 0),(2,iv (x_0.chosen.length:Int)),(3,iv k_3_l5),(4,iv x60),(95,bv (x_o0_6_l5==x_o0_7_l5))] [(0,Od [Ct 1 (W 2 e_S_Feature x_o0_0_l5),Ct 1 (W 2 e_S_Feature x_o0_1_l5),Z (W 1 eI x_o0_2_l5),C (I x_o0_3_l5),Z (W 1 eI x_o0_4_l5),C (I x_o0_5_l5),C (I x_o0_6_l5),C (I x_o0_7_l5),C (V x_o0_8_l5)])]) (t j j (oMv j j)<|t j j (oNl j j j)<|t j j (oFA (r':=.mp 0 0 6) j fF41_6 j j)<|t j j (oLd (cs:=[.im 0 _]) j tF2 j j)<|t j j (oMv j j)<|t j j (oNl j j j)<|t j j (oFA (r':=.mp 0 0 7) j fF41_7 j j)<|t j j (oLd (cs:=[.im 0 _]) j tF2 j j)<|t j j (oBi j j j j)<|sD (by kernel_rfl))<|us<|gc h j iEq (fun hc24 h=>?_) fun hc24 h=>?_
        ·refine gs<|g0 j j (q (oMv j j)<|q (oNl j j j)<|q (oFA (r':=.mp 0 0 8) j fF41_8 j j)<|q (oSt tF4 j j j (tkI tk0) j j j)<|nl)<|us<|Go.ret (Unw.ret ?_)
         cases h
         exact ⟨j,(fo rF16 j)⟩
        ·refine Go.skip<|us<|gs<|g0 j j (q (oMv j j)<|q (oNl j j j)<|q (oFA (r':=.mp 0 0 6) j fF41_6 j j)<|q (oLd (cs:=[.im 0 _]) j tF2 j j)<|q (oBi j j j j)<|q (oNl j j j)<|q (oFA (r':=.mp 0 0 6) j fF41_6 j j)<|q (oSt tF2 j j j (tkI tk0) j j j)<|nl)<|us<|gs<|?_
         obtain ⟨x113,hx113,h⟩:=bs h
         refine g1 j j (mk [(0,M 0),(2,iv (x_0.chosen.length:Int)),(3,iv k_3_l5),(4,iv x60)] [(0,Od [Ct 1 (W 2 e_S_Feature x_o0_0_l5),Ct 1 (W 2 e_S_Feature x_o0_1_l5),Z (W 1 eI x_o0_2_l5),C (I x_o0_3_l5),Z (W 1 eI x_o0_4_l5),C (I x_o0_5_l5),C (I (w64 (x_o0_6_l5+1))),C (I x_o0_7_l5),C (V x_o0_8_l5)])]) (q (oMv j j)<|q (oMv j j)<|q (oNl j j j)<|q (oFA (r':=.mp 0 0 2) j fF41_2 j j)<|q (oLd (cs:=[.own 0 0 2]) j tF24 j j)<|q (oMv j j)<|q (oBS (es:=List.map eI ([k_3_l5]:List Int)) j sF24 j (ptC j (fxI fx0) j pt0) (flat0 j fun _=>j))<|q (oApO (en:=eI) (M:=([k_3_l5]:List Int)) j hx113 j sF24 j j uF24 (.inl ⟨_,j⟩) j j j j (el_own j j) (flat0 j fun _=>j))<|q (oNl j j j)<|q (oFA (r':=.mp 0 0 2) j fF41_2 j j)<|q (oSt tF24 j j j (tkO j j tk0) j j j)<|nl)<|us<|gs<|g1 j j (mk [(0,M 0),(2,iv (x_0.chosen.length:Int)),(3,iv k_3_l5),(4,iv x60)] [(0,Od [Ct 1 (W 2 e_S_Feature x_o0_0_l5),Ct 1 (W 2 e_S_Feature x_o0_1_l5),Z (W 1 eI x113),C (I x_o0_3_l5),Z (W 1 eI x_o0_4_l5),C (I x_o0_5_l5),C (I (w64 (x_o0_6_l5+1))),C (I x_o0_7_l5),C (V x_o0_8_l5)])]) (q (oMv j j)<|q (oNl j j j)<|q (oFA (r':=.mp 0 0 3) j fF41_3 j j)<|q (oLd (cs:=[.im 0 _]) j tF2 j j)<|q (oMv j j)<|q (oBi j j j j)<|q (oNl j j j)<|q (oFA (r':=.mp 0 0 3) j fF41_3 j j)<|q (oSt tF2 j j j (tkI tk0) j j j)<|nl)<|us<|gs<|?_
         obtain ⟨x125,hx125,h⟩:=bs h
         refine g1 j j (mk [(0,M 0),(2,iv (x_0.chosen.length:Int)),(3,iv k_3_l5),(4,iv x60)] [(0,Od [Ct 1 (W 2 e_S_Feature x_o0_0_l5),Ct 1 (W 2 e_S_Feature x_o0_1_l5),Z (W 1 eI x113),C (I (w64 (x_o0_3_l5+x60))),Z (W 1 eI x_o0_4_l5),C (I x_o0_5_l5),C (I (w64 (x_o0_6_l5+1))),C (I x_o0_7_l5),C (V x_o0_8_l5)])]) (q (oMv j j)<|q (oCa (xs:=[.v false [.mp 0 0 0]]) (vs:=[]) (v:=.tup []) (ih hx125) (.inl j) j kF16_39 j (ppPx (ob':=⟨0,0,true,true,false,true,[Ct 1 (W 2 e_S_Feature x_o0_0_l5),Ct 1 (W 2 e_S_Feature x_o0_1_l5),Z (W 1 eI x113),C (I (w64 (x_o0_3_l5+x60))),Z (W 1 eI x_o0_4_l5),C (I x_o0_5_l5),C (I (w64 (x_o0_6_l5+1))),C (I x_o0_7_l5),C (V x_o0_8_l5)]⟩) j j j (by kernel_rfl) pp0) j j (pbPx (ob':=⟨0,1,true,true,false,true,[⟨.imm,1,1,W 2 e_S_Feature x125.targets⟩,⟨.imm,1,1,W 2 e_S_Feature x125.stock⟩,⟨.sh,1,0,W 1 eI x125.chosen⟩,⟨.imm,1,0,I x125.sum⟩,⟨.sh,1,0,W 1 eI x125.best⟩,⟨.imm,1,0,I x125.least⟩,⟨.imm,1,0,I x125.nodes⟩,⟨.imm,1,0,I x125.budget⟩,⟨.imm,1,0,V x125.full⟩]⟩) j j (by kernel_rfl) pb0) j j j)<|nl)<|us<|gs<|?_
         obtain ⟨x132,hx132,h⟩:=bs h
         exact g1 j j (mk [(0,M 0),(2,iv (x_0.chosen.length:Int)),(3,iv k_3_l5),(4,iv x60)] [(0,Od [Ct 1 (W 2 e_S_Feature x125.targets),Ct 1 (W 2 e_S_Feature x125.stock),Z (W 1 eI x125.chosen),C (I x125.sum),Z (W 1 eI x125.best),C (I x125.least),C (I x125.nodes),C (I x125.budget),C (V x125.full)])]) (q (oMv j j)<|q (oMv j j)<|q (oNl j j j)<|q (oFA (r':=.mp 0 0 2) j fF41_2 j j)<|q (oLd (cs:=[.own 0 0 2]) j tF24 j j)<|q (oMv j j)<|q (oSlO j hx132 sF24 j j j bn0 (bn1 j) j j j)<|q (oNl j j j)<|q (oFA (r':=.mp 0 0 2) j fF41_2 j j)<|q (oSt tF24 j j j (tkSM j j tk0) j j j)<|nl)<|us<|g1 j j (mk [(0,M 0),(2,iv (x_0.chosen.length:Int)),(3,iv k_3_l5),(4,iv x60)] [(0,Od [Ct 1 (W 2 e_S_Feature x125.targets),Ct 1 (W 2 e_S_Feature x125.stock),Z (W 1 eI ((x125.chosen.take ((x_0.chosen.length:Int).toNat)).drop 0)),C (I x125.sum),Z (W 1 eI x125.best),C (I x125.least),C (I x125.nodes),C (I x125.budget),C (V x125.full)])]) (q (oMv j j)<|q (oNl j j j)<|q (oFA (r':=.mp 0 0 3) j fF41_3 j j)<|q (oLd (cs:=[.im 0 _]) j tF2 j j)<|q (oMv j j)<|q (oBi j j j j)<|q (oNl j j j)<|q (oFA (r':=.mp 0 0 3) j fF41_3 j j)<|q (oSt tF2 j j j (tkI tk0) j j j)<|nl)<|Unw.blk<|K20 _ ⟨x125.targets,x125.stock,((x125.chosen.take ((x_0.chosen.length:Int).toNat)).drop 0),(w64 (x125.sum - x60)),x125.best,x125.least,x125.nodes,x125.budget,x125.full,h,(by kernel_rfl)⟩
    ·refine Go.exit<|ux<|Unw.nil<|?_
     cases h
     exact ⟨j,(fo rF16 j)⟩
  ·rintro ⟨e,st⟩ hp
   rcases o with r2 | r2
   ·dsimp only at h
    obtain ⟨he,hfin⟩:=hp
    obtain rfl:e= .exit 0:=he
    cases h
    exact Unw.blkx<|Unw.nil (Fin_end hfin)
   ·dsimp only at h
    obtain ⟨he,hfin⟩:=hp
    obtain rfl:e= .ret:=he
    cases h
    exact Unw.ret (Fin_ret hfin)
theorem L_spec_l26Search_run {x_0:S_l26Search} {r:S_l26Search} (h:spec_l26Search_run x_0=some r):FX 16 [.ptr true [(.imm,W 2 e_S_Feature x_0.targets),(.imm,W 2 e_S_Feature x_0.stock),(.sh,W 1 eI x_0.chosen),(.imm,I x_0.sum),(.sh,W 1 eI x_0.best),(.imm,I x_0.least),(.imm,I x_0.nodes),(.imm,I x_0.budget),(.imm,V x_0.full)]] ([],[.ptr true [(.imm,W 2 e_S_Feature r.targets),(.imm,W 2 e_S_Feature r.stock),(.sh,W 1 eI r.chosen),(.imm,I r.sum),(.sh,W 1 eI r.best),(.imm,I r.least),(.imm,I r.nodes),(.imm,I r.budget),(.imm,V r.full)]]):=by
 unfold spec_l26Search_run at h
 obtain ⟨n,hn⟩:=fixO_iter h
 clear h
 induction n generalizing x_0 r with
 | zero=>cases hn
 | succ n ihn=>exact L_spec_l26Search_run_F (self:=iterO _ n) (fun h=>ihn h) hn
theorem L_spec_BestMatches {targets_0:(List S_Feature)} {stock_1:(List S_Feature)} {budget_2:Int} {r:((List Int)×Int×Int)} (h:spec_BestMatches targets_0 stock_1 budget_2=some r):FX 5 [.im 2 false [W 2 e_S_Feature targets_0],.im 2 false [W 2 e_S_Feature stock_1],.im 2 false [I budget_2]] (B0 [(false,[.ow 0 1 (List.map eI r.1)]),(false,[.im 0 (I r.2.1)]),(false,[.im 0 (I r.2.2)])]):=by
 unfold spec_BestMatches at h
 refine gn 45 Try.func5 rfl ?_
 refine gs<|g0 j j (q (oAsN j j eF24)<|q (oAsI j j)<|q (oAsI j j)<|nl)<|us<|gs<|gs<|?_
 obtain ⟨x11,hx11,h⟩:=bs h
 obtain ⟨t_17_m1,hm6,h⟩:=bs h
 refine gX c5 j j j (mk [(0,D 2 (W 2 e_S_Feature targets_0)),(1,D 2 (W 2 e_S_Feature stock_1)),(2,iv budget_2),(17,bv t_17_m1)] []) ?_ ?_
 ·refine xq (oMv j j)<|xq (oCa (xs:=[.v false [.im 2 _]]) (vs:=[(false,[.im 0 _])]) (v:=.v false [.im 0 _]) (L_spec_l26Ok hx11) (.inl j) j kF14_27 j (ppC j pp0) j j pb0 j j j)<|xq (oUn j j j)<|xq (oMv j j)<|?_
  refine ic hm6 (fun hc1 hm6=>?_) fun hc1 hm6=>?_
  ·obtain ⟨x15,hx15,hm6⟩:=bs hm6
   cases hm6
   exact xqT j j (nF (iR.2 hc1)) (oMv j j)<|xqT j j (nF (iR.2 hc1)) (oCa (xs:=[.v false [.im 2 _]]) (vs:=[(false,[.im 0 _])]) (v:=.v false [.im 0 _]) (L_spec_l26Ok hx15) (.inl j) j kF14_27 j (ppC j pp0) j j pb0 j j j)<|xqT j j (nF (iR.2 hc1)) (oUn j j j)<|xq (oPkF j j (nF (iR.2 hc1)) j)<|xn
  ·cases hm6
   exact xsgF j j (nT (byF iR hc1)) j<|xsgF j j (nT (byF iR hc1)) j<|xsgF j j (nT (byF iR hc1)) j<|xq (oPkT j j (nT (byF iR hc1)) j)<|xn
 ·refine us<|gc h j iR (fun hc2 h=>?_) fun hc2 h=>?_
  ·refine gs<|g0 j j (q (oAsN j j eF24)<|q (oAsI j j)<|q (oAsI j j)<|nl)<|us<|Go.ret (Unw.ret ?_)
   cases h
   exact fr rF5 j
  ·refine Go.skip<|us<|gs<|gs<|?_
   obtain ⟨x19,hx19,h⟩:=bs h
   refine g0 j j (q (oMv j j)<|q (oCa (xs:=[.v false [.im 0 _],.v false [.im 0 _],.v false [.im 0 _]]) (vs:=[(false,[.im 0 _])]) (v:=.v false [.im 0 _]) (L_spec_l00In hx19) (.inl j) j kF15_2_2_2 j (ppC j (ppC j (ppC j pp0))) j j pb0 j j j)<|q (oUn j j j)<|nl)<|us<|?_
   by_cases hc3:x19=true
   ·rw [if_pos hc3] at h
    refine gF j (nF (iR.2 hc3))<|Go.skip<|us<|gs<|gs<|g0 j j (q (oMv j j)<|q (oLnI j j uF27 j)<|q (oMv j j)<|q (oLnI j j uF27 j)<|q (oBi j j j j)<|nl)<|us<|gc h j iDec (fun hc4 h=>?_) fun hc4 h=>?_
    ·refine gs<|g0 j j (q (oAsN j j eF24)<|q (oAsI j j)<|q (oAsI j j)<|nl)<|us<|Go.ret (Unw.ret ?_)
     cases h
     exact fr rF5 j
    ·refine Go.skip<|us<|gs<|g0 j j (q (oMv j j)<|q (oMv j j)<|q (oMv j j)<|q (oBu (cs:=[.im 2 _,.im 2 _,.nil,.im 0 _,.nil,.im 0 _,.im 0 _,.im 0 _,.im 0 _]) j bF41 j)<|q (oBx j tF41 j (tkI (tkI (tkN (tkI (tkN (tkI (tkI (tkI (tkI tk0))))))))))<|q (oAsP j j)<|nl)<|us<|gs<|?_
     obtain ⟨x32,hx32,h⟩:=bs h
     refine g1 j j (mk [(9,M 30)] [(30,Oa [Ct 2 (W 2 e_S_Feature targets_0),Ct 2 (W 2 e_S_Feature stock_1),Z (W 1 eI ([]:List Int)),C (I 0),Z (W 1 eI ([]:List Int)),C (I (-1)),C (I 0),C (I budget_2),C (V false)])]) (q (oMv j j)<|q (oCa (xs:=[.v false [.mp 30 0 0]]) (vs:=[]) (v:=.tup []) (L_spec_l26Search_run hx32) (.inl j) j kF16_39 j (ppPx (ob':=⟨0,0,false,true,false,true,[Ct 2 (W 2 e_S_Feature targets_0),Ct 2 (W 2 e_S_Feature stock_1),Z (W 1 eI ([]:List Int)),C (I 0),Z (W 1 eI ([]:List Int)),C (I (-1)),C (I 0),C (I budget_2),C (V false)]⟩) j j j (by kernel_rfl) pp0) j j (pbPx (ob':=⟨0,1,false,true,false,true,[⟨.imm,1,2,W 2 e_S_Feature x32.targets⟩,⟨.imm,1,2,W 2 e_S_Feature x32.stock⟩,⟨.sh,1,0,W 1 eI x32.chosen⟩,⟨.imm,1,0,I x32.sum⟩,⟨.sh,1,0,W 1 eI x32.best⟩,⟨.imm,1,0,I x32.least⟩,⟨.imm,1,0,I x32.nodes⟩,⟨.imm,1,0,I x32.budget⟩,⟨.imm,1,0,V x32.full⟩]⟩) j j (by kernel_rfl) pb0) j j j)<|nl)<|us<|gs<|gs<|g1 j j (mk [(9,M 30)] [(30,Oa [Ct 2 (W 2 e_S_Feature x32.targets),Ct 2 (W 2 e_S_Feature x32.stock),Z (W 1 eI x32.chosen),C (I x32.sum),Z (W 1 eI x32.best),C (I x32.least),C (I x32.nodes),C (I x32.budget),C (V x32.full)])]) (q (oMv j j)<|q (oNl j j j)<|q (oFA (r':=.mp 30 0 8) j fF41_8 j j)<|q (oLd (cs:=[.im 0 _]) j tF4 j j)<|nl)<|us<|gc h j iR (fun hc5 h=>?_) fun hc5 h=>?_
     ·refine gs<|g0 j j (q (oAsN j j eF24)<|q (oAsI j j)<|q (oAsI j j)<|nl)<|us<|Go.ret (Unw.ret ?_)
      cases h
      exact fr rF5 j
     ·refine Go.skip<|us<|gs<|gd c5 j j j j (mk [(6,H 6 0),(7,iv x32.least),(8,iv 0)] [(6,Oc [Z (W 1 eI x32.best)])]) (t j j (oMv j j)<|t j j (oNl j j j)<|t j j (oFA (r':=.mp 30 0 4) j fF41_4 j j)<|t j j (oLd (cs:=[.own 30 0 4]) j tF24 j j)<|t j j (oMv j j)<|sF (dN z5 j (oNl j j j)) trivial (sF (dN z5 j (oFA (r':=.mp 30 0 5) j fF41_5 j j)) trivial (sF (dN z5 j (oLd (cs:=[.im 0 _]) j tF2 j j)) trivial (sS (dN z5 j (oAsO j j j j j)) trivial (sS (dN z5 j (oAsI j j)) trivial (sS (dN z5 j (oAsI j j)) trivial (sD (by kernel_rfl))))) (sS (dN z5 j (oAsO j j j j j)) trivial (t j j (oLd (cs:=[.im 0 _]) j tF2 j j)<|sS (dN z5 j (oAsI j j)) trivial (sS (dN z5 j (oAsI j j)) trivial (sD (by kernel_rfl)))))) (sS (dN z5 j (oAsO j j j j j)) trivial (t j j (oFA (r':=.mp 30 0 5) j fF41_5 j j)<|t j j (oLd (cs:=[.im 0 _]) j tF2 j j)<|sS (dN z5 j (oAsI j j)) trivial (sS (dN z5 j (oAsI j j)) trivial (sD (by kernel_rfl)))))) (sS (dN z5 j (oAsO j j j j j)) trivial (t j j (oNl j j j)<|t j j (oFA (r':=.mp 30 0 5) j fF41_5 j j)<|t j j (oLd (cs:=[.im 0 _]) j tF2 j j)<|sS (dN z5 j (oAsI j j)) trivial (sS (dN z5 j (oAsI j j)) trivial (sD (by kernel_rfl))))))<|us<|Go.ret (Unw.ret ?_)
      cases h
      exact fr rF5 j
   ·rw [if_neg hc3] at h
    refine gT j (nT (byF iR hc3))<|gs<|g0 j j (q (oAsN j j eF24)<|q (oAsI j j)<|q (oAsI j j)<|nl)<|us<|Go.ret (Unw.ret ?_)
    cases h
    exact fr rF5 j
theorem L_impl_IsName {s_0:ByteArray} {r:Bool} (h:impl_IsName s_0=some r):FX 40 [.im 2 false [Y s_0]] (B0 [(false,[.im 0 (V r)])]):=by
 unfold impl_IsName at h
 refine gn 50 Try.func40 rfl ?_
 refine gs<|g0 j j (q (oAsI j j)<|nl)<|us<|gs<|gs<|?_
 obtain ⟨t_21_m1,hm26,h⟩:=bs h
 refine gX c40 j j j (mk [(0,sv s_0),(21,bv t_21_m1)] []) ?_ ?_
 ·refine xq (oMv j j)<|xq (oLnS j j uF9 j)<|xq (oBi j j j j)<|xq (oMv j j)<|?_
  refine ic hm26 (fun hc1 hm26=>?_) fun hc1 hm26=>?_
  ·cases hm26
   exact xsgF j j (iDec.2 hc1) j<|xsgF j j (iDec.2 hc1) j<|xsgF j j (iDec.2 hc1) j<|xq (oPkT j j (iDec.2 hc1) j)<|xq (oMv j j)<|xsgF j j j j<|xsgF j j j j<|xsgF j j j j<|xq (oPkT j j j j)<|xq (oMv j j)<|xsgF j j j j<|xsgF j j j j<|xsgF j j j j<|xq (oPkT j j j j)<|xn
  ·refine xqT j j (byF iDec hc1) (oMv j j)<|xqT j j (byF iDec hc1) (oLnS j j uF9 j)<|xqT j j (byF iDec hc1) (oBi j j j j)<|xq (oPkF j j (byF iDec hc1) j)<|xq (oMv j j)<|?_
   refine ic hm26 (fun hc2 hm26=>?_) fun hc2 hm26=>?_
   ·cases hm26
    exact xsgF j j (iDec.2 hc2) j<|xsgF j j (iDec.2 hc2) j<|xsgF j j (iDec.2 hc2) j<|xq (oPkT j j (iDec.2 hc2) j)<|xq (oMv j j)<|xsgF j j j j<|xsgF j j j j<|xsgF j j j j<|xq (oPkT j j j j)<|xn
   ·obtain ⟨x14,hx14,hm26⟩:=bs hm26
    refine xqT j j (byF iDec hc2) (oMv j j)<|xqT j j (byF iDec hc2) (oIx j hx14 uF9 j j)<|xqT j j (byF iDec hc2) (oBi j j j j)<|xq (oPkF j j (byF iDec hc2) j)<|xq (oMv j j)<|?_
    refine ic hm26 (fun hc3 hm26=>?_) fun hc3 hm26=>?_
    ·cases hm26
     exact xsgF j j (iDec.2 hc3) j<|xsgF j j (iDec.2 hc3) j<|xsgF j j (iDec.2 hc3) j<|xq (oPkT j j (iDec.2 hc3) j)<|xn
    ·obtain ⟨x19,hx19,hm26⟩:=bs hm26
     cases hm26
     exact xqT j j (byF iDec hc3) (oMv j j)<|xqT j j (byF iDec hc3) (oIx j hx19 uF9 j j)<|xqT j j (byF iDec hc3) (oBi j j j j)<|xq (oPkF j j (byF iDec hc3) j)<|xn
 ·refine us<|gc h j iR (fun hc4 h=>?_) fun hc4 h=>?_
  ·refine gs<|g0 j j (q (oAsI j j)<|nl)<|us<|Go.ret (Unw.ret ?_)
   cases h
   exact fr rF40 j
  ·refine Go.skip<|us<|gs<|gs<|g0 j j (q (oAsI j j)<|nl)<|us<|Go.block<|?_
   obtain ⟨o,hl,h⟩:=bs h
   refine gl c40 j _ (fun (i_3_l4:Int)=>mk [(0,sv s_0),(3,iv i_3_l4)] []) (fun (o:(Unit ⊕ Bool)) (p:Ex×St)=>match o with | (.inl _)=>p.1= .exit 0∧p.2.norm ([],[])=mk [] [] | (.inr r2)=>p.1= .ret∧fin Try.prog cfg 40 Try.f40 [.im 2 false [Y s_0]] p.2=some (B0 [(false,[.im 0 (V r2)])])) hl (by kernel_rfl) ?_ ?_ ?_
   ·intro o p hp e
    rcases o with u | r2<;>exact nomatch (hp.1.symm.trans e)
   ·rintro i_3_l4 o h
    unfold impl_IsName_l4 at h
    refine gs<|gs<|g0 j j (q (oMv j j)<|q (oMv j j)<|q (oLnS j j uF9 j)<|q (oBi j j j j)<|nl)<|us<|gc h j iDec (fun hc19 h=>?_) fun hc19 h=>?_
    ·refine Go.skip<|us<|gs<|Go.block<|gs<|?_
     obtain ⟨x30,hx30,h⟩:=bs h
     obtain ⟨t_49_m6,hm25,h⟩:=bs h
     refine gX c40 j j j (mk [(0,sv s_0),(3,iv i_3_l4),(49,bv t_49_m6)] []) ?_ ?_
     ·refine xq (oMv j j)<|xq (oMv j j)<|xq (oIx j hx30 uF9 j j)<|xq (oBi j j j j)<|xq (oMv j j)<|?_
      refine ic hm25 (fun hc20 hm25=>?_) fun hc20 hm25=>?_
      ·obtain ⟨x41,hx41,hm25⟩:=bs hm25
       refine xsgF j j (iDec.2 hc20) j<|xsgF j j (iDec.2 hc20) j<|xsgF j j (iDec.2 hc20) j<|xsgF j j (iDec.2 hc20) j<|xq (oPkT j j (iDec.2 hc20) j)<|xq (oMv j j)<|xqT j j j (oMv j j)<|xqT j j j (oMv j j)<|xqT j j j (oIx j hx41 uF9 j j)<|xqT j j j (oBi j j j j)<|xqT j j j (oMv j j)<|?_
       refine ic hm25 (fun hc21 hm25=>?_) fun hc21 hm25=>?_
       ·cases hm25
        exact xsgF j j (iDec.2 hc21) j<|xsgF j j (iDec.2 hc21) j<|xsgF j j (iDec.2 hc21) j<|xsgF j j (iDec.2 hc21) j<|xqT j j j (oPkT j j (iDec.2 hc21) j)<|xq (oPkT j j j j)<|xn
       ·obtain ⟨x46,hx46,hm25⟩:=bs hm25
        cases hm25
        exact xqT j j (byF iDec hc21) (oMv j j)<|xqT j j (byF iDec hc21) (oMv j j)<|xqT j j (byF iDec hc21) (oIx j hx46 uF9 j j)<|xqT j j (byF iDec hc21) (oBi j j j j)<|xqT j j j (oPkF j j (byF iDec hc21) j)<|xq (oPkT j j j j)<|xn
      ·obtain ⟨x35,hx35,hm25⟩:=bs hm25
       refine xqT j j (byF iDec hc20) (oMv j j)<|xqT j j (byF iDec hc20) (oMv j j)<|xqT j j (byF iDec hc20) (oIx j hx35 uF9 j j)<|xqT j j (byF iDec hc20) (oBi j j j j)<|xq (oPkF j j (byF iDec hc20) j)<|xq (oMv j j)<|?_
       refine ic hm25 (fun hc22 hm25=>?_) fun hc22 hm25=>?_
       ·obtain ⟨x41,hx41,hm25⟩:=bs hm25
        refine xqT j j (iDec.2 hc22) (oMv j j)<|xqT j j (iDec.2 hc22) (oMv j j)<|xqT j j (iDec.2 hc22) (oIx j hx41 uF9 j j)<|xqT j j (iDec.2 hc22) (oBi j j j j)<|xqT j j (iDec.2 hc22) (oMv j j)<|?_
        refine ic hm25 (fun hc23 hm25=>?_) fun hc23 hm25=>?_
        ·cases hm25
         exact xsgF j j (iDec.2 hc23) j<|xsgF j j (iDec.2 hc23) j<|xsgF j j (iDec.2 hc23) j<|xsgF j j (iDec.2 hc23) j<|xqT j j (iDec.2 hc22) (oPkT j j (iDec.2 hc23) j)<|xq (oPkT j j (iDec.2 hc22) j)<|xn
        ·obtain ⟨x46,hx46,hm25⟩:=bs hm25
         cases hm25
         exact xqT j j (byF iDec hc23) (oMv j j)<|xqT j j (byF iDec hc23) (oMv j j)<|xqT j j (byF iDec hc23) (oIx j hx46 uF9 j j)<|xqT j j (byF iDec hc23) (oBi j j j j)<|xqT j j (iDec.2 hc22) (oPkF j j (byF iDec hc23) j)<|xq (oPkT j j (iDec.2 hc22) j)<|xn
       ·cases hm25
        exact xsgF j j (byF iDec hc22) j<|xsgF j j (byF iDec hc22) j<|xsgF j j (byF iDec hc22) j<|xsgF j j (byF iDec hc22) j<|xsgF j j (byF iDec hc22) j<|xsgU j j j<|xsgU j j j<|xsgU j j j<|xsgU j j j<|xsgF j j (byF iDec hc22) j<|xq (oPkF j j (byF iDec hc22) j)<|xn
     ·refine us<|gc h j iR (fun hc24 h=>?_) fun hc24 h=>?_
      ·refine gs<|g0 j j (q (oAsI j j)<|nl)<|us<|Go.ret (Unw.ret ?_)
       cases h
       exact ⟨j,(fo rF40 j)⟩
      ·refine Go.skip<|Unw.blk<|us<|g0 j j (q (oMv j j)<|q (oBi j j j j)<|q (oAsI j j)<|nl)<|Unw.nil<|?_
       cases h
       exact ⟨j,(by kernel_rfl)⟩
    ·refine Go.exit<|ux<|Unw.nil<|?_
     cases h
     exact ⟨j,(by kernel_rfl)⟩
   ·rintro ⟨e,st⟩ hp
    rcases o with u | r2
    ·dsimp only at h
     obtain ⟨he,hst⟩:=hp
     obtain rfl:e= .exit 0:=he
     refine Unw.blkx<|us<|gs<|g2 c40 j j hst (q (oAsI j j)<|nl)<|us<|Go.ret (Unw.ret ?_)
     cases h
     exact fr rF40 j
    ·dsimp only at h
     obtain ⟨he,hfin⟩:=hp
     obtain rfl:e= .ret:=he
     cases h
     exact Unw.ret (Fin_ret hfin)
theorem L_impl_within {n_0:Int} {low_1:Int} {high_2:Int} {r:Bool} (h:impl_within n_0 low_1 high_2=some r):FX 29 [.im 2 false [I n_0],.im 2 false [I low_1],.im 2 false [I high_2]] (B0 [(false,[.im 0 (V r)])]):=by
 unfold impl_within at h
 refine gn 15 Try.func29 rfl ?_
 refine gs<|g0 j j (q (oAsI j j)<|nl)<|us<|gs<|gX c29 j j j (mk [(6,bv ((decide (n_0≥low_1))&&(decide (n_0≤high_2))))] []) ?_ ?_
 ·refine xq (oMv j j)<|xq (oMv j j)<|xq (oBi j j j j)<|xq (oMv j j)<|?_
  by_cases hc1:n_0≥low_1
  ·exact xqT rfl rfl (iDec.2 hc1) (oMv rfl rfl)<|xqT rfl rfl (iDec.2 hc1) (oMv rfl rfl)<|xqT rfl rfl (iDec.2 hc1) (oBi rfl rfl rfl rfl)<|xq (oPkT rfl rfl (iDec.2 hc1) rfl)<|xq (oAsI rfl rfl)<|xn (Eq.trans (b:=(fun t_6_m1:Bool=>mk [(6,bv t_6_m1)] []) (decide (n_0≤high_2))) (by kernel_rfl) (congrArg (fun t_6_m1:Bool=>mk [(6,bv t_6_m1)] []) (by first | rfl | (simp [(iDec.2 hc1)];done) | (simp [(iDec.2 hc1)];omega))))
  ·exact xsgF rfl rfl (byF iDec hc1) rfl<|xsgF rfl rfl (byF iDec hc1) rfl<|xsgF rfl rfl (byF iDec hc1) rfl<|xq (oPkF rfl rfl (byF iDec hc1) rfl)<|xq (oAsI rfl rfl)<|xn (Eq.trans (b:=(fun t_6_m1:Bool=>mk [(6,bv t_6_m1)] []) false) (by kernel_rfl) (congrArg (fun t_6_m1:Bool=>mk [(6,bv t_6_m1)] []) (by first | rfl | (simp [(byF iDec hc1)];done) | (simp [(byF iDec hc1)];omega))))
 ·refine us<|Go.ret (Unw.ret ?_)
  cases h
  exact fr rF29 j
theorem L_impl_ValidFeature_c1 {n_0:Int} {r:Bool} (h:impl_ValidFeature_c1 n_0=some r):FX 42 [.im 2 false [I n_0]] (B0 [(false,[.im 0 (V r)])]):=by
 unfold impl_ValidFeature_c1 at h
 refine gn 6 Try.func42 rfl ?_
 refine gs<|g0 j j (q (oAsI j j)<|nl)<|us<|gs<|?_
 obtain ⟨x4,hx4,h⟩:=bs h
 refine g0 j j (q (oMv j j)<|q (oCa (xs:=[.v false [.im 2 _],.v false [.im 0 _],.v false [.im 0 _]]) (vs:=[(false,[.im 0 _])]) (v:=.v false [.im 0 _]) (L_impl_within hx4) (.inl j) j kF29_2_2_2 j (ppC j (ppC j (ppC j pp0))) j j pb0 j j j)<|q (oUn j j j)<|q (oAsI j j)<|nl)<|us<|Go.ret (Unw.ret ?_)
 cases h
 exact fr rF42 j
theorem L_slices_IndexFunc_int64_int64_42 {s_0:(List Int)} {r:Int} (h:slices_IndexFunc_int64_int64 s_0 (fun b0=>impl_ValidFeature_c1 b0)=some r):FX 43 [.im 2 false [W 1 eI s_0],.im 2 false [.clo 42 []]] (B0 [(false,[.im 0 (I r)])]):=by
 unfold slices_IndexFunc_int64_int64 at h
 refine gn 19 Try.func43 rfl ?_
 refine gs<|g0 j j (q (oAsI j j)<|nl)<|us<|gs<|gs<|g0 j j (q (oMv j j)<|q (oLnI j j uF24 j)<|q (oMv j j)<|nl)<|us<|Go.block<|?_
 obtain ⟨o,hl,h⟩:=bs h
 refine gl c43 j _ (fun (t_8_l2:Int)=>mk [(0,D 2 (W 1 eI s_0)),(1,D 2 (.clo 42 [])),(7,iv (s_0.length:Int)),(8,iv t_8_l2)] []) (fun (o:(Unit ⊕ Int)) (p:Ex×St)=>match o with | (.inl _)=>p.1= .exit 0∧p.2.norm ([],[])=mk [] [] | (.inr r2)=>p.1= .ret∧fin Try.prog cfg 43 Try.f43 [.im 2 false [W 1 eI s_0],.im 2 false [.clo 42 []]] p.2=some (B0 [(false,[.im 0 (I r2)])])) hl (by kernel_rfl) ?_ ?_ ?_
 ·intro o p hp e
  rcases o with u | r2<;>exact nomatch (hp.1.symm.trans e)
 ·rintro t_8_l2 o h
  unfold slices_IndexFunc_int64_int64_l2 at h
  refine gs<|g0 j j (q (oBi j j j j)<|nl)<|us<|gs<|gc h j iDec (fun hc5 h=>?_) fun hc5 h=>?_
  ·refine Go.skip<|us<|gs<|Go.block<|gs<|g0 j j (q (oMv j j)<|q (oAsI j j)<|nl)<|us<|gs<|?_
   obtain ⟨x14,hx14,h⟩:=bs h
   obtain ⟨x16,hx16,h⟩:=bs h
   refine g0 j j (q (oMv j j)<|q (oMv j j)<|q (oMv j j)<|q (oIAI j hx14 sF24 j j)<|q (oLd (cs:=[.im 2 _]) j tF2 j j)<|q (oCa (xs:=[.v false [.im 2 _]]) (vs:=[(false,[.im 0 _])]) (v:=.v false [.im 0 _]) (L_impl_ValidFeature_c1 hx16) (.inr ⟨_,_,j,j⟩) j kF42_2 j (ppC j pp0) j j pb0 j j j)<|nl)<|us<|gc h j iR (fun hc6 h=>?_) fun hc6 h=>?_
   ·refine gs<|g0 j j (q (oMv j j)<|q (oAsI j j)<|nl)<|us<|Go.ret (Unw.ret ?_)
    cases h
    exact ⟨j,(fo rF43 j)⟩
   ·refine Go.skip<|Unw.blk<|us<|g0 j j (q (oBi j j j j)<|q (oMv j j)<|nl)<|Unw.nil<|?_
    cases h
    exact ⟨j,(by kernel_rfl)⟩
  ·refine Go.exit<|ux<|Unw.nil<|?_
   cases h
   exact ⟨j,(by kernel_rfl)⟩
 ·rintro ⟨e,st⟩ hp
  rcases o with u | r2
  ·dsimp only at h
   obtain ⟨he,hst⟩:=hp
   obtain rfl:e= .exit 0:=he
   refine Unw.blkx<|us<|gs<|g2 c43 j j hst (q (oAsI j j)<|nl)<|us<|Go.ret (Unw.ret ?_)
   cases h
   exact fr rF43 j
  ·dsimp only at h
   obtain ⟨he,hfin⟩:=hp
   obtain rfl:e= .ret:=he
   cases h
   exact Unw.ret (Fin_ret hfin)
theorem L_slices_ContainsFunc_int64_int64_42 {s_0:(List Int)} {r:Bool} (h:slices_ContainsFunc_int64_int64 s_0 (fun b0=>impl_ValidFeature_c1 b0)=some r):FX 41 [.im 2 false [W 1 eI s_0],.im 2 false [.clo 42 []]] (B0 [(false,[.im 0 (V r)])]):=by
 unfold slices_ContainsFunc_int64_int64 at h
 refine gn 9 Try.func41 rfl ?_
 refine gs<|g0 j j (q (oAsI j j)<|nl)<|us<|gs<|?_
 obtain ⟨x7,hx7,h⟩:=bs h
 refine g0 j j (q (oMv j j)<|q (oMv j j)<|q (oCa (xs:=[.v false [.im 2 _],.v false [.im 2 _]]) (vs:=[(false,[.im 0 _])]) (v:=.v false [.im 0 _]) (L_slices_IndexFunc_int64_int64_42 hx7) (.inl j) j kF43_24_64 j (ppC j (ppC j pp0)) j j pb0 j j j)<|q (oBi j j j j)<|q (oAsI j j)<|nl)<|us<|Go.ret (Unw.ret ?_)
 cases h
 exact fr rF41 j
theorem L_impl_ValidFeature {f_0:S_Feature} {r:Bool} (h:impl_ValidFeature f_0=some r):FX 35 [.im 2 true (u_S_Feature f_0)] (B0 [(false,[.im 0 (V r)])]):=by
 unfold impl_ValidFeature at h
 refine gn 18 Try.func35 rfl ?_
 refine gs<|g0 j j (q (oBx j tF42 j (tkI (tkI tk0)))<|q (oAsI j j)<|nl)<|us<|gs<|?_
 obtain ⟨x5,hx5,h⟩:=bs h
 obtain ⟨t_2_m1,hm3,h⟩:=bs h
 refine gX c35 j j j (mk [(2,bv t_2_m1)] []) ?_ ?_
 ·refine xq (oFA (r':=.mp 1 0 0) j fF42_0 j j)<|xq (oLd (cs:=[.im 0 _]) j tF9 j j)<|xq (oCa (xs:=[.v false [.im 0 _]]) (vs:=[(false,[.im 0 _])]) (v:=.v false [.im 0 _]) (L_impl_IsName hx5) (.inl j) j kF40_9 j (ppC j pp0) j j pb0 j j j)<|xq (oMv j j)<|?_
  refine ic hm3 (fun hc1 hm3=>?_) fun hc1 hm3=>?_
  ·refine xqT j j (iR.2 hc1) (oFA (r':=.mp 1 0 1) j fF42_1 j j)<|xqT j j (iR.2 hc1) (oLd (cs:=[.im 2 _]) j tF24 j j)<|xqT j j (iR.2 hc1) (oLnI j j uF24 j)<|xqT j j (iR.2 hc1) (oBi j j j j)<|xq (oPkT j j (iR.2 hc1) j)<|xq (oMv j j)<|?_
   refine ic hm3 (fun hc2 hm3=>?_) fun hc2 hm3=>?_
   ·obtain ⟨x15,hx15,hm3⟩:=bs hm3
    cases hm3
    exact xqT j j (iEq.2 hc2) (oFA (r':=.mp 1 0 1) j fF42_1 j j)<|xqT j j (iEq.2 hc2) (oLd (cs:=[.im 2 _]) j tF24 j j)<|xqT j j (iEq.2 hc2) (oCa (xs:=[.v false [.im 2 _],.fn 42 []]) (vs:=[(false,[.im 0 _])]) (v:=.v false [.im 0 _]) (L_slices_ContainsFunc_int64_int64_42 hx15) (.inl j) j kF41_24_64 j (ppC j (ppC j pp0)) j j pb0 j j j)<|xqT j j (iEq.2 hc2) (oUn j j j)<|xq (oPkT j j (iEq.2 hc2) j)<|xq (oAsI j j)<|xn
   ·cases hm3
    exact xsgF j j (byF iEq hc2) j<|xsgF j j (byF iEq hc2) j<|xsgF j j (byF iEq hc2) j<|xsgF j j (byF iEq hc2) j<|xq (oPkF j j (byF iEq hc2) j)<|xq (oAsI j j)<|xn
  ·cases hm3
   exact xsgF j j (byF iR hc1) j<|xsgF j j (byF iR hc1) j<|xsgF j j (byF iR hc1) j<|xsgF j j (byF iR hc1) j<|xq (oPkF j j (byF iR hc1) j)<|xq (oMv j j)<|xsgF j j j j<|xsgF j j j j<|xsgF j j j j<|xsgF j j j j<|xq (oPkF j j j j)<|xq (oAsI j j)<|xn
 ·refine us<|Go.ret (Unw.ret ?_)
  cases h
  exact fr rF35 j
theorem L_impl_ValidFeatures {list_0:(List S_Feature)} {r:Bool} (h:impl_ValidFeatures list_0=some r):FX 28 [.im 2 false [W 2 e_S_Feature list_0]] (B0 [(false,[.im 0 (V r)])]):=by
 unfold impl_ValidFeatures at h
 refine gn 34 Try.func28 rfl ?_
 refine gs<|g0 j j (q (oAsI j j)<|nl)<|us<|gs<|gs<|g0 j j (q (oMv j j)<|q (oLnI j j uF27 j)<|q (oMv j j)<|nl)<|us<|Go.block<|?_
 obtain ⟨o,hl,h⟩:=bs h
 refine gl c28 j _ (fun (t_7_l2:Int)=>mk [(0,D 2 (W 2 e_S_Feature list_0)),(5,D 2 (W 2 e_S_Feature list_0)),(6,iv (list_0.length:Int)),(7,iv t_7_l2)] []) (fun (o:(Unit ⊕ Bool)) (p:Ex×St)=>match o with | (.inl _)=>p.1= .exit 0∧p.2.norm ([0],[])=mk [(0,D 2 (W 2 e_S_Feature list_0))] [] | (.inr r2)=>p.1= .ret∧fin Try.prog cfg 28 Try.f28 [.im 2 false [W 2 e_S_Feature list_0]] p.2=some (B0 [(false,[.im 0 (V r2)])])) hl (by kernel_rfl) ?_ ?_ ?_
 ·intro o p hp e
  rcases o with u | r2<;>exact nomatch (hp.1.symm.trans e)
 ·rintro t_7_l2 o h
  unfold impl_ValidFeatures_l2 at h
  refine gs<|g0 j j (q (oBi j j j j)<|nl)<|us<|gs<|gc h j iDec (fun hc11 h=>?_) fun hc11 h=>?_
  ·refine Go.skip<|us<|gs<|Go.block<|gs<|?_
   obtain ⟨x10,hx10,h⟩:=bs h
   refine g0 j j (q (oMv j j)<|q (oIAI j hx10 sF27 j j)<|q (oLd (cs:=[.im 2 _,.im 2 _]) j tF42 j j)<|q (oAl j tF42 (tkI (tkN tk0)))<|q (oAsI j j)<|q (oSt tF42 j j j (tkI (tkI tk0)) j j j)<|nl)<|us<|gs<|?_
   obtain ⟨x13,hx13,h⟩:=bs h
   obtain ⟨t_29_m4,hm15,h⟩:=bs h
   refine gd c28 j j j (st1:=mk [(0,D 2 (W 2 e_S_Feature list_0)),(3,iv t_7_l2),(4,M 4),(5,D 2 (W 2 e_S_Feature list_0)),(6,iv (list_0.length:Int)),(7,iv t_7_l2)] [(4,Oa (G 2 (u_S_Feature x10)))]) (by kernel_rfl) (mk [(0,D 2 (W 2 e_S_Feature list_0)),(5,D 2 (W 2 e_S_Feature list_0)),(6,iv (list_0.length:Int)),(7,iv t_7_l2),(29,bv t_29_m4)] []) ?_ ?_
   ·refine ic hm15 (fun hc12 hm15=>?_) fun hc12 hm15=>?_
    ·refine ic hm15 (fun hc13 hm15=>?_) fun hc13 hm15=>?_
     ·obtain ⟨x22,hx22,hm15⟩:=bs hm15
      cases hm15
      exact t j j (oLd (cs:=[.im 0 _,.im 2 _]) j tF42 j j)<|sS (dN z28 j (oCa (xs:=[.v true [.im 0 _,.im 2 _]]) (vs:=[(false,[.im 0 _])]) (v:=.v false [.im 0 _]) (L_impl_ValidFeature hx13) (.inl j) j kF35_42 j (ppC j pp0) j j pb0 j j j)) trivial (t j j (oUn j j j)<|t j j (oMv j j)<|tT j j j j (nF (iR.2 hc12)) (oMv j j)<|tT j j j j (nF (iR.2 hc12)) (oBi j j j j)<|tT j j j j (nF (iR.2 hc12)) (oMv j j)<|tT j j j j (iDec.2 hc13) (oMv j j)<|tT j j j j (iDec.2 hc13) (oMv j j)<|tT j j j j (iDec.2 hc13) (oBi j j j j)<|tT j j j j (iDec.2 hc13) (oIAI j hx22 sF27 j j)<|tT j j j j (iDec.2 hc13) (oFA (r':=.im 2 _) j fF42_0 j j)<|tT j j j j (iDec.2 hc13) (oLd (cs:=[.im 2 _]) j tF9 j j)<|tT j j j j (iDec.2 hc13) (oFA (r':=.mp 4 0 0) j fF42_0 j j)<|tT j j j j (iDec.2 hc13) (oLd (cs:=[.im 0 _]) j tF9 j j)<|tT j j j j (iDec.2 hc13) (oBi j j j j)<|tT j j j j (nF (iR.2 hc12)) (oPkT j j (iDec.2 hc13) j)<|t j j (oPkF j j (nF (iR.2 hc12)) j)<|sD (by kernel_rfl))
     ·cases hm15
      exact t j j (oLd (cs:=[.im 0 _,.im 2 _]) j tF42 j j)<|sS (dN z28 j (oCa (xs:=[.v true [.im 0 _,.im 2 _]]) (vs:=[(false,[.im 0 _])]) (v:=.v false [.im 0 _]) (L_impl_ValidFeature hx13) (.inl j) j kF35_42 j (ppC j pp0) j j pb0 j j j)) trivial (t j j (oUn j j j)<|t j j (oMv j j)<|tT j j j j (nF (iR.2 hc12)) (oMv j j)<|tT j j j j (nF (iR.2 hc12)) (oBi j j j j)<|tT j j j j (nF (iR.2 hc12)) (oMv j j)<|tF j j j j (byF iDec hc13) j<|tF j j j j (byF iDec hc13) j<|tF j j j j (byF iDec hc13) j<|tF j j j j (byF iDec hc13) j<|tF j j j j (byF iDec hc13) j<|tF j j j j (byF iDec hc13) j<|tF j j j j (byF iDec hc13) j<|tF j j j j (byF iDec hc13) j<|tF j j j j (byF iDec hc13) j<|tT j j j j (nF (iR.2 hc12)) (oPkF j j (byF iDec hc13) j)<|t j j (oPkF j j (nF (iR.2 hc12)) j)<|sD (by kernel_rfl))
    ·cases hm15
     exact t j j (oLd (cs:=[.im 0 _,.im 2 _]) j tF42 j j)<|sS (dN z28 j (oCa (xs:=[.v true [.im 0 _,.im 2 _]]) (vs:=[(false,[.im 0 _])]) (v:=.v false [.im 0 _]) (L_impl_ValidFeature hx13) (.inl j) j kF35_42 j (ppC j pp0) j j pb0 j j j)) trivial (t j j (oUn j j j)<|t j j (oMv j j)<|tF j j j j (nT (byF iR hc12)) j<|tF j j j j (nT (byF iR hc12)) j<|tF j j j j (nT (byF iR hc12)) j<|sT j (dU j j j j)<|sT j (dU j j j j)<|sT j (dU j j j j)<|sT j (dU j j j j)<|sT j (dU j j j j)<|sT j (dU j j j j)<|sT j (dU j j j j)<|sT j (dU j j j j)<|sT j (dU j j j j)<|tF j j j j (nT (byF iR hc12)) j<|t j j (oPkT j j (nT (byF iR hc12)) j)<|sD (by kernel_rfl))
   ·refine us<|gc h j iR (fun hc14 h=>?_) fun hc14 h=>?_
    ·refine gs<|g0 j j (q (oAsI j j)<|nl)<|us<|Go.ret (Unw.ret ?_)
     cases h
     exact ⟨j,(fo rF28 j)⟩
    ·refine Go.skip<|Unw.blk<|us<|g0 j j (q (oBi j j j j)<|q (oMv j j)<|nl)<|Unw.nil<|?_
     cases h
     exact ⟨j,(by kernel_rfl)⟩
  ·refine Go.exit<|ux<|Unw.nil<|?_
   cases h
   exact ⟨j,(by kernel_rfl)⟩
 ·rintro ⟨e,st⟩ hp
  rcases o with u | r2
  ·dsimp only at h
   obtain ⟨he,hst⟩:=hp
   obtain rfl:e= .exit 0:=he
   refine Unw.blkx<|us<|gs<|g2 c28 j j hst (q (oMv j j)<|q (oLnI j j uF27 j)<|q (oBi j j j j)<|q (oAsI j j)<|nl)<|us<|Go.ret (Unw.ret ?_)
   cases h
   exact fr rF28 j
  ·dsimp only at h
   obtain ⟨he,hfin⟩:=hp
   obtain rfl:e= .ret:=he
   cases h
   exact Unw.ret (Fin_ret hfin)
theorem L_impl_matchesCode {targets_0:(List S_Feature)} {stock_1:(List S_Feature)} {budget_2:Int} {r:Int} (h:impl_matchesCode targets_0 stock_1 budget_2=some r):FX 18 [.im 2 false [W 2 e_S_Feature targets_0],.im 2 false [W 2 e_S_Feature stock_1],.im 2 false [I budget_2]] (B0 [(false,[.im 0 (I r)])]):=by
 unfold impl_matchesCode at h
 refine gn 26 Try.func18 rfl ?_
 refine gs<|g0 j j (q (oAsI j j)<|nl)<|us<|gs<|Go.block<|gs<|?_
 obtain ⟨x9,hx9,h⟩:=bs h
 obtain ⟨t_7_m1,hm5,h⟩:=bs h
 refine gX c18 j j j (mk [(0,D 2 (W 2 e_S_Feature targets_0)),(1,D 2 (W 2 e_S_Feature stock_1)),(2,iv budget_2),(7,bv t_7_m1)] []) ?_ ?_
 ·refine xq (oMv j j)<|xq (oCa (xs:=[.v false [.im 2 _]]) (vs:=[(false,[.im 0 _])]) (v:=.v false [.im 0 _]) (L_impl_ValidFeatures hx9) (.inl j) j kF28_27 j (ppC j pp0) j j pb0 j j j)<|xq (oUn j j j)<|xq (oMv j j)<|?_
  refine ic hm5 (fun hc1 hm5=>?_) fun hc1 hm5=>?_
  ·obtain ⟨x13,hx13,hm5⟩:=bs hm5
   cases hm5
   exact xqT j j (nF (iR.2 hc1)) (oMv j j)<|xqT j j (nF (iR.2 hc1)) (oCa (xs:=[.v false [.im 2 _]]) (vs:=[(false,[.im 0 _])]) (v:=.v false [.im 0 _]) (L_impl_ValidFeatures hx13) (.inl j) j kF28_27 j (ppC j pp0) j j pb0 j j j)<|xqT j j (nF (iR.2 hc1)) (oUn j j j)<|xq (oPkF j j (nF (iR.2 hc1)) j)<|xq (oAsI j j)<|xn
  ·cases hm5
   exact xsgF j j (nT (byF iR hc1)) j<|xsgF j j (nT (byF iR hc1)) j<|xsgF j j (nT (byF iR hc1)) j<|xq (oPkT j j (nT (byF iR hc1)) j)<|xq (oAsI j j)<|xn
 ·refine us<|gc h j iR (fun hc2 h=>?_) fun hc2 h=>?_
  ·refine gs<|g0 j j (q (oAsI j j)<|nl)<|us<|Go.ret (Unw.ret ?_)
   cases h
   exact fr rF18 j
  ·refine gs<|?_
   obtain ⟨x18,hx18,h⟩:=bs h
   refine g0 j j (q (oMv j j)<|q (oCa (xs:=[.v false [.im 0 _],.v false [.im 0 _],.v false [.im 0 _]]) (vs:=[(false,[.im 0 _])]) (v:=.v false [.im 0 _]) (L_impl_within hx18) (.inl j) j kF29_2_2_2 j (ppC j (ppC j (ppC j pp0))) j j pb0 j j j)<|q (oUn j j j)<|q (oAsI j j)<|nl)<|us<|?_
   by_cases hc3:x18=true
   ·rw [if_pos hc3] at h
    refine gF j (nF (iR.2 hc3))<|gs<|g0 j j (q (oMv j j)<|q (oLnI j j uF27 j)<|q (oMv j j)<|q (oLnI j j uF27 j)<|q (oBi j j j j)<|q (oAsI j j)<|nl)<|us<|gc h j iDec (fun hc4 h=>?_) fun hc4 h=>?_
    ·refine gs<|g0 j j (q (oAsI j j)<|nl)<|us<|Go.ret (Unw.ret ?_)
     cases h
     exact fr rF18 j
    ·refine Go.skip<|Unw.blk<|us<|gs<|g0 j j (q (oAsI j j)<|nl)<|us<|Go.ret (Unw.ret ?_)
     cases h
     exact fr rF18 j
   ·rw [if_neg hc3] at h
    refine gT j (nT (byF iR hc3))<|gs<|g0 j j (q (oAsI j j)<|nl)<|us<|Go.ret (Unw.ret ?_)
    cases h
    exact fr rF18 j
theorem L_slices_Index_int64_int64 {s_0:(List Int)} {v_1:Int} {r:Int} (h:slices_Index_int64_int64 s_0 v_1=some r):FX 36 [.im 2 false [W 1 eI s_0],.im 2 false [I v_1]] (B0 [(false,[.im 0 (I r)])]):=by
 unfold slices_Index_int64_int64 at h
 refine gn 19 Try.func36 rfl ?_
 refine gs<|g0 j j (q (oAsI j j)<|nl)<|us<|gs<|gs<|g0 j j (q (oMv j j)<|q (oLnI j j uF24 j)<|q (oMv j j)<|nl)<|us<|Go.block<|?_
 obtain ⟨o,hl,h⟩:=bs h
 refine gl c36 j _ (fun (t_8_l2:Int)=>mk [(0,D 2 (W 1 eI s_0)),(1,iv v_1),(7,iv (s_0.length:Int)),(8,iv t_8_l2)] []) (fun (o:(Unit ⊕ Int)) (p:Ex×St)=>match o with | (.inl _)=>p.1= .exit 0∧p.2.norm ([],[])=mk [] [] | (.inr r2)=>p.1= .ret∧fin Try.prog cfg 36 Try.f36 [.im 2 false [W 1 eI s_0],.im 2 false [I v_1]] p.2=some (B0 [(false,[.im 0 (I r2)])])) hl (by kernel_rfl) ?_ ?_ ?_
 ·intro o p hp e
  rcases o with u | r2<;>exact nomatch (hp.1.symm.trans e)
 ·rintro t_8_l2 o h
  unfold slices_Index_int64_int64_l2 at h
  refine gs<|g0 j j (q (oBi j j j j)<|nl)<|us<|gs<|gc h j iDec (fun hc5 h=>?_) fun hc5 h=>?_
  ·refine Go.skip<|us<|gs<|Go.block<|gs<|g0 j j (q (oMv j j)<|q (oAsI j j)<|nl)<|us<|gs<|?_
   obtain ⟨x14,hx14,h⟩:=bs h
   refine g0 j j (q (oMv j j)<|q (oMv j j)<|q (oMv j j)<|q (oIAI j hx14 sF24 j j)<|q (oLd (cs:=[.im 2 _]) j tF2 j j)<|q (oBi j j j j)<|nl)<|us<|gc h j iEq (fun hc6 h=>?_) fun hc6 h=>?_
   ·refine gs<|g0 j j (q (oMv j j)<|q (oAsI j j)<|nl)<|us<|Go.ret (Unw.ret ?_)
    cases h
    exact ⟨j,(fo rF36 j)⟩
   ·refine Go.skip<|Unw.blk<|us<|g0 j j (q (oBi j j j j)<|q (oMv j j)<|nl)<|Unw.nil<|?_
    cases h
    exact ⟨j,(by kernel_rfl)⟩
  ·refine Go.exit<|ux<|Unw.nil<|?_
   cases h
   exact ⟨j,(by kernel_rfl)⟩
 ·rintro ⟨e,st⟩ hp
  rcases o with u | r2
  ·dsimp only at h
   obtain ⟨he,hst⟩:=hp
   obtain rfl:e= .exit 0:=he
   refine Unw.blkx<|us<|gs<|g2 c36 j j hst (q (oAsI j j)<|nl)<|us<|Go.ret (Unw.ret ?_)
   cases h
   exact fr rF36 j
  ·dsimp only at h
   obtain ⟨he,hfin⟩:=hp
   obtain rfl:e= .ret:=he
   cases h
   exact Unw.ret (Fin_ret hfin)
theorem L_slices_Contains_int64_int64 {s_0:(List Int)} {v_1:Int} {r:Bool} (h:slices_Contains_int64_int64 s_0 v_1=some r):FX 30 [.im 2 false [W 1 eI s_0],.im 2 false [I v_1]] (B0 [(false,[.im 0 (V r)])]):=by
 unfold slices_Contains_int64_int64 at h
 refine gn 9 Try.func30 rfl ?_
 refine gs<|g0 j j (q (oAsI j j)<|nl)<|us<|gs<|?_
 obtain ⟨x7,hx7,h⟩:=bs h
 refine g0 j j (q (oMv j j)<|q (oMv j j)<|q (oCa (xs:=[.v false [.im 2 _],.v false [.im 2 _]]) (vs:=[(false,[.im 0 _])]) (v:=.v false [.im 0 _]) (L_slices_Index_int64_int64 hx7) (.inl j) j kF36_24_2 j (ppC j (ppC j pp0)) j j pb0 j j j)<|q (oBi j j j j)<|q (oAsI j j)<|nl)<|us<|Go.ret (Unw.ret ?_)
 cases h
 exact fr rF30 j
theorem L_impl_absolute {n_0:Int} {r:Int} (h:impl_absolute n_0=some r):FX 37 [.im 2 false [I n_0]] (B0 [(false,[.im 0 (I r)])]):=by
 unfold impl_absolute at h
 refine gn 7 Try.func37 rfl ?_
 refine gs<|g0 j j (q (oAsI j j)<|nl)<|us<|gs<|g0 j j (q (oMv j j)<|q (oMv j j)<|q (oUn j j j)<|q (oMax j j)<|q (oAsI j j)<|nl)<|us<|Go.ret (Unw.ret ?_)
 cases h
 exact fr rF37 j
theorem L_impl_featureDistance {a_0:S_Feature} {b_1:S_Feature} {r:Int} (h:impl_featureDistance a_0 b_1=some r):FX 31 [.im 2 true (u_S_Feature a_0),.im 2 true (u_S_Feature b_1)] (B0 [(false,[.im 0 (I r)])]):=by
 unfold impl_featureDistance at h
 refine gn 28 Try.func31 rfl ?_
 refine gs<|g0 j j (q (oBx j tF42 j (tkI (tkI tk0)))<|q (oBx j tF42 j (tkI (tkI tk0)))<|q (oAsI j j)<|nl)<|us<|gs<|g0 j j (q (oAsI j j)<|nl)<|us<|gs<|gs<|g0 j j (q (oFA (r':=.mp 2 0 1) j fF42_1 j j)<|q (oLd (cs:=[.im 2 _]) j tF24 j j)<|q (oLnI j j uF24 j)<|q (oMv j j)<|nl)<|us<|Go.block<|?_
 obtain ⟨o,hl,h⟩:=bs h
 refine gl c31 j _ (fun (s:(Int×Int))=>match s with | (sum_5_l3,t_11_l3)=>mk [(3,M 3),(5,iv sum_5_l3),(9,D 2 (W 1 eI a_0.Values)),(10,iv (a_0.Values.length:Int)),(11,iv t_11_l3)] [(3,Oa (G 2 (u_S_Feature b_1)))]) (fun (sum_5_e0_3:Int) (p:Ex×St)=>p.1= .exit 0∧p.2.norm ([5],[])=mk [(5,iv sum_5_e0_3)] []) hl (by kernel_rfl) ?_ ?_ ?_
 ·intro o p hp e
  exact nomatch (hp.1.symm.trans e)
 ·rintro ⟨sum_5_l3,t_11_l3⟩ o h
  unfold impl_featureDistance_l3 at h
  dsimp only at h
  refine gs<|g0 j j (q (oBi j j j j)<|nl)<|us<|gs<|gc h j iDec (fun hc3 h=>?_) fun hc3 h=>?_
  ·refine Go.skip<|us<|gs<|Go.block<|gs<|?_
   obtain ⟨x14,hx14,h⟩:=bs h
   refine g0 j j (q (oMv j j)<|q (oIAI j hx14 sF24 j j)<|q (oLd (cs:=[.im 2 _]) j tF2 j j)<|q (oAsI j j)<|q (oAsI j j)<|nl)<|us<|?_
   obtain ⟨x21,hx21,h⟩:=bs h
   obtain ⟨x24,hx24,h⟩:=bs h
   refine g0 j j (q (oMv j j)<|q (oMv j j)<|q (oFA (r':=.mp 3 0 1) j fF42_1 j j)<|q (oLd (cs:=[.im 2 _]) j tF24 j j)<|q (oMv j j)<|q (oIAI j hx21 sF24 j j)<|q (oLd (cs:=[.im 2 _]) j tF2 j j)<|q (oBi j j j j)<|q (oCa (xs:=[.v false [.im 0 _]]) (vs:=[(false,[.im 0 _])]) (v:=.v false [.im 0 _]) (L_impl_absolute hx24) (.inl j) j kF37_2 j (ppC j pp0) j j pb0 j j j)<|q (oBi j j j j)<|q (oAsI j j)<|nl)<|Unw.blk<|us<|g0 j j (q (oBi j j j j)<|q (oMv j j)<|nl)<|Unw.nil<|?_
   cases h
   exact ⟨j,(by kernel_rfl)⟩
  ·refine Go.exit<|ux<|Unw.nil<|?_
   cases h
   exact ⟨j,(by kernel_rfl)⟩
 ·rintro ⟨e,st⟩ hp
  obtain ⟨sum_5_e0_3,rfl⟩:∃y,y=o:=⟨o,rfl⟩
  obtain ⟨he,hst⟩:=hp
  obtain rfl:e= .exit 0:=he
  refine Unw.blkx<|us<|gs<|g2 c31 j j hst (q (oMv j j)<|q (oAsI j j)<|nl)<|us<|Go.ret (Unw.ret ?_)
  cases h
  exact fr rF31 j
theorem L_impl_matchSearch_run_F {self:(S_matchSearch×(List Int)×Int)→Option (Bool×S_matchSearch)} (ih:∀{s_0:S_matchSearch} {matches_1:(List Int)} {sum_2:Int} {r:(Bool×S_matchSearch)},self (s_0,matches_1,sum_2)=some r→FX 19 [.ptr true [(.imm,W 2 e_S_Feature s_0.targets),(.imm,W 2 e_S_Feature s_0.stock),(.imm,I s_0.left),(.imm,V s_0.found),(.sh,W 1 eI s_0.best),(.imm,I s_0.least)],.mv 1 (List.map eI matches_1),.im 2 false [I sum_2]] ([(false,[.im 0 (V r.1)])],[.ptr true [(.imm,W 2 e_S_Feature r.2.targets),(.imm,W 2 e_S_Feature r.2.stock),(.imm,I r.2.left),(.imm,V r.2.found),(.sh,W 1 eI r.2.best),(.imm,I r.2.least)]])) {s_0:S_matchSearch} {matches_1:(List Int)} {sum_2:Int} {r:(Bool×S_matchSearch)} (h:impl_matchSearch_run_F self s_0 matches_1 sum_2=some r):FX 19 [.ptr true [(.imm,W 2 e_S_Feature s_0.targets),(.imm,W 2 e_S_Feature s_0.stock),(.imm,I s_0.left),(.imm,V s_0.found),(.sh,W 1 eI s_0.best),(.imm,I s_0.least)],.mv 1 (List.map eI matches_1),.im 2 false [I sum_2]] ([(false,[.im 0 (V r.1)])],[.ptr true [(.imm,W 2 e_S_Feature r.2.targets),(.imm,W 2 e_S_Feature r.2.stock),(.imm,I r.2.left),(.imm,V r.2.found),(.sh,W 1 eI r.2.best),(.imm,I r.2.least)]]):=by
 unfold impl_matchSearch_run_F at h
 refine FL_goS (A:=[(0,M 0),(1,H 1 0),(2,D 2 (I sum_2))]) (B:=[(0,Od [Ct 1 (W 2 e_S_Feature s_0.targets),Ct 1 (W 2 e_S_Feature s_0.stock),C (I s_0.left),C (V s_0.found),Z (W 1 eI s_0.best),C (I s_0.least)]),(1,Oc [Z (W 1 eI matches_1)]),(2,none)]) (nt:=87) rfl rfl Try.func19 rfl rfl rfl rfl ?_
 refine gs<|g0 j j (q (oAsI j j)<|nl)<|us<|gs<|gs<|g0 j j (q (oMv j j)<|q (oLnO j j uF24 j j j (fun e=>nomatch e))<|q (oMv j j)<|q (oNl j j j)<|q (oFA (r':=.mp 0 0 0) j fF47_0 j j)<|q (oLd (cs:=[.im 1 _]) j tF27 j j)<|q (oLnI j j uF27 j)<|q (oBi j j j j)<|nl)<|us<|gc h j iEq (fun hc1 h=>?_) fun hc1 h=>?_
 ·refine gs<|g0 j j (q (oMv j j)<|q (oMv j j)<|q (oMv j j)<|q (oMv j j)<|q (oMv j j)<|q (oNl j j j)<|q (oFA (r':=.mp 0 0 3) j fF47_3 j j)<|q (oSt tF4 j j j (tkI tk0) j j j)<|q (oNl j j j)<|q (oFA (r':=.mp 0 0 4) j fF47_4 j j)<|q (oSt tF24 j j j (tkO j j tk0) j j j)<|q (oNl j j j)<|q (oFA (r':=.mp 0 0 5) j fF47_5 j j)<|q (oSt tF2 j j j (tkI tk0) j j j)<|nl)<|us<|gs<|g1 j j (mk [] [(0,Od [Ct 1 (W 2 e_S_Feature s_0.targets),Ct 1 (W 2 e_S_Feature s_0.stock),C (I s_0.left),C (V true),Z (W 1 eI matches_1),C (I sum_2)])]) (q (oAsI j j)<|nl)<|us<|Go.ret (Unw.ret ?_)
  cases h
  exact fr rF19 j
 ·refine Go.skip<|us<|gs<|gs<|g0 j j (q (oMv j j)<|q (oNl j j j)<|q (oFA (r':=.mp 0 0 1) j fF47_1 j j)<|q (oLd (cs:=[.im 1 _]) j tF27 j j)<|q (oLnI j j uF27 j)<|q (oMv j j)<|nl)<|us<|Go.block<|?_
  obtain ⟨o,hl,h⟩:=bs h
  refine gl c19 j _ (fun (s:(Int×(List S_Feature)×(List S_Feature)×Int×Bool×(List Int)×Int))=>match s with | (t_34_l5,s_o0_0_l5,s_o0_1_l5,s_o0_2_l5,s_o0_3_l5,s_o0_4_l5,s_o0_5_l5)=>mk [(0,M 0),(1,H 1 0),(2,iv sum_2),(32,D 1 (W 2 e_S_Feature s_0.stock)),(33,iv (s_0.stock.length:Int)),(34,iv t_34_l5)] [(0,Od [Ct 1 (W 2 e_S_Feature s_o0_0_l5),Ct 1 (W 2 e_S_Feature s_o0_1_l5),C (I s_o0_2_l5),C (V s_o0_3_l5),Z (W 1 eI s_o0_4_l5),C (I s_o0_5_l5)]),(1,Oc [Z (W 1 eI matches_1)])]) (fun (o:(((List S_Feature)×(List S_Feature)×Int×Bool×(List Int)×Int) ⊕ (Bool×S_matchSearch))) (p:Ex×St)=>match o with | (.inl (s_o0_0_e0_5,s_o0_1_e0_5,s_o0_2_e0_5,s_o0_3_e0_5,s_o0_4_e0_5,s_o0_5_e0_5))=>p.1= .exit 0∧p.2.norm ([],[0])=mk [] [(0,Od [Ct 1 (W 2 e_S_Feature s_o0_0_e0_5),Ct 1 (W 2 e_S_Feature s_o0_1_e0_5),C (I s_o0_2_e0_5),C (V s_o0_3_e0_5),Z (W 1 eI s_o0_4_e0_5),C (I s_o0_5_e0_5)])] | (.inr r2)=>p.1= .ret∧fin Try.prog cfg 19 Try.f19 [.ptr true [(.imm,W 2 e_S_Feature s_0.targets),(.imm,W 2 e_S_Feature s_0.stock),(.imm,I s_0.left),(.imm,V s_0.found),(.sh,W 1 eI s_0.best),(.imm,I s_0.least)],.mv 1 (List.map eI matches_1),.im 2 false [I sum_2]] p.2=some ([(false,[.im 0 (V r2.1)])],[.ptr true [(.imm,W 2 e_S_Feature r2.2.targets),(.imm,W 2 e_S_Feature r2.2.stock),(.imm,I r2.2.left),(.imm,V r2.2.found),(.sh,W 1 eI r2.2.best),(.imm,I r2.2.least)]])) hl (by kernel_rfl) ?_ ?_ ?_
  ·intro o p hp e
   rcases o with ⟨s_o0_0_e0_5,s_o0_1_e0_5,s_o0_2_e0_5,s_o0_3_e0_5,s_o0_4_e0_5,s_o0_5_e0_5⟩ | r2<;>exact nomatch (hp.1.symm.trans e)
  ·rintro ⟨t_34_l5,s_o0_0_l5,s_o0_1_l5,s_o0_2_l5,s_o0_3_l5,s_o0_4_l5,s_o0_5_l5⟩ o h
   unfold impl_matchSearch_run_l5 at h
   dsimp only at h
   refine gs<|g0 j j (q (oBi j j j j)<|nl)<|us<|gs<|gc h j iDec (fun hc14 h=>?_) fun hc14 h=>?_
   ·refine Go.skip<|us<|gs<|Go.join (fun st=>∃s_o0_0_r15,∃s_o0_1_r15,∃s_o0_2_r15,∃s_o0_3_r15,∃s_o0_4_r15,∃s_o0_5_r15,impl_matchSearch_run_k15 self t_34_l5 s_o0_0_r15 s_o0_1_r15 s_o0_2_r15 s_o0_3_r15 s_o0_4_r15 s_o0_5_r15=some o∧st.norm ([0,1,2,32,33,34],[0,1])=mk [(0,M 0),(1,H 1 0),(2,iv sum_2),(32,D 1 (W 2 e_S_Feature s_0.stock)),(33,iv (s_0.stock.length:Int)),(34,iv t_34_l5)] [(0,Od [Ct 1 (W 2 e_S_Feature s_o0_0_r15),Ct 1 (W 2 e_S_Feature s_o0_1_r15),C (I s_o0_2_r15),C (V s_o0_3_r15),Z (W 1 eI s_o0_4_r15),C (I s_o0_5_r15)]),(1,Oc [Z (W 1 eI matches_1)])]) ?_ ?_
    ·rintro st ⟨s_o0_0_r15,s_o0_1_r15,s_o0_2_r15,s_o0_3_r15,s_o0_4_r15,s_o0_5_r15,h,hst⟩
     unfold impl_matchSearch_run_k15 at h
     refine us<|g2 c19 j j hst (q (oBi j j j j)<|q (oMv j j)<|nl)<|Unw.nil<|?_
     cases h
     exact ⟨j,(by kernel_rfl)⟩
    ·intro K20
     refine Go.block<|gs<|?_
     obtain ⟨x37,hx37,h⟩:=bs h
     refine g0 j j (q (oMv j j)<|q (oIAI j hx37 sF27 j j)<|q (oLd (cs:=[.im 1 _,.im 1 _]) j tF42 j j)<|q (oAl j tF42 (tkI (tkN tk0)))<|q (oAsI j j)<|q (oSt tF42 j j j (tkI (tkI tk0)) j j j)<|nl)<|us<|gs<|gs<|?_
     obtain ⟨x41,hx41,h⟩:=bs h
     refine g1 j j (mk [(0,M 0),(1,H 1 0),(2,iv sum_2),(7,iv t_34_l5),(8,M 8),(32,D 1 (W 2 e_S_Feature s_0.stock)),(33,iv (s_0.stock.length:Int)),(34,iv t_34_l5)] [(0,Od [Ct 1 (W 2 e_S_Feature s_o0_0_l5),Ct 1 (W 2 e_S_Feature s_o0_1_l5),C (I s_o0_2_l5),C (V s_o0_3_l5),Z (W 1 eI s_o0_4_l5),C (I s_o0_5_l5)]),(1,Oc [Z (W 1 eI matches_1)]),(8,Oa (G 1 (u_S_Feature x37)))]) (q (oMv j j)<|q (oMv j j)<|q (oCa (xs:=[.v false [.own 1 0 0],.v false [.im 0 _]]) (vs:=[(false,[.im 0 _])]) (v:=.v false [.im 0 _]) (L_slices_Contains_int64_int64 hx41) (.inl j) j kF30_24_2 j (ppC j (ppC j pp0)) j j pb0 j j j)<|nl)<|us<|gc h j iR (fun hc21 h=>?_) fun hc21 h=>?_
     ·exact Go.exit<|ux<|Unw.blkx<|K20 _ ⟨s_o0_0_l5,s_o0_1_l5,s_o0_2_l5,s_o0_3_l5,s_o0_4_l5,s_o0_5_l5,h,(by kernel_rfl)⟩
     ·refine Go.skip<|us<|gs<|?_
      obtain ⟨x49,hx49,h⟩:=bs h
      obtain ⟨x52,hx52,h⟩:=bs h
      refine gd c19 j j j j (mk [(0,M 0),(1,H 1 0),(2,iv sum_2),(7,iv t_34_l5),(9,iv (w64 (sum_2+x52))),(32,D 1 (W 2 e_S_Feature s_0.stock)),(33,iv (s_0.stock.length:Int)),(34,iv t_34_l5)] [(0,Od [Ct 1 (W 2 e_S_Feature s_o0_0_l5),Ct 1 (W 2 e_S_Feature s_o0_1_l5),C (I s_o0_2_l5),C (V s_o0_3_l5),Z (W 1 eI s_o0_4_l5),C (I s_o0_5_l5)]),(1,Oc [Z (W 1 eI matches_1)])]) (t j j (oMv j j)<|t j j (oMv j j)<|t j j (oNl j j j)<|t j j (oFA (r':=.mp 0 0 0) j fF47_0 j j)<|t j j (oLd (cs:=[.im 1 _]) j tF27 j j)<|t j j (oMv j j)<|t j j (oLnO j j uF24 j j j (fun e=>nomatch e))<|t j j (oIAI j hx49 sF27 j j)<|t j j (oLd (cs:=[.im 1 _,.im 1 _]) j tF42 j j)<|t j j (oLd (cs:=[.im 0 _,.im 1 _]) j tF42 j j)<|sS (dN z19 j (oCa (xs:=[.v true [.im 1 _,.im 1 _],.v true [.im 0 _,.im 1 _]]) (vs:=[(false,[.im 0 _])]) (v:=.v false [.im 0 _]) (L_impl_featureDistance hx52) (.inl j) j kF31_42_42 j (ppC j (ppC j pp0)) j j pb0 j j j)) trivial (t j j (oBi j j j j)<|sS (dN z19 j (oAsI j j)) trivial (sD (by kernel_rfl))))<|us<|gs<|gs<|gX c19 j j j (mk [(0,M 0),(1,H 1 0),(2,iv sum_2),(7,iv t_34_l5),(9,iv (w64 (sum_2+x52))),(32,D 1 (W 2 e_S_Feature s_0.stock)),(33,iv (s_0.stock.length:Int)),(34,iv t_34_l5),(65,bv (s_o0_3_l5&&(decide ((w64 (sum_2+x52))≥s_o0_5_l5))))] [(0,Od [Ct 1 (W 2 e_S_Feature s_o0_0_l5),Ct 1 (W 2 e_S_Feature s_o0_1_l5),C (I s_o0_2_l5),C (V s_o0_3_l5),Z (W 1 eI s_o0_4_l5),C (I s_o0_5_l5)]),(1,Oc [Z (W 1 eI matches_1)])]) ?_ ?_
      ·refine xq (oMv j j)<|xq (oNl j j j)<|xq (oFA (r':=.mp 0 0 3) j fF47_3 j j)<|xq (oLd (cs:=[.im 0 _]) j tF4 j j)<|xq (oMv j j)<|?_
       by_cases hc22:s_o0_3_l5=true
       ·exact xqT rfl rfl (iR.2 hc22) (oMv rfl rfl)<|xqT rfl rfl (iR.2 hc22) (oMv rfl rfl)<|xqT rfl rfl (iR.2 hc22) (oNl rfl rfl rfl)<|xqT rfl rfl (iR.2 hc22) (oFA (r':=.mp 0 0 5) rfl fF47_5 rfl rfl)<|xqT rfl rfl (iR.2 hc22) (oLd (cs:=[.im 0 _]) rfl tF2 rfl rfl)<|xqT rfl rfl (iR.2 hc22) (oBi rfl rfl rfl rfl)<|xq (oPkT rfl rfl (iR.2 hc22) rfl)<|xn (Eq.trans (b:=(fun t_65_m9:Bool=>mk [(0,M 0),(1,H 1 0),(2,iv sum_2),(7,iv t_34_l5),(9,iv (w64 (sum_2+x52))),(32,D 1 (W 2 e_S_Feature s_0.stock)),(33,iv (s_0.stock.length:Int)),(34,iv t_34_l5),(65,bv t_65_m9)] [(0,Od [Ct 1 (W 2 e_S_Feature s_o0_0_l5),Ct 1 (W 2 e_S_Feature s_o0_1_l5),C (I s_o0_2_l5),C (V s_o0_3_l5),Z (W 1 eI s_o0_4_l5),C (I s_o0_5_l5)]),(1,Oc [Z (W 1 eI matches_1)])]) (decide ((w64 (sum_2+x52))≥s_o0_5_l5))) (by kernel_rfl) (congrArg (fun t_65_m9:Bool=>mk [(0,M 0),(1,H 1 0),(2,iv sum_2),(7,iv t_34_l5),(9,iv (w64 (sum_2+x52))),(32,D 1 (W 2 e_S_Feature s_0.stock)),(33,iv (s_0.stock.length:Int)),(34,iv t_34_l5),(65,bv t_65_m9)] [(0,Od [Ct 1 (W 2 e_S_Feature s_o0_0_l5),Ct 1 (W 2 e_S_Feature s_o0_1_l5),C (I s_o0_2_l5),C (V s_o0_3_l5),Z (W 1 eI s_o0_4_l5),C (I s_o0_5_l5)]),(1,Oc [Z (W 1 eI matches_1)])]) (by first | rfl | (simp [(iR.2 hc22)];done) | (simp [(iR.2 hc22)];omega))))
       ·exact xsgF rfl rfl (byF iR hc22) rfl<|xsgF rfl rfl (byF iR hc22) rfl<|xsgF rfl rfl (byF iR hc22) rfl<|xsgF rfl rfl (byF iR hc22) rfl<|xsgF rfl rfl (byF iR hc22) rfl<|xsgF rfl rfl (byF iR hc22) rfl<|xq (oPkF rfl rfl (byF iR hc22) rfl)<|xn (Eq.trans (b:=(fun t_65_m9:Bool=>mk [(0,M 0),(1,H 1 0),(2,iv sum_2),(7,iv t_34_l5),(9,iv (w64 (sum_2+x52))),(32,D 1 (W 2 e_S_Feature s_0.stock)),(33,iv (s_0.stock.length:Int)),(34,iv t_34_l5),(65,bv t_65_m9)] [(0,Od [Ct 1 (W 2 e_S_Feature s_o0_0_l5),Ct 1 (W 2 e_S_Feature s_o0_1_l5),C (I s_o0_2_l5),C (V s_o0_3_l5),Z (W 1 eI s_o0_4_l5),C (I s_o0_5_l5)]),(1,Oc [Z (W 1 eI matches_1)])]) false) (by kernel_rfl) (congrArg (fun t_65_m9:Bool=>mk [(0,M 0),(1,H 1 0),(2,iv sum_2),(7,iv t_34_l5),(9,iv (w64 (sum_2+x52))),(32,D 1 (W 2 e_S_Feature s_0.stock)),(33,iv (s_0.stock.length:Int)),(34,iv t_34_l5),(65,bv t_65_m9)] [(0,Od [Ct 1 (W 2 e_S_Feature s_o0_0_l5),Ct 1 (W 2 e_S_Feature s_o0_1_l5),C (I s_o0_2_l5),C (V s_o0_3_l5),Z (W 1 eI s_o0_4_l5),C (I s_o0_5_l5)]),(1,Oc [Z (W 1 eI matches_1)])]) (by first | rfl | (simp [(byF iR hc22)];done) | (simp [(byF iR hc22)];omega))))
      ·refine us<|gc h j (iAnd iR iDec) (fun hc23 h=>?_) fun hc23 h=>?_
       ·exact Go.exit<|ux<|Unw.blkx<|K20 _ ⟨s_o0_0_l5,s_o0_1_l5,s_o0_2_l5,s_o0_3_l5,s_o0_4_l5,s_o0_5_l5,h,(by kernel_rfl)⟩
       ·refine Go.skip<|us<|gs<|gs<|g0 j j (q (oMv j j)<|q (oNl j j j)<|q (oFA (r':=.mp 0 0 2) j fF47_2 j j)<|q (oLd (cs:=[.im 0 _]) j tF2 j j)<|q (oBi j j j j)<|nl)<|us<|gc h j iEq (fun hc24 h=>?_) fun hc24 h=>?_
        ·refine gs<|g0 j j (q (oAsI j j)<|nl)<|us<|Go.ret (Unw.ret ?_)
         cases h
         exact ⟨j,(fo rF19 j)⟩
        ·refine Go.skip<|us<|gs<|g0 j j (q (oMv j j)<|q (oNl j j j)<|q (oFA (r':=.mp 0 0 2) j fF47_2 j j)<|q (oLd (cs:=[.im 0 _]) j tF2 j j)<|q (oBi j j j j)<|q (oNl j j j)<|q (oFA (r':=.mp 0 0 2) j fF47_2 j j)<|q (oSt tF2 j j j (tkI tk0) j j j)<|nl)<|us<|gs<|?_
         obtain ⟨x80,hx80,h⟩:=bs h
         obtain ⟨x83,hx83,h⟩:=bs h
         obtain ⟨x85,hx85,h⟩:=bs h
         refine g1 j j (mk [(0,M 0),(1,H 1 0),(2,iv sum_2),(7,iv t_34_l5),(9,iv (w64 (sum_2+x52))),(32,D 1 (W 2 e_S_Feature s_0.stock)),(33,iv (s_0.stock.length:Int)),(34,iv t_34_l5)] [(0,Od [Ct 1 (W 2 e_S_Feature s_o0_0_l5),Ct 1 (W 2 e_S_Feature s_o0_1_l5),C (I (w64 (s_o0_2_l5 - 1))),C (V s_o0_3_l5),Z (W 1 eI s_o0_4_l5),C (I s_o0_5_l5)]),(1,Oc [Z (W 1 eI matches_1)])]) (q (oMv j j)<|q (oMv j j)<|q (oCr (xs:=[.v false [.own 1 0 0]]) (vs:=[(false,[.own 80 0 0])]) (v:=.v false [.own 80 0 0]) (c:=⟨.sh,0,_⟩) (cs:=[]) (FL_cloneN (en:=eI) (L:=matches_1) j hx80 (fun _=>j)) (.inl j) j kF32_24 j (ppC j pp0) j j pb0 j j j)<|q (oMv j j)<|q (oBS (es:=List.map eI ([t_34_l5]:List Int)) j sF24 j (ptC j (fxI fx0) j pt0) (flat0 j fun _=>j))<|q (oApO (en:=eI) (M:=([t_34_l5]:List Int)) j hx83 j sF24 j j uF24 (.inl ⟨_,j⟩) j j j j (el_own j j) (flat0 j fun _=>j))<|q (oMv j j)<|q (oCa (xs:=[.v false [.mp 0 0 0],.v false [.own 83 0 0],.v false [.im 0 _]]) (vs:=[(false,[.im 0 _])]) (v:=.v false [.im 0 _]) (ih hx85) (.inl j) j kF19_45_24_2 j (ppPx (ob':=⟨0,0,true,true,false,true,[Ct 1 (W 2 e_S_Feature s_o0_0_l5),Ct 1 (W 2 e_S_Feature s_o0_1_l5),C (I (w64 (s_o0_2_l5 - 1))),C (V s_o0_3_l5),Z (W 1 eI s_o0_4_l5),C (I s_o0_5_l5)]⟩) j j j (by kernel_rfl) (ppM (take_own j j) (ppC j pp0))) j j (pbPx (ob':=⟨0,1,true,true,false,true,[⟨.imm,1,1,W 2 e_S_Feature x85.2.targets⟩,⟨.imm,1,1,W 2 e_S_Feature x85.2.stock⟩,⟨.imm,1,0,I x85.2.left⟩,⟨.imm,1,0,V x85.2.found⟩,⟨.sh,1,0,W 1 eI x85.2.best⟩,⟨.imm,1,0,I x85.2.least⟩]⟩) j j (by kernel_rfl) pb0) j j j)<|nl)<|us<|gc h j iR (fun hc25 h=>?_) fun hc25 h=>?_
         ·refine gs<|g1 j j (mk [] [(0,Od [Ct 1 (W 2 e_S_Feature x85.2.targets),Ct 1 (W 2 e_S_Feature x85.2.stock),C (I x85.2.left),C (V x85.2.found),Z (W 1 eI x85.2.best),C (I x85.2.least)])]) (q (oAsI j j)<|nl)<|us<|Go.ret (Unw.ret ?_)
          cases h
          exact ⟨j,(fo rF19 j)⟩
         ·exact Go.skip<|Unw.blk<|K20 _ ⟨x85.2.targets,x85.2.stock,x85.2.left,x85.2.found,x85.2.best,x85.2.least,h,(by kernel_rfl)⟩
   ·refine Go.exit<|ux<|Unw.nil<|?_
    cases h
    exact ⟨j,(by kernel_rfl)⟩
  ·rintro ⟨e,st⟩ hp
   rcases o with ⟨s_o0_0_e0_5,s_o0_1_e0_5,s_o0_2_e0_5,s_o0_3_e0_5,s_o0_4_e0_5,s_o0_5_e0_5⟩ | r2
   ·dsimp only at h
    obtain ⟨he,hst⟩:=hp
    obtain rfl:e= .exit 0:=he
    refine Unw.blkx<|us<|gs<|g2 c19 j j hst (q (oAsI j j)<|nl)<|us<|Go.ret (Unw.ret ?_)
    cases h
    exact fr rF19 j
   ·dsimp only at h
    obtain ⟨he,hfin⟩:=hp
    obtain rfl:e= .ret:=he
    cases h
    exact Unw.ret (Fin_ret hfin)
theorem L_impl_matchSearch_run {s_0:S_matchSearch} {matches_1:(List Int)} {sum_2:Int} {r:(Bool×S_matchSearch)} (h:impl_matchSearch_run s_0 matches_1 sum_2=some r):FX 19 [.ptr true [(.imm,W 2 e_S_Feature s_0.targets),(.imm,W 2 e_S_Feature s_0.stock),(.imm,I s_0.left),(.imm,V s_0.found),(.sh,W 1 eI s_0.best),(.imm,I s_0.least)],.mv 1 (List.map eI matches_1),.im 2 false [I sum_2]] ([(false,[.im 0 (V r.1)])],[.ptr true [(.imm,W 2 e_S_Feature r.2.targets),(.imm,W 2 e_S_Feature r.2.stock),(.imm,I r.2.left),(.imm,V r.2.found),(.sh,W 1 eI r.2.best),(.imm,I r.2.least)]]):=by
 unfold impl_matchSearch_run at h
 obtain ⟨n,hn⟩:=fixO_iter h
 clear h
 induction n generalizing s_0 matches_1 sum_2 r with
 | zero=>cases hn
 | succ n ihn=>exact L_impl_matchSearch_run_F (self:=iterO _ n) (fun h=>ihn h) hn
theorem L_impl_BestMatches {targets_0:(List S_Feature)} {stock_1:(List S_Feature)} {budget_2:Int} {r:((List Int)×Int×Int)} (h:impl_BestMatches targets_0 stock_1 budget_2=some r):FX 7 [.im 2 false [W 2 e_S_Feature targets_0],.im 2 false [W 2 e_S_Feature stock_1],.im 2 false [I budget_2]] (B0 [(false,[.ow 0 1 (List.map eI r.1)]),(false,[.im 0 (I r.2.1)]),(false,[.im 0 (I r.2.2)])]):=by
 unfold impl_BestMatches at h
 refine gn 33 Try.func7 rfl ?_
 refine gs<|g0 j j (q (oAsN j j eF24)<|q (oAsI j j)<|q (oAsI j j)<|nl)<|us<|gs<|gs<|?_
 obtain ⟨x14,hx14,h⟩:=bs h
 refine g0 j j (q (oMv j j)<|q (oMv j j)<|q (oMv j j)<|q (oCa (xs:=[.v false [.im 2 _],.v false [.im 2 _],.v false [.im 2 _]]) (vs:=[(false,[.im 0 _])]) (v:=.v false [.im 0 _]) (L_impl_matchesCode hx14) (.inl j) j kF18_27_27_2 j (ppC j (ppC j (ppC j pp0))) j j pb0 j j j)<|q (oAsI j j)<|nl)<|us<|gs<|g0 j j (q (oMv j j)<|q (oBi j j j j)<|nl)<|us<|gc h j iNe (fun hc1 h=>?_) fun hc1 h=>?_
 ·refine gs<|g0 j j (q (oMv j j)<|q (oAsN j j eF24)<|q (oAsI j j)<|q (oAsI j j)<|nl)<|us<|Go.ret (Unw.ret ?_)
  cases h
  exact fr rF7 j
 ·refine Go.skip<|us<|gs<|g0 j j (q (oMv j j)<|q (oMv j j)<|q (oMv j j)<|q (oBu (cs:=[.im 2 _,.im 2 _,.im 2 _,.im 0 _,.nil,.im 0 _]) j bF47 j)<|q (oBx j tF47 j (tkI (tkI (tkI (tkI (tkN (tkI tk0)))))))<|q (oAsP j j)<|nl)<|us<|gs<|gs<|?_
  obtain ⟨x24,hx24,h⟩:=bs h
  refine g1 j j (mk [(10,M 22)] [(22,Oa [Ct 2 (W 2 e_S_Feature targets_0),Ct 2 (W 2 e_S_Feature stock_1),C (I budget_2),C (V false),Z (W 1 eI ([]:List Int)),C (I 0)])]) (q (oMv j j)<|q (oCa (xs:=[.v false [.mp 22 0 0],.v false [.nil],.v false [.im 0 _]]) (vs:=[(false,[.im 0 _])]) (v:=.v false [.im 0 _]) (L_impl_matchSearch_run hx24) (.inl j) j kF19_45_24_2 j (ppPx (ob':=⟨0,0,false,true,false,true,[Ct 2 (W 2 e_S_Feature targets_0),Ct 2 (W 2 e_S_Feature stock_1),C (I budget_2),C (V false),Z (W 1 eI ([]:List Int)),C (I 0)]⟩) j j j (by kernel_rfl) (ppM take_nil (ppC j pp0))) j j (pbPx (ob':=⟨0,1,false,true,false,true,[⟨.imm,1,2,W 2 e_S_Feature x24.2.targets⟩,⟨.imm,1,2,W 2 e_S_Feature x24.2.stock⟩,⟨.imm,1,0,I x24.2.left⟩,⟨.imm,1,0,V x24.2.found⟩,⟨.sh,1,0,W 1 eI x24.2.best⟩,⟨.imm,1,0,I x24.2.least⟩]⟩) j j (by kernel_rfl) pb0) j j j)<|nl)<|us<|gc h j iR (fun hc2 h=>?_) fun hc2 h=>?_
  ·refine gs<|g1 j j (mk [] []) (q (oAsN j j eF24)<|q (oAsI j j)<|q (oAsI j j)<|nl)<|us<|Go.ret (Unw.ret ?_)
   cases h
   exact fr rF7 j
  ·refine Go.skip<|us<|gs<|gd c7 j j j (st1:=mk [(10,M 22)] [(22,Oa [Ct 2 (W 2 e_S_Feature x24.2.targets),Ct 2 (W 2 e_S_Feature x24.2.stock),C (I x24.2.left),C (V x24.2.found),Z (W 1 eI x24.2.best),C (I x24.2.least)])]) (by kernel_rfl) (mk [(6,H 6 0),(7,iv x24.2.least),(8,iv 0)] [(6,Oc [Z (W 1 eI x24.2.best)])]) (t j j (oMv j j)<|t j j (oNl j j j)<|t j j (oFA (r':=.mp 22 0 4) j fF47_4 j j)<|t j j (oLd (cs:=[.own 22 0 4]) j tF24 j j)<|t j j (oMv j j)<|sF (dN z7 j (oNl j j j)) trivial (sF (dN z7 j (oFA (r':=.mp 22 0 5) j fF47_5 j j)) trivial (sF (dN z7 j (oLd (cs:=[.im 0 _]) j tF2 j j)) trivial (sS (dN z7 j (oAsO j j j j j)) trivial (sS (dN z7 j (oAsI j j)) trivial (sS (dN z7 j (oAsI j j)) trivial (sD (by kernel_rfl))))) (sS (dN z7 j (oAsO j j j j j)) trivial (t j j (oLd (cs:=[.im 0 _]) j tF2 j j)<|sS (dN z7 j (oAsI j j)) trivial (sS (dN z7 j (oAsI j j)) trivial (sD (by kernel_rfl)))))) (sS (dN z7 j (oAsO j j j j j)) trivial (t j j (oFA (r':=.mp 22 0 5) j fF47_5 j j)<|t j j (oLd (cs:=[.im 0 _]) j tF2 j j)<|sS (dN z7 j (oAsI j j)) trivial (sS (dN z7 j (oAsI j j)) trivial (sD (by kernel_rfl)))))) (sS (dN z7 j (oAsO j j j j j)) trivial (t j j (oNl j j j)<|t j j (oFA (r':=.mp 22 0 5) j fF47_5 j j)<|t j j (oLd (cs:=[.im 0 _]) j tF2 j j)<|sS (dN z7 j (oAsI j j)) trivial (sS (dN z7 j (oAsI j j)) trivial (sD (by kernel_rfl))))))<|us<|Go.ret (Unw.ret ?_)
   cases h
   exact fr rF7 j
theorem L_laws_eqInt64S {a_0:(List Int)} {b_1:(List Int)} {r:Bool} (h:laws_eqInt64S a_0 b_1=some r):FX 8 [.im 2 false [W 1 eI a_0],.im 2 false [W 1 eI b_1]] (B0 [(false,[.im 0 (V r)])]):=by
 unfold laws_eqInt64S at h
 refine gn 26 Try.func8 rfl ?_
 refine gs<|g0 j j (q (oAsI j j)<|nl)<|us<|gs<|gs<|g0 j j (q (oMv j j)<|q (oLnI j j uF24 j)<|q (oMv j j)<|q (oLnI j j uF24 j)<|q (oBi j j j j)<|nl)<|us<|gc h j iNe (fun hc1 h=>?_) fun hc1 h=>?_
 ·refine gs<|g0 j j (q (oAsI j j)<|nl)<|us<|Go.ret (Unw.ret ?_)
  cases h
  exact fr rF8 j
 ·refine Go.skip<|us<|gs<|gs<|g0 j j (q (oAsI j j)<|nl)<|us<|Go.block<|?_
  obtain ⟨o,hl,h⟩:=bs h
  refine gl c8 j _ (fun (i_5_l4:Int)=>mk [(0,D 2 (W 1 eI a_0)),(1,D 2 (W 1 eI b_1)),(5,iv i_5_l4)] []) (fun (o:(Unit ⊕ Bool)) (p:Ex×St)=>match o with | (.inl _)=>p.1= .exit 0∧p.2.norm ([],[])=mk [] [] | (.inr r2)=>p.1= .ret∧fin Try.prog cfg 8 Try.f8 [.im 2 false [W 1 eI a_0],.im 2 false [W 1 eI b_1]] p.2=some (B0 [(false,[.im 0 (V r2)])])) hl (by kernel_rfl) ?_ ?_ ?_
  ·intro o p hp e
   rcases o with u | r2<;>exact nomatch (hp.1.symm.trans e)
  ·rintro i_5_l4 o h
   unfold laws_eqInt64S_l4 at h
   refine gs<|gs<|g0 j j (q (oMv j j)<|q (oMv j j)<|q (oLnI j j uF24 j)<|q (oBi j j j j)<|nl)<|us<|gc h j iDec (fun hc6 h=>?_) fun hc6 h=>?_
   ·refine Go.skip<|us<|gs<|Go.block<|gs<|?_
    obtain ⟨x19,hx19,h⟩:=bs h
    obtain ⟨x23,hx23,h⟩:=bs h
    refine gd c8 j j j j (mk [(0,D 2 (W 1 eI a_0)),(1,D 2 (W 1 eI b_1)),(5,iv i_5_l4),(25,bv (x19 != x23))] []) (t j j (oMv j j)<|t j j (oMv j j)<|t j j (oIAI j hx19 sF24 j j)<|t j j (oLd (cs:=[.im 2 _]) j tF2 j j)<|t j j (oMv j j)<|t j j (oMv j j)<|t j j (oIAI j hx23 sF24 j j)<|t j j (oLd (cs:=[.im 2 _]) j tF2 j j)<|t j j (oBi j j j j)<|sD (by kernel_rfl))<|us<|gc h j iNe (fun hc7 h=>?_) fun hc7 h=>?_
    ·refine gs<|g0 j j (q (oAsI j j)<|nl)<|us<|Go.ret (Unw.ret ?_)
     cases h
     exact ⟨j,(fo rF8 j)⟩
    ·refine Go.skip<|Unw.blk<|us<|g0 j j (q (oMv j j)<|q (oBi j j j j)<|q (oAsI j j)<|nl)<|Unw.nil<|?_
     cases h
     exact ⟨j,(by kernel_rfl)⟩
   ·refine Go.exit<|ux<|Unw.nil<|?_
    cases h
    exact ⟨j,(by kernel_rfl)⟩
  ·rintro ⟨e,st⟩ hp
   rcases o with u | r2
   ·dsimp only at h
    obtain ⟨he,hst⟩:=hp
    obtain rfl:e= .exit 0:=he
    refine Unw.blkx<|us<|gs<|g2 c8 j j hst (q (oAsI j j)<|nl)<|us<|Go.ret (Unw.ret ?_)
    cases h
    exact fr rF8 j
   ·dsimp only at h
    obtain ⟨he,hfin⟩:=hp
    obtain rfl:e= .ret:=he
    cases h
    exact Unw.ret (Fin_ret hfin)
theorem L_laws_eqFeature {a_0:S_Feature} {b_1:S_Feature} {r:Bool} (h:laws_eqFeature a_0 b_1=some r):FX 20 [.im 2 true (u_S_Feature a_0),.im 2 true (u_S_Feature b_1)] (B0 [(false,[.im 0 (V r)])]):=by
 unfold laws_eqFeature at h
 refine gn 16 Try.func20 rfl ?_
 refine gs<|g0 j j (q (oBx j tF42 j (tkI (tkI tk0)))<|q (oBx j tF42 j (tkI (tkI tk0)))<|q (oAsI j j)<|nl)<|us<|gs<|gs<|g0 j j (q (oFA (r':=.mp 2 0 0) j fF42_0 j j)<|q (oLd (cs:=[.im 0 _]) j tF9 j j)<|q (oFA (r':=.mp 3 0 0) j fF42_0 j j)<|q (oLd (cs:=[.im 0 _]) j tF9 j j)<|q (oBi j j j j)<|nl)<|us<|gc h j (iNot iStr) (fun hc1 h=>?_) fun hc1 h=>?_
 ·refine gs<|g0 j j (q (oAsI j j)<|nl)<|us<|Go.ret (Unw.ret ?_)
  cases h
  exact fr rF20 j
 ·refine Go.skip<|us<|gs<|gs<|?_
  obtain ⟨x14,hx14,h⟩:=bs h
  refine g0 j j (q (oFA (r':=.mp 2 0 1) j fF42_1 j j)<|q (oLd (cs:=[.im 2 _]) j tF24 j j)<|q (oFA (r':=.mp 3 0 1) j fF42_1 j j)<|q (oLd (cs:=[.im 2 _]) j tF24 j j)<|q (oCa (xs:=[.v false [.im 2 _],.v false [.im 2 _]]) (vs:=[(false,[.im 0 _])]) (v:=.v false [.im 0 _]) (L_laws_eqInt64S hx14) (.inl j) j kF8_24_24 j (ppC j (ppC j pp0)) j j pb0 j j j)<|q (oUn j j j)<|nl)<|us<|?_
  by_cases hc2:x14=true
  ·rw [if_pos hc2] at h
   refine gF j (nF (iR.2 hc2))<|Go.skip<|us<|gs<|g0 j j (q (oAsI j j)<|nl)<|us<|Go.ret (Unw.ret ?_)
   cases h
   exact fr rF20 j
  ·rw [if_neg hc2] at h
   refine gT j (nT (byF iR hc2))<|gs<|g0 j j (q (oAsI j j)<|nl)<|us<|Go.ret (Unw.ret ?_)
   cases h
   exact fr rF20 j
theorem L_laws_eqFeatureS {a_0:(List S_Feature)} {b_1:(List S_Feature)} {r:Bool} (h:laws_eqFeatureS a_0 b_1=some r):FX 9 [.im 2 false [W 2 e_S_Feature a_0],.im 2 false [W 2 e_S_Feature b_1]] (B0 [(false,[.im 0 (V r)])]):=by
 unfold laws_eqFeatureS at h
 refine gn 27 Try.func9 rfl ?_
 refine gs<|g0 j j (q (oAsI j j)<|nl)<|us<|gs<|gs<|g0 j j (q (oMv j j)<|q (oLnI j j uF27 j)<|q (oMv j j)<|q (oLnI j j uF27 j)<|q (oBi j j j j)<|nl)<|us<|gc h j iNe (fun hc1 h=>?_) fun hc1 h=>?_
 ·refine gs<|g0 j j (q (oAsI j j)<|nl)<|us<|Go.ret (Unw.ret ?_)
  cases h
  exact fr rF9 j
 ·refine Go.skip<|us<|gs<|gs<|g0 j j (q (oAsI j j)<|nl)<|us<|Go.block<|?_
  obtain ⟨o,hl,h⟩:=bs h
  refine gl c9 j _ (fun (i_5_l4:Int)=>mk [(0,D 2 (W 2 e_S_Feature a_0)),(1,D 2 (W 2 e_S_Feature b_1)),(5,iv i_5_l4)] []) (fun (o:(Unit ⊕ Bool)) (p:Ex×St)=>match o with | (.inl _)=>p.1= .exit 0∧p.2.norm ([],[])=mk [] [] | (.inr r2)=>p.1= .ret∧fin Try.prog cfg 9 Try.f9 [.im 2 false [W 2 e_S_Feature a_0],.im 2 false [W 2 e_S_Feature b_1]] p.2=some (B0 [(false,[.im 0 (V r2)])])) hl (by kernel_rfl) ?_ ?_ ?_
  ·intro o p hp e
   rcases o with u | r2<;>exact nomatch (hp.1.symm.trans e)
  ·rintro i_5_l4 o h
   unfold laws_eqFeatureS_l4 at h
   refine gs<|gs<|g0 j j (q (oMv j j)<|q (oMv j j)<|q (oLnI j j uF27 j)<|q (oBi j j j j)<|nl)<|us<|gc h j iDec (fun hc6 h=>?_) fun hc6 h=>?_
   ·refine Go.skip<|us<|gs<|Go.block<|gs<|?_
    obtain ⟨x19,hx19,h⟩:=bs h
    obtain ⟨x23,hx23,h⟩:=bs h
    obtain ⟨x25,hx25,h⟩:=bs h
    refine gd c9 j j j j (mk [(0,D 2 (W 2 e_S_Feature a_0)),(1,D 2 (W 2 e_S_Feature b_1)),(5,iv i_5_l4),(26,bv (!x25))] []) (t j j (oMv j j)<|t j j (oMv j j)<|t j j (oIAI j hx19 sF27 j j)<|t j j (oLd (cs:=[.im 2 _,.im 2 _]) j tF42 j j)<|t j j (oMv j j)<|t j j (oMv j j)<|t j j (oIAI j hx23 sF27 j j)<|t j j (oLd (cs:=[.im 2 _,.im 2 _]) j tF42 j j)<|sS (dN z9 j (oCa (xs:=[.v true [.im 2 _,.im 2 _],.v true [.im 2 _,.im 2 _]]) (vs:=[(false,[.im 0 _])]) (v:=.v false [.im 0 _]) (L_laws_eqFeature hx25) (.inl j) j kF20_42_42 j (ppC j (ppC j pp0)) j j pb0 j j j)) trivial (t j j (oUn j j j)<|sD (by kernel_rfl)))<|us<|?_
    by_cases hc7:x25=true
    ·rw [if_pos hc7] at h
     refine gF j (nF (iR.2 hc7))<|Go.skip<|Unw.blk<|us<|g0 j j (q (oMv j j)<|q (oBi j j j j)<|q (oAsI j j)<|nl)<|Unw.nil<|?_
     cases h
     exact ⟨j,(by kernel_rfl)⟩
    ·rw [if_neg hc7] at h
     refine gT j (nT (byF iR hc7))<|gs<|g0 j j (q (oAsI j j)<|nl)<|us<|Go.ret (Unw.ret ?_)
     cases h
     exact ⟨j,(fo rF9 j)⟩
   ·refine Go.exit<|ux<|Unw.nil<|?_
    cases h
    exact ⟨j,(by kernel_rfl)⟩
  ·rintro ⟨e,st⟩ hp
   rcases o with u | r2
   ·dsimp only at h
    obtain ⟨he,hst⟩:=hp
    obtain rfl:e= .exit 0:=he
    refine Unw.blkx<|us<|gs<|g2 c9 j j hst (q (oAsI j j)<|nl)<|us<|Go.ret (Unw.ret ?_)
    cases h
    exact fr rF9 j
   ·dsimp only at h
    obtain ⟨he,hfin⟩:=hp
    obtain rfl:e= .ret:=he
    cases h
    exact Unw.ret (Fin_ret hfin)
theorem L_laws_markText {k_0:Int} {r:ByteArray} (h:laws_markText k_0=some r):FX 21 [.im 2 false [I k_0]] (B0 [(false,[.im 0 (Y r)])]):=by
 unfold laws_markText at h
 refine gn 20 Try.func21 rfl ?_
 refine gs<|g0 j j (q (oAsI j j)<|nl)<|us<|gs<|gs<|g0 j j (q (oMv j j)<|q (oBi j j j j)<|nl)<|us<|gc h j iDec (fun hc1 h=>?_) fun hc1 h=>?_
 ·refine gs<|g0 j j (q (oAsI j j)<|nl)<|us<|Go.ret (Unw.ret ?_)
  cases h
  exact fr rF21 j
 ·refine Go.skip<|us<|gs<|g0 j j (q (oAsI j j)<|nl)<|us<|gs<|Go.block<|?_
  obtain ⟨o,hl,h⟩:=bs h
  refine gl c21 j _ (fun (s:(Int×ByteArray))=>match s with | (k_0_l4,out_3_l4)=>mk [(0,iv k_0_l4),(3,sv out_3_l4)] []) (fun (out_3_e0_4:ByteArray) (p:Ex×St)=>p.1= .exit 0∧p.2.norm ([3],[])=mk [(3,sv out_3_e0_4)] []) hl (by kernel_rfl) ?_ ?_ ?_
  ·intro o p hp e
   exact nomatch (hp.1.symm.trans e)
  ·rintro ⟨k_0_l4,out_3_l4⟩ o h
   unfold laws_markText_l4 at h
   dsimp only at h
   refine gs<|gs<|g0 j j (q (oMv j j)<|q (oBi j j j j)<|nl)<|us<|gc h j iDec (fun hc4 h=>?_) fun hc4 h=>?_
   ·refine Go.skip<|us<|Go.block<|gs<|?_
    obtain ⟨x9,hx9,h⟩:=bs h
    obtain ⟨x15,hx15,h⟩:=bs h
    refine g0 j j (q (oMv j j)<|q (oRem j hx9 j j)<|q (oBi j j j j)<|q (oCvI j uF3 uF5 j)<|q (oBS (es:=List.map (eK .u8) ([(IntKind.wrap .u8 ((w64 (48+x9))))]:List Int)) j sF56 j (ptC j (fxI fx0) j pt0) (flat0 j fun _=>j))<|q (oCvB (l:=([(IntKind.wrap .u8 ((w64 (48+x9))))]:List Int)) j uF56 uF5 uF9 j (el_own j j))<|q (oMv j j)<|q (oCat j hx15 j j)<|q (oAsI j j)<|nl)<|us<|?_
    obtain ⟨x17,hx17,h⟩:=bs h
    refine g0 j j (q (oMv j j)<|q (oQuo j hx17 j j)<|q (oAsI j j)<|nl)<|Unw.blk<|Unw.nil<|?_
    cases h
    exact ⟨j,(by kernel_rfl)⟩
   ·refine Go.exit<|ux<|Unw.nil<|?_
    cases h
    exact ⟨j,(by kernel_rfl)⟩
  ·rintro ⟨e,st⟩ hp
   obtain ⟨out_3_e0_4,rfl⟩:∃y,y=o:=⟨o,rfl⟩
   obtain ⟨he,hst⟩:=hp
   obtain rfl:e= .exit 0:=he
   refine Unw.blkx<|us<|gs<|?_
   obtain ⟨x19,hx19,h⟩:=bs h
   refine g2 c21 j j hst (q (oMv j j)<|q (oCat j hx19 j j)<|q (oAsI j j)<|nl)<|us<|Go.ret (Unw.ret ?_)
   cases h
   exact fr rF21 j
theorem L_laws_markInt64S_ws {a_0:(List Int)} {k_1:Int} {r:Int} (h:laws_markInt64S_ws a_0 k_1=some r):FX 11 [.ws false [W 1 eI a_0],.im 2 false [I k_1]] (B0 [(false,[.im 0 (I r)])]):=by
 unfold laws_markInt64S_ws at h
 refine FL_goS (A:=[(0,.v false [.ws (W 1 eI a_0)]),(1,D 2 (I k_1))]) (B:=[(0,none),(1,none)]) (nt:=19) rfl rfl Try.func11 rfl rfl rfl rfl ?_
 refine gs<|g0 j j (q (oAsI j j)<|nl)<|us<|gs<|gs<|g0 j j (q (oAsI j j)<|nl)<|us<|Go.block<|?_
 obtain ⟨o,hl,h⟩:=bs h
 refine gl c11 j _ (fun (s:(Int×Int))=>match s with | (k_1_l2,i_5_l2)=>mk [(0,.v false [.ws (W 1 eI a_0)]),(1,iv k_1_l2),(5,iv i_5_l2)] [(0,none)]) (fun (k_1_e0_2:Int) (p:Ex×St)=>p.1= .exit 0∧p.2.norm ([1],[0])=mk [(1,iv k_1_e0_2)] [(0,none)]) hl (by kernel_rfl) ?_ ?_ ?_
 ·intro o p hp e
  exact nomatch (hp.1.symm.trans e)
 ·rintro ⟨k_1_l2,i_5_l2⟩ o h
  unfold laws_markInt64S_ws_l2 at h
  dsimp only at h
  refine gs<|gs<|g0 j j (q (oMv j j)<|q (oMv j j)<|q (oLnW j j uF24 j)<|q (oBi j j j j)<|nl)<|us<|gc h j iDec (fun hc3 h=>?_) fun hc3 h=>?_
  ·refine Go.skip<|us<|gs<|Go.block<|gs<|?_
   obtain ⟨x15,hx15,h⟩:=bs h
   refine g0 j j (q (oMv j j)<|q (oMv j j)<|q (oMv j j)<|q (oIAW j hx15 sF24 j j)<|q (oStW tF2 j j j j)<|nl)<|us<|g1 j j (mk [(0,.v false [.ws (W 1 eI a_0)]),(1,iv k_1_l2),(5,iv i_5_l2)] [(0,none)]) (q (oMv j j)<|q (oBi j j j j)<|q (oAsI j j)<|nl)<|Unw.blk<|us<|g0 j j (q (oMv j j)<|q (oBi j j j j)<|q (oAsI j j)<|nl)<|Unw.nil<|?_
   cases h
   exact ⟨j,(by kernel_rfl)⟩
  ·refine Go.exit<|ux<|Unw.nil<|?_
   cases h
   exact ⟨j,(by kernel_rfl)⟩
 ·rintro ⟨e,st⟩ hp
  obtain ⟨k_1_e0_2,rfl⟩:∃y,y=o:=⟨o,rfl⟩
  obtain ⟨he,hst⟩:=hp
  obtain rfl:e= .exit 0:=he
  refine Unw.blkx<|us<|gs<|g2 c11 j j hst (q (oMv j j)<|q (oAsI j j)<|nl)<|us<|Go.ret (Unw.ret ?_)
  cases h
  exact fr rF11 j
theorem L_laws_markFeatureS {a_0:(List S_Feature)} {k_1:Int} {r:Int} (h:laws_markFeatureS a_0 k_1=some r):FX 10 [.ws false [W 2 e_S_Feature a_0],.im 2 false [I k_1]] (B0 [(false,[.im 0 (I r)])]):=by
 unfold laws_markFeatureS at h
 refine FL_goS (A:=[(0,.v false [.ws (W 2 e_S_Feature a_0)]),(1,D 2 (I k_1))]) (B:=[(0,none),(1,none)]) (nt:=28) rfl rfl Try.func10 rfl rfl rfl rfl ?_
 refine gs<|g0 j j (q (oAsI j j)<|nl)<|us<|gs<|gs<|g0 j j (q (oAsI j j)<|nl)<|us<|Go.block<|?_
 obtain ⟨o,hl,h⟩:=bs h
 refine gl c10 j _ (fun (s:(Int×Int))=>match s with | (k_1_l2,i_5_l2)=>mk [(0,.v false [.ws (W 2 e_S_Feature a_0)]),(1,iv k_1_l2),(5,iv i_5_l2)] []) (fun (k_1_e0_2:Int) (p:Ex×St)=>p.1= .exit 0∧p.2.norm ([1],[])=mk [(1,iv k_1_e0_2)] []) hl (by kernel_rfl) ?_ ?_ ?_
 ·intro o p hp e
  exact nomatch (hp.1.symm.trans e)
 ·rintro ⟨k_1_l2,i_5_l2⟩ o h
  unfold laws_markFeatureS_l2 at h
  dsimp only at h
  refine gs<|gs<|g0 j j (q (oMv j j)<|q (oMv j j)<|q (oLnW j j uF27 j)<|q (oBi j j j j)<|nl)<|us<|gc h j iDec (fun hc3 h=>?_) fun hc3 h=>?_
  ·refine Go.skip<|us<|gs<|Go.block<|gs<|?_
   obtain ⟨x15,hx15,h⟩:=bs h
   obtain ⟨x16,hx16,h⟩:=bs h
   refine g0 j j (q (oMv j j)<|q (oMv j j)<|q (oMv j j)<|q (oCa (xs:=[.v false [.im 0 _]]) (vs:=[(false,[.im 0 _])]) (v:=.v false [.im 0 _]) (L_laws_markText hx15) (.inl j) j kF21_3 j (ppC j pp0) j j pb0 j j j)<|q (oIAW j hx16 sF27 j j)<|q (oFA (r':=.ws _) j fF42_0 j j)<|q (oStW tF9 j j j j)<|nl)<|us<|gs<|g1 j j (mk [(0,.v false [.ws (W 2 e_S_Feature a_0)]),(1,iv k_1_l2),(5,iv i_5_l2)] []) (q (oMv j j)<|q (oBi j j j j)<|q (oAsI j j)<|nl)<|us<|?_
   obtain ⟨x22,hx22,h⟩:=bs h
   obtain ⟨x26,hx26,h⟩:=bs h
   refine g0 j j (q (oMv j j)<|q (oMv j j)<|q (oIAW j hx22 sF27 j j)<|q (oFA (r':=.ws _) j fF42_1 j j)<|q (oLd (cs:=[.ws _]) j tF24 j j)<|q (oMv j j)<|q (oCa (xs:=[.v false [.ws _],.v false [.im 0 _]]) (vs:=[(false,[.im 0 _])]) (v:=.v false [.im 0 _]) (L_laws_markInt64S_ws hx26) (.inl j) j kF11_24_3 j (ppC j (ppC j pp0)) j j pb0 j j j)<|q (oAsI j j)<|nl)<|Unw.blk<|us<|g0 j j (q (oMv j j)<|q (oBi j j j j)<|q (oAsI j j)<|nl)<|Unw.nil<|?_
   cases h
   exact ⟨j,(by kernel_rfl)⟩
  ·refine Go.exit<|ux<|Unw.nil<|?_
   cases h
   exact ⟨j,(by kernel_rfl)⟩
 ·rintro ⟨e,st⟩ hp
  obtain ⟨k_1_e0_2,rfl⟩:∃y,y=o:=⟨o,rfl⟩
  obtain ⟨he,hst⟩:=hp
  obtain rfl:e= .exit 0:=he
  refine Unw.blkx<|us<|gs<|g2 c10 j j hst (q (oMv j j)<|q (oAsI j j)<|nl)<|us<|Go.ret (Unw.ret ?_)
  cases h
  exact fr rF10 j
theorem L_laws_markInt64S {a_0:(List Int)} {k_1:Int} {r:(Int×(List Int))} (h:laws_markInt64S a_0 k_1=some r):FX 11 [.ow 1 (List.map eI a_0),.im 2 false [I k_1]] ([(false,[.im 0 (I r.1)])],[.ow 1 (List.map eI r.2)]):=by
 unfold laws_markInt64S at h
 refine FL_goS (A:=[(0,H 0 0),(1,D 2 (I k_1))]) (B:=[(0,Oe [Z (W 1 eI a_0)]),(1,none)]) (nt:=19) rfl rfl Try.func11 rfl rfl rfl rfl ?_
 refine gs<|g0 j j (q (oAsI j j)<|nl)<|us<|gs<|gs<|g0 j j (q (oAsI j j)<|nl)<|us<|Go.block<|?_
 obtain ⟨o,hl,h⟩:=bs h
 refine gl c11 j _ (fun (s:(Int×Int×(List Int)))=>match s with | (k_1_l2,i_5_l2,a_o0_l2)=>mk [(0,H 0 0),(1,iv k_1_l2),(5,iv i_5_l2)] [(0,Oe [Z (W 1 eI a_o0_l2)])]) (fun (o:(Int×(List Int))) (p:Ex×St)=>match o with | (k_1_e0_2,a_o0_e0_2)=>p.1= .exit 0∧p.2.norm ([1],[0])=mk [(1,iv k_1_e0_2)] [(0,Oe [Z (W 1 eI a_o0_e0_2)])]) hl (by kernel_rfl) ?_ ?_ ?_
 ·intro o p hp e
  obtain ⟨k_1_e0_2,a_o0_e0_2⟩:=o
  exact nomatch (hp.1.symm.trans e)
 ·rintro ⟨k_1_l2,i_5_l2,a_o0_l2⟩ o h
  unfold laws_markInt64S_l2 at h
  dsimp only at h
  refine gs<|gs<|g0 j j (q (oMv j j)<|q (oMv j j)<|q (oLnO j j uF24 j j j (fun e=>nomatch e))<|q (oBi j j j j)<|nl)<|us<|gc h j iDec (fun hc3 h=>?_) fun hc3 h=>?_
  ·refine Go.skip<|us<|gs<|Go.block<|gs<|?_
   obtain ⟨x15,hx15,h⟩:=bs h
   refine g0 j j (q (oMv j j)<|q (oMv j j)<|q (oMv j j)<|q (oIAO j hx15 sF24 j j j j)<|q (oStE (v':=k_1_l2) tF2 j j j (fxI fx0) j j (rd_get hx15) j)<|nl)<|us<|g1 j j (mk [(0,H 0 0),(1,iv k_1_l2),(5,iv i_5_l2)] [(0,Oe [Z (W 1 eI (a_o0_l2.set i_5_l2.toNat k_1_l2))])]) (q (oMv j j)<|q (oBi j j j j)<|q (oAsI j j)<|nl)<|Unw.blk<|us<|g0 j j (q (oMv j j)<|q (oBi j j j j)<|q (oAsI j j)<|nl)<|Unw.nil<|?_
   cases h
   exact ⟨j,(by kernel_rfl)⟩
  ·refine Go.exit<|ux<|Unw.nil<|?_
   cases h
   exact ⟨j,(by kernel_rfl)⟩
 ·rintro ⟨e,st⟩ hp
  obtain ⟨k_1_e0_2,a_o0_e0_2⟩:=o
  dsimp only at h
  obtain ⟨he,hst⟩:=hp
  obtain rfl:e= .exit 0:=he
  refine Unw.blkx<|us<|gs<|g2 c11 j j hst (q (oMv j j)<|q (oAsI j j)<|nl)<|us<|Go.ret (Unw.ret ?_)
  cases h
  exact fr rF11 j
theorem L_laws_heldInt64S {a_0:(List Int)} {k_1:Int} {r:Int} (h:laws_heldInt64S a_0 k_1=some r):FX 12 [.im 2 false [W 1 eI a_0],.im 2 false [I k_1]] (B0 [(false,[.im 0 (I r)])]):=by
 unfold laws_heldInt64S at h
 refine gn 21 Try.func12 rfl ?_
 refine gs<|g0 j j (q (oAsI j j)<|nl)<|us<|gs<|gs<|g0 j j (q (oAsI j j)<|nl)<|us<|Go.block<|?_
 obtain ⟨o,hl,h⟩:=bs h
 refine gl c12 j _ (fun (s:(Int×Int))=>match s with | (k_1_l2,i_5_l2)=>mk [(0,D 2 (W 1 eI a_0)),(1,iv k_1_l2),(5,iv i_5_l2)] []) (fun (o:(Int ⊕ Int)) (p:Ex×St)=>match o with | (.inl k_1_e0_2)=>p.1= .exit 0∧p.2.norm ([1],[])=mk [(1,iv k_1_e0_2)] [] | (.inr r2)=>p.1= .ret∧fin Try.prog cfg 12 Try.f12 [.im 2 false [W 1 eI a_0],.im 2 false [I k_1]] p.2=some (B0 [(false,[.im 0 (I r2)])])) hl (by kernel_rfl) ?_ ?_ ?_
 ·intro o p hp e
  rcases o with k_1_e0_2 | r2<;>exact nomatch (hp.1.symm.trans e)
 ·rintro ⟨k_1_l2,i_5_l2⟩ o h
  unfold laws_heldInt64S_l2 at h
  dsimp only at h
  refine gs<|gs<|g0 j j (q (oMv j j)<|q (oMv j j)<|q (oLnI j j uF24 j)<|q (oBi j j j j)<|nl)<|us<|gc h j iDec (fun hc5 h=>?_) fun hc5 h=>?_
  ·refine Go.skip<|us<|gs<|Go.block<|gs<|gs<|?_
   obtain ⟨x14,hx14,h⟩:=bs h
   refine g0 j j (q (oMv j j)<|q (oMv j j)<|q (oIAI j hx14 sF24 j j)<|q (oLd (cs:=[.im 2 _]) j tF2 j j)<|q (oMv j j)<|q (oBi j j j j)<|nl)<|us<|gc h j iNe (fun hc6 h=>?_) fun hc6 h=>?_
   ·refine gs<|g0 j j (q (oAsI j j)<|nl)<|us<|Go.ret (Unw.ret ?_)
    cases h
    exact ⟨j,(fo rF12 j)⟩
   ·refine Go.skip<|us<|g0 j j (q (oMv j j)<|q (oBi j j j j)<|q (oAsI j j)<|nl)<|Unw.blk<|us<|g0 j j (q (oMv j j)<|q (oBi j j j j)<|q (oAsI j j)<|nl)<|Unw.nil<|?_
    cases h
    exact ⟨j,(by kernel_rfl)⟩
  ·refine Go.exit<|ux<|Unw.nil<|?_
   cases h
   exact ⟨j,(by kernel_rfl)⟩
 ·rintro ⟨e,st⟩ hp
  rcases o with k_1_e0_2 | r2
  ·dsimp only at h
   obtain ⟨he,hst⟩:=hp
   obtain rfl:e= .exit 0:=he
   refine Unw.blkx<|us<|gs<|g2 c12 j j hst (q (oMv j j)<|q (oAsI j j)<|nl)<|us<|Go.ret (Unw.ret ?_)
   cases h
   exact fr rF12 j
  ·dsimp only at h
   obtain ⟨he,hfin⟩:=hp
   obtain rfl:e= .ret:=he
   cases h
   exact Unw.ret (Fin_ret hfin)
theorem L_laws_FnExactBestMatches {aTargets_0:(List S_Feature)} {aStock_1:(List S_Feature)} {aBudget_2:Int} {r:Bool} (h:laws_FnExactBestMatches aTargets_0 aStock_1 aBudget_2=some r):FX 3 [.im 2 false [W 2 e_S_Feature aTargets_0],.im 2 false [W 2 e_S_Feature aStock_1],.im 2 false [I aBudget_2]] (B0 [(false,[.im 0 (V r)])]):=by
 unfold laws_FnExactBestMatches at h
 refine gn 145 Try.func3 rfl ?_
 refine gs<|g0 j j (q (oAsI j j)<|nl)<|us<|gs<|g0 j j (q (oAsI j j)<|nl)<|us<|gs<|?_
 obtain ⟨x24,hx24,h⟩:=bs h
 refine g0 j j (q (oMv j j)<|q (oMv j j)<|q (oCa (xs:=[.v false [.im 2 _],.v false [.im 0 _]]) (vs:=[(false,[.im 0 _])]) (v:=.v false [.im 0 _]) (L_laws_szFeatureS hx24) (.inl j) j kF4_22_3 j (ppC j (ppC j pp0)) j j pb0 j j j)<|q (oAsI j j)<|nl)<|us<|gs<|gs<|g0 j j (q (oMv j j)<|q (oBi j j j j)<|nl)<|us<|gc h j iDec (fun hc1 h=>?_) fun hc1 h=>?_
 ·refine gs<|g0 j j (q (oAsI j j)<|nl)<|us<|Go.ret (Unw.ret ?_)
  cases h
  exact fr rF3 j
 ·refine Go.skip<|us<|gs<|?_
  obtain ⟨x29,hx29,h⟩:=bs h
  refine g0 j j (q (oMv j j)<|q (oMv j j)<|q (oCa (xs:=[.v false [.im 2 _],.v false [.im 0 _]]) (vs:=[(false,[.im 0 _])]) (v:=.v false [.im 0 _]) (L_laws_szFeatureS hx29) (.inl j) j kF4_22_3 j (ppC j (ppC j pp0)) j j pb0 j j j)<|q (oAsI j j)<|nl)<|us<|gs<|gs<|g0 j j (q (oMv j j)<|q (oBi j j j j)<|nl)<|us<|gc h j iDec (fun hc2 h=>?_) fun hc2 h=>?_
  ·refine gs<|g0 j j (q (oAsI j j)<|nl)<|us<|Go.ret (Unw.ret ?_)
   cases h
   exact fr rF3 j
  ·refine Go.skip<|us<|gs<|?_
   obtain ⟨x34,hx34,h⟩:=bs h
   obtain ⟨x36,hx36,h⟩:=bs h
   obtain ⟨x38,hx38,h⟩:=bs h
   refine g0 j j (q (oMv j j)<|q (oCr (xs:=[.v false [.im 2 _]]) (vs:=[(false,[.own 34 0 0])]) (v:=.v false [.own 34 0 0]) (c:=⟨.sh,0,_⟩) (cs:=[]) (L_laws_toFeatureS hx34) (.inl j) j kF6_22 j (ppC j pp0) j j pb0 j j j)<|q (oMv j j)<|q (oCr (xs:=[.v false [.im 2 _]]) (vs:=[(false,[.own 36 0 0])]) (v:=.v false [.own 36 0 0]) (c:=⟨.sh,0,_⟩) (cs:=[]) (L_laws_toFeatureS hx36) (.inl j) j kF6_22 j (ppC j pp0) j j pb0 j j j)<|q (oMv j j)<|q (oCr (xs:=[.v false [.own 34 0 0],.v false [.own 36 0 0],.v false [.im 2 _]]) (vs:=[(false,[.own 38 0 0]),(false,[.im 0 _]),(false,[.im 0 _])]) (v:=.tup [(false,[.own 38 0 0]),(false,[.im 0 _]),(false,[.im 0 _])]) (c:=⟨.sh,0,_⟩) (cs:=[]) (L_spec_BestMatches hx38) (.inl j) j kF5_27_27_2 j (ppC j (ppC j (ppC j pp0))) j j pb0 j j j)<|q (oMvT j j)<|q (oEx j j j)<|q (oEx j j j)<|q (oEx j j j)<|q (oAsO j j j j j)<|q (oAsI j j)<|q (oAsI j j)<|nl)<|us<|gs<|?_
   obtain ⟨x43,hx43,h⟩:=bs h
   refine g0 j j (q (oMv j j)<|q (oCF (xs:=[.v false [.im 2 _]]) (vs:=[(false,[.fr _])]) (v:=.v false [.fr _]) (L_laws_toFeatureS hx43) (.inl j) j kF6_22 j (ppC j pp0) j j j j)<|q (oAsR j j)<|nl)<|us<|gs<|?_
   obtain ⟨x45,hx45,h⟩:=bs h
   refine g0 j j (q (oMv j j)<|q (oCF (xs:=[.v false [.im 2 _]]) (vs:=[(false,[.fr _])]) (v:=.v false [.fr _]) (L_laws_toFeatureS hx45) (.inl j) j kF6_22 j (ppC j pp0) j j j j)<|q (oAsR j j)<|nl)<|us<|gs<|?_
   obtain ⟨x50,hx50,h⟩:=bs h
   refine g0 j j (q (oMv j j)<|q (oMv j j)<|q (oMv j j)<|q (oCr (xs:=[.v false [.fr _],.v false [.fr _],.v false [.im 2 _]]) (vs:=[(false,[.own 50 0 0]),(false,[.im 0 _]),(false,[.im 0 _])]) (v:=.tup [(false,[.own 50 0 0]),(false,[.im 0 _]),(false,[.im 0 _])]) (c:=⟨.sh,0,_⟩) (cs:=[]) (L_impl_BestMatches hx50) (.inl j) j kF7_27_27_2 j (ppC j (ppC j (ppC j pp0))) j j pb0 j j j)<|q (oMvT j j)<|q (oEx j j j)<|q (oEx j j j)<|q (oEx j j j)<|q (oAsO j j j j j)<|q (oAsI j j)<|q (oAsI j j)<|nl)<|us<|gs<|gs<|?_
   obtain ⟨x56,hx56,h⟩:=bs h
   refine gX c3 j j j (mk [(0,D 2 (W 2 e_S_Feature aTargets_0)),(1,D 2 (W 2 e_S_Feature aStock_1)),(2,iv aBudget_2),(8,H 8 0),(9,iv x38.2.1),(10,iv x38.2.2),(11,.v false [.fr (W 2 e_S_Feature x43)]),(12,.v false [.fr (W 2 e_S_Feature x45)]),(13,H 13 0),(14,iv x50.2.1),(15,iv x50.2.2),(67,bv ((!x56)||((x50.2.1 != x38.2.1)||(x50.2.2 != x38.2.2))))] [(8,Oc [Z (W 1 eI x38.1)]),(13,Oc [Z (W 1 eI x50.1)])]) ?_ ?_
   ·refine xq (oMv j j)<|xq (oMv j j)<|xq (oCa (xs:=[.v false [.own 13 0 0],.v false [.own 8 0 0]]) (vs:=[(false,[.im 0 _])]) (v:=.v false [.im 0 _]) (L_laws_eqInt64S hx56) (.inl j) j kF8_24_24 j (ppC j (ppC j pp0)) j j pb0 j j j)<|xq (oUn j j j)<|xq (oMv j j)<|?_
    by_cases hc3:x56=true
    ·refine xqT j j (nF (iR.2 hc3)) (oMv j j)<|xqT j j (nF (iR.2 hc3)) (oMv j j)<|xqT j j (nF (iR.2 hc3)) (oBi j j j j)<|xq (oPkF j j (nF (iR.2 hc3)) j)<|xq (oMv j j)<|?_
     by_cases hc4:x50.2.1≠x38.2.1
     ·exact xsgF rfl rfl (iNe.2 hc4) rfl<|xsgF rfl rfl (iNe.2 hc4) rfl<|xsgF rfl rfl (iNe.2 hc4) rfl<|xq (oPkT rfl rfl (iNe.2 hc4) rfl)<|xn (Eq.trans (b:=(fun t_67_m12:Bool=>mk [(0,D 2 (W 2 e_S_Feature aTargets_0)),(1,D 2 (W 2 e_S_Feature aStock_1)),(2,iv aBudget_2),(8,H 8 0),(9,iv x38.2.1),(10,iv x38.2.2),(11,.v false [.fr (W 2 e_S_Feature x43)]),(12,.v false [.fr (W 2 e_S_Feature x45)]),(13,H 13 0),(14,iv x50.2.1),(15,iv x50.2.2),(67,bv t_67_m12)] [(8,Oc [Z (W 1 eI x38.1)]),(13,Oc [Z (W 1 eI x50.1)])]) true) (by kernel_rfl) (congrArg (fun t_67_m12:Bool=>mk [(0,D 2 (W 2 e_S_Feature aTargets_0)),(1,D 2 (W 2 e_S_Feature aStock_1)),(2,iv aBudget_2),(8,H 8 0),(9,iv x38.2.1),(10,iv x38.2.2),(11,.v false [.fr (W 2 e_S_Feature x43)]),(12,.v false [.fr (W 2 e_S_Feature x45)]),(13,H 13 0),(14,iv x50.2.1),(15,iv x50.2.2),(67,bv t_67_m12)] [(8,Oc [Z (W 1 eI x38.1)]),(13,Oc [Z (W 1 eI x50.1)])]) (by first | rfl | (simp [(iR.2 hc3),(iNe.2 hc4)];done) | (simp [(iR.2 hc3),(iNe.2 hc4)];omega) | (have q0:=(iR.2 hc3);have q1:=(iNe.2 hc4);simp_all))))
     ·exact xqT rfl rfl (byF iNe hc4) (oMv rfl rfl)<|xqT rfl rfl (byF iNe hc4) (oMv rfl rfl)<|xqT rfl rfl (byF iNe hc4) (oBi rfl rfl rfl rfl)<|xq (oPkF rfl rfl (byF iNe hc4) rfl)<|xn (Eq.trans (b:=(fun t_67_m12:Bool=>mk [(0,D 2 (W 2 e_S_Feature aTargets_0)),(1,D 2 (W 2 e_S_Feature aStock_1)),(2,iv aBudget_2),(8,H 8 0),(9,iv x38.2.1),(10,iv x38.2.2),(11,.v false [.fr (W 2 e_S_Feature x43)]),(12,.v false [.fr (W 2 e_S_Feature x45)]),(13,H 13 0),(14,iv x50.2.1),(15,iv x50.2.2),(67,bv t_67_m12)] [(8,Oc [Z (W 1 eI x38.1)]),(13,Oc [Z (W 1 eI x50.1)])]) (x50.2.2 != x38.2.2)) (by kernel_rfl) (congrArg (fun t_67_m12:Bool=>mk [(0,D 2 (W 2 e_S_Feature aTargets_0)),(1,D 2 (W 2 e_S_Feature aStock_1)),(2,iv aBudget_2),(8,H 8 0),(9,iv x38.2.1),(10,iv x38.2.2),(11,.v false [.fr (W 2 e_S_Feature x43)]),(12,.v false [.fr (W 2 e_S_Feature x45)]),(13,H 13 0),(14,iv x50.2.1),(15,iv x50.2.2),(67,bv t_67_m12)] [(8,Oc [Z (W 1 eI x38.1)]),(13,Oc [Z (W 1 eI x50.1)])]) (by first | rfl | (simp [(iR.2 hc3),(byF iNe hc4)];done) | (simp [(iR.2 hc3),(byF iNe hc4)];omega) | (have q0:=(iR.2 hc3);have q1:=(byF iNe hc4);simp_all))))
    ·exact xsgF rfl rfl (nT (byF iR hc3)) rfl<|xsgF rfl rfl (nT (byF iR hc3)) rfl<|xsgF rfl rfl (nT (byF iR hc3)) rfl<|xq (oPkT rfl rfl (nT (byF iR hc3)) rfl)<|xq (oMv rfl rfl)<|xsgF rfl rfl rfl rfl<|xsgF rfl rfl rfl rfl<|xsgF rfl rfl rfl rfl<|xq (oPkT rfl rfl rfl rfl)<|xn (Eq.trans (b:=(fun t_67_m12:Bool=>mk [(0,D 2 (W 2 e_S_Feature aTargets_0)),(1,D 2 (W 2 e_S_Feature aStock_1)),(2,iv aBudget_2),(8,H 8 0),(9,iv x38.2.1),(10,iv x38.2.2),(11,.v false [.fr (W 2 e_S_Feature x43)]),(12,.v false [.fr (W 2 e_S_Feature x45)]),(13,H 13 0),(14,iv x50.2.1),(15,iv x50.2.2),(67,bv t_67_m12)] [(8,Oc [Z (W 1 eI x38.1)]),(13,Oc [Z (W 1 eI x50.1)])]) true) (by kernel_rfl) (congrArg (fun t_67_m12:Bool=>mk [(0,D 2 (W 2 e_S_Feature aTargets_0)),(1,D 2 (W 2 e_S_Feature aStock_1)),(2,iv aBudget_2),(8,H 8 0),(9,iv x38.2.1),(10,iv x38.2.2),(11,.v false [.fr (W 2 e_S_Feature x43)]),(12,.v false [.fr (W 2 e_S_Feature x45)]),(13,H 13 0),(14,iv x50.2.1),(15,iv x50.2.2),(67,bv t_67_m12)] [(8,Oc [Z (W 1 eI x38.1)]),(13,Oc [Z (W 1 eI x50.1)])]) (by first | rfl | (simp [(byF iR hc3)];done) | (simp [(byF iR hc3)];omega))))
   ·refine us<|gc h j (iOr (iNot iR) (iOr iNe iNe)) (fun hc5 h=>?_) fun hc5 h=>?_
    ·refine gs<|g0 j j (q (oAsI j j)<|nl)<|us<|Go.ret (Unw.ret ?_)
     cases h
     exact fr rF3 j
    ·refine Go.skip<|us<|gs<|gs<|?_
     obtain ⟨x70,hx70,h⟩:=bs h
     obtain ⟨x71,hx71,h⟩:=bs h
     refine g0 j j (q (oMv j j)<|q (oMv j j)<|q (oCr (xs:=[.v false [.im 2 _]]) (vs:=[(false,[.own 70 0 0])]) (v:=.v false [.own 70 0 0]) (c:=⟨.sh,0,_⟩) (cs:=[]) (L_laws_toFeatureS hx70) (.inl j) j kF6_22 j (ppC j pp0) j j pb0 j j j)<|q (oCa (xs:=[.v false [.fr _],.v false [.own 70 0 0]]) (vs:=[(false,[.im 0 _])]) (v:=.v false [.im 0 _]) (L_laws_eqFeatureS hx71) (.inl j) j kF9_27_27 j (ppC j (ppC j pp0)) j j pb0 j j j)<|q (oUn j j j)<|nl)<|us<|?_
     by_cases hc6:x71=true
     ·rw [if_pos hc6] at h
      refine gF j (nF (iR.2 hc6))<|Go.skip<|us<|gs<|gs<|?_
      obtain ⟨x75,hx75,h⟩:=bs h
      obtain ⟨x76,hx76,h⟩:=bs h
      refine g0 j j (q (oMv j j)<|q (oMv j j)<|q (oCr (xs:=[.v false [.im 2 _]]) (vs:=[(false,[.own 75 0 0])]) (v:=.v false [.own 75 0 0]) (c:=⟨.sh,0,_⟩) (cs:=[]) (L_laws_toFeatureS hx75) (.inl j) j kF6_22 j (ppC j pp0) j j pb0 j j j)<|q (oCa (xs:=[.v false [.fr _],.v false [.own 75 0 0]]) (vs:=[(false,[.im 0 _])]) (v:=.v false [.im 0 _]) (L_laws_eqFeatureS hx76) (.inl j) j kF9_27_27 j (ppC j (ppC j pp0)) j j pb0 j j j)<|q (oUn j j j)<|nl)<|us<|?_
      by_cases hc7:x76=true
      ·rw [if_pos hc7] at h
       refine gF j (nF (iR.2 hc7))<|Go.skip<|us<|gs<|g0 j j (q (oAsI j j)<|nl)<|us<|gs<|?_
       obtain ⟨x80,hx80,h⟩:=bs h
       refine gS j j (mk [(0,D 2 (W 2 e_S_Feature aTargets_0)),(1,D 2 (W 2 e_S_Feature aStock_1)),(2,iv aBudget_2),(8,H 8 0),(9,iv x38.2.1),(10,iv x38.2.2),(11,.v false [.ws (W 2 e_S_Feature x43)]),(12,.v false [.ws (W 2 e_S_Feature x45)]),(13,H 13 0),(14,iv x50.2.1),(15,iv x50.2.2),(16,iv 1)] [(8,Oc [Z (W 1 eI x38.1)]),(13,Oc [Z (W 1 eI x50.1)])]) (q (oMv j j)<|q (oMv j j)<|q (oCa (xs:=[.v false [.ws _],.v false [.im 0 _]]) (vs:=[(false,[.im 0 _])]) (v:=.v false [.im 0 _]) (L_laws_markFeatureS hx80) (.inl j) j kF10_27_3 j (ppC j (ppC j pp0)) j j pb0 j j j)<|q (oAsI j j)<|nl)<|us<|gs<|?_
       obtain ⟨x83,hx83,h⟩:=bs h
       refine g0 j j (q (oMv j j)<|q (oMv j j)<|q (oCa (xs:=[.v false [.ws _],.v false [.im 0 _]]) (vs:=[(false,[.im 0 _])]) (v:=.v false [.im 0 _]) (L_laws_markFeatureS hx83) (.inl j) j kF10_27_3 j (ppC j (ppC j pp0)) j j pb0 j j j)<|q (oAsI j j)<|nl)<|us<|gs<|gs<|?_
       obtain ⟨t_101_m21,hm19,h⟩:=bs h
       refine gX c3 j j j (mk [(0,D 2 (W 2 e_S_Feature aTargets_0)),(1,D 2 (W 2 e_S_Feature aStock_1)),(2,iv aBudget_2),(8,H 8 0),(9,iv x38.2.1),(10,iv x38.2.2),(13,H 13 0),(101,bv t_101_m21)] [(8,Oc [Z (W 1 eI x38.1)]),(13,Oc [Z (W 1 eI x50.1)])]) ?_ ?_
       ·refine xq (oMv j j)<|xq (oBi j j j j)<|xq (oMv j j)<|?_
        refine ic hm19 (fun hc8 hm19=>?_) fun hc8 hm19=>?_
        ·cases hm19
         exact xsgF j j (iDec.2 hc8) j<|xsgF j j (iDec.2 hc8) j<|xsgF j j (iDec.2 hc8) j<|xsgF j j (iDec.2 hc8) j<|xq (oPkT j j (iDec.2 hc8) j)<|xq (oMv j j)<|xsgF j j j j<|xsgF j j j j<|xsgF j j j j<|xq (oPkT j j j j)<|xq (oMv j j)<|xsgF j j j j<|xsgF j j j j<|xsgF j j j j<|xq (oPkT j j j j)<|xn
        ·obtain ⟨x89,hx89,hm19⟩:=bs hm19
         refine xqT j j (byF iDec hc8) (oMv j j)<|xqT j j (byF iDec hc8) (oMv j j)<|xqT j j (byF iDec hc8) (oCa (xs:=[.v false [.own 13 0 0],.v false [.own 8 0 0]]) (vs:=[(false,[.im 0 _])]) (v:=.v false [.im 0 _]) (L_laws_eqInt64S hx89) (.inl j) j kF8_24_24 j (ppC j (ppC j pp0)) j j pb0 j j j)<|xqT j j (byF iDec hc8) (oUn j j j)<|xq (oPkF j j (byF iDec hc8) j)<|xq (oMv j j)<|?_
         refine ic hm19 (fun hc9 hm19=>?_) fun hc9 hm19=>?_
         ·refine xqT j j (nF (iR.2 hc9)) (oMv j j)<|xqT j j (nF (iR.2 hc9)) (oMv j j)<|xqT j j (nF (iR.2 hc9)) (oBi j j j j)<|xq (oPkF j j (nF (iR.2 hc9)) j)<|xq (oMv j j)<|?_
          refine ic hm19 (fun hc10 hm19=>?_) fun hc10 hm19=>?_
          ·cases hm19
           exact xsgF j j (iNe.2 hc10) j<|xsgF j j (iNe.2 hc10) j<|xsgF j j (iNe.2 hc10) j<|xq (oPkT j j (iNe.2 hc10) j)<|xn
          ·cases hm19
           exact xqT j j (byF iNe hc10) (oMv j j)<|xqT j j (byF iNe hc10) (oMv j j)<|xqT j j (byF iNe hc10) (oBi j j j j)<|xq (oPkF j j (byF iNe hc10) j)<|xn
         ·cases hm19
          exact xsgF j j (nT (byF iR hc9)) j<|xsgF j j (nT (byF iR hc9)) j<|xsgF j j (nT (byF iR hc9)) j<|xq (oPkT j j (nT (byF iR hc9)) j)<|xq (oMv j j)<|xsgF j j j j<|xsgF j j j j<|xsgF j j j j<|xq (oPkT j j j j)<|xn
       ·refine us<|gc h j iR (fun hc11 h=>?_) fun hc11 h=>?_
        ·refine gs<|g0 j j (q (oAsI j j)<|nl)<|us<|Go.ret (Unw.ret ?_)
         cases h
         exact fr rF3 j
        ·refine Go.skip<|us<|gs<|g0 j j (q (oAsI j j)<|nl)<|us<|gs<|?_
         obtain ⟨x104,hx104,h⟩:=bs h
         refine g0 j j (q (oMv j j)<|q (oMv j j)<|q (oCa (xs:=[.v false [.own 13 0 0],.v false [.im 0 _]]) (vs:=[(false,[.im 0 _])]) (v:=.v false [.im 0 _]) (L_laws_markInt64S hx104) (.inl j) j kF11_24_3 j (ppC j (ppC j pp0)) j j (pbO j j j j pb0) j j j)<|q (oAsI j j)<|nl)<|us<|gs<|g1 j j (mk [(0,D 2 (W 2 e_S_Feature aTargets_0)),(1,D 2 (W 2 e_S_Feature aStock_1)),(2,iv aBudget_2),(8,H 8 0),(9,iv x38.2.1),(10,iv x38.2.2),(13,H 13 0),(17,iv x104.1)] [(8,Oc [Z (W 1 eI x38.1)]),(13,Oc [Z (W 1 eI x104.2)])]) (q (oAsI j j)<|nl)<|us<|gs<|?_
         obtain ⟨x107,hx107,h⟩:=bs h
         refine g0 j j (q (oMv j j)<|q (oMv j j)<|q (oCa (xs:=[.v false [.own 13 0 0],.v false [.im 0 _]]) (vs:=[(false,[.im 0 _])]) (v:=.v false [.im 0 _]) (L_laws_heldInt64S hx107) (.inl j) j kF12_24_3 j (ppC j (ppC j pp0)) j j pb0 j j j)<|q (oAsI j j)<|nl)<|us<|gs<|gs<|g0 j j (q (oMv j j)<|q (oBi j j j j)<|nl)<|us<|gc h j iDec (fun hc12 h=>?_) fun hc12 h=>?_
         ·refine gs<|g0 j j (q (oAsI j j)<|nl)<|us<|Go.ret (Unw.ret ?_)
          cases h
          exact fr rF3 j
         ·refine Go.skip<|us<|gs<|gs<|g0 j j (q (oMv j j)<|q (oMv j j)<|q (oBi j j j j)<|nl)<|us<|gc h j iNe (fun hc13 h=>?_) fun hc13 h=>?_
          ·refine gs<|g0 j j (q (oAsI j j)<|nl)<|us<|Go.ret (Unw.ret ?_)
           cases h
           exact fr rF3 j
          ·refine Go.skip<|us<|gs<|?_
           obtain ⟨x115,hx115,h⟩:=bs h
           obtain ⟨x117,hx117,h⟩:=bs h
           obtain ⟨x119,hx119,h⟩:=bs h
           refine g0 j j (q (oMv j j)<|q (oCr (xs:=[.v false [.im 2 _]]) (vs:=[(false,[.own 115 0 0])]) (v:=.v false [.own 115 0 0]) (c:=⟨.sh,0,_⟩) (cs:=[]) (L_laws_toFeatureS hx115) (.inl j) j kF6_22 j (ppC j pp0) j j pb0 j j j)<|q (oMv j j)<|q (oCr (xs:=[.v false [.im 2 _]]) (vs:=[(false,[.own 117 0 0])]) (v:=.v false [.own 117 0 0]) (c:=⟨.sh,0,_⟩) (cs:=[]) (L_laws_toFeatureS hx117) (.inl j) j kF6_22 j (ppC j pp0) j j pb0 j j j)<|q (oMv j j)<|q (oCr (xs:=[.v false [.own 115 0 0],.v false [.own 117 0 0],.v false [.im 0 _]]) (vs:=[(false,[.own 119 0 0]),(false,[.im 0 _]),(false,[.im 0 _])]) (v:=.tup [(false,[.own 119 0 0]),(false,[.im 0 _]),(false,[.im 0 _])]) (c:=⟨.sh,0,_⟩) (cs:=[]) (L_impl_BestMatches hx119) (.inl j) j kF7_27_27_2 j (ppC j (ppC j (ppC j pp0))) j j pb0 j j j)<|q (oMvT j j)<|q (oEx j j j)<|q (oEx j j j)<|q (oEx j j j)<|q (oAsO j j j j j)<|q (oAsI j j)<|q (oAsI j j)<|nl)<|us<|gs<|gs<|?_
           obtain ⟨x125,hx125,h⟩:=bs h
           refine gX c3 j j j (mk [(13,H 13 0),(17,iv x104.1),(136,bv ((!x125)||((x119.2.1 != x38.2.1)||(x119.2.2 != x38.2.2))))] [(13,Oc [Z (W 1 eI x104.2)])]) ?_ ?_
           ·refine xq (oMv j j)<|xq (oMv j j)<|xq (oCa (xs:=[.v false [.own 19 0 0],.v false [.own 8 0 0]]) (vs:=[(false,[.im 0 _])]) (v:=.v false [.im 0 _]) (L_laws_eqInt64S hx125) (.inl j) j kF8_24_24 j (ppC j (ppC j pp0)) j j pb0 j j j)<|xq (oUn j j j)<|xq (oMv j j)<|?_
            by_cases hc14:x125=true
            ·refine xqT j j (nF (iR.2 hc14)) (oMv j j)<|xqT j j (nF (iR.2 hc14)) (oMv j j)<|xqT j j (nF (iR.2 hc14)) (oBi j j j j)<|xq (oPkF j j (nF (iR.2 hc14)) j)<|xq (oMv j j)<|?_
             by_cases hc15:x119.2.1≠x38.2.1
             ·exact xsgF rfl rfl (iNe.2 hc15) rfl<|xsgF rfl rfl (iNe.2 hc15) rfl<|xsgF rfl rfl (iNe.2 hc15) rfl<|xq (oPkT rfl rfl (iNe.2 hc15) rfl)<|xn (Eq.trans (b:=(fun t_136_m32:Bool=>mk [(13,H 13 0),(17,iv x104.1),(136,bv t_136_m32)] [(13,Oc [Z (W 1 eI x104.2)])]) true) (by kernel_rfl) (congrArg (fun t_136_m32:Bool=>mk [(13,H 13 0),(17,iv x104.1),(136,bv t_136_m32)] [(13,Oc [Z (W 1 eI x104.2)])]) (by first | rfl | (simp [(iR.2 hc14),(iNe.2 hc15)];done) | (simp [(iR.2 hc14),(iNe.2 hc15)];omega) | (have q0:=(iR.2 hc14);have q1:=(iNe.2 hc15);simp_all))))
             ·exact xqT rfl rfl (byF iNe hc15) (oMv rfl rfl)<|xqT rfl rfl (byF iNe hc15) (oMv rfl rfl)<|xqT rfl rfl (byF iNe hc15) (oBi rfl rfl rfl rfl)<|xq (oPkF rfl rfl (byF iNe hc15) rfl)<|xn (Eq.trans (b:=(fun t_136_m32:Bool=>mk [(13,H 13 0),(17,iv x104.1),(136,bv t_136_m32)] [(13,Oc [Z (W 1 eI x104.2)])]) (x119.2.2 != x38.2.2)) (by kernel_rfl) (congrArg (fun t_136_m32:Bool=>mk [(13,H 13 0),(17,iv x104.1),(136,bv t_136_m32)] [(13,Oc [Z (W 1 eI x104.2)])]) (by first | rfl | (simp [(iR.2 hc14),(byF iNe hc15)];done) | (simp [(iR.2 hc14),(byF iNe hc15)];omega) | (have q0:=(iR.2 hc14);have q1:=(byF iNe hc15);simp_all))))
            ·exact xsgF rfl rfl (nT (byF iR hc14)) rfl<|xsgF rfl rfl (nT (byF iR hc14)) rfl<|xsgF rfl rfl (nT (byF iR hc14)) rfl<|xq (oPkT rfl rfl (nT (byF iR hc14)) rfl)<|xq (oMv rfl rfl)<|xsgF rfl rfl rfl rfl<|xsgF rfl rfl rfl rfl<|xsgF rfl rfl rfl rfl<|xq (oPkT rfl rfl rfl rfl)<|xn (Eq.trans (b:=(fun t_136_m32:Bool=>mk [(13,H 13 0),(17,iv x104.1),(136,bv t_136_m32)] [(13,Oc [Z (W 1 eI x104.2)])]) true) (by kernel_rfl) (congrArg (fun t_136_m32:Bool=>mk [(13,H 13 0),(17,iv x104.1),(136,bv t_136_m32)] [(13,Oc [Z (W 1 eI x104.2)])]) (by first | rfl | (simp [(byF iR hc14)];done) | (simp [(byF iR hc14)];omega))))
           ·refine us<|gc h j (iOr (iNot iR) (iOr iNe iNe)) (fun hc16 h=>?_) fun hc16 h=>?_
            ·refine gs<|g0 j j (q (oAsI j j)<|nl)<|us<|Go.ret (Unw.ret ?_)
             cases h
             exact fr rF3 j
            ·refine Go.skip<|us<|gs<|g0 j j (q (oAsI j j)<|nl)<|us<|gs<|?_
             obtain ⟨x139,hx139,h⟩:=bs h
             refine g0 j j (q (oMv j j)<|q (oMv j j)<|q (oCa (xs:=[.v false [.own 13 0 0],.v false [.im 0 _]]) (vs:=[(false,[.im 0 _])]) (v:=.v false [.im 0 _]) (L_laws_heldInt64S hx139) (.inl j) j kF12_24_3 j (ppC j (ppC j pp0)) j j pb0 j j j)<|q (oAsI j j)<|nl)<|us<|gs<|gs<|g0 j j (q (oMv j j)<|q (oBi j j j j)<|nl)<|us<|gc h j iDec (fun hc17 h=>?_) fun hc17 h=>?_
             ·refine gs<|g0 j j (q (oAsI j j)<|nl)<|us<|Go.ret (Unw.ret ?_)
              cases h
              exact fr rF3 j
             ·refine Go.skip<|us<|gs<|gs<|g0 j j (q (oMv j j)<|q (oMv j j)<|q (oBi j j j j)<|nl)<|us<|gc h j iNe (fun hc18 h=>?_) fun hc18 h=>?_
              ·refine gs<|g0 j j (q (oAsI j j)<|nl)<|us<|Go.ret (Unw.ret ?_)
               cases h
               exact fr rF3 j
              ·refine Go.skip<|us<|gs<|g0 j j (q (oAsI j j)<|nl)<|us<|Go.ret (Unw.ret ?_)
               cases h
               exact fr rF3 j
      ·rw [if_neg hc7] at h
       refine gT j (nT (byF iR hc7))<|gs<|g0 j j (q (oAsI j j)<|nl)<|us<|Go.ret (Unw.ret ?_)
       cases h
       exact fr rF3 j
     ·rw [if_neg hc6] at h
      refine gT j (nT (byF iR hc6))<|gs<|g0 j j (q (oAsI j j)<|nl)<|us<|Go.ret (Unw.ret ?_)
      cases h
      exact fr rF3 j
end
end Go.Proofs.Ythdegfgajfgggaa
