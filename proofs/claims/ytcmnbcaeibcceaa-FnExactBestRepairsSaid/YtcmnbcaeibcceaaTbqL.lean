/- The machine answers, at each function of the program that is reached, what its plain function answers. Conditions: none. -/
import Derived.Test.YtcmnbcaeibcceaaProg
import Derived.KernelRfl
import Derived.Test.YtcmnbcaeibcceaaSimRs
import Derived.Test.YtcmnbcaeibcceaaTbqT
namespace Go.Proofs.Ytcmnbcaeibcceaa
open Go Go.Sim Go.Pw Go.Proofs
set_option linter.unusedVariables false
set_option linter.unusedSimpArgs false
set_option maxRecDepth 100000
set_option maxHeartbeats 4000000
noncomputable section
noncomputable abbrev u_S_Veneer (x:S_Veneer):List AV:=[Y x.Species,I x.Shade,I x.Grain]
noncomputable def e_S_Veneer (x:S_Veneer):AV:= .agg (u_S_Veneer x)
noncomputable abbrev u_S_Loss (x:S_Loss):List AV:=[Y x.Name,Y x.Veneer.Species,I x.Veneer.Shade,I x.Veneer.Grain,I x.Area,I x.Priority,I x.Cost,I x.Minutes]
noncomputable def e_S_Loss (x:S_Loss):AV:= .agg (u_S_Loss x)
noncomputable def fc3:FCfg:={par:=[.cst false,.cst false,.cst false,.cst false],inn:=[(14,some ([0,1,2,3,10,11,12,14,15,16,17],[10,14])),(18,some ([0,1,2,3,10,11,12,14,18],[10,14]))],out:=[(8,some ([0,1,2,3,10,11,12,13,14,15,16,62],[10,13,14])),(14,some ([0,1,2,3,10,11,12,14,88],[10,14])),(25,some ([14,18,123],[14]))],loopK:=[],frz:=[],sch:=[],shut:=[]}
noncomputable def fc4:FCfg:={par:=[.cst false,.cst false],inn:=[(10,some ([1],[]))],out:=[],loopK:=[(5,([0,1,5],[]))],frz:=[],sch:=[],shut:=[]}
noncomputable def fc5:FCfg:={par:=[.cst false,.cst false,.cst false,.cst false],inn:=[(6,some ([1,2,3,11],[27])),(7,some ([3,11],[27]))],out:=[(3,some ([0,1,2,3,23],[])),(9,some ([8,9,10],[8]))],loopK:=[],frz:=[],sch:=[(9,.first 0 [1,2,3,4,9,10,11] [5,6,7,8]<| .first 1 [2,3,4,9,10,11] [5,6,7,8]<| .first 2 [3,4,9,10,11] [5,6,7,8]<| .first 3 [4,9,10,11] [5,6,7,8]<| .first 5 [6,7,8,10,11] [4,9]<| .first 6 [7,8,10,11] [4,9]<| .first 7 [8,10,11] [4,9]<| .first 8 [10,11] [4,9]<| .fork 4 (.fork 9 (.fork 10 (.fork 11 (.done) (.stop)) (.stop)) (.stop)) (.stop))],shut:=[]}
noncomputable def fc6:FCfg:={par:=[.cst false],inn:=[(4,some ([0,3,4],[3])),(6,some ([3],[3]))],out:=[],loopK:=[(3,([0,3,4],[3]))],frz:=[],sch:=[],shut:=[]}
noncomputable def fc7:FCfg:={par:=[.cst false,.cst false,.cst false,.cst false],inn:=[(6,some ([],[])),(7,some ([12],[24]))],out:=[(7,some ([8,9,10],[]))],loopK:=[],frz:=[8],sch:=[(7,.fork 0 (.fork 1 (.fork 2 (.fork 3 (.fork 4 (.fork 5 (.fork 6 (.fork 7 (.fork 8 (.fork 9 (.fork 10 (.done) (.stop)) (.stop)) (.stop)) (.fork 8 (.fork 7 (.fork 9 (.fork 10 (.done) (.stop)) (.stop)) (.stop)) (.stop))) (.fork 8 (.fork 6 (.fork 7 (.fork 9 (.fork 10 (.done) (.stop)) (.stop)) (.stop)) (.stop)) (.stop))) (.fork 8 (.fork 5 (.fork 6 (.fork 7 (.fork 9 (.fork 10 (.done) (.stop)) (.stop)) (.stop)) (.stop)) (.stop)) (.stop))) (.fork 8 (.fork 4 (.fork 5 (.fork 6 (.fork 7 (.fork 9 (.fork 10 (.done) (.stop)) (.stop)) (.stop)) (.stop)) (.stop)) (.stop)) (.stop))) (.fork 4 (.fork 3 (.fork 5 (.fork 6 (.fork 7 (.fork 8 (.fork 9 (.fork 10 (.done) (.stop)) (.stop)) (.stop)) (.fork 8 (.fork 7 (.fork 9 (.fork 10 (.done) (.stop)) (.stop)) (.stop)) (.stop))) (.fork 8 (.fork 6 (.fork 7 (.fork 9 (.fork 10 (.done) (.stop)) (.stop)) (.stop)) (.stop)) (.stop))) (.fork 8 (.fork 5 (.fork 6 (.fork 7 (.fork 9 (.fork 10 (.done) (.stop)) (.stop)) (.stop)) (.stop)) (.stop)) (.stop))) (.fork 5 (.fork 3 (.fork 6 (.fork 7 (.fork 8 (.fork 9 (.fork 10 (.done) (.stop)) (.stop)) (.stop)) (.fork 8 (.fork 7 (.fork 9 (.fork 10 (.done) (.stop)) (.stop)) (.stop)) (.stop))) (.fork 8 (.fork 6 (.fork 7 (.fork 9 (.fork 10 (.done) (.stop)) (.stop)) (.stop)) (.stop)) (.stop))) (.fork 6 (.fork 3 (.fork 7 (.fork 8 (.fork 9 (.fork 10 (.done) (.stop)) (.stop)) (.stop)) (.fork 8 (.fork 7 (.fork 9 (.fork 10 (.done) (.stop)) (.stop)) (.stop)) (.stop))) (.fork 7 (.fork 3 (.fork 8 (.fork 9 (.fork 10 (.done) (.stop)) (.stop)) (.stop)) (.stop)) (.stop))) (.stop))) (.stop))) (.stop))) (.fork 4 (.fork 2 (.fork 3 (.fork 5 (.fork 6 (.fork 7 (.fork 8 (.fork 9 (.fork 10 (.done) (.stop)) (.stop)) (.stop)) (.fork 8 (.fork 7 (.fork 9 (.fork 10 (.done) (.stop)) (.stop)) (.stop)) (.stop))) (.fork 8 (.fork 6 (.fork 7 (.fork 9 (.fork 10 (.done) (.stop)) (.stop)) (.stop)) (.stop)) (.stop))) (.fork 8 (.fork 5 (.fork 6 (.fork 7 (.fork 9 (.fork 10 (.done) (.stop)) (.stop)) (.stop)) (.stop)) (.stop)) (.stop))) (.fork 5 (.fork 3 (.fork 6 (.fork 7 (.fork 8 (.fork 9 (.fork 10 (.done) (.stop)) (.stop)) (.stop)) (.fork 8 (.fork 7 (.fork 9 (.fork 10 (.done) (.stop)) (.stop)) (.stop)) (.stop))) (.fork 8 (.fork 6 (.fork 7 (.fork 9 (.fork 10 (.done) (.stop)) (.stop)) (.stop)) (.stop)) (.stop))) (.fork 6 (.fork 3 (.fork 7 (.fork 8 (.fork 9 (.fork 10 (.done) (.stop)) (.stop)) (.stop)) (.fork 8 (.fork 7 (.fork 9 (.fork 10 (.done) (.stop)) (.stop)) (.stop)) (.stop))) (.fork 7 (.fork 3 (.fork 8 (.fork 9 (.fork 10 (.done) (.stop)) (.stop)) (.stop)) (.stop)) (.stop))) (.stop))) (.stop))) (.fork 5 (.fork 2 (.fork 3 (.fork 6 (.fork 7 (.fork 8 (.fork 9 (.fork 10 (.done) (.stop)) (.stop)) (.stop)) (.fork 8 (.fork 7 (.fork 9 (.fork 10 (.done) (.stop)) (.stop)) (.stop)) (.stop))) (.fork 8 (.fork 6 (.fork 7 (.fork 9 (.fork 10 (.done) (.stop)) (.stop)) (.stop)) (.stop)) (.stop))) (.fork 6 (.fork 3 (.fork 7 (.fork 8 (.fork 9 (.fork 10 (.done) (.stop)) (.stop)) (.stop)) (.fork 8 (.fork 7 (.fork 9 (.fork 10 (.done) (.stop)) (.stop)) (.stop)) (.stop))) (.fork 7 (.fork 3 (.fork 8 (.fork 9 (.fork 10 (.done) (.stop)) (.stop)) (.stop)) (.stop)) (.stop))) (.stop))) (.fork 6 (.fork 2 (.fork 3 (.fork 7 (.fork 8 (.fork 9 (.fork 10 (.done) (.stop)) (.stop)) (.stop)) (.fork 8 (.fork 7 (.fork 9 (.fork 10 (.done) (.stop)) (.stop)) (.stop)) (.stop))) (.fork 7 (.fork 3 (.fork 8 (.fork 9 (.fork 10 (.done) (.stop)) (.stop)) (.stop)) (.stop)) (.stop))) (.fork 7 (.fork 2 (.fork 3 (.fork 8 (.fork 9 (.fork 10 (.done) (.stop)) (.stop)) (.stop)) (.stop)) (.stop)) (.stop))) (.stop))) (.stop))) (.stop))) (.fork 4 (.fork 1 (.fork 2 (.fork 3 (.fork 5 (.fork 6 (.fork 7 (.fork 8 (.fork 9 (.fork 10 (.done) (.stop)) (.stop)) (.stop)) (.fork 8 (.fork 7 (.fork 9 (.fork 10 (.done) (.stop)) (.stop)) (.stop)) (.stop))) (.fork 8 (.fork 6 (.fork 7 (.fork 9 (.fork 10 (.done) (.stop)) (.stop)) (.stop)) (.stop)) (.stop))) (.fork 8 (.fork 5 (.fork 6 (.fork 7 (.fork 9 (.fork 10 (.done) (.stop)) (.stop)) (.stop)) (.stop)) (.stop)) (.stop))) (.fork 5 (.fork 3 (.fork 6 (.fork 7 (.fork 8 (.fork 9 (.fork 10 (.done) (.stop)) (.stop)) (.stop)) (.fork 8 (.fork 7 (.fork 9 (.fork 10 (.done) (.stop)) (.stop)) (.stop)) (.stop))) (.fork 8 (.fork 6 (.fork 7 (.fork 9 (.fork 10 (.done) (.stop)) (.stop)) (.stop)) (.stop)) (.stop))) (.fork 6 (.fork 3 (.fork 7 (.fork 8 (.fork 9 (.fork 10 (.done) (.stop)) (.stop)) (.stop)) (.fork 8 (.fork 7 (.fork 9 (.fork 10 (.done) (.stop)) (.stop)) (.stop)) (.stop))) (.fork 7 (.fork 3 (.fork 8 (.fork 9 (.fork 10 (.done) (.stop)) (.stop)) (.stop)) (.stop)) (.stop))) (.stop))) (.stop))) (.fork 5 (.fork 2 (.fork 3 (.fork 6 (.fork 7 (.fork 8 (.fork 9 (.fork 10 (.done) (.stop)) (.stop)) (.stop)) (.fork 8 (.fork 7 (.fork 9 (.fork 10 (.done) (.stop)) (.stop)) (.stop)) (.stop))) (.fork 8 (.fork 6 (.fork 7 (.fork 9 (.fork 10 (.done) (.stop)) (.stop)) (.stop)) (.stop)) (.stop))) (.fork 6 (.fork 3 (.fork 7 (.fork 8 (.fork 9 (.fork 10 (.done) (.stop)) (.stop)) (.stop)) (.fork 8 (.fork 7 (.fork 9 (.fork 10 (.done) (.stop)) (.stop)) (.stop)) (.stop))) (.fork 7 (.fork 3 (.fork 8 (.fork 9 (.fork 10 (.done) (.stop)) (.stop)) (.stop)) (.stop)) (.stop))) (.stop))) (.fork 6 (.fork 2 (.fork 3 (.fork 7 (.fork 8 (.fork 9 (.fork 10 (.done) (.stop)) (.stop)) (.stop)) (.fork 8 (.fork 7 (.fork 9 (.fork 10 (.done) (.stop)) (.stop)) (.stop)) (.stop))) (.fork 7 (.fork 3 (.fork 8 (.fork 9 (.fork 10 (.done) (.stop)) (.stop)) (.stop)) (.stop)) (.stop))) (.fork 7 (.fork 2 (.fork 3 (.fork 8 (.fork 9 (.fork 10 (.done) (.stop)) (.stop)) (.stop)) (.stop)) (.stop)) (.stop))) (.stop))) (.stop))) (.fork 5 (.fork 1 (.fork 2 (.fork 3 (.fork 6 (.fork 7 (.fork 8 (.fork 9 (.fork 10 (.done) (.stop)) (.stop)) (.stop)) (.fork 8 (.fork 7 (.fork 9 (.fork 10 (.done) (.stop)) (.stop)) (.stop)) (.stop))) (.fork 8 (.fork 6 (.fork 7 (.fork 9 (.fork 10 (.done) (.stop)) (.stop)) (.stop)) (.stop)) (.stop))) (.fork 6 (.fork 3 (.fork 7 (.fork 8 (.fork 9 (.fork 10 (.done) (.stop)) (.stop)) (.stop)) (.fork 8 (.fork 7 (.fork 9 (.fork 10 (.done) (.stop)) (.stop)) (.stop)) (.stop))) (.fork 7 (.fork 3 (.fork 8 (.fork 9 (.fork 10 (.done) (.stop)) (.stop)) (.stop)) (.stop)) (.stop))) (.stop))) (.fork 6 (.fork 2 (.fork 3 (.fork 7 (.fork 8 (.fork 9 (.fork 10 (.done) (.stop)) (.stop)) (.stop)) (.fork 8 (.fork 7 (.fork 9 (.fork 10 (.done) (.stop)) (.stop)) (.stop)) (.stop))) (.fork 7 (.fork 3 (.fork 8 (.fork 9 (.fork 10 (.done) (.stop)) (.stop)) (.stop)) (.stop)) (.stop))) (.fork 7 (.fork 2 (.fork 3 (.fork 8 (.fork 9 (.fork 10 (.done) (.stop)) (.stop)) (.stop)) (.stop)) (.stop)) (.stop))) (.stop))) (.fork 6 (.fork 1 (.fork 2 (.fork 3 (.fork 7 (.fork 8 (.fork 9 (.fork 10 (.done) (.stop)) (.stop)) (.stop)) (.fork 8 (.fork 7 (.fork 9 (.fork 10 (.done) (.stop)) (.stop)) (.stop)) (.stop))) (.fork 7 (.fork 3 (.fork 8 (.fork 9 (.fork 10 (.done) (.stop)) (.stop)) (.stop)) (.stop)) (.stop))) (.fork 7 (.fork 2 (.fork 3 (.fork 8 (.fork 9 (.fork 10 (.done) (.stop)) (.stop)) (.stop)) (.stop)) (.stop)) (.stop))) (.fork 7 (.fork 1 (.fork 2 (.fork 3 (.fork 8 (.fork 9 (.fork 10 (.done) (.stop)) (.stop)) (.stop)) (.stop)) (.stop)) (.stop)) (.stop))) (.stop))) (.stop))) (.stop))) (.fork 4 (.fork 0 (.fork 1 (.fork 2 (.fork 3 (.fork 5 (.fork 6 (.fork 7 (.fork 8 (.fork 9 (.fork 10 (.done) (.stop)) (.stop)) (.stop)) (.fork 8 (.fork 7 (.fork 9 (.fork 10 (.done) (.stop)) (.stop)) (.stop)) (.stop))) (.fork 8 (.fork 6 (.fork 7 (.fork 9 (.fork 10 (.done) (.stop)) (.stop)) (.stop)) (.stop)) (.stop))) (.fork 8 (.fork 5 (.fork 6 (.fork 7 (.fork 9 (.fork 10 (.done) (.stop)) (.stop)) (.stop)) (.stop)) (.stop)) (.stop))) (.fork 5 (.fork 3 (.fork 6 (.fork 7 (.fork 8 (.fork 9 (.fork 10 (.done) (.stop)) (.stop)) (.stop)) (.fork 8 (.fork 7 (.fork 9 (.fork 10 (.done) (.stop)) (.stop)) (.stop)) (.stop))) (.fork 8 (.fork 6 (.fork 7 (.fork 9 (.fork 10 (.done) (.stop)) (.stop)) (.stop)) (.stop)) (.stop))) (.fork 6 (.fork 3 (.fork 7 (.fork 8 (.fork 9 (.fork 10 (.done) (.stop)) (.stop)) (.stop)) (.fork 8 (.fork 7 (.fork 9 (.fork 10 (.done) (.stop)) (.stop)) (.stop)) (.stop))) (.fork 7 (.fork 3 (.fork 8 (.fork 9 (.fork 10 (.done) (.stop)) (.stop)) (.stop)) (.stop)) (.stop))) (.stop))) (.stop))) (.fork 5 (.fork 2 (.fork 3 (.fork 6 (.fork 7 (.fork 8 (.fork 9 (.fork 10 (.done) (.stop)) (.stop)) (.stop)) (.fork 8 (.fork 7 (.fork 9 (.fork 10 (.done) (.stop)) (.stop)) (.stop)) (.stop))) (.fork 8 (.fork 6 (.fork 7 (.fork 9 (.fork 10 (.done) (.stop)) (.stop)) (.stop)) (.stop)) (.stop))) (.fork 6 (.fork 3 (.fork 7 (.fork 8 (.fork 9 (.fork 10 (.done) (.stop)) (.stop)) (.stop)) (.fork 8 (.fork 7 (.fork 9 (.fork 10 (.done) (.stop)) (.stop)) (.stop)) (.stop))) (.fork 7 (.fork 3 (.fork 8 (.fork 9 (.fork 10 (.done) (.stop)) (.stop)) (.stop)) (.stop)) (.stop))) (.stop))) (.fork 6 (.fork 2 (.fork 3 (.fork 7 (.fork 8 (.fork 9 (.fork 10 (.done) (.stop)) (.stop)) (.stop)) (.fork 8 (.fork 7 (.fork 9 (.fork 10 (.done) (.stop)) (.stop)) (.stop)) (.stop))) (.fork 7 (.fork 3 (.fork 8 (.fork 9 (.fork 10 (.done) (.stop)) (.stop)) (.stop)) (.stop)) (.stop))) (.fork 7 (.fork 2 (.fork 3 (.fork 8 (.fork 9 (.fork 10 (.done) (.stop)) (.stop)) (.stop)) (.stop)) (.stop)) (.stop))) (.stop))) (.stop))) (.fork 5 (.fork 1 (.fork 2 (.fork 3 (.fork 6 (.fork 7 (.fork 8 (.fork 9 (.fork 10 (.done) (.stop)) (.stop)) (.stop)) (.fork 8 (.fork 7 (.fork 9 (.fork 10 (.done) (.stop)) (.stop)) (.stop)) (.stop))) (.fork 8 (.fork 6 (.fork 7 (.fork 9 (.fork 10 (.done) (.stop)) (.stop)) (.stop)) (.stop)) (.stop))) (.fork 6 (.fork 3 (.fork 7 (.fork 8 (.fork 9 (.fork 10 (.done) (.stop)) (.stop)) (.stop)) (.fork 8 (.fork 7 (.fork 9 (.fork 10 (.done) (.stop)) (.stop)) (.stop)) (.stop))) (.fork 7 (.fork 3 (.fork 8 (.fork 9 (.fork 10 (.done) (.stop)) (.stop)) (.stop)) (.stop)) (.stop))) (.stop))) (.fork 6 (.fork 2 (.fork 3 (.fork 7 (.fork 8 (.fork 9 (.fork 10 (.done) (.stop)) (.stop)) (.stop)) (.fork 8 (.fork 7 (.fork 9 (.fork 10 (.done) (.stop)) (.stop)) (.stop)) (.stop))) (.fork 7 (.fork 3 (.fork 8 (.fork 9 (.fork 10 (.done) (.stop)) (.stop)) (.stop)) (.stop)) (.stop))) (.fork 7 (.fork 2 (.fork 3 (.fork 8 (.fork 9 (.fork 10 (.done) (.stop)) (.stop)) (.stop)) (.stop)) (.stop)) (.stop))) (.stop))) (.fork 6 (.fork 1 (.fork 2 (.fork 3 (.fork 7 (.fork 8 (.fork 9 (.fork 10 (.done) (.stop)) (.stop)) (.stop)) (.fork 8 (.fork 7 (.fork 9 (.fork 10 (.done) (.stop)) (.stop)) (.stop)) (.stop))) (.fork 7 (.fork 3 (.fork 8 (.fork 9 (.fork 10 (.done) (.stop)) (.stop)) (.stop)) (.stop)) (.stop))) (.fork 7 (.fork 2 (.fork 3 (.fork 8 (.fork 9 (.fork 10 (.done) (.stop)) (.stop)) (.stop)) (.stop)) (.stop)) (.stop))) (.fork 7 (.fork 1 (.fork 2 (.fork 3 (.fork 8 (.fork 9 (.fork 10 (.done) (.stop)) (.stop)) (.stop)) (.stop)) (.stop)) (.stop)) (.stop))) (.stop))) (.stop))) (.fork 5 (.fork 0 (.fork 1 (.fork 2 (.fork 3 (.fork 6 (.fork 7 (.fork 8 (.fork 9 (.fork 10 (.done) (.stop)) (.stop)) (.stop)) (.fork 8 (.fork 7 (.fork 9 (.fork 10 (.done) (.stop)) (.stop)) (.stop)) (.stop))) (.fork 8 (.fork 6 (.fork 7 (.fork 9 (.fork 10 (.done) (.stop)) (.stop)) (.stop)) (.stop)) (.stop))) (.fork 6 (.fork 3 (.fork 7 (.fork 8 (.fork 9 (.fork 10 (.done) (.stop)) (.stop)) (.stop)) (.fork 8 (.fork 7 (.fork 9 (.fork 10 (.done) (.stop)) (.stop)) (.stop)) (.stop))) (.fork 7 (.fork 3 (.fork 8 (.fork 9 (.fork 10 (.done) (.stop)) (.stop)) (.stop)) (.stop)) (.stop))) (.stop))) (.fork 6 (.fork 2 (.fork 3 (.fork 7 (.fork 8 (.fork 9 (.fork 10 (.done) (.stop)) (.stop)) (.stop)) (.fork 8 (.fork 7 (.fork 9 (.fork 10 (.done) (.stop)) (.stop)) (.stop)) (.stop))) (.fork 7 (.fork 3 (.fork 8 (.fork 9 (.fork 10 (.done) (.stop)) (.stop)) (.stop)) (.stop)) (.stop))) (.fork 7 (.fork 2 (.fork 3 (.fork 8 (.fork 9 (.fork 10 (.done) (.stop)) (.stop)) (.stop)) (.stop)) (.stop)) (.stop))) (.stop))) (.fork 6 (.fork 1 (.fork 2 (.fork 3 (.fork 7 (.fork 8 (.fork 9 (.fork 10 (.done) (.stop)) (.stop)) (.stop)) (.fork 8 (.fork 7 (.fork 9 (.fork 10 (.done) (.stop)) (.stop)) (.stop)) (.stop))) (.fork 7 (.fork 3 (.fork 8 (.fork 9 (.fork 10 (.done) (.stop)) (.stop)) (.stop)) (.stop)) (.stop))) (.fork 7 (.fork 2 (.fork 3 (.fork 8 (.fork 9 (.fork 10 (.done) (.stop)) (.stop)) (.stop)) (.stop)) (.stop)) (.stop))) (.fork 7 (.fork 1 (.fork 2 (.fork 3 (.fork 8 (.fork 9 (.fork 10 (.done) (.stop)) (.stop)) (.stop)) (.stop)) (.stop)) (.stop)) (.stop))) (.stop))) (.fork 6 (.fork 0 (.fork 1 (.fork 2 (.fork 3 (.fork 7 (.fork 8 (.fork 9 (.fork 10 (.done) (.stop)) (.stop)) (.stop)) (.fork 8 (.fork 7 (.fork 9 (.fork 10 (.done) (.stop)) (.stop)) (.stop)) (.stop))) (.fork 7 (.fork 3 (.fork 8 (.fork 9 (.fork 10 (.done) (.stop)) (.stop)) (.stop)) (.stop)) (.stop))) (.fork 7 (.fork 2 (.fork 3 (.fork 8 (.fork 9 (.fork 10 (.done) (.stop)) (.stop)) (.stop)) (.stop)) (.stop)) (.stop))) (.fork 7 (.fork 1 (.fork 2 (.fork 3 (.fork 8 (.fork 9 (.fork 10 (.done) (.stop)) (.stop)) (.stop)) (.stop)) (.stop)) (.stop)) (.stop))) (.fork 7 (.fork 0 (.fork 1 (.fork 2 (.fork 3 (.fork 8 (.fork 9 (.fork 10 (.done) (.stop)) (.stop)) (.stop)) (.stop)) (.stop)) (.stop)) (.stop)) (.stop))) (.stop))) (.stop))) (.stop)))],shut:=[]}
noncomputable def fc8:FCfg:={par:=[.cst false,.cst false],inn:=[(8,some ([],[]))],out:=[(6,some ([0,1,5,25],[]))],loopK:=[(4,([0,1,5],[]))],frz:=[],sch:=[(6,.first 0 [2,3,8] [1,4,5,6,7]<| .first 1 [2,3,8] [4,5,6,7]<| .first 2 [3,8] [4,5,6,7]<| .first 3 [8] [4,5,6,7]<| .first 4 [6,7,8] [5]<| .first 5 [6,7,8] []<| .first 6 [7,8] []<| .first 7 [8] []<| .first 8 [] []<| .done)],shut:=[]}
noncomputable def fc9:FCfg:={par:=[.cst false,.cst false],inn:=[(8,some ([],[]))],out:=[(6,some ([0,1,5,26],[]))],loopK:=[(4,([0,1,5],[]))],frz:=[],sch:=[(6,.first 0 [2,3,8,9] [1,4,5,6,7]<| .first 1 [2,3,8,9] [4,5,6,7]<| .first 2 [3,8,9] [4,5,6,7]<| .first 3 [8,9] [4,5,6,7]<| .first 4 [6,7,8,9] [5]<| .first 5 [6,7,8,9] []<| .first 6 [7,8,9] []<| .first 7 [8,9] []<| .fork 8 (.first 9 [] []<| .done) (.stop))],shut:=[]}
noncomputable def fc10:FCfg:={par:=[.row,.cst false],inn:=[(5,some ([0,1,5],[0])),(7,some ([0,1,5],[0])),(9,some ([0,1,5],[0])),(11,some ([0,1,5],[0])),(13,some ([0,1,5],[0])),(15,some ([0,1,5],[0])),(17,some ([0,1,5],[0])),(19,some ([0,1,5],[0])),(20,some ([1],[0]))],out:=[],loopK:=[(2,([0,1,5],[0]))],frz:=[],sch:=[],shut:=[]}
noncomputable def fc11:FCfg:={par:=[.row,.cst false],inn:=[(5,some ([0,1,5],[0])),(6,some ([1],[0]))],out:=[],loopK:=[(2,([0,1,5],[0]))],frz:=[],sch:=[],shut:=[]}
noncomputable def fc12:FCfg:={par:=[.cst false,.cst false],inn:=[(7,some ([1],[]))],out:=[],loopK:=[(2,([0,1,5],[]))],frz:=[],sch:=[],shut:=[]}
noncomputable def fc13:FCfg:={par:=[.cst false,.cst false],inn:=[(1,some ([1,2],[2]))],out:=[],loopK:=[],frz:=[],sch:=[],shut:=[]}
noncomputable def fc14:FCfg:={par:=[.cst false],inn:=[(6,some ([0],[]))],out:=[(4,some ([0,3,32],[]))],loopK:=[(2,([0,3],[]))],frz:=[],sch:=[(4,.first 0 (rg [2,23]) [1]<| .first 1 (rg [2,23]) []<| .first 2 (rg [3,23]) []<| .fork 3 (.first 4 (rg [5,23]) []<| .first 5 (rg [6,23]) []<| .first 6 (rg [7,23]) []<| .first 7 (rg [8,23]) []<| .first 8 (rg [9,23]) []<| .first 9 [12,13,14,20,21,22] [10,11,15,16,17,18,19]<| .first 10 [11,12,13,14,20,21,22] [15,16,17,18,19]<| .first 11 [12,13,14,20,21,22] [15,16,17,18,19]<| .first 12 [13,14,20,21,22] [15,16,17,18,19]<| .first 13 [14,20,21,22] [15,16,17,18,19]<| .first 14 [20,21,22] [15,16,17,18,19]<| .first 15 (rg [17,23]) [16]<| .first 16 (rg [17,23]) []<| .first 17 [18,19,20,21,22] []<| .first 18 [19,20,21,22] []<| .first 19 [20,21,22] []<| .first 20 [21,22] []<| .first 21 [22] []<| .first 22 [] []<| .done) (.stop))],shut:=[]}
noncomputable def fc15:FCfg:={par:=[.cst false,.cst false,.cst false],inn:=[],out:=[(1,some ([6],[]))],loopK:=[],frz:=[],sch:=[],shut:=[]}
noncomputable def fc16:FCfg:={par:=[.cst false,.cst false],inn:=[],out:=[(1,some ([4],[]))],loopK:=[],frz:=[],sch:=[],shut:=[]}
noncomputable def fc17:FCfg:={par:=[.ptr [.imm,.sh,.sh,.imm,.imm,.imm],.cst false,.cst false,.cst false,.cst false],inn:=[(1,some ([0,1,2,3,4],[0])),(4,some ([0,1,2,3,4],[0])),(5,some ([0,1,2,3,4],[0])),(7,some ([0,2,3,4,10],[0])),(9,some ([0,2,3,4,10,11],[0,11])),(11,some ([0,2,3,4,10,11],[0,11])),(12,some ([0,2,3,4,10],[0]))],out:=[(1,some ([0,1,2,3,4,27],[0])),(9,some ([0,2,3,4,10,11,72],[0,11])),(12,some ([0,2,3,4,10],[0]))],loopK:=[(6,([0,2,3,4,10],[0]))],frz:=[],sch:=[(1,.first 0 [1,2,3,8] [4,5,6,7]<| .first 1 [2,3,8] [4,5,6,7]<| .first 2 [3,8] [4,5,6,7]<| .first 3 [8] [4,5,6,7]<| .first 4 [5,6,7,8] []<| .first 5 [6,7,8] []<| .first 6 [7,8] []<| .first 7 [8] []<| .first 8 [] []<| .done),(12,.first 0 [12,13,14] (rg [1,12])<| .first 1 [2,3,4,11,12,13,14] [5,6,7,8,9,10]<| .first 2 [3,4,11,12,13,14] [5,6,7,8,9,10]<| .first 3 [4,11,12,13,14] [5,6,7,8,9,10]<| .first 4 [11,12,13,14] [5,6,7,8,9,10]<| .first 5 (rg [6,15]) []<| .first 6 (rg [7,15]) []<| .first 7 (rg [8,15]) []<| .first 8 (rg [9,15]) []<| .first 9 [10,11,12,13,14] []<| .first 10 [11,12,13,14] []<| .fork 11 (.first 12 [13,14] []<| .first 13 [14] []<| .fork 14 (.done) (.stop)) (.stop))],shut:=[]}
noncomputable def fc18:FCfg:={par:=[.cst false],inn:=[],out:=[],loopK:=[],frz:=[],sch:=[],shut:=[]}
noncomputable def fc19:FCfg:={par:=[.cst false],inn:=[(1,some ([1,2],[1,2])),(2,some ([1,2,3],[1,2,3])),(3,some ([1,2,3],[1,2,3])),(4,some ([1,2,3],[1,2,3])),(5,some ([1,2,3],[1,2,3])),(6,some ([1,2,3],[1,2,3])),(7,some ([1,2,3],[1,2,3])),(8,some ([2,3],[2,3]))],out:=[],loopK:=[],frz:=[],sch:=[],shut:=[]}
noncomputable def fc20:FCfg:={par:=[.cst false,.cst false,.cst false,.cst false],inn:=[],out:=[(3,some ([13],[]))],loopK:=[],frz:=[],sch:=[],shut:=[]}
noncomputable def fc21:FCfg:={par:=[.ptr [.imm,.imm,.gone,.imm],.cst true,.cst false,.cst false,.cst false,.cst false],inn:=[(4,some ([0,1,2,3,4,5],[0])),(6,some ([0,1,2,3,4,5],[0])),(8,some ([0,1,3,4,5,13],[0])),(10,some ([0,1,3,4,5,13,14],[0,14])),(13,some ([],[0]))],out:=[(10,some ([0,1,3,4,5,13,14,67],[0,14])),(11,some ([0,1,3,4,5,13,88],[0]))],loopK:=[(7,([0,1,3,4,5,13],[0]))],frz:=[],sch:=[(11,.first 0 [20] (rg [1,20])<| .first 1 [2,5,20] (rg [3,5,6,20])<| .first 3 [4,5,20] (rg [2,3,6,20])<| .first 6 [7,20] (rg [2,3,4,6,8,20])<| .first 7 [20] (rg [2,3,4,6,8,20])<| .first 8 [11,20] (rg [2,3,4,6,9,11,12,20])<| .first 12 [15,20] [2,4,5,9,10,11,13,14,16,17,18,19]<| .first 16 [19,20] [2,4,5,9,10,11,13,14,15,17,18]<| .first 9 [10,11,20] [2,4,5,13,14,15,17,18,19]<| .first 10 [11,20] [2,4,5,13,14,15,17,18,19]<| .first 11 [20] [2,4,5,13,14,15,17,18,19]<| .first 13 [14,15,20] [2,4,5,17,18,19]<| .first 14 [15,20] [2,4,5,17,18,19]<| .first 15 [20] [2,4,5,17,18,19]<| .first 17 [18,19,20] [2,4,5]<| .first 18 [19,20] [2,4,5]<| .first 19 [20] [2,4,5]<| .fork 2 (.fork 4 (.fork 5 (.fork 20 (.done) (.stop)) (.stop)) (.stop)) (.fork 4 (.fork 2 (.fork 5 (.fork 20 (.done) (.stop)) (.stop)) (.stop)) (.stop)))],shut:=[]}
noncomputable def fc22:FCfg:={par:=[.cst false,.cst false],inn:=[(1,some ([2,3],[2,3]))],out:=[],loopK:=[],frz:=[],sch:=[],shut:=[]}
noncomputable def fc23:FCfg:={par:=[.cst false],inn:=[(7,some ([3],[]))],out:=[],loopK:=[(4,([0,3],[]))],frz:=[],sch:=[],shut:=[]}
noncomputable def fc24:FCfg:={par:=[.cst false,.cst false],inn:=[],out:=[],loopK:=[],frz:=[],sch:=[],shut:=[]}
noncomputable def fc25:FCfg:={par:=[.cut 8],inn:=[],out:=[(1,some ([2],[]))],loopK:=[],frz:=[],sch:=[],shut:=[]}
noncomputable def fc26:FCfg:={par:=[.cst false],inn:=[(3,some ([1,2,3],[1,2,3])),(4,some ([1,2,3],[1,2,3])),(5,some ([2,3],[2,3]))],out:=[],loopK:=[],frz:=[],sch:=[],shut:=[]}
noncomputable def fc27:FCfg:={par:=[.cst false],inn:=[(4,some ([0,3,4,5,6,7],[4])),(7,some ([0],[]))],out:=[(4,some ([0,5,6,7,29],[]))],loopK:=[(2,([0,5,6,7],[]))],frz:=[],sch:=[(4,.first 0 (rg [1,18]) []<| .fork 1 (.first 2 (rg [3,18]) []<| .first 3 (rg [4,18]) []<| .first 4 (rg [5,18]) []<| .first 5 (rg [6,18]) []<| .first 6 (rg [7,18]) []<| .first 7 [10,11,12,15,16,17] [8,9,13,14]<| .first 8 [9,10,11,12,15,16,17] [13,14]<| .first 9 [10,11,12,15,16,17] [13,14]<| .first 10 [11,12,15,16,17] [13,14]<| .first 11 [12,15,16,17] [13,14]<| .first 12 [15,16,17] [13,14]<| .first 13 [14,15,16,17] []<| .first 14 [15,16,17] []<| .first 15 [16,17] []<| .first 16 [17] []<| .first 17 [] []<| .done) (.stop))],shut:=[]}
noncomputable def fc28:FCfg:={par:=[.cst false,.cst false,.cst false],inn:=[],out:=[(1,some ([6],[]))],loopK:=[],frz:=[],sch:=[],shut:=[]}
noncomputable def fc30:FCfg:={par:=[.cst false,.cst false],inn:=[],out:=[],loopK:=[],frz:=[],sch:=[],shut:=[]}
noncomputable def fc31:FCfg:={par:=[.cst false],inn:=[(8,some ([],[]))],out:=[(1,some ([0,16],[])),(6,some ([0,3,34],[]))],loopK:=[(4,([0,3],[]))],frz:=[],sch:=[],shut:=[]}
noncomputable def fc32:FCfg:={par:=[.cut 3],inn:=[],out:=[(2,some ([0,3,19],[])),(5,some ([2],[]))],loopK:=[],frz:=[],sch:=[],shut:=[]}
noncomputable def fc33:FCfg:={par:=[.cst false],inn:=[(1,some ([1],[1]))],out:=[(1,some ([2],[]))],loopK:=[],frz:=[],sch:=[],shut:=[]}
noncomputable def fc34:FCfg:={par:=[.cst false],inn:=[],out:=[(1,some ([2],[]))],loopK:=[],frz:=[],sch:=[],shut:=[]}
noncomputable def fc35:FCfg:={par:=[.cst false],inn:=[],out:=[(1,some ([2],[]))],loopK:=[],frz:=[],sch:=[],shut:=[]}
noncomputable def fc36:FCfg:={par:=[.cst false],inn:=[(7,some ([],[]))],out:=[],loopK:=[(3,([0,3,4],[3]))],frz:=[],sch:=[],shut:=[]}
noncomputable def fc37:FCfg:={par:=[],inn:=[],out:=[],loopK:=[],frz:=[],sch:=[],shut:=[]}
noncomputable def fc38:FCfg:={par:=[.cst false],inn:=[],out:=[],loopK:=[],frz:=[],sch:=[],shut:=[]}
noncomputable def fc39:FCfg:={par:=[.cst false],inn:=[(8,some ([],[]))],out:=[(1,some ([0,21],[])),(6,some ([0,3,49],[]))],loopK:=[(4,([0,3],[]))],frz:=[],sch:=[],shut:=[]}
noncomputable def fc40:FCfg:={par:=[.cst false],inn:=[],out:=[(2,some ([2],[]))],loopK:=[],frz:=[],sch:=[],shut:=[]}
noncomputable def fc41:FCfg:={par:=[],inn:=[],out:=[],loopK:=[],frz:=[],sch:=[],shut:=[]}
noncomputable def fc42:FCfg:={par:=[.cst false],inn:=[],out:=[],loopK:=[],frz:=[],sch:=[],shut:=[]}
noncomputable def fc43:FCfg:={par:=[.cst false],inn:=[],out:=[],loopK:=[],frz:=[],sch:=[],shut:=[]}
noncomputable def fcs:List (Nat×FCfg):=[(3,fc3),(4,fc4),(5,fc5),(6,fc6),(7,fc7),(8,fc8),(9,fc9),(10,fc10),(11,fc11),(12,fc12),(13,fc13),(14,fc14),(15,fc15),(16,fc16),(17,fc17),(18,fc18),(19,fc19),(20,fc20),(21,fc21),(22,fc22),(23,fc23),(24,fc24),(25,fc25),(26,fc26),(27,fc27),(28,fc28),(30,fc30),(31,fc31),(32,fc32),(33,fc33),(34,fc34),(35,fc35),(36,fc36),(37,fc37),(38,fc38),(39,fc39),(40,fc40),(41,fc41),(42,fc42),(43,fc43)]
noncomputable def ons:List (Nat×Bool):=[(3,true),(4,true),(5,true),(6,true),(7,true),(8,true),(9,true),(10,true),(11,true),(12,true),(13,true),(14,true),(15,true),(16,true),(17,true),(18,true),(19,true),(20,true),(21,true),(22,true),(23,true),(24,true),(25,true),(26,true),(27,true),(28,true),(30,true),(31,true),(32,true),(33,true),(34,true),(35,true),(36,true),(37,true),(38,true),(39,true),(40,true),(41,true),(42,true),(43,true)]
noncomputable def cfg:Cfg:=mkCfg ons fcs [(29,some (extCloneN 1 8))] [] [] [] [(7,45)]
theorem c3:cfg.fc 3=fc3:=rfl
instance C3:Cf cfg 3 fc3:=⟨c3⟩
instance Z3:Zf cfg 3:=⟨rfl⟩
theorem c4:cfg.fc 4=fc4:=rfl
instance C4:Cf cfg 4 fc4:=⟨c4⟩
instance Z4:Zf cfg 4:=⟨rfl⟩
theorem c5:cfg.fc 5=fc5:=rfl
instance C5:Cf cfg 5 fc5:=⟨c5⟩
instance Z5:Zf cfg 5:=⟨rfl⟩
theorem z5:(cfg.fc 5).frz=[]:=rfl
theorem c6:cfg.fc 6=fc6:=rfl
instance C6:Cf cfg 6 fc6:=⟨c6⟩
instance Z6:Zf cfg 6:=⟨rfl⟩
theorem c7:cfg.fc 7=fc7:=rfl
instance C7:Cf cfg 7 fc7:=⟨c7⟩
theorem z7:(cfg.fc 7).frz=[8]:=rfl
theorem c8:cfg.fc 8=fc8:=rfl
instance C8:Cf cfg 8 fc8:=⟨c8⟩
instance Z8:Zf cfg 8:=⟨rfl⟩
theorem c9:cfg.fc 9=fc9:=rfl
instance C9:Cf cfg 9 fc9:=⟨c9⟩
instance Z9:Zf cfg 9:=⟨rfl⟩
theorem z9:(cfg.fc 9).frz=[]:=rfl
theorem c10:cfg.fc 10=fc10:=rfl
instance C10:Cf cfg 10 fc10:=⟨c10⟩
instance Z10:Zf cfg 10:=⟨rfl⟩
theorem c11:cfg.fc 11=fc11:=rfl
instance C11:Cf cfg 11 fc11:=⟨c11⟩
instance Z11:Zf cfg 11:=⟨rfl⟩
theorem c12:cfg.fc 12=fc12:=rfl
instance C12:Cf cfg 12 fc12:=⟨c12⟩
instance Z12:Zf cfg 12:=⟨rfl⟩
theorem c13:cfg.fc 13=fc13:=rfl
instance C13:Cf cfg 13 fc13:=⟨c13⟩
instance Z13:Zf cfg 13:=⟨rfl⟩
theorem c14:cfg.fc 14=fc14:=rfl
instance C14:Cf cfg 14 fc14:=⟨c14⟩
instance Z14:Zf cfg 14:=⟨rfl⟩
theorem z14:(cfg.fc 14).frz=[]:=rfl
theorem c15:cfg.fc 15=fc15:=rfl
instance C15:Cf cfg 15 fc15:=⟨c15⟩
instance Z15:Zf cfg 15:=⟨rfl⟩
theorem c16:cfg.fc 16=fc16:=rfl
instance C16:Cf cfg 16 fc16:=⟨c16⟩
instance Z16:Zf cfg 16:=⟨rfl⟩
theorem c17:cfg.fc 17=fc17:=rfl
instance C17:Cf cfg 17 fc17:=⟨c17⟩
instance Z17:Zf cfg 17:=⟨rfl⟩
theorem z17:(cfg.fc 17).frz=[]:=rfl
theorem c18:cfg.fc 18=fc18:=rfl
instance C18:Cf cfg 18 fc18:=⟨c18⟩
instance Z18:Zf cfg 18:=⟨rfl⟩
theorem c19:cfg.fc 19=fc19:=rfl
instance C19:Cf cfg 19 fc19:=⟨c19⟩
instance Z19:Zf cfg 19:=⟨rfl⟩
theorem c20:cfg.fc 20=fc20:=rfl
instance C20:Cf cfg 20 fc20:=⟨c20⟩
instance Z20:Zf cfg 20:=⟨rfl⟩
theorem c21:cfg.fc 21=fc21:=rfl
instance C21:Cf cfg 21 fc21:=⟨c21⟩
instance Z21:Zf cfg 21:=⟨rfl⟩
theorem z21:(cfg.fc 21).frz=[]:=rfl
theorem c22:cfg.fc 22=fc22:=rfl
instance C22:Cf cfg 22 fc22:=⟨c22⟩
instance Z22:Zf cfg 22:=⟨rfl⟩
theorem c23:cfg.fc 23=fc23:=rfl
instance C23:Cf cfg 23 fc23:=⟨c23⟩
instance Z23:Zf cfg 23:=⟨rfl⟩
theorem c24:cfg.fc 24=fc24:=rfl
instance C24:Cf cfg 24 fc24:=⟨c24⟩
instance Z24:Zf cfg 24:=⟨rfl⟩
theorem c25:cfg.fc 25=fc25:=rfl
instance C25:Cf cfg 25 fc25:=⟨c25⟩
instance Z25:Zf cfg 25:=⟨rfl⟩
theorem c26:cfg.fc 26=fc26:=rfl
instance C26:Cf cfg 26 fc26:=⟨c26⟩
instance Z26:Zf cfg 26:=⟨rfl⟩
theorem c27:cfg.fc 27=fc27:=rfl
instance C27:Cf cfg 27 fc27:=⟨c27⟩
instance Z27:Zf cfg 27:=⟨rfl⟩
theorem z27:(cfg.fc 27).frz=[]:=rfl
theorem c28:cfg.fc 28=fc28:=rfl
instance C28:Cf cfg 28 fc28:=⟨c28⟩
instance Z28:Zf cfg 28:=⟨rfl⟩
theorem c30:cfg.fc 30=fc30:=rfl
instance C30:Cf cfg 30 fc30:=⟨c30⟩
instance Z30:Zf cfg 30:=⟨rfl⟩
theorem c31:cfg.fc 31=fc31:=rfl
instance C31:Cf cfg 31 fc31:=⟨c31⟩
instance Z31:Zf cfg 31:=⟨rfl⟩
theorem c32:cfg.fc 32=fc32:=rfl
instance C32:Cf cfg 32 fc32:=⟨c32⟩
instance Z32:Zf cfg 32:=⟨rfl⟩
theorem c33:cfg.fc 33=fc33:=rfl
instance C33:Cf cfg 33 fc33:=⟨c33⟩
instance Z33:Zf cfg 33:=⟨rfl⟩
theorem c34:cfg.fc 34=fc34:=rfl
instance C34:Cf cfg 34 fc34:=⟨c34⟩
instance Z34:Zf cfg 34:=⟨rfl⟩
theorem c35:cfg.fc 35=fc35:=rfl
instance C35:Cf cfg 35 fc35:=⟨c35⟩
instance Z35:Zf cfg 35:=⟨rfl⟩
theorem c36:cfg.fc 36=fc36:=rfl
instance C36:Cf cfg 36 fc36:=⟨c36⟩
instance Z36:Zf cfg 36:=⟨rfl⟩
theorem c37:cfg.fc 37=fc37:=rfl
instance C37:Cf cfg 37 fc37:=⟨c37⟩
instance Z37:Zf cfg 37:=⟨rfl⟩
theorem c38:cfg.fc 38=fc38:=rfl
instance C38:Cf cfg 38 fc38:=⟨c38⟩
instance Z38:Zf cfg 38:=⟨rfl⟩
theorem c39:cfg.fc 39=fc39:=rfl
instance C39:Cf cfg 39 fc39:=⟨c39⟩
instance Z39:Zf cfg 39:=⟨rfl⟩
theorem c40:cfg.fc 40=fc40:=rfl
instance C40:Cf cfg 40 fc40:=⟨c40⟩
instance Z40:Zf cfg 40:=⟨rfl⟩
theorem c41:cfg.fc 41=fc41:=rfl
instance C41:Cf cfg 41 fc41:=⟨c41⟩
instance Z41:Zf cfg 41:=⟨rfl⟩
theorem c42:cfg.fc 42=fc42:=rfl
instance C42:Cf cfg 42 fc42:=⟨c42⟩
instance Z42:Zf cfg 42:=⟨rfl⟩
theorem c43:cfg.fc 43=fc43:=rfl
instance C43:Cf cfg 43 fc43:=⟨c43⟩
instance Z43:Zf cfg 43:=⟨rfl⟩
noncomputable abbrev Pg:=Try.prog
theorem bF44:buildF Pg 44=some ([.nil,.nil,.nil,z0,z0,z0],[(0,1),(1,1),(2,1),(3,1),(4,1),(5,1)]):=kr
theorem bF54:buildF Pg 54=some ([.nil,z0,.nil,z0],[(0,1),(1,1),(2,1),(3,1)]):=kr
theorem eF24:elemSz Pg 24=some (2,1):=kr
theorem eF27:elemSz Pg 27=some (49,8):=kr
theorem eF70:elemSz Pg 70=some (24,1):=kr
theorem eF74:elemSz Pg 74=some (9,1):=kr
theorem fF36_0:fieldF Pg 36 0=some 0:=kr
theorem fF36_1:fieldF Pg 36 1=some 1:=kr
theorem fF36_2:fieldF Pg 36 2=some 2:=kr
theorem fF38_0:fieldF Pg 38 0=some 0:=kr
theorem fF38_1:fieldF Pg 38 1=some 1:=kr
theorem fF38_2:fieldF Pg 38 2=some 4:=kr
theorem fF38_3:fieldF Pg 38 3=some 5:=kr
theorem fF38_4:fieldF Pg 38 4=some 6:=kr
theorem fF38_5:fieldF Pg 38 5=some 7:=kr
theorem fF44_0:fieldF Pg 44 0=some 0:=kr
theorem fF44_1:fieldF Pg 44 1=some 1:=kr
theorem fF44_2:fieldF Pg 44 2=some 2:=kr
theorem fF44_3:fieldF Pg 44 3=some 3:=kr
theorem fF44_4:fieldF Pg 44 4=some 4:=kr
theorem fF44_5:fieldF Pg 44 5=some 5:=kr
theorem fF47_0:fieldF Pg 47 0=some 0:=kr
theorem fF47_1:fieldF Pg 47 1=some 1:=kr
theorem fF47_2:fieldF Pg 47 2=some 2:=kr
theorem fF49_0:fieldF Pg 49 0=some 0:=kr
theorem fF49_1:fieldF Pg 49 1=some 1:=kr
theorem fF49_2:fieldF Pg 49 2=some 4:=kr
theorem fF49_3:fieldF Pg 49 3=some 5:=kr
theorem fF49_4:fieldF Pg 49 4=some 6:=kr
theorem fF49_5:fieldF Pg 49 5=some 7:=kr
theorem fF54_0:fieldF Pg 54 0=some 0:=kr
theorem fF54_1:fieldF Pg 54 1=some 1:=kr
theorem fF54_2:fieldF Pg 54 2=some 2:=kr
theorem fF54_3:fieldF Pg 54 3=some 3:=kr
theorem kF10_27_3:callK Pg cfg 10 0 [27,3]=[(.row,[some 8]),(.cst false,[none])]:=kr
theorem kF11_24_3:callK Pg cfg 11 0 [24,3]=[(.row,[some 1]),(.cst false,[none])]:=kr
theorem kF12_24_3:callK Pg cfg 12 0 [24,3]=[(.cst false,[some 1]),(.cst false,[none])]:=kr
theorem kF13_38_3:callK Pg cfg 13 0 [38,3]=[(.cst false,[none,none,none,none,none,none,none,none]),(.cst false,[none])]:=kr
theorem kF14_27:callK Pg cfg 14 0 [27]=[(.cst false,[some 8])]:=kr
theorem kF15_2_2_2:callK Pg cfg 15 0 [2,2,2]=[(.cst false,[none]),(.cst false,[none]),(.cst false,[none])]:=kr
theorem kF16_2_2:callK Pg cfg 16 0 [2,2]=[(.cst false,[none]),(.cst false,[none])]:=kr
theorem kF17_42_2_2_2_2:callK Pg cfg 17 0 [42,2,2,2,2]=[(.ptr [.imm,.sh,.sh,.imm,.imm,.imm],[none]),(.cst false,[none]),(.cst false,[none]),(.cst false,[none]),(.cst false,[none])]:=kr
theorem kF18_24:callK Pg cfg 18 0 [24]=[(.cst false,[some 1])]:=kr
theorem kF19_38:callK Pg cfg 19 0 [38]=[(.cst false,[none,none,none,none,none,none,none,none])]:=kr
theorem kF20_27_2_2_2:callK Pg cfg 20 0 [27,2,2,2]=[(.cst false,[some 8]),(.cst false,[none]),(.cst false,[none]),(.cst false,[none])]:=kr
theorem kF21_52_24_3_2_2_2:callK Pg cfg 21 0 [52,24,3,2,2,2]=[(.ptr [.imm,.imm,.gone,.imm],[none]),(.cst true,[some 1]),(.cst false,[none]),(.cst false,[none]),(.cst false,[none]),(.cst false,[none])]:=kr
theorem kF22_49_49:callK Pg cfg 22 0 [49,49]=[(.cst false,[none,none,none,none,none,none,none,none]),(.cst false,[none,none,none,none,none,none,none,none])]:=kr
theorem kF23_3:callK Pg cfg 23 0 [3]=[(.cst false,[none])]:=kr
theorem kF24_36_3:callK Pg cfg 24 0 [36,3]=[(.cst false,[none,none,none]),(.cst false,[none])]:=kr
theorem kF25_60:callK Pg cfg 25 0 [60]=[(.cut 8,[none])]:=kr
theorem kF26_36:callK Pg cfg 26 0 [36]=[(.cst false,[none,none,none])]:=kr
theorem kF27_27:callK Pg cfg 27 0 [27]=[(.cst false,[some 8])]:=kr
theorem kF28_2_2_2:callK Pg cfg 28 0 [2,2,2]=[(.cst false,[none]),(.cst false,[none]),(.cst false,[none])]:=kr
theorem kF29_24:callK Pg cfg 29 0 [24]=[(.cst false,[some 1])]:=kr
theorem kF30_47_47:callK Pg cfg 30 0 [47,47]=[(.cst false,[none,none,none]),(.cst false,[none,none,none])]:=kr
theorem kF31_9:callK Pg cfg 31 0 [9]=[(.cst false,[none])]:=kr
theorem kF32_66:callK Pg cfg 32 0 [66]=[(.cut 3,[none])]:=kr
theorem kF33_49:callK Pg cfg 33 0 [49]=[(.cst false,[none,none,none,none,none,none,none,none])]:=kr
theorem kF34_5:callK Pg cfg 34 0 [5]=[(.cst false,[none])]:=kr
theorem kF35_5:callK Pg cfg 35 0 [5]=[(.cst false,[none])]:=kr
theorem kF36_9:callK Pg cfg 36 0 [9]=[(.cst false,[none])]:=kr
theorem kF37_:callK Pg cfg 37 0 []=[]:=kr
theorem kF38_2:callK Pg cfg 38 0 [2]=[(.cst false,[none])]:=kr
theorem kF39_9:callK Pg cfg 39 0 [9]=[(.cst false,[none])]:=kr
theorem kF40_47:callK Pg cfg 40 0 [47]=[(.cst false,[none,none,none])]:=kr
theorem kF41_:callK Pg cfg 41 0 []=[]:=kr
theorem kF42_9:callK Pg cfg 42 0 [9]=[(.cst false,[none])]:=kr
theorem kF43_9:callK Pg cfg 43 0 [9]=[(.cst false,[none])]:=kr
theorem kF4_22_3:callK Pg cfg 4 0 [22,3]=[(.cst false,[some 8]),(.cst false,[none])]:=kr
theorem kF5_27_2_2_2:callK Pg cfg 5 0 [27,2,2,2]=[(.cst false,[some 8]),(.cst false,[none]),(.cst false,[none]),(.cst false,[none])]:=kr
theorem kF6_22:callK Pg cfg 6 0 [22]=[(.cst false,[some 8])]:=kr
theorem kF7_27_2_2_2:callK Pg cfg 7 0 [27,2,2,2]=[(.cst false,[some 8]),(.cst false,[none]),(.cst false,[none]),(.cst false,[none])]:=kr
theorem kF8_24_24:callK Pg cfg 8 0 [24,24]=[(.cst false,[some 1]),(.cst false,[some 1])]:=kr
theorem kF9_27_27:callK Pg cfg 9 0 [27,27]=[(.cst false,[some 8]),(.cst false,[some 8])]:=kr
theorem rF10:resK Pg (Try.f10.results.toList.zip Try.f10.resultTypes.toList)=[(.tmp 4,[none],none)]:=kr
theorem rF11:resK Pg (Try.f11.results.toList.zip Try.f11.resultTypes.toList)=[(.tmp 4,[none],none)]:=kr
theorem rF12:resK Pg (Try.f12.results.toList.zip Try.f12.resultTypes.toList)=[(.tmp 4,[none],none)]:=kr
theorem rF13:resK Pg (Try.f13.results.toList.zip Try.f13.resultTypes.toList)=[(.tmp 4,[none],none)]:=kr
theorem rF14:resK Pg (Try.f14.results.toList.zip Try.f14.resultTypes.toList)=[(.tmp 2,[none],none)]:=kr
theorem rF15:resK Pg (Try.f15.results.toList.zip Try.f15.resultTypes.toList)=[(.tmp 6,[none],none)]:=kr
theorem rF16:resK Pg (Try.f16.results.toList.zip Try.f16.resultTypes.toList)=[(.tmp 4,[none],none)]:=kr
theorem rF17:resK Pg (Try.f17.results.toList.zip Try.f17.resultTypes.toList)=[]:=kr
theorem rF18:resK Pg (Try.f18.results.toList.zip Try.f18.resultTypes.toList)=[(.tmp 2,[some 1],none)]:=kr
theorem rF19:resK Pg (Try.f19.results.toList.zip Try.f19.resultTypes.toList)=[(.cell 2 49,[none,none,none,none,none,none,none,none],some (true,8))]:=kr
theorem rF20:resK Pg (Try.f20.results.toList.zip Try.f20.resultTypes.toList)=[(.tmp 8,[none],none)]:=kr
theorem rF21:resK Pg (Try.f21.results.toList.zip Try.f21.resultTypes.toList)=[(.tmp 12,[none],none)]:=kr
theorem rF22:resK Pg (Try.f22.results.toList.zip Try.f22.resultTypes.toList)=[(.tmp 4,[none],none)]:=kr
theorem rF23:resK Pg (Try.f23.results.toList.zip Try.f23.resultTypes.toList)=[(.tmp 2,[none],none)]:=kr
theorem rF24:resK Pg (Try.f24.results.toList.zip Try.f24.resultTypes.toList)=[(.tmp 4,[none],none)]:=kr
theorem rF25:resK Pg (Try.f25.results.toList.zip Try.f25.resultTypes.toList)=[(.tmp 2,[none],none)]:=kr
theorem rF26:resK Pg (Try.f26.results.toList.zip Try.f26.resultTypes.toList)=[(.cell 2 47,[none,none,none],some (true,3))]:=kr
theorem rF27:resK Pg (Try.f27.results.toList.zip Try.f27.resultTypes.toList)=[(.tmp 2,[none],none)]:=kr
theorem rF28:resK Pg (Try.f28.results.toList.zip Try.f28.resultTypes.toList)=[(.tmp 6,[none],none)]:=kr
theorem rF29:resK Pg (Try.f29.results.toList.zip Try.f29.resultTypes.toList)=[(.tmp 2,[some 1],none)]:=kr
theorem rF3:resK Pg (Try.f3.results.toList.zip Try.f3.resultTypes.toList)=[(.tmp 8,[none],none)]:=kr
theorem rF30:resK Pg (Try.f30.results.toList.zip Try.f30.resultTypes.toList)=[(.tmp 4,[none],none)]:=kr
theorem rF31:resK Pg (Try.f31.results.toList.zip Try.f31.resultTypes.toList)=[(.tmp 2,[none],none)]:=kr
theorem rF32:resK Pg (Try.f32.results.toList.zip Try.f32.resultTypes.toList)=[(.tmp 2,[none],none)]:=kr
theorem rF33:resK Pg (Try.f33.results.toList.zip Try.f33.resultTypes.toList)=[(.tmp 2,[none],none)]:=kr
theorem rF34:resK Pg (Try.f34.results.toList.zip Try.f34.resultTypes.toList)=[(.tmp 2,[none],none)]:=kr
theorem rF35:resK Pg (Try.f35.results.toList.zip Try.f35.resultTypes.toList)=[(.tmp 2,[none],none)]:=kr
theorem rF36:resK Pg (Try.f36.results.toList.zip Try.f36.resultTypes.toList)=[(.tmp 2,[none],none)]:=kr
theorem rF37:resK Pg (Try.f37.results.toList.zip Try.f37.resultTypes.toList)=[(.tmp 0,[some 1],none)]:=kr
theorem rF38:resK Pg (Try.f38.results.toList.zip Try.f38.resultTypes.toList)=[(.tmp 2,[none],none)]:=kr
theorem rF39:resK Pg (Try.f39.results.toList.zip Try.f39.resultTypes.toList)=[(.tmp 2,[none],none)]:=kr
theorem rF4:resK Pg (Try.f4.results.toList.zip Try.f4.resultTypes.toList)=[(.tmp 4,[none],none)]:=kr
theorem rF40:resK Pg (Try.f40.results.toList.zip Try.f40.resultTypes.toList)=[(.tmp 2,[none],none)]:=kr
theorem rF41:resK Pg (Try.f41.results.toList.zip Try.f41.resultTypes.toList)=[(.tmp 0,[some 1],none)]:=kr
theorem rF42:resK Pg (Try.f42.results.toList.zip Try.f42.resultTypes.toList)=[(.tmp 2,[none],none),(.tmp 3,[none],none)]:=kr
theorem rF43:resK Pg (Try.f43.results.toList.zip Try.f43.resultTypes.toList)=[(.tmp 2,[none],none),(.tmp 3,[none],none),(.tmp 4,[none],none),(.tmp 5,[none],none)]:=kr
theorem rF5:resK Pg (Try.f5.results.toList.zip Try.f5.resultTypes.toList)=[(.tmp 8,[some 1],none),(.tmp 9,[none],none),(.tmp 10,[none],none)]:=kr
theorem rF6:resK Pg (Try.f6.results.toList.zip Try.f6.resultTypes.toList)=[(.tmp 2,[some 8],none)]:=kr
theorem rF7:resK Pg (Try.f7.results.toList.zip Try.f7.resultTypes.toList)=[(.tmp 8,[some 1],none),(.tmp 9,[none],none),(.tmp 10,[none],none)]:=kr
theorem rF8:resK Pg (Try.f8.results.toList.zip Try.f8.resultTypes.toList)=[(.tmp 4,[none],none)]:=kr
theorem rF9:resK Pg (Try.f9.results.toList.zip Try.f9.resultTypes.toList)=[(.tmp 4,[none],none)]:=kr
theorem sF22:sliceF Pg 22=some (38,8,[none,none,none,none,none,none,none,none],true,80,[z1,z1,z0,z0,z0,z0,z0,z0]):=kr
theorem sF24:sliceF Pg 24=some (2,1,[none],false,8,[z0]):=kr
theorem sF27:sliceF Pg 27=some (49,8,[none,none,none,none,none,none,none,none],true,80,[z1,z1,z0,z0,z0,z0,z0,z0]):=kr
theorem sF63:sliceF Pg 63=some (5,1,[none],false,1,[.im 0 (.sc (.int .u8 0))]):=kr
theorem sF70:sliceF Pg 70=some (24,1,[some 1],false,24,[.nil]):=kr
theorem sF74:sliceF Pg 74=some (9,1,[none],false,16,[z1]):=kr
theorem tF2:tyF Pg 2=some ([z0],[none],false,1):=kr
theorem tF24:tyF Pg 24=some ([.nil],[some 1],false,1):=kr
theorem tF27:tyF Pg 27=some ([.nil],[some 8],false,1):=kr
theorem tF36:tyF Pg 36=some ([z1,z0,z0],[none,none,none],true,3):=kr
theorem tF38:tyF Pg 38=some ([z1,z1,z0,z0,z0,z0,z0,z0],[none,none,none,none,none,none,none,none],true,8):=kr
theorem tF44:tyF Pg 44=some ([.nil,.nil,.nil,z0,z0,z0],[some 8,some 1,some 1,none,none,none],true,6):=kr
theorem tF47:tyF Pg 47=some ([z1,z0,z0],[none,none,none],true,3):=kr
theorem tF49:tyF Pg 49=some ([z1,z1,z0,z0,z0,z0,z0,z0],[none,none,none,none,none,none,none,none],true,8):=kr
theorem tF54:tyF Pg 54=some ([.nil,z0,.nil,z0],[some 8,none,some 1,none],true,4):=kr
theorem tF9:tyF Pg 9=some ([z1],[none],false,1):=kr
theorem uF22:Pg.underlying 22=some (.slice 38):=kr
theorem uF24:Pg.underlying 24=some (.slice 2):=kr
theorem uF27:Pg.underlying 27=some (.slice 49):=kr
theorem uF3:Pg.underlying 3=some (.int .i64):=kr
theorem uF5:Pg.underlying 5=some (.int .u8):=kr
theorem uF63:Pg.underlying 63=some (.slice 5):=kr
theorem uF74:Pg.underlying 74=some (.slice 9):=kr
theorem uF9:Pg.underlying 9=some .string:=kr
abbrev FX (i:Nat) (a:List Arg) (r:Res×List Out):Prop:=FL Try.prog cfg i a=some r
theorem L_laws_szVeneer {a_0:S_Veneer} {left_1:Int} {r:Int} (h:laws_szVeneer a_0 left_1=some r):FX 24 [.im 2 true (u_S_Veneer a_0),.im 2 false [I left_1]] (B0 [(false,[.im 0 (I r)])]):=by
 unfold laws_szVeneer at h
 refine gn 13 Try.func24 rfl ?_
 refine gs<|g0 j j (q (oBx j tF36 j (tkI (tkI (tkI tk0))))<|q (oAsI j j)<|nl)<|us<|gs<|g0 j j (q (oMv j j)<|q (oFA (r':=.mp 2 0 0) j fF36_0 j j)<|q (oLd (cs:=[.im 0 _]) j tF9 j j)<|q (oLnS j j uF9 j)<|q (oBi j j j j)<|q (oAsI j j)<|nl)<|us<|gs<|gs<|g0 j j (q (oMv j j)<|q (oBi j j j j)<|nl)<|us<|gc h j iDec (fun hc1 h=>?_) fun hc1 h=>?_
 ·refine gs<|g0 j j (q (oAsI j j)<|nl)<|us<|Go.ret (Unw.ret ?_)
  cases h
  exact fr rF24 j
 ·refine Go.skip<|us<|gs<|g0 j j (q (oMv j j)<|q (oAsI j j)<|nl)<|us<|Go.ret (Unw.ret ?_)
  cases h
  exact fr rF24 j
theorem L_laws_szLoss {a_0:S_Loss} {left_1:Int} {r:Int} (h:laws_szLoss a_0 left_1=some r):FX 13 [.im 2 true (u_S_Loss a_0),.im 2 false [I left_1]] (B0 [(false,[.im 0 (I r)])]):=by
 unfold laws_szLoss at h
 refine gn 19 Try.func13 rfl ?_
 refine gs<|g0 j j (q (oBx j tF38 j (tkI (tkI (tkI (tkI (tkI (tkI (tkI (tkI tk0)))))))))<|q (oAsI j j)<|nl)<|us<|gs<|g1 j j (mk [(1,iv left_1),(2,M 2)] [(2,Oa (G 0 (u_S_Loss a_0)))]) (q (oMv j j)<|q (oFA (r':=.mp 2 0 0) j fF38_0 j j)<|q (oLd (cs:=[.im 0 _]) j tF9 j j)<|q (oLnS j j uF9 j)<|q (oBi j j j j)<|q (oAsI j j)<|nl)<|us<|gs<|gs<|g0 j j (q (oMv j j)<|q (oBi j j j j)<|nl)<|us<|gc h j iDec (fun hc1 h=>?_) fun hc1 h=>?_
 ·refine gs<|g0 j j (q (oAsI j j)<|nl)<|us<|Go.ret (Unw.ret ?_)
  cases h
  exact fr rF13 j
 ·refine Go.skip<|us<|gs<|?_
  obtain ⟨x15,hx15,h⟩:=bs h
  refine g0 j j (q (oFA (r':=.mp 2 0 1) j fF38_1 j j)<|q (oLd (cs:=[.im 0 _,.im 0 _,.im 0 _]) j tF36 j j)<|q (oMv j j)<|q (oCa (xs:=[.v true [.im 0 _,.im 0 _,.im 0 _],.v false [.im 0 _]]) (vs:=[(false,[.im 0 _])]) (v:=.v false [.im 0 _]) (L_laws_szVeneer hx15) (.inl j) j kF24_36_3 j (ppC j (ppC j pp0)) j j pb0 j j j)<|q (oAsI j j)<|nl)<|us<|gs<|gs<|g0 j j (q (oMv j j)<|q (oBi j j j j)<|nl)<|us<|gc h j iDec (fun hc2 h=>?_) fun hc2 h=>?_
  ·refine gs<|g0 j j (q (oAsI j j)<|nl)<|us<|Go.ret (Unw.ret ?_)
   cases h
   exact fr rF13 j
  ·refine Go.skip<|us<|gs<|g0 j j (q (oMv j j)<|q (oAsI j j)<|nl)<|us<|Go.ret (Unw.ret ?_)
   cases h
   exact fr rF13 j
theorem L_laws_szLossS {a_0:(List S_Loss)} {left_1:Int} {r:Int} (h:laws_szLossS a_0 left_1=some r):FX 4 [.im 2 false [W 8 e_S_Loss a_0],.im 2 false [I left_1]] (B0 [(false,[.im 0 (I r)])]):=by
 unfold laws_szLossS at h
 refine gn 27 Try.func4 rfl ?_
 refine gs<|g0 j j (q (oAsI j j)<|nl)<|us<|gs<|g0 j j (q (oMv j j)<|q (oMv j j)<|q (oLnI j j uF22 j)<|q (oBi j j j j)<|q (oAsI j j)<|nl)<|us<|gs<|gs<|g0 j j (q (oMv j j)<|q (oBi j j j j)<|nl)<|us<|gc h j iDec (fun hc1 h=>?_) fun hc1 h=>?_
 ·refine gs<|g0 j j (q (oAsI j j)<|nl)<|us<|Go.ret (Unw.ret ?_)
  cases h
  exact fr rF4 j
 ·refine Go.skip<|us<|gs<|gs<|g0 j j (q (oAsI j j)<|nl)<|us<|Go.block<|?_
  obtain ⟨o,hl,h⟩:=bs h
  refine gl c4 j _ (fun (s:(Int×Int))=>match s with | (left_1_l5,i_5_l5)=>mk [(0,D 2 (W 8 e_S_Loss a_0)),(1,iv left_1_l5),(5,iv i_5_l5)] []) (fun (o:(Int ⊕ Int)) (p:Ex×St)=>match o with | (.inl left_1_e0_5)=>p.1= .exit 0∧p.2.norm ([1],[])=mk [(1,iv left_1_e0_5)] [] | (.inr r2)=>p.1= .ret∧fin Try.prog cfg 4 Try.f4 [.im 2 false [W 8 e_S_Loss a_0],.im 2 false [I left_1]] p.2=some (B0 [(false,[.im 0 (I r2)])])) hl (by kernel_rfl) ?_ ?_ ?_
  ·intro o p hp e
   rcases o with left_1_e0_5 | r2<;>exact nomatch (hp.1.symm.trans e)
  ·rintro ⟨left_1_l5,i_5_l5⟩ o h
   unfold laws_szLossS_l5 at h
   dsimp only at h
   refine gs<|gs<|g0 j j (q (oMv j j)<|q (oMv j j)<|q (oLnI j j uF22 j)<|q (oBi j j j j)<|nl)<|us<|gc h j iDec (fun hc6 h=>?_) fun hc6 h=>?_
   ·refine Go.skip<|us<|gs<|Go.block<|gs<|?_
    obtain ⟨x20,hx20,h⟩:=bs h
    obtain ⟨x23,hx23,h⟩:=bs h
    refine g0 j j (q (oMv j j)<|q (oMv j j)<|q (oIAI j hx20 sF22 j j)<|q (oLd (cs:=[.im 2 _,.im 2 _,.im 2 _,.im 2 _,.im 2 _,.im 2 _,.im 2 _,.im 2 _]) j tF38 j j)<|q (oMv j j)<|q (oCa (xs:=[.v true [.im 2 _,.im 2 _,.im 2 _,.im 2 _,.im 2 _,.im 2 _,.im 2 _,.im 2 _],.v false [.im 0 _]]) (vs:=[(false,[.im 0 _])]) (v:=.v false [.im 0 _]) (L_laws_szLoss hx23) (.inl j) j kF13_38_3 j (ppC j (ppC j pp0)) j j pb0 j j j)<|q (oAsI j j)<|nl)<|us<|gs<|g0 j j (q (oMv j j)<|q (oBi j j j j)<|nl)<|us<|gc h j iDec (fun hc7 h=>?_) fun hc7 h=>?_
    ·refine gs<|g0 j j (q (oAsI j j)<|nl)<|us<|Go.ret (Unw.ret ?_)
     cases h
     exact ⟨j,(fo rF4 j)⟩
    ·refine Go.skip<|Unw.blk<|us<|g0 j j (q (oMv j j)<|q (oBi j j j j)<|q (oAsI j j)<|nl)<|Unw.nil<|?_
     cases h
     exact ⟨j,(by kernel_rfl)⟩
   ·refine Go.exit<|ux<|Unw.nil<|?_
    cases h
    exact ⟨j,(by kernel_rfl)⟩
  ·rintro ⟨e,st⟩ hp
   rcases o with left_1_e0_5 | r2
   ·dsimp only at h
    obtain ⟨he,hst⟩:=hp
    obtain rfl:e= .exit 0:=he
    refine Unw.blkx<|us<|gs<|g2 c4 j j hst (q (oMv j j)<|q (oAsI j j)<|nl)<|us<|Go.ret (Unw.ret ?_)
    cases h
    exact fr rF4 j
   ·dsimp only at h
    obtain ⟨he,hfin⟩:=hp
    obtain rfl:e= .ret:=he
    cases h
    exact Unw.ret (Fin_ret hfin)
theorem L_laws_toVeneer {a_0:S_Veneer} {r:S_Veneer} (h:laws_toVeneer a_0=some r):FX 26 [.im 2 true (u_S_Veneer a_0)] (B0 [(true,J 0 (u_S_Veneer r))]):=by
 unfold laws_toVeneer at h
 refine gn 14 Try.func26 rfl ?_
 refine gs<|g0 j j (q (oBx j tF36 j (tkI (tkI (tkI tk0))))<|q (oAl j tF47 (tkI (tkI (tkI tk0))))<|nl)<|us<|gs<|g0 j j (q (oAl j tF47 (tkI (tkI (tkI tk0))))<|nl)<|us<|gs<|g0 j j (q (oFA (r':=.mp 1 0 0) j fF36_0 j j)<|q (oLd (cs:=[.im 0 _]) j tF9 j j)<|q (oFA (r':=.mp 3 0 0) j fF47_0 j j)<|q (oSt tF9 j j j (tkI tk0) j j j)<|nl)<|us<|gs<|g1 j j (mk [(1,M 1),(2,M 2),(3,M 3)] [(1,Oa (G 0 (u_S_Veneer a_0))),(2,Oa [C (Y (⟨#[]⟩:ByteArray)),C (I 0),C (I 0)]),(3,Oa [C (Y a_0.Species),C (I 0),C (I 0)])]) (q (oFA (r':=.mp 1 0 1) j fF36_1 j j)<|q (oLd (cs:=[.im 0 _]) j tF2 j j)<|q (oFA (r':=.mp 3 0 1) j fF47_1 j j)<|q (oSt tF2 j j j (tkI tk0) j j j)<|nl)<|us<|gs<|g1 j j (mk [(1,M 1),(2,M 2),(3,M 3)] [(1,Oa (G 0 (u_S_Veneer a_0))),(2,Oa [C (Y (⟨#[]⟩:ByteArray)),C (I 0),C (I 0)]),(3,Oa [C (Y a_0.Species),C (I a_0.Shade),C (I 0)])]) (q (oFA (r':=.mp 1 0 2) j fF36_2 j j)<|q (oLd (cs:=[.im 0 _]) j tF2 j j)<|q (oFA (r':=.mp 3 0 2) j fF47_2 j j)<|q (oSt tF2 j j j (tkI tk0) j j j)<|nl)<|us<|gs<|g1 j j (mk [(2,M 2),(3,M 3)] [(2,Oa [C (Y (⟨#[]⟩:ByteArray)),C (I 0),C (I 0)]),(3,Oa (G 0 (u_S_Veneer a_0)))]) (q (oLd (cs:=[.im 0 _,.im 0 _,.im 0 _]) j tF47 j j)<|q (oSt tF47 j j j (tkI (tkI (tkI tk0))) j j j)<|nl)<|us<|Go.ret (Unw.ret ?_)
 cases h
 exact fr rF26 j
theorem L_laws_toLoss {a_0:S_Loss} {r:S_Loss} (h:laws_toLoss a_0=some r):FX 19 [.im 2 true (u_S_Loss a_0)] (B0 [(true,J 0 (u_S_Loss r))]):=by
 unfold laws_toLoss at h
 refine gn 24 Try.func19 rfl ?_
 refine gs<|g0 j j (q (oBx j tF38 j (tkI (tkI (tkI (tkI (tkI (tkI (tkI (tkI tk0)))))))))<|q (oAl j tF49 (tkI (tkI (tkI (tkI (tkI (tkI (tkI (tkI tk0)))))))))<|nl)<|us<|gs<|g1 j j (mk [(1,M 1),(2,M 2)] [(1,Oa (G 0 (u_S_Loss a_0))),(2,Oa [C (Y (⟨#[]⟩:ByteArray)),C (Y (⟨#[]⟩:ByteArray)),C (I 0),C (I 0),C (I 0),C (I 0),C (I 0),C (I 0)])]) (q (oAl j tF49 (tkI (tkI (tkI (tkI (tkI (tkI (tkI (tkI tk0)))))))))<|nl)<|us<|gs<|g1 j j (mk [(1,M 1),(2,M 2),(3,M 3)] [(1,Oa (G 0 (u_S_Loss a_0))),(2,Oa [C (Y (⟨#[]⟩:ByteArray)),C (Y (⟨#[]⟩:ByteArray)),C (I 0),C (I 0),C (I 0),C (I 0),C (I 0),C (I 0)]),(3,Oa [C (Y (⟨#[]⟩:ByteArray)),C (Y (⟨#[]⟩:ByteArray)),C (I 0),C (I 0),C (I 0),C (I 0),C (I 0),C (I 0)])]) (q (oFA (r':=.mp 1 0 0) j fF38_0 j j)<|q (oLd (cs:=[.im 0 _]) j tF9 j j)<|q (oFA (r':=.mp 3 0 0) j fF49_0 j j)<|q (oSt tF9 j j j (tkI tk0) j j j)<|nl)<|us<|gs<|?_
 obtain ⟨x9,hx9,h⟩:=bs h
 refine g1 j j (mk [(1,M 1),(2,M 2),(3,M 3)] [(1,Oa (G 0 (u_S_Loss a_0))),(2,Oa [C (Y (⟨#[]⟩:ByteArray)),C (Y (⟨#[]⟩:ByteArray)),C (I 0),C (I 0),C (I 0),C (I 0),C (I 0),C (I 0)]),(3,Oa [C (Y a_0.Name),C (Y (⟨#[]⟩:ByteArray)),C (I 0),C (I 0),C (I 0),C (I 0),C (I 0),C (I 0)])]) (q (oFA (r':=.mp 1 0 1) j fF38_1 j j)<|q (oLd (cs:=[.im 0 _,.im 0 _,.im 0 _]) j tF36 j j)<|q (oCa (xs:=[.v true [.im 0 _,.im 0 _,.im 0 _]]) (vs:=[(true,[.im 0 _,.im 0 _,.im 0 _])]) (v:=.v true [.im 0 _,.im 0 _,.im 0 _]) (L_laws_toVeneer hx9) (.inl j) j kF26_36 j (ppC j pp0) j j pb0 j j j)<|q (oFA (r':=.mp 3 0 1) j fF49_1 j j)<|q (oSt tF47 j j j (tkI (tkI (tkI tk0))) j j j)<|nl)<|us<|gs<|g1 j j (mk [(1,M 1),(2,M 2),(3,M 3)] [(1,Oa (G 0 (u_S_Loss a_0))),(2,Oa [C (Y (⟨#[]⟩:ByteArray)),C (Y (⟨#[]⟩:ByteArray)),C (I 0),C (I 0),C (I 0),C (I 0),C (I 0),C (I 0)]),(3,Oa [C (Y a_0.Name),C (Y x9.Species),C (I x9.Shade),C (I x9.Grain),C (I 0),C (I 0),C (I 0),C (I 0)])]) (q (oFA (r':=.mp 1 0 4) j fF38_2 j j)<|q (oLd (cs:=[.im 0 _]) j tF2 j j)<|q (oFA (r':=.mp 3 0 4) j fF49_2 j j)<|q (oSt tF2 j j j (tkI tk0) j j j)<|nl)<|us<|gs<|g1 j j (mk [(1,M 1),(2,M 2),(3,M 3)] [(1,Oa (G 0 (u_S_Loss a_0))),(2,Oa [C (Y (⟨#[]⟩:ByteArray)),C (Y (⟨#[]⟩:ByteArray)),C (I 0),C (I 0),C (I 0),C (I 0),C (I 0),C (I 0)]),(3,Oa [C (Y a_0.Name),C (Y x9.Species),C (I x9.Shade),C (I x9.Grain),C (I a_0.Area),C (I 0),C (I 0),C (I 0)])]) (q (oFA (r':=.mp 1 0 5) j fF38_3 j j)<|q (oLd (cs:=[.im 0 _]) j tF2 j j)<|q (oFA (r':=.mp 3 0 5) j fF49_3 j j)<|q (oSt tF2 j j j (tkI tk0) j j j)<|nl)<|us<|gs<|g1 j j (mk [(1,M 1),(2,M 2),(3,M 3)] [(1,Oa (G 0 (u_S_Loss a_0))),(2,Oa [C (Y (⟨#[]⟩:ByteArray)),C (Y (⟨#[]⟩:ByteArray)),C (I 0),C (I 0),C (I 0),C (I 0),C (I 0),C (I 0)]),(3,Oa [C (Y a_0.Name),C (Y x9.Species),C (I x9.Shade),C (I x9.Grain),C (I a_0.Area),C (I a_0.Priority),C (I 0),C (I 0)])]) (q (oFA (r':=.mp 1 0 6) j fF38_4 j j)<|q (oLd (cs:=[.im 0 _]) j tF2 j j)<|q (oFA (r':=.mp 3 0 6) j fF49_4 j j)<|q (oSt tF2 j j j (tkI tk0) j j j)<|nl)<|us<|gs<|g1 j j (mk [(1,M 1),(2,M 2),(3,M 3)] [(1,Oa (G 0 (u_S_Loss a_0))),(2,Oa [C (Y (⟨#[]⟩:ByteArray)),C (Y (⟨#[]⟩:ByteArray)),C (I 0),C (I 0),C (I 0),C (I 0),C (I 0),C (I 0)]),(3,Oa [C (Y a_0.Name),C (Y x9.Species),C (I x9.Shade),C (I x9.Grain),C (I a_0.Area),C (I a_0.Priority),C (I a_0.Cost),C (I 0)])]) (q (oFA (r':=.mp 1 0 7) j fF38_5 j j)<|q (oLd (cs:=[.im 0 _]) j tF2 j j)<|q (oFA (r':=.mp 3 0 7) j fF49_5 j j)<|q (oSt tF2 j j j (tkI tk0) j j j)<|nl)<|us<|gs<|g1 j j (mk [(2,M 2),(3,M 3)] [(2,Oa [C (Y (⟨#[]⟩:ByteArray)),C (Y (⟨#[]⟩:ByteArray)),C (I 0),C (I 0),C (I 0),C (I 0),C (I 0),C (I 0)]),(3,Oa [C (Y a_0.Name),C (Y x9.Species),C (I x9.Shade),C (I x9.Grain),C (I a_0.Area),C (I a_0.Priority),C (I a_0.Cost),C (I a_0.Minutes)])]) (q (oLd (cs:=[.im 0 _,.im 0 _,.im 0 _,.im 0 _,.im 0 _,.im 0 _,.im 0 _,.im 0 _]) j tF49 j j)<|q (oSt tF49 j j j (tkI (tkI (tkI (tkI (tkI (tkI (tkI (tkI tk0)))))))) j j j)<|nl)<|us<|Go.ret (Unw.ret ?_)
 cases h
 exact fr rF19 j
theorem L_laws_toLossS {a_0:(List S_Loss)} {r:(List S_Loss)} (h:laws_toLossS a_0=some r):FX 6 [.im 2 false [W 8 e_S_Loss a_0]] (B0 [(false,[.ow 0 8 (List.map e_S_Loss r)])]):=by
 unfold laws_toLossS at h
 refine gn 23 Try.func6 rfl ?_
 refine gs<|g0 j j (q (oAsN j j eF27)<|nl)<|us<|gs<|?_
 obtain ⟨x7,hx7,h⟩:=bs h
 refine g0 j j (q (oMv j j)<|q (oLnI j j uF22 j)<|q (oMk (en:=e_S_Loss) j hx7 j sF27 j j (fxI (fxI (fxI (fxI (fxI (fxI (fxI (fxI fx0)))))))) j (flat0 (L:=[_]) j fun _=>j))<|q (oAsO j j j j j)<|nl)<|us<|gs<|gs<|g0 j j (q (oAsI j j)<|nl)<|us<|Go.block<|?_
 obtain ⟨o,hl,h⟩:=bs h
 refine gl c6 j _ (fun (s:(Int×(List S_Loss)))=>match s with | (i_4_l3,out_o3_l3)=>mk [(0,D 2 (W 8 e_S_Loss a_0)),(3,H 3 0),(4,iv i_4_l3)] [(3,Oc [Z (W 8 e_S_Loss out_o3_l3)])]) (fun (out_o3_e0_3:(List S_Loss)) (p:Ex×St)=>p.1= .exit 0∧p.2.norm ([3],[3])=mk [(3,H 3 0)] [(3,Oc [Z (W 8 e_S_Loss out_o3_e0_3)])]) hl (by kernel_rfl) ?_ ?_ ?_
 ·intro o p hp e
  exact nomatch (hp.1.symm.trans e)
 ·rintro ⟨i_4_l3,out_o3_l3⟩ o h
  unfold laws_toLossS_l3 at h
  dsimp only at h
  refine gs<|gs<|g0 j j (q (oMv j j)<|q (oMv j j)<|q (oLnI j j uF22 j)<|q (oBi j j j j)<|nl)<|us<|gc h j iDec (fun hc3 h=>?_) fun hc3 h=>?_
  ·refine Go.skip<|us<|gs<|Go.block<|?_
   obtain ⟨x18,hx18,h⟩:=bs h
   obtain ⟨x20,hx20,h⟩:=bs h
   obtain ⟨x21,hx21,h⟩:=bs h
   refine g0 j j (q (oMv j j)<|q (oMv j j)<|q (oMv j j)<|q (oMv j j)<|q (oIAI j hx18 sF22 j j)<|q (oLd (cs:=[.im 2 _,.im 2 _,.im 2 _,.im 2 _,.im 2 _,.im 2 _,.im 2 _,.im 2 _]) j tF38 j j)<|q (oCa (xs:=[.v true [.im 2 _,.im 2 _,.im 2 _,.im 2 _,.im 2 _,.im 2 _,.im 2 _,.im 2 _]]) (vs:=[(true,[.im 0 _,.im 0 _,.im 0 _,.im 0 _,.im 0 _,.im 0 _,.im 0 _,.im 0 _])]) (v:=.v true [.im 0 _,.im 0 _,.im 0 _,.im 0 _,.im 0 _,.im 0 _,.im 0 _,.im 0 _]) (L_laws_toLoss hx20) (.inl j) j kF19_38 j (ppC j pp0) j j pb0 j j j)<|q (oIAO j hx21 sF27 j j j j)<|q (oStE (v':=x20) tF49 j j j (fxI (fxI (fxI (fxI (fxI (fxI (fxI (fxI fx0)))))))) j j (rd_get hx21) j)<|nl)<|Unw.blk<|us<|g1 j j (mk [(0,D 2 (W 8 e_S_Loss a_0)),(3,H 3 0),(4,iv i_4_l3)] [(3,Oc [Z (W 8 e_S_Loss (out_o3_l3.set i_4_l3.toNat x20))])]) (q (oMv j j)<|q (oBi j j j j)<|q (oAsI j j)<|nl)<|Unw.nil<|?_
   cases h
   exact ⟨j,(by kernel_rfl)⟩
  ·refine Go.exit<|ux<|Unw.nil<|?_
   cases h
   exact ⟨j,(by kernel_rfl)⟩
 ·rintro ⟨e,st⟩ hp
  obtain ⟨out_o3_e0_3,rfl⟩:∃y,y=o:=⟨o,rfl⟩
  obtain ⟨he,hst⟩:=hp
  obtain rfl:e= .exit 0:=he
  refine Unw.blkx<|us<|gs<|g2 c6 j j hst (q (oMv j j)<|q (oAsO j j j j j)<|nl)<|us<|Go.ret (Unw.ret ?_)
  cases h
  exact fr rF6 j
theorem L_spec_l01Small {c_0:Int} {r:Bool} (h:spec_l01Small c_0=some r):FX 34 [.im 2 false [.sc (.int .u8 c_0)]] (B0 [(false,[.im 0 (V r)])]):=by
 unfold spec_l01Small at h
 refine gn 9 Try.func34 rfl ?_
 refine gs<|g0 j j (q (oAsI j j)<|nl)<|us<|gs<|gX c34 j j j (mk [(2,bv ((decide (c_0≥97))&&(decide (c_0≤122))))] []) ?_ ?_
 ·refine xq (oMv j j)<|xq (oBi j j j j)<|xq (oMv j j)<|?_
  by_cases hc1:c_0≥97
  ·exact xqT rfl rfl (iDec.2 hc1) (oMv rfl rfl)<|xqT rfl rfl (iDec.2 hc1) (oBi rfl rfl rfl rfl)<|xq (oPkT rfl rfl (iDec.2 hc1) rfl)<|xq (oAsI rfl rfl)<|xn (Eq.trans (b:=(fun t_2_m1:Bool=>mk [(2,bv t_2_m1)] []) (decide (c_0≤122))) (by kernel_rfl) (congrArg (fun t_2_m1:Bool=>mk [(2,bv t_2_m1)] []) (by first | rfl | (simp [(iDec.2 hc1)];done) | (simp [(iDec.2 hc1)];omega))))
  ·exact xsgF rfl rfl (byF iDec hc1) rfl<|xsgF rfl rfl (byF iDec hc1) rfl<|xq (oPkF rfl rfl (byF iDec hc1) rfl)<|xq (oAsI rfl rfl)<|xn (Eq.trans (b:=(fun t_2_m1:Bool=>mk [(2,bv t_2_m1)] []) false) (by kernel_rfl) (congrArg (fun t_2_m1:Bool=>mk [(2,bv t_2_m1)] []) (by first | rfl | (simp [(byF iDec hc1)];done) | (simp [(byF iDec hc1)];omega))))
 ·refine us<|Go.ret (Unw.ret ?_)
  cases h
  exact fr rF34 j
theorem L_spec_l01Digit {c_0:Int} {r:Bool} (h:spec_l01Digit c_0=some r):FX 35 [.im 2 false [.sc (.int .u8 c_0)]] (B0 [(false,[.im 0 (V r)])]):=by
 unfold spec_l01Digit at h
 refine gn 9 Try.func35 rfl ?_
 refine gs<|g0 j j (q (oAsI j j)<|nl)<|us<|gs<|gX c35 j j j (mk [(2,bv ((decide (c_0≥48))&&(decide (c_0≤57))))] []) ?_ ?_
 ·refine xq (oMv j j)<|xq (oBi j j j j)<|xq (oMv j j)<|?_
  by_cases hc1:c_0≥48
  ·exact xqT rfl rfl (iDec.2 hc1) (oMv rfl rfl)<|xqT rfl rfl (iDec.2 hc1) (oBi rfl rfl rfl rfl)<|xq (oPkT rfl rfl (iDec.2 hc1) rfl)<|xq (oAsI rfl rfl)<|xn (Eq.trans (b:=(fun t_2_m1:Bool=>mk [(2,bv t_2_m1)] []) (decide (c_0≤57))) (by kernel_rfl) (congrArg (fun t_2_m1:Bool=>mk [(2,bv t_2_m1)] []) (by first | rfl | (simp [(iDec.2 hc1)];done) | (simp [(iDec.2 hc1)];omega))))
  ·exact xsgF rfl rfl (byF iDec hc1) rfl<|xsgF rfl rfl (byF iDec hc1) rfl<|xq (oPkF rfl rfl (byF iDec hc1) rfl)<|xq (oAsI rfl rfl)<|xn (Eq.trans (b:=(fun t_2_m1:Bool=>mk [(2,bv t_2_m1)] []) false) (by kernel_rfl) (congrArg (fun t_2_m1:Bool=>mk [(2,bv t_2_m1)] []) (by first | rfl | (simp [(byF iDec hc1)];done) | (simp [(byF iDec hc1)];omega))))
 ·refine us<|Go.ret (Unw.ret ?_)
  cases h
  exact fr rF35 j
theorem L_spec_l01Name {s_0:ByteArray} {r:Bool} (h:spec_l01Name s_0=some r):FX 31 [.im 2 false [Y s_0]] (B0 [(false,[.im 0 (V r)])]):=by
 unfold spec_l01Name at h
 refine gn 35 Try.func31 rfl ?_
 refine gs<|g0 j j (q (oAsI j j)<|nl)<|us<|gs<|gs<|?_
 obtain ⟨t_16_m1,hm16,h⟩:=bs h
 refine gX c31 j j j (mk [(0,sv s_0),(16,bv t_16_m1)] []) ?_ ?_
 ·refine xq (oMv j j)<|xq (oBi j j j j)<|xq (oMv j j)<|?_
  refine ic hm16 (fun hc1 hm16=>?_) fun hc1 hm16=>?_
  ·cases hm16
   exact xsgF j j (iStr.2 hc1) j<|xsgF j j (iStr.2 hc1) j<|xsgF j j (iStr.2 hc1) j<|xq (oPkT j j (iStr.2 hc1) j)<|xq (oMv j j)<|xsgF j j j j<|xsgF j j j j<|xsgF j j j j<|xsgF j j j j<|xq (oPkT j j j j)<|xn
  ·refine xqT j j (byF iStr hc1) (oMv j j)<|xqT j j (byF iStr hc1) (oLnS j j uF9 j)<|xqT j j (byF iStr hc1) (oBi j j j j)<|xq (oPkF j j (byF iStr hc1) j)<|xq (oMv j j)<|?_
   refine ic hm16 (fun hc2 hm16=>?_) fun hc2 hm16=>?_
   ·cases hm16
    exact xsgF j j (iDec.2 hc2) j<|xsgF j j (iDec.2 hc2) j<|xsgF j j (iDec.2 hc2) j<|xsgF j j (iDec.2 hc2) j<|xq (oPkT j j (iDec.2 hc2) j)<|xn
   ·obtain ⟨x13,hx13,hm16⟩:=bs hm16
    obtain ⟨x14,hx14,hm16⟩:=bs hm16
    cases hm16
    exact xqT j j (byF iDec hc2) (oMv j j)<|xqT j j (byF iDec hc2) (oIx j hx13 uF9 j j)<|xqT j j (byF iDec hc2) (oCa (xs:=[.v false [.im 0 _]]) (vs:=[(false,[.im 0 _])]) (v:=.v false [.im 0 _]) (L_spec_l01Small hx14) (.inl j) j kF34_5 j (ppC j pp0) j j pb0 j j j)<|xqT j j (byF iDec hc2) (oUn j j j)<|xq (oPkF j j (byF iDec hc2) j)<|xn
 ·refine us<|gc h j iR (fun hc3 h=>?_) fun hc3 h=>?_
  ·refine gs<|g0 j j (q (oAsI j j)<|nl)<|us<|Go.ret (Unw.ret ?_)
   cases h
   exact fr rF31 j
  ·refine Go.skip<|us<|gs<|gs<|g0 j j (q (oAsI j j)<|nl)<|us<|Go.block<|?_
   obtain ⟨o,hl,h⟩:=bs h
   refine gl c31 j _ (fun (i_3_l4:Int)=>mk [(0,sv s_0),(3,iv i_3_l4)] []) (fun (o:(Unit ⊕ Bool)) (p:Ex×St)=>match o with | (.inl _)=>p.1= .exit 0∧p.2.norm ([],[])=mk [] [] | (.inr r2)=>p.1= .ret∧fin Try.prog cfg 31 Try.f31 [.im 2 false [Y s_0]] p.2=some (B0 [(false,[.im 0 (V r2)])])) hl (by kernel_rfl) ?_ ?_ ?_
   ·intro o p hp e
    rcases o with u | r2<;>exact nomatch (hp.1.symm.trans e)
   ·rintro i_3_l4 o h
    unfold spec_l01Name_l4 at h
    refine gs<|gs<|g0 j j (q (oMv j j)<|q (oMv j j)<|q (oLnS j j uF9 j)<|q (oBi j j j j)<|nl)<|us<|gc h j iDec (fun hc12 h=>?_) fun hc12 h=>?_
    ·refine Go.skip<|us<|gs<|Go.block<|gs<|?_
     obtain ⟨x25,hx25,h⟩:=bs h
     obtain ⟨x26,hx26,h⟩:=bs h
     obtain ⟨t_34_m6,hm15,h⟩:=bs h
     refine gX c31 j j j (mk [(0,sv s_0),(3,iv i_3_l4),(34,bv t_34_m6)] []) ?_ ?_
     ·refine xq (oMv j j)<|xq (oMv j j)<|xq (oIx j hx25 uF9 j j)<|xq (oCa (xs:=[.v false [.im 0 _]]) (vs:=[(false,[.im 0 _])]) (v:=.v false [.im 0 _]) (L_spec_l01Small hx26) (.inl j) j kF34_5 j (ppC j pp0) j j pb0 j j j)<|xq (oUn j j j)<|xq (oMv j j)<|?_
      refine ic hm15 (fun hc13 hm15=>?_) fun hc13 hm15=>?_
      ·cases hm15
       exact xsgF j j (nF (iR.2 hc13)) j<|xsgF j j (nF (iR.2 hc13)) j<|xsgF j j (nF (iR.2 hc13)) j<|xsgF j j (nF (iR.2 hc13)) j<|xsgF j j (nF (iR.2 hc13)) j<|xq (oPkF j j (nF (iR.2 hc13)) j)<|xn
      ·obtain ⟨x31,hx31,hm15⟩:=bs hm15
       obtain ⟨x32,hx32,hm15⟩:=bs hm15
       cases hm15
       exact xqT j j (nT (byF iR hc13)) (oMv j j)<|xqT j j (nT (byF iR hc13)) (oMv j j)<|xqT j j (nT (byF iR hc13)) (oIx j hx31 uF9 j j)<|xqT j j (nT (byF iR hc13)) (oCa (xs:=[.v false [.im 0 _]]) (vs:=[(false,[.im 0 _])]) (v:=.v false [.im 0 _]) (L_spec_l01Digit hx32) (.inl j) j kF35_5 j (ppC j pp0) j j pb0 j j j)<|xqT j j (nT (byF iR hc13)) (oUn j j j)<|xq (oPkT j j (nT (byF iR hc13)) j)<|xn
     ·refine us<|gc h j iR (fun hc14 h=>?_) fun hc14 h=>?_
      ·refine gs<|g0 j j (q (oAsI j j)<|nl)<|us<|Go.ret (Unw.ret ?_)
       cases h
       exact ⟨j,(fo rF31 j)⟩
      ·refine Go.skip<|Unw.blk<|us<|g0 j j (q (oMv j j)<|q (oBi j j j j)<|q (oAsI j j)<|nl)<|Unw.nil<|?_
       cases h
       exact ⟨j,(by kernel_rfl)⟩
    ·refine Go.exit<|ux<|Unw.nil<|?_
     cases h
     exact ⟨j,(by kernel_rfl)⟩
   ·rintro ⟨e,st⟩ hp
    rcases o with u | r2
    ·dsimp only at h
     obtain ⟨he,hst⟩:=hp
     obtain rfl:e= .exit 0:=he
     refine Unw.blkx<|us<|gs<|g2 c31 j j hst (q (oAsI j j)<|nl)<|us<|Go.ret (Unw.ret ?_)
     cases h
     exact fr rF31 j
    ·dsimp only at h
     obtain ⟨he,hfin⟩:=hp
     obtain rfl:e= .ret:=he
     cases h
     exact Unw.ret (Fin_ret hfin)
theorem L_spec_l07Names {r:(List ByteArray)} (h:spec_l07Names=some r):FX 41 [] (B0 [(false,[.ow 0 1 (List.map eS r)])]):=by
 unfold spec_l07Names at h
 refine gn 2 Try.func41 rfl ?_
 refine gs<|g0 j j (q (oAsN j j eF74)<|nl)<|us<|gs<|g0 j j (q (oBS (es:=List.map eS ([(⟨#[97,115,104]⟩:ByteArray),(⟨#[98,101,101,99,104]⟩:ByteArray),(⟨#[98,105,114,99,104]⟩:ByteArray),(⟨#[99,104,101,114,114,121]⟩:ByteArray),(⟨#[101,98,111,110,121]⟩:ByteArray),(⟨#[104,111,108,108,121]⟩:ByteArray),(⟨#[109,97,112,108,101]⟩:ByteArray),(⟨#[111,97,107]⟩:ByteArray),(⟨#[114,111,115,101,119,111,111,100]⟩:ByteArray),(⟨#[119,97,108,110,117,116]⟩:ByteArray)]:List ByteArray)) j sF74 j (ptC j (fxI fx0) j (ptC j (fxI fx0) j (ptC j (fxI fx0) j (ptC j (fxI fx0) j (ptC j (fxI fx0) j (ptC j (fxI fx0) j (ptC j (fxI fx0) j (ptC j (fxI fx0) j (ptC j (fxI fx0) j (ptC j (fxI fx0) j pt0)))))))))) (flat0 j fun _=>j))<|q (oAsO j j j j j)<|nl)<|us<|Go.ret (Unw.ret ?_)
 cases h
 exact fr rF41 j
theorem L_spec_l07Find {name_0:ByteArray} {r:Int} (h:spec_l07Find name_0=some r):FX 36 [.im 2 false [Y name_0]] (B0 [(false,[.im 0 (I r)])]):=by
 unfold spec_l07Find at h
 refine gn 19 Try.func36 rfl ?_
 refine gs<|g0 j j (q (oAsI j j)<|nl)<|us<|gs<|?_
 obtain ⟨x5,hx5,h⟩:=bs h
 refine g0 j j (q (oCr (xs:=[]) (vs:=[(false,[.own 5 0 0])]) (v:=.v false [.own 5 0 0]) (c:=⟨.sh,0,_⟩) (cs:=[]) (L_spec_l07Names hx5) (.inl j) j kF41_ j pp0 j j pb0 j j j)<|q (oAsO j j j j j)<|nl)<|us<|gs<|gs<|g0 j j (q (oAsI j j)<|nl)<|us<|Go.block<|?_
 obtain ⟨o,hl,h⟩:=bs h
 refine gl c36 j _ (fun (i_4_l3:Int)=>mk [(0,sv name_0),(3,H 3 0),(4,iv i_4_l3)] [(3,Oc [Z (W 1 eS x5)])]) (fun (o:(Unit ⊕ Int)) (p:Ex×St)=>match o with | (.inl _)=>p.1= .exit 0∧p.2.norm ([],[])=mk [] [] | (.inr r2)=>p.1= .ret∧fin Try.prog cfg 36 Try.f36 [.im 2 false [Y name_0]] p.2=some (B0 [(false,[.im 0 (I r2)])])) hl (by kernel_rfl) ?_ ?_ ?_
 ·intro o p hp e
  rcases o with u | r2<;>exact nomatch (hp.1.symm.trans e)
 ·rintro i_4_l3 o h
  unfold spec_l07Find_l3 at h
  refine gs<|gs<|g0 j j (q (oMv j j)<|q (oMv j j)<|q (oLnO j j uF74 j j j (fun e=>nomatch e))<|q (oBi j j j j)<|nl)<|us<|gc h j iDec (fun hc5 h=>?_) fun hc5 h=>?_
  ·refine Go.skip<|us<|gs<|Go.block<|gs<|?_
   obtain ⟨x14,hx14,h⟩:=bs h
   refine g0 j j (q (oMv j j)<|q (oMv j j)<|q (oIAO j hx14 sF74 j j j j)<|q (oLdE (cs:=[.im 0 _]) j tF9 j j j j (rd_get hx14) j j)<|q (oMv j j)<|q (oBi j j j j)<|nl)<|us<|gc h j iStr (fun hc6 h=>?_) fun hc6 h=>?_
   ·refine gs<|g0 j j (q (oMv j j)<|q (oAsI j j)<|nl)<|us<|Go.ret (Unw.ret ?_)
    cases h
    exact ⟨j,(fo rF36 j)⟩
   ·refine Go.skip<|Unw.blk<|us<|g0 j j (q (oMv j j)<|q (oBi j j j j)<|q (oAsI j j)<|nl)<|Unw.nil<|?_
    cases h
    exact ⟨j,(by kernel_rfl)⟩
  ·refine Go.exit<|ux<|Unw.nil<|?_
   cases h
   exact ⟨j,(by kernel_rfl)⟩
 ·rintro ⟨e,st⟩ hp
  rcases o with u | r2
  ·dsimp only at h
   obtain ⟨he,hst⟩:=hp
   obtain rfl:e= .exit 0:=he
   refine Unw.blkx<|us<|gs<|g2 c36 j j hst (q (oAsI j j)<|nl)<|us<|Go.ret (Unw.ret ?_)
   cases h
   exact fr rF36 j
  ·dsimp only at h
   obtain ⟨he,hfin⟩:=hp
   obtain rfl:e= .ret:=he
   cases h
   exact Unw.ret (Fin_ret hfin)
theorem L_spec_l00In {n_0:Int} {low_1:Int} {high_2:Int} {r:Bool} (h:spec_l00In n_0 low_1 high_2=some r):FX 15 [.im 2 false [I n_0],.im 2 false [I low_1],.im 2 false [I high_2]] (B0 [(false,[.im 0 (V r)])]):=by
 unfold spec_l00In at h
 refine gn 15 Try.func15 rfl ?_
 refine gs<|g0 j j (q (oAsI j j)<|nl)<|us<|gs<|gX c15 j j j (mk [(6,bv ((decide (n_0≥low_1))&&(decide (n_0≤high_2))))] []) ?_ ?_
 ·refine xq (oMv j j)<|xq (oMv j j)<|xq (oBi j j j j)<|xq (oMv j j)<|?_
  by_cases hc1:n_0≥low_1
  ·exact xqT rfl rfl (iDec.2 hc1) (oMv rfl rfl)<|xqT rfl rfl (iDec.2 hc1) (oMv rfl rfl)<|xqT rfl rfl (iDec.2 hc1) (oBi rfl rfl rfl rfl)<|xq (oPkT rfl rfl (iDec.2 hc1) rfl)<|xq (oAsI rfl rfl)<|xn (Eq.trans (b:=(fun t_6_m1:Bool=>mk [(6,bv t_6_m1)] []) (decide (n_0≤high_2))) (by kernel_rfl) (congrArg (fun t_6_m1:Bool=>mk [(6,bv t_6_m1)] []) (by first | rfl | (simp [(iDec.2 hc1)];done) | (simp [(iDec.2 hc1)];omega))))
  ·exact xsgF rfl rfl (byF iDec hc1) rfl<|xsgF rfl rfl (byF iDec hc1) rfl<|xsgF rfl rfl (byF iDec hc1) rfl<|xq (oPkF rfl rfl (byF iDec hc1) rfl)<|xq (oAsI rfl rfl)<|xn (Eq.trans (b:=(fun t_6_m1:Bool=>mk [(6,bv t_6_m1)] []) false) (by kernel_rfl) (congrArg (fun t_6_m1:Bool=>mk [(6,bv t_6_m1)] []) (by first | rfl | (simp [(byF iDec hc1)];done) | (simp [(byF iDec hc1)];omega))))
 ·refine us<|Go.ret (Unw.ret ?_)
  cases h
  exact fr rF15 j
theorem L_spec_l07Table {r:(List (List Int))} (h:spec_l07Table=some r):FX 37 [] (B0 [(false,[.ow 0 1 (List.map (eL 1 eI) r)])]):=by
 unfold spec_l07Table at h
 refine gn 12 Try.func37 rfl ?_
 refine gs<|g0 j j (q (oAsN j j eF70)<|nl)<|us<|gs<|g0 j j (q (oBS (es:=List.map eI ([20,40,310]:List Int)) j sF24 j (ptC j (fxI fx0) j (ptC j (fxI fx0) j (ptC j (fxI fx0) j pt0))) (flat0 j fun _=>j))<|q (oBS (es:=List.map eI ([35,45,410]:List Int)) j sF24 j (ptC j (fxI fx0) j (ptC j (fxI fx0) j (ptC j (fxI fx0) j pt0))) (flat0 j fun _=>j))<|q (oBS (es:=List.map eI ([15,33,280]:List Int)) j sF24 j (ptC j (fxI fx0) j (ptC j (fxI fx0) j (ptC j (fxI fx0) j pt0))) (flat0 j fun _=>j))<|q (oBS (es:=List.map eI ([50,36,240]:List Int)) j sF24 j (ptC j (fxI fx0) j (ptC j (fxI fx0) j (ptC j (fxI fx0) j pt0))) (flat0 j fun _=>j))<|q (oBS (es:=List.map eI ([95,85,270]:List Int)) j sF24 j (ptC j (fxI fx0) j (ptC j (fxI fx0) j (ptC j (fxI fx0) j pt0))) (flat0 j fun _=>j))<|q (oBS (es:=List.map eI ([5,35,370]:List Int)) j sF24 j (ptC j (fxI fx0) j (ptC j (fxI fx0) j (ptC j (fxI fx0) j pt0))) (flat0 j fun _=>j))<|q (oBS (es:=List.map eI ([10,42,290]:List Int)) j sF24 j (ptC j (fxI fx0) j (ptC j (fxI fx0) j (ptC j (fxI fx0) j pt0))) (flat0 j fun _=>j))<|q (oBS (es:=List.map eI ([40,40,330]:List Int)) j sF24 j (ptC j (fxI fx0) j (ptC j (fxI fx0) j (ptC j (fxI fx0) j pt0))) (flat0 j fun _=>j))<|q (oBS (es:=List.map eI ([80,60,220]:List Int)) j sF24 j (ptC j (fxI fx0) j (ptC j (fxI fx0) j (ptC j (fxI fx0) j pt0))) (flat0 j fun _=>j))<|q (oBS (es:=List.map eI ([70,38,260]:List Int)) j sF24 j (ptC j (fxI fx0) j (ptC j (fxI fx0) j (ptC j (fxI fx0) j pt0))) (flat0 j fun _=>j))<|q (oBS (es:=List.map (eL 1 eI) ([([20,40,310]:List Int),([35,45,410]:List Int),([15,33,280]:List Int),([50,36,240]:List Int),([95,85,270]:List Int),([5,35,370]:List Int),([10,42,290]:List Int),([40,40,330]:List Int),([80,60,220]:List Int),([70,38,260]:List Int)]:List (List Int))) j sF70 j (ptC j (fxO j j fx0) j (ptC j (fxO j j fx0) j (ptC j (fxO j j fx0) j (ptC j (fxO j j fx0) j (ptC j (fxO j j fx0) j (ptC j (fxO j j fx0) j (ptC j (fxO j j fx0) j (ptC j (fxO j j fx0) j (ptC j (fxO j j fx0) j (ptC j (fxO j j fx0) j pt0)))))))))) (flat1 j))<|q (oAsO j j j j j)<|nl)<|us<|Go.ret (Unw.ret ?_)
 cases h
 exact fr rF37 j
theorem L_spec_l07Grain {g_0:Int} {r:Bool} (h:spec_l07Grain g_0=some r):FX 38 [.im 2 false [I g_0]] (B0 [(false,[.im 0 (V r)])]):=by
 unfold spec_l07Grain at h
 refine gn 5 Try.func38 rfl ?_
 refine gs<|g0 j j (q (oAsI j j)<|nl)<|us<|gs<|?_
 obtain ⟨x4,hx4,h⟩:=bs h
 refine g0 j j (q (oMv j j)<|q (oCa (xs:=[.v false [.im 2 _],.v false [.im 0 _],.v false [.im 0 _]]) (vs:=[(false,[.im 0 _])]) (v:=.v false [.im 0 _]) (L_spec_l00In hx4) (.inl j) j kF15_2_2_2 j (ppC j (ppC j (ppC j pp0))) j j pb0 j j j)<|q (oAsI j j)<|nl)<|us<|Go.ret (Unw.ret ?_)
 cases h
 exact fr rF38 j
theorem L_spec_l07Ok {v_0:S_Veneer} {r:Bool} (h:spec_l07Ok v_0=some r):FX 32 [.im 2 false [.cp (u_S_Veneer v_0) 0]] (B0 [(false,[.im 0 (V r)])]):=by
 unfold spec_l07Ok at h
 refine gn 42 Try.func32 rfl ?_
 refine gs<|g0 j j (q (oAsI j j)<|nl)<|us<|gs<|?_
 obtain ⟨x9,hx9,h⟩:=bs h
 refine g0 j j (q (oMv j j)<|q (oNl j j j)<|q (oFA (r':=.im 2 _) j fF47_0 j j)<|q (oLd (cs:=[.im 2 _]) j tF9 j j)<|q (oCa (xs:=[.v false [.im 2 _]]) (vs:=[(false,[.im 0 _])]) (v:=.v false [.im 0 _]) (L_spec_l07Find hx9) (.inl j) j kF36_9 j (ppC j pp0) j j pb0 j j j)<|q (oAsI j j)<|nl)<|us<|gs<|gs<|?_
 obtain ⟨t_19_m2,hm5,h⟩:=bs h
 refine gX c32 j j j (mk [(0,D 2 (.cp (u_S_Veneer v_0) 0)),(3,iv x9),(19,bv t_19_m2)] []) ?_ ?_
 ·refine xq (oMv j j)<|xq (oBi j j j j)<|xq (oMv j j)<|?_
  refine ic hm5 (fun hc1 hm5=>?_) fun hc1 hm5=>?_
  ·cases hm5
   exact xsgF j j (iDec.2 hc1) j<|xsgF j j (iDec.2 hc1) j<|xsgF j j (iDec.2 hc1) j<|xsgF j j (iDec.2 hc1) j<|xsgF j j (iDec.2 hc1) j<|xsgF j j (iDec.2 hc1) j<|xq (oPkT j j (iDec.2 hc1) j)<|xn
  ·obtain ⟨x17,hx17,hm5⟩:=bs hm5
   cases hm5
   exact xqT j j (byF iDec hc1) (oMv j j)<|xqT j j (byF iDec hc1) (oNl j j j)<|xqT j j (byF iDec hc1) (oFA (r':=.im 2 _) j fF47_1 j j)<|xqT j j (byF iDec hc1) (oLd (cs:=[.im 2 _]) j tF2 j j)<|xqT j j (byF iDec hc1) (oCa (xs:=[.v false [.im 2 _],.v false [.im 0 _],.v false [.im 0 _]]) (vs:=[(false,[.im 0 _])]) (v:=.v false [.im 0 _]) (L_spec_l00In hx17) (.inl j) j kF15_2_2_2 j (ppC j (ppC j (ppC j pp0))) j j pb0 j j j)<|xqT j j (byF iDec hc1) (oUn j j j)<|xq (oPkF j j (byF iDec hc1) j)<|xn
 ·refine us<|gc h j iR (fun hc2 h=>?_) fun hc2 h=>?_
  ·refine gs<|g0 j j (q (oAsI j j)<|nl)<|us<|Go.ret (Unw.ret ?_)
   cases h
   exact fr rF32 j
  ·refine Go.skip<|us<|gs<|?_
   obtain ⟨x20,hx20,h⟩:=bs h
   obtain ⟨x22,hx22,h⟩:=bs h
   obtain ⟨x24,hx24,h⟩:=bs h
   refine g0 j j (q (oCr (xs:=[]) (vs:=[(false,[.own 20 0 0])]) (v:=.v false [.own 20 0 0]) (c:=⟨.sh,0,_⟩) (cs:=[]) (L_spec_l07Table hx20) (.inl j) j kF37_ j pp0 j j pb0 j j j)<|q (oMv j j)<|q (oIAO j hx22 sF70 j j j j)<|q (oLdE (cs:=[.im 0 _]) j tF24 j j j j (rd_get hx22) j j)<|q (oIAI j hx24 sF24 j j)<|q (oLd (cs:=[.im 0 _]) j tF2 j j)<|q (oAsI j j)<|nl)<|us<|gs<|?_
   obtain ⟨x34,hx34,h⟩:=bs h
   obtain ⟨t_2_m5,hm4,h⟩:=bs h
   refine gX c32 j j j (mk [(2,bv t_2_m5)] []) ?_ ?_
   ·refine xq (oMv j j)<|xq (oNl j j j)<|xq (oFA (r':=.im 2 _) j fF47_1 j j)<|xq (oLd (cs:=[.im 2 _]) j tF2 j j)<|xq (oMv j j)<|xq (oBi j j j j)<|xq (oMv j j)<|xq (oBi j j j j)<|xq (oCa (xs:=[.v false [.im 2 _],.v false [.im 0 _],.v false [.im 0 _]]) (vs:=[(false,[.im 0 _])]) (v:=.v false [.im 0 _]) (L_spec_l00In hx34) (.inl j) j kF15_2_2_2 j (ppC j (ppC j (ppC j pp0))) j j pb0 j j j)<|xq (oMv j j)<|?_
    refine ic hm4 (fun hc3 hm4=>?_) fun hc3 hm4=>?_
    ·obtain ⟨x40,hx40,hm4⟩:=bs hm4
     cases hm4
     exact xqT j j (iR.2 hc3) (oMv j j)<|xqT j j (iR.2 hc3) (oNl j j j)<|xqT j j (iR.2 hc3) (oFA (r':=.im 2 _) j fF47_2 j j)<|xqT j j (iR.2 hc3) (oLd (cs:=[.im 2 _]) j tF2 j j)<|xqT j j (iR.2 hc3) (oCa (xs:=[.v false [.im 2 _]]) (vs:=[(false,[.im 0 _])]) (v:=.v false [.im 0 _]) (L_spec_l07Grain hx40) (.inl j) j kF38_2 j (ppC j pp0) j j pb0 j j j)<|xq (oPkT j j (iR.2 hc3) j)<|xq (oAsI j j)<|xn
    ·cases hm4
     exact xsgF j j (byF iR hc3) j<|xsgF j j (byF iR hc3) j<|xsgF j j (byF iR hc3) j<|xsgF j j (byF iR hc3) j<|xsgF j j (byF iR hc3) j<|xq (oPkF j j (byF iR hc3) j)<|xq (oAsI j j)<|xn
   ·refine us<|Go.ret (Unw.ret ?_)
    cases h
    exact fr rF32 j
theorem L_spec_l25One {x_0:S_Loss} {r:Bool} (h:spec_l25One x_0=some r):FX 25 [.im 2 false [.cp (u_S_Loss x_0) 0]] (B0 [(false,[.im 0 (V r)])]):=by
 unfold spec_l25One at h
 refine gn 42 Try.func25 rfl ?_
 refine gs<|g0 j j (q (oAsI j j)<|nl)<|us<|gs<|?_
 obtain ⟨x7,hx7,h⟩:=bs h
 obtain ⟨t_2_m1,hm6,h⟩:=bs h
 refine gX c25 j j j (mk [(2,bv t_2_m1)] []) ?_ ?_
 ·refine xq (oMv j j)<|xq (oNl j j j)<|xq (oFA (r':=.im 2 _) j fF49_0 j j)<|xq (oLd (cs:=[.im 2 _]) j tF9 j j)<|xq (oCa (xs:=[.v false [.im 2 _]]) (vs:=[(false,[.im 0 _])]) (v:=.v false [.im 0 _]) (L_spec_l01Name hx7) (.inl j) j kF31_9 j (ppC j pp0) j j pb0 j j j)<|xq (oMv j j)<|?_
  refine ic hm6 (fun hc1 hm6=>?_) fun hc1 hm6=>?_
  ·obtain ⟨x12,hx12,hm6⟩:=bs hm6
   refine xqT j j (iR.2 hc1) (oMv j j)<|xqT j j (iR.2 hc1) (oNl j j j)<|xqT j j (iR.2 hc1) (oFA (r':=.im 2 _) j fF49_1 j j)<|xqT j j (iR.2 hc1) (oCa (xs:=[.v false [.im 2 _]]) (vs:=[(false,[.im 0 _])]) (v:=.v false [.im 0 _]) (L_spec_l07Ok hx12) (.inl j) j kF32_66 j (ppC j pp0) j j pb0 j j j)<|xq (oPkT j j (iR.2 hc1) j)<|xq (oMv j j)<|?_
   refine ic hm6 (fun hc2 hm6=>?_) fun hc2 hm6=>?_
   ·obtain ⟨x19,hx19,hm6⟩:=bs hm6
    refine xqT j j (iR.2 hc2) (oMv j j)<|xqT j j (iR.2 hc2) (oNl j j j)<|xqT j j (iR.2 hc2) (oFA (r':=.im 2 _) j fF49_2 j j)<|xqT j j (iR.2 hc2) (oLd (cs:=[.im 2 _]) j tF2 j j)<|xqT j j (iR.2 hc2) (oCa (xs:=[.v false [.im 2 _],.v false [.im 0 _],.v false [.im 0 _]]) (vs:=[(false,[.im 0 _])]) (v:=.v false [.im 0 _]) (L_spec_l00In hx19) (.inl j) j kF15_2_2_2 j (ppC j (ppC j (ppC j pp0))) j j pb0 j j j)<|xq (oPkT j j (iR.2 hc2) j)<|xq (oMv j j)<|?_
    refine ic hm6 (fun hc3 hm6=>?_) fun hc3 hm6=>?_
    ·obtain ⟨x26,hx26,hm6⟩:=bs hm6
     refine xqT j j (iR.2 hc3) (oMv j j)<|xqT j j (iR.2 hc3) (oNl j j j)<|xqT j j (iR.2 hc3) (oFA (r':=.im 2 _) j fF49_3 j j)<|xqT j j (iR.2 hc3) (oLd (cs:=[.im 2 _]) j tF2 j j)<|xqT j j (iR.2 hc3) (oCa (xs:=[.v false [.im 2 _],.v false [.im 0 _],.v false [.im 0 _]]) (vs:=[(false,[.im 0 _])]) (v:=.v false [.im 0 _]) (L_spec_l00In hx26) (.inl j) j kF15_2_2_2 j (ppC j (ppC j (ppC j pp0))) j j pb0 j j j)<|xq (oPkT j j (iR.2 hc3) j)<|xq (oMv j j)<|?_
     refine ic hm6 (fun hc4 hm6=>?_) fun hc4 hm6=>?_
     ·obtain ⟨x33,hx33,hm6⟩:=bs hm6
      refine xqT j j (iR.2 hc4) (oMv j j)<|xqT j j (iR.2 hc4) (oNl j j j)<|xqT j j (iR.2 hc4) (oFA (r':=.im 2 _) j fF49_4 j j)<|xqT j j (iR.2 hc4) (oLd (cs:=[.im 2 _]) j tF2 j j)<|xqT j j (iR.2 hc4) (oCa (xs:=[.v false [.im 2 _],.v false [.im 0 _],.v false [.im 0 _]]) (vs:=[(false,[.im 0 _])]) (v:=.v false [.im 0 _]) (L_spec_l00In hx33) (.inl j) j kF15_2_2_2 j (ppC j (ppC j (ppC j pp0))) j j pb0 j j j)<|xq (oPkT j j (iR.2 hc4) j)<|xq (oMv j j)<|?_
      refine ic hm6 (fun hc5 hm6=>?_) fun hc5 hm6=>?_
      ·obtain ⟨x40,hx40,hm6⟩:=bs hm6
       cases hm6
       exact xqT j j (iR.2 hc5) (oMv j j)<|xqT j j (iR.2 hc5) (oNl j j j)<|xqT j j (iR.2 hc5) (oFA (r':=.im 2 _) j fF49_5 j j)<|xqT j j (iR.2 hc5) (oLd (cs:=[.im 2 _]) j tF2 j j)<|xqT j j (iR.2 hc5) (oCa (xs:=[.v false [.im 2 _],.v false [.im 0 _],.v false [.im 0 _]]) (vs:=[(false,[.im 0 _])]) (v:=.v false [.im 0 _]) (L_spec_l00In hx40) (.inl j) j kF15_2_2_2 j (ppC j (ppC j (ppC j pp0))) j j pb0 j j j)<|xq (oPkT j j (iR.2 hc5) j)<|xq (oAsI j j)<|xn
      ·cases hm6
       exact xsgF j j (byF iR hc5) j<|xsgF j j (byF iR hc5) j<|xsgF j j (byF iR hc5) j<|xsgF j j (byF iR hc5) j<|xsgF j j (byF iR hc5) j<|xq (oPkF j j (byF iR hc5) j)<|xq (oAsI j j)<|xn
     ·cases hm6
      exact xsgF j j (byF iR hc4) j<|xsgF j j (byF iR hc4) j<|xsgF j j (byF iR hc4) j<|xsgF j j (byF iR hc4) j<|xsgF j j (byF iR hc4) j<|xq (oPkF j j (byF iR hc4) j)<|xq (oMv j j)<|xsgF j j j j<|xsgF j j j j<|xsgF j j j j<|xsgF j j j j<|xsgF j j j j<|xq (oPkF j j j j)<|xq (oAsI j j)<|xn
    ·cases hm6
     exact xsgF j j (byF iR hc3) j<|xsgF j j (byF iR hc3) j<|xsgF j j (byF iR hc3) j<|xsgF j j (byF iR hc3) j<|xsgF j j (byF iR hc3) j<|xq (oPkF j j (byF iR hc3) j)<|xq (oMv j j)<|xsgF j j j j<|xsgF j j j j<|xsgF j j j j<|xsgF j j j j<|xsgF j j j j<|xq (oPkF j j j j)<|xq (oMv j j)<|xsgF j j j j<|xsgF j j j j<|xsgF j j j j<|xsgF j j j j<|xsgF j j j j<|xq (oPkF j j j j)<|xq (oAsI j j)<|xn
   ·cases hm6
    exact xsgF j j (byF iR hc2) j<|xsgF j j (byF iR hc2) j<|xsgF j j (byF iR hc2) j<|xsgF j j (byF iR hc2) j<|xsgF j j (byF iR hc2) j<|xq (oPkF j j (byF iR hc2) j)<|xq (oMv j j)<|xsgF j j j j<|xsgF j j j j<|xsgF j j j j<|xsgF j j j j<|xsgF j j j j<|xq (oPkF j j j j)<|xq (oMv j j)<|xsgF j j j j<|xsgF j j j j<|xsgF j j j j<|xsgF j j j j<|xsgF j j j j<|xq (oPkF j j j j)<|xq (oMv j j)<|xsgF j j j j<|xsgF j j j j<|xsgF j j j j<|xsgF j j j j<|xsgF j j j j<|xq (oPkF j j j j)<|xq (oAsI j j)<|xn
  ·cases hm6
   exact xsgF j j (byF iR hc1) j<|xsgF j j (byF iR hc1) j<|xsgF j j (byF iR hc1) j<|xsgF j j (byF iR hc1) j<|xq (oPkF j j (byF iR hc1) j)<|xq (oMv j j)<|xsgF j j j j<|xsgF j j j j<|xsgF j j j j<|xsgF j j j j<|xsgF j j j j<|xq (oPkF j j j j)<|xq (oMv j j)<|xsgF j j j j<|xsgF j j j j<|xsgF j j j j<|xsgF j j j j<|xsgF j j j j<|xq (oPkF j j j j)<|xq (oMv j j)<|xsgF j j j j<|xsgF j j j j<|xsgF j j j j<|xsgF j j j j<|xsgF j j j j<|xq (oPkF j j j j)<|xq (oMv j j)<|xsgF j j j j<|xsgF j j j j<|xsgF j j j j<|xsgF j j j j<|xsgF j j j j<|xq (oPkF j j j j)<|xq (oAsI j j)<|xn
 ·refine us<|Go.ret (Unw.ret ?_)
  cases h
  exact fr rF25 j
theorem L_spec_l25Ok {list_0:(List S_Loss)} {r:Bool} (h:spec_l25Ok list_0=some r):FX 14 [.im 2 false [W 8 e_S_Loss list_0]] (B0 [(false,[.im 0 (V r)])]):=by
 unfold spec_l25Ok at h
 refine gn 36 Try.func14 rfl ?_
 refine gs<|g0 j j (q (oAsI j j)<|nl)<|us<|gs<|gs<|g0 j j (q (oAsI j j)<|nl)<|us<|Go.block<|?_
 obtain ⟨o,hl,h⟩:=bs h
 refine gl c14 j _ (fun (i_3_l2:Int)=>mk [(0,D 2 (W 8 e_S_Loss list_0)),(3,iv i_3_l2)] []) (fun (o:(Unit ⊕ Bool)) (p:Ex×St)=>match o with | (.inl _)=>p.1= .exit 0∧p.2.norm ([0],[])=mk [(0,D 2 (W 8 e_S_Loss list_0))] [] | (.inr r2)=>p.1= .ret∧fin Try.prog cfg 14 Try.f14 [.im 2 false [W 8 e_S_Loss list_0]] p.2=some (B0 [(false,[.im 0 (V r2)])])) hl (by kernel_rfl) ?_ ?_ ?_
 ·intro o p hp e
  rcases o with u | r2<;>exact nomatch (hp.1.symm.trans e)
 ·rintro i_3_l2 o h
  unfold spec_l25Ok_l2 at h
  refine gs<|gs<|g0 j j (q (oMv j j)<|q (oMv j j)<|q (oLnI j j uF27 j)<|q (oBi j j j j)<|nl)<|us<|gc h j iDec (fun hc11 h=>?_) fun hc11 h=>?_
  ·refine Go.skip<|us<|gs<|Go.block<|gs<|?_
   obtain ⟨x12,hx12,h⟩:=bs h
   obtain ⟨x13,hx13,h⟩:=bs h
   obtain ⟨t_32_m4,hm15,h⟩:=bs h
   refine gd c14 j j j j (mk [(0,D 2 (W 8 e_S_Loss list_0)),(3,iv i_3_l2),(32,bv t_32_m4)] []) ?_ ?_
   ·refine t j j (oMv j j)<|t j j (oMv j j)<|?_
    refine ic hm15 (fun hc12 hm15=>?_) fun hc12 hm15=>?_
    ·refine ic hm15 (fun hc13 hm15=>?_) fun hc13 hm15=>?_
     ·obtain ⟨x22,hx22,hm15⟩:=bs hm15
      obtain ⟨x27,hx27,hm15⟩:=bs hm15
      cases hm15
      exact t j j (oIAI j hx12 sF27 j j)<|sS (dN z14 j (oCa (xs:=[.v false [.im 2 _]]) (vs:=[(false,[.im 0 _])]) (v:=.v false [.im 0 _]) (L_spec_l25One hx13) (.inl j) j kF25_60 j (ppC j pp0) j j pb0 j j j)) trivial (t j j (oUn j j j)<|t j j (oMv j j)<|tT j j j j (nF (iR.2 hc12)) (oMv j j)<|tT j j j j (nF (iR.2 hc12)) (oBi j j j j)<|tT j j j j (nF (iR.2 hc12)) (oMv j j)<|tT j j j j (iDec.2 hc13) (oMv j j)<|tT j j j j (iDec.2 hc13) (oMv j j)<|tT j j j j (iDec.2 hc13) (oBi j j j j)<|tT j j j j (iDec.2 hc13) (oIAI j hx22 sF27 j j)<|tT j j j j (iDec.2 hc13) (oFA (r':=.im 2 _) j fF49_0 j j)<|tT j j j j (iDec.2 hc13) (oLd (cs:=[.im 2 _]) j tF9 j j)<|tT j j j j (iDec.2 hc13) (oMv j j)<|tT j j j j (iDec.2 hc13) (oMv j j)<|tT j j j j (iDec.2 hc13) (oIAI j hx27 sF27 j j)<|tT j j j j (iDec.2 hc13) (oFA (r':=.im 2 _) j fF49_0 j j)<|tT j j j j (iDec.2 hc13) (oLd (cs:=[.im 2 _]) j tF9 j j)<|tT j j j j (iDec.2 hc13) (oBi j j j j)<|tT j j j j (nF (iR.2 hc12)) (oPkT j j (iDec.2 hc13) j)<|t j j (oPkF j j (nF (iR.2 hc12)) j)<|sD (by kernel_rfl))
     ·cases hm15
      exact t j j (oIAI j hx12 sF27 j j)<|sS (dN z14 j (oCa (xs:=[.v false [.im 2 _]]) (vs:=[(false,[.im 0 _])]) (v:=.v false [.im 0 _]) (L_spec_l25One hx13) (.inl j) j kF25_60 j (ppC j pp0) j j pb0 j j j)) trivial (t j j (oUn j j j)<|t j j (oMv j j)<|tT j j j j (nF (iR.2 hc12)) (oMv j j)<|tT j j j j (nF (iR.2 hc12)) (oBi j j j j)<|tT j j j j (nF (iR.2 hc12)) (oMv j j)<|tF j j j j (byF iDec hc13) j<|tF j j j j (byF iDec hc13) j<|tF j j j j (byF iDec hc13) j<|tF j j j j (byF iDec hc13) j<|tF j j j j (byF iDec hc13) j<|tF j j j j (byF iDec hc13) j<|tF j j j j (byF iDec hc13) j<|tF j j j j (byF iDec hc13) j<|tF j j j j (byF iDec hc13) j<|tF j j j j (byF iDec hc13) j<|tF j j j j (byF iDec hc13) j<|tF j j j j (byF iDec hc13) j<|tT j j j j (nF (iR.2 hc12)) (oPkF j j (byF iDec hc13) j)<|t j j (oPkF j j (nF (iR.2 hc12)) j)<|sD (by kernel_rfl))
    ·cases hm15
     exact t j j (oIAI j hx12 sF27 j j)<|sS (dN z14 j (oCa (xs:=[.v false [.im 2 _]]) (vs:=[(false,[.im 0 _])]) (v:=.v false [.im 0 _]) (L_spec_l25One hx13) (.inl j) j kF25_60 j (ppC j pp0) j j pb0 j j j)) trivial (t j j (oUn j j j)<|t j j (oMv j j)<|tF j j j j (nT (byF iR hc12)) j<|tF j j j j (nT (byF iR hc12)) j<|tF j j j j (nT (byF iR hc12)) j<|sT j (dU j j j j)<|sT j (dU j j j j)<|sT j (dU j j j j)<|sT j (dU j j j j)<|sT j (dU j j j j)<|sT j (dU j j j j)<|sT j (dU j j j j)<|sT j (dU j j j j)<|sT j (dU j j j j)<|sT j (dU j j j j)<|sT j (dU j j j j)<|sT j (dU j j j j)<|tF j j j j (nT (byF iR hc12)) j<|t j j (oPkT j j (nT (byF iR hc12)) j)<|sD (by kernel_rfl))
   ·refine us<|gc h j iR (fun hc14 h=>?_) fun hc14 h=>?_
    ·refine gs<|g0 j j (q (oAsI j j)<|nl)<|us<|Go.ret (Unw.ret ?_)
     cases h
     exact ⟨j,(fo rF14 j)⟩
    ·refine Go.skip<|Unw.blk<|us<|g0 j j (q (oMv j j)<|q (oBi j j j j)<|q (oAsI j j)<|nl)<|Unw.nil<|?_
     cases h
     exact ⟨j,(by kernel_rfl)⟩
  ·refine Go.exit<|ux<|Unw.nil<|?_
   cases h
   exact ⟨j,(by kernel_rfl)⟩
 ·rintro ⟨e,st⟩ hp
  rcases o with u | r2
  ·dsimp only at h
   obtain ⟨he,hst⟩:=hp
   obtain rfl:e= .exit 0:=he
   refine Unw.blkx<|us<|gs<|g2 c14 j j hst (q (oMv j j)<|q (oLnI j j uF27 j)<|q (oBi j j j j)<|q (oAsI j j)<|nl)<|us<|Go.ret (Unw.ret ?_)
   cases h
   exact fr rF14 j
  ·dsimp only at h
   obtain ⟨he,hfin⟩:=hp
   obtain rfl:e= .ret:=he
   cases h
   exact Unw.ret (Fin_ret hfin)
theorem L_spec_l25Limits {money_0:Int} {minutes_1:Int} {r:Bool} (h:spec_l25Limits money_0 minutes_1=some r):FX 16 [.im 2 false [I money_0],.im 2 false [I minutes_1]] (B0 [(false,[.im 0 (V r)])]):=by
 unfold spec_l25Limits at h
 refine gn 11 Try.func16 rfl ?_
 refine gs<|g0 j j (q (oAsI j j)<|nl)<|us<|gs<|?_
 obtain ⟨x6,hx6,h⟩:=bs h
 obtain ⟨t_4_m1,hm2,h⟩:=bs h
 refine gX c16 j j j (mk [(4,bv t_4_m1)] []) ?_ ?_
 ·refine xq (oMv j j)<|xq (oCa (xs:=[.v false [.im 2 _],.v false [.im 0 _],.v false [.im 0 _]]) (vs:=[(false,[.im 0 _])]) (v:=.v false [.im 0 _]) (L_spec_l00In hx6) (.inl j) j kF15_2_2_2 j (ppC j (ppC j (ppC j pp0))) j j pb0 j j j)<|xq (oMv j j)<|?_
  refine ic hm2 (fun hc1 hm2=>?_) fun hc1 hm2=>?_
  ·obtain ⟨x9,hx9,hm2⟩:=bs hm2
   cases hm2
   exact xqT j j (iR.2 hc1) (oMv j j)<|xqT j j (iR.2 hc1) (oCa (xs:=[.v false [.im 2 _],.v false [.im 0 _],.v false [.im 0 _]]) (vs:=[(false,[.im 0 _])]) (v:=.v false [.im 0 _]) (L_spec_l00In hx9) (.inl j) j kF15_2_2_2 j (ppC j (ppC j (ppC j pp0))) j j pb0 j j j)<|xq (oPkT j j (iR.2 hc1) j)<|xq (oAsI j j)<|xn
  ·cases hm2
   exact xsgF j j (byF iR hc1) j<|xsgF j j (byF iR hc1) j<|xq (oPkF j j (byF iR hc1) j)<|xq (oAsI j j)<|xn
 ·refine us<|Go.ret (Unw.ret ?_)
  cases h
  exact fr rF16 j
theorem L_spec_l00Own {list_0:(List Int)} {r:(List Int)} (h:spec_l00Own list_0=some r):FX 18 [.im 2 false [W 1 eI list_0]] (B0 [(false,[.ow 0 1 (List.map eI r)])]):=by
 unfold spec_l00Own at h
 refine gn 6 Try.func18 rfl ?_
 refine gs<|g0 j j (q (oAsN j j eF24)<|nl)<|us<|gs<|?_
 obtain ⟨x5,hx5,h⟩:=bs h
 refine g0 j j (q (oBS (es:=List.map eI ([]:List Int)) j sF24 j pt0 (flat0 j fun _=>j))<|q (oMv j j)<|q (oApO (en:=eI) (M:=list_0) j hx5 j sF24 j j uF24 (.inl ⟨_,j⟩) j j j j el_im (flat0 j fun _=>j))<|q (oAsO j j j j j)<|nl)<|us<|Go.ret (Unw.ret ?_)
 cases h
 exact fr rF18 j
theorem L_spec_l25Search_visit_F {self:(S_l25Search×Int×Int×Int×Int)→Option S_l25Search} (ih:∀{x_0:S_l25Search} {from_1:Int} {sum_2:Int} {money_3:Int} {minutes_4:Int} {r:S_l25Search},self (x_0,from_1,sum_2,money_3,minutes_4)=some r→FX 17 [.ptr true [(.imm,W 8 e_S_Loss x_0.list),(.sh,W 1 eI x_0.chosen),(.sh,W 1 eI x_0.best),(.imm,I x_0.most),(.imm,I x_0.nodes),(.imm,I x_0.budget)],.im 2 false [I from_1],.im 2 false [I sum_2],.im 2 false [I money_3],.im 2 false [I minutes_4]] ([],[.ptr true [(.imm,W 8 e_S_Loss r.list),(.sh,W 1 eI r.chosen),(.sh,W 1 eI r.best),(.imm,I r.most),(.imm,I r.nodes),(.imm,I r.budget)]])) {x_0:S_l25Search} {from_1:Int} {sum_2:Int} {money_3:Int} {minutes_4:Int} {r:S_l25Search} (h:spec_l25Search_visit_F self x_0 from_1 sum_2 money_3 minutes_4=some r):FX 17 [.ptr true [(.imm,W 8 e_S_Loss x_0.list),(.sh,W 1 eI x_0.chosen),(.sh,W 1 eI x_0.best),(.imm,I x_0.most),(.imm,I x_0.nodes),(.imm,I x_0.budget)],.im 2 false [I from_1],.im 2 false [I sum_2],.im 2 false [I money_3],.im 2 false [I minutes_4]] ([],[.ptr true [(.imm,W 8 e_S_Loss r.list),(.sh,W 1 eI r.chosen),(.sh,W 1 eI r.best),(.imm,I r.most),(.imm,I r.nodes),(.imm,I r.budget)]]):=by
 unfold spec_l25Search_visit_F at h
 refine FL_goS (A:=[(0,M 0),(1,D 2 (I from_1)),(2,D 2 (I sum_2)),(3,D 2 (I money_3)),(4,D 2 (I minutes_4))]) (B:=[(0,Od [Ct 1 (W 8 e_S_Loss x_0.list),Z (W 1 eI x_0.chosen),Z (W 1 eI x_0.best),C (I x_0.most),C (I x_0.nodes),C (I x_0.budget)]),(1,none),(2,none),(3,none),(4,none)]) (nt:=113) rfl rfl Try.func17 rfl rfl rfl rfl ?_
 refine gs<|g0 j j (q (oMv j j)<|q (oNl j j j)<|q (oFA (r':=.mp 0 0 4) j fF44_4 j j)<|q (oLd (cs:=[.im 0 _]) j tF2 j j)<|q (oBi j j j j)<|q (oNl j j j)<|q (oFA (r':=.mp 0 0 4) j fF44_4 j j)<|q (oSt tF2 j j j (tkI tk0) j j j)<|nl)<|us<|gs<|gs<|gd c17 j j j (st1:=mk [(0,M 0),(1,iv from_1),(2,iv sum_2),(3,iv money_3),(4,iv minutes_4)] [(0,Od [Ct 1 (W 8 e_S_Loss x_0.list),Z (W 1 eI x_0.chosen),Z (W 1 eI x_0.best),C (I x_0.most),C (I (w64 (x_0.nodes+1))),C (I x_0.budget)])]) (by kernel_rfl) (mk [(0,M 0),(1,iv from_1),(2,iv sum_2),(3,iv money_3),(4,iv minutes_4),(27,bv (decide ((w64 (x_0.nodes+1)) >x_0.budget)))] [(0,Od [Ct 1 (W 8 e_S_Loss x_0.list),Z (W 1 eI x_0.chosen),Z (W 1 eI x_0.best),C (I x_0.most),C (I (w64 (x_0.nodes+1))),C (I x_0.budget)])]) (t j j (oMv j j)<|t j j (oNl j j j)<|t j j (oFA (r':=.mp 0 0 4) j fF44_4 j j)<|t j j (oLd (cs:=[.im 0 _]) j tF2 j j)<|t j j (oMv j j)<|t j j (oNl j j j)<|t j j (oFA (r':=.mp 0 0 5) j fF44_5 j j)<|t j j (oLd (cs:=[.im 0 _]) j tF2 j j)<|t j j (oBi j j j j)<|sD (by kernel_rfl))<|us<|gc h j iDec (fun hc1 h=>?_) fun hc1 h=>?_
 ·refine Go.ret (Unw.ret ?_)
  cases h
  exact fr rF17 j
 ·refine Go.skip<|us<|gs<|gs<|g0 j j (q (oMv j j)<|q (oMv j j)<|q (oNl j j j)<|q (oFA (r':=.mp 0 0 3) j fF44_3 j j)<|q (oLd (cs:=[.im 0 _]) j tF2 j j)<|q (oBi j j j j)<|nl)<|us<|Go.join (fun st=>∃x_o0_2_r5,∃x_o0_3_r5,spec_l25Search_visit_k5 self from_1 minutes_4 money_3 sum_2 x_0 x_o0_2_r5 x_o0_3_r5=some r∧st.norm ([0,1,2,3,4],[0])=mk [(0,M 0),(1,iv from_1),(2,iv sum_2),(3,iv money_3),(4,iv minutes_4)] [(0,Od [Ct 1 (W 8 e_S_Loss x_0.list),Z (W 1 eI x_0.chosen),Z (W 1 eI x_o0_2_r5),C (I x_o0_3_r5),C (I (w64 (x_0.nodes+1))),C (I x_0.budget)])]) ?_ ?_
  ·rintro st ⟨x_o0_2_r5,x_o0_3_r5,h,hst⟩
   unfold spec_l25Search_visit_k5 at h
   refine us<|gs<|g2 c17 j j hst (q (oMv j j)<|q (oAsI j j)<|nl)<|us<|Go.block<|?_
   obtain ⟨o,hl,h⟩:=bs h
   refine gl c17 j _ (fun (s:(Int×(List S_Loss)×(List Int)×(List Int)×Int×Int×Int))=>match s with | (i_10_l6,x_o0_0_l6,x_o0_1_l6,x_o0_2_l6,x_o0_3_l6,x_o0_4_l6,x_o0_5_l6)=>mk [(0,M 0),(2,iv sum_2),(3,iv money_3),(4,iv minutes_4),(10,iv i_10_l6)] [(0,Od [Ct 1 (W 8 e_S_Loss x_o0_0_l6),Z (W 1 eI x_o0_1_l6),Z (W 1 eI x_o0_2_l6),C (I x_o0_3_l6),C (I x_o0_4_l6),C (I x_o0_5_l6)])]) (fun (r2:S_l25Search) (p:Ex×St)=>p.1= .exit 0∧fin Try.prog cfg 17 Try.f17 [.ptr true [(.imm,W 8 e_S_Loss x_0.list),(.sh,W 1 eI x_0.chosen),(.sh,W 1 eI x_0.best),(.imm,I x_0.most),(.imm,I x_0.nodes),(.imm,I x_0.budget)],.im 2 false [I from_1],.im 2 false [I sum_2],.im 2 false [I money_3],.im 2 false [I minutes_4]] p.2=some ([],[.ptr true [(.imm,W 8 e_S_Loss r2.list),(.sh,W 1 eI r2.chosen),(.sh,W 1 eI r2.best),(.imm,I r2.most),(.imm,I r2.nodes),(.imm,I r2.budget)]])) hl (by kernel_rfl) ?_ ?_ ?_
   ·intro o p hp e
    exact nomatch (hp.1.symm.trans e)
   ·rintro ⟨i_10_l6,x_o0_0_l6,x_o0_1_l6,x_o0_2_l6,x_o0_3_l6,x_o0_4_l6,x_o0_5_l6⟩ o h
    unfold spec_l25Search_visit_l6 at h
    dsimp only at h
    refine gs<|gs<|g0 j j (q (oMv j j)<|q (oMv j j)<|q (oNl j j j)<|q (oFA (r':=.mp 0 0 0) j fF44_0 j j)<|q (oLd (cs:=[.im 1 _]) j tF27 j j)<|q (oLnI j j uF27 j)<|q (oBi j j j j)<|nl)<|us<|gc h j iDec (fun hc9 h=>?_) fun hc9 h=>?_
    ·refine Go.skip<|us<|gs<|Go.join (fun st=>∃x_o0_0_r7,∃x_o0_1_r7,∃x_o0_2_r7,∃x_o0_3_r7,∃x_o0_4_r7,∃x_o0_5_r7,spec_l25Search_visit_k7 self i_10_l6 x_o0_0_r7 x_o0_1_r7 x_o0_2_r7 x_o0_3_r7 x_o0_4_r7 x_o0_5_r7=some o∧st.norm ([0,2,3,4,10],[0])=mk [(0,M 0),(2,iv sum_2),(3,iv money_3),(4,iv minutes_4),(10,iv i_10_l6)] [(0,Od [Ct 1 (W 8 e_S_Loss x_o0_0_r7),Z (W 1 eI x_o0_1_r7),Z (W 1 eI x_o0_2_r7),C (I x_o0_3_r7),C (I x_o0_4_r7),C (I x_o0_5_r7)])]) ?_ ?_
     ·rintro st ⟨x_o0_0_r7,x_o0_1_r7,x_o0_2_r7,x_o0_3_r7,x_o0_4_r7,x_o0_5_r7,h,hst⟩
      unfold spec_l25Search_visit_k7 at h
      refine us<|g2 c17 j j hst (q (oMv j j)<|q (oBi j j j j)<|q (oAsI j j)<|nl)<|Unw.nil<|?_
      cases h
      exact ⟨j,(by kernel_rfl)⟩
     ·intro K12
      refine Go.block<|gs<|?_
      obtain ⟨x61,hx61,h⟩:=bs h
      refine g0 j j (q (oMv j j)<|q (oNl j j j)<|q (oFA (r':=.mp 0 0 0) j fF44_0 j j)<|q (oLd (cs:=[.im 1 _]) j tF27 j j)<|q (oMv j j)<|q (oIAI j hx61 sF27 j j)<|q (oLd (cs:=[.im 1 _,.im 1 _,.im 1 _,.im 1 _,.im 1 _,.im 1 _,.im 1 _,.im 1 _]) j tF49 j j)<|q (oAl j tF49 (tkI (tkI (tkI (tkI (tkI (tkI (tkI (tkI tk0)))))))))<|q (oSt tF49 j j j (tkI (tkI (tkI (tkI (tkI (tkI (tkI (tkI tk0)))))))) j j j)<|nl)<|us<|gs<|gs<|gX c17 j j (st1:=mk [(0,M 0),(2,iv sum_2),(3,iv money_3),(4,iv minutes_4),(10,iv i_10_l6),(11,M 11)] [(0,Od [Ct 1 (W 8 e_S_Loss x_o0_0_l6),Z (W 1 eI x_o0_1_l6),Z (W 1 eI x_o0_2_l6),C (I x_o0_3_l6),C (I x_o0_4_l6),C (I x_o0_5_l6)]),(11,Oa (G 0 (u_S_Loss x61)))]) (by kernel_rfl) (mk [(0,M 0),(2,iv sum_2),(3,iv money_3),(4,iv minutes_4),(10,iv i_10_l6),(11,M 11),(72,bv ((decide (x61.Cost>money_3))||(decide (x61.Minutes>minutes_4))))] [(0,Od [Ct 1 (W 8 e_S_Loss x_o0_0_l6),Z (W 1 eI x_o0_1_l6),Z (W 1 eI x_o0_2_l6),C (I x_o0_3_l6),C (I x_o0_4_l6),C (I x_o0_5_l6)]),(11,Oa (G 0 (u_S_Loss x61)))]) ?_ ?_
      ·refine xq (oFA (r':=.mp 11 0 6) j fF49_4 j j)<|xq (oLd (cs:=[.im 0 _]) j tF2 j j)<|xq (oMv j j)<|xq (oBi j j j j)<|xq (oMv j j)<|?_
       by_cases hc13:x61.Cost>money_3
       ·exact xsgF rfl rfl (iDec.2 hc13) rfl<|xsgF rfl rfl (iDec.2 hc13) rfl<|xsgF rfl rfl (iDec.2 hc13) rfl<|xsgF rfl rfl (iDec.2 hc13) rfl<|xq (oPkT rfl rfl (iDec.2 hc13) rfl)<|xn (Eq.trans (b:=(fun t_72_m9:Bool=>mk [(0,M 0),(2,iv sum_2),(3,iv money_3),(4,iv minutes_4),(10,iv i_10_l6),(11,M 11),(72,bv t_72_m9)] [(0,Od [Ct 1 (W 8 e_S_Loss x_o0_0_l6),Z (W 1 eI x_o0_1_l6),Z (W 1 eI x_o0_2_l6),C (I x_o0_3_l6),C (I x_o0_4_l6),C (I x_o0_5_l6)]),(11,Oa (G 0 (u_S_Loss x61)))]) true) (by kernel_rfl) (congrArg (fun t_72_m9:Bool=>mk [(0,M 0),(2,iv sum_2),(3,iv money_3),(4,iv minutes_4),(10,iv i_10_l6),(11,M 11),(72,bv t_72_m9)] [(0,Od [Ct 1 (W 8 e_S_Loss x_o0_0_l6),Z (W 1 eI x_o0_1_l6),Z (W 1 eI x_o0_2_l6),C (I x_o0_3_l6),C (I x_o0_4_l6),C (I x_o0_5_l6)]),(11,Oa (G 0 (u_S_Loss x61)))]) (by first | rfl | (simp [(iDec.2 hc13)];done) | (simp [(iDec.2 hc13)];omega))))
       ·exact xqT rfl rfl (byF iDec hc13) (oFA (r':=.mp 11 0 7) rfl fF49_5 rfl rfl)<|xqT rfl rfl (byF iDec hc13) (oLd (cs:=[.im 0 _]) rfl tF2 rfl rfl)<|xqT rfl rfl (byF iDec hc13) (oMv rfl rfl)<|xqT rfl rfl (byF iDec hc13) (oBi rfl rfl rfl rfl)<|xq (oPkF rfl rfl (byF iDec hc13) rfl)<|xn (Eq.trans (b:=(fun t_72_m9:Bool=>mk [(0,M 0),(2,iv sum_2),(3,iv money_3),(4,iv minutes_4),(10,iv i_10_l6),(11,M 11),(72,bv t_72_m9)] [(0,Od [Ct 1 (W 8 e_S_Loss x_o0_0_l6),Z (W 1 eI x_o0_1_l6),Z (W 1 eI x_o0_2_l6),C (I x_o0_3_l6),C (I x_o0_4_l6),C (I x_o0_5_l6)]),(11,Oa (G 0 (u_S_Loss x61)))]) (decide (x61.Minutes>minutes_4))) (by kernel_rfl) (congrArg (fun t_72_m9:Bool=>mk [(0,M 0),(2,iv sum_2),(3,iv money_3),(4,iv minutes_4),(10,iv i_10_l6),(11,M 11),(72,bv t_72_m9)] [(0,Od [Ct 1 (W 8 e_S_Loss x_o0_0_l6),Z (W 1 eI x_o0_1_l6),Z (W 1 eI x_o0_2_l6),C (I x_o0_3_l6),C (I x_o0_4_l6),C (I x_o0_5_l6)]),(11,Oa (G 0 (u_S_Loss x61)))]) (by first | rfl | (simp [(byF iDec hc13)];done) | (simp [(byF iDec hc13)];omega))))
      ·refine us<|gc h j (iOr iDec iDec) (fun hc14 h=>?_) fun hc14 h=>?_
       ·exact Go.exit<|ux<|Unw.blkx<|K12 _ ⟨x_o0_0_l6,x_o0_1_l6,x_o0_2_l6,x_o0_3_l6,x_o0_4_l6,x_o0_5_l6,h,(by kernel_rfl)⟩
       ·refine Go.skip<|us<|gs<|?_
        obtain ⟨x80,hx80,h⟩:=bs h
        refine g0 j j (q (oMv j j)<|q (oMv j j)<|q (oNl j j j)<|q (oFA (r':=.mp 0 0 1) j fF44_1 j j)<|q (oLd (cs:=[.own 0 0 1]) j tF24 j j)<|q (oMv j j)<|q (oBS (es:=List.map eI ([i_10_l6]:List Int)) j sF24 j (ptC j (fxI fx0) j pt0) (flat0 j fun _=>j))<|q (oApO (en:=eI) (M:=([i_10_l6]:List Int)) j hx80 j sF24 j j uF24 (.inl ⟨_,j⟩) j j j j (el_own j j) (flat0 j fun _=>j))<|q (oNl j j j)<|q (oFA (r':=.mp 0 0 1) j fF44_1 j j)<|q (oSt tF24 j j j (tkO j j tk0) j j j)<|nl)<|us<|gs<|?_
        obtain ⟨x98,hx98,h⟩:=bs h
        refine g1 j j (mk [(0,M 0),(2,iv sum_2),(3,iv money_3),(4,iv minutes_4),(10,iv i_10_l6),(11,M 11)] [(0,Od [Ct 1 (W 8 e_S_Loss x_o0_0_l6),Z (W 1 eI x80),Z (W 1 eI x_o0_2_l6),C (I x_o0_3_l6),C (I x_o0_4_l6),C (I x_o0_5_l6)]),(11,Oa (G 0 (u_S_Loss x61)))]) (q (oMv j j)<|q (oMv j j)<|q (oBi j j j j)<|q (oMv j j)<|q (oFA (r':=.mp 11 0 5) j fF49_3 j j)<|q (oLd (cs:=[.im 0 _]) j tF2 j j)<|q (oBi j j j j)<|q (oMv j j)<|q (oFA (r':=.mp 11 0 6) j fF49_4 j j)<|q (oLd (cs:=[.im 0 _]) j tF2 j j)<|q (oBi j j j j)<|q (oMv j j)<|q (oFA (r':=.mp 11 0 7) j fF49_5 j j)<|q (oLd (cs:=[.im 0 _]) j tF2 j j)<|q (oBi j j j j)<|q (oCa (xs:=[.v false [.mp 0 0 0],.v false [.im 0 _],.v false [.im 0 _],.v false [.im 0 _],.v false [.im 0 _]]) (vs:=[]) (v:=.tup []) (ih hx98) (.inl j) j kF17_42_2_2_2_2 j (ppPx (ob':=⟨0,0,true,true,false,true,[Ct 1 (W 8 e_S_Loss x_o0_0_l6),Z (W 1 eI x80),Z (W 1 eI x_o0_2_l6),C (I x_o0_3_l6),C (I x_o0_4_l6),C (I x_o0_5_l6)]⟩) j j j (by kernel_rfl) (ppC j (ppC j (ppC j (ppC j pp0))))) j j (pbPx (ob':=⟨0,1,true,true,false,true,[⟨.imm,1,1,W 8 e_S_Loss x98.list⟩,⟨.sh,1,0,W 1 eI x98.chosen⟩,⟨.sh,1,0,W 1 eI x98.best⟩,⟨.imm,1,0,I x98.most⟩,⟨.imm,1,0,I x98.nodes⟩,⟨.imm,1,0,I x98.budget⟩]⟩) j j (by kernel_rfl) pb0) j j j)<|nl)<|us<|?_
        obtain ⟨x110,hx110,h⟩:=bs h
        exact gd c17 j j j (st1:=mk [(0,M 0),(2,iv sum_2),(3,iv money_3),(4,iv minutes_4),(10,iv i_10_l6)] [(0,Od [Ct 1 (W 8 e_S_Loss x98.list),Z (W 1 eI x98.chosen),Z (W 1 eI x98.best),C (I x98.most),C (I x98.nodes),C (I x98.budget)])]) (by kernel_rfl) (mk [(0,M 0),(2,iv sum_2),(3,iv money_3),(4,iv minutes_4),(10,iv i_10_l6)] [(0,Od [Ct 1 (W 8 e_S_Loss x98.list),Z (W 1 eI ((x98.chosen.take ((w64 ((x98.chosen.length:Int) - 1)).toNat)).drop 0)),Z (W 1 eI x98.best),C (I x98.most),C (I x98.nodes),C (I x98.budget)])]) (t j j (oMv j j)<|t j j (oMv j j)<|t j j (oNl j j j)<|t j j (oFA (r':=.mp 0 0 1) j fF44_1 j j)<|t j j (oLd (cs:=[.own 0 0 1]) j tF24 j j)<|t j j (oMv j j)<|t j j (oNl j j j)<|t j j (oFA (r':=.mp 0 0 1) j fF44_1 j j)<|t j j (oLd (cs:=[.own 0 0 1]) j tF24 j j)<|t j j (oLnO j j uF24 j j j (fun e=>nomatch e))<|t j j (oBi j j j j)<|sS (dN z17 j (oSlO j hx110 sF24 j j j bn0 (bn1 j) j j j)) trivial (t j j (oNl j j j)<|t j j (oFA (r':=.mp 0 0 1) j fF44_1 j j)<|sS (dN z17 j (oSt tF24 j j j (tkSM j j tk0) j j j)) trivial (sD (by kernel_rfl))))<|Unw.blk<|K12 _ ⟨x98.list,((x98.chosen.take ((w64 ((x98.chosen.length:Int) - 1)).toNat)).drop 0),x98.best,x98.most,x98.nodes,x98.budget,h,(by kernel_rfl)⟩
    ·refine Go.exit<|ux<|Unw.nil<|?_
     cases h
     exact ⟨j,(fo rF17 j)⟩
   ·rintro ⟨e,st⟩ hp
    obtain ⟨r2,rfl⟩:∃y,y=o:=⟨o,rfl⟩
    obtain ⟨he,hfin⟩:=hp
    obtain rfl:e= .exit 0:=he
    cases h
    exact Unw.blkx<|Unw.nil (Fin_end hfin)
  ·intro K15
   refine gc h j iDec (fun hc16 h=>?_) fun hc16 h=>?_
   ·refine gs<|g0 j j (q (oMv j j)<|q (oMv j j)<|q (oNl j j j)<|q (oFA (r':=.mp 0 0 3) j fF44_3 j j)<|q (oSt tF2 j j j (tkI tk0) j j j)<|nl)<|us<|?_
    obtain ⟨x43,hx43,h⟩:=bs h
    exact g1 j j (mk [(0,M 0),(1,iv from_1),(2,iv sum_2),(3,iv money_3),(4,iv minutes_4)] [(0,Od [Ct 1 (W 8 e_S_Loss x_0.list),Z (W 1 eI x_0.chosen),Z (W 1 eI x_0.best),C (I sum_2),C (I (w64 (x_0.nodes+1))),C (I x_0.budget)])]) (q (oMv j j)<|q (oMv j j)<|q (oNl j j j)<|q (oFA (r':=.mp 0 0 1) j fF44_1 j j)<|q (oLd (cs:=[.own 0 0 1]) j tF24 j j)<|q (oCr (xs:=[.v false [.own 0 0 1]]) (vs:=[(false,[.own 43 0 0])]) (v:=.v false [.own 43 0 0]) (c:=⟨.sh,0,_⟩) (cs:=[]) (L_spec_l00Own hx43) (.inl j) j kF18_24 j (ppC j pp0) j j pb0 j j j)<|q (oNl j j j)<|q (oFA (r':=.mp 0 0 2) j fF44_2 j j)<|q (oSt tF24 j j j (tkO j j tk0) j j j)<|nl)<|K15 _ ⟨x43,sum_2,h,(by kernel_rfl)⟩
   ·exact Go.skip<|K15 _ ⟨x_0.best,x_0.most,h,(by kernel_rfl)⟩
theorem L_spec_l25Search_visit {x_0:S_l25Search} {from_1:Int} {sum_2:Int} {money_3:Int} {minutes_4:Int} {r:S_l25Search} (h:spec_l25Search_visit x_0 from_1 sum_2 money_3 minutes_4=some r):FX 17 [.ptr true [(.imm,W 8 e_S_Loss x_0.list),(.sh,W 1 eI x_0.chosen),(.sh,W 1 eI x_0.best),(.imm,I x_0.most),(.imm,I x_0.nodes),(.imm,I x_0.budget)],.im 2 false [I from_1],.im 2 false [I sum_2],.im 2 false [I money_3],.im 2 false [I minutes_4]] ([],[.ptr true [(.imm,W 8 e_S_Loss r.list),(.sh,W 1 eI r.chosen),(.sh,W 1 eI r.best),(.imm,I r.most),(.imm,I r.nodes),(.imm,I r.budget)]]):=by
 unfold spec_l25Search_visit at h
 obtain ⟨n,hn⟩:=fixO_iter h
 clear h
 induction n generalizing x_0 from_1 sum_2 money_3 minutes_4 r with
 | zero=>cases hn
 | succ n ihn=>exact L_spec_l25Search_visit_F (self:=iterO _ n) (fun h=>ihn h) hn
theorem L_spec_BestRepairs {list_0:(List S_Loss)} {money_1:Int} {minutes_2:Int} {budget_3:Int} {r:((List Int)×Int×Int)} (h:spec_BestRepairs list_0 money_1 minutes_2 budget_3=some r):FX 5 [.im 2 false [W 8 e_S_Loss list_0],.im 2 false [I money_1],.im 2 false [I minutes_2],.im 2 false [I budget_3]] (B0 [(false,[.ow 0 1 (List.map eI r.1)]),(false,[.im 0 (I r.2.1)]),(false,[.im 0 (I r.2.2)])]):=by
 unfold spec_BestRepairs at h
 refine gn 47 Try.func5 rfl ?_
 refine gs<|g0 j j (q (oAsN j j eF24)<|q (oAsI j j)<|q (oAsI j j)<|nl)<|us<|gs<|gs<|?_
 obtain ⟨x13,hx13,h⟩:=bs h
 refine g0 j j (q (oMv j j)<|q (oCa (xs:=[.v false [.im 2 _]]) (vs:=[(false,[.im 0 _])]) (v:=.v false [.im 0 _]) (L_spec_l25Ok hx13) (.inl j) j kF14_27 j (ppC j pp0) j j pb0 j j j)<|q (oUn j j j)<|nl)<|us<|?_
 by_cases hc1:x13=true
 ·rw [if_pos hc1] at h
  refine gF j (nF (iR.2 hc1))<|Go.skip<|us<|gs<|gs<|?_
  obtain ⟨x16,hx16,h⟩:=bs h
  obtain ⟨t_23_m3,hm5,h⟩:=bs h
  refine gX c5 j j j (mk [(0,D 2 (W 8 e_S_Loss list_0)),(1,iv money_1),(2,iv minutes_2),(3,iv budget_3),(23,bv t_23_m3)] []) ?_ ?_
  ·refine xq (oMv j j)<|xq (oCa (xs:=[.v false [.im 2 _],.v false [.im 0 _],.v false [.im 0 _]]) (vs:=[(false,[.im 0 _])]) (v:=.v false [.im 0 _]) (L_spec_l00In hx16) (.inl j) j kF15_2_2_2 j (ppC j (ppC j (ppC j pp0))) j j pb0 j j j)<|xq (oUn j j j)<|xq (oMv j j)<|?_
   refine ic hm5 (fun hc2 hm5=>?_) fun hc2 hm5=>?_
   ·obtain ⟨x21,hx21,hm5⟩:=bs hm5
    cases hm5
    exact xqT j j (nF (iR.2 hc2)) (oMv j j)<|xqT j j (nF (iR.2 hc2)) (oMv j j)<|xqT j j (nF (iR.2 hc2)) (oCa (xs:=[.v false [.im 2 _],.v false [.im 2 _]]) (vs:=[(false,[.im 0 _])]) (v:=.v false [.im 0 _]) (L_spec_l25Limits hx21) (.inl j) j kF16_2_2 j (ppC j (ppC j pp0)) j j pb0 j j j)<|xqT j j (nF (iR.2 hc2)) (oUn j j j)<|xq (oPkF j j (nF (iR.2 hc2)) j)<|xn
   ·cases hm5
    exact xsgF j j (nT (byF iR hc2)) j<|xsgF j j (nT (byF iR hc2)) j<|xsgF j j (nT (byF iR hc2)) j<|xsgF j j (nT (byF iR hc2)) j<|xq (oPkT j j (nT (byF iR hc2)) j)<|xn
  ·refine us<|gc h j iR (fun hc3 h=>?_) fun hc3 h=>?_
   ·refine gs<|g0 j j (q (oAsN j j eF24)<|q (oAsI j j)<|q (oAsI j j)<|nl)<|us<|Go.ret (Unw.ret ?_)
    cases h
    exact fr rF5 j
   ·refine Go.skip<|us<|gs<|g0 j j (q (oMv j j)<|q (oMv j j)<|q (oBu (cs:=[.im 2 _,.nil,.nil,.im 0 _,.im 0 _,.im 0 _]) j bF44 j)<|q (oBx j tF44 j (tkI (tkN (tkN (tkI (tkI (tkI tk0)))))))<|q (oAsP j j)<|nl)<|us<|gs<|?_
    obtain ⟨x31,hx31,h⟩:=bs h
    refine g1 j j (mk [(1,iv money_1),(2,iv minutes_2),(3,iv budget_3),(11,M 27)] [(27,Oa [Ct 2 (W 8 e_S_Loss list_0),Z (W 1 eI ([]:List Int)),Z (W 1 eI ([]:List Int)),C (I 0),C (I 0),C (I budget_3)])]) (q (oMv j j)<|q (oMv j j)<|q (oMv j j)<|q (oCa (xs:=[.v false [.mp 27 0 0],.v false [.im 0 _],.v false [.im 0 _],.v false [.im 0 _],.v false [.im 0 _]]) (vs:=[]) (v:=.tup []) (L_spec_l25Search_visit hx31) (.inl j) j kF17_42_2_2_2_2 j (ppPx (ob':=⟨0,0,false,true,false,true,[Ct 2 (W 8 e_S_Loss list_0),Z (W 1 eI ([]:List Int)),Z (W 1 eI ([]:List Int)),C (I 0),C (I 0),C (I budget_3)]⟩) j j j (by kernel_rfl) (ppC j (ppC j (ppC j (ppC j pp0))))) j j (pbPx (ob':=⟨0,1,false,true,false,true,[⟨.imm,1,2,W 8 e_S_Loss x31.list⟩,⟨.sh,1,0,W 1 eI x31.chosen⟩,⟨.sh,1,0,W 1 eI x31.best⟩,⟨.imm,1,0,I x31.most⟩,⟨.imm,1,0,I x31.nodes⟩,⟨.imm,1,0,I x31.budget⟩]⟩) j j (by kernel_rfl) pb0) j j j)<|nl)<|us<|gs<|gs<|g1 j j (mk [(3,iv budget_3),(11,M 27)] [(27,Oa [Ct 2 (W 8 e_S_Loss x31.list),Z (W 1 eI x31.chosen),Z (W 1 eI x31.best),C (I x31.most),C (I x31.nodes),C (I x31.budget)])]) (q (oMv j j)<|q (oNl j j j)<|q (oFA (r':=.mp 27 0 4) j fF44_4 j j)<|q (oLd (cs:=[.im 0 _]) j tF2 j j)<|q (oMv j j)<|q (oBi j j j j)<|nl)<|us<|gc h j iDec (fun hc4 h=>?_) fun hc4 h=>?_
    ·refine gs<|g0 j j (q (oAsN j j eF24)<|q (oAsI j j)<|q (oAsI j j)<|nl)<|us<|Go.ret (Unw.ret ?_)
     cases h
     exact fr rF5 j
    ·refine Go.skip<|us<|gs<|?_
     obtain ⟨x42,hx42,h⟩:=bs h
     refine gd c5 j j j j (mk [(8,H 8 0),(9,iv x31.most),(10,iv 0)] [(8,Oc [Z (W 1 eI x42)])]) (t j j (oMv j j)<|t j j (oNl j j j)<|t j j (oFA (r':=.mp 27 0 2) j fF44_2 j j)<|t j j (oLd (cs:=[.own 27 0 2]) j tF24 j j)<|t j j (oMv j j)<|sK (O:=[27]) j j j (dN z5 j (oNl j j j))<|sK (O:=[27]) j j j (dN z5 j (oFA (r':=.mp 27 0 3) j fF44_3 j j))<|sK (O:=[27]) j j j (dN z5 j (oLd (cs:=[.im 0 _]) j tF2 j j))<|sS (dN z5 j (oCr (xs:=[.v false [.own 27 0 2]]) (vs:=[(false,[.own 42 0 0])]) (v:=.v false [.own 42 0 0]) (c:=⟨.sh,0,_⟩) (cs:=[]) (L_spec_l00Own hx42) (.inl j) j kF18_24 j (ppC j pp0) j j pb0 j j j)) (kY ⟨j,trivial⟩ (kY ⟨j,trivial⟩ (kY ⟨j,trivial⟩ trivial))) (sS (dN z5 j (oAsO j j j j j)) (kY ⟨j,trivial⟩ (kY ⟨j,trivial⟩ (kY ⟨j,trivial⟩ trivial))) (sS (dN z5 j (oAsI j j)) (kN j (kN j (kN j trivial))) (sS (dN z5 j (oAsI j j)) (kN j (kN j (kN j trivial))) (sD (by kernel_rfl))))))<|us<|Go.ret (Unw.ret ?_)
     cases h
     exact fr rF5 j
 ·rw [if_neg hc1] at h
  refine gT j (nT (byF iR hc1))<|gs<|g0 j j (q (oAsN j j eF24)<|q (oAsI j j)<|q (oAsI j j)<|nl)<|us<|Go.ret (Unw.ret ?_)
  cases h
  exact fr rF5 j
theorem L_impl_IsName {s_0:ByteArray} {r:Bool} (h:impl_IsName s_0=some r):FX 39 [.im 2 false [Y s_0]] (B0 [(false,[.im 0 (V r)])]):=by
 unfold impl_IsName at h
 refine gn 50 Try.func39 rfl ?_
 refine gs<|g0 j j (q (oAsI j j)<|nl)<|us<|gs<|gs<|?_
 obtain ⟨t_21_m1,hm26,h⟩:=bs h
 refine gX c39 j j j (mk [(0,sv s_0),(21,bv t_21_m1)] []) ?_ ?_
 ·refine xq (oMv j j)<|xq (oLnS j j uF9 j)<|xq (oBi j j j j)<|xq (oMv j j)<|?_
  refine ic hm26 (fun hc1 hm26=>?_) fun hc1 hm26=>?_
  ·cases hm26
   exact xsgF j j (iDec.2 hc1) j<|xsgF j j (iDec.2 hc1) j<|xsgF j j (iDec.2 hc1) j<|xq (oPkT j j (iDec.2 hc1) j)<|xq (oMv j j)<|xsgF j j j j<|xsgF j j j j<|xsgF j j j j<|xq (oPkT j j j j)<|xq (oMv j j)<|xsgF j j j j<|xsgF j j j j<|xsgF j j j j<|xq (oPkT j j j j)<|xn
  ·refine xqT j j (byF iDec hc1) (oMv j j)<|xqT j j (byF iDec hc1) (oLnS j j uF9 j)<|xqT j j (byF iDec hc1) (oBi j j j j)<|xq (oPkF j j (byF iDec hc1) j)<|xq (oMv j j)<|?_
   refine ic hm26 (fun hc2 hm26=>?_) fun hc2 hm26=>?_
   ·cases hm26
    exact xsgF j j (iDec.2 hc2) j<|xsgF j j (iDec.2 hc2) j<|xsgF j j (iDec.2 hc2) j<|xq (oPkT j j (iDec.2 hc2) j)<|xq (oMv j j)<|xsgF j j j j<|xsgF j j j j<|xsgF j j j j<|xq (oPkT j j j j)<|xn
   ·obtain ⟨x14,hx14,hm26⟩:=bs hm26
    refine xqT j j (byF iDec hc2) (oMv j j)<|xqT j j (byF iDec hc2) (oIx j hx14 uF9 j j)<|xqT j j (byF iDec hc2) (oBi j j j j)<|xq (oPkF j j (byF iDec hc2) j)<|xq (oMv j j)<|?_
    refine ic hm26 (fun hc3 hm26=>?_) fun hc3 hm26=>?_
    ·cases hm26
     exact xsgF j j (iDec.2 hc3) j<|xsgF j j (iDec.2 hc3) j<|xsgF j j (iDec.2 hc3) j<|xq (oPkT j j (iDec.2 hc3) j)<|xn
    ·obtain ⟨x19,hx19,hm26⟩:=bs hm26
     cases hm26
     exact xqT j j (byF iDec hc3) (oMv j j)<|xqT j j (byF iDec hc3) (oIx j hx19 uF9 j j)<|xqT j j (byF iDec hc3) (oBi j j j j)<|xq (oPkF j j (byF iDec hc3) j)<|xn
 ·refine us<|gc h j iR (fun hc4 h=>?_) fun hc4 h=>?_
  ·refine gs<|g0 j j (q (oAsI j j)<|nl)<|us<|Go.ret (Unw.ret ?_)
   cases h
   exact fr rF39 j
  ·refine Go.skip<|us<|gs<|gs<|g0 j j (q (oAsI j j)<|nl)<|us<|Go.block<|?_
   obtain ⟨o,hl,h⟩:=bs h
   refine gl c39 j _ (fun (i_3_l4:Int)=>mk [(0,sv s_0),(3,iv i_3_l4)] []) (fun (o:(Unit ⊕ Bool)) (p:Ex×St)=>match o with | (.inl _)=>p.1= .exit 0∧p.2.norm ([],[])=mk [] [] | (.inr r2)=>p.1= .ret∧fin Try.prog cfg 39 Try.f39 [.im 2 false [Y s_0]] p.2=some (B0 [(false,[.im 0 (V r2)])])) hl (by kernel_rfl) ?_ ?_ ?_
   ·intro o p hp e
    rcases o with u | r2<;>exact nomatch (hp.1.symm.trans e)
   ·rintro i_3_l4 o h
    unfold impl_IsName_l4 at h
    refine gs<|gs<|g0 j j (q (oMv j j)<|q (oMv j j)<|q (oLnS j j uF9 j)<|q (oBi j j j j)<|nl)<|us<|gc h j iDec (fun hc19 h=>?_) fun hc19 h=>?_
    ·refine Go.skip<|us<|gs<|Go.block<|gs<|?_
     obtain ⟨x30,hx30,h⟩:=bs h
     obtain ⟨t_49_m6,hm25,h⟩:=bs h
     refine gX c39 j j j (mk [(0,sv s_0),(3,iv i_3_l4),(49,bv t_49_m6)] []) ?_ ?_
     ·refine xq (oMv j j)<|xq (oMv j j)<|xq (oIx j hx30 uF9 j j)<|xq (oBi j j j j)<|xq (oMv j j)<|?_
      refine ic hm25 (fun hc20 hm25=>?_) fun hc20 hm25=>?_
      ·obtain ⟨x41,hx41,hm25⟩:=bs hm25
       refine xsgF j j (iDec.2 hc20) j<|xsgF j j (iDec.2 hc20) j<|xsgF j j (iDec.2 hc20) j<|xsgF j j (iDec.2 hc20) j<|xq (oPkT j j (iDec.2 hc20) j)<|xq (oMv j j)<|xqT j j j (oMv j j)<|xqT j j j (oMv j j)<|xqT j j j (oIx j hx41 uF9 j j)<|xqT j j j (oBi j j j j)<|xqT j j j (oMv j j)<|?_
       refine ic hm25 (fun hc21 hm25=>?_) fun hc21 hm25=>?_
       ·cases hm25
        exact xsgF j j (iDec.2 hc21) j<|xsgF j j (iDec.2 hc21) j<|xsgF j j (iDec.2 hc21) j<|xsgF j j (iDec.2 hc21) j<|xqT j j j (oPkT j j (iDec.2 hc21) j)<|xq (oPkT j j j j)<|xn
       ·obtain ⟨x46,hx46,hm25⟩:=bs hm25
        cases hm25
        exact xqT j j (byF iDec hc21) (oMv j j)<|xqT j j (byF iDec hc21) (oMv j j)<|xqT j j (byF iDec hc21) (oIx j hx46 uF9 j j)<|xqT j j (byF iDec hc21) (oBi j j j j)<|xqT j j j (oPkF j j (byF iDec hc21) j)<|xq (oPkT j j j j)<|xn
      ·obtain ⟨x35,hx35,hm25⟩:=bs hm25
       refine xqT j j (byF iDec hc20) (oMv j j)<|xqT j j (byF iDec hc20) (oMv j j)<|xqT j j (byF iDec hc20) (oIx j hx35 uF9 j j)<|xqT j j (byF iDec hc20) (oBi j j j j)<|xq (oPkF j j (byF iDec hc20) j)<|xq (oMv j j)<|?_
       refine ic hm25 (fun hc22 hm25=>?_) fun hc22 hm25=>?_
       ·obtain ⟨x41,hx41,hm25⟩:=bs hm25
        refine xqT j j (iDec.2 hc22) (oMv j j)<|xqT j j (iDec.2 hc22) (oMv j j)<|xqT j j (iDec.2 hc22) (oIx j hx41 uF9 j j)<|xqT j j (iDec.2 hc22) (oBi j j j j)<|xqT j j (iDec.2 hc22) (oMv j j)<|?_
        refine ic hm25 (fun hc23 hm25=>?_) fun hc23 hm25=>?_
        ·cases hm25
         exact xsgF j j (iDec.2 hc23) j<|xsgF j j (iDec.2 hc23) j<|xsgF j j (iDec.2 hc23) j<|xsgF j j (iDec.2 hc23) j<|xqT j j (iDec.2 hc22) (oPkT j j (iDec.2 hc23) j)<|xq (oPkT j j (iDec.2 hc22) j)<|xn
        ·obtain ⟨x46,hx46,hm25⟩:=bs hm25
         cases hm25
         exact xqT j j (byF iDec hc23) (oMv j j)<|xqT j j (byF iDec hc23) (oMv j j)<|xqT j j (byF iDec hc23) (oIx j hx46 uF9 j j)<|xqT j j (byF iDec hc23) (oBi j j j j)<|xqT j j (iDec.2 hc22) (oPkF j j (byF iDec hc23) j)<|xq (oPkT j j (iDec.2 hc22) j)<|xn
       ·cases hm25
        exact xsgF j j (byF iDec hc22) j<|xsgF j j (byF iDec hc22) j<|xsgF j j (byF iDec hc22) j<|xsgF j j (byF iDec hc22) j<|xsgF j j (byF iDec hc22) j<|xsgU j j j<|xsgU j j j<|xsgU j j j<|xsgU j j j<|xsgF j j (byF iDec hc22) j<|xq (oPkF j j (byF iDec hc22) j)<|xn
     ·refine us<|gc h j iR (fun hc24 h=>?_) fun hc24 h=>?_
      ·refine gs<|g0 j j (q (oAsI j j)<|nl)<|us<|Go.ret (Unw.ret ?_)
       cases h
       exact ⟨j,(fo rF39 j)⟩
      ·refine Go.skip<|Unw.blk<|us<|g0 j j (q (oMv j j)<|q (oBi j j j j)<|q (oAsI j j)<|nl)<|Unw.nil<|?_
       cases h
       exact ⟨j,(by kernel_rfl)⟩
    ·refine Go.exit<|ux<|Unw.nil<|?_
     cases h
     exact ⟨j,(by kernel_rfl)⟩
   ·rintro ⟨e,st⟩ hp
    rcases o with u | r2
    ·dsimp only at h
     obtain ⟨he,hst⟩:=hp
     obtain rfl:e= .exit 0:=he
     refine Unw.blkx<|us<|gs<|g2 c39 j j hst (q (oAsI j j)<|nl)<|us<|Go.ret (Unw.ret ?_)
     cases h
     exact fr rF39 j
    ·dsimp only at h
     obtain ⟨he,hfin⟩:=hp
     obtain rfl:e= .ret:=he
     cases h
     exact Unw.ret (Fin_ret hfin)
theorem L_impl_SpeciesData {name_0:ByteArray} {r:(Int×Int×Int×Int)} (h:impl_SpeciesData name_0=some r):FX 43 [.im 2 false [Y name_0]] (B0 [(false,[.im 0 (I r.1)]),(false,[.im 0 (I r.2.1)]),(false,[.im 0 (I r.2.2.1)]),(false,[.im 0 (I r.2.2.2)])]):=by
 unfold impl_SpeciesData at h
 refine gn 27 Try.func43 rfl ?_
 refine gs<|g0 j j (q (oAsI j j)<|q (oAsI j j)<|q (oAsI j j)<|q (oAsI j j)<|nl)<|us<|gs<|gs<|g0 j j (q (oMv j j)<|nl)<|us<|Go.block<|gs<|g0 j j (q (oBi j j j j)<|q (oAsI j j)<|nl)<|us<|gc h j iStr (fun hc1 h=>?_) fun hc1 h=>?_
 ·refine gs<|g0 j j (q (oAsI j j)<|q (oAsI j j)<|q (oAsI j j)<|q (oAsI j j)<|nl)<|us<|Go.ret (Unw.ret ?_)
  cases h
  exact fr rF43 j
 ·refine gs<|g0 j j (q (oBi j j j j)<|q (oAsI j j)<|nl)<|us<|gc h j iStr (fun hc2 h=>?_) fun hc2 h=>?_
  ·refine gs<|g0 j j (q (oAsI j j)<|q (oAsI j j)<|q (oAsI j j)<|q (oAsI j j)<|nl)<|us<|Go.ret (Unw.ret ?_)
   cases h
   exact fr rF43 j
  ·refine gs<|g0 j j (q (oBi j j j j)<|q (oAsI j j)<|nl)<|us<|gc h j iStr (fun hc3 h=>?_) fun hc3 h=>?_
   ·refine gs<|g0 j j (q (oAsI j j)<|q (oAsI j j)<|q (oAsI j j)<|q (oAsI j j)<|nl)<|us<|Go.ret (Unw.ret ?_)
    cases h
    exact fr rF43 j
   ·refine gs<|g0 j j (q (oBi j j j j)<|q (oAsI j j)<|nl)<|us<|gc h j iStr (fun hc4 h=>?_) fun hc4 h=>?_
    ·refine gs<|g0 j j (q (oAsI j j)<|q (oAsI j j)<|q (oAsI j j)<|q (oAsI j j)<|nl)<|us<|Go.ret (Unw.ret ?_)
     cases h
     exact fr rF43 j
    ·refine gs<|g0 j j (q (oBi j j j j)<|q (oAsI j j)<|nl)<|us<|gc h j iStr (fun hc5 h=>?_) fun hc5 h=>?_
     ·refine gs<|g0 j j (q (oAsI j j)<|q (oAsI j j)<|q (oAsI j j)<|q (oAsI j j)<|nl)<|us<|Go.ret (Unw.ret ?_)
      cases h
      exact fr rF43 j
     ·refine gs<|g0 j j (q (oBi j j j j)<|q (oAsI j j)<|nl)<|us<|gc h j iStr (fun hc6 h=>?_) fun hc6 h=>?_
      ·refine gs<|g0 j j (q (oAsI j j)<|q (oAsI j j)<|q (oAsI j j)<|q (oAsI j j)<|nl)<|us<|Go.ret (Unw.ret ?_)
       cases h
       exact fr rF43 j
      ·refine gs<|g0 j j (q (oBi j j j j)<|q (oAsI j j)<|nl)<|us<|gc h j iStr (fun hc7 h=>?_) fun hc7 h=>?_
       ·refine gs<|g0 j j (q (oAsI j j)<|q (oAsI j j)<|q (oAsI j j)<|q (oAsI j j)<|nl)<|us<|Go.ret (Unw.ret ?_)
        cases h
        exact fr rF43 j
       ·refine gs<|g0 j j (q (oBi j j j j)<|q (oAsI j j)<|nl)<|us<|gc h j iStr (fun hc8 h=>?_) fun hc8 h=>?_
        ·refine gs<|g0 j j (q (oAsI j j)<|q (oAsI j j)<|q (oAsI j j)<|q (oAsI j j)<|nl)<|us<|Go.ret (Unw.ret ?_)
         cases h
         exact fr rF43 j
        ·refine gs<|g0 j j (q (oBi j j j j)<|q (oAsI j j)<|nl)<|us<|gc h j iStr (fun hc9 h=>?_) fun hc9 h=>?_
         ·refine gs<|g0 j j (q (oAsI j j)<|q (oAsI j j)<|q (oAsI j j)<|q (oAsI j j)<|nl)<|us<|Go.ret (Unw.ret ?_)
          cases h
          exact fr rF43 j
         ·refine gs<|g0 j j (q (oBi j j j j)<|q (oAsI j j)<|nl)<|us<|gc h j iStr (fun hc10 h=>?_) fun hc10 h=>?_
          ·refine gs<|g0 j j (q (oAsI j j)<|q (oAsI j j)<|q (oAsI j j)<|q (oAsI j j)<|nl)<|us<|Go.ret (Unw.ret ?_)
           cases h
           exact fr rF43 j
          ·refine Go.skip<|Unw.blk<|us<|gs<|g0 j j (q (oAsI j j)<|q (oAsI j j)<|q (oAsI j j)<|q (oAsI j j)<|nl)<|us<|Go.ret (Unw.ret ?_)
           cases h
           exact fr rF43 j
theorem L_impl_speciesShade {name_0:ByteArray} {r:(Int×Bool)} (h:impl_speciesShade name_0=some r):FX 42 [.im 2 false [Y name_0]] (B0 [(false,[.im 0 (I r.1)]),(false,[.im 0 (V r.2)])]):=by
 unfold impl_speciesShade at h
 refine gn 18 Try.func42 rfl ?_
 refine gs<|g0 j j (q (oAsI j j)<|q (oAsI j j)<|nl)<|us<|gs<|?_
 obtain ⟨x10,hx10,h⟩:=bs h
 refine g0 j j (q (oMv j j)<|q (oCa (xs:=[.v false [.im 2 _]]) (vs:=[(false,[.im 0 _]),(false,[.im 0 _]),(false,[.im 0 _]),(false,[.im 0 _])]) (v:=.tup [(false,[.im 0 _]),(false,[.im 0 _]),(false,[.im 0 _]),(false,[.im 0 _])]) (L_impl_SpeciesData hx10) (.inl j) j kF43_9 j (ppC j pp0) j j pb0 j j j)<|q (oMvT j j)<|q (oEx j j j)<|q (oEx j j j)<|q (oEx j j j)<|q (oEx j j j)<|q (oAsI j j)<|q (oAsI j j)<|q (oAsI j j)<|q (oAsI j j)<|nl)<|us<|gs<|g0 j j (q (oMv j j)<|q (oMv j j)<|q (oBi j j j j)<|q (oAsI j j)<|q (oAsI j j)<|nl)<|us<|Go.ret (Unw.ret ?_)
 cases h
 exact fr rF42 j
theorem L_impl_within {n_0:Int} {low_1:Int} {high_2:Int} {r:Bool} (h:impl_within n_0 low_1 high_2=some r):FX 28 [.im 2 false [I n_0],.im 2 false [I low_1],.im 2 false [I high_2]] (B0 [(false,[.im 0 (V r)])]):=by
 unfold impl_within at h
 refine gn 15 Try.func28 rfl ?_
 refine gs<|g0 j j (q (oAsI j j)<|nl)<|us<|gs<|gX c28 j j j (mk [(6,bv ((decide (n_0≥low_1))&&(decide (n_0≤high_2))))] []) ?_ ?_
 ·refine xq (oMv j j)<|xq (oMv j j)<|xq (oBi j j j j)<|xq (oMv j j)<|?_
  by_cases hc1:n_0≥low_1
  ·exact xqT rfl rfl (iDec.2 hc1) (oMv rfl rfl)<|xqT rfl rfl (iDec.2 hc1) (oMv rfl rfl)<|xqT rfl rfl (iDec.2 hc1) (oBi rfl rfl rfl rfl)<|xq (oPkT rfl rfl (iDec.2 hc1) rfl)<|xq (oAsI rfl rfl)<|xn (Eq.trans (b:=(fun t_6_m1:Bool=>mk [(6,bv t_6_m1)] []) (decide (n_0≤high_2))) (by kernel_rfl) (congrArg (fun t_6_m1:Bool=>mk [(6,bv t_6_m1)] []) (by first | rfl | (simp [(iDec.2 hc1)];done) | (simp [(iDec.2 hc1)];omega))))
  ·exact xsgF rfl rfl (byF iDec hc1) rfl<|xsgF rfl rfl (byF iDec hc1) rfl<|xsgF rfl rfl (byF iDec hc1) rfl<|xq (oPkF rfl rfl (byF iDec hc1) rfl)<|xq (oAsI rfl rfl)<|xn (Eq.trans (b:=(fun t_6_m1:Bool=>mk [(6,bv t_6_m1)] []) false) (by kernel_rfl) (congrArg (fun t_6_m1:Bool=>mk [(6,bv t_6_m1)] []) (by first | rfl | (simp [(byF iDec hc1)];done) | (simp [(byF iDec hc1)];omega))))
 ·refine us<|Go.ret (Unw.ret ?_)
  cases h
  exact fr rF28 j
theorem L_impl_ValidVeneer {v_0:S_Veneer} {r:Bool} (h:impl_ValidVeneer v_0=some r):FX 40 [.im 2 true (u_S_Veneer v_0)] (B0 [(false,[.im 0 (V r)])]):=by
 unfold impl_ValidVeneer at h
 refine gn 29 Try.func40 rfl ?_
 refine gs<|g0 j j (q (oBx j tF47 j (tkI (tkI (tkI tk0))))<|q (oAsI j j)<|nl)<|us<|gs<|?_
 obtain ⟨x8,hx8,h⟩:=bs h
 refine g0 j j (q (oFA (r':=.mp 1 0 0) j fF47_0 j j)<|q (oLd (cs:=[.im 0 _]) j tF9 j j)<|q (oCa (xs:=[.v false [.im 0 _]]) (vs:=[(false,[.im 0 _]),(false,[.im 0 _])]) (v:=.tup [(false,[.im 0 _]),(false,[.im 0 _])]) (L_impl_speciesShade hx8) (.inl j) j kF42_9 j (ppC j pp0) j j pb0 j j j)<|q (oMvT j j)<|q (oEx j j j)<|q (oEx j j j)<|q (oAsI j j)<|q (oAsI j j)<|nl)<|us<|gs<|?_
 obtain ⟨t_2_m2,hm4,h⟩:=bs h
 refine gX c40 j j j (mk [(2,bv t_2_m2)] []) ?_ ?_
 ·refine xq (oMv j j)<|xq (oMv j j)<|?_
  refine ic hm4 (fun hc1 hm4=>?_) fun hc1 hm4=>?_
  ·obtain ⟨x15,hx15,hm4⟩:=bs hm4
   refine xqT j j (iR.2 hc1) (oFA (r':=.mp 1 0 1) j fF47_1 j j)<|xqT j j (iR.2 hc1) (oLd (cs:=[.im 0 _]) j tF2 j j)<|xqT j j (iR.2 hc1) (oCa (xs:=[.v false [.im 0 _],.v false [.im 0 _],.v false [.im 0 _]]) (vs:=[(false,[.im 0 _])]) (v:=.v false [.im 0 _]) (L_impl_within hx15) (.inl j) j kF28_2_2_2 j (ppC j (ppC j (ppC j pp0))) j j pb0 j j j)<|xq (oPkT j j (iR.2 hc1) j)<|xq (oMv j j)<|?_
   refine ic hm4 (fun hc2 hm4=>?_) fun hc2 hm4=>?_
   ·obtain ⟨x22,hx22,hm4⟩:=bs hm4
    refine xqT j j (iR.2 hc2) (oFA (r':=.mp 1 0 1) j fF47_1 j j)<|xqT j j (iR.2 hc2) (oLd (cs:=[.im 0 _]) j tF2 j j)<|xqT j j (iR.2 hc2) (oMv j j)<|xqT j j (iR.2 hc2) (oBi j j j j)<|xqT j j (iR.2 hc2) (oCa (xs:=[.v false [.im 0 _],.v false [.im 0 _],.v false [.im 0 _]]) (vs:=[(false,[.im 0 _])]) (v:=.v false [.im 0 _]) (L_impl_within hx22) (.inl j) j kF28_2_2_2 j (ppC j (ppC j (ppC j pp0))) j j pb0 j j j)<|xq (oPkT j j (iR.2 hc2) j)<|xq (oMv j j)<|?_
    refine ic hm4 (fun hc3 hm4=>?_) fun hc3 hm4=>?_
    ·obtain ⟨x27,hx27,hm4⟩:=bs hm4
     cases hm4
     exact xqT j j (iR.2 hc3) (oFA (r':=.mp 1 0 2) j fF47_2 j j)<|xqT j j (iR.2 hc3) (oLd (cs:=[.im 0 _]) j tF2 j j)<|xqT j j (iR.2 hc3) (oCa (xs:=[.v false [.im 0 _],.v false [.im 0 _],.v false [.im 0 _]]) (vs:=[(false,[.im 0 _])]) (v:=.v false [.im 0 _]) (L_impl_within hx27) (.inl j) j kF28_2_2_2 j (ppC j (ppC j (ppC j pp0))) j j pb0 j j j)<|xq (oPkT j j (iR.2 hc3) j)<|xq (oAsI j j)<|xn
    ·cases hm4
     exact xsgF j j (byF iR hc3) j<|xsgF j j (byF iR hc3) j<|xsgF j j (byF iR hc3) j<|xq (oPkF j j (byF iR hc3) j)<|xq (oAsI j j)<|xn
   ·cases hm4
    exact xsgF j j (byF iR hc2) j<|xsgF j j (byF iR hc2) j<|xsgF j j (byF iR hc2) j<|xsgF j j (byF iR hc2) j<|xsgF j j (byF iR hc2) j<|xq (oPkF j j (byF iR hc2) j)<|xq (oMv j j)<|xsgF j j j j<|xsgF j j j j<|xsgF j j j j<|xq (oPkF j j j j)<|xq (oAsI j j)<|xn
  ·cases hm4
   exact xsgF j j (byF iR hc1) j<|xsgF j j (byF iR hc1) j<|xsgF j j (byF iR hc1) j<|xq (oPkF j j (byF iR hc1) j)<|xq (oMv j j)<|xsgF j j j j<|xsgF j j j j<|xsgF j j j j<|xsgF j j j j<|xsgF j j j j<|xq (oPkF j j j j)<|xq (oMv j j)<|xsgF j j j j<|xsgF j j j j<|xsgF j j j j<|xq (oPkF j j j j)<|xq (oAsI j j)<|xn
 ·refine us<|Go.ret (Unw.ret ?_)
  cases h
  exact fr rF40 j
theorem L_impl_ValidLoss {x_0:S_Loss} {r:Bool} (h:impl_ValidLoss x_0=some r):FX 33 [.im 2 true (u_S_Loss x_0)] (B0 [(false,[.im 0 (V r)])]):=by
 unfold impl_ValidLoss at h
 refine gn 31 Try.func33 rfl ?_
 refine gs<|g0 j j (q (oBx j tF49 j (tkI (tkI (tkI (tkI (tkI (tkI (tkI (tkI tk0)))))))))<|q (oAsI j j)<|nl)<|us<|gs<|?_
 obtain ⟨x5,hx5,h⟩:=bs h
 obtain ⟨t_2_m1,hm6,h⟩:=bs h
 refine gX c33 j j (st1:=mk [(1,M 1)] [(1,Oa (G 0 (u_S_Loss x_0)))]) (by kernel_rfl) (mk [(2,bv t_2_m1)] []) ?_ ?_
 ·refine xq (oFA (r':=.mp 1 0 0) j fF49_0 j j)<|xq (oLd (cs:=[.im 0 _]) j tF9 j j)<|xq (oCa (xs:=[.v false [.im 0 _]]) (vs:=[(false,[.im 0 _])]) (v:=.v false [.im 0 _]) (L_impl_IsName hx5) (.inl j) j kF39_9 j (ppC j pp0) j j pb0 j j j)<|xq (oMv j j)<|?_
  refine ic hm6 (fun hc1 hm6=>?_) fun hc1 hm6=>?_
  ·obtain ⟨x9,hx9,hm6⟩:=bs hm6
   refine xqT j j (iR.2 hc1) (oFA (r':=.mp 1 0 1) j fF49_1 j j)<|xqT j j (iR.2 hc1) (oLd (cs:=[.im 0 _,.im 0 _,.im 0 _]) j tF47 j j)<|xqT j j (iR.2 hc1) (oCa (xs:=[.v true [.im 0 _,.im 0 _,.im 0 _]]) (vs:=[(false,[.im 0 _])]) (v:=.v false [.im 0 _]) (L_impl_ValidVeneer hx9) (.inl j) j kF40_47 j (ppC j pp0) j j pb0 j j j)<|xq (oPkT j j (iR.2 hc1) j)<|xq (oMv j j)<|?_
   refine ic hm6 (fun hc2 hm6=>?_) fun hc2 hm6=>?_
   ·obtain ⟨x14,hx14,hm6⟩:=bs hm6
    refine xqT j j (iR.2 hc2) (oFA (r':=.mp 1 0 4) j fF49_2 j j)<|xqT j j (iR.2 hc2) (oLd (cs:=[.im 0 _]) j tF2 j j)<|xqT j j (iR.2 hc2) (oCa (xs:=[.v false [.im 0 _],.v false [.im 0 _],.v false [.im 0 _]]) (vs:=[(false,[.im 0 _])]) (v:=.v false [.im 0 _]) (L_impl_within hx14) (.inl j) j kF28_2_2_2 j (ppC j (ppC j (ppC j pp0))) j j pb0 j j j)<|xq (oPkT j j (iR.2 hc2) j)<|xq (oMv j j)<|?_
    refine ic hm6 (fun hc3 hm6=>?_) fun hc3 hm6=>?_
    ·obtain ⟨x19,hx19,hm6⟩:=bs hm6
     refine xqT j j (iR.2 hc3) (oFA (r':=.mp 1 0 5) j fF49_3 j j)<|xqT j j (iR.2 hc3) (oLd (cs:=[.im 0 _]) j tF2 j j)<|xqT j j (iR.2 hc3) (oCa (xs:=[.v false [.im 0 _],.v false [.im 0 _],.v false [.im 0 _]]) (vs:=[(false,[.im 0 _])]) (v:=.v false [.im 0 _]) (L_impl_within hx19) (.inl j) j kF28_2_2_2 j (ppC j (ppC j (ppC j pp0))) j j pb0 j j j)<|xq (oPkT j j (iR.2 hc3) j)<|xq (oMv j j)<|?_
     refine ic hm6 (fun hc4 hm6=>?_) fun hc4 hm6=>?_
     ·obtain ⟨x24,hx24,hm6⟩:=bs hm6
      refine xqT j j (iR.2 hc4) (oFA (r':=.mp 1 0 6) j fF49_4 j j)<|xqT j j (iR.2 hc4) (oLd (cs:=[.im 0 _]) j tF2 j j)<|xqT j j (iR.2 hc4) (oCa (xs:=[.v false [.im 0 _],.v false [.im 0 _],.v false [.im 0 _]]) (vs:=[(false,[.im 0 _])]) (v:=.v false [.im 0 _]) (L_impl_within hx24) (.inl j) j kF28_2_2_2 j (ppC j (ppC j (ppC j pp0))) j j pb0 j j j)<|xq (oPkT j j (iR.2 hc4) j)<|xq (oMv j j)<|?_
      refine ic hm6 (fun hc5 hm6=>?_) fun hc5 hm6=>?_
      ·obtain ⟨x29,hx29,hm6⟩:=bs hm6
       cases hm6
       exact xqT j j (iR.2 hc5) (oFA (r':=.mp 1 0 7) j fF49_5 j j)<|xqT j j (iR.2 hc5) (oLd (cs:=[.im 0 _]) j tF2 j j)<|xqT j j (iR.2 hc5) (oCa (xs:=[.v false [.im 0 _],.v false [.im 0 _],.v false [.im 0 _]]) (vs:=[(false,[.im 0 _])]) (v:=.v false [.im 0 _]) (L_impl_within hx29) (.inl j) j kF28_2_2_2 j (ppC j (ppC j (ppC j pp0))) j j pb0 j j j)<|xq (oPkT j j (iR.2 hc5) j)<|xq (oAsI j j)<|xn
      ·cases hm6
       exact xsgF j j (byF iR hc5) j<|xsgF j j (byF iR hc5) j<|xsgF j j (byF iR hc5) j<|xq (oPkF j j (byF iR hc5) j)<|xq (oAsI j j)<|xn
     ·cases hm6
      exact xsgF j j (byF iR hc4) j<|xsgF j j (byF iR hc4) j<|xsgF j j (byF iR hc4) j<|xq (oPkF j j (byF iR hc4) j)<|xq (oMv j j)<|xsgF j j j j<|xsgF j j j j<|xsgF j j j j<|xq (oPkF j j j j)<|xq (oAsI j j)<|xn
    ·cases hm6
     exact xsgF j j (byF iR hc3) j<|xsgF j j (byF iR hc3) j<|xsgF j j (byF iR hc3) j<|xq (oPkF j j (byF iR hc3) j)<|xq (oMv j j)<|xsgF j j j j<|xsgF j j j j<|xsgF j j j j<|xq (oPkF j j j j)<|xq (oMv j j)<|xsgF j j j j<|xsgF j j j j<|xsgF j j j j<|xq (oPkF j j j j)<|xq (oAsI j j)<|xn
   ·cases hm6
    exact xsgF j j (byF iR hc2) j<|xsgF j j (byF iR hc2) j<|xsgF j j (byF iR hc2) j<|xq (oPkF j j (byF iR hc2) j)<|xq (oMv j j)<|xsgF j j j j<|xsgF j j j j<|xsgF j j j j<|xq (oPkF j j j j)<|xq (oMv j j)<|xsgF j j j j<|xsgF j j j j<|xsgF j j j j<|xq (oPkF j j j j)<|xq (oMv j j)<|xsgF j j j j<|xsgF j j j j<|xsgF j j j j<|xq (oPkF j j j j)<|xq (oAsI j j)<|xn
  ·cases hm6
   exact xsgF j j (byF iR hc1) j<|xsgF j j (byF iR hc1) j<|xsgF j j (byF iR hc1) j<|xq (oPkF j j (byF iR hc1) j)<|xq (oMv j j)<|xsgF j j j j<|xsgF j j j j<|xsgF j j j j<|xq (oPkF j j j j)<|xq (oMv j j)<|xsgF j j j j<|xsgF j j j j<|xsgF j j j j<|xq (oPkF j j j j)<|xq (oMv j j)<|xsgF j j j j<|xsgF j j j j<|xsgF j j j j<|xq (oPkF j j j j)<|xq (oMv j j)<|xsgF j j j j<|xsgF j j j j<|xsgF j j j j<|xq (oPkF j j j j)<|xq (oAsI j j)<|xn
 ·refine us<|Go.ret (Unw.ret ?_)
  cases h
  exact fr rF33 j
theorem L_impl_ValidLosses {list_0:(List S_Loss)} {r:Bool} (h:impl_ValidLosses list_0=some r):FX 27 [.im 2 false [W 8 e_S_Loss list_0]] (B0 [(false,[.im 0 (V r)])]):=by
 unfold impl_ValidLosses at h
 refine gn 34 Try.func27 rfl ?_
 refine gs<|g0 j j (q (oAsI j j)<|nl)<|us<|gs<|gs<|g0 j j (q (oMv j j)<|q (oLnI j j uF27 j)<|q (oMv j j)<|nl)<|us<|Go.block<|?_
 obtain ⟨o,hl,h⟩:=bs h
 refine gl c27 j _ (fun (t_7_l2:Int)=>mk [(0,D 2 (W 8 e_S_Loss list_0)),(5,D 2 (W 8 e_S_Loss list_0)),(6,iv (list_0.length:Int)),(7,iv t_7_l2)] []) (fun (o:(Unit ⊕ Bool)) (p:Ex×St)=>match o with | (.inl _)=>p.1= .exit 0∧p.2.norm ([0],[])=mk [(0,D 2 (W 8 e_S_Loss list_0))] [] | (.inr r2)=>p.1= .ret∧fin Try.prog cfg 27 Try.f27 [.im 2 false [W 8 e_S_Loss list_0]] p.2=some (B0 [(false,[.im 0 (V r2)])])) hl (by kernel_rfl) ?_ ?_ ?_
 ·intro o p hp e
  rcases o with u | r2<;>exact nomatch (hp.1.symm.trans e)
 ·rintro t_7_l2 o h
  unfold impl_ValidLosses_l2 at h
  refine gs<|g0 j j (q (oBi j j j j)<|nl)<|us<|gs<|gc h j iDec (fun hc11 h=>?_) fun hc11 h=>?_
  ·refine Go.skip<|us<|gs<|Go.block<|gs<|?_
   obtain ⟨x10,hx10,h⟩:=bs h
   refine g0 j j (q (oMv j j)<|q (oIAI j hx10 sF27 j j)<|q (oLd (cs:=[.im 2 _,.im 2 _,.im 2 _,.im 2 _,.im 2 _,.im 2 _,.im 2 _,.im 2 _]) j tF49 j j)<|q (oAl j tF49 (tkI (tkI (tkI (tkI (tkI (tkI (tkI (tkI tk0)))))))))<|q (oAsI j j)<|q (oSt tF49 j j j (tkI (tkI (tkI (tkI (tkI (tkI (tkI (tkI tk0)))))))) j j j)<|nl)<|us<|gs<|?_
   obtain ⟨x13,hx13,h⟩:=bs h
   obtain ⟨t_29_m4,hm15,h⟩:=bs h
   refine gd c27 j j j (st1:=mk [(0,D 2 (W 8 e_S_Loss list_0)),(3,iv t_7_l2),(4,M 4),(5,D 2 (W 8 e_S_Loss list_0)),(6,iv (list_0.length:Int)),(7,iv t_7_l2)] [(4,Oa (G 0 (u_S_Loss x10)))]) (by kernel_rfl) (mk [(0,D 2 (W 8 e_S_Loss list_0)),(5,D 2 (W 8 e_S_Loss list_0)),(6,iv (list_0.length:Int)),(7,iv t_7_l2),(29,bv t_29_m4)] []) ?_ ?_
   ·refine ic hm15 (fun hc12 hm15=>?_) fun hc12 hm15=>?_
    ·refine ic hm15 (fun hc13 hm15=>?_) fun hc13 hm15=>?_
     ·obtain ⟨x22,hx22,hm15⟩:=bs hm15
      cases hm15
      exact t j j (oLd (cs:=[.im 0 _,.im 0 _,.im 0 _,.im 0 _,.im 0 _,.im 0 _,.im 0 _,.im 0 _]) j tF49 j j)<|sS (dN z27 j (oCa (xs:=[.v true [.im 0 _,.im 0 _,.im 0 _,.im 0 _,.im 0 _,.im 0 _,.im 0 _,.im 0 _]]) (vs:=[(false,[.im 0 _])]) (v:=.v false [.im 0 _]) (L_impl_ValidLoss hx13) (.inl j) j kF33_49 j (ppC j pp0) j j pb0 j j j)) trivial (t j j (oUn j j j)<|t j j (oMv j j)<|tT j j j j (nF (iR.2 hc12)) (oMv j j)<|tT j j j j (nF (iR.2 hc12)) (oBi j j j j)<|tT j j j j (nF (iR.2 hc12)) (oMv j j)<|tT j j j j (iDec.2 hc13) (oMv j j)<|tT j j j j (iDec.2 hc13) (oMv j j)<|tT j j j j (iDec.2 hc13) (oBi j j j j)<|tT j j j j (iDec.2 hc13) (oIAI j hx22 sF27 j j)<|tT j j j j (iDec.2 hc13) (oFA (r':=.im 2 _) j fF49_0 j j)<|tT j j j j (iDec.2 hc13) (oLd (cs:=[.im 2 _]) j tF9 j j)<|tT j j j j (iDec.2 hc13) (oFA (r':=.mp 4 0 0) j fF49_0 j j)<|tT j j j j (iDec.2 hc13) (oLd (cs:=[.im 0 _]) j tF9 j j)<|tT j j j j (iDec.2 hc13) (oBi j j j j)<|tT j j j j (nF (iR.2 hc12)) (oPkT j j (iDec.2 hc13) j)<|t j j (oPkF j j (nF (iR.2 hc12)) j)<|sD (by kernel_rfl))
     ·cases hm15
      exact t j j (oLd (cs:=[.im 0 _,.im 0 _,.im 0 _,.im 0 _,.im 0 _,.im 0 _,.im 0 _,.im 0 _]) j tF49 j j)<|sS (dN z27 j (oCa (xs:=[.v true [.im 0 _,.im 0 _,.im 0 _,.im 0 _,.im 0 _,.im 0 _,.im 0 _,.im 0 _]]) (vs:=[(false,[.im 0 _])]) (v:=.v false [.im 0 _]) (L_impl_ValidLoss hx13) (.inl j) j kF33_49 j (ppC j pp0) j j pb0 j j j)) trivial (t j j (oUn j j j)<|t j j (oMv j j)<|tT j j j j (nF (iR.2 hc12)) (oMv j j)<|tT j j j j (nF (iR.2 hc12)) (oBi j j j j)<|tT j j j j (nF (iR.2 hc12)) (oMv j j)<|tF j j j j (byF iDec hc13) j<|tF j j j j (byF iDec hc13) j<|tF j j j j (byF iDec hc13) j<|tF j j j j (byF iDec hc13) j<|tF j j j j (byF iDec hc13) j<|tF j j j j (byF iDec hc13) j<|tF j j j j (byF iDec hc13) j<|tF j j j j (byF iDec hc13) j<|tF j j j j (byF iDec hc13) j<|tT j j j j (nF (iR.2 hc12)) (oPkF j j (byF iDec hc13) j)<|t j j (oPkF j j (nF (iR.2 hc12)) j)<|sD (by kernel_rfl))
    ·cases hm15
     exact t j j (oLd (cs:=[.im 0 _,.im 0 _,.im 0 _,.im 0 _,.im 0 _,.im 0 _,.im 0 _,.im 0 _]) j tF49 j j)<|sS (dN z27 j (oCa (xs:=[.v true [.im 0 _,.im 0 _,.im 0 _,.im 0 _,.im 0 _,.im 0 _,.im 0 _,.im 0 _]]) (vs:=[(false,[.im 0 _])]) (v:=.v false [.im 0 _]) (L_impl_ValidLoss hx13) (.inl j) j kF33_49 j (ppC j pp0) j j pb0 j j j)) trivial (t j j (oUn j j j)<|t j j (oMv j j)<|tF j j j j (nT (byF iR hc12)) j<|tF j j j j (nT (byF iR hc12)) j<|tF j j j j (nT (byF iR hc12)) j<|sT j (dU j j j j)<|sT j (dU j j j j)<|sT j (dU j j j j)<|sT j (dU j j j j)<|sT j (dU j j j j)<|sT j (dU j j j j)<|sT j (dU j j j j)<|sT j (dU j j j j)<|sT j (dU j j j j)<|tF j j j j (nT (byF iR hc12)) j<|t j j (oPkT j j (nT (byF iR hc12)) j)<|sD (by kernel_rfl))
   ·refine us<|gc h j iR (fun hc14 h=>?_) fun hc14 h=>?_
    ·refine gs<|g0 j j (q (oAsI j j)<|nl)<|us<|Go.ret (Unw.ret ?_)
     cases h
     exact ⟨j,(fo rF27 j)⟩
    ·refine Go.skip<|Unw.blk<|us<|g0 j j (q (oBi j j j j)<|q (oMv j j)<|nl)<|Unw.nil<|?_
     cases h
     exact ⟨j,(by kernel_rfl)⟩
  ·refine Go.exit<|ux<|Unw.nil<|?_
   cases h
   exact ⟨j,(by kernel_rfl)⟩
 ·rintro ⟨e,st⟩ hp
  rcases o with u | r2
  ·dsimp only at h
   obtain ⟨he,hst⟩:=hp
   obtain rfl:e= .exit 0:=he
   refine Unw.blkx<|us<|gs<|g2 c27 j j hst (q (oMv j j)<|q (oLnI j j uF27 j)<|q (oBi j j j j)<|q (oAsI j j)<|nl)<|us<|Go.ret (Unw.ret ?_)
   cases h
   exact fr rF27 j
  ·dsimp only at h
   obtain ⟨he,hfin⟩:=hp
   obtain rfl:e= .ret:=he
   cases h
   exact Unw.ret (Fin_ret hfin)
theorem L_impl_repairsCode {list_0:(List S_Loss)} {money_1:Int} {minutes_2:Int} {budget_3:Int} {r:Int} (h:impl_repairsCode list_0 money_1 minutes_2 budget_3=some r):FX 20 [.im 2 false [W 8 e_S_Loss list_0],.im 2 false [I money_1],.im 2 false [I minutes_2],.im 2 false [I budget_3]] (B0 [(false,[.im 0 (I r)])]):=by
 unfold impl_repairsCode at h
 refine gn 27 Try.func20 rfl ?_
 refine gs<|g0 j j (q (oAsI j j)<|nl)<|us<|gs<|Go.block<|gs<|?_
 obtain ⟨x11,hx11,h⟩:=bs h
 refine g0 j j (q (oMv j j)<|q (oCa (xs:=[.v false [.im 2 _]]) (vs:=[(false,[.im 0 _])]) (v:=.v false [.im 0 _]) (L_impl_ValidLosses hx11) (.inl j) j kF27_27 j (ppC j pp0) j j pb0 j j j)<|q (oUn j j j)<|q (oAsI j j)<|nl)<|us<|?_
 by_cases hc1:x11=true
 ·rw [if_pos hc1] at h
  refine gF j (nF (iR.2 hc1))<|gs<|?_
  obtain ⟨x15,hx15,h⟩:=bs h
  obtain ⟨t_13_m3,hm5,h⟩:=bs h
  refine gX c20 j j j (mk [(13,bv t_13_m3)] []) ?_ ?_
  ·refine xq (oMv j j)<|xq (oCa (xs:=[.v false [.im 2 _],.v false [.im 0 _],.v false [.im 0 _]]) (vs:=[(false,[.im 0 _])]) (v:=.v false [.im 0 _]) (L_impl_within hx15) (.inl j) j kF28_2_2_2 j (ppC j (ppC j (ppC j pp0))) j j pb0 j j j)<|xq (oUn j j j)<|xq (oMv j j)<|?_
   refine ic hm5 (fun hc2 hm5=>?_) fun hc2 hm5=>?_
   ·obtain ⟨x19,hx19,hm5⟩:=bs hm5
    refine xqT j j (nF (iR.2 hc2)) (oMv j j)<|xqT j j (nF (iR.2 hc2)) (oCa (xs:=[.v false [.im 2 _],.v false [.im 0 _],.v false [.im 0 _]]) (vs:=[(false,[.im 0 _])]) (v:=.v false [.im 0 _]) (L_impl_within hx19) (.inl j) j kF28_2_2_2 j (ppC j (ppC j (ppC j pp0))) j j pb0 j j j)<|xqT j j (nF (iR.2 hc2)) (oUn j j j)<|xq (oPkF j j (nF (iR.2 hc2)) j)<|xq (oMv j j)<|?_
    refine ic hm5 (fun hc3 hm5=>?_) fun hc3 hm5=>?_
    ·obtain ⟨x24,hx24,hm5⟩:=bs hm5
     cases hm5
     exact xqT j j (nF (iR.2 hc3)) (oMv j j)<|xqT j j (nF (iR.2 hc3)) (oCa (xs:=[.v false [.im 2 _],.v false [.im 0 _],.v false [.im 0 _]]) (vs:=[(false,[.im 0 _])]) (v:=.v false [.im 0 _]) (L_impl_within hx24) (.inl j) j kF28_2_2_2 j (ppC j (ppC j (ppC j pp0))) j j pb0 j j j)<|xqT j j (nF (iR.2 hc3)) (oUn j j j)<|xq (oPkF j j (nF (iR.2 hc3)) j)<|xq (oAsI j j)<|xn
    ·cases hm5
     exact xsgF j j (nT (byF iR hc3)) j<|xsgF j j (nT (byF iR hc3)) j<|xsgF j j (nT (byF iR hc3)) j<|xq (oPkT j j (nT (byF iR hc3)) j)<|xq (oAsI j j)<|xn
   ·cases hm5
    exact xsgF j j (nT (byF iR hc2)) j<|xsgF j j (nT (byF iR hc2)) j<|xsgF j j (nT (byF iR hc2)) j<|xq (oPkT j j (nT (byF iR hc2)) j)<|xq (oMv j j)<|xsgF j j j j<|xsgF j j j j<|xsgF j j j j<|xq (oPkT j j j j)<|xq (oAsI j j)<|xn
  ·refine us<|gc h j iR (fun hc4 h=>?_) fun hc4 h=>?_
   ·refine gs<|g0 j j (q (oAsI j j)<|nl)<|us<|Go.ret (Unw.ret ?_)
    cases h
    exact fr rF20 j
   ·refine Go.skip<|Unw.blk<|us<|gs<|g0 j j (q (oAsI j j)<|nl)<|us<|Go.ret (Unw.ret ?_)
    cases h
    exact fr rF20 j
 ·rw [if_neg hc1] at h
  refine gT j (nT (byF iR hc1))<|gs<|g0 j j (q (oAsI j j)<|nl)<|us<|Go.ret (Unw.ret ?_)
  cases h
  exact fr rF20 j
theorem L_impl_repairSearch_run_F {self:(S_repairSearch×(List Int)×Int×Int×Int×Int)→Option (Bool×S_repairSearch)} (ih:∀{s_0:S_repairSearch} {choice_1:(List Int)} {from_2:Int} {priority_3:Int} {money_4:Int} {minutes_5:Int} {r:(Bool×S_repairSearch)},self (s_0,choice_1,from_2,priority_3,money_4,minutes_5)=some r→FX 21 [.ptr true [(.imm,W 8 e_S_Loss s_0.list),(.imm,I s_0.left),(.gone,W 1 eI s_0.best),(.imm,I s_0.most)],.im 0 false [W 1 eI choice_1],.im 2 false [I from_2],.im 2 false [I priority_3],.im 2 false [I money_4],.im 2 false [I minutes_5]] ([(false,[.im 0 (V r.1)])],[.ptr true [(.imm,W 8 e_S_Loss r.2.list),(.imm,I r.2.left),(.gone,W 1 eI r.2.best),(.imm,I r.2.most)]])) {s_0:S_repairSearch} {choice_1:(List Int)} {from_2:Int} {priority_3:Int} {money_4:Int} {minutes_5:Int} {r:(Bool×S_repairSearch)} (h:impl_repairSearch_run_F self s_0 choice_1 from_2 priority_3 money_4 minutes_5=some r):FX 21 [.ptr true [(.imm,W 8 e_S_Loss s_0.list),(.imm,I s_0.left),(.gone,W 1 eI s_0.best),(.imm,I s_0.most)],.im 0 false [W 1 eI choice_1],.im 2 false [I from_2],.im 2 false [I priority_3],.im 2 false [I money_4],.im 2 false [I minutes_5]] ([(false,[.im 0 (V r.1)])],[.ptr true [(.imm,W 8 e_S_Loss r.2.list),(.imm,I r.2.left),(.gone,W 1 eI r.2.best),(.imm,I r.2.most)]]):=by
 unfold impl_repairSearch_run_F at h
 refine FL_goS (A:=[(0,M 0),(1,D 0 (W 1 eI choice_1)),(2,D 2 (I from_2)),(3,D 2 (I priority_3)),(4,D 2 (I money_4)),(5,D 2 (I minutes_5))]) (B:=[(0,Od [Ct 1 (W 8 e_S_Loss s_0.list),C (I s_0.left),C (W 1 eI s_0.best),C (I s_0.most)]),(1,none),(2,none),(3,none),(4,none),(5,none)]) (nt:=89) rfl rfl Try.func21 rfl rfl rfl rfl ?_
 refine gs<|g0 j j (q (oAsI j j)<|nl)<|us<|gs<|gs<|g0 j j (q (oMv j j)<|q (oNl j j j)<|q (oFA (r':=.mp 0 0 1) j fF54_1 j j)<|q (oLd (cs:=[.im 0 _]) j tF2 j j)<|q (oBi j j j j)<|nl)<|us<|gc h j iEq (fun hc1 h=>?_) fun hc1 h=>?_
 ·refine gs<|g0 j j (q (oAsI j j)<|nl)<|us<|Go.ret (Unw.ret ?_)
  cases h
  exact fr rF21 j
 ·refine Go.skip<|us<|gs<|g0 j j (q (oMv j j)<|q (oNl j j j)<|q (oFA (r':=.mp 0 0 1) j fF54_1 j j)<|q (oLd (cs:=[.im 0 _]) j tF2 j j)<|q (oBi j j j j)<|q (oNl j j j)<|q (oFA (r':=.mp 0 0 1) j fF54_1 j j)<|q (oSt tF2 j j j (tkI tk0) j j j)<|nl)<|us<|gs<|gs<|g1 j j (mk [(0,M 0),(1,D 0 (W 1 eI choice_1)),(2,iv from_2),(3,iv priority_3),(4,iv money_4),(5,iv minutes_5)] [(0,Od [Ct 1 (W 8 e_S_Loss s_0.list),C (I (w64 (s_0.left - 1))),C (W 1 eI s_0.best),C (I s_0.most)])]) (q (oMv j j)<|q (oMv j j)<|q (oNl j j j)<|q (oFA (r':=.mp 0 0 3) j fF54_3 j j)<|q (oLd (cs:=[.im 0 _]) j tF2 j j)<|q (oBi j j j j)<|nl)<|us<|Go.join (fun st=>∃s_o0_2_r6,∃s_o0_3_r6,impl_repairSearch_run_k6 self choice_1 from_2 minutes_5 money_4 priority_3 s_0 s_o0_2_r6 s_o0_3_r6=some r∧st.norm ([0,1,2,3,4,5],[0])=mk [(0,M 0),(1,D 0 (W 1 eI choice_1)),(2,iv from_2),(3,iv priority_3),(4,iv money_4),(5,iv minutes_5)] [(0,Od [Ct 1 (W 8 e_S_Loss s_0.list),C (I (w64 (s_0.left - 1))),C (W 1 eI s_o0_2_r6),C (I s_o0_3_r6)])]) ?_ ?_
  ·rintro st ⟨s_o0_2_r6,s_o0_3_r6,h,hst⟩
   unfold impl_repairSearch_run_k6 at h
   refine us<|gs<|gs<|g2 c21 j j hst (q (oMv j j)<|q (oAsI j j)<|nl)<|us<|Go.block<|?_
   obtain ⟨o,hl,h⟩:=bs h
   refine gl c21 j _ (fun (s:(Int×(List S_Loss)×Int×(List Int)×Int))=>match s with | (k_13_l7,s_o0_0_l7,s_o0_1_l7,s_o0_2_l7,s_o0_3_l7)=>mk [(0,M 0),(1,D 0 (W 1 eI choice_1)),(3,iv priority_3),(4,iv money_4),(5,iv minutes_5),(13,iv k_13_l7)] [(0,Od [Ct 1 (W 8 e_S_Loss s_o0_0_l7),C (I s_o0_1_l7),C (W 1 eI s_o0_2_l7),C (I s_o0_3_l7)])]) (fun (o:(((List S_Loss)×Int×(List Int)×Int) ⊕ (Bool×S_repairSearch))) (p:Ex×St)=>match o with | (.inl (s_o0_0_e0_7,s_o0_1_e0_7,s_o0_2_e0_7,s_o0_3_e0_7))=>p.1= .exit 0∧p.2.norm ([],[0])=mk [] [(0,Od [Ct 1 (W 8 e_S_Loss s_o0_0_e0_7),C (I s_o0_1_e0_7),C (W 1 eI s_o0_2_e0_7),C (I s_o0_3_e0_7)])] | (.inr r2)=>p.1= .ret∧fin Try.prog cfg 21 Try.f21 [.ptr true [(.imm,W 8 e_S_Loss s_0.list),(.imm,I s_0.left),(.gone,W 1 eI s_0.best),(.imm,I s_0.most)],.im 0 false [W 1 eI choice_1],.im 2 false [I from_2],.im 2 false [I priority_3],.im 2 false [I money_4],.im 2 false [I minutes_5]] p.2=some ([(false,[.im 0 (V r2.1)])],[.ptr true [(.imm,W 8 e_S_Loss r2.2.list),(.imm,I r2.2.left),(.gone,W 1 eI r2.2.best),(.imm,I r2.2.most)]])) hl (by kernel_rfl) ?_ ?_ ?_
   ·intro o p hp e
    rcases o with ⟨s_o0_0_e0_7,s_o0_1_e0_7,s_o0_2_e0_7,s_o0_3_e0_7⟩ | r2<;>exact nomatch (hp.1.symm.trans e)
   ·rintro ⟨k_13_l7,s_o0_0_l7,s_o0_1_l7,s_o0_2_l7,s_o0_3_l7⟩ o h
    unfold impl_repairSearch_run_l7 at h
    dsimp only at h
    refine gs<|gs<|g0 j j (q (oMv j j)<|q (oMv j j)<|q (oNl j j j)<|q (oFA (r':=.mp 0 0 0) j fF54_0 j j)<|q (oLd (cs:=[.im 1 _]) j tF27 j j)<|q (oLnI j j uF27 j)<|q (oBi j j j j)<|nl)<|us<|gc h j iDec (fun hc11 h=>?_) fun hc11 h=>?_
    ·refine Go.skip<|us<|gs<|Go.join (fun st=>∃s_o0_0_r8,∃s_o0_1_r8,∃s_o0_2_r8,∃s_o0_3_r8,impl_repairSearch_run_k8 self k_13_l7 s_o0_0_r8 s_o0_1_r8 s_o0_2_r8 s_o0_3_r8=some o∧st.norm ([0,1,3,4,5,13],[0])=mk [(0,M 0),(1,D 0 (W 1 eI choice_1)),(3,iv priority_3),(4,iv money_4),(5,iv minutes_5),(13,iv k_13_l7)] [(0,Od [Ct 1 (W 8 e_S_Loss s_o0_0_r8),C (I s_o0_1_r8),C (W 1 eI s_o0_2_r8),C (I s_o0_3_r8)])]) ?_ ?_
     ·rintro st ⟨s_o0_0_r8,s_o0_1_r8,s_o0_2_r8,s_o0_3_r8,h,hst⟩
      unfold impl_repairSearch_run_k8 at h
      refine us<|g2 c21 j j hst (q (oMv j j)<|q (oBi j j j j)<|q (oAsI j j)<|nl)<|Unw.nil<|?_
      cases h
      exact ⟨j,(by kernel_rfl)⟩
     ·intro K15
      refine Go.block<|gs<|?_
      obtain ⟨x56,hx56,h⟩:=bs h
      refine g0 j j (q (oMv j j)<|q (oNl j j j)<|q (oFA (r':=.mp 0 0 0) j fF54_0 j j)<|q (oLd (cs:=[.im 1 _]) j tF27 j j)<|q (oMv j j)<|q (oIAI j hx56 sF27 j j)<|q (oLd (cs:=[.im 1 _,.im 1 _,.im 1 _,.im 1 _,.im 1 _,.im 1 _,.im 1 _,.im 1 _]) j tF49 j j)<|q (oAl j tF49 (tkI (tkI (tkI (tkI (tkI (tkI (tkI (tkI tk0)))))))))<|q (oSt tF49 j j j (tkI (tkI (tkI (tkI (tkI (tkI (tkI (tkI tk0)))))))) j j j)<|nl)<|us<|gs<|gs<|gX c21 j j (st1:=mk [(0,M 0),(1,D 0 (W 1 eI choice_1)),(3,iv priority_3),(4,iv money_4),(5,iv minutes_5),(13,iv k_13_l7),(14,M 14)] [(0,Od [Ct 1 (W 8 e_S_Loss s_o0_0_l7),C (I s_o0_1_l7),C (W 1 eI s_o0_2_l7),C (I s_o0_3_l7)]),(14,Oa (G 0 (u_S_Loss x56)))]) (by kernel_rfl) (mk [(0,M 0),(1,D 0 (W 1 eI choice_1)),(3,iv priority_3),(4,iv money_4),(5,iv minutes_5),(13,iv k_13_l7),(14,M 14),(67,bv ((decide (x56.Cost>money_4))||(decide (x56.Minutes>minutes_5))))] [(0,Od [Ct 1 (W 8 e_S_Loss s_o0_0_l7),C (I s_o0_1_l7),C (W 1 eI s_o0_2_l7),C (I s_o0_3_l7)]),(14,Oa (G 0 (u_S_Loss x56)))]) ?_ ?_
      ·refine xq (oFA (r':=.mp 14 0 6) j fF49_4 j j)<|xq (oLd (cs:=[.im 0 _]) j tF2 j j)<|xq (oMv j j)<|xq (oBi j j j j)<|xq (oMv j j)<|?_
       by_cases hc16:x56.Cost>money_4
       ·exact xsgF rfl rfl (iDec.2 hc16) rfl<|xsgF rfl rfl (iDec.2 hc16) rfl<|xsgF rfl rfl (iDec.2 hc16) rfl<|xsgF rfl rfl (iDec.2 hc16) rfl<|xq (oPkT rfl rfl (iDec.2 hc16) rfl)<|xn (Eq.trans (b:=(fun t_67_m10:Bool=>mk [(0,M 0),(1,D 0 (W 1 eI choice_1)),(3,iv priority_3),(4,iv money_4),(5,iv minutes_5),(13,iv k_13_l7),(14,M 14),(67,bv t_67_m10)] [(0,Od [Ct 1 (W 8 e_S_Loss s_o0_0_l7),C (I s_o0_1_l7),C (W 1 eI s_o0_2_l7),C (I s_o0_3_l7)]),(14,Oa (G 0 (u_S_Loss x56)))]) true) (by kernel_rfl) (congrArg (fun t_67_m10:Bool=>mk [(0,M 0),(1,D 0 (W 1 eI choice_1)),(3,iv priority_3),(4,iv money_4),(5,iv minutes_5),(13,iv k_13_l7),(14,M 14),(67,bv t_67_m10)] [(0,Od [Ct 1 (W 8 e_S_Loss s_o0_0_l7),C (I s_o0_1_l7),C (W 1 eI s_o0_2_l7),C (I s_o0_3_l7)]),(14,Oa (G 0 (u_S_Loss x56)))]) (by first | rfl | (simp [(iDec.2 hc16)];done) | (simp [(iDec.2 hc16)];omega))))
       ·exact xqT rfl rfl (byF iDec hc16) (oFA (r':=.mp 14 0 7) rfl fF49_5 rfl rfl)<|xqT rfl rfl (byF iDec hc16) (oLd (cs:=[.im 0 _]) rfl tF2 rfl rfl)<|xqT rfl rfl (byF iDec hc16) (oMv rfl rfl)<|xqT rfl rfl (byF iDec hc16) (oBi rfl rfl rfl rfl)<|xq (oPkF rfl rfl (byF iDec hc16) rfl)<|xn (Eq.trans (b:=(fun t_67_m10:Bool=>mk [(0,M 0),(1,D 0 (W 1 eI choice_1)),(3,iv priority_3),(4,iv money_4),(5,iv minutes_5),(13,iv k_13_l7),(14,M 14),(67,bv t_67_m10)] [(0,Od [Ct 1 (W 8 e_S_Loss s_o0_0_l7),C (I s_o0_1_l7),C (W 1 eI s_o0_2_l7),C (I s_o0_3_l7)]),(14,Oa (G 0 (u_S_Loss x56)))]) (decide (x56.Minutes>minutes_5))) (by kernel_rfl) (congrArg (fun t_67_m10:Bool=>mk [(0,M 0),(1,D 0 (W 1 eI choice_1)),(3,iv priority_3),(4,iv money_4),(5,iv minutes_5),(13,iv k_13_l7),(14,M 14),(67,bv t_67_m10)] [(0,Od [Ct 1 (W 8 e_S_Loss s_o0_0_l7),C (I s_o0_1_l7),C (W 1 eI s_o0_2_l7),C (I s_o0_3_l7)]),(14,Oa (G 0 (u_S_Loss x56)))]) (by first | rfl | (simp [(byF iDec hc16)];done) | (simp [(byF iDec hc16)];omega))))
      ·refine us<|gc h j (iOr iDec iDec) (fun hc17 h=>?_) fun hc17 h=>?_
       ·exact Go.exit<|ux<|Unw.blkx<|K15 _ ⟨s_o0_0_l7,s_o0_1_l7,s_o0_2_l7,s_o0_3_l7,h,(by kernel_rfl)⟩
       ·refine Go.skip<|us<|gs<|?_
        obtain ⟨x70,hx70,h⟩:=bs h
        obtain ⟨x73,hx73,h⟩:=bs h
        obtain ⟨x88,hx88,h⟩:=bs h
        refine gd c21 j j j j (mk [(0,M 0),(1,D 0 (W 1 eI choice_1)),(3,iv priority_3),(4,iv money_4),(5,iv minutes_5),(13,iv k_13_l7),(88,bv x88.1)] [(0,Od [Ct 1 (W 8 e_S_Loss x88.2.list),C (I x88.2.left),C (W 1 eI x88.2.best),C (I x88.2.most)])]) (t j j (oMv j j)<|t j j (oMv j j)<|t j j (oMv j j)<|t j j (oMv j j)<|t j j (oBi j j j j)<|t j j (oMv j j)<|t j j (oMv j j)<|t j j (oMv j j)<|sK (O:=[14]) j j j (dN z21 j (oFA (r':=.mp 14 0 5) j fF49_3 j j))<|sK (O:=[14]) j j j (dN z21 j (oLd (cs:=[.im 0 _]) j tF2 j j))<|t j j (oBi j j j j)<|sK (O:=[14]) j j j (dN z21 j (oFA (r':=.mp 14 0 6) j fF49_4 j j))<|sK (O:=[14]) j j j (dN z21 j (oLd (cs:=[.im 0 _]) j tF2 j j))<|t j j (oBi j j j j)<|sK (O:=[14]) j j j (dN z21 j (oFA (r':=.mp 14 0 7) j fF49_5 j j))<|sK (O:=[14]) j j j (dN z21 j (oLd (cs:=[.im 0 _]) j tF2 j j))<|t j j (oBi j j j j)<|sF (dN z21 j (oCr (xs:=[.v false [.im 0 _]]) (vs:=[(false,[.own 70 0 0])]) (v:=.v false [.own 70 0 0]) (c:=⟨.sh,0,_⟩) (cs:=[]) (FL_cloneN (en:=eI) (L:=choice_1) j hx70 (fun _=>j)) (.inl j) j kF29_24 j (ppC j pp0) j j pb0 j j j)) (kY ⟨j,trivial⟩ (kY ⟨j,trivial⟩ (kY ⟨j,trivial⟩ (kY ⟨j,trivial⟩ (kY ⟨j,trivial⟩ (kY ⟨j,trivial⟩ trivial)))))) (sS (dN z21 j (oBS (es:=List.map eI ([k_13_l7]:List Int)) j sF24 j (ptC j (fxI fx0) j pt0) (flat0 j fun _=>j))) (kY ⟨j,trivial⟩ (kY ⟨j,trivial⟩ (kY ⟨j,trivial⟩ (kY ⟨j,trivial⟩ (kY ⟨j,trivial⟩ (kY ⟨j,trivial⟩ trivial)))))) (sS (dN z21 j (oApO (en:=eI) (M:=([k_13_l7]:List Int)) j hx73 j sF24 j j uF24 (.inl ⟨_,j⟩) j j j j (el_own j j) (flat0 j fun _=>j))) (kY ⟨j,trivial⟩ (kY ⟨j,trivial⟩ (kY ⟨j,trivial⟩ (kY ⟨j,trivial⟩ (kY ⟨j,trivial⟩ (kY ⟨j,trivial⟩ trivial)))))) (sS (dN z21 j (oCa (xs:=[.v false [.mp 0 0 0],.v false [.own 73 0 0],.v false [.im 0 _],.v false [.im 0 _],.v false [.im 0 _],.v false [.im 0 _]]) (vs:=[(false,[.im 0 _])]) (v:=.v false [.im 0 _]) (ih hx88) (.inl j) j kF21_52_24_3_2_2_2 j (ppP j j j (ppXt (fxO j j fx0) j (ppC j (ppC j (ppC j (ppC j pp0)))))) j j (pbP j j pb0) j j j)) (kN j (kN j (kN j (kN j (kN j (kN j trivial)))))) (sD (by kernel_rfl))))) (sS (dN z21 j (oBS (es:=List.map eI ([k_13_l7]:List Int)) j sF24 j (ptC j (fxI fx0) j pt0) (flat0 j fun _=>j))) (kY ⟨j,trivial⟩ (kY ⟨j,trivial⟩ (kY ⟨j,trivial⟩ (kY ⟨j,trivial⟩ (kY ⟨j,trivial⟩ (kY ⟨j,trivial⟩ trivial)))))) (sS (dN z21 j (oCr (xs:=[.v false [.im 0 _]]) (vs:=[(false,[.own 70 0 0])]) (v:=.v false [.own 70 0 0]) (c:=⟨.sh,0,_⟩) (cs:=[]) (FL_cloneN (en:=eI) (L:=choice_1) j hx70 (fun _=>j)) (.inl j) j kF29_24 j (ppC j pp0) j j pb0 j j j)) (kY ⟨j,trivial⟩ (kY ⟨j,trivial⟩ (kY ⟨j,trivial⟩ (kY ⟨j,trivial⟩ (kY ⟨j,trivial⟩ (kY ⟨j,trivial⟩ trivial)))))) (sS (dN z21 j (oApO (en:=eI) (M:=([k_13_l7]:List Int)) j hx73 j sF24 j j uF24 (.inl ⟨_,j⟩) j j j j (el_own j j) (flat0 j fun _=>j))) (kY ⟨j,trivial⟩ (kY ⟨j,trivial⟩ (kY ⟨j,trivial⟩ (kY ⟨j,trivial⟩ (kY ⟨j,trivial⟩ (kY ⟨j,trivial⟩ trivial)))))) (sS (dN z21 j (oCa (xs:=[.v false [.mp 0 0 0],.v false [.own 73 0 0],.v false [.im 0 _],.v false [.im 0 _],.v false [.im 0 _],.v false [.im 0 _]]) (vs:=[(false,[.im 0 _])]) (v:=.v false [.im 0 _]) (ih hx88) (.inl j) j kF21_52_24_3_2_2_2 j (ppP j j j (ppXt (fxO j j fx0) j (ppC j (ppC j (ppC j (ppC j pp0)))))) j j (pbP j j pb0) j j j)) (kN j (kN j (kN j (kN j (kN j (kN j trivial)))))) (sD (by kernel_rfl)))))))<|us<|gc h j iR (fun hc18 h=>?_) fun hc18 h=>?_
        ·refine gs<|g0 j j (q (oAsI j j)<|nl)<|us<|Go.ret (Unw.ret ?_)
         cases h
         exact ⟨j,(fo rF21 j)⟩
        ·exact Go.skip<|Unw.blk<|K15 _ ⟨x88.2.list,x88.2.left,x88.2.best,x88.2.most,h,(by kernel_rfl)⟩
    ·refine Go.exit<|ux<|Unw.nil<|?_
     cases h
     exact ⟨j,(by kernel_rfl)⟩
   ·rintro ⟨e,st⟩ hp
    rcases o with ⟨s_o0_0_e0_7,s_o0_1_e0_7,s_o0_2_e0_7,s_o0_3_e0_7⟩ | r2
    ·dsimp only at h
     obtain ⟨he,hst⟩:=hp
     obtain rfl:e= .exit 0:=he
     refine Unw.blkx<|us<|gs<|g2 c21 j j hst (q (oAsI j j)<|nl)<|us<|Go.ret (Unw.ret ?_)
     cases h
     exact fr rF21 j
    ·dsimp only at h
     obtain ⟨he,hfin⟩:=hp
     obtain rfl:e= .ret:=he
     cases h
     exact Unw.ret (Fin_ret hfin)
  ·intro K19
   refine gc h j iDec (fun hc20 h=>?_) fun hc20 h=>?_
   ·exact g0 j j (q (oMv j j)<|q (oMv j j)<|q (oMv j j)<|q (oMv j j)<|q (oNl j j j)<|q (oFA (r':=.mp 0 0 2) j fF54_2 j j)<|q (oSt tF24 j j j (tkI tk0) j j j)<|q (oNl j j j)<|q (oFA (r':=.mp 0 0 3) j fF54_3 j j)<|q (oSt tF2 j j j (tkI tk0) j j j)<|nl)<|K19 _ ⟨choice_1,priority_3,h,(by kernel_rfl)⟩
   ·exact Go.skip<|K19 _ ⟨s_0.best,s_0.most,h,(by kernel_rfl)⟩
theorem L_impl_repairSearch_run {s_0:S_repairSearch} {choice_1:(List Int)} {from_2:Int} {priority_3:Int} {money_4:Int} {minutes_5:Int} {r:(Bool×S_repairSearch)} (h:impl_repairSearch_run s_0 choice_1 from_2 priority_3 money_4 minutes_5=some r):FX 21 [.ptr true [(.imm,W 8 e_S_Loss s_0.list),(.imm,I s_0.left),(.gone,W 1 eI s_0.best),(.imm,I s_0.most)],.im 0 false [W 1 eI choice_1],.im 2 false [I from_2],.im 2 false [I priority_3],.im 2 false [I money_4],.im 2 false [I minutes_5]] ([(false,[.im 0 (V r.1)])],[.ptr true [(.imm,W 8 e_S_Loss r.2.list),(.imm,I r.2.left),(.gone,W 1 eI r.2.best),(.imm,I r.2.most)]]):=by
 unfold impl_repairSearch_run at h
 obtain ⟨n,hn⟩:=fixO_iter h
 clear h
 induction n generalizing s_0 choice_1 from_2 priority_3 money_4 minutes_5 r with
 | zero=>cases hn
 | succ n ihn=>exact L_impl_repairSearch_run_F (self:=iterO _ n) (fun h=>ihn h) hn
theorem L_impl_BestRepairs {list_0:(List S_Loss)} {money_1:Int} {minutes_2:Int} {budget_3:Int} {r:((List Int)×Int×Int)} (h:impl_BestRepairs list_0 money_1 minutes_2 budget_3=some r):FX 7 [.im 2 false [W 8 e_S_Loss list_0],.im 2 false [I money_1],.im 2 false [I minutes_2],.im 2 false [I budget_3]] (B0 [(false,[.im 0 (W 1 eI r.1)]),(false,[.im 0 (I r.2.1)]),(false,[.im 0 (I r.2.2)])]):=by
 unfold impl_BestRepairs at h
 refine gn 37 Try.func7 rfl ?_
 refine gs<|g0 j j (sqf z7 j (oAsN j j eF24) (frzO j j j)<|sqn z7 j (oAsI j j)<|sqn z7 j (oAsI j j)<|nl)<|us<|gs<|gs<|?_
 obtain ⟨x17,hx17,h⟩:=bs h
 refine g0 j j (sqn z7 j (oMv j j)<|sqn z7 j (oMv j j)<|sqn z7 j (oMv j j)<|sqn z7 j (oMv j j)<|sqn z7 j (oCa (xs:=[.v false [.im 2 _],.v false [.im 2 _],.v false [.im 2 _],.v false [.im 2 _]]) (vs:=[(false,[.im 0 _])]) (v:=.v false [.im 0 _]) (L_impl_repairsCode hx17) (.inl j) j kF20_27_2_2_2 j (ppC j (ppC j (ppC j (ppC j pp0)))) j j pb0 j j j)<|sqn z7 j (oAsI j j)<|nl)<|us<|gs<|g0 j j (sqn z7 j (oMv j j)<|sqn z7 j (oBi j j j j)<|nl)<|us<|gc h j iNe (fun hc1 h=>?_) fun hc1 h=>?_
 ·refine gs<|g0 j j (sqn z7 j (oMv j j)<|sqf z7 j (oAsN j j eF24) (frzO j j j)<|sqn z7 j (oAsI j j)<|sqn z7 j (oAsI j j)<|nl)<|us<|Go.ret (Unw.ret ?_)
  cases h
  exact fr rF7 j
 ·refine Go.skip<|us<|gs<|g0 j j (sqn z7 j (oMv j j)<|sqn z7 j (oMv j j)<|sqn z7 j (oBu (cs:=[.im 2 _,.im 2 _,.nil,.im 0 _]) j bF54 j)<|sqn z7 j (oBx j tF54 j (tkI (tkI (tkN (tkI tk0)))))<|sqn z7 j (oAsP j j)<|nl)<|us<|gs<|gs<|?_
  obtain ⟨x28,hx28,h⟩:=bs h
  refine g0 j j (sqn z7 j (oMv j j)<|sqn z7 j (oMv j j)<|sqn z7 j (oMv j j)<|sqn z7 j (oCa (xs:=[.v false [.mp 24 0 0],.v false [.nil],.v false [.im 0 _],.v false [.im 0 _],.v false [.im 2 _],.v false [.im 2 _]]) (vs:=[(false,[.im 0 _])]) (v:=.v false [.im 0 _]) (L_impl_repairSearch_run hx28) (.inl j) j kF21_52_24_3_2_2_2 j (ppP j j j (ppXt (fxN fx0) j (ppC j (ppC j (ppC j (ppC j pp0)))))) j j (pbP j j pb0) j j j)<|nl)<|us<|gc h j iR (fun hc2 h=>?_) fun hc2 h=>?_
  ·refine gs<|g1 j j (mk [] []) (sqf z7 j (oAsN j j eF24) (frzO j j j)<|sqn z7 j (oAsI j j)<|sqn z7 j (oAsI j j)<|nl)<|us<|Go.ret (Unw.ret ?_)
   cases h
   exact fr rF7 j
  ·refine Go.skip<|us<|gs<|gd c7 j j j (st1:=mk [(12,M 24)] [(24,Oa [Ct 2 (W 8 e_S_Loss x28.2.list),C (I x28.2.left),C (W 1 eI x28.2.best),C (I x28.2.most)])]) (by kernel_rfl) (mk [(8,D 0 (W 1 eI x28.2.best)),(9,iv x28.2.most),(10,iv 0)] []) (sF (dNn z7 j j (oMv j j)) trivial (sF (dNn z7 j j (oNl j j j)) trivial (sF (dNn z7 j j (oFA (r':=.mp 24 0 2) j fF54_2 j j)) trivial (sF (dNn z7 j j (oLd (cs:=[.im 0 _]) j tF24 j j)) trivial (sF (dNn z7 j j (oMv j j)) trivial (sF (dNn z7 j j (oNl j j j)) trivial (sF (dNn z7 j j (oFA (r':=.mp 24 0 3) j fF54_3 j j)) trivial (sF (dNn z7 j j (oLd (cs:=[.im 0 _]) j tF2 j j)) trivial (sS (dZ z7 j j (oAsI j j) (frzI j)) trivial (sS (dNn z7 j j (oAsI j j)) trivial (sS (dNn z7 j j (oAsI j j)) trivial (sD (by kernel_rfl))))) (sS (dZ z7 j j (oAsI j j) (frzI j)) trivial (sS (dNn z7 j j (oLd (cs:=[.im 0 _]) j tF2 j j)) trivial (sS (dNn z7 j j (oAsI j j)) trivial (sS (dNn z7 j j (oAsI j j)) trivial (sD (by kernel_rfl))))))) (sS (dZ z7 j j (oAsI j j) (frzI j)) trivial (sS (dNn z7 j j (oFA (r':=.mp 24 0 3) j fF54_3 j j)) trivial (sS (dNn z7 j j (oLd (cs:=[.im 0 _]) j tF2 j j)) trivial (sS (dNn z7 j j (oAsI j j)) trivial (sS (dNn z7 j j (oAsI j j)) trivial (sD (by kernel_rfl)))))))) (sS (dZ z7 j j (oAsI j j) (frzI j)) trivial (sS (dNn z7 j j (oNl j j j)) trivial (sS (dNn z7 j j (oFA (r':=.mp 24 0 3) j fF54_3 j j)) trivial (sS (dNn z7 j j (oLd (cs:=[.im 0 _]) j tF2 j j)) trivial (sS (dNn z7 j j (oAsI j j)) trivial (sS (dNn z7 j j (oAsI j j)) trivial (sD (by kernel_rfl))))))))) (sS (dZ z7 j j (oAsI j j) (frzI j)) trivial (sS (dNn z7 j j (oMv j j)) trivial (sS (dNn z7 j j (oNl j j j)) trivial (sS (dNn z7 j j (oFA (r':=.mp 24 0 3) j fF54_3 j j)) trivial (sS (dNn z7 j j (oLd (cs:=[.im 0 _]) j tF2 j j)) trivial (sS (dNn z7 j j (oAsI j j)) trivial (sS (dNn z7 j j (oAsI j j)) trivial (sD (by kernel_rfl)))))))))) (sS (dNn z7 j j (oMv j j)) trivial (sF (dNn z7 j j (oLd (cs:=[.im 0 _]) j tF24 j j)) trivial (sF (dNn z7 j j (oNl j j j)) trivial (sF (dNn z7 j j (oFA (r':=.mp 24 0 3) j fF54_3 j j)) trivial (sF (dNn z7 j j (oLd (cs:=[.im 0 _]) j tF2 j j)) trivial (sS (dZ z7 j j (oAsI j j) (frzI j)) trivial (sS (dNn z7 j j (oAsI j j)) trivial (sS (dNn z7 j j (oAsI j j)) trivial (sD (by kernel_rfl))))) (sS (dZ z7 j j (oAsI j j) (frzI j)) trivial (sS (dNn z7 j j (oLd (cs:=[.im 0 _]) j tF2 j j)) trivial (sS (dNn z7 j j (oAsI j j)) trivial (sS (dNn z7 j j (oAsI j j)) trivial (sD (by kernel_rfl))))))) (sS (dZ z7 j j (oAsI j j) (frzI j)) trivial (sS (dNn z7 j j (oFA (r':=.mp 24 0 3) j fF54_3 j j)) trivial (sS (dNn z7 j j (oLd (cs:=[.im 0 _]) j tF2 j j)) trivial (sS (dNn z7 j j (oAsI j j)) trivial (sS (dNn z7 j j (oAsI j j)) trivial (sD (by kernel_rfl)))))))) (sS (dZ z7 j j (oAsI j j) (frzI j)) trivial (sS (dNn z7 j j (oNl j j j)) trivial (sS (dNn z7 j j (oFA (r':=.mp 24 0 3) j fF54_3 j j)) trivial (sS (dNn z7 j j (oLd (cs:=[.im 0 _]) j tF2 j j)) trivial (sS (dNn z7 j j (oAsI j j)) trivial (sS (dNn z7 j j (oAsI j j)) trivial (sD (by kernel_rfl))))))))) (sS (dNn z7 j j (oNl j j j)) trivial (sF (dNn z7 j j (oLd (cs:=[.im 0 _]) j tF24 j j)) trivial (sF (dNn z7 j j (oFA (r':=.mp 24 0 3) j fF54_3 j j)) trivial (sF (dNn z7 j j (oLd (cs:=[.im 0 _]) j tF2 j j)) trivial (sS (dZ z7 j j (oAsI j j) (frzI j)) trivial (sS (dNn z7 j j (oAsI j j)) trivial (sS (dNn z7 j j (oAsI j j)) trivial (sD (by kernel_rfl))))) (sS (dZ z7 j j (oAsI j j) (frzI j)) trivial (sS (dNn z7 j j (oLd (cs:=[.im 0 _]) j tF2 j j)) trivial (sS (dNn z7 j j (oAsI j j)) trivial (sS (dNn z7 j j (oAsI j j)) trivial (sD (by kernel_rfl))))))) (sS (dZ z7 j j (oAsI j j) (frzI j)) trivial (sS (dNn z7 j j (oFA (r':=.mp 24 0 3) j fF54_3 j j)) trivial (sS (dNn z7 j j (oLd (cs:=[.im 0 _]) j tF2 j j)) trivial (sS (dNn z7 j j (oAsI j j)) trivial (sS (dNn z7 j j (oAsI j j)) trivial (sD (by kernel_rfl)))))))) (sS (dNn z7 j j (oFA (r':=.mp 24 0 3) j fF54_3 j j)) trivial (sF (dNn z7 j j (oLd (cs:=[.im 0 _]) j tF24 j j)) trivial (sF (dNn z7 j j (oLd (cs:=[.im 0 _]) j tF2 j j)) trivial (sS (dZ z7 j j (oAsI j j) (frzI j)) trivial (sS (dNn z7 j j (oAsI j j)) trivial (sS (dNn z7 j j (oAsI j j)) trivial (sD (by kernel_rfl))))) (sS (dZ z7 j j (oAsI j j) (frzI j)) trivial (sS (dNn z7 j j (oLd (cs:=[.im 0 _]) j tF2 j j)) trivial (sS (dNn z7 j j (oAsI j j)) trivial (sS (dNn z7 j j (oAsI j j)) trivial (sD (by kernel_rfl))))))) (sS (dNn z7 j j (oLd (cs:=[.im 0 _]) j tF2 j j)) trivial (sS (dNn z7 j j (oLd (cs:=[.im 0 _]) j tF24 j j)) trivial (sS (dZ z7 j j (oAsI j j) (frzI j)) trivial (sS (dNn z7 j j (oAsI j j)) trivial (sS (dNn z7 j j (oAsI j j)) trivial (sD (by kernel_rfl)))))))))))))) (sS (dNn z7 j j (oMv j j)) trivial (sF (dNn z7 j j (oFA (r':=.mp 24 0 2) j fF54_2 j j)) trivial (sF (dNn z7 j j (oLd (cs:=[.im 0 _]) j tF24 j j)) trivial (sF (dNn z7 j j (oNl j j j)) trivial (sF (dNn z7 j j (oFA (r':=.mp 24 0 3) j fF54_3 j j)) trivial (sF (dNn z7 j j (oLd (cs:=[.im 0 _]) j tF2 j j)) trivial (sS (dZ z7 j j (oAsI j j) (frzI j)) trivial (sS (dNn z7 j j (oAsI j j)) trivial (sS (dNn z7 j j (oAsI j j)) trivial (sD (by kernel_rfl))))) (sS (dZ z7 j j (oAsI j j) (frzI j)) trivial (sS (dNn z7 j j (oLd (cs:=[.im 0 _]) j tF2 j j)) trivial (sS (dNn z7 j j (oAsI j j)) trivial (sS (dNn z7 j j (oAsI j j)) trivial (sD (by kernel_rfl))))))) (sS (dZ z7 j j (oAsI j j) (frzI j)) trivial (sS (dNn z7 j j (oFA (r':=.mp 24 0 3) j fF54_3 j j)) trivial (sS (dNn z7 j j (oLd (cs:=[.im 0 _]) j tF2 j j)) trivial (sS (dNn z7 j j (oAsI j j)) trivial (sS (dNn z7 j j (oAsI j j)) trivial (sD (by kernel_rfl)))))))) (sS (dZ z7 j j (oAsI j j) (frzI j)) trivial (sS (dNn z7 j j (oNl j j j)) trivial (sS (dNn z7 j j (oFA (r':=.mp 24 0 3) j fF54_3 j j)) trivial (sS (dNn z7 j j (oLd (cs:=[.im 0 _]) j tF2 j j)) trivial (sS (dNn z7 j j (oAsI j j)) trivial (sS (dNn z7 j j (oAsI j j)) trivial (sD (by kernel_rfl))))))))) (sS (dNn z7 j j (oNl j j j)) trivial (sF (dNn z7 j j (oLd (cs:=[.im 0 _]) j tF24 j j)) trivial (sF (dNn z7 j j (oFA (r':=.mp 24 0 3) j fF54_3 j j)) trivial (sF (dNn z7 j j (oLd (cs:=[.im 0 _]) j tF2 j j)) trivial (sS (dZ z7 j j (oAsI j j) (frzI j)) trivial (sS (dNn z7 j j (oAsI j j)) trivial (sS (dNn z7 j j (oAsI j j)) trivial (sD (by kernel_rfl))))) (sS (dZ z7 j j (oAsI j j) (frzI j)) trivial (sS (dNn z7 j j (oLd (cs:=[.im 0 _]) j tF2 j j)) trivial (sS (dNn z7 j j (oAsI j j)) trivial (sS (dNn z7 j j (oAsI j j)) trivial (sD (by kernel_rfl))))))) (sS (dZ z7 j j (oAsI j j) (frzI j)) trivial (sS (dNn z7 j j (oFA (r':=.mp 24 0 3) j fF54_3 j j)) trivial (sS (dNn z7 j j (oLd (cs:=[.im 0 _]) j tF2 j j)) trivial (sS (dNn z7 j j (oAsI j j)) trivial (sS (dNn z7 j j (oAsI j j)) trivial (sD (by kernel_rfl)))))))) (sS (dNn z7 j j (oFA (r':=.mp 24 0 3) j fF54_3 j j)) trivial (sF (dNn z7 j j (oLd (cs:=[.im 0 _]) j tF24 j j)) trivial (sF (dNn z7 j j (oLd (cs:=[.im 0 _]) j tF2 j j)) trivial (sS (dZ z7 j j (oAsI j j) (frzI j)) trivial (sS (dNn z7 j j (oAsI j j)) trivial (sS (dNn z7 j j (oAsI j j)) trivial (sD (by kernel_rfl))))) (sS (dZ z7 j j (oAsI j j) (frzI j)) trivial (sS (dNn z7 j j (oLd (cs:=[.im 0 _]) j tF2 j j)) trivial (sS (dNn z7 j j (oAsI j j)) trivial (sS (dNn z7 j j (oAsI j j)) trivial (sD (by kernel_rfl))))))) (sS (dNn z7 j j (oLd (cs:=[.im 0 _]) j tF2 j j)) trivial (sS (dNn z7 j j (oLd (cs:=[.im 0 _]) j tF24 j j)) trivial (sS (dZ z7 j j (oAsI j j) (frzI j)) trivial (sS (dNn z7 j j (oAsI j j)) trivial (sS (dNn z7 j j (oAsI j j)) trivial (sD (by kernel_rfl)))))))))))) (sS (dNn z7 j j (oNl j j j)) trivial (sF (dNn z7 j j (oFA (r':=.mp 24 0 2) j fF54_2 j j)) trivial (sF (dNn z7 j j (oLd (cs:=[.im 0 _]) j tF24 j j)) trivial (sF (dNn z7 j j (oFA (r':=.mp 24 0 3) j fF54_3 j j)) trivial (sF (dNn z7 j j (oLd (cs:=[.im 0 _]) j tF2 j j)) trivial (sS (dZ z7 j j (oAsI j j) (frzI j)) trivial (sS (dNn z7 j j (oAsI j j)) trivial (sS (dNn z7 j j (oAsI j j)) trivial (sD (by kernel_rfl))))) (sS (dZ z7 j j (oAsI j j) (frzI j)) trivial (sS (dNn z7 j j (oLd (cs:=[.im 0 _]) j tF2 j j)) trivial (sS (dNn z7 j j (oAsI j j)) trivial (sS (dNn z7 j j (oAsI j j)) trivial (sD (by kernel_rfl))))))) (sS (dZ z7 j j (oAsI j j) (frzI j)) trivial (sS (dNn z7 j j (oFA (r':=.mp 24 0 3) j fF54_3 j j)) trivial (sS (dNn z7 j j (oLd (cs:=[.im 0 _]) j tF2 j j)) trivial (sS (dNn z7 j j (oAsI j j)) trivial (sS (dNn z7 j j (oAsI j j)) trivial (sD (by kernel_rfl)))))))) (sS (dNn z7 j j (oFA (r':=.mp 24 0 3) j fF54_3 j j)) trivial (sF (dNn z7 j j (oLd (cs:=[.im 0 _]) j tF24 j j)) trivial (sF (dNn z7 j j (oLd (cs:=[.im 0 _]) j tF2 j j)) trivial (sS (dZ z7 j j (oAsI j j) (frzI j)) trivial (sS (dNn z7 j j (oAsI j j)) trivial (sS (dNn z7 j j (oAsI j j)) trivial (sD (by kernel_rfl))))) (sS (dZ z7 j j (oAsI j j) (frzI j)) trivial (sS (dNn z7 j j (oLd (cs:=[.im 0 _]) j tF2 j j)) trivial (sS (dNn z7 j j (oAsI j j)) trivial (sS (dNn z7 j j (oAsI j j)) trivial (sD (by kernel_rfl))))))) (sS (dNn z7 j j (oLd (cs:=[.im 0 _]) j tF2 j j)) trivial (sS (dNn z7 j j (oLd (cs:=[.im 0 _]) j tF24 j j)) trivial (sS (dZ z7 j j (oAsI j j) (frzI j)) trivial (sS (dNn z7 j j (oAsI j j)) trivial (sS (dNn z7 j j (oAsI j j)) trivial (sD (by kernel_rfl)))))))))) (sS (dNn z7 j j (oFA (r':=.mp 24 0 3) j fF54_3 j j)) trivial (sF (dNn z7 j j (oFA (r':=.mp 24 0 2) j fF54_2 j j)) trivial (sF (dNn z7 j j (oLd (cs:=[.im 0 _]) j tF24 j j)) trivial (sF (dNn z7 j j (oLd (cs:=[.im 0 _]) j tF2 j j)) trivial (sS (dZ z7 j j (oAsI j j) (frzI j)) trivial (sS (dNn z7 j j (oAsI j j)) trivial (sS (dNn z7 j j (oAsI j j)) trivial (sD (by kernel_rfl))))) (sS (dZ z7 j j (oAsI j j) (frzI j)) trivial (sS (dNn z7 j j (oLd (cs:=[.im 0 _]) j tF2 j j)) trivial (sS (dNn z7 j j (oAsI j j)) trivial (sS (dNn z7 j j (oAsI j j)) trivial (sD (by kernel_rfl))))))) (sS (dNn z7 j j (oLd (cs:=[.im 0 _]) j tF2 j j)) trivial (sS (dNn z7 j j (oLd (cs:=[.im 0 _]) j tF24 j j)) trivial (sS (dZ z7 j j (oAsI j j) (frzI j)) trivial (sS (dNn z7 j j (oAsI j j)) trivial (sS (dNn z7 j j (oAsI j j)) trivial (sD (by kernel_rfl)))))))) (sS (dNn z7 j j (oLd (cs:=[.im 0 _]) j tF2 j j)) trivial (sS (dNn z7 j j (oFA (r':=.mp 24 0 2) j fF54_2 j j)) trivial (sS (dNn z7 j j (oLd (cs:=[.im 0 _]) j tF24 j j)) trivial (sS (dZ z7 j j (oAsI j j) (frzI j)) trivial (sS (dNn z7 j j (oAsI j j)) trivial (sS (dNn z7 j j (oAsI j j)) trivial (sD (by kernel_rfl))))))))))))))) (sS (dNn z7 j j (oMv j j)) trivial (sF (dNn z7 j j (oNl j j j)) trivial (sF (dNn z7 j j (oFA (r':=.mp 24 0 2) j fF54_2 j j)) trivial (sF (dNn z7 j j (oLd (cs:=[.im 0 _]) j tF24 j j)) trivial (sF (dNn z7 j j (oNl j j j)) trivial (sF (dNn z7 j j (oFA (r':=.mp 24 0 3) j fF54_3 j j)) trivial (sF (dNn z7 j j (oLd (cs:=[.im 0 _]) j tF2 j j)) trivial (sS (dZ z7 j j (oAsI j j) (frzI j)) trivial (sS (dNn z7 j j (oAsI j j)) trivial (sS (dNn z7 j j (oAsI j j)) trivial (sD (by kernel_rfl))))) (sS (dZ z7 j j (oAsI j j) (frzI j)) trivial (sS (dNn z7 j j (oLd (cs:=[.im 0 _]) j tF2 j j)) trivial (sS (dNn z7 j j (oAsI j j)) trivial (sS (dNn z7 j j (oAsI j j)) trivial (sD (by kernel_rfl))))))) (sS (dZ z7 j j (oAsI j j) (frzI j)) trivial (sS (dNn z7 j j (oFA (r':=.mp 24 0 3) j fF54_3 j j)) trivial (sS (dNn z7 j j (oLd (cs:=[.im 0 _]) j tF2 j j)) trivial (sS (dNn z7 j j (oAsI j j)) trivial (sS (dNn z7 j j (oAsI j j)) trivial (sD (by kernel_rfl)))))))) (sS (dZ z7 j j (oAsI j j) (frzI j)) trivial (sS (dNn z7 j j (oNl j j j)) trivial (sS (dNn z7 j j (oFA (r':=.mp 24 0 3) j fF54_3 j j)) trivial (sS (dNn z7 j j (oLd (cs:=[.im 0 _]) j tF2 j j)) trivial (sS (dNn z7 j j (oAsI j j)) trivial (sS (dNn z7 j j (oAsI j j)) trivial (sD (by kernel_rfl))))))))) (sS (dNn z7 j j (oNl j j j)) trivial (sF (dNn z7 j j (oLd (cs:=[.im 0 _]) j tF24 j j)) trivial (sF (dNn z7 j j (oFA (r':=.mp 24 0 3) j fF54_3 j j)) trivial (sF (dNn z7 j j (oLd (cs:=[.im 0 _]) j tF2 j j)) trivial (sS (dZ z7 j j (oAsI j j) (frzI j)) trivial (sS (dNn z7 j j (oAsI j j)) trivial (sS (dNn z7 j j (oAsI j j)) trivial (sD (by kernel_rfl))))) (sS (dZ z7 j j (oAsI j j) (frzI j)) trivial (sS (dNn z7 j j (oLd (cs:=[.im 0 _]) j tF2 j j)) trivial (sS (dNn z7 j j (oAsI j j)) trivial (sS (dNn z7 j j (oAsI j j)) trivial (sD (by kernel_rfl))))))) (sS (dZ z7 j j (oAsI j j) (frzI j)) trivial (sS (dNn z7 j j (oFA (r':=.mp 24 0 3) j fF54_3 j j)) trivial (sS (dNn z7 j j (oLd (cs:=[.im 0 _]) j tF2 j j)) trivial (sS (dNn z7 j j (oAsI j j)) trivial (sS (dNn z7 j j (oAsI j j)) trivial (sD (by kernel_rfl)))))))) (sS (dNn z7 j j (oFA (r':=.mp 24 0 3) j fF54_3 j j)) trivial (sF (dNn z7 j j (oLd (cs:=[.im 0 _]) j tF24 j j)) trivial (sF (dNn z7 j j (oLd (cs:=[.im 0 _]) j tF2 j j)) trivial (sS (dZ z7 j j (oAsI j j) (frzI j)) trivial (sS (dNn z7 j j (oAsI j j)) trivial (sS (dNn z7 j j (oAsI j j)) trivial (sD (by kernel_rfl))))) (sS (dZ z7 j j (oAsI j j) (frzI j)) trivial (sS (dNn z7 j j (oLd (cs:=[.im 0 _]) j tF2 j j)) trivial (sS (dNn z7 j j (oAsI j j)) trivial (sS (dNn z7 j j (oAsI j j)) trivial (sD (by kernel_rfl))))))) (sS (dNn z7 j j (oLd (cs:=[.im 0 _]) j tF2 j j)) trivial (sS (dNn z7 j j (oLd (cs:=[.im 0 _]) j tF24 j j)) trivial (sS (dZ z7 j j (oAsI j j) (frzI j)) trivial (sS (dNn z7 j j (oAsI j j)) trivial (sS (dNn z7 j j (oAsI j j)) trivial (sD (by kernel_rfl)))))))))))) (sS (dNn z7 j j (oNl j j j)) trivial (sF (dNn z7 j j (oFA (r':=.mp 24 0 2) j fF54_2 j j)) trivial (sF (dNn z7 j j (oLd (cs:=[.im 0 _]) j tF24 j j)) trivial (sF (dNn z7 j j (oFA (r':=.mp 24 0 3) j fF54_3 j j)) trivial (sF (dNn z7 j j (oLd (cs:=[.im 0 _]) j tF2 j j)) trivial (sS (dZ z7 j j (oAsI j j) (frzI j)) trivial (sS (dNn z7 j j (oAsI j j)) trivial (sS (dNn z7 j j (oAsI j j)) trivial (sD (by kernel_rfl))))) (sS (dZ z7 j j (oAsI j j) (frzI j)) trivial (sS (dNn z7 j j (oLd (cs:=[.im 0 _]) j tF2 j j)) trivial (sS (dNn z7 j j (oAsI j j)) trivial (sS (dNn z7 j j (oAsI j j)) trivial (sD (by kernel_rfl))))))) (sS (dZ z7 j j (oAsI j j) (frzI j)) trivial (sS (dNn z7 j j (oFA (r':=.mp 24 0 3) j fF54_3 j j)) trivial (sS (dNn z7 j j (oLd (cs:=[.im 0 _]) j tF2 j j)) trivial (sS (dNn z7 j j (oAsI j j)) trivial (sS (dNn z7 j j (oAsI j j)) trivial (sD (by kernel_rfl)))))))) (sS (dNn z7 j j (oFA (r':=.mp 24 0 3) j fF54_3 j j)) trivial (sF (dNn z7 j j (oLd (cs:=[.im 0 _]) j tF24 j j)) trivial (sF (dNn z7 j j (oLd (cs:=[.im 0 _]) j tF2 j j)) trivial (sS (dZ z7 j j (oAsI j j) (frzI j)) trivial (sS (dNn z7 j j (oAsI j j)) trivial (sS (dNn z7 j j (oAsI j j)) trivial (sD (by kernel_rfl))))) (sS (dZ z7 j j (oAsI j j) (frzI j)) trivial (sS (dNn z7 j j (oLd (cs:=[.im 0 _]) j tF2 j j)) trivial (sS (dNn z7 j j (oAsI j j)) trivial (sS (dNn z7 j j (oAsI j j)) trivial (sD (by kernel_rfl))))))) (sS (dNn z7 j j (oLd (cs:=[.im 0 _]) j tF2 j j)) trivial (sS (dNn z7 j j (oLd (cs:=[.im 0 _]) j tF24 j j)) trivial (sS (dZ z7 j j (oAsI j j) (frzI j)) trivial (sS (dNn z7 j j (oAsI j j)) trivial (sS (dNn z7 j j (oAsI j j)) trivial (sD (by kernel_rfl)))))))))) (sS (dNn z7 j j (oFA (r':=.mp 24 0 3) j fF54_3 j j)) trivial (sF (dNn z7 j j (oFA (r':=.mp 24 0 2) j fF54_2 j j)) trivial (sF (dNn z7 j j (oLd (cs:=[.im 0 _]) j tF24 j j)) trivial (sF (dNn z7 j j (oLd (cs:=[.im 0 _]) j tF2 j j)) trivial (sS (dZ z7 j j (oAsI j j) (frzI j)) trivial (sS (dNn z7 j j (oAsI j j)) trivial (sS (dNn z7 j j (oAsI j j)) trivial (sD (by kernel_rfl))))) (sS (dZ z7 j j (oAsI j j) (frzI j)) trivial (sS (dNn z7 j j (oLd (cs:=[.im 0 _]) j tF2 j j)) trivial (sS (dNn z7 j j (oAsI j j)) trivial (sS (dNn z7 j j (oAsI j j)) trivial (sD (by kernel_rfl))))))) (sS (dNn z7 j j (oLd (cs:=[.im 0 _]) j tF2 j j)) trivial (sS (dNn z7 j j (oLd (cs:=[.im 0 _]) j tF24 j j)) trivial (sS (dZ z7 j j (oAsI j j) (frzI j)) trivial (sS (dNn z7 j j (oAsI j j)) trivial (sS (dNn z7 j j (oAsI j j)) trivial (sD (by kernel_rfl)))))))) (sS (dNn z7 j j (oLd (cs:=[.im 0 _]) j tF2 j j)) trivial (sS (dNn z7 j j (oFA (r':=.mp 24 0 2) j fF54_2 j j)) trivial (sS (dNn z7 j j (oLd (cs:=[.im 0 _]) j tF24 j j)) trivial (sS (dZ z7 j j (oAsI j j) (frzI j)) trivial (sS (dNn z7 j j (oAsI j j)) trivial (sS (dNn z7 j j (oAsI j j)) trivial (sD (by kernel_rfl))))))))))))) (sS (dNn z7 j j (oNl j j j)) trivial (sF (dNn z7 j j (oNl j j j)) trivial (sF (dNn z7 j j (oFA (r':=.mp 24 0 2) j fF54_2 j j)) trivial (sF (dNn z7 j j (oLd (cs:=[.im 0 _]) j tF24 j j)) trivial (sF (dNn z7 j j (oFA (r':=.mp 24 0 3) j fF54_3 j j)) trivial (sF (dNn z7 j j (oLd (cs:=[.im 0 _]) j tF2 j j)) trivial (sS (dZ z7 j j (oAsI j j) (frzI j)) trivial (sS (dNn z7 j j (oAsI j j)) trivial (sS (dNn z7 j j (oAsI j j)) trivial (sD (by kernel_rfl))))) (sS (dZ z7 j j (oAsI j j) (frzI j)) trivial (sS (dNn z7 j j (oLd (cs:=[.im 0 _]) j tF2 j j)) trivial (sS (dNn z7 j j (oAsI j j)) trivial (sS (dNn z7 j j (oAsI j j)) trivial (sD (by kernel_rfl))))))) (sS (dZ z7 j j (oAsI j j) (frzI j)) trivial (sS (dNn z7 j j (oFA (r':=.mp 24 0 3) j fF54_3 j j)) trivial (sS (dNn z7 j j (oLd (cs:=[.im 0 _]) j tF2 j j)) trivial (sS (dNn z7 j j (oAsI j j)) trivial (sS (dNn z7 j j (oAsI j j)) trivial (sD (by kernel_rfl)))))))) (sS (dNn z7 j j (oFA (r':=.mp 24 0 3) j fF54_3 j j)) trivial (sF (dNn z7 j j (oLd (cs:=[.im 0 _]) j tF24 j j)) trivial (sF (dNn z7 j j (oLd (cs:=[.im 0 _]) j tF2 j j)) trivial (sS (dZ z7 j j (oAsI j j) (frzI j)) trivial (sS (dNn z7 j j (oAsI j j)) trivial (sS (dNn z7 j j (oAsI j j)) trivial (sD (by kernel_rfl))))) (sS (dZ z7 j j (oAsI j j) (frzI j)) trivial (sS (dNn z7 j j (oLd (cs:=[.im 0 _]) j tF2 j j)) trivial (sS (dNn z7 j j (oAsI j j)) trivial (sS (dNn z7 j j (oAsI j j)) trivial (sD (by kernel_rfl))))))) (sS (dNn z7 j j (oLd (cs:=[.im 0 _]) j tF2 j j)) trivial (sS (dNn z7 j j (oLd (cs:=[.im 0 _]) j tF24 j j)) trivial (sS (dZ z7 j j (oAsI j j) (frzI j)) trivial (sS (dNn z7 j j (oAsI j j)) trivial (sS (dNn z7 j j (oAsI j j)) trivial (sD (by kernel_rfl)))))))))) (sS (dNn z7 j j (oFA (r':=.mp 24 0 3) j fF54_3 j j)) trivial (sF (dNn z7 j j (oFA (r':=.mp 24 0 2) j fF54_2 j j)) trivial (sF (dNn z7 j j (oLd (cs:=[.im 0 _]) j tF24 j j)) trivial (sF (dNn z7 j j (oLd (cs:=[.im 0 _]) j tF2 j j)) trivial (sS (dZ z7 j j (oAsI j j) (frzI j)) trivial (sS (dNn z7 j j (oAsI j j)) trivial (sS (dNn z7 j j (oAsI j j)) trivial (sD (by kernel_rfl))))) (sS (dZ z7 j j (oAsI j j) (frzI j)) trivial (sS (dNn z7 j j (oLd (cs:=[.im 0 _]) j tF2 j j)) trivial (sS (dNn z7 j j (oAsI j j)) trivial (sS (dNn z7 j j (oAsI j j)) trivial (sD (by kernel_rfl))))))) (sS (dNn z7 j j (oLd (cs:=[.im 0 _]) j tF2 j j)) trivial (sS (dNn z7 j j (oLd (cs:=[.im 0 _]) j tF24 j j)) trivial (sS (dZ z7 j j (oAsI j j) (frzI j)) trivial (sS (dNn z7 j j (oAsI j j)) trivial (sS (dNn z7 j j (oAsI j j)) trivial (sD (by kernel_rfl)))))))) (sS (dNn z7 j j (oLd (cs:=[.im 0 _]) j tF2 j j)) trivial (sS (dNn z7 j j (oFA (r':=.mp 24 0 2) j fF54_2 j j)) trivial (sS (dNn z7 j j (oLd (cs:=[.im 0 _]) j tF24 j j)) trivial (sS (dZ z7 j j (oAsI j j) (frzI j)) trivial (sS (dNn z7 j j (oAsI j j)) trivial (sS (dNn z7 j j (oAsI j j)) trivial (sD (by kernel_rfl))))))))))) (sS (dNn z7 j j (oFA (r':=.mp 24 0 3) j fF54_3 j j)) trivial (sF (dNn z7 j j (oNl j j j)) trivial (sF (dNn z7 j j (oFA (r':=.mp 24 0 2) j fF54_2 j j)) trivial (sF (dNn z7 j j (oLd (cs:=[.im 0 _]) j tF24 j j)) trivial (sF (dNn z7 j j (oLd (cs:=[.im 0 _]) j tF2 j j)) trivial (sS (dZ z7 j j (oAsI j j) (frzI j)) trivial (sS (dNn z7 j j (oAsI j j)) trivial (sS (dNn z7 j j (oAsI j j)) trivial (sD (by kernel_rfl))))) (sS (dZ z7 j j (oAsI j j) (frzI j)) trivial (sS (dNn z7 j j (oLd (cs:=[.im 0 _]) j tF2 j j)) trivial (sS (dNn z7 j j (oAsI j j)) trivial (sS (dNn z7 j j (oAsI j j)) trivial (sD (by kernel_rfl))))))) (sS (dNn z7 j j (oLd (cs:=[.im 0 _]) j tF2 j j)) trivial (sS (dNn z7 j j (oLd (cs:=[.im 0 _]) j tF24 j j)) trivial (sS (dZ z7 j j (oAsI j j) (frzI j)) trivial (sS (dNn z7 j j (oAsI j j)) trivial (sS (dNn z7 j j (oAsI j j)) trivial (sD (by kernel_rfl)))))))) (sS (dNn z7 j j (oLd (cs:=[.im 0 _]) j tF2 j j)) trivial (sS (dNn z7 j j (oFA (r':=.mp 24 0 2) j fF54_2 j j)) trivial (sS (dNn z7 j j (oLd (cs:=[.im 0 _]) j tF24 j j)) trivial (sS (dZ z7 j j (oAsI j j) (frzI j)) trivial (sS (dNn z7 j j (oAsI j j)) trivial (sS (dNn z7 j j (oAsI j j)) trivial (sD (by kernel_rfl))))))))) (sS (dNn z7 j j (oLd (cs:=[.im 0 _]) j tF2 j j)) trivial (sS (dNn z7 j j (oNl j j j)) trivial (sS (dNn z7 j j (oFA (r':=.mp 24 0 2) j fF54_2 j j)) trivial (sS (dNn z7 j j (oLd (cs:=[.im 0 _]) j tF24 j j)) trivial (sS (dZ z7 j j (oAsI j j) (frzI j)) trivial (sS (dNn z7 j j (oAsI j j)) trivial (sS (dNn z7 j j (oAsI j j)) trivial (sD (by kernel_rfl)))))))))))))))) (sS (dNn z7 j j (oMv j j)) trivial (sF (dNn z7 j j (oMv j j)) trivial (sF (dNn z7 j j (oNl j j j)) trivial (sF (dNn z7 j j (oFA (r':=.mp 24 0 2) j fF54_2 j j)) trivial (sF (dNn z7 j j (oLd (cs:=[.im 0 _]) j tF24 j j)) trivial (sF (dNn z7 j j (oNl j j j)) trivial (sF (dNn z7 j j (oFA (r':=.mp 24 0 3) j fF54_3 j j)) trivial (sF (dNn z7 j j (oLd (cs:=[.im 0 _]) j tF2 j j)) trivial (sS (dZ z7 j j (oAsI j j) (frzI j)) trivial (sS (dNn z7 j j (oAsI j j)) trivial (sS (dNn z7 j j (oAsI j j)) trivial (sD (by kernel_rfl))))) (sS (dZ z7 j j (oAsI j j) (frzI j)) trivial (sS (dNn z7 j j (oLd (cs:=[.im 0 _]) j tF2 j j)) trivial (sS (dNn z7 j j (oAsI j j)) trivial (sS (dNn z7 j j (oAsI j j)) trivial (sD (by kernel_rfl))))))) (sS (dZ z7 j j (oAsI j j) (frzI j)) trivial (sS (dNn z7 j j (oFA (r':=.mp 24 0 3) j fF54_3 j j)) trivial (sS (dNn z7 j j (oLd (cs:=[.im 0 _]) j tF2 j j)) trivial (sS (dNn z7 j j (oAsI j j)) trivial (sS (dNn z7 j j (oAsI j j)) trivial (sD (by kernel_rfl)))))))) (sS (dZ z7 j j (oAsI j j) (frzI j)) trivial (sS (dNn z7 j j (oNl j j j)) trivial (sS (dNn z7 j j (oFA (r':=.mp 24 0 3) j fF54_3 j j)) trivial (sS (dNn z7 j j (oLd (cs:=[.im 0 _]) j tF2 j j)) trivial (sS (dNn z7 j j (oAsI j j)) trivial (sS (dNn z7 j j (oAsI j j)) trivial (sD (by kernel_rfl))))))))) (sS (dNn z7 j j (oNl j j j)) trivial (sF (dNn z7 j j (oLd (cs:=[.im 0 _]) j tF24 j j)) trivial (sF (dNn z7 j j (oFA (r':=.mp 24 0 3) j fF54_3 j j)) trivial (sF (dNn z7 j j (oLd (cs:=[.im 0 _]) j tF2 j j)) trivial (sS (dZ z7 j j (oAsI j j) (frzI j)) trivial (sS (dNn z7 j j (oAsI j j)) trivial (sS (dNn z7 j j (oAsI j j)) trivial (sD (by kernel_rfl))))) (sS (dZ z7 j j (oAsI j j) (frzI j)) trivial (sS (dNn z7 j j (oLd (cs:=[.im 0 _]) j tF2 j j)) trivial (sS (dNn z7 j j (oAsI j j)) trivial (sS (dNn z7 j j (oAsI j j)) trivial (sD (by kernel_rfl))))))) (sS (dZ z7 j j (oAsI j j) (frzI j)) trivial (sS (dNn z7 j j (oFA (r':=.mp 24 0 3) j fF54_3 j j)) trivial (sS (dNn z7 j j (oLd (cs:=[.im 0 _]) j tF2 j j)) trivial (sS (dNn z7 j j (oAsI j j)) trivial (sS (dNn z7 j j (oAsI j j)) trivial (sD (by kernel_rfl)))))))) (sS (dNn z7 j j (oFA (r':=.mp 24 0 3) j fF54_3 j j)) trivial (sF (dNn z7 j j (oLd (cs:=[.im 0 _]) j tF24 j j)) trivial (sF (dNn z7 j j (oLd (cs:=[.im 0 _]) j tF2 j j)) trivial (sS (dZ z7 j j (oAsI j j) (frzI j)) trivial (sS (dNn z7 j j (oAsI j j)) trivial (sS (dNn z7 j j (oAsI j j)) trivial (sD (by kernel_rfl))))) (sS (dZ z7 j j (oAsI j j) (frzI j)) trivial (sS (dNn z7 j j (oLd (cs:=[.im 0 _]) j tF2 j j)) trivial (sS (dNn z7 j j (oAsI j j)) trivial (sS (dNn z7 j j (oAsI j j)) trivial (sD (by kernel_rfl))))))) (sS (dNn z7 j j (oLd (cs:=[.im 0 _]) j tF2 j j)) trivial (sS (dNn z7 j j (oLd (cs:=[.im 0 _]) j tF24 j j)) trivial (sS (dZ z7 j j (oAsI j j) (frzI j)) trivial (sS (dNn z7 j j (oAsI j j)) trivial (sS (dNn z7 j j (oAsI j j)) trivial (sD (by kernel_rfl)))))))))))) (sS (dNn z7 j j (oNl j j j)) trivial (sF (dNn z7 j j (oFA (r':=.mp 24 0 2) j fF54_2 j j)) trivial (sF (dNn z7 j j (oLd (cs:=[.im 0 _]) j tF24 j j)) trivial (sF (dNn z7 j j (oFA (r':=.mp 24 0 3) j fF54_3 j j)) trivial (sF (dNn z7 j j (oLd (cs:=[.im 0 _]) j tF2 j j)) trivial (sS (dZ z7 j j (oAsI j j) (frzI j)) trivial (sS (dNn z7 j j (oAsI j j)) trivial (sS (dNn z7 j j (oAsI j j)) trivial (sD (by kernel_rfl))))) (sS (dZ z7 j j (oAsI j j) (frzI j)) trivial (sS (dNn z7 j j (oLd (cs:=[.im 0 _]) j tF2 j j)) trivial (sS (dNn z7 j j (oAsI j j)) trivial (sS (dNn z7 j j (oAsI j j)) trivial (sD (by kernel_rfl))))))) (sS (dZ z7 j j (oAsI j j) (frzI j)) trivial (sS (dNn z7 j j (oFA (r':=.mp 24 0 3) j fF54_3 j j)) trivial (sS (dNn z7 j j (oLd (cs:=[.im 0 _]) j tF2 j j)) trivial (sS (dNn z7 j j (oAsI j j)) trivial (sS (dNn z7 j j (oAsI j j)) trivial (sD (by kernel_rfl)))))))) (sS (dNn z7 j j (oFA (r':=.mp 24 0 3) j fF54_3 j j)) trivial (sF (dNn z7 j j (oLd (cs:=[.im 0 _]) j tF24 j j)) trivial (sF (dNn z7 j j (oLd (cs:=[.im 0 _]) j tF2 j j)) trivial (sS (dZ z7 j j (oAsI j j) (frzI j)) trivial (sS (dNn z7 j j (oAsI j j)) trivial (sS (dNn z7 j j (oAsI j j)) trivial (sD (by kernel_rfl))))) (sS (dZ z7 j j (oAsI j j) (frzI j)) trivial (sS (dNn z7 j j (oLd (cs:=[.im 0 _]) j tF2 j j)) trivial (sS (dNn z7 j j (oAsI j j)) trivial (sS (dNn z7 j j (oAsI j j)) trivial (sD (by kernel_rfl))))))) (sS (dNn z7 j j (oLd (cs:=[.im 0 _]) j tF2 j j)) trivial (sS (dNn z7 j j (oLd (cs:=[.im 0 _]) j tF24 j j)) trivial (sS (dZ z7 j j (oAsI j j) (frzI j)) trivial (sS (dNn z7 j j (oAsI j j)) trivial (sS (dNn z7 j j (oAsI j j)) trivial (sD (by kernel_rfl)))))))))) (sS (dNn z7 j j (oFA (r':=.mp 24 0 3) j fF54_3 j j)) trivial (sF (dNn z7 j j (oFA (r':=.mp 24 0 2) j fF54_2 j j)) trivial (sF (dNn z7 j j (oLd (cs:=[.im 0 _]) j tF24 j j)) trivial (sF (dNn z7 j j (oLd (cs:=[.im 0 _]) j tF2 j j)) trivial (sS (dZ z7 j j (oAsI j j) (frzI j)) trivial (sS (dNn z7 j j (oAsI j j)) trivial (sS (dNn z7 j j (oAsI j j)) trivial (sD (by kernel_rfl))))) (sS (dZ z7 j j (oAsI j j) (frzI j)) trivial (sS (dNn z7 j j (oLd (cs:=[.im 0 _]) j tF2 j j)) trivial (sS (dNn z7 j j (oAsI j j)) trivial (sS (dNn z7 j j (oAsI j j)) trivial (sD (by kernel_rfl))))))) (sS (dNn z7 j j (oLd (cs:=[.im 0 _]) j tF2 j j)) trivial (sS (dNn z7 j j (oLd (cs:=[.im 0 _]) j tF24 j j)) trivial (sS (dZ z7 j j (oAsI j j) (frzI j)) trivial (sS (dNn z7 j j (oAsI j j)) trivial (sS (dNn z7 j j (oAsI j j)) trivial (sD (by kernel_rfl)))))))) (sS (dNn z7 j j (oLd (cs:=[.im 0 _]) j tF2 j j)) trivial (sS (dNn z7 j j (oFA (r':=.mp 24 0 2) j fF54_2 j j)) trivial (sS (dNn z7 j j (oLd (cs:=[.im 0 _]) j tF24 j j)) trivial (sS (dZ z7 j j (oAsI j j) (frzI j)) trivial (sS (dNn z7 j j (oAsI j j)) trivial (sS (dNn z7 j j (oAsI j j)) trivial (sD (by kernel_rfl))))))))))))) (sS (dNn z7 j j (oNl j j j)) trivial (sF (dNn z7 j j (oNl j j j)) trivial (sF (dNn z7 j j (oFA (r':=.mp 24 0 2) j fF54_2 j j)) trivial (sF (dNn z7 j j (oLd (cs:=[.im 0 _]) j tF24 j j)) trivial (sF (dNn z7 j j (oFA (r':=.mp 24 0 3) j fF54_3 j j)) trivial (sF (dNn z7 j j (oLd (cs:=[.im 0 _]) j tF2 j j)) trivial (sS (dZ z7 j j (oAsI j j) (frzI j)) trivial (sS (dNn z7 j j (oAsI j j)) trivial (sS (dNn z7 j j (oAsI j j)) trivial (sD (by kernel_rfl))))) (sS (dZ z7 j j (oAsI j j) (frzI j)) trivial (sS (dNn z7 j j (oLd (cs:=[.im 0 _]) j tF2 j j)) trivial (sS (dNn z7 j j (oAsI j j)) trivial (sS (dNn z7 j j (oAsI j j)) trivial (sD (by kernel_rfl))))))) (sS (dZ z7 j j (oAsI j j) (frzI j)) trivial (sS (dNn z7 j j (oFA (r':=.mp 24 0 3) j fF54_3 j j)) trivial (sS (dNn z7 j j (oLd (cs:=[.im 0 _]) j tF2 j j)) trivial (sS (dNn z7 j j (oAsI j j)) trivial (sS (dNn z7 j j (oAsI j j)) trivial (sD (by kernel_rfl)))))))) (sS (dNn z7 j j (oFA (r':=.mp 24 0 3) j fF54_3 j j)) trivial (sF (dNn z7 j j (oLd (cs:=[.im 0 _]) j tF24 j j)) trivial (sF (dNn z7 j j (oLd (cs:=[.im 0 _]) j tF2 j j)) trivial (sS (dZ z7 j j (oAsI j j) (frzI j)) trivial (sS (dNn z7 j j (oAsI j j)) trivial (sS (dNn z7 j j (oAsI j j)) trivial (sD (by kernel_rfl))))) (sS (dZ z7 j j (oAsI j j) (frzI j)) trivial (sS (dNn z7 j j (oLd (cs:=[.im 0 _]) j tF2 j j)) trivial (sS (dNn z7 j j (oAsI j j)) trivial (sS (dNn z7 j j (oAsI j j)) trivial (sD (by kernel_rfl))))))) (sS (dNn z7 j j (oLd (cs:=[.im 0 _]) j tF2 j j)) trivial (sS (dNn z7 j j (oLd (cs:=[.im 0 _]) j tF24 j j)) trivial (sS (dZ z7 j j (oAsI j j) (frzI j)) trivial (sS (dNn z7 j j (oAsI j j)) trivial (sS (dNn z7 j j (oAsI j j)) trivial (sD (by kernel_rfl)))))))))) (sS (dNn z7 j j (oFA (r':=.mp 24 0 3) j fF54_3 j j)) trivial (sF (dNn z7 j j (oFA (r':=.mp 24 0 2) j fF54_2 j j)) trivial (sF (dNn z7 j j (oLd (cs:=[.im 0 _]) j tF24 j j)) trivial (sF (dNn z7 j j (oLd (cs:=[.im 0 _]) j tF2 j j)) trivial (sS (dZ z7 j j (oAsI j j) (frzI j)) trivial (sS (dNn z7 j j (oAsI j j)) trivial (sS (dNn z7 j j (oAsI j j)) trivial (sD (by kernel_rfl))))) (sS (dZ z7 j j (oAsI j j) (frzI j)) trivial (sS (dNn z7 j j (oLd (cs:=[.im 0 _]) j tF2 j j)) trivial (sS (dNn z7 j j (oAsI j j)) trivial (sS (dNn z7 j j (oAsI j j)) trivial (sD (by kernel_rfl))))))) (sS (dNn z7 j j (oLd (cs:=[.im 0 _]) j tF2 j j)) trivial (sS (dNn z7 j j (oLd (cs:=[.im 0 _]) j tF24 j j)) trivial (sS (dZ z7 j j (oAsI j j) (frzI j)) trivial (sS (dNn z7 j j (oAsI j j)) trivial (sS (dNn z7 j j (oAsI j j)) trivial (sD (by kernel_rfl)))))))) (sS (dNn z7 j j (oLd (cs:=[.im 0 _]) j tF2 j j)) trivial (sS (dNn z7 j j (oFA (r':=.mp 24 0 2) j fF54_2 j j)) trivial (sS (dNn z7 j j (oLd (cs:=[.im 0 _]) j tF24 j j)) trivial (sS (dZ z7 j j (oAsI j j) (frzI j)) trivial (sS (dNn z7 j j (oAsI j j)) trivial (sS (dNn z7 j j (oAsI j j)) trivial (sD (by kernel_rfl))))))))))) (sS (dNn z7 j j (oFA (r':=.mp 24 0 3) j fF54_3 j j)) trivial (sF (dNn z7 j j (oNl j j j)) trivial (sF (dNn z7 j j (oFA (r':=.mp 24 0 2) j fF54_2 j j)) trivial (sF (dNn z7 j j (oLd (cs:=[.im 0 _]) j tF24 j j)) trivial (sF (dNn z7 j j (oLd (cs:=[.im 0 _]) j tF2 j j)) trivial (sS (dZ z7 j j (oAsI j j) (frzI j)) trivial (sS (dNn z7 j j (oAsI j j)) trivial (sS (dNn z7 j j (oAsI j j)) trivial (sD (by kernel_rfl))))) (sS (dZ z7 j j (oAsI j j) (frzI j)) trivial (sS (dNn z7 j j (oLd (cs:=[.im 0 _]) j tF2 j j)) trivial (sS (dNn z7 j j (oAsI j j)) trivial (sS (dNn z7 j j (oAsI j j)) trivial (sD (by kernel_rfl))))))) (sS (dNn z7 j j (oLd (cs:=[.im 0 _]) j tF2 j j)) trivial (sS (dNn z7 j j (oLd (cs:=[.im 0 _]) j tF24 j j)) trivial (sS (dZ z7 j j (oAsI j j) (frzI j)) trivial (sS (dNn z7 j j (oAsI j j)) trivial (sS (dNn z7 j j (oAsI j j)) trivial (sD (by kernel_rfl)))))))) (sS (dNn z7 j j (oLd (cs:=[.im 0 _]) j tF2 j j)) trivial (sS (dNn z7 j j (oFA (r':=.mp 24 0 2) j fF54_2 j j)) trivial (sS (dNn z7 j j (oLd (cs:=[.im 0 _]) j tF24 j j)) trivial (sS (dZ z7 j j (oAsI j j) (frzI j)) trivial (sS (dNn z7 j j (oAsI j j)) trivial (sS (dNn z7 j j (oAsI j j)) trivial (sD (by kernel_rfl))))))))) (sS (dNn z7 j j (oLd (cs:=[.im 0 _]) j tF2 j j)) trivial (sS (dNn z7 j j (oNl j j j)) trivial (sS (dNn z7 j j (oFA (r':=.mp 24 0 2) j fF54_2 j j)) trivial (sS (dNn z7 j j (oLd (cs:=[.im 0 _]) j tF24 j j)) trivial (sS (dZ z7 j j (oAsI j j) (frzI j)) trivial (sS (dNn z7 j j (oAsI j j)) trivial (sS (dNn z7 j j (oAsI j j)) trivial (sD (by kernel_rfl)))))))))))))) (sS (dNn z7 j j (oNl j j j)) trivial (sF (dNn z7 j j (oMv j j)) trivial (sF (dNn z7 j j (oNl j j j)) trivial (sF (dNn z7 j j (oFA (r':=.mp 24 0 2) j fF54_2 j j)) trivial (sF (dNn z7 j j (oLd (cs:=[.im 0 _]) j tF24 j j)) trivial (sF (dNn z7 j j (oFA (r':=.mp 24 0 3) j fF54_3 j j)) trivial (sF (dNn z7 j j (oLd (cs:=[.im 0 _]) j tF2 j j)) trivial (sS (dZ z7 j j (oAsI j j) (frzI j)) trivial (sS (dNn z7 j j (oAsI j j)) trivial (sS (dNn z7 j j (oAsI j j)) trivial (sD (by kernel_rfl))))) (sS (dZ z7 j j (oAsI j j) (frzI j)) trivial (sS (dNn z7 j j (oLd (cs:=[.im 0 _]) j tF2 j j)) trivial (sS (dNn z7 j j (oAsI j j)) trivial (sS (dNn z7 j j (oAsI j j)) trivial (sD (by kernel_rfl))))))) (sS (dZ z7 j j (oAsI j j) (frzI j)) trivial (sS (dNn z7 j j (oFA (r':=.mp 24 0 3) j fF54_3 j j)) trivial (sS (dNn z7 j j (oLd (cs:=[.im 0 _]) j tF2 j j)) trivial (sS (dNn z7 j j (oAsI j j)) trivial (sS (dNn z7 j j (oAsI j j)) trivial (sD (by kernel_rfl)))))))) (sS (dNn z7 j j (oFA (r':=.mp 24 0 3) j fF54_3 j j)) trivial (sF (dNn z7 j j (oLd (cs:=[.im 0 _]) j tF24 j j)) trivial (sF (dNn z7 j j (oLd (cs:=[.im 0 _]) j tF2 j j)) trivial (sS (dZ z7 j j (oAsI j j) (frzI j)) trivial (sS (dNn z7 j j (oAsI j j)) trivial (sS (dNn z7 j j (oAsI j j)) trivial (sD (by kernel_rfl))))) (sS (dZ z7 j j (oAsI j j) (frzI j)) trivial (sS (dNn z7 j j (oLd (cs:=[.im 0 _]) j tF2 j j)) trivial (sS (dNn z7 j j (oAsI j j)) trivial (sS (dNn z7 j j (oAsI j j)) trivial (sD (by kernel_rfl))))))) (sS (dNn z7 j j (oLd (cs:=[.im 0 _]) j tF2 j j)) trivial (sS (dNn z7 j j (oLd (cs:=[.im 0 _]) j tF24 j j)) trivial (sS (dZ z7 j j (oAsI j j) (frzI j)) trivial (sS (dNn z7 j j (oAsI j j)) trivial (sS (dNn z7 j j (oAsI j j)) trivial (sD (by kernel_rfl)))))))))) (sS (dNn z7 j j (oFA (r':=.mp 24 0 3) j fF54_3 j j)) trivial (sF (dNn z7 j j (oFA (r':=.mp 24 0 2) j fF54_2 j j)) trivial (sF (dNn z7 j j (oLd (cs:=[.im 0 _]) j tF24 j j)) trivial (sF (dNn z7 j j (oLd (cs:=[.im 0 _]) j tF2 j j)) trivial (sS (dZ z7 j j (oAsI j j) (frzI j)) trivial (sS (dNn z7 j j (oAsI j j)) trivial (sS (dNn z7 j j (oAsI j j)) trivial (sD (by kernel_rfl))))) (sS (dZ z7 j j (oAsI j j) (frzI j)) trivial (sS (dNn z7 j j (oLd (cs:=[.im 0 _]) j tF2 j j)) trivial (sS (dNn z7 j j (oAsI j j)) trivial (sS (dNn z7 j j (oAsI j j)) trivial (sD (by kernel_rfl))))))) (sS (dNn z7 j j (oLd (cs:=[.im 0 _]) j tF2 j j)) trivial (sS (dNn z7 j j (oLd (cs:=[.im 0 _]) j tF24 j j)) trivial (sS (dZ z7 j j (oAsI j j) (frzI j)) trivial (sS (dNn z7 j j (oAsI j j)) trivial (sS (dNn z7 j j (oAsI j j)) trivial (sD (by kernel_rfl)))))))) (sS (dNn z7 j j (oLd (cs:=[.im 0 _]) j tF2 j j)) trivial (sS (dNn z7 j j (oFA (r':=.mp 24 0 2) j fF54_2 j j)) trivial (sS (dNn z7 j j (oLd (cs:=[.im 0 _]) j tF24 j j)) trivial (sS (dZ z7 j j (oAsI j j) (frzI j)) trivial (sS (dNn z7 j j (oAsI j j)) trivial (sS (dNn z7 j j (oAsI j j)) trivial (sD (by kernel_rfl))))))))))) (sS (dNn z7 j j (oFA (r':=.mp 24 0 3) j fF54_3 j j)) trivial (sF (dNn z7 j j (oNl j j j)) trivial (sF (dNn z7 j j (oFA (r':=.mp 24 0 2) j fF54_2 j j)) trivial (sF (dNn z7 j j (oLd (cs:=[.im 0 _]) j tF24 j j)) trivial (sF (dNn z7 j j (oLd (cs:=[.im 0 _]) j tF2 j j)) trivial (sS (dZ z7 j j (oAsI j j) (frzI j)) trivial (sS (dNn z7 j j (oAsI j j)) trivial (sS (dNn z7 j j (oAsI j j)) trivial (sD (by kernel_rfl))))) (sS (dZ z7 j j (oAsI j j) (frzI j)) trivial (sS (dNn z7 j j (oLd (cs:=[.im 0 _]) j tF2 j j)) trivial (sS (dNn z7 j j (oAsI j j)) trivial (sS (dNn z7 j j (oAsI j j)) trivial (sD (by kernel_rfl))))))) (sS (dNn z7 j j (oLd (cs:=[.im 0 _]) j tF2 j j)) trivial (sS (dNn z7 j j (oLd (cs:=[.im 0 _]) j tF24 j j)) trivial (sS (dZ z7 j j (oAsI j j) (frzI j)) trivial (sS (dNn z7 j j (oAsI j j)) trivial (sS (dNn z7 j j (oAsI j j)) trivial (sD (by kernel_rfl)))))))) (sS (dNn z7 j j (oLd (cs:=[.im 0 _]) j tF2 j j)) trivial (sS (dNn z7 j j (oFA (r':=.mp 24 0 2) j fF54_2 j j)) trivial (sS (dNn z7 j j (oLd (cs:=[.im 0 _]) j tF24 j j)) trivial (sS (dZ z7 j j (oAsI j j) (frzI j)) trivial (sS (dNn z7 j j (oAsI j j)) trivial (sS (dNn z7 j j (oAsI j j)) trivial (sD (by kernel_rfl))))))))) (sS (dNn z7 j j (oLd (cs:=[.im 0 _]) j tF2 j j)) trivial (sS (dNn z7 j j (oNl j j j)) trivial (sS (dNn z7 j j (oFA (r':=.mp 24 0 2) j fF54_2 j j)) trivial (sS (dNn z7 j j (oLd (cs:=[.im 0 _]) j tF24 j j)) trivial (sS (dZ z7 j j (oAsI j j) (frzI j)) trivial (sS (dNn z7 j j (oAsI j j)) trivial (sS (dNn z7 j j (oAsI j j)) trivial (sD (by kernel_rfl)))))))))))) (sS (dNn z7 j j (oFA (r':=.mp 24 0 3) j fF54_3 j j)) trivial (sF (dNn z7 j j (oMv j j)) trivial (sF (dNn z7 j j (oNl j j j)) trivial (sF (dNn z7 j j (oFA (r':=.mp 24 0 2) j fF54_2 j j)) trivial (sF (dNn z7 j j (oLd (cs:=[.im 0 _]) j tF24 j j)) trivial (sF (dNn z7 j j (oLd (cs:=[.im 0 _]) j tF2 j j)) trivial (sS (dZ z7 j j (oAsI j j) (frzI j)) trivial (sS (dNn z7 j j (oAsI j j)) trivial (sS (dNn z7 j j (oAsI j j)) trivial (sD (by kernel_rfl))))) (sS (dZ z7 j j (oAsI j j) (frzI j)) trivial (sS (dNn z7 j j (oLd (cs:=[.im 0 _]) j tF2 j j)) trivial (sS (dNn z7 j j (oAsI j j)) trivial (sS (dNn z7 j j (oAsI j j)) trivial (sD (by kernel_rfl))))))) (sS (dNn z7 j j (oLd (cs:=[.im 0 _]) j tF2 j j)) trivial (sS (dNn z7 j j (oLd (cs:=[.im 0 _]) j tF24 j j)) trivial (sS (dZ z7 j j (oAsI j j) (frzI j)) trivial (sS (dNn z7 j j (oAsI j j)) trivial (sS (dNn z7 j j (oAsI j j)) trivial (sD (by kernel_rfl)))))))) (sS (dNn z7 j j (oLd (cs:=[.im 0 _]) j tF2 j j)) trivial (sS (dNn z7 j j (oFA (r':=.mp 24 0 2) j fF54_2 j j)) trivial (sS (dNn z7 j j (oLd (cs:=[.im 0 _]) j tF24 j j)) trivial (sS (dZ z7 j j (oAsI j j) (frzI j)) trivial (sS (dNn z7 j j (oAsI j j)) trivial (sS (dNn z7 j j (oAsI j j)) trivial (sD (by kernel_rfl))))))))) (sS (dNn z7 j j (oLd (cs:=[.im 0 _]) j tF2 j j)) trivial (sS (dNn z7 j j (oNl j j j)) trivial (sS (dNn z7 j j (oFA (r':=.mp 24 0 2) j fF54_2 j j)) trivial (sS (dNn z7 j j (oLd (cs:=[.im 0 _]) j tF24 j j)) trivial (sS (dZ z7 j j (oAsI j j) (frzI j)) trivial (sS (dNn z7 j j (oAsI j j)) trivial (sS (dNn z7 j j (oAsI j j)) trivial (sD (by kernel_rfl)))))))))) (sS (dNn z7 j j (oLd (cs:=[.im 0 _]) j tF2 j j)) trivial (sS (dNn z7 j j (oMv j j)) trivial (sS (dNn z7 j j (oNl j j j)) trivial (sS (dNn z7 j j (oFA (r':=.mp 24 0 2) j fF54_2 j j)) trivial (sS (dNn z7 j j (oLd (cs:=[.im 0 _]) j tF24 j j)) trivial (sS (dZ z7 j j (oAsI j j) (frzI j)) trivial (sS (dNn z7 j j (oAsI j j)) trivial (sS (dNn z7 j j (oAsI j j)) trivial (sD (by kernel_rfl)))))))))))))))))<|us<|Go.ret (Unw.ret ?_)
   cases h
   exact fr rF7 j
theorem L_laws_eqInt64S {a_0:(List Int)} {b_1:(List Int)} {r:Bool} (h:laws_eqInt64S a_0 b_1=some r):FX 8 [.im 2 false [W 1 eI a_0],.im 2 false [W 1 eI b_1]] (B0 [(false,[.im 0 (V r)])]):=by
 unfold laws_eqInt64S at h
 refine gn 26 Try.func8 rfl ?_
 refine gs<|g0 j j (q (oAsI j j)<|nl)<|us<|gs<|gs<|g0 j j (q (oMv j j)<|q (oLnI j j uF24 j)<|q (oMv j j)<|q (oLnI j j uF24 j)<|q (oBi j j j j)<|nl)<|us<|gc h j iNe (fun hc1 h=>?_) fun hc1 h=>?_
 ·refine gs<|g0 j j (q (oAsI j j)<|nl)<|us<|Go.ret (Unw.ret ?_)
  cases h
  exact fr rF8 j
 ·refine Go.skip<|us<|gs<|gs<|g0 j j (q (oAsI j j)<|nl)<|us<|Go.block<|?_
  obtain ⟨o,hl,h⟩:=bs h
  refine gl c8 j _ (fun (i_5_l4:Int)=>mk [(0,D 2 (W 1 eI a_0)),(1,D 2 (W 1 eI b_1)),(5,iv i_5_l4)] []) (fun (o:(Unit ⊕ Bool)) (p:Ex×St)=>match o with | (.inl _)=>p.1= .exit 0∧p.2.norm ([],[])=mk [] [] | (.inr r2)=>p.1= .ret∧fin Try.prog cfg 8 Try.f8 [.im 2 false [W 1 eI a_0],.im 2 false [W 1 eI b_1]] p.2=some (B0 [(false,[.im 0 (V r2)])])) hl (by kernel_rfl) ?_ ?_ ?_
  ·intro o p hp e
   rcases o with u | r2<;>exact nomatch (hp.1.symm.trans e)
  ·rintro i_5_l4 o h
   unfold laws_eqInt64S_l4 at h
   refine gs<|gs<|g0 j j (q (oMv j j)<|q (oMv j j)<|q (oLnI j j uF24 j)<|q (oBi j j j j)<|nl)<|us<|gc h j iDec (fun hc6 h=>?_) fun hc6 h=>?_
   ·refine Go.skip<|us<|gs<|Go.block<|gs<|?_
    obtain ⟨x19,hx19,h⟩:=bs h
    obtain ⟨x23,hx23,h⟩:=bs h
    refine gd c8 j j j j (mk [(0,D 2 (W 1 eI a_0)),(1,D 2 (W 1 eI b_1)),(5,iv i_5_l4),(25,bv (x19 != x23))] []) (t j j (oMv j j)<|t j j (oMv j j)<|t j j (oIAI j hx19 sF24 j j)<|t j j (oLd (cs:=[.im 2 _]) j tF2 j j)<|t j j (oMv j j)<|t j j (oMv j j)<|t j j (oIAI j hx23 sF24 j j)<|t j j (oLd (cs:=[.im 2 _]) j tF2 j j)<|t j j (oBi j j j j)<|sD (by kernel_rfl))<|us<|gc h j iNe (fun hc7 h=>?_) fun hc7 h=>?_
    ·refine gs<|g0 j j (q (oAsI j j)<|nl)<|us<|Go.ret (Unw.ret ?_)
     cases h
     exact ⟨j,(fo rF8 j)⟩
    ·refine Go.skip<|Unw.blk<|us<|g0 j j (q (oMv j j)<|q (oBi j j j j)<|q (oAsI j j)<|nl)<|Unw.nil<|?_
     cases h
     exact ⟨j,(by kernel_rfl)⟩
   ·refine Go.exit<|ux<|Unw.nil<|?_
    cases h
    exact ⟨j,(by kernel_rfl)⟩
  ·rintro ⟨e,st⟩ hp
   rcases o with u | r2
   ·dsimp only at h
    obtain ⟨he,hst⟩:=hp
    obtain rfl:e= .exit 0:=he
    refine Unw.blkx<|us<|gs<|g2 c8 j j hst (q (oAsI j j)<|nl)<|us<|Go.ret (Unw.ret ?_)
    cases h
    exact fr rF8 j
   ·dsimp only at h
    obtain ⟨he,hfin⟩:=hp
    obtain rfl:e= .ret:=he
    cases h
    exact Unw.ret (Fin_ret hfin)
theorem L_laws_eqVeneer {a_0:S_Veneer} {b_1:S_Veneer} {r:Bool} (h:laws_eqVeneer a_0 b_1=some r):FX 30 [.im 2 true (u_S_Veneer a_0),.im 2 true (u_S_Veneer b_1)] (B0 [(false,[.im 0 (V r)])]):=by
 unfold laws_eqVeneer at h
 refine gn 20 Try.func30 rfl ?_
 refine gs<|g0 j j (q (oBx j tF47 j (tkI (tkI (tkI tk0))))<|q (oBx j tF47 j (tkI (tkI (tkI tk0))))<|q (oAsI j j)<|nl)<|us<|gs<|gs<|g0 j j (q (oFA (r':=.mp 2 0 0) j fF47_0 j j)<|q (oLd (cs:=[.im 0 _]) j tF9 j j)<|q (oFA (r':=.mp 3 0 0) j fF47_0 j j)<|q (oLd (cs:=[.im 0 _]) j tF9 j j)<|q (oBi j j j j)<|nl)<|us<|gc h j (iNot iStr) (fun hc1 h=>?_) fun hc1 h=>?_
 ·refine gs<|g0 j j (q (oAsI j j)<|nl)<|us<|Go.ret (Unw.ret ?_)
  cases h
  exact fr rF30 j
 ·refine Go.skip<|us<|gs<|gs<|g0 j j (q (oFA (r':=.mp 2 0 1) j fF47_1 j j)<|q (oLd (cs:=[.im 0 _]) j tF2 j j)<|q (oFA (r':=.mp 3 0 1) j fF47_1 j j)<|q (oLd (cs:=[.im 0 _]) j tF2 j j)<|q (oBi j j j j)<|nl)<|us<|gc h j iNe (fun hc2 h=>?_) fun hc2 h=>?_
  ·refine gs<|g0 j j (q (oAsI j j)<|nl)<|us<|Go.ret (Unw.ret ?_)
   cases h
   exact fr rF30 j
  ·refine Go.skip<|us<|gs<|gs<|g0 j j (q (oFA (r':=.mp 2 0 2) j fF47_2 j j)<|q (oLd (cs:=[.im 0 _]) j tF2 j j)<|q (oFA (r':=.mp 3 0 2) j fF47_2 j j)<|q (oLd (cs:=[.im 0 _]) j tF2 j j)<|q (oBi j j j j)<|nl)<|us<|gc h j iNe (fun hc3 h=>?_) fun hc3 h=>?_
   ·refine gs<|g0 j j (q (oAsI j j)<|nl)<|us<|Go.ret (Unw.ret ?_)
    cases h
    exact fr rF30 j
   ·refine Go.skip<|us<|gs<|g0 j j (q (oAsI j j)<|nl)<|us<|Go.ret (Unw.ret ?_)
    cases h
    exact fr rF30 j
theorem L_laws_eqLoss {a_0:S_Loss} {b_1:S_Loss} {r:Bool} (h:laws_eqLoss a_0 b_1=some r):FX 22 [.im 2 true (u_S_Loss a_0),.im 2 true (u_S_Loss b_1)] (B0 [(false,[.im 0 (V r)])]):=by
 unfold laws_eqLoss at h
 refine gn 36 Try.func22 rfl ?_
 refine gs<|g0 j j (q (oBx j tF49 j (tkI (tkI (tkI (tkI (tkI (tkI (tkI (tkI tk0)))))))))<|q (oBx j tF49 j (tkI (tkI (tkI (tkI (tkI (tkI (tkI (tkI tk0)))))))))<|q (oAsI j j)<|nl)<|us<|gs<|gs<|g1 j j (mk [(2,M 2),(3,M 3)] [(2,Oa (G 0 (u_S_Loss a_0))),(3,Oa (G 0 (u_S_Loss b_1)))]) (q (oFA (r':=.mp 2 0 0) j fF49_0 j j)<|q (oLd (cs:=[.im 0 _]) j tF9 j j)<|q (oFA (r':=.mp 3 0 0) j fF49_0 j j)<|q (oLd (cs:=[.im 0 _]) j tF9 j j)<|q (oBi j j j j)<|nl)<|us<|gc h j (iNot iStr) (fun hc1 h=>?_) fun hc1 h=>?_
 ·refine gs<|g0 j j (q (oAsI j j)<|nl)<|us<|Go.ret (Unw.ret ?_)
  cases h
  exact fr rF22 j
 ·refine Go.skip<|us<|gs<|gs<|?_
  obtain ⟨x14,hx14,h⟩:=bs h
  refine g0 j j (q (oFA (r':=.mp 2 0 1) j fF49_1 j j)<|q (oLd (cs:=[.im 0 _,.im 0 _,.im 0 _]) j tF47 j j)<|q (oFA (r':=.mp 3 0 1) j fF49_1 j j)<|q (oLd (cs:=[.im 0 _,.im 0 _,.im 0 _]) j tF47 j j)<|q (oCa (xs:=[.v true [.im 0 _,.im 0 _,.im 0 _],.v true [.im 0 _,.im 0 _,.im 0 _]]) (vs:=[(false,[.im 0 _])]) (v:=.v false [.im 0 _]) (L_laws_eqVeneer hx14) (.inl j) j kF30_47_47 j (ppC j (ppC j pp0)) j j pb0 j j j)<|q (oUn j j j)<|nl)<|us<|?_
  by_cases hc2:x14=true
  ·rw [if_pos hc2] at h
   refine gF j (nF (iR.2 hc2))<|Go.skip<|us<|gs<|gs<|g0 j j (q (oFA (r':=.mp 2 0 4) j fF49_2 j j)<|q (oLd (cs:=[.im 0 _]) j tF2 j j)<|q (oFA (r':=.mp 3 0 4) j fF49_2 j j)<|q (oLd (cs:=[.im 0 _]) j tF2 j j)<|q (oBi j j j j)<|nl)<|us<|gc h j iNe (fun hc3 h=>?_) fun hc3 h=>?_
   ·refine gs<|g0 j j (q (oAsI j j)<|nl)<|us<|Go.ret (Unw.ret ?_)
    cases h
    exact fr rF22 j
   ·refine Go.skip<|us<|gs<|gs<|g0 j j (q (oFA (r':=.mp 2 0 5) j fF49_3 j j)<|q (oLd (cs:=[.im 0 _]) j tF2 j j)<|q (oFA (r':=.mp 3 0 5) j fF49_3 j j)<|q (oLd (cs:=[.im 0 _]) j tF2 j j)<|q (oBi j j j j)<|nl)<|us<|gc h j iNe (fun hc4 h=>?_) fun hc4 h=>?_
    ·refine gs<|g0 j j (q (oAsI j j)<|nl)<|us<|Go.ret (Unw.ret ?_)
     cases h
     exact fr rF22 j
    ·refine Go.skip<|us<|gs<|gs<|g0 j j (q (oFA (r':=.mp 2 0 6) j fF49_4 j j)<|q (oLd (cs:=[.im 0 _]) j tF2 j j)<|q (oFA (r':=.mp 3 0 6) j fF49_4 j j)<|q (oLd (cs:=[.im 0 _]) j tF2 j j)<|q (oBi j j j j)<|nl)<|us<|gc h j iNe (fun hc5 h=>?_) fun hc5 h=>?_
     ·refine gs<|g0 j j (q (oAsI j j)<|nl)<|us<|Go.ret (Unw.ret ?_)
      cases h
      exact fr rF22 j
     ·refine Go.skip<|us<|gs<|gs<|g0 j j (q (oFA (r':=.mp 2 0 7) j fF49_5 j j)<|q (oLd (cs:=[.im 0 _]) j tF2 j j)<|q (oFA (r':=.mp 3 0 7) j fF49_5 j j)<|q (oLd (cs:=[.im 0 _]) j tF2 j j)<|q (oBi j j j j)<|nl)<|us<|gc h j iNe (fun hc6 h=>?_) fun hc6 h=>?_
      ·refine gs<|g0 j j (q (oAsI j j)<|nl)<|us<|Go.ret (Unw.ret ?_)
       cases h
       exact fr rF22 j
      ·refine Go.skip<|us<|gs<|g0 j j (q (oAsI j j)<|nl)<|us<|Go.ret (Unw.ret ?_)
       cases h
       exact fr rF22 j
  ·rw [if_neg hc2] at h
   refine gT j (nT (byF iR hc2))<|gs<|g0 j j (q (oAsI j j)<|nl)<|us<|Go.ret (Unw.ret ?_)
   cases h
   exact fr rF22 j
theorem L_laws_eqLossS {a_0:(List S_Loss)} {b_1:(List S_Loss)} {r:Bool} (h:laws_eqLossS a_0 b_1=some r):FX 9 [.im 2 false [W 8 e_S_Loss a_0],.im 2 false [W 8 e_S_Loss b_1]] (B0 [(false,[.im 0 (V r)])]):=by
 unfold laws_eqLossS at h
 refine gn 27 Try.func9 rfl ?_
 refine gs<|g0 j j (q (oAsI j j)<|nl)<|us<|gs<|gs<|g0 j j (q (oMv j j)<|q (oLnI j j uF27 j)<|q (oMv j j)<|q (oLnI j j uF27 j)<|q (oBi j j j j)<|nl)<|us<|gc h j iNe (fun hc1 h=>?_) fun hc1 h=>?_
 ·refine gs<|g0 j j (q (oAsI j j)<|nl)<|us<|Go.ret (Unw.ret ?_)
  cases h
  exact fr rF9 j
 ·refine Go.skip<|us<|gs<|gs<|g0 j j (q (oAsI j j)<|nl)<|us<|Go.block<|?_
  obtain ⟨o,hl,h⟩:=bs h
  refine gl c9 j _ (fun (i_5_l4:Int)=>mk [(0,D 2 (W 8 e_S_Loss a_0)),(1,D 2 (W 8 e_S_Loss b_1)),(5,iv i_5_l4)] []) (fun (o:(Unit ⊕ Bool)) (p:Ex×St)=>match o with | (.inl _)=>p.1= .exit 0∧p.2.norm ([],[])=mk [] [] | (.inr r2)=>p.1= .ret∧fin Try.prog cfg 9 Try.f9 [.im 2 false [W 8 e_S_Loss a_0],.im 2 false [W 8 e_S_Loss b_1]] p.2=some (B0 [(false,[.im 0 (V r2)])])) hl (by kernel_rfl) ?_ ?_ ?_
  ·intro o p hp e
   rcases o with u | r2<;>exact nomatch (hp.1.symm.trans e)
  ·rintro i_5_l4 o h
   unfold laws_eqLossS_l4 at h
   refine gs<|gs<|g0 j j (q (oMv j j)<|q (oMv j j)<|q (oLnI j j uF27 j)<|q (oBi j j j j)<|nl)<|us<|gc h j iDec (fun hc6 h=>?_) fun hc6 h=>?_
   ·refine Go.skip<|us<|gs<|Go.block<|gs<|?_
    obtain ⟨x19,hx19,h⟩:=bs h
    obtain ⟨x23,hx23,h⟩:=bs h
    obtain ⟨x25,hx25,h⟩:=bs h
    refine gd c9 j j j j (mk [(0,D 2 (W 8 e_S_Loss a_0)),(1,D 2 (W 8 e_S_Loss b_1)),(5,iv i_5_l4),(26,bv (!x25))] []) (t j j (oMv j j)<|t j j (oMv j j)<|t j j (oIAI j hx19 sF27 j j)<|t j j (oLd (cs:=[.im 2 _,.im 2 _,.im 2 _,.im 2 _,.im 2 _,.im 2 _,.im 2 _,.im 2 _]) j tF49 j j)<|t j j (oMv j j)<|t j j (oMv j j)<|t j j (oIAI j hx23 sF27 j j)<|t j j (oLd (cs:=[.im 2 _,.im 2 _,.im 2 _,.im 2 _,.im 2 _,.im 2 _,.im 2 _,.im 2 _]) j tF49 j j)<|sS (dN z9 j (oCa (xs:=[.v true [.im 2 _,.im 2 _,.im 2 _,.im 2 _,.im 2 _,.im 2 _,.im 2 _,.im 2 _],.v true [.im 2 _,.im 2 _,.im 2 _,.im 2 _,.im 2 _,.im 2 _,.im 2 _,.im 2 _]]) (vs:=[(false,[.im 0 _])]) (v:=.v false [.im 0 _]) (L_laws_eqLoss hx25) (.inl j) j kF22_49_49 j (ppC j (ppC j pp0)) j j pb0 j j j)) trivial (t j j (oUn j j j)<|sD (by kernel_rfl)))<|us<|?_
    by_cases hc7:x25=true
    ·rw [if_pos hc7] at h
     refine gF j (nF (iR.2 hc7))<|Go.skip<|Unw.blk<|us<|g0 j j (q (oMv j j)<|q (oBi j j j j)<|q (oAsI j j)<|nl)<|Unw.nil<|?_
     cases h
     exact ⟨j,(by kernel_rfl)⟩
    ·rw [if_neg hc7] at h
     refine gT j (nT (byF iR hc7))<|gs<|g0 j j (q (oAsI j j)<|nl)<|us<|Go.ret (Unw.ret ?_)
     cases h
     exact ⟨j,(fo rF9 j)⟩
   ·refine Go.exit<|ux<|Unw.nil<|?_
    cases h
    exact ⟨j,(by kernel_rfl)⟩
  ·rintro ⟨e,st⟩ hp
   rcases o with u | r2
   ·dsimp only at h
    obtain ⟨he,hst⟩:=hp
    obtain rfl:e= .exit 0:=he
    refine Unw.blkx<|us<|gs<|g2 c9 j j hst (q (oAsI j j)<|nl)<|us<|Go.ret (Unw.ret ?_)
    cases h
    exact fr rF9 j
   ·dsimp only at h
    obtain ⟨he,hfin⟩:=hp
    obtain rfl:e= .ret:=he
    cases h
    exact Unw.ret (Fin_ret hfin)
theorem L_laws_markText {k_0:Int} {r:ByteArray} (h:laws_markText k_0=some r):FX 23 [.im 2 false [I k_0]] (B0 [(false,[.im 0 (Y r)])]):=by
 unfold laws_markText at h
 refine gn 20 Try.func23 rfl ?_
 refine gs<|g0 j j (q (oAsI j j)<|nl)<|us<|gs<|gs<|g0 j j (q (oMv j j)<|q (oBi j j j j)<|nl)<|us<|gc h j iDec (fun hc1 h=>?_) fun hc1 h=>?_
 ·refine gs<|g0 j j (q (oAsI j j)<|nl)<|us<|Go.ret (Unw.ret ?_)
  cases h
  exact fr rF23 j
 ·refine Go.skip<|us<|gs<|g0 j j (q (oAsI j j)<|nl)<|us<|gs<|Go.block<|?_
  obtain ⟨o,hl,h⟩:=bs h
  refine gl c23 j _ (fun (s:(Int×ByteArray))=>match s with | (k_0_l4,out_3_l4)=>mk [(0,iv k_0_l4),(3,sv out_3_l4)] []) (fun (out_3_e0_4:ByteArray) (p:Ex×St)=>p.1= .exit 0∧p.2.norm ([3],[])=mk [(3,sv out_3_e0_4)] []) hl (by kernel_rfl) ?_ ?_ ?_
  ·intro o p hp e
   exact nomatch (hp.1.symm.trans e)
  ·rintro ⟨k_0_l4,out_3_l4⟩ o h
   unfold laws_markText_l4 at h
   dsimp only at h
   refine gs<|gs<|g0 j j (q (oMv j j)<|q (oBi j j j j)<|nl)<|us<|gc h j iDec (fun hc4 h=>?_) fun hc4 h=>?_
   ·refine Go.skip<|us<|Go.block<|gs<|?_
    obtain ⟨x9,hx9,h⟩:=bs h
    obtain ⟨x15,hx15,h⟩:=bs h
    refine g0 j j (q (oMv j j)<|q (oRem j hx9 j j)<|q (oBi j j j j)<|q (oCvI j uF3 uF5 j)<|q (oBS (es:=List.map (eK .u8) ([(IntKind.wrap .u8 ((w64 (48+x9))))]:List Int)) j sF63 j (ptC j (fxI fx0) j pt0) (flat0 j fun _=>j))<|q (oCvB (l:=([(IntKind.wrap .u8 ((w64 (48+x9))))]:List Int)) j uF63 uF5 uF9 j (el_own j j))<|q (oMv j j)<|q (oCat j hx15 j j)<|q (oAsI j j)<|nl)<|us<|?_
    obtain ⟨x17,hx17,h⟩:=bs h
    refine g0 j j (q (oMv j j)<|q (oQuo j hx17 j j)<|q (oAsI j j)<|nl)<|Unw.blk<|Unw.nil<|?_
    cases h
    exact ⟨j,(by kernel_rfl)⟩
   ·refine Go.exit<|ux<|Unw.nil<|?_
    cases h
    exact ⟨j,(by kernel_rfl)⟩
  ·rintro ⟨e,st⟩ hp
   obtain ⟨out_3_e0_4,rfl⟩:∃y,y=o:=⟨o,rfl⟩
   obtain ⟨he,hst⟩:=hp
   obtain rfl:e= .exit 0:=he
   refine Unw.blkx<|us<|gs<|?_
   obtain ⟨x19,hx19,h⟩:=bs h
   refine g2 c23 j j hst (q (oMv j j)<|q (oCat j hx19 j j)<|q (oAsI j j)<|nl)<|us<|Go.ret (Unw.ret ?_)
   cases h
   exact fr rF23 j
theorem L_laws_markLossS {a_0:(List S_Loss)} {k_1:Int} {r:(Int×(List S_Loss))} (h:laws_markLossS a_0 k_1=some r):FX 10 [.ow 8 (List.map e_S_Loss a_0),.im 2 false [I k_1]] ([(false,[.im 0 (I r.1)])],[.ow 8 (List.map e_S_Loss r.2)]):=by
 unfold laws_markLossS at h
 refine FL_goS (A:=[(0,H 0 0),(1,D 2 (I k_1))]) (B:=[(0,Oe [Z (W 8 e_S_Loss a_0)]),(1,none)]) (nt:=74) rfl rfl Try.func10 rfl rfl rfl rfl ?_
 refine gs<|g0 j j (q (oAsI j j)<|nl)<|us<|gs<|gs<|g0 j j (q (oAsI j j)<|nl)<|us<|Go.block<|?_
 obtain ⟨o,hl,h⟩:=bs h
 refine gl c10 j _ (fun (s:(Int×Int×(List S_Loss)))=>match s with | (k_1_l2,i_5_l2,a_o0_l2)=>mk [(0,H 0 0),(1,iv k_1_l2),(5,iv i_5_l2)] [(0,Oe [Z (W 8 e_S_Loss a_o0_l2)])]) (fun (o:(Int×(List S_Loss))) (p:Ex×St)=>match o with | (k_1_e0_2,a_o0_e0_2)=>p.1= .exit 0∧p.2.norm ([1],[0])=mk [(1,iv k_1_e0_2)] [(0,Oe [Z (W 8 e_S_Loss a_o0_e0_2)])]) hl (by kernel_rfl) ?_ ?_ ?_
 ·intro o p hp e
  obtain ⟨k_1_e0_2,a_o0_e0_2⟩:=o
  exact nomatch (hp.1.symm.trans e)
 ·rintro ⟨k_1_l2,i_5_l2,a_o0_l2⟩ o h
  unfold laws_markLossS_l2 at h
  dsimp only at h
  refine gs<|gs<|g0 j j (q (oMv j j)<|q (oMv j j)<|q (oLnO j j uF27 j j j (fun e=>nomatch e))<|q (oBi j j j j)<|nl)<|us<|gc h j iDec (fun hc3 h=>?_) fun hc3 h=>?_
  ·refine Go.skip<|us<|gs<|Go.block<|gs<|?_
   obtain ⟨x15,hx15,h⟩:=bs h
   obtain ⟨x16,hx16,h⟩:=bs h
   refine g0 j j (q (oMv j j)<|q (oMv j j)<|q (oMv j j)<|q (oCa (xs:=[.v false [.im 0 _]]) (vs:=[(false,[.im 0 _])]) (v:=.v false [.im 0 _]) (L_laws_markText hx15) (.inl j) j kF23_3 j (ppC j pp0) j j pb0 j j j)<|q (oIAO j hx16 sF27 j j j j)<|q (oFA (r':=.mpe 0 0 0 _ 0) j fF49_0 j j)<|q (oStE (v':=(⟨x15,x16.Veneer,x16.Area,x16.Priority,x16.Cost,x16.Minutes⟩:S_Loss)) tF9 j j j (fxI fx0) j j (rd_get hx16) j)<|nl)<|us<|gs<|g1 j j (mk [(0,H 0 0),(1,iv k_1_l2),(5,iv i_5_l2)] [(0,Oe [Z (W 8 e_S_Loss (a_o0_l2.set i_5_l2.toNat (⟨x15,x16.Veneer,x16.Area,x16.Priority,x16.Cost,x16.Minutes⟩:S_Loss)))])]) (q (oMv j j)<|q (oBi j j j j)<|q (oAsI j j)<|nl)<|us<|gs<|?_
   obtain ⟨x23,hx23,h⟩:=bs h
   obtain ⟨x24,hx24,h⟩:=bs h
   refine g0 j j (q (oMv j j)<|q (oMv j j)<|q (oMv j j)<|q (oCa (xs:=[.v false [.im 0 _]]) (vs:=[(false,[.im 0 _])]) (v:=.v false [.im 0 _]) (L_laws_markText hx23) (.inl j) j kF23_3 j (ppC j pp0) j j pb0 j j j)<|q (oIAO j hx24 sF27 j j j j)<|q (oFA (r':=.mpe 0 0 0 _ 1) j fF49_1 j j)<|q (oFA (r':=.mpe 0 0 0 _ 1) j fF47_0 j j)<|q (oStE (v':=(⟨x24.Name,(⟨x23,x24.Veneer.Shade,x24.Veneer.Grain⟩:S_Veneer),x24.Area,x24.Priority,x24.Cost,x24.Minutes⟩:S_Loss)) tF9 j j j (fxI fx0) j j (rd_get hx24) j)<|nl)<|us<|gs<|g1 j j (mk [(0,H 0 0),(1,iv (w64 (k_1_l2+1))),(5,iv i_5_l2)] [(0,Oe [Z (W 8 e_S_Loss ((a_o0_l2.set i_5_l2.toNat (⟨x15,x16.Veneer,x16.Area,x16.Priority,x16.Cost,x16.Minutes⟩:S_Loss)).set i_5_l2.toNat (⟨x24.Name,(⟨x23,x24.Veneer.Shade,x24.Veneer.Grain⟩:S_Veneer),x24.Area,x24.Priority,x24.Cost,x24.Minutes⟩:S_Loss)))])]) (q (oMv j j)<|q (oBi j j j j)<|q (oAsI j j)<|nl)<|us<|gs<|?_
   obtain ⟨x32,hx32,h⟩:=bs h
   refine g0 j j (q (oMv j j)<|q (oMv j j)<|q (oMv j j)<|q (oIAO j hx32 sF27 j j j j)<|q (oFA (r':=.mpe 0 0 0 _ 1) j fF49_1 j j)<|q (oFA (r':=.mpe 0 0 0 _ 2) j fF47_1 j j)<|q (oStE (v':=(⟨x32.Name,(⟨x32.Veneer.Species,(w64 ((w64 (k_1_l2+1))+1)),x32.Veneer.Grain⟩:S_Veneer),x32.Area,x32.Priority,x32.Cost,x32.Minutes⟩:S_Loss)) tF2 j j j (fxI fx0) j j (rd_get hx32) j)<|nl)<|us<|gs<|g1 j j (mk [(0,H 0 0),(1,iv (w64 ((w64 (k_1_l2+1))+1))),(5,iv i_5_l2)] [(0,Oe [Z (W 8 e_S_Loss (((a_o0_l2.set i_5_l2.toNat (⟨x15,x16.Veneer,x16.Area,x16.Priority,x16.Cost,x16.Minutes⟩:S_Loss)).set i_5_l2.toNat (⟨x24.Name,(⟨x23,x24.Veneer.Shade,x24.Veneer.Grain⟩:S_Veneer),x24.Area,x24.Priority,x24.Cost,x24.Minutes⟩:S_Loss)).set i_5_l2.toNat (⟨x32.Name,(⟨x32.Veneer.Species,(w64 ((w64 (k_1_l2+1))+1)),x32.Veneer.Grain⟩:S_Veneer),x32.Area,x32.Priority,x32.Cost,x32.Minutes⟩:S_Loss)))])]) (q (oMv j j)<|q (oBi j j j j)<|q (oAsI j j)<|nl)<|us<|gs<|?_
   obtain ⟨x40,hx40,h⟩:=bs h
   refine g0 j j (q (oMv j j)<|q (oMv j j)<|q (oMv j j)<|q (oIAO j hx40 sF27 j j j j)<|q (oFA (r':=.mpe 0 0 0 _ 1) j fF49_1 j j)<|q (oFA (r':=.mpe 0 0 0 _ 3) j fF47_2 j j)<|q (oStE (v':=(⟨x40.Name,(⟨x40.Veneer.Species,x40.Veneer.Shade,(w64 ((w64 ((w64 (k_1_l2+1))+1))+1))⟩:S_Veneer),x40.Area,x40.Priority,x40.Cost,x40.Minutes⟩:S_Loss)) tF2 j j j (fxI fx0) j j (rd_get hx40) j)<|nl)<|us<|gs<|g1 j j (mk [(0,H 0 0),(1,iv (w64 ((w64 ((w64 (k_1_l2+1))+1))+1))),(5,iv i_5_l2)] [(0,Oe [Z (W 8 e_S_Loss ((((a_o0_l2.set i_5_l2.toNat (⟨x15,x16.Veneer,x16.Area,x16.Priority,x16.Cost,x16.Minutes⟩:S_Loss)).set i_5_l2.toNat (⟨x24.Name,(⟨x23,x24.Veneer.Shade,x24.Veneer.Grain⟩:S_Veneer),x24.Area,x24.Priority,x24.Cost,x24.Minutes⟩:S_Loss)).set i_5_l2.toNat (⟨x32.Name,(⟨x32.Veneer.Species,(w64 ((w64 (k_1_l2+1))+1)),x32.Veneer.Grain⟩:S_Veneer),x32.Area,x32.Priority,x32.Cost,x32.Minutes⟩:S_Loss)).set i_5_l2.toNat (⟨x40.Name,(⟨x40.Veneer.Species,x40.Veneer.Shade,(w64 ((w64 ((w64 (k_1_l2+1))+1))+1))⟩:S_Veneer),x40.Area,x40.Priority,x40.Cost,x40.Minutes⟩:S_Loss)))])]) (q (oMv j j)<|q (oBi j j j j)<|q (oAsI j j)<|nl)<|us<|gs<|?_
   obtain ⟨x48,hx48,h⟩:=bs h
   refine g0 j j (q (oMv j j)<|q (oMv j j)<|q (oMv j j)<|q (oIAO j hx48 sF27 j j j j)<|q (oFA (r':=.mpe 0 0 0 _ 4) j fF49_2 j j)<|q (oStE (v':=(⟨x48.Name,x48.Veneer,(w64 ((w64 ((w64 ((w64 (k_1_l2+1))+1))+1))+1)),x48.Priority,x48.Cost,x48.Minutes⟩:S_Loss)) tF2 j j j (fxI fx0) j j (rd_get hx48) j)<|nl)<|us<|gs<|g1 j j (mk [(0,H 0 0),(1,iv (w64 ((w64 ((w64 ((w64 (k_1_l2+1))+1))+1))+1))),(5,iv i_5_l2)] [(0,Oe [Z (W 8 e_S_Loss (((((a_o0_l2.set i_5_l2.toNat (⟨x15,x16.Veneer,x16.Area,x16.Priority,x16.Cost,x16.Minutes⟩:S_Loss)).set i_5_l2.toNat (⟨x24.Name,(⟨x23,x24.Veneer.Shade,x24.Veneer.Grain⟩:S_Veneer),x24.Area,x24.Priority,x24.Cost,x24.Minutes⟩:S_Loss)).set i_5_l2.toNat (⟨x32.Name,(⟨x32.Veneer.Species,(w64 ((w64 (k_1_l2+1))+1)),x32.Veneer.Grain⟩:S_Veneer),x32.Area,x32.Priority,x32.Cost,x32.Minutes⟩:S_Loss)).set i_5_l2.toNat (⟨x40.Name,(⟨x40.Veneer.Species,x40.Veneer.Shade,(w64 ((w64 ((w64 (k_1_l2+1))+1))+1))⟩:S_Veneer),x40.Area,x40.Priority,x40.Cost,x40.Minutes⟩:S_Loss)).set i_5_l2.toNat (⟨x48.Name,x48.Veneer,(w64 ((w64 ((w64 ((w64 (k_1_l2+1))+1))+1))+1)),x48.Priority,x48.Cost,x48.Minutes⟩:S_Loss)))])]) (q (oMv j j)<|q (oBi j j j j)<|q (oAsI j j)<|nl)<|us<|gs<|?_
   obtain ⟨x55,hx55,h⟩:=bs h
   refine g0 j j (q (oMv j j)<|q (oMv j j)<|q (oMv j j)<|q (oIAO j hx55 sF27 j j j j)<|q (oFA (r':=.mpe 0 0 0 _ 5) j fF49_3 j j)<|q (oStE (v':=(⟨x55.Name,x55.Veneer,x55.Area,(w64 ((w64 ((w64 ((w64 ((w64 (k_1_l2+1))+1))+1))+1))+1)),x55.Cost,x55.Minutes⟩:S_Loss)) tF2 j j j (fxI fx0) j j (rd_get hx55) j)<|nl)<|us<|gs<|g1 j j (mk [(0,H 0 0),(1,iv (w64 ((w64 ((w64 ((w64 ((w64 (k_1_l2+1))+1))+1))+1))+1))),(5,iv i_5_l2)] [(0,Oe [Z (W 8 e_S_Loss ((((((a_o0_l2.set i_5_l2.toNat (⟨x15,x16.Veneer,x16.Area,x16.Priority,x16.Cost,x16.Minutes⟩:S_Loss)).set i_5_l2.toNat (⟨x24.Name,(⟨x23,x24.Veneer.Shade,x24.Veneer.Grain⟩:S_Veneer),x24.Area,x24.Priority,x24.Cost,x24.Minutes⟩:S_Loss)).set i_5_l2.toNat (⟨x32.Name,(⟨x32.Veneer.Species,(w64 ((w64 (k_1_l2+1))+1)),x32.Veneer.Grain⟩:S_Veneer),x32.Area,x32.Priority,x32.Cost,x32.Minutes⟩:S_Loss)).set i_5_l2.toNat (⟨x40.Name,(⟨x40.Veneer.Species,x40.Veneer.Shade,(w64 ((w64 ((w64 (k_1_l2+1))+1))+1))⟩:S_Veneer),x40.Area,x40.Priority,x40.Cost,x40.Minutes⟩:S_Loss)).set i_5_l2.toNat (⟨x48.Name,x48.Veneer,(w64 ((w64 ((w64 ((w64 (k_1_l2+1))+1))+1))+1)),x48.Priority,x48.Cost,x48.Minutes⟩:S_Loss)).set i_5_l2.toNat (⟨x55.Name,x55.Veneer,x55.Area,(w64 ((w64 ((w64 ((w64 ((w64 (k_1_l2+1))+1))+1))+1))+1)),x55.Cost,x55.Minutes⟩:S_Loss)))])]) (q (oMv j j)<|q (oBi j j j j)<|q (oAsI j j)<|nl)<|us<|gs<|?_
   obtain ⟨x62,hx62,h⟩:=bs h
   refine g0 j j (q (oMv j j)<|q (oMv j j)<|q (oMv j j)<|q (oIAO j hx62 sF27 j j j j)<|q (oFA (r':=.mpe 0 0 0 _ 6) j fF49_4 j j)<|q (oStE (v':=(⟨x62.Name,x62.Veneer,x62.Area,x62.Priority,(w64 ((w64 ((w64 ((w64 ((w64 ((w64 (k_1_l2+1))+1))+1))+1))+1))+1)),x62.Minutes⟩:S_Loss)) tF2 j j j (fxI fx0) j j (rd_get hx62) j)<|nl)<|us<|gs<|g1 j j (mk [(0,H 0 0),(1,iv (w64 ((w64 ((w64 ((w64 ((w64 ((w64 (k_1_l2+1))+1))+1))+1))+1))+1))),(5,iv i_5_l2)] [(0,Oe [Z (W 8 e_S_Loss (((((((a_o0_l2.set i_5_l2.toNat (⟨x15,x16.Veneer,x16.Area,x16.Priority,x16.Cost,x16.Minutes⟩:S_Loss)).set i_5_l2.toNat (⟨x24.Name,(⟨x23,x24.Veneer.Shade,x24.Veneer.Grain⟩:S_Veneer),x24.Area,x24.Priority,x24.Cost,x24.Minutes⟩:S_Loss)).set i_5_l2.toNat (⟨x32.Name,(⟨x32.Veneer.Species,(w64 ((w64 (k_1_l2+1))+1)),x32.Veneer.Grain⟩:S_Veneer),x32.Area,x32.Priority,x32.Cost,x32.Minutes⟩:S_Loss)).set i_5_l2.toNat (⟨x40.Name,(⟨x40.Veneer.Species,x40.Veneer.Shade,(w64 ((w64 ((w64 (k_1_l2+1))+1))+1))⟩:S_Veneer),x40.Area,x40.Priority,x40.Cost,x40.Minutes⟩:S_Loss)).set i_5_l2.toNat (⟨x48.Name,x48.Veneer,(w64 ((w64 ((w64 ((w64 (k_1_l2+1))+1))+1))+1)),x48.Priority,x48.Cost,x48.Minutes⟩:S_Loss)).set i_5_l2.toNat (⟨x55.Name,x55.Veneer,x55.Area,(w64 ((w64 ((w64 ((w64 ((w64 (k_1_l2+1))+1))+1))+1))+1)),x55.Cost,x55.Minutes⟩:S_Loss)).set i_5_l2.toNat (⟨x62.Name,x62.Veneer,x62.Area,x62.Priority,(w64 ((w64 ((w64 ((w64 ((w64 ((w64 (k_1_l2+1))+1))+1))+1))+1))+1)),x62.Minutes⟩:S_Loss)))])]) (q (oMv j j)<|q (oBi j j j j)<|q (oAsI j j)<|nl)<|us<|gs<|?_
   obtain ⟨x69,hx69,h⟩:=bs h
   refine g0 j j (q (oMv j j)<|q (oMv j j)<|q (oMv j j)<|q (oIAO j hx69 sF27 j j j j)<|q (oFA (r':=.mpe 0 0 0 _ 7) j fF49_5 j j)<|q (oStE (v':=(⟨x69.Name,x69.Veneer,x69.Area,x69.Priority,x69.Cost,(w64 ((w64 ((w64 ((w64 ((w64 ((w64 ((w64 (k_1_l2+1))+1))+1))+1))+1))+1))+1))⟩:S_Loss)) tF2 j j j (fxI fx0) j j (rd_get hx69) j)<|nl)<|us<|g1 j j (mk [(0,H 0 0),(1,iv (w64 ((w64 ((w64 ((w64 ((w64 ((w64 ((w64 (k_1_l2+1))+1))+1))+1))+1))+1))+1))),(5,iv i_5_l2)] [(0,Oe [Z (W 8 e_S_Loss ((((((((a_o0_l2.set i_5_l2.toNat (⟨x15,x16.Veneer,x16.Area,x16.Priority,x16.Cost,x16.Minutes⟩:S_Loss)).set i_5_l2.toNat (⟨x24.Name,(⟨x23,x24.Veneer.Shade,x24.Veneer.Grain⟩:S_Veneer),x24.Area,x24.Priority,x24.Cost,x24.Minutes⟩:S_Loss)).set i_5_l2.toNat (⟨x32.Name,(⟨x32.Veneer.Species,(w64 ((w64 (k_1_l2+1))+1)),x32.Veneer.Grain⟩:S_Veneer),x32.Area,x32.Priority,x32.Cost,x32.Minutes⟩:S_Loss)).set i_5_l2.toNat (⟨x40.Name,(⟨x40.Veneer.Species,x40.Veneer.Shade,(w64 ((w64 ((w64 (k_1_l2+1))+1))+1))⟩:S_Veneer),x40.Area,x40.Priority,x40.Cost,x40.Minutes⟩:S_Loss)).set i_5_l2.toNat (⟨x48.Name,x48.Veneer,(w64 ((w64 ((w64 ((w64 (k_1_l2+1))+1))+1))+1)),x48.Priority,x48.Cost,x48.Minutes⟩:S_Loss)).set i_5_l2.toNat (⟨x55.Name,x55.Veneer,x55.Area,(w64 ((w64 ((w64 ((w64 ((w64 (k_1_l2+1))+1))+1))+1))+1)),x55.Cost,x55.Minutes⟩:S_Loss)).set i_5_l2.toNat (⟨x62.Name,x62.Veneer,x62.Area,x62.Priority,(w64 ((w64 ((w64 ((w64 ((w64 ((w64 (k_1_l2+1))+1))+1))+1))+1))+1)),x62.Minutes⟩:S_Loss)).set i_5_l2.toNat (⟨x69.Name,x69.Veneer,x69.Area,x69.Priority,x69.Cost,(w64 ((w64 ((w64 ((w64 ((w64 ((w64 ((w64 (k_1_l2+1))+1))+1))+1))+1))+1))+1))⟩:S_Loss)))])]) (q (oMv j j)<|q (oBi j j j j)<|q (oAsI j j)<|nl)<|Unw.blk<|us<|g0 j j (q (oMv j j)<|q (oBi j j j j)<|q (oAsI j j)<|nl)<|Unw.nil<|?_
   cases h
   exact ⟨j,(by kernel_rfl)⟩
  ·refine Go.exit<|ux<|Unw.nil<|?_
   cases h
   exact ⟨j,(by kernel_rfl)⟩
 ·rintro ⟨e,st⟩ hp
  obtain ⟨k_1_e0_2,a_o0_e0_2⟩:=o
  dsimp only at h
  obtain ⟨he,hst⟩:=hp
  obtain rfl:e= .exit 0:=he
  refine Unw.blkx<|us<|gs<|g2 c10 j j hst (q (oMv j j)<|q (oAsI j j)<|nl)<|us<|Go.ret (Unw.ret ?_)
  cases h
  exact fr rF10 j
theorem L_laws_markInt64S {a_0:(List Int)} {k_1:Int} {r:(Int×(List Int))} (h:laws_markInt64S a_0 k_1=some r):FX 11 [.ow 1 (List.map eI a_0),.im 2 false [I k_1]] ([(false,[.im 0 (I r.1)])],[.ow 1 (List.map eI r.2)]):=by
 unfold laws_markInt64S at h
 refine FL_goS (A:=[(0,H 0 0),(1,D 2 (I k_1))]) (B:=[(0,Oe [Z (W 1 eI a_0)]),(1,none)]) (nt:=19) rfl rfl Try.func11 rfl rfl rfl rfl ?_
 refine gs<|g0 j j (q (oAsI j j)<|nl)<|us<|gs<|gs<|g0 j j (q (oAsI j j)<|nl)<|us<|Go.block<|?_
 obtain ⟨o,hl,h⟩:=bs h
 refine gl c11 j _ (fun (s:(Int×Int×(List Int)))=>match s with | (k_1_l2,i_5_l2,a_o0_l2)=>mk [(0,H 0 0),(1,iv k_1_l2),(5,iv i_5_l2)] [(0,Oe [Z (W 1 eI a_o0_l2)])]) (fun (o:(Int×(List Int))) (p:Ex×St)=>match o with | (k_1_e0_2,a_o0_e0_2)=>p.1= .exit 0∧p.2.norm ([1],[0])=mk [(1,iv k_1_e0_2)] [(0,Oe [Z (W 1 eI a_o0_e0_2)])]) hl (by kernel_rfl) ?_ ?_ ?_
 ·intro o p hp e
  obtain ⟨k_1_e0_2,a_o0_e0_2⟩:=o
  exact nomatch (hp.1.symm.trans e)
 ·rintro ⟨k_1_l2,i_5_l2,a_o0_l2⟩ o h
  unfold laws_markInt64S_l2 at h
  dsimp only at h
  refine gs<|gs<|g0 j j (q (oMv j j)<|q (oMv j j)<|q (oLnO j j uF24 j j j (fun e=>nomatch e))<|q (oBi j j j j)<|nl)<|us<|gc h j iDec (fun hc3 h=>?_) fun hc3 h=>?_
  ·refine Go.skip<|us<|gs<|Go.block<|gs<|?_
   obtain ⟨x15,hx15,h⟩:=bs h
   refine g0 j j (q (oMv j j)<|q (oMv j j)<|q (oMv j j)<|q (oIAO j hx15 sF24 j j j j)<|q (oStE (v':=k_1_l2) tF2 j j j (fxI fx0) j j (rd_get hx15) j)<|nl)<|us<|g1 j j (mk [(0,H 0 0),(1,iv k_1_l2),(5,iv i_5_l2)] [(0,Oe [Z (W 1 eI (a_o0_l2.set i_5_l2.toNat k_1_l2))])]) (q (oMv j j)<|q (oBi j j j j)<|q (oAsI j j)<|nl)<|Unw.blk<|us<|g0 j j (q (oMv j j)<|q (oBi j j j j)<|q (oAsI j j)<|nl)<|Unw.nil<|?_
   cases h
   exact ⟨j,(by kernel_rfl)⟩
  ·refine Go.exit<|ux<|Unw.nil<|?_
   cases h
   exact ⟨j,(by kernel_rfl)⟩
 ·rintro ⟨e,st⟩ hp
  obtain ⟨k_1_e0_2,a_o0_e0_2⟩:=o
  dsimp only at h
  obtain ⟨he,hst⟩:=hp
  obtain rfl:e= .exit 0:=he
  refine Unw.blkx<|us<|gs<|g2 c11 j j hst (q (oMv j j)<|q (oAsI j j)<|nl)<|us<|Go.ret (Unw.ret ?_)
  cases h
  exact fr rF11 j
theorem L_laws_heldInt64S {a_0:(List Int)} {k_1:Int} {r:Int} (h:laws_heldInt64S a_0 k_1=some r):FX 12 [.im 2 false [W 1 eI a_0],.im 2 false [I k_1]] (B0 [(false,[.im 0 (I r)])]):=by
 unfold laws_heldInt64S at h
 refine gn 21 Try.func12 rfl ?_
 refine gs<|g0 j j (q (oAsI j j)<|nl)<|us<|gs<|gs<|g0 j j (q (oAsI j j)<|nl)<|us<|Go.block<|?_
 obtain ⟨o,hl,h⟩:=bs h
 refine gl c12 j _ (fun (s:(Int×Int))=>match s with | (k_1_l2,i_5_l2)=>mk [(0,D 2 (W 1 eI a_0)),(1,iv k_1_l2),(5,iv i_5_l2)] []) (fun (o:(Int ⊕ Int)) (p:Ex×St)=>match o with | (.inl k_1_e0_2)=>p.1= .exit 0∧p.2.norm ([1],[])=mk [(1,iv k_1_e0_2)] [] | (.inr r2)=>p.1= .ret∧fin Try.prog cfg 12 Try.f12 [.im 2 false [W 1 eI a_0],.im 2 false [I k_1]] p.2=some (B0 [(false,[.im 0 (I r2)])])) hl (by kernel_rfl) ?_ ?_ ?_
 ·intro o p hp e
  rcases o with k_1_e0_2 | r2<;>exact nomatch (hp.1.symm.trans e)
 ·rintro ⟨k_1_l2,i_5_l2⟩ o h
  unfold laws_heldInt64S_l2 at h
  dsimp only at h
  refine gs<|gs<|g0 j j (q (oMv j j)<|q (oMv j j)<|q (oLnI j j uF24 j)<|q (oBi j j j j)<|nl)<|us<|gc h j iDec (fun hc5 h=>?_) fun hc5 h=>?_
  ·refine Go.skip<|us<|gs<|Go.block<|gs<|gs<|?_
   obtain ⟨x14,hx14,h⟩:=bs h
   refine g0 j j (q (oMv j j)<|q (oMv j j)<|q (oIAI j hx14 sF24 j j)<|q (oLd (cs:=[.im 2 _]) j tF2 j j)<|q (oMv j j)<|q (oBi j j j j)<|nl)<|us<|gc h j iNe (fun hc6 h=>?_) fun hc6 h=>?_
   ·refine gs<|g0 j j (q (oAsI j j)<|nl)<|us<|Go.ret (Unw.ret ?_)
    cases h
    exact ⟨j,(fo rF12 j)⟩
   ·refine Go.skip<|us<|g0 j j (q (oMv j j)<|q (oBi j j j j)<|q (oAsI j j)<|nl)<|Unw.blk<|us<|g0 j j (q (oMv j j)<|q (oBi j j j j)<|q (oAsI j j)<|nl)<|Unw.nil<|?_
    cases h
    exact ⟨j,(by kernel_rfl)⟩
  ·refine Go.exit<|ux<|Unw.nil<|?_
   cases h
   exact ⟨j,(by kernel_rfl)⟩
 ·rintro ⟨e,st⟩ hp
  rcases o with k_1_e0_2 | r2
  ·dsimp only at h
   obtain ⟨he,hst⟩:=hp
   obtain rfl:e= .exit 0:=he
   refine Unw.blkx<|us<|gs<|g2 c12 j j hst (q (oMv j j)<|q (oAsI j j)<|nl)<|us<|Go.ret (Unw.ret ?_)
   cases h
   exact fr rF12 j
  ·dsimp only at h
   obtain ⟨he,hfin⟩:=hp
   obtain rfl:e= .ret:=he
   cases h
   exact Unw.ret (Fin_ret hfin)
theorem L_laws_FnExactBestRepairs {aList_0:(List S_Loss)} {aMoney_1:Int} {aMinutes_2:Int} {aBudget_3:Int} {r:Bool} (h:laws_FnExactBestRepairs aList_0 aMoney_1 aMinutes_2 aBudget_3=some r):FX 3 [.im 2 false [W 8 e_S_Loss aList_0],.im 2 false [I aMoney_1],.im 2 false [I aMinutes_2],.im 2 false [I aBudget_3]] (B0 [(false,[.im 0 (V r)])]):=by
 unfold laws_FnExactBestRepairs at h
 refine gn 132 Try.func3 rfl ?_
 refine gs<|g0 j j (q (oAsI j j)<|nl)<|us<|gs<|g0 j j (q (oAsI j j)<|nl)<|us<|gs<|?_
 obtain ⟨x25,hx25,h⟩:=bs h
 refine g0 j j (q (oMv j j)<|q (oMv j j)<|q (oCa (xs:=[.v false [.im 2 _],.v false [.im 0 _]]) (vs:=[(false,[.im 0 _])]) (v:=.v false [.im 0 _]) (L_laws_szLossS hx25) (.inl j) j kF4_22_3 j (ppC j (ppC j pp0)) j j pb0 j j j)<|q (oAsI j j)<|nl)<|us<|gs<|gs<|g0 j j (q (oMv j j)<|q (oBi j j j j)<|nl)<|us<|gc h j iDec (fun hc1 h=>?_) fun hc1 h=>?_
 ·refine gs<|g0 j j (q (oAsI j j)<|nl)<|us<|Go.ret (Unw.ret ?_)
  cases h
  exact fr rF3 j
 ·refine Go.skip<|us<|gs<|?_
  obtain ⟨x30,hx30,h⟩:=bs h
  obtain ⟨x34,hx34,h⟩:=bs h
  refine g0 j j (q (oMv j j)<|q (oCr (xs:=[.v false [.im 2 _]]) (vs:=[(false,[.own 30 0 0])]) (v:=.v false [.own 30 0 0]) (c:=⟨.sh,0,_⟩) (cs:=[]) (L_laws_toLossS hx30) (.inl j) j kF6_22 j (ppC j pp0) j j pb0 j j j)<|q (oMv j j)<|q (oMv j j)<|q (oMv j j)<|q (oCr (xs:=[.v false [.own 30 0 0],.v false [.im 2 _],.v false [.im 2 _],.v false [.im 2 _]]) (vs:=[(false,[.own 34 0 0]),(false,[.im 0 _]),(false,[.im 0 _])]) (v:=.tup [(false,[.own 34 0 0]),(false,[.im 0 _]),(false,[.im 0 _])]) (c:=⟨.sh,0,_⟩) (cs:=[]) (L_spec_BestRepairs hx34) (.inl j) j kF5_27_2_2_2 j (ppC j (ppC j (ppC j (ppC j pp0)))) j j pb0 j j j)<|q (oMvT j j)<|q (oEx j j j)<|q (oEx j j j)<|q (oEx j j j)<|q (oAsO j j j j j)<|q (oAsI j j)<|q (oAsI j j)<|nl)<|us<|gs<|?_
  obtain ⟨x39,hx39,h⟩:=bs h
  refine g0 j j (q (oMv j j)<|q (oCr (xs:=[.v false [.im 2 _]]) (vs:=[(false,[.own 39 0 0])]) (v:=.v false [.own 39 0 0]) (c:=⟨.sh,0,_⟩) (cs:=[]) (L_laws_toLossS hx39) (.inl j) j kF6_22 j (ppC j pp0) j j pb0 j j j)<|q (oAsO j j j j j)<|nl)<|us<|gs<|?_
  obtain ⟨x45,hx45,h⟩:=bs h
  refine g0 j j (q (oMv j j)<|q (oMv j j)<|q (oMv j j)<|q (oMv j j)<|q (oCG (xs:=[.v false [.own 13 0 0],.v false [.im 2 _],.v false [.im 2 _],.v false [.im 2 _]]) (vs:=[(false,[.own 45 0 0]),(false,[.im 0 _]),(false,[.im 0 _])]) (v:=.tup [(false,[.own 45 0 0]),(false,[.im 0 _]),(false,[.im 0 _])]) (c:=⟨.sh,0,_⟩) (cs:=[]) (L_impl_BestRepairs hx45) (.inl j) j kF7_27_2_2_2 j (ppC j (ppC j (ppC j (ppC j pp0)))) j j (uz3 fun _=>j) j j j)<|q (oMvT j j)<|q (oEx j j j)<|q (oEx j j j)<|q (oEx j j j)<|q (oAsO j j j j j)<|q (oAsI j j)<|q (oAsI j j)<|nl)<|us<|gs<|gs<|?_
  obtain ⟨x51,hx51,h⟩:=bs h
  refine gX c3 j j j (mk [(0,D 2 (W 8 e_S_Loss aList_0)),(1,iv aMoney_1),(2,iv aMinutes_2),(3,iv aBudget_3),(10,H 10 0),(11,iv x34.2.1),(12,iv x34.2.2),(13,H 13 0),(14,H 14 0),(15,iv x45.2.1),(16,iv x45.2.2),(62,bv ((!x51)||((x45.2.1 != x34.2.1)||(x45.2.2 != x34.2.2))))] [(10,Oc [Z (W 1 eI x34.1)]),(13,Oc [Z (W 8 e_S_Loss x39)]),(14,Oc [Z (W 1 eI x45.1)])]) ?_ ?_
  ·refine xq (oMv j j)<|xq (oMv j j)<|xq (oCa (xs:=[.v false [.own 14 0 0],.v false [.own 10 0 0]]) (vs:=[(false,[.im 0 _])]) (v:=.v false [.im 0 _]) (L_laws_eqInt64S hx51) (.inl j) j kF8_24_24 j (ppC j (ppC j pp0)) j j pb0 j j j)<|xq (oUn j j j)<|xq (oMv j j)<|?_
   by_cases hc2:x51=true
   ·refine xqT j j (nF (iR.2 hc2)) (oMv j j)<|xqT j j (nF (iR.2 hc2)) (oMv j j)<|xqT j j (nF (iR.2 hc2)) (oBi j j j j)<|xq (oPkF j j (nF (iR.2 hc2)) j)<|xq (oMv j j)<|?_
    by_cases hc3:x45.2.1≠x34.2.1
    ·exact xsgF rfl rfl (iNe.2 hc3) rfl<|xsgF rfl rfl (iNe.2 hc3) rfl<|xsgF rfl rfl (iNe.2 hc3) rfl<|xq (oPkT rfl rfl (iNe.2 hc3) rfl)<|xn (Eq.trans (b:=(fun t_62_m8:Bool=>mk [(0,D 2 (W 8 e_S_Loss aList_0)),(1,iv aMoney_1),(2,iv aMinutes_2),(3,iv aBudget_3),(10,H 10 0),(11,iv x34.2.1),(12,iv x34.2.2),(13,H 13 0),(14,H 14 0),(15,iv x45.2.1),(16,iv x45.2.2),(62,bv t_62_m8)] [(10,Oc [Z (W 1 eI x34.1)]),(13,Oc [Z (W 8 e_S_Loss x39)]),(14,Oc [Z (W 1 eI x45.1)])]) true) (by kernel_rfl) (congrArg (fun t_62_m8:Bool=>mk [(0,D 2 (W 8 e_S_Loss aList_0)),(1,iv aMoney_1),(2,iv aMinutes_2),(3,iv aBudget_3),(10,H 10 0),(11,iv x34.2.1),(12,iv x34.2.2),(13,H 13 0),(14,H 14 0),(15,iv x45.2.1),(16,iv x45.2.2),(62,bv t_62_m8)] [(10,Oc [Z (W 1 eI x34.1)]),(13,Oc [Z (W 8 e_S_Loss x39)]),(14,Oc [Z (W 1 eI x45.1)])]) (by first | rfl | (simp [(iR.2 hc2),(iNe.2 hc3)];done) | (simp [(iR.2 hc2),(iNe.2 hc3)];omega) | (have q0:=(iR.2 hc2);have q1:=(iNe.2 hc3);simp_all))))
    ·exact xqT rfl rfl (byF iNe hc3) (oMv rfl rfl)<|xqT rfl rfl (byF iNe hc3) (oMv rfl rfl)<|xqT rfl rfl (byF iNe hc3) (oBi rfl rfl rfl rfl)<|xq (oPkF rfl rfl (byF iNe hc3) rfl)<|xn (Eq.trans (b:=(fun t_62_m8:Bool=>mk [(0,D 2 (W 8 e_S_Loss aList_0)),(1,iv aMoney_1),(2,iv aMinutes_2),(3,iv aBudget_3),(10,H 10 0),(11,iv x34.2.1),(12,iv x34.2.2),(13,H 13 0),(14,H 14 0),(15,iv x45.2.1),(16,iv x45.2.2),(62,bv t_62_m8)] [(10,Oc [Z (W 1 eI x34.1)]),(13,Oc [Z (W 8 e_S_Loss x39)]),(14,Oc [Z (W 1 eI x45.1)])]) (x45.2.2 != x34.2.2)) (by kernel_rfl) (congrArg (fun t_62_m8:Bool=>mk [(0,D 2 (W 8 e_S_Loss aList_0)),(1,iv aMoney_1),(2,iv aMinutes_2),(3,iv aBudget_3),(10,H 10 0),(11,iv x34.2.1),(12,iv x34.2.2),(13,H 13 0),(14,H 14 0),(15,iv x45.2.1),(16,iv x45.2.2),(62,bv t_62_m8)] [(10,Oc [Z (W 1 eI x34.1)]),(13,Oc [Z (W 8 e_S_Loss x39)]),(14,Oc [Z (W 1 eI x45.1)])]) (by first | rfl | (simp [(iR.2 hc2),(byF iNe hc3)];done) | (simp [(iR.2 hc2),(byF iNe hc3)];omega) | (have q0:=(iR.2 hc2);have q1:=(byF iNe hc3);simp_all))))
   ·exact xsgF rfl rfl (nT (byF iR hc2)) rfl<|xsgF rfl rfl (nT (byF iR hc2)) rfl<|xsgF rfl rfl (nT (byF iR hc2)) rfl<|xq (oPkT rfl rfl (nT (byF iR hc2)) rfl)<|xq (oMv rfl rfl)<|xsgF rfl rfl rfl rfl<|xsgF rfl rfl rfl rfl<|xsgF rfl rfl rfl rfl<|xq (oPkT rfl rfl rfl rfl)<|xn (Eq.trans (b:=(fun t_62_m8:Bool=>mk [(0,D 2 (W 8 e_S_Loss aList_0)),(1,iv aMoney_1),(2,iv aMinutes_2),(3,iv aBudget_3),(10,H 10 0),(11,iv x34.2.1),(12,iv x34.2.2),(13,H 13 0),(14,H 14 0),(15,iv x45.2.1),(16,iv x45.2.2),(62,bv t_62_m8)] [(10,Oc [Z (W 1 eI x34.1)]),(13,Oc [Z (W 8 e_S_Loss x39)]),(14,Oc [Z (W 1 eI x45.1)])]) true) (by kernel_rfl) (congrArg (fun t_62_m8:Bool=>mk [(0,D 2 (W 8 e_S_Loss aList_0)),(1,iv aMoney_1),(2,iv aMinutes_2),(3,iv aBudget_3),(10,H 10 0),(11,iv x34.2.1),(12,iv x34.2.2),(13,H 13 0),(14,H 14 0),(15,iv x45.2.1),(16,iv x45.2.2),(62,bv t_62_m8)] [(10,Oc [Z (W 1 eI x34.1)]),(13,Oc [Z (W 8 e_S_Loss x39)]),(14,Oc [Z (W 1 eI x45.1)])]) (by first | rfl | (simp [(byF iR hc2)];done) | (simp [(byF iR hc2)];omega))))
  ·refine us<|gc h j (iOr (iNot iR) (iOr iNe iNe)) (fun hc4 h=>?_) fun hc4 h=>?_
   ·refine gs<|g0 j j (q (oAsI j j)<|nl)<|us<|Go.ret (Unw.ret ?_)
    cases h
    exact fr rF3 j
   ·refine Go.skip<|us<|gs<|gs<|?_
    obtain ⟨x65,hx65,h⟩:=bs h
    obtain ⟨x66,hx66,h⟩:=bs h
    refine g0 j j (q (oMv j j)<|q (oMv j j)<|q (oCr (xs:=[.v false [.im 2 _]]) (vs:=[(false,[.own 65 0 0])]) (v:=.v false [.own 65 0 0]) (c:=⟨.sh,0,_⟩) (cs:=[]) (L_laws_toLossS hx65) (.inl j) j kF6_22 j (ppC j pp0) j j pb0 j j j)<|q (oCa (xs:=[.v false [.own 13 0 0],.v false [.own 65 0 0]]) (vs:=[(false,[.im 0 _])]) (v:=.v false [.im 0 _]) (L_laws_eqLossS hx66) (.inl j) j kF9_27_27 j (ppC j (ppC j pp0)) j j pb0 j j j)<|q (oUn j j j)<|nl)<|us<|?_
    by_cases hc5:x66=true
    ·rw [if_pos hc5] at h
     refine gF j (nF (iR.2 hc5))<|Go.skip<|us<|gs<|g0 j j (q (oAsI j j)<|nl)<|us<|gs<|?_
     obtain ⟨x70,hx70,h⟩:=bs h
     refine g0 j j (q (oMv j j)<|q (oMv j j)<|q (oCa (xs:=[.v false [.own 13 0 0],.v false [.im 0 _]]) (vs:=[(false,[.im 0 _])]) (v:=.v false [.im 0 _]) (L_laws_markLossS hx70) (.inl j) j kF10_27_3 j (ppC j (ppC j pp0)) j j (pbO j j j j pb0) j j j)<|q (oAsI j j)<|nl)<|us<|gs<|gs<|?_
     obtain ⟨t_88_m14,hm17,h⟩:=bs h
     refine gX c3 j j (st1:=mk [(0,D 2 (W 8 e_S_Loss aList_0)),(1,iv aMoney_1),(2,iv aMinutes_2),(3,iv aBudget_3),(10,H 10 0),(11,iv x34.2.1),(12,iv x34.2.2),(14,H 14 0),(15,iv x45.2.1),(16,iv x45.2.2),(17,iv x70.1)] [(10,Oc [Z (W 1 eI x34.1)]),(14,Oc [Z (W 1 eI x45.1)])]) (by kernel_rfl) (mk [(0,D 2 (W 8 e_S_Loss aList_0)),(1,iv aMoney_1),(2,iv aMinutes_2),(3,iv aBudget_3),(10,H 10 0),(11,iv x34.2.1),(12,iv x34.2.2),(14,H 14 0),(88,bv t_88_m14)] [(10,Oc [Z (W 1 eI x34.1)]),(14,Oc [Z (W 1 eI x45.1)])]) ?_ ?_
     ·refine xq (oMv j j)<|xq (oBi j j j j)<|xq (oMv j j)<|?_
      refine ic hm17 (fun hc6 hm17=>?_) fun hc6 hm17=>?_
      ·cases hm17
       exact xsgF j j (iDec.2 hc6) j<|xsgF j j (iDec.2 hc6) j<|xsgF j j (iDec.2 hc6) j<|xsgF j j (iDec.2 hc6) j<|xq (oPkT j j (iDec.2 hc6) j)<|xq (oMv j j)<|xsgF j j j j<|xsgF j j j j<|xsgF j j j j<|xq (oPkT j j j j)<|xq (oMv j j)<|xsgF j j j j<|xsgF j j j j<|xsgF j j j j<|xq (oPkT j j j j)<|xn
      ·obtain ⟨x76,hx76,hm17⟩:=bs hm17
       refine xqT j j (byF iDec hc6) (oMv j j)<|xqT j j (byF iDec hc6) (oMv j j)<|xqT j j (byF iDec hc6) (oCa (xs:=[.v false [.own 14 0 0],.v false [.own 10 0 0]]) (vs:=[(false,[.im 0 _])]) (v:=.v false [.im 0 _]) (L_laws_eqInt64S hx76) (.inl j) j kF8_24_24 j (ppC j (ppC j pp0)) j j pb0 j j j)<|xqT j j (byF iDec hc6) (oUn j j j)<|xq (oPkF j j (byF iDec hc6) j)<|xq (oMv j j)<|?_
       refine ic hm17 (fun hc7 hm17=>?_) fun hc7 hm17=>?_
       ·refine xqT j j (nF (iR.2 hc7)) (oMv j j)<|xqT j j (nF (iR.2 hc7)) (oMv j j)<|xqT j j (nF (iR.2 hc7)) (oBi j j j j)<|xq (oPkF j j (nF (iR.2 hc7)) j)<|xq (oMv j j)<|?_
        refine ic hm17 (fun hc8 hm17=>?_) fun hc8 hm17=>?_
        ·cases hm17
         exact xsgF j j (iNe.2 hc8) j<|xsgF j j (iNe.2 hc8) j<|xsgF j j (iNe.2 hc8) j<|xq (oPkT j j (iNe.2 hc8) j)<|xn
        ·cases hm17
         exact xqT j j (byF iNe hc8) (oMv j j)<|xqT j j (byF iNe hc8) (oMv j j)<|xqT j j (byF iNe hc8) (oBi j j j j)<|xq (oPkF j j (byF iNe hc8) j)<|xn
       ·cases hm17
        exact xsgF j j (nT (byF iR hc7)) j<|xsgF j j (nT (byF iR hc7)) j<|xsgF j j (nT (byF iR hc7)) j<|xq (oPkT j j (nT (byF iR hc7)) j)<|xq (oMv j j)<|xsgF j j j j<|xsgF j j j j<|xsgF j j j j<|xq (oPkT j j j j)<|xn
     ·refine us<|gc h j iR (fun hc9 h=>?_) fun hc9 h=>?_
      ·refine gs<|g0 j j (q (oAsI j j)<|nl)<|us<|Go.ret (Unw.ret ?_)
       cases h
       exact fr rF3 j
      ·refine Go.skip<|us<|gs<|g0 j j (q (oAsI j j)<|nl)<|us<|gs<|?_
       obtain ⟨x91,hx91,h⟩:=bs h
       refine g0 j j (q (oMv j j)<|q (oMv j j)<|q (oCa (xs:=[.v false [.own 14 0 0],.v false [.im 0 _]]) (vs:=[(false,[.im 0 _])]) (v:=.v false [.im 0 _]) (L_laws_markInt64S hx91) (.inl j) j kF11_24_3 j (ppC j (ppC j pp0)) j j (pbO j j j j pb0) j j j)<|q (oAsI j j)<|nl)<|us<|gs<|g1 j j (mk [(0,D 2 (W 8 e_S_Loss aList_0)),(1,iv aMoney_1),(2,iv aMinutes_2),(3,iv aBudget_3),(10,H 10 0),(11,iv x34.2.1),(12,iv x34.2.2),(14,H 14 0),(18,iv x91.1)] [(10,Oc [Z (W 1 eI x34.1)]),(14,Oc [Z (W 1 eI x91.2)])]) (q (oAsI j j)<|nl)<|us<|gs<|?_
       obtain ⟨x94,hx94,h⟩:=bs h
       refine g0 j j (q (oMv j j)<|q (oMv j j)<|q (oCa (xs:=[.v false [.own 14 0 0],.v false [.im 0 _]]) (vs:=[(false,[.im 0 _])]) (v:=.v false [.im 0 _]) (L_laws_heldInt64S hx94) (.inl j) j kF12_24_3 j (ppC j (ppC j pp0)) j j pb0 j j j)<|q (oAsI j j)<|nl)<|us<|gs<|gs<|g0 j j (q (oMv j j)<|q (oBi j j j j)<|nl)<|us<|gc h j iDec (fun hc10 h=>?_) fun hc10 h=>?_
       ·refine gs<|g0 j j (q (oAsI j j)<|nl)<|us<|Go.ret (Unw.ret ?_)
        cases h
        exact fr rF3 j
       ·refine Go.skip<|us<|gs<|gs<|g0 j j (q (oMv j j)<|q (oMv j j)<|q (oBi j j j j)<|nl)<|us<|gc h j iNe (fun hc11 h=>?_) fun hc11 h=>?_
        ·refine gs<|g0 j j (q (oAsI j j)<|nl)<|us<|Go.ret (Unw.ret ?_)
         cases h
         exact fr rF3 j
        ·refine Go.skip<|us<|gs<|?_
         obtain ⟨x102,hx102,h⟩:=bs h
         obtain ⟨x106,hx106,h⟩:=bs h
         refine g0 j j (q (oMv j j)<|q (oCr (xs:=[.v false [.im 2 _]]) (vs:=[(false,[.own 102 0 0])]) (v:=.v false [.own 102 0 0]) (c:=⟨.sh,0,_⟩) (cs:=[]) (L_laws_toLossS hx102) (.inl j) j kF6_22 j (ppC j pp0) j j pb0 j j j)<|q (oMv j j)<|q (oMv j j)<|q (oMv j j)<|q (oCa (xs:=[.v false [.own 102 0 0],.v false [.im 0 _],.v false [.im 0 _],.v false [.im 0 _]]) (vs:=[(false,[.im 0 _]),(false,[.im 0 _]),(false,[.im 0 _])]) (v:=.tup [(false,[.im 0 _]),(false,[.im 0 _]),(false,[.im 0 _])]) (L_impl_BestRepairs hx106) (.inl j) j kF7_27_2_2_2 j (ppC j (ppC j (ppC j (ppC j pp0)))) j j pb0 j j j)<|q (oMvT j j)<|q (oEx j j j)<|q (oEx j j j)<|q (oEx j j j)<|q (oAsI j j)<|q (oAsI j j)<|q (oAsI j j)<|nl)<|us<|gs<|gs<|?_
         obtain ⟨x112,hx112,h⟩:=bs h
         refine gX c3 j j j (mk [(14,H 14 0),(18,iv x91.1),(123,bv ((!x112)||((x106.2.1 != x34.2.1)||(x106.2.2 != x34.2.2))))] [(14,Oc [Z (W 1 eI x91.2)])]) ?_ ?_
         ·refine xq (oMv j j)<|xq (oMv j j)<|xq (oCa (xs:=[.v false [.im 0 _],.v false [.own 10 0 0]]) (vs:=[(false,[.im 0 _])]) (v:=.v false [.im 0 _]) (L_laws_eqInt64S hx112) (.inl j) j kF8_24_24 j (ppC j (ppC j pp0)) j j pb0 j j j)<|xq (oUn j j j)<|xq (oMv j j)<|?_
          by_cases hc12:x112=true
          ·refine xqT j j (nF (iR.2 hc12)) (oMv j j)<|xqT j j (nF (iR.2 hc12)) (oMv j j)<|xqT j j (nF (iR.2 hc12)) (oBi j j j j)<|xq (oPkF j j (nF (iR.2 hc12)) j)<|xq (oMv j j)<|?_
           by_cases hc13:x106.2.1≠x34.2.1
           ·exact xsgF rfl rfl (iNe.2 hc13) rfl<|xsgF rfl rfl (iNe.2 hc13) rfl<|xsgF rfl rfl (iNe.2 hc13) rfl<|xq (oPkT rfl rfl (iNe.2 hc13) rfl)<|xn (Eq.trans (b:=(fun t_123_m25:Bool=>mk [(14,H 14 0),(18,iv x91.1),(123,bv t_123_m25)] [(14,Oc [Z (W 1 eI x91.2)])]) true) (by kernel_rfl) (congrArg (fun t_123_m25:Bool=>mk [(14,H 14 0),(18,iv x91.1),(123,bv t_123_m25)] [(14,Oc [Z (W 1 eI x91.2)])]) (by first | rfl | (simp [(iR.2 hc12),(iNe.2 hc13)];done) | (simp [(iR.2 hc12),(iNe.2 hc13)];omega) | (have q0:=(iR.2 hc12);have q1:=(iNe.2 hc13);simp_all))))
           ·exact xqT rfl rfl (byF iNe hc13) (oMv rfl rfl)<|xqT rfl rfl (byF iNe hc13) (oMv rfl rfl)<|xqT rfl rfl (byF iNe hc13) (oBi rfl rfl rfl rfl)<|xq (oPkF rfl rfl (byF iNe hc13) rfl)<|xn (Eq.trans (b:=(fun t_123_m25:Bool=>mk [(14,H 14 0),(18,iv x91.1),(123,bv t_123_m25)] [(14,Oc [Z (W 1 eI x91.2)])]) (x106.2.2 != x34.2.2)) (by kernel_rfl) (congrArg (fun t_123_m25:Bool=>mk [(14,H 14 0),(18,iv x91.1),(123,bv t_123_m25)] [(14,Oc [Z (W 1 eI x91.2)])]) (by first | rfl | (simp [(iR.2 hc12),(byF iNe hc13)];done) | (simp [(iR.2 hc12),(byF iNe hc13)];omega) | (have q0:=(iR.2 hc12);have q1:=(byF iNe hc13);simp_all))))
          ·exact xsgF rfl rfl (nT (byF iR hc12)) rfl<|xsgF rfl rfl (nT (byF iR hc12)) rfl<|xsgF rfl rfl (nT (byF iR hc12)) rfl<|xq (oPkT rfl rfl (nT (byF iR hc12)) rfl)<|xq (oMv rfl rfl)<|xsgF rfl rfl rfl rfl<|xsgF rfl rfl rfl rfl<|xsgF rfl rfl rfl rfl<|xq (oPkT rfl rfl rfl rfl)<|xn (Eq.trans (b:=(fun t_123_m25:Bool=>mk [(14,H 14 0),(18,iv x91.1),(123,bv t_123_m25)] [(14,Oc [Z (W 1 eI x91.2)])]) true) (by kernel_rfl) (congrArg (fun t_123_m25:Bool=>mk [(14,H 14 0),(18,iv x91.1),(123,bv t_123_m25)] [(14,Oc [Z (W 1 eI x91.2)])]) (by first | rfl | (simp [(byF iR hc12)];done) | (simp [(byF iR hc12)];omega))))
         ·refine us<|gc h j (iOr (iNot iR) (iOr iNe iNe)) (fun hc14 h=>?_) fun hc14 h=>?_
          ·refine gs<|g0 j j (q (oAsI j j)<|nl)<|us<|Go.ret (Unw.ret ?_)
           cases h
           exact fr rF3 j
          ·refine Go.skip<|us<|gs<|g0 j j (q (oAsI j j)<|nl)<|us<|gs<|?_
           obtain ⟨x126,hx126,h⟩:=bs h
           refine g0 j j (q (oMv j j)<|q (oMv j j)<|q (oCa (xs:=[.v false [.own 14 0 0],.v false [.im 0 _]]) (vs:=[(false,[.im 0 _])]) (v:=.v false [.im 0 _]) (L_laws_heldInt64S hx126) (.inl j) j kF12_24_3 j (ppC j (ppC j pp0)) j j pb0 j j j)<|q (oAsI j j)<|nl)<|us<|gs<|gs<|g0 j j (q (oMv j j)<|q (oBi j j j j)<|nl)<|us<|gc h j iDec (fun hc15 h=>?_) fun hc15 h=>?_
           ·refine gs<|g0 j j (q (oAsI j j)<|nl)<|us<|Go.ret (Unw.ret ?_)
            cases h
            exact fr rF3 j
           ·refine Go.skip<|us<|gs<|gs<|g0 j j (q (oMv j j)<|q (oMv j j)<|q (oBi j j j j)<|nl)<|us<|gc h j iNe (fun hc16 h=>?_) fun hc16 h=>?_
            ·refine gs<|g0 j j (q (oAsI j j)<|nl)<|us<|Go.ret (Unw.ret ?_)
             cases h
             exact fr rF3 j
            ·refine Go.skip<|us<|gs<|g0 j j (q (oAsI j j)<|nl)<|us<|Go.ret (Unw.ret ?_)
             cases h
             exact fr rF3 j
    ·rw [if_neg hc5] at h
     refine gT j (nT (byF iR hc5))<|gs<|g0 j j (q (oAsI j j)<|nl)<|us<|Go.ret (Unw.ret ?_)
     cases h
     exact fr rF3 j
end
end Go.Proofs.Ytcmnbcaeibcceaa
