/- The machine answers, at each function of the program that is reached, what its plain function answers. Conditions: none. -/
import Derived.Test.YthdegfgajfgggaaDoorProg
import Derived.KernelRfl
import Derived.Test.YthdegfgajfgggaaDoorSimRs
import Derived.Test.YthdegfgajfgggaaDoorSimRu
import Derived.Test.YthdegfgajfgggaaDoorTrmT
namespace Go.Proofs.YthdegfgajfgggaaDoor
open Go Go.Sim Go.Pw Go.Proofs
set_option linter.unusedVariables false
set_option linter.unusedSimpArgs false
set_option maxRecDepth 100000
set_option maxHeartbeats 4000000
noncomputable section
noncomputable abbrev u_S_Room (x:S_Room):List AV:=[I x.Width,I x.Length]
noncomputable abbrev u_S_Stock (x:S_Stock):List AV:=[I x.Board,I x.Wide,I x.Least,I x.Stagger]
noncomputable abbrev u_S_l00Src (x:S_l00Src):List AV:=[W 1 (eK .u8) x.code,I x.at_,.sc (.int .u64 x.seed)]
noncomputable abbrev u_S_row (x:S_row):List AV:=[W 1 eI x.pieces,W 1 eI x.joints,I x.last]
noncomputable def fc5:FCfg:={par:=[.cst false,.cst false],inn:=[(4,some ([1,5,6,7],[5,6])),(16,some ([1,5],[5])),(17,some ([5,13,14,15,16],[5,13,14])),(20,some ([5,17,18],[5,17]))],out:=[(1,some ([0,1,24],[])),(9,some ([1,5,6,8,62],[5,6,8])),(14,some ([1,5,6,8,12,96],[5,6,8])),(17,some ([5,114],[5])),(20,some ([4],[]))],loopK:=[(12,([1,5,6,8,12],[5,6,8]))],frz:=[],sch:=[(9,.first 0 (rg [1,2,4,13]) [2,3]<| .first 2 (rg [3,13]) [1]<| .first 3 (rg [4,13]) [1]<| .fork 1 (.first 4 (rg [5,13]) []<| .first 5 (rg [6,13]) []<| .first 6 [7,11,12] [8,9,10]<| .first 7 [11,12] [8,9,10]<| .first 8 [9,10,11,12] []<| .first 9 [10,11,12] []<| .first 10 [11,12] []<| .first 11 [12] []<| .first 12 [] []<| .done) (.stop)),(14,.first 0 (rg [2,4,6,28]) [1,4,5]<| .first 1 (rg [2,4,6,28]) [4,5]<| .first 2 (rg [3,4,6,28]) [4,5]<| .first 3 (rg [6,28]) [4,5]<| .first 4 (rg [5,28]) []<| .first 5 (rg [6,28]) []<| .first 6 (rg [7,28]) []<| .first 7 (rg [8,28]) []<| .first 8 (rg [9,28]) []<| .first 9 (rg [10,28]) []<| .first 10 (rg [11,28]) []<| .first 11 (rg [12,28]) []<| .first 12 (rg [14,16,18,28]) [13,16,17]<| .first 13 (rg [14,16,18,28]) [16,17]<| .first 14 (rg [15,16,18,28]) [16,17]<| .first 15 (rg [18,28]) [16,17]<| .first 16 (rg [17,28]) []<| .first 17 (rg [18,28]) []<| .first 18 (rg [19,28]) []<| .first 19 (rg [20,28]) []<| .first 20 (rg [21,28]) []<| .first 21 (rg [22,28]) []<| .first 22 [24,25,26,27] [23]<| .first 23 [24,25,26,27] []<| .first 24 [25,26,27] []<| .first 25 [26,27] []<| .first 26 [27] []<| .first 27 [] []<| .done),(17,.first 0 [4,9,10] [1,2,3,5,6,7,8]<| .first 1 [4,9,10] [2,3,5,6,7,8]<| .first 2 [4,9,10] [3,5,6,7,8]<| .first 3 [4,9,10] [5,6,7,8]<| .first 5 [9,10] [4,6,7,8]<| .first 6 [9,10] [4,7,8]<| .first 7 [9,10] [4,8]<| .first 8 [9,10] [4]<| .fork 4 (.fork 9 (.first 10 [] []<| .done) (.stop)) (.stop))]}
noncomputable def fc8:FCfg:={par:=[.cst false],inn:=[],out:=[(3,some ([2],[]))],loopK:=[],frz:=[],sch:=[(3,.first 0 [1,2,3,6,7,8] [4,5]<| .first 1 [2,3,6,7,8] [4,5]<| .first 4 [5,6,7,8] [2,3]<| .first 5 [6,7,8] [2,3]<| .fork 2 (.first 3 [7,8] [6]<| .fork 6 (.first 7 [8] []<| .fork 8 (.done) (.stop)) (.stop)) (.stop))]}
noncomputable def fc10:FCfg:={par:=[.cst false],inn:=[(3,some ([2,6,7],[2,7]))],out:=[(3,some ([2,7,23],[2,7]))],loopK:=[],frz:=[],sch:=[]}
noncomputable def fc12:FCfg:={par:=[.cst false],inn:=[],out:=[],loopK:=[],frz:=[],sch:=[]}
noncomputable def fc13:FCfg:={par:=[.cst false],inn:=[(3,some ([2,3,5,6],[2,3,6,9])),(4,some ([2,3,5,6,7],[2,3,6,7,9]))],out:=[(4,some ([2,3,4],[2,3]))],loopK:=[],frz:=[],sch:=[(4,.first 2 [3,4,5,6] [0,1]<| .first 0 [4,5,6] [1,3]<| .fork 1 (.fork 3 (.fork 4 (.fork 5 (.fork 6 (.done) (.stop)) (.stop)) (.stop)) (.stop)) (.fork 3 (.fork 1 (.fork 4 (.fork 5 (.fork 6 (.done) (.stop)) (.stop)) (.stop)) (.fork 4 (.first 1 [5,6] []<| .fork 5 (.fork 6 (.done) (.stop)) (.stop)) (.stop))) (.stop)))]}
noncomputable def fc14:FCfg:={par:=[.cst false,.cst false,.cst false],inn:=[(5,some ([9,10],[9]))],out:=[],loopK:=[],frz:=[],sch:=[]}
noncomputable def fc15:FCfg:={par:=[.cst false,.cst false,.cst false],inn:=[(5,some ([9,10],[9]))],out:=[],loopK:=[],frz:=[],sch:=[]}
noncomputable def fc16:FCfg:={par:=[.cst false],inn:=[(6,some ([3],[]))],out:=[],loopK:=[(3,([0,3,4],[]))],frz:=[],sch:=[]}
noncomputable def fc17:FCfg:={par:=[.cst false],inn:=[(3,some ([2,3,6,7],[2,3,7,11])),(4,some ([2,3,6,7,8],[2,3,7,8,11])),(5,some ([2,3,6,7,8,9],[2,3,7,8,11]))],out:=[(5,some ([2,3,4,5],[2,3]))],loopK:=[],frz:=[],sch:=[(5,.first 2 [7,8] [0,1,3,4,5,6]<| .first 3 [4,5,6,7,8] [0,1]<| .first 0 [5,6,7,8] [1,4]<| .fork 1 (.fork 4 (.fork 5 (.fork 6 (.fork 7 (.fork 8 (.done) (.stop)) (.stop)) (.stop)) (.stop)) (.stop)) (.fork 4 (.fork 1 (.fork 5 (.fork 6 (.fork 7 (.fork 8 (.done) (.stop)) (.stop)) (.stop)) (.stop)) (.fork 5 (.first 1 [6,7,8] []<| .fork 6 (.fork 7 (.fork 8 (.done) (.stop)) (.stop)) (.stop)) (.stop))) (.stop)))]}
noncomputable def fc18:FCfg:={par:=[.cst false,.cst false,.cst false,.cst false],inn:=[(4,some ([3,4,5,9,10],[4,5,9])),(5,some ([5,9,10,11,12],[5,9,11]))],out:=[(5,some ([8],[]))],loopK:=[],frz:=[],sch:=[]}
noncomputable def fc19:FCfg:={par:=[.cst false],inn:=[],out:=[],loopK:=[],frz:=[],sch:=[]}
noncomputable def fc20:FCfg:={par:=[.cut 2],inn:=[],out:=[(1,some ([2],[]))],loopK:=[],frz:=[],sch:=[]}
noncomputable def fc22:FCfg:={par:=[.cst false],inn:=[],out:=[(1,some ([2],[]))],loopK:=[],frz:=[],sch:=[]}
noncomputable def fc23:FCfg:={par:=[.cst false],inn:=[],out:=[],loopK:=[],frz:=[],sch:=[]}
noncomputable def fc25:FCfg:={par:=[.cst false],inn:=[],out:=[(4,some ([2,3,4],[]))],loopK:=[],frz:=[],sch:=[]}
noncomputable def fc26:FCfg:={par:=[.cst false],inn:=[],out:=[],loopK:=[],frz:=[],sch:=[]}
noncomputable def fc27:FCfg:={par:=[.ptr [.imm,.imm,.imm]],inn:=[(2,some ([0,2,3],[0,2,3])),(3,some ([0,2,3],[0,2,3])),(4,some ([0,2,3,13],[0,2,3])),(8,some ([2,3],[0,2,3]))],out:=[],loopK:=[],frz:=[],sch:=[]}
noncomputable def fc28:FCfg:={par:=[.ptr [.imm,.imm,.imm]],inn:=[(2,some ([0,2,3],[0,2,3])),(3,some ([0,2,3],[0,2,3])),(4,some ([0,2,3],[0,2,3])),(5,some ([0,2,3,23],[0,2,3])),(13,some ([2,3],[0,2,3]))],out:=[],loopK:=[],frz:=[],sch:=[]}
noncomputable def fc29:FCfg:={par:=[.ptr [.imm,.imm,.imm],.cut 4],inn:=[(2,some ([0,1],[0])),(3,some ([0,1],[0]))],out:=[(2,some ([4],[0])),(3,some ([4],[0]))],loopK:=[],frz:=[],sch:=[(2,.first 0 [20,21] (rg [1,20])<| .first 1 [2,3,4,5,19,20,21] (rg [6,19])<| .first 2 [3,4,5,19,20,21] (rg [6,19])<| .first 3 [4,5,19,20,21] (rg [6,19])<| .first 4 [5,19,20,21] (rg [6,19])<| .first 5 [19,20,21] (rg [6,19])<| .first 6 [7,8,9,19,20,21] (rg [10,19])<| .first 7 [8,9,19,20,21] (rg [10,19])<| .first 8 [9,19,20,21] (rg [10,19])<| .first 9 [19,20,21] (rg [10,19])<| .first 10 [11,12,13,19,20,21] [14,15,16,17,18]<| .first 11 [12,13,19,20,21] [14,15,16,17,18]<| .first 12 [13,19,20,21] [14,15,16,17,18]<| .first 13 [19,20,21] [14,15,16,17,18]<| .first 14 (rg [15,22]) []<| .first 15 (rg [16,22]) []<| .first 16 [17,18,19,20,21] []<| .first 17 [18,19,20,21] []<| .first 18 [19,20,21] []<| .fork 19 (.fork 20 (.fork 21 (.done) (.stop)) (.stop)) (.stop)),(3,.first 0 [1,2,3,11,12] (rg [4,11])<| .first 1 [2,3,11,12] (rg [4,11])<| .first 2 [3,11,12] (rg [4,11])<| .first 3 [11,12] (rg [4,11])<| .first 4 [10,11,12] [5,6,7,8,9]<| .first 5 (rg [6,13]) []<| .first 6 (rg [7,13]) []<| .first 7 [8,9,10,11,12] []<| .first 8 [9,10,11,12] []<| .fork 9 (.fork 10 (.first 11 [12] []<| .fork 12 (.done) (.stop)) (.stop)) (.stop))]}
noncomputable def fc30:FCfg:={par:=[.cst false,.cst false],inn:=[],out:=[(1,some ([12],[]))],loopK:=[],frz:=[],sch:=[]}
noncomputable def fc31:FCfg:={par:=[.cst false,.cst false,.cst false],inn:=[(6,some ([2,3,4,6,8],[3,4,6,8])),(9,some ([3,4,6,8,9],[3,4,6,8])),(10,some ([3,4,6,8,9],[3,4,6,8])),(11,some ([3,4,6,8,9],[3,4,6,8])),(12,some ([4,6,8],[4,6,8]))],out:=[],loopK:=[(7,([3,4,6,8,9],[3,4,6,8]))],frz:=[],sch:=[]}
noncomputable def fc32:FCfg:={par:=[.cst false,.cst false,.cst false],inn:=[(8,some ([],[]))],out:=[(2,some ([3,4,5,7,8,20],[3,4,5])),(3,some ([3,4,5,7,8,35],[3,4,5])),(5,some ([3,4,5,7,8,46],[3,4,5]))],loopK:=[(2,([3,4,5,7,8],[3,4,5]))],frz:=[],sch:=[(3,.first 0 [1,3,4,10,11,14] [2,5,6,7,8,9,12,13]<| .first 1 [3,4,10,11,14] [2,5,6,7,8,9,12,13]<| .first 2 [3,4,10,11,14] [5,6,7,8,9,12,13]<| .first 3 [4,10,11,14] [5,6,7,8,9,12,13]<| .first 4 [10,11,14] [5,6,7,8,9,12,13]<| .first 5 [6,8,9,10,11,14] [7,12,13]<| .first 6 [8,9,10,11,14] [7,12,13]<| .first 7 [8,9,10,11,14] [12,13]<| .first 8 [9,10,11,14] [12,13]<| .first 9 [10,11,14] [12,13]<| .first 10 [11,14] [12,13]<| .first 12 [13,14] [11]<| .first 13 [14] [11]<| .fork 11 (.first 14 [] []<| .done) (.stop)),(5,.first 0 [1,3,4,10] [2,5,6,7,8,9]<| .first 1 [3,4,10] [2,5,6,7,8,9]<| .first 2 [3,4,10] [5,6,7,8,9]<| .first 3 [4,10] [5,6,7,8,9]<| .first 4 [10] [5,6,7,8,9]<| .first 5 [6,8,9,10] [7]<| .first 6 [8,9,10] [7]<| .first 7 [8,9,10] []<| .first 8 [9,10] []<| .first 9 [10] []<| .first 10 [] []<| .done)]}
noncomputable def fc33:FCfg:={par:=[.cst false,.cst false,.cst false],inn:=[],out:=[(1,some ([6],[]))],loopK:=[],frz:=[],sch:=[]}
noncomputable def fc35:FCfg:={par:=[.cst false,.cst false,.cst false],inn:=[],out:=[(1,some ([6],[]))],loopK:=[],frz:=[],sch:=[]}
noncomputable def fc40:FCfg:={par:=[.cst false],inn:=[(4,some ([0,4],[])),(13,some ([0,4,5],[])),(15,some ([0,5],[]))],out:=[(4,some ([0,4,19],[])),(10,some ([0,4,5,6,35],[]))],loopK:=[(8,([0,4,5,6],[]))],frz:=[],sch:=[]}
noncomputable def fc41:FCfg:={par:=[.ptr [.imm,.imm,.imm],.cst false],inn:=[(4,some ([0,1,5],[0])),(6,some ([1,5],[0]))],out:=[],loopK:=[],frz:=[],sch:=[]}
noncomputable def fc42:FCfg:={par:=[.ptr [.imm,.imm,.imm],.cst false],inn:=[],out:=[],loopK:=[],frz:=[],sch:=[]}
noncomputable def fc43:FCfg:={par:=[.ptr [.imm,.imm,.imm],.cst false],inn:=[],out:=[],loopK:=[],frz:=[],sch:=[]}
noncomputable def fc44:FCfg:={par:=[.cst false,.cst false],inn:=[],out:=[],loopK:=[],frz:=[],sch:=[]}
noncomputable def fc45:FCfg:={par:=[.cst false],inn:=[],out:=[(1,some ([2],[]))],loopK:=[],frz:=[],sch:=[]}
noncomputable def fc46:FCfg:={par:=[.cst false],inn:=[],out:=[],loopK:=[],frz:=[],sch:=[]}
noncomputable def fc50:FCfg:={par:=[.cst false,.cst false],inn:=[],out:=[],loopK:=[],frz:=[],sch:=[]}
noncomputable def fc51:FCfg:={par:=[.ptr [.imm,.imm,.imm]],inn:=[(4,some ([0,3],[0])),(5,some ([0,3],[0])),(6,some ([0,3],[0]))],out:=[(2,some ([0,3,13],[0])),(3,some ([0,3],[0])),(6,some ([0,3,53],[0]))],loopK:=[],frz:=[],sch:=[(2,.first 0 [1,2,3,9] [4,5,6,7,8]<| .first 1 [2,3,9] [4,5,6,7,8]<| .first 2 [3,9] [4,5,6,7,8]<| .first 3 [9] [4,5,6,7,8]<| .first 4 [5,6,7,8,9] []<| .first 5 [6,7,8,9] []<| .first 6 [7,8,9] []<| .first 7 [8,9] []<| .first 8 [9] []<| .first 9 [] []<| .done),(3,.first 0 [1,2,3,8,9,10,11] [4,5,6,7]<| .first 1 [2,3,8,9,10,11] [4,5,6,7]<| .first 2 [3,8,9,10,11] [4,5,6,7]<| .first 3 [8,9,10,11] [4,5,6,7]<| .first 4 (rg [5,12]) []<| .first 5 [6,7,8,9,10,11] []<| .first 6 [7,8,9,10,11] []<| .first 7 [8,9,10,11] []<| .first 8 [9,10,11] []<| .first 9 [10,11] []<| .fork 10 (.fork 11 (.done) (.stop)) (.stop)),(6,.first 0 [1,2,3,9] [4,5,6,7,8]<| .first 1 [2,3,9] [4,5,6,7,8]<| .first 2 [3,9] [4,5,6,7,8]<| .first 3 [9] [4,5,6,7,8]<| .first 4 [5,6,7,8,9] []<| .first 5 [6,7,8,9] []<| .first 6 [7,8,9] []<| .first 7 [8,9] []<| .first 8 [9] []<| .first 9 [] []<| .done)]}
noncomputable def fc57:FCfg:={par:=[.cst false,.cst false],inn:=[],out:=[(1,some ([4],[]))],loopK:=[],frz:=[],sch:=[]}
noncomputable def fcs:List (Nat×FCfg):=[(5,fc5),(8,fc8),(10,fc10),(12,fc12),(13,fc13),(14,fc14),(15,fc15),(16,fc16),(17,fc17),(18,fc18),(19,fc19),(20,fc20),(22,fc22),(23,fc23),(25,fc25),(26,fc26),(27,fc27),(28,fc28),(29,fc29),(30,fc30),(31,fc31),(32,fc32),(33,fc33),(35,fc35),(40,fc40),(41,fc41),(42,fc42),(43,fc43),(44,fc44),(45,fc45),(46,fc46),(50,fc50),(51,fc51),(57,fc57)]
noncomputable def gmax:Nat:=(Tryd.prog.globalNamed "internal/bytealg.MaxLen").getD 0
noncomputable def gpow:Nat:=(Tryd.prog.globalNamed powName).getD 0
noncomputable def ons:List (Nat×Bool):=[(5,true),(8,true),(10,true),(12,true),(13,true),(14,true),(15,true),(16,true),(17,true),(18,true),(19,true),(20,true),(22,true),(23,true),(25,true),(26,true),(27,true),(28,true),(29,true),(30,true),(31,true),(32,true),(33,true),(35,true),(40,true),(41,true),(42,true),(43,true),(44,true),(45,true),(46,true),(50,true),(51,true),(57,true)]
noncomputable def cfg:Cfg:=mkCfg ons fcs [(36,some extFmt),(39,some extCut)] [] [(gpow,(·=powTab)),(gmax,isNum)]
theorem c5:cfg.fc 5=fc5:=rfl
instance C5:Cf cfg 5 fc5:=⟨c5⟩
instance Z5:Zf cfg 5:=⟨rfl⟩
theorem z5:(cfg.fc 5).frz=[]:=rfl
theorem c8:cfg.fc 8=fc8:=rfl
instance C8:Cf cfg 8 fc8:=⟨c8⟩
instance Z8:Zf cfg 8:=⟨rfl⟩
theorem z8:(cfg.fc 8).frz=[]:=rfl
theorem c10:cfg.fc 10=fc10:=rfl
instance C10:Cf cfg 10 fc10:=⟨c10⟩
instance Z10:Zf cfg 10:=⟨rfl⟩
theorem c12:cfg.fc 12=fc12:=rfl
instance C12:Cf cfg 12 fc12:=⟨c12⟩
instance Z12:Zf cfg 12:=⟨rfl⟩
theorem c13:cfg.fc 13=fc13:=rfl
instance C13:Cf cfg 13 fc13:=⟨c13⟩
instance Z13:Zf cfg 13:=⟨rfl⟩
theorem z13:(cfg.fc 13).frz=[]:=rfl
theorem c14:cfg.fc 14=fc14:=rfl
instance C14:Cf cfg 14 fc14:=⟨c14⟩
instance Z14:Zf cfg 14:=⟨rfl⟩
theorem c15:cfg.fc 15=fc15:=rfl
instance C15:Cf cfg 15 fc15:=⟨c15⟩
instance Z15:Zf cfg 15:=⟨rfl⟩
theorem c16:cfg.fc 16=fc16:=rfl
instance C16:Cf cfg 16 fc16:=⟨c16⟩
instance Z16:Zf cfg 16:=⟨rfl⟩
theorem c17:cfg.fc 17=fc17:=rfl
instance C17:Cf cfg 17 fc17:=⟨c17⟩
instance Z17:Zf cfg 17:=⟨rfl⟩
theorem z17:(cfg.fc 17).frz=[]:=rfl
theorem c18:cfg.fc 18=fc18:=rfl
instance C18:Cf cfg 18 fc18:=⟨c18⟩
instance Z18:Zf cfg 18:=⟨rfl⟩
theorem c19:cfg.fc 19=fc19:=rfl
instance C19:Cf cfg 19 fc19:=⟨c19⟩
instance Z19:Zf cfg 19:=⟨rfl⟩
theorem c20:cfg.fc 20=fc20:=rfl
instance C20:Cf cfg 20 fc20:=⟨c20⟩
instance Z20:Zf cfg 20:=⟨rfl⟩
theorem c22:cfg.fc 22=fc22:=rfl
instance C22:Cf cfg 22 fc22:=⟨c22⟩
instance Z22:Zf cfg 22:=⟨rfl⟩
theorem c23:cfg.fc 23=fc23:=rfl
instance C23:Cf cfg 23 fc23:=⟨c23⟩
instance Z23:Zf cfg 23:=⟨rfl⟩
theorem c25:cfg.fc 25=fc25:=rfl
instance C25:Cf cfg 25 fc25:=⟨c25⟩
instance Z25:Zf cfg 25:=⟨rfl⟩
theorem c26:cfg.fc 26=fc26:=rfl
instance C26:Cf cfg 26 fc26:=⟨c26⟩
instance Z26:Zf cfg 26:=⟨rfl⟩
theorem c27:cfg.fc 27=fc27:=rfl
instance C27:Cf cfg 27 fc27:=⟨c27⟩
instance Z27:Zf cfg 27:=⟨rfl⟩
theorem c28:cfg.fc 28=fc28:=rfl
instance C28:Cf cfg 28 fc28:=⟨c28⟩
instance Z28:Zf cfg 28:=⟨rfl⟩
theorem c29:cfg.fc 29=fc29:=rfl
instance C29:Cf cfg 29 fc29:=⟨c29⟩
instance Z29:Zf cfg 29:=⟨rfl⟩
theorem z29:(cfg.fc 29).frz=[]:=rfl
theorem c30:cfg.fc 30=fc30:=rfl
instance C30:Cf cfg 30 fc30:=⟨c30⟩
instance Z30:Zf cfg 30:=⟨rfl⟩
theorem c31:cfg.fc 31=fc31:=rfl
instance C31:Cf cfg 31 fc31:=⟨c31⟩
instance Z31:Zf cfg 31:=⟨rfl⟩
theorem c32:cfg.fc 32=fc32:=rfl
instance C32:Cf cfg 32 fc32:=⟨c32⟩
instance Z32:Zf cfg 32:=⟨rfl⟩
theorem z32:(cfg.fc 32).frz=[]:=rfl
theorem c33:cfg.fc 33=fc33:=rfl
instance C33:Cf cfg 33 fc33:=⟨c33⟩
instance Z33:Zf cfg 33:=⟨rfl⟩
theorem c35:cfg.fc 35=fc35:=rfl
instance C35:Cf cfg 35 fc35:=⟨c35⟩
instance Z35:Zf cfg 35:=⟨rfl⟩
theorem c40:cfg.fc 40=fc40:=rfl
instance C40:Cf cfg 40 fc40:=⟨c40⟩
instance Z40:Zf cfg 40:=⟨rfl⟩
theorem c41:cfg.fc 41=fc41:=rfl
instance C41:Cf cfg 41 fc41:=⟨c41⟩
instance Z41:Zf cfg 41:=⟨rfl⟩
theorem c42:cfg.fc 42=fc42:=rfl
instance C42:Cf cfg 42 fc42:=⟨c42⟩
instance Z42:Zf cfg 42:=⟨rfl⟩
theorem c43:cfg.fc 43=fc43:=rfl
instance C43:Cf cfg 43 fc43:=⟨c43⟩
instance Z43:Zf cfg 43:=⟨rfl⟩
theorem c44:cfg.fc 44=fc44:=rfl
instance C44:Cf cfg 44 fc44:=⟨c44⟩
instance Z44:Zf cfg 44:=⟨rfl⟩
theorem c45:cfg.fc 45=fc45:=rfl
instance C45:Cf cfg 45 fc45:=⟨c45⟩
instance Z45:Zf cfg 45:=⟨rfl⟩
theorem c46:cfg.fc 46=fc46:=rfl
instance C46:Cf cfg 46 fc46:=⟨c46⟩
instance Z46:Zf cfg 46:=⟨rfl⟩
theorem c50:cfg.fc 50=fc50:=rfl
instance C50:Cf cfg 50 fc50:=⟨c50⟩
instance Z50:Zf cfg 50:=⟨rfl⟩
theorem c51:cfg.fc 51=fc51:=rfl
instance C51:Cf cfg 51 fc51:=⟨c51⟩
instance Z51:Zf cfg 51:=⟨rfl⟩
theorem z51:(cfg.fc 51).frz=[]:=rfl
theorem c57:cfg.fc 57=fc57:=rfl
instance C57:Cf cfg 57 fc57:=⟨c57⟩
instance Z57:Zf cfg 57:=⟨rfl⟩
noncomputable abbrev Pg:=Tryd.prog
theorem bF25:buildF Pg 25=some ([z0,z0],[(0,1),(1,1)]):=kr
theorem bF35:buildF Pg 35=some ([z0,z0,z0,z0],[(0,1),(1,1),(2,1),(3,1)]):=kr
theorem bF61:buildF Pg 61=some ([.nil,.nil,z0],[(0,1),(1,1),(2,1)]):=kr
theorem bF75:buildF Pg 75=some ([.nil,z0,.im 0 (.sc (.int .u64 0))],[(0,1),(1,1),(2,1)]):=kr
theorem eF38:elemSz Pg 38=some (2,1):=kr
theorem fF25_0:fieldF Pg 25 0=some 0:=kr
theorem fF25_1:fieldF Pg 25 1=some 1:=kr
theorem fF35_0:fieldF Pg 35 0=some 0:=kr
theorem fF35_1:fieldF Pg 35 1=some 1:=kr
theorem fF35_2:fieldF Pg 35 2=some 2:=kr
theorem fF35_3:fieldF Pg 35 3=some 3:=kr
theorem fF61_0:fieldF Pg 61 0=some 0:=kr
theorem fF61_1:fieldF Pg 61 1=some 1:=kr
theorem fF61_2:fieldF Pg 61 2=some 2:=kr
theorem fF75_0:fieldF Pg 75 0=some 0:=kr
theorem fF75_1:fieldF Pg 75 1=some 1:=kr
theorem fF75_2:fieldF Pg 75 2=some 2:=kr
theorem kF10_9:callK Pg cfg 10 0 [9]=[(.cst false,[none])]:=kr
theorem kF12_32:callK Pg cfg 12 0 [32]=[(.cst false,[some 1])]:=kr
theorem kF13_32:callK Pg cfg 13 0 [32]=[(.cst false,[some 1])]:=kr
theorem kF14_25_35_2:callK Pg cfg 14 0 [25,35,2]=[(.cst false,[none,none]),(.cst false,[none,none,none,none]),(.cst false,[none])]:=kr
theorem kF15_25_35_2:callK Pg cfg 15 0 [25,35,2]=[(.cst false,[none,none]),(.cst false,[none,none,none,none]),(.cst false,[none])]:=kr
theorem kF16_38:callK Pg cfg 16 0 [38]=[(.cst false,[some 1])]:=kr
theorem kF17_32:callK Pg cfg 17 0 [32]=[(.cst false,[some 1])]:=kr
theorem kF18_25_35_2_2:callK Pg cfg 18 0 [25,35,2,2]=[(.cst false,[none,none]),(.cst false,[none,none,none,none]),(.cst false,[none]),(.cst false,[none])]:=kr
theorem kF19_25:callK Pg cfg 19 0 [25]=[(.cst false,[none,none])]:=kr
theorem kF20_48:callK Pg cfg 20 0 [48]=[(.cut 2,[none])]:=kr
theorem kF22_25:callK Pg cfg 22 0 [25]=[(.cst false,[none,none])]:=kr
theorem kF23_2:callK Pg cfg 23 0 [2]=[(.cst false,[none])]:=kr
theorem kF25_9:callK Pg cfg 25 0 [9]=[(.cst false,[none])]:=kr
theorem kF26_32:callK Pg cfg 26 0 [32]=[(.cst false,[some 1])]:=kr
theorem kF27_53:callK Pg cfg 27 0 [53]=[(.ptr [.imm,.imm,.imm],[none])]:=kr
theorem kF28_53:callK Pg cfg 28 0 [53]=[(.ptr [.imm,.imm,.imm],[none])]:=kr
theorem kF29_53_58:callK Pg cfg 29 0 [53,58]=[(.ptr [.imm,.imm,.imm],[none]),(.cut 4,[none])]:=kr
theorem kF30_25_35:callK Pg cfg 30 0 [25,35]=[(.cst false,[none,none]),(.cst false,[none,none,none,none])]:=kr
theorem kF31_25_35_2:callK Pg cfg 31 0 [25,35,2]=[(.cst false,[none,none]),(.cst false,[none,none,none,none]),(.cst false,[none])]:=kr
theorem kF32_61_61_35:callK Pg cfg 32 0 [61,61,35]=[(.cst false,[some 1,some 1,none]),(.cst false,[some 1,some 1,none]),(.cst false,[none,none,none,none])]:=kr
theorem kF33_2_2_2:callK Pg cfg 33 0 [2,2,2]=[(.cst false,[none]),(.cst false,[none]),(.cst false,[none])]:=kr
theorem kF35_2_2_2:callK Pg cfg 35 0 [2,2,2]=[(.cst false,[none]),(.cst false,[none]),(.cst false,[none])]:=kr
theorem kF36_2_3:callK Pg cfg 36 0 [2,3]=[(.cst false,[none]),(.cst false,[none])]:=kr
theorem kF39_9_9:callK Pg cfg 39 0 [9,9]=[(.cst false,[none]),(.cst false,[none])]:=kr
theorem kF40_9:callK Pg cfg 40 0 [9]=[(.cst false,[none])]:=kr
theorem kF41_53_2:callK Pg cfg 41 0 [53,2]=[(.ptr [.imm,.imm,.imm],[none]),(.cst false,[none])]:=kr
theorem kF42_53_38:callK Pg cfg 42 0 [53,38]=[(.ptr [.imm,.imm,.imm],[none]),(.cst false,[some 1])]:=kr
theorem kF43_53_2:callK Pg cfg 43 0 [53,2]=[(.ptr [.imm,.imm,.imm],[none]),(.cst false,[none])]:=kr
theorem kF44_2_2:callK Pg cfg 44 0 [2,2]=[(.cst false,[none]),(.cst false,[none])]:=kr
theorem kF45_35:callK Pg cfg 45 0 [35]=[(.cst false,[none,none,none,none])]:=kr
theorem kF46_2:callK Pg cfg 46 0 [2]=[(.cst false,[none])]:=kr
theorem kF50_9_9:callK Pg cfg 50 0 [9,9]=[(.cst false,[none]),(.cst false,[none])]:=kr
theorem kF51_53:callK Pg cfg 51 0 [53]=[(.ptr [.imm,.imm,.imm],[none])]:=kr
theorem kF57_9_9:callK Pg cfg 57 0 [9,9]=[(.cst false,[none]),(.cst false,[none])]:=kr
theorem kF8_25:callK Pg cfg 8 0 [25]=[(.cst false,[none,none])]:=kr
theorem qEF25:∀(a0:Int) (a1:Int) (b0:Int) (b1:Int),binAgg Pg 25 .eql [.int .i64 a0,.int .i64 a1] [.int .i64 b0,.int .i64 b1]=some (.bool ((a0==b0)&&(a1==b1))):=by intros;kernel_rfl
theorem rF10:resK Pg (Tryd.f10.results.toList.zip Tryd.f10.resultTypes.toList)=[(.cell 2 25,[none,none],some (true,2)),(.tmp 3,[none],none)]:=kr
theorem rF12:resK Pg (Tryd.f12.results.toList.zip Tryd.f12.resultTypes.toList)=[(.tmp 2,[none],none)]:=kr
theorem rF13:resK Pg (Tryd.f13.results.toList.zip Tryd.f13.resultTypes.toList)=[(.cell 2 25,[none,none],some (true,2)),(.cell 3 35,[none,none,none,none],some (true,4)),(.tmp 4,[none],none)]:=kr
theorem rF14:resK Pg (Tryd.f14.results.toList.zip Tryd.f14.resultTypes.toList)=[(.tmp 6,[some 1],none),(.tmp 7,[none],none)]:=kr
theorem rF15:resK Pg (Tryd.f15.results.toList.zip Tryd.f15.resultTypes.toList)=[(.tmp 6,[some 1],none),(.tmp 7,[none],none)]:=kr
theorem rF16:resK Pg (Tryd.f16.results.toList.zip Tryd.f16.resultTypes.toList)=[(.tmp 2,[none],none)]:=kr
theorem rF17:resK Pg (Tryd.f17.results.toList.zip Tryd.f17.resultTypes.toList)=[(.cell 2 25,[none,none],some (true,2)),(.cell 3 35,[none,none,none,none],some (true,4)),(.tmp 4,[none],none),(.tmp 5,[none],none)]:=kr
theorem rF18:resK Pg (Tryd.f18.results.toList.zip Tryd.f18.resultTypes.toList)=[(.tmp 8,[none],none)]:=kr
theorem rF19:resK Pg (Tryd.f19.results.toList.zip Tryd.f19.resultTypes.toList)=[(.tmp 2,[none],none)]:=kr
theorem rF20:resK Pg (Tryd.f20.results.toList.zip Tryd.f20.resultTypes.toList)=[(.tmp 2,[none],none)]:=kr
theorem rF22:resK Pg (Tryd.f22.results.toList.zip Tryd.f22.resultTypes.toList)=[(.tmp 2,[none],none)]:=kr
theorem rF23:resK Pg (Tryd.f23.results.toList.zip Tryd.f23.resultTypes.toList)=[(.tmp 2,[none],none)]:=kr
theorem rF25:resK Pg (Tryd.f25.results.toList.zip Tryd.f25.resultTypes.toList)=[(.tmp 2,[none],none),(.tmp 3,[none],none),(.tmp 4,[none],none)]:=kr
theorem rF26:resK Pg (Tryd.f26.results.toList.zip Tryd.f26.resultTypes.toList)=[(.tmp 2,[none],none)]:=kr
theorem rF27:resK Pg (Tryd.f27.results.toList.zip Tryd.f27.resultTypes.toList)=[(.cell 2 25,[none,none],some (true,2))]:=kr
theorem rF28:resK Pg (Tryd.f28.results.toList.zip Tryd.f28.resultTypes.toList)=[(.cell 2 35,[none,none,none,none],some (true,4))]:=kr
theorem rF29:resK Pg (Tryd.f29.results.toList.zip Tryd.f29.resultTypes.toList)=[(.tmp 4,[none],none)]:=kr
theorem rF30:resK Pg (Tryd.f30.results.toList.zip Tryd.f30.resultTypes.toList)=[(.tmp 4,[none],none)]:=kr
theorem rF31:resK Pg (Tryd.f31.results.toList.zip Tryd.f31.resultTypes.toList)=[(.cell 6 61,[some 1,some 1,none],some (true,3)),(.tmp 7,[none],none)]:=kr
theorem rF32:resK Pg (Tryd.f32.results.toList.zip Tryd.f32.resultTypes.toList)=[(.tmp 6,[none],none)]:=kr
theorem rF33:resK Pg (Tryd.f33.results.toList.zip Tryd.f33.resultTypes.toList)=[(.tmp 6,[none],none)]:=kr
theorem rF35:resK Pg (Tryd.f35.results.toList.zip Tryd.f35.resultTypes.toList)=[(.tmp 6,[none],none)]:=kr
theorem rF40:resK Pg (Tryd.f40.results.toList.zip Tryd.f40.resultTypes.toList)=[(.tmp 2,[none],none),(.tmp 3,[none],none)]:=kr
theorem rF41:resK Pg (Tryd.f41.results.toList.zip Tryd.f41.resultTypes.toList)=[(.tmp 4,[none],none)]:=kr
theorem rF42:resK Pg (Tryd.f42.results.toList.zip Tryd.f42.resultTypes.toList)=[(.tmp 4,[none],none)]:=kr
theorem rF43:resK Pg (Tryd.f43.results.toList.zip Tryd.f43.resultTypes.toList)=[(.tmp 4,[none],none)]:=kr
theorem rF44:resK Pg (Tryd.f44.results.toList.zip Tryd.f44.resultTypes.toList)=[(.tmp 4,[none],none)]:=kr
theorem rF45:resK Pg (Tryd.f45.results.toList.zip Tryd.f45.resultTypes.toList)=[(.tmp 2,[none],none)]:=kr
theorem rF46:resK Pg (Tryd.f46.results.toList.zip Tryd.f46.resultTypes.toList)=[(.tmp 2,[none],none)]:=kr
theorem rF5:resK Pg (Tryd.f5.results.toList.zip Tryd.f5.resultTypes.toList)=[(.tmp 4,[none],none)]:=kr
theorem rF50:resK Pg (Tryd.f50.results.toList.zip Tryd.f50.resultTypes.toList)=[(.tmp 4,[none],none)]:=kr
theorem rF51:resK Pg (Tryd.f51.results.toList.zip Tryd.f51.resultTypes.toList)=[(.tmp 2,[none],none)]:=kr
theorem rF57:resK Pg (Tryd.f57.results.toList.zip Tryd.f57.resultTypes.toList)=[(.tmp 4,[none],none)]:=kr
theorem rF8:resK Pg (Tryd.f8.results.toList.zip Tryd.f8.resultTypes.toList)=[(.tmp 2,[none],none)]:=kr
theorem sF32:sliceF Pg 32=some (5,1,[none],false,1,[.im 0 (.sc (.int .u8 0))]):=kr
theorem sF38:sliceF Pg 38=some (2,1,[none],false,8,[z0]):=kr
theorem tF2:tyF Pg 2=some ([z0],[none],false,1):=kr
theorem tF25:tyF Pg 25=some ([z0,z0],[none,none],true,2):=kr
theorem tF3:tyF Pg 3=some ([z0],[none],false,1):=kr
theorem tF32:tyF Pg 32=some ([.nil],[some 1],false,1):=kr
theorem tF35:tyF Pg 35=some ([z0,z0,z0,z0],[none,none,none,none],true,4):=kr
theorem tF38:tyF Pg 38=some ([.nil],[some 1],false,1):=kr
theorem tF5:tyF Pg 5=some ([.im 0 (.sc (.int .u8 0))],[none],false,1):=kr
theorem tF61:tyF Pg 61=some ([.nil,.nil,z0],[some 1,some 1,none],true,3):=kr
theorem tF73:tyF Pg 73=some ([.im 0 (.sc (.int .u64 0))],[none],false,1):=kr
theorem tF75:tyF Pg 75=some ([.nil,z0,.im 0 (.sc (.int .u64 0))],[some 1,none,none],true,3):=kr
theorem uF2:Pg.underlying 2=some (.int .i64):=kr
theorem uF3:Pg.underlying 3=some (.int .i64):=kr
theorem uF32:Pg.underlying 32=some (.slice 5):=kr
theorem uF38:Pg.underlying 38=some (.slice 2):=kr
theorem uF4:Pg.underlying 4=some .bool:=kr
theorem uF5:Pg.underlying 5=some (.int .u8):=kr
theorem uF73:Pg.underlying 73=some (.int .u64):=kr
theorem uF9:Pg.underlying 9=some .string:=kr
abbrev FX (i:Nat) (a:List Arg) (r:Res×List Out):Prop:=FL Tryd.prog cfg i a=some r
theorem L_laws_b10Long {code_0:(List Int)} {r:Bool} (h:laws_b10Long code_0=some r):FX 12 [.im 2 false [W 1 (eK .u8) code_0]] (B0 [(false,[.im 0 (V r)])]):=by
 unfold laws_b10Long at h
 refine gn 6 Tryd.func12 rfl ?_
 refine gs<|g0 j j (q (oAsI j j)<|nl)<|us<|gs<|g0 j j (q (oMv j j)<|q (oLnI j j uF32 j)<|q (oBi j j j j)<|q (oAsI j j)<|nl)<|us<|Go.ret (Unw.ret ?_)
 cases h
 exact fr rF12 j
theorem L_spec_l00From {code_0:(List Int)} {r:S_l00Src} (h:spec_l00From code_0=some r):FX 26 [.im 2 false [W 1 (eK .u8) code_0]] (B0 [(false,[.pt true [⟨.imm,2,W 1 (eK .u8) r.code⟩,⟨.imm,0,I r.at_⟩,⟨.imm,0,.sc (.int .u64 r.seed)⟩]])]):=by
 unfold spec_l00From at h
 refine gn 6 Tryd.func26 rfl ?_
 refine gs<|g0 j j (q (oAsI j j)<|nl)<|us<|gs<|g0 j j (q (oMv j j)<|q (oBu (cs:=[.im 2 _,.im 0 _,.im 0 _]) j bF75 j)<|q (oBx j tF75 j (tkI (tkI (tkI tk0))))<|q (oAsP j j)<|nl)<|us<|Go.ret (Unw.ret ?_)
 cases h
 exact fr rF26 j
theorem L_spec_l00Src_next {s_0:S_l00Src} {r:(Int×S_l00Src)} (h:spec_l00Src_next s_0=some r):FX 51 [.ptr true [(.imm,W 1 (eK .u8) s_0.code),(.imm,I s_0.at_),(.imm,.sc (.int .u64 s_0.seed))]] ([(false,[.im 0 (I r.1)])],[.ptr true [(.imm,W 1 (eK .u8) r.2.code),(.imm,I r.2.at_),(.imm,.sc (.int .u64 r.2.seed))]]):=by
 unfold spec_l00Src_next at h
 refine FL_goS (A:=[(0,M 0)]) (B:=[(0,Od (G 1 (u_S_l00Src s_0)))]) (nt:=62) rfl rfl Tryd.func51 rfl rfl rfl rfl ?_
 refine gs<|g0 j j (q (oAsI j j)<|nl)<|us<|gs<|g0 j j (q (oAsI j j)<|nl)<|us<|gs<|gs<|gd c51 j j j j (mk [(0,M 0),(3,iv 0),(13,bv (decide (s_0.at_< (s_0.code.length:Int))))] [(0,Od (G 1 (u_S_l00Src s_0)))]) (t j j (oMv j j)<|t j j (oNl j j j)<|t j j (oFA (r':=.mp 0 0 1) j fF75_1 j j)<|t j j (oLd (cs:=[.im 0 _]) j tF3 j j)<|t j j (oMv j j)<|t j j (oNl j j j)<|t j j (oFA (r':=.mp 0 0 0) j fF75_0 j j)<|t j j (oLd (cs:=[.im 1 _]) j tF32 j j)<|t j j (oLnI j j uF32 j)<|t j j (oBi j j j j)<|sD (by kernel_rfl))<|us<|Go.join (fun st=>∃b_3_r4,spec_l00Src_next_k4 s_0 b_3_r4=some r∧st.norm ([0,3],[0])=mk [(0,M 0),(3,iv b_3_r4)] [(0,Od (G 1 (u_S_l00Src s_0)))]) ?_ ?_
 ·rintro st ⟨b_3_r4,h,hst⟩
  unfold spec_l00Src_next_k4 at h
  refine us<|gs<|g2 c51 j j hst (q (oMv j j)<|q (oNl j j j)<|q (oFA (r':=.mp 0 0 1) j fF75_1 j j)<|q (oLd (cs:=[.im 0 _]) j tF3 j j)<|q (oBi j j j j)<|q (oNl j j j)<|q (oFA (r':=.mp 0 0 1) j fF75_1 j j)<|q (oSt tF3 j j j (tkI tk0) j j j)<|nl)<|us<|gs<|g1 j j (mk [(0,M 0),(3,iv b_3_r4)] [(0,Od [Ct 1 (W 1 (eK .u8) s_0.code),C (I (w64 (s_0.at_+1))),C (.sc (.int .u64 s_0.seed))])]) (q (oMv j j)<|q (oMv j j)<|q (oNl j j j)<|q (oFA (r':=.mp 0 0 2) j fF75_2 j j)<|q (oLd (cs:=[.im 0 _]) j tF73 j j)<|q (oBi j j j j)<|q (oMv j j)<|q (oCvI j uF3 uF73 j)<|q (oBi j j j j)<|q (oBi j j j j)<|q (oNl j j j)<|q (oFA (r':=.mp 0 0 2) j fF75_2 j j)<|q (oSt tF73 j j j (tkI tk0) j j j)<|nl)<|us<|gs<|gs<|gd c51 j j j (st1:=mk [(0,M 0),(3,iv b_3_r4)] [(0,Od [Ct 1 (W 1 (eK .u8) s_0.code),C (I (w64 (s_0.at_+1))),C (.sc (.int .u64 (IntKind.wrap .u64 ((IntKind.wrap .u64 ((IntKind.wrap .u64 (s_0.seed*6364136223846793005))+(IntKind.wrap .u64 (b_3_r4))))+1442695040888963407))))])]) (by kernel_rfl) (mk [(0,M 0),(3,iv b_3_r4),(53,bv (decide ((w64 (s_0.at_+1))≤(s_0.code.length:Int))))] [(0,Od [Ct 1 (W 1 (eK .u8) s_0.code),C (I (w64 (s_0.at_+1))),C (.sc (.int .u64 (IntKind.wrap .u64 ((IntKind.wrap .u64 ((IntKind.wrap .u64 (s_0.seed*6364136223846793005))+(IntKind.wrap .u64 (b_3_r4))))+1442695040888963407))))])]) (t j j (oMv j j)<|t j j (oNl j j j)<|t j j (oFA (r':=.mp 0 0 1) j fF75_1 j j)<|t j j (oLd (cs:=[.im 0 _]) j tF3 j j)<|t j j (oMv j j)<|t j j (oNl j j j)<|t j j (oFA (r':=.mp 0 0 0) j fF75_0 j j)<|t j j (oLd (cs:=[.im 1 _]) j tF32 j j)<|t j j (oLnI j j uF32 j)<|t j j (oBi j j j j)<|sD (by kernel_rfl))<|us<|gc h j iDec (fun hc2 h=>?_) fun hc2 h=>?_
  ·refine gs<|g0 j j (q (oMv j j)<|q (oAsI j j)<|nl)<|us<|Go.ret (Unw.ret ?_)
   cases h
   exact fr rF51 j
  ·refine Go.skip<|us<|gs<|?_
   obtain ⟨x59,hx59,h⟩:=bs h
   refine g0 j j (q (oMv j j)<|q (oNl j j j)<|q (oFA (r':=.mp 0 0 2) j fF75_2 j j)<|q (oLd (cs:=[.im 0 _]) j tF73 j j)<|q (oShr j hx59 j j)<|q (oBi j j j j)<|q (oCvI j uF73 uF2 j)<|q (oAsI j j)<|nl)<|us<|Go.ret (Unw.ret ?_)
   cases h
   exact fr rF51 j
 ·intro K3
  refine gc h j iDec (fun hc4 h=>?_) fun hc4 h=>?_
  ·obtain ⟨x22,hx22,h⟩:=bs h
   exact gd c51 j j j j (mk [(0,M 0),(3,iv (w64 (x22)))] [(0,Od (G 1 (u_S_l00Src s_0)))]) (t j j (oMv j j)<|t j j (oNl j j j)<|t j j (oFA (r':=.mp 0 0 0) j fF75_0 j j)<|t j j (oLd (cs:=[.im 1 _]) j tF32 j j)<|t j j (oMv j j)<|t j j (oNl j j j)<|t j j (oFA (r':=.mp 0 0 1) j fF75_1 j j)<|t j j (oLd (cs:=[.im 0 _]) j tF3 j j)<|t j j (oIAI j hx22 sF32 j j)<|t j j (oLd (cs:=[.im 1 _]) j tF5 j j)<|sS (dN z51 j (oCvI j uF5 uF3 j)) trivial (sS (dN z51 j (oAsI j j)) trivial (sD (by kernel_rfl))))<|K3 _ ⟨(w64 (x22)),h,(by kernel_rfl)⟩
  ·exact Go.skip<|K3 _ ⟨0,h,(by kernel_rfl)⟩
theorem L_spec_l00Src_pick {s_0:S_l00Src} {n_1:Int} {r:(Int×S_l00Src)} (h:spec_l00Src_pick s_0 n_1=some r):FX 41 [.ptr true [(.imm,W 1 (eK .u8) s_0.code),(.imm,I s_0.at_),(.imm,.sc (.int .u64 s_0.seed))],.im 2 false [I n_1]] ([(false,[.im 0 (I r.1)])],[.ptr true [(.imm,W 1 (eK .u8) r.2.code),(.imm,I r.2.at_),(.imm,.sc (.int .u64 r.2.seed))]]):=by
 unfold spec_l00Src_pick at h
 refine FL_goS (A:=[(0,M 0),(1,D 2 (I n_1))]) (B:=[(0,Od (G 1 (u_S_l00Src s_0))),(1,none)]) (nt:=20) rfl rfl Tryd.func41 rfl rfl rfl rfl ?_
 refine gs<|g0 j j (q (oAsI j j)<|nl)<|us<|gs<|gs<|g0 j j (q (oMv j j)<|q (oBi j j j j)<|nl)<|us<|gc h j iDec (fun hc1 h=>?_) fun hc1 h=>?_
 ·refine gs<|g0 j j (q (oAsI j j)<|nl)<|us<|Go.ret (Unw.ret ?_)
  cases h
  exact fr rF41 j
 ·refine Go.skip<|us<|gs<|?_
  obtain ⟨x9,hx9,h⟩:=bs h
  refine g0 j j (q (oMv j j)<|q (oCa (xs:=[.v false [.mp 0 0 0]]) (vs:=[(false,[.im 0 _])]) (v:=.v false [.im 0 _]) (L_spec_l00Src_next hx9) (.inl j) j kF51_53 j (ppP j j j pp0) j j (pbP j j pb0) j j j)<|q (oAsI j j)<|nl)<|us<|gs<|gs<|g1 j j (mk [(0,M 0),(1,iv n_1),(5,iv x9.1)] [(0,Od (G 1 (u_S_l00Src x9.2)))]) (q (oMv j j)<|q (oBi j j j j)<|nl)<|us<|Go.join (fun st=>∃x_5_r6,∃s_o0_0_r6,∃s_o0_1_r6,∃s_o0_2_r6,spec_l00Src_pick_k6 n_1 x_5_r6 s_o0_0_r6 s_o0_1_r6 s_o0_2_r6=some r∧st.norm ([1,5],[0])=mk [(1,iv n_1),(5,iv x_5_r6)] [(0,Od [Ct 1 (W 1 (eK .u8) s_o0_0_r6),C (I s_o0_1_r6),C (.sc (.int .u64 s_o0_2_r6))])]) ?_ ?_
  ·rintro st ⟨x_5_r6,s_o0_0_r6,s_o0_1_r6,s_o0_2_r6,h,hst⟩
   unfold spec_l00Src_pick_k6 at h
   refine us<|gs<|?_
   obtain ⟨x19,hx19,h⟩:=bs h
   refine g2 c41 j j hst (q (oMv j j)<|q (oMv j j)<|q (oRem j hx19 j j)<|q (oAsI j j)<|nl)<|us<|Go.ret (Unw.ret ?_)
   cases h
   exact fr rF41 j
  ·intro K3
   refine gc h j iDec (fun hc4 h=>?_) fun hc4 h=>?_
   ·obtain ⟨x15,hx15,h⟩:=bs h
    exact g0 j j (q (oMv j j)<|q (oBi j j j j)<|q (oMv j j)<|q (oCa (xs:=[.v false [.mp 0 0 0]]) (vs:=[(false,[.im 0 _])]) (v:=.v false [.im 0 _]) (L_spec_l00Src_next hx15) (.inl j) j kF51_53 j (ppP j j j pp0) j j (pbP j j pb0) j j j)<|q (oBi j j j j)<|q (oAsI j j)<|nl)<|K3 _ ⟨(w64 ((w64 (x9.1*256))+x15.1)),x15.2.code,x15.2.at_,x15.2.seed,h,(by kernel_rfl)⟩
   ·exact Go.skip<|K3 _ ⟨x9.1,x9.2.code,x9.2.at_,x9.2.seed,h,(by kernel_rfl)⟩
theorem L_spec_l00Src_among {s_0:S_l00Src} {list_1:(List Int)} {r:(Int×S_l00Src)} (h:spec_l00Src_among s_0 list_1=some r):FX 42 [.ptr true [(.imm,W 1 (eK .u8) s_0.code),(.imm,I s_0.at_),(.imm,.sc (.int .u64 s_0.seed))],.im 2 false [W 1 eI list_1]] ([(false,[.im 0 (I r.1)])],[.ptr true [(.imm,W 1 (eK .u8) r.2.code),(.imm,I r.2.at_),(.imm,.sc (.int .u64 r.2.seed))]]):=by
 unfold spec_l00Src_among at h
 refine FL_goS (A:=[(0,M 0),(1,D 2 (W 1 eI list_1))]) (B:=[(0,Od (G 1 (u_S_l00Src s_0))),(1,none)]) (nt:=12) rfl rfl Tryd.func42 rfl rfl rfl rfl ?_
 refine gs<|g0 j j (q (oAsI j j)<|nl)<|us<|gs<|?_
 obtain ⟨x9,hx9,h⟩:=bs h
 obtain ⟨x10,hx10,h⟩:=bs h
 refine g0 j j (q (oMv j j)<|q (oMv j j)<|q (oMv j j)<|q (oLnI j j uF38 j)<|q (oCa (xs:=[.v false [.mp 0 0 0],.v false [.im 0 _]]) (vs:=[(false,[.im 0 _])]) (v:=.v false [.im 0 _]) (L_spec_l00Src_pick hx9) (.inl j) j kF41_53_2 j (ppP j j j (ppC j pp0)) j j (pbP j j pb0) j j j)<|q (oIAI j hx10 sF38 j j)<|q (oLd (cs:=[.im 2 _]) j tF2 j j)<|q (oAsI j j)<|nl)<|us<|Go.ret (Unw.ret ?_)
 cases h
 exact fr rF42 j
theorem L_spec_l30DrawRoom {s_0:S_l00Src} {r:(S_Room×S_l00Src)} (h:spec_l30DrawRoom s_0=some r):FX 27 [.ptr true [(.imm,W 1 (eK .u8) s_0.code),(.imm,I s_0.at_),(.imm,.sc (.int .u64 s_0.seed))]] ([(true,J 0 (u_S_Room r.1))],[.ptr true [(.imm,W 1 (eK .u8) r.2.code),(.imm,I r.2.at_),(.imm,.sc (.int .u64 r.2.seed))]]):=by
 unfold spec_l30DrawRoom at h
 refine FL_goS (A:=[(0,M 0)]) (B:=[(0,Od (G 1 (u_S_l00Src s_0)))]) (nt:=27) rfl rfl Tryd.func27 rfl rfl rfl rfl ?_
 refine gs<|g0 j j (q (oAl j tF25 (tkI (tkI tk0)))<|nl)<|us<|gs<|?_
 obtain ⟨x5,hx5,h⟩:=bs h
 refine g0 j j (q (oMv j j)<|q (oCa (xs:=[.v false [.mp 0 0 0],.v false [.im 0 _]]) (vs:=[(false,[.im 0 _])]) (v:=.v false [.im 0 _]) (L_spec_l00Src_pick hx5) (.inl j) j kF41_53_2 j (ppP j j j (ppC j pp0)) j j (pbP j j pb0) j j j)<|q (oBi j j j j)<|q (oBu (cs:=[.im 0 _,.im 0 _]) j bF25 j)<|q (oAl j tF25 (tkI (tkI tk0)))<|q (oSt tF25 j j j (tkI (tkI tk0)) j j j)<|nl)<|us<|gs<|?_
 obtain ⟨x9,hx9,h⟩:=bs h
 refine g1 j j (mk [(0,M 0),(2,M 2),(3,M 3)] [(0,Od (G 1 (u_S_l00Src x5.2))),(2,Oa [C (I 0),C (I 0)]),(3,Oa [C (I (w64 (20+x5.1))),C (I 0)])]) (q (oMv j j)<|q (oCa (xs:=[.v false [.mp 0 0 0],.v false [.im 0 _]]) (vs:=[(false,[.im 0 _])]) (v:=.v false [.im 0 _]) (L_spec_l00Src_pick hx9) (.inl j) j kF41_53_2 j (ppP j j j (ppC j pp0)) j j (pbP j j pb0) j j j)<|q (oBi j j j j)<|q (oFA (r':=.mp 3 0 1) j fF25_1 j j)<|q (oSt tF2 j j j (tkI tk0) j j j)<|nl)<|us<|gs<|gs<|?_
 obtain ⟨x13,hx13,h⟩:=bs h
 refine g1 j j (mk [(0,M 0),(2,M 2),(3,M 3)] [(0,Od (G 1 (u_S_l00Src x9.2))),(2,Oa [C (I 0),C (I 0)]),(3,Oa [C (I (w64 (20+x5.1))),C (I (w64 (10+x9.1)))])]) (q (oMv j j)<|q (oCa (xs:=[.v false [.mp 0 0 0],.v false [.im 0 _]]) (vs:=[(false,[.im 0 _])]) (v:=.v false [.im 0 _]) (L_spec_l00Src_pick hx13) (.inl j) j kF41_53_2 j (ppP j j j (ppC j pp0)) j j (pbP j j pb0) j j j)<|nl)<|us<|Go.join (fun st=>∃s_o0_0_r8,∃s_o0_1_r8,∃s_o0_2_r8,∃r_o3_0_r8,∃r_o3_1_r8,spec_l30DrawRoom_k8 s_o0_0_r8 s_o0_1_r8 s_o0_2_r8 r_o3_0_r8 r_o3_1_r8=some r∧st.norm ([2,3],[0,2,3])=mk [(2,M 2),(3,M 3)] [(0,Od [Ct 1 (W 1 (eK .u8) s_o0_0_r8),C (I s_o0_1_r8),C (.sc (.int .u64 s_o0_2_r8))]),(2,Oa [C (I 0),C (I 0)]),(3,Oa [C (I r_o3_0_r8),C (I r_o3_1_r8)])]) ?_ ?_
 ·rintro st ⟨s_o0_0_r8,s_o0_1_r8,s_o0_2_r8,r_o3_0_r8,r_o3_1_r8,h,hst⟩
  unfold spec_l30DrawRoom_k8 at h
  refine us<|gs<|g2 c27 j j hst (q (oLd (cs:=[.im 0 _,.im 0 _]) j tF25 j j)<|q (oSt tF25 j j j (tkI (tkI tk0)) j j j)<|nl)<|us<|Go.ret (Unw.ret ?_)
  cases h
  exact fr rF27 j
 ·intro K3
  refine Go.block<|gs<|g1 j j (mk [(0,M 0),(2,M 2),(3,M 3),(13,iv x13.1)] [(0,Od (G 1 (u_S_l00Src x13.2))),(2,Oa [C (I 0),C (I 0)]),(3,Oa [C (I (w64 (20+x5.1))),C (I (w64 (10+x9.1)))])]) (q (oBi j j j j)<|q (oAsI j j)<|nl)<|us<|gc h j iEq (fun hc4 h=>?_) fun hc4 h=>?_
  ·obtain ⟨x18,hx18,h⟩:=bs h
   exact g0 j j (q (oMv j j)<|q (oBS (es:=List.map eI ([0,1,20000,20001]:List Int)) j sF38 j (ptC j (fxI fx0) j (ptC j (fxI fx0) j (ptC j (fxI fx0) j (ptC j (fxI fx0) j pt0)))) (flat0 j fun _=>j))<|q (oCa (xs:=[.v false [.mp 0 0 0],.v false [.own 17 0 0]]) (vs:=[(false,[.im 0 _])]) (v:=.v false [.im 0 _]) (L_spec_l00Src_among hx18) (.inl j) j kF42_53_38 j (ppP j j j (ppC j pp0)) j j (pbP j j pb0) j j j)<|q (oFA (r':=.mp 3 0 0) j fF25_0 j j)<|q (oSt tF2 j j j (tkI tk0) j j j)<|nl)<|Unw.blk<|K3 _ ⟨x18.2.code,x18.2.at_,x18.2.seed,x18.1,(w64 (10+x9.1)),h,(by kernel_rfl)⟩
  ·refine gs<|g0 j j (q (oBi j j j j)<|q (oAsI j j)<|nl)<|us<|gc h j iEq (fun hc5 h=>?_) fun hc5 h=>?_
   ·obtain ⟨x24,hx24,h⟩:=bs h
    exact g0 j j (q (oMv j j)<|q (oBS (es:=List.map eI ([0,1,400,401,20001]:List Int)) j sF38 j (ptC j (fxI fx0) j (ptC j (fxI fx0) j (ptC j (fxI fx0) j (ptC j (fxI fx0) j (ptC j (fxI fx0) j pt0))))) (flat0 j fun _=>j))<|q (oCa (xs:=[.v false [.mp 0 0 0],.v false [.own 23 0 0]]) (vs:=[(false,[.im 0 _])]) (v:=.v false [.im 0 _]) (L_spec_l00Src_among hx24) (.inl j) j kF42_53_38 j (ppP j j j (ppC j pp0)) j j (pbP j j pb0) j j j)<|q (oFA (r':=.mp 3 0 1) j fF25_1 j j)<|q (oSt tF2 j j j (tkI tk0) j j j)<|nl)<|Unw.blk<|K3 _ ⟨x24.2.code,x24.2.at_,x24.2.seed,(w64 (20+x5.1)),x24.1,h,(by kernel_rfl)⟩
   ·exact Go.skip<|Unw.blk<|K3 _ ⟨x13.2.code,x13.2.at_,x13.2.seed,(w64 (20+x5.1)),(w64 (10+x9.1)),h,(by kernel_rfl)⟩
theorem L_spec_l30DrawStock {s_0:S_l00Src} {r:(S_Stock×S_l00Src)} (h:spec_l30DrawStock s_0=some r):FX 28 [.ptr true [(.imm,W 1 (eK .u8) s_0.code),(.imm,I s_0.at_),(.imm,.sc (.int .u64 s_0.seed))]] ([(true,J 0 (u_S_Stock r.1))],[.ptr true [(.imm,W 1 (eK .u8) r.2.code),(.imm,I r.2.at_),(.imm,.sc (.int .u64 r.2.seed))]]):=by
 unfold spec_l30DrawStock at h
 refine FL_goS (A:=[(0,M 0)]) (B:=[(0,Od (G 1 (u_S_l00Src s_0)))]) (nt:=58) rfl rfl Tryd.func28 rfl rfl rfl rfl ?_
 refine gs<|g0 j j (q (oAl j tF35 (tkI (tkI (tkI (tkI tk0)))))<|nl)<|us<|gs<|?_
 obtain ⟨x5,hx5,h⟩:=bs h
 obtain ⟨x8,hx8,h⟩:=bs h
 refine g0 j j (q (oMv j j)<|q (oCa (xs:=[.v false [.mp 0 0 0],.v false [.im 0 _]]) (vs:=[(false,[.im 0 _])]) (v:=.v false [.im 0 _]) (L_spec_l00Src_pick hx5) (.inl j) j kF41_53_2 j (ppP j j j (ppC j pp0)) j j (pbP j j pb0) j j j)<|q (oBi j j j j)<|q (oMv j j)<|q (oCa (xs:=[.v false [.mp 0 0 0],.v false [.im 0 _]]) (vs:=[(false,[.im 0 _])]) (v:=.v false [.im 0 _]) (L_spec_l00Src_pick hx8) (.inl j) j kF41_53_2 j (ppP j j j (ppC j pp0)) j j (pbP j j pb0) j j j)<|q (oBi j j j j)<|q (oBu (cs:=[.im 0 _,.im 0 _,.im 0 _,.im 0 _]) j bF35 j)<|q (oAl j tF35 (tkI (tkI (tkI (tkI tk0)))))<|q (oSt tF35 j j j (tkI (tkI (tkI (tkI tk0)))) j j j)<|nl)<|us<|gs<|?_
 obtain ⟨x12,hx12,h⟩:=bs h
 refine g1 j j (mk [(0,M 0),(2,M 2),(3,M 3)] [(0,Od (G 1 (u_S_l00Src x8.2))),(2,Oa [C (I 0),C (I 0),C (I 0),C (I 0)]),(3,Oa [C (I (w64 (20+x5.1))),C (I (w64 (10+x8.1))),C (I 0),C (I 0)])]) (q (oMv j j)<|q (oCa (xs:=[.v false [.mp 0 0 0],.v false [.im 0 _]]) (vs:=[(false,[.im 0 _])]) (v:=.v false [.im 0 _]) (L_spec_l00Src_pick hx12) (.inl j) j kF41_53_2 j (ppP j j j (ppC j pp0)) j j (pbP j j pb0) j j j)<|q (oBi j j j j)<|q (oFA (r':=.mp 3 0 2) j fF35_2 j j)<|q (oSt tF2 j j j (tkI tk0) j j j)<|nl)<|us<|gs<|?_
 obtain ⟨x18,hx18,h⟩:=bs h
 obtain ⟨x20,hx20,h⟩:=bs h
 refine g1 j j (mk [(0,M 0),(2,M 2),(3,M 3)] [(0,Od (G 1 (u_S_l00Src x12.2))),(2,Oa [C (I 0),C (I 0),C (I 0),C (I 0)]),(3,Oa [C (I (w64 (20+x5.1))),C (I (w64 (10+x8.1))),C (I (w64 (1+x12.1))),C (I 0)])]) (q (oMv j j)<|q (oFA (r':=.mp 3 0 0) j fF35_0 j j)<|q (oLd (cs:=[.im 0 _]) j tF2 j j)<|q (oQuo j hx18 j j)<|q (oBS (es:=List.map eI ([0,3,5,x18,8]:List Int)) j sF38 j (ptC j (fxI fx0) j (ptC j (fxI fx0) j (ptC j (fxI fx0) j (ptC j (fxI fx0) j (ptC j (fxI fx0) j pt0))))) (flat0 j fun _=>j))<|q (oCa (xs:=[.v false [.mp 0 0 0],.v false [.own 19 0 0]]) (vs:=[(false,[.im 0 _])]) (v:=.v false [.im 0 _]) (L_spec_l00Src_among hx20) (.inl j) j kF42_53_38 j (ppP j j j (ppC j pp0)) j j (pbP j j pb0) j j j)<|q (oFA (r':=.mp 3 0 3) j fF35_3 j j)<|q (oSt tF2 j j j (tkI tk0) j j j)<|nl)<|us<|gs<|gs<|?_
 obtain ⟨x23,hx23,h⟩:=bs h
 refine g1 j j (mk [(0,M 0),(2,M 2),(3,M 3)] [(0,Od (G 1 (u_S_l00Src x20.2))),(2,Oa [C (I 0),C (I 0),C (I 0),C (I 0)]),(3,Oa [C (I (w64 (20+x5.1))),C (I (w64 (10+x8.1))),C (I (w64 (1+x12.1))),C (I x20.1)])]) (q (oMv j j)<|q (oCa (xs:=[.v false [.mp 0 0 0],.v false [.im 0 _]]) (vs:=[(false,[.im 0 _])]) (v:=.v false [.im 0 _]) (L_spec_l00Src_pick hx23) (.inl j) j kF41_53_2 j (ppP j j j (ppC j pp0)) j j (pbP j j pb0) j j j)<|nl)<|us<|Go.join (fun st=>∃s_o0_0_r13,∃s_o0_1_r13,∃s_o0_2_r13,∃k_o3_0_r13,∃k_o3_1_r13,∃k_o3_2_r13,∃k_o3_3_r13,spec_l30DrawStock_k13 s_o0_0_r13 s_o0_1_r13 s_o0_2_r13 k_o3_0_r13 k_o3_1_r13 k_o3_2_r13 k_o3_3_r13=some r∧st.norm ([2,3],[0,2,3])=mk [(2,M 2),(3,M 3)] [(0,Od [Ct 1 (W 1 (eK .u8) s_o0_0_r13),C (I s_o0_1_r13),C (.sc (.int .u64 s_o0_2_r13))]),(2,Oa [C (I 0),C (I 0),C (I 0),C (I 0)]),(3,Oa [C (I k_o3_0_r13),C (I k_o3_1_r13),C (I k_o3_2_r13),C (I k_o3_3_r13)])]) ?_ ?_
 ·rintro st ⟨s_o0_0_r13,s_o0_1_r13,s_o0_2_r13,k_o3_0_r13,k_o3_1_r13,k_o3_2_r13,k_o3_3_r13,h,hst⟩
  unfold spec_l30DrawStock_k13 at h
  refine us<|gs<|g2 c28 j j hst (q (oLd (cs:=[.im 0 _,.im 0 _,.im 0 _,.im 0 _]) j tF35 j j)<|q (oSt tF35 j j j (tkI (tkI (tkI (tkI tk0)))) j j j)<|nl)<|us<|Go.ret (Unw.ret ?_)
  cases h
  exact fr rF28 j
 ·intro K5
  refine Go.block<|gs<|g1 j j (mk [(0,M 0),(2,M 2),(3,M 3),(23,iv x23.1)] [(0,Od (G 1 (u_S_l00Src x23.2))),(2,Oa [C (I 0),C (I 0),C (I 0),C (I 0)]),(3,Oa [C (I (w64 (20+x5.1))),C (I (w64 (10+x8.1))),C (I (w64 (1+x12.1))),C (I x20.1)])]) (q (oBi j j j j)<|q (oAsI j j)<|nl)<|us<|gc h j iEq (fun hc6 h=>?_) fun hc6 h=>?_
  ·obtain ⟨x28,hx28,h⟩:=bs h
   exact g0 j j (q (oMv j j)<|q (oBS (es:=List.map eI ([9,10,5000,5001]:List Int)) j sF38 j (ptC j (fxI fx0) j (ptC j (fxI fx0) j (ptC j (fxI fx0) j (ptC j (fxI fx0) j pt0)))) (flat0 j fun _=>j))<|q (oCa (xs:=[.v false [.mp 0 0 0],.v false [.own 27 0 0]]) (vs:=[(false,[.im 0 _])]) (v:=.v false [.im 0 _]) (L_spec_l00Src_among hx28) (.inl j) j kF42_53_38 j (ppP j j j (ppC j pp0)) j j (pbP j j pb0) j j j)<|q (oFA (r':=.mp 3 0 0) j fF35_0 j j)<|q (oSt tF2 j j j (tkI tk0) j j j)<|nl)<|Unw.blk<|K5 _ ⟨x28.2.code,x28.2.at_,x28.2.seed,x28.1,(w64 (10+x8.1)),(w64 (1+x12.1)),x20.1,h,(by kernel_rfl)⟩
  ·refine gs<|g0 j j (q (oBi j j j j)<|q (oAsI j j)<|nl)<|us<|gc h j iEq (fun hc7 h=>?_) fun hc7 h=>?_
   ·obtain ⟨x34,hx34,h⟩:=bs h
    exact g0 j j (q (oMv j j)<|q (oBS (es:=List.map eI ([9,1000,1001]:List Int)) j sF38 j (ptC j (fxI fx0) j (ptC j (fxI fx0) j (ptC j (fxI fx0) j pt0))) (flat0 j fun _=>j))<|q (oCa (xs:=[.v false [.mp 0 0 0],.v false [.own 33 0 0]]) (vs:=[(false,[.im 0 _])]) (v:=.v false [.im 0 _]) (L_spec_l00Src_among hx34) (.inl j) j kF42_53_38 j (ppP j j j (ppC j pp0)) j j (pbP j j pb0) j j j)<|q (oFA (r':=.mp 3 0 1) j fF35_1 j j)<|q (oSt tF2 j j j (tkI tk0) j j j)<|nl)<|Unw.blk<|K5 _ ⟨x34.2.code,x34.2.at_,x34.2.seed,(w64 (20+x5.1)),x34.1,(w64 (1+x12.1)),x20.1,h,(by kernel_rfl)⟩
   ·refine gs<|g0 j j (q (oBi j j j j)<|q (oAsI j j)<|nl)<|us<|gc h j iEq (fun hc8 h=>?_) fun hc8 h=>?_
    ·obtain ⟨x45,hx45,h⟩:=bs h
     exact g0 j j (q (oMv j j)<|q (oFA (r':=.mp 3 0 0) j fF35_0 j j)<|q (oLd (cs:=[.im 0 _]) j tF2 j j)<|q (oFA (r':=.mp 3 0 0) j fF35_0 j j)<|q (oLd (cs:=[.im 0 _]) j tF2 j j)<|q (oBi j j j j)<|q (oBS (es:=List.map eI ([0,(w64 (20+x5.1)),(w64 ((w64 (20+x5.1))+1))]:List Int)) j sF38 j (ptC j (fxI fx0) j (ptC j (fxI fx0) j (ptC j (fxI fx0) j pt0))) (flat0 j fun _=>j))<|q (oCa (xs:=[.v false [.mp 0 0 0],.v false [.own 44 0 0]]) (vs:=[(false,[.im 0 _])]) (v:=.v false [.im 0 _]) (L_spec_l00Src_among hx45) (.inl j) j kF42_53_38 j (ppP j j j (ppC j pp0)) j j (pbP j j pb0) j j j)<|q (oFA (r':=.mp 3 0 2) j fF35_2 j j)<|q (oSt tF2 j j j (tkI tk0) j j j)<|nl)<|Unw.blk<|K5 _ ⟨x45.2.code,x45.2.at_,x45.2.seed,(w64 (20+x5.1)),(w64 (10+x8.1)),x45.1,x20.1,h,(by kernel_rfl)⟩
    ·refine gs<|g0 j j (q (oBi j j j j)<|q (oAsI j j)<|nl)<|us<|gc h j iEq (fun hc9 h=>?_) fun hc9 h=>?_
     ·obtain ⟨x52,hx52,h⟩:=bs h
      obtain ⟨x55,hx55,h⟩:=bs h
      exact g0 j j (q (oMv j j)<|q (oFA (r':=.mp 3 0 0) j fF35_0 j j)<|q (oLd (cs:=[.im 0 _]) j tF2 j j)<|q (oQuo j hx52 j j)<|q (oBi j j j j)<|q (oBS (es:=List.map eI ([(-1),(w64 (x52+1))]:List Int)) j sF38 j (ptC j (fxI fx0) j (ptC j (fxI fx0) j pt0)) (flat0 j fun _=>j))<|q (oCa (xs:=[.v false [.mp 0 0 0],.v false [.own 54 0 0]]) (vs:=[(false,[.im 0 _])]) (v:=.v false [.im 0 _]) (L_spec_l00Src_among hx55) (.inl j) j kF42_53_38 j (ppP j j j (ppC j pp0)) j j (pbP j j pb0) j j j)<|q (oFA (r':=.mp 3 0 3) j fF35_3 j j)<|q (oSt tF2 j j j (tkI tk0) j j j)<|nl)<|Unw.blk<|K5 _ ⟨x55.2.code,x55.2.at_,x55.2.seed,(w64 (20+x5.1)),(w64 (10+x8.1)),(w64 (1+x12.1)),x55.1,h,(by kernel_rfl)⟩
     ·exact Go.skip<|Unw.blk<|K5 _ ⟨x23.2.code,x23.2.at_,x23.2.seed,(w64 (20+x5.1)),(w64 (10+x8.1)),(w64 (1+x12.1)),x20.1,h,(by kernel_rfl)⟩
theorem L_spec_l00Src_one {s_0:S_l00Src} {n_1:Int} {r:(Bool×S_l00Src)} (h:spec_l00Src_one s_0 n_1=some r):FX 43 [.ptr true [(.imm,W 1 (eK .u8) s_0.code),(.imm,I s_0.at_),(.imm,.sc (.int .u64 s_0.seed))],.im 2 false [I n_1]] ([(false,[.im 0 (V r.1)])],[.ptr true [(.imm,W 1 (eK .u8) r.2.code),(.imm,I r.2.at_),(.imm,.sc (.int .u64 r.2.seed))]]):=by
 unfold spec_l00Src_one at h
 refine FL_goS (A:=[(0,M 0),(1,D 2 (I n_1))]) (B:=[(0,Od (G 1 (u_S_l00Src s_0))),(1,none)]) (nt:=9) rfl rfl Tryd.func43 rfl rfl rfl rfl ?_
 refine gs<|g0 j j (q (oAsI j j)<|nl)<|us<|gs<|?_
 obtain ⟨x7,hx7,h⟩:=bs h
 refine g0 j j (q (oMv j j)<|q (oMv j j)<|q (oCa (xs:=[.v false [.mp 0 0 0],.v false [.im 2 _]]) (vs:=[(false,[.im 0 _])]) (v:=.v false [.im 0 _]) (L_spec_l00Src_pick hx7) (.inl j) j kF41_53_2 j (ppP j j j (ppC j pp0)) j j (pbP j j pb0) j j j)<|q (oBi j j j j)<|q (oAsI j j)<|nl)<|us<|Go.ret (Unw.ret ?_)
 cases h
 exact fr rF43 j
theorem L_spec_l00Max {a_0:Int} {b_1:Int} {r:Int} (h:spec_l00Max a_0 b_1=some r):FX 44 [.im 2 false [I a_0],.im 2 false [I b_1]] (B0 [(false,[.im 0 (I r)])]):=by
 unfold spec_l00Max at h
 refine gn 10 Tryd.func44 rfl ?_
 refine gs<|g0 j j (q (oAsI j j)<|nl)<|us<|gs<|gs<|g0 j j (q (oMv j j)<|q (oMv j j)<|q (oBi j j j j)<|nl)<|us<|gc h j iDec (fun hc1 h=>?_) fun hc1 h=>?_
 ·refine gs<|g0 j j (q (oMv j j)<|q (oAsI j j)<|nl)<|us<|Go.ret (Unw.ret ?_)
  cases h
  exact fr rF44 j
 ·refine Go.skip<|us<|gs<|g0 j j (q (oMv j j)<|q (oAsI j j)<|nl)<|us<|Go.ret (Unw.ret ?_)
  cases h
  exact fr rF44 j
theorem L_spec_l30DrawFirst {s_0:S_l00Src} {k_1:S_Stock} {r:(Int×S_l00Src)} (h:spec_l30DrawFirst s_0 k_1=some r):FX 29 [.ptr true [(.imm,W 1 (eK .u8) s_0.code),(.imm,I s_0.at_),(.imm,.sc (.int .u64 s_0.seed))],.im 2 false [.cp (u_S_Stock k_1) 0]] ([(false,[.im 0 (I r.1)])],[.ptr true [(.imm,W 1 (eK .u8) r.2.code),(.imm,I r.2.at_),(.imm,.sc (.int .u64 r.2.seed))]]):=by
 unfold spec_l30DrawFirst at h
 refine FL_goS (A:=[(0,M 0),(1,D 2 (.cp (u_S_Stock k_1) 0))]) (B:=[(0,Od (G 1 (u_S_l00Src s_0))),(1,none)]) (nt:=40) rfl rfl Tryd.func29 rfl rfl rfl rfl ?_
 refine gs<|g0 j j (q (oAsI j j)<|nl)<|us<|gs<|gs<|?_
 obtain ⟨x6,hx6,h⟩:=bs h
 refine g0 j j (q (oMv j j)<|q (oCa (xs:=[.v false [.mp 0 0 0],.v false [.im 0 _]]) (vs:=[(false,[.im 0 _])]) (v:=.v false [.im 0 _]) (L_spec_l00Src_one hx6) (.inl j) j kF43_53_2 j (ppP j j j (ppC j pp0)) j j (pbP j j pb0) j j j)<|nl)<|us<|gc h j iR (fun hc1 h=>?_) fun hc1 h=>?_
 ·refine gs<|?_
  obtain ⟨x27,hx27,h⟩:=bs h
  refine gd c29 j j j (st1:=mk [(0,M 0),(1,D 2 (.cp (u_S_Stock k_1) 0))] [(0,Od (G 1 (u_S_l00Src x6.2)))]) (by kernel_rfl) (mk [(4,iv x27.1)] [(0,Od (G 1 (u_S_l00Src x27.2)))]) (t j j (oMv j j)<|t j j (oMv j j)<|t j j (oNl j j j)<|t j j (oFA (r':=.im 2 _) j fF35_2 j j)<|t j j (oLd (cs:=[.im 2 _]) j tF2 j j)<|t j j (oBi j j j j)<|t j j (oMv j j)<|t j j (oNl j j j)<|t j j (oFA (r':=.im 2 _) j fF35_2 j j)<|t j j (oLd (cs:=[.im 2 _]) j tF2 j j)<|t j j (oMv j j)<|t j j (oNl j j j)<|t j j (oFA (r':=.im 2 _) j fF35_0 j j)<|t j j (oLd (cs:=[.im 2 _]) j tF2 j j)<|t j j (oMv j j)<|t j j (oNl j j j)<|t j j (oFA (r':=.im 2 _) j fF35_0 j j)<|t j j (oLd (cs:=[.im 2 _]) j tF2 j j)<|t j j (oBi j j j j)<|sS (dN z29 j (oBS (es:=List.map eI ([(w64 (k_1.Least - 1)),k_1.Least,k_1.Board,(w64 (k_1.Board+1))]:List Int)) j sF38 j (ptC j (fxI fx0) j (ptC j (fxI fx0) j (ptC j (fxI fx0) j (ptC j (fxI fx0) j pt0)))) (flat0 j fun _=>j))) trivial (sS (dN z29 j (oCa (xs:=[.v false [.mp 0 0 0],.v false [.own 26 0 0]]) (vs:=[(false,[.im 0 _])]) (v:=.v false [.im 0 _]) (L_spec_l00Src_among hx27) (.inl j) j kF42_53_38 j (ppP j j j (ppC j pp0)) j j (pbP j j pb0) j j j)) trivial (sS (dN z29 j (oAsI j j)) trivial (sD (by kernel_rfl)))))<|us<|Go.ret (Unw.ret ?_)
  cases h
  exact fr rF29 j
 ·refine Go.skip<|us<|gs<|?_
  obtain ⟨x37,hx37,h⟩:=bs h
  obtain ⟨x38,hx38,h⟩:=bs h
  refine gd c29 j j j (st1:=mk [(0,M 0),(1,D 2 (.cp (u_S_Stock k_1) 0))] [(0,Od (G 1 (u_S_l00Src x6.2)))]) (by kernel_rfl) (mk [(4,iv (w64 (k_1.Board - x38.1)))] [(0,Od (G 1 (u_S_l00Src x38.2)))]) (t j j (oMv j j)<|t j j (oNl j j j)<|t j j (oFA (r':=.im 2 _) j fF35_0 j j)<|t j j (oLd (cs:=[.im 2 _]) j tF2 j j)<|t j j (oMv j j)<|t j j (oMv j j)<|t j j (oNl j j j)<|t j j (oFA (r':=.im 2 _) j fF35_0 j j)<|t j j (oLd (cs:=[.im 2 _]) j tF2 j j)<|sS (dN z29 j (oCa (xs:=[.v false [.im 0 _],.v false [.im 2 _]]) (vs:=[(false,[.im 0 _])]) (v:=.v false [.im 0 _]) (L_spec_l00Max hx37) (.inl j) j kF44_2_2 j (ppC j (ppC j pp0)) j j pb0 j j j)) trivial (sS (dN z29 j (oCa (xs:=[.v false [.mp 0 0 0],.v false [.im 0 _]]) (vs:=[(false,[.im 0 _])]) (v:=.v false [.im 0 _]) (L_spec_l00Src_pick hx38) (.inl j) j kF41_53_2 j (ppP j j j (ppC j pp0)) j j (pbP j j pb0) j j j)) trivial (t j j (oBi j j j j)<|sS (dN z29 j (oAsI j j)) trivial (sD (by kernel_rfl)))))<|us<|Go.ret (Unw.ret ?_)
  cases h
  exact fr rF29 j
theorem L_spec_DrawRowPieces {code_0:(List Int)} {r:(S_Room×S_Stock×Int)} (h:spec_DrawRowPieces code_0=some r):FX 13 [.im 2 false [W 1 (eK .u8) code_0]] (B0 [(true,J 0 (u_S_Room r.1)),(true,J 0 (u_S_Stock r.2.1)),(false,[.im 0 (I r.2.2)])]):=by
 unfold spec_DrawRowPieces at h
 refine gn 18 Tryd.func13 rfl ?_
 refine gs<|g0 j j (q (oAl j tF25 (tkI (tkI tk0)))<|q (oAl j tF35 (tkI (tkI (tkI (tkI tk0)))))<|q (oAsI j j)<|nl)<|us<|gs<|?_
 obtain ⟨x9,hx9,h⟩:=bs h
 refine g0 j j (q (oMv j j)<|q (oCp (xs:=[.v false [.im 2 _]]) (L_spec_l00From hx9) (.inl j) j kF26_32 j (ppC j pp0) j j pb0 j)<|q (oAsP j j)<|nl)<|us<|gs<|?_
 obtain ⟨x11,hx11,h⟩:=bs h
 refine g0 j j (q (oMv j j)<|q (oCa (xs:=[.v false [.mp 9 0 0]]) (vs:=[(true,[.im 0 _,.im 0 _])]) (v:=.v true [.im 0 _,.im 0 _]) (L_spec_l30DrawRoom hx11) (.inl j) j kF27_53 j (ppP j j j pp0) j j (pbP j j pb0) j j j)<|q (oAl j tF25 (tkI (tkI tk0)))<|q (oSt tF25 j j j (tkI (tkI tk0)) j j j)<|nl)<|us<|gs<|?_
 obtain ⟨x13,hx13,h⟩:=bs h
 refine g1 j j (mk [(2,M 2),(3,M 3),(5,M 9),(6,M 6)] [(2,Oa [C (I 0),C (I 0)]),(3,Oa [C (I 0),C (I 0),C (I 0),C (I 0)]),(6,Oa (G 0 (u_S_Room x11.1))),(9,Oa (G 2 (u_S_l00Src x11.2)))]) (q (oMv j j)<|q (oCa (xs:=[.v false [.mp 9 0 0]]) (vs:=[(true,[.im 0 _,.im 0 _,.im 0 _,.im 0 _])]) (v:=.v true [.im 0 _,.im 0 _,.im 0 _,.im 0 _]) (L_spec_l30DrawStock hx13) (.inl j) j kF28_53 j (ppP j j j pp0) j j (pbP j j pb0) j j j)<|q (oAl j tF35 (tkI (tkI (tkI (tkI tk0)))))<|q (oSt tF35 j j j (tkI (tkI (tkI (tkI tk0)))) j j j)<|nl)<|us<|gs<|?_
 obtain ⟨x17,hx17,h⟩:=bs h
 refine gd c13 j j j (st1:=mk [(2,M 2),(3,M 3),(5,M 9),(6,M 6),(7,M 7)] [(2,Oa [C (I 0),C (I 0)]),(3,Oa [C (I 0),C (I 0),C (I 0),C (I 0)]),(6,Oa (G 0 (u_S_Room x11.1))),(7,Oa (G 0 (u_S_Stock x13.1))),(9,Oa (G 2 (u_S_l00Src x13.2)))]) (by kernel_rfl) (mk [(2,M 2),(3,M 3),(4,iv x17.1)] [(2,Oa (G 0 (u_S_Room x11.1))),(3,Oa (G 0 (u_S_Stock x13.1)))]) (t j j (oMv j j)<|sK (O:=[6]) j j j (dN z13 j (oLd (cs:=[.im 0 _,.im 0 _]) j tF25 j j))<|sF (dN z13 j (oLd (cs:=[.im 0 _,.im 0 _,.im 0 _,.im 0 _]) j tF35 j j)) (kY ⟨j,trivial⟩ trivial) (sS (dN z13 j (oCa (xs:=[.v false [.mp 9 0 0],.v false [.mp 7 0 0]]) (vs:=[(false,[.im 0 _])]) (v:=.v false [.im 0 _]) (L_spec_l30DrawFirst hx17) (.inl j) j kF29_53_58 j (ppP j j j (ppC j pp0)) j j (pbP j j pb0) j j j)) (kY ⟨j,trivial⟩ trivial) (sS (dN z13 j (oSt tF25 j j j (tkI (tkI tk0)) j j j)) (kN j trivial) (sS (dN z13 j (oSt tF35 j j j (tkI (tkI (tkI (tkI tk0)))) j j j)) (kN j trivial) (sS (dN z13 j (oAsI j j)) (kN j trivial) (sD (by kernel_rfl)))))) (sS (dN z13 j (oCa (xs:=[.v false [.mp 9 0 0],.v false [.mp 7 0 0]]) (vs:=[(false,[.im 0 _])]) (v:=.v false [.im 0 _]) (L_spec_l30DrawFirst hx17) (.inl j) j kF29_53_58 j (ppP j j j (ppC j pp0)) j j (pbP j j pb0) j j j)) (kY ⟨j,trivial⟩ trivial) (sF (dN z13 j (oLd (cs:=[.im 0 _,.im 0 _,.im 0 _,.im 0 _]) j tF35 j j)) (kY ⟨j,trivial⟩ trivial) (sS (dN z13 j (oSt tF25 j j j (tkI (tkI tk0)) j j j)) (kN j trivial) (sS (dN z13 j (oSt tF35 j j j (tkI (tkI (tkI (tkI tk0)))) j j j)) (kN j trivial) (sS (dN z13 j (oAsI j j)) (kN j trivial) (sD (by kernel_rfl))))) (sS (dN z13 j (oSt tF25 j j j (tkI (tkI tk0)) j j j)) (kN j trivial) (t j j (oLd (cs:=[.im 0 _,.im 0 _,.im 0 _,.im 0 _]) j tF35 j j)<|sS (dN z13 j (oSt tF35 j j j (tkI (tkI (tkI (tkI tk0)))) j j j)) (kN j trivial) (sS (dN z13 j (oAsI j j)) (kN j trivial) (sD (by kernel_rfl))))))))<|us<|Go.ret (Unw.ret ?_)
 cases h
 exact fr rF13 j
theorem L_impl_within {n_0:Int} {low_1:Int} {high_2:Int} {r:Bool} (h:impl_within n_0 low_1 high_2=some r):FX 35 [.im 2 false [I n_0],.im 2 false [I low_1],.im 2 false [I high_2]] (B0 [(false,[.im 0 (V r)])]):=by
 unfold impl_within at h
 refine gn 15 Tryd.func35 rfl ?_
 refine gs<|g0 j j (q (oAsI j j)<|nl)<|us<|gs<|gX c35 j j j (mk [(6,bv ((decide (n_0≥low_1))&&(decide (n_0≤high_2))))] []) ?_ ?_
 ·refine xq (oMv j j)<|xq (oMv j j)<|xq (oBi j j j j)<|xq (oMv j j)<|?_
  by_cases hc1:n_0≥low_1
  ·exact xqT rfl rfl (iDec.2 hc1) (oMv rfl rfl)<|xqT rfl rfl (iDec.2 hc1) (oMv rfl rfl)<|xqT rfl rfl (iDec.2 hc1) (oBi rfl rfl rfl rfl)<|xq (oPkT rfl rfl (iDec.2 hc1) rfl)<|xq (oAsI rfl rfl)<|xn (Eq.trans (b:=(fun t_6_m1:Bool=>mk [(6,bv t_6_m1)] []) (decide (n_0≤high_2))) (by kernel_rfl) (congrArg (fun t_6_m1:Bool=>mk [(6,bv t_6_m1)] []) (by first | rfl | (simp [(iDec.2 hc1)];done) | (simp [(iDec.2 hc1)];omega))))
  ·exact xsgF rfl rfl (byF iDec hc1) rfl<|xsgF rfl rfl (byF iDec hc1) rfl<|xsgF rfl rfl (byF iDec hc1) rfl<|xq (oPkF rfl rfl (byF iDec hc1) rfl)<|xq (oAsI rfl rfl)<|xn (Eq.trans (b:=(fun t_6_m1:Bool=>mk [(6,bv t_6_m1)] []) false) (by kernel_rfl) (congrArg (fun t_6_m1:Bool=>mk [(6,bv t_6_m1)] []) (by first | rfl | (simp [(byF iDec hc1)];done) | (simp [(byF iDec hc1)];omega))))
 ·refine us<|Go.ret (Unw.ret ?_)
  cases h
  exact fr rF35 j
theorem L_impl_ValidRoom {r_0:S_Room} {r:Bool} (h:impl_ValidRoom r_0=some r):FX 22 [.im 2 true (u_S_Room r_0)] (B0 [(false,[.im 0 (V r)])]):=by
 unfold impl_ValidRoom at h
 refine gn 11 Tryd.func22 rfl ?_
 refine gs<|g0 j j (q (oBx j tF25 j (tkI (tkI tk0)))<|q (oAsI j j)<|nl)<|us<|gs<|?_
 obtain ⟨x5,hx5,h⟩:=bs h
 obtain ⟨t_2_m1,hm2,h⟩:=bs h
 refine gX c22 j j j (mk [(2,bv t_2_m1)] []) ?_ ?_
 ·refine xq (oFA (r':=.mp 1 0 0) j fF25_0 j j)<|xq (oLd (cs:=[.im 0 _]) j tF2 j j)<|xq (oCa (xs:=[.v false [.im 0 _],.v false [.im 0 _],.v false [.im 0 _]]) (vs:=[(false,[.im 0 _])]) (v:=.v false [.im 0 _]) (L_impl_within hx5) (.inl j) j kF35_2_2_2 j (ppC j (ppC j (ppC j pp0))) j j pb0 j j j)<|xq (oMv j j)<|?_
  refine ic hm2 (fun hc1 hm2=>?_) fun hc1 hm2=>?_
  ·obtain ⟨x9,hx9,hm2⟩:=bs hm2
   cases hm2
   exact xqT j j (iR.2 hc1) (oFA (r':=.mp 1 0 1) j fF25_1 j j)<|xqT j j (iR.2 hc1) (oLd (cs:=[.im 0 _]) j tF2 j j)<|xqT j j (iR.2 hc1) (oCa (xs:=[.v false [.im 0 _],.v false [.im 0 _],.v false [.im 0 _]]) (vs:=[(false,[.im 0 _])]) (v:=.v false [.im 0 _]) (L_impl_within hx9) (.inl j) j kF35_2_2_2 j (ppC j (ppC j (ppC j pp0))) j j pb0 j j j)<|xq (oPkT j j (iR.2 hc1) j)<|xq (oAsI j j)<|xn
  ·cases hm2
   exact xsgF j j (byF iR hc1) j<|xsgF j j (byF iR hc1) j<|xsgF j j (byF iR hc1) j<|xq (oPkF j j (byF iR hc1) j)<|xq (oAsI j j)<|xn
 ·refine us<|Go.ret (Unw.ret ?_)
  cases h
  exact fr rF22 j
theorem L_impl_ValidStock {k_0:S_Stock} {r:Bool} (h:impl_ValidStock k_0=some r):FX 45 [.im 2 true (u_S_Stock k_0)] (B0 [(false,[.im 0 (V r)])]):=by
 unfold impl_ValidStock at h
 refine gn 26 Tryd.func45 rfl ?_
 refine gs<|g0 j j (q (oBx j tF35 j (tkI (tkI (tkI (tkI tk0)))))<|q (oAsI j j)<|nl)<|us<|gs<|?_
 obtain ⟨x5,hx5,h⟩:=bs h
 obtain ⟨t_2_m1,hm4,h⟩:=bs h
 refine gX c45 j j j (mk [(2,bv t_2_m1)] []) ?_ ?_
 ·refine xq (oFA (r':=.mp 1 0 0) j fF35_0 j j)<|xq (oLd (cs:=[.im 0 _]) j tF2 j j)<|xq (oCa (xs:=[.v false [.im 0 _],.v false [.im 0 _],.v false [.im 0 _]]) (vs:=[(false,[.im 0 _])]) (v:=.v false [.im 0 _]) (L_impl_within hx5) (.inl j) j kF35_2_2_2 j (ppC j (ppC j (ppC j pp0))) j j pb0 j j j)<|xq (oMv j j)<|?_
  refine ic hm4 (fun hc1 hm4=>?_) fun hc1 hm4=>?_
  ·obtain ⟨x9,hx9,hm4⟩:=bs hm4
   refine xqT j j (iR.2 hc1) (oFA (r':=.mp 1 0 1) j fF35_1 j j)<|xqT j j (iR.2 hc1) (oLd (cs:=[.im 0 _]) j tF2 j j)<|xqT j j (iR.2 hc1) (oCa (xs:=[.v false [.im 0 _],.v false [.im 0 _],.v false [.im 0 _]]) (vs:=[(false,[.im 0 _])]) (v:=.v false [.im 0 _]) (L_impl_within hx9) (.inl j) j kF35_2_2_2 j (ppC j (ppC j (ppC j pp0))) j j pb0 j j j)<|xq (oPkT j j (iR.2 hc1) j)<|xq (oMv j j)<|?_
   refine ic hm4 (fun hc2 hm4=>?_) fun hc2 hm4=>?_
   ·obtain ⟨x16,hx16,hm4⟩:=bs hm4
    refine xqT j j (iR.2 hc2) (oFA (r':=.mp 1 0 2) j fF35_2 j j)<|xqT j j (iR.2 hc2) (oLd (cs:=[.im 0 _]) j tF2 j j)<|xqT j j (iR.2 hc2) (oFA (r':=.mp 1 0 0) j fF35_0 j j)<|xqT j j (iR.2 hc2) (oLd (cs:=[.im 0 _]) j tF2 j j)<|xqT j j (iR.2 hc2) (oCa (xs:=[.v false [.im 0 _],.v false [.im 0 _],.v false [.im 0 _]]) (vs:=[(false,[.im 0 _])]) (v:=.v false [.im 0 _]) (L_impl_within hx16) (.inl j) j kF35_2_2_2 j (ppC j (ppC j (ppC j pp0))) j j pb0 j j j)<|xq (oPkT j j (iR.2 hc2) j)<|xq (oMv j j)<|?_
    refine ic hm4 (fun hc3 hm4=>?_) fun hc3 hm4=>?_
    ·obtain ⟨x23,hx23,hm4⟩:=bs hm4
     obtain ⟨x24,hx24,hm4⟩:=bs hm4
     cases hm4
     exact xqT j j (iR.2 hc3) (oFA (r':=.mp 1 0 3) j fF35_3 j j)<|xqT j j (iR.2 hc3) (oLd (cs:=[.im 0 _]) j tF2 j j)<|xqT j j (iR.2 hc3) (oFA (r':=.mp 1 0 0) j fF35_0 j j)<|xqT j j (iR.2 hc3) (oLd (cs:=[.im 0 _]) j tF2 j j)<|xqT j j (iR.2 hc3) (oQuo j hx23 j j)<|xqT j j (iR.2 hc3) (oCa (xs:=[.v false [.im 0 _],.v false [.im 0 _],.v false [.im 0 _]]) (vs:=[(false,[.im 0 _])]) (v:=.v false [.im 0 _]) (L_impl_within hx24) (.inl j) j kF35_2_2_2 j (ppC j (ppC j (ppC j pp0))) j j pb0 j j j)<|xq (oPkT j j (iR.2 hc3) j)<|xq (oAsI j j)<|xn
    ·cases hm4
     exact xsgF j j (byF iR hc3) j<|xsgF j j (byF iR hc3) j<|xsgF j j (byF iR hc3) j<|xsgF j j (byF iR hc3) j<|xsgF j j (byF iR hc3) j<|xsgF j j (byF iR hc3) j<|xq (oPkF j j (byF iR hc3) j)<|xq (oAsI j j)<|xn
   ·cases hm4
    exact xsgF j j (byF iR hc2) j<|xsgF j j (byF iR hc2) j<|xsgF j j (byF iR hc2) j<|xsgF j j (byF iR hc2) j<|xsgF j j (byF iR hc2) j<|xq (oPkF j j (byF iR hc2) j)<|xq (oMv j j)<|xsgF j j j j<|xsgF j j j j<|xsgF j j j j<|xsgF j j j j<|xsgF j j j j<|xsgF j j j j<|xq (oPkF j j j j)<|xq (oAsI j j)<|xn
  ·cases hm4
   exact xsgF j j (byF iR hc1) j<|xsgF j j (byF iR hc1) j<|xsgF j j (byF iR hc1) j<|xq (oPkF j j (byF iR hc1) j)<|xq (oMv j j)<|xsgF j j j j<|xsgF j j j j<|xsgF j j j j<|xsgF j j j j<|xsgF j j j j<|xq (oPkF j j j j)<|xq (oMv j j)<|xsgF j j j j<|xsgF j j j j<|xsgF j j j j<|xsgF j j j j<|xsgF j j j j<|xsgF j j j j<|xq (oPkF j j j j)<|xq (oAsI j j)<|xn
 ·refine us<|Go.ret (Unw.ret ?_)
  cases h
  exact fr rF45 j
theorem L_impl_roomCode {r_0:S_Room} {k_1:S_Stock} {r:Int} (h:impl_roomCode r_0 k_1=some r):FX 30 [.im 2 true (u_S_Room r_0),.im 2 true (u_S_Stock k_1)] (B0 [(false,[.im 0 (I r)])]):=by
 unfold impl_roomCode at h
 refine gn 13 Tryd.func30 rfl ?_
 refine gs<|g0 j j (q (oBx j tF25 j (tkI (tkI tk0)))<|q (oBx j tF35 j (tkI (tkI (tkI (tkI tk0)))))<|q (oAsI j j)<|nl)<|us<|gs<|gs<|?_
 obtain ⟨x6,hx6,h⟩:=bs h
 obtain ⟨t_12_m1,hm3,h⟩:=bs h
 refine gX c30 j j j (mk [(12,bv t_12_m1)] []) ?_ ?_
 ·refine xq (oLd (cs:=[.im 0 _,.im 0 _]) j tF25 j j)<|xq (oCa (xs:=[.v true [.im 0 _,.im 0 _]]) (vs:=[(false,[.im 0 _])]) (v:=.v false [.im 0 _]) (L_impl_ValidRoom hx6) (.inl j) j kF22_25 j (ppC j pp0) j j pb0 j j j)<|xq (oUn j j j)<|xq (oMv j j)<|?_
  refine ic hm3 (fun hc1 hm3=>?_) fun hc1 hm3=>?_
  ·obtain ⟨x10,hx10,hm3⟩:=bs hm3
   cases hm3
   exact xqT j j (nF (iR.2 hc1)) (oLd (cs:=[.im 0 _,.im 0 _,.im 0 _,.im 0 _]) j tF35 j j)<|xqT j j (nF (iR.2 hc1)) (oCa (xs:=[.v true [.im 0 _,.im 0 _,.im 0 _,.im 0 _]]) (vs:=[(false,[.im 0 _])]) (v:=.v false [.im 0 _]) (L_impl_ValidStock hx10) (.inl j) j kF45_35 j (ppC j pp0) j j pb0 j j j)<|xqT j j (nF (iR.2 hc1)) (oUn j j j)<|xq (oPkF j j (nF (iR.2 hc1)) j)<|xn
  ·cases hm3
   exact xsgF j j (nT (byF iR hc1)) j<|xsgF j j (nT (byF iR hc1)) j<|xsgF j j (nT (byF iR hc1)) j<|xq (oPkT j j (nT (byF iR hc1)) j)<|xn
 ·refine us<|gc h j iR (fun hc2 h=>?_) fun hc2 h=>?_
  ·refine gs<|g0 j j (q (oAsI j j)<|nl)<|us<|Go.ret (Unw.ret ?_)
   cases h
   exact fr rF30 j
  ·refine Go.skip<|us<|gs<|g0 j j (q (oAsI j j)<|nl)<|us<|Go.ret (Unw.ret ?_)
   cases h
   exact fr rF30 j
theorem L_impl_makeRow {r_0:S_Room} {k_1:S_Stock} {first_2:Int} {r:(S_row×Int)} (h:impl_makeRow r_0 k_1 first_2=some r):FX 31 [.im 2 true (u_S_Room r_0),.im 2 true (u_S_Stock k_1),.im 2 false [I first_2]] (B0 [(true,[.ow 0 1 (List.map eI r.1.pieces),.ow 0 1 (List.map eI r.1.joints),.im 0 (I r.1.last)]),(false,[.im 0 (I r.2)])]):=by
 unfold impl_makeRow at h
 refine gn 68 Tryd.func31 rfl ?_
 refine gs<|g0 j j (q (oBx j tF25 j (tkI (tkI tk0)))<|q (oBx j tF35 j (tkI (tkI (tkI (tkI tk0)))))<|q (oAl j tF61 (tkN (tkN (tkI tk0))))<|q (oAsI j j)<|nl)<|us<|gs<|gs<|?_
 obtain ⟨x15,hx15,h⟩:=bs h
 refine g0 j j (q (oMv j j)<|q (oFA (r':=.mp 4 0 2) j fF35_2 j j)<|q (oLd (cs:=[.im 0 _]) j tF2 j j)<|q (oFA (r':=.mp 4 0 0) j fF35_0 j j)<|q (oLd (cs:=[.im 0 _]) j tF2 j j)<|q (oCa (xs:=[.v false [.im 2 _],.v false [.im 0 _],.v false [.im 0 _]]) (vs:=[(false,[.im 0 _])]) (v:=.v false [.im 0 _]) (L_impl_within hx15) (.inl j) j kF35_2_2_2 j (ppC j (ppC j (ppC j pp0))) j j pb0 j j j)<|q (oUn j j j)<|nl)<|us<|?_
 by_cases hc1:x15=true
 ·rw [if_pos hc1] at h
  refine gF j (nF (iR.2 hc1))<|Go.skip<|us<|gs<|gs<|g0 j j (q (oFA (r':=.mp 3 0 0) j fF25_0 j j)<|q (oLd (cs:=[.im 0 _]) j tF2 j j)<|q (oMv j j)<|q (oBi j j j j)<|nl)<|us<|gc h j iDec (fun hc2 h=>?_) fun hc2 h=>?_
  ·refine gs<|g0 j j (q (oFA (r':=.mp 3 0 0) j fF25_0 j j)<|q (oLd (cs:=[.im 0 _]) j tF2 j j)<|q (oBS (es:=List.map eI ([r_0.Width]:List Int)) j sF38 j (ptC j (fxI fx0) j pt0) (flat0 j fun _=>j))<|q (oFA (r':=.mp 3 0 0) j fF25_0 j j)<|q (oLd (cs:=[.im 0 _]) j tF2 j j)<|q (oBu (cs:=[.own 24 0 0,.nil,.im 0 _]) j bF61 j)<|q (oSt tF61 j j j (tkO j j (tkN (tkI tk0))) j j j)<|q (oAsI j j)<|nl)<|us<|Go.ret (Unw.ret ?_)
   cases h
   exact fr rF31 j
  ·refine Go.skip<|us<|gs<|g0 j j (q (oMv j j)<|q (oBS (es:=List.map eI ([first_2]:List Int)) j sF38 j (ptC j (fxI fx0) j pt0) (flat0 j fun _=>j))<|q (oBu (cs:=[.own 29 0 0,.nil,.im 0 _]) j bF61 j)<|q (oAl j tF61 (tkN (tkN (tkI tk0))))<|q (oSt tF61 j j j (tkO j j (tkN (tkI tk0))) j j j)<|nl)<|us<|gs<|gs<|g1 j j (mk [(2,iv first_2),(3,M 3),(4,M 4),(6,M 6),(8,M 8)] [(3,Oa (G 0 (u_S_Room r_0))),(4,Oa (G 0 (u_S_Stock k_1))),(6,Oa [Z (W 1 eI ([]:List Int)),Z (W 1 eI ([]:List Int)),C (I 0)]),(8,Oa [Z (W 1 eI ([first_2]:List Int)),Z (W 1 eI ([]:List Int)),C (I 0)])]) (q (oMv j j)<|q (oAsI j j)<|nl)<|us<|Go.block<|?_
   obtain ⟨o,hl,h⟩:=bs h
   refine gl c31 j _ (fun (s:(Int×(List Int)×(List Int)×Int))=>match s with | (at_9_l7,out_o8_0_l7,out_o8_1_l7,out_o8_2_l7)=>mk [(3,M 3),(4,M 4),(6,M 6),(8,M 8),(9,iv at_9_l7)] [(3,Oa (G 0 (u_S_Room r_0))),(4,Oa (G 0 (u_S_Stock k_1))),(6,Oa [Z (W 1 eI ([]:List Int)),Z (W 1 eI ([]:List Int)),C (I 0)]),(8,Oa [Z (W 1 eI out_o8_0_l7),Z (W 1 eI out_o8_1_l7),C (I out_o8_2_l7)])]) (fun (o:((List Int)×(List Int)×Int)) (p:Ex×St)=>match o with | (out_o8_0_e0_7,out_o8_1_e0_7,out_o8_2_e0_7)=>p.1= .exit 0∧p.2.norm ([4,6,8],[4,6,8])=mk [(4,M 4),(6,M 6),(8,M 8)] [(4,Oa (G 0 (u_S_Stock k_1))),(6,Oa [Z (W 1 eI ([]:List Int)),Z (W 1 eI ([]:List Int)),C (I 0)]),(8,Oa [Z (W 1 eI out_o8_0_e0_7),Z (W 1 eI out_o8_1_e0_7),C (I out_o8_2_e0_7)])]) hl (by kernel_rfl) ?_ ?_ ?_
   ·intro o p hp e
    obtain ⟨out_o8_0_e0_7,out_o8_1_e0_7,out_o8_2_e0_7⟩:=o
    exact nomatch (hp.1.symm.trans e)
   ·rintro ⟨at_9_l7,out_o8_0_l7,out_o8_1_l7,out_o8_2_l7⟩ o h
    unfold impl_makeRow_l7 at h
    dsimp only at h
    refine gs<|gs<|g0 j j (q (oMv j j)<|q (oFA (r':=.mp 3 0 0) j fF25_0 j j)<|q (oLd (cs:=[.im 0 _]) j tF2 j j)<|q (oBi j j j j)<|nl)<|us<|gc h j iDec (fun hc6 h=>?_) fun hc6 h=>?_
    ·refine Go.skip<|us<|Go.block<|gs<|?_
     obtain ⟨x40,hx40,h⟩:=bs h
     refine g0 j j (q (oFA (r':=.mp 8 0 1) j fF61_1 j j)<|q (oLd (cs:=[.own 8 0 1]) j tF38 j j)<|q (oMv j j)<|q (oBS (es:=List.map eI ([at_9_l7]:List Int)) j sF38 j (ptC j (fxI fx0) j pt0) (flat0 j fun _=>j))<|q (oApO (en:=eI) (M:=([at_9_l7]:List Int)) j hx40 j sF38 j j uF38 (.inl ⟨_,j⟩) j j j j (el_own j j) (flat0 j fun _=>j))<|q (oFA (r':=.mp 8 0 1) j fF61_1 j j)<|q (oSt tF38 j j j (tkO j j tk0) j j j)<|nl)<|us<|gs<|g1 j j (mk [(3,M 3),(4,M 4),(6,M 6),(8,M 8),(9,iv at_9_l7)] [(3,Oa (G 0 (u_S_Room r_0))),(4,Oa (G 0 (u_S_Stock k_1))),(6,Oa [Z (W 1 eI ([]:List Int)),Z (W 1 eI ([]:List Int)),C (I 0)]),(8,Oa [Z (W 1 eI out_o8_0_l7),Z (W 1 eI x40),C (I out_o8_2_l7)])]) (q (oFA (r':=.mp 3 0 0) j fF25_0 j j)<|q (oLd (cs:=[.im 0 _]) j tF2 j j)<|q (oMv j j)<|q (oBi j j j j)<|q (oFA (r':=.mp 4 0 0) j fF35_0 j j)<|q (oLd (cs:=[.im 0 _]) j tF2 j j)<|q (oMin j j)<|q (oFA (r':=.mp 8 0 2) j fF61_2 j j)<|q (oSt tF2 j j j (tkI tk0) j j j)<|nl)<|us<|gs<|?_
     obtain ⟨x55,hx55,h⟩:=bs h
     refine g1 j j (mk [(3,M 3),(4,M 4),(6,M 6),(8,M 8),(9,iv at_9_l7)] [(3,Oa (G 0 (u_S_Room r_0))),(4,Oa (G 0 (u_S_Stock k_1))),(6,Oa [Z (W 1 eI ([]:List Int)),Z (W 1 eI ([]:List Int)),C (I 0)]),(8,Oa [Z (W 1 eI out_o8_0_l7),Z (W 1 eI x40),C (I (min2 (w64 (r_0.Width - at_9_l7)) k_1.Board))])]) (q (oFA (r':=.mp 8 0 0) j fF61_0 j j)<|q (oLd (cs:=[.own 8 0 0]) j tF38 j j)<|q (oFA (r':=.mp 8 0 2) j fF61_2 j j)<|q (oLd (cs:=[.im 0 _]) j tF2 j j)<|q (oBS (es:=List.map eI ([(min2 (w64 (r_0.Width - at_9_l7)) k_1.Board)]:List Int)) j sF38 j (ptC j (fxI fx0) j pt0) (flat0 j fun _=>j))<|q (oApO (en:=eI) (M:=([(min2 (w64 (r_0.Width - at_9_l7)) k_1.Board)]:List Int)) j hx55 j sF38 j j uF38 (.inl ⟨_,j⟩) j j j j (el_own j j) (flat0 j fun _=>j))<|q (oFA (r':=.mp 8 0 0) j fF61_0 j j)<|q (oSt tF38 j j j (tkO j j tk0) j j j)<|nl)<|us<|g1 j j (mk [(3,M 3),(4,M 4),(6,M 6),(8,M 8),(9,iv at_9_l7)] [(3,Oa (G 0 (u_S_Room r_0))),(4,Oa (G 0 (u_S_Stock k_1))),(6,Oa [Z (W 1 eI ([]:List Int)),Z (W 1 eI ([]:List Int)),C (I 0)]),(8,Oa [Z (W 1 eI x55),Z (W 1 eI x40),C (I (min2 (w64 (r_0.Width - at_9_l7)) k_1.Board))])]) (q (oMv j j)<|q (oFA (r':=.mp 8 0 2) j fF61_2 j j)<|q (oLd (cs:=[.im 0 _]) j tF2 j j)<|q (oBi j j j j)<|q (oAsI j j)<|nl)<|Unw.blk<|Unw.nil<|?_
     cases h
     exact ⟨j,(by kernel_rfl)⟩
    ·refine Go.exit<|ux<|Unw.nil<|?_
     cases h
     exact ⟨j,(by kernel_rfl)⟩
   ·rintro ⟨e,st⟩ hp
    obtain ⟨out_o8_0_e0_7,out_o8_1_e0_7,out_o8_2_e0_7⟩:=o
    dsimp only at h
    obtain ⟨he,hst⟩:=hp
    obtain rfl:e= .exit 0:=he
    refine Unw.blkx<|us<|gs<|gs<|g2 c31 j j hst (q (oFA (r':=.mp 8 0 2) j fF61_2 j j)<|q (oLd (cs:=[.im 0 _]) j tF2 j j)<|q (oFA (r':=.mp 4 0 2) j fF35_2 j j)<|q (oLd (cs:=[.im 0 _]) j tF2 j j)<|q (oBi j j j j)<|nl)<|us<|gc h j iDec (fun hc5 h=>?_) fun hc5 h=>?_
    ·refine gs<|g0 j j (q (oBu (cs:=[.nil,.nil,.im 0 _]) j bF61 j)<|q (oSt tF61 j j j (tkN (tkN (tkI tk0))) j j j)<|q (oAsI j j)<|nl)<|us<|Go.ret (Unw.ret ?_)
     cases h
     exact fr rF31 j
    ·refine Go.skip<|us<|gs<|g0 j j (q (oLd (cs:=[.own 8 0 0,.own 8 0 1,.im 0 _]) j tF61 j j)<|q (oSt tF61 j j j (tkO j j (tkO j j (tkI tk0))) j j j)<|q (oAsI j j)<|nl)<|us<|Go.ret (Unw.ret ?_)
     cases h
     exact fr rF31 j
 ·rw [if_neg hc1] at h
  refine gT j (nT (byF iR hc1))<|gs<|g0 j j (q (oBu (cs:=[.nil,.nil,.im 0 _]) j bF61 j)<|q (oSt tF61 j j j (tkN (tkN (tkI tk0))) j j j)<|q (oAsI j j)<|nl)<|us<|Go.ret (Unw.ret ?_)
  cases h
  exact fr rF31 j
theorem L_impl_RowPieces {r_0:S_Room} {k_1:S_Stock} {first_2:Int} {r:((List Int)×Int)} (h:impl_RowPieces r_0 k_1 first_2=some r):FX 14 [.im 2 true (u_S_Room r_0),.im 2 true (u_S_Stock k_1),.im 2 false [I first_2]] (B0 [(false,[.ow 0 1 (List.map eI r.1)]),(false,[.im 0 (I r.2)])]):=by
 unfold impl_RowPieces at h
 refine gn 27 Tryd.func14 rfl ?_
 refine gs<|g0 j j (q (oBx j tF25 j (tkI (tkI tk0)))<|q (oBx j tF35 j (tkI (tkI (tkI (tkI tk0)))))<|q (oAsN j j eF38)<|q (oAsI j j)<|nl)<|us<|gs<|gs<|?_
 obtain ⟨x13,hx13,h⟩:=bs h
 refine g0 j j (q (oLd (cs:=[.im 0 _,.im 0 _]) j tF25 j j)<|q (oLd (cs:=[.im 0 _,.im 0 _,.im 0 _,.im 0 _]) j tF35 j j)<|q (oCa (xs:=[.v true [.im 0 _,.im 0 _],.v true [.im 0 _,.im 0 _,.im 0 _,.im 0 _]]) (vs:=[(false,[.im 0 _])]) (v:=.v false [.im 0 _]) (L_impl_roomCode hx13) (.inl j) j kF30_25_35 j (ppC j (ppC j pp0)) j j pb0 j j j)<|q (oAsI j j)<|nl)<|us<|gs<|g0 j j (q (oMv j j)<|q (oBi j j j j)<|nl)<|us<|gc h j iNe (fun hc1 h=>?_) fun hc1 h=>?_
 ·refine gs<|g0 j j (q (oMv j j)<|q (oAsN j j eF38)<|q (oAsI j j)<|nl)<|us<|Go.ret (Unw.ret ?_)
  cases h
  exact fr rF14 j
 ·refine Go.skip<|us<|gs<|?_
  obtain ⟨x21,hx21,h⟩:=bs h
  refine g0 j j (q (oLd (cs:=[.im 0 _,.im 0 _]) j tF25 j j)<|q (oLd (cs:=[.im 0 _,.im 0 _,.im 0 _,.im 0 _]) j tF35 j j)<|q (oMv j j)<|q (oCr (xs:=[.v true [.im 0 _,.im 0 _],.v true [.im 0 _,.im 0 _,.im 0 _,.im 0 _],.v false [.im 2 _]]) (vs:=[(true,[.own 21 0 0,.own 21 0 1,.im 0 _]),(false,[.im 0 _])]) (v:=.tup [(true,[.own 21 0 0,.own 21 0 1,.im 0 _]),(false,[.im 0 _])]) (c:=⟨.sh,0,_⟩) (cs:=[⟨.sh,0,_⟩]) (L_impl_makeRow hx21) (.inl j) j kF31_25_35_2 j (ppC j (ppC j (ppC j pp0))) j j pb0 j j j)<|q (oMvT j j)<|q (oEx j j j)<|q (oEx j j j)<|q (oAl j tF61 (tkN (tkN (tkI tk0))))<|q (oSt tF61 j j j (tkO j j (tkO j j (tkI tk0))) j j j)<|q (oAsI j j)<|nl)<|us<|gs<|g1 j j (mk [(9,M 9),(10,iv x21.2)] [(9,Oa [Z (W 1 eI x21.1.pieces),Z (W 1 eI x21.1.joints),C (I x21.1.last)])]) (q (oFA (r':=.mp 9 0 0) j fF61_0 j j)<|q (oLd (cs:=[.own 9 0 0]) j tF38 j j)<|q (oMv j j)<|q (oAsO j j j j j)<|q (oAsI j j)<|nl)<|us<|Go.ret (Unw.ret ?_)
  cases h
  exact fr rF14 j
theorem L_impl_RowJoints {r_0:S_Room} {k_1:S_Stock} {first_2:Int} {r:((List Int)×Int)} (h:impl_RowJoints r_0 k_1 first_2=some r):FX 15 [.im 2 true (u_S_Room r_0),.im 2 true (u_S_Stock k_1),.im 2 false [I first_2]] (B0 [(false,[.ow 0 1 (List.map eI r.1)]),(false,[.im 0 (I r.2)])]):=by
 unfold impl_RowJoints at h
 refine gn 27 Tryd.func15 rfl ?_
 refine gs<|g0 j j (q (oBx j tF25 j (tkI (tkI tk0)))<|q (oBx j tF35 j (tkI (tkI (tkI (tkI tk0)))))<|q (oAsN j j eF38)<|q (oAsI j j)<|nl)<|us<|gs<|gs<|?_
 obtain ⟨x13,hx13,h⟩:=bs h
 refine g0 j j (q (oLd (cs:=[.im 0 _,.im 0 _]) j tF25 j j)<|q (oLd (cs:=[.im 0 _,.im 0 _,.im 0 _,.im 0 _]) j tF35 j j)<|q (oCa (xs:=[.v true [.im 0 _,.im 0 _],.v true [.im 0 _,.im 0 _,.im 0 _,.im 0 _]]) (vs:=[(false,[.im 0 _])]) (v:=.v false [.im 0 _]) (L_impl_roomCode hx13) (.inl j) j kF30_25_35 j (ppC j (ppC j pp0)) j j pb0 j j j)<|q (oAsI j j)<|nl)<|us<|gs<|g0 j j (q (oMv j j)<|q (oBi j j j j)<|nl)<|us<|gc h j iNe (fun hc1 h=>?_) fun hc1 h=>?_
 ·refine gs<|g0 j j (q (oMv j j)<|q (oAsN j j eF38)<|q (oAsI j j)<|nl)<|us<|Go.ret (Unw.ret ?_)
  cases h
  exact fr rF15 j
 ·refine Go.skip<|us<|gs<|?_
  obtain ⟨x21,hx21,h⟩:=bs h
  refine g0 j j (q (oLd (cs:=[.im 0 _,.im 0 _]) j tF25 j j)<|q (oLd (cs:=[.im 0 _,.im 0 _,.im 0 _,.im 0 _]) j tF35 j j)<|q (oMv j j)<|q (oCr (xs:=[.v true [.im 0 _,.im 0 _],.v true [.im 0 _,.im 0 _,.im 0 _,.im 0 _],.v false [.im 2 _]]) (vs:=[(true,[.own 21 0 0,.own 21 0 1,.im 0 _]),(false,[.im 0 _])]) (v:=.tup [(true,[.own 21 0 0,.own 21 0 1,.im 0 _]),(false,[.im 0 _])]) (c:=⟨.sh,0,_⟩) (cs:=[⟨.sh,0,_⟩]) (L_impl_makeRow hx21) (.inl j) j kF31_25_35_2 j (ppC j (ppC j (ppC j pp0))) j j pb0 j j j)<|q (oMvT j j)<|q (oEx j j j)<|q (oEx j j j)<|q (oAl j tF61 (tkN (tkN (tkI tk0))))<|q (oSt tF61 j j j (tkO j j (tkO j j (tkI tk0))) j j j)<|q (oAsI j j)<|nl)<|us<|gs<|g1 j j (mk [(9,M 9),(10,iv x21.2)] [(9,Oa [Z (W 1 eI x21.1.pieces),Z (W 1 eI x21.1.joints),C (I x21.1.last)])]) (q (oFA (r':=.mp 9 0 1) j fF61_1 j j)<|q (oLd (cs:=[.own 9 0 1]) j tF38 j j)<|q (oMv j j)<|q (oAsO j j j j j)<|q (oAsI j j)<|nl)<|us<|Go.ret (Unw.ret ?_)
  cases h
  exact fr rF15 j
theorem L_laws_b10Sum {list_0:(List Int)} {r:Int} (h:laws_b10Sum list_0=some r):FX 16 [.im 2 false [W 1 eI list_0]] (B0 [(false,[.im 0 (I r)])]):=by
 unfold laws_b10Sum at h
 refine gn 18 Tryd.func16 rfl ?_
 refine gs<|g0 j j (q (oAsI j j)<|nl)<|us<|gs<|g0 j j (q (oAsI j j)<|nl)<|us<|gs<|gs<|g0 j j (q (oAsI j j)<|nl)<|us<|Go.block<|?_
 obtain ⟨o,hl,h⟩:=bs h
 refine gl c16 j _ (fun (s:(Int×Int))=>match s with | (sum_3_l3,i_4_l3)=>mk [(0,D 2 (W 1 eI list_0)),(3,iv sum_3_l3),(4,iv i_4_l3)] []) (fun (sum_3_e0_3:Int) (p:Ex×St)=>p.1= .exit 0∧p.2.norm ([3],[])=mk [(3,iv sum_3_e0_3)] []) hl (by kernel_rfl) ?_ ?_ ?_
 ·intro o p hp e
  exact nomatch (hp.1.symm.trans e)
 ·rintro ⟨sum_3_l3,i_4_l3⟩ o h
  unfold laws_b10Sum_l3 at h
  dsimp only at h
  refine gs<|gs<|g0 j j (q (oMv j j)<|q (oMv j j)<|q (oLnI j j uF38 j)<|q (oBi j j j j)<|nl)<|us<|gc h j iDec (fun hc3 h=>?_) fun hc3 h=>?_
  ·refine Go.skip<|us<|gs<|Go.block<|?_
   obtain ⟨x14,hx14,h⟩:=bs h
   refine g0 j j (q (oMv j j)<|q (oMv j j)<|q (oMv j j)<|q (oIAI j hx14 sF38 j j)<|q (oLd (cs:=[.im 2 _]) j tF2 j j)<|q (oBi j j j j)<|q (oAsI j j)<|nl)<|Unw.blk<|us<|g0 j j (q (oMv j j)<|q (oBi j j j j)<|q (oAsI j j)<|nl)<|Unw.nil<|?_
   cases h
   exact ⟨j,(by kernel_rfl)⟩
  ·refine Go.exit<|ux<|Unw.nil<|?_
   cases h
   exact ⟨j,(by kernel_rfl)⟩
 ·rintro ⟨e,st⟩ hp
  obtain ⟨sum_3_e0_3,rfl⟩:∃y,y=o:=⟨o,rfl⟩
  obtain ⟨he,hst⟩:=hp
  obtain rfl:e= .exit 0:=he
  refine Unw.blkx<|us<|gs<|g2 c16 j j hst (q (oMv j j)<|q (oAsI j j)<|nl)<|us<|Go.ret (Unw.ret ?_)
  cases h
  exact fr rF16 j
theorem L_spec_DrawStaggered {code_0:(List Int)} {r:(S_Room×S_Stock×Int×Int)} (h:spec_DrawStaggered code_0=some r):FX 17 [.im 2 false [W 1 (eK .u8) code_0]] (B0 [(true,J 0 (u_S_Room r.1)),(true,J 0 (u_S_Stock r.2.1)),(false,[.im 0 (I r.2.2.1)]),(false,[.im 0 (I r.2.2.2)])]):=by
 unfold spec_DrawStaggered at h
 refine gn 23 Tryd.func17 rfl ?_
 refine gs<|g0 j j (q (oAl j tF25 (tkI (tkI tk0)))<|q (oAl j tF35 (tkI (tkI (tkI (tkI tk0)))))<|q (oAsI j j)<|q (oAsI j j)<|nl)<|us<|gs<|?_
 obtain ⟨x11,hx11,h⟩:=bs h
 refine g0 j j (q (oMv j j)<|q (oCp (xs:=[.v false [.im 2 _]]) (L_spec_l00From hx11) (.inl j) j kF26_32 j (ppC j pp0) j j pb0 j)<|q (oAsP j j)<|nl)<|us<|gs<|?_
 obtain ⟨x13,hx13,h⟩:=bs h
 refine g0 j j (q (oMv j j)<|q (oCa (xs:=[.v false [.mp 11 0 0]]) (vs:=[(true,[.im 0 _,.im 0 _])]) (v:=.v true [.im 0 _,.im 0 _]) (L_spec_l30DrawRoom hx13) (.inl j) j kF27_53 j (ppP j j j pp0) j j (pbP j j pb0) j j j)<|q (oAl j tF25 (tkI (tkI tk0)))<|q (oSt tF25 j j j (tkI (tkI tk0)) j j j)<|nl)<|us<|gs<|?_
 obtain ⟨x15,hx15,h⟩:=bs h
 refine g1 j j (mk [(2,M 2),(3,M 3),(6,M 11),(7,M 7)] [(2,Oa [C (I 0),C (I 0)]),(3,Oa [C (I 0),C (I 0),C (I 0),C (I 0)]),(7,Oa (G 0 (u_S_Room x13.1))),(11,Oa (G 2 (u_S_l00Src x13.2)))]) (q (oMv j j)<|q (oCa (xs:=[.v false [.mp 11 0 0]]) (vs:=[(true,[.im 0 _,.im 0 _,.im 0 _,.im 0 _])]) (v:=.v true [.im 0 _,.im 0 _,.im 0 _,.im 0 _]) (L_spec_l30DrawStock hx15) (.inl j) j kF28_53 j (ppP j j j pp0) j j (pbP j j pb0) j j j)<|q (oAl j tF35 (tkI (tkI (tkI (tkI tk0)))))<|q (oSt tF35 j j j (tkI (tkI (tkI (tkI tk0)))) j j j)<|nl)<|us<|gs<|?_
 obtain ⟨x17,hx17,h⟩:=bs h
 refine g1 j j (mk [(2,M 2),(3,M 3),(6,M 11),(7,M 7),(8,M 8)] [(2,Oa [C (I 0),C (I 0)]),(3,Oa [C (I 0),C (I 0),C (I 0),C (I 0)]),(7,Oa (G 0 (u_S_Room x13.1))),(8,Oa (G 0 (u_S_Stock x15.1))),(11,Oa (G 2 (u_S_l00Src x15.2)))]) (q (oMv j j)<|q (oCa (xs:=[.v false [.mp 11 0 0],.v false [.mp 8 0 0]]) (vs:=[(false,[.im 0 _])]) (v:=.v false [.im 0 _]) (L_spec_l30DrawFirst hx17) (.inl j) j kF29_53_58 j (ppP j j j (ppC j pp0)) j j (pbP j j pb0) j j j)<|q (oAsI j j)<|nl)<|us<|gs<|?_
 obtain ⟨x22,hx22,h⟩:=bs h
 refine gd c17 j j j (st1:=mk [(2,M 2),(3,M 3),(6,M 11),(7,M 7),(8,M 8),(9,iv x17.1)] [(2,Oa [C (I 0),C (I 0)]),(3,Oa [C (I 0),C (I 0),C (I 0),C (I 0)]),(7,Oa (G 0 (u_S_Room x13.1))),(8,Oa (G 0 (u_S_Stock x15.1))),(11,Oa (G 2 (u_S_l00Src x17.2)))]) (by kernel_rfl) (mk [(2,M 2),(3,M 3),(4,iv x17.1),(5,iv x22.1)] [(2,Oa (G 0 (u_S_Room x13.1))),(3,Oa (G 0 (u_S_Stock x15.1)))]) (t j j (oMv j j)<|t j j (oMv j j)<|sK (O:=[7]) j j j (dN z17 j (oLd (cs:=[.im 0 _,.im 0 _]) j tF25 j j))<|sF (dN z17 j (oLd (cs:=[.im 0 _,.im 0 _,.im 0 _,.im 0 _]) j tF35 j j)) (kY ⟨j,trivial⟩ trivial) (sS (dN z17 j (oCa (xs:=[.v false [.mp 11 0 0],.v false [.mp 8 0 0]]) (vs:=[(false,[.im 0 _])]) (v:=.v false [.im 0 _]) (L_spec_l30DrawFirst hx22) (.inl j) j kF29_53_58 j (ppP j j j (ppC j pp0)) j j (pbP j j pb0) j j j)) (kY ⟨j,trivial⟩ trivial) (sS (dN z17 j (oSt tF25 j j j (tkI (tkI tk0)) j j j)) (kN j trivial) (sS (dN z17 j (oSt tF35 j j j (tkI (tkI (tkI (tkI tk0)))) j j j)) (kN j trivial) (sS (dN z17 j (oAsI j j)) (kN j trivial) (sS (dN z17 j (oAsI j j)) (kN j trivial) (sD (by kernel_rfl))))))) (sS (dN z17 j (oCa (xs:=[.v false [.mp 11 0 0],.v false [.mp 8 0 0]]) (vs:=[(false,[.im 0 _])]) (v:=.v false [.im 0 _]) (L_spec_l30DrawFirst hx22) (.inl j) j kF29_53_58 j (ppP j j j (ppC j pp0)) j j (pbP j j pb0) j j j)) (kY ⟨j,trivial⟩ trivial) (sF (dN z17 j (oLd (cs:=[.im 0 _,.im 0 _,.im 0 _,.im 0 _]) j tF35 j j)) (kY ⟨j,trivial⟩ trivial) (sS (dN z17 j (oSt tF25 j j j (tkI (tkI tk0)) j j j)) (kN j trivial) (sS (dN z17 j (oSt tF35 j j j (tkI (tkI (tkI (tkI tk0)))) j j j)) (kN j trivial) (sS (dN z17 j (oAsI j j)) (kN j trivial) (sS (dN z17 j (oAsI j j)) (kN j trivial) (sD (by kernel_rfl)))))) (sS (dN z17 j (oSt tF25 j j j (tkI (tkI tk0)) j j j)) (kN j trivial) (t j j (oLd (cs:=[.im 0 _,.im 0 _,.im 0 _,.im 0 _]) j tF35 j j)<|sS (dN z17 j (oSt tF35 j j j (tkI (tkI (tkI (tkI tk0)))) j j j)) (kN j trivial) (sS (dN z17 j (oAsI j j)) (kN j trivial) (sS (dN z17 j (oAsI j j)) (kN j trivial) (sD (by kernel_rfl)))))))))<|us<|Go.ret (Unw.ret ?_)
 cases h
 exact fr rF17 j
theorem L_impl_absolute {n_0:Int} {r:Int} (h:impl_absolute n_0=some r):FX 46 [.im 2 false [I n_0]] (B0 [(false,[.im 0 (I r)])]):=by
 unfold impl_absolute at h
 refine gn 7 Tryd.func46 rfl ?_
 refine gs<|g0 j j (q (oAsI j j)<|nl)<|us<|gs<|g0 j j (q (oMv j j)<|q (oMv j j)<|q (oUn j j j)<|q (oMax j j)<|q (oAsI j j)<|nl)<|us<|Go.ret (Unw.ret ?_)
 cases h
 exact fr rF46 j
theorem L_impl_staggered {a_0:S_row} {b_1:S_row} {k_2:S_Stock} {r:Bool} (h:impl_staggered a_0 b_1 k_2=some r):FX 32 [.im 2 true (u_S_row a_0),.im 2 true (u_S_row b_1),.im 2 true (u_S_Stock k_2)] (B0 [(false,[.im 0 (V r)])]):=by
 unfold impl_staggered at h
 refine gn 51 Tryd.func32 rfl ?_
 refine gs<|g0 j j (q (oBx j tF61 j (tkI (tkI (tkI tk0))))<|q (oBx j tF61 j (tkI (tkI (tkI tk0))))<|q (oBx j tF35 j (tkI (tkI (tkI (tkI tk0)))))<|q (oAsI j j)<|nl)<|us<|gs<|g0 j j (q (oAsI j j)<|q (oAsI j j)<|nl)<|us<|gs<|Go.block<|?_
 obtain ⟨o,hl,h⟩:=bs h
 refine gl c32 j _ (fun (s:(Int×Int))=>match s with | (i_7_l2,n_8_l2)=>mk [(3,M 3),(4,M 4),(5,M 5),(7,iv i_7_l2),(8,iv n_8_l2)] [(3,Oa (G 2 (u_S_row a_0))),(4,Oa (G 2 (u_S_row b_1))),(5,Oa (G 0 (u_S_Stock k_2)))]) (fun (o:(Unit ⊕ Bool)) (p:Ex×St)=>match o with | (.inl _)=>p.1= .exit 0∧p.2.norm ([],[])=mk [] [] | (.inr r2)=>p.1= .ret∧fin Tryd.prog cfg 32 Tryd.f32 [.im 2 true (u_S_row a_0),.im 2 true (u_S_row b_1),.im 2 true (u_S_Stock k_2)] p.2=some (B0 [(false,[.im 0 (V r2)])])) hl (by kernel_rfl) ?_ ?_ ?_
 ·intro o p hp e
  rcases o with u | r2<;>exact nomatch (hp.1.symm.trans e)
 ·rintro ⟨i_7_l2,n_8_l2⟩ o h
  unfold impl_staggered_l2 at h
  dsimp only at h
  refine gs<|gs<|gX c32 j j j (mk [(3,M 3),(4,M 4),(5,M 5),(7,iv i_7_l2),(8,iv n_8_l2),(20,bv ((decide (i_7_l2< (a_0.joints.length:Int)))&&(decide (n_8_l2< (b_1.joints.length:Int)))))] [(3,Oa (G 2 (u_S_row a_0))),(4,Oa (G 2 (u_S_row b_1))),(5,Oa (G 0 (u_S_Stock k_2)))]) ?_ ?_
  ·refine xq (oMv j j)<|xq (oFA (r':=.mp 3 0 1) j fF61_1 j j)<|xq (oLd (cs:=[.im 2 _]) j tF38 j j)<|xq (oLnI j j uF38 j)<|xq (oBi j j j j)<|xq (oMv j j)<|?_
   by_cases hc9:i_7_l2< (a_0.joints.length:Int)
   ·exact xqT rfl rfl (iDec.2 hc9) (oMv rfl rfl)<|xqT rfl rfl (iDec.2 hc9) (oFA (r':=.mp 4 0 1) rfl fF61_1 rfl rfl)<|xqT rfl rfl (iDec.2 hc9) (oLd (cs:=[.im 2 _]) rfl tF38 rfl rfl)<|xqT rfl rfl (iDec.2 hc9) (oLnI rfl rfl uF38 rfl)<|xqT rfl rfl (iDec.2 hc9) (oBi rfl rfl rfl rfl)<|xq (oPkT rfl rfl (iDec.2 hc9) rfl)<|xn (Eq.trans (b:=(fun t_20_m2:Bool=>mk [(3,M 3),(4,M 4),(5,M 5),(7,iv i_7_l2),(8,iv n_8_l2),(20,bv t_20_m2)] [(3,Oa (G 2 (u_S_row a_0))),(4,Oa (G 2 (u_S_row b_1))),(5,Oa (G 0 (u_S_Stock k_2)))]) (decide (n_8_l2< (b_1.joints.length:Int)))) (by kernel_rfl) (congrArg (fun t_20_m2:Bool=>mk [(3,M 3),(4,M 4),(5,M 5),(7,iv i_7_l2),(8,iv n_8_l2),(20,bv t_20_m2)] [(3,Oa (G 2 (u_S_row a_0))),(4,Oa (G 2 (u_S_row b_1))),(5,Oa (G 0 (u_S_Stock k_2)))]) (by first | rfl | (simp [(iDec.2 hc9)];done) | (simp [(iDec.2 hc9)];omega))))
   ·exact xsgF rfl rfl (byF iDec hc9) rfl<|xsgF rfl rfl (byF iDec hc9) rfl<|xsgF rfl rfl (byF iDec hc9) rfl<|xsgF rfl rfl (byF iDec hc9) rfl<|xsgF rfl rfl (byF iDec hc9) rfl<|xq (oPkF rfl rfl (byF iDec hc9) rfl)<|xn (Eq.trans (b:=(fun t_20_m2:Bool=>mk [(3,M 3),(4,M 4),(5,M 5),(7,iv i_7_l2),(8,iv n_8_l2),(20,bv t_20_m2)] [(3,Oa (G 2 (u_S_row a_0))),(4,Oa (G 2 (u_S_row b_1))),(5,Oa (G 0 (u_S_Stock k_2)))]) false) (by kernel_rfl) (congrArg (fun t_20_m2:Bool=>mk [(3,M 3),(4,M 4),(5,M 5),(7,iv i_7_l2),(8,iv n_8_l2),(20,bv t_20_m2)] [(3,Oa (G 2 (u_S_row a_0))),(4,Oa (G 2 (u_S_row b_1))),(5,Oa (G 0 (u_S_Stock k_2)))]) (by first | rfl | (simp [(byF iDec hc9)];done) | (simp [(byF iDec hc9)];omega))))
  ·refine us<|gc h j (iAnd iDec iDec) (fun hc10 h=>?_) fun hc10 h=>?_
   ·refine Go.skip<|us<|Go.block<|gs<|gs<|?_
    obtain ⟨x24,hx24,h⟩:=bs h
    obtain ⟨x29,hx29,h⟩:=bs h
    obtain ⟨x32,hx32,h⟩:=bs h
    refine gd c32 j j j j (mk [(3,M 3),(4,M 4),(5,M 5),(7,iv i_7_l2),(8,iv n_8_l2),(35,bv (decide (x32<k_2.Stagger)))] [(3,Oa (G 2 (u_S_row a_0))),(4,Oa (G 2 (u_S_row b_1))),(5,Oa (G 0 (u_S_Stock k_2)))]) (t j j (oFA (r':=.mp 3 0 1) j fF61_1 j j)<|t j j (oLd (cs:=[.im 2 _]) j tF38 j j)<|t j j (oMv j j)<|t j j (oIAI j hx24 sF38 j j)<|t j j (oLd (cs:=[.im 2 _]) j tF2 j j)<|t j j (oFA (r':=.mp 4 0 1) j fF61_1 j j)<|t j j (oLd (cs:=[.im 2 _]) j tF38 j j)<|t j j (oMv j j)<|t j j (oIAI j hx29 sF38 j j)<|t j j (oLd (cs:=[.im 2 _]) j tF2 j j)<|t j j (oBi j j j j)<|t j j (oFA (r':=.mp 5 0 3) j fF35_3 j j)<|t j j (oLd (cs:=[.im 0 _]) j tF2 j j)<|sS (dN z32 j (oCa (xs:=[.v false [.im 0 _]]) (vs:=[(false,[.im 0 _])]) (v:=.v false [.im 0 _]) (L_impl_absolute hx32) (.inl j) j kF46_2 j (ppC j pp0) j j pb0 j j j)) trivial (t j j (oBi j j j j)<|sD (by kernel_rfl)))<|us<|gc h j iDec (fun hc11 h=>?_) fun hc11 h=>?_
    ·refine gs<|g0 j j (q (oAsI j j)<|nl)<|us<|Go.ret (Unw.ret ?_)
     cases h
     exact ⟨j,(fo rF32 j)⟩
    ·refine Go.skip<|us<|gs<|?_
     obtain ⟨x39,hx39,h⟩:=bs h
     obtain ⟨x44,hx44,h⟩:=bs h
     refine gd c32 j j j j (mk [(3,M 3),(4,M 4),(5,M 5),(7,iv i_7_l2),(8,iv n_8_l2),(46,bv (decide (x39<x44)))] [(3,Oa (G 2 (u_S_row a_0))),(4,Oa (G 2 (u_S_row b_1))),(5,Oa (G 0 (u_S_Stock k_2)))]) (t j j (oFA (r':=.mp 3 0 1) j fF61_1 j j)<|t j j (oLd (cs:=[.im 2 _]) j tF38 j j)<|t j j (oMv j j)<|t j j (oIAI j hx39 sF38 j j)<|t j j (oLd (cs:=[.im 2 _]) j tF2 j j)<|t j j (oFA (r':=.mp 4 0 1) j fF61_1 j j)<|t j j (oLd (cs:=[.im 2 _]) j tF38 j j)<|t j j (oMv j j)<|t j j (oIAI j hx44 sF38 j j)<|t j j (oLd (cs:=[.im 2 _]) j tF2 j j)<|t j j (oBi j j j j)<|sD (by kernel_rfl))<|us<|gc h j iDec (fun hc12 h=>?_) fun hc12 h=>?_
     ·refine g0 j j (q (oMv j j)<|q (oBi j j j j)<|q (oAsI j j)<|nl)<|Unw.blk<|Unw.nil<|?_
      cases h
      exact ⟨j,(by kernel_rfl)⟩
     ·refine g0 j j (q (oMv j j)<|q (oBi j j j j)<|q (oAsI j j)<|nl)<|Unw.blk<|Unw.nil<|?_
      cases h
      exact ⟨j,(by kernel_rfl)⟩
   ·refine Go.exit<|ux<|Unw.nil<|?_
    cases h
    exact ⟨j,(by kernel_rfl)⟩
 ·rintro ⟨e,st⟩ hp
  rcases o with u | r2
  ·dsimp only at h
   obtain ⟨he,hst⟩:=hp
   obtain rfl:e= .exit 0:=he
   refine Unw.blkx<|us<|gs<|g2 c32 j j hst (q (oAsI j j)<|nl)<|us<|Go.ret (Unw.ret ?_)
   cases h
   exact fr rF32 j
  ·dsimp only at h
   obtain ⟨he,hfin⟩:=hp
   obtain rfl:e= .ret:=he
   cases h
   exact Unw.ret (Fin_ret hfin)
theorem L_impl_Staggered {r_0:S_Room} {k_1:S_Stock} {a_2:Int} {b_3:Int} {r:Bool} (h:impl_Staggered r_0 k_1 a_2 b_3=some r):FX 18 [.im 2 true (u_S_Room r_0),.im 2 true (u_S_Stock k_1),.im 2 false [I a_2],.im 2 false [I b_3]] (B0 [(false,[.im 0 (V r)])]):=by
 unfold impl_Staggered at h
 refine gn 43 Tryd.func18 rfl ?_
 refine gs<|g0 j j (q (oBx j tF25 j (tkI (tkI tk0)))<|q (oBx j tF35 j (tkI (tkI (tkI (tkI tk0)))))<|q (oAsI j j)<|nl)<|us<|gs<|gs<|?_
 obtain ⟨x15,hx15,h⟩:=bs h
 refine g0 j j (q (oLd (cs:=[.im 0 _,.im 0 _]) j tF25 j j)<|q (oLd (cs:=[.im 0 _,.im 0 _,.im 0 _,.im 0 _]) j tF35 j j)<|q (oCa (xs:=[.v true [.im 0 _,.im 0 _],.v true [.im 0 _,.im 0 _,.im 0 _,.im 0 _]]) (vs:=[(false,[.im 0 _])]) (v:=.v false [.im 0 _]) (L_impl_roomCode hx15) (.inl j) j kF30_25_35 j (ppC j (ppC j pp0)) j j pb0 j j j)<|q (oBi j j j j)<|nl)<|us<|gc h j iNe (fun hc1 h=>?_) fun hc1 h=>?_
 ·refine gs<|g0 j j (q (oAsI j j)<|nl)<|us<|Go.ret (Unw.ret ?_)
  cases h
  exact fr rF18 j
 ·refine Go.skip<|us<|gs<|?_
  obtain ⟨x21,hx21,h⟩:=bs h
  refine g0 j j (q (oLd (cs:=[.im 0 _,.im 0 _]) j tF25 j j)<|q (oLd (cs:=[.im 0 _,.im 0 _,.im 0 _,.im 0 _]) j tF35 j j)<|q (oMv j j)<|q (oCr (xs:=[.v true [.im 0 _,.im 0 _],.v true [.im 0 _,.im 0 _,.im 0 _,.im 0 _],.v false [.im 2 _]]) (vs:=[(true,[.own 21 0 0,.own 21 0 1,.im 0 _]),(false,[.im 0 _])]) (v:=.tup [(true,[.own 21 0 0,.own 21 0 1,.im 0 _]),(false,[.im 0 _])]) (c:=⟨.sh,0,_⟩) (cs:=[⟨.sh,0,_⟩]) (L_impl_makeRow hx21) (.inl j) j kF31_25_35_2 j (ppC j (ppC j (ppC j pp0))) j j pb0 j j j)<|q (oMvT j j)<|q (oEx j j j)<|q (oEx j j j)<|q (oAl j tF61 (tkN (tkN (tkI tk0))))<|q (oSt tF61 j j j (tkO j j (tkO j j (tkI tk0))) j j j)<|q (oAsI j j)<|nl)<|us<|gs<|?_
  obtain ⟨x28,hx28,h⟩:=bs h
  refine g1 j j (mk [(3,iv b_3),(4,M 4),(5,M 5),(9,M 9),(10,iv x21.2)] [(4,Oa (G 0 (u_S_Room r_0))),(5,Oa (G 0 (u_S_Stock k_1))),(9,Oa [Z (W 1 eI x21.1.pieces),Z (W 1 eI x21.1.joints),C (I x21.1.last)])]) (q (oLd (cs:=[.im 0 _,.im 0 _]) j tF25 j j)<|q (oLd (cs:=[.im 0 _,.im 0 _,.im 0 _,.im 0 _]) j tF35 j j)<|q (oMv j j)<|q (oCr (xs:=[.v true [.im 0 _,.im 0 _],.v true [.im 0 _,.im 0 _,.im 0 _,.im 0 _],.v false [.im 0 _]]) (vs:=[(true,[.own 28 0 0,.own 28 0 1,.im 0 _]),(false,[.im 0 _])]) (v:=.tup [(true,[.own 28 0 0,.own 28 0 1,.im 0 _]),(false,[.im 0 _])]) (c:=⟨.sh,0,_⟩) (cs:=[⟨.sh,0,_⟩]) (L_impl_makeRow hx28) (.inl j) j kF31_25_35_2 j (ppC j (ppC j (ppC j pp0))) j j pb0 j j j)<|q (oMvT j j)<|q (oEx j j j)<|q (oEx j j j)<|q (oAl j tF61 (tkN (tkN (tkI tk0))))<|q (oSt tF61 j j j (tkO j j (tkO j j (tkI tk0))) j j j)<|q (oAsI j j)<|nl)<|us<|gs<|?_
  obtain ⟨t_8_m5,hm4,h⟩:=bs h
  refine gX c18 j j (st1:=mk [(5,M 5),(9,M 9),(10,iv x21.2),(11,M 11),(12,iv x28.2)] [(5,Oa (G 0 (u_S_Stock k_1))),(9,Oa [Z (W 1 eI x21.1.pieces),Z (W 1 eI x21.1.joints),C (I x21.1.last)]),(11,Oa [Z (W 1 eI x28.1.pieces),Z (W 1 eI x28.1.joints),C (I x28.1.last)])]) (by kernel_rfl) (mk [(8,bv t_8_m5)] []) ?_ ?_
  ·refine xq (oMv j j)<|xq (oBi j j j j)<|xq (oMv j j)<|?_
   refine ic hm4 (fun hc2 hm4=>?_) fun hc2 hm4=>?_
   ·refine xqT j j (iEq.2 hc2) (oMv j j)<|xqT j j (iEq.2 hc2) (oBi j j j j)<|xq (oPkT j j (iEq.2 hc2) j)<|xq (oMv j j)<|?_
    refine ic hm4 (fun hc3 hm4=>?_) fun hc3 hm4=>?_
    ·obtain ⟨x41,hx41,hm4⟩:=bs hm4
     cases hm4
     exact xqT j j (iEq.2 hc3) (oLd (cs:=[.own 9 0 0,.own 9 0 1,.im 0 _]) j tF61 j j)<|xqT j j (iEq.2 hc3) (oLd (cs:=[.own 11 0 0,.own 11 0 1,.im 0 _]) j tF61 j j)<|xqT j j (iEq.2 hc3) (oLd (cs:=[.im 0 _,.im 0 _,.im 0 _,.im 0 _]) j tF35 j j)<|xqT j j (iEq.2 hc3) (oCa (xs:=[.v true [.own 9 0 0,.own 9 0 1,.im 0 _],.v true [.own 11 0 0,.own 11 0 1,.im 0 _],.v true [.im 0 _,.im 0 _,.im 0 _,.im 0 _]]) (vs:=[(false,[.im 0 _])]) (v:=.v false [.im 0 _]) (L_impl_staggered hx41) (.inl j) j kF32_61_61_35 j (ppC j (ppC j (ppC j pp0))) j j pb0 j j j)<|xq (oPkT j j (iEq.2 hc3) j)<|xq (oAsI j j)<|xn
    ·cases hm4
     exact xsgF j j (byF iEq hc3) j<|xsgF j j (byF iEq hc3) j<|xsgF j j (byF iEq hc3) j<|xsgF j j (byF iEq hc3) j<|xq (oPkF j j (byF iEq hc3) j)<|xq (oAsI j j)<|xn
   ·cases hm4
    exact xsgF j j (byF iEq hc2) j<|xsgF j j (byF iEq hc2) j<|xq (oPkF j j (byF iEq hc2) j)<|xq (oMv j j)<|xsgF j j j j<|xsgF j j j j<|xsgF j j j j<|xsgF j j j j<|xq (oPkF j j j j)<|xq (oAsI j j)<|xn
  ·refine us<|Go.ret (Unw.ret ?_)
   cases h
   exact fr rF18 j
theorem L_impl_Decimal {n_0:Int} {r:ByteArray} (h:impl_Decimal n_0=some r):FX 23 [.im 2 false [I n_0]] (B0 [(false,[.im 0 (Y r)])]):=by
 unfold impl_Decimal at h
 refine gn 5 Tryd.func23 rfl ?_
 refine gs<|g0 j j (q (oAsI j j)<|nl)<|us<|gs<|?_
 obtain ⟨x4,hx4,h⟩:=bs h
 refine g0 j j (q (oMv j j)<|q (oCa (xs:=[.v false [.im 2 _],.v false [.im 0 _]]) (vs:=[(false,[.im 0 _])]) (v:=.v false [.im 0 _]) (FL_fmt j hx4) (.inl j) j kF36_2_3 j (ppC j (ppC j pp0)) j j pb0 j j j)<|q (oAsI j j)<|nl)<|us<|Go.ret (Unw.ret ?_)
 cases h
 exact fr rF23 j
theorem L_impl_RoomText {r_0:S_Room} {r:ByteArray} (h:impl_RoomText r_0=some r):FX 8 [.im 2 true (u_S_Room r_0)] (B0 [(false,[.im 0 (Y r)])]):=by
 unfold impl_RoomText at h
 refine gn 14 Tryd.func8 rfl ?_
 refine gs<|g0 j j (q (oBx j tF25 j (tkI (tkI tk0)))<|q (oAsI j j)<|nl)<|us<|gs<|gs<|?_
 obtain ⟨x4,hx4,h⟩:=bs h
 refine g0 j j (q (oLd (cs:=[.im 0 _,.im 0 _]) j tF25 j j)<|q (oCa (xs:=[.v true [.im 0 _,.im 0 _]]) (vs:=[(false,[.im 0 _])]) (v:=.v false [.im 0 _]) (L_impl_ValidRoom hx4) (.inl j) j kF22_25 j (ppC j pp0) j j pb0 j j j)<|q (oUn j j j)<|nl)<|us<|?_
 by_cases hc1:x4=true
 ·rw [if_pos hc1] at h
  refine gF j (nF (iR.2 hc1))<|Go.skip<|us<|gs<|?_
  obtain ⟨x8,hx8,h⟩:=bs h
  obtain ⟨x9,hx9,h⟩:=bs h
  obtain ⟨x12,hx12,h⟩:=bs h
  obtain ⟨x13,hx13,h⟩:=bs h
  refine gd c8 j j j j (mk [(2,sv x13)] []) (t j j (oFA (r':=.mp 1 0 0) j fF25_0 j j)<|t j j (oLd (cs:=[.im 0 _]) j tF2 j j)<|t j j (oFA (r':=.mp 1 0 1) j fF25_1 j j)<|t j j (oLd (cs:=[.im 0 _]) j tF2 j j)<|sS (dN z8 j (oCa (xs:=[.v false [.im 0 _]]) (vs:=[(false,[.im 0 _])]) (v:=.v false [.im 0 _]) (L_impl_Decimal hx8) (.inl j) j kF23_2 j (ppC j pp0) j j pb0 j j j)) trivial (t j j (oCat j hx9 j j)<|sS (dN z8 j (oCa (xs:=[.v false [.im 0 _]]) (vs:=[(false,[.im 0 _])]) (v:=.v false [.im 0 _]) (L_impl_Decimal hx12) (.inl j) j kF23_2 j (ppC j pp0) j j pb0 j j j)) trivial (t j j (oCat j hx13 j j)<|sS (dN z8 j (oAsI j j)) trivial (sD (by kernel_rfl)))))<|us<|Go.ret (Unw.ret ?_)
  cases h
  exact fr rF8 j
 ·rw [if_neg hc1] at h
  refine gT j (nT (byF iR hc1))<|gs<|g0 j j (q (oAsI j j)<|nl)<|us<|Go.ret (Unw.ret ?_)
  cases h
  exact fr rF8 j
theorem L_stringslite_HasPrefix {s_0:ByteArray} {prefix_1:ByteArray} {r:Bool} (h:stringslite_HasPrefix s_0 prefix_1=some r):FX 57 [.im 2 false [Y s_0],.im 2 false [Y prefix_1]] (B0 [(false,[.im 0 (V r)])]):=by
 unfold stringslite_HasPrefix at h
 refine gn 18 Tryd.func57 rfl ?_
 refine gs<|g0 j j (q (oAsI j j)<|nl)<|us<|gs<|?_
 obtain ⟨t_4_m1,hm2,h⟩:=bs h
 refine gX c57 j j j (mk [(4,bv t_4_m1)] []) ?_ ?_
 ·refine xq (oMv j j)<|xq (oLnS j j uF9 j)<|xq (oMv j j)<|xq (oLnS j j uF9 j)<|xq (oBi j j j j)<|xq (oMv j j)<|?_
  refine ic hm2 (fun hc1 hm2=>?_) fun hc1 hm2=>?_
  ·obtain ⟨x14,hx14,hm2⟩:=bs hm2
   cases hm2
   exact xqT j j (iDec.2 hc1) (oMv j j)<|xqT j j (iDec.2 hc1) (oMv j j)<|xqT j j (iDec.2 hc1) (oLnS j j uF9 j)<|xqT j j (iDec.2 hc1) (oSlS j hx14 uF9 j bn0 (bn1 j) j j)<|xqT j j (iDec.2 hc1) (oMv j j)<|xqT j j (iDec.2 hc1) (oBi j j j j)<|xq (oPkT j j (iDec.2 hc1) j)<|xq (oAsI j j)<|xn
  ·cases hm2
   exact xsgF j j (byF iDec hc1) j<|xsgF j j (byF iDec hc1) j<|xsgF j j (byF iDec hc1) j<|xsgF j j (byF iDec hc1) j<|xsgF j j (byF iDec hc1) j<|xsgF j j (byF iDec hc1) j<|xq (oPkF j j (byF iDec hc1) j)<|xq (oAsI j j)<|xn
 ·refine us<|Go.ret (Unw.ret ?_)
  cases h
  exact fr rF57 j
theorem L_strings_HasPrefix {s_0:ByteArray} {prefix_1:ByteArray} {r:Bool} (h:strings_HasPrefix s_0 prefix_1=some r):FX 50 [.im 2 false [Y s_0],.im 2 false [Y prefix_1]] (B0 [(false,[.im 0 (V r)])]):=by
 unfold strings_HasPrefix at h
 refine gn 8 Tryd.func50 rfl ?_
 refine gs<|g0 j j (q (oAsI j j)<|nl)<|us<|gs<|?_
 obtain ⟨x7,hx7,h⟩:=bs h
 refine g0 j j (q (oMv j j)<|q (oMv j j)<|q (oCa (xs:=[.v false [.im 2 _],.v false [.im 2 _]]) (vs:=[(false,[.im 0 _])]) (v:=.v false [.im 0 _]) (L_stringslite_HasPrefix hx7) (.inl j) j kF57_9_9 j (ppC j (ppC j pp0)) j j pb0 j j j)<|q (oAsI j j)<|nl)<|us<|Go.ret (Unw.ret ?_)
 cases h
 exact fr rF50 j
theorem L_impl_ReadDecimal {s_0:ByteArray} {r:(Int×Bool)} (h:impl_ReadDecimal s_0=some r):FX 40 [.im 2 false [Y s_0]] (B0 [(false,[.im 0 (I r.1)]),(false,[.im 0 (V r.2)])]):=by
 unfold impl_ReadDecimal at h
 refine gn 56 Tryd.func40 rfl ?_
 refine gs<|g0 j j (q (oAsI j j)<|q (oAsI j j)<|nl)<|us<|gs<|g0 j j (q (oMv j j)<|q (oAsI j j)<|nl)<|us<|gs<|gs<|?_
 obtain ⟨x9,hx9,h⟩:=bs h
 refine g0 j j (q (oMv j j)<|q (oCa (xs:=[.v false [.im 2 _],.v false [.im 0 _]]) (vs:=[(false,[.im 0 _])]) (v:=.v false [.im 0 _]) (L_strings_HasPrefix hx9) (.inl j) j kF50_9_9 j (ppC j (ppC j pp0)) j j pb0 j j j)<|nl)<|us<|Go.join (fun st=>∃digits_4_r4,impl_ReadDecimal_k4 s_0 digits_4_r4=some r∧st.norm ([0,4],[])=mk [(0,sv s_0),(4,sv digits_4_r4)] []) ?_ ?_
 ·rintro st ⟨digits_4_r4,h,hst⟩
  unfold impl_ReadDecimal_k4 at h
  refine us<|gs<|gs<|gX c40 j j hst (mk [(0,sv s_0),(4,sv digits_4_r4),(19,bv ((decide ((digits_4_r4.size:Int) <1))||(decide ((digits_4_r4.size:Int) >18))))] []) ?_ ?_
  ·refine xq (oMv j j)<|xq (oLnS j j uF9 j)<|xq (oBi j j j j)<|xq (oMv j j)<|?_
   by_cases hc2:(digits_4_r4.size:Int) <1
   ·exact xsgF rfl rfl (iDec.2 hc2) rfl<|xsgF rfl rfl (iDec.2 hc2) rfl<|xsgF rfl rfl (iDec.2 hc2) rfl<|xq (oPkT rfl rfl (iDec.2 hc2) rfl)<|xn (Eq.trans (b:=(fun t_19_m4:Bool=>mk [(0,sv s_0),(4,sv digits_4_r4),(19,bv t_19_m4)] []) true) (by kernel_rfl) (congrArg (fun t_19_m4:Bool=>mk [(0,sv s_0),(4,sv digits_4_r4),(19,bv t_19_m4)] []) (by first | rfl | (simp [(iDec.2 hc2)];done) | (simp [(iDec.2 hc2)];omega))))
   ·exact xqT rfl rfl (byF iDec hc2) (oMv rfl rfl)<|xqT rfl rfl (byF iDec hc2) (oLnS rfl rfl uF9 rfl)<|xqT rfl rfl (byF iDec hc2) (oBi rfl rfl rfl rfl)<|xq (oPkF rfl rfl (byF iDec hc2) rfl)<|xn (Eq.trans (b:=(fun t_19_m4:Bool=>mk [(0,sv s_0),(4,sv digits_4_r4),(19,bv t_19_m4)] []) (decide ((digits_4_r4.size:Int) >18))) (by kernel_rfl) (congrArg (fun t_19_m4:Bool=>mk [(0,sv s_0),(4,sv digits_4_r4),(19,bv t_19_m4)] []) (by first | rfl | (simp [(byF iDec hc2)];done) | (simp [(byF iDec hc2)];omega))))
  ·refine us<|gc h j (iOr iDec iDec) (fun hc3 h=>?_) fun hc3 h=>?_
   ·refine gs<|g0 j j (q (oAsI j j)<|q (oAsI j j)<|nl)<|us<|Go.ret (Unw.ret ?_)
    cases h
    exact fr rF40 j
   ·refine Go.skip<|us<|gs<|g0 j j (q (oAsI j j)<|nl)<|us<|gs<|gs<|g0 j j (q (oAsI j j)<|nl)<|us<|Go.block<|?_
    obtain ⟨o,hl,h⟩:=bs h
    refine gl c40 j _ (fun (s:(Int×Int))=>match s with | (n_5_l8,i_6_l8)=>mk [(0,sv s_0),(4,sv digits_4_r4),(5,iv n_5_l8),(6,iv i_6_l8)] []) (fun (o:(Int ⊕ (Int×Bool))) (p:Ex×St)=>match o with | (.inl n_5_e0_8)=>p.1= .exit 0∧p.2.norm ([0,4,5],[])=mk [(0,sv s_0),(4,sv digits_4_r4),(5,iv n_5_e0_8)] [] | (.inr r2)=>p.1= .ret∧fin Tryd.prog cfg 40 Tryd.f40 [.im 2 false [Y s_0]] p.2=some (B0 [(false,[.im 0 (I r2.1)]),(false,[.im 0 (V r2.2)])])) hl (by kernel_rfl) ?_ ?_ ?_
    ·intro o p hp e
     rcases o with n_5_e0_8 | r2<;>exact nomatch (hp.1.symm.trans e)
    ·rintro ⟨n_5_l8,i_6_l8⟩ o h
     unfold impl_ReadDecimal_l8 at h
     dsimp only at h
     refine gs<|gs<|g0 j j (q (oMv j j)<|q (oMv j j)<|q (oLnS j j uF9 j)<|q (oBi j j j j)<|nl)<|us<|gc h j iDec (fun hc16 h=>?_) fun hc16 h=>?_
     ·refine Go.skip<|us<|gs<|Go.block<|gs<|gs<|?_
      obtain ⟨x28,hx28,h⟩:=bs h
      obtain ⟨t_35_m10,hm19,h⟩:=bs h
      refine gX c40 j j j (mk [(0,sv s_0),(4,sv digits_4_r4),(5,iv n_5_l8),(6,iv i_6_l8),(35,bv t_35_m10)] []) ?_ ?_
      ·refine xq (oMv j j)<|xq (oMv j j)<|xq (oIx j hx28 uF9 j j)<|xq (oBi j j j j)<|xq (oMv j j)<|?_
       refine ic hm19 (fun hc17 hm19=>?_) fun hc17 hm19=>?_
       ·cases hm19
        exact xsgF j j (iDec.2 hc17) j<|xsgF j j (iDec.2 hc17) j<|xsgF j j (iDec.2 hc17) j<|xsgF j j (iDec.2 hc17) j<|xq (oPkT j j (iDec.2 hc17) j)<|xn
       ·obtain ⟨x33,hx33,hm19⟩:=bs hm19
        cases hm19
        exact xqT j j (byF iDec hc17) (oMv j j)<|xqT j j (byF iDec hc17) (oMv j j)<|xqT j j (byF iDec hc17) (oIx j hx33 uF9 j j)<|xqT j j (byF iDec hc17) (oBi j j j j)<|xq (oPkF j j (byF iDec hc17) j)<|xn
      ·refine us<|gc h j iR (fun hc18 h=>?_) fun hc18 h=>?_
       ·refine gs<|g0 j j (q (oAsI j j)<|q (oAsI j j)<|nl)<|us<|Go.ret (Unw.ret ?_)
        cases h
        exact ⟨j,(fo rF40 j)⟩
       ·refine Go.skip<|us<|?_
        obtain ⟨x40,hx40,h⟩:=bs h
        refine g0 j j (q (oMv j j)<|q (oBi j j j j)<|q (oMv j j)<|q (oMv j j)<|q (oIx j hx40 uF9 j j)<|q (oBi j j j j)<|q (oCvI j uF5 uF2 j)<|q (oBi j j j j)<|q (oAsI j j)<|nl)<|Unw.blk<|us<|g0 j j (q (oMv j j)<|q (oBi j j j j)<|q (oAsI j j)<|nl)<|Unw.nil<|?_
        cases h
        exact ⟨j,(by kernel_rfl)⟩
     ·refine Go.exit<|ux<|Unw.nil<|?_
      cases h
      exact ⟨j,(by kernel_rfl)⟩
    ·rintro ⟨e,st⟩ hp
     rcases o with n_5_e0_8 | r2
     ·dsimp only at h
      obtain ⟨he,hst⟩:=hp
      obtain rfl:e= .exit 0:=he
      refine Unw.blkx<|us<|gs<|gs<|g2 c40 j j hst (q (oMv j j)<|q (oLnS j j uF9 j)<|q (oMv j j)<|q (oLnS j j uF9 j)<|q (oBi j j j j)<|nl)<|us<|Go.join (fun st=>∃n_5_r15,impl_ReadDecimal_k15 s_0 n_5_r15=some r∧st.norm ([0,5],[])=mk [(0,sv s_0),(5,iv n_5_r15)] []) ?_ ?_
      ·rintro st ⟨n_5_r15,h,hst⟩
       unfold impl_ReadDecimal_k15 at h
       refine us<|gs<|gs<|?_
       obtain ⟨x52,hx52,h⟩:=bs h
       refine g2 c40 j j hst (q (oMv j j)<|q (oCa (xs:=[.v false [.im 0 _]]) (vs:=[(false,[.im 0 _])]) (v:=.v false [.im 0 _]) (L_impl_Decimal hx52) (.inl j) j kF23_2 j (ppC j pp0) j j pb0 j j j)<|q (oMv j j)<|q (oBi j j j j)<|nl)<|us<|gc h j (iNot iStr) (fun hc13 h=>?_) fun hc13 h=>?_
       ·refine gs<|g0 j j (q (oAsI j j)<|q (oAsI j j)<|nl)<|us<|Go.ret (Unw.ret ?_)
        cases h
        exact fr rF40 j
       ·refine Go.skip<|us<|gs<|g0 j j (q (oMv j j)<|q (oAsI j j)<|q (oAsI j j)<|nl)<|us<|Go.ret (Unw.ret ?_)
        cases h
        exact fr rF40 j
      ·intro K14
       refine gc h j iDec (fun hc15 h=>?_) fun hc15 h=>?_
       ·exact g0 j j (q (oMv j j)<|q (oUn j j j)<|q (oAsI j j)<|nl)<|K14 _ ⟨(w64 (0 - n_5_e0_8)),h,(by kernel_rfl)⟩
       ·exact Go.skip<|K14 _ ⟨n_5_e0_8,h,(by kernel_rfl)⟩
     ·dsimp only at h
      obtain ⟨he,hfin⟩:=hp
      obtain rfl:e= .ret:=he
      cases h
      exact Unw.ret (Fin_ret hfin)
 ·intro K20
  refine gc h j iR (fun hc21 h=>?_) fun hc21 h=>?_
  ·obtain ⟨x11,hx11,h⟩:=bs h
   exact g0 j j (q (oMv j j)<|q (oSlS j hx11 uF9 j (bn1 j) bn0 j j)<|q (oAsI j j)<|nl)<|K20 _ ⟨x11,h,(by kernel_rfl)⟩
  ·exact Go.skip<|K20 _ ⟨s_0,h,(by kernel_rfl)⟩
theorem L_impl_readSize {s_0:ByteArray} {r:(Int×Int×Bool)} (h:impl_readSize s_0=some r):FX 25 [.im 2 false [Y s_0]] (B0 [(false,[.im 0 (I r.1)]),(false,[.im 0 (I r.2.1)]),(false,[.im 0 (V r.2.2)])]):=by
 unfold impl_readSize at h
 refine gn 37 Tryd.func25 rfl ?_
 refine gs<|g0 j j (q (oAsI j j)<|q (oAsI j j)<|q (oAsI j j)<|nl)<|us<|gs<|?_
 obtain ⟨x14,hx14,h⟩:=bs h
 refine g0 j j (q (oMv j j)<|q (oCa (xs:=[.v false [.im 2 _],.v false [.im 0 _]]) (vs:=[(false,[.im 0 _]),(false,[.im 0 _]),(false,[.im 0 _])]) (v:=.tup [(false,[.im 0 _]),(false,[.im 0 _]),(false,[.im 0 _])]) (FL_cut j hx14) (.inl j) j kF39_9_9 j (ppC j (ppC j pp0)) j j pb0 j j j)<|q (oMvT j j)<|q (oEx j j j)<|q (oEx j j j)<|q (oEx j j j)<|q (oAsI j j)<|q (oAsI j j)<|q (oAsI j j)<|nl)<|us<|gs<|?_
 obtain ⟨x20,hx20,h⟩:=bs h
 refine g0 j j (q (oMv j j)<|q (oCa (xs:=[.v false [.im 0 _]]) (vs:=[(false,[.im 0 _]),(false,[.im 0 _])]) (v:=.tup [(false,[.im 0 _]),(false,[.im 0 _])]) (L_impl_ReadDecimal hx20) (.inl j) j kF40_9 j (ppC j pp0) j j pb0 j j j)<|q (oMvT j j)<|q (oEx j j j)<|q (oEx j j j)<|q (oAsI j j)<|q (oAsI j j)<|nl)<|us<|gs<|?_
 obtain ⟨x25,hx25,h⟩:=bs h
 refine g0 j j (q (oMv j j)<|q (oCa (xs:=[.v false [.im 0 _]]) (vs:=[(false,[.im 0 _]),(false,[.im 0 _])]) (v:=.tup [(false,[.im 0 _]),(false,[.im 0 _])]) (L_impl_ReadDecimal hx25) (.inl j) j kF40_9 j (ppC j pp0) j j pb0 j j j)<|q (oMvT j j)<|q (oEx j j j)<|q (oEx j j j)<|q (oAsI j j)<|q (oAsI j j)<|nl)<|us<|gs<|gX c25 j j j (mk [(2,iv x20.1),(3,iv x25.1),(4,bv (x14.2.2&&(x20.2&&x25.2)))] []) ?_ ?_
 ·refine xq (oMv j j)<|xq (oMv j j)<|xq (oMv j j)<|xq (oMv j j)<|?_
  by_cases hc1:x14.2.2=true
  ·refine xqT j j (iR.2 hc1) (oMv j j)<|xq (oPkT j j (iR.2 hc1) j)<|xq (oMv j j)<|?_
   by_cases hc2:x20.2=true
   ·exact xqT rfl rfl (iR.2 hc2) (oMv rfl rfl)<|xq (oPkT rfl rfl (iR.2 hc2) rfl)<|xq (oAsI rfl rfl)<|xq (oAsI rfl rfl)<|xq (oAsI rfl rfl)<|xn (Eq.trans (b:=(fun t_4_m4:Bool=>mk [(2,iv x20.1),(3,iv x25.1),(4,bv t_4_m4)] []) x25.2) (by kernel_rfl) (congrArg (fun t_4_m4:Bool=>mk [(2,iv x20.1),(3,iv x25.1),(4,bv t_4_m4)] []) (by first | rfl | (simp [(iR.2 hc1),(iR.2 hc2)];done) | (simp [(iR.2 hc1),(iR.2 hc2)];omega) | (have q0:=(iR.2 hc1);have q1:=(iR.2 hc2);simp_all))))
   ·exact xsgF rfl rfl (byF iR hc2) rfl<|xq (oPkF rfl rfl (byF iR hc2) rfl)<|xq (oAsI rfl rfl)<|xq (oAsI rfl rfl)<|xq (oAsI rfl rfl)<|xn (Eq.trans (b:=(fun t_4_m4:Bool=>mk [(2,iv x20.1),(3,iv x25.1),(4,bv t_4_m4)] []) false) (by kernel_rfl) (congrArg (fun t_4_m4:Bool=>mk [(2,iv x20.1),(3,iv x25.1),(4,bv t_4_m4)] []) (by first | rfl | (simp [(iR.2 hc1),(byF iR hc2)];done) | (simp [(iR.2 hc1),(byF iR hc2)];omega) | (have q0:=(iR.2 hc1);have q1:=(byF iR hc2);simp_all))))
  ·exact xsgF rfl rfl (byF iR hc1) rfl<|xq (oPkF rfl rfl (byF iR hc1) rfl)<|xq (oMv rfl rfl)<|xsgF rfl rfl rfl rfl<|xq (oPkF rfl rfl rfl rfl)<|xq (oAsI rfl rfl)<|xq (oAsI rfl rfl)<|xq (oAsI rfl rfl)<|xn (Eq.trans (b:=(fun t_4_m4:Bool=>mk [(2,iv x20.1),(3,iv x25.1),(4,bv t_4_m4)] []) false) (by kernel_rfl) (congrArg (fun t_4_m4:Bool=>mk [(2,iv x20.1),(3,iv x25.1),(4,bv t_4_m4)] []) (by first | rfl | (simp [(byF iR hc1)];done) | (simp [(byF iR hc1)];omega))))
 ·refine us<|Go.ret (Unw.ret ?_)
  cases h
  exact fr rF25 j
theorem L_impl_ReadRoom {s_0:ByteArray} {r:(S_Room×Bool)} (h:impl_ReadRoom s_0=some r):FX 10 [.im 2 false [Y s_0]] (B0 [(true,J 0 (u_S_Room r.1)),(false,[.im 0 (V r.2)])]):=by
 unfold impl_ReadRoom at h
 refine gn 26 Tryd.func10 rfl ?_
 refine gs<|g0 j j (q (oAl j tF25 (tkI (tkI tk0)))<|q (oAsI j j)<|nl)<|us<|gs<|?_
 obtain ⟨x10,hx10,h⟩:=bs h
 refine g0 j j (q (oMv j j)<|q (oCa (xs:=[.v false [.im 2 _]]) (vs:=[(false,[.im 0 _]),(false,[.im 0 _]),(false,[.im 0 _])]) (v:=.tup [(false,[.im 0 _]),(false,[.im 0 _]),(false,[.im 0 _])]) (L_impl_readSize hx10) (.inl j) j kF25_9 j (ppC j pp0) j j pb0 j j j)<|q (oMvT j j)<|q (oEx j j j)<|q (oEx j j j)<|q (oEx j j j)<|q (oAsI j j)<|q (oAsI j j)<|q (oAsI j j)<|nl)<|us<|gs<|g0 j j (q (oMv j j)<|q (oMv j j)<|q (oBu (cs:=[.im 0 _,.im 0 _]) j bF25 j)<|q (oAl j tF25 (tkI (tkI tk0)))<|q (oSt tF25 j j j (tkI (tkI tk0)) j j j)<|nl)<|us<|gs<|gs<|?_
 obtain ⟨t_23_m3,hm3,h⟩:=bs h
 refine gX c10 j j (st1:=mk [(2,M 2),(6,bv x10.2.2),(7,M 7)] [(2,Oa [C (I 0),C (I 0)]),(7,Oa [C (I x10.1),C (I x10.2.1)])]) (by kernel_rfl) (mk [(2,M 2),(7,M 7),(23,bv t_23_m3)] [(2,Oa [C (I 0),C (I 0)]),(7,Oa [C (I x10.1),C (I x10.2.1)])]) ?_ ?_
 ·refine xq (oMv j j)<|xq (oUn j j j)<|xq (oMv j j)<|?_
  refine ic hm3 (fun hc1 hm3=>?_) fun hc1 hm3=>?_
  ·obtain ⟨x21,hx21,hm3⟩:=bs hm3
   cases hm3
   exact xqT j j (nF (iR.2 hc1)) (oLd (cs:=[.im 0 _,.im 0 _]) j tF25 j j)<|xqT j j (nF (iR.2 hc1)) (oCa (xs:=[.v true [.im 0 _,.im 0 _]]) (vs:=[(false,[.im 0 _])]) (v:=.v false [.im 0 _]) (L_impl_ValidRoom hx21) (.inl j) j kF22_25 j (ppC j pp0) j j pb0 j j j)<|xqT j j (nF (iR.2 hc1)) (oUn j j j)<|xq (oPkF j j (nF (iR.2 hc1)) j)<|xn
  ·cases hm3
   exact xsgF j j (nT (byF iR hc1)) j<|xsgF j j (nT (byF iR hc1)) j<|xsgF j j (nT (byF iR hc1)) j<|xq (oPkT j j (nT (byF iR hc1)) j)<|xn
 ·refine us<|gc h j iR (fun hc2 h=>?_) fun hc2 h=>?_
  ·refine gs<|g0 j j (q (oBu (cs:=[.im 0 _,.im 0 _]) j bF25 j)<|q (oSt tF25 j j j (tkI (tkI tk0)) j j j)<|q (oAsI j j)<|nl)<|us<|Go.ret (Unw.ret ?_)
   cases h
   exact fr rF10 j
  ·refine Go.skip<|us<|gs<|g0 j j (q (oLd (cs:=[.im 0 _,.im 0 _]) j tF25 j j)<|q (oSt tF25 j j j (tkI (tkI tk0)) j j j)<|q (oAsI j j)<|nl)<|us<|Go.ret (Unw.ret ?_)
   cases h
   exact fr rF10 j
theorem L_spec_l00In {n_0:Int} {low_1:Int} {high_2:Int} {r:Bool} (h:spec_l00In n_0 low_1 high_2=some r):FX 33 [.im 2 false [I n_0],.im 2 false [I low_1],.im 2 false [I high_2]] (B0 [(false,[.im 0 (V r)])]):=by
 unfold spec_l00In at h
 refine gn 15 Tryd.func33 rfl ?_
 refine gs<|g0 j j (q (oAsI j j)<|nl)<|us<|gs<|gX c33 j j j (mk [(6,bv ((decide (n_0≥low_1))&&(decide (n_0≤high_2))))] []) ?_ ?_
 ·refine xq (oMv j j)<|xq (oMv j j)<|xq (oBi j j j j)<|xq (oMv j j)<|?_
  by_cases hc1:n_0≥low_1
  ·exact xqT rfl rfl (iDec.2 hc1) (oMv rfl rfl)<|xqT rfl rfl (iDec.2 hc1) (oMv rfl rfl)<|xqT rfl rfl (iDec.2 hc1) (oBi rfl rfl rfl rfl)<|xq (oPkT rfl rfl (iDec.2 hc1) rfl)<|xq (oAsI rfl rfl)<|xn (Eq.trans (b:=(fun t_6_m1:Bool=>mk [(6,bv t_6_m1)] []) (decide (n_0≤high_2))) (by kernel_rfl) (congrArg (fun t_6_m1:Bool=>mk [(6,bv t_6_m1)] []) (by first | rfl | (simp [(iDec.2 hc1)];done) | (simp [(iDec.2 hc1)];omega))))
  ·exact xsgF rfl rfl (byF iDec hc1) rfl<|xsgF rfl rfl (byF iDec hc1) rfl<|xsgF rfl rfl (byF iDec hc1) rfl<|xq (oPkF rfl rfl (byF iDec hc1) rfl)<|xq (oAsI rfl rfl)<|xn (Eq.trans (b:=(fun t_6_m1:Bool=>mk [(6,bv t_6_m1)] []) false) (by kernel_rfl) (congrArg (fun t_6_m1:Bool=>mk [(6,bv t_6_m1)] []) (by first | rfl | (simp [(byF iDec hc1)];done) | (simp [(byF iDec hc1)];omega))))
 ·refine us<|Go.ret (Unw.ret ?_)
  cases h
  exact fr rF33 j
theorem L_spec_l30Room {r_0:S_Room} {r:Bool} (h:spec_l30Room r_0=some r):FX 20 [.im 2 false [.cp (u_S_Room r_0) 0]] (B0 [(false,[.im 0 (V r)])]):=by
 unfold spec_l30Room at h
 refine gn 15 Tryd.func20 rfl ?_
 refine gs<|g0 j j (q (oAsI j j)<|nl)<|us<|gs<|?_
 obtain ⟨x7,hx7,h⟩:=bs h
 obtain ⟨t_2_m1,hm2,h⟩:=bs h
 refine gX c20 j j j (mk [(2,bv t_2_m1)] []) ?_ ?_
 ·refine xq (oMv j j)<|xq (oNl j j j)<|xq (oFA (r':=.im 2 _) j fF25_0 j j)<|xq (oLd (cs:=[.im 2 _]) j tF2 j j)<|xq (oCa (xs:=[.v false [.im 2 _],.v false [.im 0 _],.v false [.im 0 _]]) (vs:=[(false,[.im 0 _])]) (v:=.v false [.im 0 _]) (L_spec_l00In hx7) (.inl j) j kF33_2_2_2 j (ppC j (ppC j (ppC j pp0))) j j pb0 j j j)<|xq (oMv j j)<|?_
  refine ic hm2 (fun hc1 hm2=>?_) fun hc1 hm2=>?_
  ·obtain ⟨x13,hx13,hm2⟩:=bs hm2
   cases hm2
   exact xqT j j (iR.2 hc1) (oMv j j)<|xqT j j (iR.2 hc1) (oNl j j j)<|xqT j j (iR.2 hc1) (oFA (r':=.im 2 _) j fF25_1 j j)<|xqT j j (iR.2 hc1) (oLd (cs:=[.im 2 _]) j tF2 j j)<|xqT j j (iR.2 hc1) (oCa (xs:=[.v false [.im 2 _],.v false [.im 0 _],.v false [.im 0 _]]) (vs:=[(false,[.im 0 _])]) (v:=.v false [.im 0 _]) (L_spec_l00In hx13) (.inl j) j kF33_2_2_2 j (ppC j (ppC j (ppC j pp0))) j j pb0 j j j)<|xq (oPkT j j (iR.2 hc1) j)<|xq (oAsI j j)<|xn
  ·cases hm2
   exact xsgF j j (byF iR hc1) j<|xsgF j j (byF iR hc1) j<|xsgF j j (byF iR hc1) j<|xsgF j j (byF iR hc1) j<|xsgF j j (byF iR hc1) j<|xq (oPkF j j (byF iR hc1) j)<|xq (oAsI j j)<|xn
 ·refine us<|Go.ret (Unw.ret ?_)
  cases h
  exact fr rF20 j
theorem L_spec_ValidRoom {r_0:S_Room} {r:Bool} (h:spec_ValidRoom r_0=some r):FX 19 [.im 2 true (u_S_Room r_0)] (B0 [(false,[.im 0 (V r)])]):=by
 unfold spec_ValidRoom at h
 refine gn 4 Tryd.func19 rfl ?_
 refine gs<|g0 j j (q (oBx j tF25 j (tkI (tkI tk0)))<|q (oAsI j j)<|nl)<|us<|gs<|?_
 obtain ⟨x3,hx3,h⟩:=bs h
 refine g0 j j (q (oCa (xs:=[.v false [.mp 1 0 0]]) (vs:=[(false,[.im 0 _])]) (v:=.v false [.im 0 _]) (L_spec_l30Room hx3) (.inl j) j kF20_48 j (ppC j pp0) j j pb0 j j j)<|q (oAsI j j)<|nl)<|us<|Go.ret (Unw.ret ?_)
 cases h
 exact fr rF19 j
theorem L_laws_FnRooms {code_0:(List Int)} {more_1:(List Int)} {r:Bool} (h:laws_FnRooms code_0 more_1=some r):FX 5 [.im 2 false [W 1 (eK .u8) code_0],.im 2 false [W 1 (eK .u8) more_1]] (B0 [(false,[.im 0 (V r)])]):=by
 unfold laws_FnRooms at h
 refine gn 134 Tryd.func5 rfl ?_
 refine gs<|g0 j j (q (oAsI j j)<|nl)<|us<|gs<|gs<|?_
 obtain ⟨x20,hx20,h⟩:=bs h
 obtain ⟨t_24_m1,hm44,h⟩:=bs h
 refine gX c5 j j j (mk [(0,D 2 (W 1 (eK .u8) code_0)),(1,D 2 (W 1 (eK .u8) more_1)),(24,bv t_24_m1)] []) ?_ ?_
 ·refine xq (oMv j j)<|xq (oCa (xs:=[.v false [.im 2 _]]) (vs:=[(false,[.im 0 _])]) (v:=.v false [.im 0 _]) (L_laws_b10Long hx20) (.inl j) j kF12_32 j (ppC j pp0) j j pb0 j j j)<|xq (oMv j j)<|?_
  refine ic hm44 (fun hc1 hm44=>?_) fun hc1 hm44=>?_
  ·cases hm44
   exact xsgF j j (iR.2 hc1) j<|xsgF j j (iR.2 hc1) j<|xq (oPkT j j (iR.2 hc1) j)<|xn
  ·obtain ⟨x23,hx23,hm44⟩:=bs hm44
   cases hm44
   exact xqT j j (byF iR hc1) (oMv j j)<|xqT j j (byF iR hc1) (oCa (xs:=[.v false [.im 2 _]]) (vs:=[(false,[.im 0 _])]) (v:=.v false [.im 0 _]) (L_laws_b10Long hx23) (.inl j) j kF12_32 j (ppC j pp0) j j pb0 j j j)<|xq (oPkF j j (byF iR hc1) j)<|xn
 ·refine us<|gc h j iR (fun hc2 h=>?_) fun hc2 h=>?_
  ·refine gs<|g0 j j (q (oAsI j j)<|nl)<|us<|Go.ret (Unw.ret ?_)
   cases h
   exact fr rF5 j
  ·refine Go.skip<|us<|gs<|?_
   obtain ⟨x27,hx27,h⟩:=bs h
   refine g0 j j (q (oMv j j)<|q (oCa (xs:=[.v false [.im 2 _]]) (vs:=[(true,[.im 0 _,.im 0 _]),(true,[.im 0 _,.im 0 _,.im 0 _,.im 0 _]),(false,[.im 0 _])]) (v:=.tup [(true,[.im 0 _,.im 0 _]),(true,[.im 0 _,.im 0 _,.im 0 _,.im 0 _]),(false,[.im 0 _])]) (L_spec_DrawRowPieces hx27) (.inl j) j kF13_32 j (ppC j pp0) j j pb0 j j j)<|q (oMvT j j)<|q (oEx j j j)<|q (oEx j j j)<|q (oEx j j j)<|q (oAl j tF25 (tkI (tkI tk0)))<|q (oAl j tF35 (tkI (tkI (tkI (tkI tk0)))))<|q (oSt tF25 j j j (tkI (tkI tk0)) j j j)<|q (oSt tF35 j j j (tkI (tkI (tkI (tkI tk0)))) j j j)<|q (oAsI j j)<|nl)<|us<|gs<|?_
   obtain ⟨x35,hx35,h⟩:=bs h
   refine g1 j j (mk [(1,D 2 (W 1 (eK .u8) more_1)),(5,M 5),(6,M 6),(7,iv x27.2.2)] [(5,Oa (G 0 (u_S_Room x27.1))),(6,Oa (G 0 (u_S_Stock x27.2.1)))]) (q (oLd (cs:=[.im 0 _,.im 0 _]) j tF25 j j)<|q (oLd (cs:=[.im 0 _,.im 0 _,.im 0 _,.im 0 _]) j tF35 j j)<|q (oMv j j)<|q (oCr (xs:=[.v true [.im 0 _,.im 0 _],.v true [.im 0 _,.im 0 _,.im 0 _,.im 0 _],.v false [.im 0 _]]) (vs:=[(false,[.own 35 0 0]),(false,[.im 0 _])]) (v:=.tup [(false,[.own 35 0 0]),(false,[.im 0 _])]) (c:=⟨.sh,0,_⟩) (cs:=[]) (L_impl_RowPieces hx35) (.inl j) j kF14_25_35_2 j (ppC j (ppC j (ppC j pp0))) j j pb0 j j j)<|q (oMvT j j)<|q (oEx j j j)<|q (oEx j j j)<|q (oAsO j j j j j)<|q (oAsI j j)<|nl)<|us<|gs<|?_
   obtain ⟨x42,hx42,h⟩:=bs h
   refine g0 j j (q (oLd (cs:=[.im 0 _,.im 0 _]) j tF25 j j)<|q (oLd (cs:=[.im 0 _,.im 0 _,.im 0 _,.im 0 _]) j tF35 j j)<|q (oMv j j)<|q (oCr (xs:=[.v true [.im 0 _,.im 0 _],.v true [.im 0 _,.im 0 _,.im 0 _,.im 0 _],.v false [.im 0 _]]) (vs:=[(false,[.own 42 0 0]),(false,[.im 0 _])]) (v:=.tup [(false,[.own 42 0 0]),(false,[.im 0 _])]) (c:=⟨.sh,0,_⟩) (cs:=[]) (L_impl_RowJoints hx42) (.inl j) j kF15_25_35_2 j (ppC j (ppC j (ppC j pp0))) j j pb0 j j j)<|q (oMvT j j)<|q (oEx j j j)<|q (oEx j j j)<|q (oAsO j j j j j)<|q (oAsI j j)<|nl)<|us<|gs<|gs<|g0 j j (q (oMv j j)<|q (oMv j j)<|q (oBi j j j j)<|nl)<|us<|gc h j iNe (fun hc3 h=>?_) fun hc3 h=>?_
   ·refine gs<|g0 j j (q (oAsI j j)<|nl)<|us<|Go.ret (Unw.ret ?_)
    cases h
    exact fr rF5 j
   ·refine Go.skip<|us<|gs<|gs<|g0 j j (q (oMv j j)<|q (oBi j j j j)<|nl)<|us<|Go.join (fun st=>laws_FnRooms_k16 more_1 x27=some r∧st.norm ([1,5],[5])=mk [(1,D 2 (W 1 (eK .u8) more_1)),(5,M 5)] [(5,Oa (G 0 (u_S_Room x27.1)))]) ?_ ?_
    ·rintro st ⟨h,hst⟩
     unfold laws_FnRooms_k16 at h
     refine us<|gs<|?_
     obtain ⟨x99,hx99,h⟩:=bs h
     refine g2 c5 j j hst (q (oMv j j)<|q (oCa (xs:=[.v false [.im 2 _]]) (vs:=[(true,[.im 0 _,.im 0 _]),(true,[.im 0 _,.im 0 _,.im 0 _,.im 0 _]),(false,[.im 0 _]),(false,[.im 0 _])]) (v:=.tup [(true,[.im 0 _,.im 0 _]),(true,[.im 0 _,.im 0 _,.im 0 _,.im 0 _]),(false,[.im 0 _]),(false,[.im 0 _])]) (L_spec_DrawStaggered hx99) (.inl j) j kF17_32 j (ppC j pp0) j j pb0 j j j)<|q (oMvT j j)<|q (oEx j j j)<|q (oEx j j j)<|q (oEx j j j)<|q (oEx j j j)<|q (oAl j tF25 (tkI (tkI tk0)))<|q (oAl j tF35 (tkI (tkI (tkI (tkI tk0)))))<|q (oSt tF25 j j j (tkI (tkI tk0)) j j j)<|q (oSt tF35 j j j (tkI (tkI (tkI (tkI tk0)))) j j j)<|q (oAsI j j)<|q (oAsI j j)<|nl)<|us<|gs<|gs<|?_
     obtain ⟨x108,hx108,h⟩:=bs h
     obtain ⟨x113,hx113,h⟩:=bs h
     refine gd c5 j j j (st1:=mk [(5,M 5),(13,M 13),(14,M 14),(15,iv x99.2.2.1),(16,iv x99.2.2.2)] [(5,Oa (G 0 (u_S_Room x27.1))),(13,Oa (G 0 (u_S_Room x99.1))),(14,Oa (G 0 (u_S_Stock x99.2.1)))]) (by kernel_rfl) (mk [(5,M 5),(114,bv (!(x108==x113)))] [(5,Oa (G 0 (u_S_Room x27.1)))]) (t j j (oLd (cs:=[.im 0 _,.im 0 _]) j tF25 j j)<|t j j (oLd (cs:=[.im 0 _,.im 0 _,.im 0 _,.im 0 _]) j tF35 j j)<|t j j (oMv j j)<|t j j (oMv j j)<|t j j (oLd (cs:=[.im 0 _,.im 0 _]) j tF25 j j)<|t j j (oLd (cs:=[.im 0 _,.im 0 _,.im 0 _,.im 0 _]) j tF35 j j)<|t j j (oMv j j)<|t j j (oMv j j)<|sS (dN z5 j (oCa (xs:=[.v true [.im 0 _,.im 0 _],.v true [.im 0 _,.im 0 _,.im 0 _,.im 0 _],.v false [.im 0 _],.v false [.im 0 _]]) (vs:=[(false,[.im 0 _])]) (v:=.v false [.im 0 _]) (L_impl_Staggered hx108) (.inl j) j kF18_25_35_2_2 j (ppC j (ppC j (ppC j (ppC j pp0)))) j j pb0 j j j)) trivial (sS (dN z5 j (oCa (xs:=[.v true [.im 0 _,.im 0 _],.v true [.im 0 _,.im 0 _,.im 0 _,.im 0 _],.v false [.im 0 _],.v false [.im 0 _]]) (vs:=[(false,[.im 0 _])]) (v:=.v false [.im 0 _]) (L_impl_Staggered hx113) (.inl j) j kF18_25_35_2_2 j (ppC j (ppC j (ppC j (ppC j pp0)))) j j pb0 j j j)) trivial (t j j (oBiU j uF4 j j j)<|sD (by kernel_rfl))))<|us<|?_
     by_cases hc19:x108=x113
     ·rw [if_pos hc19] at h
      refine gF j (nF (iBe.2 hc19))<|Go.skip<|us<|gs<|?_
      obtain ⟨x117,hx117,h⟩:=bs h
      obtain ⟨x118,hx118,h⟩:=bs h
      refine g0 j j (q (oLd (cs:=[.im 0 _,.im 0 _]) j tF25 j j)<|q (oCa (xs:=[.v true [.im 0 _,.im 0 _]]) (vs:=[(false,[.im 0 _])]) (v:=.v false [.im 0 _]) (L_impl_RoomText hx117) (.inl j) j kF8_25 j (ppC j pp0) j j pb0 j j j)<|q (oCa (xs:=[.v false [.im 0 _]]) (vs:=[(true,[.im 0 _,.im 0 _]),(false,[.im 0 _])]) (v:=.tup [(true,[.im 0 _,.im 0 _]),(false,[.im 0 _])]) (L_impl_ReadRoom hx118) (.inl j) j kF10_9 j (ppC j pp0) j j pb0 j j j)<|q (oMvT j j)<|q (oEx j j j)<|q (oEx j j j)<|q (oAl j tF25 (tkI (tkI tk0)))<|q (oSt tF25 j j j (tkI (tkI tk0)) j j j)<|q (oAsI j j)<|nl)<|us<|gs<|?_
      obtain ⟨x123,hx123,h⟩:=bs h
      refine gX c5 j j (st1:=mk [(5,M 5),(17,M 17),(18,bv x118.2)] [(5,Oa (G 0 (u_S_Room x27.1))),(17,Oa (G 0 (u_S_Room x118.1)))]) (by kernel_rfl) (mk [(4,bv ((x118.2==x123)&&((!x118.2)||((x118.1.Width==x27.1.Width)&&(x118.1.Length==x27.1.Length)))))] []) ?_ ?_
      ·refine xq (oMv j j)<|xq (oLd (cs:=[.im 0 _,.im 0 _]) j tF25 j j)<|xq (oCa (xs:=[.v true [.im 0 _,.im 0 _]]) (vs:=[(false,[.im 0 _])]) (v:=.v false [.im 0 _]) (L_spec_ValidRoom hx123) (.inl j) j kF19_25 j (ppC j pp0) j j pb0 j j j)<|xq (oBiU j uF4 j j j)<|xq (oMv j j)<|?_
       by_cases hc20:x118.2=x123
       ·refine xqT j j (iBe.2 hc20) (oMv j j)<|xqT j j (iBe.2 hc20) (oUn j j j)<|xqT j j (iBe.2 hc20) (oMv j j)<|?_
        by_cases hc21:x118.2=true
        ·exact xqT rfl rfl (nF (iR.2 hc21)) (oLd (cs:=[.im 0 _,.im 0 _]) rfl tF25 rfl rfl)<|xqT rfl rfl (nF (iR.2 hc21)) (oLd (cs:=[.im 0 _,.im 0 _]) rfl tF25 rfl rfl)<|xqT rfl rfl (nF (iR.2 hc21)) (oBa rfl (qEF25 x118.1.Width x118.1.Length x27.1.Width x27.1.Length) rfl rfl rfl rfl)<|xqT rfl rfl (iBe.2 hc20) (oPkF rfl rfl (nF (iR.2 hc21)) rfl)<|xq (oPkT rfl rfl (iBe.2 hc20) rfl)<|xq (oAsI rfl rfl)<|xn (Eq.trans (b:=(fun t_4_m20:Bool=>mk [(4,bv t_4_m20)] []) ((x118.1.Width==x27.1.Width)&&(x118.1.Length==x27.1.Length))) (by kernel_rfl) (congrArg (fun t_4_m20:Bool=>mk [(4,bv t_4_m20)] []) (by first | rfl | (simp [(iBe.2 hc20),(iR.2 hc21)];done) | (simp [(iBe.2 hc20),(iR.2 hc21)];omega) | (have q0:=(iBe.2 hc20);have q1:=(iR.2 hc21);simp_all))))
        ·exact xsgF rfl rfl (nT (byF iR hc21)) rfl<|xsgF rfl rfl (nT (byF iR hc21)) rfl<|xsgF rfl rfl (nT (byF iR hc21)) rfl<|xqT rfl rfl (iBe.2 hc20) (oPkT rfl rfl (nT (byF iR hc21)) rfl)<|xq (oPkT rfl rfl (iBe.2 hc20) rfl)<|xq (oAsI rfl rfl)<|xn (Eq.trans (b:=(fun t_4_m20:Bool=>mk [(4,bv t_4_m20)] []) true) (by kernel_rfl) (congrArg (fun t_4_m20:Bool=>mk [(4,bv t_4_m20)] []) (by first | rfl | (simp [(iBe.2 hc20),(byF iR hc21)];done) | (simp [(iBe.2 hc20),(byF iR hc21)];omega) | (have q0:=(iBe.2 hc20);have q1:=(byF iR hc21);simp_all))))
       ·exact xsgF rfl rfl (byF iBe hc20) rfl<|xsgF rfl rfl (byF iBe hc20) rfl<|xsgF rfl rfl (byF iBe hc20) rfl<|xsgU rfl rfl rfl<|xsgU rfl rfl rfl<|xsgU rfl rfl rfl<|xsgF rfl rfl (byF iBe hc20) rfl<|xq (oPkF rfl rfl (byF iBe hc20) rfl)<|xq (oAsI rfl rfl)<|xn (Eq.trans (b:=(fun t_4_m20:Bool=>mk [(4,bv t_4_m20)] []) false) (by kernel_rfl) (congrArg (fun t_4_m20:Bool=>mk [(4,bv t_4_m20)] []) (by first | rfl | (simp [(byF iBe hc20)];done) | (simp [(byF iBe hc20)];omega))))
      ·refine us<|Go.ret (Unw.ret ?_)
       cases h
       exact fr rF5 j
     ·rw [if_neg hc19] at h
      refine gT j (nT (byF iBe hc19))<|gs<|g0 j j (q (oAsI j j)<|nl)<|us<|Go.ret (Unw.ret ?_)
      cases h
      exact fr rF5 j
    ·intro K22
     refine gc h j iEq (fun hc23 h=>?_) fun hc23 h=>?_
     ·refine gs<|gs<|?_
      obtain ⟨x51,hx51,h⟩:=bs h
      refine gd c5 j j j j (mk [(1,D 2 (W 1 (eK .u8) more_1)),(5,M 5),(6,M 6),(8,H 8 0),(62,bv ((x51 != x27.1.Width)||((x42.1.length:Int) != (w64 ((x35.1.length:Int) - 1)))))] [(5,Oa (G 0 (u_S_Room x27.1))),(6,Oa (G 0 (u_S_Stock x27.2.1))),(8,Oc [Z (W 1 eI x35.1)])]) ?_ ?_
      ·refine t j j (oMv j j)<|t j j (oFA (r':=.mp 5 0 0) j fF25_0 j j)<|?_
       by_cases hc24:x51≠x27.1.Width
       ·exact t rfl rfl (oLd (cs:=[.im 0 _]) rfl tF2 rfl rfl)<|sS (dN z5 rfl (oCa (xs:=[.v false [.own 8 0 0]]) (vs:=[(false,[.im 0 _])]) (v:=.v false [.im 0 _]) (L_laws_b10Sum hx51) (.inl rfl) rfl kF16_38 rfl (ppC rfl pp0) rfl rfl pb0 rfl rfl rfl)) trivial (t rfl rfl (oBi rfl rfl rfl rfl)<|t rfl rfl (oMv rfl rfl)<|tF rfl rfl rfl rfl (iNe.2 hc24) rfl<|tF rfl rfl rfl rfl (iNe.2 hc24) rfl<|tF rfl rfl rfl rfl (iNe.2 hc24) rfl<|tF rfl rfl rfl rfl (iNe.2 hc24) rfl<|tF rfl rfl rfl rfl (iNe.2 hc24) rfl<|tF rfl rfl rfl rfl (iNe.2 hc24) rfl<|t rfl rfl (oPkT rfl rfl (iNe.2 hc24) rfl)<|sD (Eq.trans (b:=(fun t_62_m9:Bool=>mk [(1,D 2 (W 1 (eK .u8) more_1)),(5,M 5),(6,M 6),(8,H 8 0),(62,bv t_62_m9)] [(5,Oa (G 0 (u_S_Room x27.1))),(6,Oa (G 0 (u_S_Stock x27.2.1))),(8,Oc [Z (W 1 eI x35.1)])]) true) (by kernel_rfl) (congrArg (fun t_62_m9:Bool=>mk [(1,D 2 (W 1 (eK .u8) more_1)),(5,M 5),(6,M 6),(8,H 8 0),(62,bv t_62_m9)] [(5,Oa (G 0 (u_S_Room x27.1))),(6,Oa (G 0 (u_S_Stock x27.2.1))),(8,Oc [Z (W 1 eI x35.1)])]) (by first | rfl | (simp [(iNe.2 hc24)];done) | (simp [(iNe.2 hc24)];omega)))))
       ·exact t rfl rfl (oLd (cs:=[.im 0 _]) rfl tF2 rfl rfl)<|sS (dN z5 rfl (oCa (xs:=[.v false [.own 8 0 0]]) (vs:=[(false,[.im 0 _])]) (v:=.v false [.im 0 _]) (L_laws_b10Sum hx51) (.inl rfl) rfl kF16_38 rfl (ppC rfl pp0) rfl rfl pb0 rfl rfl rfl)) trivial (t rfl rfl (oBi rfl rfl rfl rfl)<|t rfl rfl (oMv rfl rfl)<|tT rfl rfl rfl rfl (byF iNe hc24) (oMv rfl rfl)<|tT rfl rfl rfl rfl (byF iNe hc24) (oLnO rfl rfl uF38 rfl rfl rfl (fun e=>nomatch e))<|tT rfl rfl rfl rfl (byF iNe hc24) (oMv rfl rfl)<|tT rfl rfl rfl rfl (byF iNe hc24) (oLnO rfl rfl uF38 rfl rfl rfl (fun e=>nomatch e))<|tT rfl rfl rfl rfl (byF iNe hc24) (oBi rfl rfl rfl rfl)<|tT rfl rfl rfl rfl (byF iNe hc24) (oBi rfl rfl rfl rfl)<|t rfl rfl (oPkF rfl rfl (byF iNe hc24) rfl)<|sD (Eq.trans (b:=(fun t_62_m9:Bool=>mk [(1,D 2 (W 1 (eK .u8) more_1)),(5,M 5),(6,M 6),(8,H 8 0),(62,bv t_62_m9)] [(5,Oa (G 0 (u_S_Room x27.1))),(6,Oa (G 0 (u_S_Stock x27.2.1))),(8,Oc [Z (W 1 eI x35.1)])]) ((x42.1.length:Int) != (w64 ((x35.1.length:Int) - 1)))) (by kernel_rfl) (congrArg (fun t_62_m9:Bool=>mk [(1,D 2 (W 1 (eK .u8) more_1)),(5,M 5),(6,M 6),(8,H 8 0),(62,bv t_62_m9)] [(5,Oa (G 0 (u_S_Room x27.1))),(6,Oa (G 0 (u_S_Stock x27.2.1))),(8,Oc [Z (W 1 eI x35.1)])]) (by first | rfl | (simp [(byF iNe hc24)];done) | (simp [(byF iNe hc24)];omega)))))
      ·refine us<|gc h j (iOr iNe iNe) (fun hc25 h=>?_) fun hc25 h=>?_
       ·refine gs<|g0 j j (q (oAsI j j)<|nl)<|us<|Go.ret (Unw.ret ?_)
        cases h
        exact fr rF5 j
       ·refine Go.skip<|us<|gs<|g0 j j (q (oAsI j j)<|nl)<|us<|Go.block<|?_
        obtain ⟨o,hl,h⟩:=bs h
        refine gl c5 j _ (fun (i_12_l12:Int)=>mk [(1,D 2 (W 1 (eK .u8) more_1)),(5,M 5),(6,M 6),(8,H 8 0),(12,iv i_12_l12)] [(5,Oa (G 0 (u_S_Room x27.1))),(6,Oa (G 0 (u_S_Stock x27.2.1))),(8,Oc [Z (W 1 eI x35.1)])]) (fun (o:(Unit ⊕ Bool)) (p:Ex×St)=>match o with | (.inl _)=>p.1= .exit 0∧p.2.norm ([1,5],[5])=mk [(1,D 2 (W 1 (eK .u8) more_1)),(5,M 5)] [(5,Oa (G 0 (u_S_Room x27.1)))] | (.inr r2)=>p.1= .ret∧fin Tryd.prog cfg 5 Tryd.f5 [.im 2 false [W 1 (eK .u8) code_0],.im 2 false [W 1 (eK .u8) more_1]] p.2=some (B0 [(false,[.im 0 (V r2)])])) hl (by kernel_rfl) ?_ ?_ ?_
        ·intro o p hp e
         rcases o with u | r2<;>exact nomatch (hp.1.symm.trans e)
        ·rintro i_12_l12 o h
         unfold laws_FnRooms_l12 at h
         refine gs<|gs<|g0 j j (q (oMv j j)<|q (oMv j j)<|q (oLnO j j uF38 j j j (fun e=>nomatch e))<|q (oBi j j j j)<|nl)<|us<|gc h j iDec (fun hc38 h=>?_) fun hc38 h=>?_
         ·refine Go.skip<|us<|gs<|Go.block<|gs<|?_
          obtain ⟨x71,hx71,h⟩:=bs h
          obtain ⟨t_96_m14,hm43,h⟩:=bs h
          refine gd c5 j j j j (mk [(1,D 2 (W 1 (eK .u8) more_1)),(5,M 5),(6,M 6),(8,H 8 0),(12,iv i_12_l12),(96,bv t_96_m14)] [(5,Oa (G 0 (u_S_Room x27.1))),(6,Oa (G 0 (u_S_Stock x27.2.1))),(8,Oc [Z (W 1 eI x35.1)])]) ?_ ?_
          ·refine t j j (oMv j j)<|t j j (oMv j j)<|t j j (oIAO j hx71 sF38 j j j j)<|t j j (oLdE (cs:=[.im 0 _]) j tF2 j j j j (rd_get hx71) j j)<|t j j (oFA (r':=.mp 6 0 0) j fF35_0 j j)<|t j j (oLd (cs:=[.im 0 _]) j tF2 j j)<|t j j (oBi j j j j)<|t j j (oMv j j)<|?_
           refine ic hm43 (fun hc39 hm43=>?_) fun hc39 hm43=>?_
           ·cases hm43
            exact tF j j j j (iDec.2 hc39) j<|tF j j j j (iDec.2 hc39) j<|tF j j j j (iDec.2 hc39) j<|tF j j j j (iDec.2 hc39) j<|sT j (dU j j j j)<|sT j (dU j j j j)<|sT j (dU j j j j)<|sT j (dU j j j j)<|sT j (dU j j j j)<|sT j (dU j j j j)<|sT j (dU j j j j)<|tF j j j j (iDec.2 hc39) j<|t j j (oPkT j j (iDec.2 hc39) j)<|t j j (oMv j j)<|tF j j j j j j<|tF j j j j j j<|tF j j j j j j<|tF j j j j j j<|tF j j j j j j<|t j j (oPkT j j j j)<|sD (by kernel_rfl)
           ·refine tT j j j j (byF iDec hc39) (oMv j j)<|tT j j j j (byF iDec hc39) (oLnO j j uF38 j j j (fun e=>nomatch e))<|tT j j j j (byF iDec hc39) (oBi j j j j)<|tT j j j j (byF iDec hc39) (oMv j j)<|?_
            refine ic hm43 (fun hc40 hm43=>?_) fun hc40 hm43=>?_
            ·obtain ⟨x83,hx83,hm43⟩:=bs hm43
             refine tT j j j j (iDec.2 hc40) (oMv j j)<|tT j j j j (iDec.2 hc40) (oMv j j)<|tT j j j j (iDec.2 hc40) (oIAO j hx83 sF38 j j j j)<|tT j j j j (iDec.2 hc40) (oLdE (cs:=[.im 0 _]) j tF2 j j j j (rd_get hx83) j j)<|tT j j j j (iDec.2 hc40) (oFA (r':=.mp 6 0 2) j fF35_2 j j)<|tT j j j j (iDec.2 hc40) (oLd (cs:=[.im 0 _]) j tF2 j j)<|tT j j j j (iDec.2 hc40) (oBi j j j j)<|tT j j j j (byF iDec hc39) (oPkT j j (iDec.2 hc40) j)<|t j j (oPkF j j (byF iDec hc39) j)<|t j j (oMv j j)<|?_
             refine ic hm43 (fun hc41 hm43=>?_) fun hc41 hm43=>?_
             ·cases hm43
              exact tF j j j j (iDec.2 hc41) j<|tF j j j j (iDec.2 hc41) j<|tF j j j j (iDec.2 hc41) j<|tF j j j j (iDec.2 hc41) j<|tF j j j j (iDec.2 hc41) j<|t j j (oPkT j j (iDec.2 hc41) j)<|sD (by kernel_rfl)
             ·obtain ⟨x93,hx93,hm43⟩:=bs hm43
              cases hm43
              exact tT j j j j (byF iDec hc41) (oMv j j)<|tT j j j j (byF iDec hc41) (oMv j j)<|tT j j j j (byF iDec hc41) (oIAO j hx93 sF38 j j j j)<|tT j j j j (byF iDec hc41) (oLdE (cs:=[.im 0 _]) j tF2 j j j j (rd_get hx93) j j)<|tT j j j j (byF iDec hc41) (oBi j j j j)<|t j j (oPkF j j (byF iDec hc41) j)<|sD (by kernel_rfl)
            ·obtain ⟨x93,hx93,hm43⟩:=bs hm43
             cases hm43
             exact tF j j j j (byF iDec hc40) j<|tF j j j j (byF iDec hc40) j<|tF j j j j (byF iDec hc40) j<|tF j j j j (byF iDec hc40) j<|tF j j j j (byF iDec hc40) j<|tF j j j j (byF iDec hc40) j<|tF j j j j (byF iDec hc40) j<|tT j j j j (byF iDec hc39) (oPkF j j (byF iDec hc40) j)<|t j j (oPkF j j (byF iDec hc39) j)<|t j j (oMv j j)<|tT j j j j j (oMv j j)<|tT j j j j j (oMv j j)<|tT j j j j j (oIAO j hx93 sF38 j j j j)<|tT j j j j j (oLdE (cs:=[.im 0 _]) j tF2 j j j j (rd_get hx93) j j)<|tT j j j j j (oBi j j j j)<|t j j (oPkF j j j j)<|sD (by kernel_rfl)
          ·refine us<|gc h j iR (fun hc42 h=>?_) fun hc42 h=>?_
           ·refine gs<|g0 j j (q (oAsI j j)<|nl)<|us<|Go.ret (Unw.ret ?_)
            cases h
            exact ⟨j,(fo rF5 j)⟩
           ·refine Go.skip<|Unw.blk<|us<|g0 j j (q (oMv j j)<|q (oBi j j j j)<|q (oAsI j j)<|nl)<|Unw.nil<|?_
            cases h
            exact ⟨j,(by kernel_rfl)⟩
         ·refine Go.exit<|ux<|Unw.nil<|?_
          cases h
          exact ⟨j,(by kernel_rfl)⟩
        ·rintro ⟨e,st⟩ hp
         rcases o with u | r2
         ·dsimp only at h
          obtain ⟨he,hst⟩:=hp
          obtain rfl:e= .exit 0:=he
          exact Unw.blkx<|K22 _ ⟨h,hst⟩
         ·dsimp only at h
          obtain ⟨he,hfin⟩:=hp
          obtain rfl:e= .ret:=he
          cases h
          exact Unw.ret (Fin_ret hfin)
     ·exact Go.skip<|K22 _ ⟨h,(by kernel_rfl)⟩
end
end Go.Proofs.YthdegfgajfgggaaDoor
