/- The machine answers, at each function of the program that is reached, what its plain function answers. Conditions: none. -/
import Derived.Test.YtjejfolfomknaaaProg
import Derived.KernelRfl
import Derived.Test.YtjejfolfomknaaaSimRs
import Derived.Test.YtjejfolfomknaaaSimRv
import Derived.Test.YtjejfolfomknaaaSimRw
import Derived.Test.YtjejfolfomknaaaSimRy
import Derived.Test.YtjejfolfomknaaaTprT
namespace Go.Proofs.Ytjejfolfomknaaa
open Go Go.Sim Go.Pw Go.Proofs
set_option linter.unusedVariables false
set_option linter.unusedSimpArgs false
set_option maxRecDepth 100000
set_option maxHeartbeats 4000000
noncomputable section
noncomputable abbrev xk (x:jL):List AV:=[Y x.bC,I x.aW,I x.dP]
noncomputable abbrev Gt (x:bD):List AV:=[I x.X,I x.Y,I x.Width,I x.Length]
noncomputable def aX (x:bD):AV:= .agg (Gt x)
noncomputable abbrev gW (x:ak):List AV:=[Y x.Id,Y x.gV,I x.Number,Y x.ai.bC,I x.ai.aW,I x.ai.dP,I x.Width,I x.Length,W 4 aX x.aK]
noncomputable def ae (x:ak):AV:= .agg (gW x)
noncomputable abbrev aA (x:aj):List AV:=[W 1 (eK .u8) x.code,I x.at_,.sc (.int .u64 x.seed)]
noncomputable def fc4:fB:={par:=[.cst false,.cst false],inn:=[],out:=[(1,some ([0,1,30],[])),(7,some ([4],[])),(10,some ([1,108],[])),(15,some ([4],[])),(16,some ([17,18,19,20,21,153],[17])),(18,some ([21,23,24],[])),(19,some ([4],[]))],bM:=[],frz:=[],sch:=[(18,.first 0 (rg [2,4,9,15]) [1,4,5,6,7,8]<| .first 1 (rg [2,4,9,15]) [4,5,6,7,8]<| .first 2 (rg [3,4,9,15]) [4,5,6,7,8]<| .first 3 (rg [9,15]) [4,5,6,7,8]<| .first 4 (rg [6,8,9,15]) [5,8]<| .first 5 (rg [6,8,9,15]) [8]<| .first 6 (rg [7,8,9,15]) [8]<| .first 7 (rg [9,15]) [8]<| .first 8 (rg [9,15]) []<| .fork 9 (.first 10 [11,12,13,14] []<| .first 11 [13,14] [12]<| .first 12 [14] [13]<| .fork 13 (.fork 14 (.done) (.stop)) (.stop)) (.stop))],shut:=[]}
noncomputable def Vk:fB:={par:=[.cst false,.cst false,.cst false],inn:=[(11,some ([0,1,2,9],[9])),(12,some ([9,11],[9,35])),(13,some ([11],[35]))],out:=[(15,some ([6,7,8],[6]))],bM:=[(7,([0,1,2,9,22,23],[9]))],frz:=[],sch:=[(15,.first 0 [1,2,3,8,9,10] [4,5,6,7]<| .first 1 [2,3,8,9,10] [4,5,6,7]<| .first 2 [3,8,9,10] [4,5,6,7]<| .first 3 [8,9,10] [4,5,6,7]<| .first 4 [5,6,7,9,10] [8]<| .fork 5 (.fork 6 (.fork 7 (.fork 8 (.fork 9 (.fork 10 (.done) (.stop)) (.stop)) (.stop)) (.fork 8 (.first 7 [9,10] []<| .fork 9 (.fork 10 (.done) (.stop)) (.stop)) (.stop))) (.fork 8 (.first 6 [7,9,10] []<| .first 7 [9,10] []<| .fork 9 (.fork 10 (.done) (.stop)) (.stop)) (.stop))) (.fork 8 (.first 5 [6,7,9,10] []<| .first 6 [7,9,10] []<| .first 7 [9,10] []<| .fork 9 (.fork 10 (.done) (.stop)) (.stop)) (.stop)))],shut:=[]}
noncomputable def Vl:fB:={par:=[.cst false],inn:=[],out:=[],bM:=[],frz:=[],sch:=[],shut:=[]}
noncomputable def Vm:fB:={par:=[.cst false],inn:=[(3,some ([5,6],[6,9])),(4,some ([5,6,7],[6,9]))],out:=[],bM:=[],frz:=[],sch:=[],shut:=[]}
noncomputable def Vo:fB:={par:=[.cst false,.cst false],inn:=[(13,some ([0,1,6,7,8,9,10,11,12,13,29,30],[6,7])),(18,some ([0,1,6,7,8,9,10,11,29,30],[6,7])),(19,some ([0,1,6,7,8,9,10],[6,7])),(20,some ([0,1,6,7,8,9,10],[6,7])),(21,some ([6],[6])),(22,some ([6],[6]))],out:=[(3,some ([0,1,6,7],[6,7])),(12,some ([0,1,6,7,8,9,10,11,12,13,29,30,45],[6,7])),(15,some ([0,1,6,7,8,9,10,11,12,13,14,29,30],[6,7])),(16,some ([0,1,6,7,8,9,10,11,12,13,14,29,30,68],[6,7]))],bM:=[(5,([0,1,6,7,8],[6,7])),(9,([0,1,6,7,8,9,10,11,29,30],[6,7])),(12,([0,1,6,7,8,9,10,11,12,13,29,30],[6,7]))],frz:=[],sch:=[(3,.first 1 [2,3,5] [0,4]<| .first 2 [3,5] [0,4]<| .fork 0 (.fork 3 (.fork 4 (.fork 5 (.done) (.stop)) (.stop)) (.fork 4 (.fork 3 (.fork 5 (.done) (.stop)) (.stop)) (.stop))) (.fork 3 (.fork 0 (.fork 4 (.fork 5 (.done) (.stop)) (.stop)) (.stop)) (.stop))),(15,.first 0 [2,3,9,10] [1,4,5,6,7,8]<| .first 1 [2,3,9,10] [4,5,6,7,8]<| .first 2 [3,9,10] [4,5,6,7,8]<| .first 3 [9,10] [4,5,6,7,8]<| .first 4 [6,7,9,10] [5,8]<| .first 5 [6,7,9,10] [8]<| .first 6 [7,9,10] [8]<| .first 7 [9,10] [8]<| .first 8 [9,10] []<| .fork 9 (.fork 10 (.done) (.stop)) (.stop))],shut:=[]}
noncomputable def Vp:fB:={par:=[.cst false,.cst false,.cst false],inn:=[(11,some ([8],[]))],out:=[(9,some ([0,2,8,21,22,23],[]))],bM:=[(7,([0,2,8,21,22,23],[]))],frz:=[],sch:=[(9,.first 0 [15,16] (rg [1,15])<| .first 1 [5,6,14,15,16] (rg [2,5,7,14])<| .first 2 [3,4,5,6,14,15,16] (rg [7,14])<| .first 3 [4,5,6,14,15,16] (rg [7,14])<| .first 4 [5,6,14,15,16] (rg [7,14])<| .first 5 [6,14,15,16] (rg [7,14])<| .first 6 [14,15,16] (rg [7,14])<| .first 7 [11,12,14,15,16] [8,9,10,13]<| .first 8 [9,10,11,12,14,15,16] [13]<| .first 9 [10,11,12,14,15,16] [13]<| .first 10 [11,12,14,15,16] [13]<| .first 11 [12,14,15,16] [13]<| .first 12 [14,15,16] [13]<| .first 13 [14,15,16] []<| .fork 14 (.first 15 [16] []<| .fork 16 (.done) (.stop)) (.stop))],shut:=[]}
noncomputable def Vq:fB:={par:=[.cst false],inn:=[(3,some ([5,6],[6,9])),(4,some ([5,6,7],[6,9]))],out:=[],bM:=[],frz:=[],sch:=[],shut:=[]}
noncomputable def Vr:fB:={par:=[.cst false,.cst false,.cst false],inn:=[(11,some ([0,1,2,9,10,11,12,29,30,31],[12])),(15,some ([0,1,2,9,10,29,30,31],[])),(16,some ([9,10],[]))],out:=[(12,some ([0,1,2,9,10,11,13,29,30,31],[])),(13,some ([0,1,2,9,10,11,13,29,30,31,52],[]))],bM:=[(9,([0,1,2,9,10,29,30,31],[]))],frz:=[],sch:=[(12,.first 0 [2,3,6,7] [1,4,5]<| .first 1 [2,3,6,7] [4,5]<| .first 2 [3,6,7] [4,5]<| .first 3 [6,7] [4,5]<| .first 4 [6,7] [5]<| .first 5 [6,7] []<| .fork 6 (.fork 7 (.done) (.stop)) (.stop))],shut:=[]}
noncomputable def Vs:fB:={par:=[.cst false,.cst false,.cst false],inn:=[(1,some ([2,3,4],[3,4]))],out:=[(1,some ([2,3,4,15],[3,4]))],bM:=[],frz:=[],sch:=[],shut:=[]}
noncomputable def Vt:fB:={par:=[.cst false],inn:=[(4,some ([0,3,4,5,6,7],[4])),(7,some ([0],[]))],out:=[(4,some ([0,5,6,7,29],[]))],bM:=[(2,([0,5,6,7],[]))],frz:=[],sch:=[(4,.first 0 (rg [1,18]) []<| .fork 1 (.first 2 (rg [3,18]) []<| .first 3 (rg [4,18]) []<| .first 4 (rg [5,18]) []<| .first 5 (rg [6,18]) []<| .first 6 (rg [7,18]) []<| .first 7 [10,11,12,15,16,17] [8,9,13,14]<| .first 8 [9,10,11,12,15,16,17] [13,14]<| .first 9 [10,11,12,15,16,17] [13,14]<| .first 10 [11,12,15,16,17] [13,14]<| .first 11 [12,15,16,17] [13,14]<| .first 12 [15,16,17] [13,14]<| .first 13 [14,15,16,17] []<| .first 14 [15,16,17] []<| .first 15 [16,17] []<| .first 16 [17] []<| .first 17 [] []<| .done) (.stop))],shut:=[]}
noncomputable def Vu:fB:={par:=[.cst false,.cst false,.cst false],inn:=[],out:=[(1,some ([6],[]))],bM:=[],frz:=[],sch:=[],shut:=[]}
noncomputable def Vw:fB:={par:=[.ptr [.imm,.imm,.imm,.imm,.sh,.imm],.cst true,.cst false,.cst false],inn:=[(8,some ([0,1,2,3,8,9,10,11,31,32,33],[0])),(9,some ([0,1,2,3,8,31,32,33],[0])),(10,some ([0,1,2,3],[0]))],out:=[(6,some ([0,1,2,3,8,9,10,11,31,32,33],[0])),(8,some ([0,1,2,3,8,31,32,33],[0])),(10,some ([0,1,2,3,88],[0]))],bM:=[(4,([0,1,2,3,8,31,32,33],[0]))],frz:=[],sch:=[(6,.first 0 [20,21] (rg [1,20])<| .first 1 [2,3,4,6,7,19,20,21] (rg [5,6,8,19])<| .first 2 [3,4,6,7,19,20,21] (rg [5,6,8,19])<| .first 3 [4,6,7,19,20,21] (rg [5,6,8,19])<| .first 4 [6,7,19,20,21] (rg [5,6,8,19])<| .first 5 [6,7,19,20,21] (rg [8,19])<| .first 6 [7,19,20,21] (rg [8,19])<| .first 7 [19,20,21] (rg [8,19])<| .first 8 [9,10,11,13,14,19,20,21] [12,15,16,17,18]<| .first 9 [10,11,13,14,19,20,21] [12,15,16,17,18]<| .first 10 [11,13,14,19,20,21] [12,15,16,17,18]<| .first 11 [13,14,19,20,21] [12,15,16,17,18]<| .first 12 [13,14,19,20,21] [15,16,17,18]<| .first 13 [14,19,20,21] [15,16,17,18]<| .first 14 [19,20,21] [15,16,17,18]<| .first 15 (rg [16,22]) []<| .first 16 [17,18,19,20,21] []<| .first 17 [18,19,20,21] []<| .first 18 [19,20,21] []<| .fork 19 (.first 20 [21] []<| .fork 21 (.done) (.stop)) (.stop)),(8,.first 0 [16] (rg [1,16])<| .first 1 [2,7,10,14,16] [3,4,5,6,8,9,11,12,13,15]<| .first 3 [5,6,7,10,14,16] [2,4,8,9,11,12,13,15]<| .first 4 [5,6,7,10,14,16] [2,8,9,11,12,13,15]<| .first 8 [9,10,14,16] [2,5,6,7,11,12,13,15]<| .first 11 [14,16] [2,5,6,7,9,10,12,13,15]<| .first 12 [13,14,16] [2,5,6,7,9,10,15]<| .first 13 [14,16] [2,5,6,7,9,10,15]<| .first 15 [16] [2,5,6,7,9,10,14]<| .fork 2 (.fork 5 (.fork 6 (.fork 7 (.fork 9 (.fork 10 (.fork 14 (.fork 16 (.done) (.stop)) (.stop)) (.stop)) (.stop)) (.fork 9 (.fork 7 (.fork 10 (.fork 14 (.fork 16 (.done) (.stop)) (.stop)) (.stop)) (.stop)) (.stop))) (.fork 9 (.fork 6 (.fork 7 (.fork 10 (.fork 14 (.fork 16 (.done) (.stop)) (.stop)) (.stop)) (.stop)) (.stop)) (.stop))) (.fork 9 (.fork 5 (.fork 6 (.fork 7 (.fork 10 (.fork 14 (.fork 16 (.done) (.stop)) (.stop)) (.stop)) (.stop)) (.stop)) (.stop)) (.stop))) (.fork 5 (.fork 2 (.fork 6 (.fork 7 (.fork 9 (.fork 10 (.fork 14 (.fork 16 (.done) (.stop)) (.stop)) (.stop)) (.stop)) (.fork 9 (.fork 7 (.fork 10 (.fork 14 (.fork 16 (.done) (.stop)) (.stop)) (.stop)) (.stop)) (.stop))) (.fork 9 (.fork 6 (.fork 7 (.fork 10 (.fork 14 (.fork 16 (.done) (.stop)) (.stop)) (.stop)) (.stop)) (.stop)) (.stop))) (.fork 6 (.fork 2 (.fork 7 (.fork 9 (.fork 10 (.fork 14 (.fork 16 (.done) (.stop)) (.stop)) (.stop)) (.stop)) (.fork 9 (.fork 7 (.fork 10 (.fork 14 (.fork 16 (.done) (.stop)) (.stop)) (.stop)) (.stop)) (.stop))) (.fork 9 (.fork 2 (.fork 7 (.fork 10 (.fork 14 (.fork 16 (.done) (.stop)) (.stop)) (.stop)) (.stop)) (.stop)) (.stop))) (.fork 9 (.fork 2 (.fork 6 (.fork 7 (.fork 10 (.fork 14 (.fork 16 (.done) (.stop)) (.stop)) (.stop)) (.stop)) (.stop)) (.fork 6 (.fork 2 (.fork 7 (.fork 10 (.fork 14 (.fork 16 (.done) (.stop)) (.stop)) (.stop)) (.stop)) (.stop)) (.stop))) (.stop)))) (.fork 9 (.fork 2 (.fork 5 (.fork 6 (.fork 7 (.fork 10 (.fork 14 (.fork 16 (.done) (.stop)) (.stop)) (.stop)) (.stop)) (.stop)) (.stop)) (.fork 5 (.fork 2 (.fork 6 (.fork 7 (.fork 10 (.fork 14 (.fork 16 (.done) (.stop)) (.stop)) (.stop)) (.stop)) (.stop)) (.fork 6 (.fork 2 (.fork 7 (.fork 10 (.fork 14 (.fork 16 (.done) (.stop)) (.stop)) (.stop)) (.stop)) (.stop)) (.stop))) (.stop))) (.stop))))],shut:=[]}
noncomputable def Vx:fB:={par:=[.cst false],inn:=[],out:=[],bM:=[],frz:=[],sch:=[],shut:=[]}
noncomputable def Vy:fB:={par:=[.ptr [.imm,.imm,.imm]],inn:=[(2,some ([0,3],[0,3])),(3,some ([0],[0])),(6,some ([0,3,4,5],[0,3,4])),(8,some ([0,3,4,5,6],[0,3,4])),(10,some ([0,3,4,5,6],[0,3,4])),(11,some ([0,3,4,5,6,7],[0,3,4,7])),(12,some ([0,3,4,5,6,7],[0,3,4,7])),(13,some ([0,3,4,5,6,7],[0,3,4,7])),(14,some ([0,3,4,5,6,7],[0,3,4,7])),(15,some ([0,3,4,5,6,7],[0,3,4,7])),(16,some ([0,3],[0,3])),(18,some ([0,3],[0,3])),(19,some ([0,3],[0,3])),(20,some ([0,3],[0,3])),(21,some ([3],[0,3]))],out:=[(16,some ([0,3,51],[0,3]))],bM:=[(7,([0,3,4,5,6],[0,3,4]))],frz:=[],sch:=[],shut:=[]}
noncomputable def Vz:fB:={par:=[.ptr [.imm,.imm,.imm],.cst false],inn:=[],out:=[],bM:=[],frz:=[],sch:=[],shut:=[]}
noncomputable def VA:fB:={par:=[.ptr [.imm,.imm,.imm]],inn:=[(2,some ([0],[0])),(3,some ([0],[0]))],out:=[],bM:=[],frz:=[],sch:=[],shut:=[]}
noncomputable def VB:fB:={par:=[.cst false,.cst false,.cst false],inn:=[(1,some ([2,3,4],[3,4])),(4,some ([3,4,7],[3,4])),(9,some ([3,4,10],[3,4])),(11,some ([10],[]))],out:=[],bM:=[],frz:=[],sch:=[],shut:=[]}
noncomputable def VC:fB:={par:=[.row,.cst false],inn:=[],out:=[],bM:=[],frz:=[],sch:=[],shut:=[]}
noncomputable def VD:fB:={par:=[.cst false,.cst false],inn:=[],out:=[],bM:=[],frz:=[],sch:=[],shut:=[]}
noncomputable def VE:fB:={par:=[.cst false,.cst false],inn:=[(11,some ([0,1],[]))],out:=[],bM:=[(2,([0,1,9,10,11],[]))],frz:=[],sch:=[],shut:=[]}
noncomputable def VF:fB:={par:=[.cst false,.cst false],inn:=[(11,some ([],[]))],out:=[(5,some ([0,1,5,6,7,9,10,11,54],[5])),(7,some ([0,1,5,7,9,10,11,66],[5]))],bM:=[(3,([0,1,5,9,10,11],[5]))],frz:=[],sch:=[(5,.first 0 (rg [1,39]) []<| .first 1 (rg [2,39]) []<| .first 2 (rg [3,39]) []<| .first 3 (rg [4,39]) []<| .first 4 (rg [5,39]) []<| .first 5 (rg [6,39]) []<| .first 6 (rg [7,39]) []<| .first 7 (rg [8,39]) []<| .first 8 (rg [9,39]) []<| .first 9 (rg [10,39]) []<| .first 10 (rg [11,13,16,39]) [13,14,15]<| .first 11 (rg [12,13,16,39]) [13,14,15]<| .first 12 (rg [16,39]) [13,14,15]<| .first 13 (rg [14,39]) []<| .first 14 (rg [15,39]) []<| .first 15 (rg [16,39]) []<| .first 16 (rg [17,39]) []<| .first 17 (rg [18,39]) []<| .first 18 (rg [19,39]) []<| .first 19 (rg [20,22,23,39]) [22]<| .first 20 (rg [21,22,23,39]) [22]<| .first 21 (rg [23,39]) [22]<| .first 22 (rg [23,39]) []<| .first 23 (rg [24,39]) []<| .first 24 (rg [25,39]) []<| .first 25 (rg [26,39]) []<| .first 26 (rg [30,39]) [27,28,29]<| .first 27 (rg [28,39]) []<| .first 28 (rg [29,39]) []<| .first 29 (rg [30,39]) []<| .fork 30 (.first 31 (rg [32,39]) []<| .first 32 (rg [33,39]) []<| .first 33 [37,38] [34,35,36]<| .first 34 [35,36,37,38] []<| .first 35 [36,37,38] []<| .first 36 [37,38] []<| .fork 37 (.first 38 [] []<| .done) (.stop)) (.stop))],shut:=[]}
noncomputable def VG:fB:={par:=[.ptr [.imm,.imm,.imm],.cst false],inn:=[(4,some ([0,1,5],[0])),(6,some ([1,5],[0]))],out:=[],bM:=[],frz:=[],sch:=[],shut:=[]}
noncomputable def VH:fB:={par:=[.cst false],inn:=[(1,some ([1],[1]))],out:=[(1,some ([1,24],[1])),(3,some ([1,40],[1]))],bM:=[],frz:=[],sch:=[],shut:=[]}
noncomputable def VI:fB:={par:=[.ptr [.imm,.imm,.imm,.imm,.sh,.imm],.cst false],inn:=[(4,some ([0],[0]))],out:=[(1,some ([0,23],[0]))],bM:=[],frz:=[],sch:=[],shut:=[]}
noncomputable def VJ:fB:={par:=[.ptr [.imm,.imm,.imm]],inn:=[(2,some ([0,3],[0,3])),(3,some ([0,3,9],[0,3])),(7,some ([4],[0])),(12,some ([3],[0,3]))],out:=[],bM:=[(9,([3,4,5],[0,3]))],frz:=[],sch:=[],shut:=[]}
noncomputable def VK:fB:={par:=[.ptr [.imm,.imm,.imm],.cst false],inn:=[(1,some ([0,1,4],[0,4])),(2,some ([0,4,5],[0,4,5])),(3,some ([0,4,5],[0,4,5])),(4,some ([0,4,5],[0,4,5])),(5,some ([0,4,5],[0,4,5])),(9,some ([4,5],[0,4,5]))],out:=[(8,some ([0,4,5,6],[0,4,5]))],bM:=[(6,([0,4,5,6],[0,4,5]))],frz:=[],sch:=[(8,.first 2 [7,8,9,10,11] [0,1,3,4,5,6]<| .first 3 [4,7,8,9,10,11] [0,1,5,6]<| .first 4 [7,8,9,10,11] [0,1,5,6]<| .first 5 [6,7,8,9,10,11] [0,1]<| .first 6 [7,8,9,10,11] [0,1]<| .first 0 [1,9,10,11] [7,8]<| .first 1 [9,10,11] [7,8]<| .fork 7 (.fork 8 (.fork 9 (.first 10 [11] []<| .fork 11 (.done) (.stop)) (.stop)) (.stop)) (.stop))],shut:=[]}
noncomputable def VL:fB:={par:=[.ptr [.imm,.imm,.imm],.cst false],inn:=[],out:=[],bM:=[],frz:=[],sch:=[],shut:=[]}
noncomputable def Py:fB:={par:=[.cst false],inn:=[],out:=[],bM:=[],frz:=[],sch:=[],shut:=[]}
noncomputable def Pz:fB:={par:=[.cst false,.cst false],inn:=[],out:=[(1,some ([0,1,14],[]))],bM:=[],frz:=[],sch:=[],shut:=[]}
noncomputable def PD:fB:={par:=[.row,.cst false,.cst false,.cst false,.cst false],inn:=[(9,some ([0,1,2,3,4,10,11,12],[0])),(10,some ([0,1,2,3,4,10,11,12],[0])),(13,some ([0,1,2,3,4,10,11,12,13],[0])),(15,some ([0,1,2,3,4,10,11,12,13,14],[0])),(17,some ([0,1,2,3,4,10,11,12,13],[0])),(19,some ([0,2,3,4,10,11,15],[0])),(21,some ([0,1,2,3,4,12,16,17],[0])),(27,some ([0,2,3,4,10,11,16],[0])),(30,some ([0,1,3,4,10,11,16],[0]))],out:=[(15,some ([0,1,2,3,4,10,11,12,13,75],[0])),(17,some ([0,1,2,3,4,10,11,12,13,97],[0]))],bM:=[(2,([0,1,2,3,4,10,11],[0]))],frz:=[],sch:=[(17,.first 0 (rg [1,17]) []<| .first 1 (rg [2,17]) []<| .first 2 (rg [3,17]) []<| .first 3 [13,14,15,16] (rg [4,13])<| .first 4 [7,8,13,14,15,16] [5,6,9,10,11,12]<| .first 5 [6,7,8,13,14,15,16] [9,10,11,12]<| .first 6 [7,8,13,14,15,16] [9,10,11,12]<| .first 7 [8,13,14,15,16] [9,10,11,12]<| .first 8 [13,14,15,16] [9,10,11,12]<| .first 9 (rg [11,17]) [10]<| .first 10 (rg [11,17]) []<| .first 11 [12,13,14,15,16] []<| .first 12 [13,14,15,16] []<| .fork 13 (.first 14 [15,16] []<| .first 15 [16] []<| .first 16 [] []<| .done) (.stop))],shut:=[]}
noncomputable def PE:fB:={par:=[.cst false],inn:=[],out:=[],bM:=[],frz:=[],sch:=[],shut:=[]}
noncomputable def PI:fB:={par:=[.cst false,.cst false],inn:=[],out:=[],bM:=[],frz:=[],sch:=[],shut:=[]}
noncomputable def PK:fB:={par:=[.cst false,.cst false],inn:=[],out:=[],bM:=[],frz:=[],sch:=[],shut:=[]}
noncomputable def PL:fB:={par:=[.ptr [.imm,.imm,.imm]],inn:=[(4,some ([0,3],[0])),(5,some ([0,3],[0])),(6,some ([0,3],[0]))],out:=[(2,some ([0,3,13],[0])),(3,some ([0,3],[0])),(6,some ([0,3,53],[0]))],bM:=[],frz:=[],sch:=[(2,.first 0 [1,2,3,9] [4,5,6,7,8]<| .first 1 [2,3,9] [4,5,6,7,8]<| .first 2 [3,9] [4,5,6,7,8]<| .first 3 [9] [4,5,6,7,8]<| .first 4 [5,6,7,8,9] []<| .first 5 [6,7,8,9] []<| .first 6 [7,8,9] []<| .first 7 [8,9] []<| .first 8 [9] []<| .first 9 [] []<| .done),(3,.first 0 [1,2,3,8,9,10,11] [4,5,6,7]<| .first 1 [2,3,8,9,10,11] [4,5,6,7]<| .first 2 [3,8,9,10,11] [4,5,6,7]<| .first 3 [8,9,10,11] [4,5,6,7]<| .first 4 (rg [5,12]) []<| .first 5 [6,7,8,9,10,11] []<| .first 6 [7,8,9,10,11] []<| .first 7 [8,9,10,11] []<| .first 8 [9,10,11] []<| .first 9 [10,11] []<| .fork 10 (.fork 11 (.done) (.stop)) (.stop)),(6,.first 0 [1,2,3,9] [4,5,6,7,8]<| .first 1 [2,3,9] [4,5,6,7,8]<| .first 2 [3,9] [4,5,6,7,8]<| .first 3 [9] [4,5,6,7,8]<| .first 4 [5,6,7,8,9] []<| .first 5 [6,7,8,9] []<| .first 6 [7,8,9] []<| .first 7 [8,9] []<| .first 8 [9] []<| .first 9 [] []<| .done)],shut:=[]}
noncomputable def PN:fB:={par:=[.cst false],inn:=[(8,some ([],[]))],out:=[(1,some ([0,21],[])),(6,some ([0,3,49],[]))],bM:=[(4,([0,3],[]))],frz:=[],sch:=[],shut:=[]}
noncomputable def PO:fB:={par:=[.cst false],inn:=[],out:=[(2,some ([2],[]))],bM:=[],frz:=[],sch:=[],shut:=[]}
noncomputable def PR:fB:={par:=[.cst false,.cst false],inn:=[],out:=[],bM:=[],frz:=[],sch:=[],shut:=[]}
noncomputable def PS:fB:={par:=[.cst false],inn:=[],out:=[],bM:=[],frz:=[],sch:=[],shut:=[]}
noncomputable def PT:fB:={par:=[.cst false,.cst false,.cst false],inn:=[],out:=[(1,some ([6],[]))],bM:=[],frz:=[],sch:=[],shut:=[]}
noncomputable def PU:fB:={par:=[.cst false,.cst false],inn:=[],out:=[],bM:=[],frz:=[],sch:=[],shut:=[]}
noncomputable def PV:fB:={par:=[.cst false,.cst false],inn:=[],out:=[],bM:=[],frz:=[],sch:=[],shut:=[]}
noncomputable def PW:fB:={par:=[.ptr [.imm,.imm,.imm]],inn:=[(3,some ([0,3,4],[0,3])),(6,some ([0,3,4,5,6],[0,3,5])),(8,some ([5],[0,5]))],out:=[],bM:=[(5,([0,3,4,5,6],[0,3,5]))],frz:=[],sch:=[],shut:=[]}
noncomputable def PX:fB:={par:=[.ptr [.imm,.imm,.imm]],inn:=[(1,some ([0,2],[0,2])),(2,some ([0,2,3],[0,2,3])),(3,some ([0,2,3,11],[0,2,3])),(17,some ([2,3],[0,2,3]))],out:=[(6,some ([2,3],[0,2,3]))],bM:=[(9,([2,3,4],[0,2,3]))],frz:=[],sch:=[(6,.first 5 (rg [7,13]) [0,1,2,3,4,6]<| .first 0 [1,10,11,12] [2,3,4,6,7,8,9]<| .first 1 [10,11,12] [2,3,4,6,7,8,9]<| .first 2 [3,4,8,9,10,11,12] [6,7]<| .first 3 [4,8,9,10,11,12] [6,7]<| .first 4 [8,9,10,11,12] [6,7]<| .fork 6 (.fork 7 (.fork 8 (.fork 9 (.fork 10 (.first 11 [12] []<| .fork 12 (.done) (.stop)) (.stop)) (.stop)) (.stop)) (.stop)) (.stop))],shut:=[]}
noncomputable def PY:fB:={par:=[.ptr [.imm,.imm,.imm],.cst false],inn:=[],out:=[],bM:=[],frz:=[],sch:=[],shut:=[]}
noncomputable def PZ:fB:={par:=[.ptr [.imm,.imm,.imm]],inn:=[(2,some ([0,2,3],[0,2])),(5,some ([0,2,5,6],[0,2,5])),(6,some ([2,5],[0,2,5]))],out:=[(2,some ([0,2,3,4],[0,2])),(3,some ([0,2,5],[0,2,5]))],bM:=[],frz:=[],sch:=[(2,.first 1 [2,3,4,5,8,9,10] [0,6,7]<| .first 6 [7,8,9,10] [0,2,3,4,5]<| .fork 0 (.first 2 [3,4,5,8,9,10] [7]<| .first 3 [4,5,8,9,10] [7]<| .first 4 [5,8,9,10] [7]<| .first 5 [8,9,10] [7]<| .fork 7 (.first 8 [9,10] []<| .first 9 [10] []<| .fork 10 (.done) (.stop)) (.stop)) (.stop)),(3,.first 1 [2,3,7,9] [0,4,5,6,8]<| .first 4 [5,6,7,9] [0,2,3,8]<| .fork 0 (.first 2 [3,7,9] [5,6,8]<| .first 3 [7,9] [5,6,8]<| .fork 5 (.fork 6 (.fork 7 (.fork 8 (.fork 9 (.done) (.stop)) (.stop)) (.fork 8 (.fork 7 (.fork 9 (.done) (.stop)) (.stop)) (.stop))) (.fork 8 (.fork 6 (.fork 7 (.fork 9 (.done) (.stop)) (.stop)) (.stop)) (.stop))) (.fork 8 (.fork 5 (.fork 6 (.fork 7 (.fork 9 (.done) (.stop)) (.stop)) (.stop)) (.stop)) (.stop))) (.fork 8 (.fork 0 (.first 2 [3,7,9] [5,6]<| .first 3 [7,9] [5,6]<| .fork 5 (.fork 6 (.fork 7 (.fork 9 (.done) (.stop)) (.stop)) (.stop)) (.stop)) (.stop)) (.stop)))],shut:=[]}
noncomputable def P5:fB:={par:=[.ptr [.imm,.imm,.imm],.cst false,.cst false],inn:=[(2,some ([0,1,2,6,7],[0,6,7])),(3,some ([0,1,2,6,7],[0,6,7])),(4,some ([0,2,6,7],[0,6,7])),(5,some ([6,7],[0,6,7]))],out:=[],bM:=[],frz:=[],sch:=[],shut:=[]}
noncomputable def P6:fB:={par:=[.row,.cst false,.cst false,.cst false],inn:=[(2,some ([0,1,2,3,8],[0]))],out:=[(4,some ([0,1,2,3,8,9,34],[0])),(6,some ([0,1,2,3,8,9],[0]))],bM:=[(1,([0,1,2,3,8],[0])),(4,([0,1,2,3,8,9],[0]))],frz:=[],sch:=[(4,.first 0 (rg [2,17]) [1]<| .first 1 (rg [2,17]) []<| .first 2 (rg [3,17]) []<| .first 3 (rg [4,17]) []<| .first 4 [14,15,16] (rg [5,14])<| .first 5 [7,8,14,15,16] [6,9,10,11,12,13]<| .first 6 [7,8,14,15,16] [9,10,11,12,13]<| .first 7 [8,14,15,16] [9,10,11,12,13]<| .first 8 [14,15,16] [9,10,11,12,13]<| .first 9 [12,13,14,15,16] [10,11]<| .first 10 (rg [11,17]) []<| .first 11 [12,13,14,15,16] []<| .first 12 [13,14,15,16] []<| .first 13 [14,15,16] []<| .fork 14 (.first 15 [16] []<| .first 16 [] []<| .done) (.stop)),(6,.first 0 [14,15,16,17] (rg [1,14])<| .first 1 [14,15,16,17] (rg [2,14])<| .first 2 [16,17] (rg [3,16])<| .first 3 [4,16,17] (rg [5,16])<| .first 4 [16,17] (rg [5,16])<| .first 5 [8,9,14,15,16,17] [6,7,10,11,12,13]<| .first 6 [7,8,9,14,15,16,17] [10,11,12,13]<| .first 7 [8,9,14,15,16,17] [10,11,12,13]<| .first 8 [9,14,15,16,17] [10,11,12,13]<| .first 9 [14,15,16,17] [10,11,12,13]<| .first 10 (rg [12,18]) [11]<| .first 11 (rg [12,18]) []<| .first 12 [13,14,15,16,17] []<| .first 13 [14,15,16,17] []<| .first 14 [15,16,17] []<| .fork 15 (.first 16 [17] []<| .fork 17 (.done) (.stop)) (.stop))],shut:=[]}
noncomputable def P7:fB:={par:=[.cst false],inn:=[(4,some ([0,2],[])),(7,some ([0,2],[])),(10,some ([0,2],[]))],out:=[],bM:=[],frz:=[],sch:=[],shut:=[]}
noncomputable def P8:fB:={par:=[.cst false],inn:=[],out:=[],bM:=[],frz:=[],sch:=[],shut:=[]}
noncomputable def P9:fB:={par:=[.cst false,.cst false],inn:=[(7,some ([],[]))],out:=[],bM:=[(2,([0,1,7,8],[]))],frz:=[],sch:=[],shut:=[]}
noncomputable def Qa:fB:={par:=[.cst false],inn:=[],out:=[],bM:=[],frz:=[],sch:=[],shut:=[]}
noncomputable def Qb:fB:={par:=[.cst false,.cst false],inn:=[(7,some ([],[]))],out:=[],bM:=[(2,([0,1,7,8],[]))],frz:=[],sch:=[],shut:=[]}
noncomputable def Qc:fB:={par:=[.ptr [.imm,.imm,.imm]],inn:=[(2,some ([0,2,3],[0,2,3])),(3,some ([0,2,3,7],[0,2,3])),(9,some ([2,3],[0,2,3]))],out:=[],bM:=[],frz:=[],sch:=[],shut:=[]}
noncomputable def Qd:fB:={par:=[],inn:=[],out:=[],bM:=[],frz:=[],sch:=[],shut:=[]}
noncomputable def Qe:fB:={par:=[],inn:=[],out:=[],bM:=[],frz:=[],sch:=[],shut:=[]}
noncomputable def Qg:fB:={par:=[.cst false],inn:=[],out:=[],bM:=[],frz:=[],sch:=[],shut:=[]}
noncomputable def fcs:List (Nat×fB):=[(4,fc4),(11,Vk),(17,Vl),(18,Vm),(19,Vo),(20,Vp),(21,Vq),(22,Vr),(23,Vs),(46,Vt),(47,Vu),(48,Vw),(55,Vx),(56,Vy),(57,Vz),(58,VA),(59,VB),(60,VC),(61,VD),(62,VE),(63,VF),(64,VG),(65,VH),(92,VI),(97,VJ),(98,VK),(99,VL),(100,Py),(101,Pz),(102,PD),(103,PE),(104,PI),(105,PK),(106,PL),(107,PN),(108,PO),(109,PR),(110,PS),(111,PT),(125,PU),(127,PV),(130,PW),(131,PX),(132,PY),(133,PZ),(134,P5),(135,P6),(144,P7),(145,P8),(146,P9),(147,Qa),(148,Qb),(172,Qc),(173,Qd),(174,Qe),(180,Qg),(93,{par:=[.mv,.cst false,.cst false],inn:=[],out:=[],bM:=[],frz:=[],sch:=[],shut:=[]}),(136,{par:=[.row,.cst false,.cst false,.cst false],inn:=[],out:=[],bM:=[],frz:=[],sch:=[],shut:=[]}),(137,{par:=[.row,.cst false,.cst false,.cst false],inn:=[],out:=[],bM:=[],frz:=[],sch:=[],shut:=[]}),(138,{par:=[.cst false,.cst false,.cst false,.cst false],inn:=[],out:=[],bM:=[],frz:=[],sch:=[],shut:=[]}),(139,{par:=[.row,.cst false,.cst false,.cst false],inn:=[],out:=[],bM:=[],frz:=[],sch:=[],shut:=[]}),(140,{par:=[.row,.cst false,.cst false,.cst false],inn:=[],out:=[],bM:=[],frz:=[],sch:=[],shut:=[]}),(141,{par:=[.row,.cst false,.cst false,.cst false,.cst false],inn:=[],out:=[],bM:=[],frz:=[],sch:=[],shut:=[]}),(142,{par:=[.row,.cst false,.cst false,.cst false,.cst false],inn:=[],out:=[],bM:=[],frz:=[],sch:=[],shut:=[]})]
noncomputable def ons:List (Nat×Bool):=[(4,true),(11,true),(17,true),(18,true),(19,true),(20,true),(21,true),(22,true),(23,true),(46,true),(47,true),(48,true),(55,true),(56,true),(57,true),(58,true),(59,true),(60,true),(61,true),(62,true),(63,true),(64,true),(65,true),(92,true),(97,true),(98,true),(99,true),(100,true),(101,true),(102,true),(103,true),(104,true),(105,true),(106,true),(107,true),(108,true),(109,true),(110,true),(111,true),(125,true),(127,true),(130,true),(131,true),(132,true),(133,true),(134,true),(135,true),(144,true),(145,true),(146,true),(147,true),(148,true),(172,true),(173,true),(174,true),(180,true)]
noncomputable def cfg:Cfg:=TI ons fcs [(91,some (yz 1 24)),(94,some (yw 1 8)),(93,some yx)]
theorem c4:cfg.fc 4=fc4:=rfl
instance C4:Cf cfg 4 fc4:=⟨c4⟩
instance Z4:Zf cfg 4:=⟨rfl⟩
theorem z4:(cfg.fc 4).frz=[]:=rfl
theorem c11:cfg.fc 11=Vk:=rfl
instance C11:Cf cfg 11 Vk:=⟨c11⟩
instance Z11:Zf cfg 11:=⟨rfl⟩
theorem z11:(cfg.fc 11).frz=[]:=rfl
theorem c17:cfg.fc 17=Vl:=rfl
instance C17:Cf cfg 17 Vl:=⟨c17⟩
instance Z17:Zf cfg 17:=⟨rfl⟩
theorem c18:cfg.fc 18=Vm:=rfl
instance C18:Cf cfg 18 Vm:=⟨c18⟩
instance Z18:Zf cfg 18:=⟨rfl⟩
theorem c19:cfg.fc 19=Vo:=rfl
instance C19:Cf cfg 19 Vo:=⟨c19⟩
instance Z19:Zf cfg 19:=⟨rfl⟩
theorem z19:(cfg.fc 19).frz=[]:=rfl
theorem c20:cfg.fc 20=Vp:=rfl
instance C20:Cf cfg 20 Vp:=⟨c20⟩
instance Z20:Zf cfg 20:=⟨rfl⟩
theorem z20:(cfg.fc 20).frz=[]:=rfl
theorem c21:cfg.fc 21=Vq:=rfl
instance C21:Cf cfg 21 Vq:=⟨c21⟩
instance Z21:Zf cfg 21:=⟨rfl⟩
theorem c22:cfg.fc 22=Vr:=rfl
instance C22:Cf cfg 22 Vr:=⟨c22⟩
instance Z22:Zf cfg 22:=⟨rfl⟩
theorem z22:(cfg.fc 22).frz=[]:=rfl
theorem c23:cfg.fc 23=Vs:=rfl
instance C23:Cf cfg 23 Vs:=⟨c23⟩
instance Z23:Zf cfg 23:=⟨rfl⟩
theorem z23:(cfg.fc 23).frz=[]:=rfl
theorem c46:cfg.fc 46=Vt:=rfl
instance C46:Cf cfg 46 Vt:=⟨c46⟩
instance Z46:Zf cfg 46:=⟨rfl⟩
theorem z46:(cfg.fc 46).frz=[]:=rfl
theorem c47:cfg.fc 47=Vu:=rfl
instance C47:Cf cfg 47 Vu:=⟨c47⟩
instance Z47:Zf cfg 47:=⟨rfl⟩
theorem c48:cfg.fc 48=Vw:=rfl
instance C48:Cf cfg 48 Vw:=⟨c48⟩
instance Z48:Zf cfg 48:=⟨rfl⟩
theorem z48:(cfg.fc 48).frz=[]:=rfl
theorem c55:cfg.fc 55=Vx:=rfl
instance C55:Cf cfg 55 Vx:=⟨c55⟩
instance Z55:Zf cfg 55:=⟨rfl⟩
theorem c56:cfg.fc 56=Vy:=rfl
instance C56:Cf cfg 56 Vy:=⟨c56⟩
instance Z56:Zf cfg 56:=⟨rfl⟩
theorem c57:cfg.fc 57=Vz:=rfl
instance C57:Cf cfg 57 Vz:=⟨c57⟩
instance Z57:Zf cfg 57:=⟨rfl⟩
theorem c58:cfg.fc 58=VA:=rfl
instance C58:Cf cfg 58 VA:=⟨c58⟩
instance Z58:Zf cfg 58:=⟨rfl⟩
theorem c59:cfg.fc 59=VB:=rfl
instance C59:Cf cfg 59 VB:=⟨c59⟩
instance Z59:Zf cfg 59:=⟨rfl⟩
theorem c60:cfg.fc 60=VC:=rfl
instance C60:Cf cfg 60 VC:=⟨c60⟩
instance Z60:Zf cfg 60:=⟨rfl⟩
theorem c61:cfg.fc 61=VD:=rfl
instance C61:Cf cfg 61 VD:=⟨c61⟩
instance Z61:Zf cfg 61:=⟨rfl⟩
theorem c62:cfg.fc 62=VE:=rfl
instance C62:Cf cfg 62 VE:=⟨c62⟩
instance Z62:Zf cfg 62:=⟨rfl⟩
theorem c63:cfg.fc 63=VF:=rfl
instance C63:Cf cfg 63 VF:=⟨c63⟩
instance Z63:Zf cfg 63:=⟨rfl⟩
theorem z63:(cfg.fc 63).frz=[]:=rfl
theorem c64:cfg.fc 64=VG:=rfl
instance C64:Cf cfg 64 VG:=⟨c64⟩
instance Z64:Zf cfg 64:=⟨rfl⟩
theorem c65:cfg.fc 65=VH:=rfl
instance C65:Cf cfg 65 VH:=⟨c65⟩
instance Z65:Zf cfg 65:=⟨rfl⟩
theorem c92:cfg.fc 92=VI:=rfl
instance C92:Cf cfg 92 VI:=⟨c92⟩
instance Z92:Zf cfg 92:=⟨rfl⟩
theorem c97:cfg.fc 97=VJ:=rfl
instance C97:Cf cfg 97 VJ:=⟨c97⟩
instance Z97:Zf cfg 97:=⟨rfl⟩
theorem c98:cfg.fc 98=VK:=rfl
instance C98:Cf cfg 98 VK:=⟨c98⟩
instance Z98:Zf cfg 98:=⟨rfl⟩
theorem z98:(cfg.fc 98).frz=[]:=rfl
theorem c99:cfg.fc 99=VL:=rfl
instance C99:Cf cfg 99 VL:=⟨c99⟩
instance Z99:Zf cfg 99:=⟨rfl⟩
theorem aam:cfg.fc 100=Py:=rfl
instance abL:Cf cfg 100 Py:=⟨aam⟩
instance abM:Zf cfg 100:=⟨rfl⟩
theorem YE:cfg.fc 101=Pz:=rfl
instance abN:Cf cfg 101 Pz:=⟨YE⟩
instance abO:Zf cfg 101:=⟨rfl⟩
theorem TR:cfg.fc 102=PD:=rfl
instance abP:Cf cfg 102 PD:=⟨TR⟩
instance abQ:Zf cfg 102:=⟨rfl⟩
theorem aan:(cfg.fc 102).frz=[]:=rfl
theorem aao:cfg.fc 103=PE:=rfl
instance abR:Cf cfg 103 PE:=⟨aao⟩
instance abS:Zf cfg 103:=⟨rfl⟩
theorem aap:cfg.fc 104=PI:=rfl
instance abT:Cf cfg 104 PI:=⟨aap⟩
instance abU:Zf cfg 104:=⟨rfl⟩
theorem c105:cfg.fc 105=PK:=rfl
instance abV:Cf cfg 105 PK:=⟨c105⟩
instance abW:Zf cfg 105:=⟨rfl⟩
theorem TS:cfg.fc 106=PL:=rfl
instance abX:Cf cfg 106 PL:=⟨TS⟩
instance abY:Zf cfg 106:=⟨rfl⟩
theorem YF:(cfg.fc 106).frz=[]:=rfl
theorem c107:cfg.fc 107=PN:=rfl
instance abZ:Cf cfg 107 PN:=⟨c107⟩
instance ab1:Zf cfg 107:=⟨rfl⟩
theorem YG:cfg.fc 108=PO:=rfl
instance ab2:Cf cfg 108 PO:=⟨YG⟩
instance ab3:Zf cfg 108:=⟨rfl⟩
theorem c109:cfg.fc 109=PR:=rfl
instance ab4:Cf cfg 109 PR:=⟨c109⟩
instance ab5:Zf cfg 109:=⟨rfl⟩
theorem aaq:cfg.fc 110=PS:=rfl
instance ab6:Cf cfg 110 PS:=⟨aaq⟩
instance ab7:Zf cfg 110:=⟨rfl⟩
theorem YH:cfg.fc 111=PT:=rfl
instance ab8:Cf cfg 111 PT:=⟨YH⟩
instance ab9:Zf cfg 111:=⟨rfl⟩
theorem aar:cfg.fc 125=PU:=rfl
instance acd:Cf cfg 125 PU:=⟨aar⟩
instance ace:Zf cfg 125:=⟨rfl⟩
theorem c127:cfg.fc 127=PV:=rfl
instance acf:Cf cfg 127 PV:=⟨c127⟩
instance acg:Zf cfg 127:=⟨rfl⟩
theorem c130:cfg.fc 130=PW:=rfl
instance ach:Cf cfg 130 PW:=⟨c130⟩
instance aci:Zf cfg 130:=⟨rfl⟩
theorem c131:cfg.fc 131=PX:=rfl
instance acj:Cf cfg 131 PX:=⟨c131⟩
instance ack:Zf cfg 131:=⟨rfl⟩
theorem z131:(cfg.fc 131).frz=[]:=rfl
theorem aas:cfg.fc 132=PY:=rfl
instance acm:Cf cfg 132 PY:=⟨aas⟩
instance acn:Zf cfg 132:=⟨rfl⟩
theorem XI:cfg.fc 133=PZ:=rfl
instance aco:Cf cfg 133 PZ:=⟨XI⟩
instance acp:Zf cfg 133:=⟨rfl⟩
theorem rE:(cfg.fc 133).frz=[]:=rfl
theorem aat:cfg.fc 134=P5:=rfl
instance acr:Cf cfg 134 P5:=⟨aat⟩
instance acs:Zf cfg 134:=⟨rfl⟩
theorem Q4:cfg.fc 135=P6:=rfl
instance acu:Cf cfg 135 P6:=⟨Q4⟩
instance acv:Zf cfg 135:=⟨rfl⟩
theorem XJ:(cfg.fc 135).frz=[]:=rfl
theorem VM:cfg.fc 144=P7:=rfl
instance acw:Cf cfg 144 P7:=⟨VM⟩
instance acy:Zf cfg 144:=⟨rfl⟩
theorem c145:cfg.fc 145=P8:=rfl
instance acz:Cf cfg 145 P8:=⟨c145⟩
instance acA:Zf cfg 145:=⟨rfl⟩
theorem c146:cfg.fc 146=P9:=rfl
instance acB:Cf cfg 146 P9:=⟨c146⟩
instance acC:Zf cfg 146:=⟨rfl⟩
theorem aau:cfg.fc 147=Qa:=rfl
instance acD:Cf cfg 147 Qa:=⟨aau⟩
instance acE:Zf cfg 147:=⟨rfl⟩
theorem c148:cfg.fc 148=Qb:=rfl
instance acF:Cf cfg 148 Qb:=⟨c148⟩
instance acG:Zf cfg 148:=⟨rfl⟩
theorem YI:cfg.fc 172=Qc:=rfl
instance acH:Cf cfg 172 Qc:=⟨YI⟩
instance acI:Zf cfg 172:=⟨rfl⟩
theorem c173:cfg.fc 173=Qd:=rfl
instance acJ:Cf cfg 173 Qd:=⟨c173⟩
instance acK:Zf cfg 173:=⟨rfl⟩
theorem aav:cfg.fc 174=Qe:=rfl
instance acL:Cf cfg 174 Qe:=⟨aav⟩
instance acM:Zf cfg 174:=⟨rfl⟩
theorem aaw:cfg.fc 180=Qg:=rfl
instance acN:Cf cfg 180 Qg:=⟨aaw⟩
instance acO:Zf cfg 180:=⟨rfl⟩
noncomputable abbrev Pg:=Try.prog
theorem Qh:CS Pg 143=some ([z0,z0,z0,z0],[(0,1),(1,1),(2,1),(3,1)]):=kr
theorem YJ:CS Pg 146=some ([.nil,z0,.im 0 (.sc (.int .u64 0))],[(0,1),(1,1),(2,1)]):=kr
theorem Q5:CS Pg 48=some ([z1,z0,z0],[(0,1),(1,1),(2,1)]):=kr
theorem YK:CS Pg 51=some ([z1,z1,z0,z1,z0,z0,z0,z0,.nil],[(0,1),(1,1),(2,1),(3,3),(6,1),(7,1),(8,1)]):=kr
theorem aax:CS Pg 88=some ([.nil,.im 0 (.sc (.bool false)),z0,.im 0 (.sc (.bool false)),.nil,z0],[(0,1),(1,1),(2,1),(3,1),(4,1),(5,1)]):=kr
theorem YL:pq Pg 147=some (9,1):=kr
theorem MW:pq Pg 24=some (53,1):=kr
theorem TT:pq Pg 27=some (51,9):=kr
theorem aay:pq Pg 53=some (2,1):=kr
theorem KL:jG Pg 143 0=some 0:=kr
theorem Gu:jG Pg 143 1=some 1:=kr
theorem Qi:jG Pg 143 2=some 2:=kr
theorem Qj:jG Pg 143 3=some 3:=kr
theorem KN:jG Pg 146 0=some 0:=kr
theorem Ef:jG Pg 146 1=some 1:=kr
theorem KO:jG Pg 146 2=some 2:=kr
theorem KP:jG Pg 48 0=some 0:=kr
theorem CZ:jG Pg 48 1=some 1:=kr
theorem Ir:jG Pg 48 2=some 2:=kr
theorem OE:jG Pg 51 0=some 0:=kr
theorem EX:jG Pg 51 1=some 1:=kr
theorem zA:jG Pg 51 2=some 2:=kr
theorem xm:jG Pg 51 3=some 3:=kr
theorem C9:jG Pg 51 4=some 6:=kr
theorem Iu:jG Pg 51 5=some 7:=kr
theorem xU:jG Pg 51 6=some 8:=kr
theorem TU:jG Pg 88 0=some 0:=kr
theorem XK:jG Pg 88 1=some 1:=kr
theorem Iw:jG Pg 88 2=some 2:=kr
theorem TV:jG Pg 88 3=some 3:=kr
theorem TW:jG Pg 88 4=some 4:=kr
theorem Iy:jG Pg 88 5=some 5:=kr
theorem VN:bG Pg cfg 100 0 [2]=[(.cst false,[none])]:=kr
theorem Q7:bG Pg cfg 101 0 [2,2]=[(.cst false,[none]),(.cst false,[none])]:=kr
theorem qj:bG Pg cfg 102 0 [24,3,3,3,102]=[(.row,[some 1]),(.cst false,[none]),(.cst false,[none]),(.cst false,[none]),(.cst false,[none])]:=kr
theorem Q8:bG Pg cfg 103 0 [153]=[(.cst false,[none])]:=kr
theorem Q9:bG Pg cfg 104 0 [2,2]=[(.cst false,[none]),(.cst false,[none])]:=kr
theorem Dc:bG Pg cfg 105 0 [53,2]=[(.cst false,[some 1]),(.cst false,[none])]:=kr
theorem MX:bG Pg cfg 106 0 [95]=[(.ptr [.imm,.imm,.imm],[none])]:=kr
theorem Qk:bG Pg cfg 107 0 [9]=[(.cst false,[none])]:=kr
theorem TY:bG Pg cfg 108 0 [48]=[(.cst false,[none,none,none])]:=kr
theorem KQ:bG Pg cfg 109 0 [49,161]=[(.cst false,[some 4]),(.cst false,[none])]:=kr
theorem MZ:bG Pg cfg 110 0 [143,0]=[(.cst false,[none,none,none,none]),(.cst false,[none])]:=kr
theorem IZ:bG Pg cfg 111 0 [143,2,2]=[(.cst false,[none,none,none,none]),(.cst false,[none]),(.cst false,[none])]:=kr
theorem Na:bG Pg cfg 11 0 [27,4,2]=[(.cst false,[some 9]),(.cst false,[none]),(.cst false,[none])]:=kr
theorem EY:bG Pg cfg 125 0 [2,2]=[(.cst false,[none]),(.cst false,[none])]:=kr
theorem vH:bG Pg cfg 127 0 [2,2]=[(.cst false,[none]),(.cst false,[none])]:=kr
theorem TZ:bG Pg cfg 130 0 [95]=[(.ptr [.imm,.imm,.imm],[none])]:=kr
theorem Ua:bG Pg cfg 131 0 [95]=[(.ptr [.imm,.imm,.imm],[none])]:=kr
theorem zB:bG Pg cfg 132 0 [95,147]=[(.ptr [.imm,.imm,.imm],[none]),(.cst false,[some 1])]:=kr
theorem Nb:bG Pg cfg 133 0 [95]=[(.ptr [.imm,.imm,.imm],[none])]:=kr
theorem KR:bG Pg cfg 134 0 [95,2,2]=[(.ptr [.imm,.imm,.imm],[none]),(.cst false,[none]),(.cst false,[none])]:=kr
theorem EZ:bG Pg cfg 135 0 [24,3,3,102]=[(.row,[some 1]),(.cst false,[none]),(.cst false,[none]),(.cst false,[none])]:=kr
theorem E5:bG Pg cfg 136 0 [24,3,3,102]=[(.row,[some 1]),(.cst false,[none]),(.cst false,[none]),(.cst false,[none])]:=kr
theorem E8:bG Pg cfg 137 0 [24,3,3,102]=[(.row,[some 1]),(.cst false,[none]),(.cst false,[none]),(.cst false,[none])]:=kr
theorem Fa:bG Pg cfg 138 0 [24,3,3,102]=[(.cst false,[some 1]),(.cst false,[none]),(.cst false,[none]),(.cst false,[none])]:=kr
theorem Fb:bG Pg cfg 139 0 [24,3,3,102]=[(.row,[some 1]),(.cst false,[none]),(.cst false,[none]),(.cst false,[none])]:=kr
theorem Fe:bG Pg cfg 140 0 [24,3,3,102]=[(.row,[some 1]),(.cst false,[none]),(.cst false,[none]),(.cst false,[none])]:=kr
theorem Df:bG Pg cfg 141 0 [24,3,3,3,102]=[(.row,[some 1]),(.cst false,[none]),(.cst false,[none]),(.cst false,[none]),(.cst false,[none])]:=kr
theorem Dh:bG Pg cfg 142 0 [24,3,3,3,102]=[(.row,[some 1]),(.cst false,[none]),(.cst false,[none]),(.cst false,[none]),(.cst false,[none])]:=kr
theorem Rf:bG Pg cfg 144 0 [144]=[(.cst false,[none])]:=kr
theorem Ql:bG Pg cfg 145 0 [2]=[(.cst false,[none])]:=kr
theorem OG:bG Pg cfg 146 0 [53,2]=[(.cst false,[some 1]),(.cst false,[none])]:=kr
theorem VO:bG Pg cfg 147 0 [9]=[(.cst false,[none])]:=kr
theorem KT:bG Pg cfg 148 0 [49,161]=[(.cst false,[some 4]),(.cst false,[none])]:=kr
theorem Ub:bG Pg cfg 172 0 [95]=[(.ptr [.imm,.imm,.imm],[none])]:=kr
theorem XL:bG Pg cfg 173 0 []=[]:=kr
theorem Uc:bG Pg cfg 174 0 []=[]:=kr
theorem Qm:bG Pg cfg 17 0 [34]=[(.cst false,[some 1])]:=kr
theorem VP:bG Pg cfg 180 0 [9]=[(.cst false,[none])]:=kr
theorem VQ:bG Pg cfg 18 0 [34]=[(.cst false,[some 1])]:=kr
theorem Rh:bG Pg cfg 19 0 [27,4]=[(.cst false,[some 9]),(.cst false,[none])]:=kr
theorem Eg:bG Pg cfg 20 0 [27,24,4]=[(.cst false,[some 9]),(.cst false,[some 1]),(.cst false,[none])]:=kr
theorem VR:bG Pg cfg 21 0 [34]=[(.cst false,[some 1])]:=kr
theorem Nc:bG Pg cfg 22 0 [27,2,4]=[(.cst false,[some 9]),(.cst false,[none]),(.cst false,[none])]:=kr
theorem KU:bG Pg cfg 23 0 [51,51,4]=[(.cst false,[none,none,none,none,none,none,none,none,some 4]),(.cst false,[none,none,none,none,none,none,none,none,some 4]),(.cst false,[none])]:=kr
theorem Gv:bG Pg cfg 46 0 [27]=[(.cst false,[some 9])]:=kr
theorem iL:bG Pg cfg 47 0 [2,2,2]=[(.cst false,[none]),(.cst false,[none]),(.cst false,[none])]:=kr
theorem bF:bG Pg cfg 48 0 [86,24,53,2]=[(.ptr [.imm,.imm,.imm,.imm,.sh,.imm],[none]),(.cst true,[some 1]),(.cst false,[some 1]),(.cst false,[none])]:=kr
theorem Qn:bG Pg cfg 55 0 [34]=[(.cst false,[some 1])]:=kr
theorem Qo:bG Pg cfg 56 0 [95]=[(.ptr [.imm,.imm,.imm],[none])]:=kr
theorem tu:bG Pg cfg 57 0 [95,2]=[(.ptr [.imm,.imm,.imm],[none]),(.cst false,[none])]:=kr
theorem VS:bG Pg cfg 58 0 [95]=[(.ptr [.imm,.imm,.imm],[none])]:=kr
theorem rF:bG Pg cfg 59 0 [51,51,4]=[(.cst false,[none,none,none,none,none,none,none,none,some 4]),(.cst false,[none,none,none,none,none,none,none,none,some 4]),(.cst false,[none])]:=kr
theorem Nh:bG Pg cfg 60 0 [24,102]=[(.row,[some 1]),(.cst false,[none])]:=kr
theorem Iz:bG Pg cfg 61 0 [53,53]=[(.cst false,[some 1]),(.cst false,[some 1])]:=kr
theorem IA:bG Pg cfg 62 0 [53,53]=[(.cst false,[some 1]),(.cst false,[some 1])]:=kr
theorem Ri:bG Pg cfg 63 0 [24,2]=[(.cst false,[some 1]),(.cst false,[none])]:=kr
theorem dY:bG Pg cfg 64 0 [95,2]=[(.ptr [.imm,.imm,.imm],[none]),(.cst false,[none])]:=kr
theorem Eh:bG Pg cfg 65 0 [51]=[(.cst false,[none,none,none,none,none,none,none,none,some 4])]:=kr
theorem ug:bG Pg cfg 91 0 [24]=[(.cst false,[some 1])]:=kr
theorem JG:bG Pg cfg 92 0 [86,2]=[(.ptr [.imm,.imm,.imm,.imm,.sh,.imm],[none]),(.cst false,[none])]:=kr
theorem fP:bG Pg cfg 93 0 [53,3,3]=[(.mv,[some 1]),(.cst false,[none]),(.cst false,[none])]:=kr
theorem mF:bG Pg cfg 94 0 [53]=[(.cst false,[some 1])]:=kr
theorem VT:bG Pg cfg 97 0 [95]=[(.ptr [.imm,.imm,.imm],[none])]:=kr
theorem Ff:bG Pg cfg 98 0 [95,9]=[(.ptr [.imm,.imm,.imm],[none]),(.cst false,[none])]:=kr
theorem mG:bG Pg cfg 99 0 [95,53]=[(.ptr [.imm,.imm,.imm],[none]),(.cst false,[some 1])]:=kr
theorem YM:fG Pg (Try.f100.results.toList.zip Try.f100.resultTypes.toList)=[(.tmp 2,[none],none)]:=kr
theorem WJ:fG Pg (Try.f101.results.toList.zip Try.f101.resultTypes.toList)=[(.tmp 4,[none],none),(.tmp 5,[none],none)]:=kr
theorem Ud:fG Pg (Try.f102.results.toList.zip Try.f102.resultTypes.toList)=[]:=kr
theorem YN:fG Pg (Try.f103.results.toList.zip Try.f103.resultTypes.toList)=[(.tmp 2,[none],none)]:=kr
theorem JH:fG Pg (Try.f104.results.toList.zip Try.f104.resultTypes.toList)=[(.tmp 4,[none],none)]:=kr
theorem YO:fG Pg (Try.f105.results.toList.zip Try.f105.resultTypes.toList)=[(.tmp 4,[none],none)]:=kr
theorem WL:fG Pg (Try.f106.results.toList.zip Try.f106.resultTypes.toList)=[(.tmp 2,[none],none)]:=kr
theorem Ue:fG Pg (Try.f107.results.toList.zip Try.f107.resultTypes.toList)=[(.tmp 2,[none],none)]:=kr
theorem YP:fG Pg (Try.f108.results.toList.zip Try.f108.resultTypes.toList)=[(.tmp 2,[none],none)]:=kr
theorem YQ:fG Pg (Try.f109.results.toList.zip Try.f109.resultTypes.toList)=[(.tmp 4,[none],none)]:=kr
theorem VU:fG Pg (Try.f11.results.toList.zip Try.f11.resultTypes.toList)=[(.tmp 6,[some 1],none),(.tmp 7,[none],none),(.tmp 8,[none],none)]:=kr
theorem YR:fG Pg (Try.f110.results.toList.zip Try.f110.resultTypes.toList)=[(.tmp 3,[none],none)]:=kr
theorem YS:fG Pg (Try.f111.results.toList.zip Try.f111.resultTypes.toList)=[(.tmp 6,[none],none)]:=kr
theorem WM:fG Pg (Try.f125.results.toList.zip Try.f125.resultTypes.toList)=[(.tmp 4,[none],none)]:=kr
theorem WN:fG Pg (Try.f127.results.toList.zip Try.f127.resultTypes.toList)=[(.tmp 4,[none],none)]:=kr
theorem YT:fG Pg (Try.f130.results.toList.zip Try.f130.resultTypes.toList)=[(.tmp 2,[some 9],none)]:=kr
theorem YU:fG Pg (Try.f131.results.toList.zip Try.f131.resultTypes.toList)=[(.cell 2 51,[none,none,none,none,none,none,none,none,some 4],some (true,9))]:=kr
theorem YV:fG Pg (Try.f132.results.toList.zip Try.f132.resultTypes.toList)=[(.tmp 4,[none],none)]:=kr
theorem YW:fG Pg (Try.f133.results.toList.zip Try.f133.resultTypes.toList)=[(.cell 2 48,[none,none,none],some (true,3))]:=kr
theorem YX:fG Pg (Try.f134.results.toList.zip Try.f134.resultTypes.toList)=[(.cell 6 143,[none,none,none,none],some (true,4))]:=kr
theorem YY:fG Pg (Try.f135.results.toList.zip Try.f135.resultTypes.toList)=[]:=kr
theorem YZ:fG Pg (Try.f144.results.toList.zip Try.f144.resultTypes.toList)=[(.tmp 2,[none],none)]:=kr
theorem Y0:fG Pg (Try.f145.results.toList.zip Try.f145.resultTypes.toList)=[(.tmp 2,[none],none)]:=kr
theorem WO:fG Pg (Try.f146.results.toList.zip Try.f146.resultTypes.toList)=[(.tmp 4,[none],none)]:=kr
theorem Y1:fG Pg (Try.f147.results.toList.zip Try.f147.resultTypes.toList)=[(.tmp 2,[none],none),(.tmp 3,[none],none)]:=kr
theorem WQ:fG Pg (Try.f148.results.toList.zip Try.f148.resultTypes.toList)=[(.tmp 4,[none],none)]:=kr
theorem aaz:fG Pg (Try.f17.results.toList.zip Try.f17.resultTypes.toList)=[(.tmp 2,[none],none)]:=kr
theorem Y2:fG Pg (Try.f172.results.toList.zip Try.f172.resultTypes.toList)=[(.cell 2 48,[none,none,none],some (true,3))]:=kr
theorem Y3:fG Pg (Try.f173.results.toList.zip Try.f173.resultTypes.toList)=[(.tmp 0,[some 1],none)]:=kr
theorem Y4:fG Pg (Try.f174.results.toList.zip Try.f174.resultTypes.toList)=[(.tmp 0,[some 1],none)]:=kr
theorem aaA:fG Pg (Try.f18.results.toList.zip Try.f18.resultTypes.toList)=[(.tmp 2,[some 9],none),(.tmp 3,[none],none),(.tmp 4,[none],none)]:=kr
theorem AX:fG Pg (Try.f180.results.toList.zip Try.f180.resultTypes.toList)=[(.tmp 2,[none],none),(.tmp 3,[none],none),(.tmp 4,[none],none),(.tmp 5,[none],none)]:=kr
theorem Y5:fG Pg (Try.f19.results.toList.zip Try.f19.resultTypes.toList)=[(.tmp 4,[some 1],none),(.tmp 5,[none],none)]:=kr
theorem XM:fG Pg (Try.f20.results.toList.zip Try.f20.resultTypes.toList)=[(.tmp 6,[none],none),(.tmp 7,[none],none)]:=kr
theorem aaB:fG Pg (Try.f21.results.toList.zip Try.f21.resultTypes.toList)=[(.tmp 2,[some 9],none),(.tmp 3,[none],none),(.tmp 4,[none],none)]:=kr
theorem VV:fG Pg (Try.f22.results.toList.zip Try.f22.resultTypes.toList)=[(.tmp 6,[none],none),(.tmp 7,[none],none),(.tmp 8,[none],none)]:=kr
theorem Y6:fG Pg (Try.f23.results.toList.zip Try.f23.resultTypes.toList)=[(.tmp 6,[none],none),(.tmp 7,[none],none)]:=kr
theorem rF4:fG Pg (Try.f4.results.toList.zip Try.f4.resultTypes.toList)=[(.tmp 4,[none],none)]:=kr
theorem Y7:fG Pg (Try.f46.results.toList.zip Try.f46.resultTypes.toList)=[(.tmp 2,[none],none)]:=kr
theorem aaC:fG Pg (Try.f47.results.toList.zip Try.f47.resultTypes.toList)=[(.tmp 6,[none],none)]:=kr
theorem XN:fG Pg (Try.f48.results.toList.zip Try.f48.resultTypes.toList)=[]:=kr
theorem aaD:fG Pg (Try.f55.results.toList.zip Try.f55.resultTypes.toList)=[(.tmp 2,[none],none)]:=kr
theorem aaE:fG Pg (Try.f56.results.toList.zip Try.f56.resultTypes.toList)=[(.tmp 2,[some 9],none)]:=kr
theorem aaF:fG Pg (Try.f57.results.toList.zip Try.f57.resultTypes.toList)=[(.tmp 4,[none],none)]:=kr
theorem Y8:fG Pg (Try.f58.results.toList.zip Try.f58.resultTypes.toList)=[(.tmp 2,[none],none)]:=kr
theorem aaG:fG Pg (Try.f59.results.toList.zip Try.f59.resultTypes.toList)=[(.tmp 6,[none],none)]:=kr
theorem aaH:fG Pg (Try.f60.results.toList.zip Try.f60.resultTypes.toList)=[]:=kr
theorem aaI:fG Pg (Try.f61.results.toList.zip Try.f61.resultTypes.toList)=[(.tmp 4,[none],none)]:=kr
theorem VW:fG Pg (Try.f62.results.toList.zip Try.f62.resultTypes.toList)=[(.tmp 4,[none],none)]:=kr
theorem XO:fG Pg (Try.f63.results.toList.zip Try.f63.resultTypes.toList)=[(.tmp 4,[none],none)]:=kr
theorem Y9:fG Pg (Try.f64.results.toList.zip Try.f64.resultTypes.toList)=[(.tmp 4,[none],none)]:=kr
theorem XP:fG Pg (Try.f65.results.toList.zip Try.f65.resultTypes.toList)=[(.tmp 2,[none],none)]:=kr
theorem aaJ:fG Pg (Try.f91.results.toList.zip Try.f91.resultTypes.toList)=[(.tmp 2,[some 1],none)]:=kr
theorem Za:fG Pg (Try.f92.results.toList.zip Try.f92.resultTypes.toList)=[(.tmp 4,[none],none)]:=kr
theorem aaK:fG Pg (Try.f94.results.toList.zip Try.f94.resultTypes.toList)=[(.tmp 2,[some 1],none)]:=kr
theorem aaL:fG Pg (Try.f97.results.toList.zip Try.f97.resultTypes.toList)=[(.tmp 2,[some 9],none)]:=kr
theorem aaM:fG Pg (Try.f98.results.toList.zip Try.f98.resultTypes.toList)=[(.cell 4 51,[none,none,none,none,none,none,none,none,some 4],some (true,9))]:=kr
theorem aaN:fG Pg (Try.f99.results.toList.zip Try.f99.resultTypes.toList)=[(.tmp 4,[none],none)]:=kr
theorem AY:jr Pg 147=some (9,1,[none],false,16,[z1]):=kr
theorem kR:jr Pg 24=some (53,1,[some 1],false,24,[.nil]):=kr
theorem tC:jr Pg 27=some (51,9,[none,none,none,none,none,none,none,none,some 4],true,112,[z1,z1,z0,z1,z0,z0,z0,z0,.nil]):=kr
theorem Zb:jr Pg 34=some (5,1,[none],false,1,[.im 0 (.sc (.int .u8 0))]):=kr
theorem Nj:jr Pg 49=some (143,4,[none,none,none,none],true,32,[z0,z0,z0,z0]):=kr
theorem iG:jr Pg 53=some (2,1,[none],false,8,[z0]):=kr
theorem OH:jr Pg 82=some (4,1,[none],false,1,[.im 0 (.sc (.bool false))]):=kr
theorem Ei:tyF Pg 143=some ([z0,z0,z0,z0],[none,none,none,none],true,4):=kr
theorem Uf:tyF Pg 144=some ([.im 0 (.sc (.int .u64 0))],[none],false,1):=kr
theorem Zc:tyF Pg 146=some ([.nil,z0,.im 0 (.sc (.int .u64 0))],[some 1,none,none],true,3):=kr
theorem tF2:tyF Pg 2=some ([z0],[none],false,1):=kr
theorem Zd:tyF Pg 24=some ([.nil],[some 1],false,1):=kr
theorem Ze:tyF Pg 27=some ([.nil],[some 9],false,1):=kr
theorem tF3:tyF Pg 3=some ([z0],[none],false,1):=kr
theorem XQ:tyF Pg 34=some ([.nil],[some 1],false,1):=kr
theorem tF4:tyF Pg 4=some ([.im 0 (.sc (.bool false))],[none],false,1):=kr
theorem xB:tyF Pg 48=some ([z1,z0,z0],[none,none,none],true,3):=kr
theorem I4:tyF Pg 49=some ([.nil],[some 4],false,1):=kr
theorem tF5:tyF Pg 5=some ([.im 0 (.sc (.int .u8 0))],[none],false,1):=kr
theorem lT:tyF Pg 51=some ([z1,z1,z0,z1,z0,z0,z0,z0,.nil],[none,none,none,none,none,none,none,none,some 4],true,9):=kr
theorem F7:tyF Pg 53=some ([.nil],[some 1],false,1):=kr
theorem aaO:tyF Pg 88=some ([.nil,.im 0 (.sc (.bool false)),z0,.im 0 (.sc (.bool false)),.nil,z0],[some 9,none,none,none,some 1,none],true,6):=kr
theorem tF9:tyF Pg 9=some ([z1],[none],false,1):=kr
theorem Ug:Pg.underlying 144=some (.int .u64):=kr
theorem WR:Pg.underlying 147=some (.slice 9):=kr
theorem Zg:Pg.underlying 153=some (.int .u64):=kr
theorem uF2:Pg.underlying 2=some (.int .i64):=kr
theorem vz:Pg.underlying 24=some (.slice 53):=kr
theorem y5:Pg.underlying 27=some (.slice 51):=kr
theorem uF3:Pg.underlying 3=some (.int .i64):=kr
theorem VX:Pg.underlying 34=some (.slice 5):=kr
theorem Rj:Pg.underlying 49=some (.slice 143):=kr
theorem uF5:Pg.underlying 5=some (.int .u8):=kr
theorem Fg:Pg.underlying 53=some (.slice 2):=kr
theorem uF9:Pg.underlying 9=some .string:=kr
abbrev FX (i:Nat) (a:List Arg) (r:Res×List Out):Prop:=FL Try.prog cfg i a=some r
theorem AZ {jv:(List Int)} {r:Bool} (h:qU jv=some r):FX 17 [.im 2 false [W 1 (eK .u8) jv]] (B0 [(false,[.im 0 (V r)])]):=by
 unfold qU at h
 refine gn 6 Try.func17 rfl ?_
 refine gs<|g0 j j (q (ah j j)<|nl)<|us<|gs<|g0 j j (q (oMv j j)<|q (qR j j VX j)<|q (oBi j j j j)<|q (ah j j)<|nl)<|us<|Go.ret (Unw.ret ?_)
 cases h
 exact fr aaz j
theorem A7 {jv:(List Int)} {r:aj} (h:oZ jv=some r):FX 55 [.im 2 false [W 1 (eK .u8) jv]] (B0 [(false,[.pt true [⟨.imm,2,W 1 (eK .u8) r.code⟩,⟨.imm,0,I r.at_⟩,⟨.imm,0,.sc (.int .u64 r.seed)⟩]])]):=by
 unfold oZ at h
 refine gn 6 Try.func55 rfl ?_
 refine gs<|g0 j j (q (ah j j)<|nl)<|us<|gs<|g0 j j (q (oMv j j)<|q (oBu (cs:=[.im 2 _,.im 0 _,.im 0 _]) j YJ j)<|q (oBx j Zc j (tkI (tkI (tkI tk0))))<|q (U7 j j)<|nl)<|us<|Go.ret (Unw.ret ?_)
 cases h
 exact fr aaD j
theorem xu {s_0:aj} {r:(Int×aj)} (h:jO s_0=some r):FX 106 [.ptr true [(.imm,W 1 (eK .u8) s_0.code),(.imm,I s_0.at_),(.imm,.sc (.int .u64 s_0.seed))]] ([(false,[.im 0 (I r.1)])],[.ptr true [(.imm,W 1 (eK .u8) r.2.code),(.imm,I r.2.at_),(.imm,.sc (.int .u64 r.2.seed))]]):=by
 unfold jO at h
 refine lC (A:=[(0,M 0)]) (B:=[(0,Od (G 1 (aA s_0)))]) (nt:=62) rfl rfl Try.func106 rfl rfl rfl rfl ?_
 refine gs<|g0 j j (q (ah j j)<|nl)<|us<|gs<|g0 j j (q (ah j j)<|nl)<|us<|gs<|gs<|gd TS j j j j (mk [(0,M 0),(3,iv 0),(13,bv (decide (s_0.at_< (s_0.code.length:Int))))] [(0,Od (G 1 (aA s_0)))]) (t j j (oMv j j)<|t j j (oNl j j j)<|t j j (oFA (r':=.mp 0 0 1) j Ef j j)<|t j j (oLd (cs:=[.im 0 _]) j tF3 j j)<|t j j (oMv j j)<|t j j (oNl j j j)<|t j j (oFA (r':=.mp 0 0 0) j KN j j)<|t j j (oLd (cs:=[.im 1 _]) j XQ j j)<|t j j (qR j j VX j)<|t j j (oBi j j j j)<|sD (by kernel_rfl))<|us<|Go.join (fun st=>∃sQ,iP s_0 sQ=some r∧st.norm ([0,3],[0])=mk [(0,M 0),(3,iv sQ)] [(0,Od (G 1 (aA s_0)))]) ?_ ?_
 ·rintro st ⟨sQ,h,hst⟩
  unfold iP at h
  refine us<|gs<|g2 TS j j hst (q (oMv j j)<|q (oNl j j j)<|q (oFA (r':=.mp 0 0 1) j Ef j j)<|q (oLd (cs:=[.im 0 _]) j tF3 j j)<|q (oBi j j j j)<|q (oNl j j j)<|q (oFA (r':=.mp 0 0 1) j Ef j j)<|q (oSt tF3 j j j (tkI tk0) j j j)<|nl)<|us<|gs<|g1 j j (mk [(0,M 0),(3,iv sQ)] [(0,Od [Ct 1 (W 1 (eK .u8) s_0.code),C (I (w64 (s_0.at_+1))),C (.sc (.int .u64 s_0.seed))])]) (q (oMv j j)<|q (oMv j j)<|q (oNl j j j)<|q (oFA (r':=.mp 0 0 2) j KO j j)<|q (oLd (cs:=[.im 0 _]) j Uf j j)<|q (oBi j j j j)<|q (oMv j j)<|q (Oh j uF3 Ug j)<|q (oBi j j j j)<|q (oBi j j j j)<|q (oNl j j j)<|q (oFA (r':=.mp 0 0 2) j KO j j)<|q (oSt Uf j j j (tkI tk0) j j j)<|nl)<|us<|gs<|gs<|gd TS j j j (st1:=mk [(0,M 0),(3,iv sQ)] [(0,Od [Ct 1 (W 1 (eK .u8) s_0.code),C (I (w64 (s_0.at_+1))),C (.sc (.int .u64 (IntKind.wrap .u64 ((IntKind.wrap .u64 ((IntKind.wrap .u64 (s_0.seed*6364136223846793005))+(IntKind.wrap .u64 (sQ))))+1442695040888963407))))])]) (by kernel_rfl) (mk [(0,M 0),(3,iv sQ),(53,bv (decide ((w64 (s_0.at_+1))≤(s_0.code.length:Int))))] [(0,Od [Ct 1 (W 1 (eK .u8) s_0.code),C (I (w64 (s_0.at_+1))),C (.sc (.int .u64 (IntKind.wrap .u64 ((IntKind.wrap .u64 ((IntKind.wrap .u64 (s_0.seed*6364136223846793005))+(IntKind.wrap .u64 (sQ))))+1442695040888963407))))])]) (t j j (oMv j j)<|t j j (oNl j j j)<|t j j (oFA (r':=.mp 0 0 1) j Ef j j)<|t j j (oLd (cs:=[.im 0 _]) j tF3 j j)<|t j j (oMv j j)<|t j j (oNl j j j)<|t j j (oFA (r':=.mp 0 0 0) j KN j j)<|t j j (oLd (cs:=[.im 1 _]) j XQ j j)<|t j j (qR j j VX j)<|t j j (oBi j j j j)<|sD (by kernel_rfl))<|us<|gc h j af (fun hc2 h=>?_) fun hc2 h=>?_
  ·refine gs<|g0 j j (q (oMv j j)<|q (ah j j)<|nl)<|us<|Go.ret (Unw.ret ?_)
   cases h
   exact fr WL j
  ·refine Go.skip<|us<|gs<|?_
   obtain ⟨x59,VY,h⟩:=bs h
   refine g0 j j (q (oMv j j)<|q (oNl j j j)<|q (oFA (r':=.mp 0 0 2) j KO j j)<|q (oLd (cs:=[.im 0 _]) j Uf j j)<|q (U8 j VY j j)<|q (oBi j j j j)<|q (Oh j Ug uF2 j)<|q (ah j j)<|nl)<|us<|Go.ret (Unw.ret ?_)
   cases h
   exact fr WL j
 ·intro K3
  refine gc h j af (fun hc4 h=>?_) fun hc4 h=>?_
  ·obtain ⟨x22,A8,h⟩:=bs h
   exact gd TS j j j j (mk [(0,M 0),(3,iv (w64 (x22)))] [(0,Od (G 1 (aA s_0)))]) (t j j (oMv j j)<|t j j (oNl j j j)<|t j j (oFA (r':=.mp 0 0 0) j KN j j)<|t j j (oLd (cs:=[.im 1 _]) j XQ j j)<|t j j (oMv j j)<|t j j (oNl j j j)<|t j j (oFA (r':=.mp 0 0 1) j Ef j j)<|t j j (oLd (cs:=[.im 0 _]) j tF3 j j)<|t j j (qf j A8 Zb j j)<|t j j (oLd (cs:=[.im 1 _]) j tF5 j j)<|sS (dN YF j (Oh j uF5 uF3 j)) trivial (sS (dN YF j (ah j j)) trivial (sD (by kernel_rfl))))<|K3 _ ⟨(w64 (x22)),h,(by kernel_rfl)⟩
  ·exact Go.skip<|K3 _ ⟨0,h,(by kernel_rfl)⟩
theorem aN {s_0:aj} {n_1:Int} {r:(Int×aj)} (h:aJ s_0 n_1=some r):FX 64 [.ptr true [(.imm,W 1 (eK .u8) s_0.code),(.imm,I s_0.at_),(.imm,.sc (.int .u64 s_0.seed))],.im 2 false [I n_1]] ([(false,[.im 0 (I r.1)])],[.ptr true [(.imm,W 1 (eK .u8) r.2.code),(.imm,I r.2.at_),(.imm,.sc (.int .u64 r.2.seed))]]):=by
 unfold aJ at h
 refine lC (A:=[(0,M 0),(1,D 2 (I n_1))]) (B:=[(0,Od (G 1 (aA s_0))),(1,none)]) (nt:=20) rfl rfl Try.func64 rfl rfl rfl rfl ?_
 refine gs<|g0 j j (q (ah j j)<|nl)<|us<|gs<|gs<|g0 j j (q (oMv j j)<|q (oBi j j j j)<|nl)<|us<|gc h j af (fun hc1 h=>?_) fun hc1 h=>?_
 ·refine gs<|g0 j j (q (ah j j)<|nl)<|us<|Go.ret (Unw.ret ?_)
  cases h
  exact fr Y9 j
 ·refine Go.skip<|us<|gs<|?_
  obtain ⟨x9,hx9,h⟩:=bs h
  refine g0 j j (q (oMv j j)<|q (oCa (xs:=[.v false [.mp 0 0 0]]) (vs:=[(false,[.im 0 _])]) (v:=.v false [.im 0 _]) (xu hx9) (.inl j) j MX j (ppP j j j pp0) j j (pbP j j pb0) j j j)<|q (ah j j)<|nl)<|us<|gs<|gs<|g1 j j (mk [(0,M 0),(1,iv n_1),(5,iv x9.1)] [(0,Od (G 1 (aA x9.2)))]) (q (oMv j j)<|q (oBi j j j j)<|nl)<|us<|Go.join (fun st=>∃Ii,∃yA,∃yB,∃yC,iQ n_1 Ii yA yB yC=some r∧st.norm ([1,5],[0])=mk [(1,iv n_1),(5,iv Ii)] [(0,Od [Ct 1 (W 1 (eK .u8) yA),C (I yB),C (.sc (.int .u64 yC))])]) ?_ ?_
  ·rintro st ⟨Ii,yA,yB,yC,h,hst⟩
   unfold iQ at h
   refine us<|gs<|?_
   obtain ⟨x19,F8,h⟩:=bs h
   refine g2 c64 j j hst (q (oMv j j)<|q (oMv j j)<|q (Xv j F8 j j)<|q (ah j j)<|nl)<|us<|Go.ret (Unw.ret ?_)
   cases h
   exact fr Y9 j
  ·intro K3
   refine gc h j af (fun hc4 h=>?_) fun hc4 h=>?_
   ·obtain ⟨x15,KW,h⟩:=bs h
    exact g0 j j (q (oMv j j)<|q (oBi j j j j)<|q (oMv j j)<|q (oCa (xs:=[.v false [.mp 0 0 0]]) (vs:=[(false,[.im 0 _])]) (v:=.v false [.im 0 _]) (xu KW) (.inl j) j MX j (ppP j j j pp0) j j (pbP j j pb0) j j j)<|q (oBi j j j j)<|q (ah j j)<|nl)<|K3 _ ⟨(w64 ((w64 (x9.1*256))+x15.1)),x15.2.code,x15.2.at_,x15.2.seed,h,(by kernel_rfl)⟩
   ·exact Go.skip<|K3 _ ⟨x9.1,x9.2.code,x9.2.at_,x9.2.seed,h,(by kernel_rfl)⟩
theorem ql {s_0:aj} {sU:(List ByteArray)} {r:(ByteArray×aj)} (h:iw s_0 sU=some r):FX 132 [.ptr true [(.imm,W 1 (eK .u8) s_0.code),(.imm,I s_0.at_),(.imm,.sc (.int .u64 s_0.seed))],.im 2 false [W 1 eS sU]] ([(false,[.im 0 (Y r.1)])],[.ptr true [(.imm,W 1 (eK .u8) r.2.code),(.imm,I r.2.at_),(.imm,.sc (.int .u64 r.2.seed))]]):=by
 unfold iw at h
 refine lC (A:=[(0,M 0),(1,D 2 (W 1 eS sU))]) (B:=[(0,Od (G 1 (aA s_0))),(1,none)]) (nt:=12) rfl rfl Try.func132 rfl rfl rfl rfl ?_
 refine gs<|g0 j j (q (ah j j)<|nl)<|us<|gs<|?_
 obtain ⟨x9,hx9,h⟩:=bs h
 obtain ⟨x10,Ba,h⟩:=bs h
 refine g0 j j (q (oMv j j)<|q (oMv j j)<|q (oMv j j)<|q (qR j j WR j)<|q (oCa (xs:=[.v false [.mp 0 0 0],.v false [.im 0 _]]) (vs:=[(false,[.im 0 _])]) (v:=.v false [.im 0 _]) (aN hx9) (.inl j) j dY j (ppP j j j (ppC j pp0)) j j (pbP j j pb0) j j j)<|q (qf j Ba AY j j)<|q (oLd (cs:=[.im 2 _]) j tF9 j j)<|q (ah j j)<|nl)<|us<|Go.ret (Unw.ret ?_)
 cases h
 exact fr YV j
theorem F9 {r:(List (List Int))} (h:tV=some r):FX 173 [] (B0 [(false,[.ow 0 1 (List.map (eL 1 eI) r)])]):=by
 unfold tV at h
 refine gn 12 Try.func173 rfl ?_
 refine gs<|g0 j j (q (Az j j MW)<|nl)<|us<|gs<|g0 j j (q (oBS (es:=List.map eI ([20,40,310]:List Int)) j iG j (ptC j (fxI fx0) j (ptC j (fxI fx0) j (ptC j (fxI fx0) j pt0))) (fK j fun _=>j))<|q (oBS (es:=List.map eI ([35,45,410]:List Int)) j iG j (ptC j (fxI fx0) j (ptC j (fxI fx0) j (ptC j (fxI fx0) j pt0))) (fK j fun _=>j))<|q (oBS (es:=List.map eI ([15,33,280]:List Int)) j iG j (ptC j (fxI fx0) j (ptC j (fxI fx0) j (ptC j (fxI fx0) j pt0))) (fK j fun _=>j))<|q (oBS (es:=List.map eI ([50,36,240]:List Int)) j iG j (ptC j (fxI fx0) j (ptC j (fxI fx0) j (ptC j (fxI fx0) j pt0))) (fK j fun _=>j))<|q (oBS (es:=List.map eI ([95,85,270]:List Int)) j iG j (ptC j (fxI fx0) j (ptC j (fxI fx0) j (ptC j (fxI fx0) j pt0))) (fK j fun _=>j))<|q (oBS (es:=List.map eI ([5,35,370]:List Int)) j iG j (ptC j (fxI fx0) j (ptC j (fxI fx0) j (ptC j (fxI fx0) j pt0))) (fK j fun _=>j))<|q (oBS (es:=List.map eI ([10,42,290]:List Int)) j iG j (ptC j (fxI fx0) j (ptC j (fxI fx0) j (ptC j (fxI fx0) j pt0))) (fK j fun _=>j))<|q (oBS (es:=List.map eI ([40,40,330]:List Int)) j iG j (ptC j (fxI fx0) j (ptC j (fxI fx0) j (ptC j (fxI fx0) j pt0))) (fK j fun _=>j))<|q (oBS (es:=List.map eI ([80,60,220]:List Int)) j iG j (ptC j (fxI fx0) j (ptC j (fxI fx0) j (ptC j (fxI fx0) j pt0))) (fK j fun _=>j))<|q (oBS (es:=List.map eI ([70,38,260]:List Int)) j iG j (ptC j (fxI fx0) j (ptC j (fxI fx0) j (ptC j (fxI fx0) j pt0))) (fK j fun _=>j))<|q (oBS (es:=List.map (eL 1 eI) ([([20,40,310]:List Int),([35,45,410]:List Int),([15,33,280]:List Int),([50,36,240]:List Int),([95,85,270]:List Int),([5,35,370]:List Int),([10,42,290]:List Int),([40,40,330]:List Int),([80,60,220]:List Int),([70,38,260]:List Int)]:List (List Int))) j kR j (ptC j (fxO j j fx0) j (ptC j (fxO j j fx0) j (ptC j (fxO j j fx0) j (ptC j (fxO j j fx0) j (ptC j (fxO j j fx0) j (ptC j (fxO j j fx0) j (ptC j (fxO j j fx0) j (ptC j (fxO j j fx0) j (ptC j (fxO j j fx0) j (ptC j (fxO j j fx0) j pt0)))))))))) (gZ j))<|q (kX j j j j j)<|nl)<|us<|Go.ret (Unw.ret ?_)
 cases h
 exact fr Y3 j
theorem zV {r:(List ByteArray)} (h:tX=some r):FX 174 [] (B0 [(false,[.ow 0 1 (List.map eS r)])]):=by
 unfold tX at h
 refine gn 2 Try.func174 rfl ?_
 refine gs<|g0 j j (q (Az j j YL)<|nl)<|us<|gs<|g0 j j (q (oBS (es:=List.map eS ([(⟨#[97,115,104]⟩:ByteArray),(⟨#[98,101,101,99,104]⟩:ByteArray),(⟨#[98,105,114,99,104]⟩:ByteArray),(⟨#[99,104,101,114,114,121]⟩:ByteArray),(⟨#[101,98,111,110,121]⟩:ByteArray),(⟨#[104,111,108,108,121]⟩:ByteArray),(⟨#[109,97,112,108,101]⟩:ByteArray),(⟨#[111,97,107]⟩:ByteArray),(⟨#[114,111,115,101,119,111,111,100]⟩:ByteArray),(⟨#[119,97,108,110,117,116]⟩:ByteArray)]:List ByteArray)) j AY j (ptC j (fxI fx0) j (ptC j (fxI fx0) j (ptC j (fxI fx0) j (ptC j (fxI fx0) j (ptC j (fxI fx0) j (ptC j (fxI fx0) j (ptC j (fxI fx0) j (ptC j (fxI fx0) j (ptC j (fxI fx0) j (ptC j (fxI fx0) j pt0)))))))))) (fK j fun _=>j))<|q (kX j j j j j)<|nl)<|us<|Go.ret (Unw.ret ?_)
 cases h
 exact fr Y4 j
theorem xW {a_0:Int} {b_1:Int} {r:Int} (h:uu a_0 b_1=some r):FX 125 [.im 2 false [I a_0],.im 2 false [I b_1]] (B0 [(false,[.im 0 (I r)])]):=by
 unfold uu at h
 refine gn 10 Try.func125 rfl ?_
 refine gs<|g0 j j (q (ah j j)<|nl)<|us<|gs<|gs<|g0 j j (q (oMv j j)<|q (oMv j j)<|q (oBi j j j j)<|nl)<|us<|gc h j af (fun hc1 h=>?_) fun hc1 h=>?_
 ·refine gs<|g0 j j (q (oMv j j)<|q (ah j j)<|nl)<|us<|Go.ret (Unw.ret ?_)
  cases h
  exact fr WM j
 ·refine Go.skip<|us<|gs<|g0 j j (q (oMv j j)<|q (ah j j)<|nl)<|us<|Go.ret (Unw.ret ?_)
  cases h
  exact fr WM j
theorem nC {a_0:Int} {b_1:Int} {r:Int} (h:nV a_0 b_1=some r):FX 127 [.im 2 false [I a_0],.im 2 false [I b_1]] (B0 [(false,[.im 0 (I r)])]):=by
 unfold nV at h
 refine gn 10 Try.func127 rfl ?_
 refine gs<|g0 j j (q (ah j j)<|nl)<|us<|gs<|gs<|g0 j j (q (oMv j j)<|q (oMv j j)<|q (oBi j j j j)<|nl)<|us<|gc h j af (fun hc1 h=>?_) fun hc1 h=>?_
 ·refine gs<|g0 j j (q (oMv j j)<|q (ah j j)<|nl)<|us<|Go.ret (Unw.ret ?_)
  cases h
  exact fr WN j
 ·refine Go.skip<|us<|gs<|g0 j j (q (oMv j j)<|q (ah j j)<|nl)<|us<|Go.ret (Unw.ret ?_)
  cases h
  exact fr WN j
theorem dS {s_0:aj} {sU:(List Int)} {r:(Int×aj)} (h:bH s_0 sU=some r):FX 99 [.ptr true [(.imm,W 1 (eK .u8) s_0.code),(.imm,I s_0.at_),(.imm,.sc (.int .u64 s_0.seed))],.im 2 false [W 1 eI sU]] ([(false,[.im 0 (I r.1)])],[.ptr true [(.imm,W 1 (eK .u8) r.2.code),(.imm,I r.2.at_),(.imm,.sc (.int .u64 r.2.seed))]]):=by
 unfold bH at h
 refine lC (A:=[(0,M 0),(1,D 2 (W 1 eI sU))]) (B:=[(0,Od (G 1 (aA s_0))),(1,none)]) (nt:=12) rfl rfl Try.func99 rfl rfl rfl rfl ?_
 refine gs<|g0 j j (q (ah j j)<|nl)<|us<|gs<|?_
 obtain ⟨x9,hx9,h⟩:=bs h
 obtain ⟨x10,Ba,h⟩:=bs h
 refine g0 j j (q (oMv j j)<|q (oMv j j)<|q (oMv j j)<|q (qR j j Fg j)<|q (oCa (xs:=[.v false [.mp 0 0 0],.v false [.im 0 _]]) (vs:=[(false,[.im 0 _])]) (v:=.v false [.im 0 _]) (aN hx9) (.inl j) j dY j (ppP j j j (ppC j pp0)) j j (pbP j j pb0) j j j)<|q (qf j Ba iG j j)<|q (oLd (cs:=[.im 2 _]) j tF2 j j)<|q (ah j j)<|nl)<|us<|Go.ret (Unw.ret ?_)
 cases h
 exact fr aaN j
theorem Bc {s_0:aj} {r:(jL×aj)} (h:o5 s_0=some r):FX 133 [.ptr true [(.imm,W 1 (eK .u8) s_0.code),(.imm,I s_0.at_),(.imm,.sc (.int .u64 s_0.seed))]] ([(true,J 0 (xk r.1))],[.ptr true [(.imm,W 1 (eK .u8) r.2.code),(.imm,I r.2.at_),(.imm,.sc (.int .u64 r.2.seed))]]):=by
 unfold o5 at h
 refine lC (A:=[(0,M 0)]) (B:=[(0,Od (G 1 (aA s_0)))]) (nt:=36) rfl rfl Try.func133 rfl rfl rfl rfl ?_
 refine gs<|g0 j j (q (oAl j xB (tkI (tkI (tkI tk0))))<|nl)<|us<|gs<|?_
 obtain ⟨x8,hx8,h⟩:=bs h
 refine g0 j j (q (oMv j j)<|q (oCa (xs:=[.v false [.mp 0 0 0],.v false [.im 0 _]]) (vs:=[(false,[.im 0 _])]) (v:=.v false [.im 0 _]) (aN hx8) (.inl j) j dY j (ppP j j j (ppC j pp0)) j j (pbP j j pb0) j j j)<|q (ah j j)<|nl)<|us<|gs<|?_
 obtain ⟨x9,hx9,h⟩:=bs h
 obtain ⟨x11,Ej,h⟩:=bs h
 obtain ⟨x13,Fh,h⟩:=bs h
 obtain ⟨x16,hx16,h⟩:=bs h
 refine gd XI j j j (st1:=mk [(0,M 0),(2,M 2),(3,iv x8.1)] [(0,Od (G 1 (aA x8.2))),(2,Oa [C (Y (⟨#[]⟩:ByteArray)),C (I 0),C (I 0)])]) (by kernel_rfl) (mk [(0,M 0),(2,M 2),(3,iv x8.1),(4,iv (w64 ((w64 (x13+x16.1)) - 10)))] [(0,Od (G 1 (aA x16.2))),(2,Oa [C (Y (⟨#[]⟩:ByteArray)),C (I 0),C (I 0)])]) (t j j (oMv j j)<|t j j (oMv j j)<|sS (dN rE j (oCr (xs:=[]) (vs:=[(false,[.own 9 0 0])]) (v:=.v false [.own 9 0 0]) (c:=⟨.sh,0,_⟩) (cs:=[]) (F9 hx9) (.inl j) j XL j pp0 j j pb0 j j j)) trivial (sK (O:=[9]) j j j (dN rE j (vS j Ej kR j j j j))<|sK (O:=[9]) j j j (dN rE j (CU (cs:=[.im 0 _]) j F7 j j j j (jT Ej) j j))<|t j j (qf j Fh iG j j)<|t j j (oLd (cs:=[.im 0 _]) j tF2 j j)<|sS (dN rE j (oCa (xs:=[.v false [.mp 0 0 0],.v false [.im 0 _]]) (vs:=[(false,[.im 0 _])]) (v:=.v false [.im 0 _]) (aN hx16) (.inl j) j dY j (ppP j j j (ppC j pp0)) j j (pbP j j pb0) j j j)) (kY ⟨j,trivial⟩ (kY ⟨j,trivial⟩ trivial)) (t j j (oBi j j j j)<|t j j (oBi j j j j)<|sS (dN rE j (ah j j)) (kN j (kN j trivial)) (sD (by kernel_rfl)))))<|us<|gs<|?_
 obtain ⟨x19,F8,h⟩:=bs h
 obtain ⟨x21,Gf,h⟩:=bs h
 obtain ⟨x24,hx24,h⟩:=bs h
 obtain ⟨x25,hx25,h⟩:=bs h
 refine gd XI j j j j (mk [(0,M 0),(2,M 2),(5,M 5)] [(0,Od (G 1 (aA x16.2))),(2,Oa [C (Y (⟨#[]⟩:ByteArray)),C (I 0),C (I 0)]),(5,Oa [C (Y x21),C (I x25),C (I 0)])]) (t j j (oMv j j)<|t j j (oMv j j)<|sF (dN rE j (oCr (xs:=[]) (vs:=[(false,[.own 19 0 0])]) (v:=.v false [.own 19 0 0]) (c:=⟨.sh,0,_⟩) (cs:=[]) (zV F8) (.inl j) j Uc j pp0 j j pb0 j j j)) trivial (t j j (vS j Gf AY j j j j)<|t j j (CU (cs:=[.im 0 _]) j tF9 j j j j (jT Gf) j j)<|sF (dN rE j (oCa (xs:=[.v false [.im 0 _],.v false [.im 0 _]]) (vs:=[(false,[.im 0 _])]) (v:=.v false [.im 0 _]) (xW hx24) (.inl j) j EY j (ppC j (ppC j pp0)) j j pb0 j j j)) trivial (sF (dN rE j (oCa (xs:=[.v false [.im 0 _],.v false [.im 0 _]]) (vs:=[(false,[.im 0 _])]) (v:=.v false [.im 0 _]) (nC hx25) (.inl j) j vH j (ppC j (ppC j pp0)) j j pb0 j j j)) trivial (sF (dN rE j (oBu (cs:=[.im 0 _,.im 0 _,.im 0 _]) j Q5 j)) trivial (sS (dN rE j (oAl j xB (tkI (tkI (tkI tk0))))) trivial (sS (dN rE j (oSt xB j j j (tkI (tkI (tkI tk0))) j j j)) trivial (sD (by kernel_rfl)))) (sS (dN rE j (oAl j xB (tkI (tkI (tkI tk0))))) trivial (sS (dN rE j (oBu (cs:=[.im 0 _,.im 0 _,.im 0 _]) j Q5 j)) trivial (sS (dN rE j (oSt xB j j j (tkI (tkI (tkI tk0))) j j j)) trivial (sD (by kernel_rfl)))))) (sS (dN rE j (oAl j xB (tkI (tkI (tkI tk0))))) trivial (sS (dN rE j (oCa (xs:=[.v false [.im 0 _],.v false [.im 0 _]]) (vs:=[(false,[.im 0 _])]) (v:=.v false [.im 0 _]) (nC hx25) (.inl j) j vH j (ppC j (ppC j pp0)) j j pb0 j j j)) trivial (sS (dN rE j (oBu (cs:=[.im 0 _,.im 0 _,.im 0 _]) j Q5 j)) trivial (sS (dN rE j (oSt xB j j j (tkI (tkI (tkI tk0))) j j j)) trivial (sD (by kernel_rfl))))))) (sS (dN rE j (oAl j xB (tkI (tkI (tkI tk0))))) trivial (sS (dN rE j (oCa (xs:=[.v false [.im 0 _],.v false [.im 0 _]]) (vs:=[(false,[.im 0 _])]) (v:=.v false [.im 0 _]) (xW hx24) (.inl j) j EY j (ppC j (ppC j pp0)) j j pb0 j j j)) trivial (sS (dN rE j (oCa (xs:=[.v false [.im 0 _],.v false [.im 0 _]]) (vs:=[(false,[.im 0 _])]) (v:=.v false [.im 0 _]) (nC hx25) (.inl j) j vH j (ppC j (ppC j pp0)) j j pb0 j j j)) trivial (sS (dN rE j (oBu (cs:=[.im 0 _,.im 0 _,.im 0 _]) j Q5 j)) trivial (sS (dN rE j (oSt xB j j j (tkI (tkI (tkI tk0))) j j j)) trivial (sD (by kernel_rfl)))))))) (sS (dN rE j (oAl j xB (tkI (tkI (tkI tk0))))) trivial (sS (dN rE j (oCr (xs:=[]) (vs:=[(false,[.own 19 0 0])]) (v:=.v false [.own 19 0 0]) (c:=⟨.sh,0,_⟩) (cs:=[]) (zV F8) (.inl j) j Uc j pp0 j j pb0 j j j)) trivial (t j j (vS j Gf AY j j j j)<|t j j (CU (cs:=[.im 0 _]) j tF9 j j j j (jT Gf) j j)<|sS (dN rE j (oCa (xs:=[.v false [.im 0 _],.v false [.im 0 _]]) (vs:=[(false,[.im 0 _])]) (v:=.v false [.im 0 _]) (xW hx24) (.inl j) j EY j (ppC j (ppC j pp0)) j j pb0 j j j)) trivial (sS (dN rE j (oCa (xs:=[.v false [.im 0 _],.v false [.im 0 _]]) (vs:=[(false,[.im 0 _])]) (v:=.v false [.im 0 _]) (nC hx25) (.inl j) j vH j (ppC j (ppC j pp0)) j j pb0 j j j)) trivial (sS (dN rE j (oBu (cs:=[.im 0 _,.im 0 _,.im 0 _]) j Q5 j)) trivial (sS (dN rE j (oSt xB j j j (tkI (tkI (tkI tk0))) j j j)) trivial (sD (by kernel_rfl)))))))))<|us<|gs<|?_
 obtain ⟨x28,hx28,h⟩:=bs h
 refine g0 j j (q (oMv j j)<|q (oCa (xs:=[.v false [.mp 0 0 0],.v false [.im 0 _]]) (vs:=[(false,[.im 0 _])]) (v:=.v false [.im 0 _]) (aN hx28) (.inl j) j dY j (ppP j j j (ppC j pp0)) j j (pbP j j pb0) j j j)<|q (ah j j)<|nl)<|us<|gs<|?_
 obtain ⟨x33,OI,h⟩:=bs h
 refine g1 j j (mk [(0,M 0),(2,M 2),(5,M 5),(6,iv x28.1)] [(0,Od (G 1 (aA x28.2))),(2,Oa [C (Y (⟨#[]⟩:ByteArray)),C (I 0),C (I 0)]),(5,Oa [C (Y x21),C (I x25),C (I 0)])]) (q (oMv j j)<|q (oMv j j)<|q (oMv j j)<|q (oBS (es:=List.map eI ([x28.1,x28.1,0,90,45]:List Int)) j iG j (ptC j (fxI fx0) j (ptC j (fxI fx0) j (ptC j (fxI fx0) j (ptC j (fxI fx0) j (ptC j (fxI fx0) j pt0))))) (fK j fun _=>j))<|q (oCa (xs:=[.v false [.mp 0 0 0],.v false [.own 32 0 0]]) (vs:=[(false,[.im 0 _])]) (v:=.v false [.im 0 _]) (dS OI) (.inl j) j mG j (ppP j j j (ppC j pp0)) j j (pbP j j pb0) j j j)<|q (oFA (r':=.mp 5 0 2) j Ir j j)<|q (oSt tF2 j j j (tkI tk0) j j j)<|nl)<|us<|gs<|g1 j j (mk [(2,M 2),(5,M 5)] [(0,Od (G 1 (aA x33.2))),(2,Oa [C (Y (⟨#[]⟩:ByteArray)),C (I 0),C (I 0)]),(5,Oa [C (Y x21),C (I x25),C (I x33.1)])]) (q (oLd (cs:=[.im 0 _,.im 0 _,.im 0 _]) j xB j j)<|q (oSt xB j j j (tkI (tkI (tkI tk0))) j j j)<|nl)<|us<|Go.ret (Unw.ret ?_)
 cases h
 exact fr YW j
theorem Em {s_0:aj} {nM:Int} {jV:Int} {r:(bD×aj)} (h:mO s_0 nM jV=some r):FX 134 [.ptr true [(.imm,W 1 (eK .u8) s_0.code),(.imm,I s_0.at_),(.imm,.sc (.int .u64 s_0.seed))],.im 2 false [I nM],.im 2 false [I jV]] ([(true,J 0 (Gt r.1))],[.ptr true [(.imm,W 1 (eK .u8) r.2.code),(.imm,I r.2.at_),(.imm,.sc (.int .u64 r.2.seed))]]):=by
 unfold mO at h
 refine lC (A:=[(0,M 0),(1,D 2 (I nM)),(2,D 2 (I jV))]) (B:=[(0,Od (G 1 (aA s_0))),(1,none),(2,none)]) (nt:=37) rfl rfl Try.func134 rfl rfl rfl rfl ?_
 refine gs<|g0 j j (q (oAl j Ei (tkI (tkI (tkI (tkI tk0)))))<|nl)<|us<|gs<|?_
 obtain ⟨x11,Ej,h⟩:=bs h
 refine g0 j j (q (oMv j j)<|q (oMv j j)<|q (oBi j j j j)<|q (oCa (xs:=[.v false [.mp 0 0 0],.v false [.im 0 _]]) (vs:=[(false,[.im 0 _])]) (v:=.v false [.im 0 _]) (aN Ej) (.inl j) j dY j (ppP j j j (ppC j pp0)) j j (pbP j j pb0) j j j)<|q (oBu (cs:=[.im 0 _,.im 0 _,.im 0 _,.im 0 _]) j Qh j)<|q (oAl j Ei (tkI (tkI (tkI (tkI tk0)))))<|q (oSt Ei j j j (tkI (tkI (tkI (tkI tk0)))) j j j)<|nl)<|us<|gs<|?_
 obtain ⟨x16,hx16,h⟩:=bs h
 refine g1 j j (mk [(0,M 0),(1,iv nM),(2,iv jV),(6,M 6),(7,M 7)] [(0,Od (G 1 (aA x11.2))),(6,Oa [C (I 0),C (I 0),C (I 0),C (I 0)]),(7,Oa [C (I x11.1),C (I 0),C (I 0),C (I 0)])]) (q (oMv j j)<|q (oMv j j)<|q (oBi j j j j)<|q (oCa (xs:=[.v false [.mp 0 0 0],.v false [.im 0 _]]) (vs:=[(false,[.im 0 _])]) (v:=.v false [.im 0 _]) (aN hx16) (.inl j) j dY j (ppP j j j (ppC j pp0)) j j (pbP j j pb0) j j j)<|q (oFA (r':=.mp 7 0 1) j Gu j j)<|q (oSt tF2 j j j (tkI tk0) j j j)<|nl)<|us<|gs<|?_
 obtain ⟨x23,Uh,h⟩:=bs h
 obtain ⟨x24,hx24,h⟩:=bs h
 refine g1 j j (mk [(0,M 0),(1,iv nM),(2,iv jV),(6,M 6),(7,M 7)] [(0,Od (G 1 (aA x16.2))),(6,Oa [C (I 0),C (I 0),C (I 0),C (I 0)]),(7,Oa [C (I x11.1),C (I x16.1),C (I 0),C (I 0)])]) (q (oMv j j)<|q (oMv j j)<|q (oFA (r':=.mp 7 0 0) j KL j j)<|q (oLd (cs:=[.im 0 _]) j tF2 j j)<|q (oBi j j j j)<|q (oCa (xs:=[.v false [.im 0 _],.v false [.im 0 _]]) (vs:=[(false,[.im 0 _])]) (v:=.v false [.im 0 _]) (nC Uh) (.inl j) j vH j (ppC j (ppC j pp0)) j j pb0 j j j)<|q (oCa (xs:=[.v false [.mp 0 0 0],.v false [.im 0 _]]) (vs:=[(false,[.im 0 _])]) (v:=.v false [.im 0 _]) (aN hx24) (.inl j) j dY j (ppP j j j (ppC j pp0)) j j (pbP j j pb0) j j j)<|q (oBi j j j j)<|q (oFA (r':=.mp 7 0 2) j Qi j j)<|q (oSt tF2 j j j (tkI tk0) j j j)<|nl)<|us<|gs<|?_
 obtain ⟨x32,hx32,h⟩:=bs h
 obtain ⟨x33,OI,h⟩:=bs h
 refine g1 j j (mk [(0,M 0),(2,iv jV),(6,M 6),(7,M 7)] [(0,Od (G 1 (aA x24.2))),(6,Oa [C (I 0),C (I 0),C (I 0),C (I 0)]),(7,Oa [C (I x11.1),C (I x16.1),C (I (w64 (1+x24.1))),C (I 0)])]) (q (oMv j j)<|q (oMv j j)<|q (oFA (r':=.mp 7 0 1) j Gu j j)<|q (oLd (cs:=[.im 0 _]) j tF2 j j)<|q (oBi j j j j)<|q (oCa (xs:=[.v false [.im 0 _],.v false [.im 0 _]]) (vs:=[(false,[.im 0 _])]) (v:=.v false [.im 0 _]) (nC hx32) (.inl j) j vH j (ppC j (ppC j pp0)) j j pb0 j j j)<|q (oCa (xs:=[.v false [.mp 0 0 0],.v false [.im 0 _]]) (vs:=[(false,[.im 0 _])]) (v:=.v false [.im 0 _]) (aN OI) (.inl j) j dY j (ppP j j j (ppC j pp0)) j j (pbP j j pb0) j j j)<|q (oBi j j j j)<|q (oFA (r':=.mp 7 0 3) j Qj j j)<|q (oSt tF2 j j j (tkI tk0) j j j)<|nl)<|us<|gs<|g1 j j (mk [(6,M 6),(7,M 7)] [(0,Od (G 1 (aA x33.2))),(6,Oa [C (I 0),C (I 0),C (I 0),C (I 0)]),(7,Oa [C (I x11.1),C (I x16.1),C (I (w64 (1+x24.1))),C (I (w64 (1+x33.1)))])]) (q (oLd (cs:=[.im 0 _,.im 0 _,.im 0 _,.im 0 _]) j Ei j j)<|q (oSt Ei j j j (tkI (tkI (tkI (tkI tk0)))) j j j)<|nl)<|us<|Go.ret (Unw.ret ?_)
 cases h
 exact fr YX j
theorem rG {s_0:aj} {ES:ByteArray} {r:(ak×aj)} (h:jI s_0 ES=some r):FX 98 [.ptr true [(.imm,W 1 (eK .u8) s_0.code),(.imm,I s_0.at_),(.imm,.sc (.int .u64 s_0.seed))],.im 2 false [Y ES]] ([(true,[.im 0 (Y r.1.Id),.im 0 (Y r.1.gV),.im 0 (I r.1.Number),.im 0 (Y r.1.ai.bC),.im 0 (I r.1.ai.aW),.im 0 (I r.1.ai.dP),.im 0 (I r.1.Width),.im 0 (I r.1.Length),.ow 0 4 (List.map aX r.1.aK)])],[.ptr true [(.imm,W 1 (eK .u8) r.2.code),(.imm,I r.2.at_),(.imm,.sc (.int .u64 r.2.seed))]]):=by
 unfold jI at h
 refine lC (A:=[(0,M 0),(1,D 2 (Y ES))]) (B:=[(0,Od (G 1 (aA s_0))),(1,none)]) (nt:=43) rfl rfl Try.func98 rfl rfl rfl rfl ?_
 refine gs<|g0 j j (q (oAl j lT (tkI (tkI (tkI (tkI (tkI (tkI (tkI (tkI (tkN tk0))))))))))<|nl)<|us<|gs<|?_
 obtain ⟨x10,Ba,h⟩:=bs h
 obtain ⟨x12,Ui,h⟩:=bs h
 refine g1 j j (mk [(0,M 0),(1,sv ES),(4,M 4)] [(0,Od (G 1 (aA s_0))),(4,Oa [C (Y (⟨#[]⟩:ByteArray)),C (Y (⟨#[]⟩:ByteArray)),C (I 0),C (Y (⟨#[]⟩:ByteArray)),C (I 0),C (I 0),C (I 0),C (I 0),Z (W 4 aX ([]:List bD))])]) (q (oMv j j)<|q (oMv j j)<|q (oBS (es:=List.map eS ([(⟨#[102,49]⟩:ByteArray),(⟨#[102,50]⟩:ByteArray)]:List ByteArray)) j AY j (ptC j (fxI fx0) j (ptC j (fxI fx0) j pt0)) (fK j fun _=>j))<|q (oCa (xs:=[.v false [.mp 0 0 0],.v false [.own 9 0 0]]) (vs:=[(false,[.im 0 _])]) (v:=.v false [.im 0 _]) (ql Ba) (.inl j) j zB j (ppP j j j (ppC j pp0)) j j (pbP j j pb0) j j j)<|q (oMv j j)<|q (oCa (xs:=[.v false [.mp 0 0 0],.v false [.im 0 _]]) (vs:=[(false,[.im 0 _])]) (v:=.v false [.im 0 _]) (aN Ui) (.inl j) j dY j (ppP j j j (ppC j pp0)) j j (pbP j j pb0) j j j)<|q (oBu (cs:=[.im 0 _,.im 0 _,.im 0 _,.im 0 _,.im 0 _,.im 0 _,.im 0 _,.im 0 _,.nil]) j YK j)<|q (oAl j lT (tkI (tkI (tkI (tkI (tkI (tkI (tkI (tkI (tkN tk0))))))))))<|q (oSt lT j j j (tkI (tkI (tkI (tkI (tkI (tkI (tkI (tkI (tkN tk0))))))))) j j j)<|nl)<|us<|gs<|?_
 obtain ⟨x15,KW,h⟩:=bs h
 refine g1 j j (mk [(0,M 0),(4,M 4),(5,M 5)] [(0,Od (G 1 (aA x12.2))),(4,Oa [C (Y (⟨#[]⟩:ByteArray)),C (Y (⟨#[]⟩:ByteArray)),C (I 0),C (Y (⟨#[]⟩:ByteArray)),C (I 0),C (I 0),C (I 0),C (I 0),Z (W 4 aX ([]:List bD))]),(5,Oa [C (Y ES),C (Y x10.1),C (I x12.1),C (Y (⟨#[]⟩:ByteArray)),C (I 0),C (I 0),C (I 0),C (I 0),Z (W 4 aX ([]:List bD))])]) (q (oMv j j)<|q (oCa (xs:=[.v false [.mp 0 0 0]]) (vs:=[(true,[.im 0 _,.im 0 _,.im 0 _])]) (v:=.v true [.im 0 _,.im 0 _,.im 0 _]) (Bc KW) (.inl j) j Nb j (ppP j j j pp0) j j (pbP j j pb0) j j j)<|q (oFA (r':=.mp 5 0 3) j xm j j)<|q (oSt xB j j j (tkI (tkI (tkI tk0))) j j j)<|nl)<|us<|gs<|?_
 obtain ⟨x18,Uj,h⟩:=bs h
 refine g1 j j (mk [(0,M 0),(4,M 4),(5,M 5)] [(0,Od (G 1 (aA x15.2))),(4,Oa [C (Y (⟨#[]⟩:ByteArray)),C (Y (⟨#[]⟩:ByteArray)),C (I 0),C (Y (⟨#[]⟩:ByteArray)),C (I 0),C (I 0),C (I 0),C (I 0),Z (W 4 aX ([]:List bD))]),(5,Oa [C (Y ES),C (Y x10.1),C (I x12.1),C (Y x15.1.bC),C (I x15.1.aW),C (I x15.1.dP),C (I 0),C (I 0),Z (W 4 aX ([]:List bD))])]) (q (oMv j j)<|q (oCa (xs:=[.v false [.mp 0 0 0],.v false [.im 0 _]]) (vs:=[(false,[.im 0 _])]) (v:=.v false [.im 0 _]) (aN Uj) (.inl j) j dY j (ppP j j j (ppC j pp0)) j j (pbP j j pb0) j j j)<|q (oBi j j j j)<|q (oFA (r':=.mp 5 0 6) j C9 j j)<|q (oSt tF2 j j j (tkI tk0) j j j)<|nl)<|us<|gs<|?_
 obtain ⟨x22,A8,h⟩:=bs h
 refine g1 j j (mk [(0,M 0),(4,M 4),(5,M 5)] [(0,Od (G 1 (aA x18.2))),(4,Oa [C (Y (⟨#[]⟩:ByteArray)),C (Y (⟨#[]⟩:ByteArray)),C (I 0),C (Y (⟨#[]⟩:ByteArray)),C (I 0),C (I 0),C (I 0),C (I 0),Z (W 4 aX ([]:List bD))]),(5,Oa [C (Y ES),C (Y x10.1),C (I x12.1),C (Y x15.1.bC),C (I x15.1.aW),C (I x15.1.dP),C (I (w64 (100+x18.1))),C (I 0),Z (W 4 aX ([]:List bD))])]) (q (oMv j j)<|q (oCa (xs:=[.v false [.mp 0 0 0],.v false [.im 0 _]]) (vs:=[(false,[.im 0 _])]) (v:=.v false [.im 0 _]) (aN A8) (.inl j) j dY j (ppP j j j (ppC j pp0)) j j (pbP j j pb0) j j j)<|q (oBi j j j j)<|q (oFA (r':=.mp 5 0 7) j Iu j j)<|q (oSt tF2 j j j (tkI tk0) j j j)<|nl)<|us<|gs<|gs<|?_
 obtain ⟨x26,Uk,h⟩:=bs h
 refine g1 j j (mk [(0,M 0),(4,M 4),(5,M 5)] [(0,Od (G 1 (aA x22.2))),(4,Oa [C (Y (⟨#[]⟩:ByteArray)),C (Y (⟨#[]⟩:ByteArray)),C (I 0),C (Y (⟨#[]⟩:ByteArray)),C (I 0),C (I 0),C (I 0),C (I 0),Z (W 4 aX ([]:List bD))]),(5,Oa [C (Y ES),C (Y x10.1),C (I x12.1),C (Y x15.1.bC),C (I x15.1.aW),C (I x15.1.dP),C (I (w64 (100+x18.1))),C (I (w64 (100+x22.1))),Z (W 4 aX ([]:List bD))])]) (q (oMv j j)<|q (oCa (xs:=[.v false [.mp 0 0 0],.v false [.im 0 _]]) (vs:=[(false,[.im 0 _])]) (v:=.v false [.im 0 _]) (aN Uk) (.inl j) j dY j (ppP j j j (ppC j pp0)) j j (pbP j j pb0) j j j)<|q (ah j j)<|nl)<|us<|Go.block<|?_
 obtain ⟨o,hl,h⟩:=bs h
 refine gl c98 j _ (fun (s:(Int×(List Int)×Int×Int×(List bD)))=>match s with | (ER,yD,yE,yF,yG)=>mk [(0,M 0),(4,M 4),(5,M 5),(6,iv ER)] [(0,Od [Ct 1 (W 1 (eK .u8) yD),C (I yE),C (.sc (.int .u64 yF))]),(4,Oa [C (Y (⟨#[]⟩:ByteArray)),C (Y (⟨#[]⟩:ByteArray)),C (I 0),C (Y (⟨#[]⟩:ByteArray)),C (I 0),C (I 0),C (I 0),C (I 0),Z (W 4 aX ([]:List bD))]),(5,Oa [C (Y ES),C (Y x10.1),C (I x12.1),C (Y x15.1.bC),C (I x15.1.aW),C (I x15.1.dP),C (I (w64 (100+x18.1))),C (I (w64 (100+x22.1))),Z (W 4 aX yG)])]) (fun (o:((List Int)×Int×Int×(List bD))) (p:Ex×St)=>match o with | (uw,uy,uz,uA)=>p.1= .exit 0∧p.2.norm ([4,5],[0,4,5])=mk [(4,M 4),(5,M 5)] [(0,Od [Ct 1 (W 1 (eK .u8) uw),C (I uy),C (.sc (.int .u64 uz))]),(4,Oa [C (Y (⟨#[]⟩:ByteArray)),C (Y (⟨#[]⟩:ByteArray)),C (I 0),C (Y (⟨#[]⟩:ByteArray)),C (I 0),C (I 0),C (I 0),C (I 0),Z (W 4 aX ([]:List bD))]),(5,Oa [C (Y ES),C (Y x10.1),C (I x12.1),C (Y x15.1.bC),C (I x15.1.aW),C (I x15.1.dP),C (I (w64 (100+x18.1))),C (I (w64 (100+x22.1))),Z (W 4 aX uA)])]) hl (by kernel_rfl) ?_ ?_ ?_
 ·intro o p hp e
  obtain ⟨uw,uy,uz,uA⟩:=o
  exact nomatch (hp.1.symm.trans e)
 ·rintro ⟨ER,yD,yE,yF,yG⟩ o h
  unfold qg at h
  dsimp only at h
  refine gs<|gs<|g0 j j (q (oMv j j)<|q (oBi j j j j)<|nl)<|us<|gc h j af (fun hc3 h=>?_) fun hc3 h=>?_
  ·refine Go.skip<|us<|gs<|Go.block<|?_
   obtain ⟨x38,hx38,h⟩:=bs h
   obtain ⟨x40,XR,h⟩:=bs h
   refine gd c98 j j j j (mk [(0,M 0),(4,M 4),(5,M 5),(6,iv ER)] [(0,Od (G 1 (aA x38.2))),(4,Oa [C (Y (⟨#[]⟩:ByteArray)),C (Y (⟨#[]⟩:ByteArray)),C (I 0),C (Y (⟨#[]⟩:ByteArray)),C (I 0),C (I 0),C (I 0),C (I 0),Z (W 4 aX ([]:List bD))]),(5,Oa [C (Y ES),C (Y x10.1),C (I x12.1),C (Y x15.1.bC),C (I x15.1.aW),C (I x15.1.dP),C (I (w64 (100+x18.1))),C (I (w64 (100+x22.1))),Z (W 4 aX x40)])]) (t j j (oMv j j)<|t j j (oFA (r':=.mp 5 0 6) j C9 j j)<|t j j (oLd (cs:=[.im 0 _]) j tF2 j j)<|t j j (oFA (r':=.mp 5 0 7) j Iu j j)<|t j j (oLd (cs:=[.im 0 _]) j tF2 j j)<|sK (O:=[5]) j j j (dN z98 j (oFA (r':=.mp 5 0 8) j xU j j))<|sK (O:=[5]) j j j (dN z98 j (oLd (cs:=[.own 5 0 8]) j I4 j j))<|sS (dN z98 j (oCa (xs:=[.v false [.mp 0 0 0],.v false [.im 0 _],.v false [.im 0 _]]) (vs:=[(true,[.im 0 _,.im 0 _,.im 0 _,.im 0 _])]) (v:=.v true [.im 0 _,.im 0 _,.im 0 _,.im 0 _]) (Em hx38) (.inl j) j KR j (ppP j j j (ppC j (ppC j pp0))) j j (pbP j j pb0) j j j)) (kY ⟨j,trivial⟩ (kY ⟨j,trivial⟩ trivial)) (sS (dN z98 j (oBS (es:=List.map aX ([x38.1]:List bD)) j Nj j (ptC j (fxI (fxI (fxI (fxI fx0)))) j pt0) (fK j fun _=>j))) (kY ⟨j,trivial⟩ (kY ⟨j,trivial⟩ trivial)) (sS (dN z98 j (sO (en:=aX) (M:=([x38.1]:List bD)) j XR j Nj j j Rj (.inl ⟨_,j⟩) j j j j (jH j j) (fK j fun _=>j))) (kN j (kN j trivial)) (t j j (oFA (r':=.mp 5 0 8) j xU j j)<|sS (dN z98 j (oSt I4 j j j (tkO j j tk0) j j j)) (kN j (kN j trivial)) (sD (by kernel_rfl))))))<|Unw.blk<|us<|g0 j j (q (oMv j j)<|q (oBi j j j j)<|q (ah j j)<|nl)<|Unw.nil<|?_
   cases h
   exact ⟨j,(by kernel_rfl)⟩
  ·refine Go.exit<|ux<|Unw.nil<|?_
   cases h
   exact ⟨j,(by kernel_rfl)⟩
 ·rintro ⟨e,st⟩ hp
  obtain ⟨uw,uy,uz,uA⟩:=o
  dsimp only at h
  obtain ⟨he,hst⟩:=hp
  obtain rfl:e= .exit 0:=he
  refine Unw.ve<|us<|gs<|g2 c98 j j hst (q (oLd (cs:=[.im 0 _,.im 0 _,.im 0 _,.im 0 _,.im 0 _,.im 0 _,.im 0 _,.im 0 _,.own 5 0 8]) j lT j j)<|q (oSt lT j j j (tkI (tkI (tkI (tkI (tkI (tkI (tkI (tkI (tkO j j tk0))))))))) j j j)<|nl)<|us<|Go.ret (Unw.ret ?_)
  cases h
  exact fr aaM j
theorem IB {s_0:aj} {r:((List ak)×aj)} (h:qV s_0=some r):FX 130 [.ptr true [(.imm,W 1 (eK .u8) s_0.code),(.imm,I s_0.at_),(.imm,.sc (.int .u64 s_0.seed))]] ([(false,[.ow 0 9 (List.map ae r.1)])],[.ptr true [(.imm,W 1 (eK .u8) r.2.code),(.imm,I r.2.at_),(.imm,.sc (.int .u64 r.2.seed))]]):=by
 unfold qV at h
 refine lC (A:=[(0,M 0)]) (B:=[(0,Od (G 1 (aA s_0)))]) (nt:=26) rfl rfl Try.func130 rfl rfl rfl rfl ?_
 refine gs<|g0 j j (q (Az j j TT)<|nl)<|us<|gs<|g0 j j (q (oBS (es:=List.map eS ([(⟨#[97]⟩:ByteArray),(⟨#[98]⟩:ByteArray),(⟨#[99]⟩:ByteArray),(⟨#[100]⟩:ByteArray)]:List ByteArray)) j AY j (ptC j (fxI fx0) j (ptC j (fxI fx0) j (ptC j (fxI fx0) j (ptC j (fxI fx0) j pt0)))) (fK j fun _=>j))<|q (kX j j j j j)<|nl)<|us<|gs<|?_
 obtain ⟨x9,hx9,h⟩:=bs h
 refine g0 j j (q (oMv j j)<|q (oCa (xs:=[.v false [.mp 0 0 0],.v false [.im 0 _]]) (vs:=[(false,[.im 0 _])]) (v:=.v false [.im 0 _]) (aN hx9) (.inl j) j dY j (ppP j j j (ppC j pp0)) j j (pbP j j pb0) j j j)<|q (ah j j)<|nl)<|us<|gs<|g1 j j (mk [(0,M 0),(3,H 3 0),(4,iv x9.1)] [(0,Od (G 1 (aA x9.2))),(3,Oc [Z (W 1 eS ([(⟨#[97]⟩:ByteArray),(⟨#[98]⟩:ByteArray),(⟨#[99]⟩:ByteArray),(⟨#[100]⟩:ByteArray)]:List ByteArray))])]) (q (oBS (es:=List.map ae ([]:List ak)) j tC j pt0 (gZ j))<|q (kX j j j j j)<|nl)<|us<|gs<|gs<|g0 j j (q (ah j j)<|nl)<|us<|Go.block<|?_
 obtain ⟨o,hl,h⟩:=bs h
 refine gl c130 j _ (fun (s:(Int×(List Int)×Int×Int×(List ak)))=>match s with | (CX,yH,yI,yJ,yK)=>mk [(0,M 0),(3,H 3 0),(4,iv x9.1),(5,H 5 0),(6,iv CX)] [(0,Od [Ct 1 (W 1 (eK .u8) yH),C (I yI),C (.sc (.int .u64 yJ))]),(3,Oc [Z (W 1 eS ([(⟨#[97]⟩:ByteArray),(⟨#[98]⟩:ByteArray),(⟨#[99]⟩:ByteArray),(⟨#[100]⟩:ByteArray)]:List ByteArray))]),(5,Oc [Z (W 9 ae yK)])]) (fun (o:((List Int)×Int×Int×(List ak))) (p:Ex×St)=>match o with | (uB,uC,uD,uF)=>p.1= .exit 0∧p.2.norm ([5],[0,5])=mk [(5,H 5 0)] [(0,Od [Ct 1 (W 1 (eK .u8) uB),C (I uC),C (.sc (.int .u64 uD))]),(5,Oc [Z (W 9 ae uF)])]) hl (by kernel_rfl) ?_ ?_ ?_
 ·intro o p hp e
  obtain ⟨uB,uC,uD,uF⟩:=o
  exact nomatch (hp.1.symm.trans e)
 ·rintro ⟨CX,yH,yI,yJ,yK⟩ o h
  unfold uO at h
  dsimp only at h
  refine gs<|gs<|g0 j j (q (oMv j j)<|q (oMv j j)<|q (oBi j j j j)<|nl)<|us<|gc h j af (fun hc3 h=>?_) fun hc3 h=>?_
  ·refine Go.skip<|us<|gs<|Go.block<|?_
   obtain ⟨x20,VZ,h⟩:=bs h
   obtain ⟨x22,A8,h⟩:=bs h
   obtain ⟨x24,hx24,h⟩:=bs h
   refine g0 j j (q (oMv j j)<|q (oMv j j)<|q (oMv j j)<|q (oMv j j)<|q (vS j VZ AY j j j j)<|q (CU (cs:=[.im 0 _]) j tF9 j j j j (jT VZ) j j)<|q (oCr (xs:=[.v false [.mp 0 0 0],.v false [.im 0 _]]) (vs:=[(true,[.im 0 _,.im 0 _,.im 0 _,.im 0 _,.im 0 _,.im 0 _,.im 0 _,.im 0 _,.own 22 0 0])]) (v:=.v true [.im 0 _,.im 0 _,.im 0 _,.im 0 _,.im 0 _,.im 0 _,.im 0 _,.im 0 _,.own 22 0 0]) (c:=⟨.sh,0,_⟩) (cs:=[]) (rG A8) (.inl j) j Ff j (ppP j j j (ppC j pp0)) j j (pbP j j pb0) j j j)<|q (oBS (es:=List.map ae ([x22.1]:List ak)) j tC j (ptC j (fxI (fxI (fxI (fxI (fxI (fxI (fxI (fxI (fxO j j fx0))))))))) j pt0) (gZ j))<|q (sO (en:=ae) (M:=([x22.1]:List ak)) j hx24 j tC j j y5 (.inl ⟨_,j⟩) j j j j (jH j j) (gZ j))<|q (kX j j j j j)<|nl)<|Unw.blk<|us<|g1 j j (mk [(0,M 0),(3,H 3 0),(4,iv x9.1),(5,H 5 0),(6,iv CX)] [(0,Od (G 1 (aA x22.2))),(3,Oc [Z (W 1 eS ([(⟨#[97]⟩:ByteArray),(⟨#[98]⟩:ByteArray),(⟨#[99]⟩:ByteArray),(⟨#[100]⟩:ByteArray)]:List ByteArray))]),(5,Oc [Z (W 9 ae x24)])]) (q (oMv j j)<|q (oBi j j j j)<|q (ah j j)<|nl)<|Unw.nil<|?_
   cases h
   exact ⟨j,(by kernel_rfl)⟩
  ·refine Go.exit<|ux<|Unw.nil<|?_
   cases h
   exact ⟨j,(by kernel_rfl)⟩
 ·rintro ⟨e,st⟩ hp
  obtain ⟨uB,uC,uD,uF⟩:=o
  dsimp only at h
  obtain ⟨he,hst⟩:=hp
  obtain rfl:e= .exit 0:=he
  refine Unw.ve<|us<|gs<|g2 c130 j j hst (q (oMv j j)<|q (kX j j j j j)<|nl)<|us<|Go.ret (Unw.ret ?_)
  cases h
  exact fr YT j
theorem IC {s_0:aj} {r:(jL×aj)} (h:qW s_0=some r):FX 172 [.ptr true [(.imm,W 1 (eK .u8) s_0.code),(.imm,I s_0.at_),(.imm,.sc (.int .u64 s_0.seed))]] ([(true,J 0 (xk r.1))],[.ptr true [(.imm,W 1 (eK .u8) r.2.code),(.imm,I r.2.at_),(.imm,.sc (.int .u64 r.2.seed))]]):=by
 unfold qW at h
 refine lC (A:=[(0,M 0)]) (B:=[(0,Od (G 1 (aA s_0)))]) (nt:=27) rfl rfl Try.func172 rfl rfl rfl rfl ?_
 refine gs<|g0 j j (q (oAl j xB (tkI (tkI (tkI tk0))))<|nl)<|us<|gs<|?_
 obtain ⟨x5,hx5,h⟩:=bs h
 refine g0 j j (q (oMv j j)<|q (oCa (xs:=[.v false [.mp 0 0 0]]) (vs:=[(true,[.im 0 _,.im 0 _,.im 0 _])]) (v:=.v true [.im 0 _,.im 0 _,.im 0 _]) (Bc hx5) (.inl j) j Nb j (ppP j j j pp0) j j (pbP j j pb0) j j j)<|q (oAl j xB (tkI (tkI (tkI tk0))))<|q (oSt xB j j j (tkI (tkI (tkI tk0))) j j j)<|nl)<|us<|gs<|gs<|?_
 obtain ⟨x7,hx7,h⟩:=bs h
 refine g1 j j (mk [(0,M 0),(2,M 2),(3,M 3)] [(0,Od (G 1 (aA x5.2))),(2,Oa [C (Y (⟨#[]⟩:ByteArray)),C (I 0),C (I 0)]),(3,Oa (G 0 (xk x5.1)))]) (q (oMv j j)<|q (oCa (xs:=[.v false [.mp 0 0 0],.v false [.im 0 _]]) (vs:=[(false,[.im 0 _])]) (v:=.v false [.im 0 _]) (aN hx7) (.inl j) j dY j (ppP j j j (ppC j pp0)) j j (pbP j j pb0) j j j)<|nl)<|us<|Go.join (fun st=>∃lD,∃lF,∃lG,∃yL,∃yM,∃yN,jJ lD lF lG yL yM yN=some r∧st.norm ([2,3],[0,2,3])=mk [(2,M 2),(3,M 3)] [(0,Od [Ct 1 (W 1 (eK .u8) lD),C (I lF),C (.sc (.int .u64 lG))]),(2,Oa [C (Y (⟨#[]⟩:ByteArray)),C (I 0),C (I 0)]),(3,Oa [C (Y yL),C (I yM),C (I yN)])]) ?_ ?_
 ·rintro st ⟨lD,lF,lG,yL,yM,yN,h,hst⟩
  unfold jJ at h
  refine us<|gs<|g2 YI j j hst (q (oLd (cs:=[.im 0 _,.im 0 _,.im 0 _]) j xB j j)<|q (oSt xB j j j (tkI (tkI (tkI tk0))) j j j)<|nl)<|us<|Go.ret (Unw.ret ?_)
  cases h
  exact fr Y2 j
 ·intro K4
  refine Go.block<|gs<|g1 j j (mk [(0,M 0),(2,M 2),(3,M 3),(7,iv x7.1)] [(0,Od (G 1 (aA x7.2))),(2,Oa [C (Y (⟨#[]⟩:ByteArray)),C (I 0),C (I 0)]),(3,Oa (G 0 (xk x5.1)))]) (q (oBi j j j j)<|q (ah j j)<|nl)<|us<|gc h j iEq (fun hc5 h=>?_) fun hc5 h=>?_
  ·obtain ⟨x12,Ui,h⟩:=bs h
   exact g0 j j (q (oMv j j)<|q (oBS (es:=List.map eS ([(⟨#[112,105,110,101]⟩:ByteArray),(⟨#[]⟩:ByteArray),(⟨#[79,97,107]⟩:ByteArray)]:List ByteArray)) j AY j (ptC j (fxI fx0) j (ptC j (fxI fx0) j (ptC j (fxI fx0) j pt0))) (fK j fun _=>j))<|q (oCa (xs:=[.v false [.mp 0 0 0],.v false [.own 11 0 0]]) (vs:=[(false,[.im 0 _])]) (v:=.v false [.im 0 _]) (ql Ui) (.inl j) j zB j (ppP j j j (ppC j pp0)) j j (pbP j j pb0) j j j)<|q (oFA (r':=.mp 3 0 0) j KP j j)<|q (oSt tF9 j j j (tkI tk0) j j j)<|nl)<|Unw.blk<|K4 _ ⟨x12.2.code,x12.2.at_,x12.2.seed,x12.1,x5.1.aW,x5.1.dP,h,(by kernel_rfl)⟩
  ·refine gs<|g0 j j (q (oBi j j j j)<|q (ah j j)<|nl)<|us<|gc h j iEq (fun hc6 h=>?_) fun hc6 h=>?_
   ·obtain ⟨x18,Uj,h⟩:=bs h
    exact g0 j j (q (oMv j j)<|q (oBS (es:=List.map eI ([(-1),0,100,101,55]:List Int)) j iG j (ptC j (fxI fx0) j (ptC j (fxI fx0) j (ptC j (fxI fx0) j (ptC j (fxI fx0) j (ptC j (fxI fx0) j pt0))))) (fK j fun _=>j))<|q (oCa (xs:=[.v false [.mp 0 0 0],.v false [.own 17 0 0]]) (vs:=[(false,[.im 0 _])]) (v:=.v false [.im 0 _]) (dS Uj) (.inl j) j mG j (ppP j j j (ppC j pp0)) j j (pbP j j pb0) j j j)<|q (oFA (r':=.mp 3 0 1) j CZ j j)<|q (oSt tF2 j j j (tkI tk0) j j j)<|nl)<|Unw.blk<|K4 _ ⟨x18.2.code,x18.2.at_,x18.2.seed,x5.1.bC,x18.1,x5.1.dP,h,(by kernel_rfl)⟩
   ·refine gs<|g0 j j (q (oBi j j j j)<|q (ah j j)<|nl)<|us<|gc h j iEq (fun hc7 h=>?_) fun hc7 h=>?_
    ·obtain ⟨x24,hx24,h⟩:=bs h
     exact g0 j j (q (oMv j j)<|q (oBS (es:=List.map eI ([(-1),179,180]:List Int)) j iG j (ptC j (fxI fx0) j (ptC j (fxI fx0) j (ptC j (fxI fx0) j pt0))) (fK j fun _=>j))<|q (oCa (xs:=[.v false [.mp 0 0 0],.v false [.own 23 0 0]]) (vs:=[(false,[.im 0 _])]) (v:=.v false [.im 0 _]) (dS hx24) (.inl j) j mG j (ppP j j j (ppC j pp0)) j j (pbP j j pb0) j j j)<|q (oFA (r':=.mp 3 0 2) j Ir j j)<|q (oSt tF2 j j j (tkI tk0) j j j)<|nl)<|Unw.blk<|K4 _ ⟨x24.2.code,x24.2.at_,x24.2.seed,x5.1.bC,x5.1.aW,x24.1,h,(by kernel_rfl)⟩
    ·exact Go.skip<|Unw.blk<|K4 _ ⟨x7.2.code,x7.2.at_,x7.2.seed,x5.1.bC,x5.1.aW,x5.1.dP,h,(by kernel_rfl)⟩
theorem En {s_0:aj} {r:(ak×aj)} (h:mP s_0=some r):FX 131 [.ptr true [(.imm,W 1 (eK .u8) s_0.code),(.imm,I s_0.at_),(.imm,.sc (.int .u64 s_0.seed))]] ([(true,[.im 0 (Y r.1.Id),.im 0 (Y r.1.gV),.im 0 (I r.1.Number),.im 0 (Y r.1.ai.bC),.im 0 (I r.1.ai.aW),.im 0 (I r.1.ai.dP),.im 0 (I r.1.Width),.im 0 (I r.1.Length),.ow 0 4 (List.map aX r.1.aK)])],[.ptr true [(.imm,W 1 (eK .u8) r.2.code),(.imm,I r.2.at_),(.imm,.sc (.int .u64 r.2.seed))]]):=by
 unfold mP at h
 refine lC (A:=[(0,M 0)]) (B:=[(0,Od (G 1 (aA s_0)))]) (nt:=69) rfl rfl Try.func131 rfl rfl rfl rfl ?_
 refine gs<|g0 j j (q (oAl j lT (tkI (tkI (tkI (tkI (tkI (tkI (tkI (tkI (tkN tk0))))))))))<|nl)<|us<|gs<|?_
 obtain ⟨x8,hx8,h⟩:=bs h
 obtain ⟨x9,hx9,h⟩:=bs h
 refine g1 j j (mk [(0,M 0),(2,M 2)] [(0,Od (G 1 (aA s_0))),(2,Oa [C (Y (⟨#[]⟩:ByteArray)),C (Y (⟨#[]⟩:ByteArray)),C (I 0),C (Y (⟨#[]⟩:ByteArray)),C (I 0),C (I 0),C (I 0),C (I 0),Z (W 4 aX ([]:List bD))])]) (q (oMv j j)<|q (oMv j j)<|q (oBS (es:=List.map eS ([(⟨#[97]⟩:ByteArray),(⟨#[98]⟩:ByteArray),(⟨#[101]⟩:ByteArray),(⟨#[120,57]⟩:ByteArray)]:List ByteArray)) j AY j (ptC j (fxI fx0) j (ptC j (fxI fx0) j (ptC j (fxI fx0) j (ptC j (fxI fx0) j pt0)))) (fK j fun _=>j))<|q (oCa (xs:=[.v false [.mp 0 0 0],.v false [.own 7 0 0]]) (vs:=[(false,[.im 0 _])]) (v:=.v false [.im 0 _]) (ql hx8) (.inl j) j zB j (ppP j j j (ppC j pp0)) j j (pbP j j pb0) j j j)<|q (oCr (xs:=[.v false [.mp 0 0 0],.v false [.im 0 _]]) (vs:=[(true,[.im 0 _,.im 0 _,.im 0 _,.im 0 _,.im 0 _,.im 0 _,.im 0 _,.im 0 _,.own 9 0 0])]) (v:=.v true [.im 0 _,.im 0 _,.im 0 _,.im 0 _,.im 0 _,.im 0 _,.im 0 _,.im 0 _,.own 9 0 0]) (c:=⟨.sh,0,_⟩) (cs:=[]) (rG hx9) (.inl j) j Ff j (ppP j j j (ppC j pp0)) j j (pbP j j pb0) j j j)<|q (oAl j lT (tkI (tkI (tkI (tkI (tkI (tkI (tkI (tkI (tkN tk0))))))))))<|q (oSt lT j j j (tkI (tkI (tkI (tkI (tkI (tkI (tkI (tkI (tkO j j tk0))))))))) j j j)<|nl)<|us<|gs<|gs<|?_
 obtain ⟨x11,Ej,h⟩:=bs h
 refine g1 j j (mk [(0,M 0),(2,M 2),(3,M 3)] [(0,Od (G 1 (aA x9.2))),(2,Oa [C (Y (⟨#[]⟩:ByteArray)),C (Y (⟨#[]⟩:ByteArray)),C (I 0),C (Y (⟨#[]⟩:ByteArray)),C (I 0),C (I 0),C (I 0),C (I 0),Z (W 4 aX ([]:List bD))]),(3,Oa [C (Y x9.1.Id),C (Y x9.1.gV),C (I x9.1.Number),C (Y x9.1.ai.bC),C (I x9.1.ai.aW),C (I x9.1.ai.dP),C (I x9.1.Width),C (I x9.1.Length),Z (W 4 aX x9.1.aK)])]) (q (oMv j j)<|q (oCa (xs:=[.v false [.mp 0 0 0],.v false [.im 0 _]]) (vs:=[(false,[.im 0 _])]) (v:=.v false [.im 0 _]) (aN Ej) (.inl j) j dY j (ppP j j j (ppC j pp0)) j j (pbP j j pb0) j j j)<|nl)<|us<|Go.join (fun st=>∃vT,∃vU,∃vV,∃vW,∃vX,∃vY,∃vZ,∃wo,∃wu,dD x9 vT vU vV vW vX vY vZ wo wu=some r∧st.norm ([2,3],[0,2,3])=mk [(2,M 2),(3,M 3)] [(0,Od [Ct 1 (W 1 (eK .u8) vT),C (I vU),C (.sc (.int .u64 vV))]),(2,Oa [C (Y (⟨#[]⟩:ByteArray)),C (Y (⟨#[]⟩:ByteArray)),C (I 0),C (Y (⟨#[]⟩:ByteArray)),C (I 0),C (I 0),C (I 0),C (I 0),Z (W 4 aX ([]:List bD))]),(3,Oa [C (Y x9.1.Id),C (Y x9.1.gV),C (I vW),C (Y vX),C (I vY),C (I vZ),C (I wo),C (I x9.1.Length),Z (W 4 aX wu)])]) ?_ ?_
 ·rintro st ⟨vT,vU,vV,vW,vX,vY,vZ,wo,wu,h,hst⟩
  unfold dD at h
  refine us<|gs<|g2 c131 j j hst (q (oLd (cs:=[.im 0 _,.im 0 _,.im 0 _,.im 0 _,.im 0 _,.im 0 _,.im 0 _,.im 0 _,.own 3 0 8]) j lT j j)<|q (oSt lT j j j (tkI (tkI (tkI (tkI (tkI (tkI (tkI (tkI (tkO j j tk0))))))))) j j j)<|nl)<|us<|Go.ret (Unw.ret ?_)
  cases h
  exact fr YU j
 ·intro K9
  refine Go.block<|gs<|g1 j j (mk [(0,M 0),(2,M 2),(3,M 3),(11,iv x11.1)] [(0,Od (G 1 (aA x11.2))),(2,Oa [C (Y (⟨#[]⟩:ByteArray)),C (Y (⟨#[]⟩:ByteArray)),C (I 0),C (Y (⟨#[]⟩:ByteArray)),C (I 0),C (I 0),C (I 0),C (I 0),Z (W 4 aX ([]:List bD))]),(3,Oa [C (Y x9.1.Id),C (Y x9.1.gV),C (I x9.1.Number),C (Y x9.1.ai.bC),C (I x9.1.ai.aW),C (I x9.1.ai.dP),C (I x9.1.Width),C (I x9.1.Length),Z (W 4 aX x9.1.aK)])]) (q (oBi j j j j)<|q (ah j j)<|nl)<|us<|gc h j iEq (fun Bd h=>?_) fun Bd h=>?_
  ·obtain ⟨x16,hx16,h⟩:=bs h
   exact g0 j j (q (oMv j j)<|q (oBS (es:=List.map eI ([9,10,20000,20001]:List Int)) j iG j (ptC j (fxI fx0) j (ptC j (fxI fx0) j (ptC j (fxI fx0) j (ptC j (fxI fx0) j pt0)))) (fK j fun _=>j))<|q (oCa (xs:=[.v false [.mp 0 0 0],.v false [.own 15 0 0]]) (vs:=[(false,[.im 0 _])]) (v:=.v false [.im 0 _]) (dS hx16) (.inl j) j mG j (ppP j j j (ppC j pp0)) j j (pbP j j pb0) j j j)<|q (oFA (r':=.mp 3 0 6) j C9 j j)<|q (oSt tF2 j j j (tkI tk0) j j j)<|nl)<|Unw.blk<|K9 _ ⟨x16.2.code,x16.2.at_,x16.2.seed,x9.1.Number,x9.1.ai.bC,x9.1.ai.aW,x9.1.ai.dP,x16.1,x9.1.aK,h,(by kernel_rfl)⟩
  ·refine gs<|g0 j j (q (oBi j j j j)<|q (ah j j)<|nl)<|us<|gc h j iEq (fun OJ h=>?_) fun OJ h=>?_
   ·obtain ⟨x27,hx27,h⟩:=bs h
    obtain ⟨x30,Gg,h⟩:=bs h
    exact gd c131 j j j j (mk [(2,M 2),(3,M 3)] [(0,Od (G 1 (aA x27.2))),(2,Oa [C (Y (⟨#[]⟩:ByteArray)),C (Y (⟨#[]⟩:ByteArray)),C (I 0),C (Y (⟨#[]⟩:ByteArray)),C (I 0),C (I 0),C (I 0),C (I 0),Z (W 4 aX ([]:List bD))]),(3,Oa [C (Y x9.1.Id),C (Y x9.1.gV),C (I x9.1.Number),C (Y x9.1.ai.bC),C (I x9.1.ai.aW),C (I x9.1.ai.dP),C (I x9.1.Width),C (I x9.1.Length),Z (W 4 aX x30)])]) (t j j (oMv j j)<|sK (O:=[3]) j j j (dN z131 j (oFA (r':=.mp 3 0 8) j xU j j))<|sK (O:=[3]) j j j (dN z131 j (oLd (cs:=[.own 3 0 8]) j I4 j j))<|sK (O:=[3]) j j j (dN z131 j (oFA (r':=.mp 3 0 6) j C9 j j))<|sK (O:=[3]) j j j (dN z131 j (oLd (cs:=[.im 0 _]) j tF2 j j))<|t j j (oBi j j j j)<|sS (dN z131 j (oBS (es:=List.map eI ([5,6,0]:List Int)) j iG j (ptC j (fxI fx0) j (ptC j (fxI fx0) j (ptC j (fxI fx0) j pt0))) (fK j fun _=>j))) (kY ⟨j,trivial⟩ (kY ⟨j,trivial⟩ (kY ⟨j,trivial⟩ (kY ⟨j,trivial⟩ trivial)))) (sS (dN z131 j (oCa (xs:=[.v false [.mp 0 0 0],.v false [.own 26 0 0]]) (vs:=[(false,[.im 0 _])]) (v:=.v false [.im 0 _]) (dS hx27) (.inl j) j mG j (ppP j j j (ppC j pp0)) j j (pbP j j pb0) j j j)) (kY ⟨j,trivial⟩ (kY ⟨j,trivial⟩ (kY ⟨j,trivial⟩ (kY ⟨j,trivial⟩ trivial)))) (sS (dN z131 j (oBu (cs:=[.im 0 _,.im 0 _,.im 0 _,.im 0 _]) j Qh j)) (kN j (kN j (kY ⟨j,trivial⟩ (kY ⟨j,trivial⟩ trivial)))) (sS (dN z131 j (oBS (es:=List.map aX ([(⟨(w64 (x9.1.Width - 5)),0,x27.1,4⟩:bD)]:List bD)) j Nj j (ptC j (fxI (fxI (fxI (fxI fx0)))) j pt0) (fK j fun _=>j))) (kN j (kN j (kY ⟨j,trivial⟩ (kY ⟨j,trivial⟩ trivial)))) (sS (dN z131 j (sO (en:=aX) (M:=([(⟨(w64 (x9.1.Width - 5)),0,x27.1,4⟩:bD)]:List bD)) j Gg j Nj j j Rj (.inl ⟨_,j⟩) j j j j (jH j j) (fK j fun _=>j))) (kN j (kN j (kN j (kN j trivial)))) (t j j (oFA (r':=.mp 3 0 8) j xU j j)<|sS (dN z131 j (oSt I4 j j j (tkO j j tk0) j j j)) (kN j (kN j (kN j (kN j trivial)))) (sD (by kernel_rfl))))))))<|Unw.blk<|K9 _ ⟨x27.2.code,x27.2.at_,x27.2.seed,x9.1.Number,x9.1.ai.bC,x9.1.ai.aW,x9.1.ai.dP,x9.1.Width,x30,h,(by kernel_rfl)⟩
   ·refine gs<|g0 j j (q (oBi j j j j)<|q (ah j j)<|nl)<|us<|gc h j iEq (fun hc12 h=>?_) fun hc12 h=>?_
    ·refine gs<|?_
     obtain ⟨x35,XT,h⟩:=bs h
     refine g0 j j (q (oMv j j)<|q (oCa (xs:=[.v false [.mp 0 0 0],.v false [.im 0 _]]) (vs:=[(false,[.im 0 _])]) (v:=.v false [.im 0 _]) (aN XT) (.inl j) j dY j (ppP j j j (ppC j pp0)) j j (pbP j j pb0) j j j)<|q (oBi j j j j)<|q (ah j j)<|nl)<|us<|Go.block<|?_
     obtain ⟨o,hl,h⟩:=bs h
     refine gl c131 j _ (fun (vG:(List bD))=>mk [(2,M 2),(3,M 3),(4,iv (w64 (5+x35.1)))] [(0,Od (G 1 (aA x35.2))),(2,Oa [C (Y (⟨#[]⟩:ByteArray)),C (Y (⟨#[]⟩:ByteArray)),C (I 0),C (Y (⟨#[]⟩:ByteArray)),C (I 0),C (I 0),C (I 0),C (I 0),Z (W 4 aX ([]:List bD))]),(3,Oa [C (Y x9.1.Id),C (Y x9.1.gV),C (I x9.1.Number),C (Y x9.1.ai.bC),C (I x9.1.ai.aW),C (I x9.1.ai.dP),C (I x9.1.Width),C (I x9.1.Length),Z (W 4 aX vG)])]) (fun (uG:(List bD)) (p:Ex×St)=>p.1= .exit 1∧p.2.norm ([2,3],[0,2,3])=mk [(2,M 2),(3,M 3)] [(0,Od (G 1 (aA x35.2))),(2,Oa [C (Y (⟨#[]⟩:ByteArray)),C (Y (⟨#[]⟩:ByteArray)),C (I 0),C (Y (⟨#[]⟩:ByteArray)),C (I 0),C (I 0),C (I 0),C (I 0),Z (W 4 aX ([]:List bD))]),(3,Oa [C (Y x9.1.Id),C (Y x9.1.gV),C (I x9.1.Number),C (Y x9.1.ai.bC),C (I x9.1.ai.aW),C (I x9.1.ai.dP),C (I x9.1.Width),C (I x9.1.Length),Z (W 4 aX uG)])]) hl (by kernel_rfl) ?_ ?_ ?_
     ·intro o p hp e
      exact nomatch (hp.1.symm.trans e)
     ·rintro vG o h
      unfold qh at h
      refine gs<|gs<|g0 j j (q (oFA (r':=.mp 3 0 8) j xU j j)<|q (oLd (cs:=[.own 3 0 8]) j I4 j j)<|q (FY j j Rj j j j (fun e=>nomatch e))<|q (oMv j j)<|q (oBi j j j j)<|nl)<|us<|gc h j af (fun vC h=>?_) fun vC h=>?_
      ·refine Go.skip<|us<|Go.block<|?_
       obtain ⟨x46,I5,h⟩:=bs h
       refine g0 j j (q (oFA (r':=.mp 3 0 8) j xU j j)<|q (oLd (cs:=[.own 3 0 8]) j I4 j j)<|q (oBu (cs:=[.im 0 _,.im 0 _,.im 0 _,.im 0 _]) j Qh j)<|q (oBS (es:=List.map aX ([(⟨1,1,3,3⟩:bD)]:List bD)) j Nj j (ptC j (fxI (fxI (fxI (fxI fx0)))) j pt0) (fK j fun _=>j))<|q (sO (en:=aX) (M:=([(⟨1,1,3,3⟩:bD)]:List bD)) j I5 j Nj j j Rj (.inl ⟨_,j⟩) j j j j (jH j j) (fK j fun _=>j))<|q (oFA (r':=.mp 3 0 8) j xU j j)<|q (oSt I4 j j j (tkO j j tk0) j j j)<|nl)<|Unw.blk<|Unw.nil<|?_
       cases h
       exact ⟨j,(by kernel_rfl)⟩
      ·refine Go.exit<|ux<|Unw.nil<|?_
       cases h
       exact ⟨j,(by kernel_rfl)⟩
     ·rintro ⟨e,st⟩ hp
      obtain ⟨uG,rfl⟩:∃y,y=o:=⟨o,rfl⟩
      obtain ⟨he,hst⟩:=hp
      obtain rfl:e= .exit 1:=he
      exact Unw.ve<|Unw.blk<|K9 _ ⟨x35.2.code,x35.2.at_,x35.2.seed,x9.1.Number,x9.1.ai.bC,x9.1.ai.aW,x9.1.ai.dP,x9.1.Width,uG,h,hst⟩
    ·refine gs<|g0 j j (q (oBi j j j j)<|q (ah j j)<|nl)<|us<|gc h j iEq (fun hc16 h=>?_) fun hc16 h=>?_
     ·obtain ⟨x52,Rk,h⟩:=bs h
      exact g0 j j (q (oMv j j)<|q (oBS (es:=List.map eI ([(-1),999,1000]:List Int)) j iG j (ptC j (fxI fx0) j (ptC j (fxI fx0) j (ptC j (fxI fx0) j pt0))) (fK j fun _=>j))<|q (oCa (xs:=[.v false [.mp 0 0 0],.v false [.own 51 0 0]]) (vs:=[(false,[.im 0 _])]) (v:=.v false [.im 0 _]) (dS Rk) (.inl j) j mG j (ppP j j j (ppC j pp0)) j j (pbP j j pb0) j j j)<|q (oFA (r':=.mp 3 0 2) j zA j j)<|q (oSt tF2 j j j (tkI tk0) j j j)<|nl)<|Unw.blk<|K9 _ ⟨x52.2.code,x52.2.at_,x52.2.seed,x52.1,x9.1.ai.bC,x9.1.ai.aW,x9.1.ai.dP,x9.1.Width,x9.1.aK,h,(by kernel_rfl)⟩
     ·refine gs<|g0 j j (q (oBi j j j j)<|q (ah j j)<|nl)<|us<|gc h j iEq (fun hc17 h=>?_) fun hc17 h=>?_
      ·obtain ⟨x57,XU,h⟩:=bs h
       exact g0 j j (q (oMv j j)<|q (oCa (xs:=[.v false [.mp 0 0 0]]) (vs:=[(true,[.im 0 _,.im 0 _,.im 0 _])]) (v:=.v true [.im 0 _,.im 0 _,.im 0 _]) (IC XU) (.inl j) j Ub j (ppP j j j pp0) j j (pbP j j pb0) j j j)<|q (oFA (r':=.mp 3 0 3) j xm j j)<|q (oSt xB j j j (tkI (tkI (tkI tk0))) j j j)<|nl)<|Unw.blk<|K9 _ ⟨x57.2.code,x57.2.at_,x57.2.seed,x9.1.Number,x57.1.bC,x57.1.aW,x57.1.dP,x9.1.Width,x9.1.aK,h,(by kernel_rfl)⟩
      ·refine gs<|g0 j j (q (oBi j j j j)<|q (ah j j)<|nl)<|us<|gc h j iEq (fun hc18 h=>?_) fun hc18 h=>?_
       ·exact g0 j j (q (oFA (r':=.mp 3 0 6) j C9 j j)<|q (oLd (cs:=[.im 0 _]) j tF2 j j)<|q (oFA (r':=.mp 3 0 7) j Iu j j)<|q (oLd (cs:=[.im 0 _]) j tF2 j j)<|q (oBu (cs:=[.im 0 _,.im 0 _,.im 0 _,.im 0 _]) j Qh j)<|q (oBS (es:=List.map aX ([(⟨0,0,x9.1.Width,x9.1.Length⟩:bD)]:List bD)) j Nj j (ptC j (fxI (fxI (fxI (fxI fx0)))) j pt0) (fK j fun _=>j))<|q (oFA (r':=.mp 3 0 8) j xU j j)<|q (oSt I4 j j j (tkO j j tk0) j j j)<|nl)<|Unw.blk<|K9 _ ⟨x11.2.code,x11.2.at_,x11.2.seed,x9.1.Number,x9.1.ai.bC,x9.1.ai.aW,x9.1.ai.dP,x9.1.Width,([(⟨0,0,x9.1.Width,x9.1.Length⟩:bD)]:List bD),h,(by kernel_rfl)⟩
       ·exact Go.skip<|Unw.blk<|K9 _ ⟨x11.2.code,x11.2.at_,x11.2.seed,x9.1.Number,x9.1.ai.bC,x9.1.ai.aW,x9.1.ai.dP,x9.1.Width,x9.1.aK,h,(by kernel_rfl)⟩
theorem IE {s_0:aj} {r:((List ak)×aj)} (h:qX s_0=some r):FX 97 [.ptr true [(.imm,W 1 (eK .u8) s_0.code),(.imm,I s_0.at_),(.imm,.sc (.int .u64 s_0.seed))]] ([(false,[.ow 0 9 (List.map ae r.1)])],[.ptr true [(.imm,W 1 (eK .u8) r.2.code),(.imm,I r.2.at_),(.imm,.sc (.int .u64 r.2.seed))]]):=by
 unfold qX at h
 refine lC (A:=[(0,M 0)]) (B:=[(0,Od (G 1 (aA s_0)))]) (nt:=42) rfl rfl Try.func97 rfl rfl rfl rfl ?_
 refine gs<|g0 j j (q (Az j j TT)<|nl)<|us<|gs<|?_
 obtain ⟨x7,hx7,h⟩:=bs h
 refine g0 j j (q (oMv j j)<|q (oCr (xs:=[.v false [.mp 0 0 0]]) (vs:=[(false,[.own 7 0 0])]) (v:=.v false [.own 7 0 0]) (c:=⟨.sh,0,_⟩) (cs:=[]) (IB hx7) (.inl j) j TZ j (ppP j j j pp0) j j (pbP j j pb0) j j j)<|q (kX j j j j j)<|nl)<|us<|gs<|gs<|?_
 obtain ⟨x9,hx9,h⟩:=bs h
 refine g1 j j (mk [(0,M 0),(3,H 3 0)] [(0,Od (G 1 (aA x7.2))),(3,Oc [Z (W 9 ae x7.1)])]) (q (oMv j j)<|q (oCa (xs:=[.v false [.mp 0 0 0],.v false [.im 0 _]]) (vs:=[(false,[.im 0 _])]) (v:=.v false [.im 0 _]) (aN hx9) (.inl j) j dY j (ppP j j j (ppC j pp0)) j j (pbP j j pb0) j j j)<|nl)<|us<|Go.join (fun st=>∃wz,∃wB,∃wC,∃uH,jP wz wB wC uH=some r∧st.norm ([3],[0,3])=mk [(3,H 3 0)] [(0,Od [Ct 1 (W 1 (eK .u8) wz),C (I wB),C (.sc (.int .u64 wC))]),(3,Oc [Z (W 9 ae uH)])]) ?_ ?_
 ·rintro st ⟨wz,wB,wC,uH,h,hst⟩
  unfold jP at h
  refine us<|gs<|g2 c97 j j hst (q (oMv j j)<|q (kX j j j j j)<|nl)<|us<|Go.ret (Unw.ret ?_)
  cases h
  exact fr aaL j
 ·intro K5
  refine Go.block<|gs<|g1 j j (mk [(0,M 0),(3,H 3 0),(9,iv x9.1)] [(0,Od (G 1 (aA x9.2))),(3,Oc [Z (W 9 ae x7.1)])]) (q (oBi j j j j)<|q (ah j j)<|nl)<|us<|gc h j iEq (fun hc6 h=>?_) fun hc6 h=>?_
  ·obtain ⟨x14,Fj,h⟩:=bs h
   obtain ⟨x16,hx16,h⟩:=bs h
   exact g0 j j (q (oMv j j)<|q (oMv j j)<|q (oCr (xs:=[.v false [.mp 0 0 0]]) (vs:=[(true,[.im 0 _,.im 0 _,.im 0 _,.im 0 _,.im 0 _,.im 0 _,.im 0 _,.im 0 _,.own 14 0 0])]) (v:=.v true [.im 0 _,.im 0 _,.im 0 _,.im 0 _,.im 0 _,.im 0 _,.im 0 _,.im 0 _,.own 14 0 0]) (c:=⟨.sh,0,_⟩) (cs:=[]) (En Fj) (.inl j) j Ua j (ppP j j j pp0) j j (pbP j j pb0) j j j)<|q (oBS (es:=List.map ae ([x14.1]:List ak)) j tC j (ptC j (fxI (fxI (fxI (fxI (fxI (fxI (fxI (fxI (fxO j j fx0))))))))) j pt0) (gZ j))<|q (sO (en:=ae) (M:=([x14.1]:List ak)) j hx16 j tC j j y5 (.inl ⟨_,j⟩) j j j j (jH j j) (gZ j))<|q (kX j j j j j)<|nl)<|Unw.blk<|K5 _ ⟨x14.2.code,x14.2.at_,x14.2.seed,x16,h,(by kernel_rfl)⟩
  ·refine gs<|g0 j j (q (oBi j j j j)<|q (ah j j)<|nl)<|us<|gc h j iEq (fun hc7 h=>?_) fun hc7 h=>?_
   ·refine gs<|?_
    obtain ⟨x20,VZ,h⟩:=bs h
    refine g0 j j (q (oMv j j)<|q (oCa (xs:=[.v false [.mp 0 0 0],.v false [.im 0 _]]) (vs:=[(false,[.im 0 _])]) (v:=.v false [.im 0 _]) (aN VZ) (.inl j) j dY j (ppP j j j (ppC j pp0)) j j (pbP j j pb0) j j j)<|q (oBi j j j j)<|q (ah j j)<|nl)<|us<|gs<|g1 j j (mk [(4,iv (w64 (15+x20.1)))] [(0,Od (G 1 (aA x20.2)))]) (q (oBS (es:=List.map ae ([]:List ak)) j tC j pt0 (gZ j))<|q (kX j j j j j)<|nl)<|us<|gs<|g0 j j (q (ah j j)<|nl)<|us<|Go.block<|?_
    obtain ⟨o,hl,h⟩:=bs h
    refine gl c97 j _ (fun (s:(Int×(List ak)))=>match s with | (wE,wF)=>mk [(3,H 3 0),(4,iv (w64 (15+x20.1))),(5,iv wE)] [(0,Od (G 1 (aA x20.2))),(3,Oc [Z (W 9 ae wF)])]) (fun (qY:(List ak)) (p:Ex×St)=>p.1= .exit 1∧p.2.norm ([3],[0,3])=mk [(3,H 3 0)] [(0,Od (G 1 (aA x20.2))),(3,Oc [Z (W 9 ae qY)])]) hl (by kernel_rfl) ?_ ?_ ?_
    ·intro o p hp e
     exact nomatch (hp.1.symm.trans e)
    ·rintro ⟨wE,wF⟩ o h
     unfold uP at h
     dsimp only at h
     refine gs<|gs<|g0 j j (q (oMv j j)<|q (oMv j j)<|q (oBi j j j j)<|nl)<|us<|gc h j af (fun Bd h=>?_) fun Bd h=>?_
     ·refine Go.skip<|us<|gs<|Go.block<|?_
      obtain ⟨x34,hx34,h⟩:=bs h
      obtain ⟨x40,XR,h⟩:=bs h
      refine g0 j j (q (oMv j j)<|q (oMv j j)<|q (oBi j j j j)<|q (Oh j uF2 uF5 j)<|q (oBS (es:=List.map (eK .u8) ([(IntKind.wrap .u8 ((w64 (97+wE))))]:List Int)) j Zb j (ptC j (fxI fx0) j pt0) (fK j fun _=>j))<|q (aaf (l:=([(IntKind.wrap .u8 ((w64 (97+wE))))]:List Int)) j VX uF5 uF9 j (jH j j))<|q (aae j hx34 j j)<|q (oMv j j)<|q (oBi j j j j)<|q (oBu (cs:=[.im 0 _,.im 0 _,.im 0 _]) j Q5 j)<|q (oBu (cs:=[.im 0 _,.im 0 _,.im 0 _,.im 0 _,.im 0 _,.im 0 _,.im 0 _,.im 0 _,.nil]) j YK j)<|q (oBS (es:=List.map ae ([(⟨x34,(⟨#[102]⟩:ByteArray),(w64 (40 - wE)),(⟨(⟨#[111,97,107]⟩:ByteArray),40,0⟩:jL),100,200,([]:List bD)⟩:ak)]:List ak)) j tC j (ptC j (fxI (fxI (fxI (fxI (fxI (fxI (fxI (fxI (fxN fx0))))))))) j pt0) (gZ j))<|q (sO (en:=ae) (M:=([(⟨x34,(⟨#[102]⟩:ByteArray),(w64 (40 - wE)),(⟨(⟨#[111,97,107]⟩:ByteArray),40,0⟩:jL),100,200,([]:List bD)⟩:ak)]:List ak)) j XR j tC j j y5 (.inl ⟨_,j⟩) j j j j (jH j j) (gZ j))<|q (kX j j j j j)<|nl)<|Unw.blk<|us<|g0 j j (q (oMv j j)<|q (oBi j j j j)<|q (ah j j)<|nl)<|Unw.nil<|?_
      cases h
      exact ⟨j,(by kernel_rfl)⟩
     ·refine Go.exit<|ux<|Unw.nil<|?_
      cases h
      exact ⟨j,(by kernel_rfl)⟩
    ·rintro ⟨e,st⟩ hp
     obtain ⟨qY,rfl⟩:∃y,y=o:=⟨o,rfl⟩
     obtain ⟨he,hst⟩:=hp
     obtain rfl:e= .exit 1:=he
     exact Unw.ve<|Unw.blk<|K5 _ ⟨x20.2.code,x20.2.at_,x20.2.seed,qY,h,hst⟩
   ·exact Go.skip<|Unw.blk<|K5 _ ⟨x9.2.code,x9.2.at_,x9.2.seed,x7.1,h,(by kernel_rfl)⟩
theorem iM {s_0:aj} {n_1:Int} {r:(Bool×aj)} (h:dV s_0 n_1=some r):FX 57 [.ptr true [(.imm,W 1 (eK .u8) s_0.code),(.imm,I s_0.at_),(.imm,.sc (.int .u64 s_0.seed))],.im 2 false [I n_1]] ([(false,[.im 0 (V r.1)])],[.ptr true [(.imm,W 1 (eK .u8) r.2.code),(.imm,I r.2.at_),(.imm,.sc (.int .u64 r.2.seed))]]):=by
 unfold dV at h
 refine lC (A:=[(0,M 0),(1,D 2 (I n_1))]) (B:=[(0,Od (G 1 (aA s_0))),(1,none)]) (nt:=9) rfl rfl Try.func57 rfl rfl rfl rfl ?_
 refine gs<|g0 j j (q (ah j j)<|nl)<|us<|gs<|?_
 obtain ⟨x7,hx7,h⟩:=bs h
 refine g0 j j (q (oMv j j)<|q (oMv j j)<|q (oCa (xs:=[.v false [.mp 0 0 0],.v false [.im 2 _]]) (vs:=[(false,[.im 0 _])]) (v:=.v false [.im 0 _]) (aN hx7) (.inl j) j dY j (ppP j j j (ppC j pp0)) j j (pbP j j pb0) j j j)<|q (oBi j j j j)<|q (ah j j)<|nl)<|us<|Go.ret (Unw.ret ?_)
 cases h
 exact fr aaF j
theorem Be {s_0:aj} {r:((List ak)×aj)} (h:o6 s_0=some r):FX 56 [.ptr true [(.imm,W 1 (eK .u8) s_0.code),(.imm,I s_0.at_),(.imm,.sc (.int .u64 s_0.seed))]] ([(false,[.ow 0 9 (List.map ae r.1)])],[.ptr true [(.imm,W 1 (eK .u8) r.2.code),(.imm,I r.2.at_),(.imm,.sc (.int .u64 r.2.seed))]]):=by
 unfold o6 at h
 refine lC (A:=[(0,M 0)]) (B:=[(0,Od (G 1 (aA s_0)))]) (nt:=68) rfl rfl Try.func56 rfl rfl rfl rfl ?_
 refine gs<|g0 j j (q (Az j j TT)<|nl)<|us<|gs<|?_
 obtain ⟨x9,hx9,h⟩:=bs h
 refine g0 j j (q (oMv j j)<|q (oCr (xs:=[.v false [.mp 0 0 0]]) (vs:=[(false,[.own 9 0 0])]) (v:=.v false [.own 9 0 0]) (c:=⟨.sh,0,_⟩) (cs:=[]) (IE hx9) (.inl j) j VT j (ppP j j j pp0) j j (pbP j j pb0) j j j)<|q (kX j j j j j)<|nl)<|us<|gs<|gs<|?_
 obtain ⟨x11,Ej,h⟩:=bs h
 refine g1 j j (mk [(0,M 0),(3,H 3 0)] [(0,Od (G 1 (aA x9.2))),(3,Oc [Z (W 9 ae x9.1)])]) (q (oMv j j)<|q (oCa (xs:=[.v false [.mp 0 0 0],.v false [.im 0 _]]) (vs:=[(false,[.im 0 _])]) (v:=.v false [.im 0 _]) (iM Ej) (.inl j) j tu j (ppP j j j (ppC j pp0)) j j (pbP j j pb0) j j j)<|nl)<|us<|Go.join (fun st=>∃wJ,∃wK,∃wL,∃bI,jQ wJ wK wL bI=some r∧st.norm ([0,3],[0,3])=mk [(0,M 0),(3,H 3 0)] [(0,Od [Ct 1 (W 1 (eK .u8) wJ),C (I wK),C (.sc (.int .u64 wL))]),(3,Oc [Z (W 9 ae bI)])]) ?_ ?_
 ·rintro st ⟨wJ,wK,wL,bI,h,hst⟩
  unfold jQ at h
  refine us<|gs<|gs<|?_
  obtain ⟨x46,I5,h⟩:=bs h
  refine gX c56 j j hst (mk [(0,M 0),(3,H 3 0),(51,bv (x46.1&&(decide ((bI.length:Int) >1))))] [(0,Od (G 1 (aA x46.2))),(3,Oc [Z (W 9 ae bI)])]) ?_ ?_
  ·refine xq (oMv j j)<|xq (oCa (xs:=[.v false [.mp 0 0 0],.v false [.im 0 _]]) (vs:=[(false,[.im 0 _])]) (v:=.v false [.im 0 _]) (iM I5) (.inl j) j tu j (ppP j j j (ppC j pp0)) j j (pbP j j pb0) j j j)<|xq (oMv j j)<|?_
   by_cases hc8:x46.1=true
   ·exact xqT rfl rfl (iR.2 hc8) (oMv rfl rfl)<|xqT rfl rfl (iR.2 hc8) (FY rfl rfl y5 rfl rfl rfl (fun e=>nomatch e))<|xqT rfl rfl (iR.2 hc8) (oBi rfl rfl rfl rfl)<|xq (dn rfl rfl (iR.2 hc8) rfl)<|xn (Eq.trans (b:=(fun xw:Bool=>mk [(0,M 0),(3,H 3 0),(51,bv xw)] [(0,Od (G 1 (aA x46.2))),(3,Oc [Z (W 9 ae bI)])]) (decide ((bI.length:Int) >1))) (by kernel_rfl) (congrArg (fun xw:Bool=>mk [(0,M 0),(3,H 3 0),(51,bv xw)] [(0,Od (G 1 (aA x46.2))),(3,Oc [Z (W 9 ae bI)])]) (by first | rfl | (simp [(iR.2 hc8)];done) | (simp [(iR.2 hc8)];omega))))
   ·exact az rfl rfl (byF iR hc8) rfl<|az rfl rfl (byF iR hc8) rfl<|az rfl rfl (byF iR hc8) rfl<|xq (gY rfl rfl (byF iR hc8) rfl)<|xn (Eq.trans (b:=(fun xw:Bool=>mk [(0,M 0),(3,H 3 0),(51,bv xw)] [(0,Od (G 1 (aA x46.2))),(3,Oc [Z (W 9 ae bI)])]) false) (by kernel_rfl) (congrArg (fun xw:Bool=>mk [(0,M 0),(3,H 3 0),(51,bv xw)] [(0,Od (G 1 (aA x46.2))),(3,Oc [Z (W 9 ae bI)])]) (by first | rfl | (simp [(byF iR hc8)];done) | (simp [(byF iR hc8)];omega))))
  ·refine us<|Go.join (fun st=>∃wG,∃wH,∃wI,∃uI,lH wG wH wI uI=some r∧st.norm ([3],[0,3])=mk [(3,H 3 0)] [(0,Od [Ct 1 (W 1 (eK .u8) wG),C (I wH),C (.sc (.int .u64 wI))]),(3,Oc [Z (W 9 ae uI)])]) ?_ ?_
   ·rintro st ⟨wG,wH,wI,uI,h,hst⟩
    unfold lH at h
    refine us<|gs<|g2 c56 j j hst (q (oMv j j)<|q (kX j j j j j)<|nl)<|us<|Go.ret (Unw.ret ?_)
    cases h
    exact fr aaE j
   ·intro K10
    refine gc h j (Vh iR af) (fun OJ h=>?_) fun OJ h=>?_
    ·refine gs<|?_
     obtain ⟨x53,V3,h⟩:=bs h
     refine g0 j j (q (oMv j j)<|q (vS j V3 tC j j j j)<|q (oFA (r':=.mpe 3 0 0 _ 1) j EX j j)<|q (MP (v':=(⟨x53.Id,(⟨#[102,49]⟩:ByteArray),x53.Number,x53.ai,x53.Width,x53.Length,x53.aK⟩:ak)) tF9 j j j (fxI fx0) j j (jT V3) j)<|nl)<|us<|gs<|?_
     obtain ⟨x56,Zh,h⟩:=bs h
     refine g1 j j (mk [(0,M 0),(3,H 3 0)] [(0,Od (G 1 (aA x46.2))),(3,Oc [Z (W 9 ae (bI.set ((0:Int).toNat) (⟨x53.Id,(⟨#[102,49]⟩:ByteArray),x53.Number,x53.ai,x53.Width,x53.Length,x53.aK⟩:ak)))])]) (q (oMv j j)<|q (vS j Zh tC j j j j)<|q (oFA (r':=.mpe 3 0 0 _ 2) j zA j j)<|q (MP (v':=(⟨x56.Id,x56.gV,0,x56.ai,x56.Width,x56.Length,x56.aK⟩:ak)) tF2 j j j (fxI fx0) j j (jT Zh) j)<|nl)<|us<|gs<|?_
     obtain ⟨x59,VY,h⟩:=bs h
     refine g1 j j (mk [(0,M 0),(3,H 3 0)] [(0,Od (G 1 (aA x46.2))),(3,Oc [Z (W 9 ae ((bI.set ((0:Int).toNat) (⟨x53.Id,(⟨#[102,49]⟩:ByteArray),x53.Number,x53.ai,x53.Width,x53.Length,x53.aK⟩:ak)).set ((0:Int).toNat) (⟨x56.Id,x56.gV,0,x56.ai,x56.Width,x56.Length,x56.aK⟩:ak)))])]) (q (oMv j j)<|q (vS j VY tC j j j j)<|q (oFA (r':=.mpe 3 0 0 _ 1) j EX j j)<|q (MP (v':=(⟨x59.Id,(⟨#[102,49]⟩:ByteArray),x59.Number,x59.ai,x59.Width,x59.Length,x59.aK⟩:ak)) tF9 j j j (fxI fx0) j j (jT VY) j)<|nl)<|us<|?_
     obtain ⟨x64,Di,h⟩:=bs h
     obtain ⟨x65,Zi,h⟩:=bs h
     exact g1 j j (mk [(0,M 0),(3,H 3 0)] [(0,Od (G 1 (aA x46.2))),(3,Oc [Z (W 9 ae (((bI.set ((0:Int).toNat) (⟨x53.Id,(⟨#[102,49]⟩:ByteArray),x53.Number,x53.ai,x53.Width,x53.Length,x53.aK⟩:ak)).set ((0:Int).toNat) (⟨x56.Id,x56.gV,0,x56.ai,x56.Width,x56.Length,x56.aK⟩:ak)).set ((1:Int).toNat) (⟨x59.Id,(⟨#[102,49]⟩:ByteArray),x59.Number,x59.ai,x59.Width,x59.Length,x59.aK⟩:ak)))])]) (q (oMv j j)<|q (oMv j j)<|q (oBS (es:=List.map eI ([65,66,999]:List Int)) j iG j (ptC j (fxI fx0) j (ptC j (fxI fx0) j (ptC j (fxI fx0) j pt0))) (fK j fun _=>j))<|q (oCa (xs:=[.v false [.mp 0 0 0],.v false [.own 63 0 0]]) (vs:=[(false,[.im 0 _])]) (v:=.v false [.im 0 _]) (dS Di) (.inl j) j mG j (ppP j j j (ppC j pp0)) j j (pbP j j pb0) j j j)<|q (vS j Zi tC j j j j)<|q (oFA (r':=.mpe 3 0 0 _ 2) j zA j j)<|q (MP (v':=(⟨x65.Id,x65.gV,x64.1,x65.ai,x65.Width,x65.Length,x65.aK⟩:ak)) tF2 j j j (fxI fx0) j j (jT Zi) j)<|nl)<|K10 _ ⟨x64.2.code,x64.2.at_,x64.2.seed,((((bI.set ((0:Int).toNat) (⟨x53.Id,(⟨#[102,49]⟩:ByteArray),x53.Number,x53.ai,x53.Width,x53.Length,x53.aK⟩:ak)).set ((0:Int).toNat) (⟨x56.Id,x56.gV,0,x56.ai,x56.Width,x56.Length,x56.aK⟩:ak)).set ((1:Int).toNat) (⟨x59.Id,(⟨#[102,49]⟩:ByteArray),x59.Number,x59.ai,x59.Width,x59.Length,x59.aK⟩:ak)).set ((1:Int).toNat) (⟨x65.Id,x65.gV,x64.1,x65.ai,x65.Width,x65.Length,x65.aK⟩:ak)),h,(by kernel_rfl)⟩
    ·exact Go.skip<|K10 _ ⟨x46.2.code,x46.2.at_,x46.2.seed,bI,h,(by kernel_rfl)⟩
 ·intro K12
  refine gc h j iR (fun hc13 h=>?_) fun hc13 h=>?_
  ·refine gs<|g1 j j (mk [(0,M 0)] [(0,Od (G 1 (aA x11.2)))]) (q (oBS (es:=List.map eS ([(⟨#[97]⟩:ByteArray),(⟨#[98]⟩:ByteArray),(⟨#[99]⟩:ByteArray),(⟨#[100]⟩:ByteArray),(⟨#[101]⟩:ByteArray),(⟨#[102]⟩:ByteArray),(⟨#[103]⟩:ByteArray)]:List ByteArray)) j AY j (ptC j (fxI fx0) j (ptC j (fxI fx0) j (ptC j (fxI fx0) j (ptC j (fxI fx0) j (ptC j (fxI fx0) j (ptC j (fxI fx0) j (ptC j (fxI fx0) j pt0))))))) (fK j fun _=>j))<|q (kX j j j j j)<|nl)<|us<|gs<|g0 j j (q (oBS (es:=List.map ae ([]:List ak)) j tC j pt0 (gZ j))<|q (kX j j j j j)<|nl)<|us<|gs<|?_
   obtain ⟨x15,KW,h⟩:=bs h
   refine g0 j j (q (oMv j j)<|q (oCa (xs:=[.v false [.mp 0 0 0],.v false [.im 0 _]]) (vs:=[(false,[.im 0 _])]) (v:=.v false [.im 0 _]) (aN KW) (.inl j) j dY j (ppP j j j (ppC j pp0)) j j (pbP j j pb0) j j j)<|q (ah j j)<|nl)<|us<|gs<|g1 j j (mk [(0,M 0),(3,H 3 0),(4,H 4 0),(5,iv x15.1)] [(0,Od (G 1 (aA x15.2))),(3,Oc [Z (W 9 ae ([]:List ak))]),(4,Oc [Z (W 1 eS ([(⟨#[97]⟩:ByteArray),(⟨#[98]⟩:ByteArray),(⟨#[99]⟩:ByteArray),(⟨#[100]⟩:ByteArray),(⟨#[101]⟩:ByteArray),(⟨#[102]⟩:ByteArray),(⟨#[103]⟩:ByteArray)]:List ByteArray))])]) (q (ah j j)<|nl)<|us<|Go.block<|?_
   obtain ⟨o,hl,h⟩:=bs h
   refine gl c56 j _ (fun (s:(Int×Int×(List Int)×Int×Int×(List ak)))=>match s with | (dJ,kS,yR,yS,yT,fM)=>mk [(0,M 0),(3,H 3 0),(4,H 4 0),(5,iv dJ),(6,iv kS)] [(0,Od [Ct 1 (W 1 (eK .u8) yR),C (I yS),C (.sc (.int .u64 yT))]),(3,Oc [Z (W 9 ae fM)]),(4,Oc [Z (W 1 eS ([(⟨#[97]⟩:ByteArray),(⟨#[98]⟩:ByteArray),(⟨#[99]⟩:ByteArray),(⟨#[100]⟩:ByteArray),(⟨#[101]⟩:ByteArray),(⟨#[102]⟩:ByteArray),(⟨#[103]⟩:ByteArray)]:List ByteArray))])]) (fun (o:((List Int)×Int×Int×(List ak))) (p:Ex×St)=>match o with | (qF,qG,qH,o7)=>p.1= .exit 0∧p.2.norm ([0,3],[0,3])=mk [(0,M 0),(3,H 3 0)] [(0,Od [Ct 1 (W 1 (eK .u8) qF),C (I qG),C (.sc (.int .u64 qH))]),(3,Oc [Z (W 9 ae o7)])]) hl (by kernel_rfl) ?_ ?_ ?_
   ·intro o p hp e
    obtain ⟨qF,qG,qH,o7⟩:=o
    exact nomatch (hp.1.symm.trans e)
   ·rintro ⟨dJ,kS,yR,yS,yT,fM⟩ o h
    unfold uQ at h
    dsimp only at h
    refine gs<|gs<|g0 j j (q (oMv j j)<|q (oMv j j)<|q (FY j j WR j j j (fun e=>nomatch e))<|q (oBi j j j j)<|nl)<|us<|gc h j af (fun Fq h=>?_) fun Fq h=>?_
    ·refine Go.skip<|us<|gs<|Go.join (fun st=>∃uJ,∃yO,∃yP,∃yQ,∃wM,mQ kS uJ yO yP yQ wM=some o∧st.norm ([0,3,4,5,6],[0,3,4])=mk [(0,M 0),(3,H 3 0),(4,H 4 0),(5,iv uJ),(6,iv kS)] [(0,Od [Ct 1 (W 1 (eK .u8) yO),C (I yP),C (.sc (.int .u64 yQ))]),(3,Oc [Z (W 9 ae wM)]),(4,Oc [Z (W 1 eS ([(⟨#[97]⟩:ByteArray),(⟨#[98]⟩:ByteArray),(⟨#[99]⟩:ByteArray),(⟨#[100]⟩:ByteArray),(⟨#[101]⟩:ByteArray),(⟨#[102]⟩:ByteArray),(⟨#[103]⟩:ByteArray)]:List ByteArray))])]) ?_ ?_
     ·rintro st ⟨uJ,yO,yP,yQ,wM,h,hst⟩
      unfold mQ at h
      refine us<|g2 c56 j j hst (q (oMv j j)<|q (oBi j j j j)<|q (ah j j)<|nl)<|Unw.nil<|?_
      cases h
      exact ⟨j,(by kernel_rfl)⟩
     ·intro K23
      refine Go.block<|gs<|gs<|?_
      obtain ⟨x23,Uh,h⟩:=bs h
      refine g0 j j (q (oMv j j)<|q (oCa (xs:=[.v false [.mp 0 0 0],.v false [.im 0 _]]) (vs:=[(false,[.im 0 _])]) (v:=.v false [.im 0 _]) (iM Uh) (.inl j) j tu j (ppP j j j (ppC j pp0)) j j (pbP j j pb0) j j j)<|nl)<|us<|gc h j iR (fun hc24 h=>?_) fun hc24 h=>?_
      ·exact Go.exit<|ux<|Unw.ve<|K23 _ ⟨dJ,x23.2.code,x23.2.at_,x23.2.seed,fM,h,(by kernel_rfl)⟩
      ·refine Go.skip<|us<|gs<|?_
       obtain ⟨x27,hx27,h⟩:=bs h
       obtain ⟨x29,hx29,h⟩:=bs h
       refine g1 j j (mk [(0,M 0),(3,H 3 0),(4,H 4 0),(5,iv dJ),(6,iv kS)] [(0,Od (G 1 (aA x23.2))),(3,Oc [Z (W 9 ae fM)]),(4,Oc [Z (W 1 eS ([(⟨#[97]⟩:ByteArray),(⟨#[98]⟩:ByteArray),(⟨#[99]⟩:ByteArray),(⟨#[100]⟩:ByteArray),(⟨#[101]⟩:ByteArray),(⟨#[102]⟩:ByteArray),(⟨#[103]⟩:ByteArray)]:List ByteArray))])]) (q (oMv j j)<|q (oMv j j)<|q (oMv j j)<|q (vS j hx27 AY j j j j)<|q (CU (cs:=[.im 0 _]) j tF9 j j j j (jT hx27) j j)<|q (oCr (xs:=[.v false [.mp 0 0 0],.v false [.im 0 _]]) (vs:=[(true,[.im 0 _,.im 0 _,.im 0 _,.im 0 _,.im 0 _,.im 0 _,.im 0 _,.im 0 _,.own 29 0 0])]) (v:=.v true [.im 0 _,.im 0 _,.im 0 _,.im 0 _,.im 0 _,.im 0 _,.im 0 _,.im 0 _,.own 29 0 0]) (c:=⟨.sh,0,_⟩) (cs:=[]) (rG hx29) (.inl j) j Ff j (ppP j j j (ppC j pp0)) j j (pbP j j pb0) j j j)<|q (oAl j lT (tkI (tkI (tkI (tkI (tkI (tkI (tkI (tkI (tkN tk0))))))))))<|q (oSt lT j j j (tkI (tkI (tkI (tkI (tkI (tkI (tkI (tkI (tkO j j tk0))))))))) j j j)<|nl)<|us<|gs<|gs<|?_
       obtain ⟨x31,hx31,h⟩:=bs h
       refine g1 j j (mk [(0,M 0),(3,H 3 0),(4,H 4 0),(5,iv dJ),(6,iv kS),(7,M 7)] [(0,Od (G 1 (aA x29.2))),(3,Oc [Z (W 9 ae fM)]),(4,Oc [Z (W 1 eS ([(⟨#[97]⟩:ByteArray),(⟨#[98]⟩:ByteArray),(⟨#[99]⟩:ByteArray),(⟨#[100]⟩:ByteArray),(⟨#[101]⟩:ByteArray),(⟨#[102]⟩:ByteArray),(⟨#[103]⟩:ByteArray)]:List ByteArray))]),(7,Oa [C (Y x29.1.Id),C (Y x29.1.gV),C (I x29.1.Number),C (Y x29.1.ai.bC),C (I x29.1.ai.aW),C (I x29.1.ai.dP),C (I x29.1.Width),C (I x29.1.Length),Z (W 4 aX x29.1.aK)])]) (q (oMv j j)<|q (oCa (xs:=[.v false [.mp 0 0 0],.v false [.im 0 _]]) (vs:=[(false,[.im 0 _])]) (v:=.v false [.im 0 _]) (iM hx31) (.inl j) j tu j (ppP j j j (ppC j pp0)) j j (pbP j j pb0) j j j)<|q (oUn j j j)<|nl)<|us<|Go.join (fun st=>∃nX,∃nY,lI kS fM dJ x29 x31 nX nY=some o∧st.norm ([0,3,4,5,6,7],[0,3,4,7])=mk [(0,M 0),(3,H 3 0),(4,H 4 0),(5,iv dJ),(6,iv kS),(7,M 7)] [(0,Od (G 1 (aA x31.2))),(3,Oc [Z (W 9 ae fM)]),(4,Oc [Z (W 1 eS ([(⟨#[97]⟩:ByteArray),(⟨#[98]⟩:ByteArray),(⟨#[99]⟩:ByteArray),(⟨#[100]⟩:ByteArray),(⟨#[101]⟩:ByteArray),(⟨#[102]⟩:ByteArray),(⟨#[103]⟩:ByteArray)]:List ByteArray))]),(7,Oa [C (Y x29.1.Id),C (Y nX),C (I nY),C (Y x29.1.ai.bC),C (I x29.1.ai.aW),C (I x29.1.ai.dP),C (I x29.1.Width),C (I x29.1.Length),Z (W 4 aX x29.1.aK)])]) ?_ ?_
       ·rintro st ⟨nX,nY,h,hst⟩
        unfold lI at h
        refine us<|gs<|?_
        obtain ⟨x39,hx39,h⟩:=bs h
        refine g2 c56 j j hst (q (oMv j j)<|q (oMv j j)<|q (oBS (es:=List.map eI ([1,1,1,0,3]:List Int)) j iG j (ptC j (fxI fx0) j (ptC j (fxI fx0) j (ptC j (fxI fx0) j (ptC j (fxI fx0) j (ptC j (fxI fx0) j pt0))))) (fK j fun _=>j))<|q (oCa (xs:=[.v false [.mp 0 0 0],.v false [.own 38 0 0]]) (vs:=[(false,[.im 0 _])]) (v:=.v false [.im 0 _]) (dS hx39) (.inl j) j mG j (ppP j j j (ppC j pp0)) j j (pbP j j pb0) j j j)<|q (oBi j j j j)<|q (ah j j)<|nl)<|us<|?_
        obtain ⟨x44,KX,h⟩:=bs h
        exact g1 j j (mk [(0,M 0),(3,H 3 0),(4,H 4 0),(5,iv (w64 (dJ+x39.1))),(6,iv kS),(7,M 7)] [(0,Od (G 1 (aA x39.2))),(3,Oc [Z (W 9 ae fM)]),(4,Oc [Z (W 1 eS ([(⟨#[97]⟩:ByteArray),(⟨#[98]⟩:ByteArray),(⟨#[99]⟩:ByteArray),(⟨#[100]⟩:ByteArray),(⟨#[101]⟩:ByteArray),(⟨#[102]⟩:ByteArray),(⟨#[103]⟩:ByteArray)]:List ByteArray))]),(7,Oa [C (Y x29.1.Id),C (Y nX),C (I nY),C (Y x29.1.ai.bC),C (I x29.1.ai.aW),C (I x29.1.ai.dP),C (I x29.1.Width),C (I x29.1.Length),Z (W 4 aX x29.1.aK)])]) (q (oMv j j)<|q (oLd (cs:=[.im 0 _,.im 0 _,.im 0 _,.im 0 _,.im 0 _,.im 0 _,.im 0 _,.im 0 _,.own 7 0 8]) j lT j j)<|q (oBS (es:=List.map ae ([(⟨x29.1.Id,nX,nY,x29.1.ai,x29.1.Width,x29.1.Length,x29.1.aK⟩:ak)]:List ak)) j tC j (ptC j (fxI (fxI (fxI (fxI (fxI (fxI (fxI (fxI (fxO j j fx0))))))))) j pt0) (gZ j))<|q (sO (en:=ae) (M:=([(⟨x29.1.Id,nX,nY,x29.1.ai,x29.1.Width,x29.1.Length,x29.1.aK⟩:ak)]:List ak)) j KX j tC j j y5 (.inl ⟨_,j⟩) j j j j (jH j j) (gZ j))<|q (kX j j j j j)<|nl)<|Unw.blk<|K23 _ ⟨(w64 (dJ+x39.1)),x39.2.code,x39.2.at_,x39.2.seed,x44,h,(by kernel_rfl)⟩
       ·intro K26
        by_cases hc27:x31.1=true
        ·rw [if_pos hc27] at h
         exact gF j (nF (iR.2 hc27))<|Go.skip<|K26 _ ⟨x29.1.gV,x29.1.Number,h,(by kernel_rfl)⟩
        ·rw [if_neg hc27] at h
         exact gT j (nT (byF iR hc27))<|gs<|g1 j j (mk [(0,M 0),(3,H 3 0),(4,H 4 0),(5,iv dJ),(6,iv kS),(7,M 7)] [(0,Od (G 1 (aA x31.2))),(3,Oc [Z (W 9 ae fM)]),(4,Oc [Z (W 1 eS ([(⟨#[97]⟩:ByteArray),(⟨#[98]⟩:ByteArray),(⟨#[99]⟩:ByteArray),(⟨#[100]⟩:ByteArray),(⟨#[101]⟩:ByteArray),(⟨#[102]⟩:ByteArray),(⟨#[103]⟩:ByteArray)]:List ByteArray))]),(7,Oa [C (Y x29.1.Id),C (Y x29.1.gV),C (I x29.1.Number),C (Y x29.1.ai.bC),C (I x29.1.ai.aW),C (I x29.1.ai.dP),C (I x29.1.Width),C (I x29.1.Length),Z (W 4 aX x29.1.aK)])]) (q (oFA (r':=.mp 7 0 1) j EX j j)<|q (oSt tF9 j j j (tkI tk0) j j j)<|nl)<|us<|g1 j j (mk [(0,M 0),(3,H 3 0),(4,H 4 0),(5,iv dJ),(6,iv kS),(7,M 7)] [(0,Od (G 1 (aA x31.2))),(3,Oc [Z (W 9 ae fM)]),(4,Oc [Z (W 1 eS ([(⟨#[97]⟩:ByteArray),(⟨#[98]⟩:ByteArray),(⟨#[99]⟩:ByteArray),(⟨#[100]⟩:ByteArray),(⟨#[101]⟩:ByteArray),(⟨#[102]⟩:ByteArray),(⟨#[103]⟩:ByteArray)]:List ByteArray))]),(7,Oa [C (Y x29.1.Id),C (Y (⟨#[102,49]⟩:ByteArray)),C (I x29.1.Number),C (Y x29.1.ai.bC),C (I x29.1.ai.aW),C (I x29.1.ai.dP),C (I x29.1.Width),C (I x29.1.Length),Z (W 4 aX x29.1.aK)])]) (q (oMv j j)<|q (oFA (r':=.mp 7 0 2) j zA j j)<|q (oSt tF2 j j j (tkI tk0) j j j)<|nl)<|K26 _ ⟨(⟨#[102,49]⟩:ByteArray),dJ,h,(by kernel_rfl)⟩
    ·refine Go.exit<|ux<|Unw.nil<|?_
     cases h
     exact ⟨j,(by kernel_rfl)⟩
   ·rintro ⟨e,st⟩ hp
    obtain ⟨qF,qG,qH,o7⟩:=o
    dsimp only at h
    obtain ⟨he,hst⟩:=hp
    obtain rfl:e= .exit 0:=he
    exact Unw.ve<|K12 _ ⟨qF,qG,qH,o7,h,hst⟩
  ·exact Go.skip<|K12 _ ⟨x11.2.code,x11.2.at_,x11.2.seed,x9.1,h,(by kernel_rfl)⟩
theorem Bf {s_0:aj} {r:(Int×aj)} (h:jW s_0=some r):FX 58 [.ptr true [(.imm,W 1 (eK .u8) s_0.code),(.imm,I s_0.at_),(.imm,.sc (.int .u64 s_0.seed))]] ([(false,[.im 0 (I r.1)])],[.ptr true [(.imm,W 1 (eK .u8) r.2.code),(.imm,I r.2.at_),(.imm,.sc (.int .u64 r.2.seed))]]):=by
 unfold jW at h
 refine lC (A:=[(0,M 0)]) (B:=[(0,Od (G 1 (aA s_0)))]) (nt:=11) rfl rfl Try.func58 rfl rfl rfl rfl ?_
 refine gs<|g0 j j (q (ah j j)<|nl)<|us<|gs<|gs<|?_
 obtain ⟨x4,hx4,h⟩:=bs h
 refine g0 j j (q (oMv j j)<|q (oCa (xs:=[.v false [.mp 0 0 0],.v false [.im 0 _]]) (vs:=[(false,[.im 0 _])]) (v:=.v false [.im 0 _]) (iM hx4) (.inl j) j tu j (ppP j j j (ppC j pp0)) j j (pbP j j pb0) j j j)<|nl)<|us<|gc h j iR (fun hc1 h=>?_) fun hc1 h=>?_
 ·refine gs<|?_
  obtain ⟨x7,hx7,h⟩:=bs h
  refine g1 j j (mk [(0,M 0)] [(0,Od (G 1 (aA x4.2)))]) (q (oMv j j)<|q (oBS (es:=List.map eI ([0,1,5,20000,20001]:List Int)) j iG j (ptC j (fxI fx0) j (ptC j (fxI fx0) j (ptC j (fxI fx0) j (ptC j (fxI fx0) j (ptC j (fxI fx0) j pt0))))) (fK j fun _=>j))<|q (oCa (xs:=[.v false [.mp 0 0 0],.v false [.own 6 0 0]]) (vs:=[(false,[.im 0 _])]) (v:=.v false [.im 0 _]) (dS hx7) (.inl j) j mG j (ppP j j j (ppC j pp0)) j j (pbP j j pb0) j j j)<|q (ah j j)<|nl)<|us<|Go.ret (Unw.ret ?_)
  cases h
  exact fr Y8 j
 ·refine Go.skip<|us<|gs<|?_
  obtain ⟨x9,hx9,h⟩:=bs h
  refine g1 j j (mk [(0,M 0)] [(0,Od (G 1 (aA x4.2)))]) (q (oMv j j)<|q (oCa (xs:=[.v false [.mp 0 0 0],.v false [.im 0 _]]) (vs:=[(false,[.im 0 _])]) (v:=.v false [.im 0 _]) (aN hx9) (.inl j) j dY j (ppP j j j (ppC j pp0)) j j (pbP j j pb0) j j j)<|q (oBi j j j j)<|q (ah j j)<|nl)<|us<|Go.ret (Unw.ret ?_)
  cases h
  exact fr Y8 j
theorem Bg {jv:(List Int)} {r:((List ak)×Bool×Int)} (h:jX jv=some r):FX 18 [.im 2 false [W 1 (eK .u8) jv]] (B0 [(false,[.ow 0 9 (List.map ae r.1)]),(false,[.im 0 (V r.2.1)]),(false,[.im 0 (I r.2.2)])]):=by
 unfold jX at h
 refine gn 18 Try.func18 rfl ?_
 refine gs<|g0 j j (q (Az j j TT)<|q (ah j j)<|q (ah j j)<|nl)<|us<|gs<|?_
 obtain ⟨x9,hx9,h⟩:=bs h
 refine g0 j j (q (oMv j j)<|q (oCp (xs:=[.v false [.im 2 _]]) (A7 hx9) (.inl j) j Qn j (ppC j pp0) j j pb0 j)<|q (U7 j j)<|nl)<|us<|gs<|?_
 obtain ⟨x11,Ej,h⟩:=bs h
 refine g0 j j (q (oMv j j)<|q (oCr (xs:=[.v false [.mp 9 0 0]]) (vs:=[(false,[.own 11 0 0])]) (v:=.v false [.own 11 0 0]) (c:=⟨.sh,0,_⟩) (cs:=[]) (Be Ej) (.inl j) j Qo j (ppP j j j pp0) j j (pbP j j pb0) j j j)<|q (kX j j j j j)<|nl)<|us<|gs<|?_
 obtain ⟨x13,Fh,h⟩:=bs h
 refine g1 j j (mk [(5,M 9),(6,H 6 0)] [(6,Oc [Z (W 9 ae x11.1)]),(9,Oa (G 2 (aA x11.2)))]) (q (oMv j j)<|q (oCa (xs:=[.v false [.mp 9 0 0],.v false [.im 0 _]]) (vs:=[(false,[.im 0 _])]) (v:=.v false [.im 0 _]) (iM Fh) (.inl j) j tu j (ppP j j j (ppC j pp0)) j j (pbP j j pb0) j j j)<|q (ah j j)<|nl)<|us<|gs<|?_
 obtain ⟨x17,aaP,h⟩:=bs h
 refine g1 j j (mk [(5,M 9),(6,H 6 0),(7,bv x13.1)] [(6,Oc [Z (W 9 ae x11.1)]),(9,Oa (G 2 (aA x13.2)))]) (q (oMv j j)<|q (oMv j j)<|q (oMv j j)<|q (oCa (xs:=[.v false [.mp 9 0 0]]) (vs:=[(false,[.im 0 _])]) (v:=.v false [.im 0 _]) (Bf aaP) (.inl j) j VS j (ppP j j j pp0) j j (pbP j j pb0) j j j)<|q (kX j j j j j)<|q (ah j j)<|q (ah j j)<|nl)<|us<|Go.ret (Unw.ret ?_)
 cases h
 exact fr aaA j
theorem BV {s_0:ByteArray} {r:Bool} (h:qI s_0=some r):FX 107 [.im 2 false [Y s_0]] (B0 [(false,[.im 0 (V r)])]):=by
 unfold qI at h
 refine gn 50 Try.func107 rfl ?_
 refine gs<|g0 j j (q (ah j j)<|nl)<|us<|gs<|gs<|?_
 obtain ⟨Kw,Bh,h⟩:=bs h
 refine gX c107 j j j (mk [(0,sv s_0),(21,bv Kw)] []) ?_ ?_
 ·refine xq (oMv j j)<|xq (Xw j j uF9 j)<|xq (oBi j j j j)<|xq (oMv j j)<|?_
  refine ic Bh (fun hc1 Bh=>?_) fun hc1 Bh=>?_
  ·cases Bh
   exact az j j (af.2 hc1) j<|az j j (af.2 hc1) j<|az j j (af.2 hc1) j<|xq (dn j j (af.2 hc1) j)<|xq (oMv j j)<|az j j j j<|az j j j j<|az j j j j<|xq (dn j j j j)<|xq (oMv j j)<|az j j j j<|az j j j j<|az j j j j<|xq (dn j j j j)<|xn
  ·refine xqT j j (byF af hc1) (oMv j j)<|xqT j j (byF af hc1) (Xw j j uF9 j)<|xqT j j (byF af hc1) (oBi j j j j)<|xq (gY j j (byF af hc1) j)<|xq (oMv j j)<|?_
   refine ic Bh (fun hc2 Bh=>?_) fun hc2 Bh=>?_
   ·cases Bh
    exact az j j (af.2 hc2) j<|az j j (af.2 hc2) j<|az j j (af.2 hc2) j<|xq (dn j j (af.2 hc2) j)<|xq (oMv j j)<|az j j j j<|az j j j j<|az j j j j<|xq (dn j j j j)<|xn
   ·obtain ⟨x14,Fj,Bh⟩:=bs Bh
    refine xqT j j (byF af hc2) (oMv j j)<|xqT j j (byF af hc2) (oIx j Fj uF9 j j)<|xqT j j (byF af hc2) (oBi j j j j)<|xq (gY j j (byF af hc2) j)<|xq (oMv j j)<|?_
    refine ic Bh (fun hc3 Bh=>?_) fun hc3 Bh=>?_
    ·cases Bh
     exact az j j (af.2 hc3) j<|az j j (af.2 hc3) j<|az j j (af.2 hc3) j<|xq (dn j j (af.2 hc3) j)<|xn
    ·obtain ⟨x19,F8,Bh⟩:=bs Bh
     cases Bh
     exact xqT j j (byF af hc3) (oMv j j)<|xqT j j (byF af hc3) (oIx j F8 uF9 j j)<|xqT j j (byF af hc3) (oBi j j j j)<|xq (gY j j (byF af hc3) j)<|xn
 ·refine us<|gc h j iR (fun hc4 h=>?_) fun hc4 h=>?_
  ·refine gs<|g0 j j (q (ah j j)<|nl)<|us<|Go.ret (Unw.ret ?_)
   cases h
   exact fr Ue j
  ·refine Go.skip<|us<|gs<|gs<|g0 j j (q (ah j j)<|nl)<|us<|Go.block<|?_
   obtain ⟨o,hl,h⟩:=bs h
   refine gl c107 j _ (fun (uS:Int)=>mk [(0,sv s_0),(3,iv uS)] []) (fun (o:(Unit ⊕ Bool)) (p:Ex×St)=>match o with | (.inl _)=>p.1= .exit 0∧p.2.norm ([],[])=mk [] [] | (.inr r2)=>p.1= .ret∧fin Try.prog cfg 107 Try.f107 [.im 2 false [Y s_0]] p.2=some (B0 [(false,[.im 0 (V r2)])])) hl (by kernel_rfl) ?_ ?_ ?_
   ·intro o p hp e
    rcases o with u | r2<;>exact nomatch (hp.1.symm.trans e)
   ·rintro uS o h
    unfold nZ at h
    refine gs<|gs<|g0 j j (q (oMv j j)<|q (oMv j j)<|q (Xw j j uF9 j)<|q (oBi j j j j)<|nl)<|us<|gc h j af (fun hc19 h=>?_) fun hc19 h=>?_
    ·refine Go.skip<|us<|gs<|Go.block<|gs<|?_
     obtain ⟨x30,Gg,h⟩:=bs h
     obtain ⟨Kv,tH,h⟩:=bs h
     refine gX c107 j j j (mk [(0,sv s_0),(3,iv uS),(49,bv Kv)] []) ?_ ?_
     ·refine xq (oMv j j)<|xq (oMv j j)<|xq (oIx j Gg uF9 j j)<|xq (oBi j j j j)<|xq (oMv j j)<|?_
      refine ic tH (fun Fq tH=>?_) fun Fq tH=>?_
      ·obtain ⟨x41,KY,tH⟩:=bs tH
       refine az j j (af.2 Fq) j<|az j j (af.2 Fq) j<|az j j (af.2 Fq) j<|az j j (af.2 Fq) j<|xq (dn j j (af.2 Fq) j)<|xq (oMv j j)<|xqT j j j (oMv j j)<|xqT j j j (oMv j j)<|xqT j j j (oIx j KY uF9 j j)<|xqT j j j (oBi j j j j)<|xqT j j j (oMv j j)<|?_
       refine ic tH (fun hc21 tH=>?_) fun hc21 tH=>?_
       ·cases tH
        exact az j j (af.2 hc21) j<|az j j (af.2 hc21) j<|az j j (af.2 hc21) j<|az j j (af.2 hc21) j<|xqT j j j (dn j j (af.2 hc21) j)<|xq (dn j j j j)<|xn
       ·obtain ⟨x46,I5,tH⟩:=bs tH
        cases tH
        exact xqT j j (byF af hc21) (oMv j j)<|xqT j j (byF af hc21) (oMv j j)<|xqT j j (byF af hc21) (oIx j I5 uF9 j j)<|xqT j j (byF af hc21) (oBi j j j j)<|xqT j j j (gY j j (byF af hc21) j)<|xq (dn j j j j)<|xn
      ·obtain ⟨x35,XT,tH⟩:=bs tH
       refine xqT j j (byF af Fq) (oMv j j)<|xqT j j (byF af Fq) (oMv j j)<|xqT j j (byF af Fq) (oIx j XT uF9 j j)<|xqT j j (byF af Fq) (oBi j j j j)<|xq (gY j j (byF af Fq) j)<|xq (oMv j j)<|?_
       refine ic tH (fun hc22 tH=>?_) fun hc22 tH=>?_
       ·obtain ⟨x41,KY,tH⟩:=bs tH
        refine xqT j j (af.2 hc22) (oMv j j)<|xqT j j (af.2 hc22) (oMv j j)<|xqT j j (af.2 hc22) (oIx j KY uF9 j j)<|xqT j j (af.2 hc22) (oBi j j j j)<|xqT j j (af.2 hc22) (oMv j j)<|?_
        refine ic tH (fun Dj tH=>?_) fun Dj tH=>?_
        ·cases tH
         exact az j j (af.2 Dj) j<|az j j (af.2 Dj) j<|az j j (af.2 Dj) j<|az j j (af.2 Dj) j<|xqT j j (af.2 hc22) (dn j j (af.2 Dj) j)<|xq (dn j j (af.2 hc22) j)<|xn
        ·obtain ⟨x46,I5,tH⟩:=bs tH
         cases tH
         exact xqT j j (byF af Dj) (oMv j j)<|xqT j j (byF af Dj) (oMv j j)<|xqT j j (byF af Dj) (oIx j I5 uF9 j j)<|xqT j j (byF af Dj) (oBi j j j j)<|xqT j j (af.2 hc22) (gY j j (byF af Dj) j)<|xq (dn j j (af.2 hc22) j)<|xn
       ·cases tH
        exact az j j (byF af hc22) j<|az j j (byF af hc22) j<|az j j (byF af hc22) j<|az j j (byF af hc22) j<|az j j (byF af hc22) j<|IX j j j<|IX j j j<|IX j j j<|IX j j j<|az j j (byF af hc22) j<|xq (gY j j (byF af hc22) j)<|xn
     ·refine us<|gc h j iR (fun hc24 h=>?_) fun hc24 h=>?_
      ·refine gs<|g0 j j (q (ah j j)<|nl)<|us<|Go.ret (Unw.ret ?_)
       cases h
       exact ⟨j,(fo Ue j)⟩
      ·refine Go.skip<|Unw.blk<|us<|g0 j j (q (oMv j j)<|q (oBi j j j j)<|q (ah j j)<|nl)<|Unw.nil<|?_
       cases h
       exact ⟨j,(by kernel_rfl)⟩
    ·refine Go.exit<|ux<|Unw.nil<|?_
     cases h
     exact ⟨j,(by kernel_rfl)⟩
   ·rintro ⟨e,st⟩ hp
    rcases o with u | r2
    ·dsimp only at h
     obtain ⟨he,hst⟩:=hp
     obtain rfl:e= .exit 0:=he
     refine Unw.ve<|us<|gs<|g2 c107 j j hst (q (ah j j)<|nl)<|us<|Go.ret (Unw.ret ?_)
     cases h
     exact fr Ue j
    ·dsimp only at h
     obtain ⟨he,hfin⟩:=hp
     obtain rfl:e= .ret:=he
     cases h
     exact Unw.ret (vg hfin)
theorem eu {n_0:Int} {JF:Int} {ET:Int} {r:Bool} (h:dQ n_0 JF ET=some r):FX 47 [.im 2 false [I n_0],.im 2 false [I JF],.im 2 false [I ET]] (B0 [(false,[.im 0 (V r)])]):=by
 unfold dQ at h
 refine gn 15 Try.func47 rfl ?_
 refine gs<|g0 j j (q (ah j j)<|nl)<|us<|gs<|gX c47 j j j (mk [(6,bv ((decide (n_0≥JF))&&(decide (n_0≤ET))))] []) ?_ ?_
 ·refine xq (oMv j j)<|xq (oMv j j)<|xq (oBi j j j j)<|xq (oMv j j)<|?_
  by_cases hc1:n_0≥JF
  ·exact xqT rfl rfl (af.2 hc1) (oMv rfl rfl)<|xqT rfl rfl (af.2 hc1) (oMv rfl rfl)<|xqT rfl rfl (af.2 hc1) (oBi rfl rfl rfl rfl)<|xq (dn rfl rfl (af.2 hc1) rfl)<|xq (ah rfl rfl)<|xn (Eq.trans (b:=(fun wO:Bool=>mk [(6,bv wO)] []) (decide (n_0≤ET))) (by kernel_rfl) (congrArg (fun wO:Bool=>mk [(6,bv wO)] []) (by first | rfl | (simp [(af.2 hc1)];done) | (simp [(af.2 hc1)];omega))))
  ·exact az rfl rfl (byF af hc1) rfl<|az rfl rfl (byF af hc1) rfl<|az rfl rfl (byF af hc1) rfl<|xq (gY rfl rfl (byF af hc1) rfl)<|xq (ah rfl rfl)<|xn (Eq.trans (b:=(fun wO:Bool=>mk [(6,bv wO)] []) false) (by kernel_rfl) (congrArg (fun wO:Bool=>mk [(6,bv wO)] []) (by first | rfl | (simp [(byF af hc1)];done) | (simp [(byF af hc1)];omega))))
 ·refine us<|Go.ret (Unw.ret ?_)
  cases h
  exact fr aaC j
theorem Dk {nG:ByteArray} {r:(Int×Int×Int×Int)} (h:lJ nG=some r):FX 180 [.im 2 false [Y nG]] (B0 [(false,[.im 0 (I r.1)]),(false,[.im 0 (I r.2.1)]),(false,[.im 0 (I r.2.2.1)]),(false,[.im 0 (I r.2.2.2)])]):=by
 unfold lJ at h
 refine gn 27 Try.func180 rfl ?_
 refine gs<|g0 j j (q (ah j j)<|q (ah j j)<|q (ah j j)<|q (ah j j)<|nl)<|us<|gs<|gs<|g0 j j (q (oMv j j)<|nl)<|us<|Go.block<|gs<|g0 j j (q (oBi j j j j)<|q (ah j j)<|nl)<|us<|gc h j FZ (fun hc1 h=>?_) fun hc1 h=>?_
 ·refine gs<|g0 j j (q (ah j j)<|q (ah j j)<|q (ah j j)<|q (ah j j)<|nl)<|us<|Go.ret (Unw.ret ?_)
  cases h
  exact fr AX j
 ·refine gs<|g0 j j (q (oBi j j j j)<|q (ah j j)<|nl)<|us<|gc h j FZ (fun hc2 h=>?_) fun hc2 h=>?_
  ·refine gs<|g0 j j (q (ah j j)<|q (ah j j)<|q (ah j j)<|q (ah j j)<|nl)<|us<|Go.ret (Unw.ret ?_)
   cases h
   exact fr AX j
  ·refine gs<|g0 j j (q (oBi j j j j)<|q (ah j j)<|nl)<|us<|gc h j FZ (fun hc3 h=>?_) fun hc3 h=>?_
   ·refine gs<|g0 j j (q (ah j j)<|q (ah j j)<|q (ah j j)<|q (ah j j)<|nl)<|us<|Go.ret (Unw.ret ?_)
    cases h
    exact fr AX j
   ·refine gs<|g0 j j (q (oBi j j j j)<|q (ah j j)<|nl)<|us<|gc h j FZ (fun hc4 h=>?_) fun hc4 h=>?_
    ·refine gs<|g0 j j (q (ah j j)<|q (ah j j)<|q (ah j j)<|q (ah j j)<|nl)<|us<|Go.ret (Unw.ret ?_)
     cases h
     exact fr AX j
    ·refine gs<|g0 j j (q (oBi j j j j)<|q (ah j j)<|nl)<|us<|gc h j FZ (fun hc5 h=>?_) fun hc5 h=>?_
     ·refine gs<|g0 j j (q (ah j j)<|q (ah j j)<|q (ah j j)<|q (ah j j)<|nl)<|us<|Go.ret (Unw.ret ?_)
      cases h
      exact fr AX j
     ·refine gs<|g0 j j (q (oBi j j j j)<|q (ah j j)<|nl)<|us<|gc h j FZ (fun hc6 h=>?_) fun hc6 h=>?_
      ·refine gs<|g0 j j (q (ah j j)<|q (ah j j)<|q (ah j j)<|q (ah j j)<|nl)<|us<|Go.ret (Unw.ret ?_)
       cases h
       exact fr AX j
      ·refine gs<|g0 j j (q (oBi j j j j)<|q (ah j j)<|nl)<|us<|gc h j FZ (fun hc7 h=>?_) fun hc7 h=>?_
       ·refine gs<|g0 j j (q (ah j j)<|q (ah j j)<|q (ah j j)<|q (ah j j)<|nl)<|us<|Go.ret (Unw.ret ?_)
        cases h
        exact fr AX j
       ·refine gs<|g0 j j (q (oBi j j j j)<|q (ah j j)<|nl)<|us<|gc h j FZ (fun hc8 h=>?_) fun hc8 h=>?_
        ·refine gs<|g0 j j (q (ah j j)<|q (ah j j)<|q (ah j j)<|q (ah j j)<|nl)<|us<|Go.ret (Unw.ret ?_)
         cases h
         exact fr AX j
        ·refine gs<|g0 j j (q (oBi j j j j)<|q (ah j j)<|nl)<|us<|gc h j FZ (fun hc9 h=>?_) fun hc9 h=>?_
         ·refine gs<|g0 j j (q (ah j j)<|q (ah j j)<|q (ah j j)<|q (ah j j)<|nl)<|us<|Go.ret (Unw.ret ?_)
          cases h
          exact fr AX j
         ·refine gs<|g0 j j (q (oBi j j j j)<|q (ah j j)<|nl)<|us<|gc h j FZ (fun Bd h=>?_) fun Bd h=>?_
          ·refine gs<|g0 j j (q (ah j j)<|q (ah j j)<|q (ah j j)<|q (ah j j)<|nl)<|us<|Go.ret (Unw.ret ?_)
           cases h
           exact fr AX j
          ·refine Go.skip<|Unw.blk<|us<|gs<|g0 j j (q (ah j j)<|q (ah j j)<|q (ah j j)<|q (ah j j)<|nl)<|us<|Go.ret (Unw.ret ?_)
           cases h
           exact fr AX j
theorem BK {nG:ByteArray} {r:(Int×Bool)} (h:nN nG=some r):FX 147 [.im 2 false [Y nG]] (B0 [(false,[.im 0 (I r.1)]),(false,[.im 0 (V r.2)])]):=by
 unfold nN at h
 refine gn 18 Try.func147 rfl ?_
 refine gs<|g0 j j (q (ah j j)<|q (ah j j)<|nl)<|us<|gs<|?_
 obtain ⟨x10,Ba,h⟩:=bs h
 refine g0 j j (q (oMv j j)<|q (oCa (xs:=[.v false [.im 2 _]]) (vs:=[(false,[.im 0 _]),(false,[.im 0 _]),(false,[.im 0 _]),(false,[.im 0 _])]) (v:=.tup [(false,[.im 0 _]),(false,[.im 0 _]),(false,[.im 0 _]),(false,[.im 0 _])]) (Dk Ba) (.inl j) j VP j (ppC j pp0) j j pb0 j j j)<|q (EN j j)<|q (oEx j j j)<|q (oEx j j j)<|q (oEx j j j)<|q (oEx j j j)<|q (ah j j)<|q (ah j j)<|q (ah j j)<|q (ah j j)<|nl)<|us<|gs<|g0 j j (q (oMv j j)<|q (oMv j j)<|q (oBi j j j j)<|q (ah j j)<|q (ah j j)<|nl)<|us<|Go.ret (Unw.ret ?_)
 cases h
 exact fr Y1 j
theorem Dl {v_0:jL} {r:Bool} (h:lK v_0=some r):FX 108 [.im 2 true (xk v_0)] (B0 [(false,[.im 0 (V r)])]):=by
 unfold lK at h
 refine gn 29 Try.func108 rfl ?_
 refine gs<|g0 j j (q (oBx j xB j (tkI (tkI (tkI tk0))))<|q (ah j j)<|nl)<|us<|gs<|?_
 obtain ⟨x8,hx8,h⟩:=bs h
 refine g0 j j (q (oFA (r':=.mp 1 0 0) j KP j j)<|q (oLd (cs:=[.im 0 _]) j tF9 j j)<|q (oCa (xs:=[.v false [.im 0 _]]) (vs:=[(false,[.im 0 _]),(false,[.im 0 _])]) (v:=.tup [(false,[.im 0 _]),(false,[.im 0 _])]) (BK hx8) (.inl j) j VO j (ppC j pp0) j j pb0 j j j)<|q (EN j j)<|q (oEx j j j)<|q (oEx j j j)<|q (ah j j)<|q (ah j j)<|nl)<|us<|gs<|?_
 obtain ⟨Ov,hm4,h⟩:=bs h
 refine gX YG j j j (mk [(2,bv Ov)] []) ?_ ?_
 ·refine xq (oMv j j)<|xq (oMv j j)<|?_
  refine ic hm4 (fun hc1 hm4=>?_) fun hc1 hm4=>?_
  ·obtain ⟨x15,KW,hm4⟩:=bs hm4
   refine xqT j j (iR.2 hc1) (oFA (r':=.mp 1 0 1) j CZ j j)<|xqT j j (iR.2 hc1) (oLd (cs:=[.im 0 _]) j tF2 j j)<|xqT j j (iR.2 hc1) (oCa (xs:=[.v false [.im 0 _],.v false [.im 0 _],.v false [.im 0 _]]) (vs:=[(false,[.im 0 _])]) (v:=.v false [.im 0 _]) (eu KW) (.inl j) j iL j (ppC j (ppC j (ppC j pp0))) j j pb0 j j j)<|xq (dn j j (iR.2 hc1) j)<|xq (oMv j j)<|?_
   refine ic hm4 (fun hc2 hm4=>?_) fun hc2 hm4=>?_
   ·obtain ⟨x22,A8,hm4⟩:=bs hm4
    refine xqT j j (iR.2 hc2) (oFA (r':=.mp 1 0 1) j CZ j j)<|xqT j j (iR.2 hc2) (oLd (cs:=[.im 0 _]) j tF2 j j)<|xqT j j (iR.2 hc2) (oMv j j)<|xqT j j (iR.2 hc2) (oBi j j j j)<|xqT j j (iR.2 hc2) (oCa (xs:=[.v false [.im 0 _],.v false [.im 0 _],.v false [.im 0 _]]) (vs:=[(false,[.im 0 _])]) (v:=.v false [.im 0 _]) (eu A8) (.inl j) j iL j (ppC j (ppC j (ppC j pp0))) j j pb0 j j j)<|xq (dn j j (iR.2 hc2) j)<|xq (oMv j j)<|?_
    refine ic hm4 (fun hc3 hm4=>?_) fun hc3 hm4=>?_
    ·obtain ⟨x27,hx27,hm4⟩:=bs hm4
     cases hm4
     exact xqT j j (iR.2 hc3) (oFA (r':=.mp 1 0 2) j Ir j j)<|xqT j j (iR.2 hc3) (oLd (cs:=[.im 0 _]) j tF2 j j)<|xqT j j (iR.2 hc3) (oCa (xs:=[.v false [.im 0 _],.v false [.im 0 _],.v false [.im 0 _]]) (vs:=[(false,[.im 0 _])]) (v:=.v false [.im 0 _]) (eu hx27) (.inl j) j iL j (ppC j (ppC j (ppC j pp0))) j j pb0 j j j)<|xq (dn j j (iR.2 hc3) j)<|xq (ah j j)<|xn
    ·cases hm4
     exact az j j (byF iR hc3) j<|az j j (byF iR hc3) j<|az j j (byF iR hc3) j<|xq (gY j j (byF iR hc3) j)<|xq (ah j j)<|xn
   ·cases hm4
    exact az j j (byF iR hc2) j<|az j j (byF iR hc2) j<|az j j (byF iR hc2) j<|az j j (byF iR hc2) j<|az j j (byF iR hc2) j<|xq (gY j j (byF iR hc2) j)<|xq (oMv j j)<|az j j j j<|az j j j j<|az j j j j<|xq (gY j j j j)<|xq (ah j j)<|xn
  ·cases hm4
   exact az j j (byF iR hc1) j<|az j j (byF iR hc1) j<|az j j (byF iR hc1) j<|xq (gY j j (byF iR hc1) j)<|xq (oMv j j)<|az j j j j<|az j j j j<|az j j j j<|az j j j j<|az j j j j<|xq (gY j j j j)<|xq (oMv j j)<|az j j j j<|az j j j j<|az j j j j<|xq (gY j j j j)<|xq (ah j j)<|xn
 ·refine us<|Go.ret (Unw.ret ?_)
  cases h
  exact fr YP j
theorem Fv {b_0:bD} {nM:Int} {jV:Int} {r:Bool} (h:og b_0 nM jV=some r):FX 111 [.im 2 true (Gt b_0),.im 2 false [I nM],.im 2 false [I jV]] (B0 [(false,[.im 0 (V r)])]):=by
 unfold og at h
 refine gn 35 Try.func111 rfl ?_
 refine gs<|g0 j j (q (oBx j Ei j (tkI (tkI (tkI (tkI tk0)))))<|q (ah j j)<|nl)<|us<|gs<|?_
 obtain ⟨x10,Ba,h⟩:=bs h
 obtain ⟨wO,hm4,h⟩:=bs h
 refine gX YH j j j (mk [(6,bv wO)] []) ?_ ?_
 ·refine xq (oFA (r':=.mp 3 0 0) j KL j j)<|xq (oLd (cs:=[.im 0 _]) j tF2 j j)<|xq (oMv j j)<|xq (oCa (xs:=[.v false [.im 0 _],.v false [.im 0 _],.v false [.im 2 _]]) (vs:=[(false,[.im 0 _])]) (v:=.v false [.im 0 _]) (eu Ba) (.inl j) j iL j (ppC j (ppC j (ppC j pp0))) j j pb0 j j j)<|xq (oMv j j)<|?_
  refine ic hm4 (fun hc1 hm4=>?_) fun hc1 hm4=>?_
  ·obtain ⟨x15,KW,hm4⟩:=bs hm4
   refine xqT j j (iR.2 hc1) (oFA (r':=.mp 3 0 1) j Gu j j)<|xqT j j (iR.2 hc1) (oLd (cs:=[.im 0 _]) j tF2 j j)<|xqT j j (iR.2 hc1) (oMv j j)<|xqT j j (iR.2 hc1) (oCa (xs:=[.v false [.im 0 _],.v false [.im 0 _],.v false [.im 2 _]]) (vs:=[(false,[.im 0 _])]) (v:=.v false [.im 0 _]) (eu KW) (.inl j) j iL j (ppC j (ppC j (ppC j pp0))) j j pb0 j j j)<|xq (dn j j (iR.2 hc1) j)<|xq (oMv j j)<|?_
   refine ic hm4 (fun hc2 hm4=>?_) fun hc2 hm4=>?_
   ·obtain ⟨x24,hx24,hm4⟩:=bs hm4
    refine xqT j j (iR.2 hc2) (oFA (r':=.mp 3 0 2) j Qi j j)<|xqT j j (iR.2 hc2) (oLd (cs:=[.im 0 _]) j tF2 j j)<|xqT j j (iR.2 hc2) (oMv j j)<|xqT j j (iR.2 hc2) (oFA (r':=.mp 3 0 0) j KL j j)<|xqT j j (iR.2 hc2) (oLd (cs:=[.im 0 _]) j tF2 j j)<|xqT j j (iR.2 hc2) (oBi j j j j)<|xqT j j (iR.2 hc2) (oCa (xs:=[.v false [.im 0 _],.v false [.im 0 _],.v false [.im 0 _]]) (vs:=[(false,[.im 0 _])]) (v:=.v false [.im 0 _]) (eu hx24) (.inl j) j iL j (ppC j (ppC j (ppC j pp0))) j j pb0 j j j)<|xq (dn j j (iR.2 hc2) j)<|xq (oMv j j)<|?_
    refine ic hm4 (fun hc3 hm4=>?_) fun hc3 hm4=>?_
    ·obtain ⟨x33,OI,hm4⟩:=bs hm4
     cases hm4
     exact xqT j j (iR.2 hc3) (oFA (r':=.mp 3 0 3) j Qj j j)<|xqT j j (iR.2 hc3) (oLd (cs:=[.im 0 _]) j tF2 j j)<|xqT j j (iR.2 hc3) (oMv j j)<|xqT j j (iR.2 hc3) (oFA (r':=.mp 3 0 1) j Gu j j)<|xqT j j (iR.2 hc3) (oLd (cs:=[.im 0 _]) j tF2 j j)<|xqT j j (iR.2 hc3) (oBi j j j j)<|xqT j j (iR.2 hc3) (oCa (xs:=[.v false [.im 0 _],.v false [.im 0 _],.v false [.im 0 _]]) (vs:=[(false,[.im 0 _])]) (v:=.v false [.im 0 _]) (eu OI) (.inl j) j iL j (ppC j (ppC j (ppC j pp0))) j j pb0 j j j)<|xq (dn j j (iR.2 hc3) j)<|xq (ah j j)<|xn
    ·cases hm4
     exact az j j (byF iR hc3) j<|az j j (byF iR hc3) j<|az j j (byF iR hc3) j<|az j j (byF iR hc3) j<|az j j (byF iR hc3) j<|az j j (byF iR hc3) j<|az j j (byF iR hc3) j<|xq (gY j j (byF iR hc3) j)<|xq (ah j j)<|xn
   ·cases hm4
    exact az j j (byF iR hc2) j<|az j j (byF iR hc2) j<|az j j (byF iR hc2) j<|az j j (byF iR hc2) j<|az j j (byF iR hc2) j<|az j j (byF iR hc2) j<|az j j (byF iR hc2) j<|xq (gY j j (byF iR hc2) j)<|xq (oMv j j)<|az j j j j<|az j j j j<|az j j j j<|az j j j j<|az j j j j<|az j j j j<|az j j j j<|xq (gY j j j j)<|xq (ah j j)<|xn
  ·cases hm4
   exact az j j (byF iR hc1) j<|az j j (byF iR hc1) j<|az j j (byF iR hc1) j<|az j j (byF iR hc1) j<|xq (gY j j (byF iR hc1) j)<|xq (oMv j j)<|az j j j j<|az j j j j<|az j j j j<|az j j j j<|az j j j j<|az j j j j<|az j j j j<|xq (gY j j j j)<|xq (oMv j j)<|az j j j j<|az j j j j<|az j j j j<|az j j j j<|az j j j j<|az j j j j<|az j j j j<|xq (gY j j j j)<|xq (ah j j)<|xn
 ·refine us<|Go.ret (Unw.ret ?_)
  cases h
  exact fr YS j
theorem BL {b_0:bD} {Ox:ByteArray} {Oy:ByteArray} {Oz:Int} {OA:ByteArray} {OB:Int} {OC:Int} {Ky:Int} {Kz:Int} {OD:(List bD)} {r:Bool} (h:gG b_0 Ox Oy Oz OA OB OC Ky Kz OD=some r):FX 110 [.im 2 true (Gt b_0),.im 2 false [.cp [Y Ox,Y Oy,I Oz,Y OA,I OB,I OC,I Ky,I Kz,W 4 aX OD] 0]] (B0 [(false,[.im 0 (V r)])]):=by
 unfold gG at h
 refine gn 11 Try.func110 rfl ?_
 refine gs<|g0 j j (q (oBx j Ei j (tkI (tkI (tkI (tkI tk0)))))<|q (ah j j)<|nl)<|us<|gs<|?_
 obtain ⟨x9,hx9,h⟩:=bs h
 refine g0 j j (q (oLd (cs:=[.im 0 _,.im 0 _,.im 0 _,.im 0 _]) j Ei j j)<|q (oFA (r':=.im 2 _) j C9 j j)<|q (oLd (cs:=[.im 2 _]) j tF2 j j)<|q (oFA (r':=.im 2 _) j Iu j j)<|q (oLd (cs:=[.im 2 _]) j tF2 j j)<|q (oCa (xs:=[.v true [.im 0 _,.im 0 _,.im 0 _,.im 0 _],.v false [.im 2 _],.v false [.im 2 _]]) (vs:=[(false,[.im 0 _])]) (v:=.v false [.im 0 _]) (Fv hx9) (.inl j) j IZ j (ppC j (ppC j (ppC j pp0))) j j pb0 j j j)<|q (oUn j j j)<|q (ah j j)<|nl)<|us<|Go.ret (Unw.ret ?_)
 cases h
 exact fr YR j
theorem nI {s_0:(List bD)} {zC:ByteArray} {zD:ByteArray} {zF:Int} {zG:ByteArray} {zH:Int} {zI:Int} {zJ:Int} {zK:Int} {zL:(List bD)} {r:Int} (h:eH s_0 (fun b0=>gG b0 zC zD zF zG zH zI zJ zK zL)=some r):FX 148 [.im 2 false [W 4 aX s_0],.im 2 false [.clo 110 [.cp [Y zC,Y zD,I zF,Y zG,I zH,I zI,I zJ,I zK,W 4 aX zL] 0]]] (B0 [(false,[.im 0 (I r)])]):=by
 unfold eH at h
 refine gn 19 Try.func148 rfl ?_
 refine gs<|g0 j j (q (ah j j)<|nl)<|us<|gs<|gs<|g0 j j (q (oMv j j)<|q (qR j j Rj j)<|q (oMv j j)<|nl)<|us<|Go.block<|?_
 obtain ⟨o,hl,h⟩:=bs h
 refine gl c148 j _ (fun (qi:Int)=>mk [(0,D 2 (W 4 aX s_0)),(1,D 2 (.clo 110 [.cp [Y zC,Y zD,I zF,Y zG,I zH,I zI,I zJ,I zK,W 4 aX zL] 0])),(7,iv (s_0.length:Int)),(8,iv qi)] []) (fun (o:(Unit ⊕ Int)) (p:Ex×St)=>match o with | (.inl _)=>p.1= .exit 0∧p.2.norm ([],[])=mk [] [] | (.inr r2)=>p.1= .ret∧fin Try.prog cfg 148 Try.f148 [.im 2 false [W 4 aX s_0],.im 2 false [.clo 110 [.cp [Y zC,Y zD,I zF,Y zG,I zH,I zI,I zJ,I zK,W 4 aX zL] 0]]] p.2=some (B0 [(false,[.im 0 (I r2)])])) hl (by kernel_rfl) ?_ ?_ ?_
 ·intro o p hp e
  rcases o with u | r2<;>exact nomatch (hp.1.symm.trans e)
 ·rintro qi o h
  unfold bT at h
  refine gs<|g0 j j (q (oBi j j j j)<|nl)<|us<|gs<|gc h j af (fun hc5 h=>?_) fun hc5 h=>?_
  ·refine Go.skip<|us<|gs<|Go.block<|gs<|g0 j j (q (oMv j j)<|q (ah j j)<|nl)<|us<|gs<|?_
   obtain ⟨x14,Fj,h⟩:=bs h
   obtain ⟨x16,hx16,h⟩:=bs h
   refine g0 j j (q (oMv j j)<|q (oMv j j)<|q (oMv j j)<|q (qf j Fj Nj j j)<|q (oLd (cs:=[.im 2 _,.im 2 _,.im 2 _,.im 2 _]) j Ei j j)<|q (oCa (xs:=[.v true [.im 2 _,.im 2 _,.im 2 _,.im 2 _],.v false [.im 2 _]]) (vs:=[(false,[.im 0 _])]) (v:=.v false [.im 0 _]) (BL hx16) (.inr ⟨_,_,j,j⟩) j MZ j (ppC j (ppC j pp0)) j j pb0 j j j)<|nl)<|us<|gc h j iR (fun hc6 h=>?_) fun hc6 h=>?_
   ·refine gs<|g0 j j (q (oMv j j)<|q (ah j j)<|nl)<|us<|Go.ret (Unw.ret ?_)
    cases h
    exact ⟨j,(fo WQ j)⟩
   ·refine Go.skip<|Unw.blk<|us<|g0 j j (q (oBi j j j j)<|q (oMv j j)<|nl)<|Unw.nil<|?_
    cases h
    exact ⟨j,(by kernel_rfl)⟩
  ·refine Go.exit<|ux<|Unw.nil<|?_
   cases h
   exact ⟨j,(by kernel_rfl)⟩
 ·rintro ⟨e,st⟩ hp
  rcases o with u | r2
  ·dsimp only at h
   obtain ⟨he,hst⟩:=hp
   obtain rfl:e= .exit 0:=he
   refine Unw.ve<|us<|gs<|g2 c148 j j hst (q (ah j j)<|nl)<|us<|Go.ret (Unw.ret ?_)
   cases h
   exact fr WQ j
  ·dsimp only at h
   obtain ⟨he,hfin⟩:=hp
   obtain rfl:e= .ret:=he
   cases h
   exact Unw.ret (vg hfin)
theorem lW {s_0:(List bD)} {zC:ByteArray} {zD:ByteArray} {zF:Int} {zG:ByteArray} {zH:Int} {zI:Int} {zJ:Int} {zK:Int} {zL:(List bD)} {r:Bool} (h:bU s_0 (fun b0=>gG b0 zC zD zF zG zH zI zJ zK zL)=some r):FX 109 [.im 2 false [W 4 aX s_0],.im 2 false [.clo 110 [.cp [Y zC,Y zD,I zF,Y zG,I zH,I zI,I zJ,I zK,W 4 aX zL] 0]]] (B0 [(false,[.im 0 (V r)])]):=by
 unfold bU at h
 refine gn 9 Try.func109 rfl ?_
 refine gs<|g0 j j (q (ah j j)<|nl)<|us<|gs<|?_
 obtain ⟨x7,hx7,h⟩:=bs h
 refine g0 j j (q (oMv j j)<|q (oMv j j)<|q (oCa (xs:=[.v false [.im 2 _],.v false [.im 2 _]]) (vs:=[(false,[.im 0 _])]) (v:=.v false [.im 0 _]) (nI hx7) (.inl j) j KT j (ppC j (ppC j pp0)) j j pb0 j j j)<|q (oBi j j j j)<|q (ah j j)<|nl)<|us<|Go.ret (Unw.ret ?_)
 cases h
 exact fr YQ j
theorem lU {l_0:ak} {r:Bool} (h:iJ l_0=some r):FX 65 [.im 2 true (gW l_0)] (B0 [(false,[.im 0 (V r)])]):=by
 unfold iJ at h
 refine gn 46 Try.func65 rfl ?_
 refine gs<|g0 j j (q (oBx j lT j (tkI (tkI (tkI (tkI (tkI (tkI (tkI (tkI (tkI tk0))))))))))<|q (ah j j)<|nl)<|us<|gs<|gs<|?_
 obtain ⟨x5,hx5,h⟩:=bs h
 obtain ⟨KA,hm9,h⟩:=bs h
 refine gX c65 j j (st1:=mk [(1,M 1)] [(1,Oa (G 2 (gW l_0)))]) (by kernel_rfl) (mk [(1,M 1),(24,bv KA)] [(1,Oa (G 2 (gW l_0)))]) ?_ ?_
 ·refine xq (oFA (r':=.mp 1 0 0) j OE j j)<|xq (oLd (cs:=[.im 0 _]) j tF9 j j)<|xq (oCa (xs:=[.v false [.im 0 _]]) (vs:=[(false,[.im 0 _])]) (v:=.v false [.im 0 _]) (BV hx5) (.inl j) j Qk j (ppC j pp0) j j pb0 j j j)<|xq (oUn j j j)<|xq (oMv j j)<|?_
  refine ic hm9 (fun hc1 hm9=>?_) fun hc1 hm9=>?_
  ·obtain ⟨x10,Ba,hm9⟩:=bs hm9
   refine xqT j j (nF (iR.2 hc1)) (oFA (r':=.mp 1 0 1) j EX j j)<|xqT j j (nF (iR.2 hc1)) (oLd (cs:=[.im 0 _]) j tF9 j j)<|xqT j j (nF (iR.2 hc1)) (oCa (xs:=[.v false [.im 0 _]]) (vs:=[(false,[.im 0 _])]) (v:=.v false [.im 0 _]) (BV Ba) (.inl j) j Qk j (ppC j pp0) j j pb0 j j j)<|xqT j j (nF (iR.2 hc1)) (oUn j j j)<|xq (gY j j (nF (iR.2 hc1)) j)<|xq (oMv j j)<|?_
   refine ic hm9 (fun hc2 hm9=>?_) fun hc2 hm9=>?_
   ·obtain ⟨x16,hx16,hm9⟩:=bs hm9
    refine xqT j j (nF (iR.2 hc2)) (oFA (r':=.mp 1 0 2) j zA j j)<|xqT j j (nF (iR.2 hc2)) (oLd (cs:=[.im 0 _]) j tF2 j j)<|xqT j j (nF (iR.2 hc2)) (oCa (xs:=[.v false [.im 0 _],.v false [.im 0 _],.v false [.im 0 _]]) (vs:=[(false,[.im 0 _])]) (v:=.v false [.im 0 _]) (eu hx16) (.inl j) j iL j (ppC j (ppC j (ppC j pp0))) j j pb0 j j j)<|xqT j j (nF (iR.2 hc2)) (oUn j j j)<|xq (gY j j (nF (iR.2 hc2)) j)<|xq (oMv j j)<|?_
    refine ic hm9 (fun hc3 hm9=>?_) fun hc3 hm9=>?_
    ·obtain ⟨x22,A8,hm9⟩:=bs hm9
     cases hm9
     exact xqT j j (nF (iR.2 hc3)) (oFA (r':=.mp 1 0 3) j xm j j)<|xqT j j (nF (iR.2 hc3)) (oLd (cs:=[.im 0 _,.im 0 _,.im 0 _]) j xB j j)<|xqT j j (nF (iR.2 hc3)) (oCa (xs:=[.v true [.im 0 _,.im 0 _,.im 0 _]]) (vs:=[(false,[.im 0 _])]) (v:=.v false [.im 0 _]) (Dl A8) (.inl j) j TY j (ppC j pp0) j j pb0 j j j)<|xqT j j (nF (iR.2 hc3)) (oUn j j j)<|xq (gY j j (nF (iR.2 hc3)) j)<|xn
    ·cases hm9
     exact az j j (nT (byF iR hc3)) j<|az j j (nT (byF iR hc3)) j<|az j j (nT (byF iR hc3)) j<|az j j (nT (byF iR hc3)) j<|xq (dn j j (nT (byF iR hc3)) j)<|xn
   ·cases hm9
    exact az j j (nT (byF iR hc2)) j<|az j j (nT (byF iR hc2)) j<|az j j (nT (byF iR hc2)) j<|az j j (nT (byF iR hc2)) j<|xq (dn j j (nT (byF iR hc2)) j)<|xq (oMv j j)<|az j j j j<|az j j j j<|az j j j j<|az j j j j<|xq (dn j j j j)<|xn
  ·cases hm9
   exact az j j (nT (byF iR hc1)) j<|az j j (nT (byF iR hc1)) j<|az j j (nT (byF iR hc1)) j<|az j j (nT (byF iR hc1)) j<|xq (dn j j (nT (byF iR hc1)) j)<|xq (oMv j j)<|az j j j j<|az j j j j<|az j j j j<|az j j j j<|xq (dn j j j j)<|xq (oMv j j)<|az j j j j<|az j j j j<|az j j j j<|az j j j j<|xq (dn j j j j)<|xn
 ·refine us<|gc h j iR (fun hc4 h=>?_) fun hc4 h=>?_
  ·refine gs<|g0 j j (q (ah j j)<|nl)<|us<|Go.ret (Unw.ret ?_)
   cases h
   exact fr XP j
  ·refine Go.skip<|us<|gs<|gs<|?_
   obtain ⟨x27,hx27,h⟩:=bs h
   obtain ⟨KC,hm8,h⟩:=bs h
   refine gX c65 j j j (mk [(1,M 1),(40,bv KC)] [(1,Oa (G 2 (gW l_0)))]) ?_ ?_
   ·refine xq (oFA (r':=.mp 1 0 6) j C9 j j)<|xq (oLd (cs:=[.im 0 _]) j tF2 j j)<|xq (oCa (xs:=[.v false [.im 0 _],.v false [.im 0 _],.v false [.im 0 _]]) (vs:=[(false,[.im 0 _])]) (v:=.v false [.im 0 _]) (eu hx27) (.inl j) j iL j (ppC j (ppC j (ppC j pp0))) j j pb0 j j j)<|xq (oUn j j j)<|xq (oMv j j)<|?_
    refine ic hm8 (fun hc5 hm8=>?_) fun hc5 hm8=>?_
    ·obtain ⟨x32,hx32,hm8⟩:=bs hm8
     refine xqT j j (nF (iR.2 hc5)) (oFA (r':=.mp 1 0 7) j Iu j j)<|xqT j j (nF (iR.2 hc5)) (oLd (cs:=[.im 0 _]) j tF2 j j)<|xqT j j (nF (iR.2 hc5)) (oCa (xs:=[.v false [.im 0 _],.v false [.im 0 _],.v false [.im 0 _]]) (vs:=[(false,[.im 0 _])]) (v:=.v false [.im 0 _]) (eu hx32) (.inl j) j iL j (ppC j (ppC j (ppC j pp0))) j j pb0 j j j)<|xqT j j (nF (iR.2 hc5)) (oUn j j j)<|xq (gY j j (nF (iR.2 hc5)) j)<|xq (oMv j j)<|?_
     refine ic hm8 (fun hc6 hm8=>?_) fun hc6 hm8=>?_
     ·cases hm8
      exact xqT j j (nF (iR.2 hc6)) (oFA (r':=.mp 1 0 8) j xU j j)<|xqT j j (nF (iR.2 hc6)) (oLd (cs:=[.im 2 _]) j I4 j j)<|xqT j j (nF (iR.2 hc6)) (qR j j Rj j)<|xqT j j (nF (iR.2 hc6)) (oBi j j j j)<|xq (gY j j (nF (iR.2 hc6)) j)<|xn
     ·cases hm8
      exact az j j (nT (byF iR hc6)) j<|az j j (nT (byF iR hc6)) j<|az j j (nT (byF iR hc6)) j<|az j j (nT (byF iR hc6)) j<|xq (dn j j (nT (byF iR hc6)) j)<|xn
    ·cases hm8
     exact az j j (nT (byF iR hc5)) j<|az j j (nT (byF iR hc5)) j<|az j j (nT (byF iR hc5)) j<|az j j (nT (byF iR hc5)) j<|xq (dn j j (nT (byF iR hc5)) j)<|xq (oMv j j)<|az j j j j<|az j j j j<|az j j j j<|az j j j j<|xq (dn j j j j)<|xn
   ·refine us<|gc h j iR (fun hc7 h=>?_) fun hc7 h=>?_
    ·refine gs<|g0 j j (q (ah j j)<|nl)<|us<|Go.ret (Unw.ret ?_)
     cases h
     exact fr XP j
    ·refine Go.skip<|us<|gs<|?_
     obtain ⟨x44,KX,h⟩:=bs h
     refine g0 j j (q (oFA (r':=.mp 1 0 8) j xU j j)<|q (oLd (cs:=[.im 2 _]) j I4 j j)<|q (oMF (rs:=[.mp 1 0 0]) j j)<|q (oCa (xs:=[.v false [.im 2 _],.fn 110 [.mp 1 0 0]]) (vs:=[(false,[.im 0 _])]) (v:=.v false [.im 0 _]) (lW KX) (.inl j) j KQ j (ppC j (ppC j pp0)) j j pb0 j j j)<|q (oUn j j j)<|q (ah j j)<|nl)<|us<|Go.ret (Unw.ret ?_)
     cases h
     exact fr XP j
theorem mJ {aC:(List ak)} {r:Bool} (h:di aC=some r):FX 46 [.im 2 false [W 9 ae aC]] (B0 [(false,[.im 0 (V r)])]):=by
 unfold di at h
 refine gn 34 Try.func46 rfl ?_
 refine gs<|g0 j j (q (ah j j)<|nl)<|us<|gs<|gs<|g0 j j (q (oMv j j)<|q (qR j j y5 j)<|q (oMv j j)<|nl)<|us<|Go.block<|?_
 obtain ⟨o,hl,h⟩:=bs h
 refine gl c46 j _ (fun (wP:Int)=>mk [(0,D 2 (W 9 ae aC)),(5,D 2 (W 9 ae aC)),(6,iv (aC.length:Int)),(7,iv wP)] []) (fun (o:(Unit ⊕ Bool)) (p:Ex×St)=>match o with | (.inl _)=>p.1= .exit 0∧p.2.norm ([0],[])=mk [(0,D 2 (W 9 ae aC))] [] | (.inr r2)=>p.1= .ret∧fin Try.prog cfg 46 Try.f46 [.im 2 false [W 9 ae aC]] p.2=some (B0 [(false,[.im 0 (V r2)])])) hl (by kernel_rfl) ?_ ?_ ?_
 ·intro o p hp e
  rcases o with u | r2<;>exact nomatch (hp.1.symm.trans e)
 ·rintro wP o h
  unfold jM at h
  refine gs<|g0 j j (q (oBi j j j j)<|nl)<|us<|gs<|gc h j af (fun OJ h=>?_) fun OJ h=>?_
  ·refine Go.skip<|us<|gs<|Go.block<|gs<|?_
   obtain ⟨x10,Ba,h⟩:=bs h
   refine g0 j j (q (oMv j j)<|q (qf j Ba tC j j)<|q (oLd (cs:=[.im 2 _,.im 2 _,.im 2 _,.im 2 _,.im 2 _,.im 2 _,.im 2 _,.im 2 _,.im 2 _]) j lT j j)<|q (oAl j lT (tkI (tkI (tkI (tkI (tkI (tkI (tkI (tkI (tkN tk0))))))))))<|q (ah j j)<|q (oSt lT j j j (tkI (tkI (tkI (tkI (tkI (tkI (tkI (tkI (tkI tk0))))))))) j j j)<|nl)<|us<|gs<|?_
   obtain ⟨x13,Fh,h⟩:=bs h
   obtain ⟨KD,IG,h⟩:=bs h
   refine gd c46 j j j (st1:=mk [(0,D 2 (W 9 ae aC)),(3,iv wP),(4,M 4),(5,D 2 (W 9 ae aC)),(6,iv (aC.length:Int)),(7,iv wP)] [(4,Oa (G 2 (gW x10)))]) (by kernel_rfl) (mk [(0,D 2 (W 9 ae aC)),(5,D 2 (W 9 ae aC)),(6,iv (aC.length:Int)),(7,iv wP),(29,bv KD)] []) ?_ ?_
   ·refine ic IG (fun hc12 IG=>?_) fun hc12 IG=>?_
    ·refine ic IG (fun hc13 IG=>?_) fun hc13 IG=>?_
     ·obtain ⟨x22,A8,IG⟩:=bs IG
      cases IG
      exact t j j (oLd (cs:=[.im 0 _,.im 0 _,.im 0 _,.im 0 _,.im 0 _,.im 0 _,.im 0 _,.im 0 _,.im 2 _]) j lT j j)<|sS (dN z46 j (oCa (xs:=[.v true [.im 0 _,.im 0 _,.im 0 _,.im 0 _,.im 0 _,.im 0 _,.im 0 _,.im 0 _,.im 2 _]]) (vs:=[(false,[.im 0 _])]) (v:=.v false [.im 0 _]) (lU Fh) (.inl j) j Eh j (ppC j pp0) j j pb0 j j j)) trivial (t j j (oUn j j j)<|t j j (oMv j j)<|tT j j j j (nF (iR.2 hc12)) (oMv j j)<|tT j j j j (nF (iR.2 hc12)) (oBi j j j j)<|tT j j j j (nF (iR.2 hc12)) (oMv j j)<|tT j j j j (af.2 hc13) (oMv j j)<|tT j j j j (af.2 hc13) (oMv j j)<|tT j j j j (af.2 hc13) (oBi j j j j)<|tT j j j j (af.2 hc13) (qf j A8 tC j j)<|tT j j j j (af.2 hc13) (oFA (r':=.im 2 _) j OE j j)<|tT j j j j (af.2 hc13) (oLd (cs:=[.im 2 _]) j tF9 j j)<|tT j j j j (af.2 hc13) (oFA (r':=.mp 4 0 0) j OE j j)<|tT j j j j (af.2 hc13) (oLd (cs:=[.im 0 _]) j tF9 j j)<|tT j j j j (af.2 hc13) (oBi j j j j)<|tT j j j j (nF (iR.2 hc12)) (dn j j (af.2 hc13) j)<|t j j (gY j j (nF (iR.2 hc12)) j)<|sD (by kernel_rfl))
     ·cases IG
      exact t j j (oLd (cs:=[.im 0 _,.im 0 _,.im 0 _,.im 0 _,.im 0 _,.im 0 _,.im 0 _,.im 0 _,.im 2 _]) j lT j j)<|sS (dN z46 j (oCa (xs:=[.v true [.im 0 _,.im 0 _,.im 0 _,.im 0 _,.im 0 _,.im 0 _,.im 0 _,.im 0 _,.im 2 _]]) (vs:=[(false,[.im 0 _])]) (v:=.v false [.im 0 _]) (lU Fh) (.inl j) j Eh j (ppC j pp0) j j pb0 j j j)) trivial (t j j (oUn j j j)<|t j j (oMv j j)<|tT j j j j (nF (iR.2 hc12)) (oMv j j)<|tT j j j j (nF (iR.2 hc12)) (oBi j j j j)<|tT j j j j (nF (iR.2 hc12)) (oMv j j)<|tF j j j j (byF af hc13) j<|tF j j j j (byF af hc13) j<|tF j j j j (byF af hc13) j<|tF j j j j (byF af hc13) j<|tF j j j j (byF af hc13) j<|tF j j j j (byF af hc13) j<|tF j j j j (byF af hc13) j<|tF j j j j (byF af hc13) j<|tF j j j j (byF af hc13) j<|tT j j j j (nF (iR.2 hc12)) (gY j j (byF af hc13) j)<|t j j (gY j j (nF (iR.2 hc12)) j)<|sD (by kernel_rfl))
    ·cases IG
     exact t j j (oLd (cs:=[.im 0 _,.im 0 _,.im 0 _,.im 0 _,.im 0 _,.im 0 _,.im 0 _,.im 0 _,.im 2 _]) j lT j j)<|sS (dN z46 j (oCa (xs:=[.v true [.im 0 _,.im 0 _,.im 0 _,.im 0 _,.im 0 _,.im 0 _,.im 0 _,.im 0 _,.im 2 _]]) (vs:=[(false,[.im 0 _])]) (v:=.v false [.im 0 _]) (lU Fh) (.inl j) j Eh j (ppC j pp0) j j pb0 j j j)) trivial (t j j (oUn j j j)<|t j j (oMv j j)<|tF j j j j (nT (byF iR hc12)) j<|tF j j j j (nT (byF iR hc12)) j<|tF j j j j (nT (byF iR hc12)) j<|sT j (dU j j j j)<|sT j (dU j j j j)<|sT j (dU j j j j)<|sT j (dU j j j j)<|sT j (dU j j j j)<|sT j (dU j j j j)<|sT j (dU j j j j)<|sT j (dU j j j j)<|sT j (dU j j j j)<|tF j j j j (nT (byF iR hc12)) j<|t j j (dn j j (nT (byF iR hc12)) j)<|sD (by kernel_rfl))
   ·refine us<|gc h j iR (fun uM h=>?_) fun uM h=>?_
    ·refine gs<|g0 j j (q (ah j j)<|nl)<|us<|Go.ret (Unw.ret ?_)
     cases h
     exact ⟨j,(fo Y7 j)⟩
    ·refine Go.skip<|Unw.blk<|us<|g0 j j (q (oBi j j j j)<|q (oMv j j)<|nl)<|Unw.nil<|?_
     cases h
     exact ⟨j,(by kernel_rfl)⟩
  ·refine Go.exit<|ux<|Unw.nil<|?_
   cases h
   exact ⟨j,(by kernel_rfl)⟩
 ·rintro ⟨e,st⟩ hp
  rcases o with u | r2
  ·dsimp only at h
   obtain ⟨he,hst⟩:=hp
   obtain rfl:e= .exit 0:=he
   refine Unw.ve<|us<|gs<|g2 c46 j j hst (q (oMv j j)<|q (qR j j y5 j)<|q (oBi j j j j)<|q (ah j j)<|nl)<|us<|Go.ret (Unw.ret ?_)
   cases h
   exact fr Y7 j
  ·dsimp only at h
   obtain ⟨he,hfin⟩:=hp
   obtain rfl:e= .ret:=he
   cases h
   exact Unw.ret (vg hfin)
theorem Dn {Gs:Int} {r:Int} (h:lM Gs=some r):FX 100 [.im 2 false [I Gs]] (B0 [(false,[.im 0 (I r)])]):=by
 unfold lM at h
 refine gn 6 Try.func100 rfl ?_
 refine gs<|g0 j j (q (ah j j)<|nl)<|us<|gs<|?_
 obtain ⟨x5,hx5,h⟩:=bs h
 refine g0 j j (q (oMv j j)<|q (oBi j j j j)<|q (Xv j hx5 j j)<|q (ah j j)<|nl)<|us<|Go.ret (Unw.ret ?_)
 cases h
 exact fr YM j
theorem Eo {a_0:Int} {b_1:Int} {r:(Int×Int)} (h:mV a_0 b_1=some r):FX 101 [.im 2 false [I a_0],.im 2 false [I b_1]] (B0 [(false,[.im 0 (I r.1)]),(false,[.im 0 (I r.2)])]):=by
 unfold mV at h
 refine gn 26 Try.func101 rfl ?_
 refine gs<|g0 j j (q (ah j j)<|q (ah j j)<|nl)<|us<|gs<|gs<|?_
 obtain ⟨x8,hx8,h⟩:=bs h
 obtain ⟨KE,hm3,h⟩:=bs h
 refine gX YE j j j (mk [(0,iv a_0),(1,iv b_1),(14,bv KE)] []) ?_ ?_
 ·refine xq (oMv j j)<|xq (oCa (xs:=[.v false [.im 2 _],.v false [.im 0 _],.v false [.im 0 _]]) (vs:=[(false,[.im 0 _])]) (v:=.v false [.im 0 _]) (eu hx8) (.inl j) j iL j (ppC j (ppC j (ppC j pp0))) j j pb0 j j j)<|xq (oUn j j j)<|xq (oMv j j)<|?_
  refine ic hm3 (fun hc1 hm3=>?_) fun hc1 hm3=>?_
  ·obtain ⟨x12,Ui,hm3⟩:=bs hm3
   cases hm3
   exact xqT j j (nF (iR.2 hc1)) (oMv j j)<|xqT j j (nF (iR.2 hc1)) (oCa (xs:=[.v false [.im 2 _],.v false [.im 0 _],.v false [.im 0 _]]) (vs:=[(false,[.im 0 _])]) (v:=.v false [.im 0 _]) (eu Ui) (.inl j) j iL j (ppC j (ppC j (ppC j pp0))) j j pb0 j j j)<|xqT j j (nF (iR.2 hc1)) (oUn j j j)<|xq (gY j j (nF (iR.2 hc1)) j)<|xn
  ·cases hm3
   exact az j j (nT (byF iR hc1)) j<|az j j (nT (byF iR hc1)) j<|az j j (nT (byF iR hc1)) j<|xq (dn j j (nT (byF iR hc1)) j)<|xn
 ·refine us<|gc h j iR (fun hc2 h=>?_) fun hc2 h=>?_
  ·refine gs<|g0 j j (q (ah j j)<|q (ah j j)<|nl)<|us<|Go.ret (Unw.ret ?_)
   cases h
   exact fr WJ j
  ·refine Go.skip<|us<|gs<|g0 j j (q (oMv j j)<|q (oMv j j)<|q (oBi j j j j)<|q (oMv j j)<|q (oMv j j)<|q (oBi j j j j)<|q (Xx j j)<|q (ah j j)<|nl)<|us<|gs<|g0 j j (q (oMv j j)<|q (oMv j j)<|q (oBi j j j j)<|q (Yy j j)<|q (ah j j)<|q (ah j j)<|nl)<|us<|Go.ret (Unw.ret ?_)
   cases h
   exact fr WJ j
theorem rH {a_0:ak} {b_1:ak} {eX:Bool} {r:Int} (h:je a_0 b_1 eX=some r):FX 59 [.im 2 true (gW a_0),.im 2 true (gW b_1),.im 2 false [V eX]] (B0 [(false,[.im 0 (I r)])]):=by
 unfold je at h
 refine gn 74 Try.func59 rfl ?_
 refine gs<|g0 j j (q (oBx j lT j (tkI (tkI (tkI (tkI (tkI (tkI (tkI (tkI (tkI tk0))))))))))<|q (oBx j lT j (tkI (tkI (tkI (tkI (tkI (tkI (tkI (tkI (tkI tk0))))))))))<|q (ah j j)<|nl)<|us<|gs<|g1 j j (mk [(2,bv eX),(3,M 3),(4,M 4)] [(3,Oa (G 2 (gW a_0))),(4,Oa (G 2 (gW b_1)))]) (q (oFA (r':=.mp 4 0 3) j xm j j)<|q (oFA (r':=.mp 4 0 5) j Ir j j)<|q (oLd (cs:=[.im 0 _]) j tF2 j j)<|q (ah j j)<|nl)<|us<|gs<|gs<|g0 j j (q (oMv j j)<|nl)<|us<|Go.join (fun st=>∃wR,ny a_0 b_1 wR=some r∧st.norm ([3,4,7],[3,4])=mk [(3,M 3),(4,M 4),(7,iv wR)] [(3,Oa (G 2 (gW a_0))),(4,Oa (G 2 (gW b_1)))]) ?_ ?_
 ·rintro st ⟨wR,h,hst⟩
  unfold ny at h
  refine us<|gs<|?_
  obtain ⟨x22,A8,h⟩:=bs h
  refine g2 c59 j j hst (q (oFA (r':=.mp 3 0 3) j xm j j)<|q (oFA (r':=.mp 3 0 5) j Ir j j)<|q (oLd (cs:=[.im 0 _]) j tF2 j j)<|q (oMv j j)<|q (oCa (xs:=[.v false [.im 0 _],.v false [.im 0 _]]) (vs:=[(false,[.im 0 _]),(false,[.im 0 _])]) (v:=.tup [(false,[.im 0 _]),(false,[.im 0 _])]) (Eo A8) (.inl j) j Q7 j (ppC j (ppC j pp0)) j j pb0 j j j)<|q (EN j j)<|q (oEx j j j)<|q (oEx j j j)<|q (ah j j)<|q (ah j j)<|nl)<|us<|gs<|g0 j j (q (oFA (r':=.mp 3 0 3) j xm j j)<|q (oFA (r':=.mp 3 0 4) j CZ j j)<|q (oLd (cs:=[.im 0 _]) j tF2 j j)<|q (oFA (r':=.mp 4 0 3) j xm j j)<|q (oFA (r':=.mp 4 0 4) j CZ j j)<|q (oLd (cs:=[.im 0 _]) j tF2 j j)<|q (oBi j j j j)<|q (oFA (r':=.mp 4 0 3) j xm j j)<|q (oFA (r':=.mp 4 0 4) j CZ j j)<|q (oLd (cs:=[.im 0 _]) j tF2 j j)<|q (oFA (r':=.mp 3 0 3) j xm j j)<|q (oFA (r':=.mp 3 0 4) j CZ j j)<|q (oLd (cs:=[.im 0 _]) j tF2 j j)<|q (oBi j j j j)<|q (Xx j j)<|q (oBi j j j j)<|q (oMv j j)<|q (oBi j j j j)<|q (ah j j)<|nl)<|us<|gs<|gs<|g0 j j (q (oFA (r':=.mp 3 0 1) j EX j j)<|q (oLd (cs:=[.im 0 _]) j tF9 j j)<|q (oFA (r':=.mp 4 0 1) j EX j j)<|q (oLd (cs:=[.im 0 _]) j tF9 j j)<|q (oBi j j j j)<|nl)<|us<|Go.join (fun st=>∃qJ,pM a_0 b_1 qJ=some r∧st.norm ([3,4,10],[3,4])=mk [(3,M 3),(4,M 4),(10,iv qJ)] [(3,Oa (G 2 (gW a_0))),(4,Oa (G 2 (gW b_1)))]) ?_ ?_
  ·rintro st ⟨qJ,h,hst⟩
   unfold pM at h
   refine us<|gs<|gs<|g2 c59 j j hst (q (oFA (r':=.mp 3 0 3) j xm j j)<|q (oFA (r':=.mp 3 0 3) j KP j j)<|q (oLd (cs:=[.im 0 _]) j tF9 j j)<|q (oFA (r':=.mp 4 0 3) j xm j j)<|q (oFA (r':=.mp 4 0 3) j KP j j)<|q (oLd (cs:=[.im 0 _]) j tF9 j j)<|q (oBi j j j j)<|nl)<|us<|Go.join (fun st=>∃wQ,oh wQ=some r∧st.norm ([10],[])=mk [(10,iv wQ)] []) ?_ ?_
   ·rintro st ⟨wQ,h,hst⟩
    unfold oh at h
    refine us<|gs<|g2 c59 j j hst (q (oMv j j)<|q (ah j j)<|nl)<|us<|Go.ret (Unw.ret ?_)
    cases h
    exact fr aaG j
   ·intro K4
    refine gc h j (aai FZ) (fun hc5 h=>?_) fun hc5 h=>?_
    ·exact g0 j j (q (oMv j j)<|q (oBi j j j j)<|q (ah j j)<|nl)<|K4 _ ⟨(w64 (qJ+500)),h,(by kernel_rfl)⟩
    ·exact Go.skip<|K4 _ ⟨qJ,h,(by kernel_rfl)⟩
  ·intro K6
   refine gc h j FZ (fun hc7 h=>?_) fun hc7 h=>?_
   ·exact g0 j j (q (oMv j j)<|q (oFA (r':=.mp 3 0 2) j zA j j)<|q (oLd (cs:=[.im 0 _]) j tF2 j j)<|q (oFA (r':=.mp 4 0 2) j zA j j)<|q (oLd (cs:=[.im 0 _]) j tF2 j j)<|q (oBi j j j j)<|q (oFA (r':=.mp 4 0 2) j zA j j)<|q (oLd (cs:=[.im 0 _]) j tF2 j j)<|q (oFA (r':=.mp 3 0 2) j zA j j)<|q (oLd (cs:=[.im 0 _]) j tF2 j j)<|q (oBi j j j j)<|q (Xx j j)<|q (Yy j j)<|q (oBi j j j j)<|q (ah j j)<|nl)<|K6 _ ⟨(w64 ((w64 ((w64 (3* (max2 (w64 (a_0.ai.aW - b_1.ai.aW)) (w64 (b_1.ai.aW - a_0.ai.aW)))))+x22.1))+(min2 (max2 (w64 (a_0.Number - b_1.Number)) (w64 (b_1.Number - a_0.Number))) 20))),h,(by kernel_rfl)⟩
   ·exact g0 j j (q (oMv j j)<|q (oBi j j j j)<|q (ah j j)<|nl)<|K6 _ ⟨(w64 ((w64 ((w64 (3* (max2 (w64 (a_0.ai.aW - b_1.ai.aW)) (w64 (b_1.ai.aW - a_0.ai.aW)))))+x22.1))+500)),h,(by kernel_rfl)⟩
 ·intro K8
  refine gc h j iR (fun hc9 h=>?_) fun hc9 h=>?_
  ·obtain ⟨x16,hx16,h⟩:=bs h
   exact g0 j j (q (oMv j j)<|q (oCa (xs:=[.v false [.im 0 _]]) (vs:=[(false,[.im 0 _])]) (v:=.v false [.im 0 _]) (Dn hx16) (.inl j) j VN j (ppC j pp0) j j pb0 j j j)<|q (ah j j)<|nl)<|K8 _ ⟨x16,h,(by kernel_rfl)⟩
  ·exact Go.skip<|K8 _ ⟨b_1.ai.dP,h,(by kernel_rfl)⟩
theorem rJ {s_0:aI} {Ij:Int} {r:(Bool×aI)} (h:iy s_0 Ij=some r):FX 92 [.ptr true [(.imm,W 9 ae s_0.list),(.imm,V s_0.book),(.imm,I s_0.left),(.imm,V s_0.found),(.sh,W 1 (eL 1 eI) s_0.best),(.imm,I s_0.least)],.im 2 false [I Ij]] ([(false,[.im 0 (V r.1)])],[.ptr true [(.imm,W 9 ae r.2.list),(.imm,V r.2.book),(.imm,I r.2.left),(.imm,V r.2.found),(.sh,W 1 (eL 1 eI) r.2.best),(.imm,I r.2.least)]]):=by
 unfold iy at h
 refine lC (A:=[(0,M 0),(1,D 2 (I Ij))]) (B:=[(0,Od [Ct 1 (W 9 ae s_0.list),C (V s_0.book),C (I s_0.left),C (V s_0.found),Z (W 1 (eL 1 eI) s_0.best),C (I s_0.least)]),(1,none)]) (nt:=36) rfl rfl Try.func92 rfl rfl rfl rfl ?_
 refine gs<|g0 j j (q (ah j j)<|nl)<|us<|gs<|gs<|gX c92 j j j (mk [(0,M 0),(23,bv ((decide (s_0.left<0))||(s_0.found&&(decide (Ij≥s_0.least)))))] [(0,Od [Ct 1 (W 9 ae s_0.list),C (V s_0.book),C (I s_0.left),C (V s_0.found),Z (W 1 (eL 1 eI) s_0.best),C (I s_0.least)])]) ?_ ?_
 ·refine xq (oMv j j)<|xq (oNl j j j)<|xq (oFA (r':=.mp 0 0 2) j Iw j j)<|xq (oLd (cs:=[.im 0 _]) j tF2 j j)<|xq (oBi j j j j)<|xq (oMv j j)<|?_
  by_cases hc1:s_0.left<0
  ·exact az rfl rfl (af.2 hc1) rfl<|az rfl rfl (af.2 hc1) rfl<|az rfl rfl (af.2 hc1) rfl<|az rfl rfl (af.2 hc1) rfl<|az rfl rfl (af.2 hc1) rfl<|IX rfl rfl rfl<|IX rfl rfl rfl<|IX rfl rfl rfl<|IX rfl rfl rfl<|IX rfl rfl rfl<|IX rfl rfl rfl<|az rfl rfl (af.2 hc1) rfl<|xq (dn rfl rfl (af.2 hc1) rfl)<|xn (Eq.trans (b:=(fun rM:Bool=>mk [(0,M 0),(23,bv rM)] [(0,Od [Ct 1 (W 9 ae s_0.list),C (V s_0.book),C (I s_0.left),C (V s_0.found),Z (W 1 (eL 1 eI) s_0.best),C (I s_0.least)])]) true) (by kernel_rfl) (congrArg (fun rM:Bool=>mk [(0,M 0),(23,bv rM)] [(0,Od [Ct 1 (W 9 ae s_0.list),C (V s_0.book),C (I s_0.left),C (V s_0.found),Z (W 1 (eL 1 eI) s_0.best),C (I s_0.least)])]) (by first | rfl | (simp [(af.2 hc1)];done) | (simp [(af.2 hc1)];omega))))
  ·refine xqT j j (byF af hc1) (oMv j j)<|xqT j j (byF af hc1) (oNl j j j)<|xqT j j (byF af hc1) (oFA (r':=.mp 0 0 3) j TV j j)<|xqT j j (byF af hc1) (oLd (cs:=[.im 0 _]) j tF4 j j)<|xqT j j (byF af hc1) (oMv j j)<|?_
   by_cases hc2:s_0.found=true
   ·exact xqT rfl rfl (iR.2 hc2) (oMv rfl rfl)<|xqT rfl rfl (iR.2 hc2) (oMv rfl rfl)<|xqT rfl rfl (iR.2 hc2) (oNl rfl rfl rfl)<|xqT rfl rfl (iR.2 hc2) (oFA (r':=.mp 0 0 5) rfl Iy rfl rfl)<|xqT rfl rfl (iR.2 hc2) (oLd (cs:=[.im 0 _]) rfl tF2 rfl rfl)<|xqT rfl rfl (iR.2 hc2) (oBi rfl rfl rfl rfl)<|xqT rfl rfl (byF af hc1) (dn rfl rfl (iR.2 hc2) rfl)<|xq (gY rfl rfl (byF af hc1) rfl)<|xn (Eq.trans (b:=(fun rM:Bool=>mk [(0,M 0),(23,bv rM)] [(0,Od [Ct 1 (W 9 ae s_0.list),C (V s_0.book),C (I s_0.left),C (V s_0.found),Z (W 1 (eL 1 eI) s_0.best),C (I s_0.least)])]) (decide (Ij≥s_0.least))) (by kernel_rfl) (congrArg (fun rM:Bool=>mk [(0,M 0),(23,bv rM)] [(0,Od [Ct 1 (W 9 ae s_0.list),C (V s_0.book),C (I s_0.left),C (V s_0.found),Z (W 1 (eL 1 eI) s_0.best),C (I s_0.least)])]) (by first | rfl | (simp [(byF af hc1),(iR.2 hc2)];done) | (simp [(byF af hc1),(iR.2 hc2)];omega) | (have q0:=(byF af hc1);have q1:=(iR.2 hc2);simp_all))))
   ·exact az rfl rfl (byF iR hc2) rfl<|az rfl rfl (byF iR hc2) rfl<|az rfl rfl (byF iR hc2) rfl<|az rfl rfl (byF iR hc2) rfl<|az rfl rfl (byF iR hc2) rfl<|az rfl rfl (byF iR hc2) rfl<|xqT rfl rfl (byF af hc1) (gY rfl rfl (byF iR hc2) rfl)<|xq (gY rfl rfl (byF af hc1) rfl)<|xn (Eq.trans (b:=(fun rM:Bool=>mk [(0,M 0),(23,bv rM)] [(0,Od [Ct 1 (W 9 ae s_0.list),C (V s_0.book),C (I s_0.left),C (V s_0.found),Z (W 1 (eL 1 eI) s_0.best),C (I s_0.least)])]) false) (by kernel_rfl) (congrArg (fun rM:Bool=>mk [(0,M 0),(23,bv rM)] [(0,Od [Ct 1 (W 9 ae s_0.list),C (V s_0.book),C (I s_0.left),C (V s_0.found),Z (W 1 (eL 1 eI) s_0.best),C (I s_0.least)])]) (by first | rfl | (simp [(byF af hc1),(byF iR hc2)];done) | (simp [(byF af hc1),(byF iR hc2)];omega) | (have q0:=(byF af hc1);have q1:=(byF iR hc2);simp_all))))
 ·refine us<|gc h j (iOr af (Vh iR af)) (fun hc3 h=>?_) fun hc3 h=>?_
  ·refine gs<|g0 j j (q (ah j j)<|nl)<|us<|Go.ret (Unw.ret ?_)
   cases h
   exact fr Za j
  ·refine Go.skip<|us<|gs<|g0 j j (q (oMv j j)<|q (oNl j j j)<|q (oFA (r':=.mp 0 0 2) j Iw j j)<|q (oLd (cs:=[.im 0 _]) j tF2 j j)<|q (oBi j j j j)<|q (oNl j j j)<|q (oFA (r':=.mp 0 0 2) j Iw j j)<|q (oSt tF2 j j j (tkI tk0) j j j)<|nl)<|us<|gs<|g1 j j (mk [(0,M 0)] [(0,Od [Ct 1 (W 9 ae s_0.list),C (V s_0.book),C (I (w64 (s_0.left - 1))),C (V s_0.found),Z (W 1 (eL 1 eI) s_0.best),C (I s_0.least)])]) (q (oMv j j)<|q (oNl j j j)<|q (oFA (r':=.mp 0 0 2) j Iw j j)<|q (oLd (cs:=[.im 0 _]) j tF2 j j)<|q (oBi j j j j)<|q (ah j j)<|nl)<|us<|Go.ret (Unw.ret ?_)
   cases h
   exact fr Za j
theorem y7 {self:(aI×(List (List Int))×(List Int)×Int)→Option aI} (ih:∀{s_0:aI} {bz:(List (List Int))} {gz:(List Int)} {jY:Int} {r:aI},self (s_0,bz,gz,jY)=some r→FX 48 [.ptr true [(.imm,W 9 ae s_0.list),(.imm,V s_0.book),(.imm,I s_0.left),(.imm,V s_0.found),(.sh,W 1 (eL 1 eI) s_0.best),(.imm,I s_0.least)],.im 0 false [W 1 (eL 1 eI) bz],.im 2 false [W 1 eI gz],.im 2 false [I jY]] ([],[.ptr true [(.imm,W 9 ae r.list),(.imm,V r.book),(.imm,I r.left),(.imm,V r.found),(.sh,W 1 (eL 1 eI) r.best),(.imm,I r.least)]])) {s_0:aI} {bz:(List (List Int))} {gz:(List Int)} {jY:Int} {r:aI} (h:eY self s_0 bz gz jY=some r):FX 48 [.ptr true [(.imm,W 9 ae s_0.list),(.imm,V s_0.book),(.imm,I s_0.left),(.imm,V s_0.found),(.sh,W 1 (eL 1 eI) s_0.best),(.imm,I s_0.least)],.im 0 false [W 1 (eL 1 eI) bz],.im 2 false [W 1 eI gz],.im 2 false [I jY]] ([],[.ptr true [(.imm,W 9 ae r.list),(.imm,V r.book),(.imm,I r.left),(.imm,V r.found),(.sh,W 1 (eL 1 eI) r.best),(.imm,I r.least)]]):=by
 unfold eY at h
 refine lC (A:=[(0,M 0),(1,D 0 (W 1 (eL 1 eI) bz)),(2,D 2 (W 1 eI gz)),(3,D 2 (I jY))]) (B:=[(0,Od [Ct 1 (W 9 ae s_0.list),C (V s_0.book),C (I s_0.left),C (V s_0.found),Z (W 1 (eL 1 eI) s_0.best),C (I s_0.least)]),(1,none),(2,none),(3,none)]) (nt:=95) rfl rfl Try.func48 rfl rfl rfl rfl ?_
 refine gs<|gs<|g0 j j (q (oMv j j)<|q (qR j j Fg j)<|q (oBi j j j j)<|nl)<|us<|gc h j iEq (fun hc1 h=>?_) fun hc1 h=>?_
 ·refine gs<|?_
  obtain ⟨x19,F8,h⟩:=bs h
  refine g0 j j (q (oMv j j)<|q (oMv j j)<|q (oMv j j)<|q (oMv j j)<|q (oCr (xs:=[.v false [.im 0 _]]) (vs:=[(false,[.own 19 0 0])]) (v:=.v false [.own 19 0 0]) (c:=⟨.sh,0,_⟩) (cs:=[]) (ni (en:=(eL 1 eI)) (L:=bz) j F8) (.inl j) j ug j (ppC j pp0) j j pb0 j j j)<|q (oMv j j)<|q (oNl j j j)<|q (oFA (r':=.mp 0 0 3) j TV j j)<|q (oSt tF4 j j j (tkI tk0) j j j)<|q (oNl j j j)<|q (oFA (r':=.mp 0 0 4) j TW j j)<|q (oSt Zd j j j (tkO j j tk0) j j j)<|q (oNl j j j)<|q (oFA (r':=.mp 0 0 5) j Iy j j)<|q (oSt tF2 j j j (tkI tk0) j j j)<|nl)<|us<|Go.ret (Unw.ret ?_)
  cases h
  exact fr XN j
 ·refine Go.skip<|us<|gs<|?_
  obtain ⟨x28,hx28,h⟩:=bs h
  refine g0 j j (q (oMv j j)<|q (qf j hx28 iG j j)<|q (oLd (cs:=[.im 2 _]) j tF2 j j)<|q (ah j j)<|nl)<|us<|gs<|gs<|?_
  obtain ⟨x31,hx31,h⟩:=bs h
  refine g0 j j (q (oMv j j)<|q (D8 j hx31 iG j (bn1 j) bn0 j j)<|q (qR j j Fg j)<|q (oMv j j)<|nl)<|us<|Go.block<|?_
  obtain ⟨o,hl,h⟩:=bs h
  refine gl c48 j _ (fun (s:(Int×(List ak)×Bool×Int×Bool×(List (List Int))×Int))=>match s with | (kC,o8,qK,sV,sW,sZ,tq)=>mk [(0,M 0),(1,D 0 (W 1 (eL 1 eI) bz)),(2,D 2 (W 1 eI gz)),(3,iv jY),(8,iv x28),(31,D 2 (W 1 eI x31)),(32,iv (x31.length:Int)),(33,iv kC)] [(0,Od [Ct 1 (W 9 ae o8),C (V qK),C (I sV),C (V sW),Z (W 1 (eL 1 eI) sZ),C (I tq)])]) (fun (o:((List ak)×Bool×Int×Bool×(List (List Int))×Int)) (p:Ex×St)=>match o with | (oq,ou,oz,oC,oD,oG)=>p.1= .exit 0∧p.2.norm ([0,1,2,3],[0])=mk [(0,M 0),(1,D 0 (W 1 (eL 1 eI) bz)),(2,D 2 (W 1 eI gz)),(3,iv jY)] [(0,Od [Ct 1 (W 9 ae oq),C (V ou),C (I oz),C (V oC),Z (W 1 (eL 1 eI) oD),C (I oG)])]) hl (by kernel_rfl) ?_ ?_ ?_
  ·intro o p hp e
   obtain ⟨oq,ou,oz,oC,oD,oG⟩:=o
   exact nomatch (hp.1.symm.trans e)
  ·rintro ⟨kC,o8,qK,sV,sW,sZ,tq⟩ o h
   unfold dK at h
   dsimp only at h
   refine gs<|g0 j j (q (oBi j j j j)<|nl)<|us<|gs<|gc h j af (fun hc9 h=>?_) fun hc9 h=>?_
   ·refine Go.skip<|us<|gs<|Go.join (fun st=>∃lD,∃lF,∃lG,∃yU,∃yV,∃yX,fV self kC lD lF lG yU yV yX=some o∧st.norm ([0,1,2,3,8,31,32,33],[0])=mk [(0,M 0),(1,D 0 (W 1 (eL 1 eI) bz)),(2,D 2 (W 1 eI gz)),(3,iv jY),(8,iv x28),(31,D 2 (W 1 eI x31)),(32,iv (x31.length:Int)),(33,iv kC)] [(0,Od [Ct 1 (W 9 ae lD),C (V lF),C (I lG),C (V yU),Z (W 1 (eL 1 eI) yV),C (I yX)])]) ?_ ?_
    ·rintro st ⟨lD,lF,lG,yU,yV,yX,h,hst⟩
     unfold fV at h
     refine us<|g2 c48 j j hst (q (oBi j j j j)<|q (oMv j j)<|nl)<|Unw.nil<|?_
     cases h
     exact ⟨j,(by kernel_rfl)⟩
    ·intro K11
     refine Go.block<|gs<|?_
     obtain ⟨x36,Ul,h⟩:=bs h
     refine g0 j j (q (oMv j j)<|q (qf j Ul iG j j)<|q (oLd (cs:=[.im 2 _]) j tF2 j j)<|q (ah j j)<|q (ah j j)<|nl)<|us<|gs<|?_
     obtain ⟨x44,KX,h⟩:=bs h
     obtain ⟨x51,Rl,h⟩:=bs h
     obtain ⟨x57,XU,h⟩:=bs h
     refine gd c48 j j j j (mk [(0,M 0),(1,D 0 (W 1 (eL 1 eI) bz)),(2,D 2 (W 1 eI gz)),(3,iv jY),(8,iv x28),(9,iv kC),(10,iv x36),(11,iv (w64 (jY+x57))),(31,D 2 (W 1 eI x31)),(32,iv (x31.length:Int)),(33,iv kC)] [(0,Od [Ct 1 (W 9 ae o8),C (V qK),C (I sV),C (V sW),Z (W 1 (eL 1 eI) sZ),C (I tq)])]) (t j j (oMv j j)<|t j j (oMv j j)<|t j j (oNl j j j)<|t j j (oFA (r':=.mp 0 0 0) j TU j j)<|t j j (oLd (cs:=[.im 1 _]) j Ze j j)<|t j j (oMv j j)<|t j j (qf j KX tC j j)<|t j j (oLd (cs:=[.im 1 _,.im 1 _,.im 1 _,.im 1 _,.im 1 _,.im 1 _,.im 1 _,.im 1 _,.im 1 _]) j lT j j)<|t j j (oMv j j)<|t j j (oNl j j j)<|t j j (oFA (r':=.mp 0 0 0) j TU j j)<|t j j (oLd (cs:=[.im 1 _]) j Ze j j)<|t j j (oMv j j)<|t j j (qf j Rl tC j j)<|t j j (oLd (cs:=[.im 1 _,.im 1 _,.im 1 _,.im 1 _,.im 1 _,.im 1 _,.im 1 _,.im 1 _,.im 1 _]) j lT j j)<|t j j (oMv j j)<|t j j (oNl j j j)<|t j j (oFA (r':=.mp 0 0 1) j XK j j)<|t j j (oLd (cs:=[.im 0 _]) j tF4 j j)<|sS (dN z48 j (oCa (xs:=[.v true [.im 1 _,.im 1 _,.im 1 _,.im 1 _,.im 1 _,.im 1 _,.im 1 _,.im 1 _,.im 1 _],.v true [.im 1 _,.im 1 _,.im 1 _,.im 1 _,.im 1 _,.im 1 _,.im 1 _,.im 1 _,.im 1 _],.v false [.im 0 _]]) (vs:=[(false,[.im 0 _])]) (v:=.v false [.im 0 _]) (rH XU) (.inl j) j rF j (ppC j (ppC j (ppC j pp0))) j j pb0 j j j)) trivial (t j j (oBi j j j j)<|sS (dN z48 j (ah j j)) trivial (sD (by kernel_rfl))))<|us<|gs<|?_
     obtain ⟨x61,OL,h⟩:=bs h
     refine g0 j j (q (oMv j j)<|q (oMv j j)<|q (oCa (xs:=[.v false [.mp 0 0 0],.v false [.im 0 _]]) (vs:=[(false,[.im 0 _])]) (v:=.v false [.im 0 _]) (rJ OL) (.inl j) j JG j (zq (ob':=⟨0,0,true,true,false,true,[Ct 1 (W 9 ae o8),C (V qK),C (I sV),C (V sW),Z (W 1 (eL 1 eI) sZ),C (I tq)]⟩) j j j (by kernel_rfl) (ppC j pp0)) j j (zu (ob':=⟨0,1,true,true,false,true,[⟨.imm,1,1,W 9 ae x61.2.list⟩,⟨.imm,1,0,V x61.2.book⟩,⟨.imm,1,0,I x61.2.left⟩,⟨.imm,1,0,V x61.2.found⟩,⟨.sh,1,0,W 1 (eL 1 eI) x61.2.best⟩,⟨.imm,1,0,I x61.2.least⟩]⟩) j j (by kernel_rfl) pb0) j j j)<|nl)<|us<|gc h j iR (fun hc12 h=>?_) fun hc12 h=>?_
     ·obtain ⟨x64,Di,h⟩:=bs h
      obtain ⟨x69,Bi,h⟩:=bs h
      obtain ⟨x71,Ep,h⟩:=bs h
      obtain ⟨x72,Dp,h⟩:=bs h
      obtain ⟨x76,Dq,h⟩:=bs h
      obtain ⟨x78,zY,h⟩:=bs h
      exact gd c48 j j j (st1:=mk [(0,M 0),(1,D 0 (W 1 (eL 1 eI) bz)),(2,D 2 (W 1 eI gz)),(3,iv jY),(8,iv x28),(9,iv kC),(10,iv x36),(11,iv (w64 (jY+x57))),(31,D 2 (W 1 eI x31)),(32,iv (x31.length:Int)),(33,iv kC)] [(0,Od [Ct 1 (W 9 ae x61.2.list),C (V x61.2.book),C (I x61.2.left),C (V x61.2.found),Z (W 1 (eL 1 eI) x61.2.best),C (I x61.2.least)])]) (by kernel_rfl) (mk [(0,M 0),(1,D 0 (W 1 (eL 1 eI) bz)),(2,D 2 (W 1 eI gz)),(3,iv jY),(8,iv x28),(31,D 2 (W 1 eI x31)),(32,iv (x31.length:Int)),(33,iv kC)] [(0,Od [Ct 1 (W 9 ae x78.list),C (V x78.book),C (I x78.left),C (V x78.found),Z (W 1 (eL 1 eI) x78.best),C (I x78.least)])]) (t j j (oMv j j)<|t j j (oMv j j)<|t j j (oMv j j)<|t j j (oMv j j)<|t j j (oMv j j)<|t j j (oMv j j)<|t j j (oMv j j)<|t j j (oBi j j j j)<|t j j (oMv j j)<|sF (dN z48 j (oCr (xs:=[.v false [.im 0 _]]) (vs:=[(false,[.own 64 0 0])]) (v:=.v false [.own 64 0 0]) (c:=⟨.sh,0,_⟩) (cs:=[]) (ni (en:=(eL 1 eI)) (L:=bz) j Di) (.inl j) j ug j (ppC j pp0) j j pb0 j j j)) trivial (sF (dN z48 j (oBS (es:=List.map eI ([x28,x36]:List Int)) j iG j (ptC j (fxI fx0) j (ptC j (fxI fx0) j pt0)) (fK j fun _=>j))) trivial (sF (dN z48 j (oBS (es:=List.map (eL 1 eI) ([([x28,x36]:List Int)]:List (List Int))) j kR j (ptC j (fxO j j fx0) j pt0) (gZ j))) trivial (sF (dN z48 j (sO (en:=(eL 1 eI)) (M:=([([x28,x36]:List Int)]:List (List Int))) j Bi j kR j j vz (.inl ⟨_,j⟩) j j j j (jH j j) (gZ j))) trivial (sS (dN z48 j (D8 j Ep iG j (bn1 j) bn0 j j)) trivial (sS (dN z48 j (oCr (xs:=[.v false [.im 2 _]]) (vs:=[(false,[.own 72 0 0])]) (v:=.v false [.own 72 0 0]) (c:=⟨.sh,0,_⟩) (cs:=[]) (jc (en:=eI) (L:=x71) j Dp (fun _=>j)) (.inl j) j mF j (ppC j pp0) j j pb0 j j j)) trivial (sS (dN z48 j (oCr (xs:=[.v false [.own 72 0 0],.v false [.im 0 _],.v false [.im 0 _]]) (vs:=[(false,[.own 76 0 0])]) (v:=.v false [.own 76 0 0]) (c:=⟨.sh,0,_⟩) (cs:=[]) (jd j Dq) (.inl j) j fP j (ppM (ja j j) (ppC j (ppC j pp0))) j j pb0 j j j)) trivial (sS (dN z48 j (oCa (xs:=[.v false [.mp 0 0 0],.v false [.own 69 0 0],.v false [.own 76 0 0],.v false [.im 0 _]]) (vs:=[]) (v:=.tup []) (ih zY) (.inl j) j bF j (zq (ob':=⟨0,0,true,true,false,true,[Ct 1 (W 9 ae x61.2.list),C (V x61.2.book),C (I x61.2.left),C (V x61.2.found),Z (W 1 (eL 1 eI) x61.2.best),C (I x61.2.least)]⟩) j j j (by kernel_rfl) (BJ (fxO j j fx0) j (ppC j (ppC j pp0)))) j j (zu (ob':=⟨0,1,true,true,false,true,[⟨.imm,1,1,W 9 ae x78.list⟩,⟨.imm,1,0,V x78.book⟩,⟨.imm,1,0,I x78.left⟩,⟨.imm,1,0,V x78.found⟩,⟨.sh,1,0,W 1 (eL 1 eI) x78.best⟩,⟨.imm,1,0,I x78.least⟩]⟩) j j (by kernel_rfl) pb0) j j j)) trivial (sD (by kernel_rfl)))))) (sS (dN z48 j (D8 j Ep iG j (bn1 j) bn0 j j)) trivial (sS (dN z48 j (sO (en:=(eL 1 eI)) (M:=([([x28,x36]:List Int)]:List (List Int))) j Bi j kR j j vz (.inl ⟨_,j⟩) j j j j (jH j j) (gZ j))) trivial (sS (dN z48 j (oCr (xs:=[.v false [.im 2 _]]) (vs:=[(false,[.own 72 0 0])]) (v:=.v false [.own 72 0 0]) (c:=⟨.sh,0,_⟩) (cs:=[]) (jc (en:=eI) (L:=x71) j Dp (fun _=>j)) (.inl j) j mF j (ppC j pp0) j j pb0 j j j)) trivial (sS (dN z48 j (oCr (xs:=[.v false [.own 72 0 0],.v false [.im 0 _],.v false [.im 0 _]]) (vs:=[(false,[.own 76 0 0])]) (v:=.v false [.own 76 0 0]) (c:=⟨.sh,0,_⟩) (cs:=[]) (jd j Dq) (.inl j) j fP j (ppM (ja j j) (ppC j (ppC j pp0))) j j pb0 j j j)) trivial (sS (dN z48 j (oCa (xs:=[.v false [.mp 0 0 0],.v false [.own 69 0 0],.v false [.own 76 0 0],.v false [.im 0 _]]) (vs:=[]) (v:=.tup []) (ih zY) (.inl j) j bF j (zq (ob':=⟨0,0,true,true,false,true,[Ct 1 (W 9 ae x61.2.list),C (V x61.2.book),C (I x61.2.left),C (V x61.2.found),Z (W 1 (eL 1 eI) x61.2.best),C (I x61.2.least)]⟩) j j j (by kernel_rfl) (BJ (fxO j j fx0) j (ppC j (ppC j pp0)))) j j (zu (ob':=⟨0,1,true,true,false,true,[⟨.imm,1,1,W 9 ae x78.list⟩,⟨.imm,1,0,V x78.book⟩,⟨.imm,1,0,I x78.left⟩,⟨.imm,1,0,V x78.found⟩,⟨.sh,1,0,W 1 (eL 1 eI) x78.best⟩,⟨.imm,1,0,I x78.least⟩]⟩) j j (by kernel_rfl) pb0) j j j)) trivial (sD (by kernel_rfl)))))))) (sS (dN z48 j (D8 j Ep iG j (bn1 j) bn0 j j)) trivial (sS (dN z48 j (oBS (es:=List.map (eL 1 eI) ([([x28,x36]:List Int)]:List (List Int))) j kR j (ptC j (fxO j j fx0) j pt0) (gZ j))) trivial (sS (dN z48 j (sO (en:=(eL 1 eI)) (M:=([([x28,x36]:List Int)]:List (List Int))) j Bi j kR j j vz (.inl ⟨_,j⟩) j j j j (jH j j) (gZ j))) trivial (sS (dN z48 j (oCr (xs:=[.v false [.im 2 _]]) (vs:=[(false,[.own 72 0 0])]) (v:=.v false [.own 72 0 0]) (c:=⟨.sh,0,_⟩) (cs:=[]) (jc (en:=eI) (L:=x71) j Dp (fun _=>j)) (.inl j) j mF j (ppC j pp0) j j pb0 j j j)) trivial (sS (dN z48 j (oCr (xs:=[.v false [.own 72 0 0],.v false [.im 0 _],.v false [.im 0 _]]) (vs:=[(false,[.own 76 0 0])]) (v:=.v false [.own 76 0 0]) (c:=⟨.sh,0,_⟩) (cs:=[]) (jd j Dq) (.inl j) j fP j (ppM (ja j j) (ppC j (ppC j pp0))) j j pb0 j j j)) trivial (sS (dN z48 j (oCa (xs:=[.v false [.mp 0 0 0],.v false [.own 69 0 0],.v false [.own 76 0 0],.v false [.im 0 _]]) (vs:=[]) (v:=.tup []) (ih zY) (.inl j) j bF j (zq (ob':=⟨0,0,true,true,false,true,[Ct 1 (W 9 ae x61.2.list),C (V x61.2.book),C (I x61.2.left),C (V x61.2.found),Z (W 1 (eL 1 eI) x61.2.best),C (I x61.2.least)]⟩) j j j (by kernel_rfl) (BJ (fxO j j fx0) j (ppC j (ppC j pp0)))) j j (zu (ob':=⟨0,1,true,true,false,true,[⟨.imm,1,1,W 9 ae x78.list⟩,⟨.imm,1,0,V x78.book⟩,⟨.imm,1,0,I x78.left⟩,⟨.imm,1,0,V x78.found⟩,⟨.sh,1,0,W 1 (eL 1 eI) x78.best⟩,⟨.imm,1,0,I x78.least⟩]⟩) j j (by kernel_rfl) pb0) j j j)) trivial (sD (by kernel_rfl))))))))) (sS (dN z48 j (D8 j Ep iG j (bn1 j) bn0 j j)) trivial (sS (dN z48 j (oBS (es:=List.map eI ([x28,x36]:List Int)) j iG j (ptC j (fxI fx0) j (ptC j (fxI fx0) j pt0)) (fK j fun _=>j))) trivial (sS (dN z48 j (oBS (es:=List.map (eL 1 eI) ([([x28,x36]:List Int)]:List (List Int))) j kR j (ptC j (fxO j j fx0) j pt0) (gZ j))) trivial (sS (dN z48 j (sO (en:=(eL 1 eI)) (M:=([([x28,x36]:List Int)]:List (List Int))) j Bi j kR j j vz (.inl ⟨_,j⟩) j j j j (jH j j) (gZ j))) trivial (sS (dN z48 j (oCr (xs:=[.v false [.im 2 _]]) (vs:=[(false,[.own 72 0 0])]) (v:=.v false [.own 72 0 0]) (c:=⟨.sh,0,_⟩) (cs:=[]) (jc (en:=eI) (L:=x71) j Dp (fun _=>j)) (.inl j) j mF j (ppC j pp0) j j pb0 j j j)) trivial (sS (dN z48 j (oCr (xs:=[.v false [.own 72 0 0],.v false [.im 0 _],.v false [.im 0 _]]) (vs:=[(false,[.own 76 0 0])]) (v:=.v false [.own 76 0 0]) (c:=⟨.sh,0,_⟩) (cs:=[]) (jd j Dq) (.inl j) j fP j (ppM (ja j j) (ppC j (ppC j pp0))) j j pb0 j j j)) trivial (sS (dN z48 j (oCa (xs:=[.v false [.mp 0 0 0],.v false [.own 69 0 0],.v false [.own 76 0 0],.v false [.im 0 _]]) (vs:=[]) (v:=.tup []) (ih zY) (.inl j) j bF j (zq (ob':=⟨0,0,true,true,false,true,[Ct 1 (W 9 ae x61.2.list),C (V x61.2.book),C (I x61.2.left),C (V x61.2.found),Z (W 1 (eL 1 eI) x61.2.best),C (I x61.2.least)]⟩) j j j (by kernel_rfl) (BJ (fxO j j fx0) j (ppC j (ppC j pp0)))) j j (zu (ob':=⟨0,1,true,true,false,true,[⟨.imm,1,1,W 9 ae x78.list⟩,⟨.imm,1,0,V x78.book⟩,⟨.imm,1,0,I x78.left⟩,⟨.imm,1,0,V x78.found⟩,⟨.sh,1,0,W 1 (eL 1 eI) x78.best⟩,⟨.imm,1,0,I x78.least⟩]⟩) j j (by kernel_rfl) pb0) j j j)) trivial (sD (by kernel_rfl)))))))))) (sF (dN z48 j (oBS (es:=List.map eI ([x28,x36]:List Int)) j iG j (ptC j (fxI fx0) j (ptC j (fxI fx0) j pt0)) (fK j fun _=>j))) trivial (sF (dN z48 j (oCr (xs:=[.v false [.im 0 _]]) (vs:=[(false,[.own 64 0 0])]) (v:=.v false [.own 64 0 0]) (c:=⟨.sh,0,_⟩) (cs:=[]) (ni (en:=(eL 1 eI)) (L:=bz) j Di) (.inl j) j ug j (ppC j pp0) j j pb0 j j j)) trivial (sF (dN z48 j (oBS (es:=List.map (eL 1 eI) ([([x28,x36]:List Int)]:List (List Int))) j kR j (ptC j (fxO j j fx0) j pt0) (gZ j))) trivial (sF (dN z48 j (sO (en:=(eL 1 eI)) (M:=([([x28,x36]:List Int)]:List (List Int))) j Bi j kR j j vz (.inl ⟨_,j⟩) j j j j (jH j j) (gZ j))) trivial (sS (dN z48 j (D8 j Ep iG j (bn1 j) bn0 j j)) trivial (sS (dN z48 j (oCr (xs:=[.v false [.im 2 _]]) (vs:=[(false,[.own 72 0 0])]) (v:=.v false [.own 72 0 0]) (c:=⟨.sh,0,_⟩) (cs:=[]) (jc (en:=eI) (L:=x71) j Dp (fun _=>j)) (.inl j) j mF j (ppC j pp0) j j pb0 j j j)) trivial (sS (dN z48 j (oCr (xs:=[.v false [.own 72 0 0],.v false [.im 0 _],.v false [.im 0 _]]) (vs:=[(false,[.own 76 0 0])]) (v:=.v false [.own 76 0 0]) (c:=⟨.sh,0,_⟩) (cs:=[]) (jd j Dq) (.inl j) j fP j (ppM (ja j j) (ppC j (ppC j pp0))) j j pb0 j j j)) trivial (sS (dN z48 j (oCa (xs:=[.v false [.mp 0 0 0],.v false [.own 69 0 0],.v false [.own 76 0 0],.v false [.im 0 _]]) (vs:=[]) (v:=.tup []) (ih zY) (.inl j) j bF j (zq (ob':=⟨0,0,true,true,false,true,[Ct 1 (W 9 ae x61.2.list),C (V x61.2.book),C (I x61.2.left),C (V x61.2.found),Z (W 1 (eL 1 eI) x61.2.best),C (I x61.2.least)]⟩) j j j (by kernel_rfl) (BJ (fxO j j fx0) j (ppC j (ppC j pp0)))) j j (zu (ob':=⟨0,1,true,true,false,true,[⟨.imm,1,1,W 9 ae x78.list⟩,⟨.imm,1,0,V x78.book⟩,⟨.imm,1,0,I x78.left⟩,⟨.imm,1,0,V x78.found⟩,⟨.sh,1,0,W 1 (eL 1 eI) x78.best⟩,⟨.imm,1,0,I x78.least⟩]⟩) j j (by kernel_rfl) pb0) j j j)) trivial (sD (by kernel_rfl)))))) (sS (dN z48 j (D8 j Ep iG j (bn1 j) bn0 j j)) trivial (sS (dN z48 j (sO (en:=(eL 1 eI)) (M:=([([x28,x36]:List Int)]:List (List Int))) j Bi j kR j j vz (.inl ⟨_,j⟩) j j j j (jH j j) (gZ j))) trivial (sS (dN z48 j (oCr (xs:=[.v false [.im 2 _]]) (vs:=[(false,[.own 72 0 0])]) (v:=.v false [.own 72 0 0]) (c:=⟨.sh,0,_⟩) (cs:=[]) (jc (en:=eI) (L:=x71) j Dp (fun _=>j)) (.inl j) j mF j (ppC j pp0) j j pb0 j j j)) trivial (sS (dN z48 j (oCr (xs:=[.v false [.own 72 0 0],.v false [.im 0 _],.v false [.im 0 _]]) (vs:=[(false,[.own 76 0 0])]) (v:=.v false [.own 76 0 0]) (c:=⟨.sh,0,_⟩) (cs:=[]) (jd j Dq) (.inl j) j fP j (ppM (ja j j) (ppC j (ppC j pp0))) j j pb0 j j j)) trivial (sS (dN z48 j (oCa (xs:=[.v false [.mp 0 0 0],.v false [.own 69 0 0],.v false [.own 76 0 0],.v false [.im 0 _]]) (vs:=[]) (v:=.tup []) (ih zY) (.inl j) j bF j (zq (ob':=⟨0,0,true,true,false,true,[Ct 1 (W 9 ae x61.2.list),C (V x61.2.book),C (I x61.2.left),C (V x61.2.found),Z (W 1 (eL 1 eI) x61.2.best),C (I x61.2.least)]⟩) j j j (by kernel_rfl) (BJ (fxO j j fx0) j (ppC j (ppC j pp0)))) j j (zu (ob':=⟨0,1,true,true,false,true,[⟨.imm,1,1,W 9 ae x78.list⟩,⟨.imm,1,0,V x78.book⟩,⟨.imm,1,0,I x78.left⟩,⟨.imm,1,0,V x78.found⟩,⟨.sh,1,0,W 1 (eL 1 eI) x78.best⟩,⟨.imm,1,0,I x78.least⟩]⟩) j j (by kernel_rfl) pb0) j j j)) trivial (sD (by kernel_rfl)))))))) (sS (dN z48 j (D8 j Ep iG j (bn1 j) bn0 j j)) trivial (sS (dN z48 j (oBS (es:=List.map (eL 1 eI) ([([x28,x36]:List Int)]:List (List Int))) j kR j (ptC j (fxO j j fx0) j pt0) (gZ j))) trivial (sS (dN z48 j (sO (en:=(eL 1 eI)) (M:=([([x28,x36]:List Int)]:List (List Int))) j Bi j kR j j vz (.inl ⟨_,j⟩) j j j j (jH j j) (gZ j))) trivial (sS (dN z48 j (oCr (xs:=[.v false [.im 2 _]]) (vs:=[(false,[.own 72 0 0])]) (v:=.v false [.own 72 0 0]) (c:=⟨.sh,0,_⟩) (cs:=[]) (jc (en:=eI) (L:=x71) j Dp (fun _=>j)) (.inl j) j mF j (ppC j pp0) j j pb0 j j j)) trivial (sS (dN z48 j (oCr (xs:=[.v false [.own 72 0 0],.v false [.im 0 _],.v false [.im 0 _]]) (vs:=[(false,[.own 76 0 0])]) (v:=.v false [.own 76 0 0]) (c:=⟨.sh,0,_⟩) (cs:=[]) (jd j Dq) (.inl j) j fP j (ppM (ja j j) (ppC j (ppC j pp0))) j j pb0 j j j)) trivial (sS (dN z48 j (oCa (xs:=[.v false [.mp 0 0 0],.v false [.own 69 0 0],.v false [.own 76 0 0],.v false [.im 0 _]]) (vs:=[]) (v:=.tup []) (ih zY) (.inl j) j bF j (zq (ob':=⟨0,0,true,true,false,true,[Ct 1 (W 9 ae x61.2.list),C (V x61.2.book),C (I x61.2.left),C (V x61.2.found),Z (W 1 (eL 1 eI) x61.2.best),C (I x61.2.least)]⟩) j j j (by kernel_rfl) (BJ (fxO j j fx0) j (ppC j (ppC j pp0)))) j j (zu (ob':=⟨0,1,true,true,false,true,[⟨.imm,1,1,W 9 ae x78.list⟩,⟨.imm,1,0,V x78.book⟩,⟨.imm,1,0,I x78.left⟩,⟨.imm,1,0,V x78.found⟩,⟨.sh,1,0,W 1 (eL 1 eI) x78.best⟩,⟨.imm,1,0,I x78.least⟩]⟩) j j (by kernel_rfl) pb0) j j j)) trivial (sD (by kernel_rfl))))))))) (sF (dN z48 j (oBS (es:=List.map (eL 1 eI) ([([x28,x36]:List Int)]:List (List Int))) j kR j (ptC j (fxO j j fx0) j pt0) (gZ j))) trivial (sF (dN z48 j (oCr (xs:=[.v false [.im 0 _]]) (vs:=[(false,[.own 64 0 0])]) (v:=.v false [.own 64 0 0]) (c:=⟨.sh,0,_⟩) (cs:=[]) (ni (en:=(eL 1 eI)) (L:=bz) j Di) (.inl j) j ug j (ppC j pp0) j j pb0 j j j)) trivial (sF (dN z48 j (sO (en:=(eL 1 eI)) (M:=([([x28,x36]:List Int)]:List (List Int))) j Bi j kR j j vz (.inl ⟨_,j⟩) j j j j (jH j j) (gZ j))) trivial (sS (dN z48 j (D8 j Ep iG j (bn1 j) bn0 j j)) trivial (sS (dN z48 j (oCr (xs:=[.v false [.im 2 _]]) (vs:=[(false,[.own 72 0 0])]) (v:=.v false [.own 72 0 0]) (c:=⟨.sh,0,_⟩) (cs:=[]) (jc (en:=eI) (L:=x71) j Dp (fun _=>j)) (.inl j) j mF j (ppC j pp0) j j pb0 j j j)) trivial (sS (dN z48 j (oCr (xs:=[.v false [.own 72 0 0],.v false [.im 0 _],.v false [.im 0 _]]) (vs:=[(false,[.own 76 0 0])]) (v:=.v false [.own 76 0 0]) (c:=⟨.sh,0,_⟩) (cs:=[]) (jd j Dq) (.inl j) j fP j (ppM (ja j j) (ppC j (ppC j pp0))) j j pb0 j j j)) trivial (sS (dN z48 j (oCa (xs:=[.v false [.mp 0 0 0],.v false [.own 69 0 0],.v false [.own 76 0 0],.v false [.im 0 _]]) (vs:=[]) (v:=.tup []) (ih zY) (.inl j) j bF j (zq (ob':=⟨0,0,true,true,false,true,[Ct 1 (W 9 ae x61.2.list),C (V x61.2.book),C (I x61.2.left),C (V x61.2.found),Z (W 1 (eL 1 eI) x61.2.best),C (I x61.2.least)]⟩) j j j (by kernel_rfl) (BJ (fxO j j fx0) j (ppC j (ppC j pp0)))) j j (zu (ob':=⟨0,1,true,true,false,true,[⟨.imm,1,1,W 9 ae x78.list⟩,⟨.imm,1,0,V x78.book⟩,⟨.imm,1,0,I x78.left⟩,⟨.imm,1,0,V x78.found⟩,⟨.sh,1,0,W 1 (eL 1 eI) x78.best⟩,⟨.imm,1,0,I x78.least⟩]⟩) j j (by kernel_rfl) pb0) j j j)) trivial (sD (by kernel_rfl)))))) (sS (dN z48 j (D8 j Ep iG j (bn1 j) bn0 j j)) trivial (sS (dN z48 j (sO (en:=(eL 1 eI)) (M:=([([x28,x36]:List Int)]:List (List Int))) j Bi j kR j j vz (.inl ⟨_,j⟩) j j j j (jH j j) (gZ j))) trivial (sS (dN z48 j (oCr (xs:=[.v false [.im 2 _]]) (vs:=[(false,[.own 72 0 0])]) (v:=.v false [.own 72 0 0]) (c:=⟨.sh,0,_⟩) (cs:=[]) (jc (en:=eI) (L:=x71) j Dp (fun _=>j)) (.inl j) j mF j (ppC j pp0) j j pb0 j j j)) trivial (sS (dN z48 j (oCr (xs:=[.v false [.own 72 0 0],.v false [.im 0 _],.v false [.im 0 _]]) (vs:=[(false,[.own 76 0 0])]) (v:=.v false [.own 76 0 0]) (c:=⟨.sh,0,_⟩) (cs:=[]) (jd j Dq) (.inl j) j fP j (ppM (ja j j) (ppC j (ppC j pp0))) j j pb0 j j j)) trivial (sS (dN z48 j (oCa (xs:=[.v false [.mp 0 0 0],.v false [.own 69 0 0],.v false [.own 76 0 0],.v false [.im 0 _]]) (vs:=[]) (v:=.tup []) (ih zY) (.inl j) j bF j (zq (ob':=⟨0,0,true,true,false,true,[Ct 1 (W 9 ae x61.2.list),C (V x61.2.book),C (I x61.2.left),C (V x61.2.found),Z (W 1 (eL 1 eI) x61.2.best),C (I x61.2.least)]⟩) j j j (by kernel_rfl) (BJ (fxO j j fx0) j (ppC j (ppC j pp0)))) j j (zu (ob':=⟨0,1,true,true,false,true,[⟨.imm,1,1,W 9 ae x78.list⟩,⟨.imm,1,0,V x78.book⟩,⟨.imm,1,0,I x78.left⟩,⟨.imm,1,0,V x78.found⟩,⟨.sh,1,0,W 1 (eL 1 eI) x78.best⟩,⟨.imm,1,0,I x78.least⟩]⟩) j j (by kernel_rfl) pb0) j j j)) trivial (sD (by kernel_rfl)))))))) (sS (dN z48 j (D8 j Ep iG j (bn1 j) bn0 j j)) trivial (sS (dN z48 j (oCr (xs:=[.v false [.im 0 _]]) (vs:=[(false,[.own 64 0 0])]) (v:=.v false [.own 64 0 0]) (c:=⟨.sh,0,_⟩) (cs:=[]) (ni (en:=(eL 1 eI)) (L:=bz) j Di) (.inl j) j ug j (ppC j pp0) j j pb0 j j j)) trivial (sS (dN z48 j (sO (en:=(eL 1 eI)) (M:=([([x28,x36]:List Int)]:List (List Int))) j Bi j kR j j vz (.inl ⟨_,j⟩) j j j j (jH j j) (gZ j))) trivial (sS (dN z48 j (oCr (xs:=[.v false [.im 2 _]]) (vs:=[(false,[.own 72 0 0])]) (v:=.v false [.own 72 0 0]) (c:=⟨.sh,0,_⟩) (cs:=[]) (jc (en:=eI) (L:=x71) j Dp (fun _=>j)) (.inl j) j mF j (ppC j pp0) j j pb0 j j j)) trivial (sS (dN z48 j (oCr (xs:=[.v false [.own 72 0 0],.v false [.im 0 _],.v false [.im 0 _]]) (vs:=[(false,[.own 76 0 0])]) (v:=.v false [.own 76 0 0]) (c:=⟨.sh,0,_⟩) (cs:=[]) (jd j Dq) (.inl j) j fP j (ppM (ja j j) (ppC j (ppC j pp0))) j j pb0 j j j)) trivial (sS (dN z48 j (oCa (xs:=[.v false [.mp 0 0 0],.v false [.own 69 0 0],.v false [.own 76 0 0],.v false [.im 0 _]]) (vs:=[]) (v:=.tup []) (ih zY) (.inl j) j bF j (zq (ob':=⟨0,0,true,true,false,true,[Ct 1 (W 9 ae x61.2.list),C (V x61.2.book),C (I x61.2.left),C (V x61.2.found),Z (W 1 (eL 1 eI) x61.2.best),C (I x61.2.least)]⟩) j j j (by kernel_rfl) (BJ (fxO j j fx0) j (ppC j (ppC j pp0)))) j j (zu (ob':=⟨0,1,true,true,false,true,[⟨.imm,1,1,W 9 ae x78.list⟩,⟨.imm,1,0,V x78.book⟩,⟨.imm,1,0,I x78.left⟩,⟨.imm,1,0,V x78.found⟩,⟨.sh,1,0,W 1 (eL 1 eI) x78.best⟩,⟨.imm,1,0,I x78.least⟩]⟩) j j (by kernel_rfl) pb0) j j j)) trivial (sD (by kernel_rfl))))))))) (sS (dN z48 j (D8 j Ep iG j (bn1 j) bn0 j j)) trivial (sF (dN z48 j (oCr (xs:=[.v false [.im 0 _]]) (vs:=[(false,[.own 64 0 0])]) (v:=.v false [.own 64 0 0]) (c:=⟨.sh,0,_⟩) (cs:=[]) (ni (en:=(eL 1 eI)) (L:=bz) j Di) (.inl j) j ug j (ppC j pp0) j j pb0 j j j)) trivial (sS (dN z48 j (oBS (es:=List.map (eL 1 eI) ([([x28,x36]:List Int)]:List (List Int))) j kR j (ptC j (fxO j j fx0) j pt0) (gZ j))) trivial (sS (dN z48 j (sO (en:=(eL 1 eI)) (M:=([([x28,x36]:List Int)]:List (List Int))) j Bi j kR j j vz (.inl ⟨_,j⟩) j j j j (jH j j) (gZ j))) trivial (sS (dN z48 j (oCr (xs:=[.v false [.im 2 _]]) (vs:=[(false,[.own 72 0 0])]) (v:=.v false [.own 72 0 0]) (c:=⟨.sh,0,_⟩) (cs:=[]) (jc (en:=eI) (L:=x71) j Dp (fun _=>j)) (.inl j) j mF j (ppC j pp0) j j pb0 j j j)) trivial (sS (dN z48 j (oCr (xs:=[.v false [.own 72 0 0],.v false [.im 0 _],.v false [.im 0 _]]) (vs:=[(false,[.own 76 0 0])]) (v:=.v false [.own 76 0 0]) (c:=⟨.sh,0,_⟩) (cs:=[]) (jd j Dq) (.inl j) j fP j (ppM (ja j j) (ppC j (ppC j pp0))) j j pb0 j j j)) trivial (sS (dN z48 j (oCa (xs:=[.v false [.mp 0 0 0],.v false [.own 69 0 0],.v false [.own 76 0 0],.v false [.im 0 _]]) (vs:=[]) (v:=.tup []) (ih zY) (.inl j) j bF j (zq (ob':=⟨0,0,true,true,false,true,[Ct 1 (W 9 ae x61.2.list),C (V x61.2.book),C (I x61.2.left),C (V x61.2.found),Z (W 1 (eL 1 eI) x61.2.best),C (I x61.2.least)]⟩) j j j (by kernel_rfl) (BJ (fxO j j fx0) j (ppC j (ppC j pp0)))) j j (zu (ob':=⟨0,1,true,true,false,true,[⟨.imm,1,1,W 9 ae x78.list⟩,⟨.imm,1,0,V x78.book⟩,⟨.imm,1,0,I x78.left⟩,⟨.imm,1,0,V x78.found⟩,⟨.sh,1,0,W 1 (eL 1 eI) x78.best⟩,⟨.imm,1,0,I x78.least⟩]⟩) j j (by kernel_rfl) pb0) j j j)) trivial (sD (by kernel_rfl))))))) (sS (dN z48 j (oBS (es:=List.map (eL 1 eI) ([([x28,x36]:List Int)]:List (List Int))) j kR j (ptC j (fxO j j fx0) j pt0) (gZ j))) trivial (sS (dN z48 j (oCr (xs:=[.v false [.im 0 _]]) (vs:=[(false,[.own 64 0 0])]) (v:=.v false [.own 64 0 0]) (c:=⟨.sh,0,_⟩) (cs:=[]) (ni (en:=(eL 1 eI)) (L:=bz) j Di) (.inl j) j ug j (ppC j pp0) j j pb0 j j j)) trivial (sS (dN z48 j (sO (en:=(eL 1 eI)) (M:=([([x28,x36]:List Int)]:List (List Int))) j Bi j kR j j vz (.inl ⟨_,j⟩) j j j j (jH j j) (gZ j))) trivial (sS (dN z48 j (oCr (xs:=[.v false [.im 2 _]]) (vs:=[(false,[.own 72 0 0])]) (v:=.v false [.own 72 0 0]) (c:=⟨.sh,0,_⟩) (cs:=[]) (jc (en:=eI) (L:=x71) j Dp (fun _=>j)) (.inl j) j mF j (ppC j pp0) j j pb0 j j j)) trivial (sS (dN z48 j (oCr (xs:=[.v false [.own 72 0 0],.v false [.im 0 _],.v false [.im 0 _]]) (vs:=[(false,[.own 76 0 0])]) (v:=.v false [.own 76 0 0]) (c:=⟨.sh,0,_⟩) (cs:=[]) (jd j Dq) (.inl j) j fP j (ppM (ja j j) (ppC j (ppC j pp0))) j j pb0 j j j)) trivial (sS (dN z48 j (oCa (xs:=[.v false [.mp 0 0 0],.v false [.own 69 0 0],.v false [.own 76 0 0],.v false [.im 0 _]]) (vs:=[]) (v:=.tup []) (ih zY) (.inl j) j bF j (zq (ob':=⟨0,0,true,true,false,true,[Ct 1 (W 9 ae x61.2.list),C (V x61.2.book),C (I x61.2.left),C (V x61.2.found),Z (W 1 (eL 1 eI) x61.2.best),C (I x61.2.least)]⟩) j j j (by kernel_rfl) (BJ (fxO j j fx0) j (ppC j (ppC j pp0)))) j j (zu (ob':=⟨0,1,true,true,false,true,[⟨.imm,1,1,W 9 ae x78.list⟩,⟨.imm,1,0,V x78.book⟩,⟨.imm,1,0,I x78.left⟩,⟨.imm,1,0,V x78.found⟩,⟨.sh,1,0,W 1 (eL 1 eI) x78.best⟩,⟨.imm,1,0,I x78.least⟩]⟩) j j (by kernel_rfl) pb0) j j j)) trivial (sD (by kernel_rfl)))))))))))) (sS (dN z48 j (D8 j Ep iG j (bn1 j) bn0 j j)) trivial (sF (dN z48 j (oCr (xs:=[.v false [.im 0 _]]) (vs:=[(false,[.own 64 0 0])]) (v:=.v false [.own 64 0 0]) (c:=⟨.sh,0,_⟩) (cs:=[]) (ni (en:=(eL 1 eI)) (L:=bz) j Di) (.inl j) j ug j (ppC j pp0) j j pb0 j j j)) trivial (sS (dN z48 j (oBS (es:=List.map eI ([x28,x36]:List Int)) j iG j (ptC j (fxI fx0) j (ptC j (fxI fx0) j pt0)) (fK j fun _=>j))) trivial (sS (dN z48 j (oBS (es:=List.map (eL 1 eI) ([([x28,x36]:List Int)]:List (List Int))) j kR j (ptC j (fxO j j fx0) j pt0) (gZ j))) trivial (sS (dN z48 j (sO (en:=(eL 1 eI)) (M:=([([x28,x36]:List Int)]:List (List Int))) j Bi j kR j j vz (.inl ⟨_,j⟩) j j j j (jH j j) (gZ j))) trivial (sS (dN z48 j (oCr (xs:=[.v false [.im 2 _]]) (vs:=[(false,[.own 72 0 0])]) (v:=.v false [.own 72 0 0]) (c:=⟨.sh,0,_⟩) (cs:=[]) (jc (en:=eI) (L:=x71) j Dp (fun _=>j)) (.inl j) j mF j (ppC j pp0) j j pb0 j j j)) trivial (sS (dN z48 j (oCr (xs:=[.v false [.own 72 0 0],.v false [.im 0 _],.v false [.im 0 _]]) (vs:=[(false,[.own 76 0 0])]) (v:=.v false [.own 76 0 0]) (c:=⟨.sh,0,_⟩) (cs:=[]) (jd j Dq) (.inl j) j fP j (ppM (ja j j) (ppC j (ppC j pp0))) j j pb0 j j j)) trivial (sS (dN z48 j (oCa (xs:=[.v false [.mp 0 0 0],.v false [.own 69 0 0],.v false [.own 76 0 0],.v false [.im 0 _]]) (vs:=[]) (v:=.tup []) (ih zY) (.inl j) j bF j (zq (ob':=⟨0,0,true,true,false,true,[Ct 1 (W 9 ae x61.2.list),C (V x61.2.book),C (I x61.2.left),C (V x61.2.found),Z (W 1 (eL 1 eI) x61.2.best),C (I x61.2.least)]⟩) j j j (by kernel_rfl) (BJ (fxO j j fx0) j (ppC j (ppC j pp0)))) j j (zu (ob':=⟨0,1,true,true,false,true,[⟨.imm,1,1,W 9 ae x78.list⟩,⟨.imm,1,0,V x78.book⟩,⟨.imm,1,0,I x78.left⟩,⟨.imm,1,0,V x78.found⟩,⟨.sh,1,0,W 1 (eL 1 eI) x78.best⟩,⟨.imm,1,0,I x78.least⟩]⟩) j j (by kernel_rfl) pb0) j j j)) trivial (sD (by kernel_rfl)))))))) (sS (dN z48 j (oBS (es:=List.map eI ([x28,x36]:List Int)) j iG j (ptC j (fxI fx0) j (ptC j (fxI fx0) j pt0)) (fK j fun _=>j))) trivial (sF (dN z48 j (oCr (xs:=[.v false [.im 0 _]]) (vs:=[(false,[.own 64 0 0])]) (v:=.v false [.own 64 0 0]) (c:=⟨.sh,0,_⟩) (cs:=[]) (ni (en:=(eL 1 eI)) (L:=bz) j Di) (.inl j) j ug j (ppC j pp0) j j pb0 j j j)) trivial (sS (dN z48 j (oBS (es:=List.map (eL 1 eI) ([([x28,x36]:List Int)]:List (List Int))) j kR j (ptC j (fxO j j fx0) j pt0) (gZ j))) trivial (sS (dN z48 j (sO (en:=(eL 1 eI)) (M:=([([x28,x36]:List Int)]:List (List Int))) j Bi j kR j j vz (.inl ⟨_,j⟩) j j j j (jH j j) (gZ j))) trivial (sS (dN z48 j (oCr (xs:=[.v false [.im 2 _]]) (vs:=[(false,[.own 72 0 0])]) (v:=.v false [.own 72 0 0]) (c:=⟨.sh,0,_⟩) (cs:=[]) (jc (en:=eI) (L:=x71) j Dp (fun _=>j)) (.inl j) j mF j (ppC j pp0) j j pb0 j j j)) trivial (sS (dN z48 j (oCr (xs:=[.v false [.own 72 0 0],.v false [.im 0 _],.v false [.im 0 _]]) (vs:=[(false,[.own 76 0 0])]) (v:=.v false [.own 76 0 0]) (c:=⟨.sh,0,_⟩) (cs:=[]) (jd j Dq) (.inl j) j fP j (ppM (ja j j) (ppC j (ppC j pp0))) j j pb0 j j j)) trivial (sS (dN z48 j (oCa (xs:=[.v false [.mp 0 0 0],.v false [.own 69 0 0],.v false [.own 76 0 0],.v false [.im 0 _]]) (vs:=[]) (v:=.tup []) (ih zY) (.inl j) j bF j (zq (ob':=⟨0,0,true,true,false,true,[Ct 1 (W 9 ae x61.2.list),C (V x61.2.book),C (I x61.2.left),C (V x61.2.found),Z (W 1 (eL 1 eI) x61.2.best),C (I x61.2.least)]⟩) j j j (by kernel_rfl) (BJ (fxO j j fx0) j (ppC j (ppC j pp0)))) j j (zu (ob':=⟨0,1,true,true,false,true,[⟨.imm,1,1,W 9 ae x78.list⟩,⟨.imm,1,0,V x78.book⟩,⟨.imm,1,0,I x78.left⟩,⟨.imm,1,0,V x78.found⟩,⟨.sh,1,0,W 1 (eL 1 eI) x78.best⟩,⟨.imm,1,0,I x78.least⟩]⟩) j j (by kernel_rfl) pb0) j j j)) trivial (sD (by kernel_rfl))))))) (sS (dN z48 j (oBS (es:=List.map (eL 1 eI) ([([x28,x36]:List Int)]:List (List Int))) j kR j (ptC j (fxO j j fx0) j pt0) (gZ j))) trivial (sS (dN z48 j (oCr (xs:=[.v false [.im 0 _]]) (vs:=[(false,[.own 64 0 0])]) (v:=.v false [.own 64 0 0]) (c:=⟨.sh,0,_⟩) (cs:=[]) (ni (en:=(eL 1 eI)) (L:=bz) j Di) (.inl j) j ug j (ppC j pp0) j j pb0 j j j)) trivial (sS (dN z48 j (sO (en:=(eL 1 eI)) (M:=([([x28,x36]:List Int)]:List (List Int))) j Bi j kR j j vz (.inl ⟨_,j⟩) j j j j (jH j j) (gZ j))) trivial (sS (dN z48 j (oCr (xs:=[.v false [.im 2 _]]) (vs:=[(false,[.own 72 0 0])]) (v:=.v false [.own 72 0 0]) (c:=⟨.sh,0,_⟩) (cs:=[]) (jc (en:=eI) (L:=x71) j Dp (fun _=>j)) (.inl j) j mF j (ppC j pp0) j j pb0 j j j)) trivial (sS (dN z48 j (oCr (xs:=[.v false [.own 72 0 0],.v false [.im 0 _],.v false [.im 0 _]]) (vs:=[(false,[.own 76 0 0])]) (v:=.v false [.own 76 0 0]) (c:=⟨.sh,0,_⟩) (cs:=[]) (jd j Dq) (.inl j) j fP j (ppM (ja j j) (ppC j (ppC j pp0))) j j pb0 j j j)) trivial (sS (dN z48 j (oCa (xs:=[.v false [.mp 0 0 0],.v false [.own 69 0 0],.v false [.own 76 0 0],.v false [.im 0 _]]) (vs:=[]) (v:=.tup []) (ih zY) (.inl j) j bF j (zq (ob':=⟨0,0,true,true,false,true,[Ct 1 (W 9 ae x61.2.list),C (V x61.2.book),C (I x61.2.left),C (V x61.2.found),Z (W 1 (eL 1 eI) x61.2.best),C (I x61.2.least)]⟩) j j j (by kernel_rfl) (BJ (fxO j j fx0) j (ppC j (ppC j pp0)))) j j (zu (ob':=⟨0,1,true,true,false,true,[⟨.imm,1,1,W 9 ae x78.list⟩,⟨.imm,1,0,V x78.book⟩,⟨.imm,1,0,I x78.left⟩,⟨.imm,1,0,V x78.found⟩,⟨.sh,1,0,W 1 (eL 1 eI) x78.best⟩,⟨.imm,1,0,I x78.least⟩]⟩) j j (by kernel_rfl) pb0) j j j)) trivial (sD (by kernel_rfl))))))))))))))<|Unw.blk<|K11 _ ⟨x78.list,x78.book,x78.left,x78.found,x78.best,x78.least,h,(by kernel_rfl)⟩
     ·exact Go.skip<|Unw.blk<|K11 _ ⟨x61.2.list,x61.2.book,x61.2.left,x61.2.found,x61.2.best,x61.2.least,h,(by kernel_rfl)⟩
   ·refine Go.exit<|ux<|Unw.nil<|?_
    cases h
    exact ⟨j,(by kernel_rfl)⟩
  ·rintro ⟨e,st⟩ hp
   obtain ⟨oq,ou,oz,oC,oD,oG⟩:=o
   dsimp only at h
   obtain ⟨he,hst⟩:=hp
   obtain rfl:e= .exit 0:=he
   refine Unw.ve<|us<|gs<|?_
   obtain ⟨x82,aaQ,h⟩:=bs h
   obtain ⟨⟨Ik,wS,wU,wV,wW,wX,wY⟩,hm8,h⟩:=bs h
   dsimp only at h
   refine gX c48 j j hst (mk [(0,M 0),(1,D 0 (W 1 (eL 1 eI) bz)),(2,D 2 (W 1 eI gz)),(3,iv jY),(88,bv Ik)] [(0,Od [Ct 1 (W 9 ae wS),C (V wU),C (I wV),C (V wW),Z (W 1 (eL 1 eI) wX),C (I wY)])]) ?_ ?_
   ·refine xq (oMv j j)<|xq (qR j j Fg j)<|xq (Xv j aaQ j j)<|xq (oBi j j j j)<|xq (oMv j j)<|?_
    refine ic hm8 (fun hc6 hm8=>?_) fun hc6 hm8=>?_
    ·obtain ⟨x87,aaR,hm8⟩:=bs hm8
     cases hm8
     exact xqT j j (iEq.2 hc6) (oMv j j)<|xqT j j (iEq.2 hc6) (oMv j j)<|xqT j j (iEq.2 hc6) (oCa (xs:=[.v false [.mp 0 0 0],.v false [.im 0 _]]) (vs:=[(false,[.im 0 _])]) (v:=.v false [.im 0 _]) (rJ aaR) (.inl j) j JG j (zq (ob':=⟨0,0,true,true,false,true,[Ct 1 (W 9 ae oq),C (V ou),C (I oz),C (V oC),Z (W 1 (eL 1 eI) oD),C (I oG)]⟩) j j j (by kernel_rfl) (ppC j pp0)) j j (zu (ob':=⟨0,1,true,true,false,true,[⟨.imm,1,1,W 9 ae x87.2.list⟩,⟨.imm,1,0,V x87.2.book⟩,⟨.imm,1,0,I x87.2.left⟩,⟨.imm,1,0,V x87.2.found⟩,⟨.sh,1,0,W 1 (eL 1 eI) x87.2.best⟩,⟨.imm,1,0,I x87.2.least⟩]⟩) j j (by kernel_rfl) pb0) j j j)<|xq (dn j j (iEq.2 hc6) j)<|xn
    ·cases hm8
     exact az j j (byF iEq hc6) j<|az j j (byF iEq hc6) j<|az j j (byF iEq hc6) j<|xq (gY j j (byF iEq hc6) j)<|xn
   ·refine us<|gc h j iR (fun hc7 h=>?_) fun hc7 h=>?_
    ·obtain ⟨x92,V4,h⟩:=bs h
     obtain ⟨x94,XV,h⟩:=bs h
     refine g0 j j (q (oMv j j)<|q (oMv j j)<|q (oMv j j)<|q (D8 j V4 iG j (bn1 j) bn0 j j)<|q (oMv j j)<|q (oCa (xs:=[.v false [.mp 0 0 0],.v false [.im 0 _],.v false [.im 2 _],.v false [.im 0 _]]) (vs:=[]) (v:=.tup []) (ih XV) (.inl j) j bF j (zq (ob':=⟨0,0,true,true,false,true,[Ct 1 (W 9 ae wS),C (V wU),C (I wV),C (V wW),Z (W 1 (eL 1 eI) wX),C (I wY)]⟩) j j j (by kernel_rfl) (ppX (fxI fx0) (ppC j (ppC j pp0)))) j j (zu (ob':=⟨0,1,true,true,false,true,[⟨.imm,1,1,W 9 ae x94.list⟩,⟨.imm,1,0,V x94.book⟩,⟨.imm,1,0,I x94.left⟩,⟨.imm,1,0,V x94.found⟩,⟨.sh,1,0,W 1 (eL 1 eI) x94.best⟩,⟨.imm,1,0,I x94.least⟩]⟩) j j (by kernel_rfl) pb0) j j j)<|nl)<|Unw.nil<|?_
     cases h
     exact Gp (fo XN j)
    ·refine Go.skip<|Unw.nil<|?_
     cases h
     exact Gp (fo XN j)
theorem zZ {s_0:aI} {bz:(List (List Int))} {gz:(List Int)} {jY:Int} {r:aI} (h:iT s_0 bz gz jY=some r):FX 48 [.ptr true [(.imm,W 9 ae s_0.list),(.imm,V s_0.book),(.imm,I s_0.left),(.imm,V s_0.found),(.sh,W 1 (eL 1 eI) s_0.best),(.imm,I s_0.least)],.im 0 false [W 1 (eL 1 eI) bz],.im 2 false [W 1 eI gz],.im 2 false [I jY]] ([],[.ptr true [(.imm,W 9 ae r.list),(.imm,V r.book),(.imm,I r.left),(.imm,V r.found),(.sh,W 1 (eL 1 eI) r.best),(.imm,I r.least)]]):=by
 unfold iT at h
 obtain ⟨n,hn⟩:=yu h
 clear h
 induction n generalizing s_0 bz gz jY r with
 | zero=>cases hn
 | succ n ihn=>exact y7 (self:=um _ n) (fun h=>ihn h) hn
theorem Fz {aC:(List ak)} {fZ:Bool} {qZ:Int} {r:((List (List Int))×Int×Int)} (h:jZ aC fZ qZ=some r):FX 11 [.im 2 false [W 9 ae aC],.im 2 false [V fZ],.im 2 false [I qZ]] (B0 [(false,[.ow 0 1 (List.map (eL 1 eI) r.1)]),(false,[.im 0 (I r.2.1)]),(false,[.im 0 (I r.2.2)])]):=by
 unfold jZ at h
 refine gn 52 Try.func11 rfl ?_
 refine gs<|g0 j j (q (Az j j MW)<|q (ah j j)<|q (ah j j)<|nl)<|us<|gs<|Go.block<|gs<|?_
 obtain ⟨x14,Fj,h⟩:=bs h
 refine g0 j j (q (oMv j j)<|q (oCa (xs:=[.v false [.im 2 _]]) (vs:=[(false,[.im 0 _])]) (v:=.v false [.im 0 _]) (mJ Fj) (.inl j) j Gv j (ppC j pp0) j j pb0 j j j)<|q (oUn j j j)<|q (ah j j)<|nl)<|us<|?_
 by_cases hc1:x14=true
 ·rw [if_pos hc1] at h
  refine gF j (nF (iR.2 hc1))<|gs<|?_
  obtain ⟨x18,Uj,h⟩:=bs h
  refine g0 j j (q (oMv j j)<|q (oCa (xs:=[.v false [.im 2 _],.v false [.im 0 _],.v false [.im 0 _]]) (vs:=[(false,[.im 0 _])]) (v:=.v false [.im 0 _]) (eu Uj) (.inl j) j iL j (ppC j (ppC j (ppC j pp0))) j j pb0 j j j)<|q (oUn j j j)<|q (ah j j)<|nl)<|us<|?_
  by_cases hc2:x18=true
  ·rw [if_pos hc2] at h
   refine gF j (nF (iR.2 hc2))<|Go.skip<|Unw.blk<|us<|gs<|g0 j j (q (oBS (es:=List.map eI ([]:List Int)) j iG j pt0 (fK j fun _=>j))<|q (kX j j j j j)<|nl)<|us<|gs<|gs<|g0 j j (q (oMv j j)<|q (qR j j y5 j)<|q (oMv j j)<|nl)<|us<|Go.block<|?_
   obtain ⟨o,hl,h⟩:=bs h
   refine gl c11 j _ (fun (s:(Int×(List Int)))=>match s with | (lg,wZ)=>mk [(0,D 2 (W 9 ae aC)),(1,bv fZ),(2,iv qZ),(9,H 9 0),(22,iv (aC.length:Int)),(23,iv lg)] [(9,Oc [Z (W 1 eI wZ)])]) (fun (rf:(List Int)) (p:Ex×St)=>p.1= .exit 1∧p.2.norm ([0,1,2,9],[9])=mk [(0,D 2 (W 9 ae aC)),(1,bv fZ),(2,iv qZ),(9,H 9 0)] [(9,Oc [Z (W 1 eI rf)])]) hl (by kernel_rfl) ?_ ?_ ?_
   ·intro o p hp e
    exact nomatch (hp.1.symm.trans e)
   ·rintro ⟨lg,wZ⟩ o h
    unfold jE at h
    dsimp only at h
    refine gs<|g0 j j (q (oBi j j j j)<|nl)<|us<|gs<|gc h j af (fun hc6 h=>?_) fun hc6 h=>?_
    ·refine Go.skip<|us<|gs<|Go.block<|gs<|g0 j j (q (oMv j j)<|q (ah j j)<|nl)<|us<|?_
     obtain ⟨x29,hx29,h⟩:=bs h
     refine g0 j j (q (oMv j j)<|q (oMv j j)<|q (oBS (es:=List.map eI ([lg]:List Int)) j iG j (ptC j (fxI fx0) j pt0) (fK j fun _=>j))<|q (sO (en:=eI) (M:=([lg]:List Int)) j hx29 j iG j j Fg (.inl ⟨_,j⟩) j j j j (jH j j) (fK j fun _=>j))<|q (kX j j j j j)<|nl)<|Unw.blk<|us<|g0 j j (q (oBi j j j j)<|q (oMv j j)<|nl)<|Unw.nil<|?_
     cases h
     exact ⟨j,(by kernel_rfl)⟩
    ·refine Go.exit<|ux<|Unw.nil<|?_
     cases h
     exact ⟨j,(by kernel_rfl)⟩
   ·rintro ⟨e,st⟩ hp
    obtain ⟨rf,rfl⟩:∃y,y=o:=⟨o,rfl⟩
    obtain ⟨he,hst⟩:=hp
    obtain rfl:e= .exit 1:=he
    refine Unw.ve<|us<|gs<|g2 c11 j j hst (q (oMv j j)<|q (oMv j j)<|q (oMv j j)<|q (oBu (cs:=[.im 2 _,.im 0 _,.im 0 _,.im 0 _,.nil,.im 0 _]) j aax j)<|q (oBx j aaO j (tkI (tkI (tkI (tkI (tkN (tkI tk0)))))))<|q (U7 j j)<|nl)<|us<|gs<|?_
    obtain ⟨x38,hx38,h⟩:=bs h
    refine g1 j j (mk [(9,H 9 0),(11,M 35)] [(9,Oc [Z (W 1 eI rf)]),(35,Oa [Ct 2 (W 9 ae aC),C (V fZ),C (I qZ),C (V false),Z (W 1 (eL 1 eI) ([]:List (List Int))),C (I 0)])]) (q (oMv j j)<|q (oMv j j)<|q (oCa (xs:=[.v false [.mp 35 0 0],.v false [.nil],.v false [.own 9 0 0],.v false [.im 0 _]]) (vs:=[]) (v:=.tup []) (zZ hx38) (.inl j) j bF j (zq (ob':=⟨0,0,false,true,false,true,[Ct 2 (W 9 ae aC),C (V fZ),C (I qZ),C (V false),Z (W 1 (eL 1 eI) ([]:List (List Int))),C (I 0)]⟩) j j j (by kernel_rfl) (BJ (fxN fx0) j (ppC j (ppC j pp0)))) j j (zu (ob':=⟨0,1,false,true,false,true,[⟨.imm,1,2,W 9 ae x38.list⟩,⟨.imm,1,0,V x38.book⟩,⟨.imm,1,0,I x38.left⟩,⟨.imm,1,0,V x38.found⟩,⟨.sh,1,0,W 1 (eL 1 eI) x38.best⟩,⟨.imm,1,0,I x38.least⟩]⟩) j j (by kernel_rfl) pb0) j j j)<|nl)<|us<|gs<|gs<|g1 j j (mk [(11,M 35)] [(35,Oa [Ct 2 (W 9 ae x38.list),C (V x38.book),C (I x38.left),C (V x38.found),Z (W 1 (eL 1 eI) x38.best),C (I x38.least)])]) (q (oMv j j)<|q (oNl j j j)<|q (oFA (r':=.mp 35 0 2) j Iw j j)<|q (oLd (cs:=[.im 0 _]) j tF2 j j)<|q (oBi j j j j)<|nl)<|us<|gc h j af (fun hc5 h=>?_) fun hc5 h=>?_
    ·refine gs<|g0 j j (q (Az j j MW)<|q (ah j j)<|q (ah j j)<|nl)<|us<|Go.ret (Unw.ret ?_)
     cases h
     exact fr VU j
    ·refine Go.skip<|us<|gs<|gd c11 j j j j (mk [(6,H 6 0),(7,iv x38.least),(8,iv 0)] [(6,Oc [Z (W 1 (eL 1 eI) x38.best)])]) (t j j (oMv j j)<|t j j (oNl j j j)<|t j j (oFA (r':=.mp 35 0 4) j TW j j)<|t j j (oLd (cs:=[.own 35 0 4]) j Zd j j)<|t j j (oMv j j)<|sF (dN z11 j (oNl j j j)) trivial (sF (dN z11 j (oFA (r':=.mp 35 0 5) j Iy j j)) trivial (sF (dN z11 j (oLd (cs:=[.im 0 _]) j tF2 j j)) trivial (sS (dN z11 j (kX j j j j j)) trivial (sS (dN z11 j (ah j j)) trivial (sS (dN z11 j (ah j j)) trivial (sD (by kernel_rfl))))) (sS (dN z11 j (kX j j j j j)) trivial (t j j (oLd (cs:=[.im 0 _]) j tF2 j j)<|sS (dN z11 j (ah j j)) trivial (sS (dN z11 j (ah j j)) trivial (sD (by kernel_rfl)))))) (sS (dN z11 j (kX j j j j j)) trivial (t j j (oFA (r':=.mp 35 0 5) j Iy j j)<|t j j (oLd (cs:=[.im 0 _]) j tF2 j j)<|sS (dN z11 j (ah j j)) trivial (sS (dN z11 j (ah j j)) trivial (sD (by kernel_rfl)))))) (sS (dN z11 j (kX j j j j j)) trivial (t j j (oNl j j j)<|t j j (oFA (r':=.mp 35 0 5) j Iy j j)<|t j j (oLd (cs:=[.im 0 _]) j tF2 j j)<|sS (dN z11 j (ah j j)) trivial (sS (dN z11 j (ah j j)) trivial (sD (by kernel_rfl))))))<|us<|Go.ret (Unw.ret ?_)
     cases h
     exact fr VU j
  ·rw [if_neg hc2] at h
   refine gT j (nT (byF iR hc2))<|gs<|g0 j j (q (Az j j MW)<|q (ah j j)<|q (ah j j)<|nl)<|us<|Go.ret (Unw.ret ?_)
   cases h
   exact fr VU j
 ·rw [if_neg hc1] at h
  refine gT j (nT (byF iR hc1))<|gs<|g0 j j (q (Az j j MW)<|q (ah j j)<|q (ah j j)<|nl)<|us<|Go.ret (Unw.ret ?_)
  cases h
  exact fr VU j
theorem KZ {x_0:Int} {r:Int} (h:bits_Len64 x_0=some r):FX 144 [.im 2 false [.sc (.int .u64 x_0)]] (B0 [(false,[.im 0 (I r)])]):=by
 unfold bits_Len64 at h
 refine gn 25 Try.func144 rfl ?_
 refine gs<|g0 j j (q (ah j j)<|nl)<|us<|gs<|gs<|g0 j j (q (oMv j j)<|q (oBi j j j j)<|nl)<|us<|Go.join (fun st=>∃AO,∃AQ,tZ AO AQ=some r∧st.norm ([0,2],[])=mk [(0,D 0 (.sc (.int .u64 AO))),(2,iv AQ)] []) ?_ ?_
 ·rintro st ⟨AO,AQ,h,hst⟩
  unfold tZ at h
  refine us<|gs<|gs<|g2 VM j j hst (q (oMv j j)<|q (oBi j j j j)<|nl)<|us<|Go.join (fun st=>∃AB,∃AL,tY AB AL=some r∧st.norm ([0,2],[])=mk [(0,D 0 (.sc (.int .u64 AB))),(2,iv AL)] []) ?_ ?_
  ·rintro st ⟨AB,AL,h,hst⟩
   unfold tY at h
   refine us<|gs<|gs<|g2 VM j j hst (q (oMv j j)<|q (oBi j j j j)<|nl)<|us<|Go.join (fun st=>∃Eb,∃Ec,rq Eb Ec=some r∧st.norm ([0,2],[])=mk [(0,D 0 (.sc (.int .u64 Eb))),(2,iv Ec)] []) ?_ ?_
   ·rintro st ⟨Eb,Ec,h,hst⟩
    unfold rq at h
    refine us<|gs<|?_
    obtain ⟨x22,A8,h⟩:=bs h
    refine g2 VM j j hst (q (oMv j j)<|q (oMv j j)<|q (Oh j Ug uF5 j)<|q (oIx j A8 uF9 j j)<|q (Oh j uF5 uF3 j)<|q (oBi j j j j)<|q (ah j j)<|nl)<|us<|Go.ret (Unw.ret ?_)
    cases h
    exact fr YZ j
   ·intro K4
    refine gc h j af (fun hc5 h=>?_) fun hc5 h=>?_
    ·refine gs<|?_
     obtain ⟨x16,hx16,h⟩:=bs h
     exact g0 j j (q (oMv j j)<|q (U8 j hx16 j j)<|q (ah j j)<|nl)<|us<|g0 j j (q (oMv j j)<|q (oBi j j j j)<|q (ah j j)<|nl)<|K4 _ ⟨x16,(w64 (AL+8)),h,(by kernel_rfl)⟩
    ·exact Go.skip<|K4 _ ⟨AB,AL,h,(by kernel_rfl)⟩
  ·intro K6
   refine gc h j af (fun hc7 h=>?_) fun hc7 h=>?_
   ·refine gs<|?_
    obtain ⟨x10,Ba,h⟩:=bs h
    exact g0 j j (q (oMv j j)<|q (U8 j Ba j j)<|q (ah j j)<|nl)<|us<|g0 j j (q (oMv j j)<|q (oBi j j j j)<|q (ah j j)<|nl)<|K6 _ ⟨x10,(w64 (AQ+16)),h,(by kernel_rfl)⟩
   ·exact Go.skip<|K6 _ ⟨AO,AQ,h,(by kernel_rfl)⟩
 ·intro K8
  refine gc h j af (fun hc9 h=>?_) fun hc9 h=>?_
  ·refine gs<|?_
   obtain ⟨x6,hx6,h⟩:=bs h
   exact g0 j j (q (oMv j j)<|q (U8 j hx6 j j)<|q (ah j j)<|nl)<|us<|g0 j j (q (ah j j)<|nl)<|K8 _ ⟨x6,32,h,(by kernel_rfl)⟩
  ·exact Go.skip<|K8 _ ⟨x_0,0,h,(by kernel_rfl)⟩
theorem OO {x_0:Int} {r:Int} (h:bits_Len x_0=some r):FX 103 [.im 2 false [.sc (.int .u64 x_0)]] (B0 [(false,[.im 0 (I r)])]):=by
 unfold bits_Len at h
 refine gn 8 Try.func103 rfl ?_
 refine gs<|g0 j j (q (ah j j)<|nl)<|us<|gs<|gF j j<|Go.skip<|us<|gs<|?_
 obtain ⟨x7,hx7,h⟩:=bs h
 refine g0 j j (q (oMv j j)<|q (oCa (xs:=[.v false [.im 2 _]]) (vs:=[(false,[.im 0 _])]) (v:=.v false [.im 0 _]) (KZ hx7) (.inl j) j Rf j (ppC j pp0) j j pb0 j j j)<|q (ah j j)<|nl)<|us<|Go.ret (Unw.ret ?_)
 cases h
 exact fr YN j
theorem xO {x_0:Int} {r:Bool} (h:mW x_0=some r):FX 145 [.im 2 false [I x_0]] (B0 [(false,[.im 0 (V r)])]):=by
 unfold mW at h
 refine gn 6 Try.func145 rfl ?_
 refine gs<|g0 j j (q (ah j j)<|nl)<|us<|gs<|g0 j j (q (oMv j j)<|q (oMv j j)<|q (oBi j j j j)<|q (ah j j)<|nl)<|us<|Go.ret (Unw.ret ?_)
 cases h
 exact fr Y0 j
end
end Go.Proofs.Ytjejfolfomknaaa
