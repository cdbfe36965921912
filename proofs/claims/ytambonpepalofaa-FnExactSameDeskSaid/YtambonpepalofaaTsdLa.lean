/- The machine answers, at each function of the program that is reached, what its plain function answers. Conditions: none. -/
import Derived.Test.YtambonpepalofaaProg
import Derived.KernelRfl
import Derived.Test.YtambonpepalofaaSimRs
import Derived.Test.YtambonpepalofaaTsdT
namespace Go.Proofs.Ytambonpepalofaa
open Go Go.Sim Go.Pw Go.Proofs
set_option linter.unusedVariables false
set_option linter.unusedSimpArgs false
set_option maxRecDepth 100000
set_option maxHeartbeats 4000000
noncomputable section
noncomputable abbrev u_S_Point (x:S_Point):List AV:=[I x.X,I x.Y]
noncomputable def e_S_Point (x:S_Point):AV:= .agg (u_S_Point x)
noncomputable abbrev u_S_Face (x:S_Face):List AV:=[Y x.Name,W 1 eI x.Ring]
noncomputable def e_S_Face (x:S_Face):AV:= .agg (u_S_Face x)
noncomputable abbrev u_S_Drawing (x:S_Drawing):List AV:=[I x.Width,I x.Height,W 2 e_S_Point x.Points,W 2 e_S_Face x.Faces]
noncomputable def e_S_Drawing (x:S_Drawing):AV:= .agg (u_S_Drawing x)
noncomputable abbrev u_S_Veneer (x:S_Veneer):List AV:=[Y x.Species,I x.Shade,I x.Grain]
noncomputable def e_S_Veneer (x:S_Veneer):AV:= .agg (u_S_Veneer x)
noncomputable abbrev u_S_Picture (x:S_Picture):List AV:=[I x.Drawing.Width,I x.Drawing.Height,W 2 e_S_Point x.Drawing.Points,W 2 e_S_Face x.Drawing.Faces,W 3 e_S_Veneer x.Veneers]
noncomputable def e_S_Picture (x:S_Picture):AV:= .agg (u_S_Picture x)
noncomputable abbrev u_S_Box (x:S_Box):List AV:=[I x.X,I x.Y,I x.Width,I x.Length]
noncomputable def e_S_Box (x:S_Box):AV:= .agg (u_S_Box x)
noncomputable abbrev u_S_Leaf (x:S_Leaf):List AV:=[Y x.Id,Y x.Flitch,I x.Number,Y x.Veneer.Species,I x.Veneer.Shade,I x.Veneer.Grain,I x.Width,I x.Length,W 4 e_S_Box x.Defects]
noncomputable def e_S_Leaf (x:S_Leaf):AV:= .agg (u_S_Leaf x)
noncomputable abbrev u_S_Placement (x:S_Placement):List AV:=[I x.Face,I x.Leaf,I x.X,I x.Y,I x.Turn]
noncomputable def e_S_Placement (x:S_Placement):AV:= .agg (u_S_Placement x)
noncomputable abbrev u_S_Rules (x:S_Rules):List AV:=[I x.Spacing,I x.Margin,I x.Angle,I x.Shade]
noncomputable def e_S_Rules (x:S_Rules):AV:= .agg (u_S_Rules x)
noncomputable abbrev u_S_Job (x:S_Job):List AV:=[I x.Picture.Drawing.Width,I x.Picture.Drawing.Height,W 2 e_S_Point x.Picture.Drawing.Points,W 2 e_S_Face x.Picture.Drawing.Faces,W 3 e_S_Veneer x.Picture.Veneers,W 9 e_S_Leaf x.Leaves,W 5 e_S_Placement x.Placements,I x.Rules.Spacing,I x.Rules.Margin,I x.Rules.Angle,I x.Rules.Shade,I x.Thickness,I x.Kerf,I x.Bevel,I x.Gap,W 1 eI x.Order,W 1 eI x.Cuts]
noncomputable def e_S_Job (x:S_Job):AV:= .agg (u_S_Job x)
noncomputable abbrev u_S_Bond (x:S_Bond):List AV:=[Y x.Name,I x.Spread,I x.Open,I x.Press]
noncomputable def e_S_Bond (x:S_Bond):AV:= .agg (u_S_Bond x)
noncomputable abbrev u_S_Coat (x:S_Coat):List AV:=[Y x.Name,I x.Work,I x.Dry,I x.Wait]
noncomputable def e_S_Coat (x:S_Coat):AV:= .agg (u_S_Coat x)
noncomputable abbrev u_S_Rates (x:S_Rates):List AV:=[I x.Hour,I x.Edge,I x.Face,I x.Waste,I x.Margin]
noncomputable def e_S_Rates (x:S_Rates):AV:= .agg (u_S_Rates x)
noncomputable abbrev u_S_Desk (x:S_Desk):List AV:=[I x.Job.Picture.Drawing.Width,I x.Job.Picture.Drawing.Height,W 2 e_S_Point x.Job.Picture.Drawing.Points,W 2 e_S_Face x.Job.Picture.Drawing.Faces,W 3 e_S_Veneer x.Job.Picture.Veneers,W 9 e_S_Leaf x.Job.Leaves,W 5 e_S_Placement x.Job.Placements,I x.Job.Rules.Spacing,I x.Job.Rules.Margin,I x.Job.Rules.Angle,I x.Job.Rules.Shade,I x.Job.Thickness,I x.Job.Kerf,I x.Job.Bevel,I x.Job.Gap,W 1 eI x.Job.Order,W 1 eI x.Job.Cuts,W 4 e_S_Bond x.Bonds,W 4 e_S_Coat x.Coats,I x.Rates.Hour,I x.Rates.Edge,I x.Rates.Face,I x.Rates.Waste,I x.Rates.Margin]
noncomputable def e_S_Desk (x:S_Desk):AV:= .agg (u_S_Desk x)
noncomputable def fc14:FCfg:={par:=[.cst false,.cst false],inn:=[(1,some ([2,3],[2,3])),(10,some ([2,3,6,7],[2,3,7])),(11,some ([2,3,6,7,8],[2,3,7,8]))],out:=[(8,some ([2,3,6],[2,3])),(14,some ([3,8,39],[3,8])),(16,some ([44],[]))],loopK:=[],frz:=[],sch:=[(8,.first 0 [1,3,4,5] [2]<| .first 2 [3,4,5] [1]<| .fork 1 (.fork 3 (.fork 4 (.fork 5 (.done) (.stop)) (.stop)) (.stop)) (.stop)),(14,.first 0 [3,4] [1,2]<| .first 1 [2,3,4] []<| .fork 2 (.fork 3 (.first 4 [] []<| .done) (.stop)) (.stop)),(16,.first 0 [3,4] [1,2]<| .first 1 [2,3,4] []<| .fork 2 (.fork 3 (.first 4 [] []<| .done) (.stop)) (.stop))]}
noncomputable def fc22:FCfg:={par:=[.cst false,.cst false],inn:=[(10,some ([1],[]))],out:=[],loopK:=[(5,([0,1,5],[]))],frz:=[],sch:=[]}
noncomputable def fc24:FCfg:={par:=[.cst false],inn:=[(4,some ([0,3,4],[3])),(6,some ([3],[3]))],out:=[],loopK:=[(3,([0,3,4],[3]))],frz:=[],sch:=[]}
noncomputable def fc27:FCfg:={par:=[.cst false,.cst false],inn:=[(8,some ([],[]))],out:=[(6,some ([0,1,5,26],[]))],loopK:=[(4,([0,1,5],[]))],frz:=[],sch:=[(6,.first 0 [2,3,8,9] [1,4,5,6,7]<| .first 1 [2,3,8,9] [4,5,6,7]<| .first 2 [3,8,9] [4,5,6,7]<| .first 3 [8,9] [4,5,6,7]<| .first 4 [6,7,8,9] [5]<| .first 5 [6,7,8,9] []<| .first 6 [7,8,9] []<| .first 7 [8,9] []<| .fork 8 (.first 9 [] []<| .done) (.stop))]}
noncomputable def fc36:FCfg:={par:=[.cst false,.cst false],inn:=[],out:=[],loopK:=[],frz:=[],sch:=[]}
noncomputable def fc38:FCfg:={par:=[.cst false],inn:=[(3,some ([1,2,3],[1,2,3])),(4,some ([1,2,3],[1,2,3])),(5,some ([1,2,3],[1,2,3])),(6,some ([2,3],[2,3]))],out:=[],loopK:=[],frz:=[],sch:=[]}
noncomputable def fc39:FCfg:={par:=[.cst false,.cst false],inn:=[],out:=[],loopK:=[],frz:=[],sch:=[]}
noncomputable def fc41:FCfg:={par:=[.cst false,.cst false],inn:=[(8,some ([],[]))],out:=[(6,some ([0,1,5,25],[]))],loopK:=[(4,([0,1,5],[]))],frz:=[],sch:=[(6,.first 0 [2,3,8] [1,4,5,6,7]<| .first 1 [2,3,8] [4,5,6,7]<| .first 2 [3,8] [4,5,6,7]<| .first 3 [8] [4,5,6,7]<| .first 4 [6,7,8] [5]<| .first 5 [6,7,8] []<| .first 6 [7,8] []<| .first 7 [8] []<| .first 8 [] []<| .done)]}
noncomputable def fc59:FCfg:={par:=[.cst false,.cst false],inn:=[(10,some ([1],[]))],out:=[],loopK:=[(5,([0,1,5],[]))],frz:=[],sch:=[]}
noncomputable def fc61:FCfg:={par:=[.cst false],inn:=[(4,some ([0,3,4],[3])),(6,some ([3],[3]))],out:=[],loopK:=[(3,([0,3,4],[3]))],frz:=[],sch:=[]}
noncomputable def fc63:FCfg:={par:=[.cst false,.cst false],inn:=[(8,some ([],[]))],out:=[(6,some ([0,1,5,26],[]))],loopK:=[(4,([0,1,5],[]))],frz:=[],sch:=[(6,.first 0 [2,3,8,9] [1,4,5,6,7]<| .first 1 [2,3,8,9] [4,5,6,7]<| .first 2 [3,8,9] [4,5,6,7]<| .first 3 [8,9] [4,5,6,7]<| .first 4 [6,7,8,9] [5]<| .first 5 [6,7,8,9] []<| .first 6 [7,8,9] []<| .first 7 [8,9] []<| .fork 8 (.first 9 [] []<| .done) (.stop))]}
noncomputable def fc77:FCfg:={par:=[.cst false,.cst false],inn:=[(1,some ([1,2],[2]))],out:=[],loopK:=[],frz:=[],sch:=[]}
noncomputable def fc78:FCfg:={par:=[.cst false,.cst false],inn:=[(1,some ([2,3],[2,3])),(8,some ([2,3],[2,3])),(13,some ([],[]))],out:=[(1,some ([2,3,35],[2,3])),(6,some ([2,3,5,53],[2,3])),(11,some ([2,3,6,71],[2,3]))],loopK:=[(4,([2,3,5],[2,3])),(9,([2,3,6],[2,3]))],frz:=[],sch:=[(6,.first 0 [1,3,4,10] [2,5,6,7,8,9]<| .first 1 [3,4,10] [2,5,6,7,8,9]<| .first 2 [3,4,10] [5,6,7,8,9]<| .first 3 [4,10] [5,6,7,8,9]<| .first 4 [10] [5,6,7,8,9]<| .first 5 [6,8,9,10] [7]<| .first 6 [8,9,10] [7]<| .first 7 [8,9,10] []<| .first 8 [9,10] []<| .first 9 [10] []<| .first 10 [] []<| .done),(11,.first 0 [1,3,4,10] [2,5,6,7,8,9]<| .first 1 [3,4,10] [2,5,6,7,8,9]<| .first 2 [3,4,10] [5,6,7,8,9]<| .first 3 [4,10] [5,6,7,8,9]<| .first 4 [10] [5,6,7,8,9]<| .first 5 [6,8,9,10] [7]<| .first 6 [8,9,10] [7]<| .first 7 [8,9,10] []<| .first 8 [9,10] []<| .first 9 [10] []<| .first 10 [] []<| .done)]}
noncomputable def fc79:FCfg:={par:=[.cst false],inn:=[(1,some ([1,2],[1,2])),(2,some ([1,2,3],[1,2,3])),(3,some ([1,2,3],[1,2,3])),(4,some ([1,2,3],[1,2,3])),(5,some ([1,2,3],[1,2,3])),(6,some ([2,3],[2,3]))],out:=[],loopK:=[],frz:=[],sch:=[]}
noncomputable def fc80:FCfg:={par:=[.cst false,.cst false],inn:=[(1,some ([2,3],[2,3]))],out:=[(1,some ([4],[]))],loopK:=[],frz:=[],sch:=[]}
noncomputable def fc81:FCfg:={par:=[.cst false,.cst false],inn:=[(1,some ([2,3],[2,3]))],out:=[],loopK:=[],frz:=[],sch:=[]}
noncomputable def fc92:FCfg:={par:=[.cst false,.cst false],inn:=[(1,some ([1,2],[2]))],out:=[],loopK:=[],frz:=[],sch:=[]}
noncomputable def fc96:FCfg:={par:=[.cst false],inn:=[(1,some ([1,2],[1,2])),(2,some ([1,2,3],[1,2,3])),(3,some ([1,2,3],[1,2,3])),(4,some ([1,2,3],[1,2,3])),(5,some ([1,2,3],[1,2,3])),(6,some ([1,2,3],[1,2,3])),(7,some ([1,2,3],[1,2,3])),(8,some ([1,2,3],[1,2,3])),(9,some ([2,3],[2,3]))],out:=[],loopK:=[],frz:=[],sch:=[]}
noncomputable def fc100:FCfg:={par:=[.cst false,.cst false],inn:=[(1,some ([2,3],[2,3]))],out:=[],loopK:=[],frz:=[],sch:=[]}
noncomputable def fc110:FCfg:={par:=[.cst false,.cst false],inn:=[],out:=[],loopK:=[],frz:=[],sch:=[]}
noncomputable def fc111:FCfg:={par:=[.cst false,.cst false],inn:=[(10,some ([1],[]))],out:=[],loopK:=[(5,([0,1,5],[]))],frz:=[],sch:=[]}
noncomputable def fc113:FCfg:={par:=[.cst false],inn:=[(4,some ([0,3,4],[3])),(6,some ([3],[3]))],out:=[],loopK:=[(3,([0,3,4],[3]))],frz:=[],sch:=[]}
noncomputable def fc114:FCfg:={par:=[.cst false],inn:=[(4,some ([0,3,4],[3])),(6,some ([3],[3]))],out:=[],loopK:=[(3,([0,3,4],[3]))],frz:=[],sch:=[]}
noncomputable def fc115:FCfg:={par:=[.cst false,.cst false],inn:=[(8,some ([],[]))],out:=[(6,some ([0,1,5,26],[]))],loopK:=[(4,([0,1,5],[]))],frz:=[],sch:=[(6,.first 0 [2,3,8,9] [1,4,5,6,7]<| .first 1 [2,3,8,9] [4,5,6,7]<| .first 2 [3,8,9] [4,5,6,7]<| .first 3 [8,9] [4,5,6,7]<| .first 4 [6,7,8,9] [5]<| .first 5 [6,7,8,9] []<| .first 6 [7,8,9] []<| .first 7 [8,9] []<| .fork 8 (.first 9 [] []<| .done) (.stop))]}
noncomputable def fc116:FCfg:={par:=[.cst false,.cst false],inn:=[(8,some ([],[]))],out:=[(6,some ([0,1,5,26],[]))],loopK:=[(4,([0,1,5],[]))],frz:=[],sch:=[(6,.first 0 [2,3,8,9] [1,4,5,6,7]<| .first 1 [2,3,8,9] [4,5,6,7]<| .first 2 [3,8,9] [4,5,6,7]<| .first 3 [8,9] [4,5,6,7]<| .first 4 [6,7,8,9] [5]<| .first 5 [6,7,8,9] []<| .first 6 [7,8,9] []<| .first 7 [8,9] []<| .fork 8 (.first 9 [] []<| .done) (.stop))]}
noncomputable def fc131:FCfg:={par:=[.cst false,.cst false],inn:=[],out:=[],loopK:=[],frz:=[],sch:=[]}
noncomputable def fc134:FCfg:={par:=[.cst false],inn:=[(4,some ([0,3,4],[3])),(6,some ([3],[3]))],out:=[],loopK:=[(3,([0,3,4],[3]))],frz:=[],sch:=[]}
noncomputable def fc135:FCfg:={par:=[.cst false,.cst false],inn:=[],out:=[],loopK:=[],frz:=[],sch:=[]}
noncomputable def fc137:FCfg:={par:=[.cst false],inn:=[(3,some ([1,2,3],[1,2,3])),(4,some ([1,2,3],[1,2,3])),(5,some ([2,3],[2,3]))],out:=[],loopK:=[],frz:=[],sch:=[]}
noncomputable def fc139:FCfg:={par:=[.cst false,.cst false],inn:=[],out:=[],loopK:=[],frz:=[],sch:=[]}
noncomputable def fc154:FCfg:={par:=[.cst false,.cst false],inn:=[(1,some ([1,2],[2]))],out:=[],loopK:=[],frz:=[],sch:=[]}
noncomputable def fc155:FCfg:={par:=[.cst false,.cst false],inn:=[(10,some ([1],[]))],out:=[],loopK:=[(5,([0,1,5],[]))],frz:=[],sch:=[]}
noncomputable def fc156:FCfg:={par:=[.cst false,.cst false],inn:=[(10,some ([1],[]))],out:=[],loopK:=[(5,([0,1,5],[]))],frz:=[],sch:=[]}
noncomputable def fc157:FCfg:={par:=[.cut 17,.cut 17],inn:=[(8,some ([0,1],[])),(13,some ([0,1],[]))],out:=[(1,some ([0,1,95],[])),(6,some ([0,1,5,118],[])),(11,some ([0,1,6,142],[])),(13,some ([4],[]))],loopK:=[(4,([0,1,5],[])),(9,([0,1,6],[]))],frz:=[],sch:=[(1,.first 0 (rg [1,3,6,89]) [3,4,5]<| .first 1 (rg [2,3,6,89]) [3,4,5]<| .first 2 (rg [6,89]) [3,4,5]<| .first 3 (rg [4,89]) []<| .first 4 (rg [5,89]) []<| .first 5 (rg [6,89]) []<| .fork 6 (.first 7 (rg [8,89]) []<| .first 8 (rg [9,89]) []<| .first 9 (rg [10,14,19,89]) [14,15,16,17,18]<| .first 10 (rg [11,14,19,89]) [14,15,16,17,18]<| .first 11 (rg [12,14,19,89]) [14,15,16,17,18]<| .first 12 (rg [13,14,19,89]) [14,15,16,17,18]<| .first 13 (rg [19,89]) [14,15,16,17,18]<| .first 14 (rg [15,89]) []<| .first 15 (rg [16,89]) []<| .first 16 (rg [17,89]) []<| .first 17 (rg [18,89]) []<| .first 18 (rg [19,89]) []<| .first 19 (rg [20,89]) []<| .first 20 (rg [21,89]) []<| .first 21 (rg [22,89]) []<| .first 22 (rg [23,27,32,89]) [27,28,29,30,31]<| .first 23 (rg [24,27,32,89]) [27,28,29,30,31]<| .first 24 (rg [25,27,32,89]) [27,28,29,30,31]<| .first 25 (rg [26,27,32,89]) [27,28,29,30,31]<| .first 26 (rg [32,89]) [27,28,29,30,31]<| .first 27 (rg [28,89]) []<| .first 28 (rg [29,89]) []<| .first 29 (rg [30,89]) []<| .first 30 (rg [31,89]) []<| .first 31 (rg [32,89]) []<| .first 32 (rg [33,89]) []<| .first 33 (rg [34,89]) []<| .first 34 (rg [35,89]) []<| .first 35 (rg [36,39,43,89]) [39,40,41,42]<| .first 36 (rg [37,39,43,89]) [39,40,41,42]<| .first 37 (rg [38,39,43,89]) [39,40,41,42]<| .first 38 (rg [43,89]) [39,40,41,42]<| .first 39 (rg [40,89]) []<| .first 40 (rg [41,89]) []<| .first 41 (rg [42,89]) []<| .first 42 (rg [43,89]) []<| .first 43 (rg [44,89]) []<| .first 44 (rg [45,89]) []<| .first 45 (rg [46,89]) []<| .first 46 (rg [47,50,54,89]) [50,51,52,53]<| .first 47 (rg [48,50,54,89]) [50,51,52,53]<| .first 48 (rg [49,50,54,89]) [50,51,52,53]<| .first 49 (rg [54,89]) [50,51,52,53]<| .first 50 (rg [51,89]) []<| .first 51 (rg [52,89]) []<| .first 52 (rg [53,89]) []<| .first 53 (rg [54,89]) []<| .first 54 (rg [55,89]) []<| .first 55 (rg [56,89]) []<| .first 56 (rg [57,89]) []<| .first 57 (rg [58,61,65,89]) [61,62,63,64]<| .first 58 (rg [59,61,65,89]) [61,62,63,64]<| .first 59 (rg [60,61,65,89]) [61,62,63,64]<| .first 60 (rg [65,89]) [61,62,63,64]<| .first 61 (rg [62,89]) []<| .first 62 (rg [63,89]) []<| .first 63 (rg [64,89]) []<| .first 64 (rg [65,89]) []<| .first 65 (rg [66,89]) []<| .first 66 (rg [67,89]) []<| .first 67 (rg [68,89]) []<| .first 68 (rg [69,72,76,89]) [72,73,74,75]<| .first 69 (rg [70,72,76,89]) [72,73,74,75]<| .first 70 (rg [71,72,76,89]) [72,73,74,75]<| .first 71 (rg [76,89]) [72,73,74,75]<| .first 72 (rg [73,89]) []<| .first 73 (rg [74,89]) []<| .first 74 (rg [75,89]) []<| .first 75 (rg [76,89]) []<| .first 76 (rg [77,89]) []<| .first 77 (rg [78,89]) []<| .first 78 (rg [79,89]) []<| .first 79 [80,81,82,87,88] [83,84,85,86]<| .first 80 [81,82,87,88] [83,84,85,86]<| .first 81 [82,87,88] [83,84,85,86]<| .first 82 [87,88] [83,84,85,86]<| .first 83 [84,85,86,87,88] []<| .first 84 [85,86,87,88] []<| .first 85 [86,87,88] []<| .first 86 [87,88] []<| .first 87 [88] []<| .first 88 [] []<| .done) (.stop)),(6,.first 0 [1,2,3,5,12,13] [4,6,7,8,9,10,11]<| .first 1 [2,3,5,12,13] [4,6,7,8,9,10,11]<| .first 2 [3,5,12,13] [4,6,7,8,9,10,11]<| .first 3 [5,12,13] [4,6,7,8,9,10,11]<| .first 4 [5,12,13] [6,7,8,9,10,11]<| .first 5 [12,13] [6,7,8,9,10,11]<| .first 6 [7,8,9,11,12,13] [10]<| .first 7 [8,9,11,12,13] [10]<| .first 8 [9,11,12,13] [10]<| .first 9 [11,12,13] [10]<| .first 10 [11,12,13] []<| .first 11 [12,13] []<| .fork 12 (.first 13 [] []<| .done) (.stop)),(11,.first 0 [1,2,3,5,6,14] (rg [4,5,7,14])<| .first 1 [2,3,5,6,14] (rg [4,5,7,14])<| .first 2 [3,5,6,14] (rg [4,5,7,14])<| .first 3 [5,6,14] (rg [4,5,7,14])<| .first 4 [5,6,14] (rg [7,14])<| .first 5 [6,14] (rg [7,14])<| .first 6 [14] (rg [7,14])<| .first 7 [8,9,10,12,13,14] [11]<| .first 8 [9,10,12,13,14] [11]<| .first 9 [10,12,13,14] [11]<| .first 10 [12,13,14] [11]<| .first 11 [12,13,14] []<| .first 12 [13,14] []<| .first 13 [14] []<| .first 14 [] []<| .done),(13,.first 0 (rg [1,4,8,21]) [4,5,6,7]<| .first 1 (rg [2,4,8,21]) [4,5,6,7]<| .first 2 (rg [3,4,8,21]) [4,5,6,7]<| .first 3 (rg [8,21]) [4,5,6,7]<| .first 4 (rg [5,21]) []<| .first 5 (rg [6,21]) []<| .first 6 (rg [7,21]) []<| .first 7 (rg [8,21]) []<| .fork 8 (.first 9 (rg [10,21]) []<| .first 10 [11,12,13,18,19,20] [14,15,16,17]<| .first 11 [12,13,18,19,20] [14,15,16,17]<| .first 12 [13,18,19,20] [14,15,16,17]<| .first 13 [18,19,20] [14,15,16,17]<| .first 14 (rg [15,21]) []<| .first 15 [16,17,18,19,20] []<| .first 16 [17,18,19,20] []<| .first 17 [18,19,20] []<| .fork 18 (.first 19 [20] []<| .fork 20 (.done) (.stop)) (.stop)) (.stop))]}
noncomputable def fc158:FCfg:={par:=[.cst false],inn:=[(1,some ([1,2],[1,2])),(2,some ([1,2,3],[1,2,3])),(3,some ([1,2,3],[1,2,3])),(4,some ([1,2,3],[1,2,3])),(5,some ([1,2,3],[1,2,3])),(6,some ([1,2,3],[1,2,3])),(7,some ([1,2,3],[1,2,3])),(8,some ([1,2,3],[1,2,3])),(9,some ([1,2,3],[1,2,3])),(10,some ([1,2,3],[1,2,3])),(11,some ([1,2,3],[1,2,3])),(12,some ([2,3],[2,3]))],out:=[],loopK:=[],frz:=[],sch:=[]}
noncomputable def fc159:FCfg:={par:=[.cst false],inn:=[(4,some ([0,3,4],[3])),(6,some ([3],[3]))],out:=[],loopK:=[(3,([0,3,4],[3]))],frz:=[],sch:=[]}
noncomputable def fc160:FCfg:={par:=[.cst false],inn:=[(4,some ([0,3,4],[3])),(6,some ([3],[3]))],out:=[],loopK:=[(3,([0,3,4],[3]))],frz:=[],sch:=[]}
noncomputable def fc161:FCfg:={par:=[.cst false],inn:=[(1,some ([1,2],[1,2])),(2,some ([1,2,3],[1,2,3])),(3,some ([1,2,3],[1,2,3])),(4,some ([1,2,3],[1,2,3])),(5,some ([1,2,3],[1,2,3])),(6,some ([1,2,3],[1,2,3])),(7,some ([2,3],[2,3]))],out:=[],loopK:=[],frz:=[],sch:=[]}
noncomputable def fc162:FCfg:={par:=[.cst false,.cst false],inn:=[(1,some ([2,3],[2,3]))],out:=[(1,some ([4],[]))],loopK:=[],frz:=[],sch:=[]}
noncomputable def fc163:FCfg:={par:=[.cst false,.cst false],inn:=[(9,some ([],[]))],out:=[(6,some ([0,1,12,13,24],[]))],loopK:=[(4,([0,1,12,13],[]))],frz:=[],sch:=[(6,.first 0 [2,3,8] [1,4,5,6,7]<| .first 1 [2,3,8] [4,5,6,7]<| .first 2 [3,8] [4,5,6,7]<| .first 3 [8] [4,5,6,7]<| .first 4 [6,7,8] [5]<| .first 5 [6,7,8] []<| .first 6 [7,8] []<| .first 7 [8] []<| .first 8 [] []<| .done)]}
noncomputable def fc164:FCfg:={par:=[.cst false,.cst false],inn:=[(9,some ([],[]))],out:=[(6,some ([0,1,12,13,24],[]))],loopK:=[(4,([0,1,12,13],[]))],frz:=[],sch:=[(6,.first 0 [2,3,8] [1,4,5,6,7]<| .first 1 [2,3,8] [4,5,6,7]<| .first 2 [3,8] [4,5,6,7]<| .first 3 [8] [4,5,6,7]<| .first 4 [6,7,8] [5]<| .first 5 [6,7,8] []<| .first 6 [7,8] []<| .first 7 [8] []<| .first 8 [] []<| .done)]}
noncomputable def fc165:FCfg:={par:=[.cst false,.cst false],inn:=[(1,some ([2,3],[2,3]))],out:=[],loopK:=[],frz:=[],sch:=[]}
noncomputable def fc166:FCfg:={par:=[.cst false,.cst false],inn:=[(8,some ([],[]))],out:=[(6,some ([0,1,5,26],[]))],loopK:=[(4,([0,1,5],[]))],frz:=[],sch:=[(6,.first 0 [2,3,8,9] [1,4,5,6,7]<| .first 1 [2,3,8,9] [4,5,6,7]<| .first 2 [3,8,9] [4,5,6,7]<| .first 3 [8,9] [4,5,6,7]<| .first 4 [6,7,8,9] [5]<| .first 5 [6,7,8,9] []<| .first 6 [7,8,9] []<| .first 7 [8,9] []<| .fork 8 (.first 9 [] []<| .done) (.stop))]}
noncomputable def fc167:FCfg:={par:=[.cst false,.cst false],inn:=[(8,some ([],[]))],out:=[(6,some ([0,1,5,26],[]))],loopK:=[(4,([0,1,5],[]))],frz:=[],sch:=[(6,.first 0 [2,3,8,9] [1,4,5,6,7]<| .first 1 [2,3,8,9] [4,5,6,7]<| .first 2 [3,8,9] [4,5,6,7]<| .first 3 [8,9] [4,5,6,7]<| .first 4 [6,7,8,9] [5]<| .first 5 [6,7,8,9] []<| .first 6 [7,8,9] []<| .first 7 [8,9] []<| .fork 8 (.first 9 [] []<| .done) (.stop))]}
noncomputable def fc168:FCfg:={par:=[.cst false,.cst false],inn:=[(1,some ([2,3],[2,3]))],out:=[],loopK:=[],frz:=[],sch:=[]}
noncomputable def fc184:FCfg:={par:=[.cst false,.cst false],inn:=[],out:=[],loopK:=[],frz:=[],sch:=[]}
noncomputable def fc188:FCfg:={par:=[.cst false],inn:=[(4,some ([0,3,4],[3])),(6,some ([3],[3]))],out:=[],loopK:=[(3,([0,3,4],[3]))],frz:=[],sch:=[]}
noncomputable def fc193:FCfg:={par:=[.cst false,.cst false],inn:=[(8,some ([],[]))],out:=[(6,some ([0,1,5,26],[]))],loopK:=[(4,([0,1,5],[]))],frz:=[],sch:=[(6,.first 0 [2,3,8,9] [1,4,5,6,7]<| .first 1 [2,3,8,9] [4,5,6,7]<| .first 2 [3,8,9] [4,5,6,7]<| .first 3 [8,9] [4,5,6,7]<| .first 4 [6,7,8,9] [5]<| .first 5 [6,7,8,9] []<| .first 6 [7,8,9] []<| .first 7 [8,9] []<| .fork 8 (.first 9 [] []<| .done) (.stop))]}
noncomputable def fc201:FCfg:={par:=[.cst false,.cst false],inn:=[],out:=[],loopK:=[],frz:=[],sch:=[]}
noncomputable def fc204:FCfg:={par:=[.cst false],inn:=[(3,some ([1,2,3],[1,2,3])),(4,some ([2,3],[2,3]))],out:=[],loopK:=[],frz:=[],sch:=[]}
noncomputable def fc205:FCfg:={par:=[.cst false],inn:=[(3,some ([1,2,3],[1,2,3])),(4,some ([2,3],[2,3]))],out:=[],loopK:=[],frz:=[],sch:=[]}
noncomputable def fc206:FCfg:={par:=[.cst false,.cst false],inn:=[],out:=[],loopK:=[],frz:=[],sch:=[]}
noncomputable def fc207:FCfg:={par:=[.cst false,.cst false],inn:=[],out:=[],loopK:=[],frz:=[],sch:=[]}
noncomputable def fc245:FCfg:={par:=[.cst false,.cst false],inn:=[(1,some ([1,2],[2]))],out:=[],loopK:=[],frz:=[],sch:=[]}
noncomputable def fc246:FCfg:={par:=[.cst false,.cst false],inn:=[],out:=[],loopK:=[],frz:=[],sch:=[]}
noncomputable def fc247:FCfg:={par:=[.cst false,.cst false],inn:=[],out:=[],loopK:=[],frz:=[],sch:=[]}
noncomputable def fc248:FCfg:={par:=[.cst false,.cst false],inn:=[],out:=[],loopK:=[],frz:=[],sch:=[]}
noncomputable def fc249:FCfg:={par:=[.cut 5,.cut 5],inn:=[(8,some ([],[]))],out:=[(1,some ([0,1,26],[])),(6,some ([0,1,5,50],[]))],loopK:=[(4,([0,1,5],[]))],frz:=[],sch:=[(1,.first 0 (rg [1,3,6,21]) [3,4,5]<| .first 1 (rg [2,3,6,21]) [3,4,5]<| .first 2 (rg [6,21]) [3,4,5]<| .first 3 (rg [4,21]) []<| .first 4 (rg [5,21]) []<| .first 5 (rg [6,21]) []<| .fork 6 (.first 7 (rg [8,21]) []<| .first 8 (rg [9,21]) []<| .first 9 [10,11,12,13,19,20] [14,15,16,17,18]<| .first 10 [11,12,13,19,20] [14,15,16,17,18]<| .first 11 [12,13,19,20] [14,15,16,17,18]<| .first 12 [13,19,20] [14,15,16,17,18]<| .first 13 [19,20] [14,15,16,17,18]<| .first 14 (rg [15,21]) []<| .first 15 [16,17,18,19,20] []<| .first 16 [17,18,19,20] []<| .first 17 [18,19,20] []<| .first 18 [19,20] []<| .first 19 [20] []<| .first 20 [] []<| .done) (.stop)),(6,.first 0 [1,2,3,5,6,14] (rg [4,5,7,14])<| .first 1 [2,3,5,6,14] (rg [4,5,7,14])<| .first 2 [3,5,6,14] (rg [4,5,7,14])<| .first 3 [5,6,14] (rg [4,5,7,14])<| .first 4 [5,6,14] (rg [7,14])<| .first 5 [6,14] (rg [7,14])<| .first 6 [14] (rg [7,14])<| .first 7 [8,9,10,12,13,14] [11]<| .first 8 [9,10,12,13,14] [11]<| .first 9 [10,12,13,14] [11]<| .first 10 [12,13,14] [11]<| .first 11 [12,13,14] []<| .first 12 [13,14] []<| .first 13 [14] []<| .first 14 [] []<| .done)]}
noncomputable def fc250:FCfg:={par:=[.cut 9,.cut 9],inn:=[(8,some ([],[]))],out:=[(1,some ([0,1,82],[])),(6,some ([0,1,5,106],[]))],loopK:=[(4,([0,1,5],[]))],frz:=[],sch:=[(1,.first 0 (rg [1,4,8,77]) [4,5,6,7]<| .first 1 (rg [2,4,8,77]) [4,5,6,7]<| .first 2 (rg [3,4,8,77]) [4,5,6,7]<| .first 3 (rg [8,77]) [4,5,6,7]<| .first 4 (rg [5,77]) []<| .first 5 (rg [6,77]) []<| .first 6 (rg [7,77]) []<| .first 7 (rg [8,77]) []<| .first 8 (rg [9,77]) []<| .first 9 (rg [10,77]) []<| .first 10 (rg [11,14,18,77]) [14,15,16,17]<| .first 11 (rg [12,14,18,77]) [14,15,16,17]<| .first 12 (rg [13,14,18,77]) [14,15,16,17]<| .first 13 (rg [18,77]) [14,15,16,17]<| .first 14 (rg [15,77]) []<| .first 15 (rg [16,77]) []<| .first 16 (rg [17,77]) []<| .first 17 (rg [18,77]) []<| .first 18 (rg [19,77]) []<| .first 19 (rg [20,77]) []<| .first 20 (rg [21,77]) []<| .first 21 (rg [22,25,29,77]) [25,26,27,28]<| .first 22 (rg [23,25,29,77]) [25,26,27,28]<| .first 23 (rg [24,25,29,77]) [25,26,27,28]<| .first 24 (rg [29,77]) [25,26,27,28]<| .first 25 (rg [26,77]) []<| .first 26 (rg [27,77]) []<| .first 27 (rg [28,77]) []<| .first 28 (rg [29,77]) []<| .first 29 (rg [30,77]) []<| .first 30 (rg [31,77]) []<| .first 31 (rg [32,77]) []<| .first 32 (rg [33,36,40,77]) [36,37,38,39]<| .first 33 (rg [34,36,40,77]) [36,37,38,39]<| .first 34 (rg [35,36,40,77]) [36,37,38,39]<| .first 35 (rg [40,77]) [36,37,38,39]<| .first 36 (rg [37,77]) []<| .first 37 (rg [38,77]) []<| .first 38 (rg [39,77]) []<| .first 39 (rg [40,77]) []<| .first 40 (rg [41,77]) []<| .first 41 (rg [42,77]) []<| .first 42 (rg [43,77]) []<| .first 43 (rg [44,47,51,77]) [47,48,49,50]<| .first 44 (rg [45,47,51,77]) [47,48,49,50]<| .first 45 (rg [46,47,51,77]) [47,48,49,50]<| .first 46 (rg [51,77]) [47,48,49,50]<| .first 47 (rg [48,77]) []<| .first 48 (rg [49,77]) []<| .first 49 (rg [50,77]) []<| .first 50 (rg [51,77]) []<| .first 51 (rg [52,77]) []<| .first 52 (rg [53,77]) []<| .first 53 (rg [54,77]) []<| .first 54 (rg [55,58,62,77]) [58,59,60,61]<| .first 55 (rg [56,58,62,77]) [58,59,60,61]<| .first 56 (rg [57,58,62,77]) [58,59,60,61]<| .first 57 (rg [62,77]) [58,59,60,61]<| .first 58 (rg [59,77]) []<| .first 59 (rg [60,77]) []<| .first 60 (rg [61,77]) []<| .first 61 (rg [62,77]) []<| .first 62 (rg [63,77]) []<| .first 63 (rg [64,77]) []<| .first 64 (rg [65,77]) []<| .first 65 [66,67,68,69,75,76] [70,71,72,73,74]<| .first 66 [67,68,69,75,76] [70,71,72,73,74]<| .first 67 [68,69,75,76] [70,71,72,73,74]<| .first 68 [69,75,76] [70,71,72,73,74]<| .first 69 [75,76] [70,71,72,73,74]<| .first 70 (rg [71,77]) []<| .first 71 [72,73,74,75,76] []<| .first 72 [73,74,75,76] []<| .first 73 [74,75,76] []<| .first 74 [75,76] []<| .first 75 [76] []<| .first 76 [] []<| .done),(6,.first 0 [1,2,3,5,6,14] (rg [4,5,7,14])<| .first 1 [2,3,5,6,14] (rg [4,5,7,14])<| .first 2 [3,5,6,14] (rg [4,5,7,14])<| .first 3 [5,6,14] (rg [4,5,7,14])<| .first 4 [5,6,14] (rg [7,14])<| .first 5 [6,14] (rg [7,14])<| .first 6 [14] (rg [7,14])<| .first 7 [8,9,10,12,13,14] [11]<| .first 8 [9,10,12,13,14] [11]<| .first 9 [10,12,13,14] [11]<| .first 10 [12,13,14] [11]<| .first 11 [12,13,14] []<| .first 12 [13,14] []<| .first 13 [14] []<| .first 14 [] []<| .done)]}
noncomputable def fc251:FCfg:={par:=[.cst false,.cst false],inn:=[(8,some ([],[]))],out:=[(6,some ([0,1,5,25],[]))],loopK:=[(4,([0,1,5],[]))],frz:=[],sch:=[(6,.first 0 [2,3,8] [1,4,5,6,7]<| .first 1 [2,3,8] [4,5,6,7]<| .first 2 [3,8] [4,5,6,7]<| .first 3 [8] [4,5,6,7]<| .first 4 [6,7,8] [5]<| .first 5 [6,7,8] []<| .first 6 [7,8] []<| .first 7 [8] []<| .first 8 [] []<| .done)]}
noncomputable def fc252:FCfg:={par:=[.cst false],inn:=[(1,some ([1,2],[1,2])),(2,some ([1,2,3],[1,2,3])),(3,some ([1,2,3],[1,2,3])),(4,some ([2,3],[2,3]))],out:=[],loopK:=[],frz:=[],sch:=[]}
noncomputable def fc253:FCfg:={par:=[.cst false],inn:=[(4,some ([0,3,4],[3])),(6,some ([3],[3]))],out:=[],loopK:=[(3,([0,3,4],[3]))],frz:=[],sch:=[]}
noncomputable def fc254:FCfg:={par:=[.cst false],inn:=[(3,some ([1,2,3],[1,2,3])),(4,some ([1,2,3],[1,2,3])),(5,some ([1,2,3],[1,2,3])),(6,some ([2,3],[2,3]))],out:=[],loopK:=[],frz:=[],sch:=[]}
noncomputable def fc255:FCfg:={par:=[.cst false],inn:=[(3,some ([1,2,3],[1,2,3])),(4,some ([1,2,3],[1,2,3])),(5,some ([1,2,3],[1,2,3])),(6,some ([2,3],[2,3]))],out:=[],loopK:=[],frz:=[],sch:=[]}
noncomputable def fc256:FCfg:={par:=[.cst false],inn:=[(3,some ([1,2,3],[1,2,3])),(4,some ([1,2,3],[1,2,3])),(5,some ([1,2,3],[1,2,3])),(6,some ([2,3],[2,3]))],out:=[],loopK:=[],frz:=[],sch:=[]}
noncomputable def fc257:FCfg:={par:=[.cst false,.cst false],inn:=[(1,some ([2,3],[2,3]))],out:=[(1,some ([4],[]))],loopK:=[],frz:=[],sch:=[]}
noncomputable def fc258:FCfg:={par:=[.cst false,.cst false,.cst false],inn:=[(6,some ([1,2,7,8,15,16,17],[8])),(7,some ([1,2,8,9,15,16,17],[8,9])),(10,some ([],[]))],out:=[],loopK:=[(4,([1,2,15,16,17],[]))],frz:=[],sch:=[]}
noncomputable def fc259:FCfg:={par:=[.cst false,.cst false],inn:=[(1,some ([2,3],[2,3]))],out:=[(1,some ([4],[]))],loopK:=[],frz:=[],sch:=[]}
noncomputable def fc260:FCfg:={par:=[.cst false,.cst false],inn:=[(9,some ([],[]))],out:=[(6,some ([0,1,12,13,24],[]))],loopK:=[(4,([0,1,12,13],[]))],frz:=[],sch:=[(6,.first 0 [2,3,8] [1,4,5,6,7]<| .first 1 [2,3,8] [4,5,6,7]<| .first 2 [3,8] [4,5,6,7]<| .first 3 [8] [4,5,6,7]<| .first 4 [6,7,8] [5]<| .first 5 [6,7,8] []<| .first 6 [7,8] []<| .first 7 [8] []<| .first 8 [] []<| .done)]}
noncomputable def fc261:FCfg:={par:=[.cst false,.cst false],inn:=[(9,some ([],[]))],out:=[(6,some ([0,1,12,13,24],[]))],loopK:=[(4,([0,1,12,13],[]))],frz:=[],sch:=[(6,.first 0 [2,3,8] [1,4,5,6,7]<| .first 1 [2,3,8] [4,5,6,7]<| .first 2 [3,8] [4,5,6,7]<| .first 3 [8] [4,5,6,7]<| .first 4 [6,7,8] [5]<| .first 5 [6,7,8] []<| .first 6 [7,8] []<| .first 7 [8] []<| .first 8 [] []<| .done)]}
noncomputable def fc262:FCfg:={par:=[.cst false,.cst false],inn:=[(1,some ([2,3],[2,3]))],out:=[],loopK:=[],frz:=[],sch:=[]}
noncomputable def fc263:FCfg:={par:=[.cst false,.cst false],inn:=[(8,some ([],[]))],out:=[(6,some ([0,1,5,26],[]))],loopK:=[(4,([0,1,5],[]))],frz:=[],sch:=[(6,.first 0 [2,3,8,9] [1,4,5,6,7]<| .first 1 [2,3,8,9] [4,5,6,7]<| .first 2 [3,8,9] [4,5,6,7]<| .first 3 [8,9] [4,5,6,7]<| .first 4 [6,7,8,9] [5]<| .first 5 [6,7,8,9] []<| .first 6 [7,8,9] []<| .first 7 [8,9] []<| .fork 8 (.first 9 [] []<| .done) (.stop))]}
noncomputable def fc264:FCfg:={par:=[.cst false,.cst false],inn:=[],out:=[],loopK:=[],frz:=[],sch:=[]}
noncomputable def fc265:FCfg:={par:=[.cst false,.cst false],inn:=[],out:=[],loopK:=[],frz:=[],sch:=[]}
noncomputable def fc266:FCfg:={par:=[.cst false,.cst false],inn:=[],out:=[],loopK:=[],frz:=[],sch:=[]}
noncomputable def fc283:FCfg:={par:=[.cst false],inn:=[(3,some ([1,2,3],[1,2,3])),(4,some ([1,2,3],[1,2,3])),(5,some ([1,2,3],[1,2,3])),(6,some ([2,3],[2,3]))],out:=[],loopK:=[],frz:=[],sch:=[]}
noncomputable def fc284:FCfg:={par:=[.cst false,.cst false],inn:=[],out:=[],loopK:=[],frz:=[],sch:=[]}
noncomputable def fc313:FCfg:={par:=[.cut 4,.cut 4],inn:=[(8,some ([],[]))],out:=[(1,some ([0,1,50],[])),(6,some ([0,1,5,96],[]))],loopK:=[(4,([0,1,5],[]))],frz:=[],sch:=[(1,.first 0 (rg [1,4,8,45]) [4,5,6,7]<| .first 1 (rg [2,4,8,45]) [4,5,6,7]<| .first 2 (rg [3,4,8,45]) [4,5,6,7]<| .first 3 (rg [8,45]) [4,5,6,7]<| .first 4 (rg [5,45]) []<| .first 5 (rg [6,45]) []<| .first 6 (rg [7,45]) []<| .first 7 (rg [8,45]) []<| .first 8 (rg [9,45]) []<| .first 9 (rg [10,45]) []<| .first 10 (rg [11,14,18,45]) [14,15,16,17]<| .first 11 (rg [12,14,18,45]) [14,15,16,17]<| .first 12 (rg [13,14,18,45]) [14,15,16,17]<| .first 13 (rg [18,45]) [14,15,16,17]<| .first 14 (rg [15,45]) []<| .first 15 (rg [16,45]) []<| .first 16 (rg [17,45]) []<| .first 17 (rg [18,45]) []<| .first 18 (rg [19,45]) []<| .first 19 (rg [20,45]) []<| .first 20 (rg [21,45]) []<| .first 21 (rg [22,25,29,45]) [25,26,27,28]<| .first 22 (rg [23,25,29,45]) [25,26,27,28]<| .first 23 (rg [24,25,29,45]) [25,26,27,28]<| .first 24 (rg [29,45]) [25,26,27,28]<| .first 25 (rg [26,45]) []<| .first 26 (rg [27,45]) []<| .first 27 (rg [28,45]) []<| .first 28 (rg [29,45]) []<| .fork 29 (.first 30 (rg [31,45]) []<| .first 31 (rg [32,45]) []<| .first 32 (rg [33,45]) []<| .first 33 [34,35,36,37,43,44] [38,39,40,41,42]<| .first 34 [35,36,37,43,44] [38,39,40,41,42]<| .first 35 [36,37,43,44] [38,39,40,41,42]<| .first 36 [37,43,44] [38,39,40,41,42]<| .first 37 [43,44] [38,39,40,41,42]<| .first 38 (rg [39,45]) []<| .first 39 [40,41,42,43,44] []<| .first 40 [41,42,43,44] []<| .first 41 [42,43,44] []<| .first 42 [43,44] []<| .first 43 [44] []<| .first 44 [] []<| .done) (.stop)),(6,.first 0 (rg [1,4,5,8,16,37]) (rg [4,5,8,16])<| .first 1 (rg [2,4,5,8,16,37]) (rg [4,5,8,16])<| .first 2 (rg [3,4,5,8,16,37]) (rg [4,5,8,16])<| .first 3 (rg [5,8,16,37]) (rg [4,5,8,16])<| .first 4 (rg [5,8,16,37]) (rg [8,16])<| .first 5 (rg [6,8,16,37]) (rg [8,16])<| .first 6 (rg [7,8,16,37]) (rg [8,16])<| .first 7 (rg [16,37]) (rg [8,16])<| .first 8 (rg [9,12,13,37]) [12]<| .first 9 (rg [10,12,13,37]) [12]<| .first 10 (rg [11,12,13,37]) [12]<| .first 11 (rg [13,37]) [12]<| .first 12 (rg [13,37]) []<| .first 13 (rg [14,37]) []<| .first 14 (rg [15,37]) []<| .first 15 (rg [16,37]) []<| .first 16 (rg [17,37]) []<| .first 17 (rg [18,37]) []<| .first 18 [19,20,21,23,24,25,34,35,36] (rg [22,23,26,34])<| .first 19 [20,21,23,24,25,34,35,36] (rg [22,23,26,34])<| .first 20 [21,23,24,25,34,35,36] (rg [22,23,26,34])<| .first 21 [23,24,25,34,35,36] (rg [22,23,26,34])<| .first 22 [23,24,25,34,35,36] (rg [26,34])<| .first 23 [24,25,34,35,36] (rg [26,34])<| .first 24 [25,34,35,36] (rg [26,34])<| .first 25 [34,35,36] (rg [26,34])<| .first 26 (rg [27,30,31,37]) [30]<| .first 27 (rg [28,30,31,37]) [30]<| .first 28 [29,31,32,33,34,35,36] [30]<| .first 29 (rg [31,37]) [30]<| .first 30 (rg [31,37]) []<| .first 31 [32,33,34,35,36] []<| .first 32 [33,34,35,36] []<| .first 33 [34,35,36] []<| .fork 34 (.first 35 [36] []<| .first 36 [] []<| .done) (.stop))]}
noncomputable def fc314:FCfg:={par:=[.cst false],inn:=[(1,some ([1,2],[1,2])),(2,some ([1,2,3],[1,2,3])),(3,some ([1,2,3],[1,2,3])),(4,some ([1,2,3],[1,2,3])),(5,some ([1,2,3],[1,2,3])),(6,some ([1,2,3],[1,2,3])),(7,some ([2,3],[2,3]))],out:=[],loopK:=[],frz:=[],sch:=[]}
noncomputable def fc315:FCfg:={par:=[.cst false,.cst false],inn:=[],out:=[(1,some ([4],[]))],loopK:=[],frz:=[],sch:=[]}
noncomputable def fc316:FCfg:={par:=[.cst false,.cst false],inn:=[(9,some ([],[]))],out:=[(6,some ([0,1,12,13,24],[]))],loopK:=[(4,([0,1,12,13],[]))],frz:=[],sch:=[(6,.first 0 [2,3,8] [1,4,5,6,7]<| .first 1 [2,3,8] [4,5,6,7]<| .first 2 [3,8] [4,5,6,7]<| .first 3 [8] [4,5,6,7]<| .first 4 [6,7,8] [5]<| .first 5 [6,7,8] []<| .first 6 [7,8] []<| .first 7 [8] []<| .first 8 [] []<| .done)]}
noncomputable def fc317:FCfg:={par:=[.cst false,.cst false],inn:=[(9,some ([],[]))],out:=[(6,some ([0,1,12,13,24],[]))],loopK:=[(4,([0,1,12,13],[]))],frz:=[],sch:=[(6,.first 0 [2,3,8] [1,4,5,6,7]<| .first 1 [2,3,8] [4,5,6,7]<| .first 2 [3,8] [4,5,6,7]<| .first 3 [8] [4,5,6,7]<| .first 4 [6,7,8] [5]<| .first 5 [6,7,8] []<| .first 6 [7,8] []<| .first 7 [8] []<| .first 8 [] []<| .done)]}
noncomputable def fc318:FCfg:={par:=[.cst false,.cst false],inn:=[(1,some ([2,3],[2,3]))],out:=[],loopK:=[],frz:=[],sch:=[]}
noncomputable def fc350:FCfg:={par:=[.cst false,.cst false],inn:=[(8,some ([],[]))],out:=[(6,some ([0,1,5,25],[]))],loopK:=[(4,([0,1,5],[]))],frz:=[],sch:=[(6,.first 0 [2,3,8] [1,4,5,6,7]<| .first 1 [2,3,8] [4,5,6,7]<| .first 2 [3,8] [4,5,6,7]<| .first 3 [8] [4,5,6,7]<| .first 4 [6,7,8] [5]<| .first 5 [6,7,8] []<| .first 6 [7,8] []<| .first 7 [8] []<| .first 8 [] []<| .done)]}
noncomputable def fc351:FCfg:={par:=[.cst false,.cst false],inn:=[(9,some ([],[]))],out:=[(6,some ([0,1,12,13,24],[]))],loopK:=[(4,([0,1,12,13],[]))],frz:=[],sch:=[(6,.first 0 [2,3,8] [1,4,5,6,7]<| .first 1 [2,3,8] [4,5,6,7]<| .first 2 [3,8] [4,5,6,7]<| .first 3 [8] [4,5,6,7]<| .first 4 [6,7,8] [5]<| .first 5 [6,7,8] []<| .first 6 [7,8] []<| .first 7 [8] []<| .first 8 [] []<| .done)]}
noncomputable def fc352:FCfg:={par:=[.cst false,.cst false,.cst false],inn:=[(6,some ([1,2,7,8,15,16,17],[8])),(7,some ([1,2,8,9,15,16,17],[8,9])),(10,some ([],[]))],out:=[],loopK:=[(4,([1,2,15,16,17],[]))],frz:=[],sch:=[]}
noncomputable def fc353:FCfg:={par:=[.cst false,.cst false],inn:=[],out:=[(1,some ([4],[]))],loopK:=[],frz:=[],sch:=[]}
noncomputable def fcs:List (Nat×FCfg):=[(14,fc14),(22,fc22),(24,fc24),(27,fc27),(36,fc36),(38,fc38),(39,fc39),(41,fc41),(59,fc59),(61,fc61),(63,fc63),(77,fc77),(78,fc78),(79,fc79),(80,fc80),(81,fc81),(92,fc92),(96,fc96),(100,fc100),(110,fc110),(111,fc111),(113,fc113),(114,fc114),(115,fc115),(116,fc116),(131,fc131),(134,fc134),(135,fc135),(137,fc137),(139,fc139),(154,fc154),(155,fc155),(156,fc156),(157,fc157),(158,fc158),(159,fc159),(160,fc160),(161,fc161),(162,fc162),(163,fc163),(164,fc164),(165,fc165),(166,fc166),(167,fc167),(168,fc168),(184,fc184),(188,fc188),(193,fc193),(201,fc201),(204,fc204),(205,fc205),(206,fc206),(207,fc207),(245,fc245),(246,fc246),(247,fc247),(248,fc248),(249,fc249),(250,fc250),(251,fc251),(252,fc252),(253,fc253),(254,fc254),(255,fc255),(256,fc256),(257,fc257),(258,fc258),(259,fc259),(260,fc260),(261,fc261),(262,fc262),(263,fc263),(264,fc264),(265,fc265),(266,fc266),(283,fc283),(284,fc284),(313,fc313),(314,fc314),(315,fc315),(316,fc316),(317,fc317),(318,fc318),(350,fc350),(351,fc351),(352,fc352),(353,fc353)]
noncomputable def ons:List (Nat×Bool):=[(14,true),(22,true),(24,true),(27,true),(36,true),(38,true),(39,true),(41,true),(59,true),(61,true),(63,true),(77,true),(78,true),(79,true),(80,true),(81,true),(92,true),(96,true),(100,true),(110,true),(111,true),(113,true),(114,true),(115,true),(116,true),(131,true),(134,true),(135,true),(137,true),(139,true),(154,true),(155,true),(156,true),(157,true),(158,true),(159,true),(160,true),(161,true),(162,true),(163,true),(164,true),(165,true),(166,true),(167,true),(168,true),(184,true),(188,true),(193,true),(201,true),(204,true),(205,true),(206,true),(207,true),(245,true),(246,true),(247,true),(248,true),(249,true),(250,true),(251,true),(252,true),(253,true),(254,true),(255,true),(256,true),(257,true),(258,true),(259,true),(260,true),(261,true),(262,true),(263,true),(264,true),(265,true),(266,true),(283,true),(284,true),(313,true),(314,true),(315,true),(316,true),(317,true),(318,true),(350,true),(351,true),(352,true),(353,true)]
noncomputable def cfg:Cfg:=mkCfg ons fcs []
theorem c14:cfg.fc 14=fc14:=rfl
instance C14:Cf cfg 14 fc14:=⟨c14⟩
instance Z14:Zf cfg 14:=⟨rfl⟩
theorem z14:(cfg.fc 14).frz=[]:=rfl
theorem c22:cfg.fc 22=fc22:=rfl
instance C22:Cf cfg 22 fc22:=⟨c22⟩
instance Z22:Zf cfg 22:=⟨rfl⟩
theorem c24:cfg.fc 24=fc24:=rfl
instance C24:Cf cfg 24 fc24:=⟨c24⟩
instance Z24:Zf cfg 24:=⟨rfl⟩
theorem c27:cfg.fc 27=fc27:=rfl
instance C27:Cf cfg 27 fc27:=⟨c27⟩
instance Z27:Zf cfg 27:=⟨rfl⟩
theorem z27:(cfg.fc 27).frz=[]:=rfl
theorem c36:cfg.fc 36=fc36:=rfl
instance C36:Cf cfg 36 fc36:=⟨c36⟩
instance Z36:Zf cfg 36:=⟨rfl⟩
theorem c38:cfg.fc 38=fc38:=rfl
instance C38:Cf cfg 38 fc38:=⟨c38⟩
instance Z38:Zf cfg 38:=⟨rfl⟩
theorem c39:cfg.fc 39=fc39:=rfl
instance C39:Cf cfg 39 fc39:=⟨c39⟩
instance Z39:Zf cfg 39:=⟨rfl⟩
theorem c41:cfg.fc 41=fc41:=rfl
instance C41:Cf cfg 41 fc41:=⟨c41⟩
instance Z41:Zf cfg 41:=⟨rfl⟩
theorem c59:cfg.fc 59=fc59:=rfl
instance C59:Cf cfg 59 fc59:=⟨c59⟩
instance Z59:Zf cfg 59:=⟨rfl⟩
theorem c61:cfg.fc 61=fc61:=rfl
instance C61:Cf cfg 61 fc61:=⟨c61⟩
instance Z61:Zf cfg 61:=⟨rfl⟩
theorem c63:cfg.fc 63=fc63:=rfl
instance C63:Cf cfg 63 fc63:=⟨c63⟩
instance Z63:Zf cfg 63:=⟨rfl⟩
theorem z63:(cfg.fc 63).frz=[]:=rfl
theorem c77:cfg.fc 77=fc77:=rfl
instance C77:Cf cfg 77 fc77:=⟨c77⟩
instance Z77:Zf cfg 77:=⟨rfl⟩
theorem c78:cfg.fc 78=fc78:=rfl
instance C78:Cf cfg 78 fc78:=⟨c78⟩
instance Z78:Zf cfg 78:=⟨rfl⟩
theorem c79:cfg.fc 79=fc79:=rfl
instance C79:Cf cfg 79 fc79:=⟨c79⟩
instance Z79:Zf cfg 79:=⟨rfl⟩
theorem c80:cfg.fc 80=fc80:=rfl
instance C80:Cf cfg 80 fc80:=⟨c80⟩
instance Z80:Zf cfg 80:=⟨rfl⟩
theorem c81:cfg.fc 81=fc81:=rfl
instance C81:Cf cfg 81 fc81:=⟨c81⟩
instance Z81:Zf cfg 81:=⟨rfl⟩
theorem c92:cfg.fc 92=fc92:=rfl
instance C92:Cf cfg 92 fc92:=⟨c92⟩
instance Z92:Zf cfg 92:=⟨rfl⟩
theorem c96:cfg.fc 96=fc96:=rfl
instance C96:Cf cfg 96 fc96:=⟨c96⟩
instance Z96:Zf cfg 96:=⟨rfl⟩
theorem c100:cfg.fc 100=fc100:=rfl
instance C100:Cf cfg 100 fc100:=⟨c100⟩
instance Z100:Zf cfg 100:=⟨rfl⟩
theorem c110:cfg.fc 110=fc110:=rfl
instance C110:Cf cfg 110 fc110:=⟨c110⟩
instance Z110:Zf cfg 110:=⟨rfl⟩
theorem c111:cfg.fc 111=fc111:=rfl
instance C111:Cf cfg 111 fc111:=⟨c111⟩
instance Z111:Zf cfg 111:=⟨rfl⟩
theorem c113:cfg.fc 113=fc113:=rfl
instance C113:Cf cfg 113 fc113:=⟨c113⟩
instance Z113:Zf cfg 113:=⟨rfl⟩
theorem c114:cfg.fc 114=fc114:=rfl
instance C114:Cf cfg 114 fc114:=⟨c114⟩
instance Z114:Zf cfg 114:=⟨rfl⟩
theorem c115:cfg.fc 115=fc115:=rfl
instance C115:Cf cfg 115 fc115:=⟨c115⟩
instance Z115:Zf cfg 115:=⟨rfl⟩
theorem z115:(cfg.fc 115).frz=[]:=rfl
theorem c116:cfg.fc 116=fc116:=rfl
instance C116:Cf cfg 116 fc116:=⟨c116⟩
instance Z116:Zf cfg 116:=⟨rfl⟩
theorem z116:(cfg.fc 116).frz=[]:=rfl
theorem c131:cfg.fc 131=fc131:=rfl
instance C131:Cf cfg 131 fc131:=⟨c131⟩
instance Z131:Zf cfg 131:=⟨rfl⟩
theorem c134:cfg.fc 134=fc134:=rfl
instance C134:Cf cfg 134 fc134:=⟨c134⟩
instance Z134:Zf cfg 134:=⟨rfl⟩
theorem c135:cfg.fc 135=fc135:=rfl
instance C135:Cf cfg 135 fc135:=⟨c135⟩
instance Z135:Zf cfg 135:=⟨rfl⟩
theorem c137:cfg.fc 137=fc137:=rfl
instance C137:Cf cfg 137 fc137:=⟨c137⟩
instance Z137:Zf cfg 137:=⟨rfl⟩
theorem c139:cfg.fc 139=fc139:=rfl
instance C139:Cf cfg 139 fc139:=⟨c139⟩
instance Z139:Zf cfg 139:=⟨rfl⟩
theorem c154:cfg.fc 154=fc154:=rfl
instance C154:Cf cfg 154 fc154:=⟨c154⟩
instance Z154:Zf cfg 154:=⟨rfl⟩
theorem c155:cfg.fc 155=fc155:=rfl
instance C155:Cf cfg 155 fc155:=⟨c155⟩
instance Z155:Zf cfg 155:=⟨rfl⟩
theorem c156:cfg.fc 156=fc156:=rfl
instance C156:Cf cfg 156 fc156:=⟨c156⟩
instance Z156:Zf cfg 156:=⟨rfl⟩
theorem c157:cfg.fc 157=fc157:=rfl
instance C157:Cf cfg 157 fc157:=⟨c157⟩
instance Z157:Zf cfg 157:=⟨rfl⟩
theorem z157:(cfg.fc 157).frz=[]:=rfl
theorem c158:cfg.fc 158=fc158:=rfl
instance C158:Cf cfg 158 fc158:=⟨c158⟩
instance Z158:Zf cfg 158:=⟨rfl⟩
theorem c159:cfg.fc 159=fc159:=rfl
instance C159:Cf cfg 159 fc159:=⟨c159⟩
instance Z159:Zf cfg 159:=⟨rfl⟩
theorem c160:cfg.fc 160=fc160:=rfl
instance C160:Cf cfg 160 fc160:=⟨c160⟩
instance Z160:Zf cfg 160:=⟨rfl⟩
theorem c161:cfg.fc 161=fc161:=rfl
instance C161:Cf cfg 161 fc161:=⟨c161⟩
instance Z161:Zf cfg 161:=⟨rfl⟩
theorem c162:cfg.fc 162=fc162:=rfl
instance C162:Cf cfg 162 fc162:=⟨c162⟩
instance Z162:Zf cfg 162:=⟨rfl⟩
theorem c163:cfg.fc 163=fc163:=rfl
instance C163:Cf cfg 163 fc163:=⟨c163⟩
instance Z163:Zf cfg 163:=⟨rfl⟩
theorem c164:cfg.fc 164=fc164:=rfl
instance C164:Cf cfg 164 fc164:=⟨c164⟩
instance Z164:Zf cfg 164:=⟨rfl⟩
theorem c165:cfg.fc 165=fc165:=rfl
instance C165:Cf cfg 165 fc165:=⟨c165⟩
instance Z165:Zf cfg 165:=⟨rfl⟩
theorem c166:cfg.fc 166=fc166:=rfl
instance C166:Cf cfg 166 fc166:=⟨c166⟩
instance Z166:Zf cfg 166:=⟨rfl⟩
theorem z166:(cfg.fc 166).frz=[]:=rfl
theorem c167:cfg.fc 167=fc167:=rfl
instance C167:Cf cfg 167 fc167:=⟨c167⟩
instance Z167:Zf cfg 167:=⟨rfl⟩
theorem z167:(cfg.fc 167).frz=[]:=rfl
theorem c168:cfg.fc 168=fc168:=rfl
instance C168:Cf cfg 168 fc168:=⟨c168⟩
instance Z168:Zf cfg 168:=⟨rfl⟩
theorem c184:cfg.fc 184=fc184:=rfl
instance C184:Cf cfg 184 fc184:=⟨c184⟩
instance Z184:Zf cfg 184:=⟨rfl⟩
theorem c188:cfg.fc 188=fc188:=rfl
instance C188:Cf cfg 188 fc188:=⟨c188⟩
instance Z188:Zf cfg 188:=⟨rfl⟩
theorem c193:cfg.fc 193=fc193:=rfl
instance C193:Cf cfg 193 fc193:=⟨c193⟩
instance Z193:Zf cfg 193:=⟨rfl⟩
theorem z193:(cfg.fc 193).frz=[]:=rfl
theorem c201:cfg.fc 201=fc201:=rfl
instance C201:Cf cfg 201 fc201:=⟨c201⟩
instance Z201:Zf cfg 201:=⟨rfl⟩
theorem c204:cfg.fc 204=fc204:=rfl
instance C204:Cf cfg 204 fc204:=⟨c204⟩
instance Z204:Zf cfg 204:=⟨rfl⟩
theorem c205:cfg.fc 205=fc205:=rfl
instance C205:Cf cfg 205 fc205:=⟨c205⟩
instance Z205:Zf cfg 205:=⟨rfl⟩
theorem c206:cfg.fc 206=fc206:=rfl
instance C206:Cf cfg 206 fc206:=⟨c206⟩
instance Z206:Zf cfg 206:=⟨rfl⟩
theorem c207:cfg.fc 207=fc207:=rfl
instance C207:Cf cfg 207 fc207:=⟨c207⟩
instance Z207:Zf cfg 207:=⟨rfl⟩
theorem c245:cfg.fc 245=fc245:=rfl
instance C245:Cf cfg 245 fc245:=⟨c245⟩
instance Z245:Zf cfg 245:=⟨rfl⟩
theorem c246:cfg.fc 246=fc246:=rfl
instance C246:Cf cfg 246 fc246:=⟨c246⟩
instance Z246:Zf cfg 246:=⟨rfl⟩
theorem c247:cfg.fc 247=fc247:=rfl
instance C247:Cf cfg 247 fc247:=⟨c247⟩
instance Z247:Zf cfg 247:=⟨rfl⟩
theorem c248:cfg.fc 248=fc248:=rfl
instance C248:Cf cfg 248 fc248:=⟨c248⟩
instance Z248:Zf cfg 248:=⟨rfl⟩
theorem c249:cfg.fc 249=fc249:=rfl
instance C249:Cf cfg 249 fc249:=⟨c249⟩
instance Z249:Zf cfg 249:=⟨rfl⟩
theorem z249:(cfg.fc 249).frz=[]:=rfl
theorem c250:cfg.fc 250=fc250:=rfl
instance C250:Cf cfg 250 fc250:=⟨c250⟩
instance Z250:Zf cfg 250:=⟨rfl⟩
theorem c251:cfg.fc 251=fc251:=rfl
instance C251:Cf cfg 251 fc251:=⟨c251⟩
instance Z251:Zf cfg 251:=⟨rfl⟩
theorem c252:cfg.fc 252=fc252:=rfl
instance C252:Cf cfg 252 fc252:=⟨c252⟩
instance Z252:Zf cfg 252:=⟨rfl⟩
theorem c253:cfg.fc 253=fc253:=rfl
instance C253:Cf cfg 253 fc253:=⟨c253⟩
instance Z253:Zf cfg 253:=⟨rfl⟩
theorem c254:cfg.fc 254=fc254:=rfl
instance C254:Cf cfg 254 fc254:=⟨c254⟩
instance Z254:Zf cfg 254:=⟨rfl⟩
theorem c255:cfg.fc 255=fc255:=rfl
instance C255:Cf cfg 255 fc255:=⟨c255⟩
instance Z255:Zf cfg 255:=⟨rfl⟩
theorem c256:cfg.fc 256=fc256:=rfl
instance C256:Cf cfg 256 fc256:=⟨c256⟩
instance Z256:Zf cfg 256:=⟨rfl⟩
theorem c257:cfg.fc 257=fc257:=rfl
instance C257:Cf cfg 257 fc257:=⟨c257⟩
instance Z257:Zf cfg 257:=⟨rfl⟩
theorem c258:cfg.fc 258=fc258:=rfl
instance C258:Cf cfg 258 fc258:=⟨c258⟩
instance Z258:Zf cfg 258:=⟨rfl⟩
theorem c259:cfg.fc 259=fc259:=rfl
instance C259:Cf cfg 259 fc259:=⟨c259⟩
instance Z259:Zf cfg 259:=⟨rfl⟩
theorem c260:cfg.fc 260=fc260:=rfl
instance C260:Cf cfg 260 fc260:=⟨c260⟩
instance Z260:Zf cfg 260:=⟨rfl⟩
theorem c261:cfg.fc 261=fc261:=rfl
instance C261:Cf cfg 261 fc261:=⟨c261⟩
instance Z261:Zf cfg 261:=⟨rfl⟩
theorem c262:cfg.fc 262=fc262:=rfl
instance C262:Cf cfg 262 fc262:=⟨c262⟩
instance Z262:Zf cfg 262:=⟨rfl⟩
theorem c263:cfg.fc 263=fc263:=rfl
instance C263:Cf cfg 263 fc263:=⟨c263⟩
instance Z263:Zf cfg 263:=⟨rfl⟩
theorem z263:(cfg.fc 263).frz=[]:=rfl
theorem c264:cfg.fc 264=fc264:=rfl
instance C264:Cf cfg 264 fc264:=⟨c264⟩
instance Z264:Zf cfg 264:=⟨rfl⟩
theorem c265:cfg.fc 265=fc265:=rfl
instance C265:Cf cfg 265 fc265:=⟨c265⟩
instance Z265:Zf cfg 265:=⟨rfl⟩
theorem c266:cfg.fc 266=fc266:=rfl
instance C266:Cf cfg 266 fc266:=⟨c266⟩
instance Z266:Zf cfg 266:=⟨rfl⟩
theorem c283:cfg.fc 283=fc283:=rfl
instance C283:Cf cfg 283 fc283:=⟨c283⟩
instance Z283:Zf cfg 283:=⟨rfl⟩
theorem c284:cfg.fc 284=fc284:=rfl
instance C284:Cf cfg 284 fc284:=⟨c284⟩
instance Z284:Zf cfg 284:=⟨rfl⟩
theorem c313:cfg.fc 313=fc313:=rfl
instance C313:Cf cfg 313 fc313:=⟨c313⟩
instance Z313:Zf cfg 313:=⟨rfl⟩
theorem z313:(cfg.fc 313).frz=[]:=rfl
theorem c314:cfg.fc 314=fc314:=rfl
instance C314:Cf cfg 314 fc314:=⟨c314⟩
instance Z314:Zf cfg 314:=⟨rfl⟩
theorem c315:cfg.fc 315=fc315:=rfl
instance C315:Cf cfg 315 fc315:=⟨c315⟩
instance Z315:Zf cfg 315:=⟨rfl⟩
theorem c316:cfg.fc 316=fc316:=rfl
instance C316:Cf cfg 316 fc316:=⟨c316⟩
instance Z316:Zf cfg 316:=⟨rfl⟩
theorem c317:cfg.fc 317=fc317:=rfl
instance C317:Cf cfg 317 fc317:=⟨c317⟩
instance Z317:Zf cfg 317:=⟨rfl⟩
theorem c318:cfg.fc 318=fc318:=rfl
instance C318:Cf cfg 318 fc318:=⟨c318⟩
instance Z318:Zf cfg 318:=⟨rfl⟩
theorem c350:cfg.fc 350=fc350:=rfl
instance C350:Cf cfg 350 fc350:=⟨c350⟩
instance Z350:Zf cfg 350:=⟨rfl⟩
theorem c351:cfg.fc 351=fc351:=rfl
instance C351:Cf cfg 351 fc351:=⟨c351⟩
instance Z351:Zf cfg 351:=⟨rfl⟩
theorem c352:cfg.fc 352=fc352:=rfl
instance C352:Cf cfg 352 fc352:=⟨c352⟩
instance Z352:Zf cfg 352:=⟨rfl⟩
theorem c353:cfg.fc 353=fc353:=rfl
instance C353:Cf cfg 353 fc353:=⟨c353⟩
instance Z353:Zf cfg 353:=⟨rfl⟩
noncomputable abbrev Pg:=Try.prog
theorem eF105:elemSz Pg 105=some (276,4):=kr
theorem eF126:elemSz Pg 126=some (326,5):=kr
theorem eF130:elemSz Pg 130=some (241,4):=kr
theorem eF131:elemSz Pg 131=some (243,4):=kr
theorem eF23:elemSz Pg 23=some (264,2):=kr
theorem eF24:elemSz Pg 24=some (257,2):=kr
theorem eF28:elemSz Pg 28=some (2,1):=kr
theorem eF44:elemSz Pg 44=some (107,9):=kr
theorem eF84:elemSz Pg 84=some (104,3):=kr
theorem fF104_0:fieldF Pg 104 0=some 0:=kr
theorem fF104_1:fieldF Pg 104 1=some 1:=kr
theorem fF104_2:fieldF Pg 104 2=some 2:=kr
theorem fF107_0:fieldF Pg 107 0=some 0:=kr
theorem fF107_1:fieldF Pg 107 1=some 1:=kr
theorem fF107_2:fieldF Pg 107 2=some 2:=kr
theorem fF107_3:fieldF Pg 107 3=some 3:=kr
theorem fF107_4:fieldF Pg 107 4=some 6:=kr
theorem fF107_5:fieldF Pg 107 5=some 7:=kr
theorem fF107_6:fieldF Pg 107 6=some 8:=kr
theorem fF110_0:fieldF Pg 110 0=some 0:=kr
theorem fF110_1:fieldF Pg 110 1=some 4:=kr
theorem fF113_0:fieldF Pg 113 0=some 0:=kr
theorem fF113_1:fieldF Pg 113 1=some 1:=kr
theorem fF113_2:fieldF Pg 113 2=some 2:=kr
theorem fF113_3:fieldF Pg 113 3=some 3:=kr
theorem fF115_0:fieldF Pg 115 0=some 0:=kr
theorem fF115_1:fieldF Pg 115 1=some 5:=kr
theorem fF115_2:fieldF Pg 115 2=some 6:=kr
theorem fF115_3:fieldF Pg 115 3=some 7:=kr
theorem fF115_4:fieldF Pg 115 4=some 11:=kr
theorem fF115_5:fieldF Pg 115 5=some 12:=kr
theorem fF115_6:fieldF Pg 115 6=some 13:=kr
theorem fF115_7:fieldF Pg 115 7=some 14:=kr
theorem fF115_8:fieldF Pg 115 8=some 15:=kr
theorem fF115_9:fieldF Pg 115 9=some 16:=kr
theorem fF119_0:fieldF Pg 119 0=some 0:=kr
theorem fF119_1:fieldF Pg 119 1=some 1:=kr
theorem fF119_2:fieldF Pg 119 2=some 2:=kr
theorem fF119_3:fieldF Pg 119 3=some 3:=kr
theorem fF119_4:fieldF Pg 119 4=some 4:=kr
theorem fF121_0:fieldF Pg 121 0=some 0:=kr
theorem fF121_1:fieldF Pg 121 1=some 17:=kr
theorem fF121_2:fieldF Pg 121 2=some 18:=kr
theorem fF121_3:fieldF Pg 121 3=some 19:=kr
theorem fF125_0:fieldF Pg 125 0=some 0:=kr
theorem fF125_1:fieldF Pg 125 1=some 4:=kr
theorem fF127_0:fieldF Pg 127 0=some 0:=kr
theorem fF127_1:fieldF Pg 127 1=some 1:=kr
theorem fF127_2:fieldF Pg 127 2=some 2:=kr
theorem fF127_3:fieldF Pg 127 3=some 3:=kr
theorem fF129_0:fieldF Pg 129 0=some 0:=kr
theorem fF129_1:fieldF Pg 129 1=some 5:=kr
theorem fF129_2:fieldF Pg 129 2=some 6:=kr
theorem fF129_3:fieldF Pg 129 3=some 7:=kr
theorem fF129_4:fieldF Pg 129 4=some 11:=kr
theorem fF129_5:fieldF Pg 129 5=some 12:=kr
theorem fF129_6:fieldF Pg 129 6=some 13:=kr
theorem fF129_7:fieldF Pg 129 7=some 14:=kr
theorem fF129_8:fieldF Pg 129 8=some 15:=kr
theorem fF129_9:fieldF Pg 129 9=some 16:=kr
theorem fF132_0:fieldF Pg 132 0=some 0:=kr
theorem fF132_1:fieldF Pg 132 1=some 1:=kr
theorem fF132_2:fieldF Pg 132 2=some 2:=kr
theorem fF132_3:fieldF Pg 132 3=some 3:=kr
theorem fF132_4:fieldF Pg 132 4=some 4:=kr
theorem fF134_0:fieldF Pg 134 0=some 0:=kr
theorem fF134_1:fieldF Pg 134 1=some 17:=kr
theorem fF134_2:fieldF Pg 134 2=some 18:=kr
theorem fF134_3:fieldF Pg 134 3=some 19:=kr
theorem fF156_0:fieldF Pg 156 0=some 0:=kr
theorem fF156_1:fieldF Pg 156 1=some 1:=kr
theorem fF156_2:fieldF Pg 156 2=some 2:=kr
theorem fF159_0:fieldF Pg 159 0=some 0:=kr
theorem fF159_1:fieldF Pg 159 1=some 1:=kr
theorem fF159_2:fieldF Pg 159 2=some 2:=kr
theorem fF159_3:fieldF Pg 159 3=some 3:=kr
theorem fF159_4:fieldF Pg 159 4=some 6:=kr
theorem fF159_5:fieldF Pg 159 5=some 7:=kr
theorem fF159_6:fieldF Pg 159 6=some 8:=kr
theorem fF241_0:fieldF Pg 241 0=some 0:=kr
theorem fF241_1:fieldF Pg 241 1=some 1:=kr
theorem fF241_2:fieldF Pg 241 2=some 2:=kr
theorem fF241_3:fieldF Pg 241 3=some 3:=kr
theorem fF243_0:fieldF Pg 243 0=some 0:=kr
theorem fF243_1:fieldF Pg 243 1=some 1:=kr
theorem fF243_2:fieldF Pg 243 2=some 2:=kr
theorem fF243_3:fieldF Pg 243 3=some 3:=kr
theorem fF257_0:fieldF Pg 257 0=some 0:=kr
theorem fF257_1:fieldF Pg 257 1=some 1:=kr
theorem fF264_0:fieldF Pg 264 0=some 0:=kr
theorem fF264_1:fieldF Pg 264 1=some 1:=kr
theorem fF26_0:fieldF Pg 26 0=some 0:=kr
theorem fF26_1:fieldF Pg 26 1=some 1:=kr
theorem fF26_2:fieldF Pg 26 2=some 2:=kr
theorem fF26_3:fieldF Pg 26 3=some 3:=kr
theorem fF276_0:fieldF Pg 276 0=some 0:=kr
theorem fF276_1:fieldF Pg 276 1=some 1:=kr
theorem fF276_2:fieldF Pg 276 2=some 2:=kr
theorem fF276_3:fieldF Pg 276 3=some 3:=kr
theorem fF287_0:fieldF Pg 287 0=some 0:=kr
theorem fF287_1:fieldF Pg 287 1=some 1:=kr
theorem fF291_0:fieldF Pg 291 0=some 0:=kr
theorem fF291_1:fieldF Pg 291 1=some 1:=kr
theorem fF319_0:fieldF Pg 319 0=some 0:=kr
theorem fF319_1:fieldF Pg 319 1=some 1:=kr
theorem fF319_2:fieldF Pg 319 2=some 2:=kr
theorem fF319_3:fieldF Pg 319 3=some 3:=kr
theorem fF321_0:fieldF Pg 321 0=some 0:=kr
theorem fF321_1:fieldF Pg 321 1=some 1:=kr
theorem fF321_2:fieldF Pg 321 2=some 2:=kr
theorem fF321_3:fieldF Pg 321 3=some 3:=kr
theorem fF326_0:fieldF Pg 326 0=some 0:=kr
theorem fF326_1:fieldF Pg 326 1=some 1:=kr
theorem fF326_2:fieldF Pg 326 2=some 2:=kr
theorem fF326_3:fieldF Pg 326 3=some 3:=kr
theorem fF326_4:fieldF Pg 326 4=some 4:=kr
theorem fF349_0:fieldF Pg 349 0=some 0:=kr
theorem fF349_1:fieldF Pg 349 1=some 1:=kr
theorem fF349_2:fieldF Pg 349 2=some 2:=kr
theorem fF349_3:fieldF Pg 349 3=some 3:=kr
theorem fF382_0:fieldF Pg 382 0=some 0:=kr
theorem fF382_1:fieldF Pg 382 1=some 1:=kr
theorem fF382_2:fieldF Pg 382 2=some 2:=kr
theorem fF382_3:fieldF Pg 382 3=some 3:=kr
theorem fF382_4:fieldF Pg 382 4=some 4:=kr
theorem fF56_0:fieldF Pg 56 0=some 0:=kr
theorem fF56_1:fieldF Pg 56 1=some 1:=kr
theorem fF56_2:fieldF Pg 56 2=some 2:=kr
theorem fF56_3:fieldF Pg 56 3=some 3:=kr
theorem kF100_107_107:callK Pg cfg 100 0 [107,107]=[(.cst false,[none,none,none,none,none,none,none,none,some 4]),(.cst false,[none,none,none,none,none,none,none,none,some 4])]:=kr
theorem kF110_53_3:callK Pg cfg 110 0 [53,3]=[(.cst false,[some 2]),(.cst false,[none])]:=kr
theorem kF111_54_3:callK Pg cfg 111 0 [54,3]=[(.cst false,[some 2]),(.cst false,[none])]:=kr
theorem kF113_53:callK Pg cfg 113 0 [53]=[(.cst false,[some 2])]:=kr
theorem kF114_54:callK Pg cfg 114 0 [54]=[(.cst false,[some 2])]:=kr
theorem kF115_23_23:callK Pg cfg 115 0 [23,23]=[(.cst false,[some 2]),(.cst false,[some 2])]:=kr
theorem kF116_24_24:callK Pg cfg 116 0 [24,24]=[(.cst false,[some 2]),(.cst false,[some 2])]:=kr
theorem kF131_28_3:callK Pg cfg 131 0 [28,3]=[(.cst false,[some 1]),(.cst false,[none])]:=kr
theorem kF134_28:callK Pg cfg 134 0 [28]=[(.cst false,[some 1])]:=kr
theorem kF135_156_3:callK Pg cfg 135 0 [156,3]=[(.cst false,[none,none,none]),(.cst false,[none])]:=kr
theorem kF137_156:callK Pg cfg 137 0 [156]=[(.cst false,[none,none,none])]:=kr
theorem kF139_104_104:callK Pg cfg 139 0 [104,104]=[(.cst false,[none,none,none]),(.cst false,[none,none,none])]:=kr
theorem kF154_115_3:callK Pg cfg 154 0 [115,3]=[(.cst false,[none,none,some 2,some 2,some 3,some 9,some 5,none,none,none,none,none,none,none,none,some 1,some 1]),(.cst false,[none])]:=kr
theorem kF155_116_3:callK Pg cfg 155 0 [116,3]=[(.cst false,[some 4]),(.cst false,[none])]:=kr
theorem kF156_117_3:callK Pg cfg 156 0 [117,3]=[(.cst false,[some 4]),(.cst false,[none])]:=kr
theorem kF157_239_239:callK Pg cfg 157 0 [239,239]=[(.cut 17,[none]),(.cut 17,[none])]:=kr
theorem kF158_115:callK Pg cfg 158 0 [115]=[(.cst false,[none,none,some 2,some 2,some 3,some 9,some 5,none,none,none,none,none,none,none,none,some 1,some 1])]:=kr
theorem kF159_116:callK Pg cfg 159 0 [116]=[(.cst false,[some 4])]:=kr
theorem kF160_117:callK Pg cfg 160 0 [117]=[(.cst false,[some 4])]:=kr
theorem kF161_119:callK Pg cfg 161 0 [119]=[(.cst false,[none,none,none,none,none])]:=kr
theorem kF162_129_129:callK Pg cfg 162 0 [129,129]=[(.cst false,[none,none,some 2,some 2,some 3,some 9,some 5,none,none,none,none,none,none,none,none,some 1,some 1]),(.cst false,[none,none,some 2,some 2,some 3,some 9,some 5,none,none,none,none,none,none,none,none,some 1,some 1])]:=kr
theorem kF163_130_130:callK Pg cfg 163 0 [130,130]=[(.cst false,[some 4]),(.cst false,[some 4])]:=kr
theorem kF164_131_131:callK Pg cfg 164 0 [131,131]=[(.cst false,[some 4]),(.cst false,[some 4])]:=kr
theorem kF165_129_129:callK Pg cfg 165 0 [129,129]=[(.cst false,[none,none,some 2,some 2,some 3,some 9,some 5,none,none,none,none,none,none,none,none,some 1,some 1]),(.cst false,[none,none,some 2,some 2,some 3,some 9,some 5,none,none,none,none,none,none,none,none,some 1,some 1])]:=kr
theorem kF166_130_130:callK Pg cfg 166 0 [130,130]=[(.cst false,[some 4]),(.cst false,[some 4])]:=kr
theorem kF167_131_131:callK Pg cfg 167 0 [131,131]=[(.cst false,[some 4]),(.cst false,[some 4])]:=kr
theorem kF168_132_132:callK Pg cfg 168 0 [132,132]=[(.cst false,[none,none,none,none,none]),(.cst false,[none,none,none,none,none])]:=kr
theorem kF184_157_3:callK Pg cfg 184 0 [157,3]=[(.cst false,[some 4]),(.cst false,[none])]:=kr
theorem kF188_157:callK Pg cfg 188 0 [157]=[(.cst false,[some 4])]:=kr
theorem kF193_105_105:callK Pg cfg 193 0 [105,105]=[(.cst false,[some 4]),(.cst false,[some 4])]:=kr
theorem kF201_287_3:callK Pg cfg 201 0 [287,3]=[(.cst false,[none,some 1]),(.cst false,[none])]:=kr
theorem kF204_291:callK Pg cfg 204 0 [291]=[(.cst false,[none,none])]:=kr
theorem kF205_287:callK Pg cfg 205 0 [287]=[(.cst false,[none,some 1])]:=kr
theorem kF206_264_264:callK Pg cfg 206 0 [264,264]=[(.cst false,[none,none]),(.cst false,[none,none])]:=kr
theorem kF207_257_257:callK Pg cfg 207 0 [257,257]=[(.cst false,[none,some 1]),(.cst false,[none,some 1])]:=kr
theorem kF22_39_3:callK Pg cfg 22 0 [39,3]=[(.cst false,[some 9]),(.cst false,[none])]:=kr
theorem kF245_110_3:callK Pg cfg 245 0 [110,3]=[(.cst false,[none,none,some 2,some 2,some 3]),(.cst false,[none])]:=kr
theorem kF246_111_3:callK Pg cfg 246 0 [111,3]=[(.cst false,[some 5]),(.cst false,[none])]:=kr
theorem kF247_319_3:callK Pg cfg 247 0 [319,3]=[(.cst false,[none,none,none,none]),(.cst false,[none])]:=kr
theorem kF248_321_3:callK Pg cfg 248 0 [321,3]=[(.cst false,[none,none,none,none]),(.cst false,[none])]:=kr
theorem kF249_323_323:callK Pg cfg 249 0 [323,323]=[(.cut 5,[none]),(.cut 5,[none])]:=kr
theorem kF24_39:callK Pg cfg 24 0 [39]=[(.cst false,[some 9])]:=kr
theorem kF250_270_270:callK Pg cfg 250 0 [270,270]=[(.cut 9,[none]),(.cut 9,[none])]:=kr
theorem kF251_28_28:callK Pg cfg 251 0 [28,28]=[(.cst false,[some 1]),(.cst false,[some 1])]:=kr
theorem kF252_110:callK Pg cfg 252 0 [110]=[(.cst false,[none,none,some 2,some 2,some 3])]:=kr
theorem kF253_111:callK Pg cfg 253 0 [111]=[(.cst false,[some 5])]:=kr
theorem kF254_113:callK Pg cfg 254 0 [113]=[(.cst false,[none,none,none,none])]:=kr
theorem kF255_319:callK Pg cfg 255 0 [319]=[(.cst false,[none,none,none,none])]:=kr
theorem kF256_321:callK Pg cfg 256 0 [321]=[(.cst false,[none,none,none,none])]:=kr
theorem kF257_125_125:callK Pg cfg 257 0 [125,125]=[(.cst false,[none,none,some 2,some 2,some 3]),(.cst false,[none,none,some 2,some 2,some 3])]:=kr
theorem kF258_44_44_170:callK Pg cfg 258 0 [44,44,170]=[(.cst false,[some 9]),(.cst false,[some 9]),(.cst false,[none])]:=kr
theorem kF259_107_107:callK Pg cfg 259 0 [107,107]=[(.cst false,[none,none,none,none,none,none,none,none,some 4]),(.cst false,[none,none,none,none,none,none,none,none,some 4])]:=kr
theorem kF260_126_126:callK Pg cfg 260 0 [126,126]=[(.cst false,[some 5]),(.cst false,[some 5])]:=kr
theorem kF261_28_28:callK Pg cfg 261 0 [28,28]=[(.cst false,[some 1]),(.cst false,[some 1])]:=kr
theorem kF262_125_125:callK Pg cfg 262 0 [125,125]=[(.cst false,[none,none,some 2,some 2,some 3]),(.cst false,[none,none,some 2,some 2,some 3])]:=kr
theorem kF263_126_126:callK Pg cfg 263 0 [126,126]=[(.cst false,[some 5]),(.cst false,[some 5])]:=kr
theorem kF264_127_127:callK Pg cfg 264 0 [127,127]=[(.cst false,[none,none,none,none]),(.cst false,[none,none,none,none])]:=kr
theorem kF265_241_241:callK Pg cfg 265 0 [241,241]=[(.cst false,[none,none,none,none]),(.cst false,[none,none,none,none])]:=kr
theorem kF266_243_243:callK Pg cfg 266 0 [243,243]=[(.cst false,[none,none,none,none]),(.cst false,[none,none,none,none])]:=kr
theorem kF27_44_44:callK Pg cfg 27 0 [44,44]=[(.cst false,[some 9]),(.cst false,[some 9])]:=kr
theorem kF283_349:callK Pg cfg 283 0 [349]=[(.cst false,[none,none,none,none])]:=kr
theorem kF284_276_276:callK Pg cfg 284 0 [276,276]=[(.cst false,[none,none,none,none]),(.cst false,[none,none,none,none])]:=kr
theorem kF313_141_141:callK Pg cfg 313 0 [141,141]=[(.cut 4,[none]),(.cut 4,[none])]:=kr
theorem kF314_382:callK Pg cfg 314 0 [382]=[(.cst false,[none,none,none,none,none])]:=kr
theorem kF315_26_26:callK Pg cfg 315 0 [26,26]=[(.cst false,[none,none,some 2,some 2]),(.cst false,[none,none,some 2,some 2])]:=kr
theorem kF316_84_84:callK Pg cfg 316 0 [84,84]=[(.cst false,[some 3]),(.cst false,[some 3])]:=kr
theorem kF317_105_105:callK Pg cfg 317 0 [105,105]=[(.cst false,[some 4]),(.cst false,[some 4])]:=kr
theorem kF318_326_326:callK Pg cfg 318 0 [326,326]=[(.cst false,[none,none,none,none,none]),(.cst false,[none,none,none,none,none])]:=kr
theorem kF350_23_23:callK Pg cfg 350 0 [23,23]=[(.cst false,[some 2]),(.cst false,[some 2])]:=kr
theorem kF351_23_23:callK Pg cfg 351 0 [23,23]=[(.cst false,[some 2]),(.cst false,[some 2])]:=kr
theorem kF352_24_24_294:callK Pg cfg 352 0 [24,24,294]=[(.cst false,[some 2]),(.cst false,[some 2]),(.cst false,[none])]:=kr
theorem kF353_257_257:callK Pg cfg 353 0 [257,257]=[(.cst false,[none,some 1]),(.cst false,[none,some 1])]:=kr
theorem kF36_56_3:callK Pg cfg 36 0 [56,3]=[(.cst false,[none,none,some 2,some 2]),(.cst false,[none])]:=kr
theorem kF38_56:callK Pg cfg 38 0 [56]=[(.cst false,[none,none,some 2,some 2])]:=kr
theorem kF39_26_26:callK Pg cfg 39 0 [26,26]=[(.cst false,[none,none,some 2,some 2]),(.cst false,[none,none,some 2,some 2])]:=kr
theorem kF41_28_28:callK Pg cfg 41 0 [28,28]=[(.cst false,[some 1]),(.cst false,[some 1])]:=kr
theorem kF59_81_3:callK Pg cfg 59 0 [81,3]=[(.cst false,[some 3]),(.cst false,[none])]:=kr
theorem kF61_81:callK Pg cfg 61 0 [81]=[(.cst false,[some 3])]:=kr
theorem kF63_84_84:callK Pg cfg 63 0 [84,84]=[(.cst false,[some 3]),(.cst false,[some 3])]:=kr
theorem kF77_121_3:callK Pg cfg 77 0 [121,3]=[(.cst false,[none,none,some 2,some 2,some 3,some 9,some 5,none,none,none,none,none,none,none,none,some 1,some 1,some 4,some 4,none,none,none,none,none]),(.cst false,[none])]:=kr
theorem kF78_134_134:callK Pg cfg 78 0 [134,134]=[(.cst false,[none,none,some 2,some 2,some 3,some 9,some 5,none,none,none,none,none,none,none,none,some 1,some 1,some 4,some 4,none,none,none,none,none]),(.cst false,[none,none,some 2,some 2,some 3,some 9,some 5,none,none,none,none,none,none,none,none,some 1,some 1,some 4,some 4,none,none,none,none,none])]:=kr
theorem kF79_121:callK Pg cfg 79 0 [121]=[(.cst false,[none,none,some 2,some 2,some 3,some 9,some 5,none,none,none,none,none,none,none,none,some 1,some 1,some 4,some 4,none,none,none,none,none])]:=kr
theorem kF80_134_134:callK Pg cfg 80 0 [134,134]=[(.cst false,[none,none,some 2,some 2,some 3,some 9,some 5,none,none,none,none,none,none,none,none,some 1,some 1,some 4,some 4,none,none,none,none,none]),(.cst false,[none,none,some 2,some 2,some 3,some 9,some 5,none,none,none,none,none,none,none,none,some 1,some 1,some 4,some 4,none,none,none,none,none])]:=kr
theorem kF81_134_134:callK Pg cfg 81 0 [134,134]=[(.cst false,[none,none,some 2,some 2,some 3,some 9,some 5,none,none,none,none,none,none,none,none,some 1,some 1,some 4,some 4,none,none,none,none,none]),(.cst false,[none,none,some 2,some 2,some 3,some 9,some 5,none,none,none,none,none,none,none,none,some 1,some 1,some 4,some 4,none,none,none,none,none])]:=kr
theorem kF92_159_3:callK Pg cfg 92 0 [159,3]=[(.cst false,[none,none,none,none,none,none,none,none,some 4]),(.cst false,[none])]:=kr
theorem kF96_159:callK Pg cfg 96 0 [159]=[(.cst false,[none,none,none,none,none,none,none,none,some 4])]:=kr
theorem qEF104:∀(a0:ByteArray) (a1:Int) (a2:Int) (b0:ByteArray) (b1:Int) (b2:Int),binAgg Pg 104 .eql [.string a0,.int .i64 a1,.int .i64 a2] [.string b0,.int .i64 b1,.int .i64 b2]=some (.bool ((a0.toList==b0.toList)&&((a1==b1)&&(a2==b2)))):=by intros;kernel_rfl
theorem qEF127:∀(a0:Int) (a1:Int) (a2:Int) (a3:Int) (b0:Int) (b1:Int) (b2:Int) (b3:Int),binAgg Pg 127 .eql [.int .i64 a0,.int .i64 a1,.int .i64 a2,.int .i64 a3] [.int .i64 b0,.int .i64 b1,.int .i64 b2,.int .i64 b3]=some (.bool ((a0==b0)&&((a1==b1)&&((a2==b2)&&(a3==b3))))):=by intros;kernel_rfl
theorem qEF132:∀(a0:Int) (a1:Int) (a2:Int) (a3:Int) (a4:Int) (b0:Int) (b1:Int) (b2:Int) (b3:Int) (b4:Int),binAgg Pg 132 .eql [.int .i64 a0,.int .i64 a1,.int .i64 a2,.int .i64 a3,.int .i64 a4] [.int .i64 b0,.int .i64 b1,.int .i64 b2,.int .i64 b3,.int .i64 b4]=some (.bool ((a0==b0)&&((a1==b1)&&((a2==b2)&&((a3==b3)&&(a4==b4)))))):=by intros;kernel_rfl
theorem qNF104:∀(a0:ByteArray) (a1:Int) (a2:Int) (b0:ByteArray) (b1:Int) (b2:Int),binAgg Pg 104 .neq [.string a0,.int .i64 a1,.int .i64 a2] [.string b0,.int .i64 b1,.int .i64 b2]=some (.bool (!((a0.toList==b0.toList)&&((a1==b1)&&(a2==b2))))):=by intros;kernel_rfl
theorem qNF127:∀(a0:Int) (a1:Int) (a2:Int) (a3:Int) (b0:Int) (b1:Int) (b2:Int) (b3:Int),binAgg Pg 127 .neq [.int .i64 a0,.int .i64 a1,.int .i64 a2,.int .i64 a3] [.int .i64 b0,.int .i64 b1,.int .i64 b2,.int .i64 b3]=some (.bool (!((a0==b0)&&((a1==b1)&&((a2==b2)&&(a3==b3)))))):=by intros;kernel_rfl
theorem qNF132:∀(a0:Int) (a1:Int) (a2:Int) (a3:Int) (a4:Int) (b0:Int) (b1:Int) (b2:Int) (b3:Int) (b4:Int),binAgg Pg 132 .neq [.int .i64 a0,.int .i64 a1,.int .i64 a2,.int .i64 a3,.int .i64 a4] [.int .i64 b0,.int .i64 b1,.int .i64 b2,.int .i64 b3,.int .i64 b4]=some (.bool (!((a0==b0)&&((a1==b1)&&((a2==b2)&&((a3==b3)&&(a4==b4))))))):=by intros;kernel_rfl
theorem qNF241:∀(a0:ByteArray) (a1:Int) (a2:Int) (a3:Int) (b0:ByteArray) (b1:Int) (b2:Int) (b3:Int),binAgg Pg 241 .neq [.string a0,.int .i64 a1,.int .i64 a2,.int .i64 a3] [.string b0,.int .i64 b1,.int .i64 b2,.int .i64 b3]=some (.bool (!((a0.toList==b0.toList)&&((a1==b1)&&((a2==b2)&&(a3==b3)))))):=by intros;kernel_rfl
theorem qNF243:∀(a0:ByteArray) (a1:Int) (a2:Int) (a3:Int) (b0:ByteArray) (b1:Int) (b2:Int) (b3:Int),binAgg Pg 243 .neq [.string a0,.int .i64 a1,.int .i64 a2,.int .i64 a3] [.string b0,.int .i64 b1,.int .i64 b2,.int .i64 b3]=some (.bool (!((a0.toList==b0.toList)&&((a1==b1)&&((a2==b2)&&(a3==b3)))))):=by intros;kernel_rfl
theorem qNF264:∀(a0:Int) (a1:Int) (b0:Int) (b1:Int),binAgg Pg 264 .neq [.int .i64 a0,.int .i64 a1] [.int .i64 b0,.int .i64 b1]=some (.bool (!((a0==b0)&&(a1==b1)))):=by intros;kernel_rfl
theorem qNF276:∀(a0:Int) (a1:Int) (a2:Int) (a3:Int) (b0:Int) (b1:Int) (b2:Int) (b3:Int),binAgg Pg 276 .neq [.int .i64 a0,.int .i64 a1,.int .i64 a2,.int .i64 a3] [.int .i64 b0,.int .i64 b1,.int .i64 b2,.int .i64 b3]=some (.bool (!((a0==b0)&&((a1==b1)&&((a2==b2)&&(a3==b3)))))):=by intros;kernel_rfl
theorem qNF326:∀(a0:Int) (a1:Int) (a2:Int) (a3:Int) (a4:Int) (b0:Int) (b1:Int) (b2:Int) (b3:Int) (b4:Int),binAgg Pg 326 .neq [.int .i64 a0,.int .i64 a1,.int .i64 a2,.int .i64 a3,.int .i64 a4] [.int .i64 b0,.int .i64 b1,.int .i64 b2,.int .i64 b3,.int .i64 b4]=some (.bool (!((a0==b0)&&((a1==b1)&&((a2==b2)&&((a3==b3)&&(a4==b4))))))):=by intros;kernel_rfl
theorem rF100:resK Pg (Try.f100.results.toList.zip Try.f100.resultTypes.toList)=[(.tmp 4,[none],none)]:=kr
theorem rF110:resK Pg (Try.f110.results.toList.zip Try.f110.resultTypes.toList)=[(.tmp 4,[none],none)]:=kr
theorem rF111:resK Pg (Try.f111.results.toList.zip Try.f111.resultTypes.toList)=[(.tmp 4,[none],none)]:=kr
theorem rF113:resK Pg (Try.f113.results.toList.zip Try.f113.resultTypes.toList)=[(.tmp 2,[some 2],none)]:=kr
theorem rF114:resK Pg (Try.f114.results.toList.zip Try.f114.resultTypes.toList)=[(.tmp 2,[some 2],none)]:=kr
theorem rF115:resK Pg (Try.f115.results.toList.zip Try.f115.resultTypes.toList)=[(.tmp 4,[none],none)]:=kr
theorem rF116:resK Pg (Try.f116.results.toList.zip Try.f116.resultTypes.toList)=[(.tmp 4,[none],none)]:=kr
theorem rF131:resK Pg (Try.f131.results.toList.zip Try.f131.resultTypes.toList)=[(.tmp 4,[none],none)]:=kr
theorem rF134:resK Pg (Try.f134.results.toList.zip Try.f134.resultTypes.toList)=[(.tmp 2,[some 1],none)]:=kr
theorem rF135:resK Pg (Try.f135.results.toList.zip Try.f135.resultTypes.toList)=[(.tmp 4,[none],none)]:=kr
theorem rF137:resK Pg (Try.f137.results.toList.zip Try.f137.resultTypes.toList)=[(.cell 2 104,[none,none,none],some (true,3))]:=kr
theorem rF139:resK Pg (Try.f139.results.toList.zip Try.f139.resultTypes.toList)=[(.tmp 4,[none],none)]:=kr
theorem rF14:resK Pg (Try.f14.results.toList.zip Try.f14.resultTypes.toList)=[(.tmp 4,[none],none)]:=kr
theorem rF154:resK Pg (Try.f154.results.toList.zip Try.f154.resultTypes.toList)=[(.tmp 4,[none],none)]:=kr
theorem rF155:resK Pg (Try.f155.results.toList.zip Try.f155.resultTypes.toList)=[(.tmp 4,[none],none)]:=kr
theorem rF156:resK Pg (Try.f156.results.toList.zip Try.f156.resultTypes.toList)=[(.tmp 4,[none],none)]:=kr
theorem rF157:resK Pg (Try.f157.results.toList.zip Try.f157.resultTypes.toList)=[(.tmp 4,[none],none)]:=kr
theorem rF158:resK Pg (Try.f158.results.toList.zip Try.f158.resultTypes.toList)=[(.cell 2 129,[none,none,some 2,some 2,some 3,some 9,some 5,none,none,none,none,none,none,none,none,some 1,some 1],some (true,17))]:=kr
theorem rF159:resK Pg (Try.f159.results.toList.zip Try.f159.resultTypes.toList)=[(.tmp 2,[some 4],none)]:=kr
theorem rF160:resK Pg (Try.f160.results.toList.zip Try.f160.resultTypes.toList)=[(.tmp 2,[some 4],none)]:=kr
theorem rF161:resK Pg (Try.f161.results.toList.zip Try.f161.resultTypes.toList)=[(.cell 2 132,[none,none,none,none,none],some (true,5))]:=kr
theorem rF162:resK Pg (Try.f162.results.toList.zip Try.f162.resultTypes.toList)=[(.tmp 4,[none],none)]:=kr
theorem rF163:resK Pg (Try.f163.results.toList.zip Try.f163.resultTypes.toList)=[(.tmp 4,[none],none)]:=kr
theorem rF164:resK Pg (Try.f164.results.toList.zip Try.f164.resultTypes.toList)=[(.tmp 4,[none],none)]:=kr
theorem rF165:resK Pg (Try.f165.results.toList.zip Try.f165.resultTypes.toList)=[(.tmp 4,[none],none)]:=kr
theorem rF166:resK Pg (Try.f166.results.toList.zip Try.f166.resultTypes.toList)=[(.tmp 4,[none],none)]:=kr
theorem rF167:resK Pg (Try.f167.results.toList.zip Try.f167.resultTypes.toList)=[(.tmp 4,[none],none)]:=kr
theorem rF168:resK Pg (Try.f168.results.toList.zip Try.f168.resultTypes.toList)=[(.tmp 4,[none],none)]:=kr
theorem rF184:resK Pg (Try.f184.results.toList.zip Try.f184.resultTypes.toList)=[(.tmp 4,[none],none)]:=kr
theorem rF188:resK Pg (Try.f188.results.toList.zip Try.f188.resultTypes.toList)=[(.tmp 2,[some 4],none)]:=kr
theorem rF193:resK Pg (Try.f193.results.toList.zip Try.f193.resultTypes.toList)=[(.tmp 4,[none],none)]:=kr
theorem rF201:resK Pg (Try.f201.results.toList.zip Try.f201.resultTypes.toList)=[(.tmp 4,[none],none)]:=kr
theorem rF204:resK Pg (Try.f204.results.toList.zip Try.f204.resultTypes.toList)=[(.cell 2 264,[none,none],some (true,2))]:=kr
theorem rF205:resK Pg (Try.f205.results.toList.zip Try.f205.resultTypes.toList)=[(.cell 2 257,[none,some 1],some (true,2))]:=kr
theorem rF206:resK Pg (Try.f206.results.toList.zip Try.f206.resultTypes.toList)=[(.tmp 4,[none],none)]:=kr
theorem rF207:resK Pg (Try.f207.results.toList.zip Try.f207.resultTypes.toList)=[(.tmp 4,[none],none)]:=kr
theorem rF22:resK Pg (Try.f22.results.toList.zip Try.f22.resultTypes.toList)=[(.tmp 4,[none],none)]:=kr
theorem rF24:resK Pg (Try.f24.results.toList.zip Try.f24.resultTypes.toList)=[(.tmp 2,[some 9],none)]:=kr
theorem rF245:resK Pg (Try.f245.results.toList.zip Try.f245.resultTypes.toList)=[(.tmp 4,[none],none)]:=kr
theorem rF246:resK Pg (Try.f246.results.toList.zip Try.f246.resultTypes.toList)=[(.tmp 4,[none],none)]:=kr
theorem rF247:resK Pg (Try.f247.results.toList.zip Try.f247.resultTypes.toList)=[(.tmp 4,[none],none)]:=kr
theorem rF248:resK Pg (Try.f248.results.toList.zip Try.f248.resultTypes.toList)=[(.tmp 4,[none],none)]:=kr
theorem rF249:resK Pg (Try.f249.results.toList.zip Try.f249.resultTypes.toList)=[(.tmp 4,[none],none)]:=kr
theorem rF250:resK Pg (Try.f250.results.toList.zip Try.f250.resultTypes.toList)=[(.tmp 4,[none],none)]:=kr
theorem rF251:resK Pg (Try.f251.results.toList.zip Try.f251.resultTypes.toList)=[(.tmp 4,[none],none)]:=kr
theorem rF252:resK Pg (Try.f252.results.toList.zip Try.f252.resultTypes.toList)=[(.cell 2 125,[none,none,some 2,some 2,some 3],some (true,5))]:=kr
theorem rF253:resK Pg (Try.f253.results.toList.zip Try.f253.resultTypes.toList)=[(.tmp 2,[some 5],none)]:=kr
theorem rF254:resK Pg (Try.f254.results.toList.zip Try.f254.resultTypes.toList)=[(.cell 2 127,[none,none,none,none],some (true,4))]:=kr
theorem rF255:resK Pg (Try.f255.results.toList.zip Try.f255.resultTypes.toList)=[(.cell 2 241,[none,none,none,none],some (true,4))]:=kr
theorem rF256:resK Pg (Try.f256.results.toList.zip Try.f256.resultTypes.toList)=[(.cell 2 243,[none,none,none,none],some (true,4))]:=kr
theorem rF257:resK Pg (Try.f257.results.toList.zip Try.f257.resultTypes.toList)=[(.tmp 4,[none],none)]:=kr
theorem rF258:resK Pg (Try.f258.results.toList.zip Try.f258.resultTypes.toList)=[(.tmp 6,[none],none)]:=kr
theorem rF259:resK Pg (Try.f259.results.toList.zip Try.f259.resultTypes.toList)=[(.tmp 4,[none],none)]:=kr
theorem rF260:resK Pg (Try.f260.results.toList.zip Try.f260.resultTypes.toList)=[(.tmp 4,[none],none)]:=kr
theorem rF261:resK Pg (Try.f261.results.toList.zip Try.f261.resultTypes.toList)=[(.tmp 4,[none],none)]:=kr
theorem rF262:resK Pg (Try.f262.results.toList.zip Try.f262.resultTypes.toList)=[(.tmp 4,[none],none)]:=kr
theorem rF263:resK Pg (Try.f263.results.toList.zip Try.f263.resultTypes.toList)=[(.tmp 4,[none],none)]:=kr
theorem rF264:resK Pg (Try.f264.results.toList.zip Try.f264.resultTypes.toList)=[(.tmp 4,[none],none)]:=kr
theorem rF265:resK Pg (Try.f265.results.toList.zip Try.f265.resultTypes.toList)=[(.tmp 4,[none],none)]:=kr
theorem rF266:resK Pg (Try.f266.results.toList.zip Try.f266.resultTypes.toList)=[(.tmp 4,[none],none)]:=kr
theorem rF27:resK Pg (Try.f27.results.toList.zip Try.f27.resultTypes.toList)=[(.tmp 4,[none],none)]:=kr
theorem rF283:resK Pg (Try.f283.results.toList.zip Try.f283.resultTypes.toList)=[(.cell 2 276,[none,none,none,none],some (true,4))]:=kr
theorem rF284:resK Pg (Try.f284.results.toList.zip Try.f284.resultTypes.toList)=[(.tmp 4,[none],none)]:=kr
theorem rF313:resK Pg (Try.f313.results.toList.zip Try.f313.resultTypes.toList)=[(.tmp 4,[none],none)]:=kr
theorem rF314:resK Pg (Try.f314.results.toList.zip Try.f314.resultTypes.toList)=[(.cell 2 326,[none,none,none,none,none],some (true,5))]:=kr
theorem rF315:resK Pg (Try.f315.results.toList.zip Try.f315.resultTypes.toList)=[(.tmp 4,[none],none)]:=kr
theorem rF316:resK Pg (Try.f316.results.toList.zip Try.f316.resultTypes.toList)=[(.tmp 4,[none],none)]:=kr
theorem rF317:resK Pg (Try.f317.results.toList.zip Try.f317.resultTypes.toList)=[(.tmp 4,[none],none)]:=kr
theorem rF318:resK Pg (Try.f318.results.toList.zip Try.f318.resultTypes.toList)=[(.tmp 4,[none],none)]:=kr
theorem rF350:resK Pg (Try.f350.results.toList.zip Try.f350.resultTypes.toList)=[(.tmp 4,[none],none)]:=kr
theorem rF351:resK Pg (Try.f351.results.toList.zip Try.f351.resultTypes.toList)=[(.tmp 4,[none],none)]:=kr
theorem rF352:resK Pg (Try.f352.results.toList.zip Try.f352.resultTypes.toList)=[(.tmp 6,[none],none)]:=kr
theorem rF353:resK Pg (Try.f353.results.toList.zip Try.f353.resultTypes.toList)=[(.tmp 4,[none],none)]:=kr
theorem rF36:resK Pg (Try.f36.results.toList.zip Try.f36.resultTypes.toList)=[(.tmp 4,[none],none)]:=kr
theorem rF38:resK Pg (Try.f38.results.toList.zip Try.f38.resultTypes.toList)=[(.cell 2 26,[none,none,some 2,some 2],some (true,4))]:=kr
theorem rF39:resK Pg (Try.f39.results.toList.zip Try.f39.resultTypes.toList)=[(.tmp 4,[none],none)]:=kr
theorem rF41:resK Pg (Try.f41.results.toList.zip Try.f41.resultTypes.toList)=[(.tmp 4,[none],none)]:=kr
theorem rF59:resK Pg (Try.f59.results.toList.zip Try.f59.resultTypes.toList)=[(.tmp 4,[none],none)]:=kr
theorem rF61:resK Pg (Try.f61.results.toList.zip Try.f61.resultTypes.toList)=[(.tmp 2,[some 3],none)]:=kr
theorem rF63:resK Pg (Try.f63.results.toList.zip Try.f63.resultTypes.toList)=[(.tmp 4,[none],none)]:=kr
theorem rF77:resK Pg (Try.f77.results.toList.zip Try.f77.resultTypes.toList)=[(.tmp 4,[none],none)]:=kr
theorem rF78:resK Pg (Try.f78.results.toList.zip Try.f78.resultTypes.toList)=[(.tmp 4,[none],none)]:=kr
theorem rF79:resK Pg (Try.f79.results.toList.zip Try.f79.resultTypes.toList)=[(.cell 2 134,[none,none,some 2,some 2,some 3,some 9,some 5,none,none,none,none,none,none,none,none,some 1,some 1,some 4,some 4,none,none,none,none,none],some (true,24))]:=kr
theorem rF80:resK Pg (Try.f80.results.toList.zip Try.f80.resultTypes.toList)=[(.tmp 4,[none],none)]:=kr
theorem rF81:resK Pg (Try.f81.results.toList.zip Try.f81.resultTypes.toList)=[(.tmp 4,[none],none)]:=kr
theorem rF92:resK Pg (Try.f92.results.toList.zip Try.f92.resultTypes.toList)=[(.tmp 4,[none],none)]:=kr
theorem rF96:resK Pg (Try.f96.results.toList.zip Try.f96.resultTypes.toList)=[(.cell 2 107,[none,none,none,none,none,none,none,none,some 4],some (true,9))]:=kr
theorem sF105:sliceF Pg 105=some (276,4,[none,none,none,none],true,32,[z0,z0,z0,z0]):=kr
theorem sF111:sliceF Pg 111=some (382,5,[none,none,none,none,none],true,40,[z0,z0,z0,z0,z0]):=kr
theorem sF116:sliceF Pg 116=some (319,4,[none,none,none,none],true,40,[z1,z0,z0,z0]):=kr
theorem sF117:sliceF Pg 117=some (321,4,[none,none,none,none],true,40,[z1,z0,z0,z0]):=kr
theorem sF126:sliceF Pg 126=some (326,5,[none,none,none,none,none],true,40,[z0,z0,z0,z0,z0]):=kr
theorem sF130:sliceF Pg 130=some (241,4,[none,none,none,none],true,40,[z1,z0,z0,z0]):=kr
theorem sF131:sliceF Pg 131=some (243,4,[none,none,none,none],true,40,[z1,z0,z0,z0]):=kr
theorem sF157:sliceF Pg 157=some (349,4,[none,none,none,none],true,32,[z0,z0,z0,z0]):=kr
theorem sF23:sliceF Pg 23=some (264,2,[none,none],true,16,[z0,z0]):=kr
theorem sF24:sliceF Pg 24=some (257,2,[none,some 1],true,40,[z1,.nil]):=kr
theorem sF28:sliceF Pg 28=some (2,1,[none],false,8,[z0]):=kr
theorem sF39:sliceF Pg 39=some (159,9,[none,none,none,none,none,none,none,none,some 4],true,112,[z1,z1,z0,z1,z0,z0,z0,z0,.nil]):=kr
theorem sF44:sliceF Pg 44=some (107,9,[none,none,none,none,none,none,none,none,some 4],true,112,[z1,z1,z0,z1,z0,z0,z0,z0,.nil]):=kr
theorem sF53:sliceF Pg 53=some (291,2,[none,none],true,16,[z0,z0]):=kr
theorem sF54:sliceF Pg 54=some (287,2,[none,some 1],true,40,[z1,.nil]):=kr
theorem sF81:sliceF Pg 81=some (156,3,[none,none,none],true,32,[z1,z0,z0]):=kr
theorem sF84:sliceF Pg 84=some (104,3,[none,none,none],true,32,[z1,z0,z0]):=kr
theorem tF104:tyF Pg 104=some ([z1,z0,z0],[none,none,none],true,3):=kr
theorem tF105:tyF Pg 105=some ([.nil],[some 4],false,1):=kr
theorem tF107:tyF Pg 107=some ([z1,z1,z0,z1,z0,z0,z0,z0,.nil],[none,none,none,none,none,none,none,none,some 4],true,9):=kr
theorem tF110:tyF Pg 110=some ([z0,z0,.nil,.nil,.nil],[none,none,some 2,some 2,some 3],true,5):=kr
theorem tF111:tyF Pg 111=some ([.nil],[some 5],false,1):=kr
theorem tF113:tyF Pg 113=some ([z0,z0,z0,z0],[none,none,none,none],true,4):=kr
theorem tF115:tyF Pg 115=some ([z0,z0,.nil,.nil,.nil,.nil,.nil,z0,z0,z0,z0,z0,z0,z0,z0,.nil,.nil],[none,none,some 2,some 2,some 3,some 9,some 5,none,none,none,none,none,none,none,none,some 1,some 1],true,17):=kr
theorem tF116:tyF Pg 116=some ([.nil],[some 4],false,1):=kr
theorem tF117:tyF Pg 117=some ([.nil],[some 4],false,1):=kr
theorem tF119:tyF Pg 119=some ([z0,z0,z0,z0,z0],[none,none,none,none,none],true,5):=kr
theorem tF121:tyF Pg 121=some ([z0,z0,.nil,.nil,.nil,.nil,.nil,z0,z0,z0,z0,z0,z0,z0,z0,.nil,.nil,.nil,.nil,z0,z0,z0,z0,z0],[none,none,some 2,some 2,some 3,some 9,some 5,none,none,none,none,none,none,none,none,some 1,some 1,some 4,some 4,none,none,none,none,none],true,24):=kr
theorem tF125:tyF Pg 125=some ([z0,z0,.nil,.nil,.nil],[none,none,some 2,some 2,some 3],true,5):=kr
theorem tF126:tyF Pg 126=some ([.nil],[some 5],false,1):=kr
theorem tF127:tyF Pg 127=some ([z0,z0,z0,z0],[none,none,none,none],true,4):=kr
theorem tF129:tyF Pg 129=some ([z0,z0,.nil,.nil,.nil,.nil,.nil,z0,z0,z0,z0,z0,z0,z0,z0,.nil,.nil],[none,none,some 2,some 2,some 3,some 9,some 5,none,none,none,none,none,none,none,none,some 1,some 1],true,17):=kr
theorem tF130:tyF Pg 130=some ([.nil],[some 4],false,1):=kr
theorem tF131:tyF Pg 131=some ([.nil],[some 4],false,1):=kr
theorem tF132:tyF Pg 132=some ([z0,z0,z0,z0,z0],[none,none,none,none,none],true,5):=kr
theorem tF134:tyF Pg 134=some ([z0,z0,.nil,.nil,.nil,.nil,.nil,z0,z0,z0,z0,z0,z0,z0,z0,.nil,.nil,.nil,.nil,z0,z0,z0,z0,z0],[none,none,some 2,some 2,some 3,some 9,some 5,none,none,none,none,none,none,none,none,some 1,some 1,some 4,some 4,none,none,none,none,none],true,24):=kr
theorem tF156:tyF Pg 156=some ([z1,z0,z0],[none,none,none],true,3):=kr
theorem tF157:tyF Pg 157=some ([.nil],[some 4],false,1):=kr
theorem tF159:tyF Pg 159=some ([z1,z1,z0,z1,z0,z0,z0,z0,.nil],[none,none,none,none,none,none,none,none,some 4],true,9):=kr
theorem tF2:tyF Pg 2=some ([z0],[none],false,1):=kr
theorem tF23:tyF Pg 23=some ([.nil],[some 2],false,1):=kr
theorem tF24:tyF Pg 24=some ([.nil],[some 2],false,1):=kr
theorem tF241:tyF Pg 241=some ([z1,z0,z0,z0],[none,none,none,none],true,4):=kr
theorem tF243:tyF Pg 243=some ([z1,z0,z0,z0],[none,none,none,none],true,4):=kr
theorem tF257:tyF Pg 257=some ([z1,.nil],[none,some 1],true,2):=kr
theorem tF26:tyF Pg 26=some ([z0,z0,.nil,.nil],[none,none,some 2,some 2],true,4):=kr
theorem tF264:tyF Pg 264=some ([z0,z0],[none,none],true,2):=kr
theorem tF276:tyF Pg 276=some ([z0,z0,z0,z0],[none,none,none,none],true,4):=kr
theorem tF28:tyF Pg 28=some ([.nil],[some 1],false,1):=kr
theorem tF287:tyF Pg 287=some ([z1,.nil],[none,some 1],true,2):=kr
theorem tF291:tyF Pg 291=some ([z0,z0],[none,none],true,2):=kr
theorem tF319:tyF Pg 319=some ([z1,z0,z0,z0],[none,none,none,none],true,4):=kr
theorem tF321:tyF Pg 321=some ([z1,z0,z0,z0],[none,none,none,none],true,4):=kr
theorem tF326:tyF Pg 326=some ([z0,z0,z0,z0,z0],[none,none,none,none,none],true,5):=kr
theorem tF349:tyF Pg 349=some ([z0,z0,z0,z0],[none,none,none,none],true,4):=kr
theorem tF382:tyF Pg 382=some ([z0,z0,z0,z0,z0],[none,none,none,none,none],true,5):=kr
theorem tF39:tyF Pg 39=some ([.nil],[some 9],false,1):=kr
theorem tF44:tyF Pg 44=some ([.nil],[some 9],false,1):=kr
theorem tF53:tyF Pg 53=some ([.nil],[some 2],false,1):=kr
theorem tF54:tyF Pg 54=some ([.nil],[some 2],false,1):=kr
theorem tF56:tyF Pg 56=some ([z0,z0,.nil,.nil],[none,none,some 2,some 2],true,4):=kr
theorem tF81:tyF Pg 81=some ([.nil],[some 3],false,1):=kr
theorem tF84:tyF Pg 84=some ([.nil],[some 3],false,1):=kr
theorem tF9:tyF Pg 9=some ([z1],[none],false,1):=kr
theorem uF105:Pg.underlying 105=some (.slice 276):=kr
theorem uF111:Pg.underlying 111=some (.slice 382):=kr
theorem uF116:Pg.underlying 116=some (.slice 319):=kr
theorem uF117:Pg.underlying 117=some (.slice 321):=kr
theorem uF126:Pg.underlying 126=some (.slice 326):=kr
theorem uF130:Pg.underlying 130=some (.slice 241):=kr
theorem uF131:Pg.underlying 131=some (.slice 243):=kr
theorem uF157:Pg.underlying 157=some (.slice 349):=kr
theorem uF23:Pg.underlying 23=some (.slice 264):=kr
theorem uF24:Pg.underlying 24=some (.slice 257):=kr
theorem uF28:Pg.underlying 28=some (.slice 2):=kr
theorem uF39:Pg.underlying 39=some (.slice 159):=kr
theorem uF4:Pg.underlying 4=some .bool:=kr
theorem uF44:Pg.underlying 44=some (.slice 107):=kr
theorem uF53:Pg.underlying 53=some (.slice 291):=kr
theorem uF54:Pg.underlying 54=some (.slice 287):=kr
theorem uF81:Pg.underlying 81=some (.slice 156):=kr
theorem uF84:Pg.underlying 84=some (.slice 104):=kr
theorem uF9:Pg.underlying 9=some .string:=kr
abbrev FX (i:Nat) (a:List Arg) (r:Res×List Out):Prop:=FL Try.prog cfg i a=some r
theorem L_laws_szPointS {a_0:(List S_Point)} {left_1:Int} {r:Int} (h:laws_szPointS a_0 left_1=some r):FX 110 [.im 2 false [W 2 e_S_Point a_0],.im 2 false [I left_1]] (B0 [(false,[.im 0 (I r)])]):=by
 unfold laws_szPointS at h
 refine gn 12 Try.func110 rfl ?_
 refine gs<|g0 j j (q (oAsI j j)<|nl)<|us<|gs<|g0 j j (q (oMv j j)<|q (oMv j j)<|q (oLnI j j uF53 j)<|q (oBi j j j j)<|q (oAsI j j)<|nl)<|us<|gs<|gs<|g0 j j (q (oMv j j)<|q (oBi j j j j)<|nl)<|us<|gc h j iDec (fun hc1 h=>?_) fun hc1 h=>?_
 ·refine gs<|g0 j j (q (oAsI j j)<|nl)<|us<|Go.ret (Unw.ret ?_)
  cases h
  exact fr rF110 j
 ·refine Go.skip<|us<|gs<|g0 j j (q (oMv j j)<|q (oAsI j j)<|nl)<|us<|Go.ret (Unw.ret ?_)
  cases h
  exact fr rF110 j
theorem L_laws_szInt64S {a_0:(List Int)} {left_1:Int} {r:Int} (h:laws_szInt64S a_0 left_1=some r):FX 131 [.im 2 false [W 1 eI a_0],.im 2 false [I left_1]] (B0 [(false,[.im 0 (I r)])]):=by
 unfold laws_szInt64S at h
 refine gn 12 Try.func131 rfl ?_
 refine gs<|g0 j j (q (oAsI j j)<|nl)<|us<|gs<|g0 j j (q (oMv j j)<|q (oMv j j)<|q (oLnI j j uF28 j)<|q (oBi j j j j)<|q (oAsI j j)<|nl)<|us<|gs<|gs<|g0 j j (q (oMv j j)<|q (oBi j j j j)<|nl)<|us<|gc h j iDec (fun hc1 h=>?_) fun hc1 h=>?_
 ·refine gs<|g0 j j (q (oAsI j j)<|nl)<|us<|Go.ret (Unw.ret ?_)
  cases h
  exact fr rF131 j
 ·refine Go.skip<|us<|gs<|g0 j j (q (oMv j j)<|q (oAsI j j)<|nl)<|us<|Go.ret (Unw.ret ?_)
  cases h
  exact fr rF131 j
theorem L_laws_szFace {a_0:S_Face} {left_1:Int} {r:Int} (h:laws_szFace a_0 left_1=some r):FX 201 [.im 2 true (u_S_Face a_0),.im 2 false [I left_1]] (B0 [(false,[.im 0 (I r)])]):=by
 unfold laws_szFace at h
 refine gn 19 Try.func201 rfl ?_
 refine gs<|g0 j j (q (oBx j tF287 j (tkI (tkI tk0)))<|q (oAsI j j)<|nl)<|us<|gs<|g0 j j (q (oMv j j)<|q (oFA (r':=.mp 2 0 0) j fF287_0 j j)<|q (oLd (cs:=[.im 0 _]) j tF9 j j)<|q (oLnS j j uF9 j)<|q (oBi j j j j)<|q (oAsI j j)<|nl)<|us<|gs<|gs<|g0 j j (q (oMv j j)<|q (oBi j j j j)<|nl)<|us<|gc h j iDec (fun hc1 h=>?_) fun hc1 h=>?_
 ·refine gs<|g0 j j (q (oAsI j j)<|nl)<|us<|Go.ret (Unw.ret ?_)
  cases h
  exact fr rF201 j
 ·refine Go.skip<|us<|gs<|?_
  obtain ⟨x15,hx15,h⟩:=bs h
  refine g0 j j (q (oFA (r':=.mp 2 0 1) j fF287_1 j j)<|q (oLd (cs:=[.im 2 _]) j tF28 j j)<|q (oMv j j)<|q (oCa (xs:=[.v false [.im 2 _],.v false [.im 0 _]]) (vs:=[(false,[.im 0 _])]) (v:=.v false [.im 0 _]) (L_laws_szInt64S hx15) (.inl j) j kF131_28_3 j (ppC j (ppC j pp0)) j j pb0 j j j)<|q (oAsI j j)<|nl)<|us<|gs<|gs<|g0 j j (q (oMv j j)<|q (oBi j j j j)<|nl)<|us<|gc h j iDec (fun hc2 h=>?_) fun hc2 h=>?_
  ·refine gs<|g0 j j (q (oAsI j j)<|nl)<|us<|Go.ret (Unw.ret ?_)
   cases h
   exact fr rF201 j
  ·refine Go.skip<|us<|gs<|g0 j j (q (oMv j j)<|q (oAsI j j)<|nl)<|us<|Go.ret (Unw.ret ?_)
   cases h
   exact fr rF201 j
theorem L_laws_szFaceS {a_0:(List S_Face)} {left_1:Int} {r:Int} (h:laws_szFaceS a_0 left_1=some r):FX 111 [.im 2 false [W 2 e_S_Face a_0],.im 2 false [I left_1]] (B0 [(false,[.im 0 (I r)])]):=by
 unfold laws_szFaceS at h
 refine gn 27 Try.func111 rfl ?_
 refine gs<|g0 j j (q (oAsI j j)<|nl)<|us<|gs<|g0 j j (q (oMv j j)<|q (oMv j j)<|q (oLnI j j uF54 j)<|q (oBi j j j j)<|q (oAsI j j)<|nl)<|us<|gs<|gs<|g0 j j (q (oMv j j)<|q (oBi j j j j)<|nl)<|us<|gc h j iDec (fun hc1 h=>?_) fun hc1 h=>?_
 ·refine gs<|g0 j j (q (oAsI j j)<|nl)<|us<|Go.ret (Unw.ret ?_)
  cases h
  exact fr rF111 j
 ·refine Go.skip<|us<|gs<|gs<|g0 j j (q (oAsI j j)<|nl)<|us<|Go.block<|?_
  obtain ⟨o,hl,h⟩:=bs h
  refine gl c111 j _ (fun (s:(Int×Int))=>match s with | (left_1_l5,i_5_l5)=>mk [(0,D 2 (W 2 e_S_Face a_0)),(1,iv left_1_l5),(5,iv i_5_l5)] []) (fun (o:(Int ⊕ Int)) (p:Ex×St)=>match o with | (.inl left_1_e0_5)=>p.1= .exit 0∧p.2.norm ([1],[])=mk [(1,iv left_1_e0_5)] [] | (.inr r2)=>p.1= .ret∧fin Try.prog cfg 111 Try.f111 [.im 2 false [W 2 e_S_Face a_0],.im 2 false [I left_1]] p.2=some (B0 [(false,[.im 0 (I r2)])])) hl (by kernel_rfl) ?_ ?_ ?_
  ·intro o p hp e
   rcases o with left_1_e0_5 | r2<;>exact nomatch (hp.1.symm.trans e)
  ·rintro ⟨left_1_l5,i_5_l5⟩ o h
   unfold laws_szFaceS_l5 at h
   dsimp only at h
   refine gs<|gs<|g0 j j (q (oMv j j)<|q (oMv j j)<|q (oLnI j j uF54 j)<|q (oBi j j j j)<|nl)<|us<|gc h j iDec (fun hc6 h=>?_) fun hc6 h=>?_
   ·refine Go.skip<|us<|gs<|Go.block<|gs<|?_
    obtain ⟨x20,hx20,h⟩:=bs h
    obtain ⟨x23,hx23,h⟩:=bs h
    refine g0 j j (q (oMv j j)<|q (oMv j j)<|q (oIAI j hx20 sF54 j j)<|q (oLd (cs:=[.im 2 _,.im 2 _]) j tF287 j j)<|q (oMv j j)<|q (oCa (xs:=[.v true [.im 2 _,.im 2 _],.v false [.im 0 _]]) (vs:=[(false,[.im 0 _])]) (v:=.v false [.im 0 _]) (L_laws_szFace hx23) (.inl j) j kF201_287_3 j (ppC j (ppC j pp0)) j j pb0 j j j)<|q (oAsI j j)<|nl)<|us<|gs<|g0 j j (q (oMv j j)<|q (oBi j j j j)<|nl)<|us<|gc h j iDec (fun hc7 h=>?_) fun hc7 h=>?_
    ·refine gs<|g0 j j (q (oAsI j j)<|nl)<|us<|Go.ret (Unw.ret ?_)
     cases h
     exact ⟨j,(fo rF111 j)⟩
    ·refine Go.skip<|Unw.blk<|us<|g0 j j (q (oMv j j)<|q (oBi j j j j)<|q (oAsI j j)<|nl)<|Unw.nil<|?_
     cases h
     exact ⟨j,(by kernel_rfl)⟩
   ·refine Go.exit<|ux<|Unw.nil<|?_
    cases h
    exact ⟨j,(by kernel_rfl)⟩
  ·rintro ⟨e,st⟩ hp
   rcases o with left_1_e0_5 | r2
   ·dsimp only at h
    obtain ⟨he,hst⟩:=hp
    obtain rfl:e= .exit 0:=he
    refine Unw.blkx<|us<|gs<|g2 c111 j j hst (q (oMv j j)<|q (oAsI j j)<|nl)<|us<|Go.ret (Unw.ret ?_)
    cases h
    exact fr rF111 j
   ·dsimp only at h
    obtain ⟨he,hfin⟩:=hp
    obtain rfl:e= .ret:=he
    cases h
    exact Unw.ret (Fin_ret hfin)
theorem L_laws_szDrawing {a_0:S_Drawing} {left_1:Int} {r:Int} (h:laws_szDrawing a_0 left_1=some r):FX 36 [.im 2 true (u_S_Drawing a_0),.im 2 false [I left_1]] (B0 [(false,[.im 0 (I r)])]):=by
 unfold laws_szDrawing at h
 refine gn 18 Try.func36 rfl ?_
 refine gs<|g0 j j (q (oBx j tF56 j (tkI (tkI (tkI (tkI tk0)))))<|q (oAsI j j)<|nl)<|us<|gs<|?_
 obtain ⟨x8,hx8,h⟩:=bs h
 refine g0 j j (q (oFA (r':=.mp 2 0 2) j fF56_2 j j)<|q (oLd (cs:=[.im 2 _]) j tF53 j j)<|q (oMv j j)<|q (oCa (xs:=[.v false [.im 2 _],.v false [.im 2 _]]) (vs:=[(false,[.im 0 _])]) (v:=.v false [.im 0 _]) (L_laws_szPointS hx8) (.inl j) j kF110_53_3 j (ppC j (ppC j pp0)) j j pb0 j j j)<|q (oAsI j j)<|nl)<|us<|gs<|gs<|g0 j j (q (oMv j j)<|q (oBi j j j j)<|nl)<|us<|gc h j iDec (fun hc1 h=>?_) fun hc1 h=>?_
 ·refine gs<|g0 j j (q (oAsI j j)<|nl)<|us<|Go.ret (Unw.ret ?_)
  cases h
  exact fr rF36 j
 ·refine Go.skip<|us<|gs<|?_
  obtain ⟨x14,hx14,h⟩:=bs h
  refine g0 j j (q (oFA (r':=.mp 2 0 3) j fF56_3 j j)<|q (oLd (cs:=[.im 2 _]) j tF54 j j)<|q (oMv j j)<|q (oCa (xs:=[.v false [.im 2 _],.v false [.im 0 _]]) (vs:=[(false,[.im 0 _])]) (v:=.v false [.im 0 _]) (L_laws_szFaceS hx14) (.inl j) j kF111_54_3 j (ppC j (ppC j pp0)) j j pb0 j j j)<|q (oAsI j j)<|nl)<|us<|gs<|gs<|g0 j j (q (oMv j j)<|q (oBi j j j j)<|nl)<|us<|gc h j iDec (fun hc2 h=>?_) fun hc2 h=>?_
  ·refine gs<|g0 j j (q (oAsI j j)<|nl)<|us<|Go.ret (Unw.ret ?_)
   cases h
   exact fr rF36 j
  ·refine Go.skip<|us<|gs<|g0 j j (q (oMv j j)<|q (oAsI j j)<|nl)<|us<|Go.ret (Unw.ret ?_)
   cases h
   exact fr rF36 j
theorem L_laws_szVeneer {a_0:S_Veneer} {left_1:Int} {r:Int} (h:laws_szVeneer a_0 left_1=some r):FX 135 [.im 2 true (u_S_Veneer a_0),.im 2 false [I left_1]] (B0 [(false,[.im 0 (I r)])]):=by
 unfold laws_szVeneer at h
 refine gn 13 Try.func135 rfl ?_
 refine gs<|g0 j j (q (oBx j tF156 j (tkI (tkI (tkI tk0))))<|q (oAsI j j)<|nl)<|us<|gs<|g0 j j (q (oMv j j)<|q (oFA (r':=.mp 2 0 0) j fF156_0 j j)<|q (oLd (cs:=[.im 0 _]) j tF9 j j)<|q (oLnS j j uF9 j)<|q (oBi j j j j)<|q (oAsI j j)<|nl)<|us<|gs<|gs<|g0 j j (q (oMv j j)<|q (oBi j j j j)<|nl)<|us<|gc h j iDec (fun hc1 h=>?_) fun hc1 h=>?_
 ·refine gs<|g0 j j (q (oAsI j j)<|nl)<|us<|Go.ret (Unw.ret ?_)
  cases h
  exact fr rF135 j
 ·refine Go.skip<|us<|gs<|g0 j j (q (oMv j j)<|q (oAsI j j)<|nl)<|us<|Go.ret (Unw.ret ?_)
  cases h
  exact fr rF135 j
theorem L_laws_szVeneerS {a_0:(List S_Veneer)} {left_1:Int} {r:Int} (h:laws_szVeneerS a_0 left_1=some r):FX 59 [.im 2 false [W 3 e_S_Veneer a_0],.im 2 false [I left_1]] (B0 [(false,[.im 0 (I r)])]):=by
 unfold laws_szVeneerS at h
 refine gn 27 Try.func59 rfl ?_
 refine gs<|g0 j j (q (oAsI j j)<|nl)<|us<|gs<|g0 j j (q (oMv j j)<|q (oMv j j)<|q (oLnI j j uF81 j)<|q (oBi j j j j)<|q (oAsI j j)<|nl)<|us<|gs<|gs<|g0 j j (q (oMv j j)<|q (oBi j j j j)<|nl)<|us<|gc h j iDec (fun hc1 h=>?_) fun hc1 h=>?_
 ·refine gs<|g0 j j (q (oAsI j j)<|nl)<|us<|Go.ret (Unw.ret ?_)
  cases h
  exact fr rF59 j
 ·refine Go.skip<|us<|gs<|gs<|g0 j j (q (oAsI j j)<|nl)<|us<|Go.block<|?_
  obtain ⟨o,hl,h⟩:=bs h
  refine gl c59 j _ (fun (s:(Int×Int))=>match s with | (left_1_l5,i_5_l5)=>mk [(0,D 2 (W 3 e_S_Veneer a_0)),(1,iv left_1_l5),(5,iv i_5_l5)] []) (fun (o:(Int ⊕ Int)) (p:Ex×St)=>match o with | (.inl left_1_e0_5)=>p.1= .exit 0∧p.2.norm ([1],[])=mk [(1,iv left_1_e0_5)] [] | (.inr r2)=>p.1= .ret∧fin Try.prog cfg 59 Try.f59 [.im 2 false [W 3 e_S_Veneer a_0],.im 2 false [I left_1]] p.2=some (B0 [(false,[.im 0 (I r2)])])) hl (by kernel_rfl) ?_ ?_ ?_
  ·intro o p hp e
   rcases o with left_1_e0_5 | r2<;>exact nomatch (hp.1.symm.trans e)
  ·rintro ⟨left_1_l5,i_5_l5⟩ o h
   unfold laws_szVeneerS_l5 at h
   dsimp only at h
   refine gs<|gs<|g0 j j (q (oMv j j)<|q (oMv j j)<|q (oLnI j j uF81 j)<|q (oBi j j j j)<|nl)<|us<|gc h j iDec (fun hc6 h=>?_) fun hc6 h=>?_
   ·refine Go.skip<|us<|gs<|Go.block<|gs<|?_
    obtain ⟨x20,hx20,h⟩:=bs h
    obtain ⟨x23,hx23,h⟩:=bs h
    refine g0 j j (q (oMv j j)<|q (oMv j j)<|q (oIAI j hx20 sF81 j j)<|q (oLd (cs:=[.im 2 _,.im 2 _,.im 2 _]) j tF156 j j)<|q (oMv j j)<|q (oCa (xs:=[.v true [.im 2 _,.im 2 _,.im 2 _],.v false [.im 0 _]]) (vs:=[(false,[.im 0 _])]) (v:=.v false [.im 0 _]) (L_laws_szVeneer hx23) (.inl j) j kF135_156_3 j (ppC j (ppC j pp0)) j j pb0 j j j)<|q (oAsI j j)<|nl)<|us<|gs<|g0 j j (q (oMv j j)<|q (oBi j j j j)<|nl)<|us<|gc h j iDec (fun hc7 h=>?_) fun hc7 h=>?_
    ·refine gs<|g0 j j (q (oAsI j j)<|nl)<|us<|Go.ret (Unw.ret ?_)
     cases h
     exact ⟨j,(fo rF59 j)⟩
    ·refine Go.skip<|Unw.blk<|us<|g0 j j (q (oMv j j)<|q (oBi j j j j)<|q (oAsI j j)<|nl)<|Unw.nil<|?_
     cases h
     exact ⟨j,(by kernel_rfl)⟩
   ·refine Go.exit<|ux<|Unw.nil<|?_
    cases h
    exact ⟨j,(by kernel_rfl)⟩
  ·rintro ⟨e,st⟩ hp
   rcases o with left_1_e0_5 | r2
   ·dsimp only at h
    obtain ⟨he,hst⟩:=hp
    obtain rfl:e= .exit 0:=he
    refine Unw.blkx<|us<|gs<|g2 c59 j j hst (q (oMv j j)<|q (oAsI j j)<|nl)<|us<|Go.ret (Unw.ret ?_)
    cases h
    exact fr rF59 j
   ·dsimp only at h
    obtain ⟨he,hfin⟩:=hp
    obtain rfl:e= .ret:=he
    cases h
    exact Unw.ret (Fin_ret hfin)
theorem L_laws_szPicture {a_0:S_Picture} {left_1:Int} {r:Int} (h:laws_szPicture a_0 left_1=some r):FX 245 [.im 2 true (u_S_Picture a_0),.im 2 false [I left_1]] (B0 [(false,[.im 0 (I r)])]):=by
 unfold laws_szPicture at h
 refine gn 18 Try.func245 rfl ?_
 refine gs<|g0 j j (q (oBx j tF110 j (tkI (tkI (tkI (tkI (tkI tk0))))))<|q (oAsI j j)<|nl)<|us<|gs<|?_
 obtain ⟨x8,hx8,h⟩:=bs h
 refine g1 j j (mk [(1,iv left_1),(2,M 2)] [(2,Oa (G 2 (u_S_Picture a_0)))]) (q (oFA (r':=.mp 2 0 0) j fF110_0 j j)<|q (oLd (cs:=[.im 0 _,.im 0 _,.im 2 _,.im 2 _]) j tF56 j j)<|q (oMv j j)<|q (oCa (xs:=[.v true [.im 0 _,.im 0 _,.im 2 _,.im 2 _],.v false [.im 0 _]]) (vs:=[(false,[.im 0 _])]) (v:=.v false [.im 0 _]) (L_laws_szDrawing hx8) (.inl j) j kF36_56_3 j (ppC j (ppC j pp0)) j j pb0 j j j)<|q (oAsI j j)<|nl)<|us<|gs<|gs<|g0 j j (q (oMv j j)<|q (oBi j j j j)<|nl)<|us<|gc h j iDec (fun hc1 h=>?_) fun hc1 h=>?_
 ·refine gs<|g0 j j (q (oAsI j j)<|nl)<|us<|Go.ret (Unw.ret ?_)
  cases h
  exact fr rF245 j
 ·refine Go.skip<|us<|gs<|?_
  obtain ⟨x14,hx14,h⟩:=bs h
  refine g0 j j (q (oFA (r':=.mp 2 0 4) j fF110_1 j j)<|q (oLd (cs:=[.im 2 _]) j tF81 j j)<|q (oMv j j)<|q (oCa (xs:=[.v false [.im 2 _],.v false [.im 0 _]]) (vs:=[(false,[.im 0 _])]) (v:=.v false [.im 0 _]) (L_laws_szVeneerS hx14) (.inl j) j kF59_81_3 j (ppC j (ppC j pp0)) j j pb0 j j j)<|q (oAsI j j)<|nl)<|us<|gs<|gs<|g0 j j (q (oMv j j)<|q (oBi j j j j)<|nl)<|us<|gc h j iDec (fun hc2 h=>?_) fun hc2 h=>?_
  ·refine gs<|g0 j j (q (oAsI j j)<|nl)<|us<|Go.ret (Unw.ret ?_)
   cases h
   exact fr rF245 j
  ·refine Go.skip<|us<|gs<|g0 j j (q (oMv j j)<|q (oAsI j j)<|nl)<|us<|Go.ret (Unw.ret ?_)
   cases h
   exact fr rF245 j
theorem L_laws_szBoxS {a_0:(List S_Box)} {left_1:Int} {r:Int} (h:laws_szBoxS a_0 left_1=some r):FX 184 [.im 2 false [W 4 e_S_Box a_0],.im 2 false [I left_1]] (B0 [(false,[.im 0 (I r)])]):=by
 unfold laws_szBoxS at h
 refine gn 12 Try.func184 rfl ?_
 refine gs<|g0 j j (q (oAsI j j)<|nl)<|us<|gs<|g0 j j (q (oMv j j)<|q (oMv j j)<|q (oLnI j j uF157 j)<|q (oBi j j j j)<|q (oAsI j j)<|nl)<|us<|gs<|gs<|g0 j j (q (oMv j j)<|q (oBi j j j j)<|nl)<|us<|gc h j iDec (fun hc1 h=>?_) fun hc1 h=>?_
 ·refine gs<|g0 j j (q (oAsI j j)<|nl)<|us<|Go.ret (Unw.ret ?_)
  cases h
  exact fr rF184 j
 ·refine Go.skip<|us<|gs<|g0 j j (q (oMv j j)<|q (oAsI j j)<|nl)<|us<|Go.ret (Unw.ret ?_)
  cases h
  exact fr rF184 j
theorem L_laws_szLeaf {a_0:S_Leaf} {left_1:Int} {r:Int} (h:laws_szLeaf a_0 left_1=some r):FX 92 [.im 2 true (u_S_Leaf a_0),.im 2 false [I left_1]] (B0 [(false,[.im 0 (I r)])]):=by
 unfold laws_szLeaf at h
 refine gn 32 Try.func92 rfl ?_
 refine gs<|g0 j j (q (oBx j tF159 j (tkI (tkI (tkI (tkI (tkI (tkI (tkI (tkI (tkI tk0))))))))))<|q (oAsI j j)<|nl)<|us<|gs<|g1 j j (mk [(1,iv left_1),(2,M 2)] [(2,Oa (G 2 (u_S_Leaf a_0)))]) (q (oMv j j)<|q (oFA (r':=.mp 2 0 0) j fF159_0 j j)<|q (oLd (cs:=[.im 0 _]) j tF9 j j)<|q (oLnS j j uF9 j)<|q (oBi j j j j)<|q (oAsI j j)<|nl)<|us<|gs<|gs<|g0 j j (q (oMv j j)<|q (oBi j j j j)<|nl)<|us<|gc h j iDec (fun hc1 h=>?_) fun hc1 h=>?_
 ·refine gs<|g0 j j (q (oAsI j j)<|nl)<|us<|Go.ret (Unw.ret ?_)
  cases h
  exact fr rF92 j
 ·refine Go.skip<|us<|gs<|g0 j j (q (oMv j j)<|q (oFA (r':=.mp 2 0 1) j fF159_1 j j)<|q (oLd (cs:=[.im 0 _]) j tF9 j j)<|q (oLnS j j uF9 j)<|q (oBi j j j j)<|q (oAsI j j)<|nl)<|us<|gs<|gs<|g0 j j (q (oMv j j)<|q (oBi j j j j)<|nl)<|us<|gc h j iDec (fun hc2 h=>?_) fun hc2 h=>?_
  ·refine gs<|g0 j j (q (oAsI j j)<|nl)<|us<|Go.ret (Unw.ret ?_)
   cases h
   exact fr rF92 j
  ·refine Go.skip<|us<|gs<|?_
   obtain ⟨x22,hx22,h⟩:=bs h
   refine g0 j j (q (oFA (r':=.mp 2 0 3) j fF159_3 j j)<|q (oLd (cs:=[.im 0 _,.im 0 _,.im 0 _]) j tF156 j j)<|q (oMv j j)<|q (oCa (xs:=[.v true [.im 0 _,.im 0 _,.im 0 _],.v false [.im 0 _]]) (vs:=[(false,[.im 0 _])]) (v:=.v false [.im 0 _]) (L_laws_szVeneer hx22) (.inl j) j kF135_156_3 j (ppC j (ppC j pp0)) j j pb0 j j j)<|q (oAsI j j)<|nl)<|us<|gs<|gs<|g0 j j (q (oMv j j)<|q (oBi j j j j)<|nl)<|us<|gc h j iDec (fun hc3 h=>?_) fun hc3 h=>?_
   ·refine gs<|g0 j j (q (oAsI j j)<|nl)<|us<|Go.ret (Unw.ret ?_)
    cases h
    exact fr rF92 j
   ·refine Go.skip<|us<|gs<|?_
    obtain ⟨x28,hx28,h⟩:=bs h
    refine g0 j j (q (oFA (r':=.mp 2 0 8) j fF159_6 j j)<|q (oLd (cs:=[.im 2 _]) j tF157 j j)<|q (oMv j j)<|q (oCa (xs:=[.v false [.im 2 _],.v false [.im 0 _]]) (vs:=[(false,[.im 0 _])]) (v:=.v false [.im 0 _]) (L_laws_szBoxS hx28) (.inl j) j kF184_157_3 j (ppC j (ppC j pp0)) j j pb0 j j j)<|q (oAsI j j)<|nl)<|us<|gs<|gs<|g0 j j (q (oMv j j)<|q (oBi j j j j)<|nl)<|us<|gc h j iDec (fun hc4 h=>?_) fun hc4 h=>?_
    ·refine gs<|g0 j j (q (oAsI j j)<|nl)<|us<|Go.ret (Unw.ret ?_)
     cases h
     exact fr rF92 j
    ·refine Go.skip<|us<|gs<|g0 j j (q (oMv j j)<|q (oAsI j j)<|nl)<|us<|Go.ret (Unw.ret ?_)
     cases h
     exact fr rF92 j
theorem L_laws_szLeafS {a_0:(List S_Leaf)} {left_1:Int} {r:Int} (h:laws_szLeafS a_0 left_1=some r):FX 22 [.im 2 false [W 9 e_S_Leaf a_0],.im 2 false [I left_1]] (B0 [(false,[.im 0 (I r)])]):=by
 unfold laws_szLeafS at h
 refine gn 27 Try.func22 rfl ?_
 refine gs<|g0 j j (q (oAsI j j)<|nl)<|us<|gs<|g0 j j (q (oMv j j)<|q (oMv j j)<|q (oLnI j j uF39 j)<|q (oBi j j j j)<|q (oAsI j j)<|nl)<|us<|gs<|gs<|g0 j j (q (oMv j j)<|q (oBi j j j j)<|nl)<|us<|gc h j iDec (fun hc1 h=>?_) fun hc1 h=>?_
 ·refine gs<|g0 j j (q (oAsI j j)<|nl)<|us<|Go.ret (Unw.ret ?_)
  cases h
  exact fr rF22 j
 ·refine Go.skip<|us<|gs<|gs<|g0 j j (q (oAsI j j)<|nl)<|us<|Go.block<|?_
  obtain ⟨o,hl,h⟩:=bs h
  refine gl c22 j _ (fun (s:(Int×Int))=>match s with | (left_1_l5,i_5_l5)=>mk [(0,D 2 (W 9 e_S_Leaf a_0)),(1,iv left_1_l5),(5,iv i_5_l5)] []) (fun (o:(Int ⊕ Int)) (p:Ex×St)=>match o with | (.inl left_1_e0_5)=>p.1= .exit 0∧p.2.norm ([1],[])=mk [(1,iv left_1_e0_5)] [] | (.inr r2)=>p.1= .ret∧fin Try.prog cfg 22 Try.f22 [.im 2 false [W 9 e_S_Leaf a_0],.im 2 false [I left_1]] p.2=some (B0 [(false,[.im 0 (I r2)])])) hl (by kernel_rfl) ?_ ?_ ?_
  ·intro o p hp e
   rcases o with left_1_e0_5 | r2<;>exact nomatch (hp.1.symm.trans e)
  ·rintro ⟨left_1_l5,i_5_l5⟩ o h
   unfold laws_szLeafS_l5 at h
   dsimp only at h
   refine gs<|gs<|g0 j j (q (oMv j j)<|q (oMv j j)<|q (oLnI j j uF39 j)<|q (oBi j j j j)<|nl)<|us<|gc h j iDec (fun hc6 h=>?_) fun hc6 h=>?_
   ·refine Go.skip<|us<|gs<|Go.block<|gs<|?_
    obtain ⟨x20,hx20,h⟩:=bs h
    obtain ⟨x23,hx23,h⟩:=bs h
    refine g0 j j (q (oMv j j)<|q (oMv j j)<|q (oIAI j hx20 sF39 j j)<|q (oLd (cs:=[.im 2 _,.im 2 _,.im 2 _,.im 2 _,.im 2 _,.im 2 _,.im 2 _,.im 2 _,.im 2 _]) j tF159 j j)<|q (oMv j j)<|q (oCa (xs:=[.v true [.im 2 _,.im 2 _,.im 2 _,.im 2 _,.im 2 _,.im 2 _,.im 2 _,.im 2 _,.im 2 _],.v false [.im 0 _]]) (vs:=[(false,[.im 0 _])]) (v:=.v false [.im 0 _]) (L_laws_szLeaf hx23) (.inl j) j kF92_159_3 j (ppC j (ppC j pp0)) j j pb0 j j j)<|q (oAsI j j)<|nl)<|us<|gs<|g0 j j (q (oMv j j)<|q (oBi j j j j)<|nl)<|us<|gc h j iDec (fun hc7 h=>?_) fun hc7 h=>?_
    ·refine gs<|g0 j j (q (oAsI j j)<|nl)<|us<|Go.ret (Unw.ret ?_)
     cases h
     exact ⟨j,(fo rF22 j)⟩
    ·refine Go.skip<|Unw.blk<|us<|g0 j j (q (oMv j j)<|q (oBi j j j j)<|q (oAsI j j)<|nl)<|Unw.nil<|?_
     cases h
     exact ⟨j,(by kernel_rfl)⟩
   ·refine Go.exit<|ux<|Unw.nil<|?_
    cases h
    exact ⟨j,(by kernel_rfl)⟩
  ·rintro ⟨e,st⟩ hp
   rcases o with left_1_e0_5 | r2
   ·dsimp only at h
    obtain ⟨he,hst⟩:=hp
    obtain rfl:e= .exit 0:=he
    refine Unw.blkx<|us<|gs<|g2 c22 j j hst (q (oMv j j)<|q (oAsI j j)<|nl)<|us<|Go.ret (Unw.ret ?_)
    cases h
    exact fr rF22 j
   ·dsimp only at h
    obtain ⟨he,hfin⟩:=hp
    obtain rfl:e= .ret:=he
    cases h
    exact Unw.ret (Fin_ret hfin)
theorem L_laws_szPlacementS {a_0:(List S_Placement)} {left_1:Int} {r:Int} (h:laws_szPlacementS a_0 left_1=some r):FX 246 [.im 2 false [W 5 e_S_Placement a_0],.im 2 false [I left_1]] (B0 [(false,[.im 0 (I r)])]):=by
 unfold laws_szPlacementS at h
 refine gn 12 Try.func246 rfl ?_
 refine gs<|g0 j j (q (oAsI j j)<|nl)<|us<|gs<|g0 j j (q (oMv j j)<|q (oMv j j)<|q (oLnI j j uF111 j)<|q (oBi j j j j)<|q (oAsI j j)<|nl)<|us<|gs<|gs<|g0 j j (q (oMv j j)<|q (oBi j j j j)<|nl)<|us<|gc h j iDec (fun hc1 h=>?_) fun hc1 h=>?_
 ·refine gs<|g0 j j (q (oAsI j j)<|nl)<|us<|Go.ret (Unw.ret ?_)
  cases h
  exact fr rF246 j
 ·refine Go.skip<|us<|gs<|g0 j j (q (oMv j j)<|q (oAsI j j)<|nl)<|us<|Go.ret (Unw.ret ?_)
  cases h
  exact fr rF246 j
theorem L_laws_szJob {a_0:S_Job} {left_1:Int} {r:Int} (h:laws_szJob a_0 left_1=some r):FX 154 [.im 2 true (u_S_Job a_0),.im 2 false [I left_1]] (B0 [(false,[.im 0 (I r)])]):=by
 unfold laws_szJob at h
 refine gn 36 Try.func154 rfl ?_
 refine gs<|g0 j j (q (oBx j tF115 j (tkI (tkI (tkI (tkI (tkI (tkI (tkI (tkI (tkI (tkI (tkI (tkI (tkI (tkI (tkI (tkI (tkI tk0))))))))))))))))))<|q (oAsI j j)<|nl)<|us<|gs<|?_
 obtain ⟨x8,hx8,h⟩:=bs h
 refine g1 j j (mk [(1,iv left_1),(2,M 2)] [(2,Oa (G 2 (u_S_Job a_0)))]) (q (oFA (r':=.mp 2 0 0) j fF115_0 j j)<|q (oLd (cs:=[.im 0 _,.im 0 _,.im 2 _,.im 2 _,.im 2 _]) j tF110 j j)<|q (oMv j j)<|q (oCa (xs:=[.v true [.im 0 _,.im 0 _,.im 2 _,.im 2 _,.im 2 _],.v false [.im 0 _]]) (vs:=[(false,[.im 0 _])]) (v:=.v false [.im 0 _]) (L_laws_szPicture hx8) (.inl j) j kF245_110_3 j (ppC j (ppC j pp0)) j j pb0 j j j)<|q (oAsI j j)<|nl)<|us<|gs<|gs<|g0 j j (q (oMv j j)<|q (oBi j j j j)<|nl)<|us<|gc h j iDec (fun hc1 h=>?_) fun hc1 h=>?_
 ·refine gs<|g0 j j (q (oAsI j j)<|nl)<|us<|Go.ret (Unw.ret ?_)
  cases h
  exact fr rF154 j
 ·refine Go.skip<|us<|gs<|?_
  obtain ⟨x14,hx14,h⟩:=bs h
  refine g0 j j (q (oFA (r':=.mp 2 0 5) j fF115_1 j j)<|q (oLd (cs:=[.im 2 _]) j tF39 j j)<|q (oMv j j)<|q (oCa (xs:=[.v false [.im 2 _],.v false [.im 0 _]]) (vs:=[(false,[.im 0 _])]) (v:=.v false [.im 0 _]) (L_laws_szLeafS hx14) (.inl j) j kF22_39_3 j (ppC j (ppC j pp0)) j j pb0 j j j)<|q (oAsI j j)<|nl)<|us<|gs<|gs<|g0 j j (q (oMv j j)<|q (oBi j j j j)<|nl)<|us<|gc h j iDec (fun hc2 h=>?_) fun hc2 h=>?_
  ·refine gs<|g0 j j (q (oAsI j j)<|nl)<|us<|Go.ret (Unw.ret ?_)
   cases h
   exact fr rF154 j
  ·refine Go.skip<|us<|gs<|?_
   obtain ⟨x20,hx20,h⟩:=bs h
   refine g0 j j (q (oFA (r':=.mp 2 0 6) j fF115_2 j j)<|q (oLd (cs:=[.im 2 _]) j tF111 j j)<|q (oMv j j)<|q (oCa (xs:=[.v false [.im 2 _],.v false [.im 0 _]]) (vs:=[(false,[.im 0 _])]) (v:=.v false [.im 0 _]) (L_laws_szPlacementS hx20) (.inl j) j kF246_111_3 j (ppC j (ppC j pp0)) j j pb0 j j j)<|q (oAsI j j)<|nl)<|us<|gs<|gs<|g0 j j (q (oMv j j)<|q (oBi j j j j)<|nl)<|us<|gc h j iDec (fun hc3 h=>?_) fun hc3 h=>?_
   ·refine gs<|g0 j j (q (oAsI j j)<|nl)<|us<|Go.ret (Unw.ret ?_)
    cases h
    exact fr rF154 j
   ·refine Go.skip<|us<|gs<|?_
    obtain ⟨x26,hx26,h⟩:=bs h
    refine g0 j j (q (oFA (r':=.mp 2 0 15) j fF115_8 j j)<|q (oLd (cs:=[.im 2 _]) j tF28 j j)<|q (oMv j j)<|q (oCa (xs:=[.v false [.im 2 _],.v false [.im 0 _]]) (vs:=[(false,[.im 0 _])]) (v:=.v false [.im 0 _]) (L_laws_szInt64S hx26) (.inl j) j kF131_28_3 j (ppC j (ppC j pp0)) j j pb0 j j j)<|q (oAsI j j)<|nl)<|us<|gs<|gs<|g0 j j (q (oMv j j)<|q (oBi j j j j)<|nl)<|us<|gc h j iDec (fun hc4 h=>?_) fun hc4 h=>?_
    ·refine gs<|g0 j j (q (oAsI j j)<|nl)<|us<|Go.ret (Unw.ret ?_)
     cases h
     exact fr rF154 j
    ·refine Go.skip<|us<|gs<|?_
     obtain ⟨x32,hx32,h⟩:=bs h
     refine g0 j j (q (oFA (r':=.mp 2 0 16) j fF115_9 j j)<|q (oLd (cs:=[.im 2 _]) j tF28 j j)<|q (oMv j j)<|q (oCa (xs:=[.v false [.im 2 _],.v false [.im 0 _]]) (vs:=[(false,[.im 0 _])]) (v:=.v false [.im 0 _]) (L_laws_szInt64S hx32) (.inl j) j kF131_28_3 j (ppC j (ppC j pp0)) j j pb0 j j j)<|q (oAsI j j)<|nl)<|us<|gs<|gs<|g0 j j (q (oMv j j)<|q (oBi j j j j)<|nl)<|us<|gc h j iDec (fun hc5 h=>?_) fun hc5 h=>?_
     ·refine gs<|g0 j j (q (oAsI j j)<|nl)<|us<|Go.ret (Unw.ret ?_)
      cases h
      exact fr rF154 j
     ·refine Go.skip<|us<|gs<|g0 j j (q (oMv j j)<|q (oAsI j j)<|nl)<|us<|Go.ret (Unw.ret ?_)
      cases h
      exact fr rF154 j
theorem L_laws_szBond {a_0:S_Bond} {left_1:Int} {r:Int} (h:laws_szBond a_0 left_1=some r):FX 247 [.im 2 true (u_S_Bond a_0),.im 2 false [I left_1]] (B0 [(false,[.im 0 (I r)])]):=by
 unfold laws_szBond at h
 refine gn 13 Try.func247 rfl ?_
 refine gs<|g0 j j (q (oBx j tF319 j (tkI (tkI (tkI (tkI tk0)))))<|q (oAsI j j)<|nl)<|us<|gs<|g0 j j (q (oMv j j)<|q (oFA (r':=.mp 2 0 0) j fF319_0 j j)<|q (oLd (cs:=[.im 0 _]) j tF9 j j)<|q (oLnS j j uF9 j)<|q (oBi j j j j)<|q (oAsI j j)<|nl)<|us<|gs<|gs<|g0 j j (q (oMv j j)<|q (oBi j j j j)<|nl)<|us<|gc h j iDec (fun hc1 h=>?_) fun hc1 h=>?_
 ·refine gs<|g0 j j (q (oAsI j j)<|nl)<|us<|Go.ret (Unw.ret ?_)
  cases h
  exact fr rF247 j
 ·refine Go.skip<|us<|gs<|g0 j j (q (oMv j j)<|q (oAsI j j)<|nl)<|us<|Go.ret (Unw.ret ?_)
  cases h
  exact fr rF247 j
theorem L_laws_szBondS {a_0:(List S_Bond)} {left_1:Int} {r:Int} (h:laws_szBondS a_0 left_1=some r):FX 155 [.im 2 false [W 4 e_S_Bond a_0],.im 2 false [I left_1]] (B0 [(false,[.im 0 (I r)])]):=by
 unfold laws_szBondS at h
 refine gn 27 Try.func155 rfl ?_
 refine gs<|g0 j j (q (oAsI j j)<|nl)<|us<|gs<|g0 j j (q (oMv j j)<|q (oMv j j)<|q (oLnI j j uF116 j)<|q (oBi j j j j)<|q (oAsI j j)<|nl)<|us<|gs<|gs<|g0 j j (q (oMv j j)<|q (oBi j j j j)<|nl)<|us<|gc h j iDec (fun hc1 h=>?_) fun hc1 h=>?_
 ·refine gs<|g0 j j (q (oAsI j j)<|nl)<|us<|Go.ret (Unw.ret ?_)
  cases h
  exact fr rF155 j
 ·refine Go.skip<|us<|gs<|gs<|g0 j j (q (oAsI j j)<|nl)<|us<|Go.block<|?_
  obtain ⟨o,hl,h⟩:=bs h
  refine gl c155 j _ (fun (s:(Int×Int))=>match s with | (left_1_l5,i_5_l5)=>mk [(0,D 2 (W 4 e_S_Bond a_0)),(1,iv left_1_l5),(5,iv i_5_l5)] []) (fun (o:(Int ⊕ Int)) (p:Ex×St)=>match o with | (.inl left_1_e0_5)=>p.1= .exit 0∧p.2.norm ([1],[])=mk [(1,iv left_1_e0_5)] [] | (.inr r2)=>p.1= .ret∧fin Try.prog cfg 155 Try.f155 [.im 2 false [W 4 e_S_Bond a_0],.im 2 false [I left_1]] p.2=some (B0 [(false,[.im 0 (I r2)])])) hl (by kernel_rfl) ?_ ?_ ?_
  ·intro o p hp e
   rcases o with left_1_e0_5 | r2<;>exact nomatch (hp.1.symm.trans e)
  ·rintro ⟨left_1_l5,i_5_l5⟩ o h
   unfold laws_szBondS_l5 at h
   dsimp only at h
   refine gs<|gs<|g0 j j (q (oMv j j)<|q (oMv j j)<|q (oLnI j j uF116 j)<|q (oBi j j j j)<|nl)<|us<|gc h j iDec (fun hc6 h=>?_) fun hc6 h=>?_
   ·refine Go.skip<|us<|gs<|Go.block<|gs<|?_
    obtain ⟨x20,hx20,h⟩:=bs h
    obtain ⟨x23,hx23,h⟩:=bs h
    refine g0 j j (q (oMv j j)<|q (oMv j j)<|q (oIAI j hx20 sF116 j j)<|q (oLd (cs:=[.im 2 _,.im 2 _,.im 2 _,.im 2 _]) j tF319 j j)<|q (oMv j j)<|q (oCa (xs:=[.v true [.im 2 _,.im 2 _,.im 2 _,.im 2 _],.v false [.im 0 _]]) (vs:=[(false,[.im 0 _])]) (v:=.v false [.im 0 _]) (L_laws_szBond hx23) (.inl j) j kF247_319_3 j (ppC j (ppC j pp0)) j j pb0 j j j)<|q (oAsI j j)<|nl)<|us<|gs<|g0 j j (q (oMv j j)<|q (oBi j j j j)<|nl)<|us<|gc h j iDec (fun hc7 h=>?_) fun hc7 h=>?_
    ·refine gs<|g0 j j (q (oAsI j j)<|nl)<|us<|Go.ret (Unw.ret ?_)
     cases h
     exact ⟨j,(fo rF155 j)⟩
    ·refine Go.skip<|Unw.blk<|us<|g0 j j (q (oMv j j)<|q (oBi j j j j)<|q (oAsI j j)<|nl)<|Unw.nil<|?_
     cases h
     exact ⟨j,(by kernel_rfl)⟩
   ·refine Go.exit<|ux<|Unw.nil<|?_
    cases h
    exact ⟨j,(by kernel_rfl)⟩
  ·rintro ⟨e,st⟩ hp
   rcases o with left_1_e0_5 | r2
   ·dsimp only at h
    obtain ⟨he,hst⟩:=hp
    obtain rfl:e= .exit 0:=he
    refine Unw.blkx<|us<|gs<|g2 c155 j j hst (q (oMv j j)<|q (oAsI j j)<|nl)<|us<|Go.ret (Unw.ret ?_)
    cases h
    exact fr rF155 j
   ·dsimp only at h
    obtain ⟨he,hfin⟩:=hp
    obtain rfl:e= .ret:=he
    cases h
    exact Unw.ret (Fin_ret hfin)
theorem L_laws_szCoat {a_0:S_Coat} {left_1:Int} {r:Int} (h:laws_szCoat a_0 left_1=some r):FX 248 [.im 2 true (u_S_Coat a_0),.im 2 false [I left_1]] (B0 [(false,[.im 0 (I r)])]):=by
 unfold laws_szCoat at h
 refine gn 13 Try.func248 rfl ?_
 refine gs<|g0 j j (q (oBx j tF321 j (tkI (tkI (tkI (tkI tk0)))))<|q (oAsI j j)<|nl)<|us<|gs<|g0 j j (q (oMv j j)<|q (oFA (r':=.mp 2 0 0) j fF321_0 j j)<|q (oLd (cs:=[.im 0 _]) j tF9 j j)<|q (oLnS j j uF9 j)<|q (oBi j j j j)<|q (oAsI j j)<|nl)<|us<|gs<|gs<|g0 j j (q (oMv j j)<|q (oBi j j j j)<|nl)<|us<|gc h j iDec (fun hc1 h=>?_) fun hc1 h=>?_
 ·refine gs<|g0 j j (q (oAsI j j)<|nl)<|us<|Go.ret (Unw.ret ?_)
  cases h
  exact fr rF248 j
 ·refine Go.skip<|us<|gs<|g0 j j (q (oMv j j)<|q (oAsI j j)<|nl)<|us<|Go.ret (Unw.ret ?_)
  cases h
  exact fr rF248 j
theorem L_laws_szCoatS {a_0:(List S_Coat)} {left_1:Int} {r:Int} (h:laws_szCoatS a_0 left_1=some r):FX 156 [.im 2 false [W 4 e_S_Coat a_0],.im 2 false [I left_1]] (B0 [(false,[.im 0 (I r)])]):=by
 unfold laws_szCoatS at h
 refine gn 27 Try.func156 rfl ?_
 refine gs<|g0 j j (q (oAsI j j)<|nl)<|us<|gs<|g0 j j (q (oMv j j)<|q (oMv j j)<|q (oLnI j j uF117 j)<|q (oBi j j j j)<|q (oAsI j j)<|nl)<|us<|gs<|gs<|g0 j j (q (oMv j j)<|q (oBi j j j j)<|nl)<|us<|gc h j iDec (fun hc1 h=>?_) fun hc1 h=>?_
 ·refine gs<|g0 j j (q (oAsI j j)<|nl)<|us<|Go.ret (Unw.ret ?_)
  cases h
  exact fr rF156 j
 ·refine Go.skip<|us<|gs<|gs<|g0 j j (q (oAsI j j)<|nl)<|us<|Go.block<|?_
  obtain ⟨o,hl,h⟩:=bs h
  refine gl c156 j _ (fun (s:(Int×Int))=>match s with | (left_1_l5,i_5_l5)=>mk [(0,D 2 (W 4 e_S_Coat a_0)),(1,iv left_1_l5),(5,iv i_5_l5)] []) (fun (o:(Int ⊕ Int)) (p:Ex×St)=>match o with | (.inl left_1_e0_5)=>p.1= .exit 0∧p.2.norm ([1],[])=mk [(1,iv left_1_e0_5)] [] | (.inr r2)=>p.1= .ret∧fin Try.prog cfg 156 Try.f156 [.im 2 false [W 4 e_S_Coat a_0],.im 2 false [I left_1]] p.2=some (B0 [(false,[.im 0 (I r2)])])) hl (by kernel_rfl) ?_ ?_ ?_
  ·intro o p hp e
   rcases o with left_1_e0_5 | r2<;>exact nomatch (hp.1.symm.trans e)
  ·rintro ⟨left_1_l5,i_5_l5⟩ o h
   unfold laws_szCoatS_l5 at h
   dsimp only at h
   refine gs<|gs<|g0 j j (q (oMv j j)<|q (oMv j j)<|q (oLnI j j uF117 j)<|q (oBi j j j j)<|nl)<|us<|gc h j iDec (fun hc6 h=>?_) fun hc6 h=>?_
   ·refine Go.skip<|us<|gs<|Go.block<|gs<|?_
    obtain ⟨x20,hx20,h⟩:=bs h
    obtain ⟨x23,hx23,h⟩:=bs h
    refine g0 j j (q (oMv j j)<|q (oMv j j)<|q (oIAI j hx20 sF117 j j)<|q (oLd (cs:=[.im 2 _,.im 2 _,.im 2 _,.im 2 _]) j tF321 j j)<|q (oMv j j)<|q (oCa (xs:=[.v true [.im 2 _,.im 2 _,.im 2 _,.im 2 _],.v false [.im 0 _]]) (vs:=[(false,[.im 0 _])]) (v:=.v false [.im 0 _]) (L_laws_szCoat hx23) (.inl j) j kF248_321_3 j (ppC j (ppC j pp0)) j j pb0 j j j)<|q (oAsI j j)<|nl)<|us<|gs<|g0 j j (q (oMv j j)<|q (oBi j j j j)<|nl)<|us<|gc h j iDec (fun hc7 h=>?_) fun hc7 h=>?_
    ·refine gs<|g0 j j (q (oAsI j j)<|nl)<|us<|Go.ret (Unw.ret ?_)
     cases h
     exact ⟨j,(fo rF156 j)⟩
    ·refine Go.skip<|Unw.blk<|us<|g0 j j (q (oMv j j)<|q (oBi j j j j)<|q (oAsI j j)<|nl)<|Unw.nil<|?_
     cases h
     exact ⟨j,(by kernel_rfl)⟩
   ·refine Go.exit<|ux<|Unw.nil<|?_
    cases h
    exact ⟨j,(by kernel_rfl)⟩
  ·rintro ⟨e,st⟩ hp
   rcases o with left_1_e0_5 | r2
   ·dsimp only at h
    obtain ⟨he,hst⟩:=hp
    obtain rfl:e= .exit 0:=he
    refine Unw.blkx<|us<|gs<|g2 c156 j j hst (q (oMv j j)<|q (oAsI j j)<|nl)<|us<|Go.ret (Unw.ret ?_)
    cases h
    exact fr rF156 j
   ·dsimp only at h
    obtain ⟨he,hfin⟩:=hp
    obtain rfl:e= .ret:=he
    cases h
    exact Unw.ret (Fin_ret hfin)
theorem L_laws_szDesk {a_0:S_Desk} {left_1:Int} {r:Int} (h:laws_szDesk a_0 left_1=some r):FX 77 [.im 2 true (u_S_Desk a_0),.im 2 false [I left_1]] (B0 [(false,[.im 0 (I r)])]):=by
 unfold laws_szDesk at h
 refine gn 24 Try.func77 rfl ?_
 refine gs<|g0 j j (q (oBx j tF121 j (tkI (tkI (tkI (tkI (tkI (tkI (tkI (tkI (tkI (tkI (tkI (tkI (tkI (tkI (tkI (tkI (tkI (tkI (tkI (tkI (tkI (tkI (tkI (tkI tk0)))))))))))))))))))))))))<|q (oAsI j j)<|nl)<|us<|gs<|?_
 obtain ⟨x8,hx8,h⟩:=bs h
 refine g1 j j (mk [(1,iv left_1),(2,M 2)] [(2,Oa (G 2 (u_S_Desk a_0)))]) (q (oFA (r':=.mp 2 0 0) j fF121_0 j j)<|q (oLd (cs:=[.im 0 _,.im 0 _,.im 2 _,.im 2 _,.im 2 _,.im 2 _,.im 2 _,.im 0 _,.im 0 _,.im 0 _,.im 0 _,.im 0 _,.im 0 _,.im 0 _,.im 0 _,.im 2 _,.im 2 _]) j tF115 j j)<|q (oMv j j)<|q (oCa (xs:=[.v true [.im 0 _,.im 0 _,.im 2 _,.im 2 _,.im 2 _,.im 2 _,.im 2 _,.im 0 _,.im 0 _,.im 0 _,.im 0 _,.im 0 _,.im 0 _,.im 0 _,.im 0 _,.im 2 _,.im 2 _],.v false [.im 0 _]]) (vs:=[(false,[.im 0 _])]) (v:=.v false [.im 0 _]) (L_laws_szJob hx8) (.inl j) j kF154_115_3 j (ppC j (ppC j pp0)) j j pb0 j j j)<|q (oAsI j j)<|nl)<|us<|gs<|gs<|g0 j j (q (oMv j j)<|q (oBi j j j j)<|nl)<|us<|gc h j iDec (fun hc1 h=>?_) fun hc1 h=>?_
 ·refine gs<|g0 j j (q (oAsI j j)<|nl)<|us<|Go.ret (Unw.ret ?_)
  cases h
  exact fr rF77 j
 ·refine Go.skip<|us<|gs<|?_
  obtain ⟨x14,hx14,h⟩:=bs h
  refine g0 j j (q (oFA (r':=.mp 2 0 17) j fF121_1 j j)<|q (oLd (cs:=[.im 2 _]) j tF116 j j)<|q (oMv j j)<|q (oCa (xs:=[.v false [.im 2 _],.v false [.im 0 _]]) (vs:=[(false,[.im 0 _])]) (v:=.v false [.im 0 _]) (L_laws_szBondS hx14) (.inl j) j kF155_116_3 j (ppC j (ppC j pp0)) j j pb0 j j j)<|q (oAsI j j)<|nl)<|us<|gs<|gs<|g0 j j (q (oMv j j)<|q (oBi j j j j)<|nl)<|us<|gc h j iDec (fun hc2 h=>?_) fun hc2 h=>?_
  ·refine gs<|g0 j j (q (oAsI j j)<|nl)<|us<|Go.ret (Unw.ret ?_)
   cases h
   exact fr rF77 j
  ·refine Go.skip<|us<|gs<|?_
   obtain ⟨x20,hx20,h⟩:=bs h
   refine g0 j j (q (oFA (r':=.mp 2 0 18) j fF121_2 j j)<|q (oLd (cs:=[.im 2 _]) j tF117 j j)<|q (oMv j j)<|q (oCa (xs:=[.v false [.im 2 _],.v false [.im 0 _]]) (vs:=[(false,[.im 0 _])]) (v:=.v false [.im 0 _]) (L_laws_szCoatS hx20) (.inl j) j kF156_117_3 j (ppC j (ppC j pp0)) j j pb0 j j j)<|q (oAsI j j)<|nl)<|us<|gs<|gs<|g0 j j (q (oMv j j)<|q (oBi j j j j)<|nl)<|us<|gc h j iDec (fun hc3 h=>?_) fun hc3 h=>?_
   ·refine gs<|g0 j j (q (oAsI j j)<|nl)<|us<|Go.ret (Unw.ret ?_)
    cases h
    exact fr rF77 j
   ·refine Go.skip<|us<|gs<|g0 j j (q (oMv j j)<|q (oAsI j j)<|nl)<|us<|Go.ret (Unw.ret ?_)
    cases h
    exact fr rF77 j
theorem L_laws_toPoint {a_0:S_Point} {r:S_Point} (h:laws_toPoint a_0=some r):FX 204 [.im 2 true (u_S_Point a_0)] (B0 [(true,J 0 (u_S_Point r))]):=by
 unfold laws_toPoint at h
 refine gn 11 Try.func204 rfl ?_
 refine gs<|g0 j j (q (oBx j tF291 j (tkI (tkI tk0)))<|q (oAl j tF264 (tkI (tkI tk0)))<|nl)<|us<|gs<|g0 j j (q (oAl j tF264 (tkI (tkI tk0)))<|nl)<|us<|gs<|g0 j j (q (oFA (r':=.mp 1 0 0) j fF291_0 j j)<|q (oLd (cs:=[.im 0 _]) j tF2 j j)<|q (oFA (r':=.mp 3 0 0) j fF264_0 j j)<|q (oSt tF2 j j j (tkI tk0) j j j)<|nl)<|us<|gs<|g1 j j (mk [(1,M 1),(2,M 2),(3,M 3)] [(1,Oa (G 0 (u_S_Point a_0))),(2,Oa [C (I 0),C (I 0)]),(3,Oa [C (I a_0.X),C (I 0)])]) (q (oFA (r':=.mp 1 0 1) j fF291_1 j j)<|q (oLd (cs:=[.im 0 _]) j tF2 j j)<|q (oFA (r':=.mp 3 0 1) j fF264_1 j j)<|q (oSt tF2 j j j (tkI tk0) j j j)<|nl)<|us<|gs<|g1 j j (mk [(2,M 2),(3,M 3)] [(2,Oa [C (I 0),C (I 0)]),(3,Oa (G 0 (u_S_Point a_0)))]) (q (oLd (cs:=[.im 0 _,.im 0 _]) j tF264 j j)<|q (oSt tF264 j j j (tkI (tkI tk0)) j j j)<|nl)<|us<|Go.ret (Unw.ret ?_)
 cases h
 exact fr rF204 j
theorem L_laws_toPointS {a_0:(List S_Point)} {r:(List S_Point)} (h:laws_toPointS a_0=some r):FX 113 [.im 2 false [W 2 e_S_Point a_0]] (B0 [(false,[.ow 0 2 (List.map e_S_Point r)])]):=by
 unfold laws_toPointS at h
 refine gn 23 Try.func113 rfl ?_
 refine gs<|g0 j j (q (oAsN j j eF23)<|nl)<|us<|gs<|?_
 obtain ⟨x7,hx7,h⟩:=bs h
 refine g0 j j (q (oMv j j)<|q (oLnI j j uF53 j)<|q (oMk (en:=e_S_Point) j hx7 j sF23 j j (fxI (fxI fx0)) j (flat0 (L:=[_]) j fun _=>j))<|q (oAsO j j j j j)<|nl)<|us<|gs<|gs<|g0 j j (q (oAsI j j)<|nl)<|us<|Go.block<|?_
 obtain ⟨o,hl,h⟩:=bs h
 refine gl c113 j _ (fun (s:(Int×(List S_Point)))=>match s with | (i_4_l3,out_o3_l3)=>mk [(0,D 2 (W 2 e_S_Point a_0)),(3,H 3 0),(4,iv i_4_l3)] [(3,Oc [Z (W 2 e_S_Point out_o3_l3)])]) (fun (out_o3_e0_3:(List S_Point)) (p:Ex×St)=>p.1= .exit 0∧p.2.norm ([3],[3])=mk [(3,H 3 0)] [(3,Oc [Z (W 2 e_S_Point out_o3_e0_3)])]) hl (by kernel_rfl) ?_ ?_ ?_
 ·intro o p hp e
  exact nomatch (hp.1.symm.trans e)
 ·rintro ⟨i_4_l3,out_o3_l3⟩ o h
  unfold laws_toPointS_l3 at h
  dsimp only at h
  refine gs<|gs<|g0 j j (q (oMv j j)<|q (oMv j j)<|q (oLnI j j uF53 j)<|q (oBi j j j j)<|nl)<|us<|gc h j iDec (fun hc3 h=>?_) fun hc3 h=>?_
  ·refine Go.skip<|us<|gs<|Go.block<|?_
   obtain ⟨x18,hx18,h⟩:=bs h
   obtain ⟨x20,hx20,h⟩:=bs h
   obtain ⟨x21,hx21,h⟩:=bs h
   refine g0 j j (q (oMv j j)<|q (oMv j j)<|q (oMv j j)<|q (oMv j j)<|q (oIAI j hx18 sF53 j j)<|q (oLd (cs:=[.im 2 _,.im 2 _]) j tF291 j j)<|q (oCa (xs:=[.v true [.im 2 _,.im 2 _]]) (vs:=[(true,[.im 0 _,.im 0 _])]) (v:=.v true [.im 0 _,.im 0 _]) (L_laws_toPoint hx20) (.inl j) j kF204_291 j (ppC j pp0) j j pb0 j j j)<|q (oIAO j hx21 sF23 j j j j)<|q (oStE (v':=x20) tF264 j j j (fxI (fxI fx0)) j j (rd_get hx21) j)<|nl)<|Unw.blk<|us<|g1 j j (mk [(0,D 2 (W 2 e_S_Point a_0)),(3,H 3 0),(4,iv i_4_l3)] [(3,Oc [Z (W 2 e_S_Point (out_o3_l3.set i_4_l3.toNat x20))])]) (q (oMv j j)<|q (oBi j j j j)<|q (oAsI j j)<|nl)<|Unw.nil<|?_
   cases h
   exact ⟨j,(by kernel_rfl)⟩
  ·refine Go.exit<|ux<|Unw.nil<|?_
   cases h
   exact ⟨j,(by kernel_rfl)⟩
 ·rintro ⟨e,st⟩ hp
  obtain ⟨out_o3_e0_3,rfl⟩:∃y,y=o:=⟨o,rfl⟩
  obtain ⟨he,hst⟩:=hp
  obtain rfl:e= .exit 0:=he
  refine Unw.blkx<|us<|gs<|g2 c113 j j hst (q (oMv j j)<|q (oAsO j j j j j)<|nl)<|us<|Go.ret (Unw.ret ?_)
  cases h
  exact fr rF113 j
theorem L_laws_toInt64S {a_0:(List Int)} {r:(List Int)} (h:laws_toInt64S a_0=some r):FX 134 [.im 2 false [W 1 eI a_0]] (B0 [(false,[.ow 0 1 (List.map eI r)])]):=by
 unfold laws_toInt64S at h
 refine gn 22 Try.func134 rfl ?_
 refine gs<|g0 j j (q (oAsN j j eF28)<|nl)<|us<|gs<|?_
 obtain ⟨x7,hx7,h⟩:=bs h
 refine g0 j j (q (oMv j j)<|q (oLnI j j uF28 j)<|q (oMk (en:=eI) j hx7 j sF28 j j (fxI fx0) j (flat0 (L:=[_]) j fun _=>j))<|q (oAsO j j j j j)<|nl)<|us<|gs<|gs<|g0 j j (q (oAsI j j)<|nl)<|us<|Go.block<|?_
 obtain ⟨o,hl,h⟩:=bs h
 refine gl c134 j _ (fun (s:(Int×(List Int)))=>match s with | (i_4_l3,out_o3_l3)=>mk [(0,D 2 (W 1 eI a_0)),(3,H 3 0),(4,iv i_4_l3)] [(3,Oc [Z (W 1 eI out_o3_l3)])]) (fun (out_o3_e0_3:(List Int)) (p:Ex×St)=>p.1= .exit 0∧p.2.norm ([3],[3])=mk [(3,H 3 0)] [(3,Oc [Z (W 1 eI out_o3_e0_3)])]) hl (by kernel_rfl) ?_ ?_ ?_
 ·intro o p hp e
  exact nomatch (hp.1.symm.trans e)
 ·rintro ⟨i_4_l3,out_o3_l3⟩ o h
  unfold laws_toInt64S_l3 at h
  dsimp only at h
  refine gs<|gs<|g0 j j (q (oMv j j)<|q (oMv j j)<|q (oLnI j j uF28 j)<|q (oBi j j j j)<|nl)<|us<|gc h j iDec (fun hc3 h=>?_) fun hc3 h=>?_
  ·refine Go.skip<|us<|gs<|Go.block<|?_
   obtain ⟨x18,hx18,h⟩:=bs h
   obtain ⟨x20,hx20,h⟩:=bs h
   refine g0 j j (q (oMv j j)<|q (oMv j j)<|q (oMv j j)<|q (oMv j j)<|q (oIAI j hx18 sF28 j j)<|q (oLd (cs:=[.im 2 _]) j tF2 j j)<|q (oIAO j hx20 sF28 j j j j)<|q (oStE (v':=x18) tF2 j j j (fxI fx0) j j (rd_get hx20) j)<|nl)<|Unw.blk<|us<|g1 j j (mk [(0,D 2 (W 1 eI a_0)),(3,H 3 0),(4,iv i_4_l3)] [(3,Oc [Z (W 1 eI (out_o3_l3.set i_4_l3.toNat x18))])]) (q (oMv j j)<|q (oBi j j j j)<|q (oAsI j j)<|nl)<|Unw.nil<|?_
   cases h
   exact ⟨j,(by kernel_rfl)⟩
  ·refine Go.exit<|ux<|Unw.nil<|?_
   cases h
   exact ⟨j,(by kernel_rfl)⟩
 ·rintro ⟨e,st⟩ hp
  obtain ⟨out_o3_e0_3,rfl⟩:∃y,y=o:=⟨o,rfl⟩
  obtain ⟨he,hst⟩:=hp
  obtain rfl:e= .exit 0:=he
  refine Unw.blkx<|us<|gs<|g2 c134 j j hst (q (oMv j j)<|q (oAsO j j j j j)<|nl)<|us<|Go.ret (Unw.ret ?_)
  cases h
  exact fr rF134 j
theorem L_laws_toFace {a_0:S_Face} {r:S_Face} (h:laws_toFace a_0=some r):FX 205 [.im 2 true (u_S_Face a_0)] (B0 [(true,[.im 0 (Y r.Name),.ow 0 1 (List.map eI r.Ring)])]):=by
 unfold laws_toFace at h
 refine gn 12 Try.func205 rfl ?_
 refine gs<|g0 j j (q (oBx j tF287 j (tkI (tkI tk0)))<|q (oAl j tF257 (tkI (tkN tk0)))<|nl)<|us<|gs<|g0 j j (q (oAl j tF257 (tkI (tkN tk0)))<|nl)<|us<|gs<|g0 j j (q (oFA (r':=.mp 1 0 0) j fF287_0 j j)<|q (oLd (cs:=[.im 0 _]) j tF9 j j)<|q (oFA (r':=.mp 3 0 0) j fF257_0 j j)<|q (oSt tF9 j j j (tkI tk0) j j j)<|nl)<|us<|gs<|?_
 obtain ⟨x9,hx9,h⟩:=bs h
 refine g1 j j (mk [(1,M 1),(2,M 2),(3,M 3)] [(1,Oa (G 2 (u_S_Face a_0))),(2,Oa [C (Y (⟨#[]⟩:ByteArray)),Z (W 1 eI ([]:List Int))]),(3,Oa [C (Y a_0.Name),Z (W 1 eI ([]:List Int))])]) (q (oFA (r':=.mp 1 0 1) j fF287_1 j j)<|q (oLd (cs:=[.im 2 _]) j tF28 j j)<|q (oCr (xs:=[.v false [.im 2 _]]) (vs:=[(false,[.own 9 0 0])]) (v:=.v false [.own 9 0 0]) (c:=⟨.sh,0,_⟩) (cs:=[]) (L_laws_toInt64S hx9) (.inl j) j kF134_28 j (ppC j pp0) j j pb0 j j j)<|q (oFA (r':=.mp 3 0 1) j fF257_1 j j)<|q (oSt tF28 j j j (tkO j j tk0) j j j)<|nl)<|us<|gs<|g1 j j (mk [(2,M 2),(3,M 3)] [(2,Oa [C (Y (⟨#[]⟩:ByteArray)),Z (W 1 eI ([]:List Int))]),(3,Oa [C (Y a_0.Name),Z (W 1 eI x9)])]) (q (oLd (cs:=[.im 0 _,.own 3 0 1]) j tF257 j j)<|q (oSt tF257 j j j (tkI (tkO j j tk0)) j j j)<|nl)<|us<|Go.ret (Unw.ret ?_)
 cases h
 exact fr rF205 j
theorem L_laws_toFaceS {a_0:(List S_Face)} {r:(List S_Face)} (h:laws_toFaceS a_0=some r):FX 114 [.im 2 false [W 2 e_S_Face a_0]] (B0 [(false,[.ow 0 2 (List.map e_S_Face r)])]):=by
 unfold laws_toFaceS at h
 refine gn 23 Try.func114 rfl ?_
 refine gs<|g0 j j (q (oAsN j j eF24)<|nl)<|us<|gs<|?_
 obtain ⟨x7,hx7,h⟩:=bs h
 refine g0 j j (q (oMv j j)<|q (oLnI j j uF54 j)<|q (oMk (en:=e_S_Face) j hx7 j sF24 j j (fxI (fxN fx0)) j (flat1 j))<|q (oAsO j j j j j)<|nl)<|us<|gs<|gs<|g0 j j (q (oAsI j j)<|nl)<|us<|Go.block<|?_
 obtain ⟨o,hl,h⟩:=bs h
 refine gl c114 j _ (fun (s:(Int×(List S_Face)))=>match s with | (i_4_l3,out_o3_l3)=>mk [(0,D 2 (W 2 e_S_Face a_0)),(3,H 3 0),(4,iv i_4_l3)] [(3,Oc [Z (W 2 e_S_Face out_o3_l3)])]) (fun (out_o3_e0_3:(List S_Face)) (p:Ex×St)=>p.1= .exit 0∧p.2.norm ([3],[3])=mk [(3,H 3 0)] [(3,Oc [Z (W 2 e_S_Face out_o3_e0_3)])]) hl (by kernel_rfl) ?_ ?_ ?_
 ·intro o p hp e
  exact nomatch (hp.1.symm.trans e)
 ·rintro ⟨i_4_l3,out_o3_l3⟩ o h
  unfold laws_toFaceS_l3 at h
  dsimp only at h
  refine gs<|gs<|g0 j j (q (oMv j j)<|q (oMv j j)<|q (oLnI j j uF54 j)<|q (oBi j j j j)<|nl)<|us<|gc h j iDec (fun hc3 h=>?_) fun hc3 h=>?_
  ·refine Go.skip<|us<|gs<|Go.block<|?_
   obtain ⟨x18,hx18,h⟩:=bs h
   obtain ⟨x20,hx20,h⟩:=bs h
   obtain ⟨x21,hx21,h⟩:=bs h
   refine g0 j j (q (oMv j j)<|q (oMv j j)<|q (oMv j j)<|q (oMv j j)<|q (oIAI j hx18 sF54 j j)<|q (oLd (cs:=[.im 2 _,.im 2 _]) j tF287 j j)<|q (oCr (xs:=[.v true [.im 2 _,.im 2 _]]) (vs:=[(true,[.im 0 _,.own 20 0 0])]) (v:=.v true [.im 0 _,.own 20 0 0]) (c:=⟨.sh,0,_⟩) (cs:=[]) (L_laws_toFace hx20) (.inl j) j kF205_287 j (ppC j pp0) j j pb0 j j j)<|q (oIAO j hx21 sF24 j j j j)<|q (oStE (v':=x20) tF257 j j j (fxI (fxO j j fx0)) j j (rd_get hx21) j)<|nl)<|Unw.blk<|us<|g1 j j (mk [(0,D 2 (W 2 e_S_Face a_0)),(3,H 3 0),(4,iv i_4_l3)] [(3,Oc [Z (W 2 e_S_Face (out_o3_l3.set i_4_l3.toNat x20))])]) (q (oMv j j)<|q (oBi j j j j)<|q (oAsI j j)<|nl)<|Unw.nil<|?_
   cases h
   exact ⟨j,(by kernel_rfl)⟩
  ·refine Go.exit<|ux<|Unw.nil<|?_
   cases h
   exact ⟨j,(by kernel_rfl)⟩
 ·rintro ⟨e,st⟩ hp
  obtain ⟨out_o3_e0_3,rfl⟩:∃y,y=o:=⟨o,rfl⟩
  obtain ⟨he,hst⟩:=hp
  obtain rfl:e= .exit 0:=he
  refine Unw.blkx<|us<|gs<|g2 c114 j j hst (q (oMv j j)<|q (oAsO j j j j j)<|nl)<|us<|Go.ret (Unw.ret ?_)
  cases h
  exact fr rF114 j
theorem L_laws_toDrawing {a_0:S_Drawing} {r:S_Drawing} (h:laws_toDrawing a_0=some r):FX 38 [.im 2 true (u_S_Drawing a_0)] (B0 [(true,[.im 0 (I r.Width),.im 0 (I r.Height),.ow 0 2 (List.map e_S_Point r.Points),.ow 0 2 (List.map e_S_Face r.Faces)])]):=by
 unfold laws_toDrawing at h
 refine gn 19 Try.func38 rfl ?_
 refine gs<|g0 j j (q (oBx j tF56 j (tkI (tkI (tkI (tkI tk0)))))<|q (oAl j tF26 (tkI (tkI (tkN (tkN tk0)))))<|nl)<|us<|gs<|g0 j j (q (oAl j tF26 (tkI (tkI (tkN (tkN tk0)))))<|nl)<|us<|gs<|g0 j j (q (oFA (r':=.mp 1 0 0) j fF56_0 j j)<|q (oLd (cs:=[.im 0 _]) j tF2 j j)<|q (oFA (r':=.mp 3 0 0) j fF26_0 j j)<|q (oSt tF2 j j j (tkI tk0) j j j)<|nl)<|us<|gs<|g1 j j (mk [(1,M 1),(2,M 2),(3,M 3)] [(1,Oa (G 2 (u_S_Drawing a_0))),(2,Oa [C (I 0),C (I 0),Z (W 2 e_S_Point ([]:List S_Point)),Z (W 2 e_S_Face ([]:List S_Face))]),(3,Oa [C (I a_0.Width),C (I 0),Z (W 2 e_S_Point ([]:List S_Point)),Z (W 2 e_S_Face ([]:List S_Face))])]) (q (oFA (r':=.mp 1 0 1) j fF56_1 j j)<|q (oLd (cs:=[.im 0 _]) j tF2 j j)<|q (oFA (r':=.mp 3 0 1) j fF26_1 j j)<|q (oSt tF2 j j j (tkI tk0) j j j)<|nl)<|us<|gs<|?_
 obtain ⟨x12,hx12,h⟩:=bs h
 refine g1 j j (mk [(1,M 1),(2,M 2),(3,M 3)] [(1,Oa (G 2 (u_S_Drawing a_0))),(2,Oa [C (I 0),C (I 0),Z (W 2 e_S_Point ([]:List S_Point)),Z (W 2 e_S_Face ([]:List S_Face))]),(3,Oa [C (I a_0.Width),C (I a_0.Height),Z (W 2 e_S_Point ([]:List S_Point)),Z (W 2 e_S_Face ([]:List S_Face))])]) (q (oFA (r':=.mp 1 0 2) j fF56_2 j j)<|q (oLd (cs:=[.im 2 _]) j tF53 j j)<|q (oCr (xs:=[.v false [.im 2 _]]) (vs:=[(false,[.own 12 0 0])]) (v:=.v false [.own 12 0 0]) (c:=⟨.sh,0,_⟩) (cs:=[]) (L_laws_toPointS hx12) (.inl j) j kF113_53 j (ppC j pp0) j j pb0 j j j)<|q (oFA (r':=.mp 3 0 2) j fF26_2 j j)<|q (oSt tF23 j j j (tkO j j tk0) j j j)<|nl)<|us<|gs<|?_
 obtain ⟨x16,hx16,h⟩:=bs h
 refine g1 j j (mk [(1,M 1),(2,M 2),(3,M 3)] [(1,Oa (G 2 (u_S_Drawing a_0))),(2,Oa [C (I 0),C (I 0),Z (W 2 e_S_Point ([]:List S_Point)),Z (W 2 e_S_Face ([]:List S_Face))]),(3,Oa [C (I a_0.Width),C (I a_0.Height),Z (W 2 e_S_Point x12),Z (W 2 e_S_Face ([]:List S_Face))])]) (q (oFA (r':=.mp 1 0 3) j fF56_3 j j)<|q (oLd (cs:=[.im 2 _]) j tF54 j j)<|q (oCr (xs:=[.v false [.im 2 _]]) (vs:=[(false,[.own 16 0 0])]) (v:=.v false [.own 16 0 0]) (c:=⟨.sh,0,_⟩) (cs:=[]) (L_laws_toFaceS hx16) (.inl j) j kF114_54 j (ppC j pp0) j j pb0 j j j)<|q (oFA (r':=.mp 3 0 3) j fF26_3 j j)<|q (oSt tF24 j j j (tkO j j tk0) j j j)<|nl)<|us<|gs<|g1 j j (mk [(2,M 2),(3,M 3)] [(2,Oa [C (I 0),C (I 0),Z (W 2 e_S_Point ([]:List S_Point)),Z (W 2 e_S_Face ([]:List S_Face))]),(3,Oa [C (I a_0.Width),C (I a_0.Height),Z (W 2 e_S_Point x12),Z (W 2 e_S_Face x16)])]) (q (oLd (cs:=[.im 0 _,.im 0 _,.own 3 0 2,.own 3 0 3]) j tF26 j j)<|q (oSt tF26 j j j (tkI (tkI (tkO j j (tkO j j tk0)))) j j j)<|nl)<|us<|Go.ret (Unw.ret ?_)
 cases h
 exact fr rF38 j
theorem L_laws_toVeneer {a_0:S_Veneer} {r:S_Veneer} (h:laws_toVeneer a_0=some r):FX 137 [.im 2 true (u_S_Veneer a_0)] (B0 [(true,J 0 (u_S_Veneer r))]):=by
 unfold laws_toVeneer at h
 refine gn 14 Try.func137 rfl ?_
 refine gs<|g0 j j (q (oBx j tF156 j (tkI (tkI (tkI tk0))))<|q (oAl j tF104 (tkI (tkI (tkI tk0))))<|nl)<|us<|gs<|g0 j j (q (oAl j tF104 (tkI (tkI (tkI tk0))))<|nl)<|us<|gs<|g0 j j (q (oFA (r':=.mp 1 0 0) j fF156_0 j j)<|q (oLd (cs:=[.im 0 _]) j tF9 j j)<|q (oFA (r':=.mp 3 0 0) j fF104_0 j j)<|q (oSt tF9 j j j (tkI tk0) j j j)<|nl)<|us<|gs<|g1 j j (mk [(1,M 1),(2,M 2),(3,M 3)] [(1,Oa (G 0 (u_S_Veneer a_0))),(2,Oa [C (Y (⟨#[]⟩:ByteArray)),C (I 0),C (I 0)]),(3,Oa [C (Y a_0.Species),C (I 0),C (I 0)])]) (q (oFA (r':=.mp 1 0 1) j fF156_1 j j)<|q (oLd (cs:=[.im 0 _]) j tF2 j j)<|q (oFA (r':=.mp 3 0 1) j fF104_1 j j)<|q (oSt tF2 j j j (tkI tk0) j j j)<|nl)<|us<|gs<|g1 j j (mk [(1,M 1),(2,M 2),(3,M 3)] [(1,Oa (G 0 (u_S_Veneer a_0))),(2,Oa [C (Y (⟨#[]⟩:ByteArray)),C (I 0),C (I 0)]),(3,Oa [C (Y a_0.Species),C (I a_0.Shade),C (I 0)])]) (q (oFA (r':=.mp 1 0 2) j fF156_2 j j)<|q (oLd (cs:=[.im 0 _]) j tF2 j j)<|q (oFA (r':=.mp 3 0 2) j fF104_2 j j)<|q (oSt tF2 j j j (tkI tk0) j j j)<|nl)<|us<|gs<|g1 j j (mk [(2,M 2),(3,M 3)] [(2,Oa [C (Y (⟨#[]⟩:ByteArray)),C (I 0),C (I 0)]),(3,Oa (G 0 (u_S_Veneer a_0)))]) (q (oLd (cs:=[.im 0 _,.im 0 _,.im 0 _]) j tF104 j j)<|q (oSt tF104 j j j (tkI (tkI (tkI tk0))) j j j)<|nl)<|us<|Go.ret (Unw.ret ?_)
 cases h
 exact fr rF137 j
theorem L_laws_toVeneerS {a_0:(List S_Veneer)} {r:(List S_Veneer)} (h:laws_toVeneerS a_0=some r):FX 61 [.im 2 false [W 3 e_S_Veneer a_0]] (B0 [(false,[.ow 0 3 (List.map e_S_Veneer r)])]):=by
 unfold laws_toVeneerS at h
 refine gn 23 Try.func61 rfl ?_
 refine gs<|g0 j j (q (oAsN j j eF84)<|nl)<|us<|gs<|?_
 obtain ⟨x7,hx7,h⟩:=bs h
 refine g0 j j (q (oMv j j)<|q (oLnI j j uF81 j)<|q (oMk (en:=e_S_Veneer) j hx7 j sF84 j j (fxI (fxI (fxI fx0))) j (flat0 (L:=[_]) j fun _=>j))<|q (oAsO j j j j j)<|nl)<|us<|gs<|gs<|g0 j j (q (oAsI j j)<|nl)<|us<|Go.block<|?_
 obtain ⟨o,hl,h⟩:=bs h
 refine gl c61 j _ (fun (s:(Int×(List S_Veneer)))=>match s with | (i_4_l3,out_o3_l3)=>mk [(0,D 2 (W 3 e_S_Veneer a_0)),(3,H 3 0),(4,iv i_4_l3)] [(3,Oc [Z (W 3 e_S_Veneer out_o3_l3)])]) (fun (out_o3_e0_3:(List S_Veneer)) (p:Ex×St)=>p.1= .exit 0∧p.2.norm ([3],[3])=mk [(3,H 3 0)] [(3,Oc [Z (W 3 e_S_Veneer out_o3_e0_3)])]) hl (by kernel_rfl) ?_ ?_ ?_
 ·intro o p hp e
  exact nomatch (hp.1.symm.trans e)
 ·rintro ⟨i_4_l3,out_o3_l3⟩ o h
  unfold laws_toVeneerS_l3 at h
  dsimp only at h
  refine gs<|gs<|g0 j j (q (oMv j j)<|q (oMv j j)<|q (oLnI j j uF81 j)<|q (oBi j j j j)<|nl)<|us<|gc h j iDec (fun hc3 h=>?_) fun hc3 h=>?_
  ·refine Go.skip<|us<|gs<|Go.block<|?_
   obtain ⟨x18,hx18,h⟩:=bs h
   obtain ⟨x20,hx20,h⟩:=bs h
   obtain ⟨x21,hx21,h⟩:=bs h
   refine g0 j j (q (oMv j j)<|q (oMv j j)<|q (oMv j j)<|q (oMv j j)<|q (oIAI j hx18 sF81 j j)<|q (oLd (cs:=[.im 2 _,.im 2 _,.im 2 _]) j tF156 j j)<|q (oCa (xs:=[.v true [.im 2 _,.im 2 _,.im 2 _]]) (vs:=[(true,[.im 0 _,.im 0 _,.im 0 _])]) (v:=.v true [.im 0 _,.im 0 _,.im 0 _]) (L_laws_toVeneer hx20) (.inl j) j kF137_156 j (ppC j pp0) j j pb0 j j j)<|q (oIAO j hx21 sF84 j j j j)<|q (oStE (v':=x20) tF104 j j j (fxI (fxI (fxI fx0))) j j (rd_get hx21) j)<|nl)<|Unw.blk<|us<|g1 j j (mk [(0,D 2 (W 3 e_S_Veneer a_0)),(3,H 3 0),(4,iv i_4_l3)] [(3,Oc [Z (W 3 e_S_Veneer (out_o3_l3.set i_4_l3.toNat x20))])]) (q (oMv j j)<|q (oBi j j j j)<|q (oAsI j j)<|nl)<|Unw.nil<|?_
   cases h
   exact ⟨j,(by kernel_rfl)⟩
  ·refine Go.exit<|ux<|Unw.nil<|?_
   cases h
   exact ⟨j,(by kernel_rfl)⟩
 ·rintro ⟨e,st⟩ hp
  obtain ⟨out_o3_e0_3,rfl⟩:∃y,y=o:=⟨o,rfl⟩
  obtain ⟨he,hst⟩:=hp
  obtain rfl:e= .exit 0:=he
  refine Unw.blkx<|us<|gs<|g2 c61 j j hst (q (oMv j j)<|q (oAsO j j j j j)<|nl)<|us<|Go.ret (Unw.ret ?_)
  cases h
  exact fr rF61 j
theorem L_laws_toPicture {a_0:S_Picture} {r:S_Picture} (h:laws_toPicture a_0=some r):FX 252 [.im 2 true (u_S_Picture a_0)] (B0 [(true,[.im 0 (I r.Drawing.Width),.im 0 (I r.Drawing.Height),.ow 0 2 (List.map e_S_Point r.Drawing.Points),.ow 0 2 (List.map e_S_Face r.Drawing.Faces),.ow 0 3 (List.map e_S_Veneer r.Veneers)])]):=by
 unfold laws_toPicture at h
 refine gn 13 Try.func252 rfl ?_
 refine gs<|g0 j j (q (oBx j tF110 j (tkI (tkI (tkI (tkI (tkI tk0))))))<|q (oAl j tF125 (tkI (tkI (tkN (tkN (tkN tk0))))))<|nl)<|us<|gs<|g1 j j (mk [(1,M 1),(2,M 2)] [(1,Oa (G 2 (u_S_Picture a_0))),(2,Oa [C (I 0),C (I 0),Z (W 2 e_S_Point ([]:List S_Point)),Z (W 2 e_S_Face ([]:List S_Face)),Z (W 3 e_S_Veneer ([]:List S_Veneer))])]) (q (oAl j tF125 (tkI (tkI (tkN (tkN (tkN tk0))))))<|nl)<|us<|gs<|?_
 obtain ⟨x6,hx6,h⟩:=bs h
 refine g1 j j (mk [(1,M 1),(2,M 2),(3,M 3)] [(1,Oa (G 2 (u_S_Picture a_0))),(2,Oa [C (I 0),C (I 0),Z (W 2 e_S_Point ([]:List S_Point)),Z (W 2 e_S_Face ([]:List S_Face)),Z (W 3 e_S_Veneer ([]:List S_Veneer))]),(3,Oa [C (I 0),C (I 0),Z (W 2 e_S_Point ([]:List S_Point)),Z (W 2 e_S_Face ([]:List S_Face)),Z (W 3 e_S_Veneer ([]:List S_Veneer))])]) (q (oFA (r':=.mp 1 0 0) j fF110_0 j j)<|q (oLd (cs:=[.im 0 _,.im 0 _,.im 2 _,.im 2 _]) j tF56 j j)<|q (oCr (xs:=[.v true [.im 0 _,.im 0 _,.im 2 _,.im 2 _]]) (vs:=[(true,[.im 0 _,.im 0 _,.own 6 0 0,.own 6 0 1])]) (v:=.v true [.im 0 _,.im 0 _,.own 6 0 0,.own 6 0 1]) (c:=⟨.sh,0,_⟩) (cs:=[⟨.sh,0,_⟩]) (L_laws_toDrawing hx6) (.inl j) j kF38_56 j (ppC j pp0) j j pb0 j j j)<|q (oFA (r':=.mp 3 0 0) j fF125_0 j j)<|q (oSt tF26 j j j (tkI (tkI (tkO j j (tkO j j tk0)))) j j j)<|nl)<|us<|gs<|?_
 obtain ⟨x10,hx10,h⟩:=bs h
 refine g1 j j (mk [(1,M 1),(2,M 2),(3,M 3)] [(1,Oa (G 2 (u_S_Picture a_0))),(2,Oa [C (I 0),C (I 0),Z (W 2 e_S_Point ([]:List S_Point)),Z (W 2 e_S_Face ([]:List S_Face)),Z (W 3 e_S_Veneer ([]:List S_Veneer))]),(3,Oa [C (I x6.Width),C (I x6.Height),Z (W 2 e_S_Point x6.Points),Z (W 2 e_S_Face x6.Faces),Z (W 3 e_S_Veneer ([]:List S_Veneer))])]) (q (oFA (r':=.mp 1 0 4) j fF110_1 j j)<|q (oLd (cs:=[.im 2 _]) j tF81 j j)<|q (oCr (xs:=[.v false [.im 2 _]]) (vs:=[(false,[.own 10 0 0])]) (v:=.v false [.own 10 0 0]) (c:=⟨.sh,0,_⟩) (cs:=[]) (L_laws_toVeneerS hx10) (.inl j) j kF61_81 j (ppC j pp0) j j pb0 j j j)<|q (oFA (r':=.mp 3 0 4) j fF125_1 j j)<|q (oSt tF84 j j j (tkO j j tk0) j j j)<|nl)<|us<|gs<|g1 j j (mk [(2,M 2),(3,M 3)] [(2,Oa [C (I 0),C (I 0),Z (W 2 e_S_Point ([]:List S_Point)),Z (W 2 e_S_Face ([]:List S_Face)),Z (W 3 e_S_Veneer ([]:List S_Veneer))]),(3,Oa [C (I x6.Width),C (I x6.Height),Z (W 2 e_S_Point x6.Points),Z (W 2 e_S_Face x6.Faces),Z (W 3 e_S_Veneer x10)])]) (q (oLd (cs:=[.im 0 _,.im 0 _,.own 3 0 2,.own 3 0 3,.own 3 0 4]) j tF125 j j)<|q (oSt tF125 j j j (tkI (tkI (tkO j j (tkO j j (tkO j j tk0))))) j j j)<|nl)<|us<|Go.ret (Unw.ret ?_)
 cases h
 exact fr rF252 j
theorem L_laws_toBox {a_0:S_Box} {r:S_Box} (h:laws_toBox a_0=some r):FX 283 [.im 2 true (u_S_Box a_0)] (B0 [(true,J 0 (u_S_Box r))]):=by
 unfold laws_toBox at h
 refine gn 17 Try.func283 rfl ?_
 refine gs<|g0 j j (q (oBx j tF349 j (tkI (tkI (tkI (tkI tk0)))))<|q (oAl j tF276 (tkI (tkI (tkI (tkI tk0)))))<|nl)<|us<|gs<|g0 j j (q (oAl j tF276 (tkI (tkI (tkI (tkI tk0)))))<|nl)<|us<|gs<|g0 j j (q (oFA (r':=.mp 1 0 0) j fF349_0 j j)<|q (oLd (cs:=[.im 0 _]) j tF2 j j)<|q (oFA (r':=.mp 3 0 0) j fF276_0 j j)<|q (oSt tF2 j j j (tkI tk0) j j j)<|nl)<|us<|gs<|g1 j j (mk [(1,M 1),(2,M 2),(3,M 3)] [(1,Oa (G 0 (u_S_Box a_0))),(2,Oa [C (I 0),C (I 0),C (I 0),C (I 0)]),(3,Oa [C (I a_0.X),C (I 0),C (I 0),C (I 0)])]) (q (oFA (r':=.mp 1 0 1) j fF349_1 j j)<|q (oLd (cs:=[.im 0 _]) j tF2 j j)<|q (oFA (r':=.mp 3 0 1) j fF276_1 j j)<|q (oSt tF2 j j j (tkI tk0) j j j)<|nl)<|us<|gs<|g1 j j (mk [(1,M 1),(2,M 2),(3,M 3)] [(1,Oa (G 0 (u_S_Box a_0))),(2,Oa [C (I 0),C (I 0),C (I 0),C (I 0)]),(3,Oa [C (I a_0.X),C (I a_0.Y),C (I 0),C (I 0)])]) (q (oFA (r':=.mp 1 0 2) j fF349_2 j j)<|q (oLd (cs:=[.im 0 _]) j tF2 j j)<|q (oFA (r':=.mp 3 0 2) j fF276_2 j j)<|q (oSt tF2 j j j (tkI tk0) j j j)<|nl)<|us<|gs<|g1 j j (mk [(1,M 1),(2,M 2),(3,M 3)] [(1,Oa (G 0 (u_S_Box a_0))),(2,Oa [C (I 0),C (I 0),C (I 0),C (I 0)]),(3,Oa [C (I a_0.X),C (I a_0.Y),C (I a_0.Width),C (I 0)])]) (q (oFA (r':=.mp 1 0 3) j fF349_3 j j)<|q (oLd (cs:=[.im 0 _]) j tF2 j j)<|q (oFA (r':=.mp 3 0 3) j fF276_3 j j)<|q (oSt tF2 j j j (tkI tk0) j j j)<|nl)<|us<|gs<|g1 j j (mk [(2,M 2),(3,M 3)] [(2,Oa [C (I 0),C (I 0),C (I 0),C (I 0)]),(3,Oa (G 0 (u_S_Box a_0)))]) (q (oLd (cs:=[.im 0 _,.im 0 _,.im 0 _,.im 0 _]) j tF276 j j)<|q (oSt tF276 j j j (tkI (tkI (tkI (tkI tk0)))) j j j)<|nl)<|us<|Go.ret (Unw.ret ?_)
 cases h
 exact fr rF283 j
theorem L_laws_toBoxS {a_0:(List S_Box)} {r:(List S_Box)} (h:laws_toBoxS a_0=some r):FX 188 [.im 2 false [W 4 e_S_Box a_0]] (B0 [(false,[.ow 0 4 (List.map e_S_Box r)])]):=by
 unfold laws_toBoxS at h
 refine gn 23 Try.func188 rfl ?_
 refine gs<|g0 j j (q (oAsN j j eF105)<|nl)<|us<|gs<|?_
 obtain ⟨x7,hx7,h⟩:=bs h
 refine g0 j j (q (oMv j j)<|q (oLnI j j uF157 j)<|q (oMk (en:=e_S_Box) j hx7 j sF105 j j (fxI (fxI (fxI (fxI fx0)))) j (flat0 (L:=[_]) j fun _=>j))<|q (oAsO j j j j j)<|nl)<|us<|gs<|gs<|g0 j j (q (oAsI j j)<|nl)<|us<|Go.block<|?_
 obtain ⟨o,hl,h⟩:=bs h
 refine gl c188 j _ (fun (s:(Int×(List S_Box)))=>match s with | (i_4_l3,out_o3_l3)=>mk [(0,D 2 (W 4 e_S_Box a_0)),(3,H 3 0),(4,iv i_4_l3)] [(3,Oc [Z (W 4 e_S_Box out_o3_l3)])]) (fun (out_o3_e0_3:(List S_Box)) (p:Ex×St)=>p.1= .exit 0∧p.2.norm ([3],[3])=mk [(3,H 3 0)] [(3,Oc [Z (W 4 e_S_Box out_o3_e0_3)])]) hl (by kernel_rfl) ?_ ?_ ?_
 ·intro o p hp e
  exact nomatch (hp.1.symm.trans e)
 ·rintro ⟨i_4_l3,out_o3_l3⟩ o h
  unfold laws_toBoxS_l3 at h
  dsimp only at h
  refine gs<|gs<|g0 j j (q (oMv j j)<|q (oMv j j)<|q (oLnI j j uF157 j)<|q (oBi j j j j)<|nl)<|us<|gc h j iDec (fun hc3 h=>?_) fun hc3 h=>?_
  ·refine Go.skip<|us<|gs<|Go.block<|?_
   obtain ⟨x18,hx18,h⟩:=bs h
   obtain ⟨x20,hx20,h⟩:=bs h
   obtain ⟨x21,hx21,h⟩:=bs h
   refine g0 j j (q (oMv j j)<|q (oMv j j)<|q (oMv j j)<|q (oMv j j)<|q (oIAI j hx18 sF157 j j)<|q (oLd (cs:=[.im 2 _,.im 2 _,.im 2 _,.im 2 _]) j tF349 j j)<|q (oCa (xs:=[.v true [.im 2 _,.im 2 _,.im 2 _,.im 2 _]]) (vs:=[(true,[.im 0 _,.im 0 _,.im 0 _,.im 0 _])]) (v:=.v true [.im 0 _,.im 0 _,.im 0 _,.im 0 _]) (L_laws_toBox hx20) (.inl j) j kF283_349 j (ppC j pp0) j j pb0 j j j)<|q (oIAO j hx21 sF105 j j j j)<|q (oStE (v':=x20) tF276 j j j (fxI (fxI (fxI (fxI fx0)))) j j (rd_get hx21) j)<|nl)<|Unw.blk<|us<|g1 j j (mk [(0,D 2 (W 4 e_S_Box a_0)),(3,H 3 0),(4,iv i_4_l3)] [(3,Oc [Z (W 4 e_S_Box (out_o3_l3.set i_4_l3.toNat x20))])]) (q (oMv j j)<|q (oBi j j j j)<|q (oAsI j j)<|nl)<|Unw.nil<|?_
   cases h
   exact ⟨j,(by kernel_rfl)⟩
  ·refine Go.exit<|ux<|Unw.nil<|?_
   cases h
   exact ⟨j,(by kernel_rfl)⟩
 ·rintro ⟨e,st⟩ hp
  obtain ⟨out_o3_e0_3,rfl⟩:∃y,y=o:=⟨o,rfl⟩
  obtain ⟨he,hst⟩:=hp
  obtain rfl:e= .exit 0:=he
  refine Unw.blkx<|us<|gs<|g2 c188 j j hst (q (oMv j j)<|q (oAsO j j j j j)<|nl)<|us<|Go.ret (Unw.ret ?_)
  cases h
  exact fr rF188 j
theorem L_laws_toLeaf {a_0:S_Leaf} {r:S_Leaf} (h:laws_toLeaf a_0=some r):FX 96 [.im 2 true (u_S_Leaf a_0)] (B0 [(true,[.im 0 (Y r.Id),.im 0 (Y r.Flitch),.im 0 (I r.Number),.im 0 (Y r.Veneer.Species),.im 0 (I r.Veneer.Shade),.im 0 (I r.Veneer.Grain),.im 0 (I r.Width),.im 0 (I r.Length),.ow 0 4 (List.map e_S_Box r.Defects)])]):=by
 unfold laws_toLeaf at h
 refine gn 28 Try.func96 rfl ?_
 refine gs<|g0 j j (q (oBx j tF159 j (tkI (tkI (tkI (tkI (tkI (tkI (tkI (tkI (tkI tk0))))))))))<|q (oAl j tF107 (tkI (tkI (tkI (tkI (tkI (tkI (tkI (tkI (tkN tk0))))))))))<|nl)<|us<|gs<|g1 j j (mk [(1,M 1),(2,M 2)] [(1,Oa (G 2 (u_S_Leaf a_0))),(2,Oa [C (Y (⟨#[]⟩:ByteArray)),C (Y (⟨#[]⟩:ByteArray)),C (I 0),C (Y (⟨#[]⟩:ByteArray)),C (I 0),C (I 0),C (I 0),C (I 0),Z (W 4 e_S_Box ([]:List S_Box))])]) (q (oAl j tF107 (tkI (tkI (tkI (tkI (tkI (tkI (tkI (tkI (tkN tk0))))))))))<|nl)<|us<|gs<|g1 j j (mk [(1,M 1),(2,M 2),(3,M 3)] [(1,Oa (G 2 (u_S_Leaf a_0))),(2,Oa [C (Y (⟨#[]⟩:ByteArray)),C (Y (⟨#[]⟩:ByteArray)),C (I 0),C (Y (⟨#[]⟩:ByteArray)),C (I 0),C (I 0),C (I 0),C (I 0),Z (W 4 e_S_Box ([]:List S_Box))]),(3,Oa [C (Y (⟨#[]⟩:ByteArray)),C (Y (⟨#[]⟩:ByteArray)),C (I 0),C (Y (⟨#[]⟩:ByteArray)),C (I 0),C (I 0),C (I 0),C (I 0),Z (W 4 e_S_Box ([]:List S_Box))])]) (q (oFA (r':=.mp 1 0 0) j fF159_0 j j)<|q (oLd (cs:=[.im 0 _]) j tF9 j j)<|q (oFA (r':=.mp 3 0 0) j fF107_0 j j)<|q (oSt tF9 j j j (tkI tk0) j j j)<|nl)<|us<|gs<|g1 j j (mk [(1,M 1),(2,M 2),(3,M 3)] [(1,Oa (G 2 (u_S_Leaf a_0))),(2,Oa [C (Y (⟨#[]⟩:ByteArray)),C (Y (⟨#[]⟩:ByteArray)),C (I 0),C (Y (⟨#[]⟩:ByteArray)),C (I 0),C (I 0),C (I 0),C (I 0),Z (W 4 e_S_Box ([]:List S_Box))]),(3,Oa [C (Y a_0.Id),C (Y (⟨#[]⟩:ByteArray)),C (I 0),C (Y (⟨#[]⟩:ByteArray)),C (I 0),C (I 0),C (I 0),C (I 0),Z (W 4 e_S_Box ([]:List S_Box))])]) (q (oFA (r':=.mp 1 0 1) j fF159_1 j j)<|q (oLd (cs:=[.im 0 _]) j tF9 j j)<|q (oFA (r':=.mp 3 0 1) j fF107_1 j j)<|q (oSt tF9 j j j (tkI tk0) j j j)<|nl)<|us<|gs<|g1 j j (mk [(1,M 1),(2,M 2),(3,M 3)] [(1,Oa (G 2 (u_S_Leaf a_0))),(2,Oa [C (Y (⟨#[]⟩:ByteArray)),C (Y (⟨#[]⟩:ByteArray)),C (I 0),C (Y (⟨#[]⟩:ByteArray)),C (I 0),C (I 0),C (I 0),C (I 0),Z (W 4 e_S_Box ([]:List S_Box))]),(3,Oa [C (Y a_0.Id),C (Y a_0.Flitch),C (I 0),C (Y (⟨#[]⟩:ByteArray)),C (I 0),C (I 0),C (I 0),C (I 0),Z (W 4 e_S_Box ([]:List S_Box))])]) (q (oFA (r':=.mp 1 0 2) j fF159_2 j j)<|q (oLd (cs:=[.im 0 _]) j tF2 j j)<|q (oFA (r':=.mp 3 0 2) j fF107_2 j j)<|q (oSt tF2 j j j (tkI tk0) j j j)<|nl)<|us<|gs<|?_
 obtain ⟨x15,hx15,h⟩:=bs h
 refine g1 j j (mk [(1,M 1),(2,M 2),(3,M 3)] [(1,Oa (G 2 (u_S_Leaf a_0))),(2,Oa [C (Y (⟨#[]⟩:ByteArray)),C (Y (⟨#[]⟩:ByteArray)),C (I 0),C (Y (⟨#[]⟩:ByteArray)),C (I 0),C (I 0),C (I 0),C (I 0),Z (W 4 e_S_Box ([]:List S_Box))]),(3,Oa [C (Y a_0.Id),C (Y a_0.Flitch),C (I a_0.Number),C (Y (⟨#[]⟩:ByteArray)),C (I 0),C (I 0),C (I 0),C (I 0),Z (W 4 e_S_Box ([]:List S_Box))])]) (q (oFA (r':=.mp 1 0 3) j fF159_3 j j)<|q (oLd (cs:=[.im 0 _,.im 0 _,.im 0 _]) j tF156 j j)<|q (oCa (xs:=[.v true [.im 0 _,.im 0 _,.im 0 _]]) (vs:=[(true,[.im 0 _,.im 0 _,.im 0 _])]) (v:=.v true [.im 0 _,.im 0 _,.im 0 _]) (L_laws_toVeneer hx15) (.inl j) j kF137_156 j (ppC j pp0) j j pb0 j j j)<|q (oFA (r':=.mp 3 0 3) j fF107_3 j j)<|q (oSt tF104 j j j (tkI (tkI (tkI tk0))) j j j)<|nl)<|us<|gs<|g1 j j (mk [(1,M 1),(2,M 2),(3,M 3)] [(1,Oa (G 2 (u_S_Leaf a_0))),(2,Oa [C (Y (⟨#[]⟩:ByteArray)),C (Y (⟨#[]⟩:ByteArray)),C (I 0),C (Y (⟨#[]⟩:ByteArray)),C (I 0),C (I 0),C (I 0),C (I 0),Z (W 4 e_S_Box ([]:List S_Box))]),(3,Oa [C (Y a_0.Id),C (Y a_0.Flitch),C (I a_0.Number),C (Y x15.Species),C (I x15.Shade),C (I x15.Grain),C (I 0),C (I 0),Z (W 4 e_S_Box ([]:List S_Box))])]) (q (oFA (r':=.mp 1 0 6) j fF159_4 j j)<|q (oLd (cs:=[.im 0 _]) j tF2 j j)<|q (oFA (r':=.mp 3 0 6) j fF107_4 j j)<|q (oSt tF2 j j j (tkI tk0) j j j)<|nl)<|us<|gs<|g1 j j (mk [(1,M 1),(2,M 2),(3,M 3)] [(1,Oa (G 2 (u_S_Leaf a_0))),(2,Oa [C (Y (⟨#[]⟩:ByteArray)),C (Y (⟨#[]⟩:ByteArray)),C (I 0),C (Y (⟨#[]⟩:ByteArray)),C (I 0),C (I 0),C (I 0),C (I 0),Z (W 4 e_S_Box ([]:List S_Box))]),(3,Oa [C (Y a_0.Id),C (Y a_0.Flitch),C (I a_0.Number),C (Y x15.Species),C (I x15.Shade),C (I x15.Grain),C (I a_0.Width),C (I 0),Z (W 4 e_S_Box ([]:List S_Box))])]) (q (oFA (r':=.mp 1 0 7) j fF159_5 j j)<|q (oLd (cs:=[.im 0 _]) j tF2 j j)<|q (oFA (r':=.mp 3 0 7) j fF107_5 j j)<|q (oSt tF2 j j j (tkI tk0) j j j)<|nl)<|us<|gs<|?_
 obtain ⟨x25,hx25,h⟩:=bs h
 refine g1 j j (mk [(1,M 1),(2,M 2),(3,M 3)] [(1,Oa (G 2 (u_S_Leaf a_0))),(2,Oa [C (Y (⟨#[]⟩:ByteArray)),C (Y (⟨#[]⟩:ByteArray)),C (I 0),C (Y (⟨#[]⟩:ByteArray)),C (I 0),C (I 0),C (I 0),C (I 0),Z (W 4 e_S_Box ([]:List S_Box))]),(3,Oa [C (Y a_0.Id),C (Y a_0.Flitch),C (I a_0.Number),C (Y x15.Species),C (I x15.Shade),C (I x15.Grain),C (I a_0.Width),C (I a_0.Length),Z (W 4 e_S_Box ([]:List S_Box))])]) (q (oFA (r':=.mp 1 0 8) j fF159_6 j j)<|q (oLd (cs:=[.im 2 _]) j tF157 j j)<|q (oCr (xs:=[.v false [.im 2 _]]) (vs:=[(false,[.own 25 0 0])]) (v:=.v false [.own 25 0 0]) (c:=⟨.sh,0,_⟩) (cs:=[]) (L_laws_toBoxS hx25) (.inl j) j kF188_157 j (ppC j pp0) j j pb0 j j j)<|q (oFA (r':=.mp 3 0 8) j fF107_6 j j)<|q (oSt tF105 j j j (tkO j j tk0) j j j)<|nl)<|us<|gs<|g1 j j (mk [(2,M 2),(3,M 3)] [(2,Oa [C (Y (⟨#[]⟩:ByteArray)),C (Y (⟨#[]⟩:ByteArray)),C (I 0),C (Y (⟨#[]⟩:ByteArray)),C (I 0),C (I 0),C (I 0),C (I 0),Z (W 4 e_S_Box ([]:List S_Box))]),(3,Oa [C (Y a_0.Id),C (Y a_0.Flitch),C (I a_0.Number),C (Y x15.Species),C (I x15.Shade),C (I x15.Grain),C (I a_0.Width),C (I a_0.Length),Z (W 4 e_S_Box x25)])]) (q (oLd (cs:=[.im 0 _,.im 0 _,.im 0 _,.im 0 _,.im 0 _,.im 0 _,.im 0 _,.im 0 _,.own 3 0 8]) j tF107 j j)<|q (oSt tF107 j j j (tkI (tkI (tkI (tkI (tkI (tkI (tkI (tkI (tkO j j tk0))))))))) j j j)<|nl)<|us<|Go.ret (Unw.ret ?_)
 cases h
 exact fr rF96 j
theorem L_laws_toLeafS {a_0:(List S_Leaf)} {r:(List S_Leaf)} (h:laws_toLeafS a_0=some r):FX 24 [.im 2 false [W 9 e_S_Leaf a_0]] (B0 [(false,[.ow 0 9 (List.map e_S_Leaf r)])]):=by
 unfold laws_toLeafS at h
 refine gn 23 Try.func24 rfl ?_
 refine gs<|g0 j j (q (oAsN j j eF44)<|nl)<|us<|gs<|?_
 obtain ⟨x7,hx7,h⟩:=bs h
 refine g0 j j (q (oMv j j)<|q (oLnI j j uF39 j)<|q (oMk (en:=e_S_Leaf) j hx7 j sF44 j j (fxI (fxI (fxI (fxI (fxI (fxI (fxI (fxI (fxN fx0))))))))) j (flat1 j))<|q (oAsO j j j j j)<|nl)<|us<|gs<|gs<|g0 j j (q (oAsI j j)<|nl)<|us<|Go.block<|?_
 obtain ⟨o,hl,h⟩:=bs h
 refine gl c24 j _ (fun (s:(Int×(List S_Leaf)))=>match s with | (i_4_l3,out_o3_l3)=>mk [(0,D 2 (W 9 e_S_Leaf a_0)),(3,H 3 0),(4,iv i_4_l3)] [(3,Oc [Z (W 9 e_S_Leaf out_o3_l3)])]) (fun (out_o3_e0_3:(List S_Leaf)) (p:Ex×St)=>p.1= .exit 0∧p.2.norm ([3],[3])=mk [(3,H 3 0)] [(3,Oc [Z (W 9 e_S_Leaf out_o3_e0_3)])]) hl (by kernel_rfl) ?_ ?_ ?_
 ·intro o p hp e
  exact nomatch (hp.1.symm.trans e)
 ·rintro ⟨i_4_l3,out_o3_l3⟩ o h
  unfold laws_toLeafS_l3 at h
  dsimp only at h
  refine gs<|gs<|g0 j j (q (oMv j j)<|q (oMv j j)<|q (oLnI j j uF39 j)<|q (oBi j j j j)<|nl)<|us<|gc h j iDec (fun hc3 h=>?_) fun hc3 h=>?_
  ·refine Go.skip<|us<|gs<|Go.block<|?_
   obtain ⟨x18,hx18,h⟩:=bs h
   obtain ⟨x20,hx20,h⟩:=bs h
   obtain ⟨x21,hx21,h⟩:=bs h
   refine g0 j j (q (oMv j j)<|q (oMv j j)<|q (oMv j j)<|q (oMv j j)<|q (oIAI j hx18 sF39 j j)<|q (oLd (cs:=[.im 2 _,.im 2 _,.im 2 _,.im 2 _,.im 2 _,.im 2 _,.im 2 _,.im 2 _,.im 2 _]) j tF159 j j)<|q (oCr (xs:=[.v true [.im 2 _,.im 2 _,.im 2 _,.im 2 _,.im 2 _,.im 2 _,.im 2 _,.im 2 _,.im 2 _]]) (vs:=[(true,[.im 0 _,.im 0 _,.im 0 _,.im 0 _,.im 0 _,.im 0 _,.im 0 _,.im 0 _,.own 20 0 0])]) (v:=.v true [.im 0 _,.im 0 _,.im 0 _,.im 0 _,.im 0 _,.im 0 _,.im 0 _,.im 0 _,.own 20 0 0]) (c:=⟨.sh,0,_⟩) (cs:=[]) (L_laws_toLeaf hx20) (.inl j) j kF96_159 j (ppC j pp0) j j pb0 j j j)<|q (oIAO j hx21 sF44 j j j j)<|q (oStE (v':=x20) tF107 j j j (fxI (fxI (fxI (fxI (fxI (fxI (fxI (fxI (fxO j j fx0))))))))) j j (rd_get hx21) j)<|nl)<|Unw.blk<|us<|g1 j j (mk [(0,D 2 (W 9 e_S_Leaf a_0)),(3,H 3 0),(4,iv i_4_l3)] [(3,Oc [Z (W 9 e_S_Leaf (out_o3_l3.set i_4_l3.toNat x20))])]) (q (oMv j j)<|q (oBi j j j j)<|q (oAsI j j)<|nl)<|Unw.nil<|?_
   cases h
   exact ⟨j,(by kernel_rfl)⟩
  ·refine Go.exit<|ux<|Unw.nil<|?_
   cases h
   exact ⟨j,(by kernel_rfl)⟩
 ·rintro ⟨e,st⟩ hp
  obtain ⟨out_o3_e0_3,rfl⟩:∃y,y=o:=⟨o,rfl⟩
  obtain ⟨he,hst⟩:=hp
  obtain rfl:e= .exit 0:=he
  refine Unw.blkx<|us<|gs<|g2 c24 j j hst (q (oMv j j)<|q (oAsO j j j j j)<|nl)<|us<|Go.ret (Unw.ret ?_)
  cases h
  exact fr rF24 j
theorem L_laws_toPlacement {a_0:S_Placement} {r:S_Placement} (h:laws_toPlacement a_0=some r):FX 314 [.im 2 true (u_S_Placement a_0)] (B0 [(true,J 0 (u_S_Placement r))]):=by
 unfold laws_toPlacement at h
 refine gn 20 Try.func314 rfl ?_
 refine gs<|g0 j j (q (oBx j tF382 j (tkI (tkI (tkI (tkI (tkI tk0))))))<|q (oAl j tF326 (tkI (tkI (tkI (tkI (tkI tk0))))))<|nl)<|us<|gs<|g1 j j (mk [(1,M 1),(2,M 2)] [(1,Oa (G 0 (u_S_Placement a_0))),(2,Oa [C (I 0),C (I 0),C (I 0),C (I 0),C (I 0)])]) (q (oAl j tF326 (tkI (tkI (tkI (tkI (tkI tk0))))))<|nl)<|us<|gs<|g1 j j (mk [(1,M 1),(2,M 2),(3,M 3)] [(1,Oa (G 0 (u_S_Placement a_0))),(2,Oa [C (I 0),C (I 0),C (I 0),C (I 0),C (I 0)]),(3,Oa [C (I 0),C (I 0),C (I 0),C (I 0),C (I 0)])]) (q (oFA (r':=.mp 1 0 0) j fF382_0 j j)<|q (oLd (cs:=[.im 0 _]) j tF2 j j)<|q (oFA (r':=.mp 3 0 0) j fF326_0 j j)<|q (oSt tF2 j j j (tkI tk0) j j j)<|nl)<|us<|gs<|g1 j j (mk [(1,M 1),(2,M 2),(3,M 3)] [(1,Oa (G 0 (u_S_Placement a_0))),(2,Oa [C (I 0),C (I 0),C (I 0),C (I 0),C (I 0)]),(3,Oa [C (I a_0.Face),C (I 0),C (I 0),C (I 0),C (I 0)])]) (q (oFA (r':=.mp 1 0 1) j fF382_1 j j)<|q (oLd (cs:=[.im 0 _]) j tF2 j j)<|q (oFA (r':=.mp 3 0 1) j fF326_1 j j)<|q (oSt tF2 j j j (tkI tk0) j j j)<|nl)<|us<|gs<|g1 j j (mk [(1,M 1),(2,M 2),(3,M 3)] [(1,Oa (G 0 (u_S_Placement a_0))),(2,Oa [C (I 0),C (I 0),C (I 0),C (I 0),C (I 0)]),(3,Oa [C (I a_0.Face),C (I a_0.Leaf),C (I 0),C (I 0),C (I 0)])]) (q (oFA (r':=.mp 1 0 2) j fF382_2 j j)<|q (oLd (cs:=[.im 0 _]) j tF2 j j)<|q (oFA (r':=.mp 3 0 2) j fF326_2 j j)<|q (oSt tF2 j j j (tkI tk0) j j j)<|nl)<|us<|gs<|g1 j j (mk [(1,M 1),(2,M 2),(3,M 3)] [(1,Oa (G 0 (u_S_Placement a_0))),(2,Oa [C (I 0),C (I 0),C (I 0),C (I 0),C (I 0)]),(3,Oa [C (I a_0.Face),C (I a_0.Leaf),C (I a_0.X),C (I 0),C (I 0)])]) (q (oFA (r':=.mp 1 0 3) j fF382_3 j j)<|q (oLd (cs:=[.im 0 _]) j tF2 j j)<|q (oFA (r':=.mp 3 0 3) j fF326_3 j j)<|q (oSt tF2 j j j (tkI tk0) j j j)<|nl)<|us<|gs<|g1 j j (mk [(1,M 1),(2,M 2),(3,M 3)] [(1,Oa (G 0 (u_S_Placement a_0))),(2,Oa [C (I 0),C (I 0),C (I 0),C (I 0),C (I 0)]),(3,Oa [C (I a_0.Face),C (I a_0.Leaf),C (I a_0.X),C (I a_0.Y),C (I 0)])]) (q (oFA (r':=.mp 1 0 4) j fF382_4 j j)<|q (oLd (cs:=[.im 0 _]) j tF2 j j)<|q (oFA (r':=.mp 3 0 4) j fF326_4 j j)<|q (oSt tF2 j j j (tkI tk0) j j j)<|nl)<|us<|gs<|g1 j j (mk [(2,M 2),(3,M 3)] [(2,Oa [C (I 0),C (I 0),C (I 0),C (I 0),C (I 0)]),(3,Oa (G 0 (u_S_Placement a_0)))]) (q (oLd (cs:=[.im 0 _,.im 0 _,.im 0 _,.im 0 _,.im 0 _]) j tF326 j j)<|q (oSt tF326 j j j (tkI (tkI (tkI (tkI (tkI tk0))))) j j j)<|nl)<|us<|Go.ret (Unw.ret ?_)
 cases h
 exact fr rF314 j
theorem L_laws_toPlacementS {a_0:(List S_Placement)} {r:(List S_Placement)} (h:laws_toPlacementS a_0=some r):FX 253 [.im 2 false [W 5 e_S_Placement a_0]] (B0 [(false,[.ow 0 5 (List.map e_S_Placement r)])]):=by
 unfold laws_toPlacementS at h
 refine gn 23 Try.func253 rfl ?_
 refine gs<|g0 j j (q (oAsN j j eF126)<|nl)<|us<|gs<|?_
 obtain ⟨x7,hx7,h⟩:=bs h
 refine g0 j j (q (oMv j j)<|q (oLnI j j uF111 j)<|q (oMk (en:=e_S_Placement) j hx7 j sF126 j j (fxI (fxI (fxI (fxI (fxI fx0))))) j (flat0 (L:=[_]) j fun _=>j))<|q (oAsO j j j j j)<|nl)<|us<|gs<|gs<|g0 j j (q (oAsI j j)<|nl)<|us<|Go.block<|?_
 obtain ⟨o,hl,h⟩:=bs h
 refine gl c253 j _ (fun (s:(Int×(List S_Placement)))=>match s with | (i_4_l3,out_o3_l3)=>mk [(0,D 2 (W 5 e_S_Placement a_0)),(3,H 3 0),(4,iv i_4_l3)] [(3,Oc [Z (W 5 e_S_Placement out_o3_l3)])]) (fun (out_o3_e0_3:(List S_Placement)) (p:Ex×St)=>p.1= .exit 0∧p.2.norm ([3],[3])=mk [(3,H 3 0)] [(3,Oc [Z (W 5 e_S_Placement out_o3_e0_3)])]) hl (by kernel_rfl) ?_ ?_ ?_
 ·intro o p hp e
  exact nomatch (hp.1.symm.trans e)
 ·rintro ⟨i_4_l3,out_o3_l3⟩ o h
  unfold laws_toPlacementS_l3 at h
  dsimp only at h
  refine gs<|gs<|g0 j j (q (oMv j j)<|q (oMv j j)<|q (oLnI j j uF111 j)<|q (oBi j j j j)<|nl)<|us<|gc h j iDec (fun hc3 h=>?_) fun hc3 h=>?_
  ·refine Go.skip<|us<|gs<|Go.block<|?_
   obtain ⟨x18,hx18,h⟩:=bs h
   obtain ⟨x20,hx20,h⟩:=bs h
   obtain ⟨x21,hx21,h⟩:=bs h
   refine g0 j j (q (oMv j j)<|q (oMv j j)<|q (oMv j j)<|q (oMv j j)<|q (oIAI j hx18 sF111 j j)<|q (oLd (cs:=[.im 2 _,.im 2 _,.im 2 _,.im 2 _,.im 2 _]) j tF382 j j)<|q (oCa (xs:=[.v true [.im 2 _,.im 2 _,.im 2 _,.im 2 _,.im 2 _]]) (vs:=[(true,[.im 0 _,.im 0 _,.im 0 _,.im 0 _,.im 0 _])]) (v:=.v true [.im 0 _,.im 0 _,.im 0 _,.im 0 _,.im 0 _]) (L_laws_toPlacement hx20) (.inl j) j kF314_382 j (ppC j pp0) j j pb0 j j j)<|q (oIAO j hx21 sF126 j j j j)<|q (oStE (v':=x20) tF326 j j j (fxI (fxI (fxI (fxI (fxI fx0))))) j j (rd_get hx21) j)<|nl)<|Unw.blk<|us<|g1 j j (mk [(0,D 2 (W 5 e_S_Placement a_0)),(3,H 3 0),(4,iv i_4_l3)] [(3,Oc [Z (W 5 e_S_Placement (out_o3_l3.set i_4_l3.toNat x20))])]) (q (oMv j j)<|q (oBi j j j j)<|q (oAsI j j)<|nl)<|Unw.nil<|?_
   cases h
   exact ⟨j,(by kernel_rfl)⟩
  ·refine Go.exit<|ux<|Unw.nil<|?_
   cases h
   exact ⟨j,(by kernel_rfl)⟩
 ·rintro ⟨e,st⟩ hp
  obtain ⟨out_o3_e0_3,rfl⟩:∃y,y=o:=⟨o,rfl⟩
  obtain ⟨he,hst⟩:=hp
  obtain rfl:e= .exit 0:=he
  refine Unw.blkx<|us<|gs<|g2 c253 j j hst (q (oMv j j)<|q (oAsO j j j j j)<|nl)<|us<|Go.ret (Unw.ret ?_)
  cases h
  exact fr rF253 j
theorem L_laws_toRules {a_0:S_Rules} {r:S_Rules} (h:laws_toRules a_0=some r):FX 254 [.im 2 true (u_S_Rules a_0)] (B0 [(true,J 0 (u_S_Rules r))]):=by
 unfold laws_toRules at h
 refine gn 17 Try.func254 rfl ?_
 refine gs<|g0 j j (q (oBx j tF113 j (tkI (tkI (tkI (tkI tk0)))))<|q (oAl j tF127 (tkI (tkI (tkI (tkI tk0)))))<|nl)<|us<|gs<|g0 j j (q (oAl j tF127 (tkI (tkI (tkI (tkI tk0)))))<|nl)<|us<|gs<|g0 j j (q (oFA (r':=.mp 1 0 0) j fF113_0 j j)<|q (oLd (cs:=[.im 0 _]) j tF2 j j)<|q (oFA (r':=.mp 3 0 0) j fF127_0 j j)<|q (oSt tF2 j j j (tkI tk0) j j j)<|nl)<|us<|gs<|g1 j j (mk [(1,M 1),(2,M 2),(3,M 3)] [(1,Oa (G 0 (u_S_Rules a_0))),(2,Oa [C (I 0),C (I 0),C (I 0),C (I 0)]),(3,Oa [C (I a_0.Spacing),C (I 0),C (I 0),C (I 0)])]) (q (oFA (r':=.mp 1 0 1) j fF113_1 j j)<|q (oLd (cs:=[.im 0 _]) j tF2 j j)<|q (oFA (r':=.mp 3 0 1) j fF127_1 j j)<|q (oSt tF2 j j j (tkI tk0) j j j)<|nl)<|us<|gs<|g1 j j (mk [(1,M 1),(2,M 2),(3,M 3)] [(1,Oa (G 0 (u_S_Rules a_0))),(2,Oa [C (I 0),C (I 0),C (I 0),C (I 0)]),(3,Oa [C (I a_0.Spacing),C (I a_0.Margin),C (I 0),C (I 0)])]) (q (oFA (r':=.mp 1 0 2) j fF113_2 j j)<|q (oLd (cs:=[.im 0 _]) j tF2 j j)<|q (oFA (r':=.mp 3 0 2) j fF127_2 j j)<|q (oSt tF2 j j j (tkI tk0) j j j)<|nl)<|us<|gs<|g1 j j (mk [(1,M 1),(2,M 2),(3,M 3)] [(1,Oa (G 0 (u_S_Rules a_0))),(2,Oa [C (I 0),C (I 0),C (I 0),C (I 0)]),(3,Oa [C (I a_0.Spacing),C (I a_0.Margin),C (I a_0.Angle),C (I 0)])]) (q (oFA (r':=.mp 1 0 3) j fF113_3 j j)<|q (oLd (cs:=[.im 0 _]) j tF2 j j)<|q (oFA (r':=.mp 3 0 3) j fF127_3 j j)<|q (oSt tF2 j j j (tkI tk0) j j j)<|nl)<|us<|gs<|g1 j j (mk [(2,M 2),(3,M 3)] [(2,Oa [C (I 0),C (I 0),C (I 0),C (I 0)]),(3,Oa (G 0 (u_S_Rules a_0)))]) (q (oLd (cs:=[.im 0 _,.im 0 _,.im 0 _,.im 0 _]) j tF127 j j)<|q (oSt tF127 j j j (tkI (tkI (tkI (tkI tk0)))) j j j)<|nl)<|us<|Go.ret (Unw.ret ?_)
 cases h
 exact fr rF254 j
theorem L_laws_toJob {a_0:S_Job} {r:S_Job} (h:laws_toJob a_0=some r):FX 158 [.im 2 true (u_S_Job a_0)] (B0 [(true,[.im 0 (I r.Picture.Drawing.Width),.im 0 (I r.Picture.Drawing.Height),.ow 0 2 (List.map e_S_Point r.Picture.Drawing.Points),.ow 0 2 (List.map e_S_Face r.Picture.Drawing.Faces),.ow 0 3 (List.map e_S_Veneer r.Picture.Veneers),.ow 0 9 (List.map e_S_Leaf r.Leaves),.ow 0 5 (List.map e_S_Placement r.Placements),.im 0 (I r.Rules.Spacing),.im 0 (I r.Rules.Margin),.im 0 (I r.Rules.Angle),.im 0 (I r.Rules.Shade),.im 0 (I r.Thickness),.im 0 (I r.Kerf),.im 0 (I r.Bevel),.im 0 (I r.Gap),.ow 0 1 (List.map eI r.Order),.ow 0 1 (List.map eI r.Cuts)])]):=by
 unfold laws_toJob at h
 refine gn 41 Try.func158 rfl ?_
 refine gs<|g0 j j (q (oBx j tF115 j (tkI (tkI (tkI (tkI (tkI (tkI (tkI (tkI (tkI (tkI (tkI (tkI (tkI (tkI (tkI (tkI (tkI tk0))))))))))))))))))<|q (oAl j tF129 (tkI (tkI (tkN (tkN (tkN (tkN (tkN (tkI (tkI (tkI (tkI (tkI (tkI (tkI (tkI (tkN (tkN tk0))))))))))))))))))<|nl)<|us<|gs<|g1 j j (mk [(1,M 1),(2,M 2)] [(1,Oa (G 2 (u_S_Job a_0))),(2,Oa [C (I 0),C (I 0),Z (W 2 e_S_Point ([]:List S_Point)),Z (W 2 e_S_Face ([]:List S_Face)),Z (W 3 e_S_Veneer ([]:List S_Veneer)),Z (W 9 e_S_Leaf ([]:List S_Leaf)),Z (W 5 e_S_Placement ([]:List S_Placement)),C (I 0),C (I 0),C (I 0),C (I 0),C (I 0),C (I 0),C (I 0),C (I 0),Z (W 1 eI ([]:List Int)),Z (W 1 eI ([]:List Int))])]) (q (oAl j tF129 (tkI (tkI (tkN (tkN (tkN (tkN (tkN (tkI (tkI (tkI (tkI (tkI (tkI (tkI (tkI (tkN (tkN tk0))))))))))))))))))<|nl)<|us<|gs<|?_
 obtain ⟨x6,hx6,h⟩:=bs h
 refine g1 j j (mk [(1,M 1),(2,M 2),(3,M 3)] [(1,Oa (G 2 (u_S_Job a_0))),(2,Oa [C (I 0),C (I 0),Z (W 2 e_S_Point ([]:List S_Point)),Z (W 2 e_S_Face ([]:List S_Face)),Z (W 3 e_S_Veneer ([]:List S_Veneer)),Z (W 9 e_S_Leaf ([]:List S_Leaf)),Z (W 5 e_S_Placement ([]:List S_Placement)),C (I 0),C (I 0),C (I 0),C (I 0),C (I 0),C (I 0),C (I 0),C (I 0),Z (W 1 eI ([]:List Int)),Z (W 1 eI ([]:List Int))]),(3,Oa [C (I 0),C (I 0),Z (W 2 e_S_Point ([]:List S_Point)),Z (W 2 e_S_Face ([]:List S_Face)),Z (W 3 e_S_Veneer ([]:List S_Veneer)),Z (W 9 e_S_Leaf ([]:List S_Leaf)),Z (W 5 e_S_Placement ([]:List S_Placement)),C (I 0),C (I 0),C (I 0),C (I 0),C (I 0),C (I 0),C (I 0),C (I 0),Z (W 1 eI ([]:List Int)),Z (W 1 eI ([]:List Int))])]) (q (oFA (r':=.mp 1 0 0) j fF115_0 j j)<|q (oLd (cs:=[.im 0 _,.im 0 _,.im 2 _,.im 2 _,.im 2 _]) j tF110 j j)<|q (oCr (xs:=[.v true [.im 0 _,.im 0 _,.im 2 _,.im 2 _,.im 2 _]]) (vs:=[(true,[.im 0 _,.im 0 _,.own 6 0 0,.own 6 0 1,.own 6 0 2])]) (v:=.v true [.im 0 _,.im 0 _,.own 6 0 0,.own 6 0 1,.own 6 0 2]) (c:=⟨.sh,0,_⟩) (cs:=[⟨.sh,0,_⟩,⟨.sh,0,_⟩]) (L_laws_toPicture hx6) (.inl j) j kF252_110 j (ppC j pp0) j j pb0 j j j)<|q (oFA (r':=.mp 3 0 0) j fF129_0 j j)<|q (oSt tF125 j j j (tkI (tkI (tkO j j (tkO j j (tkO j j tk0))))) j j j)<|nl)<|us<|gs<|?_
 obtain ⟨x10,hx10,h⟩:=bs h
 refine g1 j j (mk [(1,M 1),(2,M 2),(3,M 3)] [(1,Oa (G 2 (u_S_Job a_0))),(2,Oa [C (I 0),C (I 0),Z (W 2 e_S_Point ([]:List S_Point)),Z (W 2 e_S_Face ([]:List S_Face)),Z (W 3 e_S_Veneer ([]:List S_Veneer)),Z (W 9 e_S_Leaf ([]:List S_Leaf)),Z (W 5 e_S_Placement ([]:List S_Placement)),C (I 0),C (I 0),C (I 0),C (I 0),C (I 0),C (I 0),C (I 0),C (I 0),Z (W 1 eI ([]:List Int)),Z (W 1 eI ([]:List Int))]),(3,Oa [C (I x6.Drawing.Width),C (I x6.Drawing.Height),Z (W 2 e_S_Point x6.Drawing.Points),Z (W 2 e_S_Face x6.Drawing.Faces),Z (W 3 e_S_Veneer x6.Veneers),Z (W 9 e_S_Leaf ([]:List S_Leaf)),Z (W 5 e_S_Placement ([]:List S_Placement)),C (I 0),C (I 0),C (I 0),C (I 0),C (I 0),C (I 0),C (I 0),C (I 0),Z (W 1 eI ([]:List Int)),Z (W 1 eI ([]:List Int))])]) (q (oFA (r':=.mp 1 0 5) j fF115_1 j j)<|q (oLd (cs:=[.im 2 _]) j tF39 j j)<|q (oCr (xs:=[.v false [.im 2 _]]) (vs:=[(false,[.own 10 0 0])]) (v:=.v false [.own 10 0 0]) (c:=⟨.sh,0,_⟩) (cs:=[]) (L_laws_toLeafS hx10) (.inl j) j kF24_39 j (ppC j pp0) j j pb0 j j j)<|q (oFA (r':=.mp 3 0 5) j fF129_1 j j)<|q (oSt tF44 j j j (tkO j j tk0) j j j)<|nl)<|us<|gs<|?_
 obtain ⟨x14,hx14,h⟩:=bs h
 refine g1 j j (mk [(1,M 1),(2,M 2),(3,M 3)] [(1,Oa (G 2 (u_S_Job a_0))),(2,Oa [C (I 0),C (I 0),Z (W 2 e_S_Point ([]:List S_Point)),Z (W 2 e_S_Face ([]:List S_Face)),Z (W 3 e_S_Veneer ([]:List S_Veneer)),Z (W 9 e_S_Leaf ([]:List S_Leaf)),Z (W 5 e_S_Placement ([]:List S_Placement)),C (I 0),C (I 0),C (I 0),C (I 0),C (I 0),C (I 0),C (I 0),C (I 0),Z (W 1 eI ([]:List Int)),Z (W 1 eI ([]:List Int))]),(3,Oa [C (I x6.Drawing.Width),C (I x6.Drawing.Height),Z (W 2 e_S_Point x6.Drawing.Points),Z (W 2 e_S_Face x6.Drawing.Faces),Z (W 3 e_S_Veneer x6.Veneers),Z (W 9 e_S_Leaf x10),Z (W 5 e_S_Placement ([]:List S_Placement)),C (I 0),C (I 0),C (I 0),C (I 0),C (I 0),C (I 0),C (I 0),C (I 0),Z (W 1 eI ([]:List Int)),Z (W 1 eI ([]:List Int))])]) (q (oFA (r':=.mp 1 0 6) j fF115_2 j j)<|q (oLd (cs:=[.im 2 _]) j tF111 j j)<|q (oCr (xs:=[.v false [.im 2 _]]) (vs:=[(false,[.own 14 0 0])]) (v:=.v false [.own 14 0 0]) (c:=⟨.sh,0,_⟩) (cs:=[]) (L_laws_toPlacementS hx14) (.inl j) j kF253_111 j (ppC j pp0) j j pb0 j j j)<|q (oFA (r':=.mp 3 0 6) j fF129_2 j j)<|q (oSt tF126 j j j (tkO j j tk0) j j j)<|nl)<|us<|gs<|?_
 obtain ⟨x18,hx18,h⟩:=bs h
 refine g1 j j (mk [(1,M 1),(2,M 2),(3,M 3)] [(1,Oa (G 2 (u_S_Job a_0))),(2,Oa [C (I 0),C (I 0),Z (W 2 e_S_Point ([]:List S_Point)),Z (W 2 e_S_Face ([]:List S_Face)),Z (W 3 e_S_Veneer ([]:List S_Veneer)),Z (W 9 e_S_Leaf ([]:List S_Leaf)),Z (W 5 e_S_Placement ([]:List S_Placement)),C (I 0),C (I 0),C (I 0),C (I 0),C (I 0),C (I 0),C (I 0),C (I 0),Z (W 1 eI ([]:List Int)),Z (W 1 eI ([]:List Int))]),(3,Oa [C (I x6.Drawing.Width),C (I x6.Drawing.Height),Z (W 2 e_S_Point x6.Drawing.Points),Z (W 2 e_S_Face x6.Drawing.Faces),Z (W 3 e_S_Veneer x6.Veneers),Z (W 9 e_S_Leaf x10),Z (W 5 e_S_Placement x14),C (I 0),C (I 0),C (I 0),C (I 0),C (I 0),C (I 0),C (I 0),C (I 0),Z (W 1 eI ([]:List Int)),Z (W 1 eI ([]:List Int))])]) (q (oFA (r':=.mp 1 0 7) j fF115_3 j j)<|q (oLd (cs:=[.im 0 _,.im 0 _,.im 0 _,.im 0 _]) j tF113 j j)<|q (oCa (xs:=[.v true [.im 0 _,.im 0 _,.im 0 _,.im 0 _]]) (vs:=[(true,[.im 0 _,.im 0 _,.im 0 _,.im 0 _])]) (v:=.v true [.im 0 _,.im 0 _,.im 0 _,.im 0 _]) (L_laws_toRules hx18) (.inl j) j kF254_113 j (ppC j pp0) j j pb0 j j j)<|q (oFA (r':=.mp 3 0 7) j fF129_3 j j)<|q (oSt tF127 j j j (tkI (tkI (tkI (tkI tk0)))) j j j)<|nl)<|us<|gs<|g1 j j (mk [(1,M 1),(2,M 2),(3,M 3)] [(1,Oa (G 2 (u_S_Job a_0))),(2,Oa [C (I 0),C (I 0),Z (W 2 e_S_Point ([]:List S_Point)),Z (W 2 e_S_Face ([]:List S_Face)),Z (W 3 e_S_Veneer ([]:List S_Veneer)),Z (W 9 e_S_Leaf ([]:List S_Leaf)),Z (W 5 e_S_Placement ([]:List S_Placement)),C (I 0),C (I 0),C (I 0),C (I 0),C (I 0),C (I 0),C (I 0),C (I 0),Z (W 1 eI ([]:List Int)),Z (W 1 eI ([]:List Int))]),(3,Oa [C (I x6.Drawing.Width),C (I x6.Drawing.Height),Z (W 2 e_S_Point x6.Drawing.Points),Z (W 2 e_S_Face x6.Drawing.Faces),Z (W 3 e_S_Veneer x6.Veneers),Z (W 9 e_S_Leaf x10),Z (W 5 e_S_Placement x14),C (I x18.Spacing),C (I x18.Margin),C (I x18.Angle),C (I x18.Shade),C (I 0),C (I 0),C (I 0),C (I 0),Z (W 1 eI ([]:List Int)),Z (W 1 eI ([]:List Int))])]) (q (oFA (r':=.mp 1 0 11) j fF115_4 j j)<|q (oLd (cs:=[.im 0 _]) j tF2 j j)<|q (oFA (r':=.mp 3 0 11) j fF129_4 j j)<|q (oSt tF2 j j j (tkI tk0) j j j)<|nl)<|us<|gs<|g1 j j (mk [(1,M 1),(2,M 2),(3,M 3)] [(1,Oa (G 2 (u_S_Job a_0))),(2,Oa [C (I 0),C (I 0),Z (W 2 e_S_Point ([]:List S_Point)),Z (W 2 e_S_Face ([]:List S_Face)),Z (W 3 e_S_Veneer ([]:List S_Veneer)),Z (W 9 e_S_Leaf ([]:List S_Leaf)),Z (W 5 e_S_Placement ([]:List S_Placement)),C (I 0),C (I 0),C (I 0),C (I 0),C (I 0),C (I 0),C (I 0),C (I 0),Z (W 1 eI ([]:List Int)),Z (W 1 eI ([]:List Int))]),(3,Oa [C (I x6.Drawing.Width),C (I x6.Drawing.Height),Z (W 2 e_S_Point x6.Drawing.Points),Z (W 2 e_S_Face x6.Drawing.Faces),Z (W 3 e_S_Veneer x6.Veneers),Z (W 9 e_S_Leaf x10),Z (W 5 e_S_Placement x14),C (I x18.Spacing),C (I x18.Margin),C (I x18.Angle),C (I x18.Shade),C (I a_0.Thickness),C (I 0),C (I 0),C (I 0),Z (W 1 eI ([]:List Int)),Z (W 1 eI ([]:List Int))])]) (q (oFA (r':=.mp 1 0 12) j fF115_5 j j)<|q (oLd (cs:=[.im 0 _]) j tF2 j j)<|q (oFA (r':=.mp 3 0 12) j fF129_5 j j)<|q (oSt tF2 j j j (tkI tk0) j j j)<|nl)<|us<|gs<|g1 j j (mk [(1,M 1),(2,M 2),(3,M 3)] [(1,Oa (G 2 (u_S_Job a_0))),(2,Oa [C (I 0),C (I 0),Z (W 2 e_S_Point ([]:List S_Point)),Z (W 2 e_S_Face ([]:List S_Face)),Z (W 3 e_S_Veneer ([]:List S_Veneer)),Z (W 9 e_S_Leaf ([]:List S_Leaf)),Z (W 5 e_S_Placement ([]:List S_Placement)),C (I 0),C (I 0),C (I 0),C (I 0),C (I 0),C (I 0),C (I 0),C (I 0),Z (W 1 eI ([]:List Int)),Z (W 1 eI ([]:List Int))]),(3,Oa [C (I x6.Drawing.Width),C (I x6.Drawing.Height),Z (W 2 e_S_Point x6.Drawing.Points),Z (W 2 e_S_Face x6.Drawing.Faces),Z (W 3 e_S_Veneer x6.Veneers),Z (W 9 e_S_Leaf x10),Z (W 5 e_S_Placement x14),C (I x18.Spacing),C (I x18.Margin),C (I x18.Angle),C (I x18.Shade),C (I a_0.Thickness),C (I a_0.Kerf),C (I 0),C (I 0),Z (W 1 eI ([]:List Int)),Z (W 1 eI ([]:List Int))])]) (q (oFA (r':=.mp 1 0 13) j fF115_6 j j)<|q (oLd (cs:=[.im 0 _]) j tF2 j j)<|q (oFA (r':=.mp 3 0 13) j fF129_6 j j)<|q (oSt tF2 j j j (tkI tk0) j j j)<|nl)<|us<|gs<|g1 j j (mk [(1,M 1),(2,M 2),(3,M 3)] [(1,Oa (G 2 (u_S_Job a_0))),(2,Oa [C (I 0),C (I 0),Z (W 2 e_S_Point ([]:List S_Point)),Z (W 2 e_S_Face ([]:List S_Face)),Z (W 3 e_S_Veneer ([]:List S_Veneer)),Z (W 9 e_S_Leaf ([]:List S_Leaf)),Z (W 5 e_S_Placement ([]:List S_Placement)),C (I 0),C (I 0),C (I 0),C (I 0),C (I 0),C (I 0),C (I 0),C (I 0),Z (W 1 eI ([]:List Int)),Z (W 1 eI ([]:List Int))]),(3,Oa [C (I x6.Drawing.Width),C (I x6.Drawing.Height),Z (W 2 e_S_Point x6.Drawing.Points),Z (W 2 e_S_Face x6.Drawing.Faces),Z (W 3 e_S_Veneer x6.Veneers),Z (W 9 e_S_Leaf x10),Z (W 5 e_S_Placement x14),C (I x18.Spacing),C (I x18.Margin),C (I x18.Angle),C (I x18.Shade),C (I a_0.Thickness),C (I a_0.Kerf),C (I a_0.Bevel),C (I 0),Z (W 1 eI ([]:List Int)),Z (W 1 eI ([]:List Int))])]) (q (oFA (r':=.mp 1 0 14) j fF115_7 j j)<|q (oLd (cs:=[.im 0 _]) j tF2 j j)<|q (oFA (r':=.mp 3 0 14) j fF129_7 j j)<|q (oSt tF2 j j j (tkI tk0) j j j)<|nl)<|us<|gs<|?_
 obtain ⟨x34,hx34,h⟩:=bs h
 refine g1 j j (mk [(1,M 1),(2,M 2),(3,M 3)] [(1,Oa (G 2 (u_S_Job a_0))),(2,Oa [C (I 0),C (I 0),Z (W 2 e_S_Point ([]:List S_Point)),Z (W 2 e_S_Face ([]:List S_Face)),Z (W 3 e_S_Veneer ([]:List S_Veneer)),Z (W 9 e_S_Leaf ([]:List S_Leaf)),Z (W 5 e_S_Placement ([]:List S_Placement)),C (I 0),C (I 0),C (I 0),C (I 0),C (I 0),C (I 0),C (I 0),C (I 0),Z (W 1 eI ([]:List Int)),Z (W 1 eI ([]:List Int))]),(3,Oa [C (I x6.Drawing.Width),C (I x6.Drawing.Height),Z (W 2 e_S_Point x6.Drawing.Points),Z (W 2 e_S_Face x6.Drawing.Faces),Z (W 3 e_S_Veneer x6.Veneers),Z (W 9 e_S_Leaf x10),Z (W 5 e_S_Placement x14),C (I x18.Spacing),C (I x18.Margin),C (I x18.Angle),C (I x18.Shade),C (I a_0.Thickness),C (I a_0.Kerf),C (I a_0.Bevel),C (I a_0.Gap),Z (W 1 eI ([]:List Int)),Z (W 1 eI ([]:List Int))])]) (q (oFA (r':=.mp 1 0 15) j fF115_8 j j)<|q (oLd (cs:=[.im 2 _]) j tF28 j j)<|q (oCr (xs:=[.v false [.im 2 _]]) (vs:=[(false,[.own 34 0 0])]) (v:=.v false [.own 34 0 0]) (c:=⟨.sh,0,_⟩) (cs:=[]) (L_laws_toInt64S hx34) (.inl j) j kF134_28 j (ppC j pp0) j j pb0 j j j)<|q (oFA (r':=.mp 3 0 15) j fF129_8 j j)<|q (oSt tF28 j j j (tkO j j tk0) j j j)<|nl)<|us<|gs<|?_
 obtain ⟨x38,hx38,h⟩:=bs h
 refine g1 j j (mk [(1,M 1),(2,M 2),(3,M 3)] [(1,Oa (G 2 (u_S_Job a_0))),(2,Oa [C (I 0),C (I 0),Z (W 2 e_S_Point ([]:List S_Point)),Z (W 2 e_S_Face ([]:List S_Face)),Z (W 3 e_S_Veneer ([]:List S_Veneer)),Z (W 9 e_S_Leaf ([]:List S_Leaf)),Z (W 5 e_S_Placement ([]:List S_Placement)),C (I 0),C (I 0),C (I 0),C (I 0),C (I 0),C (I 0),C (I 0),C (I 0),Z (W 1 eI ([]:List Int)),Z (W 1 eI ([]:List Int))]),(3,Oa [C (I x6.Drawing.Width),C (I x6.Drawing.Height),Z (W 2 e_S_Point x6.Drawing.Points),Z (W 2 e_S_Face x6.Drawing.Faces),Z (W 3 e_S_Veneer x6.Veneers),Z (W 9 e_S_Leaf x10),Z (W 5 e_S_Placement x14),C (I x18.Spacing),C (I x18.Margin),C (I x18.Angle),C (I x18.Shade),C (I a_0.Thickness),C (I a_0.Kerf),C (I a_0.Bevel),C (I a_0.Gap),Z (W 1 eI x34),Z (W 1 eI ([]:List Int))])]) (q (oFA (r':=.mp 1 0 16) j fF115_9 j j)<|q (oLd (cs:=[.im 2 _]) j tF28 j j)<|q (oCr (xs:=[.v false [.im 2 _]]) (vs:=[(false,[.own 38 0 0])]) (v:=.v false [.own 38 0 0]) (c:=⟨.sh,0,_⟩) (cs:=[]) (L_laws_toInt64S hx38) (.inl j) j kF134_28 j (ppC j pp0) j j pb0 j j j)<|q (oFA (r':=.mp 3 0 16) j fF129_9 j j)<|q (oSt tF28 j j j (tkO j j tk0) j j j)<|nl)<|us<|gs<|g1 j j (mk [(2,M 2),(3,M 3)] [(2,Oa [C (I 0),C (I 0),Z (W 2 e_S_Point ([]:List S_Point)),Z (W 2 e_S_Face ([]:List S_Face)),Z (W 3 e_S_Veneer ([]:List S_Veneer)),Z (W 9 e_S_Leaf ([]:List S_Leaf)),Z (W 5 e_S_Placement ([]:List S_Placement)),C (I 0),C (I 0),C (I 0),C (I 0),C (I 0),C (I 0),C (I 0),C (I 0),Z (W 1 eI ([]:List Int)),Z (W 1 eI ([]:List Int))]),(3,Oa [C (I x6.Drawing.Width),C (I x6.Drawing.Height),Z (W 2 e_S_Point x6.Drawing.Points),Z (W 2 e_S_Face x6.Drawing.Faces),Z (W 3 e_S_Veneer x6.Veneers),Z (W 9 e_S_Leaf x10),Z (W 5 e_S_Placement x14),C (I x18.Spacing),C (I x18.Margin),C (I x18.Angle),C (I x18.Shade),C (I a_0.Thickness),C (I a_0.Kerf),C (I a_0.Bevel),C (I a_0.Gap),Z (W 1 eI x34),Z (W 1 eI x38)])]) (q (oLd (cs:=[.im 0 _,.im 0 _,.own 3 0 2,.own 3 0 3,.own 3 0 4,.own 3 0 5,.own 3 0 6,.im 0 _,.im 0 _,.im 0 _,.im 0 _,.im 0 _,.im 0 _,.im 0 _,.im 0 _,.own 3 0 15,.own 3 0 16]) j tF129 j j)<|q (oSt tF129 j j j (tkI (tkI (tkO j j (tkO j j (tkO j j (tkO j j (tkO j j (tkI (tkI (tkI (tkI (tkI (tkI (tkI (tkI (tkO j j (tkO j j tk0))))))))))))))))) j j j)<|nl)<|us<|Go.ret (Unw.ret ?_)
 cases h
 exact fr rF158 j
theorem L_laws_toBond {a_0:S_Bond} {r:S_Bond} (h:laws_toBond a_0=some r):FX 255 [.im 2 true (u_S_Bond a_0)] (B0 [(true,J 0 (u_S_Bond r))]):=by
 unfold laws_toBond at h
 refine gn 17 Try.func255 rfl ?_
 refine gs<|g0 j j (q (oBx j tF319 j (tkI (tkI (tkI (tkI tk0)))))<|q (oAl j tF241 (tkI (tkI (tkI (tkI tk0)))))<|nl)<|us<|gs<|g0 j j (q (oAl j tF241 (tkI (tkI (tkI (tkI tk0)))))<|nl)<|us<|gs<|g0 j j (q (oFA (r':=.mp 1 0 0) j fF319_0 j j)<|q (oLd (cs:=[.im 0 _]) j tF9 j j)<|q (oFA (r':=.mp 3 0 0) j fF241_0 j j)<|q (oSt tF9 j j j (tkI tk0) j j j)<|nl)<|us<|gs<|g1 j j (mk [(1,M 1),(2,M 2),(3,M 3)] [(1,Oa (G 0 (u_S_Bond a_0))),(2,Oa [C (Y (⟨#[]⟩:ByteArray)),C (I 0),C (I 0),C (I 0)]),(3,Oa [C (Y a_0.Name),C (I 0),C (I 0),C (I 0)])]) (q (oFA (r':=.mp 1 0 1) j fF319_1 j j)<|q (oLd (cs:=[.im 0 _]) j tF2 j j)<|q (oFA (r':=.mp 3 0 1) j fF241_1 j j)<|q (oSt tF2 j j j (tkI tk0) j j j)<|nl)<|us<|gs<|g1 j j (mk [(1,M 1),(2,M 2),(3,M 3)] [(1,Oa (G 0 (u_S_Bond a_0))),(2,Oa [C (Y (⟨#[]⟩:ByteArray)),C (I 0),C (I 0),C (I 0)]),(3,Oa [C (Y a_0.Name),C (I a_0.Spread),C (I 0),C (I 0)])]) (q (oFA (r':=.mp 1 0 2) j fF319_2 j j)<|q (oLd (cs:=[.im 0 _]) j tF2 j j)<|q (oFA (r':=.mp 3 0 2) j fF241_2 j j)<|q (oSt tF2 j j j (tkI tk0) j j j)<|nl)<|us<|gs<|g1 j j (mk [(1,M 1),(2,M 2),(3,M 3)] [(1,Oa (G 0 (u_S_Bond a_0))),(2,Oa [C (Y (⟨#[]⟩:ByteArray)),C (I 0),C (I 0),C (I 0)]),(3,Oa [C (Y a_0.Name),C (I a_0.Spread),C (I a_0.Open),C (I 0)])]) (q (oFA (r':=.mp 1 0 3) j fF319_3 j j)<|q (oLd (cs:=[.im 0 _]) j tF2 j j)<|q (oFA (r':=.mp 3 0 3) j fF241_3 j j)<|q (oSt tF2 j j j (tkI tk0) j j j)<|nl)<|us<|gs<|g1 j j (mk [(2,M 2),(3,M 3)] [(2,Oa [C (Y (⟨#[]⟩:ByteArray)),C (I 0),C (I 0),C (I 0)]),(3,Oa (G 0 (u_S_Bond a_0)))]) (q (oLd (cs:=[.im 0 _,.im 0 _,.im 0 _,.im 0 _]) j tF241 j j)<|q (oSt tF241 j j j (tkI (tkI (tkI (tkI tk0)))) j j j)<|nl)<|us<|Go.ret (Unw.ret ?_)
 cases h
 exact fr rF255 j
theorem L_laws_toBondS {a_0:(List S_Bond)} {r:(List S_Bond)} (h:laws_toBondS a_0=some r):FX 159 [.im 2 false [W 4 e_S_Bond a_0]] (B0 [(false,[.ow 0 4 (List.map e_S_Bond r)])]):=by
 unfold laws_toBondS at h
 refine gn 23 Try.func159 rfl ?_
 refine gs<|g0 j j (q (oAsN j j eF130)<|nl)<|us<|gs<|?_
 obtain ⟨x7,hx7,h⟩:=bs h
 refine g0 j j (q (oMv j j)<|q (oLnI j j uF116 j)<|q (oMk (en:=e_S_Bond) j hx7 j sF130 j j (fxI (fxI (fxI (fxI fx0)))) j (flat0 (L:=[_]) j fun _=>j))<|q (oAsO j j j j j)<|nl)<|us<|gs<|gs<|g0 j j (q (oAsI j j)<|nl)<|us<|Go.block<|?_
 obtain ⟨o,hl,h⟩:=bs h
 refine gl c159 j _ (fun (s:(Int×(List S_Bond)))=>match s with | (i_4_l3,out_o3_l3)=>mk [(0,D 2 (W 4 e_S_Bond a_0)),(3,H 3 0),(4,iv i_4_l3)] [(3,Oc [Z (W 4 e_S_Bond out_o3_l3)])]) (fun (out_o3_e0_3:(List S_Bond)) (p:Ex×St)=>p.1= .exit 0∧p.2.norm ([3],[3])=mk [(3,H 3 0)] [(3,Oc [Z (W 4 e_S_Bond out_o3_e0_3)])]) hl (by kernel_rfl) ?_ ?_ ?_
 ·intro o p hp e
  exact nomatch (hp.1.symm.trans e)
 ·rintro ⟨i_4_l3,out_o3_l3⟩ o h
  unfold laws_toBondS_l3 at h
  dsimp only at h
  refine gs<|gs<|g0 j j (q (oMv j j)<|q (oMv j j)<|q (oLnI j j uF116 j)<|q (oBi j j j j)<|nl)<|us<|gc h j iDec (fun hc3 h=>?_) fun hc3 h=>?_
  ·refine Go.skip<|us<|gs<|Go.block<|?_
   obtain ⟨x18,hx18,h⟩:=bs h
   obtain ⟨x20,hx20,h⟩:=bs h
   obtain ⟨x21,hx21,h⟩:=bs h
   refine g0 j j (q (oMv j j)<|q (oMv j j)<|q (oMv j j)<|q (oMv j j)<|q (oIAI j hx18 sF116 j j)<|q (oLd (cs:=[.im 2 _,.im 2 _,.im 2 _,.im 2 _]) j tF319 j j)<|q (oCa (xs:=[.v true [.im 2 _,.im 2 _,.im 2 _,.im 2 _]]) (vs:=[(true,[.im 0 _,.im 0 _,.im 0 _,.im 0 _])]) (v:=.v true [.im 0 _,.im 0 _,.im 0 _,.im 0 _]) (L_laws_toBond hx20) (.inl j) j kF255_319 j (ppC j pp0) j j pb0 j j j)<|q (oIAO j hx21 sF130 j j j j)<|q (oStE (v':=x20) tF241 j j j (fxI (fxI (fxI (fxI fx0)))) j j (rd_get hx21) j)<|nl)<|Unw.blk<|us<|g1 j j (mk [(0,D 2 (W 4 e_S_Bond a_0)),(3,H 3 0),(4,iv i_4_l3)] [(3,Oc [Z (W 4 e_S_Bond (out_o3_l3.set i_4_l3.toNat x20))])]) (q (oMv j j)<|q (oBi j j j j)<|q (oAsI j j)<|nl)<|Unw.nil<|?_
   cases h
   exact ⟨j,(by kernel_rfl)⟩
  ·refine Go.exit<|ux<|Unw.nil<|?_
   cases h
   exact ⟨j,(by kernel_rfl)⟩
 ·rintro ⟨e,st⟩ hp
  obtain ⟨out_o3_e0_3,rfl⟩:∃y,y=o:=⟨o,rfl⟩
  obtain ⟨he,hst⟩:=hp
  obtain rfl:e= .exit 0:=he
  refine Unw.blkx<|us<|gs<|g2 c159 j j hst (q (oMv j j)<|q (oAsO j j j j j)<|nl)<|us<|Go.ret (Unw.ret ?_)
  cases h
  exact fr rF159 j
theorem L_laws_toCoat {a_0:S_Coat} {r:S_Coat} (h:laws_toCoat a_0=some r):FX 256 [.im 2 true (u_S_Coat a_0)] (B0 [(true,J 0 (u_S_Coat r))]):=by
 unfold laws_toCoat at h
 refine gn 17 Try.func256 rfl ?_
 refine gs<|g0 j j (q (oBx j tF321 j (tkI (tkI (tkI (tkI tk0)))))<|q (oAl j tF243 (tkI (tkI (tkI (tkI tk0)))))<|nl)<|us<|gs<|g0 j j (q (oAl j tF243 (tkI (tkI (tkI (tkI tk0)))))<|nl)<|us<|gs<|g0 j j (q (oFA (r':=.mp 1 0 0) j fF321_0 j j)<|q (oLd (cs:=[.im 0 _]) j tF9 j j)<|q (oFA (r':=.mp 3 0 0) j fF243_0 j j)<|q (oSt tF9 j j j (tkI tk0) j j j)<|nl)<|us<|gs<|g1 j j (mk [(1,M 1),(2,M 2),(3,M 3)] [(1,Oa (G 0 (u_S_Coat a_0))),(2,Oa [C (Y (⟨#[]⟩:ByteArray)),C (I 0),C (I 0),C (I 0)]),(3,Oa [C (Y a_0.Name),C (I 0),C (I 0),C (I 0)])]) (q (oFA (r':=.mp 1 0 1) j fF321_1 j j)<|q (oLd (cs:=[.im 0 _]) j tF2 j j)<|q (oFA (r':=.mp 3 0 1) j fF243_1 j j)<|q (oSt tF2 j j j (tkI tk0) j j j)<|nl)<|us<|gs<|g1 j j (mk [(1,M 1),(2,M 2),(3,M 3)] [(1,Oa (G 0 (u_S_Coat a_0))),(2,Oa [C (Y (⟨#[]⟩:ByteArray)),C (I 0),C (I 0),C (I 0)]),(3,Oa [C (Y a_0.Name),C (I a_0.Work),C (I 0),C (I 0)])]) (q (oFA (r':=.mp 1 0 2) j fF321_2 j j)<|q (oLd (cs:=[.im 0 _]) j tF2 j j)<|q (oFA (r':=.mp 3 0 2) j fF243_2 j j)<|q (oSt tF2 j j j (tkI tk0) j j j)<|nl)<|us<|gs<|g1 j j (mk [(1,M 1),(2,M 2),(3,M 3)] [(1,Oa (G 0 (u_S_Coat a_0))),(2,Oa [C (Y (⟨#[]⟩:ByteArray)),C (I 0),C (I 0),C (I 0)]),(3,Oa [C (Y a_0.Name),C (I a_0.Work),C (I a_0.Dry),C (I 0)])]) (q (oFA (r':=.mp 1 0 3) j fF321_3 j j)<|q (oLd (cs:=[.im 0 _]) j tF2 j j)<|q (oFA (r':=.mp 3 0 3) j fF243_3 j j)<|q (oSt tF2 j j j (tkI tk0) j j j)<|nl)<|us<|gs<|g1 j j (mk [(2,M 2),(3,M 3)] [(2,Oa [C (Y (⟨#[]⟩:ByteArray)),C (I 0),C (I 0),C (I 0)]),(3,Oa (G 0 (u_S_Coat a_0)))]) (q (oLd (cs:=[.im 0 _,.im 0 _,.im 0 _,.im 0 _]) j tF243 j j)<|q (oSt tF243 j j j (tkI (tkI (tkI (tkI tk0)))) j j j)<|nl)<|us<|Go.ret (Unw.ret ?_)
 cases h
 exact fr rF256 j
theorem L_laws_toCoatS {a_0:(List S_Coat)} {r:(List S_Coat)} (h:laws_toCoatS a_0=some r):FX 160 [.im 2 false [W 4 e_S_Coat a_0]] (B0 [(false,[.ow 0 4 (List.map e_S_Coat r)])]):=by
 unfold laws_toCoatS at h
 refine gn 23 Try.func160 rfl ?_
 refine gs<|g0 j j (q (oAsN j j eF131)<|nl)<|us<|gs<|?_
 obtain ⟨x7,hx7,h⟩:=bs h
 refine g0 j j (q (oMv j j)<|q (oLnI j j uF117 j)<|q (oMk (en:=e_S_Coat) j hx7 j sF131 j j (fxI (fxI (fxI (fxI fx0)))) j (flat0 (L:=[_]) j fun _=>j))<|q (oAsO j j j j j)<|nl)<|us<|gs<|gs<|g0 j j (q (oAsI j j)<|nl)<|us<|Go.block<|?_
 obtain ⟨o,hl,h⟩:=bs h
 refine gl c160 j _ (fun (s:(Int×(List S_Coat)))=>match s with | (i_4_l3,out_o3_l3)=>mk [(0,D 2 (W 4 e_S_Coat a_0)),(3,H 3 0),(4,iv i_4_l3)] [(3,Oc [Z (W 4 e_S_Coat out_o3_l3)])]) (fun (out_o3_e0_3:(List S_Coat)) (p:Ex×St)=>p.1= .exit 0∧p.2.norm ([3],[3])=mk [(3,H 3 0)] [(3,Oc [Z (W 4 e_S_Coat out_o3_e0_3)])]) hl (by kernel_rfl) ?_ ?_ ?_
 ·intro o p hp e
  exact nomatch (hp.1.symm.trans e)
 ·rintro ⟨i_4_l3,out_o3_l3⟩ o h
  unfold laws_toCoatS_l3 at h
  dsimp only at h
  refine gs<|gs<|g0 j j (q (oMv j j)<|q (oMv j j)<|q (oLnI j j uF117 j)<|q (oBi j j j j)<|nl)<|us<|gc h j iDec (fun hc3 h=>?_) fun hc3 h=>?_
  ·refine Go.skip<|us<|gs<|Go.block<|?_
   obtain ⟨x18,hx18,h⟩:=bs h
   obtain ⟨x20,hx20,h⟩:=bs h
   obtain ⟨x21,hx21,h⟩:=bs h
   refine g0 j j (q (oMv j j)<|q (oMv j j)<|q (oMv j j)<|q (oMv j j)<|q (oIAI j hx18 sF117 j j)<|q (oLd (cs:=[.im 2 _,.im 2 _,.im 2 _,.im 2 _]) j tF321 j j)<|q (oCa (xs:=[.v true [.im 2 _,.im 2 _,.im 2 _,.im 2 _]]) (vs:=[(true,[.im 0 _,.im 0 _,.im 0 _,.im 0 _])]) (v:=.v true [.im 0 _,.im 0 _,.im 0 _,.im 0 _]) (L_laws_toCoat hx20) (.inl j) j kF256_321 j (ppC j pp0) j j pb0 j j j)<|q (oIAO j hx21 sF131 j j j j)<|q (oStE (v':=x20) tF243 j j j (fxI (fxI (fxI (fxI fx0)))) j j (rd_get hx21) j)<|nl)<|Unw.blk<|us<|g1 j j (mk [(0,D 2 (W 4 e_S_Coat a_0)),(3,H 3 0),(4,iv i_4_l3)] [(3,Oc [Z (W 4 e_S_Coat (out_o3_l3.set i_4_l3.toNat x20))])]) (q (oMv j j)<|q (oBi j j j j)<|q (oAsI j j)<|nl)<|Unw.nil<|?_
   cases h
   exact ⟨j,(by kernel_rfl)⟩
  ·refine Go.exit<|ux<|Unw.nil<|?_
   cases h
   exact ⟨j,(by kernel_rfl)⟩
 ·rintro ⟨e,st⟩ hp
  obtain ⟨out_o3_e0_3,rfl⟩:∃y,y=o:=⟨o,rfl⟩
  obtain ⟨he,hst⟩:=hp
  obtain rfl:e= .exit 0:=he
  refine Unw.blkx<|us<|gs<|g2 c160 j j hst (q (oMv j j)<|q (oAsO j j j j j)<|nl)<|us<|Go.ret (Unw.ret ?_)
  cases h
  exact fr rF160 j
theorem L_laws_toRates {a_0:S_Rates} {r:S_Rates} (h:laws_toRates a_0=some r):FX 161 [.im 2 true (u_S_Rates a_0)] (B0 [(true,J 0 (u_S_Rates r))]):=by
 unfold laws_toRates at h
 refine gn 20 Try.func161 rfl ?_
 refine gs<|g0 j j (q (oBx j tF119 j (tkI (tkI (tkI (tkI (tkI tk0))))))<|q (oAl j tF132 (tkI (tkI (tkI (tkI (tkI tk0))))))<|nl)<|us<|gs<|g1 j j (mk [(1,M 1),(2,M 2)] [(1,Oa (G 0 (u_S_Rates a_0))),(2,Oa [C (I 0),C (I 0),C (I 0),C (I 0),C (I 0)])]) (q (oAl j tF132 (tkI (tkI (tkI (tkI (tkI tk0))))))<|nl)<|us<|gs<|g1 j j (mk [(1,M 1),(2,M 2),(3,M 3)] [(1,Oa (G 0 (u_S_Rates a_0))),(2,Oa [C (I 0),C (I 0),C (I 0),C (I 0),C (I 0)]),(3,Oa [C (I 0),C (I 0),C (I 0),C (I 0),C (I 0)])]) (q (oFA (r':=.mp 1 0 0) j fF119_0 j j)<|q (oLd (cs:=[.im 0 _]) j tF2 j j)<|q (oFA (r':=.mp 3 0 0) j fF132_0 j j)<|q (oSt tF2 j j j (tkI tk0) j j j)<|nl)<|us<|gs<|g1 j j (mk [(1,M 1),(2,M 2),(3,M 3)] [(1,Oa (G 0 (u_S_Rates a_0))),(2,Oa [C (I 0),C (I 0),C (I 0),C (I 0),C (I 0)]),(3,Oa [C (I a_0.Hour),C (I 0),C (I 0),C (I 0),C (I 0)])]) (q (oFA (r':=.mp 1 0 1) j fF119_1 j j)<|q (oLd (cs:=[.im 0 _]) j tF2 j j)<|q (oFA (r':=.mp 3 0 1) j fF132_1 j j)<|q (oSt tF2 j j j (tkI tk0) j j j)<|nl)<|us<|gs<|g1 j j (mk [(1,M 1),(2,M 2),(3,M 3)] [(1,Oa (G 0 (u_S_Rates a_0))),(2,Oa [C (I 0),C (I 0),C (I 0),C (I 0),C (I 0)]),(3,Oa [C (I a_0.Hour),C (I a_0.Edge),C (I 0),C (I 0),C (I 0)])]) (q (oFA (r':=.mp 1 0 2) j fF119_2 j j)<|q (oLd (cs:=[.im 0 _]) j tF2 j j)<|q (oFA (r':=.mp 3 0 2) j fF132_2 j j)<|q (oSt tF2 j j j (tkI tk0) j j j)<|nl)<|us<|gs<|g1 j j (mk [(1,M 1),(2,M 2),(3,M 3)] [(1,Oa (G 0 (u_S_Rates a_0))),(2,Oa [C (I 0),C (I 0),C (I 0),C (I 0),C (I 0)]),(3,Oa [C (I a_0.Hour),C (I a_0.Edge),C (I a_0.Face),C (I 0),C (I 0)])]) (q (oFA (r':=.mp 1 0 3) j fF119_3 j j)<|q (oLd (cs:=[.im 0 _]) j tF2 j j)<|q (oFA (r':=.mp 3 0 3) j fF132_3 j j)<|q (oSt tF2 j j j (tkI tk0) j j j)<|nl)<|us<|gs<|g1 j j (mk [(1,M 1),(2,M 2),(3,M 3)] [(1,Oa (G 0 (u_S_Rates a_0))),(2,Oa [C (I 0),C (I 0),C (I 0),C (I 0),C (I 0)]),(3,Oa [C (I a_0.Hour),C (I a_0.Edge),C (I a_0.Face),C (I a_0.Waste),C (I 0)])]) (q (oFA (r':=.mp 1 0 4) j fF119_4 j j)<|q (oLd (cs:=[.im 0 _]) j tF2 j j)<|q (oFA (r':=.mp 3 0 4) j fF132_4 j j)<|q (oSt tF2 j j j (tkI tk0) j j j)<|nl)<|us<|gs<|g1 j j (mk [(2,M 2),(3,M 3)] [(2,Oa [C (I 0),C (I 0),C (I 0),C (I 0),C (I 0)]),(3,Oa (G 0 (u_S_Rates a_0)))]) (q (oLd (cs:=[.im 0 _,.im 0 _,.im 0 _,.im 0 _,.im 0 _]) j tF132 j j)<|q (oSt tF132 j j j (tkI (tkI (tkI (tkI (tkI tk0))))) j j j)<|nl)<|us<|Go.ret (Unw.ret ?_)
 cases h
 exact fr rF161 j
theorem L_laws_toDesk {a_0:S_Desk} {r:S_Desk} (h:laws_toDesk a_0=some r):FX 79 [.im 2 true (u_S_Desk a_0)] (B0 [(true,[.im 0 (I r.Job.Picture.Drawing.Width),.im 0 (I r.Job.Picture.Drawing.Height),.ow 0 2 (List.map e_S_Point r.Job.Picture.Drawing.Points),.ow 0 2 (List.map e_S_Face r.Job.Picture.Drawing.Faces),.ow 0 3 (List.map e_S_Veneer r.Job.Picture.Veneers),.ow 0 9 (List.map e_S_Leaf r.Job.Leaves),.ow 0 5 (List.map e_S_Placement r.Job.Placements),.im 0 (I r.Job.Rules.Spacing),.im 0 (I r.Job.Rules.Margin),.im 0 (I r.Job.Rules.Angle),.im 0 (I r.Job.Rules.Shade),.im 0 (I r.Job.Thickness),.im 0 (I r.Job.Kerf),.im 0 (I r.Job.Bevel),.im 0 (I r.Job.Gap),.ow 0 1 (List.map eI r.Job.Order),.ow 0 1 (List.map eI r.Job.Cuts),.ow 0 4 (List.map e_S_Bond r.Bonds),.ow 0 4 (List.map e_S_Coat r.Coats),.im 0 (I r.Rates.Hour),.im 0 (I r.Rates.Edge),.im 0 (I r.Rates.Face),.im 0 (I r.Rates.Waste),.im 0 (I r.Rates.Margin)])]):=by
 unfold laws_toDesk at h
 refine gn 21 Try.func79 rfl ?_
 refine gs<|g0 j j (q (oBx j tF121 j (tkI (tkI (tkI (tkI (tkI (tkI (tkI (tkI (tkI (tkI (tkI (tkI (tkI (tkI (tkI (tkI (tkI (tkI (tkI (tkI (tkI (tkI (tkI (tkI tk0)))))))))))))))))))))))))<|q (oAl j tF134 (tkI (tkI (tkN (tkN (tkN (tkN (tkN (tkI (tkI (tkI (tkI (tkI (tkI (tkI (tkI (tkN (tkN (tkN (tkN (tkI (tkI (tkI (tkI (tkI tk0)))))))))))))))))))))))))<|nl)<|us<|gs<|g1 j j (mk [(1,M 1),(2,M 2)] [(1,Oa (G 2 (u_S_Desk a_0))),(2,Oa [C (I 0),C (I 0),Z (W 2 e_S_Point ([]:List S_Point)),Z (W 2 e_S_Face ([]:List S_Face)),Z (W 3 e_S_Veneer ([]:List S_Veneer)),Z (W 9 e_S_Leaf ([]:List S_Leaf)),Z (W 5 e_S_Placement ([]:List S_Placement)),C (I 0),C (I 0),C (I 0),C (I 0),C (I 0),C (I 0),C (I 0),C (I 0),Z (W 1 eI ([]:List Int)),Z (W 1 eI ([]:List Int)),Z (W 4 e_S_Bond ([]:List S_Bond)),Z (W 4 e_S_Coat ([]:List S_Coat)),C (I 0),C (I 0),C (I 0),C (I 0),C (I 0)])]) (q (oAl j tF134 (tkI (tkI (tkN (tkN (tkN (tkN (tkN (tkI (tkI (tkI (tkI (tkI (tkI (tkI (tkI (tkN (tkN (tkN (tkN (tkI (tkI (tkI (tkI (tkI tk0)))))))))))))))))))))))))<|nl)<|us<|gs<|?_
 obtain ⟨x6,hx6,h⟩:=bs h
 refine g1 j j (mk [(1,M 1),(2,M 2),(3,M 3)] [(1,Oa (G 2 (u_S_Desk a_0))),(2,Oa [C (I 0),C (I 0),Z (W 2 e_S_Point ([]:List S_Point)),Z (W 2 e_S_Face ([]:List S_Face)),Z (W 3 e_S_Veneer ([]:List S_Veneer)),Z (W 9 e_S_Leaf ([]:List S_Leaf)),Z (W 5 e_S_Placement ([]:List S_Placement)),C (I 0),C (I 0),C (I 0),C (I 0),C (I 0),C (I 0),C (I 0),C (I 0),Z (W 1 eI ([]:List Int)),Z (W 1 eI ([]:List Int)),Z (W 4 e_S_Bond ([]:List S_Bond)),Z (W 4 e_S_Coat ([]:List S_Coat)),C (I 0),C (I 0),C (I 0),C (I 0),C (I 0)]),(3,Oa [C (I 0),C (I 0),Z (W 2 e_S_Point ([]:List S_Point)),Z (W 2 e_S_Face ([]:List S_Face)),Z (W 3 e_S_Veneer ([]:List S_Veneer)),Z (W 9 e_S_Leaf ([]:List S_Leaf)),Z (W 5 e_S_Placement ([]:List S_Placement)),C (I 0),C (I 0),C (I 0),C (I 0),C (I 0),C (I 0),C (I 0),C (I 0),Z (W 1 eI ([]:List Int)),Z (W 1 eI ([]:List Int)),Z (W 4 e_S_Bond ([]:List S_Bond)),Z (W 4 e_S_Coat ([]:List S_Coat)),C (I 0),C (I 0),C (I 0),C (I 0),C (I 0)])]) (q (oFA (r':=.mp 1 0 0) j fF121_0 j j)<|q (oLd (cs:=[.im 0 _,.im 0 _,.im 2 _,.im 2 _,.im 2 _,.im 2 _,.im 2 _,.im 0 _,.im 0 _,.im 0 _,.im 0 _,.im 0 _,.im 0 _,.im 0 _,.im 0 _,.im 2 _,.im 2 _]) j tF115 j j)<|q (oCr (xs:=[.v true [.im 0 _,.im 0 _,.im 2 _,.im 2 _,.im 2 _,.im 2 _,.im 2 _,.im 0 _,.im 0 _,.im 0 _,.im 0 _,.im 0 _,.im 0 _,.im 0 _,.im 0 _,.im 2 _,.im 2 _]]) (vs:=[(true,[.im 0 _,.im 0 _,.own 6 0 0,.own 6 0 1,.own 6 0 2,.own 6 0 3,.own 6 0 4,.im 0 _,.im 0 _,.im 0 _,.im 0 _,.im 0 _,.im 0 _,.im 0 _,.im 0 _,.own 6 0 5,.own 6 0 6])]) (v:=.v true [.im 0 _,.im 0 _,.own 6 0 0,.own 6 0 1,.own 6 0 2,.own 6 0 3,.own 6 0 4,.im 0 _,.im 0 _,.im 0 _,.im 0 _,.im 0 _,.im 0 _,.im 0 _,.im 0 _,.own 6 0 5,.own 6 0 6]) (c:=⟨.sh,0,_⟩) (cs:=[⟨.sh,0,_⟩,⟨.sh,0,_⟩,⟨.sh,0,_⟩,⟨.sh,0,_⟩,⟨.sh,0,_⟩,⟨.sh,0,_⟩]) (L_laws_toJob hx6) (.inl j) j kF158_115 j (ppC j pp0) j j pb0 j j j)<|q (oFA (r':=.mp 3 0 0) j fF134_0 j j)<|q (oSt tF129 j j j (tkI (tkI (tkO j j (tkO j j (tkO j j (tkO j j (tkO j j (tkI (tkI (tkI (tkI (tkI (tkI (tkI (tkI (tkO j j (tkO j j tk0))))))))))))))))) j j j)<|nl)<|us<|gs<|?_
 obtain ⟨x10,hx10,h⟩:=bs h
 refine g1 j j (mk [(1,M 1),(2,M 2),(3,M 3)] [(1,Oa (G 2 (u_S_Desk a_0))),(2,Oa [C (I 0),C (I 0),Z (W 2 e_S_Point ([]:List S_Point)),Z (W 2 e_S_Face ([]:List S_Face)),Z (W 3 e_S_Veneer ([]:List S_Veneer)),Z (W 9 e_S_Leaf ([]:List S_Leaf)),Z (W 5 e_S_Placement ([]:List S_Placement)),C (I 0),C (I 0),C (I 0),C (I 0),C (I 0),C (I 0),C (I 0),C (I 0),Z (W 1 eI ([]:List Int)),Z (W 1 eI ([]:List Int)),Z (W 4 e_S_Bond ([]:List S_Bond)),Z (W 4 e_S_Coat ([]:List S_Coat)),C (I 0),C (I 0),C (I 0),C (I 0),C (I 0)]),(3,Oa [C (I x6.Picture.Drawing.Width),C (I x6.Picture.Drawing.Height),Z (W 2 e_S_Point x6.Picture.Drawing.Points),Z (W 2 e_S_Face x6.Picture.Drawing.Faces),Z (W 3 e_S_Veneer x6.Picture.Veneers),Z (W 9 e_S_Leaf x6.Leaves),Z (W 5 e_S_Placement x6.Placements),C (I x6.Rules.Spacing),C (I x6.Rules.Margin),C (I x6.Rules.Angle),C (I x6.Rules.Shade),C (I x6.Thickness),C (I x6.Kerf),C (I x6.Bevel),C (I x6.Gap),Z (W 1 eI x6.Order),Z (W 1 eI x6.Cuts),Z (W 4 e_S_Bond ([]:List S_Bond)),Z (W 4 e_S_Coat ([]:List S_Coat)),C (I 0),C (I 0),C (I 0),C (I 0),C (I 0)])]) (q (oFA (r':=.mp 1 0 17) j fF121_1 j j)<|q (oLd (cs:=[.im 2 _]) j tF116 j j)<|q (oCr (xs:=[.v false [.im 2 _]]) (vs:=[(false,[.own 10 0 0])]) (v:=.v false [.own 10 0 0]) (c:=⟨.sh,0,_⟩) (cs:=[]) (L_laws_toBondS hx10) (.inl j) j kF159_116 j (ppC j pp0) j j pb0 j j j)<|q (oFA (r':=.mp 3 0 17) j fF134_1 j j)<|q (oSt tF130 j j j (tkO j j tk0) j j j)<|nl)<|us<|gs<|?_
 obtain ⟨x14,hx14,h⟩:=bs h
 refine g1 j j (mk [(1,M 1),(2,M 2),(3,M 3)] [(1,Oa (G 2 (u_S_Desk a_0))),(2,Oa [C (I 0),C (I 0),Z (W 2 e_S_Point ([]:List S_Point)),Z (W 2 e_S_Face ([]:List S_Face)),Z (W 3 e_S_Veneer ([]:List S_Veneer)),Z (W 9 e_S_Leaf ([]:List S_Leaf)),Z (W 5 e_S_Placement ([]:List S_Placement)),C (I 0),C (I 0),C (I 0),C (I 0),C (I 0),C (I 0),C (I 0),C (I 0),Z (W 1 eI ([]:List Int)),Z (W 1 eI ([]:List Int)),Z (W 4 e_S_Bond ([]:List S_Bond)),Z (W 4 e_S_Coat ([]:List S_Coat)),C (I 0),C (I 0),C (I 0),C (I 0),C (I 0)]),(3,Oa [C (I x6.Picture.Drawing.Width),C (I x6.Picture.Drawing.Height),Z (W 2 e_S_Point x6.Picture.Drawing.Points),Z (W 2 e_S_Face x6.Picture.Drawing.Faces),Z (W 3 e_S_Veneer x6.Picture.Veneers),Z (W 9 e_S_Leaf x6.Leaves),Z (W 5 e_S_Placement x6.Placements),C (I x6.Rules.Spacing),C (I x6.Rules.Margin),C (I x6.Rules.Angle),C (I x6.Rules.Shade),C (I x6.Thickness),C (I x6.Kerf),C (I x6.Bevel),C (I x6.Gap),Z (W 1 eI x6.Order),Z (W 1 eI x6.Cuts),Z (W 4 e_S_Bond x10),Z (W 4 e_S_Coat ([]:List S_Coat)),C (I 0),C (I 0),C (I 0),C (I 0),C (I 0)])]) (q (oFA (r':=.mp 1 0 18) j fF121_2 j j)<|q (oLd (cs:=[.im 2 _]) j tF117 j j)<|q (oCr (xs:=[.v false [.im 2 _]]) (vs:=[(false,[.own 14 0 0])]) (v:=.v false [.own 14 0 0]) (c:=⟨.sh,0,_⟩) (cs:=[]) (L_laws_toCoatS hx14) (.inl j) j kF160_117 j (ppC j pp0) j j pb0 j j j)<|q (oFA (r':=.mp 3 0 18) j fF134_2 j j)<|q (oSt tF131 j j j (tkO j j tk0) j j j)<|nl)<|us<|gs<|?_
 obtain ⟨x18,hx18,h⟩:=bs h
 refine g1 j j (mk [(1,M 1),(2,M 2),(3,M 3)] [(1,Oa (G 2 (u_S_Desk a_0))),(2,Oa [C (I 0),C (I 0),Z (W 2 e_S_Point ([]:List S_Point)),Z (W 2 e_S_Face ([]:List S_Face)),Z (W 3 e_S_Veneer ([]:List S_Veneer)),Z (W 9 e_S_Leaf ([]:List S_Leaf)),Z (W 5 e_S_Placement ([]:List S_Placement)),C (I 0),C (I 0),C (I 0),C (I 0),C (I 0),C (I 0),C (I 0),C (I 0),Z (W 1 eI ([]:List Int)),Z (W 1 eI ([]:List Int)),Z (W 4 e_S_Bond ([]:List S_Bond)),Z (W 4 e_S_Coat ([]:List S_Coat)),C (I 0),C (I 0),C (I 0),C (I 0),C (I 0)]),(3,Oa [C (I x6.Picture.Drawing.Width),C (I x6.Picture.Drawing.Height),Z (W 2 e_S_Point x6.Picture.Drawing.Points),Z (W 2 e_S_Face x6.Picture.Drawing.Faces),Z (W 3 e_S_Veneer x6.Picture.Veneers),Z (W 9 e_S_Leaf x6.Leaves),Z (W 5 e_S_Placement x6.Placements),C (I x6.Rules.Spacing),C (I x6.Rules.Margin),C (I x6.Rules.Angle),C (I x6.Rules.Shade),C (I x6.Thickness),C (I x6.Kerf),C (I x6.Bevel),C (I x6.Gap),Z (W 1 eI x6.Order),Z (W 1 eI x6.Cuts),Z (W 4 e_S_Bond x10),Z (W 4 e_S_Coat x14),C (I 0),C (I 0),C (I 0),C (I 0),C (I 0)])]) (q (oFA (r':=.mp 1 0 19) j fF121_3 j j)<|q (oLd (cs:=[.im 0 _,.im 0 _,.im 0 _,.im 0 _,.im 0 _]) j tF119 j j)<|q (oCa (xs:=[.v true [.im 0 _,.im 0 _,.im 0 _,.im 0 _,.im 0 _]]) (vs:=[(true,[.im 0 _,.im 0 _,.im 0 _,.im 0 _,.im 0 _])]) (v:=.v true [.im 0 _,.im 0 _,.im 0 _,.im 0 _,.im 0 _]) (L_laws_toRates hx18) (.inl j) j kF161_119 j (ppC j pp0) j j pb0 j j j)<|q (oFA (r':=.mp 3 0 19) j fF134_3 j j)<|q (oSt tF132 j j j (tkI (tkI (tkI (tkI (tkI tk0))))) j j j)<|nl)<|us<|gs<|g1 j j (mk [(2,M 2),(3,M 3)] [(2,Oa [C (I 0),C (I 0),Z (W 2 e_S_Point ([]:List S_Point)),Z (W 2 e_S_Face ([]:List S_Face)),Z (W 3 e_S_Veneer ([]:List S_Veneer)),Z (W 9 e_S_Leaf ([]:List S_Leaf)),Z (W 5 e_S_Placement ([]:List S_Placement)),C (I 0),C (I 0),C (I 0),C (I 0),C (I 0),C (I 0),C (I 0),C (I 0),Z (W 1 eI ([]:List Int)),Z (W 1 eI ([]:List Int)),Z (W 4 e_S_Bond ([]:List S_Bond)),Z (W 4 e_S_Coat ([]:List S_Coat)),C (I 0),C (I 0),C (I 0),C (I 0),C (I 0)]),(3,Oa [C (I x6.Picture.Drawing.Width),C (I x6.Picture.Drawing.Height),Z (W 2 e_S_Point x6.Picture.Drawing.Points),Z (W 2 e_S_Face x6.Picture.Drawing.Faces),Z (W 3 e_S_Veneer x6.Picture.Veneers),Z (W 9 e_S_Leaf x6.Leaves),Z (W 5 e_S_Placement x6.Placements),C (I x6.Rules.Spacing),C (I x6.Rules.Margin),C (I x6.Rules.Angle),C (I x6.Rules.Shade),C (I x6.Thickness),C (I x6.Kerf),C (I x6.Bevel),C (I x6.Gap),Z (W 1 eI x6.Order),Z (W 1 eI x6.Cuts),Z (W 4 e_S_Bond x10),Z (W 4 e_S_Coat x14),C (I x18.Hour),C (I x18.Edge),C (I x18.Face),C (I x18.Waste),C (I x18.Margin)])]) (q (oLd (cs:=[.im 0 _,.im 0 _,.own 3 0 2,.own 3 0 3,.own 3 0 4,.own 3 0 5,.own 3 0 6,.im 0 _,.im 0 _,.im 0 _,.im 0 _,.im 0 _,.im 0 _,.im 0 _,.im 0 _,.own 3 0 15,.own 3 0 16,.own 3 0 17,.own 3 0 18,.im 0 _,.im 0 _,.im 0 _,.im 0 _,.im 0 _]) j tF134 j j)<|q (oSt tF134 j j j (tkI (tkI (tkO j j (tkO j j (tkO j j (tkO j j (tkO j j (tkI (tkI (tkI (tkI (tkI (tkI (tkI (tkI (tkO j j (tkO j j (tkO j j (tkO j j (tkI (tkI (tkI (tkI (tkI tk0)))))))))))))))))))))))) j j j)<|nl)<|us<|Go.ret (Unw.ret ?_)
 cases h
 exact fr rF79 j
theorem L_spec_l03Equal {a_0:(List S_Point)} {b_1:(List S_Point)} {r:Bool} (h:spec_l03Equal a_0 b_1=some r):FX 350 [.im 2 false [W 2 e_S_Point a_0],.im 2 false [W 2 e_S_Point b_1]] (B0 [(false,[.im 0 (V r)])]):=by
 unfold spec_l03Equal at h
 refine gn 26 Try.func350 rfl ?_
 refine gs<|g0 j j (q (oAsI j j)<|nl)<|us<|gs<|gs<|g0 j j (q (oMv j j)<|q (oLnI j j uF23 j)<|q (oMv j j)<|q (oLnI j j uF23 j)<|q (oBi j j j j)<|nl)<|us<|gc h j iNe (fun hc1 h=>?_) fun hc1 h=>?_
 ·refine gs<|g0 j j (q (oAsI j j)<|nl)<|us<|Go.ret (Unw.ret ?_)
  cases h
  exact fr rF350 j
 ·refine Go.skip<|us<|gs<|gs<|g0 j j (q (oAsI j j)<|nl)<|us<|Go.block<|?_
  obtain ⟨o,hl,h⟩:=bs h
  refine gl c350 j _ (fun (i_5_l4:Int)=>mk [(0,D 2 (W 2 e_S_Point a_0)),(1,D 2 (W 2 e_S_Point b_1)),(5,iv i_5_l4)] []) (fun (o:(Unit ⊕ Bool)) (p:Ex×St)=>match o with | (.inl _)=>p.1= .exit 0∧p.2.norm ([],[])=mk [] [] | (.inr r2)=>p.1= .ret∧fin Try.prog cfg 350 Try.f350 [.im 2 false [W 2 e_S_Point a_0],.im 2 false [W 2 e_S_Point b_1]] p.2=some (B0 [(false,[.im 0 (V r2)])])) hl (by kernel_rfl) ?_ ?_ ?_
  ·intro o p hp e
   rcases o with u | r2<;>exact nomatch (hp.1.symm.trans e)
  ·rintro i_5_l4 o h
   unfold spec_l03Equal_l4 at h
   refine gs<|gs<|g0 j j (q (oMv j j)<|q (oMv j j)<|q (oLnI j j uF23 j)<|q (oBi j j j j)<|nl)<|us<|gc h j iDec (fun hc6 h=>?_) fun hc6 h=>?_
   ·refine Go.skip<|us<|gs<|Go.block<|gs<|?_
    obtain ⟨x19,hx19,h⟩:=bs h
    obtain ⟨x23,hx23,h⟩:=bs h
    refine gd c350 j j j j (mk [(0,D 2 (W 2 e_S_Point a_0)),(1,D 2 (W 2 e_S_Point b_1)),(5,iv i_5_l4),(25,bv (!((x19.X==x23.X)&&(x19.Y==x23.Y))))] []) (t j j (oMv j j)<|t j j (oMv j j)<|t j j (oIAI j hx19 sF23 j j)<|t j j (oLd (cs:=[.im 2 _,.im 2 _]) j tF264 j j)<|t j j (oMv j j)<|t j j (oMv j j)<|t j j (oIAI j hx23 sF23 j j)<|t j j (oLd (cs:=[.im 2 _,.im 2 _]) j tF264 j j)<|t j j (oBa j (qNF264 x19.X x19.Y x23.X x23.Y) j j j j)<|sD (by kernel_rfl))<|us<|?_
    by_cases hc7:(x19.X=x23.X∧x19.Y=x23.Y)
    ·rw [if_pos hc7] at h
     refine gF j (nF ((iAnd iEq iEq).2 hc7))<|Go.skip<|Unw.blk<|us<|g0 j j (q (oMv j j)<|q (oBi j j j j)<|q (oAsI j j)<|nl)<|Unw.nil<|?_
     cases h
     exact ⟨j,(by kernel_rfl)⟩
    ·rw [if_neg hc7] at h
     refine gT j (nT (byF (iAnd iEq iEq) hc7))<|gs<|g0 j j (q (oAsI j j)<|nl)<|us<|Go.ret (Unw.ret ?_)
     cases h
     exact ⟨j,(fo rF350 j)⟩
   ·refine Go.exit<|ux<|Unw.nil<|?_
    cases h
    exact ⟨j,(by kernel_rfl)⟩
  ·rintro ⟨e,st⟩ hp
   rcases o with u | r2
   ·dsimp only at h
    obtain ⟨he,hst⟩:=hp
    obtain rfl:e= .exit 0:=he
    refine Unw.blkx<|us<|gs<|g2 c350 j j hst (q (oAsI j j)<|nl)<|us<|Go.ret (Unw.ret ?_)
    cases h
    exact fr rF350 j
   ·dsimp only at h
    obtain ⟨he,hfin⟩:=hp
    obtain rfl:e= .ret:=he
    cases h
    exact Unw.ret (Fin_ret hfin)
theorem L_spec_l00Same {a_0:(List Int)} {b_1:(List Int)} {r:Bool} (h:spec_l00Same a_0 b_1=some r):FX 251 [.im 2 false [W 1 eI a_0],.im 2 false [W 1 eI b_1]] (B0 [(false,[.im 0 (V r)])]):=by
 unfold spec_l00Same at h
 refine gn 26 Try.func251 rfl ?_
 refine gs<|g0 j j (q (oAsI j j)<|nl)<|us<|gs<|gs<|g0 j j (q (oMv j j)<|q (oLnI j j uF28 j)<|q (oMv j j)<|q (oLnI j j uF28 j)<|q (oBi j j j j)<|nl)<|us<|gc h j iNe (fun hc1 h=>?_) fun hc1 h=>?_
 ·refine gs<|g0 j j (q (oAsI j j)<|nl)<|us<|Go.ret (Unw.ret ?_)
  cases h
  exact fr rF251 j
 ·refine Go.skip<|us<|gs<|gs<|g0 j j (q (oAsI j j)<|nl)<|us<|Go.block<|?_
  obtain ⟨o,hl,h⟩:=bs h
  refine gl c251 j _ (fun (i_5_l4:Int)=>mk [(0,D 2 (W 1 eI a_0)),(1,D 2 (W 1 eI b_1)),(5,iv i_5_l4)] []) (fun (o:(Unit ⊕ Bool)) (p:Ex×St)=>match o with | (.inl _)=>p.1= .exit 0∧p.2.norm ([],[])=mk [] [] | (.inr r2)=>p.1= .ret∧fin Try.prog cfg 251 Try.f251 [.im 2 false [W 1 eI a_0],.im 2 false [W 1 eI b_1]] p.2=some (B0 [(false,[.im 0 (V r2)])])) hl (by kernel_rfl) ?_ ?_ ?_
  ·intro o p hp e
   rcases o with u | r2<;>exact nomatch (hp.1.symm.trans e)
  ·rintro i_5_l4 o h
   unfold spec_l00Same_l4 at h
   refine gs<|gs<|g0 j j (q (oMv j j)<|q (oMv j j)<|q (oLnI j j uF28 j)<|q (oBi j j j j)<|nl)<|us<|gc h j iDec (fun hc6 h=>?_) fun hc6 h=>?_
   ·refine Go.skip<|us<|gs<|Go.block<|gs<|?_
    obtain ⟨x19,hx19,h⟩:=bs h
    obtain ⟨x23,hx23,h⟩:=bs h
    refine gd c251 j j j j (mk [(0,D 2 (W 1 eI a_0)),(1,D 2 (W 1 eI b_1)),(5,iv i_5_l4),(25,bv (x19 != x23))] []) (t j j (oMv j j)<|t j j (oMv j j)<|t j j (oIAI j hx19 sF28 j j)<|t j j (oLd (cs:=[.im 2 _]) j tF2 j j)<|t j j (oMv j j)<|t j j (oMv j j)<|t j j (oIAI j hx23 sF28 j j)<|t j j (oLd (cs:=[.im 2 _]) j tF2 j j)<|t j j (oBi j j j j)<|sD (by kernel_rfl))<|us<|gc h j iNe (fun hc7 h=>?_) fun hc7 h=>?_
    ·refine gs<|g0 j j (q (oAsI j j)<|nl)<|us<|Go.ret (Unw.ret ?_)
     cases h
     exact ⟨j,(fo rF251 j)⟩
    ·refine Go.skip<|Unw.blk<|us<|g0 j j (q (oMv j j)<|q (oBi j j j j)<|q (oAsI j j)<|nl)<|Unw.nil<|?_
     cases h
     exact ⟨j,(by kernel_rfl)⟩
   ·refine Go.exit<|ux<|Unw.nil<|?_
    cases h
    exact ⟨j,(by kernel_rfl)⟩
  ·rintro ⟨e,st⟩ hp
   rcases o with u | r2
   ·dsimp only at h
    obtain ⟨he,hst⟩:=hp
    obtain rfl:e= .exit 0:=he
    refine Unw.blkx<|us<|gs<|g2 c251 j j hst (q (oAsI j j)<|nl)<|us<|Go.ret (Unw.ret ?_)
    cases h
    exact fr rF251 j
   ·dsimp only at h
    obtain ⟨he,hfin⟩:=hp
    obtain rfl:e= .ret:=he
    cases h
    exact Unw.ret (Fin_ret hfin)
theorem L_spec_l05Same {a_0:S_Drawing} {b_1:S_Drawing} {r:Bool} (h:spec_l05Same a_0 b_1=some r):FX 313 [.im 2 false [.cp (u_S_Drawing a_0) 0],.im 2 false [.cp (u_S_Drawing b_1) 0]] (B0 [(false,[.im 0 (V r)])]):=by
 unfold spec_l05Same at h
 refine gn 97 Try.func313 rfl ?_
 refine gs<|g0 j j (q (oAsI j j)<|nl)<|us<|gs<|gs<|?_
 obtain ⟨t_50_m1,hm17,h⟩:=bs h
 refine gd c313 j j j j (mk [(0,D 2 (.cp (u_S_Drawing a_0) 0)),(1,D 2 (.cp (u_S_Drawing b_1) 0)),(50,bv t_50_m1)] []) ?_ ?_
 ·refine t j j (oMv j j)<|t j j (oNl j j j)<|t j j (oFA (r':=.im 2 _) j fF26_0 j j)<|t j j (oLd (cs:=[.im 2 _]) j tF2 j j)<|t j j (oMv j j)<|t j j (oNl j j j)<|t j j (oFA (r':=.im 2 _) j fF26_0 j j)<|t j j (oLd (cs:=[.im 2 _]) j tF2 j j)<|t j j (oBi j j j j)<|t j j (oMv j j)<|?_
  refine ic hm17 (fun hc1 hm17=>?_) fun hc1 hm17=>?_
  ·cases hm17
   exact tF j j j j (iNe.2 hc1) j<|tF j j j j (iNe.2 hc1) j<|tF j j j j (iNe.2 hc1) j<|tF j j j j (iNe.2 hc1) j<|tF j j j j (iNe.2 hc1) j<|tF j j j j (iNe.2 hc1) j<|tF j j j j (iNe.2 hc1) j<|tF j j j j (iNe.2 hc1) j<|tF j j j j (iNe.2 hc1) j<|t j j (oPkT j j (iNe.2 hc1) j)<|t j j (oMv j j)<|tF j j j j j j<|tF j j j j j j<|tF j j j j j j<|tF j j j j j j<|tF j j j j j j<|tF j j j j j j<|tF j j j j j j<|tF j j j j j j<|sS (dF j j j j j) trivial (tF j j j j j j<|t j j (oPkT j j j j)<|t j j (oMv j j)<|tF j j j j j j<|tF j j j j j j<|tF j j j j j j<|tF j j j j j j<|tF j j j j j j<|tF j j j j j j<|tF j j j j j j<|tF j j j j j j<|tF j j j j j j<|tF j j j j j j<|tF j j j j j j<|t j j (oPkT j j j j)<|sD (by kernel_rfl))
  ·refine tT j j j j (byF iNe hc1) (oMv j j)<|tT j j j j (byF iNe hc1) (oNl j j j)<|tT j j j j (byF iNe hc1) (oFA (r':=.im 2 _) j fF26_1 j j)<|tT j j j j (byF iNe hc1) (oLd (cs:=[.im 2 _]) j tF2 j j)<|tT j j j j (byF iNe hc1) (oMv j j)<|tT j j j j (byF iNe hc1) (oNl j j j)<|tT j j j j (byF iNe hc1) (oFA (r':=.im 2 _) j fF26_1 j j)<|tT j j j j (byF iNe hc1) (oLd (cs:=[.im 2 _]) j tF2 j j)<|tT j j j j (byF iNe hc1) (oBi j j j j)<|t j j (oPkF j j (byF iNe hc1) j)<|t j j (oMv j j)<|?_
   refine ic hm17 (fun hc2 hm17=>?_) fun hc2 hm17=>?_
   ·cases hm17
    exact tF j j j j (iNe.2 hc2) j<|tF j j j j (iNe.2 hc2) j<|tF j j j j (iNe.2 hc2) j<|tF j j j j (iNe.2 hc2) j<|tF j j j j (iNe.2 hc2) j<|tF j j j j (iNe.2 hc2) j<|tF j j j j (iNe.2 hc2) j<|tF j j j j (iNe.2 hc2) j<|sS (dF j j j (iNe.2 hc2) j) trivial (tF j j j j (iNe.2 hc2) j<|t j j (oPkT j j (iNe.2 hc2) j)<|t j j (oMv j j)<|tF j j j j j j<|tF j j j j j j<|tF j j j j j j<|tF j j j j j j<|tF j j j j j j<|tF j j j j j j<|tF j j j j j j<|tF j j j j j j<|tF j j j j j j<|tF j j j j j j<|tF j j j j j j<|t j j (oPkT j j j j)<|sD (by kernel_rfl))
   ·obtain ⟨x35,hx35,hm17⟩:=bs hm17
    refine tT j j j j (byF iNe hc2) (oMv j j)<|tT j j j j (byF iNe hc2) (oNl j j j)<|tT j j j j (byF iNe hc2) (oFA (r':=.im 2 _) j fF26_2 j j)<|tT j j j j (byF iNe hc2) (oLd (cs:=[.im 2 _]) j tF23 j j)<|tT j j j j (byF iNe hc2) (oMv j j)<|tT j j j j (byF iNe hc2) (oNl j j j)<|tT j j j j (byF iNe hc2) (oFA (r':=.im 2 _) j fF26_2 j j)<|?_
    refine ic hm17 (fun hc3 hm17=>?_) fun hc3 hm17=>?_
    ·cases hm17
     exact tT j j j j (byF iNe hc2) (oLd (cs:=[.im 2 _]) j tF23 j j)<|sS (dT z313 j j j (byF iNe hc2) (oCa (xs:=[.v false [.im 2 _],.v false [.im 2 _]]) (vs:=[(false,[.im 0 _])]) (v:=.v false [.im 0 _]) (L_spec_l03Equal hx35) (.inl j) j kF350_23_23 j (ppC j (ppC j pp0)) j j pb0 j j j)) trivial (tT j j j j (byF iNe hc2) (oUn j j j)<|t j j (oPkF j j (byF iNe hc2) j)<|t j j (oMv j j)<|tT j j j j (nF (iR.2 hc3)) (oMv j j)<|tT j j j j (nF (iR.2 hc3)) (oNl j j j)<|tT j j j j (nF (iR.2 hc3)) (oFA (r':=.im 2 _) j fF26_3 j j)<|tT j j j j (nF (iR.2 hc3)) (oLd (cs:=[.im 2 _]) j tF24 j j)<|tT j j j j (nF (iR.2 hc3)) (oLnI j j uF24 j)<|tT j j j j (nF (iR.2 hc3)) (oMv j j)<|tT j j j j (nF (iR.2 hc3)) (oNl j j j)<|tT j j j j (nF (iR.2 hc3)) (oFA (r':=.im 2 _) j fF26_3 j j)<|tT j j j j (nF (iR.2 hc3)) (oLd (cs:=[.im 2 _]) j tF24 j j)<|tT j j j j (nF (iR.2 hc3)) (oLnI j j uF24 j)<|tT j j j j (nF (iR.2 hc3)) (oBi j j j j)<|t j j (oPkF j j (nF (iR.2 hc3)) j)<|sD (by kernel_rfl))
    ·cases hm17
     exact tT j j j j (byF iNe hc2) (oLd (cs:=[.im 2 _]) j tF23 j j)<|sS (dT z313 j j j (byF iNe hc2) (oCa (xs:=[.v false [.im 2 _],.v false [.im 2 _]]) (vs:=[(false,[.im 0 _])]) (v:=.v false [.im 0 _]) (L_spec_l03Equal hx35) (.inl j) j kF350_23_23 j (ppC j (ppC j pp0)) j j pb0 j j j)) trivial (tT j j j j (byF iNe hc2) (oUn j j j)<|t j j (oPkF j j (byF iNe hc2) j)<|t j j (oMv j j)<|tF j j j j (nT (byF iR hc3)) j<|tF j j j j (nT (byF iR hc3)) j<|tF j j j j (nT (byF iR hc3)) j<|tF j j j j (nT (byF iR hc3)) j<|tF j j j j (nT (byF iR hc3)) j<|tF j j j j (nT (byF iR hc3)) j<|tF j j j j (nT (byF iR hc3)) j<|tF j j j j (nT (byF iR hc3)) j<|tF j j j j (nT (byF iR hc3)) j<|tF j j j j (nT (byF iR hc3)) j<|tF j j j j (nT (byF iR hc3)) j<|t j j (oPkT j j (nT (byF iR hc3)) j)<|sD (by kernel_rfl))
 ·refine us<|gc h j iR (fun hc4 h=>?_) fun hc4 h=>?_
  ·refine gs<|g0 j j (q (oAsI j j)<|nl)<|us<|Go.ret (Unw.ret ?_)
   cases h
   exact fr rF313 j
  ·refine Go.skip<|us<|gs<|gs<|g0 j j (q (oAsI j j)<|nl)<|us<|Go.block<|?_
   obtain ⟨o,hl,h⟩:=bs h
   refine gl c313 j _ (fun (i_5_l4:Int)=>mk [(0,D 2 (.cp (u_S_Drawing a_0) 0)),(1,D 2 (.cp (u_S_Drawing b_1) 0)),(5,iv i_5_l4)] []) (fun (o:(Unit ⊕ Bool)) (p:Ex×St)=>match o with | (.inl _)=>p.1= .exit 0∧p.2.norm ([],[])=mk [] [] | (.inr r2)=>p.1= .ret∧fin Try.prog cfg 313 Try.f313 [.im 2 false [.cp (u_S_Drawing a_0) 0],.im 2 false [.cp (u_S_Drawing b_1) 0]] p.2=some (B0 [(false,[.im 0 (V r2)])])) hl (by kernel_rfl) ?_ ?_ ?_
   ·intro o p hp e
    rcases o with u | r2<;>exact nomatch (hp.1.symm.trans e)
   ·rintro i_5_l4 o h
    unfold spec_l05Same_l4 at h
    refine gs<|gs<|g0 j j (q (oMv j j)<|q (oMv j j)<|q (oNl j j j)<|q (oFA (r':=.im 2 _) j fF26_3 j j)<|q (oLd (cs:=[.im 2 _]) j tF24 j j)<|q (oLnI j j uF24 j)<|q (oBi j j j j)<|nl)<|us<|gc h j iDec (fun hc13 h=>?_) fun hc13 h=>?_
    ·refine Go.skip<|us<|gs<|Go.block<|gs<|?_
     obtain ⟨x65,hx65,h⟩:=bs h
     obtain ⟨x73,hx73,h⟩:=bs h
     obtain ⟨t_96_m6,hm16,h⟩:=bs h
     refine gd c313 j j j j (mk [(0,D 2 (.cp (u_S_Drawing a_0) 0)),(1,D 2 (.cp (u_S_Drawing b_1) 0)),(5,iv i_5_l4),(96,bv t_96_m6)] []) ?_ ?_
     ·refine t j j (oMv j j)<|t j j (oNl j j j)<|t j j (oFA (r':=.im 2 _) j fF26_3 j j)<|t j j (oLd (cs:=[.im 2 _]) j tF24 j j)<|t j j (oMv j j)<|t j j (oIAI j hx65 sF24 j j)<|t j j (oFA (r':=.im 2 _) j fF257_0 j j)<|t j j (oLd (cs:=[.im 2 _]) j tF9 j j)<|t j j (oMv j j)<|t j j (oNl j j j)<|t j j (oFA (r':=.im 2 _) j fF26_3 j j)<|t j j (oLd (cs:=[.im 2 _]) j tF24 j j)<|t j j (oMv j j)<|t j j (oIAI j hx73 sF24 j j)<|t j j (oFA (r':=.im 2 _) j fF257_0 j j)<|t j j (oLd (cs:=[.im 2 _]) j tF9 j j)<|t j j (oBi j j j j)<|t j j (oMv j j)<|?_
      refine ic hm16 (fun hc14 hm16=>?_) fun hc14 hm16=>?_
      ·cases hm16
       exact tF j j j j ((iNot iStr).2 hc14) j<|tF j j j j ((iNot iStr).2 hc14) j<|tF j j j j ((iNot iStr).2 hc14) j<|tF j j j j ((iNot iStr).2 hc14) j<|tF j j j j ((iNot iStr).2 hc14) j<|tF j j j j ((iNot iStr).2 hc14) j<|tF j j j j ((iNot iStr).2 hc14) j<|tF j j j j ((iNot iStr).2 hc14) j<|tF j j j j ((iNot iStr).2 hc14) j<|tF j j j j ((iNot iStr).2 hc14) j<|tF j j j j ((iNot iStr).2 hc14) j<|tF j j j j ((iNot iStr).2 hc14) j<|tF j j j j ((iNot iStr).2 hc14) j<|tF j j j j ((iNot iStr).2 hc14) j<|tF j j j j ((iNot iStr).2 hc14) j<|tF j j j j ((iNot iStr).2 hc14) j<|sS (dF j j j ((iNot iStr).2 hc14) j) trivial (tF j j j j ((iNot iStr).2 hc14) j<|t j j (oPkT j j ((iNot iStr).2 hc14) j)<|sD (by kernel_rfl))
      ·obtain ⟨x83,hx83,hm16⟩:=bs hm16
       obtain ⟨x91,hx91,hm16⟩:=bs hm16
       obtain ⟨x94,hx94,hm16⟩:=bs hm16
       cases hm16
       exact tT j j j j (byF (iNot iStr) hc14) (oMv j j)<|tT j j j j (byF (iNot iStr) hc14) (oNl j j j)<|tT j j j j (byF (iNot iStr) hc14) (oFA (r':=.im 2 _) j fF26_3 j j)<|tT j j j j (byF (iNot iStr) hc14) (oLd (cs:=[.im 2 _]) j tF24 j j)<|tT j j j j (byF (iNot iStr) hc14) (oMv j j)<|tT j j j j (byF (iNot iStr) hc14) (oIAI j hx83 sF24 j j)<|tT j j j j (byF (iNot iStr) hc14) (oFA (r':=.im 2 _) j fF257_1 j j)<|tT j j j j (byF (iNot iStr) hc14) (oLd (cs:=[.im 2 _]) j tF28 j j)<|tT j j j j (byF (iNot iStr) hc14) (oMv j j)<|tT j j j j (byF (iNot iStr) hc14) (oNl j j j)<|tT j j j j (byF (iNot iStr) hc14) (oFA (r':=.im 2 _) j fF26_3 j j)<|tT j j j j (byF (iNot iStr) hc14) (oLd (cs:=[.im 2 _]) j tF24 j j)<|tT j j j j (byF (iNot iStr) hc14) (oMv j j)<|tT j j j j (byF (iNot iStr) hc14) (oIAI j hx91 sF24 j j)<|tT j j j j (byF (iNot iStr) hc14) (oFA (r':=.im 2 _) j fF257_1 j j)<|tT j j j j (byF (iNot iStr) hc14) (oLd (cs:=[.im 2 _]) j tF28 j j)<|sS (dT z313 j j j (byF (iNot iStr) hc14) (oCa (xs:=[.v false [.im 2 _],.v false [.im 2 _]]) (vs:=[(false,[.im 0 _])]) (v:=.v false [.im 0 _]) (L_spec_l00Same hx94) (.inl j) j kF251_28_28 j (ppC j (ppC j pp0)) j j pb0 j j j)) trivial (tT j j j j (byF (iNot iStr) hc14) (oUn j j j)<|t j j (oPkF j j (byF (iNot iStr) hc14) j)<|sD (by kernel_rfl))
     ·refine us<|gc h j iR (fun hc15 h=>?_) fun hc15 h=>?_
      ·refine gs<|g0 j j (q (oAsI j j)<|nl)<|us<|Go.ret (Unw.ret ?_)
       cases h
       exact ⟨j,(fo rF313 j)⟩
      ·refine Go.skip<|Unw.blk<|us<|g0 j j (q (oMv j j)<|q (oBi j j j j)<|q (oAsI j j)<|nl)<|Unw.nil<|?_
       cases h
       exact ⟨j,(by kernel_rfl)⟩
    ·refine Go.exit<|ux<|Unw.nil<|?_
     cases h
     exact ⟨j,(by kernel_rfl)⟩
   ·rintro ⟨e,st⟩ hp
    rcases o with u | r2
    ·dsimp only at h
     obtain ⟨he,hst⟩:=hp
     obtain rfl:e= .exit 0:=he
     refine Unw.blkx<|us<|gs<|g2 c313 j j hst (q (oAsI j j)<|nl)<|us<|Go.ret (Unw.ret ?_)
     cases h
     exact fr rF313 j
    ·dsimp only at h
     obtain ⟨he,hfin⟩:=hp
     obtain rfl:e= .ret:=he
     cases h
     exact Unw.ret (Fin_ret hfin)
theorem L_spec_l08Same {a_0:S_Picture} {b_1:S_Picture} {r:Bool} (h:spec_l08Same a_0 b_1=some r):FX 249 [.im 2 false [.cp (u_S_Picture a_0) 0],.im 2 false [.cp (u_S_Picture b_1) 0]] (B0 [(false,[.im 0 (V r)])]):=by
 unfold spec_l08Same at h
 refine gn 51 Try.func249 rfl ?_
 refine gs<|g0 j j (q (oAsI j j)<|nl)<|us<|gs<|gs<|?_
 obtain ⟨x12,hx12,h⟩:=bs h
 refine gd c249 j j j j (mk [(0,D 2 (.cp (u_S_Picture a_0) 0)),(1,D 2 (.cp (u_S_Picture b_1) 0)),(26,bv ((!x12)||((a_0.Veneers.length:Int) != (b_1.Veneers.length:Int))))] []) ?_ ?_
 ·refine t j j (oMv j j)<|t j j (oNl j j j)<|t j j (oFA (r':=.im 2 _) j fF125_0 j j)<|t j j (oMv j j)<|t j j (oNl j j j)<|?_
  by_cases hc1:x12=true
  ·exact t rfl rfl (oFA (r':=.im 2 _) rfl fF125_0 rfl rfl)<|sS (dN z249 rfl (oCa (xs:=[.v false [.im 2 _],.v false [.im 2 _]]) (vs:=[(false,[.im 0 _])]) (v:=.v false [.im 0 _]) (L_spec_l05Same hx12) (.inl rfl) rfl kF313_141_141 rfl (ppC rfl (ppC rfl pp0)) rfl rfl pb0 rfl rfl rfl)) trivial (t rfl rfl (oUn rfl rfl rfl)<|t rfl rfl (oMv rfl rfl)<|tT rfl rfl rfl rfl (nF (iR.2 hc1)) (oMv rfl rfl)<|tT rfl rfl rfl rfl (nF (iR.2 hc1)) (oNl rfl rfl rfl)<|tT rfl rfl rfl rfl (nF (iR.2 hc1)) (oFA (r':=.im 2 _) rfl fF125_1 rfl rfl)<|tT rfl rfl rfl rfl (nF (iR.2 hc1)) (oLd (cs:=[.im 2 _]) rfl tF84 rfl rfl)<|tT rfl rfl rfl rfl (nF (iR.2 hc1)) (oLnI rfl rfl uF84 rfl)<|tT rfl rfl rfl rfl (nF (iR.2 hc1)) (oMv rfl rfl)<|tT rfl rfl rfl rfl (nF (iR.2 hc1)) (oNl rfl rfl rfl)<|tT rfl rfl rfl rfl (nF (iR.2 hc1)) (oFA (r':=.im 2 _) rfl fF125_1 rfl rfl)<|tT rfl rfl rfl rfl (nF (iR.2 hc1)) (oLd (cs:=[.im 2 _]) rfl tF84 rfl rfl)<|tT rfl rfl rfl rfl (nF (iR.2 hc1)) (oLnI rfl rfl uF84 rfl)<|tT rfl rfl rfl rfl (nF (iR.2 hc1)) (oBi rfl rfl rfl rfl)<|t rfl rfl (oPkF rfl rfl (nF (iR.2 hc1)) rfl)<|sD (Eq.trans (b:=(fun t_26_m1:Bool=>mk [(0,D 2 (.cp (u_S_Picture a_0) 0)),(1,D 2 (.cp (u_S_Picture b_1) 0)),(26,bv t_26_m1)] []) ((a_0.Veneers.length:Int) != (b_1.Veneers.length:Int))) (by kernel_rfl) (congrArg (fun t_26_m1:Bool=>mk [(0,D 2 (.cp (u_S_Picture a_0) 0)),(1,D 2 (.cp (u_S_Picture b_1) 0)),(26,bv t_26_m1)] []) (by first | rfl | (simp [(iR.2 hc1)];done) | (simp [(iR.2 hc1)];omega)))))
  ·exact t rfl rfl (oFA (r':=.im 2 _) rfl fF125_0 rfl rfl)<|sS (dN z249 rfl (oCa (xs:=[.v false [.im 2 _],.v false [.im 2 _]]) (vs:=[(false,[.im 0 _])]) (v:=.v false [.im 0 _]) (L_spec_l05Same hx12) (.inl rfl) rfl kF313_141_141 rfl (ppC rfl (ppC rfl pp0)) rfl rfl pb0 rfl rfl rfl)) trivial (t rfl rfl (oUn rfl rfl rfl)<|t rfl rfl (oMv rfl rfl)<|tF rfl rfl rfl rfl (nT (byF iR hc1)) rfl<|tF rfl rfl rfl rfl (nT (byF iR hc1)) rfl<|tF rfl rfl rfl rfl (nT (byF iR hc1)) rfl<|tF rfl rfl rfl rfl (nT (byF iR hc1)) rfl<|tF rfl rfl rfl rfl (nT (byF iR hc1)) rfl<|tF rfl rfl rfl rfl (nT (byF iR hc1)) rfl<|tF rfl rfl rfl rfl (nT (byF iR hc1)) rfl<|tF rfl rfl rfl rfl (nT (byF iR hc1)) rfl<|tF rfl rfl rfl rfl (nT (byF iR hc1)) rfl<|tF rfl rfl rfl rfl (nT (byF iR hc1)) rfl<|tF rfl rfl rfl rfl (nT (byF iR hc1)) rfl<|t rfl rfl (oPkT rfl rfl (nT (byF iR hc1)) rfl)<|sD (Eq.trans (b:=(fun t_26_m1:Bool=>mk [(0,D 2 (.cp (u_S_Picture a_0) 0)),(1,D 2 (.cp (u_S_Picture b_1) 0)),(26,bv t_26_m1)] []) true) (by kernel_rfl) (congrArg (fun t_26_m1:Bool=>mk [(0,D 2 (.cp (u_S_Picture a_0) 0)),(1,D 2 (.cp (u_S_Picture b_1) 0)),(26,bv t_26_m1)] []) (by first | rfl | (simp [(byF iR hc1)];done) | (simp [(byF iR hc1)];omega)))))
 ·refine us<|gc h j (iOr (iNot iR) iNe) (fun hc2 h=>?_) fun hc2 h=>?_
  ·refine gs<|g0 j j (q (oAsI j j)<|nl)<|us<|Go.ret (Unw.ret ?_)
   cases h
   exact fr rF249 j
  ·refine Go.skip<|us<|gs<|gs<|g0 j j (q (oAsI j j)<|nl)<|us<|Go.block<|?_
   obtain ⟨o,hl,h⟩:=bs h
   refine gl c249 j _ (fun (i_5_l4:Int)=>mk [(0,D 2 (.cp (u_S_Picture a_0) 0)),(1,D 2 (.cp (u_S_Picture b_1) 0)),(5,iv i_5_l4)] []) (fun (o:(Unit ⊕ Bool)) (p:Ex×St)=>match o with | (.inl _)=>p.1= .exit 0∧p.2.norm ([],[])=mk [] [] | (.inr r2)=>p.1= .ret∧fin Try.prog cfg 249 Try.f249 [.im 2 false [.cp (u_S_Picture a_0) 0],.im 2 false [.cp (u_S_Picture b_1) 0]] p.2=some (B0 [(false,[.im 0 (V r2)])])) hl (by kernel_rfl) ?_ ?_ ?_
   ·intro o p hp e
    rcases o with u | r2<;>exact nomatch (hp.1.symm.trans e)
   ·rintro i_5_l4 o h
    unfold spec_l08Same_l4 at h
    refine gs<|gs<|g0 j j (q (oMv j j)<|q (oMv j j)<|q (oNl j j j)<|q (oFA (r':=.im 2 _) j fF125_1 j j)<|q (oLd (cs:=[.im 2 _]) j tF84 j j)<|q (oLnI j j uF84 j)<|q (oBi j j j j)<|nl)<|us<|gc h j iDec (fun hc7 h=>?_) fun hc7 h=>?_
    ·refine Go.skip<|us<|gs<|Go.block<|gs<|?_
     obtain ⟨x41,hx41,h⟩:=bs h
     obtain ⟨x48,hx48,h⟩:=bs h
     refine gd c249 j j j j (mk [(0,D 2 (.cp (u_S_Picture a_0) 0)),(1,D 2 (.cp (u_S_Picture b_1) 0)),(5,iv i_5_l4),(50,bv (!((x41.Species.toList==x48.Species.toList)&&((x41.Shade==x48.Shade)&&(x41.Grain==x48.Grain)))))] []) (t j j (oMv j j)<|t j j (oNl j j j)<|t j j (oFA (r':=.im 2 _) j fF125_1 j j)<|t j j (oLd (cs:=[.im 2 _]) j tF84 j j)<|t j j (oMv j j)<|t j j (oIAI j hx41 sF84 j j)<|t j j (oLd (cs:=[.im 2 _,.im 2 _,.im 2 _]) j tF104 j j)<|t j j (oMv j j)<|t j j (oNl j j j)<|t j j (oFA (r':=.im 2 _) j fF125_1 j j)<|t j j (oLd (cs:=[.im 2 _]) j tF84 j j)<|t j j (oMv j j)<|t j j (oIAI j hx48 sF84 j j)<|t j j (oLd (cs:=[.im 2 _,.im 2 _,.im 2 _]) j tF104 j j)<|t j j (oBa j (qNF104 x41.Species x41.Shade x41.Grain x48.Species x48.Shade x48.Grain) j j j j)<|sD (by kernel_rfl))<|us<|?_
     by_cases hc8:(x41.Species=x48.Species∧(x41.Shade=x48.Shade∧x41.Grain=x48.Grain))
     ·rw [if_pos hc8] at h
      refine gF j (nF ((iAnd iStr (iAnd iEq iEq)).2 hc8))<|Go.skip<|Unw.blk<|us<|g0 j j (q (oMv j j)<|q (oBi j j j j)<|q (oAsI j j)<|nl)<|Unw.nil<|?_
      cases h
      exact ⟨j,(by kernel_rfl)⟩
     ·rw [if_neg hc8] at h
      refine gT j (nT (byF (iAnd iStr (iAnd iEq iEq)) hc8))<|gs<|g0 j j (q (oAsI j j)<|nl)<|us<|Go.ret (Unw.ret ?_)
      cases h
      exact ⟨j,(fo rF249 j)⟩
    ·refine Go.exit<|ux<|Unw.nil<|?_
     cases h
     exact ⟨j,(by kernel_rfl)⟩
   ·rintro ⟨e,st⟩ hp
    rcases o with u | r2
    ·dsimp only at h
     obtain ⟨he,hst⟩:=hp
     obtain rfl:e= .exit 0:=he
     refine Unw.blkx<|us<|gs<|g2 c249 j j hst (q (oAsI j j)<|nl)<|us<|Go.ret (Unw.ret ?_)
     cases h
     exact fr rF249 j
    ·dsimp only at h
     obtain ⟨he,hfin⟩:=hp
     obtain rfl:e= .ret:=he
     cases h
     exact Unw.ret (Fin_ret hfin)
end
end Go.Proofs.Ytambonpepalofaa
