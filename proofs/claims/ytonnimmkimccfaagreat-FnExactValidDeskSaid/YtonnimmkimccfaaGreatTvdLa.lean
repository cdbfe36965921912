/- The machine answers, at each function of the program that is reached, what its plain function answers. Conditions: none. -/
import Derived.Test.YtonnimmkimccfaaGreatProg
import Derived.KernelRfl
import Derived.Test.YtonnimmkimccfaaGreatSimRs
import Derived.Test.YtonnimmkimccfaaGreatTvdT
namespace Go.Proofs.YtonnimmkimccfaaGreat
open Go Go.Sim Go.Pw Go.Proofs
set_option linter.unusedVariables false
set_option linter.unusedSimpArgs false
set_option maxRecDepth 100000
set_option maxHeartbeats 4000000
noncomputable section
noncomputable abbrev u_S_Point (x:S_Point):List AV:=[I x.X,I x.Y]
noncomputable def e_S_Point (x:S_Point):AV:= .agg (u_S_Point x)
noncomputable abbrev u_S_Face (x:S_Face):List AV:=[Y x.Name,W 1 eI x.Ring]
noncomputable def e_S_Face (x:S_Face):AV:= .agg (u_S_Face x)
noncomputable abbrev u_S_Drawing (x:S_Drawing):List AV:=[I x.Width,I x.Height,W 2 e_S_Point x.Points,W 2 e_S_Face x.Faces]
noncomputable def e_S_Drawing (x:S_Drawing):AV:= .agg (u_S_Drawing x)
noncomputable abbrev u_S_Veneer (x:S_Veneer):List AV:=[Y x.Species,I x.Shade,I x.Grain]
noncomputable def e_S_Veneer (x:S_Veneer):AV:= .agg (u_S_Veneer x)
noncomputable abbrev u_S_Picture (x:S_Picture):List AV:=[I x.Drawing.Width,I x.Drawing.Height,W 2 e_S_Point x.Drawing.Points,W 2 e_S_Face x.Drawing.Faces,W 3 e_S_Veneer x.Veneers]
noncomputable def e_S_Picture (x:S_Picture):AV:= .agg (u_S_Picture x)
noncomputable abbrev u_S_Box (x:S_Box):List AV:=[I x.X,I x.Y,I x.Width,I x.Length]
noncomputable def e_S_Box (x:S_Box):AV:= .agg (u_S_Box x)
noncomputable abbrev u_S_Leaf (x:S_Leaf):List AV:=[Y x.Id,Y x.Flitch,I x.Number,Y x.Veneer.Species,I x.Veneer.Shade,I x.Veneer.Grain,I x.Width,I x.Length,W 4 e_S_Box x.Defects]
noncomputable def e_S_Leaf (x:S_Leaf):AV:= .agg (u_S_Leaf x)
noncomputable abbrev u_S_Placement (x:S_Placement):List AV:=[I x.Face,I x.Leaf,I x.X,I x.Y,I x.Turn]
noncomputable def e_S_Placement (x:S_Placement):AV:= .agg (u_S_Placement x)
noncomputable abbrev u_S_Rules (x:S_Rules):List AV:=[I x.Spacing,I x.Margin,I x.Angle,I x.Shade]
noncomputable def e_S_Rules (x:S_Rules):AV:= .agg (u_S_Rules x)
noncomputable abbrev u_S_Job (x:S_Job):List AV:=[I x.Picture.Drawing.Width,I x.Picture.Drawing.Height,W 2 e_S_Point x.Picture.Drawing.Points,W 2 e_S_Face x.Picture.Drawing.Faces,W 3 e_S_Veneer x.Picture.Veneers,W 9 e_S_Leaf x.Leaves,W 5 e_S_Placement x.Placements,I x.Rules.Spacing,I x.Rules.Margin,I x.Rules.Angle,I x.Rules.Shade,I x.Thickness,I x.Kerf,I x.Bevel,I x.Gap,W 1 eI x.Order,W 1 eI x.Cuts]
noncomputable def e_S_Job (x:S_Job):AV:= .agg (u_S_Job x)
noncomputable abbrev u_S_Bond (x:S_Bond):List AV:=[Y x.Name,I x.Spread,I x.Open,I x.Press]
noncomputable def e_S_Bond (x:S_Bond):AV:= .agg (u_S_Bond x)
noncomputable abbrev u_S_Coat (x:S_Coat):List AV:=[Y x.Name,I x.Work,I x.Dry,I x.Wait]
noncomputable def e_S_Coat (x:S_Coat):AV:= .agg (u_S_Coat x)
noncomputable abbrev u_S_Rates (x:S_Rates):List AV:=[I x.Hour,I x.Edge,I x.Face,I x.Waste,I x.Margin]
noncomputable def e_S_Rates (x:S_Rates):AV:= .agg (u_S_Rates x)
noncomputable abbrev u_S_Desk (x:S_Desk):List AV:=[I x.Job.Picture.Drawing.Width,I x.Job.Picture.Drawing.Height,W 2 e_S_Point x.Job.Picture.Drawing.Points,W 2 e_S_Face x.Job.Picture.Drawing.Faces,W 3 e_S_Veneer x.Job.Picture.Veneers,W 9 e_S_Leaf x.Job.Leaves,W 5 e_S_Placement x.Job.Placements,I x.Job.Rules.Spacing,I x.Job.Rules.Margin,I x.Job.Rules.Angle,I x.Job.Rules.Shade,I x.Job.Thickness,I x.Job.Kerf,I x.Job.Bevel,I x.Job.Gap,W 1 eI x.Job.Order,W 1 eI x.Job.Cuts,W 4 e_S_Bond x.Bonds,W 4 e_S_Coat x.Coats,I x.Rates.Hour,I x.Rates.Edge,I x.Rates.Face,I x.Rates.Waste,I x.Rates.Margin]
noncomputable def e_S_Desk (x:S_Desk):AV:= .agg (u_S_Desk x)
noncomputable def fc7:FCfg:={par:=[.cst false],inn:=[(1,some ([1],[1])),(7,some ([1,4,5],[1,5]))],out:=[(10,some ([26],[]))],loopK:=[],frz:=[],sch:=[(10,.first 0 [3,4] [1,2]<| .first 1 [2,3,4] []<| .fork 2 (.fork 3 (.first 4 [] []<| .done) (.stop)) (.stop))]}
noncomputable def fc8:FCfg:={par:=[.cst false,.cst false],inn:=[(1,some ([1,2],[2]))],out:=[],loopK:=[],frz:=[],sch:=[]}
noncomputable def fc10:FCfg:={par:=[.cst false],inn:=[(1,some ([1,2],[1,2])),(2,some ([1,2,3],[1,2,3])),(3,some ([1,2,3],[1,2,3])),(4,some ([1,2,3],[1,2,3])),(5,some ([1,2,3],[1,2,3])),(6,some ([1,2,3],[1,2,3])),(7,some ([1,2,3],[1,2,3])),(8,some ([1,2,3],[1,2,3])),(9,some ([1,2,3],[1,2,3])),(10,some ([1,2,3],[1,2,3])),(11,some ([1,2,3],[1,2,3])),(12,some ([2,3],[2,3]))],out:=[],loopK:=[],frz:=[],sch:=[]}
noncomputable def fc11:FCfg:={par:=[.cst false],inn:=[(1,some ([1],[1]))],out:=[(1,some ([1,26],[1])),(5,some ([1,3,46],[1])),(7,some ([2],[]))],loopK:=[],frz:=[],sch:=[]}
noncomputable def fc12:FCfg:={par:=[.cst false,.cst false],inn:=[(1,some ([2,3],[2,3]))],out:=[],loopK:=[],frz:=[],sch:=[]}
noncomputable def fc13:FCfg:={par:=[.cst false,.cst false],inn:=[],out:=[],loopK:=[],frz:=[],sch:=[]}
noncomputable def fc14:FCfg:={par:=[.cst false,.cst false],inn:=[(10,some ([1],[]))],out:=[],loopK:=[(5,([0,1,5],[]))],frz:=[],sch:=[]}
noncomputable def fc16:FCfg:={par:=[.cst false],inn:=[(3,some ([1,2,3],[1,2,3])),(4,some ([1,2,3],[1,2,3])),(5,some ([1,2,3],[1,2,3])),(6,some ([2,3],[2,3]))],out:=[],loopK:=[],frz:=[],sch:=[]}
noncomputable def fc17:FCfg:={par:=[.cst false],inn:=[(4,some ([0,3,4],[3])),(6,some ([3],[3]))],out:=[],loopK:=[(3,([0,3,4],[3]))],frz:=[],sch:=[]}
noncomputable def fc19:FCfg:={par:=[.cst false,.cst false],inn:=[(8,some ([],[]))],out:=[(6,some ([0,1,5,25],[]))],loopK:=[(4,([0,1,5],[]))],frz:=[],sch:=[(6,.first 0 [2,3,8] [1,4,5,6,7]<| .first 1 [2,3,8] [4,5,6,7]<| .first 2 [3,8] [4,5,6,7]<| .first 3 [8] [4,5,6,7]<| .first 4 [6,7,8] [5]<| .first 5 [6,7,8] []<| .first 6 [7,8] []<| .first 7 [8] []<| .first 8 [] []<| .done)]}
noncomputable def fc20:FCfg:={par:=[.cst false,.cst false],inn:=[],out:=[],loopK:=[],frz:=[],sch:=[]}
noncomputable def fc21:FCfg:={par:=[.cst false,.cst false],inn:=[(8,some ([],[]))],out:=[(6,some ([0,1,5,26],[]))],loopK:=[(4,([0,1,5],[]))],frz:=[],sch:=[(6,.first 0 [2,3,8,9] [1,4,5,6,7]<| .first 1 [2,3,8,9] [4,5,6,7]<| .first 2 [3,8,9] [4,5,6,7]<| .first 3 [8,9] [4,5,6,7]<| .first 4 [6,7,8,9] [5]<| .first 5 [6,7,8,9] []<| .first 6 [7,8,9] []<| .first 7 [8,9] []<| .fork 8 (.first 9 [] []<| .done) (.stop))]}
noncomputable def fc30:FCfg:={par:=[.cst false,.cst false],inn:=[(1,some ([1,2],[2]))],out:=[],loopK:=[],frz:=[],sch:=[]}
noncomputable def fc31:FCfg:={par:=[.cst false],inn:=[(1,some ([1],[1]))],out:=[],loopK:=[],frz:=[],sch:=[]}
noncomputable def fc32:FCfg:={par:=[.cst false],inn:=[(1,some ([1,2],[1,2])),(2,some ([1,2,3],[1,2,3])),(3,some ([1,2,3],[1,2,3])),(4,some ([1,2,3],[1,2,3])),(5,some ([1,2,3],[1,2,3])),(6,some ([2,3],[2,3]))],out:=[],loopK:=[],frz:=[],sch:=[]}
noncomputable def fc33:FCfg:={par:=[.cst false],inn:=[(1,some ([1],[1]))],out:=[(1,some ([2],[]))],loopK:=[],frz:=[],sch:=[]}
noncomputable def fc34:FCfg:={par:=[.cst false,.cst false],inn:=[(1,some ([2,3],[2,3]))],out:=[],loopK:=[],frz:=[],sch:=[]}
noncomputable def fc35:FCfg:={par:=[.cst false,.cst false],inn:=[(1,some ([1,2],[2]))],out:=[],loopK:=[],frz:=[],sch:=[]}
noncomputable def fc36:FCfg:={par:=[.cst false,.cst false],inn:=[(10,some ([1],[]))],out:=[],loopK:=[(5,([0,1,5],[]))],frz:=[],sch:=[]}
noncomputable def fc37:FCfg:={par:=[.cst false,.cst false],inn:=[],out:=[],loopK:=[],frz:=[],sch:=[]}
noncomputable def fc38:FCfg:={par:=[.cst false,.cst false],inn:=[],out:=[],loopK:=[],frz:=[],sch:=[]}
noncomputable def fc39:FCfg:={par:=[.cut 17],inn:=[],out:=[(1,some ([0,41],[])),(3,some ([2],[]))],loopK:=[],frz:=[],sch:=[(1,.first 0 (rg [1,39]) []<| .first 1 (rg [2,39]) []<| .first 2 (rg [3,39]) []<| .fork 3 (.first 4 (rg [5,39]) []<| .first 5 (rg [6,39]) []<| .first 6 (rg [7,39]) []<| .first 7 (rg [8,39]) []<| .first 8 (rg [9,39]) []<| .first 9 (rg [10,39]) []<| .fork 10 (.first 11 (rg [12,39]) []<| .first 12 (rg [13,39]) []<| .first 13 (rg [14,39]) []<| .first 14 (rg [15,39]) []<| .first 15 (rg [16,39]) []<| .first 16 (rg [17,39]) []<| .first 17 (rg [18,39]) []<| .fork 18 (.first 19 (rg [20,39]) []<| .first 20 (rg [21,39]) []<| .first 21 (rg [22,39]) []<| .first 22 (rg [23,25,29,39]) [25,26,27,28]<| .first 23 (rg [24,25,29,39]) [25,26,27,28]<| .first 24 (rg [29,39]) [25,26,27,28]<| .first 25 (rg [26,39]) []<| .first 26 (rg [27,39]) []<| .first 27 (rg [28,39]) []<| .first 28 (rg [29,39]) []<| .fork 29 (.first 30 (rg [31,39]) []<| .first 31 (rg [32,39]) []<| .first 32 (rg [33,39]) []<| .first 33 [34,35,36,37,38] []<| .first 34 [35,36,37,38] []<| .first 35 [36,37,38] []<| .fork 36 (.first 37 [38] []<| .first 38 [] []<| .done) (.stop)) (.stop)) (.stop)) (.stop)) (.stop)),(3,.first 0 (rg [1,4,8,35]) [4,5,6,7]<| .first 1 (rg [2,4,8,35]) [4,5,6,7]<| .first 2 (rg [3,4,8,35]) [4,5,6,7]<| .first 3 (rg [8,35]) [4,5,6,7]<| .first 4 (rg [5,35]) []<| .first 5 (rg [6,35]) []<| .first 6 (rg [7,35]) []<| .first 7 (rg [8,35]) []<| .fork 8 (.first 9 (rg [10,35]) []<| .first 10 (rg [11,35]) []<| .first 11 (rg [12,35]) []<| .first 12 (rg [13,35]) []<| .first 13 (rg [14,35]) []<| .fork 14 (.first 15 (rg [16,35]) []<| .first 16 (rg [17,35]) []<| .first 17 (rg [18,35]) []<| .first 18 (rg [19,35]) []<| .first 19 (rg [20,35]) []<| .first 20 (rg [21,35]) []<| .fork 21 (.first 22 (rg [23,35]) []<| .first 23 (rg [24,35]) []<| .first 24 [25,26,27,32,33,34] [28,29,30,31]<| .first 25 [26,27,32,33,34] [28,29,30,31]<| .first 26 [27,32,33,34] [28,29,30,31]<| .first 27 [32,33,34] [28,29,30,31]<| .first 28 (rg [29,35]) []<| .first 29 [30,31,32,33,34] []<| .first 30 [31,32,33,34] []<| .first 31 [32,33,34] []<| .fork 32 (.first 33 [34] []<| .fork 34 (.done) (.stop)) (.stop)) (.stop)) (.stop)) (.stop))]}
noncomputable def fc40:FCfg:={par:=[.cst false],inn:=[(1,some ([1,2],[1,2])),(2,some ([1,2,3],[1,2,3])),(3,some ([1,2,3],[1,2,3])),(4,some ([2,3],[2,3]))],out:=[],loopK:=[],frz:=[],sch:=[]}
noncomputable def fc41:FCfg:={par:=[.cst false],inn:=[(4,some ([0,3,4],[3])),(6,some ([3],[3]))],out:=[],loopK:=[(3,([0,3,4],[3]))],frz:=[],sch:=[]}
noncomputable def fc42:FCfg:={par:=[.cst false],inn:=[(4,some ([0,3,4],[3])),(6,some ([3],[3]))],out:=[],loopK:=[(3,([0,3,4],[3]))],frz:=[],sch:=[]}
noncomputable def fc43:FCfg:={par:=[.cst false],inn:=[(3,some ([1,2,3],[1,2,3])),(4,some ([1,2,3],[1,2,3])),(5,some ([1,2,3],[1,2,3])),(6,some ([2,3],[2,3]))],out:=[],loopK:=[],frz:=[],sch:=[]}
noncomputable def fc44:FCfg:={par:=[.cst false],inn:=[(4,some ([0,3,4],[3])),(6,some ([3],[3]))],out:=[],loopK:=[(3,([0,3,4],[3]))],frz:=[],sch:=[]}
noncomputable def fc45:FCfg:={par:=[.cst false],inn:=[(1,some ([1],[1]))],out:=[(1,some ([2],[]))],loopK:=[],frz:=[],sch:=[]}
noncomputable def fc46:FCfg:={par:=[.cst false],inn:=[(4,some ([0,3,4,5,6,7],[4])),(7,some ([0],[]))],out:=[(4,some ([0,5,6,7,29],[]))],loopK:=[(2,([0,5,6,7],[]))],frz:=[],sch:=[(4,.first 0 (rg [1,18]) []<| .fork 1 (.first 2 (rg [3,18]) []<| .first 3 (rg [4,18]) []<| .first 4 (rg [5,18]) []<| .first 5 (rg [6,18]) []<| .first 6 (rg [7,18]) []<| .first 7 [10,11,12,15,16,17] [8,9,13,14]<| .first 8 [9,10,11,12,15,16,17] [13,14]<| .first 9 [10,11,12,15,16,17] [13,14]<| .first 10 [11,12,15,16,17] [13,14]<| .first 11 [12,15,16,17] [13,14]<| .first 12 [15,16,17] [13,14]<| .first 13 [14,15,16,17] []<| .first 14 [15,16,17] []<| .first 15 [16,17] []<| .first 16 [17] []<| .first 17 [] []<| .done) (.stop))]}
noncomputable def fc47:FCfg:={par:=[.cst false],inn:=[(4,some ([0,3,4,5,6,7],[4])),(7,some ([0],[]))],out:=[(4,some ([0,5,6,7,29],[]))],loopK:=[(2,([0,5,6,7],[]))],frz:=[],sch:=[(4,.first 0 (rg [1,18]) []<| .fork 1 (.first 2 (rg [3,18]) []<| .first 3 (rg [4,18]) []<| .first 4 (rg [5,18]) []<| .first 5 (rg [6,18]) []<| .first 6 (rg [7,18]) []<| .first 7 [10,11,12,15,16,17] [8,9,13,14]<| .first 8 [9,10,11,12,15,16,17] [13,14]<| .first 9 [10,11,12,15,16,17] [13,14]<| .first 10 [11,12,15,16,17] [13,14]<| .first 11 [12,15,16,17] [13,14]<| .first 12 [15,16,17] [13,14]<| .first 13 [14,15,16,17] []<| .first 14 [15,16,17] []<| .first 15 [16,17] []<| .first 16 [17] []<| .first 17 [] []<| .done) (.stop))]}
noncomputable def fc48:FCfg:={par:=[.cst false],inn:=[],out:=[(1,some ([2],[]))],loopK:=[],frz:=[],sch:=[]}
noncomputable def fc49:FCfg:={par:=[.cst false,.cst false,.cst false],inn:=[],out:=[(1,some ([6],[]))],loopK:=[],frz:=[],sch:=[]}
noncomputable def fc50:FCfg:={par:=[.cst false,.cst false],inn:=[(7,some ([],[]))],out:=[(4,some ([0,1,7,8,9,25],[]))],loopK:=[(2,([0,1,7,8,9],[]))],frz:=[],sch:=[]}
noncomputable def fc51:FCfg:={par:=[.cst false,.cst false],inn:=[(1,some ([2,3],[2,3]))],out:=[],loopK:=[],frz:=[],sch:=[]}
noncomputable def fc52:FCfg:={par:=[.cst false,.cst false],inn:=[(8,some ([],[]))],out:=[(6,some ([0,1,5,26],[]))],loopK:=[(4,([0,1,5],[]))],frz:=[],sch:=[(6,.first 0 [2,3,8,9] [1,4,5,6,7]<| .first 1 [2,3,8,9] [4,5,6,7]<| .first 2 [3,8,9] [4,5,6,7]<| .first 3 [8,9] [4,5,6,7]<| .first 4 [6,7,8,9] [5]<| .first 5 [6,7,8,9] []<| .first 6 [7,8,9] []<| .first 7 [8,9] []<| .fork 8 (.first 9 [] []<| .done) (.stop))]}
noncomputable def fc53:FCfg:={par:=[.cst false,.cst false],inn:=[(8,some ([],[]))],out:=[(6,some ([0,1,5,26],[]))],loopK:=[(4,([0,1,5],[]))],frz:=[],sch:=[(6,.first 0 [2,3,8,9] [1,4,5,6,7]<| .first 1 [2,3,8,9] [4,5,6,7]<| .first 2 [3,8,9] [4,5,6,7]<| .first 3 [8,9] [4,5,6,7]<| .first 4 [6,7,8,9] [5]<| .first 5 [6,7,8,9] []<| .first 6 [7,8,9] []<| .first 7 [8,9] []<| .fork 8 (.first 9 [] []<| .done) (.stop))]}
noncomputable def fc54:FCfg:={par:=[.cst false,.cst false],inn:=[],out:=[],loopK:=[],frz:=[],sch:=[]}
noncomputable def fc55:FCfg:={par:=[.cst false,.cst false],inn:=[],out:=[],loopK:=[],frz:=[],sch:=[]}
noncomputable def fc56:FCfg:={par:=[.cst false,.cst false],inn:=[(10,some ([1],[]))],out:=[],loopK:=[(5,([0,1,5],[]))],frz:=[],sch:=[]}
noncomputable def fc57:FCfg:={par:=[.cst false,.cst false],inn:=[],out:=[],loopK:=[],frz:=[],sch:=[]}
noncomputable def fc62:FCfg:={par:=[.cst false],inn:=[(4,some ([0,3,4],[3])),(6,some ([3],[3]))],out:=[],loopK:=[(3,([0,3,4],[3]))],frz:=[],sch:=[]}
noncomputable def fc63:FCfg:={par:=[.cst false],inn:=[(4,some ([0,3,4],[3])),(6,some ([3],[3]))],out:=[],loopK:=[(3,([0,3,4],[3]))],frz:=[],sch:=[]}
noncomputable def fc64:FCfg:={par:=[.cst false],inn:=[(3,some ([1,2,3],[1,2,3])),(4,some ([1,2,3],[1,2,3])),(5,some ([2,3],[2,3]))],out:=[],loopK:=[],frz:=[],sch:=[]}
noncomputable def fc68:FCfg:={par:=[.cst false,.cst false],inn:=[(8,some ([],[]))],out:=[(6,some ([0,1,5,26],[]))],loopK:=[(4,([0,1,5],[]))],frz:=[],sch:=[(6,.first 0 [2,3,8,9] [1,4,5,6,7]<| .first 1 [2,3,8,9] [4,5,6,7]<| .first 2 [3,8,9] [4,5,6,7]<| .first 3 [8,9] [4,5,6,7]<| .first 4 [6,7,8,9] [5]<| .first 5 [6,7,8,9] []<| .first 6 [7,8,9] []<| .first 7 [8,9] []<| .fork 8 (.first 9 [] []<| .done) (.stop))]}
noncomputable def fc69:FCfg:={par:=[.cst false,.cst false],inn:=[(8,some ([],[]))],out:=[(6,some ([0,1,5,26],[]))],loopK:=[(4,([0,1,5],[]))],frz:=[],sch:=[(6,.first 0 [2,3,8,9] [1,4,5,6,7]<| .first 1 [2,3,8,9] [4,5,6,7]<| .first 2 [3,8,9] [4,5,6,7]<| .first 3 [8,9] [4,5,6,7]<| .first 4 [6,7,8,9] [5]<| .first 5 [6,7,8,9] []<| .first 6 [7,8,9] []<| .first 7 [8,9] []<| .fork 8 (.first 9 [] []<| .done) (.stop))]}
noncomputable def fc70:FCfg:={par:=[.cst false,.cst false],inn:=[],out:=[],loopK:=[],frz:=[],sch:=[]}
noncomputable def fc74:FCfg:={par:=[.cst false,.cst false],inn:=[(10,some ([1],[]))],out:=[],loopK:=[(5,([0,1,5],[]))],frz:=[],sch:=[]}
noncomputable def fc75:FCfg:={par:=[.cst false,.cst false],inn:=[(10,some ([1],[]))],out:=[],loopK:=[(5,([0,1,5],[]))],frz:=[],sch:=[]}
noncomputable def fc76:FCfg:={par:=[.cut 24],inn:=[],out:=[(1,some ([2],[]))],loopK:=[],frz:=[],sch:=[]}
noncomputable def fc77:FCfg:={par:=[.cst false],inn:=[(4,some ([0,3,4],[3])),(6,some ([3],[3]))],out:=[],loopK:=[(3,([0,3,4],[3]))],frz:=[],sch:=[]}
noncomputable def fc78:FCfg:={par:=[.cst false],inn:=[(4,some ([0,3,4],[3])),(6,some ([3],[3]))],out:=[],loopK:=[(3,([0,3,4],[3]))],frz:=[],sch:=[]}
noncomputable def fc79:FCfg:={par:=[.cst false],inn:=[(1,some ([1,2],[1,2])),(2,some ([1,2,3],[1,2,3])),(3,some ([1,2,3],[1,2,3])),(4,some ([1,2,3],[1,2,3])),(5,some ([1,2,3],[1,2,3])),(6,some ([1,2,3],[1,2,3])),(7,some ([2,3],[2,3]))],out:=[],loopK:=[],frz:=[],sch:=[]}
noncomputable def fc80:FCfg:={par:=[.cst false],inn:=[(4,some ([0,3,4,5,6,7],[4])),(7,some ([0],[]))],out:=[(4,some ([0,5,6,7,29],[]))],loopK:=[(2,([0,5,6,7],[]))],frz:=[],sch:=[(4,.first 0 (rg [1,18]) []<| .fork 1 (.first 2 (rg [3,18]) []<| .first 3 (rg [4,18]) []<| .first 4 (rg [5,18]) []<| .first 5 (rg [6,18]) []<| .first 6 (rg [7,18]) []<| .first 7 [10,11,12,15,16,17] [8,9,13,14]<| .first 8 [9,10,11,12,15,16,17] [13,14]<| .first 9 [10,11,12,15,16,17] [13,14]<| .first 10 [11,12,15,16,17] [13,14]<| .first 11 [12,15,16,17] [13,14]<| .first 12 [15,16,17] [13,14]<| .first 13 [14,15,16,17] []<| .first 14 [15,16,17] []<| .first 15 [16,17] []<| .first 16 [17] []<| .first 17 [] []<| .done) (.stop))]}
noncomputable def fc81:FCfg:={par:=[.cst false],inn:=[],out:=[(1,some ([2],[]))],loopK:=[],frz:=[],sch:=[]}
noncomputable def fc82:FCfg:={par:=[.cst false],inn:=[(1,some ([1],[1]))],out:=[(1,some ([2],[]))],loopK:=[],frz:=[],sch:=[]}
noncomputable def fc83:FCfg:={par:=[.cst false,.cst false],inn:=[(8,some ([],[]))],out:=[(6,some ([0,1,5,26],[]))],loopK:=[(4,([0,1,5],[]))],frz:=[],sch:=[(6,.first 0 [2,3,8,9] [1,4,5,6,7]<| .first 1 [2,3,8,9] [4,5,6,7]<| .first 2 [3,8,9] [4,5,6,7]<| .first 3 [8,9] [4,5,6,7]<| .first 4 [6,7,8,9] [5]<| .first 5 [6,7,8,9] []<| .first 6 [7,8,9] []<| .first 7 [8,9] []<| .fork 8 (.first 9 [] []<| .done) (.stop))]}
noncomputable def fc84:FCfg:={par:=[.cst false,.cst false],inn:=[(8,some ([],[]))],out:=[(6,some ([0,1,5,26],[]))],loopK:=[(4,([0,1,5],[]))],frz:=[],sch:=[(6,.first 0 [2,3,8,9] [1,4,5,6,7]<| .first 1 [2,3,8,9] [4,5,6,7]<| .first 2 [3,8,9] [4,5,6,7]<| .first 3 [8,9] [4,5,6,7]<| .first 4 [6,7,8,9] [5]<| .first 5 [6,7,8,9] []<| .first 6 [7,8,9] []<| .first 7 [8,9] []<| .fork 8 (.first 9 [] []<| .done) (.stop))]}
noncomputable def fc85:FCfg:={par:=[.cst false,.cst false],inn:=[(1,some ([2,3],[2,3]))],out:=[],loopK:=[],frz:=[],sch:=[]}
noncomputable def fc86:FCfg:={par:=[.cst false,.cst false],inn:=[(1,some ([1,2],[2]))],out:=[],loopK:=[],frz:=[],sch:=[]}
noncomputable def fc87:FCfg:={par:=[.cut 5],inn:=[],out:=[(1,some ([2],[]))],loopK:=[],frz:=[],sch:=[(1,.first 0 (rg [1,26]) []<| .first 1 (rg [2,26]) []<| .first 2 (rg [3,26]) []<| .fork 3 (.first 4 (rg [5,26]) []<| .first 5 (rg [6,26]) []<| .first 6 (rg [7,26]) []<| .first 7 (rg [8,26]) []<| .first 8 (rg [9,26]) []<| .fork 9 (.first 10 (rg [11,26]) []<| .first 11 (rg [12,26]) []<| .first 12 [13,14,15,16,23,24,25] (rg [17,23])<| .first 13 [14,15,16,23,24,25] (rg [17,23])<| .first 14 [15,16,23,24,25] (rg [17,23])<| .first 15 [16,23,24,25] (rg [17,23])<| .first 16 [23,24,25] (rg [17,23])<| .first 17 (rg [18,26]) []<| .first 18 (rg [19,26]) []<| .first 19 (rg [20,26]) []<| .first 20 [21,22,23,24,25] []<| .first 21 [22,23,24,25] []<| .first 22 [23,24,25] []<| .first 23 [24,25] []<| .first 24 [25] []<| .fork 25 (.done) (.stop)) (.stop)) (.stop))]}
noncomputable def fc88:FCfg:={par:=[.cst false],inn:=[(6,some ([0],[]))],out:=[(4,some ([0,3,32],[]))],loopK:=[(2,([0,3],[]))],frz:=[],sch:=[(4,.first 0 (rg [2,23]) [1]<| .first 1 (rg [2,23]) []<| .first 2 (rg [3,23]) []<| .fork 3 (.first 4 (rg [5,23]) []<| .first 5 (rg [6,23]) []<| .first 6 (rg [7,23]) []<| .first 7 (rg [8,23]) []<| .first 8 (rg [9,23]) []<| .first 9 [12,13,14,20,21,22] [10,11,15,16,17,18,19]<| .first 10 [11,12,13,14,20,21,22] [15,16,17,18,19]<| .first 11 [12,13,14,20,21,22] [15,16,17,18,19]<| .first 12 [13,14,20,21,22] [15,16,17,18,19]<| .first 13 [14,20,21,22] [15,16,17,18,19]<| .first 14 [20,21,22] [15,16,17,18,19]<| .first 15 (rg [17,23]) [16]<| .first 16 (rg [17,23]) []<| .first 17 [18,19,20,21,22] []<| .first 18 [19,20,21,22] []<| .first 19 [20,21,22] []<| .first 20 [21,22] []<| .first 21 [22] []<| .first 22 [] []<| .done) (.stop))]}
noncomputable def fc89:FCfg:={par:=[.cst false],inn:=[(6,some ([0],[]))],out:=[(4,some ([0,3,32],[]))],loopK:=[(2,([0,3],[]))],frz:=[],sch:=[(4,.first 0 (rg [2,23]) [1]<| .first 1 (rg [2,23]) []<| .first 2 (rg [3,23]) []<| .fork 3 (.first 4 (rg [5,23]) []<| .first 5 (rg [6,23]) []<| .first 6 (rg [7,23]) []<| .first 7 (rg [8,23]) []<| .first 8 (rg [9,23]) []<| .first 9 [12,13,14,20,21,22] [10,11,15,16,17,18,19]<| .first 10 [11,12,13,14,20,21,22] [15,16,17,18,19]<| .first 11 [12,13,14,20,21,22] [15,16,17,18,19]<| .first 12 [13,14,20,21,22] [15,16,17,18,19]<| .first 13 [14,20,21,22] [15,16,17,18,19]<| .first 14 [20,21,22] [15,16,17,18,19]<| .first 15 (rg [17,23]) [16]<| .first 16 (rg [17,23]) []<| .first 17 [18,19,20,21,22] []<| .first 18 [19,20,21,22] []<| .first 19 [20,21,22] []<| .first 20 [21,22] []<| .first 21 [22] []<| .first 22 [] []<| .done) (.stop))]}
noncomputable def fc90:FCfg:={par:=[.cut 5,.cst false],inn:=[(6,some ([],[]))],out:=[(4,some ([0,1,5,21],[]))],loopK:=[(2,([0,1,5],[]))],frz:=[],sch:=[(4,.first 0 [1,2,8,9] [3,4,5,6,7]<| .first 1 [2,8,9] [3,4,5,6,7]<| .first 2 [8,9] [3,4,5,6,7]<| .first 3 [5,6,7,8,9] [4]<| .first 4 [5,6,7,8,9] []<| .first 5 [6,7,8,9] []<| .first 6 [7,8,9] []<| .first 7 [8,9] []<| .fork 8 (.first 9 [] []<| .done) (.stop))]}
noncomputable def fc91:FCfg:={par:=[.cut 4],inn:=[],out:=[(1,some ([2],[]))],loopK:=[],frz:=[],sch:=[]}
noncomputable def fc92:FCfg:={par:=[.cst false,.cst false],inn:=[],out:=[(1,some ([4],[]))],loopK:=[],frz:=[],sch:=[]}
noncomputable def fc93:FCfg:={par:=[.cst false],inn:=[],out:=[],loopK:=[],frz:=[],sch:=[]}
noncomputable def fc94:FCfg:={par:=[.cst false],inn:=[],out:=[],loopK:=[],frz:=[],sch:=[]}
noncomputable def fc95:FCfg:={par:=[.cut 4,.cst false],inn:=[(6,some ([],[]))],out:=[(4,some ([0,1,5,28],[]))],loopK:=[(2,([0,1,5],[]))],frz:=[],sch:=[(4,.first 0 (rg [5,17]) [1,2,3,4]<| .first 1 (rg [3,17]) [2]<| .first 2 (rg [3,17]) []<| .first 3 (rg [4,17]) []<| .first 4 (rg [5,17]) []<| .fork 5 (.first 6 (rg [7,17]) []<| .first 7 (rg [8,17]) []<| .first 8 [10,15,16] [9,11,12,13,14]<| .first 9 [10,15,16] [11,12,13,14]<| .first 11 [13,14,15,16] [10,12]<| .first 12 [13,14,15,16] [10]<| .first 13 [14,15,16] [10]<| .first 14 [15,16] [10]<| .fork 10 (.fork 15 (.first 16 [] []<| .done) (.stop)) (.stop)) (.stop))]}
noncomputable def fc96:FCfg:={par:=[.cst false],inn:=[(1,some ([1,2],[1,2])),(2,some ([1,2,3],[1,2,3])),(3,some ([1,2,3],[1,2,3])),(4,some ([1,2,3],[1,2,3])),(5,some ([1,2,3],[1,2,3])),(6,some ([1,2,3],[1,2,3])),(7,some ([1,2,3],[1,2,3])),(8,some ([1,2,3],[1,2,3])),(9,some ([2,3],[2,3]))],out:=[],loopK:=[],frz:=[],sch:=[]}
noncomputable def fc97:FCfg:={par:=[.cst false],inn:=[(1,some ([1,2],[1,2])),(2,some ([1,2,3],[1,2,3])),(3,some ([1,2,3],[1,2,3])),(4,some ([1,2,3],[1,2,3])),(5,some ([1,2,3],[1,2,3])),(6,some ([1,2,3],[1,2,3])),(7,some ([2,3],[2,3]))],out:=[],loopK:=[],frz:=[],sch:=[]}
noncomputable def fc98:FCfg:={par:=[.cst false],inn:=[(6,some ([1,3,4,32,33,34],[1,4])),(9,some ([1],[1])),(12,some ([1,5,6,63,64,65],[1,6])),(18,some ([],[]))],out:=[(1,some ([1,30],[1])),(6,some ([1,32,33,34,60],[1])),(12,some ([1,6,63,64,65,89],[1,6])),(15,some ([1,63,64,65,104],[1]))],loopK:=[(4,([1,32,33,34],[1])),(10,([1,63,64,65],[1]))],frz:=[],sch:=[(6,.first 0 (rg [1,2,4,22]) [2,3]<| .first 1 (rg [4,22]) [2,3]<| .first 2 (rg [3,22]) []<| .first 3 (rg [4,22]) []<| .fork 4 (.first 5 (rg [6,22]) []<| .first 6 (rg [7,22]) []<| .first 7 (rg [8,9,11,22]) [9,10]<| .first 8 (rg [11,22]) [9,10]<| .first 9 (rg [10,22]) []<| .first 10 (rg [11,22]) []<| .fork 11 (.first 12 (rg [13,22]) []<| .first 13 (rg [14,22]) []<| .first 14 (rg [15,22]) []<| .first 15 [16,18,20,21] [17,19]<| .first 16 [18,20,21] [17,19]<| .first 17 [18,20,21] [19]<| .first 19 [20,21] [18]<| .fork 18 (.fork 20 (.first 21 [] []<| .done) (.stop)) (.stop)) (.stop)) (.stop)),(12,.first 0 (rg [1,20]) []<| .first 1 (rg [2,20]) []<| .fork 2 (.first 3 (rg [4,20]) []<| .first 4 (rg [5,20]) []<| .first 5 (rg [6,20]) []<| .first 6 (rg [7,20]) []<| .first 7 (rg [8,20]) []<| .first 8 [9,12,13,14,17,18,19] [10,11,15,16]<| .first 9 [12,13,14,17,18,19] [10,11,15,16]<| .first 10 [11,12,13,14,17,18,19] [15,16]<| .first 11 [12,13,14,17,18,19] [15,16]<| .first 12 [13,14,17,18,19] [15,16]<| .first 13 [14,17,18,19] [15,16]<| .first 14 [17,18,19] [15,16]<| .first 15 [16,17,18,19] []<| .first 16 [17,18,19] []<| .first 17 [18,19] []<| .first 18 [19] []<| .first 19 [] []<| .done) (.stop))]}
noncomputable def fc99:FCfg:={par:=[.cst false],inn:=[],out:=[],loopK:=[],frz:=[],sch:=[]}
noncomputable def fc100:FCfg:={par:=[.cst false],inn:=[(1,some ([1],[1]))],out:=[(1,some ([1,24],[1])),(3,some ([1,40],[1]))],loopK:=[],frz:=[],sch:=[]}
noncomputable def fc101:FCfg:={par:=[.cst false],inn:=[(1,some ([1],[1]))],out:=[(1,some ([2],[]))],loopK:=[],frz:=[],sch:=[]}
noncomputable def fc102:FCfg:={par:=[.cst false,.cst false],inn:=[],out:=[],loopK:=[],frz:=[],sch:=[]}
noncomputable def fc103:FCfg:={par:=[.cst false,.cst false],inn:=[(1,some ([2,3],[2,3]))],out:=[],loopK:=[],frz:=[],sch:=[]}
noncomputable def fc104:FCfg:={par:=[.cst false,.cst false],inn:=[(1,some ([2,3],[2,3]))],out:=[],loopK:=[],frz:=[],sch:=[]}
noncomputable def fc105:FCfg:={par:=[.cst false,.cst false],inn:=[],out:=[],loopK:=[],frz:=[],sch:=[]}
noncomputable def fc106:FCfg:={par:=[.cut 4],inn:=[(11,some ([],[]))],out:=[(1,some ([0,32],[])),(6,some ([0,3,75],[])),(9,some ([0,3,95],[]))],loopK:=[(4,([0,3],[]))],frz:=[],sch:=[(6,.first 0 (rg [1,4,5,34]) [4]<| .first 1 (rg [2,4,5,34]) [4]<| .first 2 (rg [3,4,5,34]) [4]<| .first 3 (rg [5,34]) [4]<| .first 4 (rg [5,34]) []<| .first 5 (rg [6,34]) []<| .first 6 (rg [7,34]) []<| .first 7 (rg [8,34]) []<| .fork 8 (.first 9 (rg [10,34]) []<| .first 10 (rg [11,34]) []<| .first 11 (rg [12,34]) []<| .first 12 (rg [13,34]) []<| .first 13 (rg [14,34]) []<| .first 14 [15,16,17,20,21,22,31,32,33] (rg [18,20,23,31])<| .first 15 [16,17,20,21,22,31,32,33] (rg [18,20,23,31])<| .first 16 [17,20,21,22,31,32,33] (rg [18,20,23,31])<| .first 17 [20,21,22,31,32,33] (rg [18,20,23,31])<| .first 18 [19,20,21,22,31,32,33] (rg [23,31])<| .first 19 [20,21,22,31,32,33] (rg [23,31])<| .first 20 [21,22,31,32,33] (rg [23,31])<| .first 21 [22,31,32,33] (rg [23,31])<| .first 22 [31,32,33] (rg [23,31])<| .first 23 (rg [24,27,28,34]) [27]<| .first 24 (rg [25,27,28,34]) [27]<| .first 25 [26,28,29,30,31,32,33] [27]<| .first 26 (rg [28,34]) [27]<| .first 27 (rg [28,34]) []<| .first 28 [29,30,31,32,33] []<| .first 29 [30,31,32,33] []<| .first 30 [31,32,33] []<| .first 31 [32,33] []<| .first 32 [33] []<| .first 33 [] []<| .done) (.stop))]}
noncomputable def fc107:FCfg:={par:=[.cst false],inn:=[(6,some ([],[]))],out:=[],loopK:=[(2,([0,3],[]))],frz:=[],sch:=[]}
noncomputable def fc108:FCfg:={par:=[.cst false,.cst false,.cst false],inn:=[],out:=[(1,some ([6],[]))],loopK:=[],frz:=[],sch:=[]}
noncomputable def fc112:FCfg:={par:=[.cst false,.cst false],inn:=[(6,some ([],[]))],out:=[],loopK:=[(2,([0,1,5],[]))],frz:=[],sch:=[]}
noncomputable def fc113:FCfg:={par:=[.cst false],inn:=[(3,some ([1,2,3],[1,2,3])),(4,some ([2,3],[2,3]))],out:=[],loopK:=[],frz:=[],sch:=[]}
noncomputable def fc114:FCfg:={par:=[.cst false],inn:=[(3,some ([1,2,3],[1,2,3])),(4,some ([2,3],[2,3]))],out:=[],loopK:=[],frz:=[],sch:=[]}
noncomputable def fc123:FCfg:={par:=[.cst false,.cst false],inn:=[],out:=[],loopK:=[],frz:=[],sch:=[]}
noncomputable def fc124:FCfg:={par:=[.cst false,.cst false],inn:=[],out:=[],loopK:=[],frz:=[],sch:=[]}
noncomputable def fc125:FCfg:={par:=[.cst false,.cst false],inn:=[],out:=[],loopK:=[],frz:=[],sch:=[]}
noncomputable def fc126:FCfg:={par:=[.cst false,.cst false],inn:=[],out:=[],loopK:=[],frz:=[],sch:=[]}
noncomputable def fc127:FCfg:={par:=[.cst false],inn:=[(6,some ([0],[]))],out:=[(4,some ([0,3,32],[]))],loopK:=[(2,([0,3],[]))],frz:=[],sch:=[(4,.first 0 (rg [2,23]) [1]<| .first 1 (rg [2,23]) []<| .first 2 (rg [3,23]) []<| .fork 3 (.first 4 (rg [5,23]) []<| .first 5 (rg [6,23]) []<| .first 6 (rg [7,23]) []<| .first 7 (rg [8,23]) []<| .first 8 (rg [9,23]) []<| .first 9 [12,13,14,20,21,22] [10,11,15,16,17,18,19]<| .first 10 [11,12,13,14,20,21,22] [15,16,17,18,19]<| .first 11 [12,13,14,20,21,22] [15,16,17,18,19]<| .first 12 [13,14,20,21,22] [15,16,17,18,19]<| .first 13 [14,20,21,22] [15,16,17,18,19]<| .first 14 [20,21,22] [15,16,17,18,19]<| .first 15 (rg [17,23]) [16]<| .first 16 (rg [17,23]) []<| .first 17 [18,19,20,21,22] []<| .first 18 [19,20,21,22] []<| .first 19 [20,21,22] []<| .first 20 [21,22] []<| .first 21 [22] []<| .first 22 [] []<| .done) (.stop))]}
noncomputable def fc128:FCfg:={par:=[.cst false],inn:=[(6,some ([0],[]))],out:=[],loopK:=[(2,([0,3],[]))],frz:=[],sch:=[]}
noncomputable def fc129:FCfg:={par:=[.cut 5],inn:=[],out:=[(1,some ([2],[]))],loopK:=[],frz:=[],sch:=[]}
noncomputable def fc130:FCfg:={par:=[.cst false],inn:=[(3,some ([1,2,3],[1,2,3])),(4,some ([1,2,3],[1,2,3])),(5,some ([1,2,3],[1,2,3])),(6,some ([2,3],[2,3]))],out:=[],loopK:=[],frz:=[],sch:=[]}
noncomputable def fc131:FCfg:={par:=[.cst false],inn:=[(3,some ([1,2,3],[1,2,3])),(4,some ([1,2,3],[1,2,3])),(5,some ([1,2,3],[1,2,3])),(6,some ([2,3],[2,3]))],out:=[],loopK:=[],frz:=[],sch:=[]}
noncomputable def fc132:FCfg:={par:=[.cst false],inn:=[],out:=[(1,some ([2],[]))],loopK:=[],frz:=[],sch:=[]}
noncomputable def fc133:FCfg:={par:=[.cst false,.cst false],inn:=[],out:=[],loopK:=[],frz:=[],sch:=[]}
noncomputable def fc134:FCfg:={par:=[.cst false],inn:=[],out:=[],loopK:=[],frz:=[],sch:=[]}
noncomputable def fc135:FCfg:={par:=[.cst false],inn:=[],out:=[(1,some ([2],[]))],loopK:=[],frz:=[],sch:=[]}
noncomputable def fc136:FCfg:={par:=[.cst false,.cst false],inn:=[],out:=[],loopK:=[],frz:=[],sch:=[]}
noncomputable def fc137:FCfg:={par:=[.cst false,.cst false],inn:=[],out:=[],loopK:=[],frz:=[],sch:=[]}
noncomputable def fc138:FCfg:={par:=[.cst false,.cst false],inn:=[],out:=[],loopK:=[],frz:=[],sch:=[]}
noncomputable def fc139:FCfg:={par:=[.cut 9],inn:=[(10,some ([],[]))],out:=[(1,some ([0,32],[])),(3,some ([0,54],[])),(8,some ([0,3,79],[]))],loopK:=[(6,([0,3],[]))],frz:=[],sch:=[(8,.first 0 [1,2,3,5,14,15] (rg [4,5,6,14])<| .first 1 [2,3,5,14,15] (rg [4,5,6,14])<| .first 2 [3,5,14,15] (rg [4,5,6,14])<| .first 3 [5,14,15] (rg [4,5,6,14])<| .first 4 [5,14,15] (rg [6,14])<| .first 5 [14,15] (rg [6,14])<| .first 6 [7,8,9,14,15] [10,11,12,13]<| .first 7 [8,9,14,15] [10,11,12,13]<| .first 8 [9,14,15] [10,11,12,13]<| .first 9 [14,15] [10,11,12,13]<| .first 10 [11,12,13,14,15] []<| .first 11 [12,13,14,15] []<| .first 12 [13,14,15] []<| .first 13 [14,15] []<| .fork 14 (.first 15 [] []<| .done) (.stop))]}
noncomputable def fc140:FCfg:={par:=[.cut 5],inn:=[],out:=[(1,some ([2],[]))],loopK:=[],frz:=[],sch:=[]}
noncomputable def fc141:FCfg:={par:=[.cut 4,.cst false],inn:=[],out:=[],loopK:=[],frz:=[],sch:=[]}
noncomputable def fc142:FCfg:={par:=[.cst false],inn:=[(4,some ([0,3,4],[3])),(6,some ([3],[3]))],out:=[],loopK:=[(3,([0,3,4],[3]))],frz:=[],sch:=[]}
noncomputable def fc143:FCfg:={par:=[.cst false,.cst false],inn:=[],out:=[],loopK:=[],frz:=[],sch:=[]}
noncomputable def fc144:FCfg:={par:=[.cst false],inn:=[(8,some ([],[]))],out:=[(1,some ([0,21],[])),(6,some ([0,3,49],[]))],loopK:=[(4,([0,3],[]))],frz:=[],sch:=[]}
noncomputable def fc145:FCfg:={par:=[.cst false,.cst false],inn:=[(9,some ([6],[6]))],out:=[],loopK:=[(3,([0,6,10,11,12],[6]))],frz:=[],sch:=[]}
noncomputable def fc146:FCfg:={par:=[.cst false],inn:=[(15,some ([0,3,23,24],[])),(16,some ([0],[]))],out:=[(2,some ([0,3,21],[])),(7,some ([0,3,4,5,6,7,23,24],[5,6,7])),(8,some ([0,3,4,5,6,23,24,59],[5,6])),(13,some ([0,3,4,5,6,8,23,24,88],[5,6]))],loopK:=[(5,([0,3,23,24],[])),(11,([0,3,4,5,6,8,23,24],[5,6]))],frz:=[],sch:=[(7,.first 0 [2,3,21,22,23] (rg [1,2,4,21])<| .first 1 [2,3,21,22,23] (rg [4,21])<| .first 2 [3,21,22,23] (rg [4,21])<| .first 3 [21,22,23] (rg [4,21])<| .first 4 [9,10,22,23] (rg [5,9,11,22])<| .first 5 [6,8,9,10,22,23] (rg [7,8,11,22])<| .first 6 [8,9,10,22,23] (rg [7,8,11,22])<| .first 7 [8,9,10,22,23] (rg [11,22])<| .first 8 [9,10,22,23] (rg [11,22])<| .first 9 [10,22,23] (rg [11,22])<| .first 10 [22,23] (rg [11,22])<| .first 11 [16,17,23] (rg [12,16,18,23])<| .first 12 [13,15,16,17,23] [14,18,19,20,21,22]<| .first 13 [15,16,17,23] [14,18,19,20,21,22]<| .first 14 [15,16,17,23] [18,19,20,21,22]<| .first 15 [16,17,23] [18,19,20,21,22]<| .first 16 [17,23] [18,19,20,21,22]<| .first 17 [23] [18,19,20,21,22]<| .fork 18 (.fork 19 (.fork 20 (.fork 21 (.fork 22 (.fork 23 (.done) (.stop)) (.stop)) (.stop)) (.stop)) (.fork 20 (.fork 19 (.fork 21 (.fork 22 (.fork 23 (.done) (.stop)) (.stop)) (.stop)) (.stop)) (.stop))) (.fork 19 (.fork 18 (.fork 20 (.fork 21 (.fork 22 (.fork 23 (.done) (.stop)) (.stop)) (.stop)) (.stop)) (.fork 20 (.fork 18 (.fork 21 (.fork 22 (.fork 23 (.done) (.stop)) (.stop)) (.stop)) (.stop)) (.stop))) (.fork 20 (.fork 18 (.fork 19 (.fork 21 (.fork 22 (.fork 23 (.done) (.stop)) (.stop)) (.stop)) (.stop)) (.fork 19 (.fork 18 (.fork 21 (.fork 22 (.fork 23 (.done) (.stop)) (.stop)) (.stop)) (.stop)) (.stop))) (.stop)))),(13,.first 0 (rg [1,2,3,4,5,22]) [2,4]<| .first 1 (rg [3,4,5,22]) [2,4]<| .first 2 (rg [3,4,5,22]) [4]<| .first 3 (rg [5,22]) [4]<| .first 4 (rg [5,22]) []<| .first 5 (rg [6,22]) []<| .first 6 (rg [7,22]) []<| .first 7 [20,21] (rg [8,20])<| .first 8 [20,21] (rg [9,20])<| .first 9 [11,12,20,21] (rg [10,11,13,20])<| .first 10 [11,12,20,21] (rg [13,20])<| .first 11 [12,20,21] (rg [13,20])<| .first 12 [20,21] (rg [13,20])<| .first 13 [18,19,20,21] [14,15,16,17]<| .first 14 [15,17,18,19,20,21] [16]<| .first 15 [17,18,19,20,21] [16]<| .first 16 [17,18,19,20,21] []<| .first 17 [18,19,20,21] []<| .first 18 [19,20,21] []<| .first 19 [20,21] []<| .fork 20 (.first 21 [] []<| .done) (.stop))]}
noncomputable def fc147:FCfg:={par:=[.cst false,.cst false],inn:=[],out:=[],loopK:=[],frz:=[],sch:=[]}
noncomputable def fc148:FCfg:={par:=[.cst false],inn:=[],out:=[],loopK:=[],frz:=[],sch:=[]}
noncomputable def fc149:FCfg:={par:=[.cst false],inn:=[],out:=[(2,some ([2],[]))],loopK:=[],frz:=[],sch:=[]}
noncomputable def fc150:FCfg:={par:=[.cst false,.cst false],inn:=[],out:=[],loopK:=[],frz:=[],sch:=[]}
noncomputable def fc151:FCfg:={par:=[.cst false],inn:=[],out:=[],loopK:=[],frz:=[],sch:=[]}
noncomputable def fc152:FCfg:={par:=[.cst false,.cst false,.cst false],inn:=[],out:=[(1,some ([6],[]))],loopK:=[],frz:=[],sch:=[]}
noncomputable def fc153:FCfg:={par:=[.cst false,.cst false],inn:=[(7,some ([],[]))],out:=[],loopK:=[(2,([0,1,7,8],[]))],frz:=[],sch:=[]}
noncomputable def fc154:FCfg:={par:=[.cst false,.cst false],inn:=[(8,some ([],[]))],out:=[(6,some ([0,1,5,26],[]))],loopK:=[(4,([0,1,5],[]))],frz:=[],sch:=[(6,.first 0 [2,3,8,9] [1,4,5,6,7]<| .first 1 [2,3,8,9] [4,5,6,7]<| .first 2 [3,8,9] [4,5,6,7]<| .first 3 [8,9] [4,5,6,7]<| .first 4 [6,7,8,9] [5]<| .first 5 [6,7,8,9] []<| .first 6 [7,8,9] []<| .first 7 [8,9] []<| .fork 8 (.first 9 [] []<| .done) (.stop))]}
noncomputable def fc155:FCfg:={par:=[.cut 4],inn:=[(5,some ([0,3],[])),(13,some ([],[]))],out:=[(6,some ([0,3,49],[])),(11,some ([0,3,4,69],[]))],loopK:=[(4,([0,3],[])),(9,([0,3,4],[]))],frz:=[],sch:=[(6,.first 0 (rg [1,4,5,8,12,30]) [4,8,9,10,11]<| .first 1 (rg [2,4,5,8,12,30]) [4,8,9,10,11]<| .first 2 (rg [3,4,5,8,12,30]) [4,8,9,10,11]<| .first 3 (rg [5,8,12,30]) [4,8,9,10,11]<| .first 4 (rg [5,8,12,30]) [8,9,10,11]<| .first 5 (rg [6,8,12,30]) [8,9,10,11]<| .first 6 (rg [7,8,12,30]) [8,9,10,11]<| .first 7 (rg [12,30]) [8,9,10,11]<| .first 8 (rg [9,30]) []<| .first 9 (rg [10,30]) []<| .first 10 (rg [11,30]) []<| .first 11 (rg [12,30]) []<| .fork 12 (.first 13 (rg [14,30]) []<| .first 14 (rg [15,30]) []<| .first 15 [16,17,18,20,21,22,27,28,29] [19,23,24,25,26]<| .first 16 [17,18,20,21,22,27,28,29] [19,23,24,25,26]<| .first 17 [18,20,21,22,27,28,29] [19,23,24,25,26]<| .first 18 [20,21,22,27,28,29] [19,23,24,25,26]<| .first 19 [20,21,22,27,28,29] [23,24,25,26]<| .first 20 [21,22,27,28,29] [23,24,25,26]<| .first 21 [22,27,28,29] [23,24,25,26]<| .first 22 [27,28,29] [23,24,25,26]<| .first 23 (rg [24,30]) []<| .first 24 [25,26,27,28,29] []<| .first 25 [26,27,28,29] []<| .first 26 [27,28,29] []<| .fork 27 (.first 28 [29] []<| .first 29 [] []<| .done) (.stop)) (.stop)),(11,.first 0 [1,2,3,5,6,14] (rg [4,5,7,14])<| .first 1 [2,3,5,6,14] (rg [4,5,7,14])<| .first 2 [3,5,6,14] (rg [4,5,7,14])<| .first 3 [5,6,14] (rg [4,5,7,14])<| .first 4 [5,6,14] (rg [7,14])<| .first 5 [6,14] (rg [7,14])<| .first 6 [14] (rg [7,14])<| .first 7 [8,9,10,12,13,14] [11]<| .first 8 [9,10,12,13,14] [11]<| .first 9 [10,12,13,14] [11]<| .first 10 [12,13,14] [11]<| .first 11 [12,13,14] []<| .first 12 [13,14] []<| .first 13 [14] []<| .first 14 [] []<| .done)]}
noncomputable def fc156:FCfg:={par:=[.cst false],inn:=[(8,some ([],[]))],out:=[(1,some ([0,16],[])),(6,some ([0,3,34],[]))],loopK:=[(4,([0,3],[]))],frz:=[],sch:=[]}
noncomputable def fc157:FCfg:={par:=[.cut 4,.cst false],inn:=[(8,some ([6],[6]))],out:=[(5,some ([0,1,6,7,26],[6])),(7,some ([0,1,6,7],[6]))],loopK:=[(3,([0,1,6,7],[6]))],frz:=[],sch:=[(5,.first 0 [2,3,10,11] [1,4,5,6,7,8,9]<| .first 1 [2,3,10,11] [4,5,6,7,8,9]<| .first 2 [3,10,11] [4,5,6,7,8,9]<| .first 3 [10,11] [4,5,6,7,8,9]<| .first 4 (rg [5,12]) []<| .first 5 [6,7,8,9,10,11] []<| .first 6 [7,8,9,10,11] []<| .first 7 [8,9,10,11] []<| .first 8 [9,10,11] []<| .first 9 [10,11] []<| .fork 10 (.first 11 [] []<| .done) (.stop)),(7,.first 0 [12,13] (rg [1,12])<| .first 1 (rg [2,5,9,14]) [5,6,7,8]<| .first 2 [3,4,9,10,11,12,13] [5,6,7,8]<| .first 3 [4,9,10,11,12,13] [5,6,7,8]<| .first 4 [9,10,11,12,13] [5,6,7,8]<| .first 5 (rg [7,14]) [6]<| .first 6 (rg [7,14]) []<| .first 7 (rg [8,14]) []<| .first 8 [9,10,11,12,13] []<| .first 9 [10,11,12,13] []<| .first 10 [11,12,13] []<| .fork 11 (.fork 12 (.fork 13 (.done) (.stop)) (.stop)) (.stop))]}
noncomputable def fc158:FCfg:={par:=[.cst false],inn:=[(9,some ([0,3],[])),(11,some ([0,3,5],[])),(13,some ([0,3,5,6],[6])),(14,some ([0,3,5,6,7],[6,7])),(15,some ([0,3,5,6,7,8],[6,7,8])),(22,some ([0],[]))],out:=[(2,some ([0,3,17],[])),(15,some ([0,3,5,6,7,66],[6,7])),(20,some ([0,3,5,6,7,9,95],[6,7]))],loopK:=[(5,([0,3,4],[])),(10,([0,3,5],[])),(18,([0,3,5,6,7,9],[6,7]))],frz:=[],sch:=[(20,.first 0 (rg [1,2,3,4,5,22]) [2,4]<| .first 1 (rg [3,4,5,22]) [2,4]<| .first 2 (rg [3,4,5,22]) [4]<| .first 3 (rg [5,22]) [4]<| .first 4 (rg [5,22]) []<| .first 5 (rg [6,22]) []<| .first 6 (rg [7,22]) []<| .first 7 [20,21] (rg [8,20])<| .first 8 [20,21] (rg [9,20])<| .first 9 [11,12,20,21] (rg [10,11,13,20])<| .first 10 [11,12,20,21] (rg [13,20])<| .first 11 [12,20,21] (rg [13,20])<| .first 12 [20,21] (rg [13,20])<| .first 13 [18,19,20,21] [14,15,16,17]<| .first 14 [15,17,18,19,20,21] [16]<| .first 15 [17,18,19,20,21] [16]<| .first 16 [17,18,19,20,21] []<| .first 17 [18,19,20,21] []<| .first 18 [19,20,21] []<| .first 19 [20,21] []<| .fork 20 (.first 21 [] []<| .done) (.stop))]}
noncomputable def fc159:FCfg:={par:=[.cut 3],inn:=[],out:=[(2,some ([0,3,19],[])),(5,some ([2],[]))],loopK:=[],frz:=[],sch:=[]}
noncomputable def fc161:FCfg:={par:=[.cst false,.cst false],inn:=[],out:=[],loopK:=[],frz:=[],sch:=[]}
noncomputable def fc168:FCfg:={par:=[.cut 4],inn:=[],out:=[(1,some ([2],[]))],loopK:=[],frz:=[],sch:=[(1,.first 0 (rg [1,31]) []<| .first 1 (rg [2,31]) []<| .first 2 (rg [3,31]) []<| .first 3 (rg [4,31]) []<| .fork 4 (.first 5 (rg [6,31]) []<| .first 6 (rg [7,31]) []<| .first 7 (rg [8,31]) []<| .first 8 (rg [9,31]) []<| .first 9 (rg [10,31]) []<| .fork 10 (.first 11 (rg [12,31]) []<| .first 12 (rg [13,31]) []<| .first 13 (rg [14,17,21,31]) [17,18,19,20]<| .first 14 (rg [15,17,21,31]) [17,18,19,20]<| .first 15 (rg [16,17,21,31]) [17,18,19,20]<| .first 16 (rg [21,31]) [17,18,19,20]<| .first 17 (rg [18,31]) []<| .first 18 (rg [19,31]) []<| .first 19 (rg [20,31]) []<| .first 20 (rg [21,31]) []<| .fork 21 (.first 22 (rg [23,31]) []<| .first 23 (rg [24,31]) []<| .first 24 (rg [25,31]) []<| .first 25 [26,27,28,29,30] []<| .first 26 [27,28,29,30] []<| .first 27 [28,29,30] []<| .fork 28 (.first 29 [30] []<| .fork 30 (.done) (.stop)) (.stop)) (.stop)) (.stop)) (.stop))]}
noncomputable def fc169:FCfg:={par:=[.cut 4],inn:=[],out:=[(1,some ([2],[]))],loopK:=[],frz:=[],sch:=[(1,.first 0 (rg [1,31]) []<| .first 1 (rg [2,31]) []<| .first 2 (rg [3,31]) []<| .first 3 (rg [4,31]) []<| .fork 4 (.first 5 (rg [6,31]) []<| .first 6 (rg [7,31]) []<| .first 7 (rg [8,31]) []<| .first 8 (rg [9,31]) []<| .first 9 (rg [10,31]) []<| .fork 10 (.first 11 (rg [12,31]) []<| .first 12 (rg [13,31]) []<| .first 13 (rg [14,31]) []<| .first 14 (rg [15,31]) []<| .first 15 (rg [16,31]) []<| .first 16 (rg [17,31]) []<| .fork 17 (.first 18 (rg [19,31]) []<| .first 19 (rg [20,31]) []<| .first 20 [21,22,23,28,29,30] [24,25,26,27]<| .first 21 [22,23,28,29,30] [24,25,26,27]<| .first 22 [23,28,29,30] [24,25,26,27]<| .first 23 [28,29,30] [24,25,26,27]<| .first 24 (rg [25,31]) []<| .first 25 [26,27,28,29,30] []<| .first 26 [27,28,29,30] []<| .first 27 [28,29,30] []<| .fork 28 (.first 29 [30] []<| .fork 30 (.done) (.stop)) (.stop)) (.stop)) (.stop)) (.stop))]}
noncomputable def fc170:FCfg:={par:=[.cst false,.cst false],inn:=[(7,some ([],[]))],out:=[],loopK:=[(2,([0,1,7,8],[]))],frz:=[],sch:=[]}
noncomputable def fc171:FCfg:={par:=[.cut 4,.cst false,.cst false],inn:=[],out:=[(1,some ([6],[]))],loopK:=[],frz:=[],sch:=[(1,.first 0 (rg [1,4,5,41]) [4]<| .first 1 (rg [2,4,5,41]) [4]<| .first 2 (rg [3,4,5,41]) [4]<| .first 3 (rg [5,41]) [4]<| .first 4 (rg [5,41]) []<| .fork 5 (.first 6 (rg [7,41]) []<| .first 7 (rg [8,11,12,41]) [11]<| .first 8 (rg [9,11,12,41]) [11]<| .first 9 (rg [10,11,12,41]) [11]<| .first 10 (rg [12,41]) [11]<| .first 11 (rg [12,41]) []<| .fork 12 (.first 13 (rg [14,41]) []<| .first 14 (rg [15,41]) []<| .first 15 (rg [16,19,25,41]) (rg [19,25])<| .first 16 (rg [17,19,25,41]) (rg [19,25])<| .first 17 (rg [18,19,25,41]) (rg [19,25])<| .first 18 (rg [25,41]) (rg [19,25])<| .first 19 (rg [24,41]) [20,21,22,23]<| .first 20 (rg [21,41]) []<| .first 21 (rg [22,41]) []<| .first 22 (rg [23,41]) []<| .first 23 (rg [24,41]) []<| .first 24 (rg [25,41]) []<| .fork 25 (.first 26 (rg [27,41]) []<| .first 27 (rg [28,41]) []<| .first 28 [29,30,31,38,39,40] (rg [32,38])<| .first 29 [30,31,38,39,40] (rg [32,38])<| .first 30 [31,38,39,40] (rg [32,38])<| .first 31 [38,39,40] (rg [32,38])<| .first 32 [37,38,39,40] [33,34,35,36]<| .first 33 (rg [34,41]) []<| .first 34 (rg [35,41]) []<| .first 35 [36,37,38,39,40] []<| .first 36 [37,38,39,40] []<| .first 37 [38,39,40] []<| .fork 38 (.first 39 [40] []<| .fork 40 (.done) (.stop)) (.stop)) (.stop)) (.stop)) (.stop))]}
noncomputable def fc172:FCfg:={par:=[.cst false],inn:=[],out:=[],loopK:=[],frz:=[],sch:=[]}
noncomputable def fc173:FCfg:={par:=[.cst false],inn:=[(3,some ([1,2,3],[1,2,3])),(4,some ([1,2,3],[1,2,3])),(5,some ([1,2,3],[1,2,3])),(6,some ([2,3],[2,3]))],out:=[],loopK:=[],frz:=[],sch:=[]}
noncomputable def fc174:FCfg:={par:=[.cst false,.cst false],inn:=[(7,some ([],[]))],out:=[(4,some ([0,3,5,7,8,16],[3]))],loopK:=[(2,([0,3,7,8],[3]))],frz:=[],sch:=[(4,.first 0 [5] [1,2,3,4]<| .first 1 [3,4,5] [2]<| .first 2 [3,4,5] []<| .first 3 [4,5] []<| .first 4 [5] []<| .first 5 [] []<| .done)]}
noncomputable def fc175:FCfg:={par:=[.cst false],inn:=[(4,some ([4,5,6,7],[4])),(7,some ([],[]))],out:=[],loopK:=[(2,([5,6,7],[]))],frz:=[],sch:=[]}
noncomputable def fc176:FCfg:={par:=[.cst false,.cst false,.cst false],inn:=[],out:=[(1,some ([6],[]))],loopK:=[],frz:=[],sch:=[]}
noncomputable def fc177:FCfg:={par:=[.cst false,.cst false,.cst false,.cst false],inn:=[],out:=[(1,some ([8],[]))],loopK:=[],frz:=[],sch:=[]}
noncomputable def fc178:FCfg:={par:=[.cst false],inn:=[(5,some ([0,3,4,5,7,8,9],[5])),(6,some ([0,3,5,6,7,8,9],[5,6])),(8,some ([3],[]))],out:=[],loopK:=[(3,([0,3,7,8,9],[]))],frz:=[],sch:=[]}
noncomputable def fc179:FCfg:={par:=[.cst false,.cst false],inn:=[(7,some ([],[]))],out:=[],loopK:=[(2,([0,1,7,8],[]))],frz:=[],sch:=[]}
noncomputable def fc180:FCfg:={par:=[.cst false],inn:=[],out:=[],loopK:=[],frz:=[],sch:=[]}
noncomputable def fc181:FCfg:={par:=[.cst false,.cst false],inn:=[(7,some ([],[]))],out:=[],loopK:=[(2,([0,1,7,8],[]))],frz:=[],sch:=[]}
noncomputable def fc182:FCfg:={par:=[.cst false,.cst false],inn:=[],out:=[],loopK:=[],frz:=[],sch:=[]}
noncomputable def fc183:FCfg:={par:=[.cst false],inn:=[],out:=[(1,some ([2],[]))],loopK:=[],frz:=[],sch:=[]}
noncomputable def fc184:FCfg:={par:=[.cst false],inn:=[],out:=[(1,some ([2],[]))],loopK:=[],frz:=[],sch:=[]}
noncomputable def fc185:FCfg:={par:=[.cst false],inn:=[],out:=[(1,some ([2],[]))],loopK:=[],frz:=[],sch:=[]}
noncomputable def fc186:FCfg:={par:=[.cst false,.cst false,.cst false],inn:=[],out:=[(1,some ([6],[]))],loopK:=[],frz:=[],sch:=[(1,.first 0 (rg [3,36]) [1,2]<| .first 1 (rg [3,36]) [2]<| .first 2 (rg [3,36]) []<| .fork 3 (.first 4 (rg [5,36]) []<| .first 5 (rg [6,36]) []<| .first 6 (rg [7,8,18,36]) (rg [8,18])<| .first 7 (rg [18,36]) (rg [8,18])<| .first 8 (rg [9,10,12,13,17,36]) [10,11,13,14,15,16]<| .first 9 (rg [12,13,17,36]) [10,11,13,14,15,16]<| .first 10 (rg [11,13,17,36]) [13,14,15,16]<| .first 11 (rg [12,13,17,36]) [13,14,15,16]<| .first 13 (rg [14,15,17,36]) [12,15,16]<| .first 14 (rg [17,36]) [12,15,16]<| .first 15 (rg [16,36]) [12]<| .first 16 (rg [17,36]) [12]<| .fork 12 (.fork 17 (.fork 18 (.first 19 (rg [20,36]) []<| .first 20 (rg [21,36]) []<| .first 21 [22,33,34,35] (rg [23,33])<| .first 22 [33,34,35] (rg [23,33])<| .first 23 [24,27,32,33,34,35] [25,26,28,29,30,31]<| .first 24 [27,32,33,34,35] [25,26,28,29,30,31]<| .first 25 [26,27,32,33,34,35] [28,29,30,31]<| .first 26 [27,32,33,34,35] [28,29,30,31]<| .first 28 [29,32,33,34,35] [27,30,31]<| .first 29 [32,33,34,35] [27,30,31]<| .first 30 [31,32,33,34,35] [27]<| .first 31 [32,33,34,35] [27]<| .fork 27 (.fork 32 (.fork 33 (.first 34 [35] []<| .fork 35 (.done) (.stop)) (.stop)) (.stop)) (.stop)) (.stop)) (.stop)) (.stop)) (.stop))]}
noncomputable def fc187:FCfg:={par:=[.cst false,.cst false,.cst false,.cst false],inn:=[],out:=[(1,some ([8],[]))],loopK:=[],frz:=[],sch:=[]}
noncomputable def fc188:FCfg:={par:=[.cst false],inn:=[(6,some ([0,3,4,5],[5])),(7,some ([3],[]))],out:=[(6,some ([0,3,4],[]))],loopK:=[(3,([0,3,4],[]))],frz:=[],sch:=[(6,.first 0 [18,19] (rg [1,18])<| .first 1 [3,4,5,8,17,18,19] (rg [2,3,6,8,9,17])<| .first 2 [3,4,5,8,17,18,19] (rg [6,8,9,17])<| .first 3 [4,5,8,17,18,19] (rg [6,8,9,17])<| .first 4 [5,8,17,18,19] (rg [6,8,9,17])<| .first 5 [8,17,18,19] (rg [6,8,9,17])<| .first 6 [7,8,17,18,19] (rg [9,17])<| .first 7 [8,17,18,19] (rg [9,17])<| .first 8 [17,18,19] (rg [9,17])<| .first 9 [11,12,13,16,17,18,19] [10,14,15]<| .first 10 [11,12,13,16,17,18,19] [14,15]<| .first 11 [12,13,16,17,18,19] [14,15]<| .first 12 [13,16,17,18,19] [14,15]<| .first 13 [16,17,18,19] [14,15]<| .first 14 [15,16,17,18,19] []<| .first 15 [16,17,18,19] []<| .first 16 [17,18,19] []<| .first 17 [18,19] []<| .first 18 [19] []<| .fork 19 (.done) (.stop))]}
noncomputable def fc189:FCfg:={par:=[.cst false],inn:=[(7,some ([],[]))],out:=[],loopK:=[(3,([0,3,4],[3]))],frz:=[],sch:=[]}
noncomputable def fc190:FCfg:={par:=[],inn:=[],out:=[],loopK:=[],frz:=[],sch:=[]}
noncomputable def fc191:FCfg:={par:=[.cst false],inn:=[],out:=[],loopK:=[],frz:=[],sch:=[]}
noncomputable def fc193:FCfg:={par:=[.cst false,.cst false],inn:=[],out:=[],loopK:=[],frz:=[],sch:=[]}
noncomputable def fc205:FCfg:={par:=[.cst false],inn:=[],out:=[(1,some ([2],[]))],loopK:=[],frz:=[],sch:=[]}
noncomputable def fc206:FCfg:={par:=[.cst false,.cst false,.cst false],inn:=[],out:=[],loopK:=[],frz:=[],sch:=[]}
noncomputable def fc207:FCfg:={par:=[.cst false,.cst false,.cst false,.cst false],inn:=[],out:=[(1,some ([8],[]))],loopK:=[],frz:=[],sch:=[(1,.first 0 (rg [3,4,7,23]) [1,2,4,5,6]<| .first 1 (rg [3,4,7,23]) [2,4,5,6]<| .first 2 (rg [3,4,7,23]) [4,5,6]<| .first 4 (rg [7,23]) [3,5,6]<| .first 5 (rg [7,23]) [3,6]<| .first 6 (rg [7,23]) [3]<| .fork 3 (.fork 7 (.first 8 (rg [9,23]) []<| .first 9 (rg [10,23]) []<| .first 10 (rg [11,23]) []<| .first 11 [14,18,19,20,21,22] [12,13,15,16,17]<| .first 12 [14,18,19,20,21,22] [13,15,16,17]<| .first 13 [14,18,19,20,21,22] [15,16,17]<| .first 15 [18,19,20,21,22] [14,16,17]<| .first 16 [18,19,20,21,22] [14,17]<| .first 17 [18,19,20,21,22] [14]<| .fork 14 (.fork 18 (.first 19 [20,21,22] []<| .first 20 [21,22] []<| .first 21 [22] []<| .fork 22 (.done) (.stop)) (.stop)) (.stop)) (.stop)) (.stop))]}
noncomputable def fc208:FCfg:={par:=[.cst false],inn:=[],out:=[],loopK:=[],frz:=[],sch:=[]}
noncomputable def fc209:FCfg:={par:=[.cst false,.cst false,.cst false],inn:=[],out:=[],loopK:=[],frz:=[],sch:=[]}
noncomputable def fc210:FCfg:={par:=[.cst false,.cst false,.cst false,.cst false],inn:=[],out:=[(1,some ([8],[]))],loopK:=[],frz:=[],sch:=[(1,.first 0 (rg [3,4,7,23]) [1,2,4,5,6]<| .first 1 (rg [3,4,7,23]) [2,4,5,6]<| .first 2 (rg [3,4,7,23]) [4,5,6]<| .first 4 (rg [7,23]) [3,5,6]<| .first 5 (rg [7,23]) [3,6]<| .first 6 (rg [7,23]) [3]<| .fork 3 (.fork 7 (.first 8 (rg [9,23]) []<| .first 9 (rg [10,23]) []<| .first 10 (rg [11,23]) []<| .first 11 [14,18,19,20,21,22] [12,13,15,16,17]<| .first 12 [14,18,19,20,21,22] [13,15,16,17]<| .first 13 [14,18,19,20,21,22] [15,16,17]<| .first 15 [18,19,20,21,22] [14,16,17]<| .first 16 [18,19,20,21,22] [14,17]<| .first 17 [18,19,20,21,22] [14]<| .fork 14 (.fork 18 (.first 19 [20,21,22] []<| .first 20 [21,22] []<| .first 21 [22] []<| .fork 22 (.done) (.stop)) (.stop)) (.stop)) (.stop)) (.stop))]}
noncomputable def fc211:FCfg:={par:=[],inn:=[],out:=[],loopK:=[],frz:=[],sch:=[]}
noncomputable def fc218:FCfg:={par:=[.cst false,.cst false,.cst false],inn:=[],out:=[],loopK:=[],frz:=[],sch:=[]}
noncomputable def fcs:List (Nat×FCfg):=[(7,fc7),(8,fc8),(10,fc10),(11,fc11),(12,fc12),(13,fc13),(14,fc14),(16,fc16),(17,fc17),(19,fc19),(20,fc20),(21,fc21),(30,fc30),(31,fc31),(32,fc32),(33,fc33),(34,fc34),(35,fc35),(36,fc36),(37,fc37),(38,fc38),(39,fc39),(40,fc40),(41,fc41),(42,fc42),(43,fc43),(44,fc44),(45,fc45),(46,fc46),(47,fc47),(48,fc48),(49,fc49),(50,fc50),(51,fc51),(52,fc52),(53,fc53),(54,fc54),(55,fc55),(56,fc56),(57,fc57),(62,fc62),(63,fc63),(64,fc64),(68,fc68),(69,fc69),(70,fc70),(74,fc74),(75,fc75),(76,fc76),(77,fc77),(78,fc78),(79,fc79),(80,fc80),(81,fc81),(82,fc82),(83,fc83),(84,fc84),(85,fc85),(86,fc86),(87,fc87),(88,fc88),(89,fc89),(90,fc90),(91,fc91),(92,fc92),(93,fc93),(94,fc94),(95,fc95),(96,fc96),(97,fc97),(98,fc98),(99,fc99),(100,fc100),(101,fc101),(102,fc102),(103,fc103),(104,fc104),(105,fc105),(106,fc106),(107,fc107),(108,fc108),(112,fc112),(113,fc113),(114,fc114),(123,fc123),(124,fc124),(125,fc125),(126,fc126),(127,fc127),(128,fc128),(129,fc129),(130,fc130),(131,fc131),(132,fc132),(133,fc133),(134,fc134),(135,fc135),(136,fc136),(137,fc137),(138,fc138),(139,fc139),(140,fc140),(141,fc141),(142,fc142),(143,fc143),(144,fc144),(145,fc145),(146,fc146),(147,fc147),(148,fc148),(149,fc149),(150,fc150),(151,fc151),(152,fc152),(153,fc153),(154,fc154),(155,fc155),(156,fc156),(157,fc157),(158,fc158),(159,fc159),(161,fc161),(168,fc168),(169,fc169),(170,fc170),(171,fc171),(172,fc172),(173,fc173),(174,fc174),(175,fc175),(176,fc176),(177,fc177),(178,fc178),(179,fc179),(180,fc180),(181,fc181),(182,fc182),(183,fc183),(184,fc184),(185,fc185),(186,fc186),(187,fc187),(188,fc188),(189,fc189),(190,fc190),(191,fc191),(193,fc193),(205,fc205),(206,fc206),(207,fc207),(208,fc208),(209,fc209),(210,fc210),(211,fc211),(218,fc218)]
noncomputable def ons:List (Nat×Bool):=[(7,true),(8,true),(10,true),(11,true),(12,true),(13,true),(14,true),(16,true),(17,true),(19,true),(20,true),(21,true),(30,true),(31,true),(32,true),(33,true),(34,true),(35,true),(36,true),(37,true),(38,true),(39,true),(40,true),(41,true),(42,true),(43,true),(44,true),(45,true),(46,true),(47,true),(48,true),(49,true),(50,true),(51,true),(52,true),(53,true),(54,true),(55,true),(56,true),(57,true),(62,true),(63,true),(64,true),(68,true),(69,true),(70,true),(74,true),(75,true),(76,true),(77,true),(78,true),(79,true),(80,true),(81,true),(82,true),(83,true),(84,true),(85,true),(86,true),(87,true),(88,true),(89,true),(90,true),(91,true),(92,true),(93,true),(94,true),(95,true),(96,true),(97,true),(98,true),(99,true),(100,true),(101,true),(102,true),(103,true),(104,true),(105,true),(106,true),(107,true),(108,true),(112,true),(113,true),(114,true),(123,true),(124,true),(125,true),(126,true),(127,true),(128,true),(129,true),(130,true),(131,true),(132,true),(133,true),(134,true),(135,true),(136,true),(137,true),(138,true),(139,true),(140,true),(141,true),(142,true),(143,true),(144,true),(145,true),(146,true),(147,true),(148,true),(149,true),(150,true),(151,true),(152,true),(153,true),(154,true),(155,true),(156,true),(157,true),(158,true),(159,true),(161,true),(168,true),(169,true),(170,true),(171,true),(172,true),(173,true),(174,true),(175,true),(176,true),(177,true),(178,true),(179,true),(180,true),(181,true),(182,true),(183,true),(184,true),(185,true),(186,true),(187,true),(188,true),(189,true),(190,true),(191,true),(193,true),(205,true),(206,true),(207,true),(208,true),(209,true),(210,true),(211,true),(218,true)]
noncomputable def cfg:Cfg:=mkCfg ons fcs []
theorem c7:cfg.fc 7=fc7:=rfl
instance C7:Cf cfg 7 fc7:=⟨c7⟩
instance Z7:Zf cfg 7:=⟨rfl⟩
theorem z7:(cfg.fc 7).frz=[]:=rfl
theorem c8:cfg.fc 8=fc8:=rfl
instance C8:Cf cfg 8 fc8:=⟨c8⟩
instance Z8:Zf cfg 8:=⟨rfl⟩
theorem c10:cfg.fc 10=fc10:=rfl
instance C10:Cf cfg 10 fc10:=⟨c10⟩
instance Z10:Zf cfg 10:=⟨rfl⟩
theorem c11:cfg.fc 11=fc11:=rfl
instance C11:Cf cfg 11 fc11:=⟨c11⟩
instance Z11:Zf cfg 11:=⟨rfl⟩
theorem c12:cfg.fc 12=fc12:=rfl
instance C12:Cf cfg 12 fc12:=⟨c12⟩
instance Z12:Zf cfg 12:=⟨rfl⟩
theorem c13:cfg.fc 13=fc13:=rfl
instance C13:Cf cfg 13 fc13:=⟨c13⟩
instance Z13:Zf cfg 13:=⟨rfl⟩
theorem c14:cfg.fc 14=fc14:=rfl
instance C14:Cf cfg 14 fc14:=⟨c14⟩
instance Z14:Zf cfg 14:=⟨rfl⟩
theorem c16:cfg.fc 16=fc16:=rfl
instance C16:Cf cfg 16 fc16:=⟨c16⟩
instance Z16:Zf cfg 16:=⟨rfl⟩
theorem c17:cfg.fc 17=fc17:=rfl
instance C17:Cf cfg 17 fc17:=⟨c17⟩
instance Z17:Zf cfg 17:=⟨rfl⟩
theorem c19:cfg.fc 19=fc19:=rfl
instance C19:Cf cfg 19 fc19:=⟨c19⟩
instance Z19:Zf cfg 19:=⟨rfl⟩
theorem c20:cfg.fc 20=fc20:=rfl
instance C20:Cf cfg 20 fc20:=⟨c20⟩
instance Z20:Zf cfg 20:=⟨rfl⟩
theorem c21:cfg.fc 21=fc21:=rfl
instance C21:Cf cfg 21 fc21:=⟨c21⟩
instance Z21:Zf cfg 21:=⟨rfl⟩
theorem z21:(cfg.fc 21).frz=[]:=rfl
theorem c30:cfg.fc 30=fc30:=rfl
instance C30:Cf cfg 30 fc30:=⟨c30⟩
instance Z30:Zf cfg 30:=⟨rfl⟩
theorem c31:cfg.fc 31=fc31:=rfl
instance C31:Cf cfg 31 fc31:=⟨c31⟩
instance Z31:Zf cfg 31:=⟨rfl⟩
theorem c32:cfg.fc 32=fc32:=rfl
instance C32:Cf cfg 32 fc32:=⟨c32⟩
instance Z32:Zf cfg 32:=⟨rfl⟩
theorem c33:cfg.fc 33=fc33:=rfl
instance C33:Cf cfg 33 fc33:=⟨c33⟩
instance Z33:Zf cfg 33:=⟨rfl⟩
theorem c34:cfg.fc 34=fc34:=rfl
instance C34:Cf cfg 34 fc34:=⟨c34⟩
instance Z34:Zf cfg 34:=⟨rfl⟩
theorem c35:cfg.fc 35=fc35:=rfl
instance C35:Cf cfg 35 fc35:=⟨c35⟩
instance Z35:Zf cfg 35:=⟨rfl⟩
theorem c36:cfg.fc 36=fc36:=rfl
instance C36:Cf cfg 36 fc36:=⟨c36⟩
instance Z36:Zf cfg 36:=⟨rfl⟩
theorem c37:cfg.fc 37=fc37:=rfl
instance C37:Cf cfg 37 fc37:=⟨c37⟩
instance Z37:Zf cfg 37:=⟨rfl⟩
theorem c38:cfg.fc 38=fc38:=rfl
instance C38:Cf cfg 38 fc38:=⟨c38⟩
instance Z38:Zf cfg 38:=⟨rfl⟩
theorem c39:cfg.fc 39=fc39:=rfl
instance C39:Cf cfg 39 fc39:=⟨c39⟩
instance Z39:Zf cfg 39:=⟨rfl⟩
theorem z39:(cfg.fc 39).frz=[]:=rfl
theorem c40:cfg.fc 40=fc40:=rfl
instance C40:Cf cfg 40 fc40:=⟨c40⟩
instance Z40:Zf cfg 40:=⟨rfl⟩
theorem c41:cfg.fc 41=fc41:=rfl
instance C41:Cf cfg 41 fc41:=⟨c41⟩
instance Z41:Zf cfg 41:=⟨rfl⟩
theorem c42:cfg.fc 42=fc42:=rfl
instance C42:Cf cfg 42 fc42:=⟨c42⟩
instance Z42:Zf cfg 42:=⟨rfl⟩
theorem c43:cfg.fc 43=fc43:=rfl
instance C43:Cf cfg 43 fc43:=⟨c43⟩
instance Z43:Zf cfg 43:=⟨rfl⟩
theorem c44:cfg.fc 44=fc44:=rfl
instance C44:Cf cfg 44 fc44:=⟨c44⟩
instance Z44:Zf cfg 44:=⟨rfl⟩
theorem c45:cfg.fc 45=fc45:=rfl
instance C45:Cf cfg 45 fc45:=⟨c45⟩
instance Z45:Zf cfg 45:=⟨rfl⟩
theorem c46:cfg.fc 46=fc46:=rfl
instance C46:Cf cfg 46 fc46:=⟨c46⟩
instance Z46:Zf cfg 46:=⟨rfl⟩
theorem z46:(cfg.fc 46).frz=[]:=rfl
theorem c47:cfg.fc 47=fc47:=rfl
instance C47:Cf cfg 47 fc47:=⟨c47⟩
instance Z47:Zf cfg 47:=⟨rfl⟩
theorem z47:(cfg.fc 47).frz=[]:=rfl
theorem c48:cfg.fc 48=fc48:=rfl
instance C48:Cf cfg 48 fc48:=⟨c48⟩
instance Z48:Zf cfg 48:=⟨rfl⟩
theorem c49:cfg.fc 49=fc49:=rfl
instance C49:Cf cfg 49 fc49:=⟨c49⟩
instance Z49:Zf cfg 49:=⟨rfl⟩
theorem c50:cfg.fc 50=fc50:=rfl
instance C50:Cf cfg 50 fc50:=⟨c50⟩
instance Z50:Zf cfg 50:=⟨rfl⟩
theorem c51:cfg.fc 51=fc51:=rfl
instance C51:Cf cfg 51 fc51:=⟨c51⟩
instance Z51:Zf cfg 51:=⟨rfl⟩
theorem c52:cfg.fc 52=fc52:=rfl
instance C52:Cf cfg 52 fc52:=⟨c52⟩
instance Z52:Zf cfg 52:=⟨rfl⟩
theorem z52:(cfg.fc 52).frz=[]:=rfl
theorem c53:cfg.fc 53=fc53:=rfl
instance C53:Cf cfg 53 fc53:=⟨c53⟩
instance Z53:Zf cfg 53:=⟨rfl⟩
theorem z53:(cfg.fc 53).frz=[]:=rfl
theorem c54:cfg.fc 54=fc54:=rfl
instance C54:Cf cfg 54 fc54:=⟨c54⟩
instance Z54:Zf cfg 54:=⟨rfl⟩
theorem c55:cfg.fc 55=fc55:=rfl
instance C55:Cf cfg 55 fc55:=⟨c55⟩
instance Z55:Zf cfg 55:=⟨rfl⟩
theorem c56:cfg.fc 56=fc56:=rfl
instance C56:Cf cfg 56 fc56:=⟨c56⟩
instance Z56:Zf cfg 56:=⟨rfl⟩
theorem c57:cfg.fc 57=fc57:=rfl
instance C57:Cf cfg 57 fc57:=⟨c57⟩
instance Z57:Zf cfg 57:=⟨rfl⟩
theorem c62:cfg.fc 62=fc62:=rfl
instance C62:Cf cfg 62 fc62:=⟨c62⟩
instance Z62:Zf cfg 62:=⟨rfl⟩
theorem c63:cfg.fc 63=fc63:=rfl
instance C63:Cf cfg 63 fc63:=⟨c63⟩
instance Z63:Zf cfg 63:=⟨rfl⟩
theorem c64:cfg.fc 64=fc64:=rfl
instance C64:Cf cfg 64 fc64:=⟨c64⟩
instance Z64:Zf cfg 64:=⟨rfl⟩
theorem c68:cfg.fc 68=fc68:=rfl
instance C68:Cf cfg 68 fc68:=⟨c68⟩
instance Z68:Zf cfg 68:=⟨rfl⟩
theorem z68:(cfg.fc 68).frz=[]:=rfl
theorem c69:cfg.fc 69=fc69:=rfl
instance C69:Cf cfg 69 fc69:=⟨c69⟩
instance Z69:Zf cfg 69:=⟨rfl⟩
theorem z69:(cfg.fc 69).frz=[]:=rfl
theorem c70:cfg.fc 70=fc70:=rfl
instance C70:Cf cfg 70 fc70:=⟨c70⟩
instance Z70:Zf cfg 70:=⟨rfl⟩
theorem c74:cfg.fc 74=fc74:=rfl
instance C74:Cf cfg 74 fc74:=⟨c74⟩
instance Z74:Zf cfg 74:=⟨rfl⟩
theorem c75:cfg.fc 75=fc75:=rfl
instance C75:Cf cfg 75 fc75:=⟨c75⟩
instance Z75:Zf cfg 75:=⟨rfl⟩
theorem c76:cfg.fc 76=fc76:=rfl
instance C76:Cf cfg 76 fc76:=⟨c76⟩
instance Z76:Zf cfg 76:=⟨rfl⟩
theorem c77:cfg.fc 77=fc77:=rfl
instance C77:Cf cfg 77 fc77:=⟨c77⟩
instance Z77:Zf cfg 77:=⟨rfl⟩
theorem c78:cfg.fc 78=fc78:=rfl
instance C78:Cf cfg 78 fc78:=⟨c78⟩
instance Z78:Zf cfg 78:=⟨rfl⟩
theorem c79:cfg.fc 79=fc79:=rfl
instance C79:Cf cfg 79 fc79:=⟨c79⟩
instance Z79:Zf cfg 79:=⟨rfl⟩
theorem c80:cfg.fc 80=fc80:=rfl
instance C80:Cf cfg 80 fc80:=⟨c80⟩
instance Z80:Zf cfg 80:=⟨rfl⟩
theorem z80:(cfg.fc 80).frz=[]:=rfl
theorem c81:cfg.fc 81=fc81:=rfl
instance C81:Cf cfg 81 fc81:=⟨c81⟩
instance Z81:Zf cfg 81:=⟨rfl⟩
theorem c82:cfg.fc 82=fc82:=rfl
instance C82:Cf cfg 82 fc82:=⟨c82⟩
instance Z82:Zf cfg 82:=⟨rfl⟩
theorem c83:cfg.fc 83=fc83:=rfl
instance C83:Cf cfg 83 fc83:=⟨c83⟩
instance Z83:Zf cfg 83:=⟨rfl⟩
theorem z83:(cfg.fc 83).frz=[]:=rfl
theorem c84:cfg.fc 84=fc84:=rfl
instance C84:Cf cfg 84 fc84:=⟨c84⟩
instance Z84:Zf cfg 84:=⟨rfl⟩
theorem z84:(cfg.fc 84).frz=[]:=rfl
theorem c85:cfg.fc 85=fc85:=rfl
instance C85:Cf cfg 85 fc85:=⟨c85⟩
instance Z85:Zf cfg 85:=⟨rfl⟩
theorem c86:cfg.fc 86=fc86:=rfl
instance C86:Cf cfg 86 fc86:=⟨c86⟩
instance Z86:Zf cfg 86:=⟨rfl⟩
theorem c87:cfg.fc 87=fc87:=rfl
instance C87:Cf cfg 87 fc87:=⟨c87⟩
instance Z87:Zf cfg 87:=⟨rfl⟩
theorem z87:(cfg.fc 87).frz=[]:=rfl
theorem c88:cfg.fc 88=fc88:=rfl
instance C88:Cf cfg 88 fc88:=⟨c88⟩
instance Z88:Zf cfg 88:=⟨rfl⟩
theorem z88:(cfg.fc 88).frz=[]:=rfl
theorem c89:cfg.fc 89=fc89:=rfl
instance C89:Cf cfg 89 fc89:=⟨c89⟩
instance Z89:Zf cfg 89:=⟨rfl⟩
theorem z89:(cfg.fc 89).frz=[]:=rfl
theorem c90:cfg.fc 90=fc90:=rfl
instance C90:Cf cfg 90 fc90:=⟨c90⟩
instance Z90:Zf cfg 90:=⟨rfl⟩
theorem z90:(cfg.fc 90).frz=[]:=rfl
theorem c91:cfg.fc 91=fc91:=rfl
instance C91:Cf cfg 91 fc91:=⟨c91⟩
instance Z91:Zf cfg 91:=⟨rfl⟩
theorem c92:cfg.fc 92=fc92:=rfl
instance C92:Cf cfg 92 fc92:=⟨c92⟩
instance Z92:Zf cfg 92:=⟨rfl⟩
theorem c93:cfg.fc 93=fc93:=rfl
instance C93:Cf cfg 93 fc93:=⟨c93⟩
instance Z93:Zf cfg 93:=⟨rfl⟩
theorem c94:cfg.fc 94=fc94:=rfl
instance C94:Cf cfg 94 fc94:=⟨c94⟩
instance Z94:Zf cfg 94:=⟨rfl⟩
theorem c95:cfg.fc 95=fc95:=rfl
instance C95:Cf cfg 95 fc95:=⟨c95⟩
instance Z95:Zf cfg 95:=⟨rfl⟩
theorem z95:(cfg.fc 95).frz=[]:=rfl
theorem c96:cfg.fc 96=fc96:=rfl
instance C96:Cf cfg 96 fc96:=⟨c96⟩
instance Z96:Zf cfg 96:=⟨rfl⟩
theorem c97:cfg.fc 97=fc97:=rfl
instance C97:Cf cfg 97 fc97:=⟨c97⟩
instance Z97:Zf cfg 97:=⟨rfl⟩
theorem c98:cfg.fc 98=fc98:=rfl
instance C98:Cf cfg 98 fc98:=⟨c98⟩
instance Z98:Zf cfg 98:=⟨rfl⟩
theorem z98:(cfg.fc 98).frz=[]:=rfl
theorem c99:cfg.fc 99=fc99:=rfl
instance C99:Cf cfg 99 fc99:=⟨c99⟩
instance Z99:Zf cfg 99:=⟨rfl⟩
theorem c100:cfg.fc 100=fc100:=rfl
instance C100:Cf cfg 100 fc100:=⟨c100⟩
instance Z100:Zf cfg 100:=⟨rfl⟩
theorem c101:cfg.fc 101=fc101:=rfl
instance C101:Cf cfg 101 fc101:=⟨c101⟩
instance Z101:Zf cfg 101:=⟨rfl⟩
theorem c102:cfg.fc 102=fc102:=rfl
instance C102:Cf cfg 102 fc102:=⟨c102⟩
instance Z102:Zf cfg 102:=⟨rfl⟩
theorem c103:cfg.fc 103=fc103:=rfl
instance C103:Cf cfg 103 fc103:=⟨c103⟩
instance Z103:Zf cfg 103:=⟨rfl⟩
theorem c104:cfg.fc 104=fc104:=rfl
instance C104:Cf cfg 104 fc104:=⟨c104⟩
instance Z104:Zf cfg 104:=⟨rfl⟩
theorem c105:cfg.fc 105=fc105:=rfl
instance C105:Cf cfg 105 fc105:=⟨c105⟩
instance Z105:Zf cfg 105:=⟨rfl⟩
theorem c106:cfg.fc 106=fc106:=rfl
instance C106:Cf cfg 106 fc106:=⟨c106⟩
instance Z106:Zf cfg 106:=⟨rfl⟩
theorem z106:(cfg.fc 106).frz=[]:=rfl
theorem c107:cfg.fc 107=fc107:=rfl
instance C107:Cf cfg 107 fc107:=⟨c107⟩
instance Z107:Zf cfg 107:=⟨rfl⟩
theorem c108:cfg.fc 108=fc108:=rfl
instance C108:Cf cfg 108 fc108:=⟨c108⟩
instance Z108:Zf cfg 108:=⟨rfl⟩
theorem c112:cfg.fc 112=fc112:=rfl
instance C112:Cf cfg 112 fc112:=⟨c112⟩
instance Z112:Zf cfg 112:=⟨rfl⟩
theorem c113:cfg.fc 113=fc113:=rfl
instance C113:Cf cfg 113 fc113:=⟨c113⟩
instance Z113:Zf cfg 113:=⟨rfl⟩
theorem c114:cfg.fc 114=fc114:=rfl
instance C114:Cf cfg 114 fc114:=⟨c114⟩
instance Z114:Zf cfg 114:=⟨rfl⟩
theorem c123:cfg.fc 123=fc123:=rfl
instance C123:Cf cfg 123 fc123:=⟨c123⟩
instance Z123:Zf cfg 123:=⟨rfl⟩
theorem c124:cfg.fc 124=fc124:=rfl
instance C124:Cf cfg 124 fc124:=⟨c124⟩
instance Z124:Zf cfg 124:=⟨rfl⟩
theorem c125:cfg.fc 125=fc125:=rfl
instance C125:Cf cfg 125 fc125:=⟨c125⟩
instance Z125:Zf cfg 125:=⟨rfl⟩
theorem c126:cfg.fc 126=fc126:=rfl
instance C126:Cf cfg 126 fc126:=⟨c126⟩
instance Z126:Zf cfg 126:=⟨rfl⟩
theorem c127:cfg.fc 127=fc127:=rfl
instance C127:Cf cfg 127 fc127:=⟨c127⟩
instance Z127:Zf cfg 127:=⟨rfl⟩
theorem z127:(cfg.fc 127).frz=[]:=rfl
theorem c128:cfg.fc 128=fc128:=rfl
instance C128:Cf cfg 128 fc128:=⟨c128⟩
instance Z128:Zf cfg 128:=⟨rfl⟩
theorem c129:cfg.fc 129=fc129:=rfl
instance C129:Cf cfg 129 fc129:=⟨c129⟩
instance Z129:Zf cfg 129:=⟨rfl⟩
theorem c130:cfg.fc 130=fc130:=rfl
instance C130:Cf cfg 130 fc130:=⟨c130⟩
instance Z130:Zf cfg 130:=⟨rfl⟩
theorem c131:cfg.fc 131=fc131:=rfl
instance C131:Cf cfg 131 fc131:=⟨c131⟩
instance Z131:Zf cfg 131:=⟨rfl⟩
theorem c132:cfg.fc 132=fc132:=rfl
instance C132:Cf cfg 132 fc132:=⟨c132⟩
instance Z132:Zf cfg 132:=⟨rfl⟩
theorem c133:cfg.fc 133=fc133:=rfl
instance C133:Cf cfg 133 fc133:=⟨c133⟩
instance Z133:Zf cfg 133:=⟨rfl⟩
theorem c134:cfg.fc 134=fc134:=rfl
instance C134:Cf cfg 134 fc134:=⟨c134⟩
instance Z134:Zf cfg 134:=⟨rfl⟩
theorem c135:cfg.fc 135=fc135:=rfl
instance C135:Cf cfg 135 fc135:=⟨c135⟩
instance Z135:Zf cfg 135:=⟨rfl⟩
theorem c136:cfg.fc 136=fc136:=rfl
instance C136:Cf cfg 136 fc136:=⟨c136⟩
instance Z136:Zf cfg 136:=⟨rfl⟩
theorem c137:cfg.fc 137=fc137:=rfl
instance C137:Cf cfg 137 fc137:=⟨c137⟩
instance Z137:Zf cfg 137:=⟨rfl⟩
theorem c138:cfg.fc 138=fc138:=rfl
instance C138:Cf cfg 138 fc138:=⟨c138⟩
instance Z138:Zf cfg 138:=⟨rfl⟩
theorem c139:cfg.fc 139=fc139:=rfl
instance C139:Cf cfg 139 fc139:=⟨c139⟩
instance Z139:Zf cfg 139:=⟨rfl⟩
theorem z139:(cfg.fc 139).frz=[]:=rfl
theorem c140:cfg.fc 140=fc140:=rfl
instance C140:Cf cfg 140 fc140:=⟨c140⟩
instance Z140:Zf cfg 140:=⟨rfl⟩
theorem c141:cfg.fc 141=fc141:=rfl
instance C141:Cf cfg 141 fc141:=⟨c141⟩
instance Z141:Zf cfg 141:=⟨rfl⟩
theorem c142:cfg.fc 142=fc142:=rfl
instance C142:Cf cfg 142 fc142:=⟨c142⟩
instance Z142:Zf cfg 142:=⟨rfl⟩
theorem c143:cfg.fc 143=fc143:=rfl
instance C143:Cf cfg 143 fc143:=⟨c143⟩
instance Z143:Zf cfg 143:=⟨rfl⟩
theorem c144:cfg.fc 144=fc144:=rfl
instance C144:Cf cfg 144 fc144:=⟨c144⟩
instance Z144:Zf cfg 144:=⟨rfl⟩
theorem c145:cfg.fc 145=fc145:=rfl
instance C145:Cf cfg 145 fc145:=⟨c145⟩
instance Z145:Zf cfg 145:=⟨rfl⟩
theorem c146:cfg.fc 146=fc146:=rfl
instance C146:Cf cfg 146 fc146:=⟨c146⟩
instance Z146:Zf cfg 146:=⟨rfl⟩
theorem z146:(cfg.fc 146).frz=[]:=rfl
theorem c147:cfg.fc 147=fc147:=rfl
instance C147:Cf cfg 147 fc147:=⟨c147⟩
instance Z147:Zf cfg 147:=⟨rfl⟩
theorem c148:cfg.fc 148=fc148:=rfl
instance C148:Cf cfg 148 fc148:=⟨c148⟩
instance Z148:Zf cfg 148:=⟨rfl⟩
theorem c149:cfg.fc 149=fc149:=rfl
instance C149:Cf cfg 149 fc149:=⟨c149⟩
instance Z149:Zf cfg 149:=⟨rfl⟩
theorem c150:cfg.fc 150=fc150:=rfl
instance C150:Cf cfg 150 fc150:=⟨c150⟩
instance Z150:Zf cfg 150:=⟨rfl⟩
theorem c151:cfg.fc 151=fc151:=rfl
instance C151:Cf cfg 151 fc151:=⟨c151⟩
instance Z151:Zf cfg 151:=⟨rfl⟩
theorem c152:cfg.fc 152=fc152:=rfl
instance C152:Cf cfg 152 fc152:=⟨c152⟩
instance Z152:Zf cfg 152:=⟨rfl⟩
theorem c153:cfg.fc 153=fc153:=rfl
instance C153:Cf cfg 153 fc153:=⟨c153⟩
instance Z153:Zf cfg 153:=⟨rfl⟩
theorem c154:cfg.fc 154=fc154:=rfl
instance C154:Cf cfg 154 fc154:=⟨c154⟩
instance Z154:Zf cfg 154:=⟨rfl⟩
theorem z154:(cfg.fc 154).frz=[]:=rfl
theorem c155:cfg.fc 155=fc155:=rfl
instance C155:Cf cfg 155 fc155:=⟨c155⟩
instance Z155:Zf cfg 155:=⟨rfl⟩
theorem z155:(cfg.fc 155).frz=[]:=rfl
theorem c156:cfg.fc 156=fc156:=rfl
instance C156:Cf cfg 156 fc156:=⟨c156⟩
instance Z156:Zf cfg 156:=⟨rfl⟩
theorem c157:cfg.fc 157=fc157:=rfl
instance C157:Cf cfg 157 fc157:=⟨c157⟩
instance Z157:Zf cfg 157:=⟨rfl⟩
theorem z157:(cfg.fc 157).frz=[]:=rfl
theorem c158:cfg.fc 158=fc158:=rfl
instance C158:Cf cfg 158 fc158:=⟨c158⟩
instance Z158:Zf cfg 158:=⟨rfl⟩
theorem z158:(cfg.fc 158).frz=[]:=rfl
theorem c159:cfg.fc 159=fc159:=rfl
instance C159:Cf cfg 159 fc159:=⟨c159⟩
instance Z159:Zf cfg 159:=⟨rfl⟩
theorem c161:cfg.fc 161=fc161:=rfl
instance C161:Cf cfg 161 fc161:=⟨c161⟩
instance Z161:Zf cfg 161:=⟨rfl⟩
theorem c168:cfg.fc 168=fc168:=rfl
instance C168:Cf cfg 168 fc168:=⟨c168⟩
instance Z168:Zf cfg 168:=⟨rfl⟩
theorem z168:(cfg.fc 168).frz=[]:=rfl
theorem c169:cfg.fc 169=fc169:=rfl
instance C169:Cf cfg 169 fc169:=⟨c169⟩
instance Z169:Zf cfg 169:=⟨rfl⟩
theorem z169:(cfg.fc 169).frz=[]:=rfl
theorem c170:cfg.fc 170=fc170:=rfl
instance C170:Cf cfg 170 fc170:=⟨c170⟩
instance Z170:Zf cfg 170:=⟨rfl⟩
theorem c171:cfg.fc 171=fc171:=rfl
instance C171:Cf cfg 171 fc171:=⟨c171⟩
instance Z171:Zf cfg 171:=⟨rfl⟩
theorem z171:(cfg.fc 171).frz=[]:=rfl
theorem c172:cfg.fc 172=fc172:=rfl
instance C172:Cf cfg 172 fc172:=⟨c172⟩
instance Z172:Zf cfg 172:=⟨rfl⟩
theorem c173:cfg.fc 173=fc173:=rfl
instance C173:Cf cfg 173 fc173:=⟨c173⟩
instance Z173:Zf cfg 173:=⟨rfl⟩
theorem c174:cfg.fc 174=fc174:=rfl
instance C174:Cf cfg 174 fc174:=⟨c174⟩
instance Z174:Zf cfg 174:=⟨rfl⟩
theorem c175:cfg.fc 175=fc175:=rfl
instance C175:Cf cfg 175 fc175:=⟨c175⟩
instance Z175:Zf cfg 175:=⟨rfl⟩
theorem c176:cfg.fc 176=fc176:=rfl
instance C176:Cf cfg 176 fc176:=⟨c176⟩
instance Z176:Zf cfg 176:=⟨rfl⟩
theorem c177:cfg.fc 177=fc177:=rfl
instance C177:Cf cfg 177 fc177:=⟨c177⟩
instance Z177:Zf cfg 177:=⟨rfl⟩
theorem c178:cfg.fc 178=fc178:=rfl
instance C178:Cf cfg 178 fc178:=⟨c178⟩
instance Z178:Zf cfg 178:=⟨rfl⟩
theorem c179:cfg.fc 179=fc179:=rfl
instance C179:Cf cfg 179 fc179:=⟨c179⟩
instance Z179:Zf cfg 179:=⟨rfl⟩
theorem c180:cfg.fc 180=fc180:=rfl
instance C180:Cf cfg 180 fc180:=⟨c180⟩
instance Z180:Zf cfg 180:=⟨rfl⟩
theorem c181:cfg.fc 181=fc181:=rfl
instance C181:Cf cfg 181 fc181:=⟨c181⟩
instance Z181:Zf cfg 181:=⟨rfl⟩
theorem c182:cfg.fc 182=fc182:=rfl
instance C182:Cf cfg 182 fc182:=⟨c182⟩
instance Z182:Zf cfg 182:=⟨rfl⟩
theorem c183:cfg.fc 183=fc183:=rfl
instance C183:Cf cfg 183 fc183:=⟨c183⟩
instance Z183:Zf cfg 183:=⟨rfl⟩
theorem c184:cfg.fc 184=fc184:=rfl
instance C184:Cf cfg 184 fc184:=⟨c184⟩
instance Z184:Zf cfg 184:=⟨rfl⟩
theorem c185:cfg.fc 185=fc185:=rfl
instance C185:Cf cfg 185 fc185:=⟨c185⟩
instance Z185:Zf cfg 185:=⟨rfl⟩
theorem c186:cfg.fc 186=fc186:=rfl
instance C186:Cf cfg 186 fc186:=⟨c186⟩
instance Z186:Zf cfg 186:=⟨rfl⟩
theorem z186:(cfg.fc 186).frz=[]:=rfl
theorem c187:cfg.fc 187=fc187:=rfl
instance C187:Cf cfg 187 fc187:=⟨c187⟩
instance Z187:Zf cfg 187:=⟨rfl⟩
theorem c188:cfg.fc 188=fc188:=rfl
instance C188:Cf cfg 188 fc188:=⟨c188⟩
instance Z188:Zf cfg 188:=⟨rfl⟩
theorem z188:(cfg.fc 188).frz=[]:=rfl
theorem c189:cfg.fc 189=fc189:=rfl
instance C189:Cf cfg 189 fc189:=⟨c189⟩
instance Z189:Zf cfg 189:=⟨rfl⟩
theorem c190:cfg.fc 190=fc190:=rfl
instance C190:Cf cfg 190 fc190:=⟨c190⟩
instance Z190:Zf cfg 190:=⟨rfl⟩
theorem c191:cfg.fc 191=fc191:=rfl
instance C191:Cf cfg 191 fc191:=⟨c191⟩
instance Z191:Zf cfg 191:=⟨rfl⟩
theorem c193:cfg.fc 193=fc193:=rfl
instance C193:Cf cfg 193 fc193:=⟨c193⟩
instance Z193:Zf cfg 193:=⟨rfl⟩
theorem c205:cfg.fc 205=fc205:=rfl
instance C205:Cf cfg 205 fc205:=⟨c205⟩
instance Z205:Zf cfg 205:=⟨rfl⟩
theorem c206:cfg.fc 206=fc206:=rfl
instance C206:Cf cfg 206 fc206:=⟨c206⟩
instance Z206:Zf cfg 206:=⟨rfl⟩
theorem c207:cfg.fc 207=fc207:=rfl
instance C207:Cf cfg 207 fc207:=⟨c207⟩
instance Z207:Zf cfg 207:=⟨rfl⟩
theorem z207:(cfg.fc 207).frz=[]:=rfl
theorem c208:cfg.fc 208=fc208:=rfl
instance C208:Cf cfg 208 fc208:=⟨c208⟩
instance Z208:Zf cfg 208:=⟨rfl⟩
theorem c209:cfg.fc 209=fc209:=rfl
instance C209:Cf cfg 209 fc209:=⟨c209⟩
instance Z209:Zf cfg 209:=⟨rfl⟩
theorem c210:cfg.fc 210=fc210:=rfl
instance C210:Cf cfg 210 fc210:=⟨c210⟩
instance Z210:Zf cfg 210:=⟨rfl⟩
theorem z210:(cfg.fc 210).frz=[]:=rfl
theorem c211:cfg.fc 211=fc211:=rfl
instance C211:Cf cfg 211 fc211:=⟨c211⟩
instance Z211:Zf cfg 211:=⟨rfl⟩
theorem c218:cfg.fc 218=fc218:=rfl
instance C218:Cf cfg 218 fc218:=⟨c218⟩
instance Z218:Zf cfg 218:=⟨rfl⟩
noncomputable abbrev Pg:=Tryz.prog
theorem eF118:elemSz Pg 118=some (33,1):=kr
theorem eF162:elemSz Pg 162=some (234,4):=kr
theorem eF289:elemSz Pg 289=some (9,1):=kr
theorem eF33:elemSz Pg 33=some (2,1):=kr
theorem eF38:elemSz Pg 38=some (184,2):=kr
theorem eF39:elemSz Pg 39=some (187,2):=kr
theorem eF42:elemSz Pg 42=some (123,3):=kr
theorem eF45:elemSz Pg 45=some (164,9):=kr
theorem eF46:elemSz Pg 46=some (101,5):=kr
theorem eF78:elemSz Pg 78=some (209,4):=kr
theorem eF79:elemSz Pg 79=some (211,4):=kr
theorem fF101_0:fieldF Pg 101 0=some 0:=kr
theorem fF101_1:fieldF Pg 101 1=some 1:=kr
theorem fF101_2:fieldF Pg 101 2=some 2:=kr
theorem fF101_3:fieldF Pg 101 3=some 3:=kr
theorem fF101_4:fieldF Pg 101 4=some 4:=kr
theorem fF112_0:fieldF Pg 112 0=some 0:=kr
theorem fF112_1:fieldF Pg 112 1=some 1:=kr
theorem fF112_2:fieldF Pg 112 2=some 2:=kr
theorem fF123_0:fieldF Pg 123 0=some 0:=kr
theorem fF123_1:fieldF Pg 123 1=some 1:=kr
theorem fF123_2:fieldF Pg 123 2=some 2:=kr
theorem fF153_0:fieldF Pg 153 0=some 0:=kr
theorem fF153_1:fieldF Pg 153 1=some 1:=kr
theorem fF153_2:fieldF Pg 153 2=some 2:=kr
theorem fF153_3:fieldF Pg 153 3=some 3:=kr
theorem fF153_4:fieldF Pg 153 4=some 6:=kr
theorem fF153_5:fieldF Pg 153 5=some 7:=kr
theorem fF153_6:fieldF Pg 153 6=some 8:=kr
theorem fF164_0:fieldF Pg 164 0=some 0:=kr
theorem fF164_1:fieldF Pg 164 1=some 1:=kr
theorem fF164_2:fieldF Pg 164 2=some 2:=kr
theorem fF164_3:fieldF Pg 164 3=some 3:=kr
theorem fF164_4:fieldF Pg 164 4=some 6:=kr
theorem fF164_5:fieldF Pg 164 5=some 7:=kr
theorem fF164_6:fieldF Pg 164 6=some 8:=kr
theorem fF167_0:fieldF Pg 167 0=some 0:=kr
theorem fF167_1:fieldF Pg 167 1=some 1:=kr
theorem fF167_2:fieldF Pg 167 2=some 2:=kr
theorem fF167_3:fieldF Pg 167 3=some 3:=kr
theorem fF167_4:fieldF Pg 167 4=some 4:=kr
theorem fF177_0:fieldF Pg 177 0=some 0:=kr
theorem fF177_1:fieldF Pg 177 1=some 1:=kr
theorem fF184_0:fieldF Pg 184 0=some 0:=kr
theorem fF184_1:fieldF Pg 184 1=some 1:=kr
theorem fF186_0:fieldF Pg 186 0=some 0:=kr
theorem fF186_1:fieldF Pg 186 1=some 1:=kr
theorem fF187_0:fieldF Pg 187 0=some 0:=kr
theorem fF187_1:fieldF Pg 187 1=some 1:=kr
theorem fF203_0:fieldF Pg 203 0=some 0:=kr
theorem fF203_1:fieldF Pg 203 1=some 1:=kr
theorem fF203_2:fieldF Pg 203 2=some 2:=kr
theorem fF203_3:fieldF Pg 203 3=some 3:=kr
theorem fF206_0:fieldF Pg 206 0=some 0:=kr
theorem fF206_1:fieldF Pg 206 1=some 1:=kr
theorem fF206_2:fieldF Pg 206 2=some 2:=kr
theorem fF206_3:fieldF Pg 206 3=some 3:=kr
theorem fF209_0:fieldF Pg 209 0=some 0:=kr
theorem fF209_1:fieldF Pg 209 1=some 1:=kr
theorem fF209_2:fieldF Pg 209 2=some 2:=kr
theorem fF209_3:fieldF Pg 209 3=some 3:=kr
theorem fF211_0:fieldF Pg 211 0=some 0:=kr
theorem fF211_1:fieldF Pg 211 1=some 1:=kr
theorem fF211_2:fieldF Pg 211 2=some 2:=kr
theorem fF211_3:fieldF Pg 211 3=some 3:=kr
theorem fF234_0:fieldF Pg 234 0=some 0:=kr
theorem fF234_1:fieldF Pg 234 1=some 1:=kr
theorem fF234_2:fieldF Pg 234 2=some 2:=kr
theorem fF234_3:fieldF Pg 234 3=some 3:=kr
theorem fF258_0:fieldF Pg 258 0=some 0:=kr
theorem fF258_1:fieldF Pg 258 1=some 1:=kr
theorem fF258_2:fieldF Pg 258 2=some 2:=kr
theorem fF258_3:fieldF Pg 258 3=some 3:=kr
theorem fF25_0:fieldF Pg 25 0=some 0:=kr
theorem fF25_1:fieldF Pg 25 1=some 1:=kr
theorem fF25_2:fieldF Pg 25 2=some 2:=kr
theorem fF25_3:fieldF Pg 25 3=some 3:=kr
theorem fF28_0:fieldF Pg 28 0=some 0:=kr
theorem fF28_1:fieldF Pg 28 1=some 4:=kr
theorem fF32_0:fieldF Pg 32 0=some 0:=kr
theorem fF32_1:fieldF Pg 32 1=some 1:=kr
theorem fF32_2:fieldF Pg 32 2=some 2:=kr
theorem fF32_3:fieldF Pg 32 3=some 3:=kr
theorem fF35_0:fieldF Pg 35 0=some 0:=kr
theorem fF35_1:fieldF Pg 35 1=some 5:=kr
theorem fF35_2:fieldF Pg 35 2=some 6:=kr
theorem fF35_3:fieldF Pg 35 3=some 7:=kr
theorem fF35_4:fieldF Pg 35 4=some 11:=kr
theorem fF35_5:fieldF Pg 35 5=some 12:=kr
theorem fF35_6:fieldF Pg 35 6=some 13:=kr
theorem fF35_7:fieldF Pg 35 7=some 14:=kr
theorem fF35_8:fieldF Pg 35 8=some 15:=kr
theorem fF35_9:fieldF Pg 35 9=some 16:=kr
theorem fF41_0:fieldF Pg 41 0=some 0:=kr
theorem fF41_1:fieldF Pg 41 1=some 1:=kr
theorem fF41_2:fieldF Pg 41 2=some 2:=kr
theorem fF41_3:fieldF Pg 41 3=some 3:=kr
theorem fF44_0:fieldF Pg 44 0=some 0:=kr
theorem fF44_1:fieldF Pg 44 1=some 4:=kr
theorem fF47_0:fieldF Pg 47 0=some 0:=kr
theorem fF47_1:fieldF Pg 47 1=some 1:=kr
theorem fF47_2:fieldF Pg 47 2=some 2:=kr
theorem fF47_3:fieldF Pg 47 3=some 3:=kr
theorem fF49_0:fieldF Pg 49 0=some 0:=kr
theorem fF49_1:fieldF Pg 49 1=some 5:=kr
theorem fF49_2:fieldF Pg 49 2=some 6:=kr
theorem fF49_3:fieldF Pg 49 3=some 7:=kr
theorem fF49_4:fieldF Pg 49 4=some 11:=kr
theorem fF49_5:fieldF Pg 49 5=some 12:=kr
theorem fF49_6:fieldF Pg 49 6=some 13:=kr
theorem fF49_7:fieldF Pg 49 7=some 14:=kr
theorem fF49_8:fieldF Pg 49 8=some 15:=kr
theorem fF49_9:fieldF Pg 49 9=some 16:=kr
theorem fF73_0:fieldF Pg 73 0=some 0:=kr
theorem fF73_1:fieldF Pg 73 1=some 1:=kr
theorem fF73_2:fieldF Pg 73 2=some 2:=kr
theorem fF73_3:fieldF Pg 73 3=some 3:=kr
theorem fF73_4:fieldF Pg 73 4=some 4:=kr
theorem fF75_0:fieldF Pg 75 0=some 0:=kr
theorem fF75_1:fieldF Pg 75 1=some 17:=kr
theorem fF75_2:fieldF Pg 75 2=some 18:=kr
theorem fF75_3:fieldF Pg 75 3=some 19:=kr
theorem fF80_0:fieldF Pg 80 0=some 0:=kr
theorem fF80_1:fieldF Pg 80 1=some 1:=kr
theorem fF80_2:fieldF Pg 80 2=some 2:=kr
theorem fF80_3:fieldF Pg 80 3=some 3:=kr
theorem fF80_4:fieldF Pg 80 4=some 4:=kr
theorem fF82_0:fieldF Pg 82 0=some 0:=kr
theorem fF82_1:fieldF Pg 82 1=some 17:=kr
theorem fF82_2:fieldF Pg 82 2=some 18:=kr
theorem fF82_3:fieldF Pg 82 3=some 19:=kr
theorem kF100_164:callK Pg cfg 100 0 [164]=[(.cst false,[none,none,none,none,none,none,none,none,some 4])]:=kr
theorem kF101_101:callK Pg cfg 101 0 [101]=[(.cst false,[none,none,none,none,none])]:=kr
theorem kF102_33_2:callK Pg cfg 102 0 [33,2]=[(.cst false,[some 1]),(.cst false,[none])]:=kr
theorem kF103_164_164:callK Pg cfg 103 0 [164,164]=[(.cst false,[none,none,none,none,none,none,none,none,some 4]),(.cst false,[none,none,none,none,none,none,none,none,some 4])]:=kr
theorem kF104_101_101:callK Pg cfg 104 0 [101,101]=[(.cst false,[none,none,none,none,none]),(.cst false,[none,none,none,none,none])]:=kr
theorem kF105_177_3:callK Pg cfg 105 0 [177,3]=[(.cst false,[none,some 1]),(.cst false,[none])]:=kr
theorem kF106_114:callK Pg cfg 106 0 [114]=[(.cut 4,[none])]:=kr
theorem kF107_42:callK Pg cfg 107 0 [42]=[(.cst false,[some 3])]:=kr
theorem kF108_2_2_2:callK Pg cfg 108 0 [2,2,2]=[(.cst false,[none]),(.cst false,[none]),(.cst false,[none])]:=kr
theorem kF10_35:callK Pg cfg 10 0 [35]=[(.cst false,[none,none,some 2,some 2,some 3,some 9,some 5,none,none,none,none,none,none,none,none,some 1,some 1])]:=kr
theorem kF112_33_2:callK Pg cfg 112 0 [33,2]=[(.cst false,[some 1]),(.cst false,[none])]:=kr
theorem kF113_186:callK Pg cfg 113 0 [186]=[(.cst false,[none,none])]:=kr
theorem kF114_177:callK Pg cfg 114 0 [177]=[(.cst false,[none,some 1])]:=kr
theorem kF11_49:callK Pg cfg 11 0 [49]=[(.cst false,[none,none,some 2,some 2,some 3,some 9,some 5,none,none,none,none,none,none,none,none,some 1,some 1])]:=kr
theorem kF123_184_184:callK Pg cfg 123 0 [184,184]=[(.cst false,[none,none]),(.cst false,[none,none])]:=kr
theorem kF124_187_187:callK Pg cfg 124 0 [187,187]=[(.cst false,[none,some 1]),(.cst false,[none,some 1])]:=kr
theorem kF125_203_3:callK Pg cfg 125 0 [203,3]=[(.cst false,[none,none,none,none]),(.cst false,[none])]:=kr
theorem kF126_206_3:callK Pg cfg 126 0 [206,3]=[(.cst false,[none,none,none,none]),(.cst false,[none])]:=kr
theorem kF127_78:callK Pg cfg 127 0 [78]=[(.cst false,[some 4])]:=kr
theorem kF128_79:callK Pg cfg 128 0 [79]=[(.cst false,[some 4])]:=kr
theorem kF129_208:callK Pg cfg 129 0 [208]=[(.cut 5,[none])]:=kr
theorem kF12_49_49:callK Pg cfg 12 0 [49,49]=[(.cst false,[none,none,some 2,some 2,some 3,some 9,some 5,none,none,none,none,none,none,none,none,some 1,some 1]),(.cst false,[none,none,some 2,some 2,some 3,some 9,some 5,none,none,none,none,none,none,none,none,some 1,some 1])]:=kr
theorem kF130_203:callK Pg cfg 130 0 [203]=[(.cst false,[none,none,none,none])]:=kr
theorem kF131_206:callK Pg cfg 131 0 [206]=[(.cst false,[none,none,none,none])]:=kr
theorem kF132_209:callK Pg cfg 132 0 [209]=[(.cst false,[none,none,none,none])]:=kr
theorem kF133_79_215:callK Pg cfg 133 0 [79,215]=[(.cst false,[some 4]),(.cst false,[none])]:=kr
theorem kF134_211:callK Pg cfg 134 0 [211]=[(.cst false,[none,none,none,none])]:=kr
theorem kF135_211:callK Pg cfg 135 0 [211]=[(.cst false,[none,none,none,none])]:=kr
theorem kF136_209_209:callK Pg cfg 136 0 [209,209]=[(.cst false,[none,none,none,none]),(.cst false,[none,none,none,none])]:=kr
theorem kF137_211_211:callK Pg cfg 137 0 [211,211]=[(.cst false,[none,none,none,none]),(.cst false,[none,none,none,none])]:=kr
theorem kF138_151_3:callK Pg cfg 138 0 [151,3]=[(.cst false,[some 4]),(.cst false,[none])]:=kr
theorem kF139_220:callK Pg cfg 139 0 [220]=[(.cut 9,[none])]:=kr
theorem kF13_25_3:callK Pg cfg 13 0 [25,3]=[(.cst false,[none,none,some 2,some 2]),(.cst false,[none])]:=kr
theorem kF140_222:callK Pg cfg 140 0 [222]=[(.cut 5,[none])]:=kr
theorem kF141_114_2:callK Pg cfg 141 0 [114,2]=[(.cut 4,[none]),(.cst false,[none])]:=kr
theorem kF142_151:callK Pg cfg 142 0 [151]=[(.cst false,[some 4])]:=kr
theorem kF143_38_184:callK Pg cfg 143 0 [38,184]=[(.cst false,[some 2]),(.cst false,[none,none])]:=kr
theorem kF144_9:callK Pg cfg 144 0 [9]=[(.cst false,[none])]:=kr
theorem kF145_38_33:callK Pg cfg 145 0 [38,33]=[(.cst false,[some 2]),(.cst false,[some 1])]:=kr
theorem kF146_38:callK Pg cfg 146 0 [38]=[(.cst false,[some 2])]:=kr
theorem kF147_42_231:callK Pg cfg 147 0 [42,231]=[(.cst false,[some 3]),(.cst false,[none])]:=kr
theorem kF148_123:callK Pg cfg 148 0 [123]=[(.cst false,[none,none,none])]:=kr
theorem kF149_123:callK Pg cfg 149 0 [123]=[(.cst false,[none,none,none])]:=kr
theorem kF14_26_3:callK Pg cfg 14 0 [26,3]=[(.cst false,[some 3]),(.cst false,[none])]:=kr
theorem kF150_162_236:callK Pg cfg 150 0 [162,236]=[(.cst false,[some 4]),(.cst false,[none])]:=kr
theorem kF151_234_0:callK Pg cfg 151 0 [234,0]=[(.cst false,[none,none,none,none]),(.cst false,[none])]:=kr
theorem kF152_234_2_2:callK Pg cfg 152 0 [234,2,2]=[(.cst false,[none,none,none,none]),(.cst false,[none]),(.cst false,[none])]:=kr
theorem kF153_33_2:callK Pg cfg 153 0 [33,2]=[(.cst false,[some 1]),(.cst false,[none])]:=kr
theorem kF154_162_162:callK Pg cfg 154 0 [162,162]=[(.cst false,[some 4]),(.cst false,[some 4])]:=kr
theorem kF155_114:callK Pg cfg 155 0 [114]=[(.cut 4,[none])]:=kr
theorem kF156_9:callK Pg cfg 156 0 [9]=[(.cst false,[none])]:=kr
theorem kF157_114_33:callK Pg cfg 157 0 [114,33]=[(.cut 4,[none]),(.cst false,[some 1])]:=kr
theorem kF158_38:callK Pg cfg 158 0 [38]=[(.cst false,[some 2])]:=kr
theorem kF159_181:callK Pg cfg 159 0 [181]=[(.cut 3,[none])]:=kr
theorem kF161_2_2:callK Pg cfg 161 0 [2,2]=[(.cst false,[none]),(.cst false,[none])]:=kr
theorem kF168_251:callK Pg cfg 168 0 [251]=[(.cut 4,[none])]:=kr
theorem kF169_253:callK Pg cfg 169 0 [253]=[(.cut 4,[none])]:=kr
theorem kF16_25:callK Pg cfg 16 0 [25]=[(.cst false,[none,none,some 2,some 2])]:=kr
theorem kF170_79_215:callK Pg cfg 170 0 [79,215]=[(.cst false,[some 4]),(.cst false,[none])]:=kr
theorem kF171_256_2_2:callK Pg cfg 171 0 [256,2,2]=[(.cut 4,[none]),(.cst false,[none]),(.cst false,[none])]:=kr
theorem kF172_2:callK Pg cfg 172 0 [2]=[(.cst false,[none])]:=kr
theorem kF173_258:callK Pg cfg 173 0 [258]=[(.cst false,[none,none,none,none])]:=kr
theorem kF174_38_184:callK Pg cfg 174 0 [38,184]=[(.cst false,[some 2]),(.cst false,[none,none])]:=kr
theorem kF175_38:callK Pg cfg 175 0 [38]=[(.cst false,[some 2])]:=kr
theorem kF176_184_184_184:callK Pg cfg 176 0 [184,184,184]=[(.cst false,[none,none]),(.cst false,[none,none]),(.cst false,[none,none])]:=kr
theorem kF177_184_184_184_184:callK Pg cfg 177 0 [184,184,184,184]=[(.cst false,[none,none]),(.cst false,[none,none]),(.cst false,[none,none]),(.cst false,[none,none])]:=kr
theorem kF178_38:callK Pg cfg 178 0 [38]=[(.cst false,[some 2])]:=kr
theorem kF179_42_231:callK Pg cfg 179 0 [42,231]=[(.cst false,[some 3]),(.cst false,[none])]:=kr
theorem kF17_26:callK Pg cfg 17 0 [26]=[(.cst false,[some 3])]:=kr
theorem kF180_9:callK Pg cfg 180 0 [9]=[(.cst false,[none])]:=kr
theorem kF181_162_236:callK Pg cfg 181 0 [162,236]=[(.cst false,[some 4]),(.cst false,[none])]:=kr
theorem kF182_234_234:callK Pg cfg 182 0 [234,234]=[(.cst false,[none,none,none,none]),(.cst false,[none,none,none,none])]:=kr
theorem kF183_5:callK Pg cfg 183 0 [5]=[(.cst false,[none])]:=kr
theorem kF184_5:callK Pg cfg 184 0 [5]=[(.cst false,[none])]:=kr
theorem kF185_184:callK Pg cfg 185 0 [184]=[(.cst false,[none,none])]:=kr
theorem kF186_184_184_184:callK Pg cfg 186 0 [184,184,184]=[(.cst false,[none,none]),(.cst false,[none,none]),(.cst false,[none,none])]:=kr
theorem kF187_184_184_184_184:callK Pg cfg 187 0 [184,184,184,184]=[(.cst false,[none,none]),(.cst false,[none,none]),(.cst false,[none,none]),(.cst false,[none,none])]:=kr
theorem kF188_38:callK Pg cfg 188 0 [38]=[(.cst false,[some 2])]:=kr
theorem kF189_9:callK Pg cfg 189 0 [9]=[(.cst false,[none])]:=kr
theorem kF190_:callK Pg cfg 190 0 []=[]:=kr
theorem kF191_2:callK Pg cfg 191 0 [2]=[(.cst false,[none])]:=kr
theorem kF193_2_2:callK Pg cfg 193 0 [2,2]=[(.cst false,[none]),(.cst false,[none])]:=kr
theorem kF19_33_33:callK Pg cfg 19 0 [33,33]=[(.cst false,[some 1]),(.cst false,[some 1])]:=kr
theorem kF205_184:callK Pg cfg 205 0 [184]=[(.cst false,[none,none])]:=kr
theorem kF206_184_184_184:callK Pg cfg 206 0 [184,184,184]=[(.cst false,[none,none]),(.cst false,[none,none]),(.cst false,[none,none])]:=kr
theorem kF207_184_184_184_184:callK Pg cfg 207 0 [184,184,184,184]=[(.cst false,[none,none]),(.cst false,[none,none]),(.cst false,[none,none]),(.cst false,[none,none])]:=kr
theorem kF208_9:callK Pg cfg 208 0 [9]=[(.cst false,[none])]:=kr
theorem kF209_184_184_184:callK Pg cfg 209 0 [184,184,184]=[(.cst false,[none,none]),(.cst false,[none,none]),(.cst false,[none,none])]:=kr
theorem kF20_41_41:callK Pg cfg 20 0 [41,41]=[(.cst false,[none,none,some 2,some 2]),(.cst false,[none,none,some 2,some 2])]:=kr
theorem kF210_184_184_184_184:callK Pg cfg 210 0 [184,184,184,184]=[(.cst false,[none,none]),(.cst false,[none,none]),(.cst false,[none,none]),(.cst false,[none,none])]:=kr
theorem kF211_:callK Pg cfg 211 0 []=[]:=kr
theorem kF218_184_184_184:callK Pg cfg 218 0 [184,184,184]=[(.cst false,[none,none]),(.cst false,[none,none]),(.cst false,[none,none])]:=kr
theorem kF21_42_42:callK Pg cfg 21 0 [42,42]=[(.cst false,[some 3]),(.cst false,[some 3])]:=kr
theorem kF30_75_3:callK Pg cfg 30 0 [75,3]=[(.cst false,[none,none,some 2,some 2,some 3,some 9,some 5,none,none,none,none,none,none,none,none,some 1,some 1,some 4,some 4,none,none,none,none,none]),(.cst false,[none])]:=kr
theorem kF31_82:callK Pg cfg 31 0 [82]=[(.cst false,[none,none,some 2,some 2,some 3,some 9,some 5,none,none,none,none,none,none,none,none,some 1,some 1,some 4,some 4,none,none,none,none,none])]:=kr
theorem kF32_75:callK Pg cfg 32 0 [75]=[(.cst false,[none,none,some 2,some 2,some 3,some 9,some 5,none,none,none,none,none,none,none,none,some 1,some 1,some 4,some 4,none,none,none,none,none])]:=kr
theorem kF33_82:callK Pg cfg 33 0 [82]=[(.cst false,[none,none,some 2,some 2,some 3,some 9,some 5,none,none,none,none,none,none,none,none,some 1,some 1,some 4,some 4,none,none,none,none,none])]:=kr
theorem kF34_82_82:callK Pg cfg 34 0 [82,82]=[(.cst false,[none,none,some 2,some 2,some 3,some 9,some 5,none,none,none,none,none,none,none,none,some 1,some 1,some 4,some 4,none,none,none,none,none]),(.cst false,[none,none,some 2,some 2,some 3,some 9,some 5,none,none,none,none,none,none,none,none,some 1,some 1,some 4,some 4,none,none,none,none,none])]:=kr
theorem kF35_28_3:callK Pg cfg 35 0 [28,3]=[(.cst false,[none,none,some 2,some 2,some 3]),(.cst false,[none])]:=kr
theorem kF36_29_3:callK Pg cfg 36 0 [29,3]=[(.cst false,[some 9]),(.cst false,[none])]:=kr
theorem kF37_30_3:callK Pg cfg 37 0 [30,3]=[(.cst false,[some 5]),(.cst false,[none])]:=kr
theorem kF38_33_3:callK Pg cfg 38 0 [33,3]=[(.cst false,[some 1]),(.cst false,[none])]:=kr
theorem kF39_90:callK Pg cfg 39 0 [90]=[(.cut 17,[none])]:=kr
theorem kF40_28:callK Pg cfg 40 0 [28]=[(.cst false,[none,none,some 2,some 2,some 3])]:=kr
theorem kF41_29:callK Pg cfg 41 0 [29]=[(.cst false,[some 9])]:=kr
theorem kF42_30:callK Pg cfg 42 0 [30]=[(.cst false,[some 5])]:=kr
theorem kF43_32:callK Pg cfg 43 0 [32]=[(.cst false,[none,none,none,none])]:=kr
theorem kF44_33:callK Pg cfg 44 0 [33]=[(.cst false,[some 1])]:=kr
theorem kF45_44:callK Pg cfg 45 0 [44]=[(.cst false,[none,none,some 2,some 2,some 3])]:=kr
theorem kF46_45:callK Pg cfg 46 0 [45]=[(.cst false,[some 9])]:=kr
theorem kF47_46:callK Pg cfg 47 0 [46]=[(.cst false,[some 5])]:=kr
theorem kF48_47:callK Pg cfg 48 0 [47]=[(.cst false,[none,none,none,none])]:=kr
theorem kF49_2_2_2:callK Pg cfg 49 0 [2,2,2]=[(.cst false,[none]),(.cst false,[none]),(.cst false,[none])]:=kr
theorem kF50_33_3:callK Pg cfg 50 0 [33,3]=[(.cst false,[some 1]),(.cst false,[none])]:=kr
theorem kF51_44_44:callK Pg cfg 51 0 [44,44]=[(.cst false,[none,none,some 2,some 2,some 3]),(.cst false,[none,none,some 2,some 2,some 3])]:=kr
theorem kF52_45_45:callK Pg cfg 52 0 [45,45]=[(.cst false,[some 9]),(.cst false,[some 9])]:=kr
theorem kF53_46_46:callK Pg cfg 53 0 [46,46]=[(.cst false,[some 5]),(.cst false,[some 5])]:=kr
theorem kF54_47_47:callK Pg cfg 54 0 [47,47]=[(.cst false,[none,none,none,none]),(.cst false,[none,none,none,none])]:=kr
theorem kF55_22_3:callK Pg cfg 55 0 [22,3]=[(.cst false,[some 2]),(.cst false,[none])]:=kr
theorem kF56_23_3:callK Pg cfg 56 0 [23,3]=[(.cst false,[some 2]),(.cst false,[none])]:=kr
theorem kF57_112_3:callK Pg cfg 57 0 [112,3]=[(.cst false,[none,none,none]),(.cst false,[none])]:=kr
theorem kF62_22:callK Pg cfg 62 0 [22]=[(.cst false,[some 2])]:=kr
theorem kF63_23:callK Pg cfg 63 0 [23]=[(.cst false,[some 2])]:=kr
theorem kF64_112:callK Pg cfg 64 0 [112]=[(.cst false,[none,none,none])]:=kr
theorem kF68_38_38:callK Pg cfg 68 0 [38,38]=[(.cst false,[some 2]),(.cst false,[some 2])]:=kr
theorem kF69_39_39:callK Pg cfg 69 0 [39,39]=[(.cst false,[some 2]),(.cst false,[some 2])]:=kr
theorem kF70_123_123:callK Pg cfg 70 0 [123,123]=[(.cst false,[none,none,none]),(.cst false,[none,none,none])]:=kr
theorem kF74_70_3:callK Pg cfg 74 0 [70,3]=[(.cst false,[some 4]),(.cst false,[none])]:=kr
theorem kF75_71_3:callK Pg cfg 75 0 [71,3]=[(.cst false,[some 4]),(.cst false,[none])]:=kr
theorem kF76_140:callK Pg cfg 76 0 [140]=[(.cut 24,[none])]:=kr
theorem kF77_70:callK Pg cfg 77 0 [70]=[(.cst false,[some 4])]:=kr
theorem kF78_71:callK Pg cfg 78 0 [71]=[(.cst false,[some 4])]:=kr
theorem kF79_73:callK Pg cfg 79 0 [73]=[(.cst false,[none,none,none,none,none])]:=kr
theorem kF80_78:callK Pg cfg 80 0 [78]=[(.cst false,[some 4])]:=kr
theorem kF81_79:callK Pg cfg 81 0 [79]=[(.cst false,[some 4])]:=kr
theorem kF82_80:callK Pg cfg 82 0 [80]=[(.cst false,[none,none,none,none,none])]:=kr
theorem kF83_78_78:callK Pg cfg 83 0 [78,78]=[(.cst false,[some 4]),(.cst false,[some 4])]:=kr
theorem kF84_79_79:callK Pg cfg 84 0 [79,79]=[(.cst false,[some 4]),(.cst false,[some 4])]:=kr
theorem kF85_80_80:callK Pg cfg 85 0 [80,80]=[(.cst false,[none,none,none,none,none]),(.cst false,[none,none,none,none,none])]:=kr
theorem kF86_153_3:callK Pg cfg 86 0 [153,3]=[(.cst false,[none,none,none,none,none,none,none,none,some 4]),(.cst false,[none])]:=kr
theorem kF87_155:callK Pg cfg 87 0 [155]=[(.cut 5,[none])]:=kr
theorem kF88_45:callK Pg cfg 88 0 [45]=[(.cst false,[some 9])]:=kr
theorem kF89_46:callK Pg cfg 89 0 [46]=[(.cst false,[some 5])]:=kr
theorem kF8_35_3:callK Pg cfg 8 0 [35,3]=[(.cst false,[none,none,some 2,some 2,some 3,some 9,some 5,none,none,none,none,none,none,none,none,some 1,some 1]),(.cst false,[none])]:=kr
theorem kF90_155_46:callK Pg cfg 90 0 [155,46]=[(.cut 5,[none]),(.cst false,[some 5])]:=kr
theorem kF91_158:callK Pg cfg 91 0 [158]=[(.cut 4,[none])]:=kr
theorem kF92_2_2:callK Pg cfg 92 0 [2,2]=[(.cst false,[none]),(.cst false,[none])]:=kr
theorem kF93_2:callK Pg cfg 93 0 [2]=[(.cst false,[none])]:=kr
theorem kF94_2:callK Pg cfg 94 0 [2]=[(.cst false,[none])]:=kr
theorem kF95_114_33:callK Pg cfg 95 0 [114,33]=[(.cut 4,[none]),(.cst false,[some 1])]:=kr
theorem kF96_153:callK Pg cfg 96 0 [153]=[(.cst false,[none,none,none,none,none,none,none,none,some 4])]:=kr
theorem kF97_167:callK Pg cfg 97 0 [167]=[(.cst false,[none,none,none,none,none])]:=kr
theorem kF98_41:callK Pg cfg 98 0 [41]=[(.cst false,[none,none,some 2,some 2])]:=kr
theorem kF99_42:callK Pg cfg 99 0 [42]=[(.cst false,[some 3])]:=kr
theorem qEF184:∀(a0:Int) (a1:Int) (b0:Int) (b1:Int),binAgg Pg 184 .eql [.int .i64 a0,.int .i64 a1] [.int .i64 b0,.int .i64 b1]=some (.bool ((a0==b0)&&(a1==b1))):=by intros;kernel_rfl
theorem rF10:resK Pg (Tryz.f10.results.toList.zip Tryz.f10.resultTypes.toList)=[(.cell 2 49,[none,none,some 2,some 2,some 3,some 9,some 5,none,none,none,none,none,none,none,none,some 1,some 1],some (true,17))]:=kr
theorem rF100:resK Pg (Tryz.f100.results.toList.zip Tryz.f100.resultTypes.toList)=[(.tmp 2,[none],none)]:=kr
theorem rF101:resK Pg (Tryz.f101.results.toList.zip Tryz.f101.resultTypes.toList)=[(.tmp 2,[none],none)]:=kr
theorem rF102:resK Pg (Tryz.f102.results.toList.zip Tryz.f102.resultTypes.toList)=[(.tmp 4,[none],none)]:=kr
theorem rF103:resK Pg (Tryz.f103.results.toList.zip Tryz.f103.resultTypes.toList)=[(.tmp 4,[none],none)]:=kr
theorem rF104:resK Pg (Tryz.f104.results.toList.zip Tryz.f104.resultTypes.toList)=[(.tmp 4,[none],none)]:=kr
theorem rF105:resK Pg (Tryz.f105.results.toList.zip Tryz.f105.resultTypes.toList)=[(.tmp 4,[none],none)]:=kr
theorem rF106:resK Pg (Tryz.f106.results.toList.zip Tryz.f106.resultTypes.toList)=[(.tmp 2,[none],none)]:=kr
theorem rF107:resK Pg (Tryz.f107.results.toList.zip Tryz.f107.resultTypes.toList)=[(.tmp 2,[none],none)]:=kr
theorem rF108:resK Pg (Tryz.f108.results.toList.zip Tryz.f108.resultTypes.toList)=[(.tmp 6,[none],none)]:=kr
theorem rF11:resK Pg (Tryz.f11.results.toList.zip Tryz.f11.resultTypes.toList)=[(.tmp 2,[none],none)]:=kr
theorem rF112:resK Pg (Tryz.f112.results.toList.zip Tryz.f112.resultTypes.toList)=[(.tmp 4,[none],none)]:=kr
theorem rF113:resK Pg (Tryz.f113.results.toList.zip Tryz.f113.resultTypes.toList)=[(.cell 2 184,[none,none],some (true,2))]:=kr
theorem rF114:resK Pg (Tryz.f114.results.toList.zip Tryz.f114.resultTypes.toList)=[(.cell 2 187,[none,some 1],some (true,2))]:=kr
theorem rF12:resK Pg (Tryz.f12.results.toList.zip Tryz.f12.resultTypes.toList)=[(.tmp 4,[none],none)]:=kr
theorem rF123:resK Pg (Tryz.f123.results.toList.zip Tryz.f123.resultTypes.toList)=[(.tmp 4,[none],none)]:=kr
theorem rF124:resK Pg (Tryz.f124.results.toList.zip Tryz.f124.resultTypes.toList)=[(.tmp 4,[none],none)]:=kr
theorem rF125:resK Pg (Tryz.f125.results.toList.zip Tryz.f125.resultTypes.toList)=[(.tmp 4,[none],none)]:=kr
theorem rF126:resK Pg (Tryz.f126.results.toList.zip Tryz.f126.resultTypes.toList)=[(.tmp 4,[none],none)]:=kr
theorem rF127:resK Pg (Tryz.f127.results.toList.zip Tryz.f127.resultTypes.toList)=[(.tmp 2,[none],none)]:=kr
theorem rF128:resK Pg (Tryz.f128.results.toList.zip Tryz.f128.resultTypes.toList)=[(.tmp 2,[none],none)]:=kr
theorem rF129:resK Pg (Tryz.f129.results.toList.zip Tryz.f129.resultTypes.toList)=[(.tmp 2,[none],none)]:=kr
theorem rF13:resK Pg (Tryz.f13.results.toList.zip Tryz.f13.resultTypes.toList)=[(.tmp 4,[none],none)]:=kr
theorem rF130:resK Pg (Tryz.f130.results.toList.zip Tryz.f130.resultTypes.toList)=[(.cell 2 209,[none,none,none,none],some (true,4))]:=kr
theorem rF131:resK Pg (Tryz.f131.results.toList.zip Tryz.f131.resultTypes.toList)=[(.cell 2 211,[none,none,none,none],some (true,4))]:=kr
theorem rF132:resK Pg (Tryz.f132.results.toList.zip Tryz.f132.resultTypes.toList)=[(.tmp 2,[none],none)]:=kr
theorem rF133:resK Pg (Tryz.f133.results.toList.zip Tryz.f133.resultTypes.toList)=[(.tmp 4,[none],none)]:=kr
theorem rF134:resK Pg (Tryz.f134.results.toList.zip Tryz.f134.resultTypes.toList)=[(.tmp 2,[none],none)]:=kr
theorem rF135:resK Pg (Tryz.f135.results.toList.zip Tryz.f135.resultTypes.toList)=[(.tmp 2,[none],none)]:=kr
theorem rF136:resK Pg (Tryz.f136.results.toList.zip Tryz.f136.resultTypes.toList)=[(.tmp 4,[none],none)]:=kr
theorem rF137:resK Pg (Tryz.f137.results.toList.zip Tryz.f137.resultTypes.toList)=[(.tmp 4,[none],none)]:=kr
theorem rF138:resK Pg (Tryz.f138.results.toList.zip Tryz.f138.resultTypes.toList)=[(.tmp 4,[none],none)]:=kr
theorem rF139:resK Pg (Tryz.f139.results.toList.zip Tryz.f139.resultTypes.toList)=[(.tmp 2,[none],none)]:=kr
theorem rF14:resK Pg (Tryz.f14.results.toList.zip Tryz.f14.resultTypes.toList)=[(.tmp 4,[none],none)]:=kr
theorem rF140:resK Pg (Tryz.f140.results.toList.zip Tryz.f140.resultTypes.toList)=[(.tmp 2,[none],none)]:=kr
theorem rF141:resK Pg (Tryz.f141.results.toList.zip Tryz.f141.resultTypes.toList)=[(.tmp 4,[none],none)]:=kr
theorem rF142:resK Pg (Tryz.f142.results.toList.zip Tryz.f142.resultTypes.toList)=[(.tmp 2,[some 4],none)]:=kr
theorem rF143:resK Pg (Tryz.f143.results.toList.zip Tryz.f143.resultTypes.toList)=[(.tmp 4,[none],none)]:=kr
theorem rF144:resK Pg (Tryz.f144.results.toList.zip Tryz.f144.resultTypes.toList)=[(.tmp 2,[none],none)]:=kr
theorem rF145:resK Pg (Tryz.f145.results.toList.zip Tryz.f145.resultTypes.toList)=[(.tmp 4,[some 2],none),(.tmp 5,[none],none)]:=kr
theorem rF146:resK Pg (Tryz.f146.results.toList.zip Tryz.f146.resultTypes.toList)=[(.tmp 2,[none],none)]:=kr
theorem rF147:resK Pg (Tryz.f147.results.toList.zip Tryz.f147.resultTypes.toList)=[(.tmp 4,[none],none)]:=kr
theorem rF148:resK Pg (Tryz.f148.results.toList.zip Tryz.f148.resultTypes.toList)=[(.tmp 2,[none],none)]:=kr
theorem rF149:resK Pg (Tryz.f149.results.toList.zip Tryz.f149.resultTypes.toList)=[(.tmp 2,[none],none)]:=kr
theorem rF150:resK Pg (Tryz.f150.results.toList.zip Tryz.f150.resultTypes.toList)=[(.tmp 4,[none],none)]:=kr
theorem rF151:resK Pg (Tryz.f151.results.toList.zip Tryz.f151.resultTypes.toList)=[(.tmp 3,[none],none)]:=kr
theorem rF152:resK Pg (Tryz.f152.results.toList.zip Tryz.f152.resultTypes.toList)=[(.tmp 6,[none],none)]:=kr
theorem rF153:resK Pg (Tryz.f153.results.toList.zip Tryz.f153.resultTypes.toList)=[(.tmp 4,[none],none)]:=kr
theorem rF154:resK Pg (Tryz.f154.results.toList.zip Tryz.f154.resultTypes.toList)=[(.tmp 4,[none],none)]:=kr
theorem rF155:resK Pg (Tryz.f155.results.toList.zip Tryz.f155.resultTypes.toList)=[(.tmp 2,[none],none)]:=kr
theorem rF156:resK Pg (Tryz.f156.results.toList.zip Tryz.f156.resultTypes.toList)=[(.tmp 2,[none],none)]:=kr
theorem rF157:resK Pg (Tryz.f157.results.toList.zip Tryz.f157.resultTypes.toList)=[(.tmp 4,[some 2],none),(.tmp 5,[none],none)]:=kr
theorem rF158:resK Pg (Tryz.f158.results.toList.zip Tryz.f158.resultTypes.toList)=[(.tmp 2,[none],none)]:=kr
theorem rF159:resK Pg (Tryz.f159.results.toList.zip Tryz.f159.resultTypes.toList)=[(.tmp 2,[none],none)]:=kr
theorem rF16:resK Pg (Tryz.f16.results.toList.zip Tryz.f16.resultTypes.toList)=[(.cell 2 41,[none,none,some 2,some 2],some (true,4))]:=kr
theorem rF161:resK Pg (Tryz.f161.results.toList.zip Tryz.f161.resultTypes.toList)=[(.tmp 4,[none],none)]:=kr
theorem rF168:resK Pg (Tryz.f168.results.toList.zip Tryz.f168.resultTypes.toList)=[(.tmp 2,[none],none)]:=kr
theorem rF169:resK Pg (Tryz.f169.results.toList.zip Tryz.f169.resultTypes.toList)=[(.tmp 2,[none],none)]:=kr
theorem rF17:resK Pg (Tryz.f17.results.toList.zip Tryz.f17.resultTypes.toList)=[(.tmp 2,[some 3],none)]:=kr
theorem rF170:resK Pg (Tryz.f170.results.toList.zip Tryz.f170.resultTypes.toList)=[(.tmp 4,[none],none)]:=kr
theorem rF171:resK Pg (Tryz.f171.results.toList.zip Tryz.f171.resultTypes.toList)=[(.tmp 6,[none],none)]:=kr
theorem rF172:resK Pg (Tryz.f172.results.toList.zip Tryz.f172.resultTypes.toList)=[(.tmp 2,[none],none)]:=kr
theorem rF173:resK Pg (Tryz.f173.results.toList.zip Tryz.f173.resultTypes.toList)=[(.cell 2 234,[none,none,none,none],some (true,4))]:=kr
theorem rF174:resK Pg (Tryz.f174.results.toList.zip Tryz.f174.resultTypes.toList)=[(.tmp 4,[none],none)]:=kr
theorem rF175:resK Pg (Tryz.f175.results.toList.zip Tryz.f175.resultTypes.toList)=[(.tmp 2,[none],none)]:=kr
theorem rF176:resK Pg (Tryz.f176.results.toList.zip Tryz.f176.resultTypes.toList)=[(.tmp 6,[none],none)]:=kr
theorem rF177:resK Pg (Tryz.f177.results.toList.zip Tryz.f177.resultTypes.toList)=[(.tmp 8,[none],none)]:=kr
theorem rF178:resK Pg (Tryz.f178.results.toList.zip Tryz.f178.resultTypes.toList)=[(.tmp 2,[none],none)]:=kr
theorem rF179:resK Pg (Tryz.f179.results.toList.zip Tryz.f179.resultTypes.toList)=[(.tmp 4,[none],none)]:=kr
theorem rF180:resK Pg (Tryz.f180.results.toList.zip Tryz.f180.resultTypes.toList)=[(.tmp 2,[none],none),(.tmp 3,[none],none)]:=kr
theorem rF181:resK Pg (Tryz.f181.results.toList.zip Tryz.f181.resultTypes.toList)=[(.tmp 4,[none],none)]:=kr
theorem rF182:resK Pg (Tryz.f182.results.toList.zip Tryz.f182.resultTypes.toList)=[(.tmp 4,[none],none)]:=kr
theorem rF183:resK Pg (Tryz.f183.results.toList.zip Tryz.f183.resultTypes.toList)=[(.tmp 2,[none],none)]:=kr
theorem rF184:resK Pg (Tryz.f184.results.toList.zip Tryz.f184.resultTypes.toList)=[(.tmp 2,[none],none)]:=kr
theorem rF185:resK Pg (Tryz.f185.results.toList.zip Tryz.f185.resultTypes.toList)=[(.tmp 2,[none],none)]:=kr
theorem rF186:resK Pg (Tryz.f186.results.toList.zip Tryz.f186.resultTypes.toList)=[(.tmp 6,[none],none)]:=kr
theorem rF187:resK Pg (Tryz.f187.results.toList.zip Tryz.f187.resultTypes.toList)=[(.tmp 8,[none],none)]:=kr
theorem rF188:resK Pg (Tryz.f188.results.toList.zip Tryz.f188.resultTypes.toList)=[(.tmp 2,[none],none)]:=kr
theorem rF189:resK Pg (Tryz.f189.results.toList.zip Tryz.f189.resultTypes.toList)=[(.tmp 2,[none],none)]:=kr
theorem rF19:resK Pg (Tryz.f19.results.toList.zip Tryz.f19.resultTypes.toList)=[(.tmp 4,[none],none)]:=kr
theorem rF190:resK Pg (Tryz.f190.results.toList.zip Tryz.f190.resultTypes.toList)=[(.tmp 0,[some 1],none)]:=kr
theorem rF191:resK Pg (Tryz.f191.results.toList.zip Tryz.f191.resultTypes.toList)=[(.tmp 2,[none],none)]:=kr
theorem rF193:resK Pg (Tryz.f193.results.toList.zip Tryz.f193.resultTypes.toList)=[(.tmp 4,[none],none)]:=kr
theorem rF20:resK Pg (Tryz.f20.results.toList.zip Tryz.f20.resultTypes.toList)=[(.tmp 4,[none],none)]:=kr
theorem rF205:resK Pg (Tryz.f205.results.toList.zip Tryz.f205.resultTypes.toList)=[(.tmp 2,[none],none)]:=kr
theorem rF206:resK Pg (Tryz.f206.results.toList.zip Tryz.f206.resultTypes.toList)=[(.tmp 6,[none],none)]:=kr
theorem rF207:resK Pg (Tryz.f207.results.toList.zip Tryz.f207.resultTypes.toList)=[(.tmp 8,[none],none)]:=kr
theorem rF208:resK Pg (Tryz.f208.results.toList.zip Tryz.f208.resultTypes.toList)=[(.tmp 2,[none],none),(.tmp 3,[none],none),(.tmp 4,[none],none),(.tmp 5,[none],none)]:=kr
theorem rF209:resK Pg (Tryz.f209.results.toList.zip Tryz.f209.resultTypes.toList)=[(.tmp 6,[none],none)]:=kr
theorem rF21:resK Pg (Tryz.f21.results.toList.zip Tryz.f21.resultTypes.toList)=[(.tmp 4,[none],none)]:=kr
theorem rF210:resK Pg (Tryz.f210.results.toList.zip Tryz.f210.resultTypes.toList)=[(.tmp 8,[none],none)]:=kr
theorem rF211:resK Pg (Tryz.f211.results.toList.zip Tryz.f211.resultTypes.toList)=[(.tmp 0,[some 1],none)]:=kr
theorem rF218:resK Pg (Tryz.f218.results.toList.zip Tryz.f218.resultTypes.toList)=[(.tmp 6,[none],none)]:=kr
theorem rF30:resK Pg (Tryz.f30.results.toList.zip Tryz.f30.resultTypes.toList)=[(.tmp 4,[none],none)]:=kr
theorem rF31:resK Pg (Tryz.f31.results.toList.zip Tryz.f31.resultTypes.toList)=[(.tmp 2,[none],none)]:=kr
theorem rF32:resK Pg (Tryz.f32.results.toList.zip Tryz.f32.resultTypes.toList)=[(.cell 2 82,[none,none,some 2,some 2,some 3,some 9,some 5,none,none,none,none,none,none,none,none,some 1,some 1,some 4,some 4,none,none,none,none,none],some (true,24))]:=kr
theorem rF33:resK Pg (Tryz.f33.results.toList.zip Tryz.f33.resultTypes.toList)=[(.tmp 2,[none],none)]:=kr
theorem rF34:resK Pg (Tryz.f34.results.toList.zip Tryz.f34.resultTypes.toList)=[(.tmp 4,[none],none)]:=kr
theorem rF35:resK Pg (Tryz.f35.results.toList.zip Tryz.f35.resultTypes.toList)=[(.tmp 4,[none],none)]:=kr
theorem rF36:resK Pg (Tryz.f36.results.toList.zip Tryz.f36.resultTypes.toList)=[(.tmp 4,[none],none)]:=kr
theorem rF37:resK Pg (Tryz.f37.results.toList.zip Tryz.f37.resultTypes.toList)=[(.tmp 4,[none],none)]:=kr
theorem rF38:resK Pg (Tryz.f38.results.toList.zip Tryz.f38.resultTypes.toList)=[(.tmp 4,[none],none)]:=kr
theorem rF39:resK Pg (Tryz.f39.results.toList.zip Tryz.f39.resultTypes.toList)=[(.tmp 2,[none],none)]:=kr
theorem rF40:resK Pg (Tryz.f40.results.toList.zip Tryz.f40.resultTypes.toList)=[(.cell 2 44,[none,none,some 2,some 2,some 3],some (true,5))]:=kr
theorem rF41:resK Pg (Tryz.f41.results.toList.zip Tryz.f41.resultTypes.toList)=[(.tmp 2,[some 9],none)]:=kr
theorem rF42:resK Pg (Tryz.f42.results.toList.zip Tryz.f42.resultTypes.toList)=[(.tmp 2,[some 5],none)]:=kr
theorem rF43:resK Pg (Tryz.f43.results.toList.zip Tryz.f43.resultTypes.toList)=[(.cell 2 47,[none,none,none,none],some (true,4))]:=kr
theorem rF44:resK Pg (Tryz.f44.results.toList.zip Tryz.f44.resultTypes.toList)=[(.tmp 2,[some 1],none)]:=kr
theorem rF45:resK Pg (Tryz.f45.results.toList.zip Tryz.f45.resultTypes.toList)=[(.tmp 2,[none],none)]:=kr
theorem rF46:resK Pg (Tryz.f46.results.toList.zip Tryz.f46.resultTypes.toList)=[(.tmp 2,[none],none)]:=kr
theorem rF47:resK Pg (Tryz.f47.results.toList.zip Tryz.f47.resultTypes.toList)=[(.tmp 2,[none],none)]:=kr
theorem rF48:resK Pg (Tryz.f48.results.toList.zip Tryz.f48.resultTypes.toList)=[(.tmp 2,[none],none)]:=kr
theorem rF49:resK Pg (Tryz.f49.results.toList.zip Tryz.f49.resultTypes.toList)=[(.tmp 6,[none],none)]:=kr
theorem rF50:resK Pg (Tryz.f50.results.toList.zip Tryz.f50.resultTypes.toList)=[(.tmp 4,[none],none)]:=kr
theorem rF51:resK Pg (Tryz.f51.results.toList.zip Tryz.f51.resultTypes.toList)=[(.tmp 4,[none],none)]:=kr
theorem rF52:resK Pg (Tryz.f52.results.toList.zip Tryz.f52.resultTypes.toList)=[(.tmp 4,[none],none)]:=kr
theorem rF53:resK Pg (Tryz.f53.results.toList.zip Tryz.f53.resultTypes.toList)=[(.tmp 4,[none],none)]:=kr
theorem rF54:resK Pg (Tryz.f54.results.toList.zip Tryz.f54.resultTypes.toList)=[(.tmp 4,[none],none)]:=kr
theorem rF55:resK Pg (Tryz.f55.results.toList.zip Tryz.f55.resultTypes.toList)=[(.tmp 4,[none],none)]:=kr
theorem rF56:resK Pg (Tryz.f56.results.toList.zip Tryz.f56.resultTypes.toList)=[(.tmp 4,[none],none)]:=kr
theorem rF57:resK Pg (Tryz.f57.results.toList.zip Tryz.f57.resultTypes.toList)=[(.tmp 4,[none],none)]:=kr
theorem rF62:resK Pg (Tryz.f62.results.toList.zip Tryz.f62.resultTypes.toList)=[(.tmp 2,[some 2],none)]:=kr
theorem rF63:resK Pg (Tryz.f63.results.toList.zip Tryz.f63.resultTypes.toList)=[(.tmp 2,[some 2],none)]:=kr
theorem rF64:resK Pg (Tryz.f64.results.toList.zip Tryz.f64.resultTypes.toList)=[(.cell 2 123,[none,none,none],some (true,3))]:=kr
theorem rF68:resK Pg (Tryz.f68.results.toList.zip Tryz.f68.resultTypes.toList)=[(.tmp 4,[none],none)]:=kr
theorem rF69:resK Pg (Tryz.f69.results.toList.zip Tryz.f69.resultTypes.toList)=[(.tmp 4,[none],none)]:=kr
theorem rF7:resK Pg (Tryz.f7.results.toList.zip Tryz.f7.resultTypes.toList)=[(.tmp 2,[none],none)]:=kr
theorem rF70:resK Pg (Tryz.f70.results.toList.zip Tryz.f70.resultTypes.toList)=[(.tmp 4,[none],none)]:=kr
theorem rF74:resK Pg (Tryz.f74.results.toList.zip Tryz.f74.resultTypes.toList)=[(.tmp 4,[none],none)]:=kr
theorem rF75:resK Pg (Tryz.f75.results.toList.zip Tryz.f75.resultTypes.toList)=[(.tmp 4,[none],none)]:=kr
theorem rF76:resK Pg (Tryz.f76.results.toList.zip Tryz.f76.resultTypes.toList)=[(.tmp 2,[none],none)]:=kr
theorem rF77:resK Pg (Tryz.f77.results.toList.zip Tryz.f77.resultTypes.toList)=[(.tmp 2,[some 4],none)]:=kr
theorem rF78:resK Pg (Tryz.f78.results.toList.zip Tryz.f78.resultTypes.toList)=[(.tmp 2,[some 4],none)]:=kr
theorem rF79:resK Pg (Tryz.f79.results.toList.zip Tryz.f79.resultTypes.toList)=[(.cell 2 80,[none,none,none,none,none],some (true,5))]:=kr
theorem rF8:resK Pg (Tryz.f8.results.toList.zip Tryz.f8.resultTypes.toList)=[(.tmp 4,[none],none)]:=kr
theorem rF80:resK Pg (Tryz.f80.results.toList.zip Tryz.f80.resultTypes.toList)=[(.tmp 2,[none],none)]:=kr
theorem rF81:resK Pg (Tryz.f81.results.toList.zip Tryz.f81.resultTypes.toList)=[(.tmp 2,[none],none)]:=kr
theorem rF82:resK Pg (Tryz.f82.results.toList.zip Tryz.f82.resultTypes.toList)=[(.tmp 2,[none],none)]:=kr
theorem rF83:resK Pg (Tryz.f83.results.toList.zip Tryz.f83.resultTypes.toList)=[(.tmp 4,[none],none)]:=kr
theorem rF84:resK Pg (Tryz.f84.results.toList.zip Tryz.f84.resultTypes.toList)=[(.tmp 4,[none],none)]:=kr
theorem rF85:resK Pg (Tryz.f85.results.toList.zip Tryz.f85.resultTypes.toList)=[(.tmp 4,[none],none)]:=kr
theorem rF86:resK Pg (Tryz.f86.results.toList.zip Tryz.f86.resultTypes.toList)=[(.tmp 4,[none],none)]:=kr
theorem rF87:resK Pg (Tryz.f87.results.toList.zip Tryz.f87.resultTypes.toList)=[(.tmp 2,[none],none)]:=kr
theorem rF88:resK Pg (Tryz.f88.results.toList.zip Tryz.f88.resultTypes.toList)=[(.tmp 2,[none],none)]:=kr
theorem rF89:resK Pg (Tryz.f89.results.toList.zip Tryz.f89.resultTypes.toList)=[(.tmp 2,[none],none)]:=kr
theorem rF90:resK Pg (Tryz.f90.results.toList.zip Tryz.f90.resultTypes.toList)=[(.tmp 4,[none],none)]:=kr
theorem rF91:resK Pg (Tryz.f91.results.toList.zip Tryz.f91.resultTypes.toList)=[(.tmp 2,[none],none)]:=kr
theorem rF92:resK Pg (Tryz.f92.results.toList.zip Tryz.f92.resultTypes.toList)=[(.tmp 4,[none],none)]:=kr
theorem rF93:resK Pg (Tryz.f93.results.toList.zip Tryz.f93.resultTypes.toList)=[(.tmp 2,[none],none)]:=kr
theorem rF94:resK Pg (Tryz.f94.results.toList.zip Tryz.f94.resultTypes.toList)=[(.tmp 2,[none],none)]:=kr
theorem rF95:resK Pg (Tryz.f95.results.toList.zip Tryz.f95.resultTypes.toList)=[(.tmp 4,[none],none)]:=kr
theorem rF96:resK Pg (Tryz.f96.results.toList.zip Tryz.f96.resultTypes.toList)=[(.cell 2 164,[none,none,none,none,none,none,none,none,some 4],some (true,9))]:=kr
theorem rF97:resK Pg (Tryz.f97.results.toList.zip Tryz.f97.resultTypes.toList)=[(.cell 2 101,[none,none,none,none,none],some (true,5))]:=kr
theorem rF98:resK Pg (Tryz.f98.results.toList.zip Tryz.f98.resultTypes.toList)=[(.tmp 2,[none],none)]:=kr
theorem rF99:resK Pg (Tryz.f99.results.toList.zip Tryz.f99.resultTypes.toList)=[(.tmp 2,[none],none)]:=kr
theorem sF118:sliceF Pg 118=some (33,1,[some 1],false,24,[.nil]):=kr
theorem sF151:sliceF Pg 151=some (258,4,[none,none,none,none],true,32,[z0,z0,z0,z0]):=kr
theorem sF162:sliceF Pg 162=some (234,4,[none,none,none,none],true,32,[z0,z0,z0,z0]):=kr
theorem sF22:sliceF Pg 22=some (186,2,[none,none],true,16,[z0,z0]):=kr
theorem sF23:sliceF Pg 23=some (177,2,[none,some 1],true,40,[z1,.nil]):=kr
theorem sF26:sliceF Pg 26=some (112,3,[none,none,none],true,32,[z1,z0,z0]):=kr
theorem sF289:sliceF Pg 289=some (9,1,[none],false,16,[z1]):=kr
theorem sF29:sliceF Pg 29=some (153,9,[none,none,none,none,none,none,none,none,some 4],true,112,[z1,z1,z0,z1,z0,z0,z0,z0,.nil]):=kr
theorem sF30:sliceF Pg 30=some (167,5,[none,none,none,none,none],true,40,[z0,z0,z0,z0,z0]):=kr
theorem sF33:sliceF Pg 33=some (2,1,[none],false,8,[z0]):=kr
theorem sF38:sliceF Pg 38=some (184,2,[none,none],true,16,[z0,z0]):=kr
theorem sF39:sliceF Pg 39=some (187,2,[none,some 1],true,40,[z1,.nil]):=kr
theorem sF42:sliceF Pg 42=some (123,3,[none,none,none],true,32,[z1,z0,z0]):=kr
theorem sF45:sliceF Pg 45=some (164,9,[none,none,none,none,none,none,none,none,some 4],true,112,[z1,z1,z0,z1,z0,z0,z0,z0,.nil]):=kr
theorem sF46:sliceF Pg 46=some (101,5,[none,none,none,none,none],true,40,[z0,z0,z0,z0,z0]):=kr
theorem sF70:sliceF Pg 70=some (203,4,[none,none,none,none],true,40,[z1,z0,z0,z0]):=kr
theorem sF71:sliceF Pg 71=some (206,4,[none,none,none,none],true,40,[z1,z0,z0,z0]):=kr
theorem sF78:sliceF Pg 78=some (209,4,[none,none,none,none],true,40,[z1,z0,z0,z0]):=kr
theorem sF79:sliceF Pg 79=some (211,4,[none,none,none,none],true,40,[z1,z0,z0,z0]):=kr
theorem tF101:tyF Pg 101=some ([z0,z0,z0,z0,z0],[none,none,none,none,none],true,5):=kr
theorem tF112:tyF Pg 112=some ([z1,z0,z0],[none,none,none],true,3):=kr
theorem tF123:tyF Pg 123=some ([z1,z0,z0],[none,none,none],true,3):=kr
theorem tF151:tyF Pg 151=some ([.nil],[some 4],false,1):=kr
theorem tF153:tyF Pg 153=some ([z1,z1,z0,z1,z0,z0,z0,z0,.nil],[none,none,none,none,none,none,none,none,some 4],true,9):=kr
theorem tF162:tyF Pg 162=some ([.nil],[some 4],false,1):=kr
theorem tF164:tyF Pg 164=some ([z1,z1,z0,z1,z0,z0,z0,z0,.nil],[none,none,none,none,none,none,none,none,some 4],true,9):=kr
theorem tF167:tyF Pg 167=some ([z0,z0,z0,z0,z0],[none,none,none,none,none],true,5):=kr
theorem tF177:tyF Pg 177=some ([z1,.nil],[none,some 1],true,2):=kr
theorem tF184:tyF Pg 184=some ([z0,z0],[none,none],true,2):=kr
theorem tF186:tyF Pg 186=some ([z0,z0],[none,none],true,2):=kr
theorem tF187:tyF Pg 187=some ([z1,.nil],[none,some 1],true,2):=kr
theorem tF2:tyF Pg 2=some ([z0],[none],false,1):=kr
theorem tF203:tyF Pg 203=some ([z1,z0,z0,z0],[none,none,none,none],true,4):=kr
theorem tF206:tyF Pg 206=some ([z1,z0,z0,z0],[none,none,none,none],true,4):=kr
theorem tF209:tyF Pg 209=some ([z1,z0,z0,z0],[none,none,none,none],true,4):=kr
theorem tF211:tyF Pg 211=some ([z1,z0,z0,z0],[none,none,none,none],true,4):=kr
theorem tF22:tyF Pg 22=some ([.nil],[some 2],false,1):=kr
theorem tF23:tyF Pg 23=some ([.nil],[some 2],false,1):=kr
theorem tF234:tyF Pg 234=some ([z0,z0,z0,z0],[none,none,none,none],true,4):=kr
theorem tF25:tyF Pg 25=some ([z0,z0,.nil,.nil],[none,none,some 2,some 2],true,4):=kr
theorem tF258:tyF Pg 258=some ([z0,z0,z0,z0],[none,none,none,none],true,4):=kr
theorem tF26:tyF Pg 26=some ([.nil],[some 3],false,1):=kr
theorem tF28:tyF Pg 28=some ([z0,z0,.nil,.nil,.nil],[none,none,some 2,some 2,some 3],true,5):=kr
theorem tF29:tyF Pg 29=some ([.nil],[some 9],false,1):=kr
theorem tF30:tyF Pg 30=some ([.nil],[some 5],false,1):=kr
theorem tF32:tyF Pg 32=some ([z0,z0,z0,z0],[none,none,none,none],true,4):=kr
theorem tF33:tyF Pg 33=some ([.nil],[some 1],false,1):=kr
theorem tF35:tyF Pg 35=some ([z0,z0,.nil,.nil,.nil,.nil,.nil,z0,z0,z0,z0,z0,z0,z0,z0,.nil,.nil],[none,none,some 2,some 2,some 3,some 9,some 5,none,none,none,none,none,none,none,none,some 1,some 1],true,17):=kr
theorem tF38:tyF Pg 38=some ([.nil],[some 2],false,1):=kr
theorem tF39:tyF Pg 39=some ([.nil],[some 2],false,1):=kr
theorem tF41:tyF Pg 41=some ([z0,z0,.nil,.nil],[none,none,some 2,some 2],true,4):=kr
theorem tF42:tyF Pg 42=some ([.nil],[some 3],false,1):=kr
theorem tF44:tyF Pg 44=some ([z0,z0,.nil,.nil,.nil],[none,none,some 2,some 2,some 3],true,5):=kr
theorem tF45:tyF Pg 45=some ([.nil],[some 9],false,1):=kr
theorem tF46:tyF Pg 46=some ([.nil],[some 5],false,1):=kr
theorem tF47:tyF Pg 47=some ([z0,z0,z0,z0],[none,none,none,none],true,4):=kr
theorem tF49:tyF Pg 49=some ([z0,z0,.nil,.nil,.nil,.nil,.nil,z0,z0,z0,z0,z0,z0,z0,z0,.nil,.nil],[none,none,some 2,some 2,some 3,some 9,some 5,none,none,none,none,none,none,none,none,some 1,some 1],true,17):=kr
theorem tF70:tyF Pg 70=some ([.nil],[some 4],false,1):=kr
theorem tF71:tyF Pg 71=some ([.nil],[some 4],false,1):=kr
theorem tF73:tyF Pg 73=some ([z0,z0,z0,z0,z0],[none,none,none,none,none],true,5):=kr
theorem tF75:tyF Pg 75=some ([z0,z0,.nil,.nil,.nil,.nil,.nil,z0,z0,z0,z0,z0,z0,z0,z0,.nil,.nil,.nil,.nil,z0,z0,z0,z0,z0],[none,none,some 2,some 2,some 3,some 9,some 5,none,none,none,none,none,none,none,none,some 1,some 1,some 4,some 4,none,none,none,none,none],true,24):=kr
theorem tF78:tyF Pg 78=some ([.nil],[some 4],false,1):=kr
theorem tF79:tyF Pg 79=some ([.nil],[some 4],false,1):=kr
theorem tF80:tyF Pg 80=some ([z0,z0,z0,z0,z0],[none,none,none,none,none],true,5):=kr
theorem tF82:tyF Pg 82=some ([z0,z0,.nil,.nil,.nil,.nil,.nil,z0,z0,z0,z0,z0,z0,z0,z0,.nil,.nil,.nil,.nil,z0,z0,z0,z0,z0],[none,none,some 2,some 2,some 3,some 9,some 5,none,none,none,none,none,none,none,none,some 1,some 1,some 4,some 4,none,none,none,none,none],true,24):=kr
theorem tF9:tyF Pg 9=some ([z1],[none],false,1):=kr
theorem uF151:Pg.underlying 151=some (.slice 258):=kr
theorem uF162:Pg.underlying 162=some (.slice 234):=kr
theorem uF22:Pg.underlying 22=some (.slice 186):=kr
theorem uF23:Pg.underlying 23=some (.slice 177):=kr
theorem uF26:Pg.underlying 26=some (.slice 112):=kr
theorem uF289:Pg.underlying 289=some (.slice 9):=kr
theorem uF29:Pg.underlying 29=some (.slice 153):=kr
theorem uF30:Pg.underlying 30=some (.slice 167):=kr
theorem uF33:Pg.underlying 33=some (.slice 2):=kr
theorem uF38:Pg.underlying 38=some (.slice 184):=kr
theorem uF39:Pg.underlying 39=some (.slice 187):=kr
theorem uF4:Pg.underlying 4=some .bool:=kr
theorem uF42:Pg.underlying 42=some (.slice 123):=kr
theorem uF45:Pg.underlying 45=some (.slice 164):=kr
theorem uF46:Pg.underlying 46=some (.slice 101):=kr
theorem uF70:Pg.underlying 70=some (.slice 203):=kr
theorem uF71:Pg.underlying 71=some (.slice 206):=kr
theorem uF78:Pg.underlying 78=some (.slice 209):=kr
theorem uF79:Pg.underlying 79=some (.slice 211):=kr
theorem uF9:Pg.underlying 9=some .string:=kr
abbrev FX (i:Nat) (a:List Arg) (r:Res×List Out):Prop:=FL Tryz.prog cfg i a=some r
theorem L_laws_szPointS {a_0:(List S_Point)} {left_1:Int} {r:Int} (h:laws_szPointS a_0 left_1=some r):FX 55 [.im 2 false [W 2 e_S_Point a_0],.im 2 false [I left_1]] (B0 [(false,[.im 0 (I r)])]):=by
 unfold laws_szPointS at h
 refine gn 12 Tryz.func55 rfl ?_
 refine gs<|g0 j j (q (oAsI j j)<|nl)<|us<|gs<|g0 j j (q (oMv j j)<|q (oMv j j)<|q (oLnI j j uF22 j)<|q (oBi j j j j)<|q (oAsI j j)<|nl)<|us<|gs<|gs<|g0 j j (q (oMv j j)<|q (oBi j j j j)<|nl)<|us<|gc h j iDec (fun hc1 h=>?_) fun hc1 h=>?_
 ·refine gs<|g0 j j (q (oAsI j j)<|nl)<|us<|Go.ret (Unw.ret ?_)
  cases h
  exact fr rF55 j
 ·refine Go.skip<|us<|gs<|g0 j j (q (oMv j j)<|q (oAsI j j)<|nl)<|us<|Go.ret (Unw.ret ?_)
  cases h
  exact fr rF55 j
theorem L_laws_szInt64S {a_0:(List Int)} {left_1:Int} {r:Int} (h:laws_szInt64S a_0 left_1=some r):FX 38 [.im 2 false [W 1 eI a_0],.im 2 false [I left_1]] (B0 [(false,[.im 0 (I r)])]):=by
 unfold laws_szInt64S at h
 refine gn 12 Tryz.func38 rfl ?_
 refine gs<|g0 j j (q (oAsI j j)<|nl)<|us<|gs<|g0 j j (q (oMv j j)<|q (oMv j j)<|q (oLnI j j uF33 j)<|q (oBi j j j j)<|q (oAsI j j)<|nl)<|us<|gs<|gs<|g0 j j (q (oMv j j)<|q (oBi j j j j)<|nl)<|us<|gc h j iDec (fun hc1 h=>?_) fun hc1 h=>?_
 ·refine gs<|g0 j j (q (oAsI j j)<|nl)<|us<|Go.ret (Unw.ret ?_)
  cases h
  exact fr rF38 j
 ·refine Go.skip<|us<|gs<|g0 j j (q (oMv j j)<|q (oAsI j j)<|nl)<|us<|Go.ret (Unw.ret ?_)
  cases h
  exact fr rF38 j
theorem L_laws_szFace {a_0:S_Face} {left_1:Int} {r:Int} (h:laws_szFace a_0 left_1=some r):FX 105 [.im 2 true (u_S_Face a_0),.im 2 false [I left_1]] (B0 [(false,[.im 0 (I r)])]):=by
 unfold laws_szFace at h
 refine gn 19 Tryz.func105 rfl ?_
 refine gs<|g0 j j (q (oBx j tF177 j (tkI (tkI tk0)))<|q (oAsI j j)<|nl)<|us<|gs<|g0 j j (q (oMv j j)<|q (oFA (r':=.mp 2 0 0) j fF177_0 j j)<|q (oLd (cs:=[.im 0 _]) j tF9 j j)<|q (oLnS j j uF9 j)<|q (oBi j j j j)<|q (oAsI j j)<|nl)<|us<|gs<|gs<|g0 j j (q (oMv j j)<|q (oBi j j j j)<|nl)<|us<|gc h j iDec (fun hc1 h=>?_) fun hc1 h=>?_
 ·refine gs<|g0 j j (q (oAsI j j)<|nl)<|us<|Go.ret (Unw.ret ?_)
  cases h
  exact fr rF105 j
 ·refine Go.skip<|us<|gs<|?_
  obtain ⟨x15,hx15,h⟩:=bs h
  refine g0 j j (q (oFA (r':=.mp 2 0 1) j fF177_1 j j)<|q (oLd (cs:=[.im 2 _]) j tF33 j j)<|q (oMv j j)<|q (oCa (xs:=[.v false [.im 2 _],.v false [.im 0 _]]) (vs:=[(false,[.im 0 _])]) (v:=.v false [.im 0 _]) (L_laws_szInt64S hx15) (.inl j) j kF38_33_3 j (ppC j (ppC j pp0)) j j pb0 j j j)<|q (oAsI j j)<|nl)<|us<|gs<|gs<|g0 j j (q (oMv j j)<|q (oBi j j j j)<|nl)<|us<|gc h j iDec (fun hc2 h=>?_) fun hc2 h=>?_
  ·refine gs<|g0 j j (q (oAsI j j)<|nl)<|us<|Go.ret (Unw.ret ?_)
   cases h
   exact fr rF105 j
  ·refine Go.skip<|us<|gs<|g0 j j (q (oMv j j)<|q (oAsI j j)<|nl)<|us<|Go.ret (Unw.ret ?_)
   cases h
   exact fr rF105 j
theorem L_laws_szFaceS {a_0:(List S_Face)} {left_1:Int} {r:Int} (h:laws_szFaceS a_0 left_1=some r):FX 56 [.im 2 false [W 2 e_S_Face a_0],.im 2 false [I left_1]] (B0 [(false,[.im 0 (I r)])]):=by
 unfold laws_szFaceS at h
 refine gn 27 Tryz.func56 rfl ?_
 refine gs<|g0 j j (q (oAsI j j)<|nl)<|us<|gs<|g0 j j (q (oMv j j)<|q (oMv j j)<|q (oLnI j j uF23 j)<|q (oBi j j j j)<|q (oAsI j j)<|nl)<|us<|gs<|gs<|g0 j j (q (oMv j j)<|q (oBi j j j j)<|nl)<|us<|gc h j iDec (fun hc1 h=>?_) fun hc1 h=>?_
 ·refine gs<|g0 j j (q (oAsI j j)<|nl)<|us<|Go.ret (Unw.ret ?_)
  cases h
  exact fr rF56 j
 ·refine Go.skip<|us<|gs<|gs<|g0 j j (q (oAsI j j)<|nl)<|us<|Go.block<|?_
  obtain ⟨o,hl,h⟩:=bs h
  refine gl c56 j _ (fun (s:(Int×Int))=>match s with | (left_1_l5,i_5_l5)=>mk [(0,D 2 (W 2 e_S_Face a_0)),(1,iv left_1_l5),(5,iv i_5_l5)] []) (fun (o:(Int ⊕ Int)) (p:Ex×St)=>match o with | (.inl left_1_e0_5)=>p.1= .exit 0∧p.2.norm ([1],[])=mk [(1,iv left_1_e0_5)] [] | (.inr r2)=>p.1= .ret∧fin Tryz.prog cfg 56 Tryz.f56 [.im 2 false [W 2 e_S_Face a_0],.im 2 false [I left_1]] p.2=some (B0 [(false,[.im 0 (I r2)])])) hl (by kernel_rfl) ?_ ?_ ?_
  ·intro o p hp e
   rcases o with left_1_e0_5 | r2<;>exact nomatch (hp.1.symm.trans e)
  ·rintro ⟨left_1_l5,i_5_l5⟩ o h
   unfold laws_szFaceS_l5 at h
   dsimp only at h
   refine gs<|gs<|g0 j j (q (oMv j j)<|q (oMv j j)<|q (oLnI j j uF23 j)<|q (oBi j j j j)<|nl)<|us<|gc h j iDec (fun hc6 h=>?_) fun hc6 h=>?_
   ·refine Go.skip<|us<|gs<|Go.block<|gs<|?_
    obtain ⟨x20,hx20,h⟩:=bs h
    obtain ⟨x23,hx23,h⟩:=bs h
    refine g0 j j (q (oMv j j)<|q (oMv j j)<|q (oIAI j hx20 sF23 j j)<|q (oLd (cs:=[.im 2 _,.im 2 _]) j tF177 j j)<|q (oMv j j)<|q (oCa (xs:=[.v true [.im 2 _,.im 2 _],.v false [.im 0 _]]) (vs:=[(false,[.im 0 _])]) (v:=.v false [.im 0 _]) (L_laws_szFace hx23) (.inl j) j kF105_177_3 j (ppC j (ppC j pp0)) j j pb0 j j j)<|q (oAsI j j)<|nl)<|us<|gs<|g0 j j (q (oMv j j)<|q (oBi j j j j)<|nl)<|us<|gc h j iDec (fun hc7 h=>?_) fun hc7 h=>?_
    ·refine gs<|g0 j j (q (oAsI j j)<|nl)<|us<|Go.ret (Unw.ret ?_)
     cases h
     exact ⟨j,(fo rF56 j)⟩
    ·refine Go.skip<|Unw.blk<|us<|g0 j j (q (oMv j j)<|q (oBi j j j j)<|q (oAsI j j)<|nl)<|Unw.nil<|?_
     cases h
     exact ⟨j,(by kernel_rfl)⟩
   ·refine Go.exit<|ux<|Unw.nil<|?_
    cases h
    exact ⟨j,(by kernel_rfl)⟩
  ·rintro ⟨e,st⟩ hp
   rcases o with left_1_e0_5 | r2
   ·dsimp only at h
    obtain ⟨he,hst⟩:=hp
    obtain rfl:e= .exit 0:=he
    refine Unw.blkx<|us<|gs<|g2 c56 j j hst (q (oMv j j)<|q (oAsI j j)<|nl)<|us<|Go.ret (Unw.ret ?_)
    cases h
    exact fr rF56 j
   ·dsimp only at h
    obtain ⟨he,hfin⟩:=hp
    obtain rfl:e= .ret:=he
    cases h
    exact Unw.ret (Fin_ret hfin)
theorem L_laws_szDrawing {a_0:S_Drawing} {left_1:Int} {r:Int} (h:laws_szDrawing a_0 left_1=some r):FX 13 [.im 2 true (u_S_Drawing a_0),.im 2 false [I left_1]] (B0 [(false,[.im 0 (I r)])]):=by
 unfold laws_szDrawing at h
 refine gn 18 Tryz.func13 rfl ?_
 refine gs<|g0 j j (q (oBx j tF25 j (tkI (tkI (tkI (tkI tk0)))))<|q (oAsI j j)<|nl)<|us<|gs<|?_
 obtain ⟨x8,hx8,h⟩:=bs h
 refine g0 j j (q (oFA (r':=.mp 2 0 2) j fF25_2 j j)<|q (oLd (cs:=[.im 2 _]) j tF22 j j)<|q (oMv j j)<|q (oCa (xs:=[.v false [.im 2 _],.v false [.im 2 _]]) (vs:=[(false,[.im 0 _])]) (v:=.v false [.im 0 _]) (L_laws_szPointS hx8) (.inl j) j kF55_22_3 j (ppC j (ppC j pp0)) j j pb0 j j j)<|q (oAsI j j)<|nl)<|us<|gs<|gs<|g0 j j (q (oMv j j)<|q (oBi j j j j)<|nl)<|us<|gc h j iDec (fun hc1 h=>?_) fun hc1 h=>?_
 ·refine gs<|g0 j j (q (oAsI j j)<|nl)<|us<|Go.ret (Unw.ret ?_)
  cases h
  exact fr rF13 j
 ·refine Go.skip<|us<|gs<|?_
  obtain ⟨x14,hx14,h⟩:=bs h
  refine g0 j j (q (oFA (r':=.mp 2 0 3) j fF25_3 j j)<|q (oLd (cs:=[.im 2 _]) j tF23 j j)<|q (oMv j j)<|q (oCa (xs:=[.v false [.im 2 _],.v false [.im 0 _]]) (vs:=[(false,[.im 0 _])]) (v:=.v false [.im 0 _]) (L_laws_szFaceS hx14) (.inl j) j kF56_23_3 j (ppC j (ppC j pp0)) j j pb0 j j j)<|q (oAsI j j)<|nl)<|us<|gs<|gs<|g0 j j (q (oMv j j)<|q (oBi j j j j)<|nl)<|us<|gc h j iDec (fun hc2 h=>?_) fun hc2 h=>?_
  ·refine gs<|g0 j j (q (oAsI j j)<|nl)<|us<|Go.ret (Unw.ret ?_)
   cases h
   exact fr rF13 j
  ·refine Go.skip<|us<|gs<|g0 j j (q (oMv j j)<|q (oAsI j j)<|nl)<|us<|Go.ret (Unw.ret ?_)
   cases h
   exact fr rF13 j
theorem L_laws_szVeneer {a_0:S_Veneer} {left_1:Int} {r:Int} (h:laws_szVeneer a_0 left_1=some r):FX 57 [.im 2 true (u_S_Veneer a_0),.im 2 false [I left_1]] (B0 [(false,[.im 0 (I r)])]):=by
 unfold laws_szVeneer at h
 refine gn 13 Tryz.func57 rfl ?_
 refine gs<|g0 j j (q (oBx j tF112 j (tkI (tkI (tkI tk0))))<|q (oAsI j j)<|nl)<|us<|gs<|g0 j j (q (oMv j j)<|q (oFA (r':=.mp 2 0 0) j fF112_0 j j)<|q (oLd (cs:=[.im 0 _]) j tF9 j j)<|q (oLnS j j uF9 j)<|q (oBi j j j j)<|q (oAsI j j)<|nl)<|us<|gs<|gs<|g0 j j (q (oMv j j)<|q (oBi j j j j)<|nl)<|us<|gc h j iDec (fun hc1 h=>?_) fun hc1 h=>?_
 ·refine gs<|g0 j j (q (oAsI j j)<|nl)<|us<|Go.ret (Unw.ret ?_)
  cases h
  exact fr rF57 j
 ·refine Go.skip<|us<|gs<|g0 j j (q (oMv j j)<|q (oAsI j j)<|nl)<|us<|Go.ret (Unw.ret ?_)
  cases h
  exact fr rF57 j
theorem L_laws_szVeneerS {a_0:(List S_Veneer)} {left_1:Int} {r:Int} (h:laws_szVeneerS a_0 left_1=some r):FX 14 [.im 2 false [W 3 e_S_Veneer a_0],.im 2 false [I left_1]] (B0 [(false,[.im 0 (I r)])]):=by
 unfold laws_szVeneerS at h
 refine gn 27 Tryz.func14 rfl ?_
 refine gs<|g0 j j (q (oAsI j j)<|nl)<|us<|gs<|g0 j j (q (oMv j j)<|q (oMv j j)<|q (oLnI j j uF26 j)<|q (oBi j j j j)<|q (oAsI j j)<|nl)<|us<|gs<|gs<|g0 j j (q (oMv j j)<|q (oBi j j j j)<|nl)<|us<|gc h j iDec (fun hc1 h=>?_) fun hc1 h=>?_
 ·refine gs<|g0 j j (q (oAsI j j)<|nl)<|us<|Go.ret (Unw.ret ?_)
  cases h
  exact fr rF14 j
 ·refine Go.skip<|us<|gs<|gs<|g0 j j (q (oAsI j j)<|nl)<|us<|Go.block<|?_
  obtain ⟨o,hl,h⟩:=bs h
  refine gl c14 j _ (fun (s:(Int×Int))=>match s with | (left_1_l5,i_5_l5)=>mk [(0,D 2 (W 3 e_S_Veneer a_0)),(1,iv left_1_l5),(5,iv i_5_l5)] []) (fun (o:(Int ⊕ Int)) (p:Ex×St)=>match o with | (.inl left_1_e0_5)=>p.1= .exit 0∧p.2.norm ([1],[])=mk [(1,iv left_1_e0_5)] [] | (.inr r2)=>p.1= .ret∧fin Tryz.prog cfg 14 Tryz.f14 [.im 2 false [W 3 e_S_Veneer a_0],.im 2 false [I left_1]] p.2=some (B0 [(false,[.im 0 (I r2)])])) hl (by kernel_rfl) ?_ ?_ ?_
  ·intro o p hp e
   rcases o with left_1_e0_5 | r2<;>exact nomatch (hp.1.symm.trans e)
  ·rintro ⟨left_1_l5,i_5_l5⟩ o h
   unfold laws_szVeneerS_l5 at h
   dsimp only at h
   refine gs<|gs<|g0 j j (q (oMv j j)<|q (oMv j j)<|q (oLnI j j uF26 j)<|q (oBi j j j j)<|nl)<|us<|gc h j iDec (fun hc6 h=>?_) fun hc6 h=>?_
   ·refine Go.skip<|us<|gs<|Go.block<|gs<|?_
    obtain ⟨x20,hx20,h⟩:=bs h
    obtain ⟨x23,hx23,h⟩:=bs h
    refine g0 j j (q (oMv j j)<|q (oMv j j)<|q (oIAI j hx20 sF26 j j)<|q (oLd (cs:=[.im 2 _,.im 2 _,.im 2 _]) j tF112 j j)<|q (oMv j j)<|q (oCa (xs:=[.v true [.im 2 _,.im 2 _,.im 2 _],.v false [.im 0 _]]) (vs:=[(false,[.im 0 _])]) (v:=.v false [.im 0 _]) (L_laws_szVeneer hx23) (.inl j) j kF57_112_3 j (ppC j (ppC j pp0)) j j pb0 j j j)<|q (oAsI j j)<|nl)<|us<|gs<|g0 j j (q (oMv j j)<|q (oBi j j j j)<|nl)<|us<|gc h j iDec (fun hc7 h=>?_) fun hc7 h=>?_
    ·refine gs<|g0 j j (q (oAsI j j)<|nl)<|us<|Go.ret (Unw.ret ?_)
     cases h
     exact ⟨j,(fo rF14 j)⟩
    ·refine Go.skip<|Unw.blk<|us<|g0 j j (q (oMv j j)<|q (oBi j j j j)<|q (oAsI j j)<|nl)<|Unw.nil<|?_
     cases h
     exact ⟨j,(by kernel_rfl)⟩
   ·refine Go.exit<|ux<|Unw.nil<|?_
    cases h
    exact ⟨j,(by kernel_rfl)⟩
  ·rintro ⟨e,st⟩ hp
   rcases o with left_1_e0_5 | r2
   ·dsimp only at h
    obtain ⟨he,hst⟩:=hp
    obtain rfl:e= .exit 0:=he
    refine Unw.blkx<|us<|gs<|g2 c14 j j hst (q (oMv j j)<|q (oAsI j j)<|nl)<|us<|Go.ret (Unw.ret ?_)
    cases h
    exact fr rF14 j
   ·dsimp only at h
    obtain ⟨he,hfin⟩:=hp
    obtain rfl:e= .ret:=he
    cases h
    exact Unw.ret (Fin_ret hfin)
theorem L_laws_szPicture {a_0:S_Picture} {left_1:Int} {r:Int} (h:laws_szPicture a_0 left_1=some r):FX 35 [.im 2 true (u_S_Picture a_0),.im 2 false [I left_1]] (B0 [(false,[.im 0 (I r)])]):=by
 unfold laws_szPicture at h
 refine gn 18 Tryz.func35 rfl ?_
 refine gs<|g0 j j (q (oBx j tF28 j (tkI (tkI (tkI (tkI (tkI tk0))))))<|q (oAsI j j)<|nl)<|us<|gs<|?_
 obtain ⟨x8,hx8,h⟩:=bs h
 refine g1 j j (mk [(1,iv left_1),(2,M 2)] [(2,Oa (G 2 (u_S_Picture a_0)))]) (q (oFA (r':=.mp 2 0 0) j fF28_0 j j)<|q (oLd (cs:=[.im 0 _,.im 0 _,.im 2 _,.im 2 _]) j tF25 j j)<|q (oMv j j)<|q (oCa (xs:=[.v true [.im 0 _,.im 0 _,.im 2 _,.im 2 _],.v false [.im 0 _]]) (vs:=[(false,[.im 0 _])]) (v:=.v false [.im 0 _]) (L_laws_szDrawing hx8) (.inl j) j kF13_25_3 j (ppC j (ppC j pp0)) j j pb0 j j j)<|q (oAsI j j)<|nl)<|us<|gs<|gs<|g0 j j (q (oMv j j)<|q (oBi j j j j)<|nl)<|us<|gc h j iDec (fun hc1 h=>?_) fun hc1 h=>?_
 ·refine gs<|g0 j j (q (oAsI j j)<|nl)<|us<|Go.ret (Unw.ret ?_)
  cases h
  exact fr rF35 j
 ·refine Go.skip<|us<|gs<|?_
  obtain ⟨x14,hx14,h⟩:=bs h
  refine g0 j j (q (oFA (r':=.mp 2 0 4) j fF28_1 j j)<|q (oLd (cs:=[.im 2 _]) j tF26 j j)<|q (oMv j j)<|q (oCa (xs:=[.v false [.im 2 _],.v false [.im 0 _]]) (vs:=[(false,[.im 0 _])]) (v:=.v false [.im 0 _]) (L_laws_szVeneerS hx14) (.inl j) j kF14_26_3 j (ppC j (ppC j pp0)) j j pb0 j j j)<|q (oAsI j j)<|nl)<|us<|gs<|gs<|g0 j j (q (oMv j j)<|q (oBi j j j j)<|nl)<|us<|gc h j iDec (fun hc2 h=>?_) fun hc2 h=>?_
  ·refine gs<|g0 j j (q (oAsI j j)<|nl)<|us<|Go.ret (Unw.ret ?_)
   cases h
   exact fr rF35 j
  ·refine Go.skip<|us<|gs<|g0 j j (q (oMv j j)<|q (oAsI j j)<|nl)<|us<|Go.ret (Unw.ret ?_)
   cases h
   exact fr rF35 j
theorem L_laws_szBoxS {a_0:(List S_Box)} {left_1:Int} {r:Int} (h:laws_szBoxS a_0 left_1=some r):FX 138 [.im 2 false [W 4 e_S_Box a_0],.im 2 false [I left_1]] (B0 [(false,[.im 0 (I r)])]):=by
 unfold laws_szBoxS at h
 refine gn 12 Tryz.func138 rfl ?_
 refine gs<|g0 j j (q (oAsI j j)<|nl)<|us<|gs<|g0 j j (q (oMv j j)<|q (oMv j j)<|q (oLnI j j uF151 j)<|q (oBi j j j j)<|q (oAsI j j)<|nl)<|us<|gs<|gs<|g0 j j (q (oMv j j)<|q (oBi j j j j)<|nl)<|us<|gc h j iDec (fun hc1 h=>?_) fun hc1 h=>?_
 ·refine gs<|g0 j j (q (oAsI j j)<|nl)<|us<|Go.ret (Unw.ret ?_)
  cases h
  exact fr rF138 j
 ·refine Go.skip<|us<|gs<|g0 j j (q (oMv j j)<|q (oAsI j j)<|nl)<|us<|Go.ret (Unw.ret ?_)
  cases h
  exact fr rF138 j
theorem L_laws_szLeaf {a_0:S_Leaf} {left_1:Int} {r:Int} (h:laws_szLeaf a_0 left_1=some r):FX 86 [.im 2 true (u_S_Leaf a_0),.im 2 false [I left_1]] (B0 [(false,[.im 0 (I r)])]):=by
 unfold laws_szLeaf at h
 refine gn 32 Tryz.func86 rfl ?_
 refine gs<|g0 j j (q (oBx j tF153 j (tkI (tkI (tkI (tkI (tkI (tkI (tkI (tkI (tkI tk0))))))))))<|q (oAsI j j)<|nl)<|us<|gs<|g1 j j (mk [(1,iv left_1),(2,M 2)] [(2,Oa (G 2 (u_S_Leaf a_0)))]) (q (oMv j j)<|q (oFA (r':=.mp 2 0 0) j fF153_0 j j)<|q (oLd (cs:=[.im 0 _]) j tF9 j j)<|q (oLnS j j uF9 j)<|q (oBi j j j j)<|q (oAsI j j)<|nl)<|us<|gs<|gs<|g0 j j (q (oMv j j)<|q (oBi j j j j)<|nl)<|us<|gc h j iDec (fun hc1 h=>?_) fun hc1 h=>?_
 ·refine gs<|g0 j j (q (oAsI j j)<|nl)<|us<|Go.ret (Unw.ret ?_)
  cases h
  exact fr rF86 j
 ·refine Go.skip<|us<|gs<|g0 j j (q (oMv j j)<|q (oFA (r':=.mp 2 0 1) j fF153_1 j j)<|q (oLd (cs:=[.im 0 _]) j tF9 j j)<|q (oLnS j j uF9 j)<|q (oBi j j j j)<|q (oAsI j j)<|nl)<|us<|gs<|gs<|g0 j j (q (oMv j j)<|q (oBi j j j j)<|nl)<|us<|gc h j iDec (fun hc2 h=>?_) fun hc2 h=>?_
  ·refine gs<|g0 j j (q (oAsI j j)<|nl)<|us<|Go.ret (Unw.ret ?_)
   cases h
   exact fr rF86 j
  ·refine Go.skip<|us<|gs<|?_
   obtain ⟨x22,hx22,h⟩:=bs h
   refine g0 j j (q (oFA (r':=.mp 2 0 3) j fF153_3 j j)<|q (oLd (cs:=[.im 0 _,.im 0 _,.im 0 _]) j tF112 j j)<|q (oMv j j)<|q (oCa (xs:=[.v true [.im 0 _,.im 0 _,.im 0 _],.v false [.im 0 _]]) (vs:=[(false,[.im 0 _])]) (v:=.v false [.im 0 _]) (L_laws_szVeneer hx22) (.inl j) j kF57_112_3 j (ppC j (ppC j pp0)) j j pb0 j j j)<|q (oAsI j j)<|nl)<|us<|gs<|gs<|g0 j j (q (oMv j j)<|q (oBi j j j j)<|nl)<|us<|gc h j iDec (fun hc3 h=>?_) fun hc3 h=>?_
   ·refine gs<|g0 j j (q (oAsI j j)<|nl)<|us<|Go.ret (Unw.ret ?_)
    cases h
    exact fr rF86 j
   ·refine Go.skip<|us<|gs<|?_
    obtain ⟨x28,hx28,h⟩:=bs h
    refine g0 j j (q (oFA (r':=.mp 2 0 8) j fF153_6 j j)<|q (oLd (cs:=[.im 2 _]) j tF151 j j)<|q (oMv j j)<|q (oCa (xs:=[.v false [.im 2 _],.v false [.im 0 _]]) (vs:=[(false,[.im 0 _])]) (v:=.v false [.im 0 _]) (L_laws_szBoxS hx28) (.inl j) j kF138_151_3 j (ppC j (ppC j pp0)) j j pb0 j j j)<|q (oAsI j j)<|nl)<|us<|gs<|gs<|g0 j j (q (oMv j j)<|q (oBi j j j j)<|nl)<|us<|gc h j iDec (fun hc4 h=>?_) fun hc4 h=>?_
    ·refine gs<|g0 j j (q (oAsI j j)<|nl)<|us<|Go.ret (Unw.ret ?_)
     cases h
     exact fr rF86 j
    ·refine Go.skip<|us<|gs<|g0 j j (q (oMv j j)<|q (oAsI j j)<|nl)<|us<|Go.ret (Unw.ret ?_)
     cases h
     exact fr rF86 j
theorem L_laws_szLeafS {a_0:(List S_Leaf)} {left_1:Int} {r:Int} (h:laws_szLeafS a_0 left_1=some r):FX 36 [.im 2 false [W 9 e_S_Leaf a_0],.im 2 false [I left_1]] (B0 [(false,[.im 0 (I r)])]):=by
 unfold laws_szLeafS at h
 refine gn 27 Tryz.func36 rfl ?_
 refine gs<|g0 j j (q (oAsI j j)<|nl)<|us<|gs<|g0 j j (q (oMv j j)<|q (oMv j j)<|q (oLnI j j uF29 j)<|q (oBi j j j j)<|q (oAsI j j)<|nl)<|us<|gs<|gs<|g0 j j (q (oMv j j)<|q (oBi j j j j)<|nl)<|us<|gc h j iDec (fun hc1 h=>?_) fun hc1 h=>?_
 ·refine gs<|g0 j j (q (oAsI j j)<|nl)<|us<|Go.ret (Unw.ret ?_)
  cases h
  exact fr rF36 j
 ·refine Go.skip<|us<|gs<|gs<|g0 j j (q (oAsI j j)<|nl)<|us<|Go.block<|?_
  obtain ⟨o,hl,h⟩:=bs h
  refine gl c36 j _ (fun (s:(Int×Int))=>match s with | (left_1_l5,i_5_l5)=>mk [(0,D 2 (W 9 e_S_Leaf a_0)),(1,iv left_1_l5),(5,iv i_5_l5)] []) (fun (o:(Int ⊕ Int)) (p:Ex×St)=>match o with | (.inl left_1_e0_5)=>p.1= .exit 0∧p.2.norm ([1],[])=mk [(1,iv left_1_e0_5)] [] | (.inr r2)=>p.1= .ret∧fin Tryz.prog cfg 36 Tryz.f36 [.im 2 false [W 9 e_S_Leaf a_0],.im 2 false [I left_1]] p.2=some (B0 [(false,[.im 0 (I r2)])])) hl (by kernel_rfl) ?_ ?_ ?_
  ·intro o p hp e
   rcases o with left_1_e0_5 | r2<;>exact nomatch (hp.1.symm.trans e)
  ·rintro ⟨left_1_l5,i_5_l5⟩ o h
   unfold laws_szLeafS_l5 at h
   dsimp only at h
   refine gs<|gs<|g0 j j (q (oMv j j)<|q (oMv j j)<|q (oLnI j j uF29 j)<|q (oBi j j j j)<|nl)<|us<|gc h j iDec (fun hc6 h=>?_) fun hc6 h=>?_
   ·refine Go.skip<|us<|gs<|Go.block<|gs<|?_
    obtain ⟨x20,hx20,h⟩:=bs h
    obtain ⟨x23,hx23,h⟩:=bs h
    refine g0 j j (q (oMv j j)<|q (oMv j j)<|q (oIAI j hx20 sF29 j j)<|q (oLd (cs:=[.im 2 _,.im 2 _,.im 2 _,.im 2 _,.im 2 _,.im 2 _,.im 2 _,.im 2 _,.im 2 _]) j tF153 j j)<|q (oMv j j)<|q (oCa (xs:=[.v true [.im 2 _,.im 2 _,.im 2 _,.im 2 _,.im 2 _,.im 2 _,.im 2 _,.im 2 _,.im 2 _],.v false [.im 0 _]]) (vs:=[(false,[.im 0 _])]) (v:=.v false [.im 0 _]) (L_laws_szLeaf hx23) (.inl j) j kF86_153_3 j (ppC j (ppC j pp0)) j j pb0 j j j)<|q (oAsI j j)<|nl)<|us<|gs<|g0 j j (q (oMv j j)<|q (oBi j j j j)<|nl)<|us<|gc h j iDec (fun hc7 h=>?_) fun hc7 h=>?_
    ·refine gs<|g0 j j (q (oAsI j j)<|nl)<|us<|Go.ret (Unw.ret ?_)
     cases h
     exact ⟨j,(fo rF36 j)⟩
    ·refine Go.skip<|Unw.blk<|us<|g0 j j (q (oMv j j)<|q (oBi j j j j)<|q (oAsI j j)<|nl)<|Unw.nil<|?_
     cases h
     exact ⟨j,(by kernel_rfl)⟩
   ·refine Go.exit<|ux<|Unw.nil<|?_
    cases h
    exact ⟨j,(by kernel_rfl)⟩
  ·rintro ⟨e,st⟩ hp
   rcases o with left_1_e0_5 | r2
   ·dsimp only at h
    obtain ⟨he,hst⟩:=hp
    obtain rfl:e= .exit 0:=he
    refine Unw.blkx<|us<|gs<|g2 c36 j j hst (q (oMv j j)<|q (oAsI j j)<|nl)<|us<|Go.ret (Unw.ret ?_)
    cases h
    exact fr rF36 j
   ·dsimp only at h
    obtain ⟨he,hfin⟩:=hp
    obtain rfl:e= .ret:=he
    cases h
    exact Unw.ret (Fin_ret hfin)
theorem L_laws_szPlacementS {a_0:(List S_Placement)} {left_1:Int} {r:Int} (h:laws_szPlacementS a_0 left_1=some r):FX 37 [.im 2 false [W 5 e_S_Placement a_0],.im 2 false [I left_1]] (B0 [(false,[.im 0 (I r)])]):=by
 unfold laws_szPlacementS at h
 refine gn 12 Tryz.func37 rfl ?_
 refine gs<|g0 j j (q (oAsI j j)<|nl)<|us<|gs<|g0 j j (q (oMv j j)<|q (oMv j j)<|q (oLnI j j uF30 j)<|q (oBi j j j j)<|q (oAsI j j)<|nl)<|us<|gs<|gs<|g0 j j (q (oMv j j)<|q (oBi j j j j)<|nl)<|us<|gc h j iDec (fun hc1 h=>?_) fun hc1 h=>?_
 ·refine gs<|g0 j j (q (oAsI j j)<|nl)<|us<|Go.ret (Unw.ret ?_)
  cases h
  exact fr rF37 j
 ·refine Go.skip<|us<|gs<|g0 j j (q (oMv j j)<|q (oAsI j j)<|nl)<|us<|Go.ret (Unw.ret ?_)
  cases h
  exact fr rF37 j
theorem L_laws_szJob {a_0:S_Job} {left_1:Int} {r:Int} (h:laws_szJob a_0 left_1=some r):FX 8 [.im 2 true (u_S_Job a_0),.im 2 false [I left_1]] (B0 [(false,[.im 0 (I r)])]):=by
 unfold laws_szJob at h
 refine gn 36 Tryz.func8 rfl ?_
 refine gs<|g0 j j (q (oBx j tF35 j (tkI (tkI (tkI (tkI (tkI (tkI (tkI (tkI (tkI (tkI (tkI (tkI (tkI (tkI (tkI (tkI (tkI tk0))))))))))))))))))<|q (oAsI j j)<|nl)<|us<|gs<|?_
 obtain ⟨x8,hx8,h⟩:=bs h
 refine g1 j j (mk [(1,iv left_1),(2,M 2)] [(2,Oa (G 2 (u_S_Job a_0)))]) (q (oFA (r':=.mp 2 0 0) j fF35_0 j j)<|q (oLd (cs:=[.im 0 _,.im 0 _,.im 2 _,.im 2 _,.im 2 _]) j tF28 j j)<|q (oMv j j)<|q (oCa (xs:=[.v true [.im 0 _,.im 0 _,.im 2 _,.im 2 _,.im 2 _],.v false [.im 0 _]]) (vs:=[(false,[.im 0 _])]) (v:=.v false [.im 0 _]) (L_laws_szPicture hx8) (.inl j) j kF35_28_3 j (ppC j (ppC j pp0)) j j pb0 j j j)<|q (oAsI j j)<|nl)<|us<|gs<|gs<|g0 j j (q (oMv j j)<|q (oBi j j j j)<|nl)<|us<|gc h j iDec (fun hc1 h=>?_) fun hc1 h=>?_
 ·refine gs<|g0 j j (q (oAsI j j)<|nl)<|us<|Go.ret (Unw.ret ?_)
  cases h
  exact fr rF8 j
 ·refine Go.skip<|us<|gs<|?_
  obtain ⟨x14,hx14,h⟩:=bs h
  refine g0 j j (q (oFA (r':=.mp 2 0 5) j fF35_1 j j)<|q (oLd (cs:=[.im 2 _]) j tF29 j j)<|q (oMv j j)<|q (oCa (xs:=[.v false [.im 2 _],.v false [.im 0 _]]) (vs:=[(false,[.im 0 _])]) (v:=.v false [.im 0 _]) (L_laws_szLeafS hx14) (.inl j) j kF36_29_3 j (ppC j (ppC j pp0)) j j pb0 j j j)<|q (oAsI j j)<|nl)<|us<|gs<|gs<|g0 j j (q (oMv j j)<|q (oBi j j j j)<|nl)<|us<|gc h j iDec (fun hc2 h=>?_) fun hc2 h=>?_
  ·refine gs<|g0 j j (q (oAsI j j)<|nl)<|us<|Go.ret (Unw.ret ?_)
   cases h
   exact fr rF8 j
  ·refine Go.skip<|us<|gs<|?_
   obtain ⟨x20,hx20,h⟩:=bs h
   refine g0 j j (q (oFA (r':=.mp 2 0 6) j fF35_2 j j)<|q (oLd (cs:=[.im 2 _]) j tF30 j j)<|q (oMv j j)<|q (oCa (xs:=[.v false [.im 2 _],.v false [.im 0 _]]) (vs:=[(false,[.im 0 _])]) (v:=.v false [.im 0 _]) (L_laws_szPlacementS hx20) (.inl j) j kF37_30_3 j (ppC j (ppC j pp0)) j j pb0 j j j)<|q (oAsI j j)<|nl)<|us<|gs<|gs<|g0 j j (q (oMv j j)<|q (oBi j j j j)<|nl)<|us<|gc h j iDec (fun hc3 h=>?_) fun hc3 h=>?_
   ·refine gs<|g0 j j (q (oAsI j j)<|nl)<|us<|Go.ret (Unw.ret ?_)
    cases h
    exact fr rF8 j
   ·refine Go.skip<|us<|gs<|?_
    obtain ⟨x26,hx26,h⟩:=bs h
    refine g0 j j (q (oFA (r':=.mp 2 0 15) j fF35_8 j j)<|q (oLd (cs:=[.im 2 _]) j tF33 j j)<|q (oMv j j)<|q (oCa (xs:=[.v false [.im 2 _],.v false [.im 0 _]]) (vs:=[(false,[.im 0 _])]) (v:=.v false [.im 0 _]) (L_laws_szInt64S hx26) (.inl j) j kF38_33_3 j (ppC j (ppC j pp0)) j j pb0 j j j)<|q (oAsI j j)<|nl)<|us<|gs<|gs<|g0 j j (q (oMv j j)<|q (oBi j j j j)<|nl)<|us<|gc h j iDec (fun hc4 h=>?_) fun hc4 h=>?_
    ·refine gs<|g0 j j (q (oAsI j j)<|nl)<|us<|Go.ret (Unw.ret ?_)
     cases h
     exact fr rF8 j
    ·refine Go.skip<|us<|gs<|?_
     obtain ⟨x32,hx32,h⟩:=bs h
     refine g0 j j (q (oFA (r':=.mp 2 0 16) j fF35_9 j j)<|q (oLd (cs:=[.im 2 _]) j tF33 j j)<|q (oMv j j)<|q (oCa (xs:=[.v false [.im 2 _],.v false [.im 0 _]]) (vs:=[(false,[.im 0 _])]) (v:=.v false [.im 0 _]) (L_laws_szInt64S hx32) (.inl j) j kF38_33_3 j (ppC j (ppC j pp0)) j j pb0 j j j)<|q (oAsI j j)<|nl)<|us<|gs<|gs<|g0 j j (q (oMv j j)<|q (oBi j j j j)<|nl)<|us<|gc h j iDec (fun hc5 h=>?_) fun hc5 h=>?_
     ·refine gs<|g0 j j (q (oAsI j j)<|nl)<|us<|Go.ret (Unw.ret ?_)
      cases h
      exact fr rF8 j
     ·refine Go.skip<|us<|gs<|g0 j j (q (oMv j j)<|q (oAsI j j)<|nl)<|us<|Go.ret (Unw.ret ?_)
      cases h
      exact fr rF8 j
theorem L_laws_szBond {a_0:S_Bond} {left_1:Int} {r:Int} (h:laws_szBond a_0 left_1=some r):FX 125 [.im 2 true (u_S_Bond a_0),.im 2 false [I left_1]] (B0 [(false,[.im 0 (I r)])]):=by
 unfold laws_szBond at h
 refine gn 13 Tryz.func125 rfl ?_
 refine gs<|g0 j j (q (oBx j tF203 j (tkI (tkI (tkI (tkI tk0)))))<|q (oAsI j j)<|nl)<|us<|gs<|g0 j j (q (oMv j j)<|q (oFA (r':=.mp 2 0 0) j fF203_0 j j)<|q (oLd (cs:=[.im 0 _]) j tF9 j j)<|q (oLnS j j uF9 j)<|q (oBi j j j j)<|q (oAsI j j)<|nl)<|us<|gs<|gs<|g0 j j (q (oMv j j)<|q (oBi j j j j)<|nl)<|us<|gc h j iDec (fun hc1 h=>?_) fun hc1 h=>?_
 ·refine gs<|g0 j j (q (oAsI j j)<|nl)<|us<|Go.ret (Unw.ret ?_)
  cases h
  exact fr rF125 j
 ·refine Go.skip<|us<|gs<|g0 j j (q (oMv j j)<|q (oAsI j j)<|nl)<|us<|Go.ret (Unw.ret ?_)
  cases h
  exact fr rF125 j
theorem L_laws_szBondS {a_0:(List S_Bond)} {left_1:Int} {r:Int} (h:laws_szBondS a_0 left_1=some r):FX 74 [.im 2 false [W 4 e_S_Bond a_0],.im 2 false [I left_1]] (B0 [(false,[.im 0 (I r)])]):=by
 unfold laws_szBondS at h
 refine gn 27 Tryz.func74 rfl ?_
 refine gs<|g0 j j (q (oAsI j j)<|nl)<|us<|gs<|g0 j j (q (oMv j j)<|q (oMv j j)<|q (oLnI j j uF70 j)<|q (oBi j j j j)<|q (oAsI j j)<|nl)<|us<|gs<|gs<|g0 j j (q (oMv j j)<|q (oBi j j j j)<|nl)<|us<|gc h j iDec (fun hc1 h=>?_) fun hc1 h=>?_
 ·refine gs<|g0 j j (q (oAsI j j)<|nl)<|us<|Go.ret (Unw.ret ?_)
  cases h
  exact fr rF74 j
 ·refine Go.skip<|us<|gs<|gs<|g0 j j (q (oAsI j j)<|nl)<|us<|Go.block<|?_
  obtain ⟨o,hl,h⟩:=bs h
  refine gl c74 j _ (fun (s:(Int×Int))=>match s with | (left_1_l5,i_5_l5)=>mk [(0,D 2 (W 4 e_S_Bond a_0)),(1,iv left_1_l5),(5,iv i_5_l5)] []) (fun (o:(Int ⊕ Int)) (p:Ex×St)=>match o with | (.inl left_1_e0_5)=>p.1= .exit 0∧p.2.norm ([1],[])=mk [(1,iv left_1_e0_5)] [] | (.inr r2)=>p.1= .ret∧fin Tryz.prog cfg 74 Tryz.f74 [.im 2 false [W 4 e_S_Bond a_0],.im 2 false [I left_1]] p.2=some (B0 [(false,[.im 0 (I r2)])])) hl (by kernel_rfl) ?_ ?_ ?_
  ·intro o p hp e
   rcases o with left_1_e0_5 | r2<;>exact nomatch (hp.1.symm.trans e)
  ·rintro ⟨left_1_l5,i_5_l5⟩ o h
   unfold laws_szBondS_l5 at h
   dsimp only at h
   refine gs<|gs<|g0 j j (q (oMv j j)<|q (oMv j j)<|q (oLnI j j uF70 j)<|q (oBi j j j j)<|nl)<|us<|gc h j iDec (fun hc6 h=>?_) fun hc6 h=>?_
   ·refine Go.skip<|us<|gs<|Go.block<|gs<|?_
    obtain ⟨x20,hx20,h⟩:=bs h
    obtain ⟨x23,hx23,h⟩:=bs h
    refine g0 j j (q (oMv j j)<|q (oMv j j)<|q (oIAI j hx20 sF70 j j)<|q (oLd (cs:=[.im 2 _,.im 2 _,.im 2 _,.im 2 _]) j tF203 j j)<|q (oMv j j)<|q (oCa (xs:=[.v true [.im 2 _,.im 2 _,.im 2 _,.im 2 _],.v false [.im 0 _]]) (vs:=[(false,[.im 0 _])]) (v:=.v false [.im 0 _]) (L_laws_szBond hx23) (.inl j) j kF125_203_3 j (ppC j (ppC j pp0)) j j pb0 j j j)<|q (oAsI j j)<|nl)<|us<|gs<|g0 j j (q (oMv j j)<|q (oBi j j j j)<|nl)<|us<|gc h j iDec (fun hc7 h=>?_) fun hc7 h=>?_
    ·refine gs<|g0 j j (q (oAsI j j)<|nl)<|us<|Go.ret (Unw.ret ?_)
     cases h
     exact ⟨j,(fo rF74 j)⟩
    ·refine Go.skip<|Unw.blk<|us<|g0 j j (q (oMv j j)<|q (oBi j j j j)<|q (oAsI j j)<|nl)<|Unw.nil<|?_
     cases h
     exact ⟨j,(by kernel_rfl)⟩
   ·refine Go.exit<|ux<|Unw.nil<|?_
    cases h
    exact ⟨j,(by kernel_rfl)⟩
  ·rintro ⟨e,st⟩ hp
   rcases o with left_1_e0_5 | r2
   ·dsimp only at h
    obtain ⟨he,hst⟩:=hp
    obtain rfl:e= .exit 0:=he
    refine Unw.blkx<|us<|gs<|g2 c74 j j hst (q (oMv j j)<|q (oAsI j j)<|nl)<|us<|Go.ret (Unw.ret ?_)
    cases h
    exact fr rF74 j
   ·dsimp only at h
    obtain ⟨he,hfin⟩:=hp
    obtain rfl:e= .ret:=he
    cases h
    exact Unw.ret (Fin_ret hfin)
theorem L_laws_szCoat {a_0:S_Coat} {left_1:Int} {r:Int} (h:laws_szCoat a_0 left_1=some r):FX 126 [.im 2 true (u_S_Coat a_0),.im 2 false [I left_1]] (B0 [(false,[.im 0 (I r)])]):=by
 unfold laws_szCoat at h
 refine gn 13 Tryz.func126 rfl ?_
 refine gs<|g0 j j (q (oBx j tF206 j (tkI (tkI (tkI (tkI tk0)))))<|q (oAsI j j)<|nl)<|us<|gs<|g0 j j (q (oMv j j)<|q (oFA (r':=.mp 2 0 0) j fF206_0 j j)<|q (oLd (cs:=[.im 0 _]) j tF9 j j)<|q (oLnS j j uF9 j)<|q (oBi j j j j)<|q (oAsI j j)<|nl)<|us<|gs<|gs<|g0 j j (q (oMv j j)<|q (oBi j j j j)<|nl)<|us<|gc h j iDec (fun hc1 h=>?_) fun hc1 h=>?_
 ·refine gs<|g0 j j (q (oAsI j j)<|nl)<|us<|Go.ret (Unw.ret ?_)
  cases h
  exact fr rF126 j
 ·refine Go.skip<|us<|gs<|g0 j j (q (oMv j j)<|q (oAsI j j)<|nl)<|us<|Go.ret (Unw.ret ?_)
  cases h
  exact fr rF126 j
theorem L_laws_szCoatS {a_0:(List S_Coat)} {left_1:Int} {r:Int} (h:laws_szCoatS a_0 left_1=some r):FX 75 [.im 2 false [W 4 e_S_Coat a_0],.im 2 false [I left_1]] (B0 [(false,[.im 0 (I r)])]):=by
 unfold laws_szCoatS at h
 refine gn 27 Tryz.func75 rfl ?_
 refine gs<|g0 j j (q (oAsI j j)<|nl)<|us<|gs<|g0 j j (q (oMv j j)<|q (oMv j j)<|q (oLnI j j uF71 j)<|q (oBi j j j j)<|q (oAsI j j)<|nl)<|us<|gs<|gs<|g0 j j (q (oMv j j)<|q (oBi j j j j)<|nl)<|us<|gc h j iDec (fun hc1 h=>?_) fun hc1 h=>?_
 ·refine gs<|g0 j j (q (oAsI j j)<|nl)<|us<|Go.ret (Unw.ret ?_)
  cases h
  exact fr rF75 j
 ·refine Go.skip<|us<|gs<|gs<|g0 j j (q (oAsI j j)<|nl)<|us<|Go.block<|?_
  obtain ⟨o,hl,h⟩:=bs h
  refine gl c75 j _ (fun (s:(Int×Int))=>match s with | (left_1_l5,i_5_l5)=>mk [(0,D 2 (W 4 e_S_Coat a_0)),(1,iv left_1_l5),(5,iv i_5_l5)] []) (fun (o:(Int ⊕ Int)) (p:Ex×St)=>match o with | (.inl left_1_e0_5)=>p.1= .exit 0∧p.2.norm ([1],[])=mk [(1,iv left_1_e0_5)] [] | (.inr r2)=>p.1= .ret∧fin Tryz.prog cfg 75 Tryz.f75 [.im 2 false [W 4 e_S_Coat a_0],.im 2 false [I left_1]] p.2=some (B0 [(false,[.im 0 (I r2)])])) hl (by kernel_rfl) ?_ ?_ ?_
  ·intro o p hp e
   rcases o with left_1_e0_5 | r2<;>exact nomatch (hp.1.symm.trans e)
  ·rintro ⟨left_1_l5,i_5_l5⟩ o h
   unfold laws_szCoatS_l5 at h
   dsimp only at h
   refine gs<|gs<|g0 j j (q (oMv j j)<|q (oMv j j)<|q (oLnI j j uF71 j)<|q (oBi j j j j)<|nl)<|us<|gc h j iDec (fun hc6 h=>?_) fun hc6 h=>?_
   ·refine Go.skip<|us<|gs<|Go.block<|gs<|?_
    obtain ⟨x20,hx20,h⟩:=bs h
    obtain ⟨x23,hx23,h⟩:=bs h
    refine g0 j j (q (oMv j j)<|q (oMv j j)<|q (oIAI j hx20 sF71 j j)<|q (oLd (cs:=[.im 2 _,.im 2 _,.im 2 _,.im 2 _]) j tF206 j j)<|q (oMv j j)<|q (oCa (xs:=[.v true [.im 2 _,.im 2 _,.im 2 _,.im 2 _],.v false [.im 0 _]]) (vs:=[(false,[.im 0 _])]) (v:=.v false [.im 0 _]) (L_laws_szCoat hx23) (.inl j) j kF126_206_3 j (ppC j (ppC j pp0)) j j pb0 j j j)<|q (oAsI j j)<|nl)<|us<|gs<|g0 j j (q (oMv j j)<|q (oBi j j j j)<|nl)<|us<|gc h j iDec (fun hc7 h=>?_) fun hc7 h=>?_
    ·refine gs<|g0 j j (q (oAsI j j)<|nl)<|us<|Go.ret (Unw.ret ?_)
     cases h
     exact ⟨j,(fo rF75 j)⟩
    ·refine Go.skip<|Unw.blk<|us<|g0 j j (q (oMv j j)<|q (oBi j j j j)<|q (oAsI j j)<|nl)<|Unw.nil<|?_
     cases h
     exact ⟨j,(by kernel_rfl)⟩
   ·refine Go.exit<|ux<|Unw.nil<|?_
    cases h
    exact ⟨j,(by kernel_rfl)⟩
  ·rintro ⟨e,st⟩ hp
   rcases o with left_1_e0_5 | r2
   ·dsimp only at h
    obtain ⟨he,hst⟩:=hp
    obtain rfl:e= .exit 0:=he
    refine Unw.blkx<|us<|gs<|g2 c75 j j hst (q (oMv j j)<|q (oAsI j j)<|nl)<|us<|Go.ret (Unw.ret ?_)
    cases h
    exact fr rF75 j
   ·dsimp only at h
    obtain ⟨he,hfin⟩:=hp
    obtain rfl:e= .ret:=he
    cases h
    exact Unw.ret (Fin_ret hfin)
theorem L_laws_szDesk {a_0:S_Desk} {left_1:Int} {r:Int} (h:laws_szDesk a_0 left_1=some r):FX 30 [.im 2 true (u_S_Desk a_0),.im 2 false [I left_1]] (B0 [(false,[.im 0 (I r)])]):=by
 unfold laws_szDesk at h
 refine gn 24 Tryz.func30 rfl ?_
 refine gs<|g0 j j (q (oBx j tF75 j (tkI (tkI (tkI (tkI (tkI (tkI (tkI (tkI (tkI (tkI (tkI (tkI (tkI (tkI (tkI (tkI (tkI (tkI (tkI (tkI (tkI (tkI (tkI (tkI tk0)))))))))))))))))))))))))<|q (oAsI j j)<|nl)<|us<|gs<|?_
 obtain ⟨x8,hx8,h⟩:=bs h
 refine g1 j j (mk [(1,iv left_1),(2,M 2)] [(2,Oa (G 2 (u_S_Desk a_0)))]) (q (oFA (r':=.mp 2 0 0) j fF75_0 j j)<|q (oLd (cs:=[.im 0 _,.im 0 _,.im 2 _,.im 2 _,.im 2 _,.im 2 _,.im 2 _,.im 0 _,.im 0 _,.im 0 _,.im 0 _,.im 0 _,.im 0 _,.im 0 _,.im 0 _,.im 2 _,.im 2 _]) j tF35 j j)<|q (oMv j j)<|q (oCa (xs:=[.v true [.im 0 _,.im 0 _,.im 2 _,.im 2 _,.im 2 _,.im 2 _,.im 2 _,.im 0 _,.im 0 _,.im 0 _,.im 0 _,.im 0 _,.im 0 _,.im 0 _,.im 0 _,.im 2 _,.im 2 _],.v false [.im 0 _]]) (vs:=[(false,[.im 0 _])]) (v:=.v false [.im 0 _]) (L_laws_szJob hx8) (.inl j) j kF8_35_3 j (ppC j (ppC j pp0)) j j pb0 j j j)<|q (oAsI j j)<|nl)<|us<|gs<|gs<|g0 j j (q (oMv j j)<|q (oBi j j j j)<|nl)<|us<|gc h j iDec (fun hc1 h=>?_) fun hc1 h=>?_
 ·refine gs<|g0 j j (q (oAsI j j)<|nl)<|us<|Go.ret (Unw.ret ?_)
  cases h
  exact fr rF30 j
 ·refine Go.skip<|us<|gs<|?_
  obtain ⟨x14,hx14,h⟩:=bs h
  refine g0 j j (q (oFA (r':=.mp 2 0 17) j fF75_1 j j)<|q (oLd (cs:=[.im 2 _]) j tF70 j j)<|q (oMv j j)<|q (oCa (xs:=[.v false [.im 2 _],.v false [.im 0 _]]) (vs:=[(false,[.im 0 _])]) (v:=.v false [.im 0 _]) (L_laws_szBondS hx14) (.inl j) j kF74_70_3 j (ppC j (ppC j pp0)) j j pb0 j j j)<|q (oAsI j j)<|nl)<|us<|gs<|gs<|g0 j j (q (oMv j j)<|q (oBi j j j j)<|nl)<|us<|gc h j iDec (fun hc2 h=>?_) fun hc2 h=>?_
  ·refine gs<|g0 j j (q (oAsI j j)<|nl)<|us<|Go.ret (Unw.ret ?_)
   cases h
   exact fr rF30 j
  ·refine Go.skip<|us<|gs<|?_
   obtain ⟨x20,hx20,h⟩:=bs h
   refine g0 j j (q (oFA (r':=.mp 2 0 18) j fF75_2 j j)<|q (oLd (cs:=[.im 2 _]) j tF71 j j)<|q (oMv j j)<|q (oCa (xs:=[.v false [.im 2 _],.v false [.im 0 _]]) (vs:=[(false,[.im 0 _])]) (v:=.v false [.im 0 _]) (L_laws_szCoatS hx20) (.inl j) j kF75_71_3 j (ppC j (ppC j pp0)) j j pb0 j j j)<|q (oAsI j j)<|nl)<|us<|gs<|gs<|g0 j j (q (oMv j j)<|q (oBi j j j j)<|nl)<|us<|gc h j iDec (fun hc3 h=>?_) fun hc3 h=>?_
   ·refine gs<|g0 j j (q (oAsI j j)<|nl)<|us<|Go.ret (Unw.ret ?_)
    cases h
    exact fr rF30 j
   ·refine Go.skip<|us<|gs<|g0 j j (q (oMv j j)<|q (oAsI j j)<|nl)<|us<|Go.ret (Unw.ret ?_)
    cases h
    exact fr rF30 j
theorem L_laws_toPoint {a_0:S_Point} {r:S_Point} (h:laws_toPoint a_0=some r):FX 113 [.im 2 true (u_S_Point a_0)] (B0 [(true,J 0 (u_S_Point r))]):=by
 unfold laws_toPoint at h
 refine gn 11 Tryz.func113 rfl ?_
 refine gs<|g0 j j (q (oBx j tF186 j (tkI (tkI tk0)))<|q (oAl j tF184 (tkI (tkI tk0)))<|nl)<|us<|gs<|g0 j j (q (oAl j tF184 (tkI (tkI tk0)))<|nl)<|us<|gs<|g0 j j (q (oFA (r':=.mp 1 0 0) j fF186_0 j j)<|q (oLd (cs:=[.im 0 _]) j tF2 j j)<|q (oFA (r':=.mp 3 0 0) j fF184_0 j j)<|q (oSt tF2 j j j (tkI tk0) j j j)<|nl)<|us<|gs<|g1 j j (mk [(1,M 1),(2,M 2),(3,M 3)] [(1,Oa (G 0 (u_S_Point a_0))),(2,Oa [C (I 0),C (I 0)]),(3,Oa [C (I a_0.X),C (I 0)])]) (q (oFA (r':=.mp 1 0 1) j fF186_1 j j)<|q (oLd (cs:=[.im 0 _]) j tF2 j j)<|q (oFA (r':=.mp 3 0 1) j fF184_1 j j)<|q (oSt tF2 j j j (tkI tk0) j j j)<|nl)<|us<|gs<|g1 j j (mk [(2,M 2),(3,M 3)] [(2,Oa [C (I 0),C (I 0)]),(3,Oa (G 0 (u_S_Point a_0)))]) (q (oLd (cs:=[.im 0 _,.im 0 _]) j tF184 j j)<|q (oSt tF184 j j j (tkI (tkI tk0)) j j j)<|nl)<|us<|Go.ret (Unw.ret ?_)
 cases h
 exact fr rF113 j
theorem L_laws_toPointS {a_0:(List S_Point)} {r:(List S_Point)} (h:laws_toPointS a_0=some r):FX 62 [.im 2 false [W 2 e_S_Point a_0]] (B0 [(false,[.ow 0 2 (List.map e_S_Point r)])]):=by
 unfold laws_toPointS at h
 refine gn 23 Tryz.func62 rfl ?_
 refine gs<|g0 j j (q (oAsN j j eF38)<|nl)<|us<|gs<|?_
 obtain ⟨x7,hx7,h⟩:=bs h
 refine g0 j j (q (oMv j j)<|q (oLnI j j uF22 j)<|q (oMk (en:=e_S_Point) j hx7 j sF38 j j (fxI (fxI fx0)) j (flat0 (L:=[_]) j fun _=>j))<|q (oAsO j j j j j)<|nl)<|us<|gs<|gs<|g0 j j (q (oAsI j j)<|nl)<|us<|Go.block<|?_
 obtain ⟨o,hl,h⟩:=bs h
 refine gl c62 j _ (fun (s:(Int×(List S_Point)))=>match s with | (i_4_l3,out_o3_l3)=>mk [(0,D 2 (W 2 e_S_Point a_0)),(3,H 3 0),(4,iv i_4_l3)] [(3,Oc [Z (W 2 e_S_Point out_o3_l3)])]) (fun (out_o3_e0_3:(List S_Point)) (p:Ex×St)=>p.1= .exit 0∧p.2.norm ([3],[3])=mk [(3,H 3 0)] [(3,Oc [Z (W 2 e_S_Point out_o3_e0_3)])]) hl (by kernel_rfl) ?_ ?_ ?_
 ·intro o p hp e
  exact nomatch (hp.1.symm.trans e)
 ·rintro ⟨i_4_l3,out_o3_l3⟩ o h
  unfold laws_toPointS_l3 at h
  dsimp only at h
  refine gs<|gs<|g0 j j (q (oMv j j)<|q (oMv j j)<|q (oLnI j j uF22 j)<|q (oBi j j j j)<|nl)<|us<|gc h j iDec (fun hc3 h=>?_) fun hc3 h=>?_
  ·refine Go.skip<|us<|gs<|Go.block<|?_
   obtain ⟨x18,hx18,h⟩:=bs h
   obtain ⟨x20,hx20,h⟩:=bs h
   obtain ⟨x21,hx21,h⟩:=bs h
   refine g0 j j (q (oMv j j)<|q (oMv j j)<|q (oMv j j)<|q (oMv j j)<|q (oIAI j hx18 sF22 j j)<|q (oLd (cs:=[.im 2 _,.im 2 _]) j tF186 j j)<|q (oCa (xs:=[.v true [.im 2 _,.im 2 _]]) (vs:=[(true,[.im 0 _,.im 0 _])]) (v:=.v true [.im 0 _,.im 0 _]) (L_laws_toPoint hx20) (.inl j) j kF113_186 j (ppC j pp0) j j pb0 j j j)<|q (oIAO j hx21 sF38 j j j j)<|q (oStE (v':=x20) tF184 j j j (fxI (fxI fx0)) j j (rd_get hx21) j)<|nl)<|Unw.blk<|us<|g1 j j (mk [(0,D 2 (W 2 e_S_Point a_0)),(3,H 3 0),(4,iv i_4_l3)] [(3,Oc [Z (W 2 e_S_Point (out_o3_l3.set i_4_l3.toNat x20))])]) (q (oMv j j)<|q (oBi j j j j)<|q (oAsI j j)<|nl)<|Unw.nil<|?_
   cases h
   exact ⟨j,(by kernel_rfl)⟩
  ·refine Go.exit<|ux<|Unw.nil<|?_
   cases h
   exact ⟨j,(by kernel_rfl)⟩
 ·rintro ⟨e,st⟩ hp
  obtain ⟨out_o3_e0_3,rfl⟩:∃y,y=o:=⟨o,rfl⟩
  obtain ⟨he,hst⟩:=hp
  obtain rfl:e= .exit 0:=he
  refine Unw.blkx<|us<|gs<|g2 c62 j j hst (q (oMv j j)<|q (oAsO j j j j j)<|nl)<|us<|Go.ret (Unw.ret ?_)
  cases h
  exact fr rF62 j
theorem L_laws_toInt64S {a_0:(List Int)} {r:(List Int)} (h:laws_toInt64S a_0=some r):FX 44 [.im 2 false [W 1 eI a_0]] (B0 [(false,[.ow 0 1 (List.map eI r)])]):=by
 unfold laws_toInt64S at h
 refine gn 22 Tryz.func44 rfl ?_
 refine gs<|g0 j j (q (oAsN j j eF33)<|nl)<|us<|gs<|?_
 obtain ⟨x7,hx7,h⟩:=bs h
 refine g0 j j (q (oMv j j)<|q (oLnI j j uF33 j)<|q (oMk (en:=eI) j hx7 j sF33 j j (fxI fx0) j (flat0 (L:=[_]) j fun _=>j))<|q (oAsO j j j j j)<|nl)<|us<|gs<|gs<|g0 j j (q (oAsI j j)<|nl)<|us<|Go.block<|?_
 obtain ⟨o,hl,h⟩:=bs h
 refine gl c44 j _ (fun (s:(Int×(List Int)))=>match s with | (i_4_l3,out_o3_l3)=>mk [(0,D 2 (W 1 eI a_0)),(3,H 3 0),(4,iv i_4_l3)] [(3,Oc [Z (W 1 eI out_o3_l3)])]) (fun (out_o3_e0_3:(List Int)) (p:Ex×St)=>p.1= .exit 0∧p.2.norm ([3],[3])=mk [(3,H 3 0)] [(3,Oc [Z (W 1 eI out_o3_e0_3)])]) hl (by kernel_rfl) ?_ ?_ ?_
 ·intro o p hp e
  exact nomatch (hp.1.symm.trans e)
 ·rintro ⟨i_4_l3,out_o3_l3⟩ o h
  unfold laws_toInt64S_l3 at h
  dsimp only at h
  refine gs<|gs<|g0 j j (q (oMv j j)<|q (oMv j j)<|q (oLnI j j uF33 j)<|q (oBi j j j j)<|nl)<|us<|gc h j iDec (fun hc3 h=>?_) fun hc3 h=>?_
  ·refine Go.skip<|us<|gs<|Go.block<|?_
   obtain ⟨x18,hx18,h⟩:=bs h
   obtain ⟨x20,hx20,h⟩:=bs h
   refine g0 j j (q (oMv j j)<|q (oMv j j)<|q (oMv j j)<|q (oMv j j)<|q (oIAI j hx18 sF33 j j)<|q (oLd (cs:=[.im 2 _]) j tF2 j j)<|q (oIAO j hx20 sF33 j j j j)<|q (oStE (v':=x18) tF2 j j j (fxI fx0) j j (rd_get hx20) j)<|nl)<|Unw.blk<|us<|g1 j j (mk [(0,D 2 (W 1 eI a_0)),(3,H 3 0),(4,iv i_4_l3)] [(3,Oc [Z (W 1 eI (out_o3_l3.set i_4_l3.toNat x18))])]) (q (oMv j j)<|q (oBi j j j j)<|q (oAsI j j)<|nl)<|Unw.nil<|?_
   cases h
   exact ⟨j,(by kernel_rfl)⟩
  ·refine Go.exit<|ux<|Unw.nil<|?_
   cases h
   exact ⟨j,(by kernel_rfl)⟩
 ·rintro ⟨e,st⟩ hp
  obtain ⟨out_o3_e0_3,rfl⟩:∃y,y=o:=⟨o,rfl⟩
  obtain ⟨he,hst⟩:=hp
  obtain rfl:e= .exit 0:=he
  refine Unw.blkx<|us<|gs<|g2 c44 j j hst (q (oMv j j)<|q (oAsO j j j j j)<|nl)<|us<|Go.ret (Unw.ret ?_)
  cases h
  exact fr rF44 j
theorem L_laws_toFace {a_0:S_Face} {r:S_Face} (h:laws_toFace a_0=some r):FX 114 [.im 2 true (u_S_Face a_0)] (B0 [(true,[.im 0 (Y r.Name),.ow 0 1 (List.map eI r.Ring)])]):=by
 unfold laws_toFace at h
 refine gn 12 Tryz.func114 rfl ?_
 refine gs<|g0 j j (q (oBx j tF177 j (tkI (tkI tk0)))<|q (oAl j tF187 (tkI (tkN tk0)))<|nl)<|us<|gs<|g0 j j (q (oAl j tF187 (tkI (tkN tk0)))<|nl)<|us<|gs<|g0 j j (q (oFA (r':=.mp 1 0 0) j fF177_0 j j)<|q (oLd (cs:=[.im 0 _]) j tF9 j j)<|q (oFA (r':=.mp 3 0 0) j fF187_0 j j)<|q (oSt tF9 j j j (tkI tk0) j j j)<|nl)<|us<|gs<|?_
 obtain ⟨x9,hx9,h⟩:=bs h
 refine g1 j j (mk [(1,M 1),(2,M 2),(3,M 3)] [(1,Oa (G 2 (u_S_Face a_0))),(2,Oa [C (Y (⟨#[]⟩:ByteArray)),Z (W 1 eI ([]:List Int))]),(3,Oa [C (Y a_0.Name),Z (W 1 eI ([]:List Int))])]) (q (oFA (r':=.mp 1 0 1) j fF177_1 j j)<|q (oLd (cs:=[.im 2 _]) j tF33 j j)<|q (oCr (xs:=[.v false [.im 2 _]]) (vs:=[(false,[.own 9 0 0])]) (v:=.v false [.own 9 0 0]) (c:=⟨.sh,0,_⟩) (cs:=[]) (L_laws_toInt64S hx9) (.inl j) j kF44_33 j (ppC j pp0) j j pb0 j j j)<|q (oFA (r':=.mp 3 0 1) j fF187_1 j j)<|q (oSt tF33 j j j (tkO j j tk0) j j j)<|nl)<|us<|gs<|g1 j j (mk [(2,M 2),(3,M 3)] [(2,Oa [C (Y (⟨#[]⟩:ByteArray)),Z (W 1 eI ([]:List Int))]),(3,Oa [C (Y a_0.Name),Z (W 1 eI x9)])]) (q (oLd (cs:=[.im 0 _,.own 3 0 1]) j tF187 j j)<|q (oSt tF187 j j j (tkI (tkO j j tk0)) j j j)<|nl)<|us<|Go.ret (Unw.ret ?_)
 cases h
 exact fr rF114 j
theorem L_laws_toFaceS {a_0:(List S_Face)} {r:(List S_Face)} (h:laws_toFaceS a_0=some r):FX 63 [.im 2 false [W 2 e_S_Face a_0]] (B0 [(false,[.ow 0 2 (List.map e_S_Face r)])]):=by
 unfold laws_toFaceS at h
 refine gn 23 Tryz.func63 rfl ?_
 refine gs<|g0 j j (q (oAsN j j eF39)<|nl)<|us<|gs<|?_
 obtain ⟨x7,hx7,h⟩:=bs h
 refine g0 j j (q (oMv j j)<|q (oLnI j j uF23 j)<|q (oMk (en:=e_S_Face) j hx7 j sF39 j j (fxI (fxN fx0)) j (flat1 j))<|q (oAsO j j j j j)<|nl)<|us<|gs<|gs<|g0 j j (q (oAsI j j)<|nl)<|us<|Go.block<|?_
 obtain ⟨o,hl,h⟩:=bs h
 refine gl c63 j _ (fun (s:(Int×(List S_Face)))=>match s with | (i_4_l3,out_o3_l3)=>mk [(0,D 2 (W 2 e_S_Face a_0)),(3,H 3 0),(4,iv i_4_l3)] [(3,Oc [Z (W 2 e_S_Face out_o3_l3)])]) (fun (out_o3_e0_3:(List S_Face)) (p:Ex×St)=>p.1= .exit 0∧p.2.norm ([3],[3])=mk [(3,H 3 0)] [(3,Oc [Z (W 2 e_S_Face out_o3_e0_3)])]) hl (by kernel_rfl) ?_ ?_ ?_
 ·intro o p hp e
  exact nomatch (hp.1.symm.trans e)
 ·rintro ⟨i_4_l3,out_o3_l3⟩ o h
  unfold laws_toFaceS_l3 at h
  dsimp only at h
  refine gs<|gs<|g0 j j (q (oMv j j)<|q (oMv j j)<|q (oLnI j j uF23 j)<|q (oBi j j j j)<|nl)<|us<|gc h j iDec (fun hc3 h=>?_) fun hc3 h=>?_
  ·refine Go.skip<|us<|gs<|Go.block<|?_
   obtain ⟨x18,hx18,h⟩:=bs h
   obtain ⟨x20,hx20,h⟩:=bs h
   obtain ⟨x21,hx21,h⟩:=bs h
   refine g0 j j (q (oMv j j)<|q (oMv j j)<|q (oMv j j)<|q (oMv j j)<|q (oIAI j hx18 sF23 j j)<|q (oLd (cs:=[.im 2 _,.im 2 _]) j tF177 j j)<|q (oCr (xs:=[.v true [.im 2 _,.im 2 _]]) (vs:=[(true,[.im 0 _,.own 20 0 0])]) (v:=.v true [.im 0 _,.own 20 0 0]) (c:=⟨.sh,0,_⟩) (cs:=[]) (L_laws_toFace hx20) (.inl j) j kF114_177 j (ppC j pp0) j j pb0 j j j)<|q (oIAO j hx21 sF39 j j j j)<|q (oStE (v':=x20) tF187 j j j (fxI (fxO j j fx0)) j j (rd_get hx21) j)<|nl)<|Unw.blk<|us<|g1 j j (mk [(0,D 2 (W 2 e_S_Face a_0)),(3,H 3 0),(4,iv i_4_l3)] [(3,Oc [Z (W 2 e_S_Face (out_o3_l3.set i_4_l3.toNat x20))])]) (q (oMv j j)<|q (oBi j j j j)<|q (oAsI j j)<|nl)<|Unw.nil<|?_
   cases h
   exact ⟨j,(by kernel_rfl)⟩
  ·refine Go.exit<|ux<|Unw.nil<|?_
   cases h
   exact ⟨j,(by kernel_rfl)⟩
 ·rintro ⟨e,st⟩ hp
  obtain ⟨out_o3_e0_3,rfl⟩:∃y,y=o:=⟨o,rfl⟩
  obtain ⟨he,hst⟩:=hp
  obtain rfl:e= .exit 0:=he
  refine Unw.blkx<|us<|gs<|g2 c63 j j hst (q (oMv j j)<|q (oAsO j j j j j)<|nl)<|us<|Go.ret (Unw.ret ?_)
  cases h
  exact fr rF63 j
theorem L_laws_toDrawing {a_0:S_Drawing} {r:S_Drawing} (h:laws_toDrawing a_0=some r):FX 16 [.im 2 true (u_S_Drawing a_0)] (B0 [(true,[.im 0 (I r.Width),.im 0 (I r.Height),.ow 0 2 (List.map e_S_Point r.Points),.ow 0 2 (List.map e_S_Face r.Faces)])]):=by
 unfold laws_toDrawing at h
 refine gn 19 Tryz.func16 rfl ?_
 refine gs<|g0 j j (q (oBx j tF25 j (tkI (tkI (tkI (tkI tk0)))))<|q (oAl j tF41 (tkI (tkI (tkN (tkN tk0)))))<|nl)<|us<|gs<|g0 j j (q (oAl j tF41 (tkI (tkI (tkN (tkN tk0)))))<|nl)<|us<|gs<|g0 j j (q (oFA (r':=.mp 1 0 0) j fF25_0 j j)<|q (oLd (cs:=[.im 0 _]) j tF2 j j)<|q (oFA (r':=.mp 3 0 0) j fF41_0 j j)<|q (oSt tF2 j j j (tkI tk0) j j j)<|nl)<|us<|gs<|g1 j j (mk [(1,M 1),(2,M 2),(3,M 3)] [(1,Oa (G 2 (u_S_Drawing a_0))),(2,Oa [C (I 0),C (I 0),Z (W 2 e_S_Point ([]:List S_Point)),Z (W 2 e_S_Face ([]:List S_Face))]),(3,Oa [C (I a_0.Width),C (I 0),Z (W 2 e_S_Point ([]:List S_Point)),Z (W 2 e_S_Face ([]:List S_Face))])]) (q (oFA (r':=.mp 1 0 1) j fF25_1 j j)<|q (oLd (cs:=[.im 0 _]) j tF2 j j)<|q (oFA (r':=.mp 3 0 1) j fF41_1 j j)<|q (oSt tF2 j j j (tkI tk0) j j j)<|nl)<|us<|gs<|?_
 obtain ⟨x12,hx12,h⟩:=bs h
 refine g1 j j (mk [(1,M 1),(2,M 2),(3,M 3)] [(1,Oa (G 2 (u_S_Drawing a_0))),(2,Oa [C (I 0),C (I 0),Z (W 2 e_S_Point ([]:List S_Point)),Z (W 2 e_S_Face ([]:List S_Face))]),(3,Oa [C (I a_0.Width),C (I a_0.Height),Z (W 2 e_S_Point ([]:List S_Point)),Z (W 2 e_S_Face ([]:List S_Face))])]) (q (oFA (r':=.mp 1 0 2) j fF25_2 j j)<|q (oLd (cs:=[.im 2 _]) j tF22 j j)<|q (oCr (xs:=[.v false [.im 2 _]]) (vs:=[(false,[.own 12 0 0])]) (v:=.v false [.own 12 0 0]) (c:=⟨.sh,0,_⟩) (cs:=[]) (L_laws_toPointS hx12) (.inl j) j kF62_22 j (ppC j pp0) j j pb0 j j j)<|q (oFA (r':=.mp 3 0 2) j fF41_2 j j)<|q (oSt tF38 j j j (tkO j j tk0) j j j)<|nl)<|us<|gs<|?_
 obtain ⟨x16,hx16,h⟩:=bs h
 refine g1 j j (mk [(1,M 1),(2,M 2),(3,M 3)] [(1,Oa (G 2 (u_S_Drawing a_0))),(2,Oa [C (I 0),C (I 0),Z (W 2 e_S_Point ([]:List S_Point)),Z (W 2 e_S_Face ([]:List S_Face))]),(3,Oa [C (I a_0.Width),C (I a_0.Height),Z (W 2 e_S_Point x12),Z (W 2 e_S_Face ([]:List S_Face))])]) (q (oFA (r':=.mp 1 0 3) j fF25_3 j j)<|q (oLd (cs:=[.im 2 _]) j tF23 j j)<|q (oCr (xs:=[.v false [.im 2 _]]) (vs:=[(false,[.own 16 0 0])]) (v:=.v false [.own 16 0 0]) (c:=⟨.sh,0,_⟩) (cs:=[]) (L_laws_toFaceS hx16) (.inl j) j kF63_23 j (ppC j pp0) j j pb0 j j j)<|q (oFA (r':=.mp 3 0 3) j fF41_3 j j)<|q (oSt tF39 j j j (tkO j j tk0) j j j)<|nl)<|us<|gs<|g1 j j (mk [(2,M 2),(3,M 3)] [(2,Oa [C (I 0),C (I 0),Z (W 2 e_S_Point ([]:List S_Point)),Z (W 2 e_S_Face ([]:List S_Face))]),(3,Oa [C (I a_0.Width),C (I a_0.Height),Z (W 2 e_S_Point x12),Z (W 2 e_S_Face x16)])]) (q (oLd (cs:=[.im 0 _,.im 0 _,.own 3 0 2,.own 3 0 3]) j tF41 j j)<|q (oSt tF41 j j j (tkI (tkI (tkO j j (tkO j j tk0)))) j j j)<|nl)<|us<|Go.ret (Unw.ret ?_)
 cases h
 exact fr rF16 j
theorem L_laws_toVeneer {a_0:S_Veneer} {r:S_Veneer} (h:laws_toVeneer a_0=some r):FX 64 [.im 2 true (u_S_Veneer a_0)] (B0 [(true,J 0 (u_S_Veneer r))]):=by
 unfold laws_toVeneer at h
 refine gn 14 Tryz.func64 rfl ?_
 refine gs<|g0 j j (q (oBx j tF112 j (tkI (tkI (tkI tk0))))<|q (oAl j tF123 (tkI (tkI (tkI tk0))))<|nl)<|us<|gs<|g0 j j (q (oAl j tF123 (tkI (tkI (tkI tk0))))<|nl)<|us<|gs<|g0 j j (q (oFA (r':=.mp 1 0 0) j fF112_0 j j)<|q (oLd (cs:=[.im 0 _]) j tF9 j j)<|q (oFA (r':=.mp 3 0 0) j fF123_0 j j)<|q (oSt tF9 j j j (tkI tk0) j j j)<|nl)<|us<|gs<|g1 j j (mk [(1,M 1),(2,M 2),(3,M 3)] [(1,Oa (G 0 (u_S_Veneer a_0))),(2,Oa [C (Y (⟨#[]⟩:ByteArray)),C (I 0),C (I 0)]),(3,Oa [C (Y a_0.Species),C (I 0),C (I 0)])]) (q (oFA (r':=.mp 1 0 1) j fF112_1 j j)<|q (oLd (cs:=[.im 0 _]) j tF2 j j)<|q (oFA (r':=.mp 3 0 1) j fF123_1 j j)<|q (oSt tF2 j j j (tkI tk0) j j j)<|nl)<|us<|gs<|g1 j j (mk [(1,M 1),(2,M 2),(3,M 3)] [(1,Oa (G 0 (u_S_Veneer a_0))),(2,Oa [C (Y (⟨#[]⟩:ByteArray)),C (I 0),C (I 0)]),(3,Oa [C (Y a_0.Species),C (I a_0.Shade),C (I 0)])]) (q (oFA (r':=.mp 1 0 2) j fF112_2 j j)<|q (oLd (cs:=[.im 0 _]) j tF2 j j)<|q (oFA (r':=.mp 3 0 2) j fF123_2 j j)<|q (oSt tF2 j j j (tkI tk0) j j j)<|nl)<|us<|gs<|g1 j j (mk [(2,M 2),(3,M 3)] [(2,Oa [C (Y (⟨#[]⟩:ByteArray)),C (I 0),C (I 0)]),(3,Oa (G 0 (u_S_Veneer a_0)))]) (q (oLd (cs:=[.im 0 _,.im 0 _,.im 0 _]) j tF123 j j)<|q (oSt tF123 j j j (tkI (tkI (tkI tk0))) j j j)<|nl)<|us<|Go.ret (Unw.ret ?_)
 cases h
 exact fr rF64 j
theorem L_laws_toVeneerS {a_0:(List S_Veneer)} {r:(List S_Veneer)} (h:laws_toVeneerS a_0=some r):FX 17 [.im 2 false [W 3 e_S_Veneer a_0]] (B0 [(false,[.ow 0 3 (List.map e_S_Veneer r)])]):=by
 unfold laws_toVeneerS at h
 refine gn 23 Tryz.func17 rfl ?_
 refine gs<|g0 j j (q (oAsN j j eF42)<|nl)<|us<|gs<|?_
 obtain ⟨x7,hx7,h⟩:=bs h
 refine g0 j j (q (oMv j j)<|q (oLnI j j uF26 j)<|q (oMk (en:=e_S_Veneer) j hx7 j sF42 j j (fxI (fxI (fxI fx0))) j (flat0 (L:=[_]) j fun _=>j))<|q (oAsO j j j j j)<|nl)<|us<|gs<|gs<|g0 j j (q (oAsI j j)<|nl)<|us<|Go.block<|?_
 obtain ⟨o,hl,h⟩:=bs h
 refine gl c17 j _ (fun (s:(Int×(List S_Veneer)))=>match s with | (i_4_l3,out_o3_l3)=>mk [(0,D 2 (W 3 e_S_Veneer a_0)),(3,H 3 0),(4,iv i_4_l3)] [(3,Oc [Z (W 3 e_S_Veneer out_o3_l3)])]) (fun (out_o3_e0_3:(List S_Veneer)) (p:Ex×St)=>p.1= .exit 0∧p.2.norm ([3],[3])=mk [(3,H 3 0)] [(3,Oc [Z (W 3 e_S_Veneer out_o3_e0_3)])]) hl (by kernel_rfl) ?_ ?_ ?_
 ·intro o p hp e
  exact nomatch (hp.1.symm.trans e)
 ·rintro ⟨i_4_l3,out_o3_l3⟩ o h
  unfold laws_toVeneerS_l3 at h
  dsimp only at h
  refine gs<|gs<|g0 j j (q (oMv j j)<|q (oMv j j)<|q (oLnI j j uF26 j)<|q (oBi j j j j)<|nl)<|us<|gc h j iDec (fun hc3 h=>?_) fun hc3 h=>?_
  ·refine Go.skip<|us<|gs<|Go.block<|?_
   obtain ⟨x18,hx18,h⟩:=bs h
   obtain ⟨x20,hx20,h⟩:=bs h
   obtain ⟨x21,hx21,h⟩:=bs h
   refine g0 j j (q (oMv j j)<|q (oMv j j)<|q (oMv j j)<|q (oMv j j)<|q (oIAI j hx18 sF26 j j)<|q (oLd (cs:=[.im 2 _,.im 2 _,.im 2 _]) j tF112 j j)<|q (oCa (xs:=[.v true [.im 2 _,.im 2 _,.im 2 _]]) (vs:=[(true,[.im 0 _,.im 0 _,.im 0 _])]) (v:=.v true [.im 0 _,.im 0 _,.im 0 _]) (L_laws_toVeneer hx20) (.inl j) j kF64_112 j (ppC j pp0) j j pb0 j j j)<|q (oIAO j hx21 sF42 j j j j)<|q (oStE (v':=x20) tF123 j j j (fxI (fxI (fxI fx0))) j j (rd_get hx21) j)<|nl)<|Unw.blk<|us<|g1 j j (mk [(0,D 2 (W 3 e_S_Veneer a_0)),(3,H 3 0),(4,iv i_4_l3)] [(3,Oc [Z (W 3 e_S_Veneer (out_o3_l3.set i_4_l3.toNat x20))])]) (q (oMv j j)<|q (oBi j j j j)<|q (oAsI j j)<|nl)<|Unw.nil<|?_
   cases h
   exact ⟨j,(by kernel_rfl)⟩
  ·refine Go.exit<|ux<|Unw.nil<|?_
   cases h
   exact ⟨j,(by kernel_rfl)⟩
 ·rintro ⟨e,st⟩ hp
  obtain ⟨out_o3_e0_3,rfl⟩:∃y,y=o:=⟨o,rfl⟩
  obtain ⟨he,hst⟩:=hp
  obtain rfl:e= .exit 0:=he
  refine Unw.blkx<|us<|gs<|g2 c17 j j hst (q (oMv j j)<|q (oAsO j j j j j)<|nl)<|us<|Go.ret (Unw.ret ?_)
  cases h
  exact fr rF17 j
theorem L_laws_toPicture {a_0:S_Picture} {r:S_Picture} (h:laws_toPicture a_0=some r):FX 40 [.im 2 true (u_S_Picture a_0)] (B0 [(true,[.im 0 (I r.Drawing.Width),.im 0 (I r.Drawing.Height),.ow 0 2 (List.map e_S_Point r.Drawing.Points),.ow 0 2 (List.map e_S_Face r.Drawing.Faces),.ow 0 3 (List.map e_S_Veneer r.Veneers)])]):=by
 unfold laws_toPicture at h
 refine gn 13 Tryz.func40 rfl ?_
 refine gs<|g0 j j (q (oBx j tF28 j (tkI (tkI (tkI (tkI (tkI tk0))))))<|q (oAl j tF44 (tkI (tkI (tkN (tkN (tkN tk0))))))<|nl)<|us<|gs<|g1 j j (mk [(1,M 1),(2,M 2)] [(1,Oa (G 2 (u_S_Picture a_0))),(2,Oa [C (I 0),C (I 0),Z (W 2 e_S_Point ([]:List S_Point)),Z (W 2 e_S_Face ([]:List S_Face)),Z (W 3 e_S_Veneer ([]:List S_Veneer))])]) (q (oAl j tF44 (tkI (tkI (tkN (tkN (tkN tk0))))))<|nl)<|us<|gs<|?_
 obtain ⟨x6,hx6,h⟩:=bs h
 refine g1 j j (mk [(1,M 1),(2,M 2),(3,M 3)] [(1,Oa (G 2 (u_S_Picture a_0))),(2,Oa [C (I 0),C (I 0),Z (W 2 e_S_Point ([]:List S_Point)),Z (W 2 e_S_Face ([]:List S_Face)),Z (W 3 e_S_Veneer ([]:List S_Veneer))]),(3,Oa [C (I 0),C (I 0),Z (W 2 e_S_Point ([]:List S_Point)),Z (W 2 e_S_Face ([]:List S_Face)),Z (W 3 e_S_Veneer ([]:List S_Veneer))])]) (q (oFA (r':=.mp 1 0 0) j fF28_0 j j)<|q (oLd (cs:=[.im 0 _,.im 0 _,.im 2 _,.im 2 _]) j tF25 j j)<|q (oCr (xs:=[.v true [.im 0 _,.im 0 _,.im 2 _,.im 2 _]]) (vs:=[(true,[.im 0 _,.im 0 _,.own 6 0 0,.own 6 0 1])]) (v:=.v true [.im 0 _,.im 0 _,.own 6 0 0,.own 6 0 1]) (c:=⟨.sh,0,_⟩) (cs:=[⟨.sh,0,_⟩]) (L_laws_toDrawing hx6) (.inl j) j kF16_25 j (ppC j pp0) j j pb0 j j j)<|q (oFA (r':=.mp 3 0 0) j fF44_0 j j)<|q (oSt tF41 j j j (tkI (tkI (tkO j j (tkO j j tk0)))) j j j)<|nl)<|us<|gs<|?_
 obtain ⟨x10,hx10,h⟩:=bs h
 refine g1 j j (mk [(1,M 1),(2,M 2),(3,M 3)] [(1,Oa (G 2 (u_S_Picture a_0))),(2,Oa [C (I 0),C (I 0),Z (W 2 e_S_Point ([]:List S_Point)),Z (W 2 e_S_Face ([]:List S_Face)),Z (W 3 e_S_Veneer ([]:List S_Veneer))]),(3,Oa [C (I x6.Width),C (I x6.Height),Z (W 2 e_S_Point x6.Points),Z (W 2 e_S_Face x6.Faces),Z (W 3 e_S_Veneer ([]:List S_Veneer))])]) (q (oFA (r':=.mp 1 0 4) j fF28_1 j j)<|q (oLd (cs:=[.im 2 _]) j tF26 j j)<|q (oCr (xs:=[.v false [.im 2 _]]) (vs:=[(false,[.own 10 0 0])]) (v:=.v false [.own 10 0 0]) (c:=⟨.sh,0,_⟩) (cs:=[]) (L_laws_toVeneerS hx10) (.inl j) j kF17_26 j (ppC j pp0) j j pb0 j j j)<|q (oFA (r':=.mp 3 0 4) j fF44_1 j j)<|q (oSt tF42 j j j (tkO j j tk0) j j j)<|nl)<|us<|gs<|g1 j j (mk [(2,M 2),(3,M 3)] [(2,Oa [C (I 0),C (I 0),Z (W 2 e_S_Point ([]:List S_Point)),Z (W 2 e_S_Face ([]:List S_Face)),Z (W 3 e_S_Veneer ([]:List S_Veneer))]),(3,Oa [C (I x6.Width),C (I x6.Height),Z (W 2 e_S_Point x6.Points),Z (W 2 e_S_Face x6.Faces),Z (W 3 e_S_Veneer x10)])]) (q (oLd (cs:=[.im 0 _,.im 0 _,.own 3 0 2,.own 3 0 3,.own 3 0 4]) j tF44 j j)<|q (oSt tF44 j j j (tkI (tkI (tkO j j (tkO j j (tkO j j tk0))))) j j j)<|nl)<|us<|Go.ret (Unw.ret ?_)
 cases h
 exact fr rF40 j
theorem L_laws_toBox {a_0:S_Box} {r:S_Box} (h:laws_toBox a_0=some r):FX 173 [.im 2 true (u_S_Box a_0)] (B0 [(true,J 0 (u_S_Box r))]):=by
 unfold laws_toBox at h
 refine gn 17 Tryz.func173 rfl ?_
 refine gs<|g0 j j (q (oBx j tF258 j (tkI (tkI (tkI (tkI tk0)))))<|q (oAl j tF234 (tkI (tkI (tkI (tkI tk0)))))<|nl)<|us<|gs<|g0 j j (q (oAl j tF234 (tkI (tkI (tkI (tkI tk0)))))<|nl)<|us<|gs<|g0 j j (q (oFA (r':=.mp 1 0 0) j fF258_0 j j)<|q (oLd (cs:=[.im 0 _]) j tF2 j j)<|q (oFA (r':=.mp 3 0 0) j fF234_0 j j)<|q (oSt tF2 j j j (tkI tk0) j j j)<|nl)<|us<|gs<|g1 j j (mk [(1,M 1),(2,M 2),(3,M 3)] [(1,Oa (G 0 (u_S_Box a_0))),(2,Oa [C (I 0),C (I 0),C (I 0),C (I 0)]),(3,Oa [C (I a_0.X),C (I 0),C (I 0),C (I 0)])]) (q (oFA (r':=.mp 1 0 1) j fF258_1 j j)<|q (oLd (cs:=[.im 0 _]) j tF2 j j)<|q (oFA (r':=.mp 3 0 1) j fF234_1 j j)<|q (oSt tF2 j j j (tkI tk0) j j j)<|nl)<|us<|gs<|g1 j j (mk [(1,M 1),(2,M 2),(3,M 3)] [(1,Oa (G 0 (u_S_Box a_0))),(2,Oa [C (I 0),C (I 0),C (I 0),C (I 0)]),(3,Oa [C (I a_0.X),C (I a_0.Y),C (I 0),C (I 0)])]) (q (oFA (r':=.mp 1 0 2) j fF258_2 j j)<|q (oLd (cs:=[.im 0 _]) j tF2 j j)<|q (oFA (r':=.mp 3 0 2) j fF234_2 j j)<|q (oSt tF2 j j j (tkI tk0) j j j)<|nl)<|us<|gs<|g1 j j (mk [(1,M 1),(2,M 2),(3,M 3)] [(1,Oa (G 0 (u_S_Box a_0))),(2,Oa [C (I 0),C (I 0),C (I 0),C (I 0)]),(3,Oa [C (I a_0.X),C (I a_0.Y),C (I a_0.Width),C (I 0)])]) (q (oFA (r':=.mp 1 0 3) j fF258_3 j j)<|q (oLd (cs:=[.im 0 _]) j tF2 j j)<|q (oFA (r':=.mp 3 0 3) j fF234_3 j j)<|q (oSt tF2 j j j (tkI tk0) j j j)<|nl)<|us<|gs<|g1 j j (mk [(2,M 2),(3,M 3)] [(2,Oa [C (I 0),C (I 0),C (I 0),C (I 0)]),(3,Oa (G 0 (u_S_Box a_0)))]) (q (oLd (cs:=[.im 0 _,.im 0 _,.im 0 _,.im 0 _]) j tF234 j j)<|q (oSt tF234 j j j (tkI (tkI (tkI (tkI tk0)))) j j j)<|nl)<|us<|Go.ret (Unw.ret ?_)
 cases h
 exact fr rF173 j
theorem L_laws_toBoxS {a_0:(List S_Box)} {r:(List S_Box)} (h:laws_toBoxS a_0=some r):FX 142 [.im 2 false [W 4 e_S_Box a_0]] (B0 [(false,[.ow 0 4 (List.map e_S_Box r)])]):=by
 unfold laws_toBoxS at h
 refine gn 23 Tryz.func142 rfl ?_
 refine gs<|g0 j j (q (oAsN j j eF162)<|nl)<|us<|gs<|?_
 obtain ⟨x7,hx7,h⟩:=bs h
 refine g0 j j (q (oMv j j)<|q (oLnI j j uF151 j)<|q (oMk (en:=e_S_Box) j hx7 j sF162 j j (fxI (fxI (fxI (fxI fx0)))) j (flat0 (L:=[_]) j fun _=>j))<|q (oAsO j j j j j)<|nl)<|us<|gs<|gs<|g0 j j (q (oAsI j j)<|nl)<|us<|Go.block<|?_
 obtain ⟨o,hl,h⟩:=bs h
 refine gl c142 j _ (fun (s:(Int×(List S_Box)))=>match s with | (i_4_l3,out_o3_l3)=>mk [(0,D 2 (W 4 e_S_Box a_0)),(3,H 3 0),(4,iv i_4_l3)] [(3,Oc [Z (W 4 e_S_Box out_o3_l3)])]) (fun (out_o3_e0_3:(List S_Box)) (p:Ex×St)=>p.1= .exit 0∧p.2.norm ([3],[3])=mk [(3,H 3 0)] [(3,Oc [Z (W 4 e_S_Box out_o3_e0_3)])]) hl (by kernel_rfl) ?_ ?_ ?_
 ·intro o p hp e
  exact nomatch (hp.1.symm.trans e)
 ·rintro ⟨i_4_l3,out_o3_l3⟩ o h
  unfold laws_toBoxS_l3 at h
  dsimp only at h
  refine gs<|gs<|g0 j j (q (oMv j j)<|q (oMv j j)<|q (oLnI j j uF151 j)<|q (oBi j j j j)<|nl)<|us<|gc h j iDec (fun hc3 h=>?_) fun hc3 h=>?_
  ·refine Go.skip<|us<|gs<|Go.block<|?_
   obtain ⟨x18,hx18,h⟩:=bs h
   obtain ⟨x20,hx20,h⟩:=bs h
   obtain ⟨x21,hx21,h⟩:=bs h
   refine g0 j j (q (oMv j j)<|q (oMv j j)<|q (oMv j j)<|q (oMv j j)<|q (oIAI j hx18 sF151 j j)<|q (oLd (cs:=[.im 2 _,.im 2 _,.im 2 _,.im 2 _]) j tF258 j j)<|q (oCa (xs:=[.v true [.im 2 _,.im 2 _,.im 2 _,.im 2 _]]) (vs:=[(true,[.im 0 _,.im 0 _,.im 0 _,.im 0 _])]) (v:=.v true [.im 0 _,.im 0 _,.im 0 _,.im 0 _]) (L_laws_toBox hx20) (.inl j) j kF173_258 j (ppC j pp0) j j pb0 j j j)<|q (oIAO j hx21 sF162 j j j j)<|q (oStE (v':=x20) tF234 j j j (fxI (fxI (fxI (fxI fx0)))) j j (rd_get hx21) j)<|nl)<|Unw.blk<|us<|g1 j j (mk [(0,D 2 (W 4 e_S_Box a_0)),(3,H 3 0),(4,iv i_4_l3)] [(3,Oc [Z (W 4 e_S_Box (out_o3_l3.set i_4_l3.toNat x20))])]) (q (oMv j j)<|q (oBi j j j j)<|q (oAsI j j)<|nl)<|Unw.nil<|?_
   cases h
   exact ⟨j,(by kernel_rfl)⟩
  ·refine Go.exit<|ux<|Unw.nil<|?_
   cases h
   exact ⟨j,(by kernel_rfl)⟩
 ·rintro ⟨e,st⟩ hp
  obtain ⟨out_o3_e0_3,rfl⟩:∃y,y=o:=⟨o,rfl⟩
  obtain ⟨he,hst⟩:=hp
  obtain rfl:e= .exit 0:=he
  refine Unw.blkx<|us<|gs<|g2 c142 j j hst (q (oMv j j)<|q (oAsO j j j j j)<|nl)<|us<|Go.ret (Unw.ret ?_)
  cases h
  exact fr rF142 j
theorem L_laws_toLeaf {a_0:S_Leaf} {r:S_Leaf} (h:laws_toLeaf a_0=some r):FX 96 [.im 2 true (u_S_Leaf a_0)] (B0 [(true,[.im 0 (Y r.Id),.im 0 (Y r.Flitch),.im 0 (I r.Number),.im 0 (Y r.Veneer.Species),.im 0 (I r.Veneer.Shade),.im 0 (I r.Veneer.Grain),.im 0 (I r.Width),.im 0 (I r.Length),.ow 0 4 (List.map e_S_Box r.Defects)])]):=by
 unfold laws_toLeaf at h
 refine gn 28 Tryz.func96 rfl ?_
 refine gs<|g0 j j (q (oBx j tF153 j (tkI (tkI (tkI (tkI (tkI (tkI (tkI (tkI (tkI tk0))))))))))<|q (oAl j tF164 (tkI (tkI (tkI (tkI (tkI (tkI (tkI (tkI (tkN tk0))))))))))<|nl)<|us<|gs<|g1 j j (mk [(1,M 1),(2,M 2)] [(1,Oa (G 2 (u_S_Leaf a_0))),(2,Oa [C (Y (⟨#[]⟩:ByteArray)),C (Y (⟨#[]⟩:ByteArray)),C (I 0),C (Y (⟨#[]⟩:ByteArray)),C (I 0),C (I 0),C (I 0),C (I 0),Z (W 4 e_S_Box ([]:List S_Box))])]) (q (oAl j tF164 (tkI (tkI (tkI (tkI (tkI (tkI (tkI (tkI (tkN tk0))))))))))<|nl)<|us<|gs<|g1 j j (mk [(1,M 1),(2,M 2),(3,M 3)] [(1,Oa (G 2 (u_S_Leaf a_0))),(2,Oa [C (Y (⟨#[]⟩:ByteArray)),C (Y (⟨#[]⟩:ByteArray)),C (I 0),C (Y (⟨#[]⟩:ByteArray)),C (I 0),C (I 0),C (I 0),C (I 0),Z (W 4 e_S_Box ([]:List S_Box))]),(3,Oa [C (Y (⟨#[]⟩:ByteArray)),C (Y (⟨#[]⟩:ByteArray)),C (I 0),C (Y (⟨#[]⟩:ByteArray)),C (I 0),C (I 0),C (I 0),C (I 0),Z (W 4 e_S_Box ([]:List S_Box))])]) (q (oFA (r':=.mp 1 0 0) j fF153_0 j j)<|q (oLd (cs:=[.im 0 _]) j tF9 j j)<|q (oFA (r':=.mp 3 0 0) j fF164_0 j j)<|q (oSt tF9 j j j (tkI tk0) j j j)<|nl)<|us<|gs<|g1 j j (mk [(1,M 1),(2,M 2),(3,M 3)] [(1,Oa (G 2 (u_S_Leaf a_0))),(2,Oa [C (Y (⟨#[]⟩:ByteArray)),C (Y (⟨#[]⟩:ByteArray)),C (I 0),C (Y (⟨#[]⟩:ByteArray)),C (I 0),C (I 0),C (I 0),C (I 0),Z (W 4 e_S_Box ([]:List S_Box))]),(3,Oa [C (Y a_0.Id),C (Y (⟨#[]⟩:ByteArray)),C (I 0),C (Y (⟨#[]⟩:ByteArray)),C (I 0),C (I 0),C (I 0),C (I 0),Z (W 4 e_S_Box ([]:List S_Box))])]) (q (oFA (r':=.mp 1 0 1) j fF153_1 j j)<|q (oLd (cs:=[.im 0 _]) j tF9 j j)<|q (oFA (r':=.mp 3 0 1) j fF164_1 j j)<|q (oSt tF9 j j j (tkI tk0) j j j)<|nl)<|us<|gs<|g1 j j (mk [(1,M 1),(2,M 2),(3,M 3)] [(1,Oa (G 2 (u_S_Leaf a_0))),(2,Oa [C (Y (⟨#[]⟩:ByteArray)),C (Y (⟨#[]⟩:ByteArray)),C (I 0),C (Y (⟨#[]⟩:ByteArray)),C (I 0),C (I 0),C (I 0),C (I 0),Z (W 4 e_S_Box ([]:List S_Box))]),(3,Oa [C (Y a_0.Id),C (Y a_0.Flitch),C (I 0),C (Y (⟨#[]⟩:ByteArray)),C (I 0),C (I 0),C (I 0),C (I 0),Z (W 4 e_S_Box ([]:List S_Box))])]) (q (oFA (r':=.mp 1 0 2) j fF153_2 j j)<|q (oLd (cs:=[.im 0 _]) j tF2 j j)<|q (oFA (r':=.mp 3 0 2) j fF164_2 j j)<|q (oSt tF2 j j j (tkI tk0) j j j)<|nl)<|us<|gs<|?_
 obtain ⟨x15,hx15,h⟩:=bs h
 refine g1 j j (mk [(1,M 1),(2,M 2),(3,M 3)] [(1,Oa (G 2 (u_S_Leaf a_0))),(2,Oa [C (Y (⟨#[]⟩:ByteArray)),C (Y (⟨#[]⟩:ByteArray)),C (I 0),C (Y (⟨#[]⟩:ByteArray)),C (I 0),C (I 0),C (I 0),C (I 0),Z (W 4 e_S_Box ([]:List S_Box))]),(3,Oa [C (Y a_0.Id),C (Y a_0.Flitch),C (I a_0.Number),C (Y (⟨#[]⟩:ByteArray)),C (I 0),C (I 0),C (I 0),C (I 0),Z (W 4 e_S_Box ([]:List S_Box))])]) (q (oFA (r':=.mp 1 0 3) j fF153_3 j j)<|q (oLd (cs:=[.im 0 _,.im 0 _,.im 0 _]) j tF112 j j)<|q (oCa (xs:=[.v true [.im 0 _,.im 0 _,.im 0 _]]) (vs:=[(true,[.im 0 _,.im 0 _,.im 0 _])]) (v:=.v true [.im 0 _,.im 0 _,.im 0 _]) (L_laws_toVeneer hx15) (.inl j) j kF64_112 j (ppC j pp0) j j pb0 j j j)<|q (oFA (r':=.mp 3 0 3) j fF164_3 j j)<|q (oSt tF123 j j j (tkI (tkI (tkI tk0))) j j j)<|nl)<|us<|gs<|g1 j j (mk [(1,M 1),(2,M 2),(3,M 3)] [(1,Oa (G 2 (u_S_Leaf a_0))),(2,Oa [C (Y (⟨#[]⟩:ByteArray)),C (Y (⟨#[]⟩:ByteArray)),C (I 0),C (Y (⟨#[]⟩:ByteArray)),C (I 0),C (I 0),C (I 0),C (I 0),Z (W 4 e_S_Box ([]:List S_Box))]),(3,Oa [C (Y a_0.Id),C (Y a_0.Flitch),C (I a_0.Number),C (Y x15.Species),C (I x15.Shade),C (I x15.Grain),C (I 0),C (I 0),Z (W 4 e_S_Box ([]:List S_Box))])]) (q (oFA (r':=.mp 1 0 6) j fF153_4 j j)<|q (oLd (cs:=[.im 0 _]) j tF2 j j)<|q (oFA (r':=.mp 3 0 6) j fF164_4 j j)<|q (oSt tF2 j j j (tkI tk0) j j j)<|nl)<|us<|gs<|g1 j j (mk [(1,M 1),(2,M 2),(3,M 3)] [(1,Oa (G 2 (u_S_Leaf a_0))),(2,Oa [C (Y (⟨#[]⟩:ByteArray)),C (Y (⟨#[]⟩:ByteArray)),C (I 0),C (Y (⟨#[]⟩:ByteArray)),C (I 0),C (I 0),C (I 0),C (I 0),Z (W 4 e_S_Box ([]:List S_Box))]),(3,Oa [C (Y a_0.Id),C (Y a_0.Flitch),C (I a_0.Number),C (Y x15.Species),C (I x15.Shade),C (I x15.Grain),C (I a_0.Width),C (I 0),Z (W 4 e_S_Box ([]:List S_Box))])]) (q (oFA (r':=.mp 1 0 7) j fF153_5 j j)<|q (oLd (cs:=[.im 0 _]) j tF2 j j)<|q (oFA (r':=.mp 3 0 7) j fF164_5 j j)<|q (oSt tF2 j j j (tkI tk0) j j j)<|nl)<|us<|gs<|?_
 obtain ⟨x25,hx25,h⟩:=bs h
 refine g1 j j (mk [(1,M 1),(2,M 2),(3,M 3)] [(1,Oa (G 2 (u_S_Leaf a_0))),(2,Oa [C (Y (⟨#[]⟩:ByteArray)),C (Y (⟨#[]⟩:ByteArray)),C (I 0),C (Y (⟨#[]⟩:ByteArray)),C (I 0),C (I 0),C (I 0),C (I 0),Z (W 4 e_S_Box ([]:List S_Box))]),(3,Oa [C (Y a_0.Id),C (Y a_0.Flitch),C (I a_0.Number),C (Y x15.Species),C (I x15.Shade),C (I x15.Grain),C (I a_0.Width),C (I a_0.Length),Z (W 4 e_S_Box ([]:List S_Box))])]) (q (oFA (r':=.mp 1 0 8) j fF153_6 j j)<|q (oLd (cs:=[.im 2 _]) j tF151 j j)<|q (oCr (xs:=[.v false [.im 2 _]]) (vs:=[(false,[.own 25 0 0])]) (v:=.v false [.own 25 0 0]) (c:=⟨.sh,0,_⟩) (cs:=[]) (L_laws_toBoxS hx25) (.inl j) j kF142_151 j (ppC j pp0) j j pb0 j j j)<|q (oFA (r':=.mp 3 0 8) j fF164_6 j j)<|q (oSt tF162 j j j (tkO j j tk0) j j j)<|nl)<|us<|gs<|g1 j j (mk [(2,M 2),(3,M 3)] [(2,Oa [C (Y (⟨#[]⟩:ByteArray)),C (Y (⟨#[]⟩:ByteArray)),C (I 0),C (Y (⟨#[]⟩:ByteArray)),C (I 0),C (I 0),C (I 0),C (I 0),Z (W 4 e_S_Box ([]:List S_Box))]),(3,Oa [C (Y a_0.Id),C (Y a_0.Flitch),C (I a_0.Number),C (Y x15.Species),C (I x15.Shade),C (I x15.Grain),C (I a_0.Width),C (I a_0.Length),Z (W 4 e_S_Box x25)])]) (q (oLd (cs:=[.im 0 _,.im 0 _,.im 0 _,.im 0 _,.im 0 _,.im 0 _,.im 0 _,.im 0 _,.own 3 0 8]) j tF164 j j)<|q (oSt tF164 j j j (tkI (tkI (tkI (tkI (tkI (tkI (tkI (tkI (tkO j j tk0))))))))) j j j)<|nl)<|us<|Go.ret (Unw.ret ?_)
 cases h
 exact fr rF96 j
theorem L_laws_toLeafS {a_0:(List S_Leaf)} {r:(List S_Leaf)} (h:laws_toLeafS a_0=some r):FX 41 [.im 2 false [W 9 e_S_Leaf a_0]] (B0 [(false,[.ow 0 9 (List.map e_S_Leaf r)])]):=by
 unfold laws_toLeafS at h
 refine gn 23 Tryz.func41 rfl ?_
 refine gs<|g0 j j (q (oAsN j j eF45)<|nl)<|us<|gs<|?_
 obtain ⟨x7,hx7,h⟩:=bs h
 refine g0 j j (q (oMv j j)<|q (oLnI j j uF29 j)<|q (oMk (en:=e_S_Leaf) j hx7 j sF45 j j (fxI (fxI (fxI (fxI (fxI (fxI (fxI (fxI (fxN fx0))))))))) j (flat1 j))<|q (oAsO j j j j j)<|nl)<|us<|gs<|gs<|g0 j j (q (oAsI j j)<|nl)<|us<|Go.block<|?_
 obtain ⟨o,hl,h⟩:=bs h
 refine gl c41 j _ (fun (s:(Int×(List S_Leaf)))=>match s with | (i_4_l3,out_o3_l3)=>mk [(0,D 2 (W 9 e_S_Leaf a_0)),(3,H 3 0),(4,iv i_4_l3)] [(3,Oc [Z (W 9 e_S_Leaf out_o3_l3)])]) (fun (out_o3_e0_3:(List S_Leaf)) (p:Ex×St)=>p.1= .exit 0∧p.2.norm ([3],[3])=mk [(3,H 3 0)] [(3,Oc [Z (W 9 e_S_Leaf out_o3_e0_3)])]) hl (by kernel_rfl) ?_ ?_ ?_
 ·intro o p hp e
  exact nomatch (hp.1.symm.trans e)
 ·rintro ⟨i_4_l3,out_o3_l3⟩ o h
  unfold laws_toLeafS_l3 at h
  dsimp only at h
  refine gs<|gs<|g0 j j (q (oMv j j)<|q (oMv j j)<|q (oLnI j j uF29 j)<|q (oBi j j j j)<|nl)<|us<|gc h j iDec (fun hc3 h=>?_) fun hc3 h=>?_
  ·refine Go.skip<|us<|gs<|Go.block<|?_
   obtain ⟨x18,hx18,h⟩:=bs h
   obtain ⟨x20,hx20,h⟩:=bs h
   obtain ⟨x21,hx21,h⟩:=bs h
   refine g0 j j (q (oMv j j)<|q (oMv j j)<|q (oMv j j)<|q (oMv j j)<|q (oIAI j hx18 sF29 j j)<|q (oLd (cs:=[.im 2 _,.im 2 _,.im 2 _,.im 2 _,.im 2 _,.im 2 _,.im 2 _,.im 2 _,.im 2 _]) j tF153 j j)<|q (oCr (xs:=[.v true [.im 2 _,.im 2 _,.im 2 _,.im 2 _,.im 2 _,.im 2 _,.im 2 _,.im 2 _,.im 2 _]]) (vs:=[(true,[.im 0 _,.im 0 _,.im 0 _,.im 0 _,.im 0 _,.im 0 _,.im 0 _,.im 0 _,.own 20 0 0])]) (v:=.v true [.im 0 _,.im 0 _,.im 0 _,.im 0 _,.im 0 _,.im 0 _,.im 0 _,.im 0 _,.own 20 0 0]) (c:=⟨.sh,0,_⟩) (cs:=[]) (L_laws_toLeaf hx20) (.inl j) j kF96_153 j (ppC j pp0) j j pb0 j j j)<|q (oIAO j hx21 sF45 j j j j)<|q (oStE (v':=x20) tF164 j j j (fxI (fxI (fxI (fxI (fxI (fxI (fxI (fxI (fxO j j fx0))))))))) j j (rd_get hx21) j)<|nl)<|Unw.blk<|us<|g1 j j (mk [(0,D 2 (W 9 e_S_Leaf a_0)),(3,H 3 0),(4,iv i_4_l3)] [(3,Oc [Z (W 9 e_S_Leaf (out_o3_l3.set i_4_l3.toNat x20))])]) (q (oMv j j)<|q (oBi j j j j)<|q (oAsI j j)<|nl)<|Unw.nil<|?_
   cases h
   exact ⟨j,(by kernel_rfl)⟩
  ·refine Go.exit<|ux<|Unw.nil<|?_
   cases h
   exact ⟨j,(by kernel_rfl)⟩
 ·rintro ⟨e,st⟩ hp
  obtain ⟨out_o3_e0_3,rfl⟩:∃y,y=o:=⟨o,rfl⟩
  obtain ⟨he,hst⟩:=hp
  obtain rfl:e= .exit 0:=he
  refine Unw.blkx<|us<|gs<|g2 c41 j j hst (q (oMv j j)<|q (oAsO j j j j j)<|nl)<|us<|Go.ret (Unw.ret ?_)
  cases h
  exact fr rF41 j
theorem L_laws_toPlacement {a_0:S_Placement} {r:S_Placement} (h:laws_toPlacement a_0=some r):FX 97 [.im 2 true (u_S_Placement a_0)] (B0 [(true,J 0 (u_S_Placement r))]):=by
 unfold laws_toPlacement at h
 refine gn 20 Tryz.func97 rfl ?_
 refine gs<|g0 j j (q (oBx j tF167 j (tkI (tkI (tkI (tkI (tkI tk0))))))<|q (oAl j tF101 (tkI (tkI (tkI (tkI (tkI tk0))))))<|nl)<|us<|gs<|g1 j j (mk [(1,M 1),(2,M 2)] [(1,Oa (G 0 (u_S_Placement a_0))),(2,Oa [C (I 0),C (I 0),C (I 0),C (I 0),C (I 0)])]) (q (oAl j tF101 (tkI (tkI (tkI (tkI (tkI tk0))))))<|nl)<|us<|gs<|g1 j j (mk [(1,M 1),(2,M 2),(3,M 3)] [(1,Oa (G 0 (u_S_Placement a_0))),(2,Oa [C (I 0),C (I 0),C (I 0),C (I 0),C (I 0)]),(3,Oa [C (I 0),C (I 0),C (I 0),C (I 0),C (I 0)])]) (q (oFA (r':=.mp 1 0 0) j fF167_0 j j)<|q (oLd (cs:=[.im 0 _]) j tF2 j j)<|q (oFA (r':=.mp 3 0 0) j fF101_0 j j)<|q (oSt tF2 j j j (tkI tk0) j j j)<|nl)<|us<|gs<|g1 j j (mk [(1,M 1),(2,M 2),(3,M 3)] [(1,Oa (G 0 (u_S_Placement a_0))),(2,Oa [C (I 0),C (I 0),C (I 0),C (I 0),C (I 0)]),(3,Oa [C (I a_0.Face),C (I 0),C (I 0),C (I 0),C (I 0)])]) (q (oFA (r':=.mp 1 0 1) j fF167_1 j j)<|q (oLd (cs:=[.im 0 _]) j tF2 j j)<|q (oFA (r':=.mp 3 0 1) j fF101_1 j j)<|q (oSt tF2 j j j (tkI tk0) j j j)<|nl)<|us<|gs<|g1 j j (mk [(1,M 1),(2,M 2),(3,M 3)] [(1,Oa (G 0 (u_S_Placement a_0))),(2,Oa [C (I 0),C (I 0),C (I 0),C (I 0),C (I 0)]),(3,Oa [C (I a_0.Face),C (I a_0.Leaf),C (I 0),C (I 0),C (I 0)])]) (q (oFA (r':=.mp 1 0 2) j fF167_2 j j)<|q (oLd (cs:=[.im 0 _]) j tF2 j j)<|q (oFA (r':=.mp 3 0 2) j fF101_2 j j)<|q (oSt tF2 j j j (tkI tk0) j j j)<|nl)<|us<|gs<|g1 j j (mk [(1,M 1),(2,M 2),(3,M 3)] [(1,Oa (G 0 (u_S_Placement a_0))),(2,Oa [C (I 0),C (I 0),C (I 0),C (I 0),C (I 0)]),(3,Oa [C (I a_0.Face),C (I a_0.Leaf),C (I a_0.X),C (I 0),C (I 0)])]) (q (oFA (r':=.mp 1 0 3) j fF167_3 j j)<|q (oLd (cs:=[.im 0 _]) j tF2 j j)<|q (oFA (r':=.mp 3 0 3) j fF101_3 j j)<|q (oSt tF2 j j j (tkI tk0) j j j)<|nl)<|us<|gs<|g1 j j (mk [(1,M 1),(2,M 2),(3,M 3)] [(1,Oa (G 0 (u_S_Placement a_0))),(2,Oa [C (I 0),C (I 0),C (I 0),C (I 0),C (I 0)]),(3,Oa [C (I a_0.Face),C (I a_0.Leaf),C (I a_0.X),C (I a_0.Y),C (I 0)])]) (q (oFA (r':=.mp 1 0 4) j fF167_4 j j)<|q (oLd (cs:=[.im 0 _]) j tF2 j j)<|q (oFA (r':=.mp 3 0 4) j fF101_4 j j)<|q (oSt tF2 j j j (tkI tk0) j j j)<|nl)<|us<|gs<|g1 j j (mk [(2,M 2),(3,M 3)] [(2,Oa [C (I 0),C (I 0),C (I 0),C (I 0),C (I 0)]),(3,Oa (G 0 (u_S_Placement a_0)))]) (q (oLd (cs:=[.im 0 _,.im 0 _,.im 0 _,.im 0 _,.im 0 _]) j tF101 j j)<|q (oSt tF101 j j j (tkI (tkI (tkI (tkI (tkI tk0))))) j j j)<|nl)<|us<|Go.ret (Unw.ret ?_)
 cases h
 exact fr rF97 j
theorem L_laws_toPlacementS {a_0:(List S_Placement)} {r:(List S_Placement)} (h:laws_toPlacementS a_0=some r):FX 42 [.im 2 false [W 5 e_S_Placement a_0]] (B0 [(false,[.ow 0 5 (List.map e_S_Placement r)])]):=by
 unfold laws_toPlacementS at h
 refine gn 23 Tryz.func42 rfl ?_
 refine gs<|g0 j j (q (oAsN j j eF46)<|nl)<|us<|gs<|?_
 obtain ⟨x7,hx7,h⟩:=bs h
 refine g0 j j (q (oMv j j)<|q (oLnI j j uF30 j)<|q (oMk (en:=e_S_Placement) j hx7 j sF46 j j (fxI (fxI (fxI (fxI (fxI fx0))))) j (flat0 (L:=[_]) j fun _=>j))<|q (oAsO j j j j j)<|nl)<|us<|gs<|gs<|g0 j j (q (oAsI j j)<|nl)<|us<|Go.block<|?_
 obtain ⟨o,hl,h⟩:=bs h
 refine gl c42 j _ (fun (s:(Int×(List S_Placement)))=>match s with | (i_4_l3,out_o3_l3)=>mk [(0,D 2 (W 5 e_S_Placement a_0)),(3,H 3 0),(4,iv i_4_l3)] [(3,Oc [Z (W 5 e_S_Placement out_o3_l3)])]) (fun (out_o3_e0_3:(List S_Placement)) (p:Ex×St)=>p.1= .exit 0∧p.2.norm ([3],[3])=mk [(3,H 3 0)] [(3,Oc [Z (W 5 e_S_Placement out_o3_e0_3)])]) hl (by kernel_rfl) ?_ ?_ ?_
 ·intro o p hp e
  exact nomatch (hp.1.symm.trans e)
 ·rintro ⟨i_4_l3,out_o3_l3⟩ o h
  unfold laws_toPlacementS_l3 at h
  dsimp only at h
  refine gs<|gs<|g0 j j (q (oMv j j)<|q (oMv j j)<|q (oLnI j j uF30 j)<|q (oBi j j j j)<|nl)<|us<|gc h j iDec (fun hc3 h=>?_) fun hc3 h=>?_
  ·refine Go.skip<|us<|gs<|Go.block<|?_
   obtain ⟨x18,hx18,h⟩:=bs h
   obtain ⟨x20,hx20,h⟩:=bs h
   obtain ⟨x21,hx21,h⟩:=bs h
   refine g0 j j (q (oMv j j)<|q (oMv j j)<|q (oMv j j)<|q (oMv j j)<|q (oIAI j hx18 sF30 j j)<|q (oLd (cs:=[.im 2 _,.im 2 _,.im 2 _,.im 2 _,.im 2 _]) j tF167 j j)<|q (oCa (xs:=[.v true [.im 2 _,.im 2 _,.im 2 _,.im 2 _,.im 2 _]]) (vs:=[(true,[.im 0 _,.im 0 _,.im 0 _,.im 0 _,.im 0 _])]) (v:=.v true [.im 0 _,.im 0 _,.im 0 _,.im 0 _,.im 0 _]) (L_laws_toPlacement hx20) (.inl j) j kF97_167 j (ppC j pp0) j j pb0 j j j)<|q (oIAO j hx21 sF46 j j j j)<|q (oStE (v':=x20) tF101 j j j (fxI (fxI (fxI (fxI (fxI fx0))))) j j (rd_get hx21) j)<|nl)<|Unw.blk<|us<|g1 j j (mk [(0,D 2 (W 5 e_S_Placement a_0)),(3,H 3 0),(4,iv i_4_l3)] [(3,Oc [Z (W 5 e_S_Placement (out_o3_l3.set i_4_l3.toNat x20))])]) (q (oMv j j)<|q (oBi j j j j)<|q (oAsI j j)<|nl)<|Unw.nil<|?_
   cases h
   exact ⟨j,(by kernel_rfl)⟩
  ·refine Go.exit<|ux<|Unw.nil<|?_
   cases h
   exact ⟨j,(by kernel_rfl)⟩
 ·rintro ⟨e,st⟩ hp
  obtain ⟨out_o3_e0_3,rfl⟩:∃y,y=o:=⟨o,rfl⟩
  obtain ⟨he,hst⟩:=hp
  obtain rfl:e= .exit 0:=he
  refine Unw.blkx<|us<|gs<|g2 c42 j j hst (q (oMv j j)<|q (oAsO j j j j j)<|nl)<|us<|Go.ret (Unw.ret ?_)
  cases h
  exact fr rF42 j
theorem L_laws_toRules {a_0:S_Rules} {r:S_Rules} (h:laws_toRules a_0=some r):FX 43 [.im 2 true (u_S_Rules a_0)] (B0 [(true,J 0 (u_S_Rules r))]):=by
 unfold laws_toRules at h
 refine gn 17 Tryz.func43 rfl ?_
 refine gs<|g0 j j (q (oBx j tF32 j (tkI (tkI (tkI (tkI tk0)))))<|q (oAl j tF47 (tkI (tkI (tkI (tkI tk0)))))<|nl)<|us<|gs<|g0 j j (q (oAl j tF47 (tkI (tkI (tkI (tkI tk0)))))<|nl)<|us<|gs<|g0 j j (q (oFA (r':=.mp 1 0 0) j fF32_0 j j)<|q (oLd (cs:=[.im 0 _]) j tF2 j j)<|q (oFA (r':=.mp 3 0 0) j fF47_0 j j)<|q (oSt tF2 j j j (tkI tk0) j j j)<|nl)<|us<|gs<|g1 j j (mk [(1,M 1),(2,M 2),(3,M 3)] [(1,Oa (G 0 (u_S_Rules a_0))),(2,Oa [C (I 0),C (I 0),C (I 0),C (I 0)]),(3,Oa [C (I a_0.Spacing),C (I 0),C (I 0),C (I 0)])]) (q (oFA (r':=.mp 1 0 1) j fF32_1 j j)<|q (oLd (cs:=[.im 0 _]) j tF2 j j)<|q (oFA (r':=.mp 3 0 1) j fF47_1 j j)<|q (oSt tF2 j j j (tkI tk0) j j j)<|nl)<|us<|gs<|g1 j j (mk [(1,M 1),(2,M 2),(3,M 3)] [(1,Oa (G 0 (u_S_Rules a_0))),(2,Oa [C (I 0),C (I 0),C (I 0),C (I 0)]),(3,Oa [C (I a_0.Spacing),C (I a_0.Margin),C (I 0),C (I 0)])]) (q (oFA (r':=.mp 1 0 2) j fF32_2 j j)<|q (oLd (cs:=[.im 0 _]) j tF2 j j)<|q (oFA (r':=.mp 3 0 2) j fF47_2 j j)<|q (oSt tF2 j j j (tkI tk0) j j j)<|nl)<|us<|gs<|g1 j j (mk [(1,M 1),(2,M 2),(3,M 3)] [(1,Oa (G 0 (u_S_Rules a_0))),(2,Oa [C (I 0),C (I 0),C (I 0),C (I 0)]),(3,Oa [C (I a_0.Spacing),C (I a_0.Margin),C (I a_0.Angle),C (I 0)])]) (q (oFA (r':=.mp 1 0 3) j fF32_3 j j)<|q (oLd (cs:=[.im 0 _]) j tF2 j j)<|q (oFA (r':=.mp 3 0 3) j fF47_3 j j)<|q (oSt tF2 j j j (tkI tk0) j j j)<|nl)<|us<|gs<|g1 j j (mk [(2,M 2),(3,M 3)] [(2,Oa [C (I 0),C (I 0),C (I 0),C (I 0)]),(3,Oa (G 0 (u_S_Rules a_0)))]) (q (oLd (cs:=[.im 0 _,.im 0 _,.im 0 _,.im 0 _]) j tF47 j j)<|q (oSt tF47 j j j (tkI (tkI (tkI (tkI tk0)))) j j j)<|nl)<|us<|Go.ret (Unw.ret ?_)
 cases h
 exact fr rF43 j
theorem L_laws_toJob {a_0:S_Job} {r:S_Job} (h:laws_toJob a_0=some r):FX 10 [.im 2 true (u_S_Job a_0)] (B0 [(true,[.im 0 (I r.Picture.Drawing.Width),.im 0 (I r.Picture.Drawing.Height),.ow 0 2 (List.map e_S_Point r.Picture.Drawing.Points),.ow 0 2 (List.map e_S_Face r.Picture.Drawing.Faces),.ow 0 3 (List.map e_S_Veneer r.Picture.Veneers),.ow 0 9 (List.map e_S_Leaf r.Leaves),.ow 0 5 (List.map e_S_Placement r.Placements),.im 0 (I r.Rules.Spacing),.im 0 (I r.Rules.Margin),.im 0 (I r.Rules.Angle),.im 0 (I r.Rules.Shade),.im 0 (I r.Thickness),.im 0 (I r.Kerf),.im 0 (I r.Bevel),.im 0 (I r.Gap),.ow 0 1 (List.map eI r.Order),.ow 0 1 (List.map eI r.Cuts)])]):=by
 unfold laws_toJob at h
 refine gn 41 Tryz.func10 rfl ?_
 refine gs<|g0 j j (q (oBx j tF35 j (tkI (tkI (tkI (tkI (tkI (tkI (tkI (tkI (tkI (tkI (tkI (tkI (tkI (tkI (tkI (tkI (tkI tk0))))))))))))))))))<|q (oAl j tF49 (tkI (tkI (tkN (tkN (tkN (tkN (tkN (tkI (tkI (tkI (tkI (tkI (tkI (tkI (tkI (tkN (tkN tk0))))))))))))))))))<|nl)<|us<|gs<|g1 j j (mk [(1,M 1),(2,M 2)] [(1,Oa (G 2 (u_S_Job a_0))),(2,Oa [C (I 0),C (I 0),Z (W 2 e_S_Point ([]:List S_Point)),Z (W 2 e_S_Face ([]:List S_Face)),Z (W 3 e_S_Veneer ([]:List S_Veneer)),Z (W 9 e_S_Leaf ([]:List S_Leaf)),Z (W 5 e_S_Placement ([]:List S_Placement)),C (I 0),C (I 0),C (I 0),C (I 0),C (I 0),C (I 0),C (I 0),C (I 0),Z (W 1 eI ([]:List Int)),Z (W 1 eI ([]:List Int))])]) (q (oAl j tF49 (tkI (tkI (tkN (tkN (tkN (tkN (tkN (tkI (tkI (tkI (tkI (tkI (tkI (tkI (tkI (tkN (tkN tk0))))))))))))))))))<|nl)<|us<|gs<|?_
 obtain ⟨x6,hx6,h⟩:=bs h
 refine g1 j j (mk [(1,M 1),(2,M 2),(3,M 3)] [(1,Oa (G 2 (u_S_Job a_0))),(2,Oa [C (I 0),C (I 0),Z (W 2 e_S_Point ([]:List S_Point)),Z (W 2 e_S_Face ([]:List S_Face)),Z (W 3 e_S_Veneer ([]:List S_Veneer)),Z (W 9 e_S_Leaf ([]:List S_Leaf)),Z (W 5 e_S_Placement ([]:List S_Placement)),C (I 0),C (I 0),C (I 0),C (I 0),C (I 0),C (I 0),C (I 0),C (I 0),Z (W 1 eI ([]:List Int)),Z (W 1 eI ([]:List Int))]),(3,Oa [C (I 0),C (I 0),Z (W 2 e_S_Point ([]:List S_Point)),Z (W 2 e_S_Face ([]:List S_Face)),Z (W 3 e_S_Veneer ([]:List S_Veneer)),Z (W 9 e_S_Leaf ([]:List S_Leaf)),Z (W 5 e_S_Placement ([]:List S_Placement)),C (I 0),C (I 0),C (I 0),C (I 0),C (I 0),C (I 0),C (I 0),C (I 0),Z (W 1 eI ([]:List Int)),Z (W 1 eI ([]:List Int))])]) (q (oFA (r':=.mp 1 0 0) j fF35_0 j j)<|q (oLd (cs:=[.im 0 _,.im 0 _,.im 2 _,.im 2 _,.im 2 _]) j tF28 j j)<|q (oCr (xs:=[.v true [.im 0 _,.im 0 _,.im 2 _,.im 2 _,.im 2 _]]) (vs:=[(true,[.im 0 _,.im 0 _,.own 6 0 0,.own 6 0 1,.own 6 0 2])]) (v:=.v true [.im 0 _,.im 0 _,.own 6 0 0,.own 6 0 1,.own 6 0 2]) (c:=⟨.sh,0,_⟩) (cs:=[⟨.sh,0,_⟩,⟨.sh,0,_⟩]) (L_laws_toPicture hx6) (.inl j) j kF40_28 j (ppC j pp0) j j pb0 j j j)<|q (oFA (r':=.mp 3 0 0) j fF49_0 j j)<|q (oSt tF44 j j j (tkI (tkI (tkO j j (tkO j j (tkO j j tk0))))) j j j)<|nl)<|us<|gs<|?_
 obtain ⟨x10,hx10,h⟩:=bs h
 refine g1 j j (mk [(1,M 1),(2,M 2),(3,M 3)] [(1,Oa (G 2 (u_S_Job a_0))),(2,Oa [C (I 0),C (I 0),Z (W 2 e_S_Point ([]:List S_Point)),Z (W 2 e_S_Face ([]:List S_Face)),Z (W 3 e_S_Veneer ([]:List S_Veneer)),Z (W 9 e_S_Leaf ([]:List S_Leaf)),Z (W 5 e_S_Placement ([]:List S_Placement)),C (I 0),C (I 0),C (I 0),C (I 0),C (I 0),C (I 0),C (I 0),C (I 0),Z (W 1 eI ([]:List Int)),Z (W 1 eI ([]:List Int))]),(3,Oa [C (I x6.Drawing.Width),C (I x6.Drawing.Height),Z (W 2 e_S_Point x6.Drawing.Points),Z (W 2 e_S_Face x6.Drawing.Faces),Z (W 3 e_S_Veneer x6.Veneers),Z (W 9 e_S_Leaf ([]:List S_Leaf)),Z (W 5 e_S_Placement ([]:List S_Placement)),C (I 0),C (I 0),C (I 0),C (I 0),C (I 0),C (I 0),C (I 0),C (I 0),Z (W 1 eI ([]:List Int)),Z (W 1 eI ([]:List Int))])]) (q (oFA (r':=.mp 1 0 5) j fF35_1 j j)<|q (oLd (cs:=[.im 2 _]) j tF29 j j)<|q (oCr (xs:=[.v false [.im 2 _]]) (vs:=[(false,[.own 10 0 0])]) (v:=.v false [.own 10 0 0]) (c:=⟨.sh,0,_⟩) (cs:=[]) (L_laws_toLeafS hx10) (.inl j) j kF41_29 j (ppC j pp0) j j pb0 j j j)<|q (oFA (r':=.mp 3 0 5) j fF49_1 j j)<|q (oSt tF45 j j j (tkO j j tk0) j j j)<|nl)<|us<|gs<|?_
 obtain ⟨x14,hx14,h⟩:=bs h
 refine g1 j j (mk [(1,M 1),(2,M 2),(3,M 3)] [(1,Oa (G 2 (u_S_Job a_0))),(2,Oa [C (I 0),C (I 0),Z (W 2 e_S_Point ([]:List S_Point)),Z (W 2 e_S_Face ([]:List S_Face)),Z (W 3 e_S_Veneer ([]:List S_Veneer)),Z (W 9 e_S_Leaf ([]:List S_Leaf)),Z (W 5 e_S_Placement ([]:List S_Placement)),C (I 0),C (I 0),C (I 0),C (I 0),C (I 0),C (I 0),C (I 0),C (I 0),Z (W 1 eI ([]:List Int)),Z (W 1 eI ([]:List Int))]),(3,Oa [C (I x6.Drawing.Width),C (I x6.Drawing.Height),Z (W 2 e_S_Point x6.Drawing.Points),Z (W 2 e_S_Face x6.Drawing.Faces),Z (W 3 e_S_Veneer x6.Veneers),Z (W 9 e_S_Leaf x10),Z (W 5 e_S_Placement ([]:List S_Placement)),C (I 0),C (I 0),C (I 0),C (I 0),C (I 0),C (I 0),C (I 0),C (I 0),Z (W 1 eI ([]:List Int)),Z (W 1 eI ([]:List Int))])]) (q (oFA (r':=.mp 1 0 6) j fF35_2 j j)<|q (oLd (cs:=[.im 2 _]) j tF30 j j)<|q (oCr (xs:=[.v false [.im 2 _]]) (vs:=[(false,[.own 14 0 0])]) (v:=.v false [.own 14 0 0]) (c:=⟨.sh,0,_⟩) (cs:=[]) (L_laws_toPlacementS hx14) (.inl j) j kF42_30 j (ppC j pp0) j j pb0 j j j)<|q (oFA (r':=.mp 3 0 6) j fF49_2 j j)<|q (oSt tF46 j j j (tkO j j tk0) j j j)<|nl)<|us<|gs<|?_
 obtain ⟨x18,hx18,h⟩:=bs h
 refine g1 j j (mk [(1,M 1),(2,M 2),(3,M 3)] [(1,Oa (G 2 (u_S_Job a_0))),(2,Oa [C (I 0),C (I 0),Z (W 2 e_S_Point ([]:List S_Point)),Z (W 2 e_S_Face ([]:List S_Face)),Z (W 3 e_S_Veneer ([]:List S_Veneer)),Z (W 9 e_S_Leaf ([]:List S_Leaf)),Z (W 5 e_S_Placement ([]:List S_Placement)),C (I 0),C (I 0),C (I 0),C (I 0),C (I 0),C (I 0),C (I 0),C (I 0),Z (W 1 eI ([]:List Int)),Z (W 1 eI ([]:List Int))]),(3,Oa [C (I x6.Drawing.Width),C (I x6.Drawing.Height),Z (W 2 e_S_Point x6.Drawing.Points),Z (W 2 e_S_Face x6.Drawing.Faces),Z (W 3 e_S_Veneer x6.Veneers),Z (W 9 e_S_Leaf x10),Z (W 5 e_S_Placement x14),C (I 0),C (I 0),C (I 0),C (I 0),C (I 0),C (I 0),C (I 0),C (I 0),Z (W 1 eI ([]:List Int)),Z (W 1 eI ([]:List Int))])]) (q (oFA (r':=.mp 1 0 7) j fF35_3 j j)<|q (oLd (cs:=[.im 0 _,.im 0 _,.im 0 _,.im 0 _]) j tF32 j j)<|q (oCa (xs:=[.v true [.im 0 _,.im 0 _,.im 0 _,.im 0 _]]) (vs:=[(true,[.im 0 _,.im 0 _,.im 0 _,.im 0 _])]) (v:=.v true [.im 0 _,.im 0 _,.im 0 _,.im 0 _]) (L_laws_toRules hx18) (.inl j) j kF43_32 j (ppC j pp0) j j pb0 j j j)<|q (oFA (r':=.mp 3 0 7) j fF49_3 j j)<|q (oSt tF47 j j j (tkI (tkI (tkI (tkI tk0)))) j j j)<|nl)<|us<|gs<|g1 j j (mk [(1,M 1),(2,M 2),(3,M 3)] [(1,Oa (G 2 (u_S_Job a_0))),(2,Oa [C (I 0),C (I 0),Z (W 2 e_S_Point ([]:List S_Point)),Z (W 2 e_S_Face ([]:List S_Face)),Z (W 3 e_S_Veneer ([]:List S_Veneer)),Z (W 9 e_S_Leaf ([]:List S_Leaf)),Z (W 5 e_S_Placement ([]:List S_Placement)),C (I 0),C (I 0),C (I 0),C (I 0),C (I 0),C (I 0),C (I 0),C (I 0),Z (W 1 eI ([]:List Int)),Z (W 1 eI ([]:List Int))]),(3,Oa [C (I x6.Drawing.Width),C (I x6.Drawing.Height),Z (W 2 e_S_Point x6.Drawing.Points),Z (W 2 e_S_Face x6.Drawing.Faces),Z (W 3 e_S_Veneer x6.Veneers),Z (W 9 e_S_Leaf x10),Z (W 5 e_S_Placement x14),C (I x18.Spacing),C (I x18.Margin),C (I x18.Angle),C (I x18.Shade),C (I 0),C (I 0),C (I 0),C (I 0),Z (W 1 eI ([]:List Int)),Z (W 1 eI ([]:List Int))])]) (q (oFA (r':=.mp 1 0 11) j fF35_4 j j)<|q (oLd (cs:=[.im 0 _]) j tF2 j j)<|q (oFA (r':=.mp 3 0 11) j fF49_4 j j)<|q (oSt tF2 j j j (tkI tk0) j j j)<|nl)<|us<|gs<|g1 j j (mk [(1,M 1),(2,M 2),(3,M 3)] [(1,Oa (G 2 (u_S_Job a_0))),(2,Oa [C (I 0),C (I 0),Z (W 2 e_S_Point ([]:List S_Point)),Z (W 2 e_S_Face ([]:List S_Face)),Z (W 3 e_S_Veneer ([]:List S_Veneer)),Z (W 9 e_S_Leaf ([]:List S_Leaf)),Z (W 5 e_S_Placement ([]:List S_Placement)),C (I 0),C (I 0),C (I 0),C (I 0),C (I 0),C (I 0),C (I 0),C (I 0),Z (W 1 eI ([]:List Int)),Z (W 1 eI ([]:List Int))]),(3,Oa [C (I x6.Drawing.Width),C (I x6.Drawing.Height),Z (W 2 e_S_Point x6.Drawing.Points),Z (W 2 e_S_Face x6.Drawing.Faces),Z (W 3 e_S_Veneer x6.Veneers),Z (W 9 e_S_Leaf x10),Z (W 5 e_S_Placement x14),C (I x18.Spacing),C (I x18.Margin),C (I x18.Angle),C (I x18.Shade),C (I a_0.Thickness),C (I 0),C (I 0),C (I 0),Z (W 1 eI ([]:List Int)),Z (W 1 eI ([]:List Int))])]) (q (oFA (r':=.mp 1 0 12) j fF35_5 j j)<|q (oLd (cs:=[.im 0 _]) j tF2 j j)<|q (oFA (r':=.mp 3 0 12) j fF49_5 j j)<|q (oSt tF2 j j j (tkI tk0) j j j)<|nl)<|us<|gs<|g1 j j (mk [(1,M 1),(2,M 2),(3,M 3)] [(1,Oa (G 2 (u_S_Job a_0))),(2,Oa [C (I 0),C (I 0),Z (W 2 e_S_Point ([]:List S_Point)),Z (W 2 e_S_Face ([]:List S_Face)),Z (W 3 e_S_Veneer ([]:List S_Veneer)),Z (W 9 e_S_Leaf ([]:List S_Leaf)),Z (W 5 e_S_Placement ([]:List S_Placement)),C (I 0),C (I 0),C (I 0),C (I 0),C (I 0),C (I 0),C (I 0),C (I 0),Z (W 1 eI ([]:List Int)),Z (W 1 eI ([]:List Int))]),(3,Oa [C (I x6.Drawing.Width),C (I x6.Drawing.Height),Z (W 2 e_S_Point x6.Drawing.Points),Z (W 2 e_S_Face x6.Drawing.Faces),Z (W 3 e_S_Veneer x6.Veneers),Z (W 9 e_S_Leaf x10),Z (W 5 e_S_Placement x14),C (I x18.Spacing),C (I x18.Margin),C (I x18.Angle),C (I x18.Shade),C (I a_0.Thickness),C (I a_0.Kerf),C (I 0),C (I 0),Z (W 1 eI ([]:List Int)),Z (W 1 eI ([]:List Int))])]) (q (oFA (r':=.mp 1 0 13) j fF35_6 j j)<|q (oLd (cs:=[.im 0 _]) j tF2 j j)<|q (oFA (r':=.mp 3 0 13) j fF49_6 j j)<|q (oSt tF2 j j j (tkI tk0) j j j)<|nl)<|us<|gs<|g1 j j (mk [(1,M 1),(2,M 2),(3,M 3)] [(1,Oa (G 2 (u_S_Job a_0))),(2,Oa [C (I 0),C (I 0),Z (W 2 e_S_Point ([]:List S_Point)),Z (W 2 e_S_Face ([]:List S_Face)),Z (W 3 e_S_Veneer ([]:List S_Veneer)),Z (W 9 e_S_Leaf ([]:List S_Leaf)),Z (W 5 e_S_Placement ([]:List S_Placement)),C (I 0),C (I 0),C (I 0),C (I 0),C (I 0),C (I 0),C (I 0),C (I 0),Z (W 1 eI ([]:List Int)),Z (W 1 eI ([]:List Int))]),(3,Oa [C (I x6.Drawing.Width),C (I x6.Drawing.Height),Z (W 2 e_S_Point x6.Drawing.Points),Z (W 2 e_S_Face x6.Drawing.Faces),Z (W 3 e_S_Veneer x6.Veneers),Z (W 9 e_S_Leaf x10),Z (W 5 e_S_Placement x14),C (I x18.Spacing),C (I x18.Margin),C (I x18.Angle),C (I x18.Shade),C (I a_0.Thickness),C (I a_0.Kerf),C (I a_0.Bevel),C (I 0),Z (W 1 eI ([]:List Int)),Z (W 1 eI ([]:List Int))])]) (q (oFA (r':=.mp 1 0 14) j fF35_7 j j)<|q (oLd (cs:=[.im 0 _]) j tF2 j j)<|q (oFA (r':=.mp 3 0 14) j fF49_7 j j)<|q (oSt tF2 j j j (tkI tk0) j j j)<|nl)<|us<|gs<|?_
 obtain ⟨x34,hx34,h⟩:=bs h
 refine g1 j j (mk [(1,M 1),(2,M 2),(3,M 3)] [(1,Oa (G 2 (u_S_Job a_0))),(2,Oa [C (I 0),C (I 0),Z (W 2 e_S_Point ([]:List S_Point)),Z (W 2 e_S_Face ([]:List S_Face)),Z (W 3 e_S_Veneer ([]:List S_Veneer)),Z (W 9 e_S_Leaf ([]:List S_Leaf)),Z (W 5 e_S_Placement ([]:List S_Placement)),C (I 0),C (I 0),C (I 0),C (I 0),C (I 0),C (I 0),C (I 0),C (I 0),Z (W 1 eI ([]:List Int)),Z (W 1 eI ([]:List Int))]),(3,Oa [C (I x6.Drawing.Width),C (I x6.Drawing.Height),Z (W 2 e_S_Point x6.Drawing.Points),Z (W 2 e_S_Face x6.Drawing.Faces),Z (W 3 e_S_Veneer x6.Veneers),Z (W 9 e_S_Leaf x10),Z (W 5 e_S_Placement x14),C (I x18.Spacing),C (I x18.Margin),C (I x18.Angle),C (I x18.Shade),C (I a_0.Thickness),C (I a_0.Kerf),C (I a_0.Bevel),C (I a_0.Gap),Z (W 1 eI ([]:List Int)),Z (W 1 eI ([]:List Int))])]) (q (oFA (r':=.mp 1 0 15) j fF35_8 j j)<|q (oLd (cs:=[.im 2 _]) j tF33 j j)<|q (oCr (xs:=[.v false [.im 2 _]]) (vs:=[(false,[.own 34 0 0])]) (v:=.v false [.own 34 0 0]) (c:=⟨.sh,0,_⟩) (cs:=[]) (L_laws_toInt64S hx34) (.inl j) j kF44_33 j (ppC j pp0) j j pb0 j j j)<|q (oFA (r':=.mp 3 0 15) j fF49_8 j j)<|q (oSt tF33 j j j (tkO j j tk0) j j j)<|nl)<|us<|gs<|?_
 obtain ⟨x38,hx38,h⟩:=bs h
 refine g1 j j (mk [(1,M 1),(2,M 2),(3,M 3)] [(1,Oa (G 2 (u_S_Job a_0))),(2,Oa [C (I 0),C (I 0),Z (W 2 e_S_Point ([]:List S_Point)),Z (W 2 e_S_Face ([]:List S_Face)),Z (W 3 e_S_Veneer ([]:List S_Veneer)),Z (W 9 e_S_Leaf ([]:List S_Leaf)),Z (W 5 e_S_Placement ([]:List S_Placement)),C (I 0),C (I 0),C (I 0),C (I 0),C (I 0),C (I 0),C (I 0),C (I 0),Z (W 1 eI ([]:List Int)),Z (W 1 eI ([]:List Int))]),(3,Oa [C (I x6.Drawing.Width),C (I x6.Drawing.Height),Z (W 2 e_S_Point x6.Drawing.Points),Z (W 2 e_S_Face x6.Drawing.Faces),Z (W 3 e_S_Veneer x6.Veneers),Z (W 9 e_S_Leaf x10),Z (W 5 e_S_Placement x14),C (I x18.Spacing),C (I x18.Margin),C (I x18.Angle),C (I x18.Shade),C (I a_0.Thickness),C (I a_0.Kerf),C (I a_0.Bevel),C (I a_0.Gap),Z (W 1 eI x34),Z (W 1 eI ([]:List Int))])]) (q (oFA (r':=.mp 1 0 16) j fF35_9 j j)<|q (oLd (cs:=[.im 2 _]) j tF33 j j)<|q (oCr (xs:=[.v false [.im 2 _]]) (vs:=[(false,[.own 38 0 0])]) (v:=.v false [.own 38 0 0]) (c:=⟨.sh,0,_⟩) (cs:=[]) (L_laws_toInt64S hx38) (.inl j) j kF44_33 j (ppC j pp0) j j pb0 j j j)<|q (oFA (r':=.mp 3 0 16) j fF49_9 j j)<|q (oSt tF33 j j j (tkO j j tk0) j j j)<|nl)<|us<|gs<|g1 j j (mk [(2,M 2),(3,M 3)] [(2,Oa [C (I 0),C (I 0),Z (W 2 e_S_Point ([]:List S_Point)),Z (W 2 e_S_Face ([]:List S_Face)),Z (W 3 e_S_Veneer ([]:List S_Veneer)),Z (W 9 e_S_Leaf ([]:List S_Leaf)),Z (W 5 e_S_Placement ([]:List S_Placement)),C (I 0),C (I 0),C (I 0),C (I 0),C (I 0),C (I 0),C (I 0),C (I 0),Z (W 1 eI ([]:List Int)),Z (W 1 eI ([]:List Int))]),(3,Oa [C (I x6.Drawing.Width),C (I x6.Drawing.Height),Z (W 2 e_S_Point x6.Drawing.Points),Z (W 2 e_S_Face x6.Drawing.Faces),Z (W 3 e_S_Veneer x6.Veneers),Z (W 9 e_S_Leaf x10),Z (W 5 e_S_Placement x14),C (I x18.Spacing),C (I x18.Margin),C (I x18.Angle),C (I x18.Shade),C (I a_0.Thickness),C (I a_0.Kerf),C (I a_0.Bevel),C (I a_0.Gap),Z (W 1 eI x34),Z (W 1 eI x38)])]) (q (oLd (cs:=[.im 0 _,.im 0 _,.own 3 0 2,.own 3 0 3,.own 3 0 4,.own 3 0 5,.own 3 0 6,.im 0 _,.im 0 _,.im 0 _,.im 0 _,.im 0 _,.im 0 _,.im 0 _,.im 0 _,.own 3 0 15,.own 3 0 16]) j tF49 j j)<|q (oSt tF49 j j j (tkI (tkI (tkO j j (tkO j j (tkO j j (tkO j j (tkO j j (tkI (tkI (tkI (tkI (tkI (tkI (tkI (tkI (tkO j j (tkO j j tk0))))))))))))))))) j j j)<|nl)<|us<|Go.ret (Unw.ret ?_)
 cases h
 exact fr rF10 j
theorem L_laws_toBond {a_0:S_Bond} {r:S_Bond} (h:laws_toBond a_0=some r):FX 130 [.im 2 true (u_S_Bond a_0)] (B0 [(true,J 0 (u_S_Bond r))]):=by
 unfold laws_toBond at h
 refine gn 17 Tryz.func130 rfl ?_
 refine gs<|g0 j j (q (oBx j tF203 j (tkI (tkI (tkI (tkI tk0)))))<|q (oAl j tF209 (tkI (tkI (tkI (tkI tk0)))))<|nl)<|us<|gs<|g0 j j (q (oAl j tF209 (tkI (tkI (tkI (tkI tk0)))))<|nl)<|us<|gs<|g0 j j (q (oFA (r':=.mp 1 0 0) j fF203_0 j j)<|q (oLd (cs:=[.im 0 _]) j tF9 j j)<|q (oFA (r':=.mp 3 0 0) j fF209_0 j j)<|q (oSt tF9 j j j (tkI tk0) j j j)<|nl)<|us<|gs<|g1 j j (mk [(1,M 1),(2,M 2),(3,M 3)] [(1,Oa (G 0 (u_S_Bond a_0))),(2,Oa [C (Y (⟨#[]⟩:ByteArray)),C (I 0),C (I 0),C (I 0)]),(3,Oa [C (Y a_0.Name),C (I 0),C (I 0),C (I 0)])]) (q (oFA (r':=.mp 1 0 1) j fF203_1 j j)<|q (oLd (cs:=[.im 0 _]) j tF2 j j)<|q (oFA (r':=.mp 3 0 1) j fF209_1 j j)<|q (oSt tF2 j j j (tkI tk0) j j j)<|nl)<|us<|gs<|g1 j j (mk [(1,M 1),(2,M 2),(3,M 3)] [(1,Oa (G 0 (u_S_Bond a_0))),(2,Oa [C (Y (⟨#[]⟩:ByteArray)),C (I 0),C (I 0),C (I 0)]),(3,Oa [C (Y a_0.Name),C (I a_0.Spread),C (I 0),C (I 0)])]) (q (oFA (r':=.mp 1 0 2) j fF203_2 j j)<|q (oLd (cs:=[.im 0 _]) j tF2 j j)<|q (oFA (r':=.mp 3 0 2) j fF209_2 j j)<|q (oSt tF2 j j j (tkI tk0) j j j)<|nl)<|us<|gs<|g1 j j (mk [(1,M 1),(2,M 2),(3,M 3)] [(1,Oa (G 0 (u_S_Bond a_0))),(2,Oa [C (Y (⟨#[]⟩:ByteArray)),C (I 0),C (I 0),C (I 0)]),(3,Oa [C (Y a_0.Name),C (I a_0.Spread),C (I a_0.Open),C (I 0)])]) (q (oFA (r':=.mp 1 0 3) j fF203_3 j j)<|q (oLd (cs:=[.im 0 _]) j tF2 j j)<|q (oFA (r':=.mp 3 0 3) j fF209_3 j j)<|q (oSt tF2 j j j (tkI tk0) j j j)<|nl)<|us<|gs<|g1 j j (mk [(2,M 2),(3,M 3)] [(2,Oa [C (Y (⟨#[]⟩:ByteArray)),C (I 0),C (I 0),C (I 0)]),(3,Oa (G 0 (u_S_Bond a_0)))]) (q (oLd (cs:=[.im 0 _,.im 0 _,.im 0 _,.im 0 _]) j tF209 j j)<|q (oSt tF209 j j j (tkI (tkI (tkI (tkI tk0)))) j j j)<|nl)<|us<|Go.ret (Unw.ret ?_)
 cases h
 exact fr rF130 j
theorem L_laws_toBondS {a_0:(List S_Bond)} {r:(List S_Bond)} (h:laws_toBondS a_0=some r):FX 77 [.im 2 false [W 4 e_S_Bond a_0]] (B0 [(false,[.ow 0 4 (List.map e_S_Bond r)])]):=by
 unfold laws_toBondS at h
 refine gn 23 Tryz.func77 rfl ?_
 refine gs<|g0 j j (q (oAsN j j eF78)<|nl)<|us<|gs<|?_
 obtain ⟨x7,hx7,h⟩:=bs h
 refine g0 j j (q (oMv j j)<|q (oLnI j j uF70 j)<|q (oMk (en:=e_S_Bond) j hx7 j sF78 j j (fxI (fxI (fxI (fxI fx0)))) j (flat0 (L:=[_]) j fun _=>j))<|q (oAsO j j j j j)<|nl)<|us<|gs<|gs<|g0 j j (q (oAsI j j)<|nl)<|us<|Go.block<|?_
 obtain ⟨o,hl,h⟩:=bs h
 refine gl c77 j _ (fun (s:(Int×(List S_Bond)))=>match s with | (i_4_l3,out_o3_l3)=>mk [(0,D 2 (W 4 e_S_Bond a_0)),(3,H 3 0),(4,iv i_4_l3)] [(3,Oc [Z (W 4 e_S_Bond out_o3_l3)])]) (fun (out_o3_e0_3:(List S_Bond)) (p:Ex×St)=>p.1= .exit 0∧p.2.norm ([3],[3])=mk [(3,H 3 0)] [(3,Oc [Z (W 4 e_S_Bond out_o3_e0_3)])]) hl (by kernel_rfl) ?_ ?_ ?_
 ·intro o p hp e
  exact nomatch (hp.1.symm.trans e)
 ·rintro ⟨i_4_l3,out_o3_l3⟩ o h
  unfold laws_toBondS_l3 at h
  dsimp only at h
  refine gs<|gs<|g0 j j (q (oMv j j)<|q (oMv j j)<|q (oLnI j j uF70 j)<|q (oBi j j j j)<|nl)<|us<|gc h j iDec (fun hc3 h=>?_) fun hc3 h=>?_
  ·refine Go.skip<|us<|gs<|Go.block<|?_
   obtain ⟨x18,hx18,h⟩:=bs h
   obtain ⟨x20,hx20,h⟩:=bs h
   obtain ⟨x21,hx21,h⟩:=bs h
   refine g0 j j (q (oMv j j)<|q (oMv j j)<|q (oMv j j)<|q (oMv j j)<|q (oIAI j hx18 sF70 j j)<|q (oLd (cs:=[.im 2 _,.im 2 _,.im 2 _,.im 2 _]) j tF203 j j)<|q (oCa (xs:=[.v true [.im 2 _,.im 2 _,.im 2 _,.im 2 _]]) (vs:=[(true,[.im 0 _,.im 0 _,.im 0 _,.im 0 _])]) (v:=.v true [.im 0 _,.im 0 _,.im 0 _,.im 0 _]) (L_laws_toBond hx20) (.inl j) j kF130_203 j (ppC j pp0) j j pb0 j j j)<|q (oIAO j hx21 sF78 j j j j)<|q (oStE (v':=x20) tF209 j j j (fxI (fxI (fxI (fxI fx0)))) j j (rd_get hx21) j)<|nl)<|Unw.blk<|us<|g1 j j (mk [(0,D 2 (W 4 e_S_Bond a_0)),(3,H 3 0),(4,iv i_4_l3)] [(3,Oc [Z (W 4 e_S_Bond (out_o3_l3.set i_4_l3.toNat x20))])]) (q (oMv j j)<|q (oBi j j j j)<|q (oAsI j j)<|nl)<|Unw.nil<|?_
   cases h
   exact ⟨j,(by kernel_rfl)⟩
  ·refine Go.exit<|ux<|Unw.nil<|?_
   cases h
   exact ⟨j,(by kernel_rfl)⟩
 ·rintro ⟨e,st⟩ hp
  obtain ⟨out_o3_e0_3,rfl⟩:∃y,y=o:=⟨o,rfl⟩
  obtain ⟨he,hst⟩:=hp
  obtain rfl:e= .exit 0:=he
  refine Unw.blkx<|us<|gs<|g2 c77 j j hst (q (oMv j j)<|q (oAsO j j j j j)<|nl)<|us<|Go.ret (Unw.ret ?_)
  cases h
  exact fr rF77 j
theorem L_laws_toCoat {a_0:S_Coat} {r:S_Coat} (h:laws_toCoat a_0=some r):FX 131 [.im 2 true (u_S_Coat a_0)] (B0 [(true,J 0 (u_S_Coat r))]):=by
 unfold laws_toCoat at h
 refine gn 17 Tryz.func131 rfl ?_
 refine gs<|g0 j j (q (oBx j tF206 j (tkI (tkI (tkI (tkI tk0)))))<|q (oAl j tF211 (tkI (tkI (tkI (tkI tk0)))))<|nl)<|us<|gs<|g0 j j (q (oAl j tF211 (tkI (tkI (tkI (tkI tk0)))))<|nl)<|us<|gs<|g0 j j (q (oFA (r':=.mp 1 0 0) j fF206_0 j j)<|q (oLd (cs:=[.im 0 _]) j tF9 j j)<|q (oFA (r':=.mp 3 0 0) j fF211_0 j j)<|q (oSt tF9 j j j (tkI tk0) j j j)<|nl)<|us<|gs<|g1 j j (mk [(1,M 1),(2,M 2),(3,M 3)] [(1,Oa (G 0 (u_S_Coat a_0))),(2,Oa [C (Y (⟨#[]⟩:ByteArray)),C (I 0),C (I 0),C (I 0)]),(3,Oa [C (Y a_0.Name),C (I 0),C (I 0),C (I 0)])]) (q (oFA (r':=.mp 1 0 1) j fF206_1 j j)<|q (oLd (cs:=[.im 0 _]) j tF2 j j)<|q (oFA (r':=.mp 3 0 1) j fF211_1 j j)<|q (oSt tF2 j j j (tkI tk0) j j j)<|nl)<|us<|gs<|g1 j j (mk [(1,M 1),(2,M 2),(3,M 3)] [(1,Oa (G 0 (u_S_Coat a_0))),(2,Oa [C (Y (⟨#[]⟩:ByteArray)),C (I 0),C (I 0),C (I 0)]),(3,Oa [C (Y a_0.Name),C (I a_0.Work),C (I 0),C (I 0)])]) (q (oFA (r':=.mp 1 0 2) j fF206_2 j j)<|q (oLd (cs:=[.im 0 _]) j tF2 j j)<|q (oFA (r':=.mp 3 0 2) j fF211_2 j j)<|q (oSt tF2 j j j (tkI tk0) j j j)<|nl)<|us<|gs<|g1 j j (mk [(1,M 1),(2,M 2),(3,M 3)] [(1,Oa (G 0 (u_S_Coat a_0))),(2,Oa [C (Y (⟨#[]⟩:ByteArray)),C (I 0),C (I 0),C (I 0)]),(3,Oa [C (Y a_0.Name),C (I a_0.Work),C (I a_0.Dry),C (I 0)])]) (q (oFA (r':=.mp 1 0 3) j fF206_3 j j)<|q (oLd (cs:=[.im 0 _]) j tF2 j j)<|q (oFA (r':=.mp 3 0 3) j fF211_3 j j)<|q (oSt tF2 j j j (tkI tk0) j j j)<|nl)<|us<|gs<|g1 j j (mk [(2,M 2),(3,M 3)] [(2,Oa [C (Y (⟨#[]⟩:ByteArray)),C (I 0),C (I 0),C (I 0)]),(3,Oa (G 0 (u_S_Coat a_0)))]) (q (oLd (cs:=[.im 0 _,.im 0 _,.im 0 _,.im 0 _]) j tF211 j j)<|q (oSt tF211 j j j (tkI (tkI (tkI (tkI tk0)))) j j j)<|nl)<|us<|Go.ret (Unw.ret ?_)
 cases h
 exact fr rF131 j
theorem L_laws_toCoatS {a_0:(List S_Coat)} {r:(List S_Coat)} (h:laws_toCoatS a_0=some r):FX 78 [.im 2 false [W 4 e_S_Coat a_0]] (B0 [(false,[.ow 0 4 (List.map e_S_Coat r)])]):=by
 unfold laws_toCoatS at h
 refine gn 23 Tryz.func78 rfl ?_
 refine gs<|g0 j j (q (oAsN j j eF79)<|nl)<|us<|gs<|?_
 obtain ⟨x7,hx7,h⟩:=bs h
 refine g0 j j (q (oMv j j)<|q (oLnI j j uF71 j)<|q (oMk (en:=e_S_Coat) j hx7 j sF79 j j (fxI (fxI (fxI (fxI fx0)))) j (flat0 (L:=[_]) j fun _=>j))<|q (oAsO j j j j j)<|nl)<|us<|gs<|gs<|g0 j j (q (oAsI j j)<|nl)<|us<|Go.block<|?_
 obtain ⟨o,hl,h⟩:=bs h
 refine gl c78 j _ (fun (s:(Int×(List S_Coat)))=>match s with | (i_4_l3,out_o3_l3)=>mk [(0,D 2 (W 4 e_S_Coat a_0)),(3,H 3 0),(4,iv i_4_l3)] [(3,Oc [Z (W 4 e_S_Coat out_o3_l3)])]) (fun (out_o3_e0_3:(List S_Coat)) (p:Ex×St)=>p.1= .exit 0∧p.2.norm ([3],[3])=mk [(3,H 3 0)] [(3,Oc [Z (W 4 e_S_Coat out_o3_e0_3)])]) hl (by kernel_rfl) ?_ ?_ ?_
 ·intro o p hp e
  exact nomatch (hp.1.symm.trans e)
 ·rintro ⟨i_4_l3,out_o3_l3⟩ o h
  unfold laws_toCoatS_l3 at h
  dsimp only at h
  refine gs<|gs<|g0 j j (q (oMv j j)<|q (oMv j j)<|q (oLnI j j uF71 j)<|q (oBi j j j j)<|nl)<|us<|gc h j iDec (fun hc3 h=>?_) fun hc3 h=>?_
  ·refine Go.skip<|us<|gs<|Go.block<|?_
   obtain ⟨x18,hx18,h⟩:=bs h
   obtain ⟨x20,hx20,h⟩:=bs h
   obtain ⟨x21,hx21,h⟩:=bs h
   refine g0 j j (q (oMv j j)<|q (oMv j j)<|q (oMv j j)<|q (oMv j j)<|q (oIAI j hx18 sF71 j j)<|q (oLd (cs:=[.im 2 _,.im 2 _,.im 2 _,.im 2 _]) j tF206 j j)<|q (oCa (xs:=[.v true [.im 2 _,.im 2 _,.im 2 _,.im 2 _]]) (vs:=[(true,[.im 0 _,.im 0 _,.im 0 _,.im 0 _])]) (v:=.v true [.im 0 _,.im 0 _,.im 0 _,.im 0 _]) (L_laws_toCoat hx20) (.inl j) j kF131_206 j (ppC j pp0) j j pb0 j j j)<|q (oIAO j hx21 sF79 j j j j)<|q (oStE (v':=x20) tF211 j j j (fxI (fxI (fxI (fxI fx0)))) j j (rd_get hx21) j)<|nl)<|Unw.blk<|us<|g1 j j (mk [(0,D 2 (W 4 e_S_Coat a_0)),(3,H 3 0),(4,iv i_4_l3)] [(3,Oc [Z (W 4 e_S_Coat (out_o3_l3.set i_4_l3.toNat x20))])]) (q (oMv j j)<|q (oBi j j j j)<|q (oAsI j j)<|nl)<|Unw.nil<|?_
   cases h
   exact ⟨j,(by kernel_rfl)⟩
  ·refine Go.exit<|ux<|Unw.nil<|?_
   cases h
   exact ⟨j,(by kernel_rfl)⟩
 ·rintro ⟨e,st⟩ hp
  obtain ⟨out_o3_e0_3,rfl⟩:∃y,y=o:=⟨o,rfl⟩
  obtain ⟨he,hst⟩:=hp
  obtain rfl:e= .exit 0:=he
  refine Unw.blkx<|us<|gs<|g2 c78 j j hst (q (oMv j j)<|q (oAsO j j j j j)<|nl)<|us<|Go.ret (Unw.ret ?_)
  cases h
  exact fr rF78 j
theorem L_laws_toRates {a_0:S_Rates} {r:S_Rates} (h:laws_toRates a_0=some r):FX 79 [.im 2 true (u_S_Rates a_0)] (B0 [(true,J 0 (u_S_Rates r))]):=by
 unfold laws_toRates at h
 refine gn 20 Tryz.func79 rfl ?_
 refine gs<|g0 j j (q (oBx j tF73 j (tkI (tkI (tkI (tkI (tkI tk0))))))<|q (oAl j tF80 (tkI (tkI (tkI (tkI (tkI tk0))))))<|nl)<|us<|gs<|g1 j j (mk [(1,M 1),(2,M 2)] [(1,Oa (G 0 (u_S_Rates a_0))),(2,Oa [C (I 0),C (I 0),C (I 0),C (I 0),C (I 0)])]) (q (oAl j tF80 (tkI (tkI (tkI (tkI (tkI tk0))))))<|nl)<|us<|gs<|g1 j j (mk [(1,M 1),(2,M 2),(3,M 3)] [(1,Oa (G 0 (u_S_Rates a_0))),(2,Oa [C (I 0),C (I 0),C (I 0),C (I 0),C (I 0)]),(3,Oa [C (I 0),C (I 0),C (I 0),C (I 0),C (I 0)])]) (q (oFA (r':=.mp 1 0 0) j fF73_0 j j)<|q (oLd (cs:=[.im 0 _]) j tF2 j j)<|q (oFA (r':=.mp 3 0 0) j fF80_0 j j)<|q (oSt tF2 j j j (tkI tk0) j j j)<|nl)<|us<|gs<|g1 j j (mk [(1,M 1),(2,M 2),(3,M 3)] [(1,Oa (G 0 (u_S_Rates a_0))),(2,Oa [C (I 0),C (I 0),C (I 0),C (I 0),C (I 0)]),(3,Oa [C (I a_0.Hour),C (I 0),C (I 0),C (I 0),C (I 0)])]) (q (oFA (r':=.mp 1 0 1) j fF73_1 j j)<|q (oLd (cs:=[.im 0 _]) j tF2 j j)<|q (oFA (r':=.mp 3 0 1) j fF80_1 j j)<|q (oSt tF2 j j j (tkI tk0) j j j)<|nl)<|us<|gs<|g1 j j (mk [(1,M 1),(2,M 2),(3,M 3)] [(1,Oa (G 0 (u_S_Rates a_0))),(2,Oa [C (I 0),C (I 0),C (I 0),C (I 0),C (I 0)]),(3,Oa [C (I a_0.Hour),C (I a_0.Edge),C (I 0),C (I 0),C (I 0)])]) (q (oFA (r':=.mp 1 0 2) j fF73_2 j j)<|q (oLd (cs:=[.im 0 _]) j tF2 j j)<|q (oFA (r':=.mp 3 0 2) j fF80_2 j j)<|q (oSt tF2 j j j (tkI tk0) j j j)<|nl)<|us<|gs<|g1 j j (mk [(1,M 1),(2,M 2),(3,M 3)] [(1,Oa (G 0 (u_S_Rates a_0))),(2,Oa [C (I 0),C (I 0),C (I 0),C (I 0),C (I 0)]),(3,Oa [C (I a_0.Hour),C (I a_0.Edge),C (I a_0.Face),C (I 0),C (I 0)])]) (q (oFA (r':=.mp 1 0 3) j fF73_3 j j)<|q (oLd (cs:=[.im 0 _]) j tF2 j j)<|q (oFA (r':=.mp 3 0 3) j fF80_3 j j)<|q (oSt tF2 j j j (tkI tk0) j j j)<|nl)<|us<|gs<|g1 j j (mk [(1,M 1),(2,M 2),(3,M 3)] [(1,Oa (G 0 (u_S_Rates a_0))),(2,Oa [C (I 0),C (I 0),C (I 0),C (I 0),C (I 0)]),(3,Oa [C (I a_0.Hour),C (I a_0.Edge),C (I a_0.Face),C (I a_0.Waste),C (I 0)])]) (q (oFA (r':=.mp 1 0 4) j fF73_4 j j)<|q (oLd (cs:=[.im 0 _]) j tF2 j j)<|q (oFA (r':=.mp 3 0 4) j fF80_4 j j)<|q (oSt tF2 j j j (tkI tk0) j j j)<|nl)<|us<|gs<|g1 j j (mk [(2,M 2),(3,M 3)] [(2,Oa [C (I 0),C (I 0),C (I 0),C (I 0),C (I 0)]),(3,Oa (G 0 (u_S_Rates a_0)))]) (q (oLd (cs:=[.im 0 _,.im 0 _,.im 0 _,.im 0 _,.im 0 _]) j tF80 j j)<|q (oSt tF80 j j j (tkI (tkI (tkI (tkI (tkI tk0))))) j j j)<|nl)<|us<|Go.ret (Unw.ret ?_)
 cases h
 exact fr rF79 j
end
end Go.Proofs.YtonnimmkimccfaaGreat
