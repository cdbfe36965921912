/- The machine answers, at each function of the program that is reached, what its plain function answers: a further part. Conditions: none. -/
import Derived.Test.YtambonpepalofaaTsdLa
namespace Go.Proofs.Ytambonpepalofaa
open Go Go.Sim Go.Pw Go.Proofs
set_option linter.unusedVariables false
set_option linter.unusedSimpArgs false
set_option maxRecDepth 100000
set_option maxHeartbeats 4000000
noncomputable section
theorem L_spec_l09Same {a_0:S_Leaf} {b_1:S_Leaf} {r:Bool} (h:spec_l09Same a_0 b_1=some r):FX 250 [.im 2 false [.cp (u_S_Leaf a_0) 0],.im 2 false [.cp (u_S_Leaf b_1) 0]] (B0 [(false,[.im 0 (V r)])]):=by
 unfold spec_l09Same at h
 refine gn 107 Try.func250 rfl ?_
 refine gs<|g0 j j (q (oAsI j j)<|nl)<|us<|gs<|gs<|gd c250 j j j j (mk [(0,D 2 (.cp (u_S_Leaf a_0) 0)),(1,D 2 (.cp (u_S_Leaf b_1) 0)),(82,bv ((!(a_0.Id.toList==b_1.Id.toList))||((!(a_0.Flitch.toList==b_1.Flitch.toList))||((a_0.Number != b_1.Number)||((!((a_0.Veneer.Species.toList==b_1.Veneer.Species.toList)&&((a_0.Veneer.Shade==b_1.Veneer.Shade)&&(a_0.Veneer.Grain==b_1.Veneer.Grain))))||((a_0.Width != b_1.Width)||((a_0.Length != b_1.Length)||((a_0.Defects.length:Int) != (b_1.Defects.length:Int)))))))))] []) ?_ ?_
 ·refine t j j (oMv j j)<|t j j (oNl j j j)<|t j j (oFA (r':=.im 2 _) j fF107_0 j j)<|t j j (oLd (cs:=[.im 2 _]) j tF9 j j)<|t j j (oMv j j)<|t j j (oNl j j j)<|t j j (oFA (r':=.im 2 _) j fF107_0 j j)<|t j j (oLd (cs:=[.im 2 _]) j tF9 j j)<|t j j (oBi j j j j)<|t j j (oMv j j)<|?_
  by_cases hc1:¬(a_0.Id=b_1.Id)
  ·exact tF rfl rfl rfl rfl ((iNot iStr).2 hc1) rfl<|tF rfl rfl rfl rfl ((iNot iStr).2 hc1) rfl<|tF rfl rfl rfl rfl ((iNot iStr).2 hc1) rfl<|tF rfl rfl rfl rfl ((iNot iStr).2 hc1) rfl<|tF rfl rfl rfl rfl ((iNot iStr).2 hc1) rfl<|tF rfl rfl rfl rfl ((iNot iStr).2 hc1) rfl<|tF rfl rfl rfl rfl ((iNot iStr).2 hc1) rfl<|tF rfl rfl rfl rfl ((iNot iStr).2 hc1) rfl<|tF rfl rfl rfl rfl ((iNot iStr).2 hc1) rfl<|t rfl rfl (oPkT rfl rfl ((iNot iStr).2 hc1) rfl)<|t rfl rfl (oMv rfl rfl)<|tF rfl rfl rfl rfl rfl rfl<|tF rfl rfl rfl rfl rfl rfl<|tF rfl rfl rfl rfl rfl rfl<|tF rfl rfl rfl rfl rfl rfl<|tF rfl rfl rfl rfl rfl rfl<|tF rfl rfl rfl rfl rfl rfl<|tF rfl rfl rfl rfl rfl rfl<|tF rfl rfl rfl rfl rfl rfl<|tF rfl rfl rfl rfl rfl rfl<|t rfl rfl (oPkT rfl rfl rfl rfl)<|t rfl rfl (oMv rfl rfl)<|tF rfl rfl rfl rfl rfl rfl<|tF rfl rfl rfl rfl rfl rfl<|tF rfl rfl rfl rfl rfl rfl<|tF rfl rfl rfl rfl rfl rfl<|tF rfl rfl rfl rfl rfl rfl<|tF rfl rfl rfl rfl rfl rfl<|tF rfl rfl rfl rfl rfl rfl<|tF rfl rfl rfl rfl rfl rfl<|tF rfl rfl rfl rfl rfl rfl<|t rfl rfl (oPkT rfl rfl rfl rfl)<|t rfl rfl (oMv rfl rfl)<|tF rfl rfl rfl rfl rfl rfl<|tF rfl rfl rfl rfl rfl rfl<|tF rfl rfl rfl rfl rfl rfl<|tF rfl rfl rfl rfl rfl rfl<|tF rfl rfl rfl rfl rfl rfl<|tF rfl rfl rfl rfl rfl rfl<|tF rfl rfl rfl rfl rfl rfl<|tF rfl rfl rfl rfl rfl rfl<|tF rfl rfl rfl rfl rfl rfl<|t rfl rfl (oPkT rfl rfl rfl rfl)<|t rfl rfl (oMv rfl rfl)<|tF rfl rfl rfl rfl rfl rfl<|tF rfl rfl rfl rfl rfl rfl<|tF rfl rfl rfl rfl rfl rfl<|tF rfl rfl rfl rfl rfl rfl<|tF rfl rfl rfl rfl rfl rfl<|tF rfl rfl rfl rfl rfl rfl<|tF rfl rfl rfl rfl rfl rfl<|tF rfl rfl rfl rfl rfl rfl<|tF rfl rfl rfl rfl rfl rfl<|t rfl rfl (oPkT rfl rfl rfl rfl)<|t rfl rfl (oMv rfl rfl)<|tF rfl rfl rfl rfl rfl rfl<|tF rfl rfl rfl rfl rfl rfl<|tF rfl rfl rfl rfl rfl rfl<|tF rfl rfl rfl rfl rfl rfl<|tF rfl rfl rfl rfl rfl rfl<|tF rfl rfl rfl rfl rfl rfl<|tF rfl rfl rfl rfl rfl rfl<|tF rfl rfl rfl rfl rfl rfl<|tF rfl rfl rfl rfl rfl rfl<|tF rfl rfl rfl rfl rfl rfl<|tF rfl rfl rfl rfl rfl rfl<|t rfl rfl (oPkT rfl rfl rfl rfl)<|sD (Eq.trans (b:=(fun t_82_m1:Bool=>mk [(0,D 2 (.cp (u_S_Leaf a_0) 0)),(1,D 2 (.cp (u_S_Leaf b_1) 0)),(82,bv t_82_m1)] []) true) (by kernel_rfl) (congrArg (fun t_82_m1:Bool=>mk [(0,D 2 (.cp (u_S_Leaf a_0) 0)),(1,D 2 (.cp (u_S_Leaf b_1) 0)),(82,bv t_82_m1)] []) (by first | rfl | (simp [((iNot iStr).2 hc1)];done) | (simp [((iNot iStr).2 hc1)];omega))))
  ·refine tT j j j j (byF (iNot iStr) hc1) (oMv j j)<|tT j j j j (byF (iNot iStr) hc1) (oNl j j j)<|tT j j j j (byF (iNot iStr) hc1) (oFA (r':=.im 2 _) j fF107_1 j j)<|tT j j j j (byF (iNot iStr) hc1) (oLd (cs:=[.im 2 _]) j tF9 j j)<|tT j j j j (byF (iNot iStr) hc1) (oMv j j)<|tT j j j j (byF (iNot iStr) hc1) (oNl j j j)<|tT j j j j (byF (iNot iStr) hc1) (oFA (r':=.im 2 _) j fF107_1 j j)<|tT j j j j (byF (iNot iStr) hc1) (oLd (cs:=[.im 2 _]) j tF9 j j)<|tT j j j j (byF (iNot iStr) hc1) (oBi j j j j)<|t j j (oPkF j j (byF (iNot iStr) hc1) j)<|t j j (oMv j j)<|?_
   by_cases hc2:¬(a_0.Flitch=b_1.Flitch)
   ·exact tF rfl rfl rfl rfl ((iNot iStr).2 hc2) rfl<|tF rfl rfl rfl rfl ((iNot iStr).2 hc2) rfl<|tF rfl rfl rfl rfl ((iNot iStr).2 hc2) rfl<|tF rfl rfl rfl rfl ((iNot iStr).2 hc2) rfl<|tF rfl rfl rfl rfl ((iNot iStr).2 hc2) rfl<|tF rfl rfl rfl rfl ((iNot iStr).2 hc2) rfl<|tF rfl rfl rfl rfl ((iNot iStr).2 hc2) rfl<|tF rfl rfl rfl rfl ((iNot iStr).2 hc2) rfl<|tF rfl rfl rfl rfl ((iNot iStr).2 hc2) rfl<|t rfl rfl (oPkT rfl rfl ((iNot iStr).2 hc2) rfl)<|t rfl rfl (oMv rfl rfl)<|tF rfl rfl rfl rfl rfl rfl<|tF rfl rfl rfl rfl rfl rfl<|tF rfl rfl rfl rfl rfl rfl<|tF rfl rfl rfl rfl rfl rfl<|tF rfl rfl rfl rfl rfl rfl<|tF rfl rfl rfl rfl rfl rfl<|tF rfl rfl rfl rfl rfl rfl<|tF rfl rfl rfl rfl rfl rfl<|tF rfl rfl rfl rfl rfl rfl<|t rfl rfl (oPkT rfl rfl rfl rfl)<|t rfl rfl (oMv rfl rfl)<|tF rfl rfl rfl rfl rfl rfl<|tF rfl rfl rfl rfl rfl rfl<|tF rfl rfl rfl rfl rfl rfl<|tF rfl rfl rfl rfl rfl rfl<|tF rfl rfl rfl rfl rfl rfl<|tF rfl rfl rfl rfl rfl rfl<|tF rfl rfl rfl rfl rfl rfl<|tF rfl rfl rfl rfl rfl rfl<|tF rfl rfl rfl rfl rfl rfl<|t rfl rfl (oPkT rfl rfl rfl rfl)<|t rfl rfl (oMv rfl rfl)<|tF rfl rfl rfl rfl rfl rfl<|tF rfl rfl rfl rfl rfl rfl<|tF rfl rfl rfl rfl rfl rfl<|tF rfl rfl rfl rfl rfl rfl<|tF rfl rfl rfl rfl rfl rfl<|tF rfl rfl rfl rfl rfl rfl<|tF rfl rfl rfl rfl rfl rfl<|tF rfl rfl rfl rfl rfl rfl<|tF rfl rfl rfl rfl rfl rfl<|t rfl rfl (oPkT rfl rfl rfl rfl)<|t rfl rfl (oMv rfl rfl)<|tF rfl rfl rfl rfl rfl rfl<|tF rfl rfl rfl rfl rfl rfl<|tF rfl rfl rfl rfl rfl rfl<|tF rfl rfl rfl rfl rfl rfl<|tF rfl rfl rfl rfl rfl rfl<|tF rfl rfl rfl rfl rfl rfl<|tF rfl rfl rfl rfl rfl rfl<|tF rfl rfl rfl rfl rfl rfl<|tF rfl rfl rfl rfl rfl rfl<|tF rfl rfl rfl rfl rfl rfl<|tF rfl rfl rfl rfl rfl rfl<|t rfl rfl (oPkT rfl rfl rfl rfl)<|sD (Eq.trans (b:=(fun t_82_m1:Bool=>mk [(0,D 2 (.cp (u_S_Leaf a_0) 0)),(1,D 2 (.cp (u_S_Leaf b_1) 0)),(82,bv t_82_m1)] []) true) (by kernel_rfl) (congrArg (fun t_82_m1:Bool=>mk [(0,D 2 (.cp (u_S_Leaf a_0) 0)),(1,D 2 (.cp (u_S_Leaf b_1) 0)),(82,bv t_82_m1)] []) (by first | rfl | (simp [(byF (iNot iStr) hc1),((iNot iStr).2 hc2)];done) | (simp [(byF (iNot iStr) hc1),((iNot iStr).2 hc2)];omega))))
   ·refine tT j j j j (byF (iNot iStr) hc2) (oMv j j)<|tT j j j j (byF (iNot iStr) hc2) (oNl j j j)<|tT j j j j (byF (iNot iStr) hc2) (oFA (r':=.im 2 _) j fF107_2 j j)<|tT j j j j (byF (iNot iStr) hc2) (oLd (cs:=[.im 2 _]) j tF2 j j)<|tT j j j j (byF (iNot iStr) hc2) (oMv j j)<|tT j j j j (byF (iNot iStr) hc2) (oNl j j j)<|tT j j j j (byF (iNot iStr) hc2) (oFA (r':=.im 2 _) j fF107_2 j j)<|tT j j j j (byF (iNot iStr) hc2) (oLd (cs:=[.im 2 _]) j tF2 j j)<|tT j j j j (byF (iNot iStr) hc2) (oBi j j j j)<|t j j (oPkF j j (byF (iNot iStr) hc2) j)<|t j j (oMv j j)<|?_
    by_cases hc3:a_0.Number≠b_1.Number
    ·exact tF rfl rfl rfl rfl (iNe.2 hc3) rfl<|tF rfl rfl rfl rfl (iNe.2 hc3) rfl<|tF rfl rfl rfl rfl (iNe.2 hc3) rfl<|tF rfl rfl rfl rfl (iNe.2 hc3) rfl<|tF rfl rfl rfl rfl (iNe.2 hc3) rfl<|tF rfl rfl rfl rfl (iNe.2 hc3) rfl<|tF rfl rfl rfl rfl (iNe.2 hc3) rfl<|tF rfl rfl rfl rfl (iNe.2 hc3) rfl<|tF rfl rfl rfl rfl (iNe.2 hc3) rfl<|t rfl rfl (oPkT rfl rfl (iNe.2 hc3) rfl)<|t rfl rfl (oMv rfl rfl)<|tF rfl rfl rfl rfl rfl rfl<|tF rfl rfl rfl rfl rfl rfl<|tF rfl rfl rfl rfl rfl rfl<|tF rfl rfl rfl rfl rfl rfl<|tF rfl rfl rfl rfl rfl rfl<|tF rfl rfl rfl rfl rfl rfl<|tF rfl rfl rfl rfl rfl rfl<|tF rfl rfl rfl rfl rfl rfl<|tF rfl rfl rfl rfl rfl rfl<|t rfl rfl (oPkT rfl rfl rfl rfl)<|t rfl rfl (oMv rfl rfl)<|tF rfl rfl rfl rfl rfl rfl<|tF rfl rfl rfl rfl rfl rfl<|tF rfl rfl rfl rfl rfl rfl<|tF rfl rfl rfl rfl rfl rfl<|tF rfl rfl rfl rfl rfl rfl<|tF rfl rfl rfl rfl rfl rfl<|tF rfl rfl rfl rfl rfl rfl<|tF rfl rfl rfl rfl rfl rfl<|tF rfl rfl rfl rfl rfl rfl<|t rfl rfl (oPkT rfl rfl rfl rfl)<|t rfl rfl (oMv rfl rfl)<|tF rfl rfl rfl rfl rfl rfl<|tF rfl rfl rfl rfl rfl rfl<|tF rfl rfl rfl rfl rfl rfl<|tF rfl rfl rfl rfl rfl rfl<|tF rfl rfl rfl rfl rfl rfl<|tF rfl rfl rfl rfl rfl rfl<|tF rfl rfl rfl rfl rfl rfl<|tF rfl rfl rfl rfl rfl rfl<|tF rfl rfl rfl rfl rfl rfl<|tF rfl rfl rfl rfl rfl rfl<|tF rfl rfl rfl rfl rfl rfl<|t rfl rfl (oPkT rfl rfl rfl rfl)<|sD (Eq.trans (b:=(fun t_82_m1:Bool=>mk [(0,D 2 (.cp (u_S_Leaf a_0) 0)),(1,D 2 (.cp (u_S_Leaf b_1) 0)),(82,bv t_82_m1)] []) true) (by kernel_rfl) (congrArg (fun t_82_m1:Bool=>mk [(0,D 2 (.cp (u_S_Leaf a_0) 0)),(1,D 2 (.cp (u_S_Leaf b_1) 0)),(82,bv t_82_m1)] []) (by first | rfl | (simp [(byF (iNot iStr) hc1),(byF (iNot iStr) hc2),(iNe.2 hc3)];done) | (simp [(byF (iNot iStr) hc1),(byF (iNot iStr) hc2),(iNe.2 hc3)];omega))))
    ·refine tT j j j j (byF iNe hc3) (oMv j j)<|tT j j j j (byF iNe hc3) (oNl j j j)<|tT j j j j (byF iNe hc3) (oFA (r':=.im 2 _) j fF107_3 j j)<|tT j j j j (byF iNe hc3) (oLd (cs:=[.im 2 _,.im 2 _,.im 2 _]) j tF104 j j)<|tT j j j j (byF iNe hc3) (oMv j j)<|tT j j j j (byF iNe hc3) (oNl j j j)<|tT j j j j (byF iNe hc3) (oFA (r':=.im 2 _) j fF107_3 j j)<|tT j j j j (byF iNe hc3) (oLd (cs:=[.im 2 _,.im 2 _,.im 2 _]) j tF104 j j)<|tT j j j j (byF iNe hc3) (oBa j (qNF104 a_0.Veneer.Species a_0.Veneer.Shade a_0.Veneer.Grain b_1.Veneer.Species b_1.Veneer.Shade b_1.Veneer.Grain) j j j j)<|t j j (oPkF j j (byF iNe hc3) j)<|t j j (oMv j j)<|?_
     by_cases hc4:(a_0.Veneer.Species=b_1.Veneer.Species∧(a_0.Veneer.Shade=b_1.Veneer.Shade∧a_0.Veneer.Grain=b_1.Veneer.Grain))
     ·refine tT j j j j (nF ((iAnd iStr (iAnd iEq iEq)).2 hc4)) (oMv j j)<|tT j j j j (nF ((iAnd iStr (iAnd iEq iEq)).2 hc4)) (oNl j j j)<|tT j j j j (nF ((iAnd iStr (iAnd iEq iEq)).2 hc4)) (oFA (r':=.im 2 _) j fF107_4 j j)<|tT j j j j (nF ((iAnd iStr (iAnd iEq iEq)).2 hc4)) (oLd (cs:=[.im 2 _]) j tF2 j j)<|tT j j j j (nF ((iAnd iStr (iAnd iEq iEq)).2 hc4)) (oMv j j)<|tT j j j j (nF ((iAnd iStr (iAnd iEq iEq)).2 hc4)) (oNl j j j)<|tT j j j j (nF ((iAnd iStr (iAnd iEq iEq)).2 hc4)) (oFA (r':=.im 2 _) j fF107_4 j j)<|tT j j j j (nF ((iAnd iStr (iAnd iEq iEq)).2 hc4)) (oLd (cs:=[.im 2 _]) j tF2 j j)<|tT j j j j (nF ((iAnd iStr (iAnd iEq iEq)).2 hc4)) (oBi j j j j)<|t j j (oPkF j j (nF ((iAnd iStr (iAnd iEq iEq)).2 hc4)) j)<|t j j (oMv j j)<|?_
      by_cases hc5:a_0.Width≠b_1.Width
      ·exact tF rfl rfl rfl rfl (iNe.2 hc5) rfl<|tF rfl rfl rfl rfl (iNe.2 hc5) rfl<|tF rfl rfl rfl rfl (iNe.2 hc5) rfl<|tF rfl rfl rfl rfl (iNe.2 hc5) rfl<|tF rfl rfl rfl rfl (iNe.2 hc5) rfl<|tF rfl rfl rfl rfl (iNe.2 hc5) rfl<|tF rfl rfl rfl rfl (iNe.2 hc5) rfl<|tF rfl rfl rfl rfl (iNe.2 hc5) rfl<|tF rfl rfl rfl rfl (iNe.2 hc5) rfl<|t rfl rfl (oPkT rfl rfl (iNe.2 hc5) rfl)<|t rfl rfl (oMv rfl rfl)<|tF rfl rfl rfl rfl rfl rfl<|tF rfl rfl rfl rfl rfl rfl<|tF rfl rfl rfl rfl rfl rfl<|tF rfl rfl rfl rfl rfl rfl<|tF rfl rfl rfl rfl rfl rfl<|tF rfl rfl rfl rfl rfl rfl<|tF rfl rfl rfl rfl rfl rfl<|tF rfl rfl rfl rfl rfl rfl<|tF rfl rfl rfl rfl rfl rfl<|tF rfl rfl rfl rfl rfl rfl<|tF rfl rfl rfl rfl rfl rfl<|t rfl rfl (oPkT rfl rfl rfl rfl)<|sD (Eq.trans (b:=(fun t_82_m1:Bool=>mk [(0,D 2 (.cp (u_S_Leaf a_0) 0)),(1,D 2 (.cp (u_S_Leaf b_1) 0)),(82,bv t_82_m1)] []) true) (by kernel_rfl) (congrArg (fun t_82_m1:Bool=>mk [(0,D 2 (.cp (u_S_Leaf a_0) 0)),(1,D 2 (.cp (u_S_Leaf b_1) 0)),(82,bv t_82_m1)] []) (by first | rfl | (simp [(byF (iNot iStr) hc1),(byF (iNot iStr) hc2),(byF iNe hc3),((iAnd iStr (iAnd iEq iEq)).2 hc4),(iNe.2 hc5)];done) | (simp [(byF (iNot iStr) hc1),(byF (iNot iStr) hc2),(byF iNe hc3),((iAnd iStr (iAnd iEq iEq)).2 hc4),(iNe.2 hc5)];omega))))
      ·refine tT j j j j (byF iNe hc5) (oMv j j)<|tT j j j j (byF iNe hc5) (oNl j j j)<|tT j j j j (byF iNe hc5) (oFA (r':=.im 2 _) j fF107_5 j j)<|tT j j j j (byF iNe hc5) (oLd (cs:=[.im 2 _]) j tF2 j j)<|tT j j j j (byF iNe hc5) (oMv j j)<|tT j j j j (byF iNe hc5) (oNl j j j)<|tT j j j j (byF iNe hc5) (oFA (r':=.im 2 _) j fF107_5 j j)<|tT j j j j (byF iNe hc5) (oLd (cs:=[.im 2 _]) j tF2 j j)<|tT j j j j (byF iNe hc5) (oBi j j j j)<|t j j (oPkF j j (byF iNe hc5) j)<|t j j (oMv j j)<|?_
       by_cases hc6:a_0.Length≠b_1.Length
       ·exact tF rfl rfl rfl rfl (iNe.2 hc6) rfl<|tF rfl rfl rfl rfl (iNe.2 hc6) rfl<|tF rfl rfl rfl rfl (iNe.2 hc6) rfl<|tF rfl rfl rfl rfl (iNe.2 hc6) rfl<|tF rfl rfl rfl rfl (iNe.2 hc6) rfl<|tF rfl rfl rfl rfl (iNe.2 hc6) rfl<|tF rfl rfl rfl rfl (iNe.2 hc6) rfl<|tF rfl rfl rfl rfl (iNe.2 hc6) rfl<|tF rfl rfl rfl rfl (iNe.2 hc6) rfl<|tF rfl rfl rfl rfl (iNe.2 hc6) rfl<|tF rfl rfl rfl rfl (iNe.2 hc6) rfl<|t rfl rfl (oPkT rfl rfl (iNe.2 hc6) rfl)<|sD (Eq.trans (b:=(fun t_82_m1:Bool=>mk [(0,D 2 (.cp (u_S_Leaf a_0) 0)),(1,D 2 (.cp (u_S_Leaf b_1) 0)),(82,bv t_82_m1)] []) true) (by kernel_rfl) (congrArg (fun t_82_m1:Bool=>mk [(0,D 2 (.cp (u_S_Leaf a_0) 0)),(1,D 2 (.cp (u_S_Leaf b_1) 0)),(82,bv t_82_m1)] []) (by first | rfl | (simp [(byF (iNot iStr) hc1),(byF (iNot iStr) hc2),(byF iNe hc3),((iAnd iStr (iAnd iEq iEq)).2 hc4),(byF iNe hc5),(iNe.2 hc6)];done) | (simp [(byF (iNot iStr) hc1),(byF (iNot iStr) hc2),(byF iNe hc3),((iAnd iStr (iAnd iEq iEq)).2 hc4),(byF iNe hc5),(iNe.2 hc6)];omega))))
       ·exact tT rfl rfl rfl rfl (byF iNe hc6) (oMv rfl rfl)<|tT rfl rfl rfl rfl (byF iNe hc6) (oNl rfl rfl rfl)<|tT rfl rfl rfl rfl (byF iNe hc6) (oFA (r':=.im 2 _) rfl fF107_6 rfl rfl)<|tT rfl rfl rfl rfl (byF iNe hc6) (oLd (cs:=[.im 2 _]) rfl tF105 rfl rfl)<|tT rfl rfl rfl rfl (byF iNe hc6) (oLnI rfl rfl uF105 rfl)<|tT rfl rfl rfl rfl (byF iNe hc6) (oMv rfl rfl)<|tT rfl rfl rfl rfl (byF iNe hc6) (oNl rfl rfl rfl)<|tT rfl rfl rfl rfl (byF iNe hc6) (oFA (r':=.im 2 _) rfl fF107_6 rfl rfl)<|tT rfl rfl rfl rfl (byF iNe hc6) (oLd (cs:=[.im 2 _]) rfl tF105 rfl rfl)<|tT rfl rfl rfl rfl (byF iNe hc6) (oLnI rfl rfl uF105 rfl)<|tT rfl rfl rfl rfl (byF iNe hc6) (oBi rfl rfl rfl rfl)<|t rfl rfl (oPkF rfl rfl (byF iNe hc6) rfl)<|sD (Eq.trans (b:=(fun t_82_m1:Bool=>mk [(0,D 2 (.cp (u_S_Leaf a_0) 0)),(1,D 2 (.cp (u_S_Leaf b_1) 0)),(82,bv t_82_m1)] []) ((a_0.Defects.length:Int) != (b_1.Defects.length:Int))) (by kernel_rfl) (congrArg (fun t_82_m1:Bool=>mk [(0,D 2 (.cp (u_S_Leaf a_0) 0)),(1,D 2 (.cp (u_S_Leaf b_1) 0)),(82,bv t_82_m1)] []) (by first | rfl | (simp [(byF (iNot iStr) hc1),(byF (iNot iStr) hc2),(byF iNe hc3),((iAnd iStr (iAnd iEq iEq)).2 hc4),(byF iNe hc5),(byF iNe hc6)];done) | (simp [(byF (iNot iStr) hc1),(byF (iNot iStr) hc2),(byF iNe hc3),((iAnd iStr (iAnd iEq iEq)).2 hc4),(byF iNe hc5),(byF iNe hc6)];omega))))
     ·exact tF rfl rfl rfl rfl (nT (byF (iAnd iStr (iAnd iEq iEq)) hc4)) rfl<|tF rfl rfl rfl rfl (nT (byF (iAnd iStr (iAnd iEq iEq)) hc4)) rfl<|tF rfl rfl rfl rfl (nT (byF (iAnd iStr (iAnd iEq iEq)) hc4)) rfl<|tF rfl rfl rfl rfl (nT (byF (iAnd iStr (iAnd iEq iEq)) hc4)) rfl<|tF rfl rfl rfl rfl (nT (byF (iAnd iStr (iAnd iEq iEq)) hc4)) rfl<|tF rfl rfl rfl rfl (nT (byF (iAnd iStr (iAnd iEq iEq)) hc4)) rfl<|tF rfl rfl rfl rfl (nT (byF (iAnd iStr (iAnd iEq iEq)) hc4)) rfl<|tF rfl rfl rfl rfl (nT (byF (iAnd iStr (iAnd iEq iEq)) hc4)) rfl<|tF rfl rfl rfl rfl (nT (byF (iAnd iStr (iAnd iEq iEq)) hc4)) rfl<|t rfl rfl (oPkT rfl rfl (nT (byF (iAnd iStr (iAnd iEq iEq)) hc4)) rfl)<|t rfl rfl (oMv rfl rfl)<|tF rfl rfl rfl rfl rfl rfl<|tF rfl rfl rfl rfl rfl rfl<|tF rfl rfl rfl rfl rfl rfl<|tF rfl rfl rfl rfl rfl rfl<|tF rfl rfl rfl rfl rfl rfl<|tF rfl rfl rfl rfl rfl rfl<|tF rfl rfl rfl rfl rfl rfl<|tF rfl rfl rfl rfl rfl rfl<|tF rfl rfl rfl rfl rfl rfl<|t rfl rfl (oPkT rfl rfl rfl rfl)<|t rfl rfl (oMv rfl rfl)<|tF rfl rfl rfl rfl rfl rfl<|tF rfl rfl rfl rfl rfl rfl<|tF rfl rfl rfl rfl rfl rfl<|tF rfl rfl rfl rfl rfl rfl<|tF rfl rfl rfl rfl rfl rfl<|tF rfl rfl rfl rfl rfl rfl<|tF rfl rfl rfl rfl rfl rfl<|tF rfl rfl rfl rfl rfl rfl<|tF rfl rfl rfl rfl rfl rfl<|tF rfl rfl rfl rfl rfl rfl<|tF rfl rfl rfl rfl rfl rfl<|t rfl rfl (oPkT rfl rfl rfl rfl)<|sD (Eq.trans (b:=(fun t_82_m1:Bool=>mk [(0,D 2 (.cp (u_S_Leaf a_0) 0)),(1,D 2 (.cp (u_S_Leaf b_1) 0)),(82,bv t_82_m1)] []) true) (by kernel_rfl) (congrArg (fun t_82_m1:Bool=>mk [(0,D 2 (.cp (u_S_Leaf a_0) 0)),(1,D 2 (.cp (u_S_Leaf b_1) 0)),(82,bv t_82_m1)] []) (by first | rfl | (simp [(byF (iNot iStr) hc1),(byF (iNot iStr) hc2),(byF iNe hc3),(byF (iAnd iStr (iAnd iEq iEq)) hc4)];done) | (simp [(byF (iNot iStr) hc1),(byF (iNot iStr) hc2),(byF iNe hc3),(byF (iAnd iStr (iAnd iEq iEq)) hc4)];omega))))
 ·refine us<|gc h j (iOr (iNot iStr) (iOr (iNot iStr) (iOr iNe (iOr (iNot (iAnd iStr (iAnd iEq iEq))) (iOr iNe (iOr iNe iNe)))))) (fun hc7 h=>?_) fun hc7 h=>?_
  ·refine gs<|g0 j j (q (oAsI j j)<|nl)<|us<|Go.ret (Unw.ret ?_)
   cases h
   exact fr rF250 j
  ·refine Go.skip<|us<|gs<|gs<|g0 j j (q (oAsI j j)<|nl)<|us<|Go.block<|?_
   obtain ⟨o,hl,h⟩:=bs h
   refine gl c250 j _ (fun (i_5_l4:Int)=>mk [(0,D 2 (.cp (u_S_Leaf a_0) 0)),(1,D 2 (.cp (u_S_Leaf b_1) 0)),(5,iv i_5_l4)] []) (fun (o:(Unit ⊕ Bool)) (p:Ex×St)=>match o with | (.inl _)=>p.1= .exit 0∧p.2.norm ([],[])=mk [] [] | (.inr r2)=>p.1= .ret∧fin Try.prog cfg 250 Try.f250 [.im 2 false [.cp (u_S_Leaf a_0) 0],.im 2 false [.cp (u_S_Leaf b_1) 0]] p.2=some (B0 [(false,[.im 0 (V r2)])])) hl (by kernel_rfl) ?_ ?_ ?_
   ·intro o p hp e
    rcases o with u | r2<;>exact nomatch (hp.1.symm.trans e)
   ·rintro i_5_l4 o h
    unfold spec_l09Same_l4 at h
    refine gs<|gs<|g0 j j (q (oMv j j)<|q (oMv j j)<|q (oNl j j j)<|q (oFA (r':=.im 2 _) j fF107_6 j j)<|q (oLd (cs:=[.im 2 _]) j tF105 j j)<|q (oLnI j j uF105 j)<|q (oBi j j j j)<|nl)<|us<|gc h j iDec (fun hc12 h=>?_) fun hc12 h=>?_
    ·refine Go.skip<|us<|gs<|Go.block<|gs<|?_
     obtain ⟨x97,hx97,h⟩:=bs h
     obtain ⟨x104,hx104,h⟩:=bs h
     refine gd c250 j j j j (mk [(0,D 2 (.cp (u_S_Leaf a_0) 0)),(1,D 2 (.cp (u_S_Leaf b_1) 0)),(5,iv i_5_l4),(106,bv (!((x97.X==x104.X)&&((x97.Y==x104.Y)&&((x97.Width==x104.Width)&&(x97.Length==x104.Length))))))] []) (t j j (oMv j j)<|t j j (oNl j j j)<|t j j (oFA (r':=.im 2 _) j fF107_6 j j)<|t j j (oLd (cs:=[.im 2 _]) j tF105 j j)<|t j j (oMv j j)<|t j j (oIAI j hx97 sF105 j j)<|t j j (oLd (cs:=[.im 2 _,.im 2 _,.im 2 _,.im 2 _]) j tF276 j j)<|t j j (oMv j j)<|t j j (oNl j j j)<|t j j (oFA (r':=.im 2 _) j fF107_6 j j)<|t j j (oLd (cs:=[.im 2 _]) j tF105 j j)<|t j j (oMv j j)<|t j j (oIAI j hx104 sF105 j j)<|t j j (oLd (cs:=[.im 2 _,.im 2 _,.im 2 _,.im 2 _]) j tF276 j j)<|t j j (oBa j (qNF276 x97.X x97.Y x97.Width x97.Length x104.X x104.Y x104.Width x104.Length) j j j j)<|sD (by kernel_rfl))<|us<|?_
     by_cases hc13:(x97.X=x104.X∧(x97.Y=x104.Y∧(x97.Width=x104.Width∧x97.Length=x104.Length)))
     ·rw [if_pos hc13] at h
      refine gF j (nF ((iAnd iEq (iAnd iEq (iAnd iEq iEq))).2 hc13))<|Go.skip<|Unw.blk<|us<|g0 j j (q (oMv j j)<|q (oBi j j j j)<|q (oAsI j j)<|nl)<|Unw.nil<|?_
      cases h
      exact ⟨j,(by kernel_rfl)⟩
     ·rw [if_neg hc13] at h
      refine gT j (nT (byF (iAnd iEq (iAnd iEq (iAnd iEq iEq))) hc13))<|gs<|g0 j j (q (oAsI j j)<|nl)<|us<|Go.ret (Unw.ret ?_)
      cases h
      exact ⟨j,(fo rF250 j)⟩
    ·refine Go.exit<|ux<|Unw.nil<|?_
     cases h
     exact ⟨j,(by kernel_rfl)⟩
   ·rintro ⟨e,st⟩ hp
    rcases o with u | r2
    ·dsimp only at h
     obtain ⟨he,hst⟩:=hp
     obtain rfl:e= .exit 0:=he
     refine Unw.blkx<|us<|gs<|g2 c250 j j hst (q (oAsI j j)<|nl)<|us<|Go.ret (Unw.ret ?_)
     cases h
     exact fr rF250 j
    ·dsimp only at h
     obtain ⟨he,hfin⟩:=hp
     obtain rfl:e= .ret:=he
     cases h
     exact Unw.ret (Fin_ret hfin)
theorem L_spec_l32Job {a_0:S_Job} {b_1:S_Job} {r:Bool} (h:spec_l32Job a_0 b_1=some r):FX 157 [.im 2 false [.cp (u_S_Job a_0) 0],.im 2 false [.cp (u_S_Job b_1) 0]] (B0 [(false,[.im 0 (V r)])]):=by
 unfold spec_l32Job at h
 refine gn 163 Try.func157 rfl ?_
 refine gs<|g0 j j (q (oAsI j j)<|nl)<|us<|gs<|gs<|?_
 obtain ⟨x13,hx13,h⟩:=bs h
 refine gd c157 j j j j (mk [(0,D 2 (.cp (u_S_Job a_0) 0)),(1,D 2 (.cp (u_S_Job b_1) 0)),(95,bv ((!x13)||(((a_0.Leaves.length:Int) != (b_1.Leaves.length:Int))||(((a_0.Placements.length:Int) != (b_1.Placements.length:Int))||((!((a_0.Rules.Spacing==b_1.Rules.Spacing)&&((a_0.Rules.Margin==b_1.Rules.Margin)&&((a_0.Rules.Angle==b_1.Rules.Angle)&&(a_0.Rules.Shade==b_1.Rules.Shade)))))||((a_0.Thickness != b_1.Thickness)||((a_0.Kerf != b_1.Kerf)||((a_0.Bevel != b_1.Bevel)||(a_0.Gap != b_1.Gap)))))))))] []) ?_ ?_
 ·refine t j j (oMv j j)<|t j j (oNl j j j)<|t j j (oFA (r':=.im 2 _) j fF129_0 j j)<|t j j (oMv j j)<|t j j (oNl j j j)<|?_
  by_cases hc1:x13=true
  ·by_cases hc2:(a_0.Leaves.length:Int)≠(b_1.Leaves.length:Int)
   ·exact t rfl rfl (oFA (r':=.im 2 _) rfl fF129_0 rfl rfl)<|sS (dN z157 rfl (oCa (xs:=[.v false [.im 2 _],.v false [.im 2 _]]) (vs:=[(false,[.im 0 _])]) (v:=.v false [.im 0 _]) (L_spec_l08Same hx13) (.inl rfl) rfl kF249_323_323 rfl (ppC rfl (ppC rfl pp0)) rfl rfl pb0 rfl rfl rfl)) trivial (t rfl rfl (oUn rfl rfl rfl)<|t rfl rfl (oMv rfl rfl)<|tT rfl rfl rfl rfl (nF (iR.2 hc1)) (oMv rfl rfl)<|tT rfl rfl rfl rfl (nF (iR.2 hc1)) (oNl rfl rfl rfl)<|tT rfl rfl rfl rfl (nF (iR.2 hc1)) (oFA (r':=.im 2 _) rfl fF129_1 rfl rfl)<|tT rfl rfl rfl rfl (nF (iR.2 hc1)) (oLd (cs:=[.im 2 _]) rfl tF44 rfl rfl)<|tT rfl rfl rfl rfl (nF (iR.2 hc1)) (oLnI rfl rfl uF44 rfl)<|tT rfl rfl rfl rfl (nF (iR.2 hc1)) (oMv rfl rfl)<|tT rfl rfl rfl rfl (nF (iR.2 hc1)) (oNl rfl rfl rfl)<|tT rfl rfl rfl rfl (nF (iR.2 hc1)) (oFA (r':=.im 2 _) rfl fF129_1 rfl rfl)<|tT rfl rfl rfl rfl (nF (iR.2 hc1)) (oLd (cs:=[.im 2 _]) rfl tF44 rfl rfl)<|tT rfl rfl rfl rfl (nF (iR.2 hc1)) (oLnI rfl rfl uF44 rfl)<|tT rfl rfl rfl rfl (nF (iR.2 hc1)) (oBi rfl rfl rfl rfl)<|t rfl rfl (oPkF rfl rfl (nF (iR.2 hc1)) rfl)<|t rfl rfl (oMv rfl rfl)<|tF rfl rfl rfl rfl (iNe.2 hc2) rfl<|tF rfl rfl rfl rfl (iNe.2 hc2) rfl<|tF rfl rfl rfl rfl (iNe.2 hc2) rfl<|tF rfl rfl rfl rfl (iNe.2 hc2) rfl<|tF rfl rfl rfl rfl (iNe.2 hc2) rfl<|tF rfl rfl rfl rfl (iNe.2 hc2) rfl<|tF rfl rfl rfl rfl (iNe.2 hc2) rfl<|tF rfl rfl rfl rfl (iNe.2 hc2) rfl<|tF rfl rfl rfl rfl (iNe.2 hc2) rfl<|tF rfl rfl rfl rfl (iNe.2 hc2) rfl<|tF rfl rfl rfl rfl (iNe.2 hc2) rfl<|t rfl rfl (oPkT rfl rfl (iNe.2 hc2) rfl)<|t rfl rfl (oMv rfl rfl)<|tF rfl rfl rfl rfl rfl rfl<|tF rfl rfl rfl rfl rfl rfl<|tF rfl rfl rfl rfl rfl rfl<|tF rfl rfl rfl rfl rfl rfl<|tF rfl rfl rfl rfl rfl rfl<|tF rfl rfl rfl rfl rfl rfl<|tF rfl rfl rfl rfl rfl rfl<|tF rfl rfl rfl rfl rfl rfl<|tF rfl rfl rfl rfl rfl rfl<|t rfl rfl (oPkT rfl rfl rfl rfl)<|t rfl rfl (oMv rfl rfl)<|tF rfl rfl rfl rfl rfl rfl<|tF rfl rfl rfl rfl rfl rfl<|tF rfl rfl rfl rfl rfl rfl<|tF rfl rfl rfl rfl rfl rfl<|tF rfl rfl rfl rfl rfl rfl<|tF rfl rfl rfl rfl rfl rfl<|tF rfl rfl rfl rfl rfl rfl<|tF rfl rfl rfl rfl rfl rfl<|tF rfl rfl rfl rfl rfl rfl<|t rfl rfl (oPkT rfl rfl rfl rfl)<|t rfl rfl (oMv rfl rfl)<|tF rfl rfl rfl rfl rfl rfl<|tF rfl rfl rfl rfl rfl rfl<|tF rfl rfl rfl rfl rfl rfl<|tF rfl rfl rfl rfl rfl rfl<|tF rfl rfl rfl rfl rfl rfl<|tF rfl rfl rfl rfl rfl rfl<|tF rfl rfl rfl rfl rfl rfl<|tF rfl rfl rfl rfl rfl rfl<|tF rfl rfl rfl rfl rfl rfl<|t rfl rfl (oPkT rfl rfl rfl rfl)<|t rfl rfl (oMv rfl rfl)<|tF rfl rfl rfl rfl rfl rfl<|tF rfl rfl rfl rfl rfl rfl<|tF rfl rfl rfl rfl rfl rfl<|tF rfl rfl rfl rfl rfl rfl<|tF rfl rfl rfl rfl rfl rfl<|tF rfl rfl rfl rfl rfl rfl<|tF rfl rfl rfl rfl rfl rfl<|tF rfl rfl rfl rfl rfl rfl<|tF rfl rfl rfl rfl rfl rfl<|t rfl rfl (oPkT rfl rfl rfl rfl)<|t rfl rfl (oMv rfl rfl)<|tF rfl rfl rfl rfl rfl rfl<|tF rfl rfl rfl rfl rfl rfl<|tF rfl rfl rfl rfl rfl rfl<|tF rfl rfl rfl rfl rfl rfl<|tF rfl rfl rfl rfl rfl rfl<|tF rfl rfl rfl rfl rfl rfl<|tF rfl rfl rfl rfl rfl rfl<|tF rfl rfl rfl rfl rfl rfl<|tF rfl rfl rfl rfl rfl rfl<|t rfl rfl (oPkT rfl rfl rfl rfl)<|sD (Eq.trans (b:=(fun t_95_m1:Bool=>mk [(0,D 2 (.cp (u_S_Job a_0) 0)),(1,D 2 (.cp (u_S_Job b_1) 0)),(95,bv t_95_m1)] []) true) (by kernel_rfl) (congrArg (fun t_95_m1:Bool=>mk [(0,D 2 (.cp (u_S_Job a_0) 0)),(1,D 2 (.cp (u_S_Job b_1) 0)),(95,bv t_95_m1)] []) (by first | rfl | (simp [(iR.2 hc1),(iNe.2 hc2)];done) | (simp [(iR.2 hc1),(iNe.2 hc2)];omega)))))
   ·by_cases hc3:(a_0.Placements.length:Int)≠(b_1.Placements.length:Int)
    ·exact t rfl rfl (oFA (r':=.im 2 _) rfl fF129_0 rfl rfl)<|sS (dN z157 rfl (oCa (xs:=[.v false [.im 2 _],.v false [.im 2 _]]) (vs:=[(false,[.im 0 _])]) (v:=.v false [.im 0 _]) (L_spec_l08Same hx13) (.inl rfl) rfl kF249_323_323 rfl (ppC rfl (ppC rfl pp0)) rfl rfl pb0 rfl rfl rfl)) trivial (t rfl rfl (oUn rfl rfl rfl)<|t rfl rfl (oMv rfl rfl)<|tT rfl rfl rfl rfl (nF (iR.2 hc1)) (oMv rfl rfl)<|tT rfl rfl rfl rfl (nF (iR.2 hc1)) (oNl rfl rfl rfl)<|tT rfl rfl rfl rfl (nF (iR.2 hc1)) (oFA (r':=.im 2 _) rfl fF129_1 rfl rfl)<|tT rfl rfl rfl rfl (nF (iR.2 hc1)) (oLd (cs:=[.im 2 _]) rfl tF44 rfl rfl)<|tT rfl rfl rfl rfl (nF (iR.2 hc1)) (oLnI rfl rfl uF44 rfl)<|tT rfl rfl rfl rfl (nF (iR.2 hc1)) (oMv rfl rfl)<|tT rfl rfl rfl rfl (nF (iR.2 hc1)) (oNl rfl rfl rfl)<|tT rfl rfl rfl rfl (nF (iR.2 hc1)) (oFA (r':=.im 2 _) rfl fF129_1 rfl rfl)<|tT rfl rfl rfl rfl (nF (iR.2 hc1)) (oLd (cs:=[.im 2 _]) rfl tF44 rfl rfl)<|tT rfl rfl rfl rfl (nF (iR.2 hc1)) (oLnI rfl rfl uF44 rfl)<|tT rfl rfl rfl rfl (nF (iR.2 hc1)) (oBi rfl rfl rfl rfl)<|t rfl rfl (oPkF rfl rfl (nF (iR.2 hc1)) rfl)<|t rfl rfl (oMv rfl rfl)<|tT rfl rfl rfl rfl (byF iNe hc2) (oMv rfl rfl)<|tT rfl rfl rfl rfl (byF iNe hc2) (oNl rfl rfl rfl)<|tT rfl rfl rfl rfl (byF iNe hc2) (oFA (r':=.im 2 _) rfl fF129_2 rfl rfl)<|tT rfl rfl rfl rfl (byF iNe hc2) (oLd (cs:=[.im 2 _]) rfl tF126 rfl rfl)<|tT rfl rfl rfl rfl (byF iNe hc2) (oLnI rfl rfl uF126 rfl)<|tT rfl rfl rfl rfl (byF iNe hc2) (oMv rfl rfl)<|tT rfl rfl rfl rfl (byF iNe hc2) (oNl rfl rfl rfl)<|tT rfl rfl rfl rfl (byF iNe hc2) (oFA (r':=.im 2 _) rfl fF129_2 rfl rfl)<|tT rfl rfl rfl rfl (byF iNe hc2) (oLd (cs:=[.im 2 _]) rfl tF126 rfl rfl)<|tT rfl rfl rfl rfl (byF iNe hc2) (oLnI rfl rfl uF126 rfl)<|tT rfl rfl rfl rfl (byF iNe hc2) (oBi rfl rfl rfl rfl)<|t rfl rfl (oPkF rfl rfl (byF iNe hc2) rfl)<|t rfl rfl (oMv rfl rfl)<|tF rfl rfl rfl rfl (iNe.2 hc3) rfl<|tF rfl rfl rfl rfl (iNe.2 hc3) rfl<|tF rfl rfl rfl rfl (iNe.2 hc3) rfl<|tF rfl rfl rfl rfl (iNe.2 hc3) rfl<|tF rfl rfl rfl rfl (iNe.2 hc3) rfl<|tF rfl rfl rfl rfl (iNe.2 hc3) rfl<|tF rfl rfl rfl rfl (iNe.2 hc3) rfl<|tF rfl rfl rfl rfl (iNe.2 hc3) rfl<|tF rfl rfl rfl rfl (iNe.2 hc3) rfl<|t rfl rfl (oPkT rfl rfl (iNe.2 hc3) rfl)<|t rfl rfl (oMv rfl rfl)<|tF rfl rfl rfl rfl rfl rfl<|tF rfl rfl rfl rfl rfl rfl<|tF rfl rfl rfl rfl rfl rfl<|tF rfl rfl rfl rfl rfl rfl<|tF rfl rfl rfl rfl rfl rfl<|tF rfl rfl rfl rfl rfl rfl<|tF rfl rfl rfl rfl rfl rfl<|tF rfl rfl rfl rfl rfl rfl<|tF rfl rfl rfl rfl rfl rfl<|t rfl rfl (oPkT rfl rfl rfl rfl)<|t rfl rfl (oMv rfl rfl)<|tF rfl rfl rfl rfl rfl rfl<|tF rfl rfl rfl rfl rfl rfl<|tF rfl rfl rfl rfl rfl rfl<|tF rfl rfl rfl rfl rfl rfl<|tF rfl rfl rfl rfl rfl rfl<|tF rfl rfl rfl rfl rfl rfl<|tF rfl rfl rfl rfl rfl rfl<|tF rfl rfl rfl rfl rfl rfl<|tF rfl rfl rfl rfl rfl rfl<|t rfl rfl (oPkT rfl rfl rfl rfl)<|t rfl rfl (oMv rfl rfl)<|tF rfl rfl rfl rfl rfl rfl<|tF rfl rfl rfl rfl rfl rfl<|tF rfl rfl rfl rfl rfl rfl<|tF rfl rfl rfl rfl rfl rfl<|tF rfl rfl rfl rfl rfl rfl<|tF rfl rfl rfl rfl rfl rfl<|tF rfl rfl rfl rfl rfl rfl<|tF rfl rfl rfl rfl rfl rfl<|tF rfl rfl rfl rfl rfl rfl<|t rfl rfl (oPkT rfl rfl rfl rfl)<|t rfl rfl (oMv rfl rfl)<|tF rfl rfl rfl rfl rfl rfl<|tF rfl rfl rfl rfl rfl rfl<|tF rfl rfl rfl rfl rfl rfl<|tF rfl rfl rfl rfl rfl rfl<|tF rfl rfl rfl rfl rfl rfl<|tF rfl rfl rfl rfl rfl rfl<|tF rfl rfl rfl rfl rfl rfl<|tF rfl rfl rfl rfl rfl rfl<|tF rfl rfl rfl rfl rfl rfl<|t rfl rfl (oPkT rfl rfl rfl rfl)<|sD (Eq.trans (b:=(fun t_95_m1:Bool=>mk [(0,D 2 (.cp (u_S_Job a_0) 0)),(1,D 2 (.cp (u_S_Job b_1) 0)),(95,bv t_95_m1)] []) true) (by kernel_rfl) (congrArg (fun t_95_m1:Bool=>mk [(0,D 2 (.cp (u_S_Job a_0) 0)),(1,D 2 (.cp (u_S_Job b_1) 0)),(95,bv t_95_m1)] []) (by first | rfl | (simp [(iR.2 hc1),(byF iNe hc2),(iNe.2 hc3)];done) | (simp [(iR.2 hc1),(byF iNe hc2),(iNe.2 hc3)];omega)))))
    ·by_cases hc4:(a_0.Rules.Spacing=b_1.Rules.Spacing∧(a_0.Rules.Margin=b_1.Rules.Margin∧(a_0.Rules.Angle=b_1.Rules.Angle∧a_0.Rules.Shade=b_1.Rules.Shade)))
     ·by_cases hc5:a_0.Thickness≠b_1.Thickness
      ·exact t rfl rfl (oFA (r':=.im 2 _) rfl fF129_0 rfl rfl)<|sS (dN z157 rfl (oCa (xs:=[.v false [.im 2 _],.v false [.im 2 _]]) (vs:=[(false,[.im 0 _])]) (v:=.v false [.im 0 _]) (L_spec_l08Same hx13) (.inl rfl) rfl kF249_323_323 rfl (ppC rfl (ppC rfl pp0)) rfl rfl pb0 rfl rfl rfl)) trivial (t rfl rfl (oUn rfl rfl rfl)<|t rfl rfl (oMv rfl rfl)<|tT rfl rfl rfl rfl (nF (iR.2 hc1)) (oMv rfl rfl)<|tT rfl rfl rfl rfl (nF (iR.2 hc1)) (oNl rfl rfl rfl)<|tT rfl rfl rfl rfl (nF (iR.2 hc1)) (oFA (r':=.im 2 _) rfl fF129_1 rfl rfl)<|tT rfl rfl rfl rfl (nF (iR.2 hc1)) (oLd (cs:=[.im 2 _]) rfl tF44 rfl rfl)<|tT rfl rfl rfl rfl (nF (iR.2 hc1)) (oLnI rfl rfl uF44 rfl)<|tT rfl rfl rfl rfl (nF (iR.2 hc1)) (oMv rfl rfl)<|tT rfl rfl rfl rfl (nF (iR.2 hc1)) (oNl rfl rfl rfl)<|tT rfl rfl rfl rfl (nF (iR.2 hc1)) (oFA (r':=.im 2 _) rfl fF129_1 rfl rfl)<|tT rfl rfl rfl rfl (nF (iR.2 hc1)) (oLd (cs:=[.im 2 _]) rfl tF44 rfl rfl)<|tT rfl rfl rfl rfl (nF (iR.2 hc1)) (oLnI rfl rfl uF44 rfl)<|tT rfl rfl rfl rfl (nF (iR.2 hc1)) (oBi rfl rfl rfl rfl)<|t rfl rfl (oPkF rfl rfl (nF (iR.2 hc1)) rfl)<|t rfl rfl (oMv rfl rfl)<|tT rfl rfl rfl rfl (byF iNe hc2) (oMv rfl rfl)<|tT rfl rfl rfl rfl (byF iNe hc2) (oNl rfl rfl rfl)<|tT rfl rfl rfl rfl (byF iNe hc2) (oFA (r':=.im 2 _) rfl fF129_2 rfl rfl)<|tT rfl rfl rfl rfl (byF iNe hc2) (oLd (cs:=[.im 2 _]) rfl tF126 rfl rfl)<|tT rfl rfl rfl rfl (byF iNe hc2) (oLnI rfl rfl uF126 rfl)<|tT rfl rfl rfl rfl (byF iNe hc2) (oMv rfl rfl)<|tT rfl rfl rfl rfl (byF iNe hc2) (oNl rfl rfl rfl)<|tT rfl rfl rfl rfl (byF iNe hc2) (oFA (r':=.im 2 _) rfl fF129_2 rfl rfl)<|tT rfl rfl rfl rfl (byF iNe hc2) (oLd (cs:=[.im 2 _]) rfl tF126 rfl rfl)<|tT rfl rfl rfl rfl (byF iNe hc2) (oLnI rfl rfl uF126 rfl)<|tT rfl rfl rfl rfl (byF iNe hc2) (oBi rfl rfl rfl rfl)<|t rfl rfl (oPkF rfl rfl (byF iNe hc2) rfl)<|t rfl rfl (oMv rfl rfl)<|tT rfl rfl rfl rfl (byF iNe hc3) (oMv rfl rfl)<|tT rfl rfl rfl rfl (byF iNe hc3) (oNl rfl rfl rfl)<|tT rfl rfl rfl rfl (byF iNe hc3) (oFA (r':=.im 2 _) rfl fF129_3 rfl rfl)<|tT rfl rfl rfl rfl (byF iNe hc3) (oLd (cs:=[.im 2 _,.im 2 _,.im 2 _,.im 2 _]) rfl tF127 rfl rfl)<|tT rfl rfl rfl rfl (byF iNe hc3) (oMv rfl rfl)<|tT rfl rfl rfl rfl (byF iNe hc3) (oNl rfl rfl rfl)<|tT rfl rfl rfl rfl (byF iNe hc3) (oFA (r':=.im 2 _) rfl fF129_3 rfl rfl)<|tT rfl rfl rfl rfl (byF iNe hc3) (oLd (cs:=[.im 2 _,.im 2 _,.im 2 _,.im 2 _]) rfl tF127 rfl rfl)<|tT rfl rfl rfl rfl (byF iNe hc3) (oBa rfl (qNF127 a_0.Rules.Spacing a_0.Rules.Margin a_0.Rules.Angle a_0.Rules.Shade b_1.Rules.Spacing b_1.Rules.Margin b_1.Rules.Angle b_1.Rules.Shade) rfl rfl rfl rfl)<|t rfl rfl (oPkF rfl rfl (byF iNe hc3) rfl)<|t rfl rfl (oMv rfl rfl)<|tT rfl rfl rfl rfl (nF ((iAnd iEq (iAnd iEq (iAnd iEq iEq))).2 hc4)) (oMv rfl rfl)<|tT rfl rfl rfl rfl (nF ((iAnd iEq (iAnd iEq (iAnd iEq iEq))).2 hc4)) (oNl rfl rfl rfl)<|tT rfl rfl rfl rfl (nF ((iAnd iEq (iAnd iEq (iAnd iEq iEq))).2 hc4)) (oFA (r':=.im 2 _) rfl fF129_4 rfl rfl)<|tT rfl rfl rfl rfl (nF ((iAnd iEq (iAnd iEq (iAnd iEq iEq))).2 hc4)) (oLd (cs:=[.im 2 _]) rfl tF2 rfl rfl)<|tT rfl rfl rfl rfl (nF ((iAnd iEq (iAnd iEq (iAnd iEq iEq))).2 hc4)) (oMv rfl rfl)<|tT rfl rfl rfl rfl (nF ((iAnd iEq (iAnd iEq (iAnd iEq iEq))).2 hc4)) (oNl rfl rfl rfl)<|tT rfl rfl rfl rfl (nF ((iAnd iEq (iAnd iEq (iAnd iEq iEq))).2 hc4)) (oFA (r':=.im 2 _) rfl fF129_4 rfl rfl)<|tT rfl rfl rfl rfl (nF ((iAnd iEq (iAnd iEq (iAnd iEq iEq))).2 hc4)) (oLd (cs:=[.im 2 _]) rfl tF2 rfl rfl)<|tT rfl rfl rfl rfl (nF ((iAnd iEq (iAnd iEq (iAnd iEq iEq))).2 hc4)) (oBi rfl rfl rfl rfl)<|t rfl rfl (oPkF rfl rfl (nF ((iAnd iEq (iAnd iEq (iAnd iEq iEq))).2 hc4)) rfl)<|t rfl rfl (oMv rfl rfl)<|tF rfl rfl rfl rfl (iNe.2 hc5) rfl<|tF rfl rfl rfl rfl (iNe.2 hc5) rfl<|tF rfl rfl rfl rfl (iNe.2 hc5) rfl<|tF rfl rfl rfl rfl (iNe.2 hc5) rfl<|tF rfl rfl rfl rfl (iNe.2 hc5) rfl<|tF rfl rfl rfl rfl (iNe.2 hc5) rfl<|tF rfl rfl rfl rfl (iNe.2 hc5) rfl<|tF rfl rfl rfl rfl (iNe.2 hc5) rfl<|tF rfl rfl rfl rfl (iNe.2 hc5) rfl<|t rfl rfl (oPkT rfl rfl (iNe.2 hc5) rfl)<|t rfl rfl (oMv rfl rfl)<|tF rfl rfl rfl rfl rfl rfl<|tF rfl rfl rfl rfl rfl rfl<|tF rfl rfl rfl rfl rfl rfl<|tF rfl rfl rfl rfl rfl rfl<|tF rfl rfl rfl rfl rfl rfl<|tF rfl rfl rfl rfl rfl rfl<|tF rfl rfl rfl rfl rfl rfl<|tF rfl rfl rfl rfl rfl rfl<|tF rfl rfl rfl rfl rfl rfl<|t rfl rfl (oPkT rfl rfl rfl rfl)<|t rfl rfl (oMv rfl rfl)<|tF rfl rfl rfl rfl rfl rfl<|tF rfl rfl rfl rfl rfl rfl<|tF rfl rfl rfl rfl rfl rfl<|tF rfl rfl rfl rfl rfl rfl<|tF rfl rfl rfl rfl rfl rfl<|tF rfl rfl rfl rfl rfl rfl<|tF rfl rfl rfl rfl rfl rfl<|tF rfl rfl rfl rfl rfl rfl<|tF rfl rfl rfl rfl rfl rfl<|t rfl rfl (oPkT rfl rfl rfl rfl)<|sD (Eq.trans (b:=(fun t_95_m1:Bool=>mk [(0,D 2 (.cp (u_S_Job a_0) 0)),(1,D 2 (.cp (u_S_Job b_1) 0)),(95,bv t_95_m1)] []) true) (by kernel_rfl) (congrArg (fun t_95_m1:Bool=>mk [(0,D 2 (.cp (u_S_Job a_0) 0)),(1,D 2 (.cp (u_S_Job b_1) 0)),(95,bv t_95_m1)] []) (by first | rfl | (simp [(iR.2 hc1),(byF iNe hc2),(byF iNe hc3),((iAnd iEq (iAnd iEq (iAnd iEq iEq))).2 hc4),(iNe.2 hc5)];done) | (simp [(iR.2 hc1),(byF iNe hc2),(byF iNe hc3),((iAnd iEq (iAnd iEq (iAnd iEq iEq))).2 hc4),(iNe.2 hc5)];omega)))))
      ·by_cases hc6:a_0.Kerf≠b_1.Kerf
       ·exact t rfl rfl (oFA (r':=.im 2 _) rfl fF129_0 rfl rfl)<|sS (dN z157 rfl (oCa (xs:=[.v false [.im 2 _],.v false [.im 2 _]]) (vs:=[(false,[.im 0 _])]) (v:=.v false [.im 0 _]) (L_spec_l08Same hx13) (.inl rfl) rfl kF249_323_323 rfl (ppC rfl (ppC rfl pp0)) rfl rfl pb0 rfl rfl rfl)) trivial (t rfl rfl (oUn rfl rfl rfl)<|t rfl rfl (oMv rfl rfl)<|tT rfl rfl rfl rfl (nF (iR.2 hc1)) (oMv rfl rfl)<|tT rfl rfl rfl rfl (nF (iR.2 hc1)) (oNl rfl rfl rfl)<|tT rfl rfl rfl rfl (nF (iR.2 hc1)) (oFA (r':=.im 2 _) rfl fF129_1 rfl rfl)<|tT rfl rfl rfl rfl (nF (iR.2 hc1)) (oLd (cs:=[.im 2 _]) rfl tF44 rfl rfl)<|tT rfl rfl rfl rfl (nF (iR.2 hc1)) (oLnI rfl rfl uF44 rfl)<|tT rfl rfl rfl rfl (nF (iR.2 hc1)) (oMv rfl rfl)<|tT rfl rfl rfl rfl (nF (iR.2 hc1)) (oNl rfl rfl rfl)<|tT rfl rfl rfl rfl (nF (iR.2 hc1)) (oFA (r':=.im 2 _) rfl fF129_1 rfl rfl)<|tT rfl rfl rfl rfl (nF (iR.2 hc1)) (oLd (cs:=[.im 2 _]) rfl tF44 rfl rfl)<|tT rfl rfl rfl rfl (nF (iR.2 hc1)) (oLnI rfl rfl uF44 rfl)<|tT rfl rfl rfl rfl (nF (iR.2 hc1)) (oBi rfl rfl rfl rfl)<|t rfl rfl (oPkF rfl rfl (nF (iR.2 hc1)) rfl)<|t rfl rfl (oMv rfl rfl)<|tT rfl rfl rfl rfl (byF iNe hc2) (oMv rfl rfl)<|tT rfl rfl rfl rfl (byF iNe hc2) (oNl rfl rfl rfl)<|tT rfl rfl rfl rfl (byF iNe hc2) (oFA (r':=.im 2 _) rfl fF129_2 rfl rfl)<|tT rfl rfl rfl rfl (byF iNe hc2) (oLd (cs:=[.im 2 _]) rfl tF126 rfl rfl)<|tT rfl rfl rfl rfl (byF iNe hc2) (oLnI rfl rfl uF126 rfl)<|tT rfl rfl rfl rfl (byF iNe hc2) (oMv rfl rfl)<|tT rfl rfl rfl rfl (byF iNe hc2) (oNl rfl rfl rfl)<|tT rfl rfl rfl rfl (byF iNe hc2) (oFA (r':=.im 2 _) rfl fF129_2 rfl rfl)<|tT rfl rfl rfl rfl (byF iNe hc2) (oLd (cs:=[.im 2 _]) rfl tF126 rfl rfl)<|tT rfl rfl rfl rfl (byF iNe hc2) (oLnI rfl rfl uF126 rfl)<|tT rfl rfl rfl rfl (byF iNe hc2) (oBi rfl rfl rfl rfl)<|t rfl rfl (oPkF rfl rfl (byF iNe hc2) rfl)<|t rfl rfl (oMv rfl rfl)<|tT rfl rfl rfl rfl (byF iNe hc3) (oMv rfl rfl)<|tT rfl rfl rfl rfl (byF iNe hc3) (oNl rfl rfl rfl)<|tT rfl rfl rfl rfl (byF iNe hc3) (oFA (r':=.im 2 _) rfl fF129_3 rfl rfl)<|tT rfl rfl rfl rfl (byF iNe hc3) (oLd (cs:=[.im 2 _,.im 2 _,.im 2 _,.im 2 _]) rfl tF127 rfl rfl)<|tT rfl rfl rfl rfl (byF iNe hc3) (oMv rfl rfl)<|tT rfl rfl rfl rfl (byF iNe hc3) (oNl rfl rfl rfl)<|tT rfl rfl rfl rfl (byF iNe hc3) (oFA (r':=.im 2 _) rfl fF129_3 rfl rfl)<|tT rfl rfl rfl rfl (byF iNe hc3) (oLd (cs:=[.im 2 _,.im 2 _,.im 2 _,.im 2 _]) rfl tF127 rfl rfl)<|tT rfl rfl rfl rfl (byF iNe hc3) (oBa rfl (qNF127 a_0.Rules.Spacing a_0.Rules.Margin a_0.Rules.Angle a_0.Rules.Shade b_1.Rules.Spacing b_1.Rules.Margin b_1.Rules.Angle b_1.Rules.Shade) rfl rfl rfl rfl)<|t rfl rfl (oPkF rfl rfl (byF iNe hc3) rfl)<|t rfl rfl (oMv rfl rfl)<|tT rfl rfl rfl rfl (nF ((iAnd iEq (iAnd iEq (iAnd iEq iEq))).2 hc4)) (oMv rfl rfl)<|tT rfl rfl rfl rfl (nF ((iAnd iEq (iAnd iEq (iAnd iEq iEq))).2 hc4)) (oNl rfl rfl rfl)<|tT rfl rfl rfl rfl (nF ((iAnd iEq (iAnd iEq (iAnd iEq iEq))).2 hc4)) (oFA (r':=.im 2 _) rfl fF129_4 rfl rfl)<|tT rfl rfl rfl rfl (nF ((iAnd iEq (iAnd iEq (iAnd iEq iEq))).2 hc4)) (oLd (cs:=[.im 2 _]) rfl tF2 rfl rfl)<|tT rfl rfl rfl rfl (nF ((iAnd iEq (iAnd iEq (iAnd iEq iEq))).2 hc4)) (oMv rfl rfl)<|tT rfl rfl rfl rfl (nF ((iAnd iEq (iAnd iEq (iAnd iEq iEq))).2 hc4)) (oNl rfl rfl rfl)<|tT rfl rfl rfl rfl (nF ((iAnd iEq (iAnd iEq (iAnd iEq iEq))).2 hc4)) (oFA (r':=.im 2 _) rfl fF129_4 rfl rfl)<|tT rfl rfl rfl rfl (nF ((iAnd iEq (iAnd iEq (iAnd iEq iEq))).2 hc4)) (oLd (cs:=[.im 2 _]) rfl tF2 rfl rfl)<|tT rfl rfl rfl rfl (nF ((iAnd iEq (iAnd iEq (iAnd iEq iEq))).2 hc4)) (oBi rfl rfl rfl rfl)<|t rfl rfl (oPkF rfl rfl (nF ((iAnd iEq (iAnd iEq (iAnd iEq iEq))).2 hc4)) rfl)<|t rfl rfl (oMv rfl rfl)<|tT rfl rfl rfl rfl (byF iNe hc5) (oMv rfl rfl)<|tT rfl rfl rfl rfl (byF iNe hc5) (oNl rfl rfl rfl)<|tT rfl rfl rfl rfl (byF iNe hc5) (oFA (r':=.im 2 _) rfl fF129_5 rfl rfl)<|tT rfl rfl rfl rfl (byF iNe hc5) (oLd (cs:=[.im 2 _]) rfl tF2 rfl rfl)<|tT rfl rfl rfl rfl (byF iNe hc5) (oMv rfl rfl)<|tT rfl rfl rfl rfl (byF iNe hc5) (oNl rfl rfl rfl)<|tT rfl rfl rfl rfl (byF iNe hc5) (oFA (r':=.im 2 _) rfl fF129_5 rfl rfl)<|tT rfl rfl rfl rfl (byF iNe hc5) (oLd (cs:=[.im 2 _]) rfl tF2 rfl rfl)<|tT rfl rfl rfl rfl (byF iNe hc5) (oBi rfl rfl rfl rfl)<|t rfl rfl (oPkF rfl rfl (byF iNe hc5) rfl)<|t rfl rfl (oMv rfl rfl)<|tF rfl rfl rfl rfl (iNe.2 hc6) rfl<|tF rfl rfl rfl rfl (iNe.2 hc6) rfl<|tF rfl rfl rfl rfl (iNe.2 hc6) rfl<|tF rfl rfl rfl rfl (iNe.2 hc6) rfl<|tF rfl rfl rfl rfl (iNe.2 hc6) rfl<|tF rfl rfl rfl rfl (iNe.2 hc6) rfl<|tF rfl rfl rfl rfl (iNe.2 hc6) rfl<|tF rfl rfl rfl rfl (iNe.2 hc6) rfl<|tF rfl rfl rfl rfl (iNe.2 hc6) rfl<|t rfl rfl (oPkT rfl rfl (iNe.2 hc6) rfl)<|t rfl rfl (oMv rfl rfl)<|tF rfl rfl rfl rfl rfl rfl<|tF rfl rfl rfl rfl rfl rfl<|tF rfl rfl rfl rfl rfl rfl<|tF rfl rfl rfl rfl rfl rfl<|tF rfl rfl rfl rfl rfl rfl<|tF rfl rfl rfl rfl rfl rfl<|tF rfl rfl rfl rfl rfl rfl<|tF rfl rfl rfl rfl rfl rfl<|tF rfl rfl rfl rfl rfl rfl<|t rfl rfl (oPkT rfl rfl rfl rfl)<|sD (Eq.trans (b:=(fun t_95_m1:Bool=>mk [(0,D 2 (.cp (u_S_Job a_0) 0)),(1,D 2 (.cp (u_S_Job b_1) 0)),(95,bv t_95_m1)] []) true) (by kernel_rfl) (congrArg (fun t_95_m1:Bool=>mk [(0,D 2 (.cp (u_S_Job a_0) 0)),(1,D 2 (.cp (u_S_Job b_1) 0)),(95,bv t_95_m1)] []) (by first | rfl | (simp [(iR.2 hc1),(byF iNe hc2),(byF iNe hc3),((iAnd iEq (iAnd iEq (iAnd iEq iEq))).2 hc4),(byF iNe hc5),(iNe.2 hc6)];done) | (simp [(iR.2 hc1),(byF iNe hc2),(byF iNe hc3),((iAnd iEq (iAnd iEq (iAnd iEq iEq))).2 hc4),(byF iNe hc5),(iNe.2 hc6)];omega)))))
       ·by_cases hc7:a_0.Bevel≠b_1.Bevel
        ·exact t rfl rfl (oFA (r':=.im 2 _) rfl fF129_0 rfl rfl)<|sS (dN z157 rfl (oCa (xs:=[.v false [.im 2 _],.v false [.im 2 _]]) (vs:=[(false,[.im 0 _])]) (v:=.v false [.im 0 _]) (L_spec_l08Same hx13) (.inl rfl) rfl kF249_323_323 rfl (ppC rfl (ppC rfl pp0)) rfl rfl pb0 rfl rfl rfl)) trivial (t rfl rfl (oUn rfl rfl rfl)<|t rfl rfl (oMv rfl rfl)<|tT rfl rfl rfl rfl (nF (iR.2 hc1)) (oMv rfl rfl)<|tT rfl rfl rfl rfl (nF (iR.2 hc1)) (oNl rfl rfl rfl)<|tT rfl rfl rfl rfl (nF (iR.2 hc1)) (oFA (r':=.im 2 _) rfl fF129_1 rfl rfl)<|tT rfl rfl rfl rfl (nF (iR.2 hc1)) (oLd (cs:=[.im 2 _]) rfl tF44 rfl rfl)<|tT rfl rfl rfl rfl (nF (iR.2 hc1)) (oLnI rfl rfl uF44 rfl)<|tT rfl rfl rfl rfl (nF (iR.2 hc1)) (oMv rfl rfl)<|tT rfl rfl rfl rfl (nF (iR.2 hc1)) (oNl rfl rfl rfl)<|tT rfl rfl rfl rfl (nF (iR.2 hc1)) (oFA (r':=.im 2 _) rfl fF129_1 rfl rfl)<|tT rfl rfl rfl rfl (nF (iR.2 hc1)) (oLd (cs:=[.im 2 _]) rfl tF44 rfl rfl)<|tT rfl rfl rfl rfl (nF (iR.2 hc1)) (oLnI rfl rfl uF44 rfl)<|tT rfl rfl rfl rfl (nF (iR.2 hc1)) (oBi rfl rfl rfl rfl)<|t rfl rfl (oPkF rfl rfl (nF (iR.2 hc1)) rfl)<|t rfl rfl (oMv rfl rfl)<|tT rfl rfl rfl rfl (byF iNe hc2) (oMv rfl rfl)<|tT rfl rfl rfl rfl (byF iNe hc2) (oNl rfl rfl rfl)<|tT rfl rfl rfl rfl (byF iNe hc2) (oFA (r':=.im 2 _) rfl fF129_2 rfl rfl)<|tT rfl rfl rfl rfl (byF iNe hc2) (oLd (cs:=[.im 2 _]) rfl tF126 rfl rfl)<|tT rfl rfl rfl rfl (byF iNe hc2) (oLnI rfl rfl uF126 rfl)<|tT rfl rfl rfl rfl (byF iNe hc2) (oMv rfl rfl)<|tT rfl rfl rfl rfl (byF iNe hc2) (oNl rfl rfl rfl)<|tT rfl rfl rfl rfl (byF iNe hc2) (oFA (r':=.im 2 _) rfl fF129_2 rfl rfl)<|tT rfl rfl rfl rfl (byF iNe hc2) (oLd (cs:=[.im 2 _]) rfl tF126 rfl rfl)<|tT rfl rfl rfl rfl (byF iNe hc2) (oLnI rfl rfl uF126 rfl)<|tT rfl rfl rfl rfl (byF iNe hc2) (oBi rfl rfl rfl rfl)<|t rfl rfl (oPkF rfl rfl (byF iNe hc2) rfl)<|t rfl rfl (oMv rfl rfl)<|tT rfl rfl rfl rfl (byF iNe hc3) (oMv rfl rfl)<|tT rfl rfl rfl rfl (byF iNe hc3) (oNl rfl rfl rfl)<|tT rfl rfl rfl rfl (byF iNe hc3) (oFA (r':=.im 2 _) rfl fF129_3 rfl rfl)<|tT rfl rfl rfl rfl (byF iNe hc3) (oLd (cs:=[.im 2 _,.im 2 _,.im 2 _,.im 2 _]) rfl tF127 rfl rfl)<|tT rfl rfl rfl rfl (byF iNe hc3) (oMv rfl rfl)<|tT rfl rfl rfl rfl (byF iNe hc3) (oNl rfl rfl rfl)<|tT rfl rfl rfl rfl (byF iNe hc3) (oFA (r':=.im 2 _) rfl fF129_3 rfl rfl)<|tT rfl rfl rfl rfl (byF iNe hc3) (oLd (cs:=[.im 2 _,.im 2 _,.im 2 _,.im 2 _]) rfl tF127 rfl rfl)<|tT rfl rfl rfl rfl (byF iNe hc3) (oBa rfl (qNF127 a_0.Rules.Spacing a_0.Rules.Margin a_0.Rules.Angle a_0.Rules.Shade b_1.Rules.Spacing b_1.Rules.Margin b_1.Rules.Angle b_1.Rules.Shade) rfl rfl rfl rfl)<|t rfl rfl (oPkF rfl rfl (byF iNe hc3) rfl)<|t rfl rfl (oMv rfl rfl)<|tT rfl rfl rfl rfl (nF ((iAnd iEq (iAnd iEq (iAnd iEq iEq))).2 hc4)) (oMv rfl rfl)<|tT rfl rfl rfl rfl (nF ((iAnd iEq (iAnd iEq (iAnd iEq iEq))).2 hc4)) (oNl rfl rfl rfl)<|tT rfl rfl rfl rfl (nF ((iAnd iEq (iAnd iEq (iAnd iEq iEq))).2 hc4)) (oFA (r':=.im 2 _) rfl fF129_4 rfl rfl)<|tT rfl rfl rfl rfl (nF ((iAnd iEq (iAnd iEq (iAnd iEq iEq))).2 hc4)) (oLd (cs:=[.im 2 _]) rfl tF2 rfl rfl)<|tT rfl rfl rfl rfl (nF ((iAnd iEq (iAnd iEq (iAnd iEq iEq))).2 hc4)) (oMv rfl rfl)<|tT rfl rfl rfl rfl (nF ((iAnd iEq (iAnd iEq (iAnd iEq iEq))).2 hc4)) (oNl rfl rfl rfl)<|tT rfl rfl rfl rfl (nF ((iAnd iEq (iAnd iEq (iAnd iEq iEq))).2 hc4)) (oFA (r':=.im 2 _) rfl fF129_4 rfl rfl)<|tT rfl rfl rfl rfl (nF ((iAnd iEq (iAnd iEq (iAnd iEq iEq))).2 hc4)) (oLd (cs:=[.im 2 _]) rfl tF2 rfl rfl)<|tT rfl rfl rfl rfl (nF ((iAnd iEq (iAnd iEq (iAnd iEq iEq))).2 hc4)) (oBi rfl rfl rfl rfl)<|t rfl rfl (oPkF rfl rfl (nF ((iAnd iEq (iAnd iEq (iAnd iEq iEq))).2 hc4)) rfl)<|t rfl rfl (oMv rfl rfl)<|tT rfl rfl rfl rfl (byF iNe hc5) (oMv rfl rfl)<|tT rfl rfl rfl rfl (byF iNe hc5) (oNl rfl rfl rfl)<|tT rfl rfl rfl rfl (byF iNe hc5) (oFA (r':=.im 2 _) rfl fF129_5 rfl rfl)<|tT rfl rfl rfl rfl (byF iNe hc5) (oLd (cs:=[.im 2 _]) rfl tF2 rfl rfl)<|tT rfl rfl rfl rfl (byF iNe hc5) (oMv rfl rfl)<|tT rfl rfl rfl rfl (byF iNe hc5) (oNl rfl rfl rfl)<|tT rfl rfl rfl rfl (byF iNe hc5) (oFA (r':=.im 2 _) rfl fF129_5 rfl rfl)<|tT rfl rfl rfl rfl (byF iNe hc5) (oLd (cs:=[.im 2 _]) rfl tF2 rfl rfl)<|tT rfl rfl rfl rfl (byF iNe hc5) (oBi rfl rfl rfl rfl)<|t rfl rfl (oPkF rfl rfl (byF iNe hc5) rfl)<|t rfl rfl (oMv rfl rfl)<|tT rfl rfl rfl rfl (byF iNe hc6) (oMv rfl rfl)<|tT rfl rfl rfl rfl (byF iNe hc6) (oNl rfl rfl rfl)<|tT rfl rfl rfl rfl (byF iNe hc6) (oFA (r':=.im 2 _) rfl fF129_6 rfl rfl)<|tT rfl rfl rfl rfl (byF iNe hc6) (oLd (cs:=[.im 2 _]) rfl tF2 rfl rfl)<|tT rfl rfl rfl rfl (byF iNe hc6) (oMv rfl rfl)<|tT rfl rfl rfl rfl (byF iNe hc6) (oNl rfl rfl rfl)<|tT rfl rfl rfl rfl (byF iNe hc6) (oFA (r':=.im 2 _) rfl fF129_6 rfl rfl)<|tT rfl rfl rfl rfl (byF iNe hc6) (oLd (cs:=[.im 2 _]) rfl tF2 rfl rfl)<|tT rfl rfl rfl rfl (byF iNe hc6) (oBi rfl rfl rfl rfl)<|t rfl rfl (oPkF rfl rfl (byF iNe hc6) rfl)<|t rfl rfl (oMv rfl rfl)<|tF rfl rfl rfl rfl (iNe.2 hc7) rfl<|tF rfl rfl rfl rfl (iNe.2 hc7) rfl<|tF rfl rfl rfl rfl (iNe.2 hc7) rfl<|tF rfl rfl rfl rfl (iNe.2 hc7) rfl<|tF rfl rfl rfl rfl (iNe.2 hc7) rfl<|tF rfl rfl rfl rfl (iNe.2 hc7) rfl<|tF rfl rfl rfl rfl (iNe.2 hc7) rfl<|tF rfl rfl rfl rfl (iNe.2 hc7) rfl<|tF rfl rfl rfl rfl (iNe.2 hc7) rfl<|t rfl rfl (oPkT rfl rfl (iNe.2 hc7) rfl)<|sD (Eq.trans (b:=(fun t_95_m1:Bool=>mk [(0,D 2 (.cp (u_S_Job a_0) 0)),(1,D 2 (.cp (u_S_Job b_1) 0)),(95,bv t_95_m1)] []) true) (by kernel_rfl) (congrArg (fun t_95_m1:Bool=>mk [(0,D 2 (.cp (u_S_Job a_0) 0)),(1,D 2 (.cp (u_S_Job b_1) 0)),(95,bv t_95_m1)] []) (by first | rfl | (simp [(iR.2 hc1),(byF iNe hc2),(byF iNe hc3),((iAnd iEq (iAnd iEq (iAnd iEq iEq))).2 hc4),(byF iNe hc5),(byF iNe hc6),(iNe.2 hc7)];done) | (simp [(iR.2 hc1),(byF iNe hc2),(byF iNe hc3),((iAnd iEq (iAnd iEq (iAnd iEq iEq))).2 hc4),(byF iNe hc5),(byF iNe hc6),(iNe.2 hc7)];omega)))))
        ·exact t rfl rfl (oFA (r':=.im 2 _) rfl fF129_0 rfl rfl)<|sS (dN z157 rfl (oCa (xs:=[.v false [.im 2 _],.v false [.im 2 _]]) (vs:=[(false,[.im 0 _])]) (v:=.v false [.im 0 _]) (L_spec_l08Same hx13) (.inl rfl) rfl kF249_323_323 rfl (ppC rfl (ppC rfl pp0)) rfl rfl pb0 rfl rfl rfl)) trivial (t rfl rfl (oUn rfl rfl rfl)<|t rfl rfl (oMv rfl rfl)<|tT rfl rfl rfl rfl (nF (iR.2 hc1)) (oMv rfl rfl)<|tT rfl rfl rfl rfl (nF (iR.2 hc1)) (oNl rfl rfl rfl)<|tT rfl rfl rfl rfl (nF (iR.2 hc1)) (oFA (r':=.im 2 _) rfl fF129_1 rfl rfl)<|tT rfl rfl rfl rfl (nF (iR.2 hc1)) (oLd (cs:=[.im 2 _]) rfl tF44 rfl rfl)<|tT rfl rfl rfl rfl (nF (iR.2 hc1)) (oLnI rfl rfl uF44 rfl)<|tT rfl rfl rfl rfl (nF (iR.2 hc1)) (oMv rfl rfl)<|tT rfl rfl rfl rfl (nF (iR.2 hc1)) (oNl rfl rfl rfl)<|tT rfl rfl rfl rfl (nF (iR.2 hc1)) (oFA (r':=.im 2 _) rfl fF129_1 rfl rfl)<|tT rfl rfl rfl rfl (nF (iR.2 hc1)) (oLd (cs:=[.im 2 _]) rfl tF44 rfl rfl)<|tT rfl rfl rfl rfl (nF (iR.2 hc1)) (oLnI rfl rfl uF44 rfl)<|tT rfl rfl rfl rfl (nF (iR.2 hc1)) (oBi rfl rfl rfl rfl)<|t rfl rfl (oPkF rfl rfl (nF (iR.2 hc1)) rfl)<|t rfl rfl (oMv rfl rfl)<|tT rfl rfl rfl rfl (byF iNe hc2) (oMv rfl rfl)<|tT rfl rfl rfl rfl (byF iNe hc2) (oNl rfl rfl rfl)<|tT rfl rfl rfl rfl (byF iNe hc2) (oFA (r':=.im 2 _) rfl fF129_2 rfl rfl)<|tT rfl rfl rfl rfl (byF iNe hc2) (oLd (cs:=[.im 2 _]) rfl tF126 rfl rfl)<|tT rfl rfl rfl rfl (byF iNe hc2) (oLnI rfl rfl uF126 rfl)<|tT rfl rfl rfl rfl (byF iNe hc2) (oMv rfl rfl)<|tT rfl rfl rfl rfl (byF iNe hc2) (oNl rfl rfl rfl)<|tT rfl rfl rfl rfl (byF iNe hc2) (oFA (r':=.im 2 _) rfl fF129_2 rfl rfl)<|tT rfl rfl rfl rfl (byF iNe hc2) (oLd (cs:=[.im 2 _]) rfl tF126 rfl rfl)<|tT rfl rfl rfl rfl (byF iNe hc2) (oLnI rfl rfl uF126 rfl)<|tT rfl rfl rfl rfl (byF iNe hc2) (oBi rfl rfl rfl rfl)<|t rfl rfl (oPkF rfl rfl (byF iNe hc2) rfl)<|t rfl rfl (oMv rfl rfl)<|tT rfl rfl rfl rfl (byF iNe hc3) (oMv rfl rfl)<|tT rfl rfl rfl rfl (byF iNe hc3) (oNl rfl rfl rfl)<|tT rfl rfl rfl rfl (byF iNe hc3) (oFA (r':=.im 2 _) rfl fF129_3 rfl rfl)<|tT rfl rfl rfl rfl (byF iNe hc3) (oLd (cs:=[.im 2 _,.im 2 _,.im 2 _,.im 2 _]) rfl tF127 rfl rfl)<|tT rfl rfl rfl rfl (byF iNe hc3) (oMv rfl rfl)<|tT rfl rfl rfl rfl (byF iNe hc3) (oNl rfl rfl rfl)<|tT rfl rfl rfl rfl (byF iNe hc3) (oFA (r':=.im 2 _) rfl fF129_3 rfl rfl)<|tT rfl rfl rfl rfl (byF iNe hc3) (oLd (cs:=[.im 2 _,.im 2 _,.im 2 _,.im 2 _]) rfl tF127 rfl rfl)<|tT rfl rfl rfl rfl (byF iNe hc3) (oBa rfl (qNF127 a_0.Rules.Spacing a_0.Rules.Margin a_0.Rules.Angle a_0.Rules.Shade b_1.Rules.Spacing b_1.Rules.Margin b_1.Rules.Angle b_1.Rules.Shade) rfl rfl rfl rfl)<|t rfl rfl (oPkF rfl rfl (byF iNe hc3) rfl)<|t rfl rfl (oMv rfl rfl)<|tT rfl rfl rfl rfl (nF ((iAnd iEq (iAnd iEq (iAnd iEq iEq))).2 hc4)) (oMv rfl rfl)<|tT rfl rfl rfl rfl (nF ((iAnd iEq (iAnd iEq (iAnd iEq iEq))).2 hc4)) (oNl rfl rfl rfl)<|tT rfl rfl rfl rfl (nF ((iAnd iEq (iAnd iEq (iAnd iEq iEq))).2 hc4)) (oFA (r':=.im 2 _) rfl fF129_4 rfl rfl)<|tT rfl rfl rfl rfl (nF ((iAnd iEq (iAnd iEq (iAnd iEq iEq))).2 hc4)) (oLd (cs:=[.im 2 _]) rfl tF2 rfl rfl)<|tT rfl rfl rfl rfl (nF ((iAnd iEq (iAnd iEq (iAnd iEq iEq))).2 hc4)) (oMv rfl rfl)<|tT rfl rfl rfl rfl (nF ((iAnd iEq (iAnd iEq (iAnd iEq iEq))).2 hc4)) (oNl rfl rfl rfl)<|tT rfl rfl rfl rfl (nF ((iAnd iEq (iAnd iEq (iAnd iEq iEq))).2 hc4)) (oFA (r':=.im 2 _) rfl fF129_4 rfl rfl)<|tT rfl rfl rfl rfl (nF ((iAnd iEq (iAnd iEq (iAnd iEq iEq))).2 hc4)) (oLd (cs:=[.im 2 _]) rfl tF2 rfl rfl)<|tT rfl rfl rfl rfl (nF ((iAnd iEq (iAnd iEq (iAnd iEq iEq))).2 hc4)) (oBi rfl rfl rfl rfl)<|t rfl rfl (oPkF rfl rfl (nF ((iAnd iEq (iAnd iEq (iAnd iEq iEq))).2 hc4)) rfl)<|t rfl rfl (oMv rfl rfl)<|tT rfl rfl rfl rfl (byF iNe hc5) (oMv rfl rfl)<|tT rfl rfl rfl rfl (byF iNe hc5) (oNl rfl rfl rfl)<|tT rfl rfl rfl rfl (byF iNe hc5) (oFA (r':=.im 2 _) rfl fF129_5 rfl rfl)<|tT rfl rfl rfl rfl (byF iNe hc5) (oLd (cs:=[.im 2 _]) rfl tF2 rfl rfl)<|tT rfl rfl rfl rfl (byF iNe hc5) (oMv rfl rfl)<|tT rfl rfl rfl rfl (byF iNe hc5) (oNl rfl rfl rfl)<|tT rfl rfl rfl rfl (byF iNe hc5) (oFA (r':=.im 2 _) rfl fF129_5 rfl rfl)<|tT rfl rfl rfl rfl (byF iNe hc5) (oLd (cs:=[.im 2 _]) rfl tF2 rfl rfl)<|tT rfl rfl rfl rfl (byF iNe hc5) (oBi rfl rfl rfl rfl)<|t rfl rfl (oPkF rfl rfl (byF iNe hc5) rfl)<|t rfl rfl (oMv rfl rfl)<|tT rfl rfl rfl rfl (byF iNe hc6) (oMv rfl rfl)<|tT rfl rfl rfl rfl (byF iNe hc6) (oNl rfl rfl rfl)<|tT rfl rfl rfl rfl (byF iNe hc6) (oFA (r':=.im 2 _) rfl fF129_6 rfl rfl)<|tT rfl rfl rfl rfl (byF iNe hc6) (oLd (cs:=[.im 2 _]) rfl tF2 rfl rfl)<|tT rfl rfl rfl rfl (byF iNe hc6) (oMv rfl rfl)<|tT rfl rfl rfl rfl (byF iNe hc6) (oNl rfl rfl rfl)<|tT rfl rfl rfl rfl (byF iNe hc6) (oFA (r':=.im 2 _) rfl fF129_6 rfl rfl)<|tT rfl rfl rfl rfl (byF iNe hc6) (oLd (cs:=[.im 2 _]) rfl tF2 rfl rfl)<|tT rfl rfl rfl rfl (byF iNe hc6) (oBi rfl rfl rfl rfl)<|t rfl rfl (oPkF rfl rfl (byF iNe hc6) rfl)<|t rfl rfl (oMv rfl rfl)<|tT rfl rfl rfl rfl (byF iNe hc7) (oMv rfl rfl)<|tT rfl rfl rfl rfl (byF iNe hc7) (oNl rfl rfl rfl)<|tT rfl rfl rfl rfl (byF iNe hc7) (oFA (r':=.im 2 _) rfl fF129_7 rfl rfl)<|tT rfl rfl rfl rfl (byF iNe hc7) (oLd (cs:=[.im 2 _]) rfl tF2 rfl rfl)<|tT rfl rfl rfl rfl (byF iNe hc7) (oMv rfl rfl)<|tT rfl rfl rfl rfl (byF iNe hc7) (oNl rfl rfl rfl)<|tT rfl rfl rfl rfl (byF iNe hc7) (oFA (r':=.im 2 _) rfl fF129_7 rfl rfl)<|tT rfl rfl rfl rfl (byF iNe hc7) (oLd (cs:=[.im 2 _]) rfl tF2 rfl rfl)<|tT rfl rfl rfl rfl (byF iNe hc7) (oBi rfl rfl rfl rfl)<|t rfl rfl (oPkF rfl rfl (byF iNe hc7) rfl)<|sD (Eq.trans (b:=(fun t_95_m1:Bool=>mk [(0,D 2 (.cp (u_S_Job a_0) 0)),(1,D 2 (.cp (u_S_Job b_1) 0)),(95,bv t_95_m1)] []) (a_0.Gap != b_1.Gap)) (by kernel_rfl) (congrArg (fun t_95_m1:Bool=>mk [(0,D 2 (.cp (u_S_Job a_0) 0)),(1,D 2 (.cp (u_S_Job b_1) 0)),(95,bv t_95_m1)] []) (by first | rfl | (simp [(iR.2 hc1),(byF iNe hc2),(byF iNe hc3),((iAnd iEq (iAnd iEq (iAnd iEq iEq))).2 hc4),(byF iNe hc5),(byF iNe hc6),(byF iNe hc7)];done) | (simp [(iR.2 hc1),(byF iNe hc2),(byF iNe hc3),((iAnd iEq (iAnd iEq (iAnd iEq iEq))).2 hc4),(byF iNe hc5),(byF iNe hc6),(byF iNe hc7)];omega)))))
     ·exact t rfl rfl (oFA (r':=.im 2 _) rfl fF129_0 rfl rfl)<|sS (dN z157 rfl (oCa (xs:=[.v false [.im 2 _],.v false [.im 2 _]]) (vs:=[(false,[.im 0 _])]) (v:=.v false [.im 0 _]) (L_spec_l08Same hx13) (.inl rfl) rfl kF249_323_323 rfl (ppC rfl (ppC rfl pp0)) rfl rfl pb0 rfl rfl rfl)) trivial (t rfl rfl (oUn rfl rfl rfl)<|t rfl rfl (oMv rfl rfl)<|tT rfl rfl rfl rfl (nF (iR.2 hc1)) (oMv rfl rfl)<|tT rfl rfl rfl rfl (nF (iR.2 hc1)) (oNl rfl rfl rfl)<|tT rfl rfl rfl rfl (nF (iR.2 hc1)) (oFA (r':=.im 2 _) rfl fF129_1 rfl rfl)<|tT rfl rfl rfl rfl (nF (iR.2 hc1)) (oLd (cs:=[.im 2 _]) rfl tF44 rfl rfl)<|tT rfl rfl rfl rfl (nF (iR.2 hc1)) (oLnI rfl rfl uF44 rfl)<|tT rfl rfl rfl rfl (nF (iR.2 hc1)) (oMv rfl rfl)<|tT rfl rfl rfl rfl (nF (iR.2 hc1)) (oNl rfl rfl rfl)<|tT rfl rfl rfl rfl (nF (iR.2 hc1)) (oFA (r':=.im 2 _) rfl fF129_1 rfl rfl)<|tT rfl rfl rfl rfl (nF (iR.2 hc1)) (oLd (cs:=[.im 2 _]) rfl tF44 rfl rfl)<|tT rfl rfl rfl rfl (nF (iR.2 hc1)) (oLnI rfl rfl uF44 rfl)<|tT rfl rfl rfl rfl (nF (iR.2 hc1)) (oBi rfl rfl rfl rfl)<|t rfl rfl (oPkF rfl rfl (nF (iR.2 hc1)) rfl)<|t rfl rfl (oMv rfl rfl)<|tT rfl rfl rfl rfl (byF iNe hc2) (oMv rfl rfl)<|tT rfl rfl rfl rfl (byF iNe hc2) (oNl rfl rfl rfl)<|tT rfl rfl rfl rfl (byF iNe hc2) (oFA (r':=.im 2 _) rfl fF129_2 rfl rfl)<|tT rfl rfl rfl rfl (byF iNe hc2) (oLd (cs:=[.im 2 _]) rfl tF126 rfl rfl)<|tT rfl rfl rfl rfl (byF iNe hc2) (oLnI rfl rfl uF126 rfl)<|tT rfl rfl rfl rfl (byF iNe hc2) (oMv rfl rfl)<|tT rfl rfl rfl rfl (byF iNe hc2) (oNl rfl rfl rfl)<|tT rfl rfl rfl rfl (byF iNe hc2) (oFA (r':=.im 2 _) rfl fF129_2 rfl rfl)<|tT rfl rfl rfl rfl (byF iNe hc2) (oLd (cs:=[.im 2 _]) rfl tF126 rfl rfl)<|tT rfl rfl rfl rfl (byF iNe hc2) (oLnI rfl rfl uF126 rfl)<|tT rfl rfl rfl rfl (byF iNe hc2) (oBi rfl rfl rfl rfl)<|t rfl rfl (oPkF rfl rfl (byF iNe hc2) rfl)<|t rfl rfl (oMv rfl rfl)<|tT rfl rfl rfl rfl (byF iNe hc3) (oMv rfl rfl)<|tT rfl rfl rfl rfl (byF iNe hc3) (oNl rfl rfl rfl)<|tT rfl rfl rfl rfl (byF iNe hc3) (oFA (r':=.im 2 _) rfl fF129_3 rfl rfl)<|tT rfl rfl rfl rfl (byF iNe hc3) (oLd (cs:=[.im 2 _,.im 2 _,.im 2 _,.im 2 _]) rfl tF127 rfl rfl)<|tT rfl rfl rfl rfl (byF iNe hc3) (oMv rfl rfl)<|tT rfl rfl rfl rfl (byF iNe hc3) (oNl rfl rfl rfl)<|tT rfl rfl rfl rfl (byF iNe hc3) (oFA (r':=.im 2 _) rfl fF129_3 rfl rfl)<|tT rfl rfl rfl rfl (byF iNe hc3) (oLd (cs:=[.im 2 _,.im 2 _,.im 2 _,.im 2 _]) rfl tF127 rfl rfl)<|tT rfl rfl rfl rfl (byF iNe hc3) (oBa rfl (qNF127 a_0.Rules.Spacing a_0.Rules.Margin a_0.Rules.Angle a_0.Rules.Shade b_1.Rules.Spacing b_1.Rules.Margin b_1.Rules.Angle b_1.Rules.Shade) rfl rfl rfl rfl)<|t rfl rfl (oPkF rfl rfl (byF iNe hc3) rfl)<|t rfl rfl (oMv rfl rfl)<|tF rfl rfl rfl rfl (nT (byF (iAnd iEq (iAnd iEq (iAnd iEq iEq))) hc4)) rfl<|tF rfl rfl rfl rfl (nT (byF (iAnd iEq (iAnd iEq (iAnd iEq iEq))) hc4)) rfl<|tF rfl rfl rfl rfl (nT (byF (iAnd iEq (iAnd iEq (iAnd iEq iEq))) hc4)) rfl<|tF rfl rfl rfl rfl (nT (byF (iAnd iEq (iAnd iEq (iAnd iEq iEq))) hc4)) rfl<|tF rfl rfl rfl rfl (nT (byF (iAnd iEq (iAnd iEq (iAnd iEq iEq))) hc4)) rfl<|tF rfl rfl rfl rfl (nT (byF (iAnd iEq (iAnd iEq (iAnd iEq iEq))) hc4)) rfl<|tF rfl rfl rfl rfl (nT (byF (iAnd iEq (iAnd iEq (iAnd iEq iEq))) hc4)) rfl<|tF rfl rfl rfl rfl (nT (byF (iAnd iEq (iAnd iEq (iAnd iEq iEq))) hc4)) rfl<|tF rfl rfl rfl rfl (nT (byF (iAnd iEq (iAnd iEq (iAnd iEq iEq))) hc4)) rfl<|t rfl rfl (oPkT rfl rfl (nT (byF (iAnd iEq (iAnd iEq (iAnd iEq iEq))) hc4)) rfl)<|t rfl rfl (oMv rfl rfl)<|tF rfl rfl rfl rfl rfl rfl<|tF rfl rfl rfl rfl rfl rfl<|tF rfl rfl rfl rfl rfl rfl<|tF rfl rfl rfl rfl rfl rfl<|tF rfl rfl rfl rfl rfl rfl<|tF rfl rfl rfl rfl rfl rfl<|tF rfl rfl rfl rfl rfl rfl<|tF rfl rfl rfl rfl rfl rfl<|tF rfl rfl rfl rfl rfl rfl<|t rfl rfl (oPkT rfl rfl rfl rfl)<|t rfl rfl (oMv rfl rfl)<|tF rfl rfl rfl rfl rfl rfl<|tF rfl rfl rfl rfl rfl rfl<|tF rfl rfl rfl rfl rfl rfl<|tF rfl rfl rfl rfl rfl rfl<|tF rfl rfl rfl rfl rfl rfl<|tF rfl rfl rfl rfl rfl rfl<|tF rfl rfl rfl rfl rfl rfl<|tF rfl rfl rfl rfl rfl rfl<|tF rfl rfl rfl rfl rfl rfl<|t rfl rfl (oPkT rfl rfl rfl rfl)<|t rfl rfl (oMv rfl rfl)<|tF rfl rfl rfl rfl rfl rfl<|tF rfl rfl rfl rfl rfl rfl<|tF rfl rfl rfl rfl rfl rfl<|tF rfl rfl rfl rfl rfl rfl<|tF rfl rfl rfl rfl rfl rfl<|tF rfl rfl rfl rfl rfl rfl<|tF rfl rfl rfl rfl rfl rfl<|tF rfl rfl rfl rfl rfl rfl<|tF rfl rfl rfl rfl rfl rfl<|t rfl rfl (oPkT rfl rfl rfl rfl)<|sD (Eq.trans (b:=(fun t_95_m1:Bool=>mk [(0,D 2 (.cp (u_S_Job a_0) 0)),(1,D 2 (.cp (u_S_Job b_1) 0)),(95,bv t_95_m1)] []) true) (by kernel_rfl) (congrArg (fun t_95_m1:Bool=>mk [(0,D 2 (.cp (u_S_Job a_0) 0)),(1,D 2 (.cp (u_S_Job b_1) 0)),(95,bv t_95_m1)] []) (by first | rfl | (simp [(iR.2 hc1),(byF iNe hc2),(byF iNe hc3),(byF (iAnd iEq (iAnd iEq (iAnd iEq iEq))) hc4)];done) | (simp [(iR.2 hc1),(byF iNe hc2),(byF iNe hc3),(byF (iAnd iEq (iAnd iEq (iAnd iEq iEq))) hc4)];omega)))))
  ·exact t rfl rfl (oFA (r':=.im 2 _) rfl fF129_0 rfl rfl)<|sS (dN z157 rfl (oCa (xs:=[.v false [.im 2 _],.v false [.im 2 _]]) (vs:=[(false,[.im 0 _])]) (v:=.v false [.im 0 _]) (L_spec_l08Same hx13) (.inl rfl) rfl kF249_323_323 rfl (ppC rfl (ppC rfl pp0)) rfl rfl pb0 rfl rfl rfl)) trivial (t rfl rfl (oUn rfl rfl rfl)<|t rfl rfl (oMv rfl rfl)<|tF rfl rfl rfl rfl (nT (byF iR hc1)) rfl<|tF rfl rfl rfl rfl (nT (byF iR hc1)) rfl<|tF rfl rfl rfl rfl (nT (byF iR hc1)) rfl<|tF rfl rfl rfl rfl (nT (byF iR hc1)) rfl<|tF rfl rfl rfl rfl (nT (byF iR hc1)) rfl<|tF rfl rfl rfl rfl (nT (byF iR hc1)) rfl<|tF rfl rfl rfl rfl (nT (byF iR hc1)) rfl<|tF rfl rfl rfl rfl (nT (byF iR hc1)) rfl<|tF rfl rfl rfl rfl (nT (byF iR hc1)) rfl<|tF rfl rfl rfl rfl (nT (byF iR hc1)) rfl<|tF rfl rfl rfl rfl (nT (byF iR hc1)) rfl<|t rfl rfl (oPkT rfl rfl (nT (byF iR hc1)) rfl)<|t rfl rfl (oMv rfl rfl)<|tF rfl rfl rfl rfl rfl rfl<|tF rfl rfl rfl rfl rfl rfl<|tF rfl rfl rfl rfl rfl rfl<|tF rfl rfl rfl rfl rfl rfl<|tF rfl rfl rfl rfl rfl rfl<|tF rfl rfl rfl rfl rfl rfl<|tF rfl rfl rfl rfl rfl rfl<|tF rfl rfl rfl rfl rfl rfl<|tF rfl rfl rfl rfl rfl rfl<|tF rfl rfl rfl rfl rfl rfl<|tF rfl rfl rfl rfl rfl rfl<|t rfl rfl (oPkT rfl rfl rfl rfl)<|t rfl rfl (oMv rfl rfl)<|tF rfl rfl rfl rfl rfl rfl<|tF rfl rfl rfl rfl rfl rfl<|tF rfl rfl rfl rfl rfl rfl<|tF rfl rfl rfl rfl rfl rfl<|tF rfl rfl rfl rfl rfl rfl<|tF rfl rfl rfl rfl rfl rfl<|tF rfl rfl rfl rfl rfl rfl<|tF rfl rfl rfl rfl rfl rfl<|tF rfl rfl rfl rfl rfl rfl<|t rfl rfl (oPkT rfl rfl rfl rfl)<|t rfl rfl (oMv rfl rfl)<|tF rfl rfl rfl rfl rfl rfl<|tF rfl rfl rfl rfl rfl rfl<|tF rfl rfl rfl rfl rfl rfl<|tF rfl rfl rfl rfl rfl rfl<|tF rfl rfl rfl rfl rfl rfl<|tF rfl rfl rfl rfl rfl rfl<|tF rfl rfl rfl rfl rfl rfl<|tF rfl rfl rfl rfl rfl rfl<|tF rfl rfl rfl rfl rfl rfl<|t rfl rfl (oPkT rfl rfl rfl rfl)<|t rfl rfl (oMv rfl rfl)<|tF rfl rfl rfl rfl rfl rfl<|tF rfl rfl rfl rfl rfl rfl<|tF rfl rfl rfl rfl rfl rfl<|tF rfl rfl rfl rfl rfl rfl<|tF rfl rfl rfl rfl rfl rfl<|tF rfl rfl rfl rfl rfl rfl<|tF rfl rfl rfl rfl rfl rfl<|tF rfl rfl rfl rfl rfl rfl<|tF rfl rfl rfl rfl rfl rfl<|t rfl rfl (oPkT rfl rfl rfl rfl)<|t rfl rfl (oMv rfl rfl)<|tF rfl rfl rfl rfl rfl rfl<|tF rfl rfl rfl rfl rfl rfl<|tF rfl rfl rfl rfl rfl rfl<|tF rfl rfl rfl rfl rfl rfl<|tF rfl rfl rfl rfl rfl rfl<|tF rfl rfl rfl rfl rfl rfl<|tF rfl rfl rfl rfl rfl rfl<|tF rfl rfl rfl rfl rfl rfl<|tF rfl rfl rfl rfl rfl rfl<|t rfl rfl (oPkT rfl rfl rfl rfl)<|t rfl rfl (oMv rfl rfl)<|tF rfl rfl rfl rfl rfl rfl<|tF rfl rfl rfl rfl rfl rfl<|tF rfl rfl rfl rfl rfl rfl<|tF rfl rfl rfl rfl rfl rfl<|tF rfl rfl rfl rfl rfl rfl<|tF rfl rfl rfl rfl rfl rfl<|tF rfl rfl rfl rfl rfl rfl<|tF rfl rfl rfl rfl rfl rfl<|tF rfl rfl rfl rfl rfl rfl<|t rfl rfl (oPkT rfl rfl rfl rfl)<|sD (Eq.trans (b:=(fun t_95_m1:Bool=>mk [(0,D 2 (.cp (u_S_Job a_0) 0)),(1,D 2 (.cp (u_S_Job b_1) 0)),(95,bv t_95_m1)] []) true) (by kernel_rfl) (congrArg (fun t_95_m1:Bool=>mk [(0,D 2 (.cp (u_S_Job a_0) 0)),(1,D 2 (.cp (u_S_Job b_1) 0)),(95,bv t_95_m1)] []) (by first | rfl | (simp [(byF iR hc1)];done) | (simp [(byF iR hc1)];omega)))))
 ·refine us<|gc h j (iOr (iNot iR) (iOr iNe (iOr iNe (iOr (iNot (iAnd iEq (iAnd iEq (iAnd iEq iEq)))) (iOr iNe (iOr iNe (iOr iNe iNe))))))) (fun hc8 h=>?_) fun hc8 h=>?_
  ·refine gs<|g0 j j (q (oAsI j j)<|nl)<|us<|Go.ret (Unw.ret ?_)
   cases h
   exact fr rF157 j
  ·refine Go.skip<|us<|gs<|gs<|g0 j j (q (oAsI j j)<|nl)<|us<|Go.block<|?_
   obtain ⟨o,hl,h⟩:=bs h
   refine gl c157 j _ (fun (i_5_l4:Int)=>mk [(0,D 2 (.cp (u_S_Job a_0) 0)),(1,D 2 (.cp (u_S_Job b_1) 0)),(5,iv i_5_l4)] []) (fun (o:(Unit ⊕ Bool)) (p:Ex×St)=>match o with | (.inl _)=>p.1= .exit 0∧p.2.norm ([0,1],[])=mk [(0,D 2 (.cp (u_S_Job a_0) 0)),(1,D 2 (.cp (u_S_Job b_1) 0))] [] | (.inr r2)=>p.1= .ret∧fin Try.prog cfg 157 Try.f157 [.im 2 false [.cp (u_S_Job a_0) 0],.im 2 false [.cp (u_S_Job b_1) 0]] p.2=some (B0 [(false,[.im 0 (V r2)])])) hl (by kernel_rfl) ?_ ?_ ?_
   ·intro o p hp e
    rcases o with u | r2<;>exact nomatch (hp.1.symm.trans e)
   ·rintro i_5_l4 o h
    unfold spec_l32Job_l4 at h
    refine gs<|gs<|g0 j j (q (oMv j j)<|q (oMv j j)<|q (oNl j j j)<|q (oFA (r':=.im 2 _) j fF129_1 j j)<|q (oLd (cs:=[.im 2 _]) j tF44 j j)<|q (oLnI j j uF44 j)<|q (oBi j j j j)<|nl)<|us<|gc h j iDec (fun hc21 h=>?_) fun hc21 h=>?_
    ·refine Go.skip<|us<|gs<|Go.block<|gs<|?_
     obtain ⟨x110,hx110,h⟩:=bs h
     obtain ⟨x116,hx116,h⟩:=bs h
     obtain ⟨x117,hx117,h⟩:=bs h
     refine gd c157 j j j j (mk [(0,D 2 (.cp (u_S_Job a_0) 0)),(1,D 2 (.cp (u_S_Job b_1) 0)),(5,iv i_5_l4),(118,bv (!x117))] []) (t j j (oMv j j)<|t j j (oNl j j j)<|t j j (oFA (r':=.im 2 _) j fF129_1 j j)<|t j j (oLd (cs:=[.im 2 _]) j tF44 j j)<|t j j (oMv j j)<|t j j (oIAI j hx110 sF44 j j)<|t j j (oMv j j)<|t j j (oNl j j j)<|t j j (oFA (r':=.im 2 _) j fF129_1 j j)<|t j j (oLd (cs:=[.im 2 _]) j tF44 j j)<|t j j (oMv j j)<|t j j (oIAI j hx116 sF44 j j)<|sS (dN z157 j (oCa (xs:=[.v false [.im 2 _],.v false [.im 2 _]]) (vs:=[(false,[.im 0 _])]) (v:=.v false [.im 0 _]) (L_spec_l09Same hx117) (.inl j) j kF250_270_270 j (ppC j (ppC j pp0)) j j pb0 j j j)) trivial (t j j (oUn j j j)<|sD (by kernel_rfl)))<|us<|?_
     by_cases hc22:x117=true
     ·rw [if_pos hc22] at h
      refine gF j (nF (iR.2 hc22))<|Go.skip<|Unw.blk<|us<|g0 j j (q (oMv j j)<|q (oBi j j j j)<|q (oAsI j j)<|nl)<|Unw.nil<|?_
      cases h
      exact ⟨j,(by kernel_rfl)⟩
     ·rw [if_neg hc22] at h
      refine gT j (nT (byF iR hc22))<|gs<|g0 j j (q (oAsI j j)<|nl)<|us<|Go.ret (Unw.ret ?_)
      cases h
      exact ⟨j,(fo rF157 j)⟩
    ·refine Go.exit<|ux<|Unw.nil<|?_
     cases h
     exact ⟨j,(by kernel_rfl)⟩
   ·rintro ⟨e,st⟩ hp
    rcases o with u | r2
    ·dsimp only at h
     obtain ⟨he,hst⟩:=hp
     obtain rfl:e= .exit 0:=he
     refine Unw.blkx<|us<|gs<|gs<|g2 c157 j j hst (q (oAsI j j)<|nl)<|us<|Go.block<|?_
     obtain ⟨o,hl,h⟩:=bs h
     refine gl c157 j _ (fun (i_6_l9:Int)=>mk [(0,D 2 (.cp (u_S_Job a_0) 0)),(1,D 2 (.cp (u_S_Job b_1) 0)),(6,iv i_6_l9)] []) (fun (o:(Unit ⊕ Bool)) (p:Ex×St)=>match o with | (.inl _)=>p.1= .exit 2∧p.2.norm ([0,1],[])=mk [(0,D 2 (.cp (u_S_Job a_0) 0)),(1,D 2 (.cp (u_S_Job b_1) 0))] [] | (.inr r2)=>p.1= .ret∧fin Try.prog cfg 157 Try.f157 [.im 2 false [.cp (u_S_Job a_0) 0],.im 2 false [.cp (u_S_Job b_1) 0]] p.2=some (B0 [(false,[.im 0 (V r2)])])) hl (by kernel_rfl) ?_ ?_ ?_
     ·intro o p hp e
      rcases o with u | r2<;>exact nomatch (hp.1.symm.trans e)
     ·rintro i_6_l9 o h
      unfold spec_l32Job_l9 at h
      refine gs<|gs<|g0 j j (q (oMv j j)<|q (oMv j j)<|q (oNl j j j)<|q (oFA (r':=.im 2 _) j fF129_2 j j)<|q (oLd (cs:=[.im 2 _]) j tF126 j j)<|q (oLnI j j uF126 j)<|q (oBi j j j j)<|nl)<|us<|gc h j iDec (fun hc19 h=>?_) fun hc19 h=>?_
      ·refine Go.skip<|us<|gs<|Go.block<|gs<|?_
       obtain ⟨x133,hx133,h⟩:=bs h
       obtain ⟨x140,hx140,h⟩:=bs h
       refine gd c157 j j j j (mk [(0,D 2 (.cp (u_S_Job a_0) 0)),(1,D 2 (.cp (u_S_Job b_1) 0)),(6,iv i_6_l9),(142,bv (!((x133.Face==x140.Face)&&((x133.Leaf==x140.Leaf)&&((x133.X==x140.X)&&((x133.Y==x140.Y)&&(x133.Turn==x140.Turn)))))))] []) (t j j (oMv j j)<|t j j (oNl j j j)<|t j j (oFA (r':=.im 2 _) j fF129_2 j j)<|t j j (oLd (cs:=[.im 2 _]) j tF126 j j)<|t j j (oMv j j)<|t j j (oIAI j hx133 sF126 j j)<|t j j (oLd (cs:=[.im 2 _,.im 2 _,.im 2 _,.im 2 _,.im 2 _]) j tF326 j j)<|t j j (oMv j j)<|t j j (oNl j j j)<|t j j (oFA (r':=.im 2 _) j fF129_2 j j)<|t j j (oLd (cs:=[.im 2 _]) j tF126 j j)<|t j j (oMv j j)<|t j j (oIAI j hx140 sF126 j j)<|t j j (oLd (cs:=[.im 2 _,.im 2 _,.im 2 _,.im 2 _,.im 2 _]) j tF326 j j)<|t j j (oBa j (qNF326 x133.Face x133.Leaf x133.X x133.Y x133.Turn x140.Face x140.Leaf x140.X x140.Y x140.Turn) j j j j)<|sD (by kernel_rfl))<|us<|?_
       by_cases hc20:(x133.Face=x140.Face∧(x133.Leaf=x140.Leaf∧(x133.X=x140.X∧(x133.Y=x140.Y∧x133.Turn=x140.Turn))))
       ·rw [if_pos hc20] at h
        refine gF j (nF ((iAnd iEq (iAnd iEq (iAnd iEq (iAnd iEq iEq)))).2 hc20))<|Go.skip<|Unw.blk<|us<|g0 j j (q (oMv j j)<|q (oBi j j j j)<|q (oAsI j j)<|nl)<|Unw.nil<|?_
        cases h
        exact ⟨j,(by kernel_rfl)⟩
       ·rw [if_neg hc20] at h
        refine gT j (nT (byF (iAnd iEq (iAnd iEq (iAnd iEq (iAnd iEq iEq)))) hc20))<|gs<|g0 j j (q (oAsI j j)<|nl)<|us<|Go.ret (Unw.ret ?_)
        cases h
        exact ⟨j,(fo rF157 j)⟩
      ·refine Go.exit<|ux<|Unw.nil<|?_
       cases h
       exact ⟨j,(by kernel_rfl)⟩
     ·rintro ⟨e,st⟩ hp
      rcases o with u | r2
      ·dsimp only at h
       obtain ⟨he,hst⟩:=hp
       obtain rfl:e= .exit 2:=he
       refine Unw.blkx<|us<|gs<|?_
       obtain ⟨x151,hx151,h⟩:=bs h
       obtain ⟨t_4_m13,hm18,h⟩:=bs h
       refine gd c157 j j j hst (mk [(4,bv t_4_m13)] []) ?_ ?_
       ·refine t j j (oMv j j)<|t j j (oNl j j j)<|t j j (oFA (r':=.im 2 _) j fF129_8 j j)<|t j j (oLd (cs:=[.im 2 _]) j tF28 j j)<|t j j (oMv j j)<|t j j (oNl j j j)<|t j j (oFA (r':=.im 2 _) j fF129_8 j j)<|?_
        refine ic hm18 (fun hc17 hm18=>?_) fun hc17 hm18=>?_
        ·obtain ⟨x161,hx161,hm18⟩:=bs hm18
         cases hm18
         exact t j j (oLd (cs:=[.im 2 _]) j tF28 j j)<|sS (dN z157 j (oCa (xs:=[.v false [.im 2 _],.v false [.im 2 _]]) (vs:=[(false,[.im 0 _])]) (v:=.v false [.im 0 _]) (L_spec_l00Same hx151) (.inl j) j kF251_28_28 j (ppC j (ppC j pp0)) j j pb0 j j j)) trivial (t j j (oMv j j)<|tT j j j j (iR.2 hc17) (oMv j j)<|tT j j j j (iR.2 hc17) (oNl j j j)<|tT j j j j (iR.2 hc17) (oFA (r':=.im 2 _) j fF129_9 j j)<|tT j j j j (iR.2 hc17) (oLd (cs:=[.im 2 _]) j tF28 j j)<|tT j j j j (iR.2 hc17) (oMv j j)<|tT j j j j (iR.2 hc17) (oNl j j j)<|tT j j j j (iR.2 hc17) (oFA (r':=.im 2 _) j fF129_9 j j)<|tT j j j j (iR.2 hc17) (oLd (cs:=[.im 2 _]) j tF28 j j)<|sS (dT z157 j j j (iR.2 hc17) (oCa (xs:=[.v false [.im 2 _],.v false [.im 2 _]]) (vs:=[(false,[.im 0 _])]) (v:=.v false [.im 0 _]) (L_spec_l00Same hx161) (.inl j) j kF251_28_28 j (ppC j (ppC j pp0)) j j pb0 j j j)) trivial (t j j (oPkT j j (iR.2 hc17) j)<|sS (dN z157 j (oAsI j j)) trivial (sD (by kernel_rfl))))
        ·cases hm18
         exact t j j (oLd (cs:=[.im 2 _]) j tF28 j j)<|sS (dN z157 j (oCa (xs:=[.v false [.im 2 _],.v false [.im 2 _]]) (vs:=[(false,[.im 0 _])]) (v:=.v false [.im 0 _]) (L_spec_l00Same hx151) (.inl j) j kF251_28_28 j (ppC j (ppC j pp0)) j j pb0 j j j)) trivial (t j j (oMv j j)<|tF j j j j (byF iR hc17) j<|tF j j j j (byF iR hc17) j<|tF j j j j (byF iR hc17) j<|tF j j j j (byF iR hc17) j<|tF j j j j (byF iR hc17) j<|tF j j j j (byF iR hc17) j<|tF j j j j (byF iR hc17) j<|tF j j j j (byF iR hc17) j<|sS (dF j j j (byF iR hc17) j) trivial (t j j (oPkF j j (byF iR hc17) j)<|sS (dN z157 j (oAsI j j)) trivial (sD (by kernel_rfl))))
       ·refine us<|Go.ret (Unw.ret ?_)
        cases h
        exact fr rF157 j
      ·dsimp only at h
       obtain ⟨he,hfin⟩:=hp
       obtain rfl:e= .ret:=he
       cases h
       exact Unw.ret (Fin_ret hfin)
    ·dsimp only at h
     obtain ⟨he,hfin⟩:=hp
     obtain rfl:e= .ret:=he
     cases h
     exact Unw.ret (Fin_ret hfin)
theorem L_spec_SameDesk {a_0:S_Desk} {b_1:S_Desk} {r:Bool} (h:spec_SameDesk a_0 b_1=some r):FX 78 [.im 2 true (u_S_Desk a_0),.im 2 true (u_S_Desk b_1)] (B0 [(false,[.im 0 (V r)])]):=by
 unfold spec_SameDesk at h
 refine gn 72 Try.func78 rfl ?_
 refine gs<|g0 j j (q (oBx j tF134 j (tkI (tkI (tkI (tkI (tkI (tkI (tkI (tkI (tkI (tkI (tkI (tkI (tkI (tkI (tkI (tkI (tkI (tkI (tkI (tkI (tkI (tkI (tkI (tkI tk0)))))))))))))))))))))))))<|q (oBx j tF134 j (tkI (tkI (tkI (tkI (tkI (tkI (tkI (tkI (tkI (tkI (tkI (tkI (tkI (tkI (tkI (tkI (tkI (tkI (tkI (tkI (tkI (tkI (tkI (tkI tk0)))))))))))))))))))))))))<|q (oAsI j j)<|nl)<|us<|gs<|gs<|?_
 obtain ⟨x9,hx9,h⟩:=bs h
 refine gX c78 j j (st1:=mk [(2,M 2),(3,M 3)] [(2,Oa (G 2 (u_S_Desk a_0))),(3,Oa (G 2 (u_S_Desk b_1)))]) (by kernel_rfl) (mk [(2,M 2),(3,M 3),(35,bv ((!x9)||((!((a_0.Rates.Hour==b_1.Rates.Hour)&&((a_0.Rates.Edge==b_1.Rates.Edge)&&((a_0.Rates.Face==b_1.Rates.Face)&&((a_0.Rates.Waste==b_1.Rates.Waste)&&(a_0.Rates.Margin==b_1.Rates.Margin))))))||(((a_0.Bonds.length:Int) != (b_1.Bonds.length:Int))||((a_0.Coats.length:Int) != (b_1.Coats.length:Int))))))] [(2,Oa (G 2 (u_S_Desk a_0))),(3,Oa (G 2 (u_S_Desk b_1)))]) ?_ ?_
 ·refine xq (oFA (r':=.mp 2 0 0) j fF134_0 j j)<|xq (oFA (r':=.mp 3 0 0) j fF134_0 j j)<|xq (oCa (xs:=[.v false [.mp 2 0 0],.v false [.mp 3 0 0]]) (vs:=[(false,[.im 0 _])]) (v:=.v false [.im 0 _]) (L_spec_l32Job hx9) (.inl j) j kF157_239_239 j (ppC j (ppC j pp0)) j j pb0 j j j)<|xq (oUn j j j)<|xq (oMv j j)<|?_
  by_cases hc1:x9=true
  ·refine xqT j j (nF (iR.2 hc1)) (oFA (r':=.mp 2 0 19) j fF134_3 j j)<|xqT j j (nF (iR.2 hc1)) (oLd (cs:=[.im 0 _,.im 0 _,.im 0 _,.im 0 _,.im 0 _]) j tF132 j j)<|xqT j j (nF (iR.2 hc1)) (oFA (r':=.mp 3 0 19) j fF134_3 j j)<|xqT j j (nF (iR.2 hc1)) (oLd (cs:=[.im 0 _,.im 0 _,.im 0 _,.im 0 _,.im 0 _]) j tF132 j j)<|xqT j j (nF (iR.2 hc1)) (oBa j (qNF132 a_0.Rates.Hour a_0.Rates.Edge a_0.Rates.Face a_0.Rates.Waste a_0.Rates.Margin b_1.Rates.Hour b_1.Rates.Edge b_1.Rates.Face b_1.Rates.Waste b_1.Rates.Margin) j j j j)<|xq (oPkF j j (nF (iR.2 hc1)) j)<|xq (oMv j j)<|?_
   by_cases hc2:(a_0.Rates.Hour=b_1.Rates.Hour∧(a_0.Rates.Edge=b_1.Rates.Edge∧(a_0.Rates.Face=b_1.Rates.Face∧(a_0.Rates.Waste=b_1.Rates.Waste∧a_0.Rates.Margin=b_1.Rates.Margin))))
   ·refine xqT j j (nF ((iAnd iEq (iAnd iEq (iAnd iEq (iAnd iEq iEq)))).2 hc2)) (oFA (r':=.mp 2 0 17) j fF134_1 j j)<|xqT j j (nF ((iAnd iEq (iAnd iEq (iAnd iEq (iAnd iEq iEq)))).2 hc2)) (oLd (cs:=[.im 2 _]) j tF130 j j)<|xqT j j (nF ((iAnd iEq (iAnd iEq (iAnd iEq (iAnd iEq iEq)))).2 hc2)) (oLnI j j uF130 j)<|xqT j j (nF ((iAnd iEq (iAnd iEq (iAnd iEq (iAnd iEq iEq)))).2 hc2)) (oFA (r':=.mp 3 0 17) j fF134_1 j j)<|xqT j j (nF ((iAnd iEq (iAnd iEq (iAnd iEq (iAnd iEq iEq)))).2 hc2)) (oLd (cs:=[.im 2 _]) j tF130 j j)<|xqT j j (nF ((iAnd iEq (iAnd iEq (iAnd iEq (iAnd iEq iEq)))).2 hc2)) (oLnI j j uF130 j)<|xqT j j (nF ((iAnd iEq (iAnd iEq (iAnd iEq (iAnd iEq iEq)))).2 hc2)) (oBi j j j j)<|xq (oPkF j j (nF ((iAnd iEq (iAnd iEq (iAnd iEq (iAnd iEq iEq)))).2 hc2)) j)<|xq (oMv j j)<|?_
    by_cases hc3:(a_0.Bonds.length:Int)≠(b_1.Bonds.length:Int)
    ·exact xsgF rfl rfl (iNe.2 hc3) rfl<|xsgF rfl rfl (iNe.2 hc3) rfl<|xsgF rfl rfl (iNe.2 hc3) rfl<|xsgF rfl rfl (iNe.2 hc3) rfl<|xsgF rfl rfl (iNe.2 hc3) rfl<|xsgF rfl rfl (iNe.2 hc3) rfl<|xsgF rfl rfl (iNe.2 hc3) rfl<|xq (oPkT rfl rfl (iNe.2 hc3) rfl)<|xn (Eq.trans (b:=(fun t_35_m1:Bool=>mk [(2,M 2),(3,M 3),(35,bv t_35_m1)] [(2,Oa (G 2 (u_S_Desk a_0))),(3,Oa (G 2 (u_S_Desk b_1)))]) true) (by kernel_rfl) (congrArg (fun t_35_m1:Bool=>mk [(2,M 2),(3,M 3),(35,bv t_35_m1)] [(2,Oa (G 2 (u_S_Desk a_0))),(3,Oa (G 2 (u_S_Desk b_1)))]) (by first | rfl | (simp [(iR.2 hc1),((iAnd iEq (iAnd iEq (iAnd iEq (iAnd iEq iEq)))).2 hc2),(iNe.2 hc3)];done) | (simp [(iR.2 hc1),((iAnd iEq (iAnd iEq (iAnd iEq (iAnd iEq iEq)))).2 hc2),(iNe.2 hc3)];omega))))
    ·exact xqT rfl rfl (byF iNe hc3) (oFA (r':=.mp 2 0 18) rfl fF134_2 rfl rfl)<|xqT rfl rfl (byF iNe hc3) (oLd (cs:=[.im 2 _]) rfl tF131 rfl rfl)<|xqT rfl rfl (byF iNe hc3) (oLnI rfl rfl uF131 rfl)<|xqT rfl rfl (byF iNe hc3) (oFA (r':=.mp 3 0 18) rfl fF134_2 rfl rfl)<|xqT rfl rfl (byF iNe hc3) (oLd (cs:=[.im 2 _]) rfl tF131 rfl rfl)<|xqT rfl rfl (byF iNe hc3) (oLnI rfl rfl uF131 rfl)<|xqT rfl rfl (byF iNe hc3) (oBi rfl rfl rfl rfl)<|xq (oPkF rfl rfl (byF iNe hc3) rfl)<|xn (Eq.trans (b:=(fun t_35_m1:Bool=>mk [(2,M 2),(3,M 3),(35,bv t_35_m1)] [(2,Oa (G 2 (u_S_Desk a_0))),(3,Oa (G 2 (u_S_Desk b_1)))]) ((a_0.Coats.length:Int) != (b_1.Coats.length:Int))) (by kernel_rfl) (congrArg (fun t_35_m1:Bool=>mk [(2,M 2),(3,M 3),(35,bv t_35_m1)] [(2,Oa (G 2 (u_S_Desk a_0))),(3,Oa (G 2 (u_S_Desk b_1)))]) (by first | rfl | (simp [(iR.2 hc1),((iAnd iEq (iAnd iEq (iAnd iEq (iAnd iEq iEq)))).2 hc2),(byF iNe hc3)];done) | (simp [(iR.2 hc1),((iAnd iEq (iAnd iEq (iAnd iEq (iAnd iEq iEq)))).2 hc2),(byF iNe hc3)];omega))))
   ·exact xsgF rfl rfl (nT (byF (iAnd iEq (iAnd iEq (iAnd iEq (iAnd iEq iEq)))) hc2)) rfl<|xsgF rfl rfl (nT (byF (iAnd iEq (iAnd iEq (iAnd iEq (iAnd iEq iEq)))) hc2)) rfl<|xsgF rfl rfl (nT (byF (iAnd iEq (iAnd iEq (iAnd iEq (iAnd iEq iEq)))) hc2)) rfl<|xsgF rfl rfl (nT (byF (iAnd iEq (iAnd iEq (iAnd iEq (iAnd iEq iEq)))) hc2)) rfl<|xsgF rfl rfl (nT (byF (iAnd iEq (iAnd iEq (iAnd iEq (iAnd iEq iEq)))) hc2)) rfl<|xsgF rfl rfl (nT (byF (iAnd iEq (iAnd iEq (iAnd iEq (iAnd iEq iEq)))) hc2)) rfl<|xsgF rfl rfl (nT (byF (iAnd iEq (iAnd iEq (iAnd iEq (iAnd iEq iEq)))) hc2)) rfl<|xq (oPkT rfl rfl (nT (byF (iAnd iEq (iAnd iEq (iAnd iEq (iAnd iEq iEq)))) hc2)) rfl)<|xq (oMv rfl rfl)<|xsgF rfl rfl rfl rfl<|xsgF rfl rfl rfl rfl<|xsgF rfl rfl rfl rfl<|xsgF rfl rfl rfl rfl<|xsgF rfl rfl rfl rfl<|xsgF rfl rfl rfl rfl<|xsgF rfl rfl rfl rfl<|xq (oPkT rfl rfl rfl rfl)<|xn (Eq.trans (b:=(fun t_35_m1:Bool=>mk [(2,M 2),(3,M 3),(35,bv t_35_m1)] [(2,Oa (G 2 (u_S_Desk a_0))),(3,Oa (G 2 (u_S_Desk b_1)))]) true) (by kernel_rfl) (congrArg (fun t_35_m1:Bool=>mk [(2,M 2),(3,M 3),(35,bv t_35_m1)] [(2,Oa (G 2 (u_S_Desk a_0))),(3,Oa (G 2 (u_S_Desk b_1)))]) (by first | rfl | (simp [(iR.2 hc1),(byF (iAnd iEq (iAnd iEq (iAnd iEq (iAnd iEq iEq)))) hc2)];done) | (simp [(iR.2 hc1),(byF (iAnd iEq (iAnd iEq (iAnd iEq (iAnd iEq iEq)))) hc2)];omega))))
  ·exact xsgF rfl rfl (nT (byF iR hc1)) rfl<|xsgF rfl rfl (nT (byF iR hc1)) rfl<|xsgF rfl rfl (nT (byF iR hc1)) rfl<|xsgF rfl rfl (nT (byF iR hc1)) rfl<|xsgF rfl rfl (nT (byF iR hc1)) rfl<|xq (oPkT rfl rfl (nT (byF iR hc1)) rfl)<|xq (oMv rfl rfl)<|xsgF rfl rfl rfl rfl<|xsgF rfl rfl rfl rfl<|xsgF rfl rfl rfl rfl<|xsgF rfl rfl rfl rfl<|xsgF rfl rfl rfl rfl<|xsgF rfl rfl rfl rfl<|xsgF rfl rfl rfl rfl<|xq (oPkT rfl rfl rfl rfl)<|xq (oMv rfl rfl)<|xsgF rfl rfl rfl rfl<|xsgF rfl rfl rfl rfl<|xsgF rfl rfl rfl rfl<|xsgF rfl rfl rfl rfl<|xsgF rfl rfl rfl rfl<|xsgF rfl rfl rfl rfl<|xsgF rfl rfl rfl rfl<|xq (oPkT rfl rfl rfl rfl)<|xn (Eq.trans (b:=(fun t_35_m1:Bool=>mk [(2,M 2),(3,M 3),(35,bv t_35_m1)] [(2,Oa (G 2 (u_S_Desk a_0))),(3,Oa (G 2 (u_S_Desk b_1)))]) true) (by kernel_rfl) (congrArg (fun t_35_m1:Bool=>mk [(2,M 2),(3,M 3),(35,bv t_35_m1)] [(2,Oa (G 2 (u_S_Desk a_0))),(3,Oa (G 2 (u_S_Desk b_1)))]) (by first | rfl | (simp [(byF iR hc1)];done) | (simp [(byF iR hc1)];omega))))
 ·refine us<|gc h j (iOr (iNot iR) (iOr (iNot (iAnd iEq (iAnd iEq (iAnd iEq (iAnd iEq iEq))))) (iOr iNe iNe))) (fun hc4 h=>?_) fun hc4 h=>?_
  ·refine gs<|g0 j j (q (oAsI j j)<|nl)<|us<|Go.ret (Unw.ret ?_)
   cases h
   exact fr rF78 j
  ·refine Go.skip<|us<|gs<|gs<|g0 j j (q (oAsI j j)<|nl)<|us<|Go.block<|?_
   obtain ⟨o,hl,h⟩:=bs h
   refine gl c78 j _ (fun (i_5_l4:Int)=>mk [(2,M 2),(3,M 3),(5,iv i_5_l4)] [(2,Oa (G 2 (u_S_Desk a_0))),(3,Oa (G 2 (u_S_Desk b_1)))]) (fun (o:(Unit ⊕ Bool)) (p:Ex×St)=>match o with | (.inl _)=>p.1= .exit 0∧p.2.norm ([2,3],[2,3])=mk [(2,M 2),(3,M 3)] [(2,Oa (G 2 (u_S_Desk a_0))),(3,Oa (G 2 (u_S_Desk b_1)))] | (.inr r2)=>p.1= .ret∧fin Try.prog cfg 78 Try.f78 [.im 2 true (u_S_Desk a_0),.im 2 true (u_S_Desk b_1)] p.2=some (B0 [(false,[.im 0 (V r2)])])) hl (by kernel_rfl) ?_ ?_ ?_
   ·intro o p hp e
    rcases o with u | r2<;>exact nomatch (hp.1.symm.trans e)
   ·rintro i_5_l4 o h
    unfold spec_SameDesk_l4 at h
    refine gs<|gs<|g0 j j (q (oMv j j)<|q (oFA (r':=.mp 2 0 17) j fF134_1 j j)<|q (oLd (cs:=[.im 2 _]) j tF130 j j)<|q (oLnI j j uF130 j)<|q (oBi j j j j)<|nl)<|us<|gc h j iDec (fun hc15 h=>?_) fun hc15 h=>?_
    ·refine Go.skip<|us<|gs<|Go.block<|gs<|?_
     obtain ⟨x46,hx46,h⟩:=bs h
     obtain ⟨x51,hx51,h⟩:=bs h
     refine gd c78 j j j j (mk [(2,M 2),(3,M 3),(5,iv i_5_l4),(53,bv (!((x46.Name.toList==x51.Name.toList)&&((x46.Spread==x51.Spread)&&((x46.Open==x51.Open)&&(x46.Press==x51.Press))))))] [(2,Oa (G 2 (u_S_Desk a_0))),(3,Oa (G 2 (u_S_Desk b_1)))]) (t j j (oFA (r':=.mp 2 0 17) j fF134_1 j j)<|t j j (oLd (cs:=[.im 2 _]) j tF130 j j)<|t j j (oMv j j)<|t j j (oIAI j hx46 sF130 j j)<|t j j (oLd (cs:=[.im 2 _,.im 2 _,.im 2 _,.im 2 _]) j tF241 j j)<|t j j (oFA (r':=.mp 3 0 17) j fF134_1 j j)<|t j j (oLd (cs:=[.im 2 _]) j tF130 j j)<|t j j (oMv j j)<|t j j (oIAI j hx51 sF130 j j)<|t j j (oLd (cs:=[.im 2 _,.im 2 _,.im 2 _,.im 2 _]) j tF241 j j)<|t j j (oBa j (qNF241 x46.Name x46.Spread x46.Open x46.Press x51.Name x51.Spread x51.Open x51.Press) j j j j)<|sD (by kernel_rfl))<|us<|?_
     by_cases hc16:(x46.Name=x51.Name∧(x46.Spread=x51.Spread∧(x46.Open=x51.Open∧x46.Press=x51.Press)))
     ·rw [if_pos hc16] at h
      refine gF j (nF ((iAnd iStr (iAnd iEq (iAnd iEq iEq))).2 hc16))<|Go.skip<|Unw.blk<|us<|g0 j j (q (oMv j j)<|q (oBi j j j j)<|q (oAsI j j)<|nl)<|Unw.nil<|?_
      cases h
      exact ⟨j,(by kernel_rfl)⟩
     ·rw [if_neg hc16] at h
      refine gT j (nT (byF (iAnd iStr (iAnd iEq (iAnd iEq iEq))) hc16))<|gs<|g0 j j (q (oAsI j j)<|nl)<|us<|Go.ret (Unw.ret ?_)
      cases h
      exact ⟨j,(fo rF78 j)⟩
    ·refine Go.exit<|ux<|Unw.nil<|?_
     cases h
     exact ⟨j,(by kernel_rfl)⟩
   ·rintro ⟨e,st⟩ hp
    rcases o with u | r2
    ·dsimp only at h
     obtain ⟨he,hst⟩:=hp
     obtain rfl:e= .exit 0:=he
     refine Unw.blkx<|us<|gs<|gs<|g2 c78 j j hst (q (oAsI j j)<|nl)<|us<|Go.block<|?_
     obtain ⟨o,hl,h⟩:=bs h
     refine gl c78 j _ (fun (i_6_l9:Int)=>mk [(2,M 2),(3,M 3),(6,iv i_6_l9)] [(2,Oa (G 2 (u_S_Desk a_0))),(3,Oa (G 2 (u_S_Desk b_1)))]) (fun (o:(Unit ⊕ Bool)) (p:Ex×St)=>match o with | (.inl _)=>p.1= .exit 2∧p.2.norm ([],[])=mk [] [] | (.inr r2)=>p.1= .ret∧fin Try.prog cfg 78 Try.f78 [.im 2 true (u_S_Desk a_0),.im 2 true (u_S_Desk b_1)] p.2=some (B0 [(false,[.im 0 (V r2)])])) hl (by kernel_rfl) ?_ ?_ ?_
     ·intro o p hp e
      rcases o with u | r2<;>exact nomatch (hp.1.symm.trans e)
     ·rintro i_6_l9 o h
      unfold spec_SameDesk_l9 at h
      refine gs<|gs<|g0 j j (q (oMv j j)<|q (oFA (r':=.mp 2 0 18) j fF134_2 j j)<|q (oLd (cs:=[.im 2 _]) j tF131 j j)<|q (oLnI j j uF131 j)<|q (oBi j j j j)<|nl)<|us<|gc h j iDec (fun hc13 h=>?_) fun hc13 h=>?_
      ·refine Go.skip<|us<|gs<|Go.block<|gs<|?_
       obtain ⟨x64,hx64,h⟩:=bs h
       obtain ⟨x69,hx69,h⟩:=bs h
       refine gd c78 j j j j (mk [(2,M 2),(3,M 3),(6,iv i_6_l9),(71,bv (!((x64.Name.toList==x69.Name.toList)&&((x64.Work==x69.Work)&&((x64.Dry==x69.Dry)&&(x64.Wait==x69.Wait))))))] [(2,Oa (G 2 (u_S_Desk a_0))),(3,Oa (G 2 (u_S_Desk b_1)))]) (t j j (oFA (r':=.mp 2 0 18) j fF134_2 j j)<|t j j (oLd (cs:=[.im 2 _]) j tF131 j j)<|t j j (oMv j j)<|t j j (oIAI j hx64 sF131 j j)<|t j j (oLd (cs:=[.im 2 _,.im 2 _,.im 2 _,.im 2 _]) j tF243 j j)<|t j j (oFA (r':=.mp 3 0 18) j fF134_2 j j)<|t j j (oLd (cs:=[.im 2 _]) j tF131 j j)<|t j j (oMv j j)<|t j j (oIAI j hx69 sF131 j j)<|t j j (oLd (cs:=[.im 2 _,.im 2 _,.im 2 _,.im 2 _]) j tF243 j j)<|t j j (oBa j (qNF243 x64.Name x64.Work x64.Dry x64.Wait x69.Name x69.Work x69.Dry x69.Wait) j j j j)<|sD (by kernel_rfl))<|us<|?_
       by_cases hc14:(x64.Name=x69.Name∧(x64.Work=x69.Work∧(x64.Dry=x69.Dry∧x64.Wait=x69.Wait)))
       ·rw [if_pos hc14] at h
        refine gF j (nF ((iAnd iStr (iAnd iEq (iAnd iEq iEq))).2 hc14))<|Go.skip<|Unw.blk<|us<|g0 j j (q (oMv j j)<|q (oBi j j j j)<|q (oAsI j j)<|nl)<|Unw.nil<|?_
        cases h
        exact ⟨j,(by kernel_rfl)⟩
       ·rw [if_neg hc14] at h
        refine gT j (nT (byF (iAnd iStr (iAnd iEq (iAnd iEq iEq))) hc14))<|gs<|g0 j j (q (oAsI j j)<|nl)<|us<|Go.ret (Unw.ret ?_)
        cases h
        exact ⟨j,(fo rF78 j)⟩
      ·refine Go.exit<|ux<|Unw.nil<|?_
       cases h
       exact ⟨j,(by kernel_rfl)⟩
     ·rintro ⟨e,st⟩ hp
      rcases o with u | r2
      ·dsimp only at h
       obtain ⟨he,hst⟩:=hp
       obtain rfl:e= .exit 2:=he
       refine Unw.blkx<|us<|gs<|g2 c78 j j hst (q (oAsI j j)<|nl)<|us<|Go.ret (Unw.ret ?_)
       cases h
       exact fr rF78 j
      ·dsimp only at h
       obtain ⟨he,hfin⟩:=hp
       obtain rfl:e= .ret:=he
       cases h
       exact Unw.ret (Fin_ret hfin)
    ·dsimp only at h
     obtain ⟨he,hfin⟩:=hp
     obtain rfl:e= .ret:=he
     cases h
     exact Unw.ret (Fin_ret hfin)
theorem L_slices_Equal_impl_Point_impl_Point {s1_0:(List S_Point)} {s2_1:(List S_Point)} {r:Bool} (h:slices_Equal_impl_Point_impl_Point s1_0 s2_1=some r):FX 351 [.im 2 false [W 2 e_S_Point s1_0],.im 2 false [W 2 e_S_Point s2_1]] (B0 [(false,[.im 0 (V r)])]):=by
 unfold slices_Equal_impl_Point_impl_Point at h
 refine gn 26 Try.func351 rfl ?_
 refine gs<|g0 j j (q (oAsI j j)<|nl)<|us<|gs<|gs<|g0 j j (q (oMv j j)<|q (oLnI j j uF23 j)<|q (oMv j j)<|q (oLnI j j uF23 j)<|q (oBi j j j j)<|nl)<|us<|gc h j iNe (fun hc1 h=>?_) fun hc1 h=>?_
 ·refine gs<|g0 j j (q (oAsI j j)<|nl)<|us<|Go.ret (Unw.ret ?_)
  cases h
  exact fr rF351 j
 ·refine Go.skip<|us<|gs<|gs<|g0 j j (q (oMv j j)<|q (oLnI j j uF23 j)<|q (oMv j j)<|nl)<|us<|Go.block<|?_
  obtain ⟨o,hl,h⟩:=bs h
  refine gl c351 j _ (fun (t_13_l4:Int)=>mk [(0,D 2 (W 2 e_S_Point s1_0)),(1,D 2 (W 2 e_S_Point s2_1)),(12,iv (s1_0.length:Int)),(13,iv t_13_l4)] []) (fun (o:(Unit ⊕ Bool)) (p:Ex×St)=>match o with | (.inl _)=>p.1= .exit 0∧p.2.norm ([],[])=mk [] [] | (.inr r2)=>p.1= .ret∧fin Try.prog cfg 351 Try.f351 [.im 2 false [W 2 e_S_Point s1_0],.im 2 false [W 2 e_S_Point s2_1]] p.2=some (B0 [(false,[.im 0 (V r2)])])) hl (by kernel_rfl) ?_ ?_ ?_
  ·intro o p hp e
   rcases o with u | r2<;>exact nomatch (hp.1.symm.trans e)
  ·rintro t_13_l4 o h
   unfold slices_Equal_impl_Point_impl_Point_l4 at h
   refine gs<|g0 j j (q (oBi j j j j)<|nl)<|us<|gs<|gc h j iDec (fun hc6 h=>?_) fun hc6 h=>?_
   ·refine Go.skip<|us<|gs<|Go.block<|gs<|g0 j j (q (oMv j j)<|q (oAsI j j)<|nl)<|us<|gs<|?_
    obtain ⟨x18,hx18,h⟩:=bs h
    obtain ⟨x22,hx22,h⟩:=bs h
    refine gd c351 j j j j (mk [(0,D 2 (W 2 e_S_Point s1_0)),(1,D 2 (W 2 e_S_Point s2_1)),(12,iv (s1_0.length:Int)),(13,iv t_13_l4),(24,bv (!((x18.X==x22.X)&&(x18.Y==x22.Y))))] []) (t j j (oMv j j)<|t j j (oMv j j)<|t j j (oIAI j hx18 sF23 j j)<|t j j (oLd (cs:=[.im 2 _,.im 2 _]) j tF264 j j)<|t j j (oMv j j)<|t j j (oMv j j)<|t j j (oIAI j hx22 sF23 j j)<|t j j (oLd (cs:=[.im 2 _,.im 2 _]) j tF264 j j)<|t j j (oBa j (qNF264 x18.X x18.Y x22.X x22.Y) j j j j)<|sD (by kernel_rfl))<|us<|?_
    by_cases hc7:(x18.X=x22.X∧x18.Y=x22.Y)
    ·rw [if_pos hc7] at h
     refine gF j (nF ((iAnd iEq iEq).2 hc7))<|Go.skip<|Unw.blk<|us<|g0 j j (q (oBi j j j j)<|q (oMv j j)<|nl)<|Unw.nil<|?_
     cases h
     exact ⟨j,(by kernel_rfl)⟩
    ·rw [if_neg hc7] at h
     refine gT j (nT (byF (iAnd iEq iEq) hc7))<|gs<|g0 j j (q (oAsI j j)<|nl)<|us<|Go.ret (Unw.ret ?_)
     cases h
     exact ⟨j,(fo rF351 j)⟩
   ·refine Go.exit<|ux<|Unw.nil<|?_
    cases h
    exact ⟨j,(by kernel_rfl)⟩
  ·rintro ⟨e,st⟩ hp
   rcases o with u | r2
   ·dsimp only at h
    obtain ⟨he,hst⟩:=hp
    obtain rfl:e= .exit 0:=he
    refine Unw.blkx<|us<|gs<|g2 c351 j j hst (q (oAsI j j)<|nl)<|us<|Go.ret (Unw.ret ?_)
    cases h
    exact fr rF351 j
   ·dsimp only at h
    obtain ⟨he,hfin⟩:=hp
    obtain rfl:e= .ret:=he
    cases h
    exact Unw.ret (Fin_ret hfin)
theorem L_slices_Equal_int64_int64 {s1_0:(List Int)} {s2_1:(List Int)} {r:Bool} (h:slices_Equal_int64_int64 s1_0 s2_1=some r):FX 261 [.im 2 false [W 1 eI s1_0],.im 2 false [W 1 eI s2_1]] (B0 [(false,[.im 0 (V r)])]):=by
 unfold slices_Equal_int64_int64 at h
 refine gn 26 Try.func261 rfl ?_
 refine gs<|g0 j j (q (oAsI j j)<|nl)<|us<|gs<|gs<|g0 j j (q (oMv j j)<|q (oLnI j j uF28 j)<|q (oMv j j)<|q (oLnI j j uF28 j)<|q (oBi j j j j)<|nl)<|us<|gc h j iNe (fun hc1 h=>?_) fun hc1 h=>?_
 ·refine gs<|g0 j j (q (oAsI j j)<|nl)<|us<|Go.ret (Unw.ret ?_)
  cases h
  exact fr rF261 j
 ·refine Go.skip<|us<|gs<|gs<|g0 j j (q (oMv j j)<|q (oLnI j j uF28 j)<|q (oMv j j)<|nl)<|us<|Go.block<|?_
  obtain ⟨o,hl,h⟩:=bs h
  refine gl c261 j _ (fun (t_13_l4:Int)=>mk [(0,D 2 (W 1 eI s1_0)),(1,D 2 (W 1 eI s2_1)),(12,iv (s1_0.length:Int)),(13,iv t_13_l4)] []) (fun (o:(Unit ⊕ Bool)) (p:Ex×St)=>match o with | (.inl _)=>p.1= .exit 0∧p.2.norm ([],[])=mk [] [] | (.inr r2)=>p.1= .ret∧fin Try.prog cfg 261 Try.f261 [.im 2 false [W 1 eI s1_0],.im 2 false [W 1 eI s2_1]] p.2=some (B0 [(false,[.im 0 (V r2)])])) hl (by kernel_rfl) ?_ ?_ ?_
  ·intro o p hp e
   rcases o with u | r2<;>exact nomatch (hp.1.symm.trans e)
  ·rintro t_13_l4 o h
   unfold slices_Equal_int64_int64_l4 at h
   refine gs<|g0 j j (q (oBi j j j j)<|nl)<|us<|gs<|gc h j iDec (fun hc6 h=>?_) fun hc6 h=>?_
   ·refine Go.skip<|us<|gs<|Go.block<|gs<|g0 j j (q (oMv j j)<|q (oAsI j j)<|nl)<|us<|gs<|?_
    obtain ⟨x18,hx18,h⟩:=bs h
    obtain ⟨x22,hx22,h⟩:=bs h
    refine gd c261 j j j j (mk [(0,D 2 (W 1 eI s1_0)),(1,D 2 (W 1 eI s2_1)),(12,iv (s1_0.length:Int)),(13,iv t_13_l4),(24,bv (x18 != x22))] []) (t j j (oMv j j)<|t j j (oMv j j)<|t j j (oIAI j hx18 sF28 j j)<|t j j (oLd (cs:=[.im 2 _]) j tF2 j j)<|t j j (oMv j j)<|t j j (oMv j j)<|t j j (oIAI j hx22 sF28 j j)<|t j j (oLd (cs:=[.im 2 _]) j tF2 j j)<|t j j (oBi j j j j)<|sD (by kernel_rfl))<|us<|gc h j iNe (fun hc7 h=>?_) fun hc7 h=>?_
    ·refine gs<|g0 j j (q (oAsI j j)<|nl)<|us<|Go.ret (Unw.ret ?_)
     cases h
     exact ⟨j,(fo rF261 j)⟩
    ·refine Go.skip<|Unw.blk<|us<|g0 j j (q (oBi j j j j)<|q (oMv j j)<|nl)<|Unw.nil<|?_
     cases h
     exact ⟨j,(by kernel_rfl)⟩
   ·refine Go.exit<|ux<|Unw.nil<|?_
    cases h
    exact ⟨j,(by kernel_rfl)⟩
  ·rintro ⟨e,st⟩ hp
   rcases o with u | r2
   ·dsimp only at h
    obtain ⟨he,hst⟩:=hp
    obtain rfl:e= .exit 0:=he
    refine Unw.blkx<|us<|gs<|g2 c261 j j hst (q (oAsI j j)<|nl)<|us<|Go.ret (Unw.ret ?_)
    cases h
    exact fr rF261 j
   ·dsimp only at h
    obtain ⟨he,hfin⟩:=hp
    obtain rfl:e= .ret:=he
    cases h
    exact Unw.ret (Fin_ret hfin)
theorem L_impl_SameDrawing_c1 {f_0:S_Face} {g_1:S_Face} {r:Bool} (h:impl_SameDrawing_c1 f_0 g_1=some r):FX 353 [.im 2 true (u_S_Face f_0),.im 2 true (u_S_Face g_1)] (B0 [(false,[.im 0 (V r)])]):=by
 unfold impl_SameDrawing_c1 at h
 refine gn 17 Try.func353 rfl ?_
 refine gs<|g0 j j (q (oBx j tF257 j (tkI (tkI tk0)))<|q (oBx j tF257 j (tkI (tkI tk0)))<|q (oAsI j j)<|nl)<|us<|gs<|?_
 obtain ⟨t_4_m1,hm2,h⟩:=bs h
 refine gX c353 j j j (mk [(4,bv t_4_m1)] []) ?_ ?_
 ·refine xq (oFA (r':=.mp 2 0 0) j fF257_0 j j)<|xq (oLd (cs:=[.im 0 _]) j tF9 j j)<|xq (oFA (r':=.mp 3 0 0) j fF257_0 j j)<|xq (oLd (cs:=[.im 0 _]) j tF9 j j)<|xq (oBi j j j j)<|xq (oMv j j)<|?_
  refine ic hm2 (fun hc1 hm2=>?_) fun hc1 hm2=>?_
  ·obtain ⟨x15,hx15,hm2⟩:=bs hm2
   cases hm2
   exact xqT j j (iStr.2 hc1) (oFA (r':=.mp 2 0 1) j fF257_1 j j)<|xqT j j (iStr.2 hc1) (oLd (cs:=[.im 2 _]) j tF28 j j)<|xqT j j (iStr.2 hc1) (oFA (r':=.mp 3 0 1) j fF257_1 j j)<|xqT j j (iStr.2 hc1) (oLd (cs:=[.im 2 _]) j tF28 j j)<|xqT j j (iStr.2 hc1) (oCa (xs:=[.v false [.im 2 _],.v false [.im 2 _]]) (vs:=[(false,[.im 0 _])]) (v:=.v false [.im 0 _]) (L_slices_Equal_int64_int64 hx15) (.inl j) j kF261_28_28 j (ppC j (ppC j pp0)) j j pb0 j j j)<|xq (oPkT j j (iStr.2 hc1) j)<|xq (oAsI j j)<|xn
  ·cases hm2
   exact xsgF j j (byF iStr hc1) j<|xsgF j j (byF iStr hc1) j<|xsgF j j (byF iStr hc1) j<|xsgF j j (byF iStr hc1) j<|xsgF j j (byF iStr hc1) j<|xq (oPkF j j (byF iStr hc1) j)<|xq (oAsI j j)<|xn
 ·refine us<|Go.ret (Unw.ret ?_)
  cases h
  exact fr rF353 j
theorem L_slices_EqualFunc_impl_Face_impl_Face_impl_Face_impl_Face_353 {s1_0:(List S_Face)} {s2_1:(List S_Face)} {r:Bool} (h:slices_EqualFunc_impl_Face_impl_Face_impl_Face_impl_Face s1_0 s2_1 (fun b0 b1=>impl_SameDrawing_c1 b0 b1)=some r):FX 352 [.im 2 false [W 2 e_S_Face s1_0],.im 2 false [W 2 e_S_Face s2_1],.im 2 false [.clo 353 []]] (B0 [(false,[.im 0 (V r)])]):=by
 unfold slices_EqualFunc_impl_Face_impl_Face_impl_Face_impl_Face at h
 refine gn 32 Try.func352 rfl ?_
 refine gs<|g0 j j (q (oAsI j j)<|nl)<|us<|gs<|gs<|g0 j j (q (oMv j j)<|q (oLnI j j uF24 j)<|q (oMv j j)<|q (oLnI j j uF24 j)<|q (oBi j j j j)<|nl)<|us<|gc h j iNe (fun hc1 h=>?_) fun hc1 h=>?_
 ·refine gs<|g0 j j (q (oAsI j j)<|nl)<|us<|Go.ret (Unw.ret ?_)
  cases h
  exact fr rF352 j
 ·refine Go.skip<|us<|gs<|gs<|g0 j j (q (oMv j j)<|q (oLnI j j uF24 j)<|q (oMv j j)<|nl)<|us<|Go.block<|?_
  obtain ⟨o,hl,h⟩:=bs h
  refine gl c352 j _ (fun (t_17_l4:Int)=>mk [(1,D 2 (W 2 e_S_Face s2_1)),(2,D 2 (.clo 353 [])),(15,D 2 (W 2 e_S_Face s1_0)),(16,iv (s1_0.length:Int)),(17,iv t_17_l4)] []) (fun (o:(Unit ⊕ Bool)) (p:Ex×St)=>match o with | (.inl _)=>p.1= .exit 0∧p.2.norm ([],[])=mk [] [] | (.inr r2)=>p.1= .ret∧fin Try.prog cfg 352 Try.f352 [.im 2 false [W 2 e_S_Face s1_0],.im 2 false [W 2 e_S_Face s2_1],.im 2 false [.clo 353 []]] p.2=some (B0 [(false,[.im 0 (V r2)])])) hl (by kernel_rfl) ?_ ?_ ?_
  ·intro o p hp e
   rcases o with u | r2<;>exact nomatch (hp.1.symm.trans e)
  ·rintro t_17_l4 o h
   unfold slices_EqualFunc_impl_Face_impl_Face_impl_Face_impl_Face_l4 at h
   refine gs<|g0 j j (q (oBi j j j j)<|nl)<|us<|gs<|gc h j iDec (fun hc6 h=>?_) fun hc6 h=>?_
   ·refine Go.skip<|us<|gs<|Go.block<|gs<|?_
    obtain ⟨x20,hx20,h⟩:=bs h
    refine g0 j j (q (oMv j j)<|q (oIAI j hx20 sF24 j j)<|q (oLd (cs:=[.im 2 _,.im 2 _]) j tF257 j j)<|q (oAl j tF257 (tkI (tkN tk0)))<|q (oAsI j j)<|q (oSt tF257 j j j (tkI (tkI tk0)) j j j)<|nl)<|us<|gs<|?_
    obtain ⟨x24,hx24,h⟩:=bs h
    refine g1 j j (mk [(1,D 2 (W 2 e_S_Face s2_1)),(2,D 2 (.clo 353 [])),(7,iv t_17_l4),(8,M 8),(15,D 2 (W 2 e_S_Face s1_0)),(16,iv (s1_0.length:Int)),(17,iv t_17_l4)] [(8,Oa (G 2 (u_S_Face x20)))]) (q (oMv j j)<|q (oMv j j)<|q (oIAI j hx24 sF24 j j)<|q (oLd (cs:=[.im 2 _,.im 2 _]) j tF257 j j)<|q (oAl j tF257 (tkI (tkN tk0)))<|q (oSt tF257 j j j (tkI (tkI tk0)) j j j)<|nl)<|us<|gs<|?_
    obtain ⟨x29,hx29,h⟩:=bs h
    refine g1 j j (mk [(1,D 2 (W 2 e_S_Face s2_1)),(2,D 2 (.clo 353 [])),(8,M 8),(9,M 9),(15,D 2 (W 2 e_S_Face s1_0)),(16,iv (s1_0.length:Int)),(17,iv t_17_l4)] [(8,Oa (G 2 (u_S_Face x20))),(9,Oa (G 2 (u_S_Face x24)))]) (q (oMv j j)<|q (oLd (cs:=[.im 0 _,.im 2 _]) j tF257 j j)<|q (oLd (cs:=[.im 0 _,.im 2 _]) j tF257 j j)<|q (oCa (xs:=[.v true [.im 0 _,.im 2 _],.v true [.im 0 _,.im 2 _]]) (vs:=[(false,[.im 0 _])]) (v:=.v false [.im 0 _]) (L_impl_SameDrawing_c1 hx29) (.inr ⟨_,_,j,j⟩) j kF353_257_257 j (ppC j (ppC j pp0)) j j pb0 j j j)<|q (oUn j j j)<|nl)<|us<|?_
    by_cases hc7:x29=true
    ·rw [if_pos hc7] at h
     refine gF j (nF (iR.2 hc7))<|Go.skip<|Unw.blk<|us<|g0 j j (q (oBi j j j j)<|q (oMv j j)<|nl)<|Unw.nil<|?_
     cases h
     exact ⟨j,(by kernel_rfl)⟩
    ·rw [if_neg hc7] at h
     refine gT j (nT (byF iR hc7))<|gs<|g0 j j (q (oAsI j j)<|nl)<|us<|Go.ret (Unw.ret ?_)
     cases h
     exact ⟨j,(fo rF352 j)⟩
   ·refine Go.exit<|ux<|Unw.nil<|?_
    cases h
    exact ⟨j,(by kernel_rfl)⟩
  ·rintro ⟨e,st⟩ hp
   rcases o with u | r2
   ·dsimp only at h
    obtain ⟨he,hst⟩:=hp
    obtain rfl:e= .exit 0:=he
    refine Unw.blkx<|us<|gs<|g2 c352 j j hst (q (oAsI j j)<|nl)<|us<|Go.ret (Unw.ret ?_)
    cases h
    exact fr rF352 j
   ·dsimp only at h
    obtain ⟨he,hfin⟩:=hp
    obtain rfl:e= .ret:=he
    cases h
    exact Unw.ret (Fin_ret hfin)
theorem L_impl_SameDrawing {a_0:S_Drawing} {b_1:S_Drawing} {r:Bool} (h:impl_SameDrawing a_0 b_1=some r):FX 315 [.im 2 true (u_S_Drawing a_0),.im 2 true (u_S_Drawing b_1)] (B0 [(false,[.im 0 (V r)])]):=by
 unfold impl_SameDrawing at h
 refine gn 31 Try.func315 rfl ?_
 refine gs<|g0 j j (q (oBx j tF26 j (tkI (tkI (tkI (tkI tk0)))))<|q (oBx j tF26 j (tkI (tkI (tkI (tkI tk0)))))<|q (oAsI j j)<|nl)<|us<|gs<|?_
 obtain ⟨t_4_m1,hm4,h⟩:=bs h
 refine gX c315 j j j (mk [(4,bv t_4_m1)] []) ?_ ?_
 ·refine xq (oFA (r':=.mp 2 0 0) j fF26_0 j j)<|xq (oLd (cs:=[.im 0 _]) j tF2 j j)<|xq (oFA (r':=.mp 3 0 0) j fF26_0 j j)<|xq (oLd (cs:=[.im 0 _]) j tF2 j j)<|xq (oBi j j j j)<|xq (oMv j j)<|?_
  refine ic hm4 (fun hc1 hm4=>?_) fun hc1 hm4=>?_
  ·refine xqT j j (iEq.2 hc1) (oFA (r':=.mp 2 0 1) j fF26_1 j j)<|xqT j j (iEq.2 hc1) (oLd (cs:=[.im 0 _]) j tF2 j j)<|xqT j j (iEq.2 hc1) (oFA (r':=.mp 3 0 1) j fF26_1 j j)<|xqT j j (iEq.2 hc1) (oLd (cs:=[.im 0 _]) j tF2 j j)<|xqT j j (iEq.2 hc1) (oBi j j j j)<|xq (oPkT j j (iEq.2 hc1) j)<|xq (oMv j j)<|?_
   refine ic hm4 (fun hc2 hm4=>?_) fun hc2 hm4=>?_
   ·obtain ⟨x22,hx22,hm4⟩:=bs hm4
    refine xqT j j (iEq.2 hc2) (oFA (r':=.mp 2 0 2) j fF26_2 j j)<|xqT j j (iEq.2 hc2) (oLd (cs:=[.im 2 _]) j tF23 j j)<|xqT j j (iEq.2 hc2) (oFA (r':=.mp 3 0 2) j fF26_2 j j)<|xqT j j (iEq.2 hc2) (oLd (cs:=[.im 2 _]) j tF23 j j)<|xqT j j (iEq.2 hc2) (oCa (xs:=[.v false [.im 2 _],.v false [.im 2 _]]) (vs:=[(false,[.im 0 _])]) (v:=.v false [.im 0 _]) (L_slices_Equal_impl_Point_impl_Point hx22) (.inl j) j kF351_23_23 j (ppC j (ppC j pp0)) j j pb0 j j j)<|xq (oPkT j j (iEq.2 hc2) j)<|xq (oMv j j)<|?_
    refine ic hm4 (fun hc3 hm4=>?_) fun hc3 hm4=>?_
    ·obtain ⟨x29,hx29,hm4⟩:=bs hm4
     cases hm4
     exact xqT j j (iR.2 hc3) (oFA (r':=.mp 2 0 3) j fF26_3 j j)<|xqT j j (iR.2 hc3) (oLd (cs:=[.im 2 _]) j tF24 j j)<|xqT j j (iR.2 hc3) (oFA (r':=.mp 3 0 3) j fF26_3 j j)<|xqT j j (iR.2 hc3) (oLd (cs:=[.im 2 _]) j tF24 j j)<|xqT j j (iR.2 hc3) (oCa (xs:=[.v false [.im 2 _],.v false [.im 2 _],.fn 353 []]) (vs:=[(false,[.im 0 _])]) (v:=.v false [.im 0 _]) (L_slices_EqualFunc_impl_Face_impl_Face_impl_Face_impl_Face_353 hx29) (.inl j) j kF352_24_24_294 j (ppC j (ppC j (ppC j pp0))) j j pb0 j j j)<|xq (oPkT j j (iR.2 hc3) j)<|xq (oAsI j j)<|xn
    ·cases hm4
     exact xsgF j j (byF iR hc3) j<|xsgF j j (byF iR hc3) j<|xsgF j j (byF iR hc3) j<|xsgF j j (byF iR hc3) j<|xsgF j j (byF iR hc3) j<|xq (oPkF j j (byF iR hc3) j)<|xq (oAsI j j)<|xn
   ·cases hm4
    exact xsgF j j (byF iEq hc2) j<|xsgF j j (byF iEq hc2) j<|xsgF j j (byF iEq hc2) j<|xsgF j j (byF iEq hc2) j<|xsgF j j (byF iEq hc2) j<|xq (oPkF j j (byF iEq hc2) j)<|xq (oMv j j)<|xsgF j j j j<|xsgF j j j j<|xsgF j j j j<|xsgF j j j j<|xsgF j j j j<|xq (oPkF j j j j)<|xq (oAsI j j)<|xn
  ·cases hm4
   exact xsgF j j (byF iEq hc1) j<|xsgF j j (byF iEq hc1) j<|xsgF j j (byF iEq hc1) j<|xsgF j j (byF iEq hc1) j<|xsgF j j (byF iEq hc1) j<|xq (oPkF j j (byF iEq hc1) j)<|xq (oMv j j)<|xsgF j j j j<|xsgF j j j j<|xsgF j j j j<|xsgF j j j j<|xsgF j j j j<|xq (oPkF j j j j)<|xq (oMv j j)<|xsgF j j j j<|xsgF j j j j<|xsgF j j j j<|xsgF j j j j<|xsgF j j j j<|xq (oPkF j j j j)<|xq (oAsI j j)<|xn
 ·refine us<|Go.ret (Unw.ret ?_)
  cases h
  exact fr rF315 j
theorem L_slices_Equal_impl_Veneer_impl_Veneer {s1_0:(List S_Veneer)} {s2_1:(List S_Veneer)} {r:Bool} (h:slices_Equal_impl_Veneer_impl_Veneer s1_0 s2_1=some r):FX 316 [.im 2 false [W 3 e_S_Veneer s1_0],.im 2 false [W 3 e_S_Veneer s2_1]] (B0 [(false,[.im 0 (V r)])]):=by
 unfold slices_Equal_impl_Veneer_impl_Veneer at h
 refine gn 26 Try.func316 rfl ?_
 refine gs<|g0 j j (q (oAsI j j)<|nl)<|us<|gs<|gs<|g0 j j (q (oMv j j)<|q (oLnI j j uF84 j)<|q (oMv j j)<|q (oLnI j j uF84 j)<|q (oBi j j j j)<|nl)<|us<|gc h j iNe (fun hc1 h=>?_) fun hc1 h=>?_
 ·refine gs<|g0 j j (q (oAsI j j)<|nl)<|us<|Go.ret (Unw.ret ?_)
  cases h
  exact fr rF316 j
 ·refine Go.skip<|us<|gs<|gs<|g0 j j (q (oMv j j)<|q (oLnI j j uF84 j)<|q (oMv j j)<|nl)<|us<|Go.block<|?_
  obtain ⟨o,hl,h⟩:=bs h
  refine gl c316 j _ (fun (t_13_l4:Int)=>mk [(0,D 2 (W 3 e_S_Veneer s1_0)),(1,D 2 (W 3 e_S_Veneer s2_1)),(12,iv (s1_0.length:Int)),(13,iv t_13_l4)] []) (fun (o:(Unit ⊕ Bool)) (p:Ex×St)=>match o with | (.inl _)=>p.1= .exit 0∧p.2.norm ([],[])=mk [] [] | (.inr r2)=>p.1= .ret∧fin Try.prog cfg 316 Try.f316 [.im 2 false [W 3 e_S_Veneer s1_0],.im 2 false [W 3 e_S_Veneer s2_1]] p.2=some (B0 [(false,[.im 0 (V r2)])])) hl (by kernel_rfl) ?_ ?_ ?_
  ·intro o p hp e
   rcases o with u | r2<;>exact nomatch (hp.1.symm.trans e)
  ·rintro t_13_l4 o h
   unfold slices_Equal_impl_Veneer_impl_Veneer_l4 at h
   refine gs<|g0 j j (q (oBi j j j j)<|nl)<|us<|gs<|gc h j iDec (fun hc6 h=>?_) fun hc6 h=>?_
   ·refine Go.skip<|us<|gs<|Go.block<|gs<|g0 j j (q (oMv j j)<|q (oAsI j j)<|nl)<|us<|gs<|?_
    obtain ⟨x18,hx18,h⟩:=bs h
    obtain ⟨x22,hx22,h⟩:=bs h
    refine gd c316 j j j j (mk [(0,D 2 (W 3 e_S_Veneer s1_0)),(1,D 2 (W 3 e_S_Veneer s2_1)),(12,iv (s1_0.length:Int)),(13,iv t_13_l4),(24,bv (!((x18.Species.toList==x22.Species.toList)&&((x18.Shade==x22.Shade)&&(x18.Grain==x22.Grain)))))] []) (t j j (oMv j j)<|t j j (oMv j j)<|t j j (oIAI j hx18 sF84 j j)<|t j j (oLd (cs:=[.im 2 _,.im 2 _,.im 2 _]) j tF104 j j)<|t j j (oMv j j)<|t j j (oMv j j)<|t j j (oIAI j hx22 sF84 j j)<|t j j (oLd (cs:=[.im 2 _,.im 2 _,.im 2 _]) j tF104 j j)<|t j j (oBa j (qNF104 x18.Species x18.Shade x18.Grain x22.Species x22.Shade x22.Grain) j j j j)<|sD (by kernel_rfl))<|us<|?_
    by_cases hc7:(x18.Species=x22.Species∧(x18.Shade=x22.Shade∧x18.Grain=x22.Grain))
    ·rw [if_pos hc7] at h
     refine gF j (nF ((iAnd iStr (iAnd iEq iEq)).2 hc7))<|Go.skip<|Unw.blk<|us<|g0 j j (q (oBi j j j j)<|q (oMv j j)<|nl)<|Unw.nil<|?_
     cases h
     exact ⟨j,(by kernel_rfl)⟩
    ·rw [if_neg hc7] at h
     refine gT j (nT (byF (iAnd iStr (iAnd iEq iEq)) hc7))<|gs<|g0 j j (q (oAsI j j)<|nl)<|us<|Go.ret (Unw.ret ?_)
     cases h
     exact ⟨j,(fo rF316 j)⟩
   ·refine Go.exit<|ux<|Unw.nil<|?_
    cases h
    exact ⟨j,(by kernel_rfl)⟩
  ·rintro ⟨e,st⟩ hp
   rcases o with u | r2
   ·dsimp only at h
    obtain ⟨he,hst⟩:=hp
    obtain rfl:e= .exit 0:=he
    refine Unw.blkx<|us<|gs<|g2 c316 j j hst (q (oAsI j j)<|nl)<|us<|Go.ret (Unw.ret ?_)
    cases h
    exact fr rF316 j
   ·dsimp only at h
    obtain ⟨he,hfin⟩:=hp
    obtain rfl:e= .ret:=he
    cases h
    exact Unw.ret (Fin_ret hfin)
theorem L_impl_SamePicture {a_0:S_Picture} {b_1:S_Picture} {r:Bool} (h:impl_SamePicture a_0 b_1=some r):FX 257 [.im 2 true (u_S_Picture a_0),.im 2 true (u_S_Picture b_1)] (B0 [(false,[.im 0 (V r)])]):=by
 unfold impl_SamePicture at h
 refine gn 17 Try.func257 rfl ?_
 refine gs<|g0 j j (q (oBx j tF125 j (tkI (tkI (tkI (tkI (tkI tk0))))))<|q (oBx j tF125 j (tkI (tkI (tkI (tkI (tkI tk0))))))<|q (oAsI j j)<|nl)<|us<|gs<|?_
 obtain ⟨x9,hx9,h⟩:=bs h
 obtain ⟨t_4_m1,hm2,h⟩:=bs h
 refine gX c257 j j (st1:=mk [(2,M 2),(3,M 3)] [(2,Oa (G 2 (u_S_Picture a_0))),(3,Oa (G 2 (u_S_Picture b_1)))]) (by kernel_rfl) (mk [(4,bv t_4_m1)] []) ?_ ?_
 ·refine xq (oFA (r':=.mp 2 0 0) j fF125_0 j j)<|xq (oLd (cs:=[.im 0 _,.im 0 _,.im 2 _,.im 2 _]) j tF26 j j)<|xq (oFA (r':=.mp 3 0 0) j fF125_0 j j)<|xq (oLd (cs:=[.im 0 _,.im 0 _,.im 2 _,.im 2 _]) j tF26 j j)<|xq (oCa (xs:=[.v true [.im 0 _,.im 0 _,.im 2 _,.im 2 _],.v true [.im 0 _,.im 0 _,.im 2 _,.im 2 _]]) (vs:=[(false,[.im 0 _])]) (v:=.v false [.im 0 _]) (L_impl_SameDrawing hx9) (.inl j) j kF315_26_26 j (ppC j (ppC j pp0)) j j pb0 j j j)<|xq (oMv j j)<|?_
  refine ic hm2 (fun hc1 hm2=>?_) fun hc1 hm2=>?_
  ·obtain ⟨x15,hx15,hm2⟩:=bs hm2
   cases hm2
   exact xqT j j (iR.2 hc1) (oFA (r':=.mp 2 0 4) j fF125_1 j j)<|xqT j j (iR.2 hc1) (oLd (cs:=[.im 2 _]) j tF84 j j)<|xqT j j (iR.2 hc1) (oFA (r':=.mp 3 0 4) j fF125_1 j j)<|xqT j j (iR.2 hc1) (oLd (cs:=[.im 2 _]) j tF84 j j)<|xqT j j (iR.2 hc1) (oCa (xs:=[.v false [.im 2 _],.v false [.im 2 _]]) (vs:=[(false,[.im 0 _])]) (v:=.v false [.im 0 _]) (L_slices_Equal_impl_Veneer_impl_Veneer hx15) (.inl j) j kF316_84_84 j (ppC j (ppC j pp0)) j j pb0 j j j)<|xq (oPkT j j (iR.2 hc1) j)<|xq (oAsI j j)<|xn
  ·cases hm2
   exact xsgF j j (byF iR hc1) j<|xsgF j j (byF iR hc1) j<|xsgF j j (byF iR hc1) j<|xsgF j j (byF iR hc1) j<|xsgF j j (byF iR hc1) j<|xq (oPkF j j (byF iR hc1) j)<|xq (oAsI j j)<|xn
 ·refine us<|Go.ret (Unw.ret ?_)
  cases h
  exact fr rF257 j
theorem L_slices_Equal_impl_Box_impl_Box {s1_0:(List S_Box)} {s2_1:(List S_Box)} {r:Bool} (h:slices_Equal_impl_Box_impl_Box s1_0 s2_1=some r):FX 317 [.im 2 false [W 4 e_S_Box s1_0],.im 2 false [W 4 e_S_Box s2_1]] (B0 [(false,[.im 0 (V r)])]):=by
 unfold slices_Equal_impl_Box_impl_Box at h
 refine gn 26 Try.func317 rfl ?_
 refine gs<|g0 j j (q (oAsI j j)<|nl)<|us<|gs<|gs<|g0 j j (q (oMv j j)<|q (oLnI j j uF105 j)<|q (oMv j j)<|q (oLnI j j uF105 j)<|q (oBi j j j j)<|nl)<|us<|gc h j iNe (fun hc1 h=>?_) fun hc1 h=>?_
 ·refine gs<|g0 j j (q (oAsI j j)<|nl)<|us<|Go.ret (Unw.ret ?_)
  cases h
  exact fr rF317 j
 ·refine Go.skip<|us<|gs<|gs<|g0 j j (q (oMv j j)<|q (oLnI j j uF105 j)<|q (oMv j j)<|nl)<|us<|Go.block<|?_
  obtain ⟨o,hl,h⟩:=bs h
  refine gl c317 j _ (fun (t_13_l4:Int)=>mk [(0,D 2 (W 4 e_S_Box s1_0)),(1,D 2 (W 4 e_S_Box s2_1)),(12,iv (s1_0.length:Int)),(13,iv t_13_l4)] []) (fun (o:(Unit ⊕ Bool)) (p:Ex×St)=>match o with | (.inl _)=>p.1= .exit 0∧p.2.norm ([],[])=mk [] [] | (.inr r2)=>p.1= .ret∧fin Try.prog cfg 317 Try.f317 [.im 2 false [W 4 e_S_Box s1_0],.im 2 false [W 4 e_S_Box s2_1]] p.2=some (B0 [(false,[.im 0 (V r2)])])) hl (by kernel_rfl) ?_ ?_ ?_
  ·intro o p hp e
   rcases o with u | r2<;>exact nomatch (hp.1.symm.trans e)
  ·rintro t_13_l4 o h
   unfold slices_Equal_impl_Box_impl_Box_l4 at h
   refine gs<|g0 j j (q (oBi j j j j)<|nl)<|us<|gs<|gc h j iDec (fun hc6 h=>?_) fun hc6 h=>?_
   ·refine Go.skip<|us<|gs<|Go.block<|gs<|g0 j j (q (oMv j j)<|q (oAsI j j)<|nl)<|us<|gs<|?_
    obtain ⟨x18,hx18,h⟩:=bs h
    obtain ⟨x22,hx22,h⟩:=bs h
    refine gd c317 j j j j (mk [(0,D 2 (W 4 e_S_Box s1_0)),(1,D 2 (W 4 e_S_Box s2_1)),(12,iv (s1_0.length:Int)),(13,iv t_13_l4),(24,bv (!((x18.X==x22.X)&&((x18.Y==x22.Y)&&((x18.Width==x22.Width)&&(x18.Length==x22.Length))))))] []) (t j j (oMv j j)<|t j j (oMv j j)<|t j j (oIAI j hx18 sF105 j j)<|t j j (oLd (cs:=[.im 2 _,.im 2 _,.im 2 _,.im 2 _]) j tF276 j j)<|t j j (oMv j j)<|t j j (oMv j j)<|t j j (oIAI j hx22 sF105 j j)<|t j j (oLd (cs:=[.im 2 _,.im 2 _,.im 2 _,.im 2 _]) j tF276 j j)<|t j j (oBa j (qNF276 x18.X x18.Y x18.Width x18.Length x22.X x22.Y x22.Width x22.Length) j j j j)<|sD (by kernel_rfl))<|us<|?_
    by_cases hc7:(x18.X=x22.X∧(x18.Y=x22.Y∧(x18.Width=x22.Width∧x18.Length=x22.Length)))
    ·rw [if_pos hc7] at h
     refine gF j (nF ((iAnd iEq (iAnd iEq (iAnd iEq iEq))).2 hc7))<|Go.skip<|Unw.blk<|us<|g0 j j (q (oBi j j j j)<|q (oMv j j)<|nl)<|Unw.nil<|?_
     cases h
     exact ⟨j,(by kernel_rfl)⟩
    ·rw [if_neg hc7] at h
     refine gT j (nT (byF (iAnd iEq (iAnd iEq (iAnd iEq iEq))) hc7))<|gs<|g0 j j (q (oAsI j j)<|nl)<|us<|Go.ret (Unw.ret ?_)
     cases h
     exact ⟨j,(fo rF317 j)⟩
   ·refine Go.exit<|ux<|Unw.nil<|?_
    cases h
    exact ⟨j,(by kernel_rfl)⟩
  ·rintro ⟨e,st⟩ hp
   rcases o with u | r2
   ·dsimp only at h
    obtain ⟨he,hst⟩:=hp
    obtain rfl:e= .exit 0:=he
    refine Unw.blkx<|us<|gs<|g2 c317 j j hst (q (oAsI j j)<|nl)<|us<|Go.ret (Unw.ret ?_)
    cases h
    exact fr rF317 j
   ·dsimp only at h
    obtain ⟨he,hfin⟩:=hp
    obtain rfl:e= .ret:=he
    cases h
    exact Unw.ret (Fin_ret hfin)
theorem L_impl_SameLeaf {a_0:S_Leaf} {b_1:S_Leaf} {r:Bool} (h:impl_SameLeaf a_0 b_1=some r):FX 259 [.im 2 true (u_S_Leaf a_0),.im 2 true (u_S_Leaf b_1)] (B0 [(false,[.im 0 (V r)])]):=by
 unfold impl_SameLeaf at h
 refine gn 52 Try.func259 rfl ?_
 refine gs<|g0 j j (q (oBx j tF107 j (tkI (tkI (tkI (tkI (tkI (tkI (tkI (tkI (tkI tk0))))))))))<|q (oBx j tF107 j (tkI (tkI (tkI (tkI (tkI (tkI (tkI (tkI (tkI tk0))))))))))<|q (oAsI j j)<|nl)<|us<|gs<|?_
 obtain ⟨t_4_m1,hm7,h⟩:=bs h
 refine gX c259 j j (st1:=mk [(2,M 2),(3,M 3)] [(2,Oa (G 2 (u_S_Leaf a_0))),(3,Oa (G 2 (u_S_Leaf b_1)))]) (by kernel_rfl) (mk [(4,bv t_4_m1)] []) ?_ ?_
 ·refine xq (oFA (r':=.mp 2 0 0) j fF107_0 j j)<|xq (oLd (cs:=[.im 0 _]) j tF9 j j)<|xq (oFA (r':=.mp 3 0 0) j fF107_0 j j)<|xq (oLd (cs:=[.im 0 _]) j tF9 j j)<|xq (oBi j j j j)<|xq (oMv j j)<|?_
  refine ic hm7 (fun hc1 hm7=>?_) fun hc1 hm7=>?_
  ·refine xqT j j (iStr.2 hc1) (oFA (r':=.mp 2 0 1) j fF107_1 j j)<|xqT j j (iStr.2 hc1) (oLd (cs:=[.im 0 _]) j tF9 j j)<|xqT j j (iStr.2 hc1) (oFA (r':=.mp 3 0 1) j fF107_1 j j)<|xqT j j (iStr.2 hc1) (oLd (cs:=[.im 0 _]) j tF9 j j)<|xqT j j (iStr.2 hc1) (oBi j j j j)<|xq (oPkT j j (iStr.2 hc1) j)<|xq (oMv j j)<|?_
   refine ic hm7 (fun hc2 hm7=>?_) fun hc2 hm7=>?_
   ·refine xqT j j (iStr.2 hc2) (oFA (r':=.mp 2 0 2) j fF107_2 j j)<|xqT j j (iStr.2 hc2) (oLd (cs:=[.im 0 _]) j tF2 j j)<|xqT j j (iStr.2 hc2) (oFA (r':=.mp 3 0 2) j fF107_2 j j)<|xqT j j (iStr.2 hc2) (oLd (cs:=[.im 0 _]) j tF2 j j)<|xqT j j (iStr.2 hc2) (oBi j j j j)<|xq (oPkT j j (iStr.2 hc2) j)<|xq (oMv j j)<|?_
    refine ic hm7 (fun hc3 hm7=>?_) fun hc3 hm7=>?_
    ·refine xqT j j (iEq.2 hc3) (oFA (r':=.mp 2 0 3) j fF107_3 j j)<|xqT j j (iEq.2 hc3) (oLd (cs:=[.im 0 _,.im 0 _,.im 0 _]) j tF104 j j)<|xqT j j (iEq.2 hc3) (oFA (r':=.mp 3 0 3) j fF107_3 j j)<|xqT j j (iEq.2 hc3) (oLd (cs:=[.im 0 _,.im 0 _,.im 0 _]) j tF104 j j)<|xqT j j (iEq.2 hc3) (oBa j (qEF104 a_0.Veneer.Species a_0.Veneer.Shade a_0.Veneer.Grain b_1.Veneer.Species b_1.Veneer.Shade b_1.Veneer.Grain) j j j j)<|xq (oPkT j j (iEq.2 hc3) j)<|xq (oMv j j)<|?_
     refine ic hm7 (fun hc4 hm7=>?_) fun hc4 hm7=>?_
     ·refine xqT j j ((iAnd iStr (iAnd iEq iEq)).2 hc4) (oFA (r':=.mp 2 0 6) j fF107_4 j j)<|xqT j j ((iAnd iStr (iAnd iEq iEq)).2 hc4) (oLd (cs:=[.im 0 _]) j tF2 j j)<|xqT j j ((iAnd iStr (iAnd iEq iEq)).2 hc4) (oFA (r':=.mp 3 0 6) j fF107_4 j j)<|xqT j j ((iAnd iStr (iAnd iEq iEq)).2 hc4) (oLd (cs:=[.im 0 _]) j tF2 j j)<|xqT j j ((iAnd iStr (iAnd iEq iEq)).2 hc4) (oBi j j j j)<|xq (oPkT j j ((iAnd iStr (iAnd iEq iEq)).2 hc4) j)<|xq (oMv j j)<|?_
      refine ic hm7 (fun hc5 hm7=>?_) fun hc5 hm7=>?_
      ·refine xqT j j (iEq.2 hc5) (oFA (r':=.mp 2 0 7) j fF107_5 j j)<|xqT j j (iEq.2 hc5) (oLd (cs:=[.im 0 _]) j tF2 j j)<|xqT j j (iEq.2 hc5) (oFA (r':=.mp 3 0 7) j fF107_5 j j)<|xqT j j (iEq.2 hc5) (oLd (cs:=[.im 0 _]) j tF2 j j)<|xqT j j (iEq.2 hc5) (oBi j j j j)<|xq (oPkT j j (iEq.2 hc5) j)<|xq (oMv j j)<|?_
       refine ic hm7 (fun hc6 hm7=>?_) fun hc6 hm7=>?_
       ·obtain ⟨x50,hx50,hm7⟩:=bs hm7
        cases hm7
        exact xqT j j (iEq.2 hc6) (oFA (r':=.mp 2 0 8) j fF107_6 j j)<|xqT j j (iEq.2 hc6) (oLd (cs:=[.im 2 _]) j tF105 j j)<|xqT j j (iEq.2 hc6) (oFA (r':=.mp 3 0 8) j fF107_6 j j)<|xqT j j (iEq.2 hc6) (oLd (cs:=[.im 2 _]) j tF105 j j)<|xqT j j (iEq.2 hc6) (oCa (xs:=[.v false [.im 2 _],.v false [.im 2 _]]) (vs:=[(false,[.im 0 _])]) (v:=.v false [.im 0 _]) (L_slices_Equal_impl_Box_impl_Box hx50) (.inl j) j kF317_105_105 j (ppC j (ppC j pp0)) j j pb0 j j j)<|xq (oPkT j j (iEq.2 hc6) j)<|xq (oAsI j j)<|xn
       ·cases hm7
        exact xsgF j j (byF iEq hc6) j<|xsgF j j (byF iEq hc6) j<|xsgF j j (byF iEq hc6) j<|xsgF j j (byF iEq hc6) j<|xsgF j j (byF iEq hc6) j<|xq (oPkF j j (byF iEq hc6) j)<|xq (oAsI j j)<|xn
      ·cases hm7
       exact xsgF j j (byF iEq hc5) j<|xsgF j j (byF iEq hc5) j<|xsgF j j (byF iEq hc5) j<|xsgF j j (byF iEq hc5) j<|xsgF j j (byF iEq hc5) j<|xq (oPkF j j (byF iEq hc5) j)<|xq (oMv j j)<|xsgF j j j j<|xsgF j j j j<|xsgF j j j j<|xsgF j j j j<|xsgF j j j j<|xq (oPkF j j j j)<|xq (oAsI j j)<|xn
     ·cases hm7
      exact xsgF j j (byF (iAnd iStr (iAnd iEq iEq)) hc4) j<|xsgF j j (byF (iAnd iStr (iAnd iEq iEq)) hc4) j<|xsgF j j (byF (iAnd iStr (iAnd iEq iEq)) hc4) j<|xsgF j j (byF (iAnd iStr (iAnd iEq iEq)) hc4) j<|xsgF j j (byF (iAnd iStr (iAnd iEq iEq)) hc4) j<|xq (oPkF j j (byF (iAnd iStr (iAnd iEq iEq)) hc4) j)<|xq (oMv j j)<|xsgF j j j j<|xsgF j j j j<|xsgF j j j j<|xsgF j j j j<|xsgF j j j j<|xq (oPkF j j j j)<|xq (oMv j j)<|xsgF j j j j<|xsgF j j j j<|xsgF j j j j<|xsgF j j j j<|xsgF j j j j<|xq (oPkF j j j j)<|xq (oAsI j j)<|xn
    ·cases hm7
     exact xsgF j j (byF iEq hc3) j<|xsgF j j (byF iEq hc3) j<|xsgF j j (byF iEq hc3) j<|xsgF j j (byF iEq hc3) j<|xsgF j j (byF iEq hc3) j<|xq (oPkF j j (byF iEq hc3) j)<|xq (oMv j j)<|xsgF j j j j<|xsgF j j j j<|xsgF j j j j<|xsgF j j j j<|xsgF j j j j<|xq (oPkF j j j j)<|xq (oMv j j)<|xsgF j j j j<|xsgF j j j j<|xsgF j j j j<|xsgF j j j j<|xsgF j j j j<|xq (oPkF j j j j)<|xq (oMv j j)<|xsgF j j j j<|xsgF j j j j<|xsgF j j j j<|xsgF j j j j<|xsgF j j j j<|xq (oPkF j j j j)<|xq (oAsI j j)<|xn
   ·cases hm7
    exact xsgF j j (byF iStr hc2) j<|xsgF j j (byF iStr hc2) j<|xsgF j j (byF iStr hc2) j<|xsgF j j (byF iStr hc2) j<|xsgF j j (byF iStr hc2) j<|xq (oPkF j j (byF iStr hc2) j)<|xq (oMv j j)<|xsgF j j j j<|xsgF j j j j<|xsgF j j j j<|xsgF j j j j<|xsgF j j j j<|xq (oPkF j j j j)<|xq (oMv j j)<|xsgF j j j j<|xsgF j j j j<|xsgF j j j j<|xsgF j j j j<|xsgF j j j j<|xq (oPkF j j j j)<|xq (oMv j j)<|xsgF j j j j<|xsgF j j j j<|xsgF j j j j<|xsgF j j j j<|xsgF j j j j<|xq (oPkF j j j j)<|xq (oMv j j)<|xsgF j j j j<|xsgF j j j j<|xsgF j j j j<|xsgF j j j j<|xsgF j j j j<|xq (oPkF j j j j)<|xq (oAsI j j)<|xn
  ·cases hm7
   exact xsgF j j (byF iStr hc1) j<|xsgF j j (byF iStr hc1) j<|xsgF j j (byF iStr hc1) j<|xsgF j j (byF iStr hc1) j<|xsgF j j (byF iStr hc1) j<|xq (oPkF j j (byF iStr hc1) j)<|xq (oMv j j)<|xsgF j j j j<|xsgF j j j j<|xsgF j j j j<|xsgF j j j j<|xsgF j j j j<|xq (oPkF j j j j)<|xq (oMv j j)<|xsgF j j j j<|xsgF j j j j<|xsgF j j j j<|xsgF j j j j<|xsgF j j j j<|xq (oPkF j j j j)<|xq (oMv j j)<|xsgF j j j j<|xsgF j j j j<|xsgF j j j j<|xsgF j j j j<|xsgF j j j j<|xq (oPkF j j j j)<|xq (oMv j j)<|xsgF j j j j<|xsgF j j j j<|xsgF j j j j<|xsgF j j j j<|xsgF j j j j<|xq (oPkF j j j j)<|xq (oMv j j)<|xsgF j j j j<|xsgF j j j j<|xsgF j j j j<|xsgF j j j j<|xsgF j j j j<|xq (oPkF j j j j)<|xq (oAsI j j)<|xn
 ·refine us<|Go.ret (Unw.ret ?_)
  cases h
  exact fr rF259 j
theorem L_slices_EqualFunc_impl_Leaf_impl_Leaf_impl_Leaf_impl_Leaf_259 {s1_0:(List S_Leaf)} {s2_1:(List S_Leaf)} {r:Bool} (h:slices_EqualFunc_impl_Leaf_impl_Leaf_impl_Leaf_impl_Leaf s1_0 s2_1 (fun b0 b1=>impl_SameLeaf b0 b1)=some r):FX 258 [.im 2 false [W 9 e_S_Leaf s1_0],.im 2 false [W 9 e_S_Leaf s2_1],.im 2 false [.clo 259 []]] (B0 [(false,[.im 0 (V r)])]):=by
 unfold slices_EqualFunc_impl_Leaf_impl_Leaf_impl_Leaf_impl_Leaf at h
 refine gn 32 Try.func258 rfl ?_
 refine gs<|g0 j j (q (oAsI j j)<|nl)<|us<|gs<|gs<|g0 j j (q (oMv j j)<|q (oLnI j j uF44 j)<|q (oMv j j)<|q (oLnI j j uF44 j)<|q (oBi j j j j)<|nl)<|us<|gc h j iNe (fun hc1 h=>?_) fun hc1 h=>?_
 ·refine gs<|g0 j j (q (oAsI j j)<|nl)<|us<|Go.ret (Unw.ret ?_)
  cases h
  exact fr rF258 j
 ·refine Go.skip<|us<|gs<|gs<|g0 j j (q (oMv j j)<|q (oLnI j j uF44 j)<|q (oMv j j)<|nl)<|us<|Go.block<|?_
  obtain ⟨o,hl,h⟩:=bs h
  refine gl c258 j _ (fun (t_17_l4:Int)=>mk [(1,D 2 (W 9 e_S_Leaf s2_1)),(2,D 2 (.clo 259 [])),(15,D 2 (W 9 e_S_Leaf s1_0)),(16,iv (s1_0.length:Int)),(17,iv t_17_l4)] []) (fun (o:(Unit ⊕ Bool)) (p:Ex×St)=>match o with | (.inl _)=>p.1= .exit 0∧p.2.norm ([],[])=mk [] [] | (.inr r2)=>p.1= .ret∧fin Try.prog cfg 258 Try.f258 [.im 2 false [W 9 e_S_Leaf s1_0],.im 2 false [W 9 e_S_Leaf s2_1],.im 2 false [.clo 259 []]] p.2=some (B0 [(false,[.im 0 (V r2)])])) hl (by kernel_rfl) ?_ ?_ ?_
  ·intro o p hp e
   rcases o with u | r2<;>exact nomatch (hp.1.symm.trans e)
  ·rintro t_17_l4 o h
   unfold slices_EqualFunc_impl_Leaf_impl_Leaf_impl_Leaf_impl_Leaf_l4 at h
   refine gs<|g0 j j (q (oBi j j j j)<|nl)<|us<|gs<|gc h j iDec (fun hc6 h=>?_) fun hc6 h=>?_
   ·refine Go.skip<|us<|gs<|Go.block<|gs<|?_
    obtain ⟨x20,hx20,h⟩:=bs h
    refine g0 j j (q (oMv j j)<|q (oIAI j hx20 sF44 j j)<|q (oLd (cs:=[.im 2 _,.im 2 _,.im 2 _,.im 2 _,.im 2 _,.im 2 _,.im 2 _,.im 2 _,.im 2 _]) j tF107 j j)<|q (oAl j tF107 (tkI (tkI (tkI (tkI (tkI (tkI (tkI (tkI (tkN tk0))))))))))<|q (oAsI j j)<|q (oSt tF107 j j j (tkI (tkI (tkI (tkI (tkI (tkI (tkI (tkI (tkI tk0))))))))) j j j)<|nl)<|us<|gs<|?_
    obtain ⟨x24,hx24,h⟩:=bs h
    refine g1 j j (mk [(1,D 2 (W 9 e_S_Leaf s2_1)),(2,D 2 (.clo 259 [])),(7,iv t_17_l4),(8,M 8),(15,D 2 (W 9 e_S_Leaf s1_0)),(16,iv (s1_0.length:Int)),(17,iv t_17_l4)] [(8,Oa (G 2 (u_S_Leaf x20)))]) (q (oMv j j)<|q (oMv j j)<|q (oIAI j hx24 sF44 j j)<|q (oLd (cs:=[.im 2 _,.im 2 _,.im 2 _,.im 2 _,.im 2 _,.im 2 _,.im 2 _,.im 2 _,.im 2 _]) j tF107 j j)<|q (oAl j tF107 (tkI (tkI (tkI (tkI (tkI (tkI (tkI (tkI (tkN tk0))))))))))<|q (oSt tF107 j j j (tkI (tkI (tkI (tkI (tkI (tkI (tkI (tkI (tkI tk0))))))))) j j j)<|nl)<|us<|gs<|?_
    obtain ⟨x29,hx29,h⟩:=bs h
    refine g1 j j (mk [(1,D 2 (W 9 e_S_Leaf s2_1)),(2,D 2 (.clo 259 [])),(8,M 8),(9,M 9),(15,D 2 (W 9 e_S_Leaf s1_0)),(16,iv (s1_0.length:Int)),(17,iv t_17_l4)] [(8,Oa (G 2 (u_S_Leaf x20))),(9,Oa (G 2 (u_S_Leaf x24)))]) (q (oMv j j)<|q (oLd (cs:=[.im 0 _,.im 0 _,.im 0 _,.im 0 _,.im 0 _,.im 0 _,.im 0 _,.im 0 _,.im 2 _]) j tF107 j j)<|q (oLd (cs:=[.im 0 _,.im 0 _,.im 0 _,.im 0 _,.im 0 _,.im 0 _,.im 0 _,.im 0 _,.im 2 _]) j tF107 j j)<|q (oCa (xs:=[.v true [.im 0 _,.im 0 _,.im 0 _,.im 0 _,.im 0 _,.im 0 _,.im 0 _,.im 0 _,.im 2 _],.v true [.im 0 _,.im 0 _,.im 0 _,.im 0 _,.im 0 _,.im 0 _,.im 0 _,.im 0 _,.im 2 _]]) (vs:=[(false,[.im 0 _])]) (v:=.v false [.im 0 _]) (L_impl_SameLeaf hx29) (.inr ⟨_,_,j,j⟩) j kF259_107_107 j (ppC j (ppC j pp0)) j j pb0 j j j)<|q (oUn j j j)<|nl)<|us<|?_
    by_cases hc7:x29=true
    ·rw [if_pos hc7] at h
     refine gF j (nF (iR.2 hc7))<|Go.skip<|Unw.blk<|us<|g0 j j (q (oBi j j j j)<|q (oMv j j)<|nl)<|Unw.nil<|?_
     cases h
     exact ⟨j,(by kernel_rfl)⟩
    ·rw [if_neg hc7] at h
     refine gT j (nT (byF iR hc7))<|gs<|g0 j j (q (oAsI j j)<|nl)<|us<|Go.ret (Unw.ret ?_)
     cases h
     exact ⟨j,(fo rF258 j)⟩
   ·refine Go.exit<|ux<|Unw.nil<|?_
    cases h
    exact ⟨j,(by kernel_rfl)⟩
  ·rintro ⟨e,st⟩ hp
   rcases o with u | r2
   ·dsimp only at h
    obtain ⟨he,hst⟩:=hp
    obtain rfl:e= .exit 0:=he
    refine Unw.blkx<|us<|gs<|g2 c258 j j hst (q (oAsI j j)<|nl)<|us<|Go.ret (Unw.ret ?_)
    cases h
    exact fr rF258 j
   ·dsimp only at h
    obtain ⟨he,hfin⟩:=hp
    obtain rfl:e= .ret:=he
    cases h
    exact Unw.ret (Fin_ret hfin)
theorem L_slices_Equal_impl_Placement_impl_Placement {s1_0:(List S_Placement)} {s2_1:(List S_Placement)} {r:Bool} (h:slices_Equal_impl_Placement_impl_Placement s1_0 s2_1=some r):FX 260 [.im 2 false [W 5 e_S_Placement s1_0],.im 2 false [W 5 e_S_Placement s2_1]] (B0 [(false,[.im 0 (V r)])]):=by
 unfold slices_Equal_impl_Placement_impl_Placement at h
 refine gn 26 Try.func260 rfl ?_
 refine gs<|g0 j j (q (oAsI j j)<|nl)<|us<|gs<|gs<|g0 j j (q (oMv j j)<|q (oLnI j j uF126 j)<|q (oMv j j)<|q (oLnI j j uF126 j)<|q (oBi j j j j)<|nl)<|us<|gc h j iNe (fun hc1 h=>?_) fun hc1 h=>?_
 ·refine gs<|g0 j j (q (oAsI j j)<|nl)<|us<|Go.ret (Unw.ret ?_)
  cases h
  exact fr rF260 j
 ·refine Go.skip<|us<|gs<|gs<|g0 j j (q (oMv j j)<|q (oLnI j j uF126 j)<|q (oMv j j)<|nl)<|us<|Go.block<|?_
  obtain ⟨o,hl,h⟩:=bs h
  refine gl c260 j _ (fun (t_13_l4:Int)=>mk [(0,D 2 (W 5 e_S_Placement s1_0)),(1,D 2 (W 5 e_S_Placement s2_1)),(12,iv (s1_0.length:Int)),(13,iv t_13_l4)] []) (fun (o:(Unit ⊕ Bool)) (p:Ex×St)=>match o with | (.inl _)=>p.1= .exit 0∧p.2.norm ([],[])=mk [] [] | (.inr r2)=>p.1= .ret∧fin Try.prog cfg 260 Try.f260 [.im 2 false [W 5 e_S_Placement s1_0],.im 2 false [W 5 e_S_Placement s2_1]] p.2=some (B0 [(false,[.im 0 (V r2)])])) hl (by kernel_rfl) ?_ ?_ ?_
  ·intro o p hp e
   rcases o with u | r2<;>exact nomatch (hp.1.symm.trans e)
  ·rintro t_13_l4 o h
   unfold slices_Equal_impl_Placement_impl_Placement_l4 at h
   refine gs<|g0 j j (q (oBi j j j j)<|nl)<|us<|gs<|gc h j iDec (fun hc6 h=>?_) fun hc6 h=>?_
   ·refine Go.skip<|us<|gs<|Go.block<|gs<|g0 j j (q (oMv j j)<|q (oAsI j j)<|nl)<|us<|gs<|?_
    obtain ⟨x18,hx18,h⟩:=bs h
    obtain ⟨x22,hx22,h⟩:=bs h
    refine gd c260 j j j j (mk [(0,D 2 (W 5 e_S_Placement s1_0)),(1,D 2 (W 5 e_S_Placement s2_1)),(12,iv (s1_0.length:Int)),(13,iv t_13_l4),(24,bv (!((x18.Face==x22.Face)&&((x18.Leaf==x22.Leaf)&&((x18.X==x22.X)&&((x18.Y==x22.Y)&&(x18.Turn==x22.Turn)))))))] []) (t j j (oMv j j)<|t j j (oMv j j)<|t j j (oIAI j hx18 sF126 j j)<|t j j (oLd (cs:=[.im 2 _,.im 2 _,.im 2 _,.im 2 _,.im 2 _]) j tF326 j j)<|t j j (oMv j j)<|t j j (oMv j j)<|t j j (oIAI j hx22 sF126 j j)<|t j j (oLd (cs:=[.im 2 _,.im 2 _,.im 2 _,.im 2 _,.im 2 _]) j tF326 j j)<|t j j (oBa j (qNF326 x18.Face x18.Leaf x18.X x18.Y x18.Turn x22.Face x22.Leaf x22.X x22.Y x22.Turn) j j j j)<|sD (by kernel_rfl))<|us<|?_
    by_cases hc7:(x18.Face=x22.Face∧(x18.Leaf=x22.Leaf∧(x18.X=x22.X∧(x18.Y=x22.Y∧x18.Turn=x22.Turn))))
    ·rw [if_pos hc7] at h
     refine gF j (nF ((iAnd iEq (iAnd iEq (iAnd iEq (iAnd iEq iEq)))).2 hc7))<|Go.skip<|Unw.blk<|us<|g0 j j (q (oBi j j j j)<|q (oMv j j)<|nl)<|Unw.nil<|?_
     cases h
     exact ⟨j,(by kernel_rfl)⟩
    ·rw [if_neg hc7] at h
     refine gT j (nT (byF (iAnd iEq (iAnd iEq (iAnd iEq (iAnd iEq iEq)))) hc7))<|gs<|g0 j j (q (oAsI j j)<|nl)<|us<|Go.ret (Unw.ret ?_)
     cases h
     exact ⟨j,(fo rF260 j)⟩
   ·refine Go.exit<|ux<|Unw.nil<|?_
    cases h
    exact ⟨j,(by kernel_rfl)⟩
  ·rintro ⟨e,st⟩ hp
   rcases o with u | r2
   ·dsimp only at h
    obtain ⟨he,hst⟩:=hp
    obtain rfl:e= .exit 0:=he
    refine Unw.blkx<|us<|gs<|g2 c260 j j hst (q (oAsI j j)<|nl)<|us<|Go.ret (Unw.ret ?_)
    cases h
    exact fr rF260 j
   ·dsimp only at h
    obtain ⟨he,hfin⟩:=hp
    obtain rfl:e= .ret:=he
    cases h
    exact Unw.ret (Fin_ret hfin)
theorem L_impl_sameJob {a_0:S_Job} {b_1:S_Job} {r:Bool} (h:impl_sameJob a_0 b_1=some r):FX 162 [.im 2 true (u_S_Job a_0),.im 2 true (u_S_Job b_1)] (B0 [(false,[.im 0 (V r)])]):=by
 unfold impl_sameJob at h
 refine gn 73 Try.func162 rfl ?_
 refine gs<|g0 j j (q (oBx j tF129 j (tkI (tkI (tkI (tkI (tkI (tkI (tkI (tkI (tkI (tkI (tkI (tkI (tkI (tkI (tkI (tkI (tkI tk0))))))))))))))))))<|q (oBx j tF129 j (tkI (tkI (tkI (tkI (tkI (tkI (tkI (tkI (tkI (tkI (tkI (tkI (tkI (tkI (tkI (tkI (tkI tk0))))))))))))))))))<|q (oAsI j j)<|nl)<|us<|gs<|?_
 obtain ⟨x9,hx9,h⟩:=bs h
 obtain ⟨t_4_m1,hm10,h⟩:=bs h
 refine gX c162 j j (st1:=mk [(2,M 2),(3,M 3)] [(2,Oa (G 2 (u_S_Job a_0))),(3,Oa (G 2 (u_S_Job b_1)))]) (by kernel_rfl) (mk [(4,bv t_4_m1)] []) ?_ ?_
 ·refine xq (oFA (r':=.mp 2 0 0) j fF129_0 j j)<|xq (oLd (cs:=[.im 0 _,.im 0 _,.im 2 _,.im 2 _,.im 2 _]) j tF125 j j)<|xq (oFA (r':=.mp 3 0 0) j fF129_0 j j)<|xq (oLd (cs:=[.im 0 _,.im 0 _,.im 2 _,.im 2 _,.im 2 _]) j tF125 j j)<|xq (oCa (xs:=[.v true [.im 0 _,.im 0 _,.im 2 _,.im 2 _,.im 2 _],.v true [.im 0 _,.im 0 _,.im 2 _,.im 2 _,.im 2 _]]) (vs:=[(false,[.im 0 _])]) (v:=.v false [.im 0 _]) (L_impl_SamePicture hx9) (.inl j) j kF257_125_125 j (ppC j (ppC j pp0)) j j pb0 j j j)<|xq (oMv j j)<|?_
  refine ic hm10 (fun hc1 hm10=>?_) fun hc1 hm10=>?_
  ·obtain ⟨x15,hx15,hm10⟩:=bs hm10
   refine xqT j j (iR.2 hc1) (oFA (r':=.mp 2 0 5) j fF129_1 j j)<|xqT j j (iR.2 hc1) (oLd (cs:=[.im 2 _]) j tF44 j j)<|xqT j j (iR.2 hc1) (oFA (r':=.mp 3 0 5) j fF129_1 j j)<|xqT j j (iR.2 hc1) (oLd (cs:=[.im 2 _]) j tF44 j j)<|xqT j j (iR.2 hc1) (oCa (xs:=[.v false [.im 2 _],.v false [.im 2 _],.fn 259 []]) (vs:=[(false,[.im 0 _])]) (v:=.v false [.im 0 _]) (L_slices_EqualFunc_impl_Leaf_impl_Leaf_impl_Leaf_impl_Leaf_259 hx15) (.inl j) j kF258_44_44_170 j (ppC j (ppC j (ppC j pp0))) j j pb0 j j j)<|xq (oPkT j j (iR.2 hc1) j)<|xq (oMv j j)<|?_
   refine ic hm10 (fun hc2 hm10=>?_) fun hc2 hm10=>?_
   ·obtain ⟨x22,hx22,hm10⟩:=bs hm10
    refine xqT j j (iR.2 hc2) (oFA (r':=.mp 2 0 6) j fF129_2 j j)<|xqT j j (iR.2 hc2) (oLd (cs:=[.im 2 _]) j tF126 j j)<|xqT j j (iR.2 hc2) (oFA (r':=.mp 3 0 6) j fF129_2 j j)<|xqT j j (iR.2 hc2) (oLd (cs:=[.im 2 _]) j tF126 j j)<|xqT j j (iR.2 hc2) (oCa (xs:=[.v false [.im 2 _],.v false [.im 2 _]]) (vs:=[(false,[.im 0 _])]) (v:=.v false [.im 0 _]) (L_slices_Equal_impl_Placement_impl_Placement hx22) (.inl j) j kF260_126_126 j (ppC j (ppC j pp0)) j j pb0 j j j)<|xq (oPkT j j (iR.2 hc2) j)<|xq (oMv j j)<|?_
    refine ic hm10 (fun hc3 hm10=>?_) fun hc3 hm10=>?_
    ·refine xqT j j (iR.2 hc3) (oFA (r':=.mp 2 0 7) j fF129_3 j j)<|xqT j j (iR.2 hc3) (oLd (cs:=[.im 0 _,.im 0 _,.im 0 _,.im 0 _]) j tF127 j j)<|xqT j j (iR.2 hc3) (oFA (r':=.mp 3 0 7) j fF129_3 j j)<|xqT j j (iR.2 hc3) (oLd (cs:=[.im 0 _,.im 0 _,.im 0 _,.im 0 _]) j tF127 j j)<|xqT j j (iR.2 hc3) (oBa j (qEF127 a_0.Rules.Spacing a_0.Rules.Margin a_0.Rules.Angle a_0.Rules.Shade b_1.Rules.Spacing b_1.Rules.Margin b_1.Rules.Angle b_1.Rules.Shade) j j j j)<|xq (oPkT j j (iR.2 hc3) j)<|xq (oMv j j)<|?_
     refine ic hm10 (fun hc4 hm10=>?_) fun hc4 hm10=>?_
     ·refine xqT j j ((iAnd iEq (iAnd iEq (iAnd iEq iEq))).2 hc4) (oFA (r':=.mp 2 0 11) j fF129_4 j j)<|xqT j j ((iAnd iEq (iAnd iEq (iAnd iEq iEq))).2 hc4) (oLd (cs:=[.im 0 _]) j tF2 j j)<|xqT j j ((iAnd iEq (iAnd iEq (iAnd iEq iEq))).2 hc4) (oFA (r':=.mp 3 0 11) j fF129_4 j j)<|xqT j j ((iAnd iEq (iAnd iEq (iAnd iEq iEq))).2 hc4) (oLd (cs:=[.im 0 _]) j tF2 j j)<|xqT j j ((iAnd iEq (iAnd iEq (iAnd iEq iEq))).2 hc4) (oBi j j j j)<|xq (oPkT j j ((iAnd iEq (iAnd iEq (iAnd iEq iEq))).2 hc4) j)<|xq (oMv j j)<|?_
      refine ic hm10 (fun hc5 hm10=>?_) fun hc5 hm10=>?_
      ·refine xqT j j (iEq.2 hc5) (oFA (r':=.mp 2 0 12) j fF129_5 j j)<|xqT j j (iEq.2 hc5) (oLd (cs:=[.im 0 _]) j tF2 j j)<|xqT j j (iEq.2 hc5) (oFA (r':=.mp 3 0 12) j fF129_5 j j)<|xqT j j (iEq.2 hc5) (oLd (cs:=[.im 0 _]) j tF2 j j)<|xqT j j (iEq.2 hc5) (oBi j j j j)<|xq (oPkT j j (iEq.2 hc5) j)<|xq (oMv j j)<|?_
       refine ic hm10 (fun hc6 hm10=>?_) fun hc6 hm10=>?_
       ·refine xqT j j (iEq.2 hc6) (oFA (r':=.mp 2 0 13) j fF129_6 j j)<|xqT j j (iEq.2 hc6) (oLd (cs:=[.im 0 _]) j tF2 j j)<|xqT j j (iEq.2 hc6) (oFA (r':=.mp 3 0 13) j fF129_6 j j)<|xqT j j (iEq.2 hc6) (oLd (cs:=[.im 0 _]) j tF2 j j)<|xqT j j (iEq.2 hc6) (oBi j j j j)<|xq (oPkT j j (iEq.2 hc6) j)<|xq (oMv j j)<|?_
        refine ic hm10 (fun hc7 hm10=>?_) fun hc7 hm10=>?_
        ·refine xqT j j (iEq.2 hc7) (oFA (r':=.mp 2 0 14) j fF129_7 j j)<|xqT j j (iEq.2 hc7) (oLd (cs:=[.im 0 _]) j tF2 j j)<|xqT j j (iEq.2 hc7) (oFA (r':=.mp 3 0 14) j fF129_7 j j)<|xqT j j (iEq.2 hc7) (oLd (cs:=[.im 0 _]) j tF2 j j)<|xqT j j (iEq.2 hc7) (oBi j j j j)<|xq (oPkT j j (iEq.2 hc7) j)<|xq (oMv j j)<|?_
         refine ic hm10 (fun hc8 hm10=>?_) fun hc8 hm10=>?_
         ·obtain ⟨x64,hx64,hm10⟩:=bs hm10
          refine xqT j j (iEq.2 hc8) (oFA (r':=.mp 2 0 15) j fF129_8 j j)<|xqT j j (iEq.2 hc8) (oLd (cs:=[.im 2 _]) j tF28 j j)<|xqT j j (iEq.2 hc8) (oFA (r':=.mp 3 0 15) j fF129_8 j j)<|xqT j j (iEq.2 hc8) (oLd (cs:=[.im 2 _]) j tF28 j j)<|xqT j j (iEq.2 hc8) (oCa (xs:=[.v false [.im 2 _],.v false [.im 2 _]]) (vs:=[(false,[.im 0 _])]) (v:=.v false [.im 0 _]) (L_slices_Equal_int64_int64 hx64) (.inl j) j kF261_28_28 j (ppC j (ppC j pp0)) j j pb0 j j j)<|xq (oPkT j j (iEq.2 hc8) j)<|xq (oMv j j)<|?_
          refine ic hm10 (fun hc9 hm10=>?_) fun hc9 hm10=>?_
          ·obtain ⟨x71,hx71,hm10⟩:=bs hm10
           cases hm10
           exact xqT j j (iR.2 hc9) (oFA (r':=.mp 2 0 16) j fF129_9 j j)<|xqT j j (iR.2 hc9) (oLd (cs:=[.im 2 _]) j tF28 j j)<|xqT j j (iR.2 hc9) (oFA (r':=.mp 3 0 16) j fF129_9 j j)<|xqT j j (iR.2 hc9) (oLd (cs:=[.im 2 _]) j tF28 j j)<|xqT j j (iR.2 hc9) (oCa (xs:=[.v false [.im 2 _],.v false [.im 2 _]]) (vs:=[(false,[.im 0 _])]) (v:=.v false [.im 0 _]) (L_slices_Equal_int64_int64 hx71) (.inl j) j kF261_28_28 j (ppC j (ppC j pp0)) j j pb0 j j j)<|xq (oPkT j j (iR.2 hc9) j)<|xq (oAsI j j)<|xn
          ·cases hm10
           exact xsgF j j (byF iR hc9) j<|xsgF j j (byF iR hc9) j<|xsgF j j (byF iR hc9) j<|xsgF j j (byF iR hc9) j<|xsgF j j (byF iR hc9) j<|xq (oPkF j j (byF iR hc9) j)<|xq (oAsI j j)<|xn
         ·cases hm10
          exact xsgF j j (byF iEq hc8) j<|xsgF j j (byF iEq hc8) j<|xsgF j j (byF iEq hc8) j<|xsgF j j (byF iEq hc8) j<|xsgF j j (byF iEq hc8) j<|xq (oPkF j j (byF iEq hc8) j)<|xq (oMv j j)<|xsgF j j j j<|xsgF j j j j<|xsgF j j j j<|xsgF j j j j<|xsgF j j j j<|xq (oPkF j j j j)<|xq (oAsI j j)<|xn
        ·cases hm10
         exact xsgF j j (byF iEq hc7) j<|xsgF j j (byF iEq hc7) j<|xsgF j j (byF iEq hc7) j<|xsgF j j (byF iEq hc7) j<|xsgF j j (byF iEq hc7) j<|xq (oPkF j j (byF iEq hc7) j)<|xq (oMv j j)<|xsgF j j j j<|xsgF j j j j<|xsgF j j j j<|xsgF j j j j<|xsgF j j j j<|xq (oPkF j j j j)<|xq (oMv j j)<|xsgF j j j j<|xsgF j j j j<|xsgF j j j j<|xsgF j j j j<|xsgF j j j j<|xq (oPkF j j j j)<|xq (oAsI j j)<|xn
       ·cases hm10
        exact xsgF j j (byF iEq hc6) j<|xsgF j j (byF iEq hc6) j<|xsgF j j (byF iEq hc6) j<|xsgF j j (byF iEq hc6) j<|xsgF j j (byF iEq hc6) j<|xq (oPkF j j (byF iEq hc6) j)<|xq (oMv j j)<|xsgF j j j j<|xsgF j j j j<|xsgF j j j j<|xsgF j j j j<|xsgF j j j j<|xq (oPkF j j j j)<|xq (oMv j j)<|xsgF j j j j<|xsgF j j j j<|xsgF j j j j<|xsgF j j j j<|xsgF j j j j<|xq (oPkF j j j j)<|xq (oMv j j)<|xsgF j j j j<|xsgF j j j j<|xsgF j j j j<|xsgF j j j j<|xsgF j j j j<|xq (oPkF j j j j)<|xq (oAsI j j)<|xn
      ·cases hm10
       exact xsgF j j (byF iEq hc5) j<|xsgF j j (byF iEq hc5) j<|xsgF j j (byF iEq hc5) j<|xsgF j j (byF iEq hc5) j<|xsgF j j (byF iEq hc5) j<|xq (oPkF j j (byF iEq hc5) j)<|xq (oMv j j)<|xsgF j j j j<|xsgF j j j j<|xsgF j j j j<|xsgF j j j j<|xsgF j j j j<|xq (oPkF j j j j)<|xq (oMv j j)<|xsgF j j j j<|xsgF j j j j<|xsgF j j j j<|xsgF j j j j<|xsgF j j j j<|xq (oPkF j j j j)<|xq (oMv j j)<|xsgF j j j j<|xsgF j j j j<|xsgF j j j j<|xsgF j j j j<|xsgF j j j j<|xq (oPkF j j j j)<|xq (oMv j j)<|xsgF j j j j<|xsgF j j j j<|xsgF j j j j<|xsgF j j j j<|xsgF j j j j<|xq (oPkF j j j j)<|xq (oAsI j j)<|xn
     ·cases hm10
      exact xsgF j j (byF (iAnd iEq (iAnd iEq (iAnd iEq iEq))) hc4) j<|xsgF j j (byF (iAnd iEq (iAnd iEq (iAnd iEq iEq))) hc4) j<|xsgF j j (byF (iAnd iEq (iAnd iEq (iAnd iEq iEq))) hc4) j<|xsgF j j (byF (iAnd iEq (iAnd iEq (iAnd iEq iEq))) hc4) j<|xsgF j j (byF (iAnd iEq (iAnd iEq (iAnd iEq iEq))) hc4) j<|xq (oPkF j j (byF (iAnd iEq (iAnd iEq (iAnd iEq iEq))) hc4) j)<|xq (oMv j j)<|xsgF j j j j<|xsgF j j j j<|xsgF j j j j<|xsgF j j j j<|xsgF j j j j<|xq (oPkF j j j j)<|xq (oMv j j)<|xsgF j j j j<|xsgF j j j j<|xsgF j j j j<|xsgF j j j j<|xsgF j j j j<|xq (oPkF j j j j)<|xq (oMv j j)<|xsgF j j j j<|xsgF j j j j<|xsgF j j j j<|xsgF j j j j<|xsgF j j j j<|xq (oPkF j j j j)<|xq (oMv j j)<|xsgF j j j j<|xsgF j j j j<|xsgF j j j j<|xsgF j j j j<|xsgF j j j j<|xq (oPkF j j j j)<|xq (oMv j j)<|xsgF j j j j<|xsgF j j j j<|xsgF j j j j<|xsgF j j j j<|xsgF j j j j<|xq (oPkF j j j j)<|xq (oAsI j j)<|xn
    ·cases hm10
     exact xsgF j j (byF iR hc3) j<|xsgF j j (byF iR hc3) j<|xsgF j j (byF iR hc3) j<|xsgF j j (byF iR hc3) j<|xsgF j j (byF iR hc3) j<|xq (oPkF j j (byF iR hc3) j)<|xq (oMv j j)<|xsgF j j j j<|xsgF j j j j<|xsgF j j j j<|xsgF j j j j<|xsgF j j j j<|xq (oPkF j j j j)<|xq (oMv j j)<|xsgF j j j j<|xsgF j j j j<|xsgF j j j j<|xsgF j j j j<|xsgF j j j j<|xq (oPkF j j j j)<|xq (oMv j j)<|xsgF j j j j<|xsgF j j j j<|xsgF j j j j<|xsgF j j j j<|xsgF j j j j<|xq (oPkF j j j j)<|xq (oMv j j)<|xsgF j j j j<|xsgF j j j j<|xsgF j j j j<|xsgF j j j j<|xsgF j j j j<|xq (oPkF j j j j)<|xq (oMv j j)<|xsgF j j j j<|xsgF j j j j<|xsgF j j j j<|xsgF j j j j<|xsgF j j j j<|xq (oPkF j j j j)<|xq (oMv j j)<|xsgF j j j j<|xsgF j j j j<|xsgF j j j j<|xsgF j j j j<|xsgF j j j j<|xq (oPkF j j j j)<|xq (oAsI j j)<|xn
   ·cases hm10
    exact xsgF j j (byF iR hc2) j<|xsgF j j (byF iR hc2) j<|xsgF j j (byF iR hc2) j<|xsgF j j (byF iR hc2) j<|xsgF j j (byF iR hc2) j<|xq (oPkF j j (byF iR hc2) j)<|xq (oMv j j)<|xsgF j j j j<|xsgF j j j j<|xsgF j j j j<|xsgF j j j j<|xsgF j j j j<|xq (oPkF j j j j)<|xq (oMv j j)<|xsgF j j j j<|xsgF j j j j<|xsgF j j j j<|xsgF j j j j<|xsgF j j j j<|xq (oPkF j j j j)<|xq (oMv j j)<|xsgF j j j j<|xsgF j j j j<|xsgF j j j j<|xsgF j j j j<|xsgF j j j j<|xq (oPkF j j j j)<|xq (oMv j j)<|xsgF j j j j<|xsgF j j j j<|xsgF j j j j<|xsgF j j j j<|xsgF j j j j<|xq (oPkF j j j j)<|xq (oMv j j)<|xsgF j j j j<|xsgF j j j j<|xsgF j j j j<|xsgF j j j j<|xsgF j j j j<|xq (oPkF j j j j)<|xq (oMv j j)<|xsgF j j j j<|xsgF j j j j<|xsgF j j j j<|xsgF j j j j<|xsgF j j j j<|xq (oPkF j j j j)<|xq (oMv j j)<|xsgF j j j j<|xsgF j j j j<|xsgF j j j j<|xsgF j j j j<|xsgF j j j j<|xq (oPkF j j j j)<|xq (oAsI j j)<|xn
  ·cases hm10
   exact xsgF j j (byF iR hc1) j<|xsgF j j (byF iR hc1) j<|xsgF j j (byF iR hc1) j<|xsgF j j (byF iR hc1) j<|xsgF j j (byF iR hc1) j<|xq (oPkF j j (byF iR hc1) j)<|xq (oMv j j)<|xsgF j j j j<|xsgF j j j j<|xsgF j j j j<|xsgF j j j j<|xsgF j j j j<|xq (oPkF j j j j)<|xq (oMv j j)<|xsgF j j j j<|xsgF j j j j<|xsgF j j j j<|xsgF j j j j<|xsgF j j j j<|xq (oPkF j j j j)<|xq (oMv j j)<|xsgF j j j j<|xsgF j j j j<|xsgF j j j j<|xsgF j j j j<|xsgF j j j j<|xq (oPkF j j j j)<|xq (oMv j j)<|xsgF j j j j<|xsgF j j j j<|xsgF j j j j<|xsgF j j j j<|xsgF j j j j<|xq (oPkF j j j j)<|xq (oMv j j)<|xsgF j j j j<|xsgF j j j j<|xsgF j j j j<|xsgF j j j j<|xsgF j j j j<|xq (oPkF j j j j)<|xq (oMv j j)<|xsgF j j j j<|xsgF j j j j<|xsgF j j j j<|xsgF j j j j<|xsgF j j j j<|xq (oPkF j j j j)<|xq (oMv j j)<|xsgF j j j j<|xsgF j j j j<|xsgF j j j j<|xsgF j j j j<|xsgF j j j j<|xq (oPkF j j j j)<|xq (oMv j j)<|xsgF j j j j<|xsgF j j j j<|xsgF j j j j<|xsgF j j j j<|xsgF j j j j<|xq (oPkF j j j j)<|xq (oAsI j j)<|xn
 ·refine us<|Go.ret (Unw.ret ?_)
  cases h
  exact fr rF162 j
theorem L_slices_Equal_impl_Bond_impl_Bond {s1_0:(List S_Bond)} {s2_1:(List S_Bond)} {r:Bool} (h:slices_Equal_impl_Bond_impl_Bond s1_0 s2_1=some r):FX 163 [.im 2 false [W 4 e_S_Bond s1_0],.im 2 false [W 4 e_S_Bond s2_1]] (B0 [(false,[.im 0 (V r)])]):=by
 unfold slices_Equal_impl_Bond_impl_Bond at h
 refine gn 26 Try.func163 rfl ?_
 refine gs<|g0 j j (q (oAsI j j)<|nl)<|us<|gs<|gs<|g0 j j (q (oMv j j)<|q (oLnI j j uF130 j)<|q (oMv j j)<|q (oLnI j j uF130 j)<|q (oBi j j j j)<|nl)<|us<|gc h j iNe (fun hc1 h=>?_) fun hc1 h=>?_
 ·refine gs<|g0 j j (q (oAsI j j)<|nl)<|us<|Go.ret (Unw.ret ?_)
  cases h
  exact fr rF163 j
 ·refine Go.skip<|us<|gs<|gs<|g0 j j (q (oMv j j)<|q (oLnI j j uF130 j)<|q (oMv j j)<|nl)<|us<|Go.block<|?_
  obtain ⟨o,hl,h⟩:=bs h
  refine gl c163 j _ (fun (t_13_l4:Int)=>mk [(0,D 2 (W 4 e_S_Bond s1_0)),(1,D 2 (W 4 e_S_Bond s2_1)),(12,iv (s1_0.length:Int)),(13,iv t_13_l4)] []) (fun (o:(Unit ⊕ Bool)) (p:Ex×St)=>match o with | (.inl _)=>p.1= .exit 0∧p.2.norm ([],[])=mk [] [] | (.inr r2)=>p.1= .ret∧fin Try.prog cfg 163 Try.f163 [.im 2 false [W 4 e_S_Bond s1_0],.im 2 false [W 4 e_S_Bond s2_1]] p.2=some (B0 [(false,[.im 0 (V r2)])])) hl (by kernel_rfl) ?_ ?_ ?_
  ·intro o p hp e
   rcases o with u | r2<;>exact nomatch (hp.1.symm.trans e)
  ·rintro t_13_l4 o h
   unfold slices_Equal_impl_Bond_impl_Bond_l4 at h
   refine gs<|g0 j j (q (oBi j j j j)<|nl)<|us<|gs<|gc h j iDec (fun hc6 h=>?_) fun hc6 h=>?_
   ·refine Go.skip<|us<|gs<|Go.block<|gs<|g0 j j (q (oMv j j)<|q (oAsI j j)<|nl)<|us<|gs<|?_
    obtain ⟨x18,hx18,h⟩:=bs h
    obtain ⟨x22,hx22,h⟩:=bs h
    refine gd c163 j j j j (mk [(0,D 2 (W 4 e_S_Bond s1_0)),(1,D 2 (W 4 e_S_Bond s2_1)),(12,iv (s1_0.length:Int)),(13,iv t_13_l4),(24,bv (!((x18.Name.toList==x22.Name.toList)&&((x18.Spread==x22.Spread)&&((x18.Open==x22.Open)&&(x18.Press==x22.Press))))))] []) (t j j (oMv j j)<|t j j (oMv j j)<|t j j (oIAI j hx18 sF130 j j)<|t j j (oLd (cs:=[.im 2 _,.im 2 _,.im 2 _,.im 2 _]) j tF241 j j)<|t j j (oMv j j)<|t j j (oMv j j)<|t j j (oIAI j hx22 sF130 j j)<|t j j (oLd (cs:=[.im 2 _,.im 2 _,.im 2 _,.im 2 _]) j tF241 j j)<|t j j (oBa j (qNF241 x18.Name x18.Spread x18.Open x18.Press x22.Name x22.Spread x22.Open x22.Press) j j j j)<|sD (by kernel_rfl))<|us<|?_
    by_cases hc7:(x18.Name=x22.Name∧(x18.Spread=x22.Spread∧(x18.Open=x22.Open∧x18.Press=x22.Press)))
    ·rw [if_pos hc7] at h
     refine gF j (nF ((iAnd iStr (iAnd iEq (iAnd iEq iEq))).2 hc7))<|Go.skip<|Unw.blk<|us<|g0 j j (q (oBi j j j j)<|q (oMv j j)<|nl)<|Unw.nil<|?_
     cases h
     exact ⟨j,(by kernel_rfl)⟩
    ·rw [if_neg hc7] at h
     refine gT j (nT (byF (iAnd iStr (iAnd iEq (iAnd iEq iEq))) hc7))<|gs<|g0 j j (q (oAsI j j)<|nl)<|us<|Go.ret (Unw.ret ?_)
     cases h
     exact ⟨j,(fo rF163 j)⟩
   ·refine Go.exit<|ux<|Unw.nil<|?_
    cases h
    exact ⟨j,(by kernel_rfl)⟩
  ·rintro ⟨e,st⟩ hp
   rcases o with u | r2
   ·dsimp only at h
    obtain ⟨he,hst⟩:=hp
    obtain rfl:e= .exit 0:=he
    refine Unw.blkx<|us<|gs<|g2 c163 j j hst (q (oAsI j j)<|nl)<|us<|Go.ret (Unw.ret ?_)
    cases h
    exact fr rF163 j
   ·dsimp only at h
    obtain ⟨he,hfin⟩:=hp
    obtain rfl:e= .ret:=he
    cases h
    exact Unw.ret (Fin_ret hfin)
theorem L_slices_Equal_impl_Coat_impl_Coat {s1_0:(List S_Coat)} {s2_1:(List S_Coat)} {r:Bool} (h:slices_Equal_impl_Coat_impl_Coat s1_0 s2_1=some r):FX 164 [.im 2 false [W 4 e_S_Coat s1_0],.im 2 false [W 4 e_S_Coat s2_1]] (B0 [(false,[.im 0 (V r)])]):=by
 unfold slices_Equal_impl_Coat_impl_Coat at h
 refine gn 26 Try.func164 rfl ?_
 refine gs<|g0 j j (q (oAsI j j)<|nl)<|us<|gs<|gs<|g0 j j (q (oMv j j)<|q (oLnI j j uF131 j)<|q (oMv j j)<|q (oLnI j j uF131 j)<|q (oBi j j j j)<|nl)<|us<|gc h j iNe (fun hc1 h=>?_) fun hc1 h=>?_
 ·refine gs<|g0 j j (q (oAsI j j)<|nl)<|us<|Go.ret (Unw.ret ?_)
  cases h
  exact fr rF164 j
 ·refine Go.skip<|us<|gs<|gs<|g0 j j (q (oMv j j)<|q (oLnI j j uF131 j)<|q (oMv j j)<|nl)<|us<|Go.block<|?_
  obtain ⟨o,hl,h⟩:=bs h
  refine gl c164 j _ (fun (t_13_l4:Int)=>mk [(0,D 2 (W 4 e_S_Coat s1_0)),(1,D 2 (W 4 e_S_Coat s2_1)),(12,iv (s1_0.length:Int)),(13,iv t_13_l4)] []) (fun (o:(Unit ⊕ Bool)) (p:Ex×St)=>match o with | (.inl _)=>p.1= .exit 0∧p.2.norm ([],[])=mk [] [] | (.inr r2)=>p.1= .ret∧fin Try.prog cfg 164 Try.f164 [.im 2 false [W 4 e_S_Coat s1_0],.im 2 false [W 4 e_S_Coat s2_1]] p.2=some (B0 [(false,[.im 0 (V r2)])])) hl (by kernel_rfl) ?_ ?_ ?_
  ·intro o p hp e
   rcases o with u | r2<;>exact nomatch (hp.1.symm.trans e)
  ·rintro t_13_l4 o h
   unfold slices_Equal_impl_Coat_impl_Coat_l4 at h
   refine gs<|g0 j j (q (oBi j j j j)<|nl)<|us<|gs<|gc h j iDec (fun hc6 h=>?_) fun hc6 h=>?_
   ·refine Go.skip<|us<|gs<|Go.block<|gs<|g0 j j (q (oMv j j)<|q (oAsI j j)<|nl)<|us<|gs<|?_
    obtain ⟨x18,hx18,h⟩:=bs h
    obtain ⟨x22,hx22,h⟩:=bs h
    refine gd c164 j j j j (mk [(0,D 2 (W 4 e_S_Coat s1_0)),(1,D 2 (W 4 e_S_Coat s2_1)),(12,iv (s1_0.length:Int)),(13,iv t_13_l4),(24,bv (!((x18.Name.toList==x22.Name.toList)&&((x18.Work==x22.Work)&&((x18.Dry==x22.Dry)&&(x18.Wait==x22.Wait))))))] []) (t j j (oMv j j)<|t j j (oMv j j)<|t j j (oIAI j hx18 sF131 j j)<|t j j (oLd (cs:=[.im 2 _,.im 2 _,.im 2 _,.im 2 _]) j tF243 j j)<|t j j (oMv j j)<|t j j (oMv j j)<|t j j (oIAI j hx22 sF131 j j)<|t j j (oLd (cs:=[.im 2 _,.im 2 _,.im 2 _,.im 2 _]) j tF243 j j)<|t j j (oBa j (qNF243 x18.Name x18.Work x18.Dry x18.Wait x22.Name x22.Work x22.Dry x22.Wait) j j j j)<|sD (by kernel_rfl))<|us<|?_
    by_cases hc7:(x18.Name=x22.Name∧(x18.Work=x22.Work∧(x18.Dry=x22.Dry∧x18.Wait=x22.Wait)))
    ·rw [if_pos hc7] at h
     refine gF j (nF ((iAnd iStr (iAnd iEq (iAnd iEq iEq))).2 hc7))<|Go.skip<|Unw.blk<|us<|g0 j j (q (oBi j j j j)<|q (oMv j j)<|nl)<|Unw.nil<|?_
     cases h
     exact ⟨j,(by kernel_rfl)⟩
    ·rw [if_neg hc7] at h
     refine gT j (nT (byF (iAnd iStr (iAnd iEq (iAnd iEq iEq))) hc7))<|gs<|g0 j j (q (oAsI j j)<|nl)<|us<|Go.ret (Unw.ret ?_)
     cases h
     exact ⟨j,(fo rF164 j)⟩
   ·refine Go.exit<|ux<|Unw.nil<|?_
    cases h
    exact ⟨j,(by kernel_rfl)⟩
  ·rintro ⟨e,st⟩ hp
   rcases o with u | r2
   ·dsimp only at h
    obtain ⟨he,hst⟩:=hp
    obtain rfl:e= .exit 0:=he
    refine Unw.blkx<|us<|gs<|g2 c164 j j hst (q (oAsI j j)<|nl)<|us<|Go.ret (Unw.ret ?_)
    cases h
    exact fr rF164 j
   ·dsimp only at h
    obtain ⟨he,hfin⟩:=hp
    obtain rfl:e= .ret:=he
    cases h
    exact Unw.ret (Fin_ret hfin)
theorem L_impl_SameDesk {a_0:S_Desk} {b_1:S_Desk} {r:Bool} (h:impl_SameDesk a_0 b_1=some r):FX 80 [.im 2 true (u_S_Desk a_0),.im 2 true (u_S_Desk b_1)] (B0 [(false,[.im 0 (V r)])]):=by
 unfold impl_SameDesk at h
 refine gn 31 Try.func80 rfl ?_
 refine gs<|g0 j j (q (oBx j tF134 j (tkI (tkI (tkI (tkI (tkI (tkI (tkI (tkI (tkI (tkI (tkI (tkI (tkI (tkI (tkI (tkI (tkI (tkI (tkI (tkI (tkI (tkI (tkI (tkI tk0)))))))))))))))))))))))))<|q (oBx j tF134 j (tkI (tkI (tkI (tkI (tkI (tkI (tkI (tkI (tkI (tkI (tkI (tkI (tkI (tkI (tkI (tkI (tkI (tkI (tkI (tkI (tkI (tkI (tkI (tkI tk0)))))))))))))))))))))))))<|q (oAsI j j)<|nl)<|us<|gs<|?_
 obtain ⟨x9,hx9,h⟩:=bs h
 obtain ⟨t_4_m1,hm4,h⟩:=bs h
 refine gX c80 j j (st1:=mk [(2,M 2),(3,M 3)] [(2,Oa (G 2 (u_S_Desk a_0))),(3,Oa (G 2 (u_S_Desk b_1)))]) (by kernel_rfl) (mk [(4,bv t_4_m1)] []) ?_ ?_
 ·refine xq (oFA (r':=.mp 2 0 0) j fF134_0 j j)<|xq (oLd (cs:=[.im 0 _,.im 0 _,.im 2 _,.im 2 _,.im 2 _,.im 2 _,.im 2 _,.im 0 _,.im 0 _,.im 0 _,.im 0 _,.im 0 _,.im 0 _,.im 0 _,.im 0 _,.im 2 _,.im 2 _]) j tF129 j j)<|xq (oFA (r':=.mp 3 0 0) j fF134_0 j j)<|xq (oLd (cs:=[.im 0 _,.im 0 _,.im 2 _,.im 2 _,.im 2 _,.im 2 _,.im 2 _,.im 0 _,.im 0 _,.im 0 _,.im 0 _,.im 0 _,.im 0 _,.im 0 _,.im 0 _,.im 2 _,.im 2 _]) j tF129 j j)<|xq (oCa (xs:=[.v true [.im 0 _,.im 0 _,.im 2 _,.im 2 _,.im 2 _,.im 2 _,.im 2 _,.im 0 _,.im 0 _,.im 0 _,.im 0 _,.im 0 _,.im 0 _,.im 0 _,.im 0 _,.im 2 _,.im 2 _],.v true [.im 0 _,.im 0 _,.im 2 _,.im 2 _,.im 2 _,.im 2 _,.im 2 _,.im 0 _,.im 0 _,.im 0 _,.im 0 _,.im 0 _,.im 0 _,.im 0 _,.im 0 _,.im 2 _,.im 2 _]]) (vs:=[(false,[.im 0 _])]) (v:=.v false [.im 0 _]) (L_impl_sameJob hx9) (.inl j) j kF162_129_129 j (ppC j (ppC j pp0)) j j pb0 j j j)<|xq (oMv j j)<|?_
  refine ic hm4 (fun hc1 hm4=>?_) fun hc1 hm4=>?_
  ·obtain ⟨x15,hx15,hm4⟩:=bs hm4
   refine xqT j j (iR.2 hc1) (oFA (r':=.mp 2 0 17) j fF134_1 j j)<|xqT j j (iR.2 hc1) (oLd (cs:=[.im 2 _]) j tF130 j j)<|xqT j j (iR.2 hc1) (oFA (r':=.mp 3 0 17) j fF134_1 j j)<|xqT j j (iR.2 hc1) (oLd (cs:=[.im 2 _]) j tF130 j j)<|xqT j j (iR.2 hc1) (oCa (xs:=[.v false [.im 2 _],.v false [.im 2 _]]) (vs:=[(false,[.im 0 _])]) (v:=.v false [.im 0 _]) (L_slices_Equal_impl_Bond_impl_Bond hx15) (.inl j) j kF163_130_130 j (ppC j (ppC j pp0)) j j pb0 j j j)<|xq (oPkT j j (iR.2 hc1) j)<|xq (oMv j j)<|?_
   refine ic hm4 (fun hc2 hm4=>?_) fun hc2 hm4=>?_
   ·obtain ⟨x22,hx22,hm4⟩:=bs hm4
    refine xqT j j (iR.2 hc2) (oFA (r':=.mp 2 0 18) j fF134_2 j j)<|xqT j j (iR.2 hc2) (oLd (cs:=[.im 2 _]) j tF131 j j)<|xqT j j (iR.2 hc2) (oFA (r':=.mp 3 0 18) j fF134_2 j j)<|xqT j j (iR.2 hc2) (oLd (cs:=[.im 2 _]) j tF131 j j)<|xqT j j (iR.2 hc2) (oCa (xs:=[.v false [.im 2 _],.v false [.im 2 _]]) (vs:=[(false,[.im 0 _])]) (v:=.v false [.im 0 _]) (L_slices_Equal_impl_Coat_impl_Coat hx22) (.inl j) j kF164_131_131 j (ppC j (ppC j pp0)) j j pb0 j j j)<|xq (oPkT j j (iR.2 hc2) j)<|xq (oMv j j)<|?_
    refine ic hm4 (fun hc3 hm4=>?_) fun hc3 hm4=>?_
    ·cases hm4
     exact xqT j j (iR.2 hc3) (oFA (r':=.mp 2 0 19) j fF134_3 j j)<|xqT j j (iR.2 hc3) (oLd (cs:=[.im 0 _,.im 0 _,.im 0 _,.im 0 _,.im 0 _]) j tF132 j j)<|xqT j j (iR.2 hc3) (oFA (r':=.mp 3 0 19) j fF134_3 j j)<|xqT j j (iR.2 hc3) (oLd (cs:=[.im 0 _,.im 0 _,.im 0 _,.im 0 _,.im 0 _]) j tF132 j j)<|xqT j j (iR.2 hc3) (oBa j (qEF132 a_0.Rates.Hour a_0.Rates.Edge a_0.Rates.Face a_0.Rates.Waste a_0.Rates.Margin b_1.Rates.Hour b_1.Rates.Edge b_1.Rates.Face b_1.Rates.Waste b_1.Rates.Margin) j j j j)<|xq (oPkT j j (iR.2 hc3) j)<|xq (oAsI j j)<|xn
    ·cases hm4
     exact xsgF j j (byF iR hc3) j<|xsgF j j (byF iR hc3) j<|xsgF j j (byF iR hc3) j<|xsgF j j (byF iR hc3) j<|xsgF j j (byF iR hc3) j<|xq (oPkF j j (byF iR hc3) j)<|xq (oAsI j j)<|xn
   ·cases hm4
    exact xsgF j j (byF iR hc2) j<|xsgF j j (byF iR hc2) j<|xsgF j j (byF iR hc2) j<|xsgF j j (byF iR hc2) j<|xsgF j j (byF iR hc2) j<|xq (oPkF j j (byF iR hc2) j)<|xq (oMv j j)<|xsgF j j j j<|xsgF j j j j<|xsgF j j j j<|xsgF j j j j<|xsgF j j j j<|xq (oPkF j j j j)<|xq (oAsI j j)<|xn
  ·cases hm4
   exact xsgF j j (byF iR hc1) j<|xsgF j j (byF iR hc1) j<|xsgF j j (byF iR hc1) j<|xsgF j j (byF iR hc1) j<|xsgF j j (byF iR hc1) j<|xq (oPkF j j (byF iR hc1) j)<|xq (oMv j j)<|xsgF j j j j<|xsgF j j j j<|xsgF j j j j<|xsgF j j j j<|xsgF j j j j<|xq (oPkF j j j j)<|xq (oMv j j)<|xsgF j j j j<|xsgF j j j j<|xsgF j j j j<|xsgF j j j j<|xsgF j j j j<|xq (oPkF j j j j)<|xq (oAsI j j)<|xn
 ·refine us<|Go.ret (Unw.ret ?_)
  cases h
  exact fr rF80 j
theorem L_laws_eqPoint {a_0:S_Point} {b_1:S_Point} {r:Bool} (h:laws_eqPoint a_0 b_1=some r):FX 206 [.im 2 true (u_S_Point a_0),.im 2 true (u_S_Point b_1)] (B0 [(false,[.im 0 (V r)])]):=by
 unfold laws_eqPoint at h
 refine gn 15 Try.func206 rfl ?_
 refine gs<|g0 j j (q (oBx j tF264 j (tkI (tkI tk0)))<|q (oBx j tF264 j (tkI (tkI tk0)))<|q (oAsI j j)<|nl)<|us<|gs<|gs<|g0 j j (q (oFA (r':=.mp 2 0 0) j fF264_0 j j)<|q (oLd (cs:=[.im 0 _]) j tF2 j j)<|q (oFA (r':=.mp 3 0 0) j fF264_0 j j)<|q (oLd (cs:=[.im 0 _]) j tF2 j j)<|q (oBi j j j j)<|nl)<|us<|gc h j iNe (fun hc1 h=>?_) fun hc1 h=>?_
 ·refine gs<|g0 j j (q (oAsI j j)<|nl)<|us<|Go.ret (Unw.ret ?_)
  cases h
  exact fr rF206 j
 ·refine Go.skip<|us<|gs<|gs<|g0 j j (q (oFA (r':=.mp 2 0 1) j fF264_1 j j)<|q (oLd (cs:=[.im 0 _]) j tF2 j j)<|q (oFA (r':=.mp 3 0 1) j fF264_1 j j)<|q (oLd (cs:=[.im 0 _]) j tF2 j j)<|q (oBi j j j j)<|nl)<|us<|gc h j iNe (fun hc2 h=>?_) fun hc2 h=>?_
  ·refine gs<|g0 j j (q (oAsI j j)<|nl)<|us<|Go.ret (Unw.ret ?_)
   cases h
   exact fr rF206 j
  ·refine Go.skip<|us<|gs<|g0 j j (q (oAsI j j)<|nl)<|us<|Go.ret (Unw.ret ?_)
   cases h
   exact fr rF206 j
theorem L_laws_eqPointS {a_0:(List S_Point)} {b_1:(List S_Point)} {r:Bool} (h:laws_eqPointS a_0 b_1=some r):FX 115 [.im 2 false [W 2 e_S_Point a_0],.im 2 false [W 2 e_S_Point b_1]] (B0 [(false,[.im 0 (V r)])]):=by
 unfold laws_eqPointS at h
 refine gn 27 Try.func115 rfl ?_
 refine gs<|g0 j j (q (oAsI j j)<|nl)<|us<|gs<|gs<|g0 j j (q (oMv j j)<|q (oLnI j j uF23 j)<|q (oMv j j)<|q (oLnI j j uF23 j)<|q (oBi j j j j)<|nl)<|us<|gc h j iNe (fun hc1 h=>?_) fun hc1 h=>?_
 ·refine gs<|g0 j j (q (oAsI j j)<|nl)<|us<|Go.ret (Unw.ret ?_)
  cases h
  exact fr rF115 j
 ·refine Go.skip<|us<|gs<|gs<|g0 j j (q (oAsI j j)<|nl)<|us<|Go.block<|?_
  obtain ⟨o,hl,h⟩:=bs h
  refine gl c115 j _ (fun (i_5_l4:Int)=>mk [(0,D 2 (W 2 e_S_Point a_0)),(1,D 2 (W 2 e_S_Point b_1)),(5,iv i_5_l4)] []) (fun (o:(Unit ⊕ Bool)) (p:Ex×St)=>match o with | (.inl _)=>p.1= .exit 0∧p.2.norm ([],[])=mk [] [] | (.inr r2)=>p.1= .ret∧fin Try.prog cfg 115 Try.f115 [.im 2 false [W 2 e_S_Point a_0],.im 2 false [W 2 e_S_Point b_1]] p.2=some (B0 [(false,[.im 0 (V r2)])])) hl (by kernel_rfl) ?_ ?_ ?_
  ·intro o p hp e
   rcases o with u | r2<;>exact nomatch (hp.1.symm.trans e)
  ·rintro i_5_l4 o h
   unfold laws_eqPointS_l4 at h
   refine gs<|gs<|g0 j j (q (oMv j j)<|q (oMv j j)<|q (oLnI j j uF23 j)<|q (oBi j j j j)<|nl)<|us<|gc h j iDec (fun hc6 h=>?_) fun hc6 h=>?_
   ·refine Go.skip<|us<|gs<|Go.block<|gs<|?_
    obtain ⟨x19,hx19,h⟩:=bs h
    obtain ⟨x23,hx23,h⟩:=bs h
    obtain ⟨x25,hx25,h⟩:=bs h
    refine gd c115 j j j j (mk [(0,D 2 (W 2 e_S_Point a_0)),(1,D 2 (W 2 e_S_Point b_1)),(5,iv i_5_l4),(26,bv (!x25))] []) (t j j (oMv j j)<|t j j (oMv j j)<|t j j (oIAI j hx19 sF23 j j)<|t j j (oLd (cs:=[.im 2 _,.im 2 _]) j tF264 j j)<|t j j (oMv j j)<|t j j (oMv j j)<|t j j (oIAI j hx23 sF23 j j)<|t j j (oLd (cs:=[.im 2 _,.im 2 _]) j tF264 j j)<|sS (dN z115 j (oCa (xs:=[.v true [.im 2 _,.im 2 _],.v true [.im 2 _,.im 2 _]]) (vs:=[(false,[.im 0 _])]) (v:=.v false [.im 0 _]) (L_laws_eqPoint hx25) (.inl j) j kF206_264_264 j (ppC j (ppC j pp0)) j j pb0 j j j)) trivial (t j j (oUn j j j)<|sD (by kernel_rfl)))<|us<|?_
    by_cases hc7:x25=true
    ·rw [if_pos hc7] at h
     refine gF j (nF (iR.2 hc7))<|Go.skip<|Unw.blk<|us<|g0 j j (q (oMv j j)<|q (oBi j j j j)<|q (oAsI j j)<|nl)<|Unw.nil<|?_
     cases h
     exact ⟨j,(by kernel_rfl)⟩
    ·rw [if_neg hc7] at h
     refine gT j (nT (byF iR hc7))<|gs<|g0 j j (q (oAsI j j)<|nl)<|us<|Go.ret (Unw.ret ?_)
     cases h
     exact ⟨j,(fo rF115 j)⟩
   ·refine Go.exit<|ux<|Unw.nil<|?_
    cases h
    exact ⟨j,(by kernel_rfl)⟩
  ·rintro ⟨e,st⟩ hp
   rcases o with u | r2
   ·dsimp only at h
    obtain ⟨he,hst⟩:=hp
    obtain rfl:e= .exit 0:=he
    refine Unw.blkx<|us<|gs<|g2 c115 j j hst (q (oAsI j j)<|nl)<|us<|Go.ret (Unw.ret ?_)
    cases h
    exact fr rF115 j
   ·dsimp only at h
    obtain ⟨he,hfin⟩:=hp
    obtain rfl:e= .ret:=he
    cases h
    exact Unw.ret (Fin_ret hfin)
theorem L_laws_eqInt64S {a_0:(List Int)} {b_1:(List Int)} {r:Bool} (h:laws_eqInt64S a_0 b_1=some r):FX 41 [.im 2 false [W 1 eI a_0],.im 2 false [W 1 eI b_1]] (B0 [(false,[.im 0 (V r)])]):=by
 unfold laws_eqInt64S at h
 refine gn 26 Try.func41 rfl ?_
 refine gs<|g0 j j (q (oAsI j j)<|nl)<|us<|gs<|gs<|g0 j j (q (oMv j j)<|q (oLnI j j uF28 j)<|q (oMv j j)<|q (oLnI j j uF28 j)<|q (oBi j j j j)<|nl)<|us<|gc h j iNe (fun hc1 h=>?_) fun hc1 h=>?_
 ·refine gs<|g0 j j (q (oAsI j j)<|nl)<|us<|Go.ret (Unw.ret ?_)
  cases h
  exact fr rF41 j
 ·refine Go.skip<|us<|gs<|gs<|g0 j j (q (oAsI j j)<|nl)<|us<|Go.block<|?_
  obtain ⟨o,hl,h⟩:=bs h
  refine gl c41 j _ (fun (i_5_l4:Int)=>mk [(0,D 2 (W 1 eI a_0)),(1,D 2 (W 1 eI b_1)),(5,iv i_5_l4)] []) (fun (o:(Unit ⊕ Bool)) (p:Ex×St)=>match o with | (.inl _)=>p.1= .exit 0∧p.2.norm ([],[])=mk [] [] | (.inr r2)=>p.1= .ret∧fin Try.prog cfg 41 Try.f41 [.im 2 false [W 1 eI a_0],.im 2 false [W 1 eI b_1]] p.2=some (B0 [(false,[.im 0 (V r2)])])) hl (by kernel_rfl) ?_ ?_ ?_
  ·intro o p hp e
   rcases o with u | r2<;>exact nomatch (hp.1.symm.trans e)
  ·rintro i_5_l4 o h
   unfold laws_eqInt64S_l4 at h
   refine gs<|gs<|g0 j j (q (oMv j j)<|q (oMv j j)<|q (oLnI j j uF28 j)<|q (oBi j j j j)<|nl)<|us<|gc h j iDec (fun hc6 h=>?_) fun hc6 h=>?_
   ·refine Go.skip<|us<|gs<|Go.block<|gs<|?_
    obtain ⟨x19,hx19,h⟩:=bs h
    obtain ⟨x23,hx23,h⟩:=bs h
    refine gd c41 j j j j (mk [(0,D 2 (W 1 eI a_0)),(1,D 2 (W 1 eI b_1)),(5,iv i_5_l4),(25,bv (x19 != x23))] []) (t j j (oMv j j)<|t j j (oMv j j)<|t j j (oIAI j hx19 sF28 j j)<|t j j (oLd (cs:=[.im 2 _]) j tF2 j j)<|t j j (oMv j j)<|t j j (oMv j j)<|t j j (oIAI j hx23 sF28 j j)<|t j j (oLd (cs:=[.im 2 _]) j tF2 j j)<|t j j (oBi j j j j)<|sD (by kernel_rfl))<|us<|gc h j iNe (fun hc7 h=>?_) fun hc7 h=>?_
    ·refine gs<|g0 j j (q (oAsI j j)<|nl)<|us<|Go.ret (Unw.ret ?_)
     cases h
     exact ⟨j,(fo rF41 j)⟩
    ·refine Go.skip<|Unw.blk<|us<|g0 j j (q (oMv j j)<|q (oBi j j j j)<|q (oAsI j j)<|nl)<|Unw.nil<|?_
     cases h
     exact ⟨j,(by kernel_rfl)⟩
   ·refine Go.exit<|ux<|Unw.nil<|?_
    cases h
    exact ⟨j,(by kernel_rfl)⟩
  ·rintro ⟨e,st⟩ hp
   rcases o with u | r2
   ·dsimp only at h
    obtain ⟨he,hst⟩:=hp
    obtain rfl:e= .exit 0:=he
    refine Unw.blkx<|us<|gs<|g2 c41 j j hst (q (oAsI j j)<|nl)<|us<|Go.ret (Unw.ret ?_)
    cases h
    exact fr rF41 j
   ·dsimp only at h
    obtain ⟨he,hfin⟩:=hp
    obtain rfl:e= .ret:=he
    cases h
    exact Unw.ret (Fin_ret hfin)
theorem L_laws_eqFace {a_0:S_Face} {b_1:S_Face} {r:Bool} (h:laws_eqFace a_0 b_1=some r):FX 207 [.im 2 true (u_S_Face a_0),.im 2 true (u_S_Face b_1)] (B0 [(false,[.im 0 (V r)])]):=by
 unfold laws_eqFace at h
 refine gn 16 Try.func207 rfl ?_
 refine gs<|g0 j j (q (oBx j tF257 j (tkI (tkI tk0)))<|q (oBx j tF257 j (tkI (tkI tk0)))<|q (oAsI j j)<|nl)<|us<|gs<|gs<|g0 j j (q (oFA (r':=.mp 2 0 0) j fF257_0 j j)<|q (oLd (cs:=[.im 0 _]) j tF9 j j)<|q (oFA (r':=.mp 3 0 0) j fF257_0 j j)<|q (oLd (cs:=[.im 0 _]) j tF9 j j)<|q (oBi j j j j)<|nl)<|us<|gc h j (iNot iStr) (fun hc1 h=>?_) fun hc1 h=>?_
 ·refine gs<|g0 j j (q (oAsI j j)<|nl)<|us<|Go.ret (Unw.ret ?_)
  cases h
  exact fr rF207 j
 ·refine Go.skip<|us<|gs<|gs<|?_
  obtain ⟨x14,hx14,h⟩:=bs h
  refine g0 j j (q (oFA (r':=.mp 2 0 1) j fF257_1 j j)<|q (oLd (cs:=[.im 2 _]) j tF28 j j)<|q (oFA (r':=.mp 3 0 1) j fF257_1 j j)<|q (oLd (cs:=[.im 2 _]) j tF28 j j)<|q (oCa (xs:=[.v false [.im 2 _],.v false [.im 2 _]]) (vs:=[(false,[.im 0 _])]) (v:=.v false [.im 0 _]) (L_laws_eqInt64S hx14) (.inl j) j kF41_28_28 j (ppC j (ppC j pp0)) j j pb0 j j j)<|q (oUn j j j)<|nl)<|us<|?_
  by_cases hc2:x14=true
  ·rw [if_pos hc2] at h
   refine gF j (nF (iR.2 hc2))<|Go.skip<|us<|gs<|g0 j j (q (oAsI j j)<|nl)<|us<|Go.ret (Unw.ret ?_)
   cases h
   exact fr rF207 j
  ·rw [if_neg hc2] at h
   refine gT j (nT (byF iR hc2))<|gs<|g0 j j (q (oAsI j j)<|nl)<|us<|Go.ret (Unw.ret ?_)
   cases h
   exact fr rF207 j
theorem L_laws_eqFaceS {a_0:(List S_Face)} {b_1:(List S_Face)} {r:Bool} (h:laws_eqFaceS a_0 b_1=some r):FX 116 [.im 2 false [W 2 e_S_Face a_0],.im 2 false [W 2 e_S_Face b_1]] (B0 [(false,[.im 0 (V r)])]):=by
 unfold laws_eqFaceS at h
 refine gn 27 Try.func116 rfl ?_
 refine gs<|g0 j j (q (oAsI j j)<|nl)<|us<|gs<|gs<|g0 j j (q (oMv j j)<|q (oLnI j j uF24 j)<|q (oMv j j)<|q (oLnI j j uF24 j)<|q (oBi j j j j)<|nl)<|us<|gc h j iNe (fun hc1 h=>?_) fun hc1 h=>?_
 ·refine gs<|g0 j j (q (oAsI j j)<|nl)<|us<|Go.ret (Unw.ret ?_)
  cases h
  exact fr rF116 j
 ·refine Go.skip<|us<|gs<|gs<|g0 j j (q (oAsI j j)<|nl)<|us<|Go.block<|?_
  obtain ⟨o,hl,h⟩:=bs h
  refine gl c116 j _ (fun (i_5_l4:Int)=>mk [(0,D 2 (W 2 e_S_Face a_0)),(1,D 2 (W 2 e_S_Face b_1)),(5,iv i_5_l4)] []) (fun (o:(Unit ⊕ Bool)) (p:Ex×St)=>match o with | (.inl _)=>p.1= .exit 0∧p.2.norm ([],[])=mk [] [] | (.inr r2)=>p.1= .ret∧fin Try.prog cfg 116 Try.f116 [.im 2 false [W 2 e_S_Face a_0],.im 2 false [W 2 e_S_Face b_1]] p.2=some (B0 [(false,[.im 0 (V r2)])])) hl (by kernel_rfl) ?_ ?_ ?_
  ·intro o p hp e
   rcases o with u | r2<;>exact nomatch (hp.1.symm.trans e)
  ·rintro i_5_l4 o h
   unfold laws_eqFaceS_l4 at h
   refine gs<|gs<|g0 j j (q (oMv j j)<|q (oMv j j)<|q (oLnI j j uF24 j)<|q (oBi j j j j)<|nl)<|us<|gc h j iDec (fun hc6 h=>?_) fun hc6 h=>?_
   ·refine Go.skip<|us<|gs<|Go.block<|gs<|?_
    obtain ⟨x19,hx19,h⟩:=bs h
    obtain ⟨x23,hx23,h⟩:=bs h
    obtain ⟨x25,hx25,h⟩:=bs h
    refine gd c116 j j j j (mk [(0,D 2 (W 2 e_S_Face a_0)),(1,D 2 (W 2 e_S_Face b_1)),(5,iv i_5_l4),(26,bv (!x25))] []) (t j j (oMv j j)<|t j j (oMv j j)<|t j j (oIAI j hx19 sF24 j j)<|t j j (oLd (cs:=[.im 2 _,.im 2 _]) j tF257 j j)<|t j j (oMv j j)<|t j j (oMv j j)<|t j j (oIAI j hx23 sF24 j j)<|t j j (oLd (cs:=[.im 2 _,.im 2 _]) j tF257 j j)<|sS (dN z116 j (oCa (xs:=[.v true [.im 2 _,.im 2 _],.v true [.im 2 _,.im 2 _]]) (vs:=[(false,[.im 0 _])]) (v:=.v false [.im 0 _]) (L_laws_eqFace hx25) (.inl j) j kF207_257_257 j (ppC j (ppC j pp0)) j j pb0 j j j)) trivial (t j j (oUn j j j)<|sD (by kernel_rfl)))<|us<|?_
    by_cases hc7:x25=true
    ·rw [if_pos hc7] at h
     refine gF j (nF (iR.2 hc7))<|Go.skip<|Unw.blk<|us<|g0 j j (q (oMv j j)<|q (oBi j j j j)<|q (oAsI j j)<|nl)<|Unw.nil<|?_
     cases h
     exact ⟨j,(by kernel_rfl)⟩
    ·rw [if_neg hc7] at h
     refine gT j (nT (byF iR hc7))<|gs<|g0 j j (q (oAsI j j)<|nl)<|us<|Go.ret (Unw.ret ?_)
     cases h
     exact ⟨j,(fo rF116 j)⟩
   ·refine Go.exit<|ux<|Unw.nil<|?_
    cases h
    exact ⟨j,(by kernel_rfl)⟩
  ·rintro ⟨e,st⟩ hp
   rcases o with u | r2
   ·dsimp only at h
    obtain ⟨he,hst⟩:=hp
    obtain rfl:e= .exit 0:=he
    refine Unw.blkx<|us<|gs<|g2 c116 j j hst (q (oAsI j j)<|nl)<|us<|Go.ret (Unw.ret ?_)
    cases h
    exact fr rF116 j
   ·dsimp only at h
    obtain ⟨he,hfin⟩:=hp
    obtain rfl:e= .ret:=he
    cases h
    exact Unw.ret (Fin_ret hfin)
theorem L_laws_eqDrawing {a_0:S_Drawing} {b_1:S_Drawing} {r:Bool} (h:laws_eqDrawing a_0 b_1=some r):FX 39 [.im 2 true (u_S_Drawing a_0),.im 2 true (u_S_Drawing b_1)] (B0 [(false,[.im 0 (V r)])]):=by
 unfold laws_eqDrawing at h
 refine gn 27 Try.func39 rfl ?_
 refine gs<|g0 j j (q (oBx j tF26 j (tkI (tkI (tkI (tkI tk0)))))<|q (oBx j tF26 j (tkI (tkI (tkI (tkI tk0)))))<|q (oAsI j j)<|nl)<|us<|gs<|gs<|g0 j j (q (oFA (r':=.mp 2 0 0) j fF26_0 j j)<|q (oLd (cs:=[.im 0 _]) j tF2 j j)<|q (oFA (r':=.mp 3 0 0) j fF26_0 j j)<|q (oLd (cs:=[.im 0 _]) j tF2 j j)<|q (oBi j j j j)<|nl)<|us<|gc h j iNe (fun hc1 h=>?_) fun hc1 h=>?_
 ·refine gs<|g0 j j (q (oAsI j j)<|nl)<|us<|Go.ret (Unw.ret ?_)
  cases h
  exact fr rF39 j
 ·refine Go.skip<|us<|gs<|gs<|g0 j j (q (oFA (r':=.mp 2 0 1) j fF26_1 j j)<|q (oLd (cs:=[.im 0 _]) j tF2 j j)<|q (oFA (r':=.mp 3 0 1) j fF26_1 j j)<|q (oLd (cs:=[.im 0 _]) j tF2 j j)<|q (oBi j j j j)<|nl)<|us<|gc h j iNe (fun hc2 h=>?_) fun hc2 h=>?_
  ·refine gs<|g0 j j (q (oAsI j j)<|nl)<|us<|Go.ret (Unw.ret ?_)
   cases h
   exact fr rF39 j
  ·refine Go.skip<|us<|gs<|gs<|?_
   obtain ⟨x19,hx19,h⟩:=bs h
   refine g0 j j (q (oFA (r':=.mp 2 0 2) j fF26_2 j j)<|q (oLd (cs:=[.im 2 _]) j tF23 j j)<|q (oFA (r':=.mp 3 0 2) j fF26_2 j j)<|q (oLd (cs:=[.im 2 _]) j tF23 j j)<|q (oCa (xs:=[.v false [.im 2 _],.v false [.im 2 _]]) (vs:=[(false,[.im 0 _])]) (v:=.v false [.im 0 _]) (L_laws_eqPointS hx19) (.inl j) j kF115_23_23 j (ppC j (ppC j pp0)) j j pb0 j j j)<|q (oUn j j j)<|nl)<|us<|?_
   by_cases hc3:x19=true
   ·rw [if_pos hc3] at h
    refine gF j (nF (iR.2 hc3))<|Go.skip<|us<|gs<|gs<|?_
    obtain ⟨x25,hx25,h⟩:=bs h
    refine g0 j j (q (oFA (r':=.mp 2 0 3) j fF26_3 j j)<|q (oLd (cs:=[.im 2 _]) j tF24 j j)<|q (oFA (r':=.mp 3 0 3) j fF26_3 j j)<|q (oLd (cs:=[.im 2 _]) j tF24 j j)<|q (oCa (xs:=[.v false [.im 2 _],.v false [.im 2 _]]) (vs:=[(false,[.im 0 _])]) (v:=.v false [.im 0 _]) (L_laws_eqFaceS hx25) (.inl j) j kF116_24_24 j (ppC j (ppC j pp0)) j j pb0 j j j)<|q (oUn j j j)<|nl)<|us<|?_
    by_cases hc4:x25=true
    ·rw [if_pos hc4] at h
     refine gF j (nF (iR.2 hc4))<|Go.skip<|us<|gs<|g0 j j (q (oAsI j j)<|nl)<|us<|Go.ret (Unw.ret ?_)
     cases h
     exact fr rF39 j
    ·rw [if_neg hc4] at h
     refine gT j (nT (byF iR hc4))<|gs<|g0 j j (q (oAsI j j)<|nl)<|us<|Go.ret (Unw.ret ?_)
     cases h
     exact fr rF39 j
   ·rw [if_neg hc3] at h
    refine gT j (nT (byF iR hc3))<|gs<|g0 j j (q (oAsI j j)<|nl)<|us<|Go.ret (Unw.ret ?_)
    cases h
    exact fr rF39 j
theorem L_laws_eqVeneer {a_0:S_Veneer} {b_1:S_Veneer} {r:Bool} (h:laws_eqVeneer a_0 b_1=some r):FX 139 [.im 2 true (u_S_Veneer a_0),.im 2 true (u_S_Veneer b_1)] (B0 [(false,[.im 0 (V r)])]):=by
 unfold laws_eqVeneer at h
 refine gn 20 Try.func139 rfl ?_
 refine gs<|g0 j j (q (oBx j tF104 j (tkI (tkI (tkI tk0))))<|q (oBx j tF104 j (tkI (tkI (tkI tk0))))<|q (oAsI j j)<|nl)<|us<|gs<|gs<|g0 j j (q (oFA (r':=.mp 2 0 0) j fF104_0 j j)<|q (oLd (cs:=[.im 0 _]) j tF9 j j)<|q (oFA (r':=.mp 3 0 0) j fF104_0 j j)<|q (oLd (cs:=[.im 0 _]) j tF9 j j)<|q (oBi j j j j)<|nl)<|us<|gc h j (iNot iStr) (fun hc1 h=>?_) fun hc1 h=>?_
 ·refine gs<|g0 j j (q (oAsI j j)<|nl)<|us<|Go.ret (Unw.ret ?_)
  cases h
  exact fr rF139 j
 ·refine Go.skip<|us<|gs<|gs<|g0 j j (q (oFA (r':=.mp 2 0 1) j fF104_1 j j)<|q (oLd (cs:=[.im 0 _]) j tF2 j j)<|q (oFA (r':=.mp 3 0 1) j fF104_1 j j)<|q (oLd (cs:=[.im 0 _]) j tF2 j j)<|q (oBi j j j j)<|nl)<|us<|gc h j iNe (fun hc2 h=>?_) fun hc2 h=>?_
  ·refine gs<|g0 j j (q (oAsI j j)<|nl)<|us<|Go.ret (Unw.ret ?_)
   cases h
   exact fr rF139 j
  ·refine Go.skip<|us<|gs<|gs<|g0 j j (q (oFA (r':=.mp 2 0 2) j fF104_2 j j)<|q (oLd (cs:=[.im 0 _]) j tF2 j j)<|q (oFA (r':=.mp 3 0 2) j fF104_2 j j)<|q (oLd (cs:=[.im 0 _]) j tF2 j j)<|q (oBi j j j j)<|nl)<|us<|gc h j iNe (fun hc3 h=>?_) fun hc3 h=>?_
   ·refine gs<|g0 j j (q (oAsI j j)<|nl)<|us<|Go.ret (Unw.ret ?_)
    cases h
    exact fr rF139 j
   ·refine Go.skip<|us<|gs<|g0 j j (q (oAsI j j)<|nl)<|us<|Go.ret (Unw.ret ?_)
    cases h
    exact fr rF139 j
theorem L_laws_eqVeneerS {a_0:(List S_Veneer)} {b_1:(List S_Veneer)} {r:Bool} (h:laws_eqVeneerS a_0 b_1=some r):FX 63 [.im 2 false [W 3 e_S_Veneer a_0],.im 2 false [W 3 e_S_Veneer b_1]] (B0 [(false,[.im 0 (V r)])]):=by
 unfold laws_eqVeneerS at h
 refine gn 27 Try.func63 rfl ?_
 refine gs<|g0 j j (q (oAsI j j)<|nl)<|us<|gs<|gs<|g0 j j (q (oMv j j)<|q (oLnI j j uF84 j)<|q (oMv j j)<|q (oLnI j j uF84 j)<|q (oBi j j j j)<|nl)<|us<|gc h j iNe (fun hc1 h=>?_) fun hc1 h=>?_
 ·refine gs<|g0 j j (q (oAsI j j)<|nl)<|us<|Go.ret (Unw.ret ?_)
  cases h
  exact fr rF63 j
 ·refine Go.skip<|us<|gs<|gs<|g0 j j (q (oAsI j j)<|nl)<|us<|Go.block<|?_
  obtain ⟨o,hl,h⟩:=bs h
  refine gl c63 j _ (fun (i_5_l4:Int)=>mk [(0,D 2 (W 3 e_S_Veneer a_0)),(1,D 2 (W 3 e_S_Veneer b_1)),(5,iv i_5_l4)] []) (fun (o:(Unit ⊕ Bool)) (p:Ex×St)=>match o with | (.inl _)=>p.1= .exit 0∧p.2.norm ([],[])=mk [] [] | (.inr r2)=>p.1= .ret∧fin Try.prog cfg 63 Try.f63 [.im 2 false [W 3 e_S_Veneer a_0],.im 2 false [W 3 e_S_Veneer b_1]] p.2=some (B0 [(false,[.im 0 (V r2)])])) hl (by kernel_rfl) ?_ ?_ ?_
  ·intro o p hp e
   rcases o with u | r2<;>exact nomatch (hp.1.symm.trans e)
  ·rintro i_5_l4 o h
   unfold laws_eqVeneerS_l4 at h
   refine gs<|gs<|g0 j j (q (oMv j j)<|q (oMv j j)<|q (oLnI j j uF84 j)<|q (oBi j j j j)<|nl)<|us<|gc h j iDec (fun hc6 h=>?_) fun hc6 h=>?_
   ·refine Go.skip<|us<|gs<|Go.block<|gs<|?_
    obtain ⟨x19,hx19,h⟩:=bs h
    obtain ⟨x23,hx23,h⟩:=bs h
    obtain ⟨x25,hx25,h⟩:=bs h
    refine gd c63 j j j j (mk [(0,D 2 (W 3 e_S_Veneer a_0)),(1,D 2 (W 3 e_S_Veneer b_1)),(5,iv i_5_l4),(26,bv (!x25))] []) (t j j (oMv j j)<|t j j (oMv j j)<|t j j (oIAI j hx19 sF84 j j)<|t j j (oLd (cs:=[.im 2 _,.im 2 _,.im 2 _]) j tF104 j j)<|t j j (oMv j j)<|t j j (oMv j j)<|t j j (oIAI j hx23 sF84 j j)<|t j j (oLd (cs:=[.im 2 _,.im 2 _,.im 2 _]) j tF104 j j)<|sS (dN z63 j (oCa (xs:=[.v true [.im 2 _,.im 2 _,.im 2 _],.v true [.im 2 _,.im 2 _,.im 2 _]]) (vs:=[(false,[.im 0 _])]) (v:=.v false [.im 0 _]) (L_laws_eqVeneer hx25) (.inl j) j kF139_104_104 j (ppC j (ppC j pp0)) j j pb0 j j j)) trivial (t j j (oUn j j j)<|sD (by kernel_rfl)))<|us<|?_
    by_cases hc7:x25=true
    ·rw [if_pos hc7] at h
     refine gF j (nF (iR.2 hc7))<|Go.skip<|Unw.blk<|us<|g0 j j (q (oMv j j)<|q (oBi j j j j)<|q (oAsI j j)<|nl)<|Unw.nil<|?_
     cases h
     exact ⟨j,(by kernel_rfl)⟩
    ·rw [if_neg hc7] at h
     refine gT j (nT (byF iR hc7))<|gs<|g0 j j (q (oAsI j j)<|nl)<|us<|Go.ret (Unw.ret ?_)
     cases h
     exact ⟨j,(fo rF63 j)⟩
   ·refine Go.exit<|ux<|Unw.nil<|?_
    cases h
    exact ⟨j,(by kernel_rfl)⟩
  ·rintro ⟨e,st⟩ hp
   rcases o with u | r2
   ·dsimp only at h
    obtain ⟨he,hst⟩:=hp
    obtain rfl:e= .exit 0:=he
    refine Unw.blkx<|us<|gs<|g2 c63 j j hst (q (oAsI j j)<|nl)<|us<|Go.ret (Unw.ret ?_)
    cases h
    exact fr rF63 j
   ·dsimp only at h
    obtain ⟨he,hfin⟩:=hp
    obtain rfl:e= .ret:=he
    cases h
    exact Unw.ret (Fin_ret hfin)
theorem L_laws_eqPicture {a_0:S_Picture} {b_1:S_Picture} {r:Bool} (h:laws_eqPicture a_0 b_1=some r):FX 262 [.im 2 true (u_S_Picture a_0),.im 2 true (u_S_Picture b_1)] (B0 [(false,[.im 0 (V r)])]):=by
 unfold laws_eqPicture at h
 refine gn 17 Try.func262 rfl ?_
 refine gs<|g0 j j (q (oBx j tF125 j (tkI (tkI (tkI (tkI (tkI tk0))))))<|q (oBx j tF125 j (tkI (tkI (tkI (tkI (tkI tk0))))))<|q (oAsI j j)<|nl)<|us<|gs<|gs<|?_
 obtain ⟨x9,hx9,h⟩:=bs h
 refine g1 j j (mk [(2,M 2),(3,M 3)] [(2,Oa (G 2 (u_S_Picture a_0))),(3,Oa (G 2 (u_S_Picture b_1)))]) (q (oFA (r':=.mp 2 0 0) j fF125_0 j j)<|q (oLd (cs:=[.im 0 _,.im 0 _,.im 2 _,.im 2 _]) j tF26 j j)<|q (oFA (r':=.mp 3 0 0) j fF125_0 j j)<|q (oLd (cs:=[.im 0 _,.im 0 _,.im 2 _,.im 2 _]) j tF26 j j)<|q (oCa (xs:=[.v true [.im 0 _,.im 0 _,.im 2 _,.im 2 _],.v true [.im 0 _,.im 0 _,.im 2 _,.im 2 _]]) (vs:=[(false,[.im 0 _])]) (v:=.v false [.im 0 _]) (L_laws_eqDrawing hx9) (.inl j) j kF39_26_26 j (ppC j (ppC j pp0)) j j pb0 j j j)<|q (oUn j j j)<|nl)<|us<|?_
 by_cases hc1:x9=true
 ·rw [if_pos hc1] at h
  refine gF j (nF (iR.2 hc1))<|Go.skip<|us<|gs<|gs<|?_
  obtain ⟨x15,hx15,h⟩:=bs h
  refine g0 j j (q (oFA (r':=.mp 2 0 4) j fF125_1 j j)<|q (oLd (cs:=[.im 2 _]) j tF84 j j)<|q (oFA (r':=.mp 3 0 4) j fF125_1 j j)<|q (oLd (cs:=[.im 2 _]) j tF84 j j)<|q (oCa (xs:=[.v false [.im 2 _],.v false [.im 2 _]]) (vs:=[(false,[.im 0 _])]) (v:=.v false [.im 0 _]) (L_laws_eqVeneerS hx15) (.inl j) j kF63_84_84 j (ppC j (ppC j pp0)) j j pb0 j j j)<|q (oUn j j j)<|nl)<|us<|?_
  by_cases hc2:x15=true
  ·rw [if_pos hc2] at h
   refine gF j (nF (iR.2 hc2))<|Go.skip<|us<|gs<|g0 j j (q (oAsI j j)<|nl)<|us<|Go.ret (Unw.ret ?_)
   cases h
   exact fr rF262 j
  ·rw [if_neg hc2] at h
   refine gT j (nT (byF iR hc2))<|gs<|g0 j j (q (oAsI j j)<|nl)<|us<|Go.ret (Unw.ret ?_)
   cases h
   exact fr rF262 j
 ·rw [if_neg hc1] at h
  refine gT j (nT (byF iR hc1))<|gs<|g0 j j (q (oAsI j j)<|nl)<|us<|Go.ret (Unw.ret ?_)
  cases h
  exact fr rF262 j
theorem L_laws_eqBox {a_0:S_Box} {b_1:S_Box} {r:Bool} (h:laws_eqBox a_0 b_1=some r):FX 284 [.im 2 true (u_S_Box a_0),.im 2 true (u_S_Box b_1)] (B0 [(false,[.im 0 (V r)])]):=by
 unfold laws_eqBox at h
 refine gn 25 Try.func284 rfl ?_
 refine gs<|g0 j j (q (oBx j tF276 j (tkI (tkI (tkI (tkI tk0)))))<|q (oBx j tF276 j (tkI (tkI (tkI (tkI tk0)))))<|q (oAsI j j)<|nl)<|us<|gs<|gs<|g0 j j (q (oFA (r':=.mp 2 0 0) j fF276_0 j j)<|q (oLd (cs:=[.im 0 _]) j tF2 j j)<|q (oFA (r':=.mp 3 0 0) j fF276_0 j j)<|q (oLd (cs:=[.im 0 _]) j tF2 j j)<|q (oBi j j j j)<|nl)<|us<|gc h j iNe (fun hc1 h=>?_) fun hc1 h=>?_
 ·refine gs<|g0 j j (q (oAsI j j)<|nl)<|us<|Go.ret (Unw.ret ?_)
  cases h
  exact fr rF284 j
 ·refine Go.skip<|us<|gs<|gs<|g0 j j (q (oFA (r':=.mp 2 0 1) j fF276_1 j j)<|q (oLd (cs:=[.im 0 _]) j tF2 j j)<|q (oFA (r':=.mp 3 0 1) j fF276_1 j j)<|q (oLd (cs:=[.im 0 _]) j tF2 j j)<|q (oBi j j j j)<|nl)<|us<|gc h j iNe (fun hc2 h=>?_) fun hc2 h=>?_
  ·refine gs<|g0 j j (q (oAsI j j)<|nl)<|us<|Go.ret (Unw.ret ?_)
   cases h
   exact fr rF284 j
  ·refine Go.skip<|us<|gs<|gs<|g0 j j (q (oFA (r':=.mp 2 0 2) j fF276_2 j j)<|q (oLd (cs:=[.im 0 _]) j tF2 j j)<|q (oFA (r':=.mp 3 0 2) j fF276_2 j j)<|q (oLd (cs:=[.im 0 _]) j tF2 j j)<|q (oBi j j j j)<|nl)<|us<|gc h j iNe (fun hc3 h=>?_) fun hc3 h=>?_
   ·refine gs<|g0 j j (q (oAsI j j)<|nl)<|us<|Go.ret (Unw.ret ?_)
    cases h
    exact fr rF284 j
   ·refine Go.skip<|us<|gs<|gs<|g0 j j (q (oFA (r':=.mp 2 0 3) j fF276_3 j j)<|q (oLd (cs:=[.im 0 _]) j tF2 j j)<|q (oFA (r':=.mp 3 0 3) j fF276_3 j j)<|q (oLd (cs:=[.im 0 _]) j tF2 j j)<|q (oBi j j j j)<|nl)<|us<|gc h j iNe (fun hc4 h=>?_) fun hc4 h=>?_
    ·refine gs<|g0 j j (q (oAsI j j)<|nl)<|us<|Go.ret (Unw.ret ?_)
     cases h
     exact fr rF284 j
    ·refine Go.skip<|us<|gs<|g0 j j (q (oAsI j j)<|nl)<|us<|Go.ret (Unw.ret ?_)
     cases h
     exact fr rF284 j
theorem L_laws_eqBoxS {a_0:(List S_Box)} {b_1:(List S_Box)} {r:Bool} (h:laws_eqBoxS a_0 b_1=some r):FX 193 [.im 2 false [W 4 e_S_Box a_0],.im 2 false [W 4 e_S_Box b_1]] (B0 [(false,[.im 0 (V r)])]):=by
 unfold laws_eqBoxS at h
 refine gn 27 Try.func193 rfl ?_
 refine gs<|g0 j j (q (oAsI j j)<|nl)<|us<|gs<|gs<|g0 j j (q (oMv j j)<|q (oLnI j j uF105 j)<|q (oMv j j)<|q (oLnI j j uF105 j)<|q (oBi j j j j)<|nl)<|us<|gc h j iNe (fun hc1 h=>?_) fun hc1 h=>?_
 ·refine gs<|g0 j j (q (oAsI j j)<|nl)<|us<|Go.ret (Unw.ret ?_)
  cases h
  exact fr rF193 j
 ·refine Go.skip<|us<|gs<|gs<|g0 j j (q (oAsI j j)<|nl)<|us<|Go.block<|?_
  obtain ⟨o,hl,h⟩:=bs h
  refine gl c193 j _ (fun (i_5_l4:Int)=>mk [(0,D 2 (W 4 e_S_Box a_0)),(1,D 2 (W 4 e_S_Box b_1)),(5,iv i_5_l4)] []) (fun (o:(Unit ⊕ Bool)) (p:Ex×St)=>match o with | (.inl _)=>p.1= .exit 0∧p.2.norm ([],[])=mk [] [] | (.inr r2)=>p.1= .ret∧fin Try.prog cfg 193 Try.f193 [.im 2 false [W 4 e_S_Box a_0],.im 2 false [W 4 e_S_Box b_1]] p.2=some (B0 [(false,[.im 0 (V r2)])])) hl (by kernel_rfl) ?_ ?_ ?_
  ·intro o p hp e
   rcases o with u | r2<;>exact nomatch (hp.1.symm.trans e)
  ·rintro i_5_l4 o h
   unfold laws_eqBoxS_l4 at h
   refine gs<|gs<|g0 j j (q (oMv j j)<|q (oMv j j)<|q (oLnI j j uF105 j)<|q (oBi j j j j)<|nl)<|us<|gc h j iDec (fun hc6 h=>?_) fun hc6 h=>?_
   ·refine Go.skip<|us<|gs<|Go.block<|gs<|?_
    obtain ⟨x19,hx19,h⟩:=bs h
    obtain ⟨x23,hx23,h⟩:=bs h
    obtain ⟨x25,hx25,h⟩:=bs h
    refine gd c193 j j j j (mk [(0,D 2 (W 4 e_S_Box a_0)),(1,D 2 (W 4 e_S_Box b_1)),(5,iv i_5_l4),(26,bv (!x25))] []) (t j j (oMv j j)<|t j j (oMv j j)<|t j j (oIAI j hx19 sF105 j j)<|t j j (oLd (cs:=[.im 2 _,.im 2 _,.im 2 _,.im 2 _]) j tF276 j j)<|t j j (oMv j j)<|t j j (oMv j j)<|t j j (oIAI j hx23 sF105 j j)<|t j j (oLd (cs:=[.im 2 _,.im 2 _,.im 2 _,.im 2 _]) j tF276 j j)<|sS (dN z193 j (oCa (xs:=[.v true [.im 2 _,.im 2 _,.im 2 _,.im 2 _],.v true [.im 2 _,.im 2 _,.im 2 _,.im 2 _]]) (vs:=[(false,[.im 0 _])]) (v:=.v false [.im 0 _]) (L_laws_eqBox hx25) (.inl j) j kF284_276_276 j (ppC j (ppC j pp0)) j j pb0 j j j)) trivial (t j j (oUn j j j)<|sD (by kernel_rfl)))<|us<|?_
    by_cases hc7:x25=true
    ·rw [if_pos hc7] at h
     refine gF j (nF (iR.2 hc7))<|Go.skip<|Unw.blk<|us<|g0 j j (q (oMv j j)<|q (oBi j j j j)<|q (oAsI j j)<|nl)<|Unw.nil<|?_
     cases h
     exact ⟨j,(by kernel_rfl)⟩
    ·rw [if_neg hc7] at h
     refine gT j (nT (byF iR hc7))<|gs<|g0 j j (q (oAsI j j)<|nl)<|us<|Go.ret (Unw.ret ?_)
     cases h
     exact ⟨j,(fo rF193 j)⟩
   ·refine Go.exit<|ux<|Unw.nil<|?_
    cases h
    exact ⟨j,(by kernel_rfl)⟩
  ·rintro ⟨e,st⟩ hp
   rcases o with u | r2
   ·dsimp only at h
    obtain ⟨he,hst⟩:=hp
    obtain rfl:e= .exit 0:=he
    refine Unw.blkx<|us<|gs<|g2 c193 j j hst (q (oAsI j j)<|nl)<|us<|Go.ret (Unw.ret ?_)
    cases h
    exact fr rF193 j
   ·dsimp only at h
    obtain ⟨he,hfin⟩:=hp
    obtain rfl:e= .ret:=he
    cases h
    exact Unw.ret (Fin_ret hfin)
theorem L_laws_eqLeaf {a_0:S_Leaf} {b_1:S_Leaf} {r:Bool} (h:laws_eqLeaf a_0 b_1=some r):FX 100 [.im 2 true (u_S_Leaf a_0),.im 2 true (u_S_Leaf b_1)] (B0 [(false,[.im 0 (V r)])]):=by
 unfold laws_eqLeaf at h
 refine gn 42 Try.func100 rfl ?_
 refine gs<|g0 j j (q (oBx j tF107 j (tkI (tkI (tkI (tkI (tkI (tkI (tkI (tkI (tkI tk0))))))))))<|q (oBx j tF107 j (tkI (tkI (tkI (tkI (tkI (tkI (tkI (tkI (tkI tk0))))))))))<|q (oAsI j j)<|nl)<|us<|gs<|gs<|g1 j j (mk [(2,M 2),(3,M 3)] [(2,Oa (G 2 (u_S_Leaf a_0))),(3,Oa (G 2 (u_S_Leaf b_1)))]) (q (oFA (r':=.mp 2 0 0) j fF107_0 j j)<|q (oLd (cs:=[.im 0 _]) j tF9 j j)<|q (oFA (r':=.mp 3 0 0) j fF107_0 j j)<|q (oLd (cs:=[.im 0 _]) j tF9 j j)<|q (oBi j j j j)<|nl)<|us<|gc h j (iNot iStr) (fun hc1 h=>?_) fun hc1 h=>?_
 ·refine gs<|g0 j j (q (oAsI j j)<|nl)<|us<|Go.ret (Unw.ret ?_)
  cases h
  exact fr rF100 j
 ·refine Go.skip<|us<|gs<|gs<|g0 j j (q (oFA (r':=.mp 2 0 1) j fF107_1 j j)<|q (oLd (cs:=[.im 0 _]) j tF9 j j)<|q (oFA (r':=.mp 3 0 1) j fF107_1 j j)<|q (oLd (cs:=[.im 0 _]) j tF9 j j)<|q (oBi j j j j)<|nl)<|us<|gc h j (iNot iStr) (fun hc2 h=>?_) fun hc2 h=>?_
  ·refine gs<|g0 j j (q (oAsI j j)<|nl)<|us<|Go.ret (Unw.ret ?_)
   cases h
   exact fr rF100 j
  ·refine Go.skip<|us<|gs<|gs<|g0 j j (q (oFA (r':=.mp 2 0 2) j fF107_2 j j)<|q (oLd (cs:=[.im 0 _]) j tF2 j j)<|q (oFA (r':=.mp 3 0 2) j fF107_2 j j)<|q (oLd (cs:=[.im 0 _]) j tF2 j j)<|q (oBi j j j j)<|nl)<|us<|gc h j iNe (fun hc3 h=>?_) fun hc3 h=>?_
   ·refine gs<|g0 j j (q (oAsI j j)<|nl)<|us<|Go.ret (Unw.ret ?_)
    cases h
    exact fr rF100 j
   ·refine Go.skip<|us<|gs<|gs<|?_
    obtain ⟨x24,hx24,h⟩:=bs h
    refine g0 j j (q (oFA (r':=.mp 2 0 3) j fF107_3 j j)<|q (oLd (cs:=[.im 0 _,.im 0 _,.im 0 _]) j tF104 j j)<|q (oFA (r':=.mp 3 0 3) j fF107_3 j j)<|q (oLd (cs:=[.im 0 _,.im 0 _,.im 0 _]) j tF104 j j)<|q (oCa (xs:=[.v true [.im 0 _,.im 0 _,.im 0 _],.v true [.im 0 _,.im 0 _,.im 0 _]]) (vs:=[(false,[.im 0 _])]) (v:=.v false [.im 0 _]) (L_laws_eqVeneer hx24) (.inl j) j kF139_104_104 j (ppC j (ppC j pp0)) j j pb0 j j j)<|q (oUn j j j)<|nl)<|us<|?_
    by_cases hc4:x24=true
    ·rw [if_pos hc4] at h
     refine gF j (nF (iR.2 hc4))<|Go.skip<|us<|gs<|gs<|g0 j j (q (oFA (r':=.mp 2 0 6) j fF107_4 j j)<|q (oLd (cs:=[.im 0 _]) j tF2 j j)<|q (oFA (r':=.mp 3 0 6) j fF107_4 j j)<|q (oLd (cs:=[.im 0 _]) j tF2 j j)<|q (oBi j j j j)<|nl)<|us<|gc h j iNe (fun hc5 h=>?_) fun hc5 h=>?_
     ·refine gs<|g0 j j (q (oAsI j j)<|nl)<|us<|Go.ret (Unw.ret ?_)
      cases h
      exact fr rF100 j
     ·refine Go.skip<|us<|gs<|gs<|g0 j j (q (oFA (r':=.mp 2 0 7) j fF107_5 j j)<|q (oLd (cs:=[.im 0 _]) j tF2 j j)<|q (oFA (r':=.mp 3 0 7) j fF107_5 j j)<|q (oLd (cs:=[.im 0 _]) j tF2 j j)<|q (oBi j j j j)<|nl)<|us<|gc h j iNe (fun hc6 h=>?_) fun hc6 h=>?_
      ·refine gs<|g0 j j (q (oAsI j j)<|nl)<|us<|Go.ret (Unw.ret ?_)
       cases h
       exact fr rF100 j
      ·refine Go.skip<|us<|gs<|gs<|?_
       obtain ⟨x40,hx40,h⟩:=bs h
       refine g0 j j (q (oFA (r':=.mp 2 0 8) j fF107_6 j j)<|q (oLd (cs:=[.im 2 _]) j tF105 j j)<|q (oFA (r':=.mp 3 0 8) j fF107_6 j j)<|q (oLd (cs:=[.im 2 _]) j tF105 j j)<|q (oCa (xs:=[.v false [.im 2 _],.v false [.im 2 _]]) (vs:=[(false,[.im 0 _])]) (v:=.v false [.im 0 _]) (L_laws_eqBoxS hx40) (.inl j) j kF193_105_105 j (ppC j (ppC j pp0)) j j pb0 j j j)<|q (oUn j j j)<|nl)<|us<|?_
       by_cases hc7:x40=true
       ·rw [if_pos hc7] at h
        refine gF j (nF (iR.2 hc7))<|Go.skip<|us<|gs<|g0 j j (q (oAsI j j)<|nl)<|us<|Go.ret (Unw.ret ?_)
        cases h
        exact fr rF100 j
       ·rw [if_neg hc7] at h
        refine gT j (nT (byF iR hc7))<|gs<|g0 j j (q (oAsI j j)<|nl)<|us<|Go.ret (Unw.ret ?_)
        cases h
        exact fr rF100 j
    ·rw [if_neg hc4] at h
     refine gT j (nT (byF iR hc4))<|gs<|g0 j j (q (oAsI j j)<|nl)<|us<|Go.ret (Unw.ret ?_)
     cases h
     exact fr rF100 j
theorem L_laws_eqLeafS {a_0:(List S_Leaf)} {b_1:(List S_Leaf)} {r:Bool} (h:laws_eqLeafS a_0 b_1=some r):FX 27 [.im 2 false [W 9 e_S_Leaf a_0],.im 2 false [W 9 e_S_Leaf b_1]] (B0 [(false,[.im 0 (V r)])]):=by
 unfold laws_eqLeafS at h
 refine gn 27 Try.func27 rfl ?_
 refine gs<|g0 j j (q (oAsI j j)<|nl)<|us<|gs<|gs<|g0 j j (q (oMv j j)<|q (oLnI j j uF44 j)<|q (oMv j j)<|q (oLnI j j uF44 j)<|q (oBi j j j j)<|nl)<|us<|gc h j iNe (fun hc1 h=>?_) fun hc1 h=>?_
 ·refine gs<|g0 j j (q (oAsI j j)<|nl)<|us<|Go.ret (Unw.ret ?_)
  cases h
  exact fr rF27 j
 ·refine Go.skip<|us<|gs<|gs<|g0 j j (q (oAsI j j)<|nl)<|us<|Go.block<|?_
  obtain ⟨o,hl,h⟩:=bs h
  refine gl c27 j _ (fun (i_5_l4:Int)=>mk [(0,D 2 (W 9 e_S_Leaf a_0)),(1,D 2 (W 9 e_S_Leaf b_1)),(5,iv i_5_l4)] []) (fun (o:(Unit ⊕ Bool)) (p:Ex×St)=>match o with | (.inl _)=>p.1= .exit 0∧p.2.norm ([],[])=mk [] [] | (.inr r2)=>p.1= .ret∧fin Try.prog cfg 27 Try.f27 [.im 2 false [W 9 e_S_Leaf a_0],.im 2 false [W 9 e_S_Leaf b_1]] p.2=some (B0 [(false,[.im 0 (V r2)])])) hl (by kernel_rfl) ?_ ?_ ?_
  ·intro o p hp e
   rcases o with u | r2<;>exact nomatch (hp.1.symm.trans e)
  ·rintro i_5_l4 o h
   unfold laws_eqLeafS_l4 at h
   refine gs<|gs<|g0 j j (q (oMv j j)<|q (oMv j j)<|q (oLnI j j uF44 j)<|q (oBi j j j j)<|nl)<|us<|gc h j iDec (fun hc6 h=>?_) fun hc6 h=>?_
   ·refine Go.skip<|us<|gs<|Go.block<|gs<|?_
    obtain ⟨x19,hx19,h⟩:=bs h
    obtain ⟨x23,hx23,h⟩:=bs h
    obtain ⟨x25,hx25,h⟩:=bs h
    refine gd c27 j j j j (mk [(0,D 2 (W 9 e_S_Leaf a_0)),(1,D 2 (W 9 e_S_Leaf b_1)),(5,iv i_5_l4),(26,bv (!x25))] []) (t j j (oMv j j)<|t j j (oMv j j)<|t j j (oIAI j hx19 sF44 j j)<|t j j (oLd (cs:=[.im 2 _,.im 2 _,.im 2 _,.im 2 _,.im 2 _,.im 2 _,.im 2 _,.im 2 _,.im 2 _]) j tF107 j j)<|t j j (oMv j j)<|t j j (oMv j j)<|t j j (oIAI j hx23 sF44 j j)<|t j j (oLd (cs:=[.im 2 _,.im 2 _,.im 2 _,.im 2 _,.im 2 _,.im 2 _,.im 2 _,.im 2 _,.im 2 _]) j tF107 j j)<|sS (dN z27 j (oCa (xs:=[.v true [.im 2 _,.im 2 _,.im 2 _,.im 2 _,.im 2 _,.im 2 _,.im 2 _,.im 2 _,.im 2 _],.v true [.im 2 _,.im 2 _,.im 2 _,.im 2 _,.im 2 _,.im 2 _,.im 2 _,.im 2 _,.im 2 _]]) (vs:=[(false,[.im 0 _])]) (v:=.v false [.im 0 _]) (L_laws_eqLeaf hx25) (.inl j) j kF100_107_107 j (ppC j (ppC j pp0)) j j pb0 j j j)) trivial (t j j (oUn j j j)<|sD (by kernel_rfl)))<|us<|?_
    by_cases hc7:x25=true
    ·rw [if_pos hc7] at h
     refine gF j (nF (iR.2 hc7))<|Go.skip<|Unw.blk<|us<|g0 j j (q (oMv j j)<|q (oBi j j j j)<|q (oAsI j j)<|nl)<|Unw.nil<|?_
     cases h
     exact ⟨j,(by kernel_rfl)⟩
    ·rw [if_neg hc7] at h
     refine gT j (nT (byF iR hc7))<|gs<|g0 j j (q (oAsI j j)<|nl)<|us<|Go.ret (Unw.ret ?_)
     cases h
     exact ⟨j,(fo rF27 j)⟩
   ·refine Go.exit<|ux<|Unw.nil<|?_
    cases h
    exact ⟨j,(by kernel_rfl)⟩
  ·rintro ⟨e,st⟩ hp
   rcases o with u | r2
   ·dsimp only at h
    obtain ⟨he,hst⟩:=hp
    obtain rfl:e= .exit 0:=he
    refine Unw.blkx<|us<|gs<|g2 c27 j j hst (q (oAsI j j)<|nl)<|us<|Go.ret (Unw.ret ?_)
    cases h
    exact fr rF27 j
   ·dsimp only at h
    obtain ⟨he,hfin⟩:=hp
    obtain rfl:e= .ret:=he
    cases h
    exact Unw.ret (Fin_ret hfin)
theorem L_laws_eqPlacement {a_0:S_Placement} {b_1:S_Placement} {r:Bool} (h:laws_eqPlacement a_0 b_1=some r):FX 318 [.im 2 true (u_S_Placement a_0),.im 2 true (u_S_Placement b_1)] (B0 [(false,[.im 0 (V r)])]):=by
 unfold laws_eqPlacement at h
 refine gn 30 Try.func318 rfl ?_
 refine gs<|g0 j j (q (oBx j tF326 j (tkI (tkI (tkI (tkI (tkI tk0))))))<|q (oBx j tF326 j (tkI (tkI (tkI (tkI (tkI tk0))))))<|q (oAsI j j)<|nl)<|us<|gs<|gs<|g1 j j (mk [(2,M 2),(3,M 3)] [(2,Oa (G 0 (u_S_Placement a_0))),(3,Oa (G 0 (u_S_Placement b_1)))]) (q (oFA (r':=.mp 2 0 0) j fF326_0 j j)<|q (oLd (cs:=[.im 0 _]) j tF2 j j)<|q (oFA (r':=.mp 3 0 0) j fF326_0 j j)<|q (oLd (cs:=[.im 0 _]) j tF2 j j)<|q (oBi j j j j)<|nl)<|us<|gc h j iNe (fun hc1 h=>?_) fun hc1 h=>?_
 ·refine gs<|g0 j j (q (oAsI j j)<|nl)<|us<|Go.ret (Unw.ret ?_)
  cases h
  exact fr rF318 j
 ·refine Go.skip<|us<|gs<|gs<|g0 j j (q (oFA (r':=.mp 2 0 1) j fF326_1 j j)<|q (oLd (cs:=[.im 0 _]) j tF2 j j)<|q (oFA (r':=.mp 3 0 1) j fF326_1 j j)<|q (oLd (cs:=[.im 0 _]) j tF2 j j)<|q (oBi j j j j)<|nl)<|us<|gc h j iNe (fun hc2 h=>?_) fun hc2 h=>?_
  ·refine gs<|g0 j j (q (oAsI j j)<|nl)<|us<|Go.ret (Unw.ret ?_)
   cases h
   exact fr rF318 j
  ·refine Go.skip<|us<|gs<|gs<|g0 j j (q (oFA (r':=.mp 2 0 2) j fF326_2 j j)<|q (oLd (cs:=[.im 0 _]) j tF2 j j)<|q (oFA (r':=.mp 3 0 2) j fF326_2 j j)<|q (oLd (cs:=[.im 0 _]) j tF2 j j)<|q (oBi j j j j)<|nl)<|us<|gc h j iNe (fun hc3 h=>?_) fun hc3 h=>?_
   ·refine gs<|g0 j j (q (oAsI j j)<|nl)<|us<|Go.ret (Unw.ret ?_)
    cases h
    exact fr rF318 j
   ·refine Go.skip<|us<|gs<|gs<|g0 j j (q (oFA (r':=.mp 2 0 3) j fF326_3 j j)<|q (oLd (cs:=[.im 0 _]) j tF2 j j)<|q (oFA (r':=.mp 3 0 3) j fF326_3 j j)<|q (oLd (cs:=[.im 0 _]) j tF2 j j)<|q (oBi j j j j)<|nl)<|us<|gc h j iNe (fun hc4 h=>?_) fun hc4 h=>?_
    ·refine gs<|g0 j j (q (oAsI j j)<|nl)<|us<|Go.ret (Unw.ret ?_)
     cases h
     exact fr rF318 j
    ·refine Go.skip<|us<|gs<|gs<|g0 j j (q (oFA (r':=.mp 2 0 4) j fF326_4 j j)<|q (oLd (cs:=[.im 0 _]) j tF2 j j)<|q (oFA (r':=.mp 3 0 4) j fF326_4 j j)<|q (oLd (cs:=[.im 0 _]) j tF2 j j)<|q (oBi j j j j)<|nl)<|us<|gc h j iNe (fun hc5 h=>?_) fun hc5 h=>?_
     ·refine gs<|g0 j j (q (oAsI j j)<|nl)<|us<|Go.ret (Unw.ret ?_)
      cases h
      exact fr rF318 j
     ·refine Go.skip<|us<|gs<|g0 j j (q (oAsI j j)<|nl)<|us<|Go.ret (Unw.ret ?_)
      cases h
      exact fr rF318 j
theorem L_laws_eqPlacementS {a_0:(List S_Placement)} {b_1:(List S_Placement)} {r:Bool} (h:laws_eqPlacementS a_0 b_1=some r):FX 263 [.im 2 false [W 5 e_S_Placement a_0],.im 2 false [W 5 e_S_Placement b_1]] (B0 [(false,[.im 0 (V r)])]):=by
 unfold laws_eqPlacementS at h
 refine gn 27 Try.func263 rfl ?_
 refine gs<|g0 j j (q (oAsI j j)<|nl)<|us<|gs<|gs<|g0 j j (q (oMv j j)<|q (oLnI j j uF126 j)<|q (oMv j j)<|q (oLnI j j uF126 j)<|q (oBi j j j j)<|nl)<|us<|gc h j iNe (fun hc1 h=>?_) fun hc1 h=>?_
 ·refine gs<|g0 j j (q (oAsI j j)<|nl)<|us<|Go.ret (Unw.ret ?_)
  cases h
  exact fr rF263 j
 ·refine Go.skip<|us<|gs<|gs<|g0 j j (q (oAsI j j)<|nl)<|us<|Go.block<|?_
  obtain ⟨o,hl,h⟩:=bs h
  refine gl c263 j _ (fun (i_5_l4:Int)=>mk [(0,D 2 (W 5 e_S_Placement a_0)),(1,D 2 (W 5 e_S_Placement b_1)),(5,iv i_5_l4)] []) (fun (o:(Unit ⊕ Bool)) (p:Ex×St)=>match o with | (.inl _)=>p.1= .exit 0∧p.2.norm ([],[])=mk [] [] | (.inr r2)=>p.1= .ret∧fin Try.prog cfg 263 Try.f263 [.im 2 false [W 5 e_S_Placement a_0],.im 2 false [W 5 e_S_Placement b_1]] p.2=some (B0 [(false,[.im 0 (V r2)])])) hl (by kernel_rfl) ?_ ?_ ?_
  ·intro o p hp e
   rcases o with u | r2<;>exact nomatch (hp.1.symm.trans e)
  ·rintro i_5_l4 o h
   unfold laws_eqPlacementS_l4 at h
   refine gs<|gs<|g0 j j (q (oMv j j)<|q (oMv j j)<|q (oLnI j j uF126 j)<|q (oBi j j j j)<|nl)<|us<|gc h j iDec (fun hc6 h=>?_) fun hc6 h=>?_
   ·refine Go.skip<|us<|gs<|Go.block<|gs<|?_
    obtain ⟨x19,hx19,h⟩:=bs h
    obtain ⟨x23,hx23,h⟩:=bs h
    obtain ⟨x25,hx25,h⟩:=bs h
    refine gd c263 j j j j (mk [(0,D 2 (W 5 e_S_Placement a_0)),(1,D 2 (W 5 e_S_Placement b_1)),(5,iv i_5_l4),(26,bv (!x25))] []) (t j j (oMv j j)<|t j j (oMv j j)<|t j j (oIAI j hx19 sF126 j j)<|t j j (oLd (cs:=[.im 2 _,.im 2 _,.im 2 _,.im 2 _,.im 2 _]) j tF326 j j)<|t j j (oMv j j)<|t j j (oMv j j)<|t j j (oIAI j hx23 sF126 j j)<|t j j (oLd (cs:=[.im 2 _,.im 2 _,.im 2 _,.im 2 _,.im 2 _]) j tF326 j j)<|sS (dN z263 j (oCa (xs:=[.v true [.im 2 _,.im 2 _,.im 2 _,.im 2 _,.im 2 _],.v true [.im 2 _,.im 2 _,.im 2 _,.im 2 _,.im 2 _]]) (vs:=[(false,[.im 0 _])]) (v:=.v false [.im 0 _]) (L_laws_eqPlacement hx25) (.inl j) j kF318_326_326 j (ppC j (ppC j pp0)) j j pb0 j j j)) trivial (t j j (oUn j j j)<|sD (by kernel_rfl)))<|us<|?_
    by_cases hc7:x25=true
    ·rw [if_pos hc7] at h
     refine gF j (nF (iR.2 hc7))<|Go.skip<|Unw.blk<|us<|g0 j j (q (oMv j j)<|q (oBi j j j j)<|q (oAsI j j)<|nl)<|Unw.nil<|?_
     cases h
     exact ⟨j,(by kernel_rfl)⟩
    ·rw [if_neg hc7] at h
     refine gT j (nT (byF iR hc7))<|gs<|g0 j j (q (oAsI j j)<|nl)<|us<|Go.ret (Unw.ret ?_)
     cases h
     exact ⟨j,(fo rF263 j)⟩
   ·refine Go.exit<|ux<|Unw.nil<|?_
    cases h
    exact ⟨j,(by kernel_rfl)⟩
  ·rintro ⟨e,st⟩ hp
   rcases o with u | r2
   ·dsimp only at h
    obtain ⟨he,hst⟩:=hp
    obtain rfl:e= .exit 0:=he
    refine Unw.blkx<|us<|gs<|g2 c263 j j hst (q (oAsI j j)<|nl)<|us<|Go.ret (Unw.ret ?_)
    cases h
    exact fr rF263 j
   ·dsimp only at h
    obtain ⟨he,hfin⟩:=hp
    obtain rfl:e= .ret:=he
    cases h
    exact Unw.ret (Fin_ret hfin)
theorem L_laws_eqRules {a_0:S_Rules} {b_1:S_Rules} {r:Bool} (h:laws_eqRules a_0 b_1=some r):FX 264 [.im 2 true (u_S_Rules a_0),.im 2 true (u_S_Rules b_1)] (B0 [(false,[.im 0 (V r)])]):=by
 unfold laws_eqRules at h
 refine gn 25 Try.func264 rfl ?_
 refine gs<|g0 j j (q (oBx j tF127 j (tkI (tkI (tkI (tkI tk0)))))<|q (oBx j tF127 j (tkI (tkI (tkI (tkI tk0)))))<|q (oAsI j j)<|nl)<|us<|gs<|gs<|g0 j j (q (oFA (r':=.mp 2 0 0) j fF127_0 j j)<|q (oLd (cs:=[.im 0 _]) j tF2 j j)<|q (oFA (r':=.mp 3 0 0) j fF127_0 j j)<|q (oLd (cs:=[.im 0 _]) j tF2 j j)<|q (oBi j j j j)<|nl)<|us<|gc h j iNe (fun hc1 h=>?_) fun hc1 h=>?_
 ·refine gs<|g0 j j (q (oAsI j j)<|nl)<|us<|Go.ret (Unw.ret ?_)
  cases h
  exact fr rF264 j
 ·refine Go.skip<|us<|gs<|gs<|g0 j j (q (oFA (r':=.mp 2 0 1) j fF127_1 j j)<|q (oLd (cs:=[.im 0 _]) j tF2 j j)<|q (oFA (r':=.mp 3 0 1) j fF127_1 j j)<|q (oLd (cs:=[.im 0 _]) j tF2 j j)<|q (oBi j j j j)<|nl)<|us<|gc h j iNe (fun hc2 h=>?_) fun hc2 h=>?_
  ·refine gs<|g0 j j (q (oAsI j j)<|nl)<|us<|Go.ret (Unw.ret ?_)
   cases h
   exact fr rF264 j
  ·refine Go.skip<|us<|gs<|gs<|g0 j j (q (oFA (r':=.mp 2 0 2) j fF127_2 j j)<|q (oLd (cs:=[.im 0 _]) j tF2 j j)<|q (oFA (r':=.mp 3 0 2) j fF127_2 j j)<|q (oLd (cs:=[.im 0 _]) j tF2 j j)<|q (oBi j j j j)<|nl)<|us<|gc h j iNe (fun hc3 h=>?_) fun hc3 h=>?_
   ·refine gs<|g0 j j (q (oAsI j j)<|nl)<|us<|Go.ret (Unw.ret ?_)
    cases h
    exact fr rF264 j
   ·refine Go.skip<|us<|gs<|gs<|g0 j j (q (oFA (r':=.mp 2 0 3) j fF127_3 j j)<|q (oLd (cs:=[.im 0 _]) j tF2 j j)<|q (oFA (r':=.mp 3 0 3) j fF127_3 j j)<|q (oLd (cs:=[.im 0 _]) j tF2 j j)<|q (oBi j j j j)<|nl)<|us<|gc h j iNe (fun hc4 h=>?_) fun hc4 h=>?_
    ·refine gs<|g0 j j (q (oAsI j j)<|nl)<|us<|Go.ret (Unw.ret ?_)
     cases h
     exact fr rF264 j
    ·refine Go.skip<|us<|gs<|g0 j j (q (oAsI j j)<|nl)<|us<|Go.ret (Unw.ret ?_)
     cases h
     exact fr rF264 j
theorem L_laws_eqJob {a_0:S_Job} {b_1:S_Job} {r:Bool} (h:laws_eqJob a_0 b_1=some r):FX 165 [.im 2 true (u_S_Job a_0),.im 2 true (u_S_Job b_1)] (B0 [(false,[.im 0 (V r)])]):=by
 unfold laws_eqJob at h
 refine gn 61 Try.func165 rfl ?_
 refine gs<|g0 j j (q (oBx j tF129 j (tkI (tkI (tkI (tkI (tkI (tkI (tkI (tkI (tkI (tkI (tkI (tkI (tkI (tkI (tkI (tkI (tkI tk0))))))))))))))))))<|q (oBx j tF129 j (tkI (tkI (tkI (tkI (tkI (tkI (tkI (tkI (tkI (tkI (tkI (tkI (tkI (tkI (tkI (tkI (tkI tk0))))))))))))))))))<|q (oAsI j j)<|nl)<|us<|gs<|gs<|?_
 obtain ⟨x9,hx9,h⟩:=bs h
 refine g1 j j (mk [(2,M 2),(3,M 3)] [(2,Oa (G 2 (u_S_Job a_0))),(3,Oa (G 2 (u_S_Job b_1)))]) (q (oFA (r':=.mp 2 0 0) j fF129_0 j j)<|q (oLd (cs:=[.im 0 _,.im 0 _,.im 2 _,.im 2 _,.im 2 _]) j tF125 j j)<|q (oFA (r':=.mp 3 0 0) j fF129_0 j j)<|q (oLd (cs:=[.im 0 _,.im 0 _,.im 2 _,.im 2 _,.im 2 _]) j tF125 j j)<|q (oCa (xs:=[.v true [.im 0 _,.im 0 _,.im 2 _,.im 2 _,.im 2 _],.v true [.im 0 _,.im 0 _,.im 2 _,.im 2 _,.im 2 _]]) (vs:=[(false,[.im 0 _])]) (v:=.v false [.im 0 _]) (L_laws_eqPicture hx9) (.inl j) j kF262_125_125 j (ppC j (ppC j pp0)) j j pb0 j j j)<|q (oUn j j j)<|nl)<|us<|?_
 by_cases hc1:x9=true
 ·rw [if_pos hc1] at h
  refine gF j (nF (iR.2 hc1))<|Go.skip<|us<|gs<|gs<|?_
  obtain ⟨x15,hx15,h⟩:=bs h
  refine g0 j j (q (oFA (r':=.mp 2 0 5) j fF129_1 j j)<|q (oLd (cs:=[.im 2 _]) j tF44 j j)<|q (oFA (r':=.mp 3 0 5) j fF129_1 j j)<|q (oLd (cs:=[.im 2 _]) j tF44 j j)<|q (oCa (xs:=[.v false [.im 2 _],.v false [.im 2 _]]) (vs:=[(false,[.im 0 _])]) (v:=.v false [.im 0 _]) (L_laws_eqLeafS hx15) (.inl j) j kF27_44_44 j (ppC j (ppC j pp0)) j j pb0 j j j)<|q (oUn j j j)<|nl)<|us<|?_
  by_cases hc2:x15=true
  ·rw [if_pos hc2] at h
   refine gF j (nF (iR.2 hc2))<|Go.skip<|us<|gs<|gs<|?_
   obtain ⟨x21,hx21,h⟩:=bs h
   refine g0 j j (q (oFA (r':=.mp 2 0 6) j fF129_2 j j)<|q (oLd (cs:=[.im 2 _]) j tF126 j j)<|q (oFA (r':=.mp 3 0 6) j fF129_2 j j)<|q (oLd (cs:=[.im 2 _]) j tF126 j j)<|q (oCa (xs:=[.v false [.im 2 _],.v false [.im 2 _]]) (vs:=[(false,[.im 0 _])]) (v:=.v false [.im 0 _]) (L_laws_eqPlacementS hx21) (.inl j) j kF263_126_126 j (ppC j (ppC j pp0)) j j pb0 j j j)<|q (oUn j j j)<|nl)<|us<|?_
   by_cases hc3:x21=true
   ·rw [if_pos hc3] at h
    refine gF j (nF (iR.2 hc3))<|Go.skip<|us<|gs<|gs<|?_
    obtain ⟨x27,hx27,h⟩:=bs h
    refine g0 j j (q (oFA (r':=.mp 2 0 7) j fF129_3 j j)<|q (oLd (cs:=[.im 0 _,.im 0 _,.im 0 _,.im 0 _]) j tF127 j j)<|q (oFA (r':=.mp 3 0 7) j fF129_3 j j)<|q (oLd (cs:=[.im 0 _,.im 0 _,.im 0 _,.im 0 _]) j tF127 j j)<|q (oCa (xs:=[.v true [.im 0 _,.im 0 _,.im 0 _,.im 0 _],.v true [.im 0 _,.im 0 _,.im 0 _,.im 0 _]]) (vs:=[(false,[.im 0 _])]) (v:=.v false [.im 0 _]) (L_laws_eqRules hx27) (.inl j) j kF264_127_127 j (ppC j (ppC j pp0)) j j pb0 j j j)<|q (oUn j j j)<|nl)<|us<|?_
    by_cases hc4:x27=true
    ·rw [if_pos hc4] at h
     refine gF j (nF (iR.2 hc4))<|Go.skip<|us<|gs<|gs<|g0 j j (q (oFA (r':=.mp 2 0 11) j fF129_4 j j)<|q (oLd (cs:=[.im 0 _]) j tF2 j j)<|q (oFA (r':=.mp 3 0 11) j fF129_4 j j)<|q (oLd (cs:=[.im 0 _]) j tF2 j j)<|q (oBi j j j j)<|nl)<|us<|gc h j iNe (fun hc5 h=>?_) fun hc5 h=>?_
     ·refine gs<|g0 j j (q (oAsI j j)<|nl)<|us<|Go.ret (Unw.ret ?_)
      cases h
      exact fr rF165 j
     ·refine Go.skip<|us<|gs<|gs<|g0 j j (q (oFA (r':=.mp 2 0 12) j fF129_5 j j)<|q (oLd (cs:=[.im 0 _]) j tF2 j j)<|q (oFA (r':=.mp 3 0 12) j fF129_5 j j)<|q (oLd (cs:=[.im 0 _]) j tF2 j j)<|q (oBi j j j j)<|nl)<|us<|gc h j iNe (fun hc6 h=>?_) fun hc6 h=>?_
      ·refine gs<|g0 j j (q (oAsI j j)<|nl)<|us<|Go.ret (Unw.ret ?_)
       cases h
       exact fr rF165 j
      ·refine Go.skip<|us<|gs<|gs<|g0 j j (q (oFA (r':=.mp 2 0 13) j fF129_6 j j)<|q (oLd (cs:=[.im 0 _]) j tF2 j j)<|q (oFA (r':=.mp 3 0 13) j fF129_6 j j)<|q (oLd (cs:=[.im 0 _]) j tF2 j j)<|q (oBi j j j j)<|nl)<|us<|gc h j iNe (fun hc7 h=>?_) fun hc7 h=>?_
       ·refine gs<|g0 j j (q (oAsI j j)<|nl)<|us<|Go.ret (Unw.ret ?_)
        cases h
        exact fr rF165 j
       ·refine Go.skip<|us<|gs<|gs<|g0 j j (q (oFA (r':=.mp 2 0 14) j fF129_7 j j)<|q (oLd (cs:=[.im 0 _]) j tF2 j j)<|q (oFA (r':=.mp 3 0 14) j fF129_7 j j)<|q (oLd (cs:=[.im 0 _]) j tF2 j j)<|q (oBi j j j j)<|nl)<|us<|gc h j iNe (fun hc8 h=>?_) fun hc8 h=>?_
        ·refine gs<|g0 j j (q (oAsI j j)<|nl)<|us<|Go.ret (Unw.ret ?_)
         cases h
         exact fr rF165 j
        ·refine Go.skip<|us<|gs<|gs<|?_
         obtain ⟨x53,hx53,h⟩:=bs h
         refine g0 j j (q (oFA (r':=.mp 2 0 15) j fF129_8 j j)<|q (oLd (cs:=[.im 2 _]) j tF28 j j)<|q (oFA (r':=.mp 3 0 15) j fF129_8 j j)<|q (oLd (cs:=[.im 2 _]) j tF28 j j)<|q (oCa (xs:=[.v false [.im 2 _],.v false [.im 2 _]]) (vs:=[(false,[.im 0 _])]) (v:=.v false [.im 0 _]) (L_laws_eqInt64S hx53) (.inl j) j kF41_28_28 j (ppC j (ppC j pp0)) j j pb0 j j j)<|q (oUn j j j)<|nl)<|us<|?_
         by_cases hc9:x53=true
         ·rw [if_pos hc9] at h
          refine gF j (nF (iR.2 hc9))<|Go.skip<|us<|gs<|gs<|?_
          obtain ⟨x59,hx59,h⟩:=bs h
          refine g0 j j (q (oFA (r':=.mp 2 0 16) j fF129_9 j j)<|q (oLd (cs:=[.im 2 _]) j tF28 j j)<|q (oFA (r':=.mp 3 0 16) j fF129_9 j j)<|q (oLd (cs:=[.im 2 _]) j tF28 j j)<|q (oCa (xs:=[.v false [.im 2 _],.v false [.im 2 _]]) (vs:=[(false,[.im 0 _])]) (v:=.v false [.im 0 _]) (L_laws_eqInt64S hx59) (.inl j) j kF41_28_28 j (ppC j (ppC j pp0)) j j pb0 j j j)<|q (oUn j j j)<|nl)<|us<|?_
          by_cases hc10:x59=true
          ·rw [if_pos hc10] at h
           refine gF j (nF (iR.2 hc10))<|Go.skip<|us<|gs<|g0 j j (q (oAsI j j)<|nl)<|us<|Go.ret (Unw.ret ?_)
           cases h
           exact fr rF165 j
          ·rw [if_neg hc10] at h
           refine gT j (nT (byF iR hc10))<|gs<|g0 j j (q (oAsI j j)<|nl)<|us<|Go.ret (Unw.ret ?_)
           cases h
           exact fr rF165 j
         ·rw [if_neg hc9] at h
          refine gT j (nT (byF iR hc9))<|gs<|g0 j j (q (oAsI j j)<|nl)<|us<|Go.ret (Unw.ret ?_)
          cases h
          exact fr rF165 j
    ·rw [if_neg hc4] at h
     refine gT j (nT (byF iR hc4))<|gs<|g0 j j (q (oAsI j j)<|nl)<|us<|Go.ret (Unw.ret ?_)
     cases h
     exact fr rF165 j
   ·rw [if_neg hc3] at h
    refine gT j (nT (byF iR hc3))<|gs<|g0 j j (q (oAsI j j)<|nl)<|us<|Go.ret (Unw.ret ?_)
    cases h
    exact fr rF165 j
  ·rw [if_neg hc2] at h
   refine gT j (nT (byF iR hc2))<|gs<|g0 j j (q (oAsI j j)<|nl)<|us<|Go.ret (Unw.ret ?_)
   cases h
   exact fr rF165 j
 ·rw [if_neg hc1] at h
  refine gT j (nT (byF iR hc1))<|gs<|g0 j j (q (oAsI j j)<|nl)<|us<|Go.ret (Unw.ret ?_)
  cases h
  exact fr rF165 j
theorem L_laws_eqBond {a_0:S_Bond} {b_1:S_Bond} {r:Bool} (h:laws_eqBond a_0 b_1=some r):FX 265 [.im 2 true (u_S_Bond a_0),.im 2 true (u_S_Bond b_1)] (B0 [(false,[.im 0 (V r)])]):=by
 unfold laws_eqBond at h
 refine gn 25 Try.func265 rfl ?_
 refine gs<|g0 j j (q (oBx j tF241 j (tkI (tkI (tkI (tkI tk0)))))<|q (oBx j tF241 j (tkI (tkI (tkI (tkI tk0)))))<|q (oAsI j j)<|nl)<|us<|gs<|gs<|g0 j j (q (oFA (r':=.mp 2 0 0) j fF241_0 j j)<|q (oLd (cs:=[.im 0 _]) j tF9 j j)<|q (oFA (r':=.mp 3 0 0) j fF241_0 j j)<|q (oLd (cs:=[.im 0 _]) j tF9 j j)<|q (oBi j j j j)<|nl)<|us<|gc h j (iNot iStr) (fun hc1 h=>?_) fun hc1 h=>?_
 ·refine gs<|g0 j j (q (oAsI j j)<|nl)<|us<|Go.ret (Unw.ret ?_)
  cases h
  exact fr rF265 j
 ·refine Go.skip<|us<|gs<|gs<|g0 j j (q (oFA (r':=.mp 2 0 1) j fF241_1 j j)<|q (oLd (cs:=[.im 0 _]) j tF2 j j)<|q (oFA (r':=.mp 3 0 1) j fF241_1 j j)<|q (oLd (cs:=[.im 0 _]) j tF2 j j)<|q (oBi j j j j)<|nl)<|us<|gc h j iNe (fun hc2 h=>?_) fun hc2 h=>?_
  ·refine gs<|g0 j j (q (oAsI j j)<|nl)<|us<|Go.ret (Unw.ret ?_)
   cases h
   exact fr rF265 j
  ·refine Go.skip<|us<|gs<|gs<|g0 j j (q (oFA (r':=.mp 2 0 2) j fF241_2 j j)<|q (oLd (cs:=[.im 0 _]) j tF2 j j)<|q (oFA (r':=.mp 3 0 2) j fF241_2 j j)<|q (oLd (cs:=[.im 0 _]) j tF2 j j)<|q (oBi j j j j)<|nl)<|us<|gc h j iNe (fun hc3 h=>?_) fun hc3 h=>?_
   ·refine gs<|g0 j j (q (oAsI j j)<|nl)<|us<|Go.ret (Unw.ret ?_)
    cases h
    exact fr rF265 j
   ·refine Go.skip<|us<|gs<|gs<|g0 j j (q (oFA (r':=.mp 2 0 3) j fF241_3 j j)<|q (oLd (cs:=[.im 0 _]) j tF2 j j)<|q (oFA (r':=.mp 3 0 3) j fF241_3 j j)<|q (oLd (cs:=[.im 0 _]) j tF2 j j)<|q (oBi j j j j)<|nl)<|us<|gc h j iNe (fun hc4 h=>?_) fun hc4 h=>?_
    ·refine gs<|g0 j j (q (oAsI j j)<|nl)<|us<|Go.ret (Unw.ret ?_)
     cases h
     exact fr rF265 j
    ·refine Go.skip<|us<|gs<|g0 j j (q (oAsI j j)<|nl)<|us<|Go.ret (Unw.ret ?_)
     cases h
     exact fr rF265 j
theorem L_laws_eqBondS {a_0:(List S_Bond)} {b_1:(List S_Bond)} {r:Bool} (h:laws_eqBondS a_0 b_1=some r):FX 166 [.im 2 false [W 4 e_S_Bond a_0],.im 2 false [W 4 e_S_Bond b_1]] (B0 [(false,[.im 0 (V r)])]):=by
 unfold laws_eqBondS at h
 refine gn 27 Try.func166 rfl ?_
 refine gs<|g0 j j (q (oAsI j j)<|nl)<|us<|gs<|gs<|g0 j j (q (oMv j j)<|q (oLnI j j uF130 j)<|q (oMv j j)<|q (oLnI j j uF130 j)<|q (oBi j j j j)<|nl)<|us<|gc h j iNe (fun hc1 h=>?_) fun hc1 h=>?_
 ·refine gs<|g0 j j (q (oAsI j j)<|nl)<|us<|Go.ret (Unw.ret ?_)
  cases h
  exact fr rF166 j
 ·refine Go.skip<|us<|gs<|gs<|g0 j j (q (oAsI j j)<|nl)<|us<|Go.block<|?_
  obtain ⟨o,hl,h⟩:=bs h
  refine gl c166 j _ (fun (i_5_l4:Int)=>mk [(0,D 2 (W 4 e_S_Bond a_0)),(1,D 2 (W 4 e_S_Bond b_1)),(5,iv i_5_l4)] []) (fun (o:(Unit ⊕ Bool)) (p:Ex×St)=>match o with | (.inl _)=>p.1= .exit 0∧p.2.norm ([],[])=mk [] [] | (.inr r2)=>p.1= .ret∧fin Try.prog cfg 166 Try.f166 [.im 2 false [W 4 e_S_Bond a_0],.im 2 false [W 4 e_S_Bond b_1]] p.2=some (B0 [(false,[.im 0 (V r2)])])) hl (by kernel_rfl) ?_ ?_ ?_
  ·intro o p hp e
   rcases o with u | r2<;>exact nomatch (hp.1.symm.trans e)
  ·rintro i_5_l4 o h
   unfold laws_eqBondS_l4 at h
   refine gs<|gs<|g0 j j (q (oMv j j)<|q (oMv j j)<|q (oLnI j j uF130 j)<|q (oBi j j j j)<|nl)<|us<|gc h j iDec (fun hc6 h=>?_) fun hc6 h=>?_
   ·refine Go.skip<|us<|gs<|Go.block<|gs<|?_
    obtain ⟨x19,hx19,h⟩:=bs h
    obtain ⟨x23,hx23,h⟩:=bs h
    obtain ⟨x25,hx25,h⟩:=bs h
    refine gd c166 j j j j (mk [(0,D 2 (W 4 e_S_Bond a_0)),(1,D 2 (W 4 e_S_Bond b_1)),(5,iv i_5_l4),(26,bv (!x25))] []) (t j j (oMv j j)<|t j j (oMv j j)<|t j j (oIAI j hx19 sF130 j j)<|t j j (oLd (cs:=[.im 2 _,.im 2 _,.im 2 _,.im 2 _]) j tF241 j j)<|t j j (oMv j j)<|t j j (oMv j j)<|t j j (oIAI j hx23 sF130 j j)<|t j j (oLd (cs:=[.im 2 _,.im 2 _,.im 2 _,.im 2 _]) j tF241 j j)<|sS (dN z166 j (oCa (xs:=[.v true [.im 2 _,.im 2 _,.im 2 _,.im 2 _],.v true [.im 2 _,.im 2 _,.im 2 _,.im 2 _]]) (vs:=[(false,[.im 0 _])]) (v:=.v false [.im 0 _]) (L_laws_eqBond hx25) (.inl j) j kF265_241_241 j (ppC j (ppC j pp0)) j j pb0 j j j)) trivial (t j j (oUn j j j)<|sD (by kernel_rfl)))<|us<|?_
    by_cases hc7:x25=true
    ·rw [if_pos hc7] at h
     refine gF j (nF (iR.2 hc7))<|Go.skip<|Unw.blk<|us<|g0 j j (q (oMv j j)<|q (oBi j j j j)<|q (oAsI j j)<|nl)<|Unw.nil<|?_
     cases h
     exact ⟨j,(by kernel_rfl)⟩
    ·rw [if_neg hc7] at h
     refine gT j (nT (byF iR hc7))<|gs<|g0 j j (q (oAsI j j)<|nl)<|us<|Go.ret (Unw.ret ?_)
     cases h
     exact ⟨j,(fo rF166 j)⟩
   ·refine Go.exit<|ux<|Unw.nil<|?_
    cases h
    exact ⟨j,(by kernel_rfl)⟩
  ·rintro ⟨e,st⟩ hp
   rcases o with u | r2
   ·dsimp only at h
    obtain ⟨he,hst⟩:=hp
    obtain rfl:e= .exit 0:=he
    refine Unw.blkx<|us<|gs<|g2 c166 j j hst (q (oAsI j j)<|nl)<|us<|Go.ret (Unw.ret ?_)
    cases h
    exact fr rF166 j
   ·dsimp only at h
    obtain ⟨he,hfin⟩:=hp
    obtain rfl:e= .ret:=he
    cases h
    exact Unw.ret (Fin_ret hfin)
theorem L_laws_eqCoat {a_0:S_Coat} {b_1:S_Coat} {r:Bool} (h:laws_eqCoat a_0 b_1=some r):FX 266 [.im 2 true (u_S_Coat a_0),.im 2 true (u_S_Coat b_1)] (B0 [(false,[.im 0 (V r)])]):=by
 unfold laws_eqCoat at h
 refine gn 25 Try.func266 rfl ?_
 refine gs<|g0 j j (q (oBx j tF243 j (tkI (tkI (tkI (tkI tk0)))))<|q (oBx j tF243 j (tkI (tkI (tkI (tkI tk0)))))<|q (oAsI j j)<|nl)<|us<|gs<|gs<|g0 j j (q (oFA (r':=.mp 2 0 0) j fF243_0 j j)<|q (oLd (cs:=[.im 0 _]) j tF9 j j)<|q (oFA (r':=.mp 3 0 0) j fF243_0 j j)<|q (oLd (cs:=[.im 0 _]) j tF9 j j)<|q (oBi j j j j)<|nl)<|us<|gc h j (iNot iStr) (fun hc1 h=>?_) fun hc1 h=>?_
 ·refine gs<|g0 j j (q (oAsI j j)<|nl)<|us<|Go.ret (Unw.ret ?_)
  cases h
  exact fr rF266 j
 ·refine Go.skip<|us<|gs<|gs<|g0 j j (q (oFA (r':=.mp 2 0 1) j fF243_1 j j)<|q (oLd (cs:=[.im 0 _]) j tF2 j j)<|q (oFA (r':=.mp 3 0 1) j fF243_1 j j)<|q (oLd (cs:=[.im 0 _]) j tF2 j j)<|q (oBi j j j j)<|nl)<|us<|gc h j iNe (fun hc2 h=>?_) fun hc2 h=>?_
  ·refine gs<|g0 j j (q (oAsI j j)<|nl)<|us<|Go.ret (Unw.ret ?_)
   cases h
   exact fr rF266 j
  ·refine Go.skip<|us<|gs<|gs<|g0 j j (q (oFA (r':=.mp 2 0 2) j fF243_2 j j)<|q (oLd (cs:=[.im 0 _]) j tF2 j j)<|q (oFA (r':=.mp 3 0 2) j fF243_2 j j)<|q (oLd (cs:=[.im 0 _]) j tF2 j j)<|q (oBi j j j j)<|nl)<|us<|gc h j iNe (fun hc3 h=>?_) fun hc3 h=>?_
   ·refine gs<|g0 j j (q (oAsI j j)<|nl)<|us<|Go.ret (Unw.ret ?_)
    cases h
    exact fr rF266 j
   ·refine Go.skip<|us<|gs<|gs<|g0 j j (q (oFA (r':=.mp 2 0 3) j fF243_3 j j)<|q (oLd (cs:=[.im 0 _]) j tF2 j j)<|q (oFA (r':=.mp 3 0 3) j fF243_3 j j)<|q (oLd (cs:=[.im 0 _]) j tF2 j j)<|q (oBi j j j j)<|nl)<|us<|gc h j iNe (fun hc4 h=>?_) fun hc4 h=>?_
    ·refine gs<|g0 j j (q (oAsI j j)<|nl)<|us<|Go.ret (Unw.ret ?_)
     cases h
     exact fr rF266 j
    ·refine Go.skip<|us<|gs<|g0 j j (q (oAsI j j)<|nl)<|us<|Go.ret (Unw.ret ?_)
     cases h
     exact fr rF266 j
theorem L_laws_eqCoatS {a_0:(List S_Coat)} {b_1:(List S_Coat)} {r:Bool} (h:laws_eqCoatS a_0 b_1=some r):FX 167 [.im 2 false [W 4 e_S_Coat a_0],.im 2 false [W 4 e_S_Coat b_1]] (B0 [(false,[.im 0 (V r)])]):=by
 unfold laws_eqCoatS at h
 refine gn 27 Try.func167 rfl ?_
 refine gs<|g0 j j (q (oAsI j j)<|nl)<|us<|gs<|gs<|g0 j j (q (oMv j j)<|q (oLnI j j uF131 j)<|q (oMv j j)<|q (oLnI j j uF131 j)<|q (oBi j j j j)<|nl)<|us<|gc h j iNe (fun hc1 h=>?_) fun hc1 h=>?_
 ·refine gs<|g0 j j (q (oAsI j j)<|nl)<|us<|Go.ret (Unw.ret ?_)
  cases h
  exact fr rF167 j
 ·refine Go.skip<|us<|gs<|gs<|g0 j j (q (oAsI j j)<|nl)<|us<|Go.block<|?_
  obtain ⟨o,hl,h⟩:=bs h
  refine gl c167 j _ (fun (i_5_l4:Int)=>mk [(0,D 2 (W 4 e_S_Coat a_0)),(1,D 2 (W 4 e_S_Coat b_1)),(5,iv i_5_l4)] []) (fun (o:(Unit ⊕ Bool)) (p:Ex×St)=>match o with | (.inl _)=>p.1= .exit 0∧p.2.norm ([],[])=mk [] [] | (.inr r2)=>p.1= .ret∧fin Try.prog cfg 167 Try.f167 [.im 2 false [W 4 e_S_Coat a_0],.im 2 false [W 4 e_S_Coat b_1]] p.2=some (B0 [(false,[.im 0 (V r2)])])) hl (by kernel_rfl) ?_ ?_ ?_
  ·intro o p hp e
   rcases o with u | r2<;>exact nomatch (hp.1.symm.trans e)
  ·rintro i_5_l4 o h
   unfold laws_eqCoatS_l4 at h
   refine gs<|gs<|g0 j j (q (oMv j j)<|q (oMv j j)<|q (oLnI j j uF131 j)<|q (oBi j j j j)<|nl)<|us<|gc h j iDec (fun hc6 h=>?_) fun hc6 h=>?_
   ·refine Go.skip<|us<|gs<|Go.block<|gs<|?_
    obtain ⟨x19,hx19,h⟩:=bs h
    obtain ⟨x23,hx23,h⟩:=bs h
    obtain ⟨x25,hx25,h⟩:=bs h
    refine gd c167 j j j j (mk [(0,D 2 (W 4 e_S_Coat a_0)),(1,D 2 (W 4 e_S_Coat b_1)),(5,iv i_5_l4),(26,bv (!x25))] []) (t j j (oMv j j)<|t j j (oMv j j)<|t j j (oIAI j hx19 sF131 j j)<|t j j (oLd (cs:=[.im 2 _,.im 2 _,.im 2 _,.im 2 _]) j tF243 j j)<|t j j (oMv j j)<|t j j (oMv j j)<|t j j (oIAI j hx23 sF131 j j)<|t j j (oLd (cs:=[.im 2 _,.im 2 _,.im 2 _,.im 2 _]) j tF243 j j)<|sS (dN z167 j (oCa (xs:=[.v true [.im 2 _,.im 2 _,.im 2 _,.im 2 _],.v true [.im 2 _,.im 2 _,.im 2 _,.im 2 _]]) (vs:=[(false,[.im 0 _])]) (v:=.v false [.im 0 _]) (L_laws_eqCoat hx25) (.inl j) j kF266_243_243 j (ppC j (ppC j pp0)) j j pb0 j j j)) trivial (t j j (oUn j j j)<|sD (by kernel_rfl)))<|us<|?_
    by_cases hc7:x25=true
    ·rw [if_pos hc7] at h
     refine gF j (nF (iR.2 hc7))<|Go.skip<|Unw.blk<|us<|g0 j j (q (oMv j j)<|q (oBi j j j j)<|q (oAsI j j)<|nl)<|Unw.nil<|?_
     cases h
     exact ⟨j,(by kernel_rfl)⟩
    ·rw [if_neg hc7] at h
     refine gT j (nT (byF iR hc7))<|gs<|g0 j j (q (oAsI j j)<|nl)<|us<|Go.ret (Unw.ret ?_)
     cases h
     exact ⟨j,(fo rF167 j)⟩
   ·refine Go.exit<|ux<|Unw.nil<|?_
    cases h
    exact ⟨j,(by kernel_rfl)⟩
  ·rintro ⟨e,st⟩ hp
   rcases o with u | r2
   ·dsimp only at h
    obtain ⟨he,hst⟩:=hp
    obtain rfl:e= .exit 0:=he
    refine Unw.blkx<|us<|gs<|g2 c167 j j hst (q (oAsI j j)<|nl)<|us<|Go.ret (Unw.ret ?_)
    cases h
    exact fr rF167 j
   ·dsimp only at h
    obtain ⟨he,hfin⟩:=hp
    obtain rfl:e= .ret:=he
    cases h
    exact Unw.ret (Fin_ret hfin)
theorem L_laws_eqRates {a_0:S_Rates} {b_1:S_Rates} {r:Bool} (h:laws_eqRates a_0 b_1=some r):FX 168 [.im 2 true (u_S_Rates a_0),.im 2 true (u_S_Rates b_1)] (B0 [(false,[.im 0 (V r)])]):=by
 unfold laws_eqRates at h
 refine gn 30 Try.func168 rfl ?_
 refine gs<|g0 j j (q (oBx j tF132 j (tkI (tkI (tkI (tkI (tkI tk0))))))<|q (oBx j tF132 j (tkI (tkI (tkI (tkI (tkI tk0))))))<|q (oAsI j j)<|nl)<|us<|gs<|gs<|g1 j j (mk [(2,M 2),(3,M 3)] [(2,Oa (G 0 (u_S_Rates a_0))),(3,Oa (G 0 (u_S_Rates b_1)))]) (q (oFA (r':=.mp 2 0 0) j fF132_0 j j)<|q (oLd (cs:=[.im 0 _]) j tF2 j j)<|q (oFA (r':=.mp 3 0 0) j fF132_0 j j)<|q (oLd (cs:=[.im 0 _]) j tF2 j j)<|q (oBi j j j j)<|nl)<|us<|gc h j iNe (fun hc1 h=>?_) fun hc1 h=>?_
 ·refine gs<|g0 j j (q (oAsI j j)<|nl)<|us<|Go.ret (Unw.ret ?_)
  cases h
  exact fr rF168 j
 ·refine Go.skip<|us<|gs<|gs<|g0 j j (q (oFA (r':=.mp 2 0 1) j fF132_1 j j)<|q (oLd (cs:=[.im 0 _]) j tF2 j j)<|q (oFA (r':=.mp 3 0 1) j fF132_1 j j)<|q (oLd (cs:=[.im 0 _]) j tF2 j j)<|q (oBi j j j j)<|nl)<|us<|gc h j iNe (fun hc2 h=>?_) fun hc2 h=>?_
  ·refine gs<|g0 j j (q (oAsI j j)<|nl)<|us<|Go.ret (Unw.ret ?_)
   cases h
   exact fr rF168 j
  ·refine Go.skip<|us<|gs<|gs<|g0 j j (q (oFA (r':=.mp 2 0 2) j fF132_2 j j)<|q (oLd (cs:=[.im 0 _]) j tF2 j j)<|q (oFA (r':=.mp 3 0 2) j fF132_2 j j)<|q (oLd (cs:=[.im 0 _]) j tF2 j j)<|q (oBi j j j j)<|nl)<|us<|gc h j iNe (fun hc3 h=>?_) fun hc3 h=>?_
   ·refine gs<|g0 j j (q (oAsI j j)<|nl)<|us<|Go.ret (Unw.ret ?_)
    cases h
    exact fr rF168 j
   ·refine Go.skip<|us<|gs<|gs<|g0 j j (q (oFA (r':=.mp 2 0 3) j fF132_3 j j)<|q (oLd (cs:=[.im 0 _]) j tF2 j j)<|q (oFA (r':=.mp 3 0 3) j fF132_3 j j)<|q (oLd (cs:=[.im 0 _]) j tF2 j j)<|q (oBi j j j j)<|nl)<|us<|gc h j iNe (fun hc4 h=>?_) fun hc4 h=>?_
    ·refine gs<|g0 j j (q (oAsI j j)<|nl)<|us<|Go.ret (Unw.ret ?_)
     cases h
     exact fr rF168 j
    ·refine Go.skip<|us<|gs<|gs<|g0 j j (q (oFA (r':=.mp 2 0 4) j fF132_4 j j)<|q (oLd (cs:=[.im 0 _]) j tF2 j j)<|q (oFA (r':=.mp 3 0 4) j fF132_4 j j)<|q (oLd (cs:=[.im 0 _]) j tF2 j j)<|q (oBi j j j j)<|nl)<|us<|gc h j iNe (fun hc5 h=>?_) fun hc5 h=>?_
     ·refine gs<|g0 j j (q (oAsI j j)<|nl)<|us<|Go.ret (Unw.ret ?_)
      cases h
      exact fr rF168 j
     ·refine Go.skip<|us<|gs<|g0 j j (q (oAsI j j)<|nl)<|us<|Go.ret (Unw.ret ?_)
      cases h
      exact fr rF168 j
theorem L_laws_eqDesk {a_0:S_Desk} {b_1:S_Desk} {r:Bool} (h:laws_eqDesk a_0 b_1=some r):FX 81 [.im 2 true (u_S_Desk a_0),.im 2 true (u_S_Desk b_1)] (B0 [(false,[.im 0 (V r)])]):=by
 unfold laws_eqDesk at h
 refine gn 29 Try.func81 rfl ?_
 refine gs<|g0 j j (q (oBx j tF134 j (tkI (tkI (tkI (tkI (tkI (tkI (tkI (tkI (tkI (tkI (tkI (tkI (tkI (tkI (tkI (tkI (tkI (tkI (tkI (tkI (tkI (tkI (tkI (tkI tk0)))))))))))))))))))))))))<|q (oBx j tF134 j (tkI (tkI (tkI (tkI (tkI (tkI (tkI (tkI (tkI (tkI (tkI (tkI (tkI (tkI (tkI (tkI (tkI (tkI (tkI (tkI (tkI (tkI (tkI (tkI tk0)))))))))))))))))))))))))<|q (oAsI j j)<|nl)<|us<|gs<|gs<|?_
 obtain ⟨x9,hx9,h⟩:=bs h
 refine g1 j j (mk [(2,M 2),(3,M 3)] [(2,Oa (G 2 (u_S_Desk a_0))),(3,Oa (G 2 (u_S_Desk b_1)))]) (q (oFA (r':=.mp 2 0 0) j fF134_0 j j)<|q (oLd (cs:=[.im 0 _,.im 0 _,.im 2 _,.im 2 _,.im 2 _,.im 2 _,.im 2 _,.im 0 _,.im 0 _,.im 0 _,.im 0 _,.im 0 _,.im 0 _,.im 0 _,.im 0 _,.im 2 _,.im 2 _]) j tF129 j j)<|q (oFA (r':=.mp 3 0 0) j fF134_0 j j)<|q (oLd (cs:=[.im 0 _,.im 0 _,.im 2 _,.im 2 _,.im 2 _,.im 2 _,.im 2 _,.im 0 _,.im 0 _,.im 0 _,.im 0 _,.im 0 _,.im 0 _,.im 0 _,.im 0 _,.im 2 _,.im 2 _]) j tF129 j j)<|q (oCa (xs:=[.v true [.im 0 _,.im 0 _,.im 2 _,.im 2 _,.im 2 _,.im 2 _,.im 2 _,.im 0 _,.im 0 _,.im 0 _,.im 0 _,.im 0 _,.im 0 _,.im 0 _,.im 0 _,.im 2 _,.im 2 _],.v true [.im 0 _,.im 0 _,.im 2 _,.im 2 _,.im 2 _,.im 2 _,.im 2 _,.im 0 _,.im 0 _,.im 0 _,.im 0 _,.im 0 _,.im 0 _,.im 0 _,.im 0 _,.im 2 _,.im 2 _]]) (vs:=[(false,[.im 0 _])]) (v:=.v false [.im 0 _]) (L_laws_eqJob hx9) (.inl j) j kF165_129_129 j (ppC j (ppC j pp0)) j j pb0 j j j)<|q (oUn j j j)<|nl)<|us<|?_
 by_cases hc1:x9=true
 ·rw [if_pos hc1] at h
  refine gF j (nF (iR.2 hc1))<|Go.skip<|us<|gs<|gs<|?_
  obtain ⟨x15,hx15,h⟩:=bs h
  refine g0 j j (q (oFA (r':=.mp 2 0 17) j fF134_1 j j)<|q (oLd (cs:=[.im 2 _]) j tF130 j j)<|q (oFA (r':=.mp 3 0 17) j fF134_1 j j)<|q (oLd (cs:=[.im 2 _]) j tF130 j j)<|q (oCa (xs:=[.v false [.im 2 _],.v false [.im 2 _]]) (vs:=[(false,[.im 0 _])]) (v:=.v false [.im 0 _]) (L_laws_eqBondS hx15) (.inl j) j kF166_130_130 j (ppC j (ppC j pp0)) j j pb0 j j j)<|q (oUn j j j)<|nl)<|us<|?_
  by_cases hc2:x15=true
  ·rw [if_pos hc2] at h
   refine gF j (nF (iR.2 hc2))<|Go.skip<|us<|gs<|gs<|?_
   obtain ⟨x21,hx21,h⟩:=bs h
   refine g0 j j (q (oFA (r':=.mp 2 0 18) j fF134_2 j j)<|q (oLd (cs:=[.im 2 _]) j tF131 j j)<|q (oFA (r':=.mp 3 0 18) j fF134_2 j j)<|q (oLd (cs:=[.im 2 _]) j tF131 j j)<|q (oCa (xs:=[.v false [.im 2 _],.v false [.im 2 _]]) (vs:=[(false,[.im 0 _])]) (v:=.v false [.im 0 _]) (L_laws_eqCoatS hx21) (.inl j) j kF167_131_131 j (ppC j (ppC j pp0)) j j pb0 j j j)<|q (oUn j j j)<|nl)<|us<|?_
   by_cases hc3:x21=true
   ·rw [if_pos hc3] at h
    refine gF j (nF (iR.2 hc3))<|Go.skip<|us<|gs<|gs<|?_
    obtain ⟨x27,hx27,h⟩:=bs h
    refine g0 j j (q (oFA (r':=.mp 2 0 19) j fF134_3 j j)<|q (oLd (cs:=[.im 0 _,.im 0 _,.im 0 _,.im 0 _,.im 0 _]) j tF132 j j)<|q (oFA (r':=.mp 3 0 19) j fF134_3 j j)<|q (oLd (cs:=[.im 0 _,.im 0 _,.im 0 _,.im 0 _,.im 0 _]) j tF132 j j)<|q (oCa (xs:=[.v true [.im 0 _,.im 0 _,.im 0 _,.im 0 _,.im 0 _],.v true [.im 0 _,.im 0 _,.im 0 _,.im 0 _,.im 0 _]]) (vs:=[(false,[.im 0 _])]) (v:=.v false [.im 0 _]) (L_laws_eqRates hx27) (.inl j) j kF168_132_132 j (ppC j (ppC j pp0)) j j pb0 j j j)<|q (oUn j j j)<|nl)<|us<|?_
    by_cases hc4:x27=true
    ·rw [if_pos hc4] at h
     refine gF j (nF (iR.2 hc4))<|Go.skip<|us<|gs<|g0 j j (q (oAsI j j)<|nl)<|us<|Go.ret (Unw.ret ?_)
     cases h
     exact fr rF81 j
    ·rw [if_neg hc4] at h
     refine gT j (nT (byF iR hc4))<|gs<|g0 j j (q (oAsI j j)<|nl)<|us<|Go.ret (Unw.ret ?_)
     cases h
     exact fr rF81 j
   ·rw [if_neg hc3] at h
    refine gT j (nT (byF iR hc3))<|gs<|g0 j j (q (oAsI j j)<|nl)<|us<|Go.ret (Unw.ret ?_)
    cases h
    exact fr rF81 j
  ·rw [if_neg hc2] at h
   refine gT j (nT (byF iR hc2))<|gs<|g0 j j (q (oAsI j j)<|nl)<|us<|Go.ret (Unw.ret ?_)
   cases h
   exact fr rF81 j
 ·rw [if_neg hc1] at h
  refine gT j (nT (byF iR hc1))<|gs<|g0 j j (q (oAsI j j)<|nl)<|us<|Go.ret (Unw.ret ?_)
  cases h
  exact fr rF81 j
theorem L_laws_FnExactSameDesk {aA_0:S_Desk} {aB_1:S_Desk} {r:Bool} (h:laws_FnExactSameDesk aA_0 aB_1=some r):FX 14 [.im 2 true (u_S_Desk aA_0),.im 2 true (u_S_Desk aB_1)] (B0 [(false,[.im 0 (V r)])]):=by
 unfold laws_FnExactSameDesk at h
 refine gn 45 Try.func14 rfl ?_
 refine gs<|g0 j j (q (oBx j tF121 j (tkI (tkI (tkI (tkI (tkI (tkI (tkI (tkI (tkI (tkI (tkI (tkI (tkI (tkI (tkI (tkI (tkI (tkI (tkI (tkI (tkI (tkI (tkI (tkI tk0)))))))))))))))))))))))))<|q (oBx j tF121 j (tkI (tkI (tkI (tkI (tkI (tkI (tkI (tkI (tkI (tkI (tkI (tkI (tkI (tkI (tkI (tkI (tkI (tkI (tkI (tkI (tkI (tkI (tkI (tkI tk0)))))))))))))))))))))))))<|q (oAsI j j)<|nl)<|us<|gs<|g1 j j (mk [(2,M 2),(3,M 3)] [(2,Oa (G 2 (u_S_Desk aA_0))),(3,Oa (G 2 (u_S_Desk aB_1)))]) (q (oAsI j j)<|nl)<|us<|gs<|?_
 obtain ⟨x12,hx12,h⟩:=bs h
 refine g0 j j (q (oLd (cs:=[.im 0 _,.im 0 _,.im 2 _,.im 2 _,.im 2 _,.im 2 _,.im 2 _,.im 0 _,.im 0 _,.im 0 _,.im 0 _,.im 0 _,.im 0 _,.im 0 _,.im 0 _,.im 2 _,.im 2 _,.im 2 _,.im 2 _,.im 0 _,.im 0 _,.im 0 _,.im 0 _,.im 0 _]) j tF121 j j)<|q (oMv j j)<|q (oCa (xs:=[.v true [.im 0 _,.im 0 _,.im 2 _,.im 2 _,.im 2 _,.im 2 _,.im 2 _,.im 0 _,.im 0 _,.im 0 _,.im 0 _,.im 0 _,.im 0 _,.im 0 _,.im 0 _,.im 2 _,.im 2 _,.im 2 _,.im 2 _,.im 0 _,.im 0 _,.im 0 _,.im 0 _,.im 0 _],.v false [.im 0 _]]) (vs:=[(false,[.im 0 _])]) (v:=.v false [.im 0 _]) (L_laws_szDesk hx12) (.inl j) j kF77_121_3 j (ppC j (ppC j pp0)) j j pb0 j j j)<|q (oAsI j j)<|nl)<|us<|gs<|gs<|g0 j j (q (oMv j j)<|q (oBi j j j j)<|nl)<|us<|gc h j iDec (fun hc1 h=>?_) fun hc1 h=>?_
 ·refine gs<|g0 j j (q (oAsI j j)<|nl)<|us<|Go.ret (Unw.ret ?_)
  cases h
  exact fr rF14 j
 ·refine Go.skip<|us<|gs<|?_
  obtain ⟨x17,hx17,h⟩:=bs h
  refine g0 j j (q (oLd (cs:=[.im 0 _,.im 0 _,.im 2 _,.im 2 _,.im 2 _,.im 2 _,.im 2 _,.im 0 _,.im 0 _,.im 0 _,.im 0 _,.im 0 _,.im 0 _,.im 0 _,.im 0 _,.im 2 _,.im 2 _,.im 2 _,.im 2 _,.im 0 _,.im 0 _,.im 0 _,.im 0 _,.im 0 _]) j tF121 j j)<|q (oMv j j)<|q (oCa (xs:=[.v true [.im 0 _,.im 0 _,.im 2 _,.im 2 _,.im 2 _,.im 2 _,.im 2 _,.im 0 _,.im 0 _,.im 0 _,.im 0 _,.im 0 _,.im 0 _,.im 0 _,.im 0 _,.im 2 _,.im 2 _,.im 2 _,.im 2 _,.im 0 _,.im 0 _,.im 0 _,.im 0 _,.im 0 _],.v false [.im 0 _]]) (vs:=[(false,[.im 0 _])]) (v:=.v false [.im 0 _]) (L_laws_szDesk hx17) (.inl j) j kF77_121_3 j (ppC j (ppC j pp0)) j j pb0 j j j)<|q (oAsI j j)<|nl)<|us<|gs<|gs<|g0 j j (q (oMv j j)<|q (oBi j j j j)<|nl)<|us<|gc h j iDec (fun hc2 h=>?_) fun hc2 h=>?_
  ·refine gs<|g0 j j (q (oAsI j j)<|nl)<|us<|Go.ret (Unw.ret ?_)
   cases h
   exact fr rF14 j
  ·refine Go.skip<|us<|gs<|?_
   obtain ⟨x21,hx21,h⟩:=bs h
   obtain ⟨x23,hx23,h⟩:=bs h
   obtain ⟨x24,hx24,h⟩:=bs h
   refine gd c14 j j j j (mk [(2,M 2),(3,M 3),(6,bv x24)] [(2,Oa (G 2 (u_S_Desk aA_0))),(3,Oa (G 2 (u_S_Desk aB_1)))]) (t j j (oLd (cs:=[.im 0 _,.im 0 _,.im 2 _,.im 2 _,.im 2 _,.im 2 _,.im 2 _,.im 0 _,.im 0 _,.im 0 _,.im 0 _,.im 0 _,.im 0 _,.im 0 _,.im 0 _,.im 2 _,.im 2 _,.im 2 _,.im 2 _,.im 0 _,.im 0 _,.im 0 _,.im 0 _,.im 0 _]) j tF121 j j)<|t j j (oLd (cs:=[.im 0 _,.im 0 _,.im 2 _,.im 2 _,.im 2 _,.im 2 _,.im 2 _,.im 0 _,.im 0 _,.im 0 _,.im 0 _,.im 0 _,.im 0 _,.im 0 _,.im 0 _,.im 2 _,.im 2 _,.im 2 _,.im 2 _,.im 0 _,.im 0 _,.im 0 _,.im 0 _,.im 0 _]) j tF121 j j)<|sS (dN z14 j (oCr (xs:=[.v true [.im 0 _,.im 0 _,.im 2 _,.im 2 _,.im 2 _,.im 2 _,.im 2 _,.im 0 _,.im 0 _,.im 0 _,.im 0 _,.im 0 _,.im 0 _,.im 0 _,.im 0 _,.im 2 _,.im 2 _,.im 2 _,.im 2 _,.im 0 _,.im 0 _,.im 0 _,.im 0 _,.im 0 _]]) (vs:=[(true,[.im 0 _,.im 0 _,.own 21 0 0,.own 21 0 1,.own 21 0 2,.own 21 0 3,.own 21 0 4,.im 0 _,.im 0 _,.im 0 _,.im 0 _,.im 0 _,.im 0 _,.im 0 _,.im 0 _,.own 21 0 5,.own 21 0 6,.own 21 0 7,.own 21 0 8,.im 0 _,.im 0 _,.im 0 _,.im 0 _,.im 0 _])]) (v:=.v true [.im 0 _,.im 0 _,.own 21 0 0,.own 21 0 1,.own 21 0 2,.own 21 0 3,.own 21 0 4,.im 0 _,.im 0 _,.im 0 _,.im 0 _,.im 0 _,.im 0 _,.im 0 _,.im 0 _,.own 21 0 5,.own 21 0 6,.own 21 0 7,.own 21 0 8,.im 0 _,.im 0 _,.im 0 _,.im 0 _,.im 0 _]) (c:=⟨.sh,0,_⟩) (cs:=[⟨.sh,0,_⟩,⟨.sh,0,_⟩,⟨.sh,0,_⟩,⟨.sh,0,_⟩,⟨.sh,0,_⟩,⟨.sh,0,_⟩,⟨.sh,0,_⟩,⟨.sh,0,_⟩]) (L_laws_toDesk hx21) (.inl j) j kF79_121 j (ppC j pp0) j j pb0 j j j)) trivial (sS (dN z14 j (oCr (xs:=[.v true [.im 0 _,.im 0 _,.im 2 _,.im 2 _,.im 2 _,.im 2 _,.im 2 _,.im 0 _,.im 0 _,.im 0 _,.im 0 _,.im 0 _,.im 0 _,.im 0 _,.im 0 _,.im 2 _,.im 2 _,.im 2 _,.im 2 _,.im 0 _,.im 0 _,.im 0 _,.im 0 _,.im 0 _]]) (vs:=[(true,[.im 0 _,.im 0 _,.own 23 0 0,.own 23 0 1,.own 23 0 2,.own 23 0 3,.own 23 0 4,.im 0 _,.im 0 _,.im 0 _,.im 0 _,.im 0 _,.im 0 _,.im 0 _,.im 0 _,.own 23 0 5,.own 23 0 6,.own 23 0 7,.own 23 0 8,.im 0 _,.im 0 _,.im 0 _,.im 0 _,.im 0 _])]) (v:=.v true [.im 0 _,.im 0 _,.own 23 0 0,.own 23 0 1,.own 23 0 2,.own 23 0 3,.own 23 0 4,.im 0 _,.im 0 _,.im 0 _,.im 0 _,.im 0 _,.im 0 _,.im 0 _,.im 0 _,.own 23 0 5,.own 23 0 6,.own 23 0 7,.own 23 0 8,.im 0 _,.im 0 _,.im 0 _,.im 0 _,.im 0 _]) (c:=⟨.sh,0,_⟩) (cs:=[⟨.sh,0,_⟩,⟨.sh,0,_⟩,⟨.sh,0,_⟩,⟨.sh,0,_⟩,⟨.sh,0,_⟩,⟨.sh,0,_⟩,⟨.sh,0,_⟩,⟨.sh,0,_⟩]) (L_laws_toDesk hx23) (.inl j) j kF79_121 j (ppC j pp0) j j pb0 j j j)) trivial (sS (dN z14 j (oCa (xs:=[.v true [.im 0 _,.im 0 _,.own 21 0 0,.own 21 0 1,.own 21 0 2,.own 21 0 3,.own 21 0 4,.im 0 _,.im 0 _,.im 0 _,.im 0 _,.im 0 _,.im 0 _,.im 0 _,.im 0 _,.own 21 0 5,.own 21 0 6,.own 21 0 7,.own 21 0 8,.im 0 _,.im 0 _,.im 0 _,.im 0 _,.im 0 _],.v true [.im 0 _,.im 0 _,.own 23 0 0,.own 23 0 1,.own 23 0 2,.own 23 0 3,.own 23 0 4,.im 0 _,.im 0 _,.im 0 _,.im 0 _,.im 0 _,.im 0 _,.im 0 _,.im 0 _,.own 23 0 5,.own 23 0 6,.own 23 0 7,.own 23 0 8,.im 0 _,.im 0 _,.im 0 _,.im 0 _,.im 0 _]]) (vs:=[(false,[.im 0 _])]) (v:=.v false [.im 0 _]) (L_spec_SameDesk hx24) (.inl j) j kF78_134_134 j (ppC j (ppC j pp0)) j j pb0 j j j)) trivial (sS (dN z14 j (oAsI j j)) trivial (sD (by kernel_rfl))))))<|us<|gs<|?_
   obtain ⟨x26,hx26,h⟩:=bs h
   refine g0 j j (q (oLd (cs:=[.im 0 _,.im 0 _,.im 2 _,.im 2 _,.im 2 _,.im 2 _,.im 2 _,.im 0 _,.im 0 _,.im 0 _,.im 0 _,.im 0 _,.im 0 _,.im 0 _,.im 0 _,.im 2 _,.im 2 _,.im 2 _,.im 2 _,.im 0 _,.im 0 _,.im 0 _,.im 0 _,.im 0 _]) j tF121 j j)<|q (oCr (xs:=[.v true [.im 0 _,.im 0 _,.im 2 _,.im 2 _,.im 2 _,.im 2 _,.im 2 _,.im 0 _,.im 0 _,.im 0 _,.im 0 _,.im 0 _,.im 0 _,.im 0 _,.im 0 _,.im 2 _,.im 2 _,.im 2 _,.im 2 _,.im 0 _,.im 0 _,.im 0 _,.im 0 _,.im 0 _]]) (vs:=[(true,[.im 0 _,.im 0 _,.own 26 0 0,.own 26 0 1,.own 26 0 2,.own 26 0 3,.own 26 0 4,.im 0 _,.im 0 _,.im 0 _,.im 0 _,.im 0 _,.im 0 _,.im 0 _,.im 0 _,.own 26 0 5,.own 26 0 6,.own 26 0 7,.own 26 0 8,.im 0 _,.im 0 _,.im 0 _,.im 0 _,.im 0 _])]) (v:=.v true [.im 0 _,.im 0 _,.own 26 0 0,.own 26 0 1,.own 26 0 2,.own 26 0 3,.own 26 0 4,.im 0 _,.im 0 _,.im 0 _,.im 0 _,.im 0 _,.im 0 _,.im 0 _,.im 0 _,.own 26 0 5,.own 26 0 6,.own 26 0 7,.own 26 0 8,.im 0 _,.im 0 _,.im 0 _,.im 0 _,.im 0 _]) (c:=⟨.sh,0,_⟩) (cs:=[⟨.sh,0,_⟩,⟨.sh,0,_⟩,⟨.sh,0,_⟩,⟨.sh,0,_⟩,⟨.sh,0,_⟩,⟨.sh,0,_⟩,⟨.sh,0,_⟩,⟨.sh,0,_⟩]) (L_laws_toDesk hx26) (.inl j) j kF79_121 j (ppC j pp0) j j pb0 j j j)<|q (oAl j tF134 (tkI (tkI (tkN (tkN (tkN (tkN (tkN (tkI (tkI (tkI (tkI (tkI (tkI (tkI (tkI (tkN (tkN (tkN (tkN (tkI (tkI (tkI (tkI (tkI tk0)))))))))))))))))))))))))<|q (oSt tF134 j j j (tkI (tkI (tkO j j (tkO j j (tkO j j (tkO j j (tkO j j (tkI (tkI (tkI (tkI (tkI (tkI (tkI (tkI (tkO j j (tkO j j (tkO j j (tkO j j (tkI (tkI (tkI (tkI (tkI tk0)))))))))))))))))))))))) j j j)<|nl)<|us<|gs<|?_
   obtain ⟨x28,hx28,h⟩:=bs h
   refine g1 j j (mk [(2,M 2),(3,M 3),(6,bv x24),(7,M 7)] [(2,Oa (G 2 (u_S_Desk aA_0))),(3,Oa (G 2 (u_S_Desk aB_1))),(7,Oa [C (I x26.Job.Picture.Drawing.Width),C (I x26.Job.Picture.Drawing.Height),Z (W 2 e_S_Point x26.Job.Picture.Drawing.Points),Z (W 2 e_S_Face x26.Job.Picture.Drawing.Faces),Z (W 3 e_S_Veneer x26.Job.Picture.Veneers),Z (W 9 e_S_Leaf x26.Job.Leaves),Z (W 5 e_S_Placement x26.Job.Placements),C (I x26.Job.Rules.Spacing),C (I x26.Job.Rules.Margin),C (I x26.Job.Rules.Angle),C (I x26.Job.Rules.Shade),C (I x26.Job.Thickness),C (I x26.Job.Kerf),C (I x26.Job.Bevel),C (I x26.Job.Gap),Z (W 1 eI x26.Job.Order),Z (W 1 eI x26.Job.Cuts),Z (W 4 e_S_Bond x26.Bonds),Z (W 4 e_S_Coat x26.Coats),C (I x26.Rates.Hour),C (I x26.Rates.Edge),C (I x26.Rates.Face),C (I x26.Rates.Waste),C (I x26.Rates.Margin)])]) (q (oLd (cs:=[.im 0 _,.im 0 _,.im 2 _,.im 2 _,.im 2 _,.im 2 _,.im 2 _,.im 0 _,.im 0 _,.im 0 _,.im 0 _,.im 0 _,.im 0 _,.im 0 _,.im 0 _,.im 2 _,.im 2 _,.im 2 _,.im 2 _,.im 0 _,.im 0 _,.im 0 _,.im 0 _,.im 0 _]) j tF121 j j)<|q (oCr (xs:=[.v true [.im 0 _,.im 0 _,.im 2 _,.im 2 _,.im 2 _,.im 2 _,.im 2 _,.im 0 _,.im 0 _,.im 0 _,.im 0 _,.im 0 _,.im 0 _,.im 0 _,.im 0 _,.im 2 _,.im 2 _,.im 2 _,.im 2 _,.im 0 _,.im 0 _,.im 0 _,.im 0 _,.im 0 _]]) (vs:=[(true,[.im 0 _,.im 0 _,.own 28 0 0,.own 28 0 1,.own 28 0 2,.own 28 0 3,.own 28 0 4,.im 0 _,.im 0 _,.im 0 _,.im 0 _,.im 0 _,.im 0 _,.im 0 _,.im 0 _,.own 28 0 5,.own 28 0 6,.own 28 0 7,.own 28 0 8,.im 0 _,.im 0 _,.im 0 _,.im 0 _,.im 0 _])]) (v:=.v true [.im 0 _,.im 0 _,.own 28 0 0,.own 28 0 1,.own 28 0 2,.own 28 0 3,.own 28 0 4,.im 0 _,.im 0 _,.im 0 _,.im 0 _,.im 0 _,.im 0 _,.im 0 _,.im 0 _,.own 28 0 5,.own 28 0 6,.own 28 0 7,.own 28 0 8,.im 0 _,.im 0 _,.im 0 _,.im 0 _,.im 0 _]) (c:=⟨.sh,0,_⟩) (cs:=[⟨.sh,0,_⟩,⟨.sh,0,_⟩,⟨.sh,0,_⟩,⟨.sh,0,_⟩,⟨.sh,0,_⟩,⟨.sh,0,_⟩,⟨.sh,0,_⟩,⟨.sh,0,_⟩]) (L_laws_toDesk hx28) (.inl j) j kF79_121 j (ppC j pp0) j j pb0 j j j)<|q (oAl j tF134 (tkI (tkI (tkN (tkN (tkN (tkN (tkN (tkI (tkI (tkI (tkI (tkI (tkI (tkI (tkI (tkN (tkN (tkN (tkN (tkI (tkI (tkI (tkI (tkI tk0)))))))))))))))))))))))))<|q (oSt tF134 j j j (tkI (tkI (tkO j j (tkO j j (tkO j j (tkO j j (tkO j j (tkI (tkI (tkI (tkI (tkI (tkI (tkI (tkI (tkO j j (tkO j j (tkO j j (tkO j j (tkI (tkI (tkI (tkI (tkI tk0)))))))))))))))))))))))) j j j)<|nl)<|us<|gs<|?_
   obtain ⟨x31,hx31,h⟩:=bs h
   refine g1 j j (mk [(2,M 2),(3,M 3),(6,bv x24),(7,M 7),(8,M 8)] [(2,Oa (G 2 (u_S_Desk aA_0))),(3,Oa (G 2 (u_S_Desk aB_1))),(7,Oa [C (I x26.Job.Picture.Drawing.Width),C (I x26.Job.Picture.Drawing.Height),Z (W 2 e_S_Point x26.Job.Picture.Drawing.Points),Z (W 2 e_S_Face x26.Job.Picture.Drawing.Faces),Z (W 3 e_S_Veneer x26.Job.Picture.Veneers),Z (W 9 e_S_Leaf x26.Job.Leaves),Z (W 5 e_S_Placement x26.Job.Placements),C (I x26.Job.Rules.Spacing),C (I x26.Job.Rules.Margin),C (I x26.Job.Rules.Angle),C (I x26.Job.Rules.Shade),C (I x26.Job.Thickness),C (I x26.Job.Kerf),C (I x26.Job.Bevel),C (I x26.Job.Gap),Z (W 1 eI x26.Job.Order),Z (W 1 eI x26.Job.Cuts),Z (W 4 e_S_Bond x26.Bonds),Z (W 4 e_S_Coat x26.Coats),C (I x26.Rates.Hour),C (I x26.Rates.Edge),C (I x26.Rates.Face),C (I x26.Rates.Waste),C (I x26.Rates.Margin)]),(8,Oa [C (I x28.Job.Picture.Drawing.Width),C (I x28.Job.Picture.Drawing.Height),Z (W 2 e_S_Point x28.Job.Picture.Drawing.Points),Z (W 2 e_S_Face x28.Job.Picture.Drawing.Faces),Z (W 3 e_S_Veneer x28.Job.Picture.Veneers),Z (W 9 e_S_Leaf x28.Job.Leaves),Z (W 5 e_S_Placement x28.Job.Placements),C (I x28.Job.Rules.Spacing),C (I x28.Job.Rules.Margin),C (I x28.Job.Rules.Angle),C (I x28.Job.Rules.Shade),C (I x28.Job.Thickness),C (I x28.Job.Kerf),C (I x28.Job.Bevel),C (I x28.Job.Gap),Z (W 1 eI x28.Job.Order),Z (W 1 eI x28.Job.Cuts),Z (W 4 e_S_Bond x28.Bonds),Z (W 4 e_S_Coat x28.Coats),C (I x28.Rates.Hour),C (I x28.Rates.Edge),C (I x28.Rates.Face),C (I x28.Rates.Waste),C (I x28.Rates.Margin)])]) (q (oLd (cs:=[.im 0 _,.im 0 _,.own 7 0 2,.own 7 0 3,.own 7 0 4,.own 7 0 5,.own 7 0 6,.im 0 _,.im 0 _,.im 0 _,.im 0 _,.im 0 _,.im 0 _,.im 0 _,.im 0 _,.own 7 0 15,.own 7 0 16,.own 7 0 17,.own 7 0 18,.im 0 _,.im 0 _,.im 0 _,.im 0 _,.im 0 _]) j tF134 j j)<|q (oLd (cs:=[.im 0 _,.im 0 _,.own 8 0 2,.own 8 0 3,.own 8 0 4,.own 8 0 5,.own 8 0 6,.im 0 _,.im 0 _,.im 0 _,.im 0 _,.im 0 _,.im 0 _,.im 0 _,.im 0 _,.own 8 0 15,.own 8 0 16,.own 8 0 17,.own 8 0 18,.im 0 _,.im 0 _,.im 0 _,.im 0 _,.im 0 _]) j tF134 j j)<|q (oCa (xs:=[.v true [.im 0 _,.im 0 _,.own 7 0 2,.own 7 0 3,.own 7 0 4,.own 7 0 5,.own 7 0 6,.im 0 _,.im 0 _,.im 0 _,.im 0 _,.im 0 _,.im 0 _,.im 0 _,.im 0 _,.own 7 0 15,.own 7 0 16,.own 7 0 17,.own 7 0 18,.im 0 _,.im 0 _,.im 0 _,.im 0 _,.im 0 _],.v true [.im 0 _,.im 0 _,.own 8 0 2,.own 8 0 3,.own 8 0 4,.own 8 0 5,.own 8 0 6,.im 0 _,.im 0 _,.im 0 _,.im 0 _,.im 0 _,.im 0 _,.im 0 _,.im 0 _,.own 8 0 15,.own 8 0 16,.own 8 0 17,.own 8 0 18,.im 0 _,.im 0 _,.im 0 _,.im 0 _,.im 0 _]]) (vs:=[(false,[.im 0 _])]) (v:=.v false [.im 0 _]) (L_impl_SameDesk hx31) (.inl j) j kF80_134_134 j (ppC j (ppC j pp0)) j j pb0 j j j)<|q (oAsI j j)<|nl)<|us<|gs<|gs<|g0 j j (q (oMv j j)<|q (oMv j j)<|q (oBiU j uF4 j j j)<|nl)<|us<|?_
   by_cases hc3:x31=x24
   ·rw [if_pos hc3] at h
    refine gF j (nF (iBe.2 hc3))<|Go.skip<|us<|gs<|gs<|?_
    obtain ⟨x37,hx37,h⟩:=bs h
    obtain ⟨x38,hx38,h⟩:=bs h
    refine gd c14 j j j j (mk [(3,M 3),(8,M 8),(39,bv (!x38))] [(3,Oa (G 2 (u_S_Desk aB_1))),(8,Oa [C (I x28.Job.Picture.Drawing.Width),C (I x28.Job.Picture.Drawing.Height),Z (W 2 e_S_Point x28.Job.Picture.Drawing.Points),Z (W 2 e_S_Face x28.Job.Picture.Drawing.Faces),Z (W 3 e_S_Veneer x28.Job.Picture.Veneers),Z (W 9 e_S_Leaf x28.Job.Leaves),Z (W 5 e_S_Placement x28.Job.Placements),C (I x28.Job.Rules.Spacing),C (I x28.Job.Rules.Margin),C (I x28.Job.Rules.Angle),C (I x28.Job.Rules.Shade),C (I x28.Job.Thickness),C (I x28.Job.Kerf),C (I x28.Job.Bevel),C (I x28.Job.Gap),Z (W 1 eI x28.Job.Order),Z (W 1 eI x28.Job.Cuts),Z (W 4 e_S_Bond x28.Bonds),Z (W 4 e_S_Coat x28.Coats),C (I x28.Rates.Hour),C (I x28.Rates.Edge),C (I x28.Rates.Face),C (I x28.Rates.Waste),C (I x28.Rates.Margin)])]) (t j j (oLd (cs:=[.im 0 _,.im 0 _,.own 7 0 2,.own 7 0 3,.own 7 0 4,.own 7 0 5,.own 7 0 6,.im 0 _,.im 0 _,.im 0 _,.im 0 _,.im 0 _,.im 0 _,.im 0 _,.im 0 _,.own 7 0 15,.own 7 0 16,.own 7 0 17,.own 7 0 18,.im 0 _,.im 0 _,.im 0 _,.im 0 _,.im 0 _]) j tF134 j j)<|t j j (oLd (cs:=[.im 0 _,.im 0 _,.im 2 _,.im 2 _,.im 2 _,.im 2 _,.im 2 _,.im 0 _,.im 0 _,.im 0 _,.im 0 _,.im 0 _,.im 0 _,.im 0 _,.im 0 _,.im 2 _,.im 2 _,.im 2 _,.im 2 _,.im 0 _,.im 0 _,.im 0 _,.im 0 _,.im 0 _]) j tF121 j j)<|sS (dN z14 j (oCr (xs:=[.v true [.im 0 _,.im 0 _,.im 2 _,.im 2 _,.im 2 _,.im 2 _,.im 2 _,.im 0 _,.im 0 _,.im 0 _,.im 0 _,.im 0 _,.im 0 _,.im 0 _,.im 0 _,.im 2 _,.im 2 _,.im 2 _,.im 2 _,.im 0 _,.im 0 _,.im 0 _,.im 0 _,.im 0 _]]) (vs:=[(true,[.im 0 _,.im 0 _,.own 37 0 0,.own 37 0 1,.own 37 0 2,.own 37 0 3,.own 37 0 4,.im 0 _,.im 0 _,.im 0 _,.im 0 _,.im 0 _,.im 0 _,.im 0 _,.im 0 _,.own 37 0 5,.own 37 0 6,.own 37 0 7,.own 37 0 8,.im 0 _,.im 0 _,.im 0 _,.im 0 _,.im 0 _])]) (v:=.v true [.im 0 _,.im 0 _,.own 37 0 0,.own 37 0 1,.own 37 0 2,.own 37 0 3,.own 37 0 4,.im 0 _,.im 0 _,.im 0 _,.im 0 _,.im 0 _,.im 0 _,.im 0 _,.im 0 _,.own 37 0 5,.own 37 0 6,.own 37 0 7,.own 37 0 8,.im 0 _,.im 0 _,.im 0 _,.im 0 _,.im 0 _]) (c:=⟨.sh,0,_⟩) (cs:=[⟨.sh,0,_⟩,⟨.sh,0,_⟩,⟨.sh,0,_⟩,⟨.sh,0,_⟩,⟨.sh,0,_⟩,⟨.sh,0,_⟩,⟨.sh,0,_⟩,⟨.sh,0,_⟩]) (L_laws_toDesk hx37) (.inl j) j kF79_121 j (ppC j pp0) j j pb0 j j j)) trivial (sS (dN z14 j (oCa (xs:=[.v true [.im 0 _,.im 0 _,.own 7 0 2,.own 7 0 3,.own 7 0 4,.own 7 0 5,.own 7 0 6,.im 0 _,.im 0 _,.im 0 _,.im 0 _,.im 0 _,.im 0 _,.im 0 _,.im 0 _,.own 7 0 15,.own 7 0 16,.own 7 0 17,.own 7 0 18,.im 0 _,.im 0 _,.im 0 _,.im 0 _,.im 0 _],.v true [.im 0 _,.im 0 _,.own 37 0 0,.own 37 0 1,.own 37 0 2,.own 37 0 3,.own 37 0 4,.im 0 _,.im 0 _,.im 0 _,.im 0 _,.im 0 _,.im 0 _,.im 0 _,.im 0 _,.own 37 0 5,.own 37 0 6,.own 37 0 7,.own 37 0 8,.im 0 _,.im 0 _,.im 0 _,.im 0 _,.im 0 _]]) (vs:=[(false,[.im 0 _])]) (v:=.v false [.im 0 _]) (L_laws_eqDesk hx38) (.inl j) j kF81_134_134 j (ppC j (ppC j pp0)) j j pb0 j j j)) trivial (t j j (oUn j j j)<|sD (by kernel_rfl))))<|us<|?_
    by_cases hc4:x38=true
    ·rw [if_pos hc4] at h
     refine gF j (nF (iR.2 hc4))<|Go.skip<|us<|gs<|gs<|?_
     obtain ⟨x42,hx42,h⟩:=bs h
     obtain ⟨x43,hx43,h⟩:=bs h
     refine gd c14 j j j j (mk [(44,bv (!x43))] []) (t j j (oLd (cs:=[.im 0 _,.im 0 _,.own 8 0 2,.own 8 0 3,.own 8 0 4,.own 8 0 5,.own 8 0 6,.im 0 _,.im 0 _,.im 0 _,.im 0 _,.im 0 _,.im 0 _,.im 0 _,.im 0 _,.own 8 0 15,.own 8 0 16,.own 8 0 17,.own 8 0 18,.im 0 _,.im 0 _,.im 0 _,.im 0 _,.im 0 _]) j tF134 j j)<|t j j (oLd (cs:=[.im 0 _,.im 0 _,.im 2 _,.im 2 _,.im 2 _,.im 2 _,.im 2 _,.im 0 _,.im 0 _,.im 0 _,.im 0 _,.im 0 _,.im 0 _,.im 0 _,.im 0 _,.im 2 _,.im 2 _,.im 2 _,.im 2 _,.im 0 _,.im 0 _,.im 0 _,.im 0 _,.im 0 _]) j tF121 j j)<|sS (dN z14 j (oCr (xs:=[.v true [.im 0 _,.im 0 _,.im 2 _,.im 2 _,.im 2 _,.im 2 _,.im 2 _,.im 0 _,.im 0 _,.im 0 _,.im 0 _,.im 0 _,.im 0 _,.im 0 _,.im 0 _,.im 2 _,.im 2 _,.im 2 _,.im 2 _,.im 0 _,.im 0 _,.im 0 _,.im 0 _,.im 0 _]]) (vs:=[(true,[.im 0 _,.im 0 _,.own 42 0 0,.own 42 0 1,.own 42 0 2,.own 42 0 3,.own 42 0 4,.im 0 _,.im 0 _,.im 0 _,.im 0 _,.im 0 _,.im 0 _,.im 0 _,.im 0 _,.own 42 0 5,.own 42 0 6,.own 42 0 7,.own 42 0 8,.im 0 _,.im 0 _,.im 0 _,.im 0 _,.im 0 _])]) (v:=.v true [.im 0 _,.im 0 _,.own 42 0 0,.own 42 0 1,.own 42 0 2,.own 42 0 3,.own 42 0 4,.im 0 _,.im 0 _,.im 0 _,.im 0 _,.im 0 _,.im 0 _,.im 0 _,.im 0 _,.own 42 0 5,.own 42 0 6,.own 42 0 7,.own 42 0 8,.im 0 _,.im 0 _,.im 0 _,.im 0 _,.im 0 _]) (c:=⟨.sh,0,_⟩) (cs:=[⟨.sh,0,_⟩,⟨.sh,0,_⟩,⟨.sh,0,_⟩,⟨.sh,0,_⟩,⟨.sh,0,_⟩,⟨.sh,0,_⟩,⟨.sh,0,_⟩,⟨.sh,0,_⟩]) (L_laws_toDesk hx42) (.inl j) j kF79_121 j (ppC j pp0) j j pb0 j j j)) trivial (sS (dN z14 j (oCa (xs:=[.v true [.im 0 _,.im 0 _,.own 8 0 2,.own 8 0 3,.own 8 0 4,.own 8 0 5,.own 8 0 6,.im 0 _,.im 0 _,.im 0 _,.im 0 _,.im 0 _,.im 0 _,.im 0 _,.im 0 _,.own 8 0 15,.own 8 0 16,.own 8 0 17,.own 8 0 18,.im 0 _,.im 0 _,.im 0 _,.im 0 _,.im 0 _],.v true [.im 0 _,.im 0 _,.own 42 0 0,.own 42 0 1,.own 42 0 2,.own 42 0 3,.own 42 0 4,.im 0 _,.im 0 _,.im 0 _,.im 0 _,.im 0 _,.im 0 _,.im 0 _,.im 0 _,.own 42 0 5,.own 42 0 6,.own 42 0 7,.own 42 0 8,.im 0 _,.im 0 _,.im 0 _,.im 0 _,.im 0 _]]) (vs:=[(false,[.im 0 _])]) (v:=.v false [.im 0 _]) (L_laws_eqDesk hx43) (.inl j) j kF81_134_134 j (ppC j (ppC j pp0)) j j pb0 j j j)) trivial (t j j (oUn j j j)<|sD (by kernel_rfl))))<|us<|?_
     by_cases hc5:x43=true
     ·rw [if_pos hc5] at h
      refine gF j (nF (iR.2 hc5))<|Go.skip<|us<|gs<|g0 j j (q (oAsI j j)<|nl)<|us<|Go.ret (Unw.ret ?_)
      cases h
      exact fr rF14 j
     ·rw [if_neg hc5] at h
      refine gT j (nT (byF iR hc5))<|gs<|g0 j j (q (oAsI j j)<|nl)<|us<|Go.ret (Unw.ret ?_)
      cases h
      exact fr rF14 j
    ·rw [if_neg hc4] at h
     refine gT j (nT (byF iR hc4))<|gs<|g0 j j (q (oAsI j j)<|nl)<|us<|Go.ret (Unw.ret ?_)
     cases h
     exact fr rF14 j
   ·rw [if_neg hc3] at h
    refine gT j (nT (byF iBe hc3))<|gs<|g0 j j (q (oAsI j j)<|nl)<|us<|Go.ret (Unw.ret ?_)
    cases h
    exact fr rF14 j
end
end Go.Proofs.Ytambonpepalofaa
