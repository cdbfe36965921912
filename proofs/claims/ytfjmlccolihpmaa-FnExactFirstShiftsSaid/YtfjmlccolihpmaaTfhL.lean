/- The machine answers, at each function of the program that is reached, what its plain function answers: a further part. Conditions: none. -/
import Derived.Test.YtfjmlccolihpmaaTfhLa
namespace Go.Proofs.Ytfjmlccolihpmaa
open Go Go.Sim Go.Pw Go.Proofs
set_option linter.unusedVariables false
set_option linter.unusedSimpArgs false
set_option maxRecDepth 100000
set_option maxHeartbeats 4000000
noncomputable section
theorem L_spec_l15Search_visit_F {self:S_l15Search→Option (Bool×S_l15Search)} (ih:∀{x_0:S_l15Search} {r:(Bool×S_l15Search)},self x_0=some r→FX 124 [.ptr true [(.imm,W 1 (eL 1 eI) x_0.pairs),(.imm,I x_0.faces),(.imm,W 3 e_S_Veneer x_0.sheets),(.imm,I x_0.least),(.sh,W 1 eI x_0.shifts),(.imm,V x_0.first),(.sh,W 1 eI x_0.best),(.imm,I x_0.count),(.imm,I x_0.nodes),(.imm,I x_0.budget)]] ([(false,[.im 0 (V r.1)])],[.ptr true [(.imm,W 1 (eL 1 eI) r.2.pairs),(.imm,I r.2.faces),(.imm,W 3 e_S_Veneer r.2.sheets),(.imm,I r.2.least),(.sh,W 1 eI r.2.shifts),(.imm,V r.2.first),(.sh,W 1 eI r.2.best),(.imm,I r.2.count),(.imm,I r.2.nodes),(.imm,I r.2.budget)]])) {x_0:S_l15Search} {r:(Bool×S_l15Search)} (h:spec_l15Search_visit_F self x_0=some r):FX 124 [.ptr true [(.imm,W 1 (eL 1 eI) x_0.pairs),(.imm,I x_0.faces),(.imm,W 3 e_S_Veneer x_0.sheets),(.imm,I x_0.least),(.sh,W 1 eI x_0.shifts),(.imm,V x_0.first),(.sh,W 1 eI x_0.best),(.imm,I x_0.count),(.imm,I x_0.nodes),(.imm,I x_0.budget)]] ([(false,[.im 0 (V r.1)])],[.ptr true [(.imm,W 1 (eL 1 eI) r.2.pairs),(.imm,I r.2.faces),(.imm,W 3 e_S_Veneer r.2.sheets),(.imm,I r.2.least),(.sh,W 1 eI r.2.shifts),(.imm,V r.2.first),(.sh,W 1 eI r.2.best),(.imm,I r.2.count),(.imm,I r.2.nodes),(.imm,I r.2.budget)]]):=by
 unfold spec_l15Search_visit_F at h
 refine FL_goS (A:=[(0,M 0)]) (B:=[(0,Od [Ct 1 (W 1 (eL 1 eI) x_0.pairs),C (I x_0.faces),Ct 1 (W 3 e_S_Veneer x_0.sheets),C (I x_0.least),Z (W 1 eI x_0.shifts),C (V x_0.first),Z (W 1 eI x_0.best),C (I x_0.count),C (I x_0.nodes),C (I x_0.budget)])]) (nt:=98) rfl rfl Try.func124 rfl rfl rfl rfl ?_
 refine gs<|g0 j j (q (oAsI j j)<|nl)<|us<|gs<|g0 j j (q (oMv j j)<|q (oNl j j j)<|q (oFA (r':=.mp 0 0 8) j fF110_8 j j)<|q (oLd (cs:=[.im 0 _]) j tF2 j j)<|q (oBi j j j j)<|q (oNl j j j)<|q (oFA (r':=.mp 0 0 8) j fF110_8 j j)<|q (oSt tF2 j j j (tkI tk0) j j j)<|nl)<|us<|gs<|gs<|gd c124 j j j (st1:=mk [(0,M 0)] [(0,Od [Ct 1 (W 1 (eL 1 eI) x_0.pairs),C (I x_0.faces),Ct 1 (W 3 e_S_Veneer x_0.sheets),C (I x_0.least),Z (W 1 eI x_0.shifts),C (V x_0.first),Z (W 1 eI x_0.best),C (I x_0.count),C (I (w64 (x_0.nodes+1))),C (I x_0.budget)])]) (by kernel_rfl) (mk [(0,M 0),(20,bv (decide ((w64 (x_0.nodes+1)) >x_0.budget)))] [(0,Od [Ct 1 (W 1 (eL 1 eI) x_0.pairs),C (I x_0.faces),Ct 1 (W 3 e_S_Veneer x_0.sheets),C (I x_0.least),Z (W 1 eI x_0.shifts),C (V x_0.first),Z (W 1 eI x_0.best),C (I x_0.count),C (I (w64 (x_0.nodes+1))),C (I x_0.budget)])]) (t j j (oMv j j)<|t j j (oNl j j j)<|t j j (oFA (r':=.mp 0 0 8) j fF110_8 j j)<|t j j (oLd (cs:=[.im 0 _]) j tF2 j j)<|t j j (oMv j j)<|t j j (oNl j j j)<|t j j (oFA (r':=.mp 0 0 9) j fF110_9 j j)<|t j j (oLd (cs:=[.im 0 _]) j tF2 j j)<|t j j (oBi j j j j)<|sD (by kernel_rfl))<|us<|gc h j iDec (fun hc1 h=>?_) fun hc1 h=>?_
 ·refine gs<|g0 j j (q (oAsI j j)<|nl)<|us<|Go.ret (Unw.ret ?_)
  cases h
  exact fr rF124 j
 ·refine Go.skip<|us<|gs<|gs<|gd c124 j j j j (mk [(0,M 0),(30,bv ((x_0.shifts.length:Int)==x_0.faces))] [(0,Od [Ct 1 (W 1 (eL 1 eI) x_0.pairs),C (I x_0.faces),Ct 1 (W 3 e_S_Veneer x_0.sheets),C (I x_0.least),Z (W 1 eI x_0.shifts),C (V x_0.first),Z (W 1 eI x_0.best),C (I x_0.count),C (I (w64 (x_0.nodes+1))),C (I x_0.budget)])]) (t j j (oMv j j)<|t j j (oNl j j j)<|t j j (oFA (r':=.mp 0 0 4) j fF110_4 j j)<|t j j (oLd (cs:=[.own 0 0 4]) j tF28 j j)<|t j j (oLnO j j uF28 j j j (fun e=>nomatch e))<|t j j (oMv j j)<|t j j (oNl j j j)<|t j j (oFA (r':=.mp 0 0 1) j fF110_1 j j)<|t j j (oLd (cs:=[.im 0 _]) j tF2 j j)<|t j j (oBi j j j j)<|sD (by kernel_rfl))<|us<|gc h j iEq (fun hc2 h=>?_) fun hc2 h=>?_
  ·refine gs<|g0 j j (q (oMv j j)<|q (oNl j j j)<|q (oFA (r':=.mp 0 0 7) j fF110_7 j j)<|q (oLd (cs:=[.im 0 _]) j tF2 j j)<|q (oBi j j j j)<|q (oNl j j j)<|q (oFA (r':=.mp 0 0 7) j fF110_7 j j)<|q (oSt tF2 j j j (tkI tk0) j j j)<|nl)<|us<|gs<|gs<|g1 j j (mk [(0,M 0)] [(0,Od [Ct 1 (W 1 (eL 1 eI) x_0.pairs),C (I x_0.faces),Ct 1 (W 3 e_S_Veneer x_0.sheets),C (I x_0.least),Z (W 1 eI x_0.shifts),C (V x_0.first),Z (W 1 eI x_0.best),C (I (w64 (x_0.count+1))),C (I (w64 (x_0.nodes+1))),C (I x_0.budget)])]) (q (oMv j j)<|q (oNl j j j)<|q (oFA (r':=.mp 0 0 7) j fF110_7 j j)<|q (oLd (cs:=[.im 0 _]) j tF2 j j)<|q (oBi j j j j)<|nl)<|us<|Go.join (fun st=>∃x_o0_6_r8,spec_l15Search_visit_k8 self x_0 x_o0_6_r8=some r∧st.norm ([0],[0])=mk [(0,M 0)] [(0,Od [Ct 1 (W 1 (eL 1 eI) x_0.pairs),C (I x_0.faces),Ct 1 (W 3 e_S_Veneer x_0.sheets),C (I x_0.least),Z (W 1 eI x_0.shifts),C (V x_0.first),Z (W 1 eI x_o0_6_r8),C (I (w64 (x_0.count+1))),C (I (w64 (x_0.nodes+1))),C (I x_0.budget)])]) ?_ ?_
   ·rintro st ⟨x_o0_6_r8,h,hst⟩
    unfold spec_l15Search_visit_k8 at h
    refine us<|gs<|g2 c124 j j hst (q (oMv j j)<|q (oNl j j j)<|q (oFA (r':=.mp 0 0 5) j fF110_5 j j)<|q (oLd (cs:=[.im 0 _]) j tF4 j j)<|q (oUn j j j)<|q (oAsI j j)<|nl)<|us<|Go.ret (Unw.ret ?_)
    cases h
    exact fr rF124 j
   ·intro K4
    refine gc h j iEq (fun hc5 h=>?_) fun hc5 h=>?_
    ·obtain ⟨x48,hx48,h⟩:=bs h
     exact g0 j j (q (oMv j j)<|q (oMv j j)<|q (oNl j j j)<|q (oFA (r':=.mp 0 0 4) j fF110_4 j j)<|q (oLd (cs:=[.own 0 0 4]) j tF28 j j)<|q (oCr (xs:=[.v false [.own 0 0 4]]) (vs:=[(false,[.own 48 0 0])]) (v:=.v false [.own 48 0 0]) (c:=⟨.sh,0,_⟩) (cs:=[]) (L_spec_l00Own hx48) (.inl j) j kF69_28 j (ppC j pp0) j j pb0 j j j)<|q (oNl j j j)<|q (oFA (r':=.mp 0 0 6) j fF110_6 j j)<|q (oSt tF28 j j j (tkO j j tk0) j j j)<|nl)<|K4 _ ⟨x48,h,(by kernel_rfl)⟩
    ·exact Go.skip<|K4 _ ⟨x_0.best,h,(by kernel_rfl)⟩
  ·refine Go.skip<|us<|gs<|gs<|g0 j j (q (oAsI j j)<|nl)<|us<|Go.block<|?_
   obtain ⟨o,hl,h⟩:=bs h
   refine gl c124 j _ (fun (s:(Int×(List (List Int))×Int×(List S_Veneer)×Int×(List Int)×Bool×(List Int)×Int×Int×Int))=>match s with | (s_3_l10,x_o0_0_l10,x_o0_1_l10,x_o0_2_l10,x_o0_3_l10,x_o0_4_l10,x_o0_5_l10,x_o0_6_l10,x_o0_7_l10,x_o0_8_l10,x_o0_9_l10)=>mk [(0,M 0),(3,iv s_3_l10)] [(0,Od [Ct 1 (W 1 (eL 1 eI) x_o0_0_l10),C (I x_o0_1_l10),Ct 1 (W 3 e_S_Veneer x_o0_2_l10),C (I x_o0_3_l10),Z (W 1 eI x_o0_4_l10),C (V x_o0_5_l10),Z (W 1 eI x_o0_6_l10),C (I x_o0_7_l10),C (I x_o0_8_l10),C (I x_o0_9_l10)])]) (fun (o:(((List (List Int))×Int×(List S_Veneer)×Int×(List Int)×Bool×(List Int)×Int×Int×Int) ⊕ (Bool×S_l15Search))) (p:Ex×St)=>match o with | (.inl (x_o0_0_e0_10,x_o0_1_e0_10,x_o0_2_e0_10,x_o0_3_e0_10,x_o0_4_e0_10,x_o0_5_e0_10,x_o0_6_e0_10,x_o0_7_e0_10,x_o0_8_e0_10,x_o0_9_e0_10))=>p.1= .exit 0∧p.2.norm ([],[0])=mk [] [(0,Od [Ct 1 (W 1 (eL 1 eI) x_o0_0_e0_10),C (I x_o0_1_e0_10),Ct 1 (W 3 e_S_Veneer x_o0_2_e0_10),C (I x_o0_3_e0_10),Z (W 1 eI x_o0_4_e0_10),C (V x_o0_5_e0_10),Z (W 1 eI x_o0_6_e0_10),C (I x_o0_7_e0_10),C (I x_o0_8_e0_10),C (I x_o0_9_e0_10)])] | (.inr r2)=>p.1= .ret∧fin Try.prog cfg 124 Try.f124 [.ptr true [(.imm,W 1 (eL 1 eI) x_0.pairs),(.imm,I x_0.faces),(.imm,W 3 e_S_Veneer x_0.sheets),(.imm,I x_0.least),(.sh,W 1 eI x_0.shifts),(.imm,V x_0.first),(.sh,W 1 eI x_0.best),(.imm,I x_0.count),(.imm,I x_0.nodes),(.imm,I x_0.budget)]] p.2=some ([(false,[.im 0 (V r2.1)])],[.ptr true [(.imm,W 1 (eL 1 eI) r2.2.pairs),(.imm,I r2.2.faces),(.imm,W 3 e_S_Veneer r2.2.sheets),(.imm,I r2.2.least),(.sh,W 1 eI r2.2.shifts),(.imm,V r2.2.first),(.sh,W 1 eI r2.2.best),(.imm,I r2.2.count),(.imm,I r2.2.nodes),(.imm,I r2.2.budget)]])) hl (by kernel_rfl) ?_ ?_ ?_
   ·intro o p hp e
    rcases o with ⟨x_o0_0_e0_10,x_o0_1_e0_10,x_o0_2_e0_10,x_o0_3_e0_10,x_o0_4_e0_10,x_o0_5_e0_10,x_o0_6_e0_10,x_o0_7_e0_10,x_o0_8_e0_10,x_o0_9_e0_10⟩ | r2<;>exact nomatch (hp.1.symm.trans e)
   ·rintro ⟨s_3_l10,x_o0_0_l10,x_o0_1_l10,x_o0_2_l10,x_o0_3_l10,x_o0_4_l10,x_o0_5_l10,x_o0_6_l10,x_o0_7_l10,x_o0_8_l10,x_o0_9_l10⟩ o h
    unfold spec_l15Search_visit_l10 at h
    dsimp only at h
    refine gs<|gs<|g0 j j (q (oMv j j)<|q (oMv j j)<|q (oNl j j j)<|q (oFA (r':=.mp 0 0 2) j fF110_2 j j)<|q (oLd (cs:=[.im 1 _]) j tF42 j j)<|q (oLnI j j uF42 j)<|q (oBi j j j j)<|nl)<|us<|gc h j iDec (fun hc14 h=>?_) fun hc14 h=>?_
    ·refine Go.skip<|us<|gs<|Go.block<|gs<|?_
     obtain ⟨x72,hx72,h⟩:=bs h
     refine g0 j j (q (oMv j j)<|q (oMv j j)<|q (oNl j j j)<|q (oFA (r':=.mp 0 0 4) j fF110_4 j j)<|q (oLd (cs:=[.own 0 0 4]) j tF28 j j)<|q (oMv j j)<|q (oBS (es:=List.map eI ([s_3_l10]:List Int)) j sF28 j (ptC j (fxI fx0) j pt0) (flat0 j fun _=>j))<|q (oApO (en:=eI) (M:=([s_3_l10]:List Int)) j hx72 j sF28 j j uF28 (.inl ⟨_,j⟩) j j j j (el_own j j) (flat0 j fun _=>j))<|q (oNl j j j)<|q (oFA (r':=.mp 0 0 4) j fF110_4 j j)<|q (oSt tF28 j j j (tkO j j tk0) j j j)<|nl)<|us<|gs<|?_
     obtain ⟨x76,hx76,h⟩:=bs h
     obtain ⟨⟨further_4_m13,x_o0_0_m13,x_o0_1_m13,x_o0_2_m13,x_o0_3_m13,x_o0_4_m13,x_o0_5_m13,x_o0_6_m13,x_o0_7_m13,x_o0_8_m13,x_o0_9_m13⟩,hm17,h⟩:=bs h
     dsimp only at h
     refine gX c124 j j (st1:=mk [(0,M 0),(3,iv s_3_l10)] [(0,Od [Ct 1 (W 1 (eL 1 eI) x_o0_0_l10),C (I x_o0_1_l10),Ct 1 (W 3 e_S_Veneer x_o0_2_l10),C (I x_o0_3_l10),Z (W 1 eI x72),C (V x_o0_5_l10),Z (W 1 eI x_o0_6_l10),C (I x_o0_7_l10),C (I x_o0_8_l10),C (I x_o0_9_l10)])]) (by kernel_rfl) (mk [(0,M 0),(3,iv s_3_l10),(4,bv further_4_m13)] [(0,Od [Ct 1 (W 1 (eL 1 eI) x_o0_0_m13),C (I x_o0_1_m13),Ct 1 (W 3 e_S_Veneer x_o0_2_m13),C (I x_o0_3_m13),Z (W 1 eI x_o0_4_m13),C (V x_o0_5_m13),Z (W 1 eI x_o0_6_m13),C (I x_o0_7_m13),C (I x_o0_8_m13),C (I x_o0_9_m13)])]) ?_ ?_
     ·refine xq (oMv j j)<|xq (oCa (xs:=[.v false [.mp 0 0 0]]) (vs:=[(false,[.im 0 _])]) (v:=.v false [.im 0 _]) (L_spec_l15Search_fits hx76) (.inl j) j kF164_106 j (ppC j pp0) j j pb0 j j j)<|xq (oUn j j j)<|xq (oMv j j)<|?_
      refine ic hm17 (fun hc15 hm17=>?_) fun hc15 hm17=>?_
      ·obtain ⟨x80,hx80,hm17⟩:=bs hm17
       cases hm17
       exact xqT j j (nF (iR.2 hc15)) (oMv j j)<|xqT j j (nF (iR.2 hc15)) (oCa (xs:=[.v false [.mp 0 0 0]]) (vs:=[(false,[.im 0 _])]) (v:=.v false [.im 0 _]) (ih hx80) (.inl j) j kF124_106 j (ppPx (ob':=⟨0,0,true,true,false,true,[Ct 1 (W 1 (eL 1 eI) x_o0_0_l10),C (I x_o0_1_l10),Ct 1 (W 3 e_S_Veneer x_o0_2_l10),C (I x_o0_3_l10),Z (W 1 eI x72),C (V x_o0_5_l10),Z (W 1 eI x_o0_6_l10),C (I x_o0_7_l10),C (I x_o0_8_l10),C (I x_o0_9_l10)]⟩) j j j (by kernel_rfl) pp0) j j (pbPx (ob':=⟨0,1,true,true,false,true,[⟨.imm,1,1,W 1 (eL 1 eI) x80.2.pairs⟩,⟨.imm,1,0,I x80.2.faces⟩,⟨.imm,1,1,W 3 e_S_Veneer x80.2.sheets⟩,⟨.imm,1,0,I x80.2.least⟩,⟨.sh,1,0,W 1 eI x80.2.shifts⟩,⟨.imm,1,0,V x80.2.first⟩,⟨.sh,1,0,W 1 eI x80.2.best⟩,⟨.imm,1,0,I x80.2.count⟩,⟨.imm,1,0,I x80.2.nodes⟩,⟨.imm,1,0,I x80.2.budget⟩]⟩) j j (by kernel_rfl) pb0) j j j)<|xq (oPkF j j (nF (iR.2 hc15)) j)<|xq (oAsI j j)<|xn
      ·cases hm17
       exact xsgF j j (nT (byF iR hc15)) j<|xsgF j j (nT (byF iR hc15)) j<|xq (oPkT j j (nT (byF iR hc15)) j)<|xq (oAsI j j)<|xn
     ·refine us<|gs<|?_
      obtain ⟨x93,hx93,h⟩:=bs h
      refine gd c124 j j j j (mk [(0,M 0),(3,iv s_3_l10),(4,bv further_4_m13)] [(0,Od [Ct 1 (W 1 (eL 1 eI) x_o0_0_m13),C (I x_o0_1_m13),Ct 1 (W 3 e_S_Veneer x_o0_2_m13),C (I x_o0_3_m13),Z (W 1 eI ((x_o0_4_m13.take ((w64 ((x_o0_4_m13.length:Int) - 1)).toNat)).drop 0)),C (V x_o0_5_m13),Z (W 1 eI x_o0_6_m13),C (I x_o0_7_m13),C (I x_o0_8_m13),C (I x_o0_9_m13)])]) (t j j (oMv j j)<|t j j (oMv j j)<|t j j (oNl j j j)<|t j j (oFA (r':=.mp 0 0 4) j fF110_4 j j)<|t j j (oLd (cs:=[.own 0 0 4]) j tF28 j j)<|t j j (oMv j j)<|t j j (oNl j j j)<|t j j (oFA (r':=.mp 0 0 4) j fF110_4 j j)<|t j j (oLd (cs:=[.own 0 0 4]) j tF28 j j)<|t j j (oLnO j j uF28 j j j (fun e=>nomatch e))<|t j j (oBi j j j j)<|sS (dN z124 j (oSlO j hx93 sF28 j j j bn0 (bn1 j) j j j)) trivial (t j j (oNl j j j)<|t j j (oFA (r':=.mp 0 0 4) j fF110_4 j j)<|sS (dN z124 j (oSt tF28 j j j (tkSM j j tk0) j j j)) trivial (sD (by kernel_rfl))))<|us<|gs<|g0 j j (q (oMv j j)<|q (oUn j j j)<|nl)<|us<|?_
      by_cases hc16:further_4_m13=true
      ·rw [if_pos hc16] at h
       refine gF j (nF (iR.2 hc16))<|Go.skip<|Unw.blk<|us<|g0 j j (q (oMv j j)<|q (oBi j j j j)<|q (oAsI j j)<|nl)<|Unw.nil<|?_
       cases h
       exact ⟨j,(by kernel_rfl)⟩
      ·rw [if_neg hc16] at h
       refine gT j (nT (byF iR hc16))<|gs<|g0 j j (q (oAsI j j)<|nl)<|us<|Go.ret (Unw.ret ?_)
       cases h
       exact ⟨j,(fo rF124 j)⟩
    ·refine Go.exit<|ux<|Unw.nil<|?_
     cases h
     exact ⟨j,(by kernel_rfl)⟩
   ·rintro ⟨e,st⟩ hp
    rcases o with ⟨x_o0_0_e0_10,x_o0_1_e0_10,x_o0_2_e0_10,x_o0_3_e0_10,x_o0_4_e0_10,x_o0_5_e0_10,x_o0_6_e0_10,x_o0_7_e0_10,x_o0_8_e0_10,x_o0_9_e0_10⟩ | r2
    ·dsimp only at h
     obtain ⟨he,hst⟩:=hp
     obtain rfl:e= .exit 0:=he
     refine Unw.blkx<|us<|gs<|g2 c124 j j hst (q (oAsI j j)<|nl)<|us<|Go.ret (Unw.ret ?_)
     cases h
     exact fr rF124 j
    ·dsimp only at h
     obtain ⟨he,hfin⟩:=hp
     obtain rfl:e= .ret:=he
     cases h
     exact Unw.ret (Fin_ret hfin)
theorem L_spec_l15Search_visit {x_0:S_l15Search} {r:(Bool×S_l15Search)} (h:spec_l15Search_visit x_0=some r):FX 124 [.ptr true [(.imm,W 1 (eL 1 eI) x_0.pairs),(.imm,I x_0.faces),(.imm,W 3 e_S_Veneer x_0.sheets),(.imm,I x_0.least),(.sh,W 1 eI x_0.shifts),(.imm,V x_0.first),(.sh,W 1 eI x_0.best),(.imm,I x_0.count),(.imm,I x_0.nodes),(.imm,I x_0.budget)]] ([(false,[.im 0 (V r.1)])],[.ptr true [(.imm,W 1 (eL 1 eI) r.2.pairs),(.imm,I r.2.faces),(.imm,W 3 e_S_Veneer r.2.sheets),(.imm,I r.2.least),(.sh,W 1 eI r.2.shifts),(.imm,V r.2.first),(.sh,W 1 eI r.2.best),(.imm,I r.2.count),(.imm,I r.2.nodes),(.imm,I r.2.budget)]]):=by
 unfold spec_l15Search_visit at h
 obtain ⟨n,hn⟩:=fixO_iter h
 clear h
 induction n generalizing x_0 r with
 | zero=>cases hn
 | succ n ihn=>exact L_spec_l15Search_visit_F (self:=iterO _ n) (fun h=>ihn h) hn
theorem L_spec_l15Run {d_0:S_Drawing} {sheets_1:(List S_Veneer)} {least_2:Int} {budget_3:Int} {first_4:Bool} {r:((Option S_l15Search)×Int)} (h:spec_l15Run d_0 sheets_1 least_2 budget_3 first_4=some r):FX 68 [.im 2 false [.cp (u_S_Drawing d_0) 0],.im 2 false [W 3 e_S_Veneer sheets_1],.im 2 false [I least_2],.im 2 false [I budget_3],.im 2 false [V first_4]] (B0 [(false,[.im (tagOf 2 (eO e_S_l15Search r.1)) (eO e_S_l15Search r.1)]),(false,[.im 0 (I r.2)])]):=by
 unfold spec_l15Run at h
 refine gn 51 Try.func68 rfl ?_
 refine gs<|g0 j j (q (oAsI j j)<|q (oAsI j j)<|nl)<|us<|gs<|gs<|?_
 obtain ⟨x14,hx14,h⟩:=bs h
 obtain ⟨t_20_m1,hm7,h⟩:=bs h
 refine gX c68 j j j (mk [(0,D 2 (.cp (u_S_Drawing d_0) 0)),(1,D 2 (W 3 e_S_Veneer sheets_1)),(2,iv least_2),(3,iv budget_3),(4,bv first_4),(20,bv t_20_m1)] []) ?_ ?_
 ·refine xq (oMv j j)<|xq (oCa (xs:=[.v false [.im 2 _]]) (vs:=[(false,[.im 0 _])]) (v:=.v false [.im 0 _]) (L_spec_l05Ok hx14) (.inl j) j kF51_81 j (ppC j pp0) j j pb0 j j j)<|xq (oUn j j j)<|xq (oMv j j)<|?_
  refine ic hm7 (fun hc1 hm7=>?_) fun hc1 hm7=>?_
  ·obtain ⟨x18,hx18,hm7⟩:=bs hm7
   cases hm7
   exact xqT j j (nF (iR.2 hc1)) (oMv j j)<|xqT j j (nF (iR.2 hc1)) (oCa (xs:=[.v false [.im 2 _]]) (vs:=[(false,[.im 0 _])]) (v:=.v false [.im 0 _]) (L_spec_l15Sheets hx18) (.inl j) j kF122_42 j (ppC j pp0) j j pb0 j j j)<|xqT j j (nF (iR.2 hc1)) (oUn j j j)<|xq (oPkF j j (nF (iR.2 hc1)) j)<|xn
  ·cases hm7
   exact xsgF j j (nT (byF iR hc1)) j<|xsgF j j (nT (byF iR hc1)) j<|xsgF j j (nT (byF iR hc1)) j<|xq (oPkT j j (nT (byF iR hc1)) j)<|xn
 ·refine us<|gc h j iR (fun hc2 h=>?_) fun hc2 h=>?_
  ·refine gs<|g0 j j (q (oAsI j j)<|q (oAsI j j)<|nl)<|us<|Go.ret (Unw.ret ?_)
   cases h
   exact fr rF68 j
  ·refine Go.skip<|us<|gs<|gs<|?_
   obtain ⟨x22,hx22,h⟩:=bs h
   obtain ⟨t_28_m3,hm6,h⟩:=bs h
   refine gX c68 j j j (mk [(0,D 2 (.cp (u_S_Drawing d_0) 0)),(1,D 2 (W 3 e_S_Veneer sheets_1)),(2,iv least_2),(3,iv budget_3),(4,bv first_4),(28,bv t_28_m3)] []) ?_ ?_
   ·refine xq (oMv j j)<|xq (oCa (xs:=[.v false [.im 0 _],.v false [.im 0 _],.v false [.im 0 _]]) (vs:=[(false,[.im 0 _])]) (v:=.v false [.im 0 _]) (L_spec_l00In hx22) (.inl j) j kF97_2_2_2 j (ppC j (ppC j (ppC j pp0))) j j pb0 j j j)<|xq (oUn j j j)<|xq (oMv j j)<|?_
    refine ic hm6 (fun hc3 hm6=>?_) fun hc3 hm6=>?_
    ·obtain ⟨x26,hx26,hm6⟩:=bs hm6
     cases hm6
     exact xqT j j (nF (iR.2 hc3)) (oMv j j)<|xqT j j (nF (iR.2 hc3)) (oCa (xs:=[.v false [.im 0 _],.v false [.im 0 _],.v false [.im 0 _]]) (vs:=[(false,[.im 0 _])]) (v:=.v false [.im 0 _]) (L_spec_l00In hx26) (.inl j) j kF97_2_2_2 j (ppC j (ppC j (ppC j pp0))) j j pb0 j j j)<|xqT j j (nF (iR.2 hc3)) (oUn j j j)<|xq (oPkF j j (nF (iR.2 hc3)) j)<|xn
    ·cases hm6
     exact xsgF j j (nT (byF iR hc3)) j<|xsgF j j (nT (byF iR hc3)) j<|xsgF j j (nT (byF iR hc3)) j<|xq (oPkT j j (nT (byF iR hc3)) j)<|xn
   ·refine us<|gc h j iR (fun hc4 h=>?_) fun hc4 h=>?_
    ·refine gs<|g0 j j (q (oAsI j j)<|q (oAsI j j)<|nl)<|us<|Go.ret (Unw.ret ?_)
     cases h
     exact fr rF68 j
    ·refine Go.skip<|us<|gs<|?_
     obtain ⟨x30,hx30,h⟩:=bs h
     refine gd c68 j j j j (mk [(3,iv budget_3),(12,M 41)] [(41,Oa [Z (W 1 (eL 1 eI) x30),C (I (d_0.Faces.length:Int)),Ct 2 (W 3 e_S_Veneer sheets_1),C (I least_2),Z (W 1 eI ([]:List Int)),C (V first_4),Z (W 1 eI ([]:List Int)),C (I 0),C (I 0),C (I budget_3)])]) (t j j (oMv j j)<|t j j (oMv j j)<|t j j (oNl j j j)<|t j j (oFA (r':=.im 2 _) j fF26_3 j j)<|t j j (oLd (cs:=[.im 2 _]) j tF24 j j)<|t j j (oLnI j j uF24 j)<|t j j (oMv j j)<|t j j (oMv j j)<|t j j (oMv j j)<|t j j (oMv j j)<|sS (dN z68 j (oCr (xs:=[.v false [.im 2 _]]) (vs:=[(false,[.own 30 0 0])]) (v:=.v false [.own 30 0 0]) (c:=⟨.sh,0,_⟩) (cs:=[]) (L_spec_l15Pairs hx30) (.inl j) j kF123_81 j (ppC j pp0) j j pb0 j j j)) trivial (sS (dN z68 j (oBu (cs:=[.own 30 0 0,.im 0 _,.im 2 _,.im 0 _,.nil,.im 0 _,.nil,.im 0 _,.im 0 _,.im 0 _]) j bF110 j)) trivial (sS (dN z68 j (oBx j tF110 j (tkO j j (tkI (tkI (tkI (tkN (tkI (tkN (tkI (tkI (tkI tk0)))))))))))) trivial (sS (dN z68 j (oAsP j j)) trivial (sD (by kernel_rfl))))))<|us<|gs<|?_
     obtain ⟨x43,hx43,h⟩:=bs h
     refine g0 j j (q (oMv j j)<|q (oCa (xs:=[.v false [.mp 41 0 0]]) (vs:=[(false,[.im 0 _])]) (v:=.v false [.im 0 _]) (L_spec_l15Search_visit hx43) (.inl j) j kF124_106 j (ppPx (ob':=⟨0,0,false,true,false,true,[C (W 1 (eL 1 eI) x30),C (I (d_0.Faces.length:Int)),Ct 2 (W 3 e_S_Veneer sheets_1),C (I least_2),Z (W 1 eI ([]:List Int)),C (V first_4),Z (W 1 eI ([]:List Int)),C (I 0),C (I 0),C (I budget_3)]⟩) j j j (by kernel_rfl) pp0) j j (pbPx (ob':=⟨0,1,false,true,false,true,[⟨.imm,1,2,W 1 (eL 1 eI) x43.2.pairs⟩,⟨.imm,1,0,I x43.2.faces⟩,⟨.imm,1,2,W 3 e_S_Veneer x43.2.sheets⟩,⟨.imm,1,0,I x43.2.least⟩,⟨.sh,1,0,W 1 eI x43.2.shifts⟩,⟨.imm,1,0,V x43.2.first⟩,⟨.sh,1,0,W 1 eI x43.2.best⟩,⟨.imm,1,0,I x43.2.count⟩,⟨.imm,1,0,I x43.2.nodes⟩,⟨.imm,1,0,I x43.2.budget⟩]⟩) j j (by kernel_rfl) pb0) j j j)<|nl)<|us<|gs<|gs<|g1 j j (mk [(3,iv budget_3),(12,M 41)] [(41,Oa [Ct 2 (W 1 (eL 1 eI) x43.2.pairs),C (I x43.2.faces),Ct 2 (W 3 e_S_Veneer x43.2.sheets),C (I x43.2.least),Z (W 1 eI x43.2.shifts),C (V x43.2.first),Z (W 1 eI x43.2.best),C (I x43.2.count),C (I x43.2.nodes),C (I x43.2.budget)])]) (q (oMv j j)<|q (oNl j j j)<|q (oFA (r':=.mp 41 0 8) j fF110_8 j j)<|q (oLd (cs:=[.im 0 _]) j tF2 j j)<|q (oMv j j)<|q (oBi j j j j)<|nl)<|us<|gc h j iDec (fun hc5 h=>?_) fun hc5 h=>?_
     ·refine gs<|g0 j j (q (oAsI j j)<|q (oAsI j j)<|nl)<|us<|Go.ret (Unw.ret ?_)
      cases h
      exact fr rF68 j
     ·refine Go.skip<|us<|gs<|g0 j j (q (oMv j j)<|q (oAsP j j)<|q (oAsI j j)<|nl)<|us<|Go.ret (Unw.ret ?_)
      cases h
      exact fr rF68 j
theorem L_spec_FirstShifts {d_0:S_Drawing} {sheets_1:(List S_Veneer)} {least_2:Int} {budget_3:Int} {r:((List Int)×Int)} (h:spec_FirstShifts d_0 sheets_1 least_2 budget_3=some r):FX 25 [.im 2 true (u_S_Drawing d_0),.im 2 false [W 3 e_S_Veneer sheets_1],.im 2 false [I least_2],.im 2 false [I budget_3]] (B0 [(false,[.ow 0 1 (List.map eI r.1)]),(false,[.im 0 (I r.2)])]):=by
 unfold spec_FirstShifts at h
 refine gn 32 Try.func25 rfl ?_
 refine gs<|g0 j j (sqf z25 j (oBx j tF26 j (tkI (tkI (tkI (tkI tk0))))) (frzM j j j j)<|sqn z25 j (oAsN j j eF28)<|sqn z25 j (oAsI j j)<|nl)<|us<|gs<|?_
 obtain ⟨x16,hx16,h⟩:=bs h
 refine g1 j j (mk [(1,D 2 (W 3 e_S_Veneer sheets_1)),(2,iv least_2),(3,iv budget_3),(4,D 2 (.cp (u_S_Drawing d_0) 0))] []) (sqn z25 j (oMv j j)<|sqn z25 j (oMv j j)<|sqn z25 j (oMv j j)<|sqn z25 j (oCa (xs:=[.v false [.im 2 _],.v false [.im 2 _],.v false [.im 0 _],.v false [.im 0 _],.v false [.im 0 _]]) (vs:=[(false,[.im (tagOf 2 (eO e_S_l15Search x16.1)) (eO e_S_l15Search x16.1)]),(false,[.im 0 (I x16.2)])]) (v:=.tup [(false,[.im _ _]),(false,[.im 0 _])]) (L_spec_l15Run hx16) (.inl j) j kF68_81_42_2_2_4 j (ppC j (ppC j (ppC j (ppC j (ppC j pp0))))) j j pb0 j (by cases x16.1<;>kernel_rfl) j)<|sqn z25 j (oMvT j j)<|sqn z25 j (oEx j j j)<|sqn z25 j (oEx j j j)<|sqn z25 j (oAsI j j)<|sqn z25 j (oAsI j j)<|nl)<|us<|gs<|gs<|g0 j j (sqn z25 j (oMv j j)<|sqn z25 j (oBi j j j j)<|nl)<|us<|gc h j iNe (fun hc1 h=>?_) fun hc1 h=>?_
 ·refine gs<|g0 j j (sqn z25 j (oMv j j)<|sqn z25 j (oAsN j j eF28)<|sqn z25 j (oAsI j j)<|nl)<|us<|Go.ret (Unw.ret ?_)
  cases h
  exact fr rF25 j
 ·refine Go.skip<|us<|gs<|gs<|?_
  revert h
  cases x16.1 with
  | none=>
   intro h
   cases h
  | some ohc2=>
   intro h
   refine g0 j j (sqn z25 j (oMv j j)<|sqn z25 j (oNl j j j)<|sqn z25 j (oFA (r':=.im _ _) j fF110_7 j j)<|sqn z25 j (oLd (cs:=[.im _ _]) j tF2 j j)<|sqn z25 j (oBi j j j j)<|nl)<|us<|gc h j iEq (fun hc3 h=>?_) fun hc3 h=>?_
   ·refine gs<|g0 j j (sqn z25 j (oAsN j j eF28)<|sqn z25 j (oAsI j j)<|nl)<|us<|Go.ret (Unw.ret ?_)
    cases h
    exact fr rF25 j
   ·refine Go.skip<|us<|gs<|?_
    obtain ⟨x31,hx31,h⟩:=bs h
    refine g0 j j (sqn z25 j (oMv j j)<|sqn z25 j (oNl j j j)<|sqn z25 j (oFA (r':=.im _ _) j fF110_6 j j)<|sqn z25 j (oLd (cs:=[.im _ _]) j tF28 j j)<|sqn z25 j (oCr (xs:=[.v false [.im _ _]]) (vs:=[(false,[.own 31 0 0])]) (v:=.v false [.own 31 0 0]) (c:=⟨.sh,0,_⟩) (cs:=[]) (L_spec_l00Own hx31) (.inl j) j kF69_28 j (ppC j pp0) j j pb0 j j j)<|sqn z25 j (oAsO j j j j j)<|sqn z25 j (oAsI j j)<|nl)<|us<|Go.ret (Unw.ret ?_)
    cases h
    exact fr rF25 j
theorem L_impl_within {n_0:Int} {low_1:Int} {high_2:Int} {r:Bool} (h:impl_within n_0 low_1 high_2=some r):FX 79 [.im 2 false [I n_0],.im 2 false [I low_1],.im 2 false [I high_2]] (B0 [(false,[.im 0 (V r)])]):=by
 unfold impl_within at h
 refine gn 15 Try.func79 rfl ?_
 refine gs<|g0 j j (q (oAsI j j)<|nl)<|us<|gs<|gX c79 j j j (mk [(6,bv ((decide (n_0≥low_1))&&(decide (n_0≤high_2))))] []) ?_ ?_
 ·refine xq (oMv j j)<|xq (oMv j j)<|xq (oBi j j j j)<|xq (oMv j j)<|?_
  by_cases hc1:n_0≥low_1
  ·exact xqT rfl rfl (iDec.2 hc1) (oMv rfl rfl)<|xqT rfl rfl (iDec.2 hc1) (oMv rfl rfl)<|xqT rfl rfl (iDec.2 hc1) (oBi rfl rfl rfl rfl)<|xq (oPkT rfl rfl (iDec.2 hc1) rfl)<|xq (oAsI rfl rfl)<|xn (Eq.trans (b:=(fun t_6_m1:Bool=>mk [(6,bv t_6_m1)] []) (decide (n_0≤high_2))) (by kernel_rfl) (congrArg (fun t_6_m1:Bool=>mk [(6,bv t_6_m1)] []) (by first | rfl | (simp [(iDec.2 hc1)];done) | (simp [(iDec.2 hc1)];omega))))
  ·exact xsgF rfl rfl (byF iDec hc1) rfl<|xsgF rfl rfl (byF iDec hc1) rfl<|xsgF rfl rfl (byF iDec hc1) rfl<|xq (oPkF rfl rfl (byF iDec hc1) rfl)<|xq (oAsI rfl rfl)<|xn (Eq.trans (b:=(fun t_6_m1:Bool=>mk [(6,bv t_6_m1)] []) false) (by kernel_rfl) (congrArg (fun t_6_m1:Bool=>mk [(6,bv t_6_m1)] []) (by first | rfl | (simp [(byF iDec hc1)];done) | (simp [(byF iDec hc1)];omega))))
 ·refine us<|Go.ret (Unw.ret ?_)
  cases h
  exact fr rF79 j
theorem L_slices_Index_impl_Point_impl_Point {s_0:(List S_Point)} {v_1:S_Point} {r:Int} (h:slices_Index_impl_Point_impl_Point s_0 v_1=some r):FX 149 [.im 2 false [W 2 e_S_Point s_0],.im 2 true (u_S_Point v_1)] (B0 [(false,[.im 0 (I r)])]):=by
 unfold slices_Index_impl_Point_impl_Point at h
 refine gn 19 Try.func149 rfl ?_
 refine gs<|g0 j j (q (oBx j tF155 j (tkI (tkI tk0)))<|q (oAsI j j)<|nl)<|us<|gs<|gs<|g0 j j (q (oMv j j)<|q (oLnI j j uF23 j)<|q (oMv j j)<|nl)<|us<|Go.block<|?_
 obtain ⟨o,hl,h⟩:=bs h
 refine gl c149 j _ (fun (t_8_l2:Int)=>mk [(0,D 2 (W 2 e_S_Point s_0)),(3,M 3),(7,iv (s_0.length:Int)),(8,iv t_8_l2)] [(3,Oa (G 0 (u_S_Point v_1)))]) (fun (o:(Unit ⊕ Int)) (p:Ex×St)=>match o with | (.inl _)=>p.1= .exit 0∧p.2.norm ([],[])=mk [] [] | (.inr r2)=>p.1= .ret∧fin Try.prog cfg 149 Try.f149 [.im 2 false [W 2 e_S_Point s_0],.im 2 true (u_S_Point v_1)] p.2=some (B0 [(false,[.im 0 (I r2)])])) hl (by kernel_rfl) ?_ ?_ ?_
 ·intro o p hp e
  rcases o with u | r2<;>exact nomatch (hp.1.symm.trans e)
 ·rintro t_8_l2 o h
  unfold slices_Index_impl_Point_impl_Point_l2 at h
  refine gs<|g0 j j (q (oBi j j j j)<|nl)<|us<|gs<|gc h j iDec (fun hc5 h=>?_) fun hc5 h=>?_
  ·refine Go.skip<|us<|gs<|Go.block<|gs<|g0 j j (q (oMv j j)<|q (oAsI j j)<|nl)<|us<|gs<|?_
   obtain ⟨x14,hx14,h⟩:=bs h
   refine gd c149 j j j j (mk [(0,D 2 (W 2 e_S_Point s_0)),(3,M 3),(5,iv t_8_l2),(7,iv (s_0.length:Int)),(8,iv t_8_l2),(16,bv ((v_1.X==x14.X)&&(v_1.Y==x14.Y)))] [(3,Oa (G 0 (u_S_Point v_1)))]) (t j j (oLd (cs:=[.im 0 _,.im 0 _]) j tF155 j j)<|t j j (oMv j j)<|t j j (oMv j j)<|t j j (oIAI j hx14 sF23 j j)<|t j j (oLd (cs:=[.im 2 _,.im 2 _]) j tF155 j j)<|t j j (oBa j (qEF155 v_1.X v_1.Y x14.X x14.Y) j j j j)<|sD (by kernel_rfl))<|us<|gc h j (iAnd iEq iEq) (fun hc6 h=>?_) fun hc6 h=>?_
   ·refine gs<|g0 j j (q (oMv j j)<|q (oAsI j j)<|nl)<|us<|Go.ret (Unw.ret ?_)
    cases h
    exact ⟨j,(fo rF149 j)⟩
   ·refine Go.skip<|Unw.blk<|us<|g0 j j (q (oBi j j j j)<|q (oMv j j)<|nl)<|Unw.nil<|?_
    cases h
    exact ⟨j,(by kernel_rfl)⟩
  ·refine Go.exit<|ux<|Unw.nil<|?_
   cases h
   exact ⟨j,(by kernel_rfl)⟩
 ·rintro ⟨e,st⟩ hp
  rcases o with u | r2
  ·dsimp only at h
   obtain ⟨he,hst⟩:=hp
   obtain rfl:e= .exit 0:=he
   refine Unw.blkx<|us<|gs<|g2 c149 j j hst (q (oAsI j j)<|nl)<|us<|Go.ret (Unw.ret ?_)
   cases h
   exact fr rF149 j
  ·dsimp only at h
   obtain ⟨he,hfin⟩:=hp
   obtain rfl:e= .ret:=he
   cases h
   exact Unw.ret (Fin_ret hfin)
theorem L_slices_Contains_impl_Point_impl_Point {s_0:(List S_Point)} {v_1:S_Point} {r:Bool} (h:slices_Contains_impl_Point_impl_Point s_0 v_1=some r):FX 105 [.im 2 false [W 2 e_S_Point s_0],.im 2 true (u_S_Point v_1)] (B0 [(false,[.im 0 (V r)])]):=by
 unfold slices_Contains_impl_Point_impl_Point at h
 refine gn 9 Try.func105 rfl ?_
 refine gs<|g0 j j (q (oBx j tF155 j (tkI (tkI tk0)))<|q (oAsI j j)<|nl)<|us<|gs<|?_
 obtain ⟨x7,hx7,h⟩:=bs h
 refine g0 j j (q (oMv j j)<|q (oLd (cs:=[.im 0 _,.im 0 _]) j tF155 j j)<|q (oCa (xs:=[.v false [.im 2 _],.v true [.im 0 _,.im 0 _]]) (vs:=[(false,[.im 0 _])]) (v:=.v false [.im 0 _]) (L_slices_Index_impl_Point_impl_Point hx7) (.inl j) j kF149_23_155 j (ppC j (ppC j pp0)) j j pb0 j j j)<|q (oBi j j j j)<|q (oAsI j j)<|nl)<|us<|Go.ret (Unw.ret ?_)
 cases h
 exact fr rF105 j
theorem L_impl_IsName {s_0:ByteArray} {r:Bool} (h:impl_IsName s_0=some r):FX 106 [.im 2 false [Y s_0]] (B0 [(false,[.im 0 (V r)])]):=by
 unfold impl_IsName at h
 refine gn 50 Try.func106 rfl ?_
 refine gs<|g0 j j (q (oAsI j j)<|nl)<|us<|gs<|gs<|?_
 obtain ⟨t_21_m1,hm26,h⟩:=bs h
 refine gX c106 j j j (mk [(0,sv s_0),(21,bv t_21_m1)] []) ?_ ?_
 ·refine xq (oMv j j)<|xq (oLnS j j uF9 j)<|xq (oBi j j j j)<|xq (oMv j j)<|?_
  refine ic hm26 (fun hc1 hm26=>?_) fun hc1 hm26=>?_
  ·cases hm26
   exact xsgF j j (iDec.2 hc1) j<|xsgF j j (iDec.2 hc1) j<|xsgF j j (iDec.2 hc1) j<|xq (oPkT j j (iDec.2 hc1) j)<|xq (oMv j j)<|xsgF j j j j<|xsgF j j j j<|xsgF j j j j<|xq (oPkT j j j j)<|xq (oMv j j)<|xsgF j j j j<|xsgF j j j j<|xsgF j j j j<|xq (oPkT j j j j)<|xn
  ·refine xqT j j (byF iDec hc1) (oMv j j)<|xqT j j (byF iDec hc1) (oLnS j j uF9 j)<|xqT j j (byF iDec hc1) (oBi j j j j)<|xq (oPkF j j (byF iDec hc1) j)<|xq (oMv j j)<|?_
   refine ic hm26 (fun hc2 hm26=>?_) fun hc2 hm26=>?_
   ·cases hm26
    exact xsgF j j (iDec.2 hc2) j<|xsgF j j (iDec.2 hc2) j<|xsgF j j (iDec.2 hc2) j<|xq (oPkT j j (iDec.2 hc2) j)<|xq (oMv j j)<|xsgF j j j j<|xsgF j j j j<|xsgF j j j j<|xq (oPkT j j j j)<|xn
   ·obtain ⟨x14,hx14,hm26⟩:=bs hm26
    refine xqT j j (byF iDec hc2) (oMv j j)<|xqT j j (byF iDec hc2) (oIx j hx14 uF9 j j)<|xqT j j (byF iDec hc2) (oBi j j j j)<|xq (oPkF j j (byF iDec hc2) j)<|xq (oMv j j)<|?_
    refine ic hm26 (fun hc3 hm26=>?_) fun hc3 hm26=>?_
    ·cases hm26
     exact xsgF j j (iDec.2 hc3) j<|xsgF j j (iDec.2 hc3) j<|xsgF j j (iDec.2 hc3) j<|xq (oPkT j j (iDec.2 hc3) j)<|xn
    ·obtain ⟨x19,hx19,hm26⟩:=bs hm26
     cases hm26
     exact xqT j j (byF iDec hc3) (oMv j j)<|xqT j j (byF iDec hc3) (oIx j hx19 uF9 j j)<|xqT j j (byF iDec hc3) (oBi j j j j)<|xq (oPkF j j (byF iDec hc3) j)<|xn
 ·refine us<|gc h j iR (fun hc4 h=>?_) fun hc4 h=>?_
  ·refine gs<|g0 j j (q (oAsI j j)<|nl)<|us<|Go.ret (Unw.ret ?_)
   cases h
   exact fr rF106 j
  ·refine Go.skip<|us<|gs<|gs<|g0 j j (q (oAsI j j)<|nl)<|us<|Go.block<|?_
   obtain ⟨o,hl,h⟩:=bs h
   refine gl c106 j _ (fun (i_3_l4:Int)=>mk [(0,sv s_0),(3,iv i_3_l4)] []) (fun (o:(Unit ⊕ Bool)) (p:Ex×St)=>match o with | (.inl _)=>p.1= .exit 0∧p.2.norm ([],[])=mk [] [] | (.inr r2)=>p.1= .ret∧fin Try.prog cfg 106 Try.f106 [.im 2 false [Y s_0]] p.2=some (B0 [(false,[.im 0 (V r2)])])) hl (by kernel_rfl) ?_ ?_ ?_
   ·intro o p hp e
    rcases o with u | r2<;>exact nomatch (hp.1.symm.trans e)
   ·rintro i_3_l4 o h
    unfold impl_IsName_l4 at h
    refine gs<|gs<|g0 j j (q (oMv j j)<|q (oMv j j)<|q (oLnS j j uF9 j)<|q (oBi j j j j)<|nl)<|us<|gc h j iDec (fun hc19 h=>?_) fun hc19 h=>?_
    ·refine Go.skip<|us<|gs<|Go.block<|gs<|?_
     obtain ⟨x30,hx30,h⟩:=bs h
     obtain ⟨t_49_m6,hm25,h⟩:=bs h
     refine gX c106 j j j (mk [(0,sv s_0),(3,iv i_3_l4),(49,bv t_49_m6)] []) ?_ ?_
     ·refine xq (oMv j j)<|xq (oMv j j)<|xq (oIx j hx30 uF9 j j)<|xq (oBi j j j j)<|xq (oMv j j)<|?_
      refine ic hm25 (fun hc20 hm25=>?_) fun hc20 hm25=>?_
      ·obtain ⟨x41,hx41,hm25⟩:=bs hm25
       refine xsgF j j (iDec.2 hc20) j<|xsgF j j (iDec.2 hc20) j<|xsgF j j (iDec.2 hc20) j<|xsgF j j (iDec.2 hc20) j<|xq (oPkT j j (iDec.2 hc20) j)<|xq (oMv j j)<|xqT j j j (oMv j j)<|xqT j j j (oMv j j)<|xqT j j j (oIx j hx41 uF9 j j)<|xqT j j j (oBi j j j j)<|xqT j j j (oMv j j)<|?_
       refine ic hm25 (fun hc21 hm25=>?_) fun hc21 hm25=>?_
       ·cases hm25
        exact xsgF j j (iDec.2 hc21) j<|xsgF j j (iDec.2 hc21) j<|xsgF j j (iDec.2 hc21) j<|xsgF j j (iDec.2 hc21) j<|xqT j j j (oPkT j j (iDec.2 hc21) j)<|xq (oPkT j j j j)<|xn
       ·obtain ⟨x46,hx46,hm25⟩:=bs hm25
        cases hm25
        exact xqT j j (byF iDec hc21) (oMv j j)<|xqT j j (byF iDec hc21) (oMv j j)<|xqT j j (byF iDec hc21) (oIx j hx46 uF9 j j)<|xqT j j (byF iDec hc21) (oBi j j j j)<|xqT j j j (oPkF j j (byF iDec hc21) j)<|xq (oPkT j j j j)<|xn
      ·obtain ⟨x35,hx35,hm25⟩:=bs hm25
       refine xqT j j (byF iDec hc20) (oMv j j)<|xqT j j (byF iDec hc20) (oMv j j)<|xqT j j (byF iDec hc20) (oIx j hx35 uF9 j j)<|xqT j j (byF iDec hc20) (oBi j j j j)<|xq (oPkF j j (byF iDec hc20) j)<|xq (oMv j j)<|?_
       refine ic hm25 (fun hc22 hm25=>?_) fun hc22 hm25=>?_
       ·obtain ⟨x41,hx41,hm25⟩:=bs hm25
        refine xqT j j (iDec.2 hc22) (oMv j j)<|xqT j j (iDec.2 hc22) (oMv j j)<|xqT j j (iDec.2 hc22) (oIx j hx41 uF9 j j)<|xqT j j (iDec.2 hc22) (oBi j j j j)<|xqT j j (iDec.2 hc22) (oMv j j)<|?_
        refine ic hm25 (fun hc23 hm25=>?_) fun hc23 hm25=>?_
        ·cases hm25
         exact xsgF j j (iDec.2 hc23) j<|xsgF j j (iDec.2 hc23) j<|xsgF j j (iDec.2 hc23) j<|xsgF j j (iDec.2 hc23) j<|xqT j j (iDec.2 hc22) (oPkT j j (iDec.2 hc23) j)<|xq (oPkT j j (iDec.2 hc22) j)<|xn
        ·obtain ⟨x46,hx46,hm25⟩:=bs hm25
         cases hm25
         exact xqT j j (byF iDec hc23) (oMv j j)<|xqT j j (byF iDec hc23) (oMv j j)<|xqT j j (byF iDec hc23) (oIx j hx46 uF9 j j)<|xqT j j (byF iDec hc23) (oBi j j j j)<|xqT j j (iDec.2 hc22) (oPkF j j (byF iDec hc23) j)<|xq (oPkT j j (iDec.2 hc22) j)<|xn
       ·cases hm25
        exact xsgF j j (byF iDec hc22) j<|xsgF j j (byF iDec hc22) j<|xsgF j j (byF iDec hc22) j<|xsgF j j (byF iDec hc22) j<|xsgF j j (byF iDec hc22) j<|xsgU j j j<|xsgU j j j<|xsgU j j j<|xsgU j j j<|xsgF j j (byF iDec hc22) j<|xq (oPkF j j (byF iDec hc22) j)<|xn
     ·refine us<|gc h j iR (fun hc24 h=>?_) fun hc24 h=>?_
      ·refine gs<|g0 j j (q (oAsI j j)<|nl)<|us<|Go.ret (Unw.ret ?_)
       cases h
       exact ⟨j,(fo rF106 j)⟩
      ·refine Go.skip<|Unw.blk<|us<|g0 j j (q (oMv j j)<|q (oBi j j j j)<|q (oAsI j j)<|nl)<|Unw.nil<|?_
       cases h
       exact ⟨j,(by kernel_rfl)⟩
    ·refine Go.exit<|ux<|Unw.nil<|?_
     cases h
     exact ⟨j,(by kernel_rfl)⟩
   ·rintro ⟨e,st⟩ hp
    rcases o with u | r2
    ·dsimp only at h
     obtain ⟨he,hst⟩:=hp
     obtain rfl:e= .exit 0:=he
     refine Unw.blkx<|us<|gs<|g2 c106 j j hst (q (oAsI j j)<|nl)<|us<|Go.ret (Unw.ret ?_)
     cases h
     exact fr rF106 j
    ·dsimp only at h
     obtain ⟨he,hfin⟩:=hp
     obtain rfl:e= .ret:=he
     cases h
     exact Unw.ret (Fin_ret hfin)
theorem L_impl_ringPolygon {points_0:(List S_Point)} {ring_1:(List Int)} {r:((List S_Point)×Bool)} (h:impl_ringPolygon points_0 ring_1=some r):FX 107 [.im 2 false [W 2 e_S_Point points_0],.im 2 false [W 1 eI ring_1]] (B0 [(false,[.ow 0 2 (List.map e_S_Point r.1)]),(false,[.im 0 (V r.2)])]):=by
 unfold impl_ringPolygon at h
 refine gn 31 Try.func107 rfl ?_
 refine gs<|g0 j j (q (oAsN j j eF23)<|q (oAsI j j)<|nl)<|us<|gs<|g0 j j (q (oBS (es:=List.map e_S_Point ([]:List S_Point)) j sF23 j pt0 (flat0 j fun _=>j))<|q (oAsO j j j j j)<|nl)<|us<|gs<|gs<|g0 j j (q (oMv j j)<|q (oLnI j j uF28 j)<|q (oMv j j)<|nl)<|us<|Go.block<|?_
 obtain ⟨o,hl,h⟩:=bs h
 refine gl c107 j _ (fun (s:(Int×(List S_Point)))=>match s with | (t_12_l3,out_o6_l3)=>mk [(0,D 2 (W 2 e_S_Point points_0)),(6,H 6 0),(10,D 2 (W 1 eI ring_1)),(11,iv (ring_1.length:Int)),(12,iv t_12_l3)] [(6,Oc [Z (W 2 e_S_Point out_o6_l3)])]) (fun (o:((List S_Point) ⊕ ((List S_Point)×Bool))) (p:Ex×St)=>match o with | (.inl out_o6_e0_3)=>p.1= .exit 0∧p.2.norm ([6],[6])=mk [(6,H 6 0)] [(6,Oc [Z (W 2 e_S_Point out_o6_e0_3)])] | (.inr r2)=>p.1= .ret∧fin Try.prog cfg 107 Try.f107 [.im 2 false [W 2 e_S_Point points_0],.im 2 false [W 1 eI ring_1]] p.2=some (B0 [(false,[.ow 0 2 (List.map e_S_Point r2.1)]),(false,[.im 0 (V r2.2)])])) hl (by kernel_rfl) ?_ ?_ ?_
 ·intro o p hp e
  rcases o with out_o6_e0_3 | r2<;>exact nomatch (hp.1.symm.trans e)
 ·rintro ⟨t_12_l3,out_o6_l3⟩ o h
  unfold impl_ringPolygon_l3 at h
  dsimp only at h
  refine gs<|g0 j j (q (oBi j j j j)<|nl)<|us<|gs<|gc h j iDec (fun hc5 h=>?_) fun hc5 h=>?_
  ·refine Go.skip<|us<|gs<|Go.block<|gs<|?_
   obtain ⟨x14,hx14,h⟩:=bs h
   refine g0 j j (q (oIAI j hx14 sF28 j j)<|q (oLd (cs:=[.im 2 _]) j tF2 j j)<|q (oAsI j j)<|nl)<|us<|gs<|gs<|?_
   obtain ⟨x20,hx20,h⟩:=bs h
   refine g0 j j (q (oMv j j)<|q (oMv j j)<|q (oLnI j j uF23 j)<|q (oBi j j j j)<|q (oCa (xs:=[.v false [.im 2 _],.v false [.im 0 _],.v false [.im 0 _]]) (vs:=[(false,[.im 0 _])]) (v:=.v false [.im 0 _]) (L_impl_within hx20) (.inl j) j kF79_2_2_2 j (ppC j (ppC j (ppC j pp0))) j j pb0 j j j)<|q (oUn j j j)<|nl)<|us<|?_
   by_cases hc6:x20=true
   ·rw [if_pos hc6] at h
    refine gF j (nF (iR.2 hc6))<|Go.skip<|us<|?_
    obtain ⟨x25,hx25,h⟩:=bs h
    obtain ⟨x28,hx28,h⟩:=bs h
    refine g0 j j (q (oMv j j)<|q (oMv j j)<|q (oMv j j)<|q (oIAI j hx25 sF23 j j)<|q (oLd (cs:=[.im 2 _,.im 2 _]) j tF155 j j)<|q (oBS (es:=List.map e_S_Point ([x25]:List S_Point)) j sF23 j (ptC j (fxI (fxI fx0)) j pt0) (flat0 j fun _=>j))<|q (oApO (en:=e_S_Point) (M:=([x25]:List S_Point)) j hx28 j sF23 j j uF23 (.inl ⟨_,j⟩) j j j j (el_own j j) (flat0 j fun _=>j))<|q (oAsO j j j j j)<|nl)<|Unw.blk<|us<|g0 j j (q (oBi j j j j)<|q (oMv j j)<|nl)<|Unw.nil<|?_
    cases h
    exact ⟨j,(by kernel_rfl)⟩
   ·rw [if_neg hc6] at h
    refine gT j (nT (byF iR hc6))<|gs<|g0 j j (q (oAsN j j eF23)<|q (oAsI j j)<|nl)<|us<|Go.ret (Unw.ret ?_)
    cases h
    exact ⟨j,(fo rF107 j)⟩
  ·refine Go.exit<|ux<|Unw.nil<|?_
   cases h
   exact ⟨j,(by kernel_rfl)⟩
 ·rintro ⟨e,st⟩ hp
  rcases o with out_o6_e0_3 | r2
  ·dsimp only at h
   obtain ⟨he,hst⟩:=hp
   obtain rfl:e= .exit 0:=he
   refine Unw.blkx<|us<|gs<|g2 c107 j j hst (q (oMv j j)<|q (oAsO j j j j j)<|q (oAsI j j)<|nl)<|us<|Go.ret (Unw.ret ?_)
   cases h
   exact fr rF107 j
  ·dsimp only at h
   obtain ⟨he,hfin⟩:=hp
   obtain rfl:e= .ret:=he
   cases h
   exact Unw.ret (Fin_ret hfin)
theorem L_impl_ValidPoint {p_0:S_Point} {r:Bool} (h:impl_ValidPoint p_0=some r):FX 177 [.im 2 true (u_S_Point p_0)] (B0 [(false,[.im 0 (V r)])]):=by
 unfold impl_ValidPoint at h
 refine gn 11 Try.func177 rfl ?_
 refine gs<|g0 j j (q (oBx j tF155 j (tkI (tkI tk0)))<|q (oAsI j j)<|nl)<|us<|gs<|?_
 obtain ⟨x5,hx5,h⟩:=bs h
 obtain ⟨t_2_m1,hm2,h⟩:=bs h
 refine gX c177 j j j (mk [(2,bv t_2_m1)] []) ?_ ?_
 ·refine xq (oFA (r':=.mp 1 0 0) j fF155_0 j j)<|xq (oLd (cs:=[.im 0 _]) j tF2 j j)<|xq (oCa (xs:=[.v false [.im 0 _],.v false [.im 0 _],.v false [.im 0 _]]) (vs:=[(false,[.im 0 _])]) (v:=.v false [.im 0 _]) (L_impl_within hx5) (.inl j) j kF79_2_2_2 j (ppC j (ppC j (ppC j pp0))) j j pb0 j j j)<|xq (oMv j j)<|?_
  refine ic hm2 (fun hc1 hm2=>?_) fun hc1 hm2=>?_
  ·obtain ⟨x9,hx9,hm2⟩:=bs hm2
   cases hm2
   exact xqT j j (iR.2 hc1) (oFA (r':=.mp 1 0 1) j fF155_1 j j)<|xqT j j (iR.2 hc1) (oLd (cs:=[.im 0 _]) j tF2 j j)<|xqT j j (iR.2 hc1) (oCa (xs:=[.v false [.im 0 _],.v false [.im 0 _],.v false [.im 0 _]]) (vs:=[(false,[.im 0 _])]) (v:=.v false [.im 0 _]) (L_impl_within hx9) (.inl j) j kF79_2_2_2 j (ppC j (ppC j (ppC j pp0))) j j pb0 j j j)<|xq (oPkT j j (iR.2 hc1) j)<|xq (oAsI j j)<|xn
  ·cases hm2
   exact xsgF j j (byF iR hc1) j<|xsgF j j (byF iR hc1) j<|xsgF j j (byF iR hc1) j<|xq (oPkF j j (byF iR hc1) j)<|xq (oAsI j j)<|xn
 ·refine us<|Go.ret (Unw.ret ?_)
  cases h
  exact fr rF177 j
theorem L_impl_validPoints {list_0:(List S_Point)} {r:Bool} (h:impl_validPoints list_0=some r):FX 150 [.im 2 false [W 2 e_S_Point list_0]] (B0 [(false,[.im 0 (V r)])]):=by
 unfold impl_validPoints at h
 refine gn 15 Try.func150 rfl ?_
 refine gs<|g0 j j (q (oAsI j j)<|nl)<|us<|gs<|gs<|g0 j j (q (oMv j j)<|q (oLnI j j uF23 j)<|q (oMv j j)<|nl)<|us<|Go.block<|?_
 obtain ⟨o,hl,h⟩:=bs h
 refine gl c150 j _ (fun (t_7_l2:Int)=>mk [(5,D 2 (W 2 e_S_Point list_0)),(6,iv (list_0.length:Int)),(7,iv t_7_l2)] []) (fun (o:(Unit ⊕ Bool)) (p:Ex×St)=>match o with | (.inl _)=>p.1= .exit 0∧p.2.norm ([],[])=mk [] [] | (.inr r2)=>p.1= .ret∧fin Try.prog cfg 150 Try.f150 [.im 2 false [W 2 e_S_Point list_0]] p.2=some (B0 [(false,[.im 0 (V r2)])])) hl (by kernel_rfl) ?_ ?_ ?_
 ·intro o p hp e
  rcases o with u | r2<;>exact nomatch (hp.1.symm.trans e)
 ·rintro t_7_l2 o h
  unfold impl_validPoints_l2 at h
  refine gs<|g0 j j (q (oBi j j j j)<|nl)<|us<|gs<|gc h j iDec (fun hc5 h=>?_) fun hc5 h=>?_
  ·refine Go.skip<|us<|gs<|Go.block<|gs<|?_
   obtain ⟨x9,hx9,h⟩:=bs h
   refine g0 j j (q (oIAI j hx9 sF23 j j)<|q (oLd (cs:=[.im 2 _,.im 2 _]) j tF155 j j)<|q (oAl j tF155 (tkI (tkI tk0)))<|q (oSt tF155 j j j (tkI (tkI tk0)) j j j)<|nl)<|us<|gs<|?_
   obtain ⟨x12,hx12,h⟩:=bs h
   refine g1 j j (mk [(4,M 4),(5,D 2 (W 2 e_S_Point list_0)),(6,iv (list_0.length:Int)),(7,iv t_7_l2)] [(4,Oa (G 0 (u_S_Point x9)))]) (q (oLd (cs:=[.im 0 _,.im 0 _]) j tF155 j j)<|q (oCa (xs:=[.v true [.im 0 _,.im 0 _]]) (vs:=[(false,[.im 0 _])]) (v:=.v false [.im 0 _]) (L_impl_ValidPoint hx12) (.inl j) j kF177_155 j (ppC j pp0) j j pb0 j j j)<|q (oUn j j j)<|nl)<|us<|?_
   by_cases hc6:x12=true
   ·rw [if_pos hc6] at h
    refine gF j (nF (iR.2 hc6))<|Go.skip<|Unw.blk<|us<|g0 j j (q (oBi j j j j)<|q (oMv j j)<|nl)<|Unw.nil<|?_
    cases h
    exact ⟨j,(by kernel_rfl)⟩
   ·rw [if_neg hc6] at h
    refine gT j (nT (byF iR hc6))<|gs<|g0 j j (q (oAsI j j)<|nl)<|us<|Go.ret (Unw.ret ?_)
    cases h
    exact ⟨j,(fo rF150 j)⟩
  ·refine Go.exit<|ux<|Unw.nil<|?_
   cases h
   exact ⟨j,(by kernel_rfl)⟩
 ·rintro ⟨e,st⟩ hp
  rcases o with u | r2
  ·dsimp only at h
   obtain ⟨he,hst⟩:=hp
   obtain rfl:e= .exit 0:=he
   refine Unw.blkx<|us<|gs<|g2 c150 j j hst (q (oAsI j j)<|nl)<|us<|Go.ret (Unw.ret ?_)
   cases h
   exact fr rF150 j
  ·dsimp only at h
   obtain ⟨he,hfin⟩:=hp
   obtain rfl:e= .ret:=he
   cases h
   exact Unw.ret (Fin_ret hfin)
theorem L_impl_side {a_0:S_Point} {b_1:S_Point} {c_2:S_Point} {r:Int} (h:impl_side a_0 b_1 c_2=some r):FX 178 [.im 2 true (u_S_Point a_0),.im 2 true (u_S_Point b_1),.im 2 true (u_S_Point c_2)] (B0 [(false,[.im 0 (I r)])]):=by
 unfold impl_side at h
 refine gn 37 Try.func178 rfl ?_
 refine gs<|g0 j j (q (oBx j tF155 j (tkI (tkI tk0)))<|q (oBx j tF155 j (tkI (tkI tk0)))<|q (oBx j tF155 j (tkI (tkI tk0)))<|q (oAsI j j)<|nl)<|us<|gs<|g0 j j (q (oFA (r':=.mp 4 0 0) j fF155_0 j j)<|q (oLd (cs:=[.im 0 _]) j tF2 j j)<|q (oFA (r':=.mp 3 0 0) j fF155_0 j j)<|q (oLd (cs:=[.im 0 _]) j tF2 j j)<|q (oBi j j j j)<|q (oFA (r':=.mp 5 0 1) j fF155_1 j j)<|q (oLd (cs:=[.im 0 _]) j tF2 j j)<|q (oFA (r':=.mp 3 0 1) j fF155_1 j j)<|q (oLd (cs:=[.im 0 _]) j tF2 j j)<|q (oBi j j j j)<|q (oBi j j j j)<|q (oFA (r':=.mp 4 0 1) j fF155_1 j j)<|q (oLd (cs:=[.im 0 _]) j tF2 j j)<|q (oFA (r':=.mp 3 0 1) j fF155_1 j j)<|q (oLd (cs:=[.im 0 _]) j tF2 j j)<|q (oBi j j j j)<|q (oFA (r':=.mp 5 0 0) j fF155_0 j j)<|q (oLd (cs:=[.im 0 _]) j tF2 j j)<|q (oFA (r':=.mp 3 0 0) j fF155_0 j j)<|q (oLd (cs:=[.im 0 _]) j tF2 j j)<|q (oBi j j j j)<|q (oBi j j j j)<|q (oBi j j j j)<|q (oAsI j j)<|nl)<|us<|gs<|Go.block<|gs<|g0 j j (q (oMv j j)<|q (oBi j j j j)<|q (oAsI j j)<|nl)<|us<|gc h j iDec (fun hc1 h=>?_) fun hc1 h=>?_
 ·refine gs<|g0 j j (q (oAsI j j)<|nl)<|us<|Go.ret (Unw.ret ?_)
  cases h
  exact fr rF178 j
 ·refine gs<|g0 j j (q (oMv j j)<|q (oBi j j j j)<|q (oAsI j j)<|nl)<|us<|gc h j iDec (fun hc2 h=>?_) fun hc2 h=>?_
  ·refine gs<|g0 j j (q (oAsI j j)<|nl)<|us<|Go.ret (Unw.ret ?_)
   cases h
   exact fr rF178 j
  ·refine Go.skip<|Unw.blk<|us<|gs<|g0 j j (q (oAsI j j)<|nl)<|us<|Go.ret (Unw.ret ?_)
   cases h
   exact fr rF178 j
theorem L_impl_on {a_0:S_Point} {b_1:S_Point} {p_2:S_Point} {r:Bool} (h:impl_on a_0 b_1 p_2=some r):FX 151 [.im 2 true (u_S_Point a_0),.im 2 true (u_S_Point b_1),.im 2 true (u_S_Point p_2)] (B0 [(false,[.im 0 (V r)])]):=by
 unfold impl_on at h
 refine gn 42 Try.func151 rfl ?_
 refine gs<|g0 j j (q (oBx j tF155 j (tkI (tkI tk0)))<|q (oBx j tF155 j (tkI (tkI tk0)))<|q (oBx j tF155 j (tkI (tkI tk0)))<|q (oAsI j j)<|nl)<|us<|gs<|?_
 obtain ⟨x10,hx10,h⟩:=bs h
 obtain ⟨t_6_m1,hm3,h⟩:=bs h
 refine gX c151 j j j (mk [(6,bv t_6_m1)] []) ?_ ?_
 ·refine xq (oLd (cs:=[.im 0 _,.im 0 _]) j tF155 j j)<|xq (oLd (cs:=[.im 0 _,.im 0 _]) j tF155 j j)<|xq (oLd (cs:=[.im 0 _,.im 0 _]) j tF155 j j)<|xq (oCa (xs:=[.v true [.im 0 _,.im 0 _],.v true [.im 0 _,.im 0 _],.v true [.im 0 _,.im 0 _]]) (vs:=[(false,[.im 0 _])]) (v:=.v false [.im 0 _]) (L_impl_side hx10) (.inl j) j kF178_155_155_155 j (ppC j (ppC j (ppC j pp0))) j j pb0 j j j)<|xq (oBi j j j j)<|xq (oMv j j)<|?_
  refine ic hm3 (fun hc1 hm3=>?_) fun hc1 hm3=>?_
  ·obtain ⟨x25,hx25,hm3⟩:=bs hm3
   refine xqT j j (iEq.2 hc1) (oFA (r':=.mp 5 0 0) j fF155_0 j j)<|xqT j j (iEq.2 hc1) (oLd (cs:=[.im 0 _]) j tF2 j j)<|xqT j j (iEq.2 hc1) (oFA (r':=.mp 3 0 0) j fF155_0 j j)<|xqT j j (iEq.2 hc1) (oLd (cs:=[.im 0 _]) j tF2 j j)<|xqT j j (iEq.2 hc1) (oFA (r':=.mp 4 0 0) j fF155_0 j j)<|xqT j j (iEq.2 hc1) (oLd (cs:=[.im 0 _]) j tF2 j j)<|xqT j j (iEq.2 hc1) (oMin j j)<|xqT j j (iEq.2 hc1) (oFA (r':=.mp 3 0 0) j fF155_0 j j)<|xqT j j (iEq.2 hc1) (oLd (cs:=[.im 0 _]) j tF2 j j)<|xqT j j (iEq.2 hc1) (oFA (r':=.mp 4 0 0) j fF155_0 j j)<|xqT j j (iEq.2 hc1) (oLd (cs:=[.im 0 _]) j tF2 j j)<|xqT j j (iEq.2 hc1) (oMax j j)<|xqT j j (iEq.2 hc1) (oCa (xs:=[.v false [.im 0 _],.v false [.im 0 _],.v false [.im 0 _]]) (vs:=[(false,[.im 0 _])]) (v:=.v false [.im 0 _]) (L_impl_within hx25) (.inl j) j kF79_2_2_2 j (ppC j (ppC j (ppC j pp0))) j j pb0 j j j)<|xq (oPkT j j (iEq.2 hc1) j)<|xq (oMv j j)<|?_
   refine ic hm3 (fun hc2 hm3=>?_) fun hc2 hm3=>?_
   ·obtain ⟨x40,hx40,hm3⟩:=bs hm3
    cases hm3
    exact xqT j j (iR.2 hc2) (oFA (r':=.mp 5 0 1) j fF155_1 j j)<|xqT j j (iR.2 hc2) (oLd (cs:=[.im 0 _]) j tF2 j j)<|xqT j j (iR.2 hc2) (oFA (r':=.mp 3 0 1) j fF155_1 j j)<|xqT j j (iR.2 hc2) (oLd (cs:=[.im 0 _]) j tF2 j j)<|xqT j j (iR.2 hc2) (oFA (r':=.mp 4 0 1) j fF155_1 j j)<|xqT j j (iR.2 hc2) (oLd (cs:=[.im 0 _]) j tF2 j j)<|xqT j j (iR.2 hc2) (oMin j j)<|xqT j j (iR.2 hc2) (oFA (r':=.mp 3 0 1) j fF155_1 j j)<|xqT j j (iR.2 hc2) (oLd (cs:=[.im 0 _]) j tF2 j j)<|xqT j j (iR.2 hc2) (oFA (r':=.mp 4 0 1) j fF155_1 j j)<|xqT j j (iR.2 hc2) (oLd (cs:=[.im 0 _]) j tF2 j j)<|xqT j j (iR.2 hc2) (oMax j j)<|xqT j j (iR.2 hc2) (oCa (xs:=[.v false [.im 0 _],.v false [.im 0 _],.v false [.im 0 _]]) (vs:=[(false,[.im 0 _])]) (v:=.v false [.im 0 _]) (L_impl_within hx40) (.inl j) j kF79_2_2_2 j (ppC j (ppC j (ppC j pp0))) j j pb0 j j j)<|xq (oPkT j j (iR.2 hc2) j)<|xq (oAsI j j)<|xn
   ·cases hm3
    exact xsgF j j (byF iR hc2) j<|xsgF j j (byF iR hc2) j<|xsgF j j (byF iR hc2) j<|xsgF j j (byF iR hc2) j<|xsgF j j (byF iR hc2) j<|xsgF j j (byF iR hc2) j<|xsgF j j (byF iR hc2) j<|xsgF j j (byF iR hc2) j<|xsgF j j (byF iR hc2) j<|xsgF j j (byF iR hc2) j<|xsgF j j (byF iR hc2) j<|xsgF j j (byF iR hc2) j<|xsgF j j (byF iR hc2) j<|xq (oPkF j j (byF iR hc2) j)<|xq (oAsI j j)<|xn
  ·cases hm3
   exact xsgF j j (byF iEq hc1) j<|xsgF j j (byF iEq hc1) j<|xsgF j j (byF iEq hc1) j<|xsgF j j (byF iEq hc1) j<|xsgF j j (byF iEq hc1) j<|xsgF j j (byF iEq hc1) j<|xsgF j j (byF iEq hc1) j<|xsgF j j (byF iEq hc1) j<|xsgF j j (byF iEq hc1) j<|xsgF j j (byF iEq hc1) j<|xsgF j j (byF iEq hc1) j<|xsgF j j (byF iEq hc1) j<|xsgF j j (byF iEq hc1) j<|xq (oPkF j j (byF iEq hc1) j)<|xq (oMv j j)<|xsgF j j j j<|xsgF j j j j<|xsgF j j j j<|xsgF j j j j<|xsgF j j j j<|xsgF j j j j<|xsgF j j j j<|xsgF j j j j<|xsgF j j j j<|xsgF j j j j<|xsgF j j j j<|xsgF j j j j<|xsgF j j j j<|xq (oPkF j j j j)<|xq (oAsI j j)<|xn
 ·refine us<|Go.ret (Unw.ret ?_)
  cases h
  exact fr rF151 j
theorem L_impl_crossing {a_0:S_Point} {b_1:S_Point} {c_2:S_Point} {d_3:S_Point} {r:Bool} (h:impl_crossing a_0 b_1 c_2 d_3=some r):FX 179 [.im 2 true (u_S_Point a_0),.im 2 true (u_S_Point b_1),.im 2 true (u_S_Point c_2),.im 2 true (u_S_Point d_3)] (B0 [(false,[.im 0 (V r)])]):=by
 unfold impl_crossing at h
 refine gn 31 Try.func179 rfl ?_
 refine gs<|g0 j j (q (oBx j tF155 j (tkI (tkI tk0)))<|q (oBx j tF155 j (tkI (tkI tk0)))<|q (oBx j tF155 j (tkI (tkI tk0)))<|q (oBx j tF155 j (tkI (tkI tk0)))<|q (oAsI j j)<|nl)<|us<|gs<|?_
 obtain ⟨x12,hx12,h⟩:=bs h
 obtain ⟨x16,hx16,h⟩:=bs h
 obtain ⟨t_8_m1,hm2,h⟩:=bs h
 refine gd c179 j j j j (mk [(8,bv t_8_m1)] []) ?_ ?_
 ·refine t j j (oLd (cs:=[.im 0 _,.im 0 _]) j tF155 j j)<|t j j (oLd (cs:=[.im 0 _,.im 0 _]) j tF155 j j)<|t j j (oLd (cs:=[.im 0 _,.im 0 _]) j tF155 j j)<|t j j (oLd (cs:=[.im 0 _,.im 0 _]) j tF155 j j)<|t j j (oLd (cs:=[.im 0 _,.im 0 _]) j tF155 j j)<|?_
  refine ic hm2 (fun hc1 hm2=>?_) fun hc1 hm2=>?_
  ·obtain ⟨x23,hx23,hm2⟩:=bs hm2
   obtain ⟨x27,hx27,hm2⟩:=bs hm2
   cases hm2
   exact t j j (oLd (cs:=[.im 0 _,.im 0 _]) j tF155 j j)<|sS (dN z179 j (oCa (xs:=[.v true [.im 0 _,.im 0 _],.v true [.im 0 _,.im 0 _],.v true [.im 0 _,.im 0 _]]) (vs:=[(false,[.im 0 _])]) (v:=.v false [.im 0 _]) (L_impl_side hx12) (.inl j) j kF178_155_155_155 j (ppC j (ppC j (ppC j pp0))) j j pb0 j j j)) trivial (sS (dN z179 j (oCa (xs:=[.v true [.im 0 _,.im 0 _],.v true [.im 0 _,.im 0 _],.v true [.im 0 _,.im 0 _]]) (vs:=[(false,[.im 0 _])]) (v:=.v false [.im 0 _]) (L_impl_side hx16) (.inl j) j kF178_155_155_155 j (ppC j (ppC j (ppC j pp0))) j j pb0 j j j)) trivial (t j j (oBi j j j j)<|t j j (oBi j j j j)<|t j j (oMv j j)<|tT j j j j (iDec.2 hc1) (oLd (cs:=[.im 0 _,.im 0 _]) j tF155 j j)<|tT j j j j (iDec.2 hc1) (oLd (cs:=[.im 0 _,.im 0 _]) j tF155 j j)<|tT j j j j (iDec.2 hc1) (oLd (cs:=[.im 0 _,.im 0 _]) j tF155 j j)<|tT j j j j (iDec.2 hc1) (oLd (cs:=[.im 0 _,.im 0 _]) j tF155 j j)<|tT j j j j (iDec.2 hc1) (oLd (cs:=[.im 0 _,.im 0 _]) j tF155 j j)<|tT j j j j (iDec.2 hc1) (oLd (cs:=[.im 0 _,.im 0 _]) j tF155 j j)<|sS (dT z179 j j j (iDec.2 hc1) (oCa (xs:=[.v true [.im 0 _,.im 0 _],.v true [.im 0 _,.im 0 _],.v true [.im 0 _,.im 0 _]]) (vs:=[(false,[.im 0 _])]) (v:=.v false [.im 0 _]) (L_impl_side hx23) (.inl j) j kF178_155_155_155 j (ppC j (ppC j (ppC j pp0))) j j pb0 j j j)) trivial (sS (dT z179 j j j (iDec.2 hc1) (oCa (xs:=[.v true [.im 0 _,.im 0 _],.v true [.im 0 _,.im 0 _],.v true [.im 0 _,.im 0 _]]) (vs:=[(false,[.im 0 _])]) (v:=.v false [.im 0 _]) (L_impl_side hx27) (.inl j) j kF178_155_155_155 j (ppC j (ppC j (ppC j pp0))) j j pb0 j j j)) trivial (tT j j j j (iDec.2 hc1) (oBi j j j j)<|tT j j j j (iDec.2 hc1) (oBi j j j j)<|t j j (oPkT j j (iDec.2 hc1) j)<|sS (dN z179 j (oAsI j j)) trivial (sD (by kernel_rfl))))))
  ·cases hm2
   exact t j j (oLd (cs:=[.im 0 _,.im 0 _]) j tF155 j j)<|sS (dN z179 j (oCa (xs:=[.v true [.im 0 _,.im 0 _],.v true [.im 0 _,.im 0 _],.v true [.im 0 _,.im 0 _]]) (vs:=[(false,[.im 0 _])]) (v:=.v false [.im 0 _]) (L_impl_side hx12) (.inl j) j kF178_155_155_155 j (ppC j (ppC j (ppC j pp0))) j j pb0 j j j)) trivial (sS (dN z179 j (oCa (xs:=[.v true [.im 0 _,.im 0 _],.v true [.im 0 _,.im 0 _],.v true [.im 0 _,.im 0 _]]) (vs:=[(false,[.im 0 _])]) (v:=.v false [.im 0 _]) (L_impl_side hx16) (.inl j) j kF178_155_155_155 j (ppC j (ppC j (ppC j pp0))) j j pb0 j j j)) trivial (t j j (oBi j j j j)<|t j j (oBi j j j j)<|t j j (oMv j j)<|tF j j j j (byF iDec hc1) j<|tF j j j j (byF iDec hc1) j<|tF j j j j (byF iDec hc1) j<|tF j j j j (byF iDec hc1) j<|tF j j j j (byF iDec hc1) j<|tF j j j j (byF iDec hc1) j<|sS (dF j j j (byF iDec hc1) j) trivial (sS (dF j j j (byF iDec hc1) j) trivial (tF j j j j (byF iDec hc1) j<|tF j j j j (byF iDec hc1) j<|t j j (oPkF j j (byF iDec hc1) j)<|sS (dN z179 j (oAsI j j)) trivial (sD (by kernel_rfl))))))
 ·refine us<|Go.ret (Unw.ret ?_)
  cases h
  exact fr rF179 j
theorem L_impl_touching {a_0:S_Point} {b_1:S_Point} {c_2:S_Point} {d_3:S_Point} {r:Bool} (h:impl_touching a_0 b_1 c_2 d_3=some r):FX 152 [.im 2 true (u_S_Point a_0),.im 2 true (u_S_Point b_1),.im 2 true (u_S_Point c_2),.im 2 true (u_S_Point d_3)] (B0 [(false,[.im 0 (V r)])]):=by
 unfold impl_touching at h
 refine gn 38 Try.func152 rfl ?_
 refine gs<|g0 j j (q (oBx j tF155 j (tkI (tkI tk0)))<|q (oBx j tF155 j (tkI (tkI tk0)))<|q (oBx j tF155 j (tkI (tkI tk0)))<|q (oBx j tF155 j (tkI (tkI tk0)))<|q (oAsI j j)<|nl)<|us<|gs<|?_
 obtain ⟨x13,hx13,h⟩:=bs h
 obtain ⟨t_8_m1,hm5,h⟩:=bs h
 refine gX c152 j j j (mk [(8,bv t_8_m1)] []) ?_ ?_
 ·refine xq (oLd (cs:=[.im 0 _,.im 0 _]) j tF155 j j)<|xq (oLd (cs:=[.im 0 _,.im 0 _]) j tF155 j j)<|xq (oLd (cs:=[.im 0 _,.im 0 _]) j tF155 j j)<|xq (oLd (cs:=[.im 0 _,.im 0 _]) j tF155 j j)<|xq (oCa (xs:=[.v true [.im 0 _,.im 0 _],.v true [.im 0 _,.im 0 _],.v true [.im 0 _,.im 0 _],.v true [.im 0 _,.im 0 _]]) (vs:=[(false,[.im 0 _])]) (v:=.v false [.im 0 _]) (L_impl_crossing hx13) (.inl j) j kF179_155_155_155_155 j (ppC j (ppC j (ppC j (ppC j pp0)))) j j pb0 j j j)<|xq (oMv j j)<|?_
  refine ic hm5 (fun hc1 hm5=>?_) fun hc1 hm5=>?_
  ·cases hm5
   exact xsgF j j (iR.2 hc1) j<|xsgF j j (iR.2 hc1) j<|xsgF j j (iR.2 hc1) j<|xsgF j j (iR.2 hc1) j<|xq (oPkT j j (iR.2 hc1) j)<|xq (oMv j j)<|xsgF j j j j<|xsgF j j j j<|xsgF j j j j<|xsgF j j j j<|xq (oPkT j j j j)<|xq (oMv j j)<|xsgF j j j j<|xsgF j j j j<|xsgF j j j j<|xsgF j j j j<|xq (oPkT j j j j)<|xq (oMv j j)<|xsgF j j j j<|xsgF j j j j<|xsgF j j j j<|xsgF j j j j<|xq (oPkT j j j j)<|xq (oAsI j j)<|xn
  ·obtain ⟨x18,hx18,hm5⟩:=bs hm5
   refine xqT j j (byF iR hc1) (oLd (cs:=[.im 0 _,.im 0 _]) j tF155 j j)<|xqT j j (byF iR hc1) (oLd (cs:=[.im 0 _,.im 0 _]) j tF155 j j)<|xqT j j (byF iR hc1) (oLd (cs:=[.im 0 _,.im 0 _]) j tF155 j j)<|xqT j j (byF iR hc1) (oCa (xs:=[.v true [.im 0 _,.im 0 _],.v true [.im 0 _,.im 0 _],.v true [.im 0 _,.im 0 _]]) (vs:=[(false,[.im 0 _])]) (v:=.v false [.im 0 _]) (L_impl_on hx18) (.inl j) j kF151_155_155_155 j (ppC j (ppC j (ppC j pp0))) j j pb0 j j j)<|xq (oPkF j j (byF iR hc1) j)<|xq (oMv j j)<|?_
   refine ic hm5 (fun hc2 hm5=>?_) fun hc2 hm5=>?_
   ·cases hm5
    exact xsgF j j (iR.2 hc2) j<|xsgF j j (iR.2 hc2) j<|xsgF j j (iR.2 hc2) j<|xsgF j j (iR.2 hc2) j<|xq (oPkT j j (iR.2 hc2) j)<|xq (oMv j j)<|xsgF j j j j<|xsgF j j j j<|xsgF j j j j<|xsgF j j j j<|xq (oPkT j j j j)<|xq (oMv j j)<|xsgF j j j j<|xsgF j j j j<|xsgF j j j j<|xsgF j j j j<|xq (oPkT j j j j)<|xq (oAsI j j)<|xn
   ·obtain ⟨x24,hx24,hm5⟩:=bs hm5
    refine xqT j j (byF iR hc2) (oLd (cs:=[.im 0 _,.im 0 _]) j tF155 j j)<|xqT j j (byF iR hc2) (oLd (cs:=[.im 0 _,.im 0 _]) j tF155 j j)<|xqT j j (byF iR hc2) (oLd (cs:=[.im 0 _,.im 0 _]) j tF155 j j)<|xqT j j (byF iR hc2) (oCa (xs:=[.v true [.im 0 _,.im 0 _],.v true [.im 0 _,.im 0 _],.v true [.im 0 _,.im 0 _]]) (vs:=[(false,[.im 0 _])]) (v:=.v false [.im 0 _]) (L_impl_on hx24) (.inl j) j kF151_155_155_155 j (ppC j (ppC j (ppC j pp0))) j j pb0 j j j)<|xq (oPkF j j (byF iR hc2) j)<|xq (oMv j j)<|?_
    refine ic hm5 (fun hc3 hm5=>?_) fun hc3 hm5=>?_
    ·cases hm5
     exact xsgF j j (iR.2 hc3) j<|xsgF j j (iR.2 hc3) j<|xsgF j j (iR.2 hc3) j<|xsgF j j (iR.2 hc3) j<|xq (oPkT j j (iR.2 hc3) j)<|xq (oMv j j)<|xsgF j j j j<|xsgF j j j j<|xsgF j j j j<|xsgF j j j j<|xq (oPkT j j j j)<|xq (oAsI j j)<|xn
    ·obtain ⟨x30,hx30,hm5⟩:=bs hm5
     refine xqT j j (byF iR hc3) (oLd (cs:=[.im 0 _,.im 0 _]) j tF155 j j)<|xqT j j (byF iR hc3) (oLd (cs:=[.im 0 _,.im 0 _]) j tF155 j j)<|xqT j j (byF iR hc3) (oLd (cs:=[.im 0 _,.im 0 _]) j tF155 j j)<|xqT j j (byF iR hc3) (oCa (xs:=[.v true [.im 0 _,.im 0 _],.v true [.im 0 _,.im 0 _],.v true [.im 0 _,.im 0 _]]) (vs:=[(false,[.im 0 _])]) (v:=.v false [.im 0 _]) (L_impl_on hx30) (.inl j) j kF151_155_155_155 j (ppC j (ppC j (ppC j pp0))) j j pb0 j j j)<|xq (oPkF j j (byF iR hc3) j)<|xq (oMv j j)<|?_
     refine ic hm5 (fun hc4 hm5=>?_) fun hc4 hm5=>?_
     ·cases hm5
      exact xsgF j j (iR.2 hc4) j<|xsgF j j (iR.2 hc4) j<|xsgF j j (iR.2 hc4) j<|xsgF j j (iR.2 hc4) j<|xq (oPkT j j (iR.2 hc4) j)<|xq (oAsI j j)<|xn
     ·obtain ⟨x36,hx36,hm5⟩:=bs hm5
      cases hm5
      exact xqT j j (byF iR hc4) (oLd (cs:=[.im 0 _,.im 0 _]) j tF155 j j)<|xqT j j (byF iR hc4) (oLd (cs:=[.im 0 _,.im 0 _]) j tF155 j j)<|xqT j j (byF iR hc4) (oLd (cs:=[.im 0 _,.im 0 _]) j tF155 j j)<|xqT j j (byF iR hc4) (oCa (xs:=[.v true [.im 0 _,.im 0 _],.v true [.im 0 _,.im 0 _],.v true [.im 0 _,.im 0 _]]) (vs:=[(false,[.im 0 _])]) (v:=.v false [.im 0 _]) (L_impl_on hx36) (.inl j) j kF151_155_155_155 j (ppC j (ppC j (ppC j pp0))) j j pb0 j j j)<|xq (oPkF j j (byF iR hc4) j)<|xq (oAsI j j)<|xn
 ·refine us<|Go.ret (Unw.ret ?_)
  cases h
  exact fr rF152 j
theorem L_impl_doubled {p_0:(List S_Point)} {r:Int} (h:impl_doubled p_0=some r):FX 153 [.im 2 false [W 2 e_S_Point p_0]] (B0 [(false,[.im 0 (I r)])]):=by
 unfold impl_doubled at h
 refine gn 37 Try.func153 rfl ?_
 refine gs<|g0 j j (q (oAsI j j)<|nl)<|us<|gs<|g0 j j (q (oAsI j j)<|nl)<|us<|gs<|gs<|g0 j j (q (oMv j j)<|q (oLnI j j uF23 j)<|q (oMv j j)<|nl)<|us<|Go.block<|?_
 obtain ⟨o,hl,h⟩:=bs h
 refine gl c153 j _ (fun (s:(Int×Int))=>match s with | (sum_3_l3,t_9_l3)=>mk [(0,D 2 (W 2 e_S_Point p_0)),(3,iv sum_3_l3),(7,D 2 (W 2 e_S_Point p_0)),(8,iv (p_0.length:Int)),(9,iv t_9_l3)] []) (fun (sum_3_e0_3:Int) (p:Ex×St)=>p.1= .exit 0∧p.2.norm ([3],[])=mk [(3,iv sum_3_e0_3)] []) hl (by kernel_rfl) ?_ ?_ ?_
 ·intro o p hp e
  exact nomatch (hp.1.symm.trans e)
 ·rintro ⟨sum_3_l3,t_9_l3⟩ o h
  unfold impl_doubled_l3 at h
  dsimp only at h
  refine gs<|g0 j j (q (oBi j j j j)<|nl)<|us<|gs<|gc h j iDec (fun hc3 h=>?_) fun hc3 h=>?_
  ·refine Go.skip<|us<|gs<|Go.block<|gs<|?_
   obtain ⟨x12,hx12,h⟩:=bs h
   refine g0 j j (q (oMv j j)<|q (oIAI j hx12 sF23 j j)<|q (oLd (cs:=[.im 2 _,.im 2 _]) j tF155 j j)<|q (oAl j tF155 (tkI (tkI tk0)))<|q (oAsI j j)<|q (oSt tF155 j j j (tkI (tkI tk0)) j j j)<|nl)<|us<|gs<|?_
   obtain ⟨x19,hx19,h⟩:=bs h
   obtain ⟨x20,hx20,h⟩:=bs h
   refine g1 j j (mk [(0,D 2 (W 2 e_S_Point p_0)),(3,iv sum_3_l3),(4,iv t_9_l3),(5,M 5),(7,D 2 (W 2 e_S_Point p_0)),(8,iv (p_0.length:Int)),(9,iv t_9_l3)] [(5,Oa (G 0 (u_S_Point x12)))]) (q (oMv j j)<|q (oMv j j)<|q (oBi j j j j)<|q (oMv j j)<|q (oLnI j j uF23 j)<|q (oRem j hx19 j j)<|q (oIAI j hx20 sF23 j j)<|q (oLd (cs:=[.im 2 _,.im 2 _]) j tF155 j j)<|q (oAl j tF155 (tkI (tkI tk0)))<|q (oSt tF155 j j j (tkI (tkI tk0)) j j j)<|nl)<|us<|g1 j j (mk [(0,D 2 (W 2 e_S_Point p_0)),(3,iv sum_3_l3),(5,M 5),(6,M 6),(7,D 2 (W 2 e_S_Point p_0)),(8,iv (p_0.length:Int)),(9,iv t_9_l3)] [(5,Oa (G 0 (u_S_Point x12))),(6,Oa (G 0 (u_S_Point x20)))]) (q (oMv j j)<|q (oFA (r':=.mp 5 0 0) j fF155_0 j j)<|q (oLd (cs:=[.im 0 _]) j tF2 j j)<|q (oFA (r':=.mp 6 0 1) j fF155_1 j j)<|q (oLd (cs:=[.im 0 _]) j tF2 j j)<|q (oBi j j j j)<|q (oFA (r':=.mp 5 0 1) j fF155_1 j j)<|q (oLd (cs:=[.im 0 _]) j tF2 j j)<|q (oFA (r':=.mp 6 0 0) j fF155_0 j j)<|q (oLd (cs:=[.im 0 _]) j tF2 j j)<|q (oBi j j j j)<|q (oBi j j j j)<|q (oBi j j j j)<|q (oAsI j j)<|nl)<|Unw.blk<|us<|g0 j j (q (oBi j j j j)<|q (oMv j j)<|nl)<|Unw.nil<|?_
   cases h
   exact ⟨j,(by kernel_rfl)⟩
  ·refine Go.exit<|ux<|Unw.nil<|?_
   cases h
   exact ⟨j,(by kernel_rfl)⟩
 ·rintro ⟨e,st⟩ hp
  obtain ⟨sum_3_e0_3,rfl⟩:∃y,y=o:=⟨o,rfl⟩
  obtain ⟨he,hst⟩:=hp
  obtain rfl:e= .exit 0:=he
  refine Unw.blkx<|us<|gs<|g2 c153 j j hst (q (oMv j j)<|q (oAsI j j)<|nl)<|us<|Go.ret (Unw.ret ?_)
  cases h
  exact fr rF153 j
theorem L_impl_ValidPolygon {p_0:(List S_Point)} {r:Bool} (h:impl_ValidPolygon p_0=some r):FX 108 [.im 2 false [W 2 e_S_Point p_0]] (B0 [(false,[.im 0 (V r)])]):=by
 unfold impl_ValidPolygon at h
 refine gn 93 Try.func108 rfl ?_
 refine gs<|g0 j j (q (oAsI j j)<|nl)<|us<|gs<|g0 j j (q (oMv j j)<|q (oLnI j j uF23 j)<|q (oAsI j j)<|nl)<|us<|gs<|gs<|?_
 obtain ⟨t_21_m2,hm47,h⟩:=bs h
 refine gX c108 j j j (mk [(0,D 2 (W 2 e_S_Point p_0)),(3,iv (p_0.length:Int)),(21,bv t_21_m2)] []) ?_ ?_
 ·refine xq (oMv j j)<|xq (oBi j j j j)<|xq (oMv j j)<|?_
  refine ic hm47 (fun hc1 hm47=>?_) fun hc1 hm47=>?_
  ·cases hm47
   exact xsgF j j (iDec.2 hc1) j<|xsgF j j (iDec.2 hc1) j<|xq (oPkT j j (iDec.2 hc1) j)<|xq (oMv j j)<|xsgF j j j j<|xsgF j j j j<|xsgF j j j j<|xq (oPkT j j j j)<|xn
  ·refine xqT j j (byF iDec hc1) (oMv j j)<|xqT j j (byF iDec hc1) (oBi j j j j)<|xq (oPkF j j (byF iDec hc1) j)<|xq (oMv j j)<|?_
   refine ic hm47 (fun hc2 hm47=>?_) fun hc2 hm47=>?_
   ·cases hm47
    exact xsgF j j (iDec.2 hc2) j<|xsgF j j (iDec.2 hc2) j<|xsgF j j (iDec.2 hc2) j<|xq (oPkT j j (iDec.2 hc2) j)<|xn
   ·obtain ⟨x19,hx19,hm47⟩:=bs hm47
    cases hm47
    exact xqT j j (byF iDec hc2) (oMv j j)<|xqT j j (byF iDec hc2) (oCa (xs:=[.v false [.im 2 _]]) (vs:=[(false,[.im 0 _])]) (v:=.v false [.im 0 _]) (L_impl_validPoints hx19) (.inl j) j kF150_23 j (ppC j pp0) j j pb0 j j j)<|xqT j j (byF iDec hc2) (oUn j j j)<|xq (oPkF j j (byF iDec hc2) j)<|xn
 ·refine us<|gc h j iR (fun hc3 h=>?_) fun hc3 h=>?_
  ·refine gs<|g0 j j (q (oAsI j j)<|nl)<|us<|Go.ret (Unw.ret ?_)
   cases h
   exact fr rF108 j
  ·refine Go.skip<|us<|gs<|gs<|g0 j j (q (oMv j j)<|q (oLnI j j uF23 j)<|q (oMv j j)<|nl)<|us<|Go.block<|?_
   obtain ⟨o,hl,h⟩:=bs h
   refine gl c108 j _ (fun (t_24_l5:Int)=>mk [(0,D 2 (W 2 e_S_Point p_0)),(3,iv (p_0.length:Int)),(23,iv (p_0.length:Int)),(24,iv t_24_l5)] []) (fun (o:(Unit ⊕ Bool)) (p:Ex×St)=>match o with | (.inl _)=>p.1= .exit 0∧p.2.norm ([0],[])=mk [(0,D 2 (W 2 e_S_Point p_0))] [] | (.inr r2)=>p.1= .ret∧fin Try.prog cfg 108 Try.f108 [.im 2 false [W 2 e_S_Point p_0]] p.2=some (B0 [(false,[.im 0 (V r2)])])) hl (by kernel_rfl) ?_ ?_ ?_
   ·intro o p hp e
    rcases o with u | r2<;>exact nomatch (hp.1.symm.trans e)
   ·rintro t_24_l5 o h
    unfold impl_ValidPolygon_l5 at h
    refine gs<|g0 j j (q (oBi j j j j)<|nl)<|us<|gs<|gc h j iDec (fun hc30 h=>?_) fun hc30 h=>?_
    ·refine Go.skip<|us<|gs<|Go.block<|gs<|g0 j j (q (oMv j j)<|q (oAsI j j)<|nl)<|us<|gs<|?_
     obtain ⟨x29,hx29,h⟩:=bs h
     obtain ⟨x35,hx35,h⟩:=bs h
     obtain ⟨x36,hx36,h⟩:=bs h
     obtain ⟨x42,hx42,h⟩:=bs h
     obtain ⟨x43,hx43,h⟩:=bs h
     refine gd c108 j j j j (mk [(0,D 2 (W 2 e_S_Point p_0)),(3,iv (p_0.length:Int)),(4,iv t_24_l5),(5,M 5),(6,M 6),(7,M 7),(23,iv (p_0.length:Int)),(24,iv t_24_l5)] [(5,Oa (G 0 (u_S_Point x29))),(6,Oa (G 0 (u_S_Point x36))),(7,Oa (G 0 (u_S_Point x43)))]) (t j j (oMv j j)<|t j j (oMv j j)<|t j j (oIAI j hx29 sF23 j j)<|t j j (oLd (cs:=[.im 2 _,.im 2 _]) j tF155 j j)<|t j j (oMv j j)<|t j j (oMv j j)<|t j j (oBi j j j j)<|t j j (oMv j j)<|t j j (oRem j hx35 j j)<|t j j (oIAI j hx36 sF23 j j)<|t j j (oLd (cs:=[.im 2 _,.im 2 _]) j tF155 j j)<|t j j (oMv j j)<|t j j (oMv j j)<|t j j (oBi j j j j)<|t j j (oMv j j)<|t j j (oRem j hx42 j j)<|t j j (oIAI j hx43 sF23 j j)<|t j j (oLd (cs:=[.im 2 _,.im 2 _]) j tF155 j j)<|sF (dN z108 j (oAl j tF155 (tkI (tkI tk0)))) trivial (sF (dN z108 j (oAl j tF155 (tkI (tkI tk0)))) trivial (sS (dN z108 j (oAl j tF155 (tkI (tkI tk0)))) trivial (sS (dN z108 j (oSt tF155 j j j (tkI (tkI tk0)) j j j)) trivial (sS (dN z108 j (oSt tF155 j j j (tkI (tkI tk0)) j j j)) trivial (sS (dN z108 j (oSt tF155 j j j (tkI (tkI tk0)) j j j)) trivial (sD (by kernel_rfl)))))) (sS (dN z108 j (oAl j tF155 (tkI (tkI tk0)))) trivial (sS (dN z108 j (oAl j tF155 (tkI (tkI tk0)))) trivial (sS (dN z108 j (oSt tF155 j j j (tkI (tkI tk0)) j j j)) trivial (sS (dN z108 j (oSt tF155 j j j (tkI (tkI tk0)) j j j)) trivial (sS (dN z108 j (oSt tF155 j j j (tkI (tkI tk0)) j j j)) trivial (sD (by kernel_rfl)))))))) (sF (dN z108 j (oAl j tF155 (tkI (tkI tk0)))) trivial (sF (dN z108 j (oAl j tF155 (tkI (tkI tk0)))) trivial (sS (dN z108 j (oAl j tF155 (tkI (tkI tk0)))) trivial (sS (dN z108 j (oSt tF155 j j j (tkI (tkI tk0)) j j j)) trivial (sS (dN z108 j (oSt tF155 j j j (tkI (tkI tk0)) j j j)) trivial (sS (dN z108 j (oSt tF155 j j j (tkI (tkI tk0)) j j j)) trivial (sD (by kernel_rfl)))))) (sS (dN z108 j (oAl j tF155 (tkI (tkI tk0)))) trivial (sS (dN z108 j (oAl j tF155 (tkI (tkI tk0)))) trivial (sS (dN z108 j (oSt tF155 j j j (tkI (tkI tk0)) j j j)) trivial (sS (dN z108 j (oSt tF155 j j j (tkI (tkI tk0)) j j j)) trivial (sS (dN z108 j (oSt tF155 j j j (tkI (tkI tk0)) j j j)) trivial (sD (by kernel_rfl)))))))) (sS (dN z108 j (oAl j tF155 (tkI (tkI tk0)))) trivial (sF (dN z108 j (oAl j tF155 (tkI (tkI tk0)))) trivial (sS (dN z108 j (oAl j tF155 (tkI (tkI tk0)))) trivial (sS (dN z108 j (oSt tF155 j j j (tkI (tkI tk0)) j j j)) trivial (sS (dN z108 j (oSt tF155 j j j (tkI (tkI tk0)) j j j)) trivial (sS (dN z108 j (oSt tF155 j j j (tkI (tkI tk0)) j j j)) trivial (sD (by kernel_rfl)))))) (sS (dN z108 j (oAl j tF155 (tkI (tkI tk0)))) trivial (sS (dN z108 j (oAl j tF155 (tkI (tkI tk0)))) trivial (sS (dN z108 j (oSt tF155 j j j (tkI (tkI tk0)) j j j)) trivial (sS (dN z108 j (oSt tF155 j j j (tkI (tkI tk0)) j j j)) trivial (sS (dN z108 j (oSt tF155 j j j (tkI (tkI tk0)) j j j)) trivial (sD (by kernel_rfl)))))))))))<|us<|gs<|gs<|?_
     obtain ⟨t_59_m8,hm46,h⟩:=bs h
     refine gX c108 j j j (mk [(0,D 2 (W 2 e_S_Point p_0)),(3,iv (p_0.length:Int)),(4,iv t_24_l5),(5,M 5),(6,M 6),(23,iv (p_0.length:Int)),(24,iv t_24_l5),(59,bv t_59_m8)] [(5,Oa (G 0 (u_S_Point x29))),(6,Oa (G 0 (u_S_Point x36)))]) ?_ ?_
     ·refine xq (oLd (cs:=[.im 0 _,.im 0 _]) j tF155 j j)<|xq (oLd (cs:=[.im 0 _,.im 0 _]) j tF155 j j)<|xq (oBa j (qEF155 x29.X x29.Y x36.X x36.Y) j j j j)<|xq (oMv j j)<|?_
      refine ic hm46 (fun hc31 hm46=>?_) fun hc31 hm46=>?_
      ·cases hm46
       exact xsgF j j ((iAnd iEq iEq).2 hc31) j<|xsgF j j ((iAnd iEq iEq).2 hc31) j<|xsgF j j ((iAnd iEq iEq).2 hc31) j<|xsgF j j ((iAnd iEq iEq).2 hc31) j<|xq (oPkT j j ((iAnd iEq iEq).2 hc31) j)<|xq (oMv j j)<|xsgF j j j j<|xsgF j j j j<|xsgF j j j j<|xsgF j j j j<|xq (oPkT j j j j)<|xn
      ·obtain ⟨x52,hx52,hm46⟩:=bs hm46
       refine xqT j j (byF (iAnd iEq iEq) hc31) (oLd (cs:=[.im 0 _,.im 0 _]) j tF155 j j)<|xqT j j (byF (iAnd iEq iEq) hc31) (oLd (cs:=[.im 0 _,.im 0 _]) j tF155 j j)<|xqT j j (byF (iAnd iEq iEq) hc31) (oLd (cs:=[.im 0 _,.im 0 _]) j tF155 j j)<|xqT j j (byF (iAnd iEq iEq) hc31) (oCa (xs:=[.v true [.im 0 _,.im 0 _],.v true [.im 0 _,.im 0 _],.v true [.im 0 _,.im 0 _]]) (vs:=[(false,[.im 0 _])]) (v:=.v false [.im 0 _]) (L_impl_on hx52) (.inl j) j kF151_155_155_155 j (ppC j (ppC j (ppC j pp0))) j j pb0 j j j)<|xq (oPkF j j (byF (iAnd iEq iEq) hc31) j)<|xq (oMv j j)<|?_
       refine ic hm46 (fun hc32 hm46=>?_) fun hc32 hm46=>?_
       ·cases hm46
        exact xsgF j j (iR.2 hc32) j<|xsgF j j (iR.2 hc32) j<|xsgF j j (iR.2 hc32) j<|xsgF j j (iR.2 hc32) j<|xq (oPkT j j (iR.2 hc32) j)<|xn
       ·obtain ⟨x58,hx58,hm46⟩:=bs hm46
        cases hm46
        exact xqT j j (byF iR hc32) (oLd (cs:=[.im 0 _,.im 0 _]) j tF155 j j)<|xqT j j (byF iR hc32) (oLd (cs:=[.im 0 _,.im 0 _]) j tF155 j j)<|xqT j j (byF iR hc32) (oLd (cs:=[.im 0 _,.im 0 _]) j tF155 j j)<|xqT j j (byF iR hc32) (oCa (xs:=[.v true [.im 0 _,.im 0 _],.v true [.im 0 _,.im 0 _],.v true [.im 0 _,.im 0 _]]) (vs:=[(false,[.im 0 _])]) (v:=.v false [.im 0 _]) (L_impl_on hx58) (.inl j) j kF151_155_155_155 j (ppC j (ppC j (ppC j pp0))) j j pb0 j j j)<|xq (oPkF j j (byF iR hc32) j)<|xn
     ·refine us<|gc h j iR (fun hc33 h=>?_) fun hc33 h=>?_
      ·refine gs<|g0 j j (q (oAsI j j)<|nl)<|us<|Go.ret (Unw.ret ?_)
       cases h
       exact ⟨j,(fo rF108 j)⟩
      ·refine Go.skip<|us<|gs<|g0 j j (q (oMv j j)<|q (oBi j j j j)<|q (oAsI j j)<|nl)<|us<|Go.block<|?_
       obtain ⟨o,hl,h⟩:=bs h
       refine gl c108 j _ (fun (k_8_l11:Int)=>mk [(0,D 2 (W 2 e_S_Point p_0)),(3,iv (p_0.length:Int)),(4,iv t_24_l5),(5,M 5),(6,M 6),(8,iv k_8_l11),(23,iv (p_0.length:Int)),(24,iv t_24_l5)] [(5,Oa (G 0 (u_S_Point x29))),(6,Oa (G 0 (u_S_Point x36)))]) (fun (o:(Unit ⊕ Bool)) (p:Ex×St)=>match o with | (.inl _)=>p.1= .exit 2∧p.2.norm ([0,3,23,24],[])=mk [(0,D 2 (W 2 e_S_Point p_0)),(3,iv (p_0.length:Int)),(23,iv (p_0.length:Int)),(24,iv t_24_l5)] [] | (.inr r2)=>p.1= .ret∧fin Try.prog cfg 108 Try.f108 [.im 2 false [W 2 e_S_Point p_0]] p.2=some (B0 [(false,[.im 0 (V r2)])])) hl (by kernel_rfl) ?_ ?_ ?_
       ·intro o p hp e
        rcases o with u | r2<;>exact nomatch (hp.1.symm.trans e)
       ·rintro k_8_l11 o h
        unfold impl_ValidPolygon_l11 at h
        refine gs<|gs<|g0 j j (q (oMv j j)<|q (oMv j j)<|q (oBi j j j j)<|nl)<|us<|gc h j iDec (fun hc42 h=>?_) fun hc42 h=>?_
        ·refine Go.skip<|us<|gs<|Go.block<|gs<|?_
         obtain ⟨x70,hx70,h⟩:=bs h
         obtain ⟨t_88_m13,hm45,h⟩:=bs h
         refine gd c108 j j j j (mk [(0,D 2 (W 2 e_S_Point p_0)),(3,iv (p_0.length:Int)),(4,iv t_24_l5),(5,M 5),(6,M 6),(8,iv k_8_l11),(23,iv (p_0.length:Int)),(24,iv t_24_l5),(88,bv t_88_m13)] [(5,Oa (G 0 (u_S_Point x29))),(6,Oa (G 0 (u_S_Point x36)))]) ?_ ?_
         ·refine t j j (oMv j j)<|t j j (oBi j j j j)<|t j j (oMv j j)<|t j j (oRem j hx70 j j)<|t j j (oMv j j)<|t j j (oBi j j j j)<|t j j (oMv j j)<|?_
          refine ic hm45 (fun hc43 hm45=>?_) fun hc43 hm45=>?_
          ·obtain ⟨x78,hx78,hm45⟩:=bs hm45
           obtain ⟨x84,hx84,hm45⟩:=bs hm45
           obtain ⟨x85,hx85,hm45⟩:=bs hm45
           obtain ⟨x87,hx87,hm45⟩:=bs hm45
           cases hm45
           exact tT j j j j (iNe.2 hc43) (oLd (cs:=[.im 0 _,.im 0 _]) j tF155 j j)<|tT j j j j (iNe.2 hc43) (oLd (cs:=[.im 0 _,.im 0 _]) j tF155 j j)<|tT j j j j (iNe.2 hc43) (oMv j j)<|tT j j j j (iNe.2 hc43) (oMv j j)<|tT j j j j (iNe.2 hc43) (oIAI j hx78 sF23 j j)<|tT j j j j (iNe.2 hc43) (oLd (cs:=[.im 2 _,.im 2 _]) j tF155 j j)<|tT j j j j (iNe.2 hc43) (oMv j j)<|tT j j j j (iNe.2 hc43) (oMv j j)<|tT j j j j (iNe.2 hc43) (oBi j j j j)<|tT j j j j (iNe.2 hc43) (oMv j j)<|tT j j j j (iNe.2 hc43) (oRem j hx84 j j)<|tT j j j j (iNe.2 hc43) (oIAI j hx85 sF23 j j)<|tT j j j j (iNe.2 hc43) (oLd (cs:=[.im 2 _,.im 2 _]) j tF155 j j)<|sS (dT z108 j j j (iNe.2 hc43) (oCa (xs:=[.v true [.im 0 _,.im 0 _],.v true [.im 0 _,.im 0 _],.v true [.im 2 _,.im 2 _],.v true [.im 2 _,.im 2 _]]) (vs:=[(false,[.im 0 _])]) (v:=.v false [.im 0 _]) (L_impl_touching hx87) (.inl j) j kF152_155_155_155_155 j (ppC j (ppC j (ppC j (ppC j pp0)))) j j pb0 j j j)) trivial (t j j (oPkT j j (iNe.2 hc43) j)<|sD (by kernel_rfl))
          ·cases hm45
           exact tF j j j j (byF iNe hc43) j<|tF j j j j (byF iNe hc43) j<|tF j j j j (byF iNe hc43) j<|tF j j j j (byF iNe hc43) j<|tF j j j j (byF iNe hc43) j<|tF j j j j (byF iNe hc43) j<|tF j j j j (byF iNe hc43) j<|tF j j j j (byF iNe hc43) j<|tF j j j j (byF iNe hc43) j<|tF j j j j (byF iNe hc43) j<|tF j j j j (byF iNe hc43) j<|tF j j j j (byF iNe hc43) j<|tF j j j j (byF iNe hc43) j<|sS (dF j j j (byF iNe hc43) j) trivial (t j j (oPkF j j (byF iNe hc43) j)<|sD (by kernel_rfl))
         ·refine us<|gc h j iR (fun hc44 h=>?_) fun hc44 h=>?_
          ·refine gs<|g0 j j (q (oAsI j j)<|nl)<|us<|Go.ret (Unw.ret ?_)
           cases h
           exact ⟨j,(fo rF108 j)⟩
          ·refine Go.skip<|Unw.blk<|us<|g0 j j (q (oMv j j)<|q (oBi j j j j)<|q (oAsI j j)<|nl)<|Unw.nil<|?_
           cases h
           exact ⟨j,(by kernel_rfl)⟩
        ·refine Go.exit<|ux<|Unw.nil<|?_
         cases h
         exact ⟨j,(by kernel_rfl)⟩
       ·rintro ⟨e,st⟩ hp
        rcases o with u | r2
        ·dsimp only at h
         obtain ⟨he,hst⟩:=hp
         obtain rfl:e= .exit 2:=he
         refine Unw.blkx<|Unw.blk<|us<|g2 c108 j j hst (q (oBi j j j j)<|q (oMv j j)<|nl)<|Unw.nil<|?_
         cases h
         exact ⟨j,(by kernel_rfl)⟩
        ·dsimp only at h
         obtain ⟨he,hfin⟩:=hp
         obtain rfl:e= .ret:=he
         cases h
         exact Unw.ret ⟨j,hfin⟩
    ·refine Go.exit<|ux<|Unw.nil<|?_
     cases h
     exact ⟨j,(by kernel_rfl)⟩
   ·rintro ⟨e,st⟩ hp
    rcases o with u | r2
    ·dsimp only at h
     obtain ⟨he,hst⟩:=hp
     obtain rfl:e= .exit 0:=he
     refine Unw.blkx<|us<|gs<|?_
     obtain ⟨x91,hx91,h⟩:=bs h
     refine g2 c108 j j hst (q (oMv j j)<|q (oCa (xs:=[.v false [.im 2 _]]) (vs:=[(false,[.im 0 _])]) (v:=.v false [.im 0 _]) (L_impl_doubled hx91) (.inl j) j kF153_23 j (ppC j pp0) j j pb0 j j j)<|q (oBi j j j j)<|q (oAsI j j)<|nl)<|us<|Go.ret (Unw.ret ?_)
     cases h
     exact fr rF108 j
    ·dsimp only at h
     obtain ⟨he,hfin⟩:=hp
     obtain rfl:e= .ret:=he
     cases h
     exact Unw.ret (Fin_ret hfin)
theorem L_impl_ValidDrawing {d_0:S_Drawing} {r:Bool} (h:impl_ValidDrawing d_0=some r):FX 54 [.im 2 true (u_S_Drawing d_0)] (B0 [(false,[.im 0 (V r)])]):=by
 unfold impl_ValidDrawing at h
 refine gn 106 Try.func54 rfl ?_
 refine gs<|g0 j j (q (oBx j tF26 j (tkI (tkI (tkI (tkI tk0)))))<|q (oAsI j j)<|nl)<|us<|gs<|gs<|?_
 obtain ⟨x11,hx11,h⟩:=bs h
 obtain ⟨t_30_m1,hm44,h⟩:=bs h
 refine gX c54 j j j (mk [(1,M 1),(30,bv t_30_m1)] [(1,Oa (G 2 (u_S_Drawing d_0)))]) ?_ ?_
 ·refine xq (oFA (r':=.mp 1 0 0) j fF26_0 j j)<|xq (oLd (cs:=[.im 0 _]) j tF2 j j)<|xq (oCa (xs:=[.v false [.im 0 _],.v false [.im 0 _],.v false [.im 0 _]]) (vs:=[(false,[.im 0 _])]) (v:=.v false [.im 0 _]) (L_impl_within hx11) (.inl j) j kF79_2_2_2 j (ppC j (ppC j (ppC j pp0))) j j pb0 j j j)<|xq (oUn j j j)<|xq (oMv j j)<|?_
  refine ic hm44 (fun hc1 hm44=>?_) fun hc1 hm44=>?_
  ·obtain ⟨x16,hx16,hm44⟩:=bs hm44
   refine xqT j j (nF (iR.2 hc1)) (oFA (r':=.mp 1 0 1) j fF26_1 j j)<|xqT j j (nF (iR.2 hc1)) (oLd (cs:=[.im 0 _]) j tF2 j j)<|xqT j j (nF (iR.2 hc1)) (oCa (xs:=[.v false [.im 0 _],.v false [.im 0 _],.v false [.im 0 _]]) (vs:=[(false,[.im 0 _])]) (v:=.v false [.im 0 _]) (L_impl_within hx16) (.inl j) j kF79_2_2_2 j (ppC j (ppC j (ppC j pp0))) j j pb0 j j j)<|xqT j j (nF (iR.2 hc1)) (oUn j j j)<|xq (oPkF j j (nF (iR.2 hc1)) j)<|xq (oMv j j)<|?_
   refine ic hm44 (fun hc2 hm44=>?_) fun hc2 hm44=>?_
   ·refine xqT j j (nF (iR.2 hc2)) (oFA (r':=.mp 1 0 2) j fF26_2 j j)<|xqT j j (nF (iR.2 hc2)) (oLd (cs:=[.im 2 _]) j tF23 j j)<|xqT j j (nF (iR.2 hc2)) (oLnI j j uF23 j)<|xqT j j (nF (iR.2 hc2)) (oBi j j j j)<|xq (oPkF j j (nF (iR.2 hc2)) j)<|xq (oMv j j)<|?_
    refine ic hm44 (fun hc3 hm44=>?_) fun hc3 hm44=>?_
    ·cases hm44
     exact xsgF j j (iDec.2 hc3) j<|xsgF j j (iDec.2 hc3) j<|xsgF j j (iDec.2 hc3) j<|xsgF j j (iDec.2 hc3) j<|xq (oPkT j j (iDec.2 hc3) j)<|xn
    ·cases hm44
     exact xqT j j (byF iDec hc3) (oFA (r':=.mp 1 0 3) j fF26_3 j j)<|xqT j j (byF iDec hc3) (oLd (cs:=[.im 2 _]) j tF24 j j)<|xqT j j (byF iDec hc3) (oLnI j j uF24 j)<|xqT j j (byF iDec hc3) (oBi j j j j)<|xq (oPkF j j (byF iDec hc3) j)<|xn
   ·cases hm44
    exact xsgF j j (nT (byF iR hc2)) j<|xsgF j j (nT (byF iR hc2)) j<|xsgF j j (nT (byF iR hc2)) j<|xsgF j j (nT (byF iR hc2)) j<|xq (oPkT j j (nT (byF iR hc2)) j)<|xq (oMv j j)<|xsgF j j j j<|xsgF j j j j<|xsgF j j j j<|xsgF j j j j<|xq (oPkT j j j j)<|xn
  ·cases hm44
   exact xsgF j j (nT (byF iR hc1)) j<|xsgF j j (nT (byF iR hc1)) j<|xsgF j j (nT (byF iR hc1)) j<|xsgF j j (nT (byF iR hc1)) j<|xq (oPkT j j (nT (byF iR hc1)) j)<|xq (oMv j j)<|xsgF j j j j<|xsgF j j j j<|xsgF j j j j<|xsgF j j j j<|xq (oPkT j j j j)<|xq (oMv j j)<|xsgF j j j j<|xsgF j j j j<|xsgF j j j j<|xsgF j j j j<|xq (oPkT j j j j)<|xn
 ·refine us<|gc h j iR (fun hc4 h=>?_) fun hc4 h=>?_
  ·refine gs<|g0 j j (q (oAsI j j)<|nl)<|us<|Go.ret (Unw.ret ?_)
   cases h
   exact fr rF54 j
  ·refine Go.skip<|us<|gs<|gs<|g0 j j (q (oFA (r':=.mp 1 0 2) j fF26_2 j j)<|q (oLd (cs:=[.im 2 _]) j tF23 j j)<|q (oLnI j j uF23 j)<|q (oMv j j)<|nl)<|us<|Go.block<|?_
   obtain ⟨o,hl,h⟩:=bs h
   refine gl c54 j _ (fun (t_34_l4:Int)=>mk [(1,M 1),(32,D 2 (W 2 e_S_Point d_0.Points)),(33,iv (d_0.Points.length:Int)),(34,iv t_34_l4)] [(1,Oa (G 2 (u_S_Drawing d_0)))]) (fun (o:(Unit ⊕ Bool)) (p:Ex×St)=>match o with | (.inl _)=>p.1= .exit 0∧p.2.norm ([1],[1])=mk [(1,M 1)] [(1,Oa (G 2 (u_S_Drawing d_0)))] | (.inr r2)=>p.1= .ret∧fin Try.prog cfg 54 Try.f54 [.im 2 true (u_S_Drawing d_0)] p.2=some (B0 [(false,[.im 0 (V r2)])])) hl (by kernel_rfl) ?_ ?_ ?_
   ·intro o p hp e
    rcases o with u | r2<;>exact nomatch (hp.1.symm.trans e)
   ·rintro t_34_l4 o h
    unfold impl_ValidDrawing_l4 at h
    refine gs<|g0 j j (q (oBi j j j j)<|nl)<|us<|gs<|gc h j iDec (fun hc39 h=>?_) fun hc39 h=>?_
    ·refine Go.skip<|us<|gs<|Go.block<|gs<|?_
     obtain ⟨x37,hx37,h⟩:=bs h
     refine g0 j j (q (oMv j j)<|q (oIAI j hx37 sF23 j j)<|q (oLd (cs:=[.im 2 _,.im 2 _]) j tF155 j j)<|q (oAl j tF155 (tkI (tkI tk0)))<|q (oAsI j j)<|q (oSt tF155 j j j (tkI (tkI tk0)) j j j)<|nl)<|us<|gs<|?_
     obtain ⟨x43,hx43,h⟩:=bs h
     obtain ⟨t_60_m6,hm43,h⟩:=bs h
     refine gd c54 j j j (st1:=mk [(1,M 1),(3,iv t_34_l4),(4,M 4),(32,D 2 (W 2 e_S_Point d_0.Points)),(33,iv (d_0.Points.length:Int)),(34,iv t_34_l4)] [(1,Oa (G 2 (u_S_Drawing d_0))),(4,Oa (G 0 (u_S_Point x37)))]) (by kernel_rfl) (mk [(1,M 1),(32,D 2 (W 2 e_S_Point d_0.Points)),(33,iv (d_0.Points.length:Int)),(34,iv t_34_l4),(60,bv t_60_m6)] [(1,Oa (G 2 (u_S_Drawing d_0)))]) ?_ ?_
     ·refine t j j (oFA (r':=.mp 4 0 0) j fF155_0 j j)<|t j j (oLd (cs:=[.im 0 _]) j tF2 j j)<|t j j (oFA (r':=.mp 1 0 0) j fF26_0 j j)<|?_
      refine ic hm43 (fun hc40 hm43=>?_) fun hc40 hm43=>?_
      ·obtain ⟨x50,hx50,hm43⟩:=bs hm43
       refine ic hm43 (fun hc41 hm43=>?_) fun hc41 hm43=>?_
       ·obtain ⟨x57,hx57,hm43⟩:=bs hm43
        obtain ⟨x59,hx59,hm43⟩:=bs hm43
        cases hm43
        exact t j j (oLd (cs:=[.im 0 _]) j tF2 j j)<|sS (dN z54 j (oCa (xs:=[.v false [.im 0 _],.v false [.im 0 _],.v false [.im 0 _]]) (vs:=[(false,[.im 0 _])]) (v:=.v false [.im 0 _]) (L_impl_within hx43) (.inl j) j kF79_2_2_2 j (ppC j (ppC j (ppC j pp0))) j j pb0 j j j)) trivial (t j j (oUn j j j)<|t j j (oMv j j)<|tT j j j j (nF (iR.2 hc40)) (oFA (r':=.mp 4 0 1) j fF155_1 j j)<|tT j j j j (nF (iR.2 hc40)) (oLd (cs:=[.im 0 _]) j tF2 j j)<|tT j j j j (nF (iR.2 hc40)) (oFA (r':=.mp 1 0 1) j fF26_1 j j)<|tT j j j j (nF (iR.2 hc40)) (oLd (cs:=[.im 0 _]) j tF2 j j)<|sS (dT z54 j j j (nF (iR.2 hc40)) (oCa (xs:=[.v false [.im 0 _],.v false [.im 0 _],.v false [.im 0 _]]) (vs:=[(false,[.im 0 _])]) (v:=.v false [.im 0 _]) (L_impl_within hx50) (.inl j) j kF79_2_2_2 j (ppC j (ppC j (ppC j pp0))) j j pb0 j j j)) trivial (tT j j j j (nF (iR.2 hc40)) (oUn j j j)<|t j j (oPkF j j (nF (iR.2 hc40)) j)<|t j j (oMv j j)<|tT j j j j (nF (iR.2 hc41)) (oFA (r':=.mp 1 0 2) j fF26_2 j j)<|tT j j j j (nF (iR.2 hc41)) (oLd (cs:=[.im 2 _]) j tF23 j j)<|tT j j j j (nF (iR.2 hc41)) (oMv j j)<|sK (O:=[4]) j j j (dT z54 j j j (nF (iR.2 hc41)) (oLd (cs:=[.im 0 _,.im 0 _]) j tF155 j j))<|sS (dT z54 j j j (nF (iR.2 hc41)) (oSlI j hx57 sF23 j bn0 (bn1 j) j j)) (kY ⟨j,trivial⟩ trivial) (sS (dT z54 j j j (nF (iR.2 hc41)) (oCa (xs:=[.v false [.im 2 _],.v true [.im 0 _,.im 0 _]]) (vs:=[(false,[.im 0 _])]) (v:=.v false [.im 0 _]) (L_slices_Contains_impl_Point_impl_Point hx59) (.inl j) j kF105_23_155 j (ppC j (ppC j pp0)) j j pb0 j j j)) (kN j trivial) (t j j (oPkF j j (nF (iR.2 hc41)) j)<|sD (by kernel_rfl)))))
       ·cases hm43
        exact t j j (oLd (cs:=[.im 0 _]) j tF2 j j)<|sS (dN z54 j (oCa (xs:=[.v false [.im 0 _],.v false [.im 0 _],.v false [.im 0 _]]) (vs:=[(false,[.im 0 _])]) (v:=.v false [.im 0 _]) (L_impl_within hx43) (.inl j) j kF79_2_2_2 j (ppC j (ppC j (ppC j pp0))) j j pb0 j j j)) trivial (t j j (oUn j j j)<|t j j (oMv j j)<|tT j j j j (nF (iR.2 hc40)) (oFA (r':=.mp 4 0 1) j fF155_1 j j)<|tT j j j j (nF (iR.2 hc40)) (oLd (cs:=[.im 0 _]) j tF2 j j)<|tT j j j j (nF (iR.2 hc40)) (oFA (r':=.mp 1 0 1) j fF26_1 j j)<|tT j j j j (nF (iR.2 hc40)) (oLd (cs:=[.im 0 _]) j tF2 j j)<|sS (dT z54 j j j (nF (iR.2 hc40)) (oCa (xs:=[.v false [.im 0 _],.v false [.im 0 _],.v false [.im 0 _]]) (vs:=[(false,[.im 0 _])]) (v:=.v false [.im 0 _]) (L_impl_within hx50) (.inl j) j kF79_2_2_2 j (ppC j (ppC j (ppC j pp0))) j j pb0 j j j)) trivial (tT j j j j (nF (iR.2 hc40)) (oUn j j j)<|t j j (oPkF j j (nF (iR.2 hc40)) j)<|t j j (oMv j j)<|tF j j j j (nT (byF iR hc41)) j<|tF j j j j (nT (byF iR hc41)) j<|tF j j j j (nT (byF iR hc41)) j<|sK (O:=[4]) j j j (dF j j j (nT (byF iR hc41)) j)<|sS (dF j j j (nT (byF iR hc41)) j) (kY ⟨j,trivial⟩ trivial) (sS (dF j j j (nT (byF iR hc41)) j) (kN j trivial) (t j j (oPkT j j (nT (byF iR hc41)) j)<|sD (by kernel_rfl)))))
      ·cases hm43
       exact t j j (oLd (cs:=[.im 0 _]) j tF2 j j)<|sS (dN z54 j (oCa (xs:=[.v false [.im 0 _],.v false [.im 0 _],.v false [.im 0 _]]) (vs:=[(false,[.im 0 _])]) (v:=.v false [.im 0 _]) (L_impl_within hx43) (.inl j) j kF79_2_2_2 j (ppC j (ppC j (ppC j pp0))) j j pb0 j j j)) trivial (t j j (oUn j j j)<|t j j (oMv j j)<|tF j j j j (nT (byF iR hc40)) j<|tF j j j j (nT (byF iR hc40)) j<|tF j j j j (nT (byF iR hc40)) j<|tF j j j j (nT (byF iR hc40)) j<|sS (dF j j j (nT (byF iR hc40)) j) trivial (tF j j j j (nT (byF iR hc40)) j<|t j j (oPkT j j (nT (byF iR hc40)) j)<|t j j (oMv j j)<|tF j j j j j j<|tF j j j j j j<|tF j j j j j j<|sK (O:=[4]) j j j (dF j j j j j)<|sS (dF j j j j j) (kY ⟨j,trivial⟩ trivial) (sS (dF j j j j j) (kN j trivial) (t j j (oPkT j j j j)<|sD (by kernel_rfl)))))
     ·refine us<|gc h j iR (fun hc42 h=>?_) fun hc42 h=>?_
      ·refine gs<|g0 j j (q (oAsI j j)<|nl)<|us<|Go.ret (Unw.ret ?_)
       cases h
       exact ⟨j,(fo rF54 j)⟩
      ·refine Go.skip<|Unw.blk<|us<|g0 j j (q (oBi j j j j)<|q (oMv j j)<|nl)<|Unw.nil<|?_
       cases h
       exact ⟨j,(by kernel_rfl)⟩
    ·refine Go.exit<|ux<|Unw.nil<|?_
     cases h
     exact ⟨j,(by kernel_rfl)⟩
   ·rintro ⟨e,st⟩ hp
    rcases o with u | r2
    ·dsimp only at h
     obtain ⟨he,hst⟩:=hp
     obtain rfl:e= .exit 0:=he
     refine Unw.blkx<|us<|gs<|gs<|g2 c54 j j hst (q (oFA (r':=.mp 1 0 3) j fF26_3 j j)<|q (oLd (cs:=[.im 2 _]) j tF24 j j)<|q (oLnI j j uF24 j)<|q (oMv j j)<|nl)<|us<|Go.block<|?_
     obtain ⟨o,hl,h⟩:=bs h
     refine gl c54 j _ (fun (t_65_l10:Int)=>mk [(1,M 1),(63,D 2 (W 2 e_S_Face d_0.Faces)),(64,iv (d_0.Faces.length:Int)),(65,iv t_65_l10)] [(1,Oa (G 2 (u_S_Drawing d_0)))]) (fun (o:(Unit ⊕ Bool)) (p:Ex×St)=>match o with | (.inl _)=>p.1= .exit 2∧p.2.norm ([],[])=mk [] [] | (.inr r2)=>p.1= .ret∧fin Try.prog cfg 54 Try.f54 [.im 2 true (u_S_Drawing d_0)] p.2=some (B0 [(false,[.im 0 (V r2)])])) hl (by kernel_rfl) ?_ ?_ ?_
     ·intro o p hp e
      rcases o with u | r2<;>exact nomatch (hp.1.symm.trans e)
     ·rintro t_65_l10 o h
      unfold impl_ValidDrawing_l10 at h
      refine gs<|g0 j j (q (oBi j j j j)<|nl)<|us<|gs<|gc h j iDec (fun hc31 h=>?_) fun hc31 h=>?_
      ·refine Go.skip<|us<|gs<|Go.block<|gs<|?_
       obtain ⟨x68,hx68,h⟩:=bs h
       refine g0 j j (q (oMv j j)<|q (oIAI j hx68 sF24 j j)<|q (oLd (cs:=[.im 2 _,.im 2 _]) j tF148 j j)<|q (oAl j tF148 (tkI (tkN tk0)))<|q (oAsI j j)<|q (oSt tF148 j j j (tkI (tkI tk0)) j j j)<|nl)<|us<|gs<|gs<|?_
       obtain ⟨x72,hx72,h⟩:=bs h
       obtain ⟨t_89_m12,hm38,h⟩:=bs h
       refine gd c54 j j j (st1:=mk [(1,M 1),(5,iv t_65_l10),(6,M 6),(63,D 2 (W 2 e_S_Face d_0.Faces)),(64,iv (d_0.Faces.length:Int)),(65,iv t_65_l10)] [(1,Oa (G 2 (u_S_Drawing d_0))),(6,Oa (G 2 (u_S_Face x68)))]) (by kernel_rfl) (mk [(1,M 1),(6,M 6),(63,D 2 (W 2 e_S_Face d_0.Faces)),(64,iv (d_0.Faces.length:Int)),(65,iv t_65_l10),(89,bv t_89_m12)] [(1,Oa (G 2 (u_S_Drawing d_0))),(6,Oa (G 2 (u_S_Face x68)))]) ?_ ?_
       ·refine t j j (oFA (r':=.mp 6 0 0) j fF148_0 j j)<|?_
        refine ic hm38 (fun hc32 hm38=>?_) fun hc32 hm38=>?_
        ·refine ic hm38 (fun hc33 hm38=>?_) fun hc33 hm38=>?_
         ·obtain ⟨x82,hx82,hm38⟩:=bs hm38
          cases hm38
          exact t j j (oLd (cs:=[.im 0 _]) j tF9 j j)<|sS (dN z54 j (oCa (xs:=[.v false [.im 0 _]]) (vs:=[(false,[.im 0 _])]) (v:=.v false [.im 0 _]) (L_impl_IsName hx72) (.inl j) j kF106_9 j (ppC j pp0) j j pb0 j j j)) trivial (t j j (oUn j j j)<|t j j (oMv j j)<|tT j j j j (nF (iR.2 hc32)) (oMv j j)<|tT j j j j (nF (iR.2 hc32)) (oBi j j j j)<|tT j j j j (nF (iR.2 hc32)) (oMv j j)<|tT j j j j (iDec.2 hc33) (oFA (r':=.mp 1 0 3) j fF26_3 j j)<|tT j j j j (iDec.2 hc33) (oLd (cs:=[.im 2 _]) j tF24 j j)<|tT j j j j (iDec.2 hc33) (oMv j j)<|tT j j j j (iDec.2 hc33) (oBi j j j j)<|tT j j j j (iDec.2 hc33) (oIAI j hx82 sF24 j j)<|tT j j j j (iDec.2 hc33) (oFA (r':=.im 2 _) j fF148_0 j j)<|tT j j j j (iDec.2 hc33) (oLd (cs:=[.im 2 _]) j tF9 j j)<|tT j j j j (iDec.2 hc33) (oFA (r':=.mp 6 0 0) j fF148_0 j j)<|tT j j j j (iDec.2 hc33) (oLd (cs:=[.im 0 _]) j tF9 j j)<|tT j j j j (iDec.2 hc33) (oBi j j j j)<|tT j j j j (nF (iR.2 hc32)) (oPkT j j (iDec.2 hc33) j)<|t j j (oPkF j j (nF (iR.2 hc32)) j)<|sD (by kernel_rfl))
         ·cases hm38
          exact t j j (oLd (cs:=[.im 0 _]) j tF9 j j)<|sS (dN z54 j (oCa (xs:=[.v false [.im 0 _]]) (vs:=[(false,[.im 0 _])]) (v:=.v false [.im 0 _]) (L_impl_IsName hx72) (.inl j) j kF106_9 j (ppC j pp0) j j pb0 j j j)) trivial (t j j (oUn j j j)<|t j j (oMv j j)<|tT j j j j (nF (iR.2 hc32)) (oMv j j)<|tT j j j j (nF (iR.2 hc32)) (oBi j j j j)<|tT j j j j (nF (iR.2 hc32)) (oMv j j)<|tF j j j j (byF iDec hc33) j<|tF j j j j (byF iDec hc33) j<|tF j j j j (byF iDec hc33) j<|tF j j j j (byF iDec hc33) j<|tF j j j j (byF iDec hc33) j<|tF j j j j (byF iDec hc33) j<|tF j j j j (byF iDec hc33) j<|tF j j j j (byF iDec hc33) j<|tF j j j j (byF iDec hc33) j<|tF j j j j (byF iDec hc33) j<|tT j j j j (nF (iR.2 hc32)) (oPkF j j (byF iDec hc33) j)<|t j j (oPkF j j (nF (iR.2 hc32)) j)<|sD (by kernel_rfl))
        ·cases hm38
         exact t j j (oLd (cs:=[.im 0 _]) j tF9 j j)<|sS (dN z54 j (oCa (xs:=[.v false [.im 0 _]]) (vs:=[(false,[.im 0 _])]) (v:=.v false [.im 0 _]) (L_impl_IsName hx72) (.inl j) j kF106_9 j (ppC j pp0) j j pb0 j j j)) trivial (t j j (oUn j j j)<|t j j (oMv j j)<|tF j j j j (nT (byF iR hc32)) j<|tF j j j j (nT (byF iR hc32)) j<|tF j j j j (nT (byF iR hc32)) j<|sT j (dU j j j j)<|sT j (dU j j j j)<|sT j (dU j j j j)<|sT j (dU j j j j)<|sT j (dU j j j j)<|sT j (dU j j j j)<|sT j (dU j j j j)<|sT j (dU j j j j)<|sT j (dU j j j j)<|sT j (dU j j j j)<|tF j j j j (nT (byF iR hc32)) j<|t j j (oPkT j j (nT (byF iR hc32)) j)<|sD (by kernel_rfl))
       ·refine us<|gc h j iR (fun hc34 h=>?_) fun hc34 h=>?_
        ·refine gs<|g0 j j (q (oAsI j j)<|nl)<|us<|Go.ret (Unw.ret ?_)
         cases h
         exact ⟨j,(fo rF54 j)⟩
        ·refine Go.skip<|us<|gs<|?_
         obtain ⟨x95,hx95,h⟩:=bs h
         refine g0 j j (q (oFA (r':=.mp 1 0 2) j fF26_2 j j)<|q (oLd (cs:=[.im 2 _]) j tF23 j j)<|q (oFA (r':=.mp 6 0 1) j fF148_1 j j)<|q (oLd (cs:=[.im 2 _]) j tF28 j j)<|q (oCr (xs:=[.v false [.im 2 _],.v false [.im 2 _]]) (vs:=[(false,[.own 95 0 0]),(false,[.im 0 _])]) (v:=.tup [(false,[.own 95 0 0]),(false,[.im 0 _])]) (c:=⟨.sh,0,_⟩) (cs:=[]) (L_impl_ringPolygon hx95) (.inl j) j kF107_23_28 j (ppC j (ppC j pp0)) j j pb0 j j j)<|q (oMvT j j)<|q (oEx j j j)<|q (oEx j j j)<|q (oAsO j j j j j)<|q (oAsI j j)<|nl)<|us<|gs<|?_
         obtain ⟨t_104_m15,hm37,h⟩:=bs h
         refine gX c54 j j j (mk [(1,M 1),(63,D 2 (W 2 e_S_Face d_0.Faces)),(64,iv (d_0.Faces.length:Int)),(65,iv t_65_l10),(104,bv t_104_m15)] [(1,Oa (G 2 (u_S_Drawing d_0)))]) ?_ ?_
         ·refine xq (oMv j j)<|xq (oUn j j j)<|xq (oMv j j)<|?_
          refine ic hm37 (fun hc35 hm37=>?_) fun hc35 hm37=>?_
          ·obtain ⟨x102,hx102,hm37⟩:=bs hm37
           cases hm37
           exact xqT j j (nF (iR.2 hc35)) (oMv j j)<|xqT j j (nF (iR.2 hc35)) (oCa (xs:=[.v false [.own 7 0 0]]) (vs:=[(false,[.im 0 _])]) (v:=.v false [.im 0 _]) (L_impl_ValidPolygon hx102) (.inl j) j kF108_23 j (ppC j pp0) j j pb0 j j j)<|xqT j j (nF (iR.2 hc35)) (oUn j j j)<|xq (oPkF j j (nF (iR.2 hc35)) j)<|xn
          ·cases hm37
           exact xsgF j j (nT (byF iR hc35)) j<|xsgF j j (nT (byF iR hc35)) j<|xsgF j j (nT (byF iR hc35)) j<|xq (oPkT j j (nT (byF iR hc35)) j)<|xn
         ·refine us<|gc h j iR (fun hc36 h=>?_) fun hc36 h=>?_
          ·refine gs<|g0 j j (q (oAsI j j)<|nl)<|us<|Go.ret (Unw.ret ?_)
           cases h
           exact ⟨j,(fo rF54 j)⟩
          ·refine Go.skip<|Unw.blk<|us<|g0 j j (q (oBi j j j j)<|q (oMv j j)<|nl)<|Unw.nil<|?_
           cases h
           exact ⟨j,(by kernel_rfl)⟩
      ·refine Go.exit<|ux<|Unw.nil<|?_
       cases h
       exact ⟨j,(by kernel_rfl)⟩
     ·rintro ⟨e,st⟩ hp
      rcases o with u | r2
      ·dsimp only at h
       obtain ⟨he,hst⟩:=hp
       obtain rfl:e= .exit 2:=he
       refine Unw.blkx<|us<|gs<|g2 c54 j j hst (q (oAsI j j)<|nl)<|us<|Go.ret (Unw.ret ?_)
       cases h
       exact fr rF54 j
      ·dsimp only at h
       obtain ⟨he,hfin⟩:=hp
       obtain rfl:e= .ret:=he
       cases h
       exact Unw.ret (Fin_ret hfin)
    ·dsimp only at h
     obtain ⟨he,hfin⟩:=hp
     obtain rfl:e= .ret:=he
     cases h
     exact Unw.ret (Fin_ret hfin)
theorem L_impl_SpeciesData {name_0:ByteArray} {r:(Int×Int×Int×Int)} (h:impl_SpeciesData name_0=some r):FX 203 [.im 2 false [Y name_0]] (B0 [(false,[.im 0 (I r.1)]),(false,[.im 0 (I r.2.1)]),(false,[.im 0 (I r.2.2.1)]),(false,[.im 0 (I r.2.2.2)])]):=by
 unfold impl_SpeciesData at h
 refine gn 27 Try.func203 rfl ?_
 refine gs<|g0 j j (q (oAsI j j)<|q (oAsI j j)<|q (oAsI j j)<|q (oAsI j j)<|nl)<|us<|gs<|gs<|g0 j j (q (oMv j j)<|nl)<|us<|Go.block<|gs<|g0 j j (q (oBi j j j j)<|q (oAsI j j)<|nl)<|us<|gc h j iStr (fun hc1 h=>?_) fun hc1 h=>?_
 ·refine gs<|g0 j j (q (oAsI j j)<|q (oAsI j j)<|q (oAsI j j)<|q (oAsI j j)<|nl)<|us<|Go.ret (Unw.ret ?_)
  cases h
  exact fr rF203 j
 ·refine gs<|g0 j j (q (oBi j j j j)<|q (oAsI j j)<|nl)<|us<|gc h j iStr (fun hc2 h=>?_) fun hc2 h=>?_
  ·refine gs<|g0 j j (q (oAsI j j)<|q (oAsI j j)<|q (oAsI j j)<|q (oAsI j j)<|nl)<|us<|Go.ret (Unw.ret ?_)
   cases h
   exact fr rF203 j
  ·refine gs<|g0 j j (q (oBi j j j j)<|q (oAsI j j)<|nl)<|us<|gc h j iStr (fun hc3 h=>?_) fun hc3 h=>?_
   ·refine gs<|g0 j j (q (oAsI j j)<|q (oAsI j j)<|q (oAsI j j)<|q (oAsI j j)<|nl)<|us<|Go.ret (Unw.ret ?_)
    cases h
    exact fr rF203 j
   ·refine gs<|g0 j j (q (oBi j j j j)<|q (oAsI j j)<|nl)<|us<|gc h j iStr (fun hc4 h=>?_) fun hc4 h=>?_
    ·refine gs<|g0 j j (q (oAsI j j)<|q (oAsI j j)<|q (oAsI j j)<|q (oAsI j j)<|nl)<|us<|Go.ret (Unw.ret ?_)
     cases h
     exact fr rF203 j
    ·refine gs<|g0 j j (q (oBi j j j j)<|q (oAsI j j)<|nl)<|us<|gc h j iStr (fun hc5 h=>?_) fun hc5 h=>?_
     ·refine gs<|g0 j j (q (oAsI j j)<|q (oAsI j j)<|q (oAsI j j)<|q (oAsI j j)<|nl)<|us<|Go.ret (Unw.ret ?_)
      cases h
      exact fr rF203 j
     ·refine gs<|g0 j j (q (oBi j j j j)<|q (oAsI j j)<|nl)<|us<|gc h j iStr (fun hc6 h=>?_) fun hc6 h=>?_
      ·refine gs<|g0 j j (q (oAsI j j)<|q (oAsI j j)<|q (oAsI j j)<|q (oAsI j j)<|nl)<|us<|Go.ret (Unw.ret ?_)
       cases h
       exact fr rF203 j
      ·refine gs<|g0 j j (q (oBi j j j j)<|q (oAsI j j)<|nl)<|us<|gc h j iStr (fun hc7 h=>?_) fun hc7 h=>?_
       ·refine gs<|g0 j j (q (oAsI j j)<|q (oAsI j j)<|q (oAsI j j)<|q (oAsI j j)<|nl)<|us<|Go.ret (Unw.ret ?_)
        cases h
        exact fr rF203 j
       ·refine gs<|g0 j j (q (oBi j j j j)<|q (oAsI j j)<|nl)<|us<|gc h j iStr (fun hc8 h=>?_) fun hc8 h=>?_
        ·refine gs<|g0 j j (q (oAsI j j)<|q (oAsI j j)<|q (oAsI j j)<|q (oAsI j j)<|nl)<|us<|Go.ret (Unw.ret ?_)
         cases h
         exact fr rF203 j
        ·refine gs<|g0 j j (q (oBi j j j j)<|q (oAsI j j)<|nl)<|us<|gc h j iStr (fun hc9 h=>?_) fun hc9 h=>?_
         ·refine gs<|g0 j j (q (oAsI j j)<|q (oAsI j j)<|q (oAsI j j)<|q (oAsI j j)<|nl)<|us<|Go.ret (Unw.ret ?_)
          cases h
          exact fr rF203 j
         ·refine gs<|g0 j j (q (oBi j j j j)<|q (oAsI j j)<|nl)<|us<|gc h j iStr (fun hc10 h=>?_) fun hc10 h=>?_
          ·refine gs<|g0 j j (q (oAsI j j)<|q (oAsI j j)<|q (oAsI j j)<|q (oAsI j j)<|nl)<|us<|Go.ret (Unw.ret ?_)
           cases h
           exact fr rF203 j
          ·refine Go.skip<|Unw.blk<|us<|gs<|g0 j j (q (oAsI j j)<|q (oAsI j j)<|q (oAsI j j)<|q (oAsI j j)<|nl)<|us<|Go.ret (Unw.ret ?_)
           cases h
           exact fr rF203 j
theorem L_impl_speciesShade {name_0:ByteArray} {r:(Int×Bool)} (h:impl_speciesShade name_0=some r):FX 185 [.im 2 false [Y name_0]] (B0 [(false,[.im 0 (I r.1)]),(false,[.im 0 (V r.2)])]):=by
 unfold impl_speciesShade at h
 refine gn 18 Try.func185 rfl ?_
 refine gs<|g0 j j (q (oAsI j j)<|q (oAsI j j)<|nl)<|us<|gs<|?_
 obtain ⟨x10,hx10,h⟩:=bs h
 refine g0 j j (q (oMv j j)<|q (oCa (xs:=[.v false [.im 2 _]]) (vs:=[(false,[.im 0 _]),(false,[.im 0 _]),(false,[.im 0 _]),(false,[.im 0 _])]) (v:=.tup [(false,[.im 0 _]),(false,[.im 0 _]),(false,[.im 0 _]),(false,[.im 0 _])]) (L_impl_SpeciesData hx10) (.inl j) j kF203_9 j (ppC j pp0) j j pb0 j j j)<|q (oMvT j j)<|q (oEx j j j)<|q (oEx j j j)<|q (oEx j j j)<|q (oEx j j j)<|q (oAsI j j)<|q (oAsI j j)<|q (oAsI j j)<|q (oAsI j j)<|nl)<|us<|gs<|g0 j j (q (oMv j j)<|q (oMv j j)<|q (oBi j j j j)<|q (oAsI j j)<|q (oAsI j j)<|nl)<|us<|Go.ret (Unw.ret ?_)
 cases h
 exact fr rF185 j
theorem L_impl_ValidVeneer {v_0:S_Veneer} {r:Bool} (h:impl_ValidVeneer v_0=some r):FX 168 [.im 2 true (u_S_Veneer v_0)] (B0 [(false,[.im 0 (V r)])]):=by
 unfold impl_ValidVeneer at h
 refine gn 29 Try.func168 rfl ?_
 refine gs<|g0 j j (q (oBx j tF123 j (tkI (tkI (tkI tk0))))<|q (oAsI j j)<|nl)<|us<|gs<|?_
 obtain ⟨x8,hx8,h⟩:=bs h
 refine g0 j j (q (oFA (r':=.mp 1 0 0) j fF123_0 j j)<|q (oLd (cs:=[.im 0 _]) j tF9 j j)<|q (oCa (xs:=[.v false [.im 0 _]]) (vs:=[(false,[.im 0 _]),(false,[.im 0 _])]) (v:=.tup [(false,[.im 0 _]),(false,[.im 0 _])]) (L_impl_speciesShade hx8) (.inl j) j kF185_9 j (ppC j pp0) j j pb0 j j j)<|q (oMvT j j)<|q (oEx j j j)<|q (oEx j j j)<|q (oAsI j j)<|q (oAsI j j)<|nl)<|us<|gs<|?_
 obtain ⟨t_2_m2,hm4,h⟩:=bs h
 refine gX c168 j j j (mk [(2,bv t_2_m2)] []) ?_ ?_
 ·refine xq (oMv j j)<|xq (oMv j j)<|?_
  refine ic hm4 (fun hc1 hm4=>?_) fun hc1 hm4=>?_
  ·obtain ⟨x15,hx15,hm4⟩:=bs hm4
   refine xqT j j (iR.2 hc1) (oFA (r':=.mp 1 0 1) j fF123_1 j j)<|xqT j j (iR.2 hc1) (oLd (cs:=[.im 0 _]) j tF2 j j)<|xqT j j (iR.2 hc1) (oCa (xs:=[.v false [.im 0 _],.v false [.im 0 _],.v false [.im 0 _]]) (vs:=[(false,[.im 0 _])]) (v:=.v false [.im 0 _]) (L_impl_within hx15) (.inl j) j kF79_2_2_2 j (ppC j (ppC j (ppC j pp0))) j j pb0 j j j)<|xq (oPkT j j (iR.2 hc1) j)<|xq (oMv j j)<|?_
   refine ic hm4 (fun hc2 hm4=>?_) fun hc2 hm4=>?_
   ·obtain ⟨x22,hx22,hm4⟩:=bs hm4
    refine xqT j j (iR.2 hc2) (oFA (r':=.mp 1 0 1) j fF123_1 j j)<|xqT j j (iR.2 hc2) (oLd (cs:=[.im 0 _]) j tF2 j j)<|xqT j j (iR.2 hc2) (oMv j j)<|xqT j j (iR.2 hc2) (oBi j j j j)<|xqT j j (iR.2 hc2) (oCa (xs:=[.v false [.im 0 _],.v false [.im 0 _],.v false [.im 0 _]]) (vs:=[(false,[.im 0 _])]) (v:=.v false [.im 0 _]) (L_impl_within hx22) (.inl j) j kF79_2_2_2 j (ppC j (ppC j (ppC j pp0))) j j pb0 j j j)<|xq (oPkT j j (iR.2 hc2) j)<|xq (oMv j j)<|?_
    refine ic hm4 (fun hc3 hm4=>?_) fun hc3 hm4=>?_
    ·obtain ⟨x27,hx27,hm4⟩:=bs hm4
     cases hm4
     exact xqT j j (iR.2 hc3) (oFA (r':=.mp 1 0 2) j fF123_2 j j)<|xqT j j (iR.2 hc3) (oLd (cs:=[.im 0 _]) j tF2 j j)<|xqT j j (iR.2 hc3) (oCa (xs:=[.v false [.im 0 _],.v false [.im 0 _],.v false [.im 0 _]]) (vs:=[(false,[.im 0 _])]) (v:=.v false [.im 0 _]) (L_impl_within hx27) (.inl j) j kF79_2_2_2 j (ppC j (ppC j (ppC j pp0))) j j pb0 j j j)<|xq (oPkT j j (iR.2 hc3) j)<|xq (oAsI j j)<|xn
    ·cases hm4
     exact xsgF j j (byF iR hc3) j<|xsgF j j (byF iR hc3) j<|xsgF j j (byF iR hc3) j<|xq (oPkF j j (byF iR hc3) j)<|xq (oAsI j j)<|xn
   ·cases hm4
    exact xsgF j j (byF iR hc2) j<|xsgF j j (byF iR hc2) j<|xsgF j j (byF iR hc2) j<|xsgF j j (byF iR hc2) j<|xsgF j j (byF iR hc2) j<|xq (oPkF j j (byF iR hc2) j)<|xq (oMv j j)<|xsgF j j j j<|xsgF j j j j<|xsgF j j j j<|xq (oPkF j j j j)<|xq (oAsI j j)<|xn
  ·cases hm4
   exact xsgF j j (byF iR hc1) j<|xsgF j j (byF iR hc1) j<|xsgF j j (byF iR hc1) j<|xq (oPkF j j (byF iR hc1) j)<|xq (oMv j j)<|xsgF j j j j<|xsgF j j j j<|xsgF j j j j<|xsgF j j j j<|xsgF j j j j<|xq (oPkF j j j j)<|xq (oMv j j)<|xsgF j j j j<|xsgF j j j j<|xsgF j j j j<|xq (oPkF j j j j)<|xq (oAsI j j)<|xn
 ·refine us<|Go.ret (Unw.ret ?_)
  cases h
  exact fr rF168 j
theorem L_impl_validVeneers_c1 {v_0:S_Veneer} {r:Bool} (h:impl_validVeneers_c1 v_0=some r):FX 167 [.im 2 true (u_S_Veneer v_0)] (B0 [(false,[.im 0 (V r)])]):=by
 unfold impl_validVeneers_c1 at h
 refine gn 6 Try.func167 rfl ?_
 refine gs<|g0 j j (q (oBx j tF123 j (tkI (tkI (tkI tk0))))<|q (oAsI j j)<|nl)<|us<|gs<|?_
 obtain ⟨x4,hx4,h⟩:=bs h
 refine g0 j j (q (oLd (cs:=[.im 0 _,.im 0 _,.im 0 _]) j tF123 j j)<|q (oCa (xs:=[.v true [.im 0 _,.im 0 _,.im 0 _]]) (vs:=[(false,[.im 0 _])]) (v:=.v false [.im 0 _]) (L_impl_ValidVeneer hx4) (.inl j) j kF168_123 j (ppC j pp0) j j pb0 j j j)<|q (oUn j j j)<|q (oAsI j j)<|nl)<|us<|Go.ret (Unw.ret ?_)
 cases h
 exact fr rF167 j
theorem L_slices_IndexFunc_impl_Veneer_impl_Veneer_167 {s_0:(List S_Veneer)} {r:Int} (h:slices_IndexFunc_impl_Veneer_impl_Veneer s_0 (fun b0=>impl_validVeneers_c1 b0)=some r):FX 184 [.im 2 false [W 3 e_S_Veneer s_0],.im 2 false [.clo 167 []]] (B0 [(false,[.im 0 (I r)])]):=by
 unfold slices_IndexFunc_impl_Veneer_impl_Veneer at h
 refine gn 19 Try.func184 rfl ?_
 refine gs<|g0 j j (q (oAsI j j)<|nl)<|us<|gs<|gs<|g0 j j (q (oMv j j)<|q (oLnI j j uF42 j)<|q (oMv j j)<|nl)<|us<|Go.block<|?_
 obtain ⟨o,hl,h⟩:=bs h
 refine gl c184 j _ (fun (t_8_l2:Int)=>mk [(0,D 2 (W 3 e_S_Veneer s_0)),(1,D 2 (.clo 167 [])),(7,iv (s_0.length:Int)),(8,iv t_8_l2)] []) (fun (o:(Unit ⊕ Int)) (p:Ex×St)=>match o with | (.inl _)=>p.1= .exit 0∧p.2.norm ([],[])=mk [] [] | (.inr r2)=>p.1= .ret∧fin Try.prog cfg 184 Try.f184 [.im 2 false [W 3 e_S_Veneer s_0],.im 2 false [.clo 167 []]] p.2=some (B0 [(false,[.im 0 (I r2)])])) hl (by kernel_rfl) ?_ ?_ ?_
 ·intro o p hp e
  rcases o with u | r2<;>exact nomatch (hp.1.symm.trans e)
 ·rintro t_8_l2 o h
  unfold slices_IndexFunc_impl_Veneer_impl_Veneer_l2 at h
  refine gs<|g0 j j (q (oBi j j j j)<|nl)<|us<|gs<|gc h j iDec (fun hc5 h=>?_) fun hc5 h=>?_
  ·refine Go.skip<|us<|gs<|Go.block<|gs<|g0 j j (q (oMv j j)<|q (oAsI j j)<|nl)<|us<|gs<|?_
   obtain ⟨x14,hx14,h⟩:=bs h
   obtain ⟨x16,hx16,h⟩:=bs h
   refine g0 j j (q (oMv j j)<|q (oMv j j)<|q (oMv j j)<|q (oIAI j hx14 sF42 j j)<|q (oLd (cs:=[.im 2 _,.im 2 _,.im 2 _]) j tF123 j j)<|q (oCa (xs:=[.v true [.im 2 _,.im 2 _,.im 2 _]]) (vs:=[(false,[.im 0 _])]) (v:=.v false [.im 0 _]) (L_impl_validVeneers_c1 hx16) (.inr ⟨_,_,j,j⟩) j kF167_123 j (ppC j pp0) j j pb0 j j j)<|nl)<|us<|gc h j iR (fun hc6 h=>?_) fun hc6 h=>?_
   ·refine gs<|g0 j j (q (oMv j j)<|q (oAsI j j)<|nl)<|us<|Go.ret (Unw.ret ?_)
    cases h
    exact ⟨j,(fo rF184 j)⟩
   ·refine Go.skip<|Unw.blk<|us<|g0 j j (q (oBi j j j j)<|q (oMv j j)<|nl)<|Unw.nil<|?_
    cases h
    exact ⟨j,(by kernel_rfl)⟩
  ·refine Go.exit<|ux<|Unw.nil<|?_
   cases h
   exact ⟨j,(by kernel_rfl)⟩
 ·rintro ⟨e,st⟩ hp
  rcases o with u | r2
  ·dsimp only at h
   obtain ⟨he,hst⟩:=hp
   obtain rfl:e= .exit 0:=he
   refine Unw.blkx<|us<|gs<|g2 c184 j j hst (q (oAsI j j)<|nl)<|us<|Go.ret (Unw.ret ?_)
   cases h
   exact fr rF184 j
  ·dsimp only at h
   obtain ⟨he,hfin⟩:=hp
   obtain rfl:e= .ret:=he
   cases h
   exact Unw.ret (Fin_ret hfin)
theorem L_slices_ContainsFunc_impl_Veneer_impl_Veneer_167 {s_0:(List S_Veneer)} {r:Bool} (h:slices_ContainsFunc_impl_Veneer_impl_Veneer s_0 (fun b0=>impl_validVeneers_c1 b0)=some r):FX 166 [.im 2 false [W 3 e_S_Veneer s_0],.im 2 false [.clo 167 []]] (B0 [(false,[.im 0 (V r)])]):=by
 unfold slices_ContainsFunc_impl_Veneer_impl_Veneer at h
 refine gn 9 Try.func166 rfl ?_
 refine gs<|g0 j j (q (oAsI j j)<|nl)<|us<|gs<|?_
 obtain ⟨x7,hx7,h⟩:=bs h
 refine g0 j j (q (oMv j j)<|q (oMv j j)<|q (oCa (xs:=[.v false [.im 2 _],.v false [.im 2 _]]) (vs:=[(false,[.im 0 _])]) (v:=.v false [.im 0 _]) (L_slices_IndexFunc_impl_Veneer_impl_Veneer_167 hx7) (.inl j) j kF184_42_203 j (ppC j (ppC j pp0)) j j pb0 j j j)<|q (oBi j j j j)<|q (oAsI j j)<|nl)<|us<|Go.ret (Unw.ret ?_)
 cases h
 exact fr rF166 j
theorem L_impl_validVeneers {list_0:(List S_Veneer)} {r:Bool} (h:impl_validVeneers list_0=some r):FX 130 [.im 2 false [W 3 e_S_Veneer list_0]] (B0 [(false,[.im 0 (V r)])]):=by
 unfold impl_validVeneers at h
 refine gn 6 Try.func130 rfl ?_
 refine gs<|g0 j j (q (oAsI j j)<|nl)<|us<|gs<|?_
 obtain ⟨x4,hx4,h⟩:=bs h
 refine g0 j j (q (oMv j j)<|q (oCa (xs:=[.v false [.im 2 _],.fn 167 []]) (vs:=[(false,[.im 0 _])]) (v:=.v false [.im 0 _]) (L_slices_ContainsFunc_impl_Veneer_impl_Veneer_167 hx4) (.inl j) j kF166_42_203 j (ppC j (ppC j pp0)) j j pb0 j j j)<|q (oUn j j j)<|q (oAsI j j)<|nl)<|us<|Go.ret (Unw.ret ?_)
 cases h
 exact fr rF130 j
theorem L_impl_validSheets {sheets_0:(List S_Veneer)} {r:Bool} (h:impl_validSheets sheets_0=some r):FX 120 [.im 2 false [W 3 e_S_Veneer sheets_0]] (B0 [(false,[.im 0 (V r)])]):=by
 unfold impl_validSheets at h
 refine gn 10 Try.func120 rfl ?_
 refine gs<|g0 j j (q (oAsI j j)<|nl)<|us<|gs<|?_
 obtain ⟨x5,hx5,h⟩:=bs h
 obtain ⟨t_2_m1,hm2,h⟩:=bs h
 refine gX c120 j j j (mk [(2,bv t_2_m1)] []) ?_ ?_
 ·refine xq (oMv j j)<|xq (oLnI j j uF42 j)<|xq (oCa (xs:=[.v false [.im 0 _],.v false [.im 0 _],.v false [.im 0 _]]) (vs:=[(false,[.im 0 _])]) (v:=.v false [.im 0 _]) (L_impl_within hx5) (.inl j) j kF79_2_2_2 j (ppC j (ppC j (ppC j pp0))) j j pb0 j j j)<|xq (oMv j j)<|?_
  refine ic hm2 (fun hc1 hm2=>?_) fun hc1 hm2=>?_
  ·obtain ⟨x8,hx8,hm2⟩:=bs hm2
   cases hm2
   exact xqT j j (iR.2 hc1) (oMv j j)<|xqT j j (iR.2 hc1) (oCa (xs:=[.v false [.im 2 _]]) (vs:=[(false,[.im 0 _])]) (v:=.v false [.im 0 _]) (L_impl_validVeneers hx8) (.inl j) j kF130_42 j (ppC j pp0) j j pb0 j j j)<|xq (oPkT j j (iR.2 hc1) j)<|xq (oAsI j j)<|xn
  ·cases hm2
   exact xsgF j j (byF iR hc1) j<|xsgF j j (byF iR hc1) j<|xq (oPkF j j (byF iR hc1) j)<|xq (oAsI j j)<|xn
 ·refine us<|Go.ret (Unw.ret ?_)
  cases h
  exact fr rF120 j
theorem L_impl_ringEdges {ring_0:(List Int)} {r:(List Ar2_Int)} (h:impl_ringEdges ring_0=some r):FX 113 [.im 2 false [W 1 eI ring_0]] (B0 [(false,[.ow 0 2 (List.map e_Ar2_Int r)])]):=by
 unfold impl_ringEdges at h
 refine gn 35 Try.func113 rfl ?_
 refine gs<|g0 j j (q (oAsN j j eF162)<|nl)<|us<|gs<|g0 j j (q (oBS (es:=List.map e_Ar2_Int ([]:List Ar2_Int)) j sF162 j pt0 (flat0 j fun _=>j))<|q (oAsO j j j j j)<|nl)<|us<|gs<|gs<|g0 j j (q (oMv j j)<|q (oLnI j j uF28 j)<|q (oMv j j)<|nl)<|us<|Go.block<|?_
 obtain ⟨o,hl,h⟩:=bs h
 refine gl c113 j _ (fun (s:(Int×(List Ar2_Int)))=>match s with | (t_10_l3,out_o3_l3)=>mk [(0,D 2 (W 1 eI ring_0)),(3,H 3 0),(8,D 2 (W 1 eI ring_0)),(9,iv (ring_0.length:Int)),(10,iv t_10_l3)] [(3,Oc [Z (W 2 e_Ar2_Int out_o3_l3)])]) (fun (out_o3_e0_3:(List Ar2_Int)) (p:Ex×St)=>p.1= .exit 0∧p.2.norm ([3],[3])=mk [(3,H 3 0)] [(3,Oc [Z (W 2 e_Ar2_Int out_o3_e0_3)])]) hl (by kernel_rfl) ?_ ?_ ?_
 ·intro o p hp e
  exact nomatch (hp.1.symm.trans e)
 ·rintro ⟨t_10_l3,out_o3_l3⟩ o h
  unfold impl_ringEdges_l3 at h
  dsimp only at h
  refine gs<|g0 j j (q (oBi j j j j)<|nl)<|us<|gs<|gc h j iDec (fun hc3 h=>?_) fun hc3 h=>?_
  ·refine Go.skip<|us<|gs<|Go.block<|gs<|?_
   obtain ⟨x13,hx13,h⟩:=bs h
   refine g0 j j (q (oMv j j)<|q (oIAI j hx13 sF28 j j)<|q (oLd (cs:=[.im 2 _]) j tF2 j j)<|q (oAsI j j)<|q (oAsI j j)<|nl)<|us<|gs<|?_
   obtain ⟨x20,hx20,h⟩:=bs h
   obtain ⟨x21,hx21,h⟩:=bs h
   refine g0 j j (q (oMv j j)<|q (oMv j j)<|q (oBi j j j j)<|q (oMv j j)<|q (oLnI j j uF28 j)<|q (oRem j hx20 j j)<|q (oIAI j hx21 sF28 j j)<|q (oLd (cs:=[.im 2 _]) j tF2 j j)<|q (oAsI j j)<|nl)<|us<|?_
   obtain ⟨x32,hx32,h⟩:=bs h
   refine g0 j j (q (oMv j j)<|q (oMv j j)<|q (oMv j j)<|q (oMin j j)<|q (oMv j j)<|q (oMv j j)<|q (oMax j j)<|q (oBu (cs:=[.im 0 _,.im 0 _]) j bF165 j)<|q (oBS (es:=List.map e_Ar2_Int ([(⟨(min2 x13 x21),(max2 x13 x21)⟩:Ar2_Int)]:List Ar2_Int)) j sF162 j (ptC j (fxI (fxI fx0)) j pt0) (flat0 j fun _=>j))<|q (oApO (en:=e_Ar2_Int) (M:=([(⟨(min2 x13 x21),(max2 x13 x21)⟩:Ar2_Int)]:List Ar2_Int)) j hx32 j sF162 j j uF162 (.inl ⟨_,j⟩) j j j j (el_own j j) (flat0 j fun _=>j))<|q (oAsO j j j j j)<|nl)<|Unw.blk<|us<|g0 j j (q (oBi j j j j)<|q (oMv j j)<|nl)<|Unw.nil<|?_
   cases h
   exact ⟨j,(by kernel_rfl)⟩
  ·refine Go.exit<|ux<|Unw.nil<|?_
   cases h
   exact ⟨j,(by kernel_rfl)⟩
 ·rintro ⟨e,st⟩ hp
  obtain ⟨out_o3_e0_3,rfl⟩:∃y,y=o:=⟨o,rfl⟩
  obtain ⟨he,hst⟩:=hp
  obtain rfl:e= .exit 0:=he
  refine Unw.blkx<|us<|gs<|g2 c113 j j hst (q (oMv j j)<|q (oAsO j j j j j)<|nl)<|us<|Go.ret (Unw.ret ?_)
  cases h
  exact fr rF113 j
theorem L_slices_Index_2_int64_2_int64 {s_0:(List Ar2_Int)} {v_1:Ar2_Int} {r:Int} (h:slices_Index_2_int64_2_int64 s_0 v_1=some r):FX 156 [.im 2 false [W 2 e_Ar2_Int s_0],.im 2 true (u_Ar2_Int v_1)] (B0 [(false,[.im 0 (I r)])]):=by
 unfold slices_Index_2_int64_2_int64 at h
 refine gn 19 Try.func156 rfl ?_
 refine gs<|g0 j j (q (oBx j tF165 j (tkI (tkI tk0)))<|q (oAsI j j)<|nl)<|us<|gs<|gs<|g0 j j (q (oMv j j)<|q (oLnI j j uF162 j)<|q (oMv j j)<|nl)<|us<|Go.block<|?_
 obtain ⟨o,hl,h⟩:=bs h
 refine gl c156 j _ (fun (t_8_l2:Int)=>mk [(0,D 2 (W 2 e_Ar2_Int s_0)),(3,M 3),(7,iv (s_0.length:Int)),(8,iv t_8_l2)] [(3,Oa (G 0 (u_Ar2_Int v_1)))]) (fun (o:(Unit ⊕ Int)) (p:Ex×St)=>match o with | (.inl _)=>p.1= .exit 0∧p.2.norm ([],[])=mk [] [] | (.inr r2)=>p.1= .ret∧fin Try.prog cfg 156 Try.f156 [.im 2 false [W 2 e_Ar2_Int s_0],.im 2 true (u_Ar2_Int v_1)] p.2=some (B0 [(false,[.im 0 (I r2)])])) hl (by kernel_rfl) ?_ ?_ ?_
 ·intro o p hp e
  rcases o with u | r2<;>exact nomatch (hp.1.symm.trans e)
 ·rintro t_8_l2 o h
  unfold slices_Index_2_int64_2_int64_l2 at h
  refine gs<|g0 j j (q (oBi j j j j)<|nl)<|us<|gs<|gc h j iDec (fun hc5 h=>?_) fun hc5 h=>?_
  ·refine Go.skip<|us<|gs<|Go.block<|gs<|g0 j j (q (oMv j j)<|q (oAsI j j)<|nl)<|us<|gs<|?_
   obtain ⟨x14,hx14,h⟩:=bs h
   refine gd c156 j j j j (mk [(0,D 2 (W 2 e_Ar2_Int s_0)),(3,M 3),(5,iv t_8_l2),(7,iv (s_0.length:Int)),(8,iv t_8_l2),(16,bv ((v_1.e0==x14.e0)&&(v_1.e1==x14.e1)))] [(3,Oa (G 0 (u_Ar2_Int v_1)))]) (t j j (oLd (cs:=[.im 0 _,.im 0 _]) j tF165 j j)<|t j j (oMv j j)<|t j j (oMv j j)<|t j j (oIAI j hx14 sF162 j j)<|t j j (oLd (cs:=[.im 2 _,.im 2 _]) j tF165 j j)<|t j j (oBa j (qEF165 v_1.e0 v_1.e1 x14.e0 x14.e1) j j j j)<|sD (by kernel_rfl))<|us<|gc h j (iAnd iEq iEq) (fun hc6 h=>?_) fun hc6 h=>?_
   ·refine gs<|g0 j j (q (oMv j j)<|q (oAsI j j)<|nl)<|us<|Go.ret (Unw.ret ?_)
    cases h
    exact ⟨j,(fo rF156 j)⟩
   ·refine Go.skip<|Unw.blk<|us<|g0 j j (q (oBi j j j j)<|q (oMv j j)<|nl)<|Unw.nil<|?_
    cases h
    exact ⟨j,(by kernel_rfl)⟩
  ·refine Go.exit<|ux<|Unw.nil<|?_
   cases h
   exact ⟨j,(by kernel_rfl)⟩
 ·rintro ⟨e,st⟩ hp
  rcases o with u | r2
  ·dsimp only at h
   obtain ⟨he,hst⟩:=hp
   obtain rfl:e= .exit 0:=he
   refine Unw.blkx<|us<|gs<|g2 c156 j j hst (q (oAsI j j)<|nl)<|us<|Go.ret (Unw.ret ?_)
   cases h
   exact fr rF156 j
  ·dsimp only at h
   obtain ⟨he,hfin⟩:=hp
   obtain rfl:e= .ret:=he
   cases h
   exact Unw.ret (Fin_ret hfin)
theorem L_slices_Contains_2_int64_2_int64 {s_0:(List Ar2_Int)} {v_1:Ar2_Int} {r:Bool} (h:slices_Contains_2_int64_2_int64 s_0 v_1=some r):FX 116 [.im 2 false [W 2 e_Ar2_Int s_0],.im 2 true (u_Ar2_Int v_1)] (B0 [(false,[.im 0 (V r)])]):=by
 unfold slices_Contains_2_int64_2_int64 at h
 refine gn 9 Try.func116 rfl ?_
 refine gs<|g0 j j (q (oBx j tF165 j (tkI (tkI tk0)))<|q (oAsI j j)<|nl)<|us<|gs<|?_
 obtain ⟨x7,hx7,h⟩:=bs h
 refine g0 j j (q (oMv j j)<|q (oLd (cs:=[.im 0 _,.im 0 _]) j tF165 j j)<|q (oCa (xs:=[.v false [.im 2 _],.v true [.im 0 _,.im 0 _]]) (vs:=[(false,[.im 0 _])]) (v:=.v false [.im 0 _]) (L_slices_Index_2_int64_2_int64 hx7) (.inl j) j kF156_162_165 j (ppC j (ppC j pp0)) j j pb0 j j j)<|q (oBi j j j j)<|q (oAsI j j)<|nl)<|us<|Go.ret (Unw.ret ?_)
 cases h
 exact fr rF116 j
theorem L_impl_neighbours_c1 {e_0:Ar2_Int} {cap0_0:(List (List Ar2_Int))} {cap1_0:Int} {r:Bool} (h:impl_neighbours_c1 e_0 cap0_0 cap1_0=some r):FX 115 [.im 2 true (u_Ar2_Int e_0),.im 2 false [.cp [W 1 (eL 2 e_Ar2_Int) cap0_0] 0],.im 2 false [.cp [I cap1_0] 0]] (B0 [(false,[.im 0 (V r)])]):=by
 unfold impl_neighbours_c1 at h
 refine gn 11 Try.func115 rfl ?_
 refine gs<|g0 j j (q (oBx j tF165 j (tkI (tkI tk0)))<|q (oAsI j j)<|nl)<|us<|gs<|?_
 obtain ⟨x7,hx7,h⟩:=bs h
 obtain ⟨x10,hx10,h⟩:=bs h
 refine gd c115 j j j j (mk [(4,bv x10)] []) (t j j (oLd (cs:=[.im 2 _]) j tF161 j j)<|t j j (oLd (cs:=[.im 2 _]) j tF3 j j)<|t j j (oIAI j hx7 sF161 j j)<|t j j (oLd (cs:=[.im 2 _]) j tF162 j j)<|t j j (oLd (cs:=[.im 0 _,.im 0 _]) j tF165 j j)<|sS (dN z115 j (oCa (xs:=[.v false [.im 2 _],.v true [.im 0 _,.im 0 _]]) (vs:=[(false,[.im 0 _])]) (v:=.v false [.im 0 _]) (L_slices_Contains_2_int64_2_int64 hx10) (.inl j) j kF116_162_165 j (ppC j (ppC j pp0)) j j pb0 j j j)) trivial (sS (dN z115 j (oAsI j j)) trivial (sD (by kernel_rfl))))<|us<|Go.ret (Unw.ret ?_)
 cases h
 exact fr rF115 j
theorem L_slices_IndexFunc_2_int64_2_int64_115 {s_0:(List Ar2_Int)} {fc1_0_0:(List (List Ar2_Int))} {fc1_1_0:Int} {r:Int} (h:slices_IndexFunc_2_int64_2_int64 s_0 (fun b0=>impl_neighbours_c1 b0 fc1_0_0 fc1_1_0)=some r):FX 155 [.im 2 false [W 2 e_Ar2_Int s_0],.im 2 false [.clo 115 [.cp [W 1 (eL 2 e_Ar2_Int) fc1_0_0] 0,.cp [I fc1_1_0] 0]]] (B0 [(false,[.im 0 (I r)])]):=by
 unfold slices_IndexFunc_2_int64_2_int64 at h
 refine gn 19 Try.func155 rfl ?_
 refine gs<|g0 j j (q (oAsI j j)<|nl)<|us<|gs<|gs<|g0 j j (q (oMv j j)<|q (oLnI j j uF162 j)<|q (oMv j j)<|nl)<|us<|Go.block<|?_
 obtain ⟨o,hl,h⟩:=bs h
 refine gl c155 j _ (fun (t_8_l2:Int)=>mk [(0,D 2 (W 2 e_Ar2_Int s_0)),(1,D 2 (.clo 115 [.cp [W 1 (eL 2 e_Ar2_Int) fc1_0_0] 0,.cp [I fc1_1_0] 0])),(7,iv (s_0.length:Int)),(8,iv t_8_l2)] []) (fun (o:(Unit ⊕ Int)) (p:Ex×St)=>match o with | (.inl _)=>p.1= .exit 0∧p.2.norm ([],[])=mk [] [] | (.inr r2)=>p.1= .ret∧fin Try.prog cfg 155 Try.f155 [.im 2 false [W 2 e_Ar2_Int s_0],.im 2 false [.clo 115 [.cp [W 1 (eL 2 e_Ar2_Int) fc1_0_0] 0,.cp [I fc1_1_0] 0]]] p.2=some (B0 [(false,[.im 0 (I r2)])])) hl (by kernel_rfl) ?_ ?_ ?_
 ·intro o p hp e
  rcases o with u | r2<;>exact nomatch (hp.1.symm.trans e)
 ·rintro t_8_l2 o h
  unfold slices_IndexFunc_2_int64_2_int64_l2 at h
  refine gs<|g0 j j (q (oBi j j j j)<|nl)<|us<|gs<|gc h j iDec (fun hc5 h=>?_) fun hc5 h=>?_
  ·refine Go.skip<|us<|gs<|Go.block<|gs<|g0 j j (q (oMv j j)<|q (oAsI j j)<|nl)<|us<|gs<|?_
   obtain ⟨x14,hx14,h⟩:=bs h
   obtain ⟨x16,hx16,h⟩:=bs h
   refine g0 j j (q (oMv j j)<|q (oMv j j)<|q (oMv j j)<|q (oIAI j hx14 sF162 j j)<|q (oLd (cs:=[.im 2 _,.im 2 _]) j tF165 j j)<|q (oCa (xs:=[.v true [.im 2 _,.im 2 _],.v false [.im 2 _],.v false [.im 2 _]]) (vs:=[(false,[.im 0 _])]) (v:=.v false [.im 0 _]) (L_impl_neighbours_c1 hx16) (.inr ⟨_,_,j,j⟩) j kF115_165_0_0 j (ppC j (ppC j (ppC j pp0))) j j pb0 j j j)<|nl)<|us<|gc h j iR (fun hc6 h=>?_) fun hc6 h=>?_
   ·refine gs<|g0 j j (q (oMv j j)<|q (oAsI j j)<|nl)<|us<|Go.ret (Unw.ret ?_)
    cases h
    exact ⟨j,(fo rF155 j)⟩
   ·refine Go.skip<|Unw.blk<|us<|g0 j j (q (oBi j j j j)<|q (oMv j j)<|nl)<|Unw.nil<|?_
    cases h
    exact ⟨j,(by kernel_rfl)⟩
  ·refine Go.exit<|ux<|Unw.nil<|?_
   cases h
   exact ⟨j,(by kernel_rfl)⟩
 ·rintro ⟨e,st⟩ hp
  rcases o with u | r2
  ·dsimp only at h
   obtain ⟨he,hst⟩:=hp
   obtain rfl:e= .exit 0:=he
   refine Unw.blkx<|us<|gs<|g2 c155 j j hst (q (oAsI j j)<|nl)<|us<|Go.ret (Unw.ret ?_)
   cases h
   exact fr rF155 j
  ·dsimp only at h
   obtain ⟨he,hfin⟩:=hp
   obtain rfl:e= .ret:=he
   cases h
   exact Unw.ret (Fin_ret hfin)
theorem L_slices_ContainsFunc_2_int64_2_int64_115 {s_0:(List Ar2_Int)} {fc1_0_0:(List (List Ar2_Int))} {fc1_1_0:Int} {r:Bool} (h:slices_ContainsFunc_2_int64_2_int64 s_0 (fun b0=>impl_neighbours_c1 b0 fc1_0_0 fc1_1_0)=some r):FX 114 [.im 2 false [W 2 e_Ar2_Int s_0],.im 2 false [.clo 115 [.cp [W 1 (eL 2 e_Ar2_Int) fc1_0_0] 0,.cp [I fc1_1_0] 0]]] (B0 [(false,[.im 0 (V r)])]):=by
 unfold slices_ContainsFunc_2_int64_2_int64 at h
 refine gn 9 Try.func114 rfl ?_
 refine gs<|g0 j j (q (oAsI j j)<|nl)<|us<|gs<|?_
 obtain ⟨x7,hx7,h⟩:=bs h
 refine g0 j j (q (oMv j j)<|q (oMv j j)<|q (oCa (xs:=[.v false [.im 2 _],.v false [.im 2 _]]) (vs:=[(false,[.im 0 _])]) (v:=.v false [.im 0 _]) (L_slices_IndexFunc_2_int64_2_int64_115 hx7) (.inl j) j kF155_162_167 j (ppC j (ppC j pp0)) j j pb0 j j j)<|q (oBi j j j j)<|q (oAsI j j)<|nl)<|us<|Go.ret (Unw.ret ?_)
 cases h
 exact fr rF114 j
theorem L_impl_neighbours {d_0:S_Drawing} {r:(List (List Int))} (h:impl_neighbours d_0=some r):FX 63 [.im 2 true (u_S_Drawing d_0)] (B0 [(false,[.im 0 (W 1 (eL 1 eI) r)])]):=by
 unfold impl_neighbours at h
 refine gn 61 Try.func63 rfl ?_
 refine gs<|g0 j j (sqn z63 j (oBx j tF26 j (tkI (tkI (tkI (tkI tk0)))))<|sqf z63 j (oAsN j j eF85) (frzO j j j)<|nl)<|us<|gs<|g0 j j (sqn z63 j (oBS (es:=List.map (eL 2 e_Ar2_Int) ([]:List (List Ar2_Int))) j sF161 j pt0 (flat1 j))<|sqn z63 j (oAl j tF161 (tkN tk0))<|sq0 (oSt tF161 j j j (tkO j j tk0) j j j)<|nl)<|us<|gs<|gs<|g1 j j (mk [(1,M 1),(3,M 3)] [(1,Oa (G 2 (u_S_Drawing d_0))),(3,Ob [Z (W 1 (eL 2 e_Ar2_Int) ([]:List (List Ar2_Int)))])]) (sqn z63 j (oFA (r':=.mp 1 0 3) j fF26_3 j j)<|sqn z63 j (oLd (cs:=[.im 2 _]) j tF24 j j)<|sqn z63 j (oLnI j j uF24 j)<|sqn z63 j (oMv j j)<|nl)<|us<|Go.block<|?_
 obtain ⟨o,hl,h⟩:=bs h
 refine gl c63 j _ (fun (s:(Int×(List (List Ar2_Int))))=>match s with | (t_13_l3,edges_o3_l3)=>mk [(3,M 3),(11,D 2 (W 2 e_S_Face d_0.Faces)),(12,iv (d_0.Faces.length:Int)),(13,iv t_13_l3)] [(3,Ob [Z (W 1 (eL 2 e_Ar2_Int) edges_o3_l3)])]) (fun (edges_o3_e0_3:(List (List Ar2_Int))) (p:Ex×St)=>p.1= .exit 0∧p.2.norm ([3],[3])=mk [(3,M 3)] [(3,Ob [Z (W 1 (eL 2 e_Ar2_Int) edges_o3_e0_3)])]) hl (by kernel_rfl) ?_ ?_ ?_
 ·intro o p hp e
  exact nomatch (hp.1.symm.trans e)
 ·rintro ⟨t_13_l3,edges_o3_l3⟩ o h
  unfold impl_neighbours_l3 at h
  dsimp only at h
  refine gs<|g0 j j (sqn z63 j (oBi j j j j)<|nl)<|us<|gs<|gc h j iDec (fun hc38 h=>?_) fun hc38 h=>?_
  ·refine Go.skip<|us<|gs<|Go.block<|gs<|?_
   obtain ⟨x15,hx15,h⟩:=bs h
   refine g0 j j (sqn z63 j (oIAI j hx15 sF24 j j)<|sqn z63 j (oLd (cs:=[.im 2 _,.im 2 _]) j tF148 j j)<|sqn z63 j (oAl j tF148 (tkI (tkN tk0)))<|sq0 (oSt tF148 j j j (tkI (tkI tk0)) j j j)<|nl)<|us<|?_
   obtain ⟨x20,hx20,h⟩:=bs h
   obtain ⟨x22,hx22,h⟩:=bs h
   refine gd c63 j j j (st1:=mk [(3,M 3),(5,M 5),(11,D 2 (W 2 e_S_Face d_0.Faces)),(12,iv (d_0.Faces.length:Int)),(13,iv t_13_l3)] [(3,Ob [Z (W 1 (eL 2 e_Ar2_Int) edges_o3_l3)]),(5,Oa (G 2 (u_S_Face x15)))]) (by kernel_rfl) (mk [(3,M 3),(11,D 2 (W 2 e_S_Face d_0.Faces)),(12,iv (d_0.Faces.length:Int)),(13,iv t_13_l3)] [(3,Ob [Z (W 1 (eL 2 e_Ar2_Int) x22)])]) (sT j (dNn z63 j j (oFA (r':=.mp 5 0 1) j fF148_1 j j))<|sT j (dNn z63 j j (oLd (cs:=[.im 2 _]) j tF28 j j))<|sK (O:=[3]) j j j (dNn z63 j j (oLd (cs:=[.own 3 0 0]) j tF161 j j))<|sS (dNn z63 j j (oCr (xs:=[.v false [.im 2 _]]) (vs:=[(false,[.own 20 0 0])]) (v:=.v false [.own 20 0 0]) (c:=⟨.sh,0,_⟩) (cs:=[]) (L_impl_ringEdges hx20) (.inl j) j kF113_28 j (ppC j pp0) j j pb0 j j j)) (kY ⟨j,trivial⟩ trivial) (sS (dNn z63 j j (oBS (es:=List.map (eL 2 e_Ar2_Int) ([x20]:List (List Ar2_Int))) j sF161 j (ptC j (fxO j j fx0) j pt0) (flat1 j))) (kY ⟨j,trivial⟩ trivial) (sS (dNn z63 j j (oApO (en:=(eL 2 e_Ar2_Int)) (M:=([x20]:List (List Ar2_Int))) j hx22 j sF161 j j uF161 (.inl ⟨_,j⟩) j j j j (el_own j j) (flat1 j))) (kN j trivial) (sS (dN0 j (oSt tF161 j j j (tkO j j tk0) j j j)) (kN j trivial) (sD (by kernel_rfl))))))<|Unw.blk<|us<|g0 j j (sqn z63 j (oBi j j j j)<|sqn z63 j (oMv j j)<|nl)<|Unw.nil<|?_
   cases h
   exact ⟨j,(by kernel_rfl)⟩
  ·refine Go.exit<|ux<|Unw.nil<|?_
   cases h
   exact ⟨j,(by kernel_rfl)⟩
 ·rintro ⟨e,st⟩ hp
  obtain ⟨edges_o3_e0_3,rfl⟩:∃y,y=o:=⟨o,rfl⟩
  obtain ⟨he,hst⟩:=hp
  obtain rfl:e= .exit 0:=he
  refine Unw.blkx<|us<|gs<|?_
  obtain ⟨x26,hx26,h⟩:=bs h
  refine g2 c63 j j hst (sqn z63 j (oLd (cs:=[.own 3 0 0]) j tF161 j j)<|sqn z63 j (oLnO j j uF161 j j j (fun e=>nomatch e))<|sqn z63 j (oMkD (en:=(eL 1 eI)) j hx26 j sF85 j j (fxN fx0) j (flat1 j))<|sqn z63 j (oAsD j j j j j)<|nl)<|us<|gs<|gs<|g0 j j (sqn z63 j (oLd (cs:=[.own 3 0 0]) j tF161 j j)<|sqn z63 j (oLnO j j uF161 j j j (fun e=>nomatch e))<|sqn z63 j (oMv j j)<|nl)<|us<|Go.block<|?_
  obtain ⟨o,hl,h⟩:=bs h
  refine gl c63 j _ (fun (s:(Int×(List (List Int))))=>match s with | (t_29_l9,out_o6_l9)=>mk [(3,M 3),(6,H 6 0),(28,iv (edges_o3_e0_3.length:Int)),(29,iv t_29_l9)] [(3,Ob [Z (W 1 (eL 2 e_Ar2_Int) edges_o3_e0_3)]),(6,Oc [⟨.dp 0,0,0,W 1 (eL 1 eI) out_o6_l9⟩])]) (fun (out_o6_e2_9:(List (List Int))) (p:Ex×St)=>p.1= .exit 2∧p.2.norm ([6],[6])=mk [(6,H 6 0)] [(6,Oc [⟨.dp 0,0,0,W 1 (eL 1 eI) out_o6_e2_9⟩])]) hl (by kernel_rfl) ?_ ?_ ?_
  ·intro o p hp e
   exact nomatch (hp.1.symm.trans e)
  ·rintro ⟨t_29_l9,out_o6_l9⟩ o h
   unfold impl_neighbours_l9 at h
   dsimp only at h
   refine gs<|g0 j j (sqn z63 j (oBi j j j j)<|nl)<|us<|gs<|gc h j iDec (fun hc21 h=>?_) fun hc21 h=>?_
   ·refine Go.skip<|us<|gs<|Go.block<|gs<|g0 j j (sqn z63 j (oMv j j)<|sqn z63 j (oAsI j j)<|nl)<|us<|gs<|g0 j j (sqn z63 j (oLd (cs:=[.own 3 0 0]) j tF161 j j)<|sqn z63 j (oLnO j j uF161 j j j (fun e=>nomatch e))<|sqn z63 j (oMv j j)<|nl)<|us<|Go.block<|?_
    obtain ⟨o,hl,h⟩:=bs h
    refine gl c63 j _ (fun (s:(Int×(List (List Int))))=>match s with | (t_34_l12,out_o6_l12)=>mk [(3,M 3),(6,H 6 0),(7,iv t_29_l9),(28,iv (edges_o3_e0_3.length:Int)),(29,iv t_29_l9),(33,iv (edges_o3_e0_3.length:Int)),(34,iv t_34_l12)] [(3,Ob [Z (W 1 (eL 2 e_Ar2_Int) edges_o3_e0_3)]),(6,Oc [⟨.dp 0,0,0,W 1 (eL 1 eI) out_o6_l12⟩])]) (fun (out_o6_e4_12:(List (List Int))) (p:Ex×St)=>p.1= .exit 4∧p.2.norm ([3,6,28,29],[3,6])=mk [(3,M 3),(6,H 6 0),(28,iv (edges_o3_e0_3.length:Int)),(29,iv t_29_l9)] [(3,Ob [Z (W 1 (eL 2 e_Ar2_Int) edges_o3_e0_3)]),(6,Oc [⟨.dp 0,0,0,W 1 (eL 1 eI) out_o6_e4_12⟩])]) hl (by kernel_rfl) ?_ ?_ ?_
    ·intro o p hp e
     exact nomatch (hp.1.symm.trans e)
    ·rintro ⟨t_34_l12,out_o6_l12⟩ o h
     unfold impl_neighbours_l12 at h
     dsimp only at h
     refine gs<|g0 j j (sqn z63 j (oBi j j j j)<|nl)<|us<|gs<|gc h j iDec (fun hc30 h=>?_) fun hc30 h=>?_
     ·refine Go.skip<|us<|gs<|Go.join (fun st=>∃out_o6_r16,impl_neighbours_k16 t_34_l12 out_o6_r16=some o∧st.norm ([3,6,7,28,29,33,34],[3,6])=mk [(3,M 3),(6,H 6 0),(7,iv t_29_l9),(28,iv (edges_o3_e0_3.length:Int)),(29,iv t_29_l9),(33,iv (edges_o3_e0_3.length:Int)),(34,iv t_34_l12)] [(3,Ob [Z (W 1 (eL 2 e_Ar2_Int) edges_o3_e0_3)]),(6,Oc [⟨.dp 0,0,0,W 1 (eL 1 eI) out_o6_r16⟩])]) ?_ ?_
      ·rintro st ⟨out_o6_r16,h,hst⟩
       unfold impl_neighbours_k16 at h
       refine us<|g2 c63 j j hst (sqn z63 j (oBi j j j j)<|sqn z63 j (oMv j j)<|nl)<|Unw.nil<|?_
       cases h
       exact ⟨j,(by kernel_rfl)⟩
      ·intro K34
       refine Go.block<|gs<|g0 j j (sqn z63 j (oMv j j)<|sqn z63 j (oAl j tF3 (tkI tk0))<|sq0 (oSt tF3 j j j (tkI tk0) j j j)<|nl)<|us<|gs<|?_
       obtain ⟨t_47_m14,hm37,h⟩:=bs h
       refine gX c63 j j (st1:=mk [(3,M 3),(6,H 6 0),(7,iv t_29_l9),(8,M 8),(28,iv (edges_o3_e0_3.length:Int)),(29,iv t_29_l9),(33,iv (edges_o3_e0_3.length:Int)),(34,iv t_34_l12)] [(3,Ob [Z (W 1 (eL 2 e_Ar2_Int) edges_o3_e0_3)]),(6,Oc [⟨.dp 0,0,0,W 1 (eL 1 eI) out_o6_l12⟩]),(8,Ob [C (I t_34_l12)])]) (by kernel_rfl) (mk [(3,M 3),(6,H 6 0),(7,iv t_29_l9),(8,M 8),(28,iv (edges_o3_e0_3.length:Int)),(29,iv t_29_l9),(33,iv (edges_o3_e0_3.length:Int)),(34,iv t_34_l12),(47,bv t_47_m14)] [(3,Ob [Z (W 1 (eL 2 e_Ar2_Int) edges_o3_e0_3)]),(6,Oc [⟨.dp 0,0,0,W 1 (eL 1 eI) out_o6_l12⟩]),(8,Ob [C (I t_34_l12)])]) ?_ ?_
       ·refine xsqn z63 j (oMv j j)<|xsqn z63 j (oLd (cs:=[.im 0 _]) j tF3 j j)<|xsqn z63 j (oBi j j j j)<|xsqn z63 j (oMv j j)<|?_
        refine ic hm37 (fun hc35 hm37=>?_) fun hc35 hm37=>?_
        ·obtain ⟨x43,hx43,hm37⟩:=bs hm37
         obtain ⟨x46,hx46,hm37⟩:=bs hm37
         cases hm37
         exact xsgTn z63 j j j (iNe.2 hc35) (oLd (cs:=[.own 3 0 0]) j tF161 j j)<|xsgTn z63 j j j (iNe.2 hc35) (oMv j j)<|xsgTn z63 j j j (iNe.2 hc35) (oIAO j hx43 sF161 j j j j)<|xsgTn z63 j j j (iNe.2 hc35) (oLdE (cs:=[.im 0 _]) j tF162 j j j j (rd_get hx43) j j)<|xsgTn z63 j j j (iNe.2 hc35) (oMF (rs:=[.mp 3 0 0,.mp 8 0 0]) j j)<|xsgTn z63 j j j (iNe.2 hc35) (oCa (xs:=[.v false [.im 0 _],.fn 115 [.mp 3 0 0,.mp 8 0 0]]) (vs:=[(false,[.im 0 _])]) (v:=.v false [.im 0 _]) (L_slices_ContainsFunc_2_int64_2_int64_115 hx46) (.inl j) j kF114_162_167 j (ppC j (ppC j pp0)) j j pb0 j j j)<|xsqn z63 j (oPkT j j (iNe.2 hc35) j)<|xn
        ·cases hm37
         exact xsgF j j (byF iNe hc35) j<|xsgF j j (byF iNe hc35) j<|xsgF j j (byF iNe hc35) j<|xsgF j j (byF iNe hc35) j<|xsgF j j (byF iNe hc35) j<|xsgF j j (byF iNe hc35) j<|xsqn z63 j (oPkF j j (byF iNe hc35) j)<|xn
       ·refine us<|gc h j iR (fun hc36 h=>?_) fun hc36 h=>?_
        ·obtain ⟨x52,hx52,h⟩:=bs h
         obtain ⟨x56,hx56,h⟩:=bs h
         obtain ⟨x57,hx57,h⟩:=bs h
         exact gd c63 j j j j (mk [(3,M 3),(6,H 6 0),(7,iv t_29_l9),(28,iv (edges_o3_e0_3.length:Int)),(29,iv t_29_l9),(33,iv (edges_o3_e0_3.length:Int)),(34,iv t_34_l12)] [(3,Ob [Z (W 1 (eL 2 e_Ar2_Int) edges_o3_e0_3)]),(6,Oc [⟨.dp 0,0,0,W 1 (eL 1 eI) (out_o6_l12.set t_29_l9.toNat x56)⟩])]) (sT j (dNn z63 j j (oMv j j))<|sT j (dNn z63 j j (oMv j j))<|sT j (dNn z63 j j (oMv j j))<|sT j (dNn z63 j j (oMv j j))<|sT j (dNn z63 j j (oLd (cs:=[.im 0 _]) j tF3 j j))<|sK (O:=[6]) j j j (dNn z63 j j (oIAD j hx52 sF85 j j j j (fun e=>nomatch e)))<|sK (O:=[6]) j j j (dNn z63 j j (oLdD (cs:=[.inr 6 0 0 _ 0 0]) j tF28 j j j (rd_get hx52) j j))<|sS (dNn z63 j j (oBS (es:=List.map eI ([t_34_l12]:List Int)) j sF28 j (ptC j (fxI fx0) j pt0) (flat0 j fun _=>j))) (kY ⟨j,trivial⟩ (kY ⟨j,trivial⟩ trivial)) (sS (dNn z63 j j (oApR (en:=eI) (M:=([t_34_l12]:List Int)) j hx56 j sF28 j j uF28 (.inl ⟨_,j⟩) j j j (rd_get hx52) j j (el_own j j) (flat0 j fun _=>j))) (kN j (kN j trivial)) (sT j (dNn z63 j j (oIAD j hx57 sF85 j j j j (fun e=>nomatch e)))<|sS (dN0 j (oStD (v':=x56) tF28 j j j j (tkO j j tk0) j j (rd_get hx57) j)) (kN j (kN j trivial)) (sD (by kernel_rfl)))))<|Unw.blk<|K34 _ ⟨(out_o6_l12.set t_29_l9.toNat x56),h,(by kernel_rfl)⟩
        ·exact Go.skip<|Unw.blk<|K34 _ ⟨out_o6_l12,h,(by kernel_rfl)⟩
     ·refine Go.exit<|ux<|Unw.nil<|?_
      cases h
      exact ⟨j,(by kernel_rfl)⟩
    ·rintro ⟨e,st⟩ hp
     obtain ⟨out_o6_e4_12,rfl⟩:∃y,y=o:=⟨o,rfl⟩
     obtain ⟨he,hst⟩:=hp
     obtain rfl:e= .exit 4:=he
     refine Unw.blkx<|Unw.blk<|us<|g2 c63 j j hst (sqn z63 j (oBi j j j j)<|sqn z63 j (oMv j j)<|nl)<|Unw.nil<|?_
     cases h
     exact ⟨j,(by kernel_rfl)⟩
   ·refine Go.exit<|ux<|Unw.nil<|?_
    cases h
    exact ⟨j,(by kernel_rfl)⟩
  ·rintro ⟨e,st⟩ hp
   obtain ⟨out_o6_e2_9,rfl⟩:∃y,y=o:=⟨o,rfl⟩
   obtain ⟨he,hst⟩:=hp
   obtain rfl:e= .exit 2:=he
   refine Unw.blkx<|us<|gs<|g2 c63 j j hst (sqn z63 j (oMv j j)<|sqf z63 j (oAsD j j j j j) (frzD j j j)<|nl)<|us<|Go.ret (Unw.ret ?_)
   cases h
   exact fr rF63 j
theorem L_impl_GrainAngle {a_0:Int} {b_1:Int} {r:(Int×Int)} (h:impl_GrainAngle a_0 b_1=some r):FX 134 [.im 2 false [I a_0],.im 2 false [I b_1]] (B0 [(false,[.im 0 (I r.1)]),(false,[.im 0 (I r.2)])]):=by
 unfold impl_GrainAngle at h
 refine gn 26 Try.func134 rfl ?_
 refine gs<|g0 j j (q (oAsI j j)<|q (oAsI j j)<|nl)<|us<|gs<|gs<|?_
 obtain ⟨x8,hx8,h⟩:=bs h
 obtain ⟨t_14_m1,hm3,h⟩:=bs h
 refine gX c134 j j j (mk [(0,iv a_0),(1,iv b_1),(14,bv t_14_m1)] []) ?_ ?_
 ·refine xq (oMv j j)<|xq (oCa (xs:=[.v false [.im 2 _],.v false [.im 0 _],.v false [.im 0 _]]) (vs:=[(false,[.im 0 _])]) (v:=.v false [.im 0 _]) (L_impl_within hx8) (.inl j) j kF79_2_2_2 j (ppC j (ppC j (ppC j pp0))) j j pb0 j j j)<|xq (oUn j j j)<|xq (oMv j j)<|?_
  refine ic hm3 (fun hc1 hm3=>?_) fun hc1 hm3=>?_
  ·obtain ⟨x12,hx12,hm3⟩:=bs hm3
   cases hm3
   exact xqT j j (nF (iR.2 hc1)) (oMv j j)<|xqT j j (nF (iR.2 hc1)) (oCa (xs:=[.v false [.im 2 _],.v false [.im 0 _],.v false [.im 0 _]]) (vs:=[(false,[.im 0 _])]) (v:=.v false [.im 0 _]) (L_impl_within hx12) (.inl j) j kF79_2_2_2 j (ppC j (ppC j (ppC j pp0))) j j pb0 j j j)<|xqT j j (nF (iR.2 hc1)) (oUn j j j)<|xq (oPkF j j (nF (iR.2 hc1)) j)<|xn
  ·cases hm3
   exact xsgF j j (nT (byF iR hc1)) j<|xsgF j j (nT (byF iR hc1)) j<|xsgF j j (nT (byF iR hc1)) j<|xq (oPkT j j (nT (byF iR hc1)) j)<|xn
 ·refine us<|gc h j iR (fun hc2 h=>?_) fun hc2 h=>?_
  ·refine gs<|g0 j j (q (oAsI j j)<|q (oAsI j j)<|nl)<|us<|Go.ret (Unw.ret ?_)
   cases h
   exact fr rF134 j
  ·refine Go.skip<|us<|gs<|g0 j j (q (oMv j j)<|q (oMv j j)<|q (oBi j j j j)<|q (oMv j j)<|q (oMv j j)<|q (oBi j j j j)<|q (oMax j j)<|q (oAsI j j)<|nl)<|us<|gs<|g0 j j (q (oMv j j)<|q (oMv j j)<|q (oBi j j j j)<|q (oMin j j)<|q (oAsI j j)<|q (oAsI j j)<|nl)<|us<|Go.ret (Unw.ret ?_)
   cases h
   exact fr rF134 j
theorem L_impl_contrast {a_0:S_Veneer} {b_1:S_Veneer} {r:Int} (h:impl_contrast a_0 b_1=some r):FX 80 [.im 2 true (u_S_Veneer a_0),.im 2 true (u_S_Veneer b_1)] (B0 [(false,[.im 0 (I r)])]):=by
 unfold impl_contrast at h
 refine gn 29 Try.func80 rfl ?_
 refine gs<|g0 j j (q (oBx j tF123 j (tkI (tkI (tkI tk0))))<|q (oBx j tF123 j (tkI (tkI (tkI tk0))))<|q (oAsI j j)<|nl)<|us<|gs<|?_
 obtain ⟨x12,hx12,h⟩:=bs h
 refine g0 j j (q (oFA (r':=.mp 2 0 2) j fF123_2 j j)<|q (oLd (cs:=[.im 0 _]) j tF2 j j)<|q (oFA (r':=.mp 3 0 2) j fF123_2 j j)<|q (oLd (cs:=[.im 0 _]) j tF2 j j)<|q (oCa (xs:=[.v false [.im 0 _],.v false [.im 0 _]]) (vs:=[(false,[.im 0 _]),(false,[.im 0 _])]) (v:=.tup [(false,[.im 0 _]),(false,[.im 0 _])]) (L_impl_GrainAngle hx12) (.inl j) j kF134_2_2 j (ppC j (ppC j pp0)) j j pb0 j j j)<|q (oMvT j j)<|q (oEx j j j)<|q (oEx j j j)<|q (oAsI j j)<|q (oAsI j j)<|nl)<|us<|gs<|?_
 obtain ⟨x27,hx27,h⟩:=bs h
 refine g0 j j (q (oFA (r':=.mp 2 0 1) j fF123_1 j j)<|q (oLd (cs:=[.im 0 _]) j tF2 j j)<|q (oFA (r':=.mp 3 0 1) j fF123_1 j j)<|q (oLd (cs:=[.im 0 _]) j tF2 j j)<|q (oBi j j j j)<|q (oFA (r':=.mp 3 0 1) j fF123_1 j j)<|q (oLd (cs:=[.im 0 _]) j tF2 j j)<|q (oFA (r':=.mp 2 0 1) j fF123_1 j j)<|q (oLd (cs:=[.im 0 _]) j tF2 j j)<|q (oBi j j j j)<|q (oMax j j)<|q (oMv j j)<|q (oQuo j hx27 j j)<|q (oBi j j j j)<|q (oAsI j j)<|nl)<|us<|Go.ret (Unw.ret ?_)
 cases h
 exact fr rF80 j
theorem L_impl_sheetContrasts {sheets_0:(List S_Veneer)} {r:(List Int)} (h:impl_sheetContrasts sheets_0=some r):FX 71 [.im 2 false [W 3 e_S_Veneer sheets_0]] (B0 [(false,[.ow 0 1 (List.map eI r)])]):=by
 unfold impl_sheetContrasts at h
 refine gn 48 Try.func71 rfl ?_
 refine gs<|g0 j j (q (oAsN j j eF28)<|nl)<|us<|gs<|g0 j j (q (oBS (es:=List.map eI ([]:List Int)) j sF28 j pt0 (flat0 j fun _=>j))<|q (oAsO j j j j j)<|nl)<|us<|gs<|gs<|g0 j j (q (oMv j j)<|q (oLnI j j uF42 j)<|q (oMv j j)<|nl)<|us<|Go.block<|?_
 obtain ⟨o,hl,h⟩:=bs h
 refine gl c71 j _ (fun (s:(Int×(List Int)))=>match s with | (t_12_l3,out_o3_l3)=>mk [(0,D 2 (W 3 e_S_Veneer sheets_0)),(3,H 3 0),(11,iv (sheets_0.length:Int)),(12,iv t_12_l3)] [(3,Oc [Z (W 1 eI out_o3_l3)])]) (fun (out_o3_e0_3:(List Int)) (p:Ex×St)=>p.1= .exit 0∧p.2.norm ([3],[3])=mk [(3,H 3 0)] [(3,Oc [Z (W 1 eI out_o3_e0_3)])]) hl (by kernel_rfl) ?_ ?_ ?_
 ·intro o p hp e
  exact nomatch (hp.1.symm.trans e)
 ·rintro ⟨t_12_l3,out_o3_l3⟩ o h
  unfold impl_sheetContrasts_l3 at h
  dsimp only at h
  refine gs<|g0 j j (q (oBi j j j j)<|nl)<|us<|gs<|gc h j iDec (fun hc15 h=>?_) fun hc15 h=>?_
  ·refine Go.skip<|us<|gs<|Go.block<|gs<|g0 j j (q (oMv j j)<|q (oAsI j j)<|nl)<|us<|gs<|g0 j j (q (oAsI j j)<|nl)<|us<|gs<|gs<|g0 j j (q (oMv j j)<|q (oLnI j j uF42 j)<|q (oMv j j)<|nl)<|us<|Go.block<|?_
   obtain ⟨o,hl,h⟩:=bs h
   refine gl c71 j _ (fun (s:(Int×Int))=>match s with | (least_5_l7,t_17_l7)=>mk [(0,D 2 (W 3 e_S_Veneer sheets_0)),(3,H 3 0),(4,iv t_12_l3),(5,iv least_5_l7),(11,iv (sheets_0.length:Int)),(12,iv t_12_l3),(15,D 2 (W 3 e_S_Veneer sheets_0)),(16,iv (sheets_0.length:Int)),(17,iv t_17_l7)] [(3,Oc [Z (W 1 eI out_o3_l3)])]) (fun (least_5_e2_7:Int) (p:Ex×St)=>p.1= .exit 2∧p.2.norm ([0,3,5,11,12],[3])=mk [(0,D 2 (W 3 e_S_Veneer sheets_0)),(3,H 3 0),(5,iv least_5_e2_7),(11,iv (sheets_0.length:Int)),(12,iv t_12_l3)] [(3,Oc [Z (W 1 eI out_o3_l3)])]) hl (by kernel_rfl) ?_ ?_ ?_
   ·intro o p hp e
    exact nomatch (hp.1.symm.trans e)
   ·rintro ⟨least_5_l7,t_17_l7⟩ o h
    unfold impl_sheetContrasts_l7 at h
    dsimp only at h
    refine gs<|g0 j j (q (oBi j j j j)<|nl)<|us<|gs<|gc h j iDec (fun hc22 h=>?_) fun hc22 h=>?_
    ·refine Go.skip<|us<|gs<|Go.join (fun st=>∃least_5_r12,impl_sheetContrasts_k12 t_17_l7 least_5_r12=some o∧st.norm ([0,3,4,5,11,12,15,16,17],[3])=mk [(0,D 2 (W 3 e_S_Veneer sheets_0)),(3,H 3 0),(4,iv t_12_l3),(5,iv least_5_r12),(11,iv (sheets_0.length:Int)),(12,iv t_12_l3),(15,D 2 (W 3 e_S_Veneer sheets_0)),(16,iv (sheets_0.length:Int)),(17,iv t_17_l7)] [(3,Oc [Z (W 1 eI out_o3_l3)])]) ?_ ?_
     ·rintro st ⟨least_5_r12,h,hst⟩
      unfold impl_sheetContrasts_k12 at h
      refine us<|g2 c71 j j hst (q (oBi j j j j)<|q (oMv j j)<|nl)<|Unw.nil<|?_
      cases h
      exact ⟨j,(by kernel_rfl)⟩
     ·intro K25
      refine Go.block<|gs<|?_
      obtain ⟨x20,hx20,h⟩:=bs h
      refine g0 j j (q (oMv j j)<|q (oIAI j hx20 sF42 j j)<|q (oLd (cs:=[.im 2 _,.im 2 _,.im 2 _]) j tF123 j j)<|q (oAl j tF123 (tkI (tkI (tkI tk0))))<|q (oAsI j j)<|q (oSt tF123 j j j (tkI (tkI (tkI tk0))) j j j)<|nl)<|us<|gs<|?_
      obtain ⟨x29,hx29,h⟩:=bs h
      obtain ⟨x30,hx30,h⟩:=bs h
      obtain ⟨x32,hx32,h⟩:=bs h
      refine gd c71 j j j (st1:=mk [(0,D 2 (W 3 e_S_Veneer sheets_0)),(3,H 3 0),(4,iv t_12_l3),(5,iv least_5_l7),(6,iv t_17_l7),(7,M 7),(11,iv (sheets_0.length:Int)),(12,iv t_12_l3),(15,D 2 (W 3 e_S_Veneer sheets_0)),(16,iv (sheets_0.length:Int)),(17,iv t_17_l7)] [(3,Oc [Z (W 1 eI out_o3_l3)]),(7,Oa (G 0 (u_S_Veneer x20)))]) (by kernel_rfl) (mk [(0,D 2 (W 3 e_S_Veneer sheets_0)),(3,H 3 0),(4,iv t_12_l3),(5,iv least_5_l7),(8,iv x32),(11,iv (sheets_0.length:Int)),(12,iv t_12_l3),(15,D 2 (W 3 e_S_Veneer sheets_0)),(16,iv (sheets_0.length:Int)),(17,iv t_17_l7)] [(3,Oc [Z (W 1 eI out_o3_l3)])]) (t j j (oLd (cs:=[.im 0 _,.im 0 _,.im 0 _]) j tF123 j j)<|t j j (oMv j j)<|t j j (oMv j j)<|t j j (oMv j j)<|t j j (oBi j j j j)<|t j j (oMv j j)<|t j j (oLnI j j uF42 j)<|t j j (oRem j hx29 j j)<|t j j (oIAI j hx30 sF42 j j)<|t j j (oLd (cs:=[.im 2 _,.im 2 _,.im 2 _]) j tF123 j j)<|sS (dN z71 j (oCa (xs:=[.v true [.im 0 _,.im 0 _,.im 0 _],.v true [.im 2 _,.im 2 _,.im 2 _]]) (vs:=[(false,[.im 0 _])]) (v:=.v false [.im 0 _]) (L_impl_contrast hx32) (.inl j) j kF80_123_123 j (ppC j (ppC j pp0)) j j pb0 j j j)) trivial (sS (dN z71 j (oAsI j j)) trivial (sD (by kernel_rfl))))<|us<|gs<|gX c71 j j j (mk [(0,D 2 (W 3 e_S_Veneer sheets_0)),(3,H 3 0),(4,iv t_12_l3),(5,iv least_5_l7),(8,iv x32),(11,iv (sheets_0.length:Int)),(12,iv t_12_l3),(15,D 2 (W 3 e_S_Veneer sheets_0)),(16,iv (sheets_0.length:Int)),(17,iv t_17_l7),(39,bv ((decide (least_5_l7<0))||(decide (x32<least_5_l7))))] [(3,Oc [Z (W 1 eI out_o3_l3)])]) ?_ ?_
      ·refine xq (oMv j j)<|xq (oBi j j j j)<|xq (oMv j j)<|?_
       by_cases hc26:least_5_l7<0
       ·exact xsgF rfl rfl (iDec.2 hc26) rfl<|xsgF rfl rfl (iDec.2 hc26) rfl<|xsgF rfl rfl (iDec.2 hc26) rfl<|xq (oPkT rfl rfl (iDec.2 hc26) rfl)<|xn (Eq.trans (b:=(fun t_39_m10:Bool=>mk [(0,D 2 (W 3 e_S_Veneer sheets_0)),(3,H 3 0),(4,iv t_12_l3),(5,iv least_5_l7),(8,iv x32),(11,iv (sheets_0.length:Int)),(12,iv t_12_l3),(15,D 2 (W 3 e_S_Veneer sheets_0)),(16,iv (sheets_0.length:Int)),(17,iv t_17_l7),(39,bv t_39_m10)] [(3,Oc [Z (W 1 eI out_o3_l3)])]) true) (by kernel_rfl) (congrArg (fun t_39_m10:Bool=>mk [(0,D 2 (W 3 e_S_Veneer sheets_0)),(3,H 3 0),(4,iv t_12_l3),(5,iv least_5_l7),(8,iv x32),(11,iv (sheets_0.length:Int)),(12,iv t_12_l3),(15,D 2 (W 3 e_S_Veneer sheets_0)),(16,iv (sheets_0.length:Int)),(17,iv t_17_l7),(39,bv t_39_m10)] [(3,Oc [Z (W 1 eI out_o3_l3)])]) (by first | rfl | (simp [(iDec.2 hc26)];done) | (simp [(iDec.2 hc26)];omega))))
       ·exact xqT rfl rfl (byF iDec hc26) (oMv rfl rfl)<|xqT rfl rfl (byF iDec hc26) (oMv rfl rfl)<|xqT rfl rfl (byF iDec hc26) (oBi rfl rfl rfl rfl)<|xq (oPkF rfl rfl (byF iDec hc26) rfl)<|xn (Eq.trans (b:=(fun t_39_m10:Bool=>mk [(0,D 2 (W 3 e_S_Veneer sheets_0)),(3,H 3 0),(4,iv t_12_l3),(5,iv least_5_l7),(8,iv x32),(11,iv (sheets_0.length:Int)),(12,iv t_12_l3),(15,D 2 (W 3 e_S_Veneer sheets_0)),(16,iv (sheets_0.length:Int)),(17,iv t_17_l7),(39,bv t_39_m10)] [(3,Oc [Z (W 1 eI out_o3_l3)])]) (decide (x32<least_5_l7))) (by kernel_rfl) (congrArg (fun t_39_m10:Bool=>mk [(0,D 2 (W 3 e_S_Veneer sheets_0)),(3,H 3 0),(4,iv t_12_l3),(5,iv least_5_l7),(8,iv x32),(11,iv (sheets_0.length:Int)),(12,iv t_12_l3),(15,D 2 (W 3 e_S_Veneer sheets_0)),(16,iv (sheets_0.length:Int)),(17,iv t_17_l7),(39,bv t_39_m10)] [(3,Oc [Z (W 1 eI out_o3_l3)])]) (by first | rfl | (simp [(byF iDec hc26)];done) | (simp [(byF iDec hc26)];omega))))
      ·refine us<|gc h j (iOr iDec iDec) (fun hc27 h=>?_) fun hc27 h=>?_
       ·exact g0 j j (q (oMv j j)<|q (oAsI j j)<|nl)<|Unw.blk<|K25 _ ⟨x32,h,(by kernel_rfl)⟩
       ·exact Go.skip<|Unw.blk<|K25 _ ⟨least_5_l7,h,(by kernel_rfl)⟩
    ·refine Go.exit<|ux<|Unw.nil<|?_
     cases h
     exact ⟨j,(by kernel_rfl)⟩
   ·rintro ⟨e,st⟩ hp
    obtain ⟨least_5_e2_7,rfl⟩:∃y,y=o:=⟨o,rfl⟩
    obtain ⟨he,hst⟩:=hp
    obtain rfl:e= .exit 2:=he
    refine Unw.blkx<|us<|?_
    obtain ⟨x45,hx45,h⟩:=bs h
    refine g2 c71 j j hst (q (oMv j j)<|q (oMv j j)<|q (oBS (es:=List.map eI ([least_5_e2_7]:List Int)) j sF28 j (ptC j (fxI fx0) j pt0) (flat0 j fun _=>j))<|q (oApO (en:=eI) (M:=([least_5_e2_7]:List Int)) j hx45 j sF28 j j uF28 (.inl ⟨_,j⟩) j j j j (el_own j j) (flat0 j fun _=>j))<|q (oAsO j j j j j)<|nl)<|Unw.blk<|us<|g0 j j (q (oBi j j j j)<|q (oMv j j)<|nl)<|Unw.nil<|?_
    cases h
    exact ⟨j,(by kernel_rfl)⟩
  ·refine Go.exit<|ux<|Unw.nil<|?_
   cases h
   exact ⟨j,(by kernel_rfl)⟩
 ·rintro ⟨e,st⟩ hp
  obtain ⟨out_o3_e0_3,rfl⟩:∃y,y=o:=⟨o,rfl⟩
  obtain ⟨he,hst⟩:=hp
  obtain rfl:e= .exit 0:=he
  refine Unw.blkx<|us<|gs<|g2 c71 j j hst (q (oMv j j)<|q (oAsO j j j j j)<|nl)<|us<|Go.ret (Unw.ret ?_)
  cases h
  exact fr rF71 j
theorem L_impl_shiftSearch_run_F {self:(S_shiftSearch×(List Int))→Option (Bool×S_shiftSearch)} (ih:∀{s_0:S_shiftSearch} {shifts_1:(List Int)} {r:(Bool×S_shiftSearch)},self (s_0,shifts_1)=some r→FX 121 [.ptr true [(.imm,W 1 (eL 1 eI) s_0.near),(.imm,W 1 eI s_0.contrasts),(.imm,I s_0.least),(.imm,I s_0.left),(.imm,I s_0.found),(.sh,W 1 eI s_0.first),(.imm,V s_0.one)],.mv 1 (List.map eI shifts_1)] ([(false,[.im 0 (V r.1)])],[.ptr true [(.imm,W 1 (eL 1 eI) r.2.near),(.imm,W 1 eI r.2.contrasts),(.imm,I r.2.least),(.imm,I r.2.left),(.imm,I r.2.found),(.sh,W 1 eI r.2.first),(.imm,V r.2.one)]])) {s_0:S_shiftSearch} {shifts_1:(List Int)} {r:(Bool×S_shiftSearch)} (h:impl_shiftSearch_run_F self s_0 shifts_1=some r):FX 121 [.ptr true [(.imm,W 1 (eL 1 eI) s_0.near),(.imm,W 1 eI s_0.contrasts),(.imm,I s_0.least),(.imm,I s_0.left),(.imm,I s_0.found),(.sh,W 1 eI s_0.first),(.imm,V s_0.one)],.mv 1 (List.map eI shifts_1)] ([(false,[.im 0 (V r.1)])],[.ptr true [(.imm,W 1 (eL 1 eI) r.2.near),(.imm,W 1 eI r.2.contrasts),(.imm,I r.2.least),(.imm,I r.2.left),(.imm,I r.2.found),(.sh,W 1 eI r.2.first),(.imm,V r.2.one)]]):=by
 unfold impl_shiftSearch_run_F at h
 refine FL_goS (A:=[(0,M 0),(1,H 1 0)]) (B:=[(0,Od [Ct 1 (W 1 (eL 1 eI) s_0.near),Ct 1 (W 1 eI s_0.contrasts),C (I s_0.least),C (I s_0.left),C (I s_0.found),Z (W 1 eI s_0.first),C (V s_0.one)]),(1,Oc [Z (W 1 eI shifts_1)])]) (nt:=114) rfl rfl Try.func121 rfl rfl rfl rfl ?_
 refine gs<|g0 j j (q (oAsI j j)<|nl)<|us<|gs<|g0 j j (q (oMv j j)<|q (oNl j j j)<|q (oFA (r':=.mp 0 0 3) j fF105_3 j j)<|q (oLd (cs:=[.im 0 _]) j tF2 j j)<|q (oBi j j j j)<|q (oNl j j j)<|q (oFA (r':=.mp 0 0 3) j fF105_3 j j)<|q (oSt tF2 j j j (tkI tk0) j j j)<|nl)<|us<|gs<|gs<|g1 j j (mk [(0,M 0),(1,H 1 0)] [(0,Od [Ct 1 (W 1 (eL 1 eI) s_0.near),Ct 1 (W 1 eI s_0.contrasts),C (I s_0.least),C (I (w64 (s_0.left - 1))),C (I s_0.found),Z (W 1 eI s_0.first),C (V s_0.one)]),(1,Oc [Z (W 1 eI shifts_1)])]) (q (oMv j j)<|q (oNl j j j)<|q (oFA (r':=.mp 0 0 3) j fF105_3 j j)<|q (oLd (cs:=[.im 0 _]) j tF2 j j)<|q (oBi j j j j)<|nl)<|us<|gc h j iDec (fun hc1 h=>?_) fun hc1 h=>?_
 ·refine gs<|g0 j j (q (oAsI j j)<|nl)<|us<|Go.ret (Unw.ret ?_)
  cases h
  exact fr rF121 j
 ·refine Go.skip<|us<|gs<|gd c121 j j j j (mk [(0,M 0),(1,H 1 0),(5,iv (shifts_1.length:Int)),(6,iv (s_0.contrasts.length:Int))] [(0,Od [Ct 1 (W 1 (eL 1 eI) s_0.near),Ct 1 (W 1 eI s_0.contrasts),C (I s_0.least),C (I (w64 (s_0.left - 1))),C (I s_0.found),Z (W 1 eI s_0.first),C (V s_0.one)]),(1,Oc [Z (W 1 eI shifts_1)])]) (t j j (oMv j j)<|t j j (oLnO j j uF28 j j j (fun e=>nomatch e))<|t j j (oMv j j)<|sK (O:=[0]) j j j (dN z121 j (oNl j j j))<|sK (O:=[0]) j j j (dN z121 j (oFA (r':=.mp 0 0 1) j fF105_1 j j))<|sK (O:=[0]) j j j (dN z121 j (oLd (cs:=[.im 1 _]) j tF28 j j))<|t j j (oLnI j j uF28 j)<|sS (dN z121 j (oAsI j j)) (kY ⟨j,trivial⟩ (kY ⟨j,trivial⟩ (kY ⟨j,trivial⟩ trivial))) (sS (dN z121 j (oAsI j j)) (kN j (kN j (kN j trivial))) (sD (by kernel_rfl))))<|us<|gs<|gs<|g0 j j (q (oMv j j)<|q (oMv j j)<|q (oNl j j j)<|q (oFA (r':=.mp 0 0 0) j fF105_0 j j)<|q (oLd (cs:=[.im 1 _]) j tF85 j j)<|q (oLnI j j uF85 j)<|q (oBi j j j j)<|nl)<|us<|gc h j iEq (fun hc2 h=>?_) fun hc2 h=>?_
  ·refine gs<|gs<|g0 j j (q (oMv j j)<|q (oNl j j j)<|q (oFA (r':=.mp 0 0 4) j fF105_4 j j)<|q (oLd (cs:=[.im 0 _]) j tF2 j j)<|q (oBi j j j j)<|nl)<|us<|Go.join (fun st=>∃s_o0_5_r8,impl_shiftSearch_run_k8 self s_0 s_o0_5_r8=some r∧st.norm ([0],[0])=mk [(0,M 0)] [(0,Od [Ct 1 (W 1 (eL 1 eI) s_0.near),Ct 1 (W 1 eI s_0.contrasts),C (I s_0.least),C (I (w64 (s_0.left - 1))),C (I s_0.found),Z (W 1 eI s_o0_5_r8),C (V s_0.one)])]) ?_ ?_
   ·rintro st ⟨s_o0_5_r8,h,hst⟩
    unfold impl_shiftSearch_run_k8 at h
    refine us<|gs<|g2 c121 j j hst (q (oMv j j)<|q (oNl j j j)<|q (oFA (r':=.mp 0 0 4) j fF105_4 j j)<|q (oLd (cs:=[.im 0 _]) j tF2 j j)<|q (oBi j j j j)<|q (oNl j j j)<|q (oFA (r':=.mp 0 0 4) j fF105_4 j j)<|q (oSt tF2 j j j (tkI tk0) j j j)<|nl)<|us<|gs<|g1 j j (mk [(0,M 0)] [(0,Od [Ct 1 (W 1 (eL 1 eI) s_0.near),Ct 1 (W 1 eI s_0.contrasts),C (I s_0.least),C (I (w64 (s_0.left - 1))),C (I (w64 (s_0.found+1))),Z (W 1 eI s_o0_5_r8),C (V s_0.one)])]) (q (oMv j j)<|q (oNl j j j)<|q (oFA (r':=.mp 0 0 6) j fF105_6 j j)<|q (oLd (cs:=[.im 0 _]) j tF4 j j)<|q (oAsI j j)<|nl)<|us<|Go.ret (Unw.ret ?_)
    cases h
    exact fr rF121 j
   ·intro K4
    refine gc h j iEq (fun hc5 h=>?_) fun hc5 h=>?_
    ·exact g0 j j (q (oMv j j)<|q (oMv j j)<|q (oNl j j j)<|q (oFA (r':=.mp 0 0 5) j fF105_5 j j)<|q (oSt tF28 j j j (tkO j j tk0) j j j)<|nl)<|K4 _ ⟨shifts_1,h,(by kernel_rfl)⟩
    ·exact Go.skip<|K4 _ ⟨s_0.first,h,(by kernel_rfl)⟩
  ·refine Go.skip<|us<|gs<|gs<|g0 j j (q (oMv j j)<|q (oMv j j)<|nl)<|us<|Go.block<|?_
   obtain ⟨o,hl,h⟩:=bs h
   refine gl c121 j _ (fun (s:(Int×(List (List Int))×(List Int)×Int×Int×Int×(List Int)×Bool))=>match s with | (t_58_l11,s_o0_0_l11,s_o0_1_l11,s_o0_2_l11,s_o0_3_l11,s_o0_4_l11,s_o0_5_l11,s_o0_6_l11)=>mk [(0,M 0),(1,H 1 0),(5,iv (shifts_1.length:Int)),(6,iv (s_0.contrasts.length:Int)),(57,iv (s_0.contrasts.length:Int)),(58,iv t_58_l11)] [(0,Od [Ct 1 (W 1 (eL 1 eI) s_o0_0_l11),Ct 1 (W 1 eI s_o0_1_l11),C (I s_o0_2_l11),C (I s_o0_3_l11),C (I s_o0_4_l11),Z (W 1 eI s_o0_5_l11),C (V s_o0_6_l11)]),(1,Oc [Z (W 1 eI shifts_1)])]) (fun (o:(((List (List Int))×(List Int)×Int×Int×Int×(List Int)×Bool) ⊕ (Bool×S_shiftSearch))) (p:Ex×St)=>match o with | (.inl (s_o0_0_e0_11,s_o0_1_e0_11,s_o0_2_e0_11,s_o0_3_e0_11,s_o0_4_e0_11,s_o0_5_e0_11,s_o0_6_e0_11))=>p.1= .exit 0∧p.2.norm ([],[0])=mk [] [(0,Od [Ct 1 (W 1 (eL 1 eI) s_o0_0_e0_11),Ct 1 (W 1 eI s_o0_1_e0_11),C (I s_o0_2_e0_11),C (I s_o0_3_e0_11),C (I s_o0_4_e0_11),Z (W 1 eI s_o0_5_e0_11),C (V s_o0_6_e0_11)])] | (.inr r2)=>p.1= .ret∧fin Try.prog cfg 121 Try.f121 [.ptr true [(.imm,W 1 (eL 1 eI) s_0.near),(.imm,W 1 eI s_0.contrasts),(.imm,I s_0.least),(.imm,I s_0.left),(.imm,I s_0.found),(.sh,W 1 eI s_0.first),(.imm,V s_0.one)],.mv 1 (List.map eI shifts_1)] p.2=some ([(false,[.im 0 (V r2.1)])],[.ptr true [(.imm,W 1 (eL 1 eI) r2.2.near),(.imm,W 1 eI r2.2.contrasts),(.imm,I r2.2.least),(.imm,I r2.2.left),(.imm,I r2.2.found),(.sh,W 1 eI r2.2.first),(.imm,V r2.2.one)]])) hl (by kernel_rfl) ?_ ?_ ?_
   ·intro o p hp e
    rcases o with ⟨s_o0_0_e0_11,s_o0_1_e0_11,s_o0_2_e0_11,s_o0_3_e0_11,s_o0_4_e0_11,s_o0_5_e0_11,s_o0_6_e0_11⟩ | r2<;>exact nomatch (hp.1.symm.trans e)
   ·rintro ⟨t_58_l11,s_o0_0_l11,s_o0_1_l11,s_o0_2_l11,s_o0_3_l11,s_o0_4_l11,s_o0_5_l11,s_o0_6_l11⟩ o h
    unfold impl_shiftSearch_run_l11 at h
    dsimp only at h
    refine gs<|g0 j j (q (oBi j j j j)<|nl)<|us<|gs<|gc h j iDec (fun hc28 h=>?_) fun hc28 h=>?_
    ·refine Go.skip<|us<|gs<|Go.block<|gs<|g0 j j (q (oMv j j)<|q (oAsI j j)<|nl)<|us<|gs<|g0 j j (q (oAsI j j)<|nl)<|us<|gs<|gs<|?_
     obtain ⟨x66,hx66,h⟩:=bs h
     refine g0 j j (q (oMv j j)<|q (oNl j j j)<|q (oFA (r':=.mp 0 0 0) j fF105_0 j j)<|q (oLd (cs:=[.im 1 _]) j tF85 j j)<|q (oMv j j)<|q (oIAI j hx66 sF85 j j)<|q (oLd (cs:=[.im 1 _]) j tF28 j j)<|q (oLnI j j uF28 j)<|q (oMv j j)<|nl)<|us<|Go.block<|?_
     obtain ⟨o,hl,h⟩:=bs h
     refine gl c121 j _ (fun (s:(Bool×Int))=>match s with | (good_8_l15,t_69_l15)=>mk [(0,M 0),(1,H 1 0),(5,iv (shifts_1.length:Int)),(6,iv (s_0.contrasts.length:Int)),(7,iv t_58_l11),(8,bv good_8_l15),(57,iv (s_0.contrasts.length:Int)),(58,iv t_58_l11),(67,D 1 (W 1 eI x66)),(68,iv (x66.length:Int)),(69,iv t_69_l15)] [(0,Od [Ct 1 (W 1 (eL 1 eI) s_o0_0_l11),Ct 1 (W 1 eI s_o0_1_l11),C (I s_o0_2_l11),C (I s_o0_3_l11),C (I s_o0_4_l11),Z (W 1 eI s_o0_5_l11),C (V s_o0_6_l11)]),(1,Oc [Z (W 1 eI shifts_1)])]) (fun (good_8_e2_15:Bool) (p:Ex×St)=>p.1= .exit 2∧p.2.norm ([0,1,5,6,7,8,57,58],[0,1])=mk [(0,M 0),(1,H 1 0),(5,iv (shifts_1.length:Int)),(6,iv (s_0.contrasts.length:Int)),(7,iv t_58_l11),(8,bv good_8_e2_15),(57,iv (s_0.contrasts.length:Int)),(58,iv t_58_l11)] [(0,Od [Ct 1 (W 1 (eL 1 eI) s_o0_0_l11),Ct 1 (W 1 eI s_o0_1_l11),C (I s_o0_2_l11),C (I s_o0_3_l11),C (I s_o0_4_l11),Z (W 1 eI s_o0_5_l11),C (V s_o0_6_l11)]),(1,Oc [Z (W 1 eI shifts_1)])]) hl (by kernel_rfl) ?_ ?_ ?_
     ·intro o p hp e
      exact nomatch (hp.1.symm.trans e)
     ·rintro ⟨good_8_l15,t_69_l15⟩ o h
      unfold impl_shiftSearch_run_l15 at h
      dsimp only at h
      refine gs<|g0 j j (q (oBi j j j j)<|nl)<|us<|gs<|gc h j iDec (fun hc39 h=>?_) fun hc39 h=>?_
      ·refine Go.skip<|us<|gs<|Go.block<|gs<|?_
       obtain ⟨x71,hx71,h⟩:=bs h
       refine g0 j j (q (oIAI j hx71 sF28 j j)<|q (oLd (cs:=[.im 1 _]) j tF2 j j)<|q (oAsI j j)<|nl)<|us<|?_
       obtain ⟨good_8_m17,hm42,h⟩:=bs h
       refine gd c121 j j j j (mk [(0,M 0),(1,H 1 0),(5,iv (shifts_1.length:Int)),(6,iv (s_0.contrasts.length:Int)),(7,iv t_58_l11),(8,bv good_8_m17),(57,iv (s_0.contrasts.length:Int)),(58,iv t_58_l11),(67,D 1 (W 1 eI x66)),(68,iv (x66.length:Int)),(69,iv t_69_l15)] [(0,Od [Ct 1 (W 1 (eL 1 eI) s_o0_0_l11),Ct 1 (W 1 eI s_o0_1_l11),C (I s_o0_2_l11),C (I s_o0_3_l11),C (I s_o0_4_l11),Z (W 1 eI s_o0_5_l11),C (V s_o0_6_l11)]),(1,Oc [Z (W 1 eI shifts_1)])]) ?_ ?_
       ·refine t j j (oMv j j)<|t j j (oMv j j)<|?_
        refine ic hm42 (fun hc40 hm42=>?_) fun hc40 hm42=>?_
        ·refine tT j j j j (iR.2 hc40) (oMv j j)<|tT j j j j (iR.2 hc40) (oMv j j)<|tT j j j j (iR.2 hc40) (oBi j j j j)<|tT j j j j (iR.2 hc40) (oMv j j)<|?_
         refine ic hm42 (fun hc41 hm42=>?_) fun hc41 hm42=>?_
         ·cases hm42
          exact tF j j j j (iDec.2 hc41) j<|tF j j j j (iDec.2 hc41) j<|tF j j j j (iDec.2 hc41) j<|tF j j j j (iDec.2 hc41) j<|tF j j j j (iDec.2 hc41) j<|tF j j j j (iDec.2 hc41) j<|tF j j j j (iDec.2 hc41) j<|tF j j j j (iDec.2 hc41) j<|tF j j j j (iDec.2 hc41) j<|tF j j j j (iDec.2 hc41) j<|tF j j j j (iDec.2 hc41) j<|tF j j j j (iDec.2 hc41) j<|tF j j j j (iDec.2 hc41) j<|tF j j j j (iDec.2 hc41) j<|tF j j j j (iDec.2 hc41) j<|tF j j j j (iDec.2 hc41) j<|tF j j j j (iDec.2 hc41) j<|tF j j j j (iDec.2 hc41) j<|tF j j j j (iDec.2 hc41) j<|tF j j j j (iDec.2 hc41) j<|tF j j j j (iDec.2 hc41) j<|tT j j j j (iR.2 hc40) (oPkT j j (iDec.2 hc41) j)<|t j j (oPkT j j (iR.2 hc40) j)<|sS (dN z121 j (oAsI j j)) trivial (sD (by kernel_rfl))
         ·obtain ⟨x86,hx86,hm42⟩:=bs hm42
          obtain ⟨x92,hx92,hm42⟩:=bs hm42
          obtain ⟨x93,hx93,hm42⟩:=bs hm42
          cases hm42
          exact tT j j j j (byF iDec hc41) (oMv j j)<|tT j j j j (byF iDec hc41) (oNl j j j)<|tT j j j j (byF iDec hc41) (oFA (r':=.mp 0 0 1) j fF105_1 j j)<|tT j j j j (byF iDec hc41) (oLd (cs:=[.im 1 _]) j tF28 j j)<|tT j j j j (byF iDec hc41) (oMv j j)<|tT j j j j (byF iDec hc41) (oMv j j)<|tT j j j j (byF iDec hc41) (oMv j j)<|tT j j j j (byF iDec hc41) (oIAO j hx86 sF28 j j j j)<|tT j j j j (byF iDec hc41) (oLdE (cs:=[.im 0 _]) j tF2 j j j j (rd_get hx86) j j)<|tT j j j j (byF iDec hc41) (oBi j j j j)<|tT j j j j (byF iDec hc41) (oMv j j)<|tT j j j j (byF iDec hc41) (oBi j j j j)<|tT j j j j (byF iDec hc41) (oMv j j)<|tT j j j j (byF iDec hc41) (oRem j hx92 j j)<|tT j j j j (byF iDec hc41) (oIAI j hx93 sF28 j j)<|tT j j j j (byF iDec hc41) (oLd (cs:=[.im 1 _]) j tF2 j j)<|tT j j j j (byF iDec hc41) (oMv j j)<|tT j j j j (byF iDec hc41) (oNl j j j)<|tT j j j j (byF iDec hc41) (oFA (r':=.mp 0 0 2) j fF105_2 j j)<|tT j j j j (byF iDec hc41) (oLd (cs:=[.im 0 _]) j tF2 j j)<|tT j j j j (byF iDec hc41) (oBi j j j j)<|tT j j j j (iR.2 hc40) (oPkF j j (byF iDec hc41) j)<|t j j (oPkT j j (iR.2 hc40) j)<|sS (dN z121 j (oAsI j j)) trivial (sD (by kernel_rfl))
        ·cases hm42
         exact tF j j j j (byF iR hc40) j<|tF j j j j (byF iR hc40) j<|tF j j j j (byF iR hc40) j<|tF j j j j (byF iR hc40) j<|sT j (dU j j j j)<|sT j (dU j j j j)<|sT j (dU j j j j)<|sT j (dU j j j j)<|sT j (dU j j j j)<|sT j (dU j j j j)<|sT j (dU j j j j)<|sT j (dU j j j j)<|sT j (dU j j j j)<|sT j (dU j j j j)<|sT j (dU j j j j)<|sT j (dU j j j j)<|sT j (dU j j j j)<|sT j (dU j j j j)<|sT j (dU j j j j)<|sT j (dU j j j j)<|sT j (dU j j j j)<|sT j (dU j j j j)<|sT j (dU j j j j)<|sT j (dU j j j j)<|sT j (dU j j j j)<|tF j j j j (byF iR hc40) j<|t j j (oPkF j j (byF iR hc40) j)<|sS (dN z121 j (oAsI j j)) trivial (sD (by kernel_rfl))
       ·refine Unw.blk<|us<|g0 j j (q (oBi j j j j)<|q (oMv j j)<|nl)<|Unw.nil<|?_
        cases h
        exact ⟨j,(by kernel_rfl)⟩
      ·refine Go.exit<|ux<|Unw.nil<|?_
       cases h
       exact ⟨j,(by kernel_rfl)⟩
     ·rintro ⟨e,st⟩ hp
      obtain ⟨good_8_e2_15,rfl⟩:∃y,y=o:=⟨o,rfl⟩
      obtain ⟨he,hst⟩:=hp
      obtain rfl:e= .exit 2:=he
      refine Unw.blkx<|us<|gs<|?_
      obtain ⟨⟨t_112_m19,s_o0_0_m19,s_o0_1_m19,s_o0_2_m19,s_o0_3_m19,s_o0_4_m19,s_o0_5_m19,s_o0_6_m19⟩,hm38,h⟩:=bs h
      dsimp only at h
      refine gX c121 j j hst (mk [(0,M 0),(1,H 1 0),(5,iv (shifts_1.length:Int)),(6,iv (s_0.contrasts.length:Int)),(57,iv (s_0.contrasts.length:Int)),(58,iv t_58_l11),(112,bv t_112_m19)] [(0,Od [Ct 1 (W 1 (eL 1 eI) s_o0_0_m19),Ct 1 (W 1 eI s_o0_1_m19),C (I s_o0_2_m19),C (I s_o0_3_m19),C (I s_o0_4_m19),Z (W 1 eI s_o0_5_m19),C (V s_o0_6_m19)]),(1,Oc [Z (W 1 eI shifts_1)])]) ?_ ?_
      ·refine xq (oMv j j)<|xq (oMv j j)<|?_
       refine ic hm38 (fun hc36 hm38=>?_) fun hc36 hm38=>?_
       ·obtain ⟨x107,hx107,hm38⟩:=bs hm38
        obtain ⟨x110,hx110,hm38⟩:=bs hm38
        obtain ⟨x111,hx111,hm38⟩:=bs hm38
        cases hm38
        exact xqT j j (iR.2 hc36) (oMv j j)<|xqT j j (iR.2 hc36) (oMv j j)<|xqT j j (iR.2 hc36) (oCr (xs:=[.v false [.own 1 0 0]]) (vs:=[(false,[.own 107 0 0])]) (v:=.v false [.own 107 0 0]) (c:=⟨.sh,0,_⟩) (cs:=[]) (FL_cloneN (en:=eI) (L:=shifts_1) j hx107 (fun _=>j)) (.inl j) j kF131_28 j (ppC j pp0) j j pb0 j j j)<|xqT j j (iR.2 hc36) (oMv j j)<|xqT j j (iR.2 hc36) (oBS (es:=List.map eI ([t_58_l11]:List Int)) j sF28 j (ptC j (fxI fx0) j pt0) (flat0 j fun _=>j))<|xqT j j (iR.2 hc36) (oApO (en:=eI) (M:=([t_58_l11]:List Int)) j hx110 j sF28 j j uF28 (.inl ⟨_,j⟩) j j j j (el_own j j) (flat0 j fun _=>j))<|xqT j j (iR.2 hc36) (oCa (xs:=[.v false [.mp 0 0 0],.v false [.own 110 0 0]]) (vs:=[(false,[.im 0 _])]) (v:=.v false [.im 0 _]) (ih hx111) (.inl j) j kF121_101_28 j (ppPx (ob':=⟨0,0,true,true,false,true,[Ct 1 (W 1 (eL 1 eI) s_o0_0_l11),Ct 1 (W 1 eI s_o0_1_l11),C (I s_o0_2_l11),C (I s_o0_3_l11),C (I s_o0_4_l11),Z (W 1 eI s_o0_5_l11),C (V s_o0_6_l11)]⟩) j j j (by kernel_rfl) (ppM (take_own j j) pp0)) j j (pbPx (ob':=⟨0,1,true,true,false,true,[⟨.imm,1,1,W 1 (eL 1 eI) x111.2.near⟩,⟨.imm,1,1,W 1 eI x111.2.contrasts⟩,⟨.imm,1,0,I x111.2.least⟩,⟨.imm,1,0,I x111.2.left⟩,⟨.imm,1,0,I x111.2.found⟩,⟨.sh,1,0,W 1 eI x111.2.first⟩,⟨.imm,1,0,V x111.2.one⟩]⟩) j j (by kernel_rfl) pb0) j j j)<|xq (oPkT j j (iR.2 hc36) j)<|xn
       ·cases hm38
        exact xsgF j j (byF iR hc36) j<|xsgF j j (byF iR hc36) j<|xsgF j j (byF iR hc36) j<|xsgF j j (byF iR hc36) j<|xsgF j j (byF iR hc36) j<|xsgF j j (byF iR hc36) j<|xsgF j j (byF iR hc36) j<|xq (oPkF j j (byF iR hc36) j)<|xn
      ·refine us<|gc h j iR (fun hc37 h=>?_) fun hc37 h=>?_
       ·refine gs<|g0 j j (q (oAsI j j)<|nl)<|us<|Go.ret (Unw.ret ?_)
        cases h
        exact ⟨j,(fo rF121 j)⟩
       ·refine Go.skip<|Unw.blk<|us<|g0 j j (q (oBi j j j j)<|q (oMv j j)<|nl)<|Unw.nil<|?_
        cases h
        exact ⟨j,(by kernel_rfl)⟩
    ·refine Go.exit<|ux<|Unw.nil<|?_
     cases h
     exact ⟨j,(by kernel_rfl)⟩
   ·rintro ⟨e,st⟩ hp
    rcases o with ⟨s_o0_0_e0_11,s_o0_1_e0_11,s_o0_2_e0_11,s_o0_3_e0_11,s_o0_4_e0_11,s_o0_5_e0_11,s_o0_6_e0_11⟩ | r2
    ·dsimp only at h
     obtain ⟨he,hst⟩:=hp
     obtain rfl:e= .exit 0:=he
     refine Unw.blkx<|us<|gs<|g2 c121 j j hst (q (oAsI j j)<|nl)<|us<|Go.ret (Unw.ret ?_)
     cases h
     exact fr rF121 j
    ·dsimp only at h
     obtain ⟨he,hfin⟩:=hp
     obtain rfl:e= .ret:=he
     cases h
     exact Unw.ret (Fin_ret hfin)
theorem L_impl_shiftSearch_run {s_0:S_shiftSearch} {shifts_1:(List Int)} {r:(Bool×S_shiftSearch)} (h:impl_shiftSearch_run s_0 shifts_1=some r):FX 121 [.ptr true [(.imm,W 1 (eL 1 eI) s_0.near),(.imm,W 1 eI s_0.contrasts),(.imm,I s_0.least),(.imm,I s_0.left),(.imm,I s_0.found),(.sh,W 1 eI s_0.first),(.imm,V s_0.one)],.mv 1 (List.map eI shifts_1)] ([(false,[.im 0 (V r.1)])],[.ptr true [(.imm,W 1 (eL 1 eI) r.2.near),(.imm,W 1 eI r.2.contrasts),(.imm,I r.2.least),(.imm,I r.2.left),(.imm,I r.2.found),(.sh,W 1 eI r.2.first),(.imm,V r.2.one)]]):=by
 unfold impl_shiftSearch_run at h
 obtain ⟨n,hn⟩:=fixO_iter h
 clear h
 induction n generalizing s_0 shifts_1 r with
 | zero=>cases hn
 | succ n ihn=>exact L_impl_shiftSearch_run_F (self:=iterO _ n) (fun h=>ihn h) hn
theorem L_impl_searchShifts {d_0:S_Drawing} {sheets_1:(List S_Veneer)} {least_2:Int} {budget_3:Int} {one_4:Bool} {r:((Option S_shiftSearch)×Int)} (h:impl_searchShifts d_0 sheets_1 least_2 budget_3 one_4=some r):FX 67 [.im 2 true (u_S_Drawing d_0),.im 2 false [W 3 e_S_Veneer sheets_1],.im 2 false [I least_2],.im 2 false [I budget_3],.im 2 false [V one_4]] (B0 [(false,[.im 0 (eO e_S_shiftSearch r.1)]),(false,[.im 0 (I r.2)])]):=by
 unfold impl_searchShifts at h
 refine gn 48 Try.func67 rfl ?_
 refine gs<|g0 j j (q (oBx j tF26 j (tkI (tkI (tkI (tkI tk0)))))<|q (oAsI j j)<|q (oAsI j j)<|nl)<|us<|gs<|Go.block<|gs<|?_
 obtain ⟨x15,hx15,h⟩:=bs h
 obtain ⟨t_13_m1,hm7,h⟩:=bs h
 refine gX c67 j j j (mk [(1,D 2 (W 3 e_S_Veneer sheets_1)),(2,iv least_2),(3,iv budget_3),(4,bv one_4),(5,M 5),(13,bv t_13_m1)] [(5,Oa (G 2 (u_S_Drawing d_0)))]) ?_ ?_
 ·refine xq (oLd (cs:=[.im 0 _,.im 0 _,.im 2 _,.im 2 _]) j tF26 j j)<|xq (oCa (xs:=[.v true [.im 0 _,.im 0 _,.im 2 _,.im 2 _]]) (vs:=[(false,[.im 0 _])]) (v:=.v false [.im 0 _]) (L_impl_ValidDrawing hx15) (.inl j) j kF54_26 j (ppC j pp0) j j pb0 j j j)<|xq (oUn j j j)<|xq (oMv j j)<|?_
  refine ic hm7 (fun hc1 hm7=>?_) fun hc1 hm7=>?_
  ·obtain ⟨x19,hx19,hm7⟩:=bs hm7
   cases hm7
   exact xqT j j (nF (iR.2 hc1)) (oMv j j)<|xqT j j (nF (iR.2 hc1)) (oCa (xs:=[.v false [.im 2 _]]) (vs:=[(false,[.im 0 _])]) (v:=.v false [.im 0 _]) (L_impl_validSheets hx19) (.inl j) j kF120_42 j (ppC j pp0) j j pb0 j j j)<|xqT j j (nF (iR.2 hc1)) (oUn j j j)<|xq (oPkF j j (nF (iR.2 hc1)) j)<|xq (oAsI j j)<|xn
  ·cases hm7
   exact xsgF j j (nT (byF iR hc1)) j<|xsgF j j (nT (byF iR hc1)) j<|xsgF j j (nT (byF iR hc1)) j<|xq (oPkT j j (nT (byF iR hc1)) j)<|xq (oAsI j j)<|xn
 ·refine us<|gc h j iR (fun hc2 h=>?_) fun hc2 h=>?_
  ·refine gs<|g0 j j (q (oAsI j j)<|q (oAsI j j)<|nl)<|us<|Go.ret (Unw.ret ?_)
   cases h
   exact fr rF67 j
  ·refine gs<|?_
   obtain ⟨x24,hx24,h⟩:=bs h
   obtain ⟨t_22_m3,hm6,h⟩:=bs h
   refine gX c67 j j j (mk [(1,D 2 (W 3 e_S_Veneer sheets_1)),(2,iv least_2),(3,iv budget_3),(4,bv one_4),(5,M 5),(22,bv t_22_m3)] [(5,Oa (G 2 (u_S_Drawing d_0)))]) ?_ ?_
   ·refine xq (oMv j j)<|xq (oCa (xs:=[.v false [.im 0 _],.v false [.im 0 _],.v false [.im 0 _]]) (vs:=[(false,[.im 0 _])]) (v:=.v false [.im 0 _]) (L_impl_within hx24) (.inl j) j kF79_2_2_2 j (ppC j (ppC j (ppC j pp0))) j j pb0 j j j)<|xq (oUn j j j)<|xq (oMv j j)<|?_
    refine ic hm6 (fun hc3 hm6=>?_) fun hc3 hm6=>?_
    ·obtain ⟨x28,hx28,hm6⟩:=bs hm6
     cases hm6
     exact xqT j j (nF (iR.2 hc3)) (oMv j j)<|xqT j j (nF (iR.2 hc3)) (oCa (xs:=[.v false [.im 0 _],.v false [.im 0 _],.v false [.im 0 _]]) (vs:=[(false,[.im 0 _])]) (v:=.v false [.im 0 _]) (L_impl_within hx28) (.inl j) j kF79_2_2_2 j (ppC j (ppC j (ppC j pp0))) j j pb0 j j j)<|xqT j j (nF (iR.2 hc3)) (oUn j j j)<|xq (oPkF j j (nF (iR.2 hc3)) j)<|xq (oAsI j j)<|xn
    ·cases hm6
     exact xsgF j j (nT (byF iR hc3)) j<|xsgF j j (nT (byF iR hc3)) j<|xsgF j j (nT (byF iR hc3)) j<|xq (oPkT j j (nT (byF iR hc3)) j)<|xq (oAsI j j)<|xn
   ·refine us<|gc h j iR (fun hc4 h=>?_) fun hc4 h=>?_
    ·refine gs<|g0 j j (q (oAsI j j)<|q (oAsI j j)<|nl)<|us<|Go.ret (Unw.ret ?_)
     cases h
     exact fr rF67 j
    ·refine Go.skip<|Unw.blk<|us<|gs<|?_
     obtain ⟨x32,hx32,h⟩:=bs h
     obtain ⟨x34,hx34,h⟩:=bs h
     refine g0 j j (q (oLd (cs:=[.im 0 _,.im 0 _,.im 2 _,.im 2 _]) j tF26 j j)<|q (oCa (xs:=[.v true [.im 0 _,.im 0 _,.im 2 _,.im 2 _]]) (vs:=[(false,[.im 0 _])]) (v:=.v false [.im 0 _]) (L_impl_neighbours hx32) (.inl j) j kF63_26 j (ppC j pp0) j j pb0 j j j)<|q (oMv j j)<|q (oCr (xs:=[.v false [.im 2 _]]) (vs:=[(false,[.own 34 0 0])]) (v:=.v false [.own 34 0 0]) (c:=⟨.sh,0,_⟩) (cs:=[]) (L_impl_sheetContrasts hx34) (.inl j) j kF71_42 j (ppC j pp0) j j pb0 j j j)<|q (oMv j j)<|q (oMv j j)<|q (oMv j j)<|q (oBu (cs:=[.im 0 _,.own 34 0 0,.im 0 _,.im 0 _,.im 0 _,.nil,.im 0 _]) j bF105 j)<|q (oBx j tF105 j (tkI (tkO j j (tkI (tkI (tkI (tkN (tkI tk0))))))))<|q (oAsP j j)<|nl)<|us<|gs<|?_
     obtain ⟨x41,hx41,h⟩:=bs h
     refine g1 j j (mk [(12,M 39)] [(39,Oa [C (W 1 (eL 1 eI) x32),Z (W 1 eI x34),C (I least_2),C (I budget_3),C (I 0),Z (W 1 eI ([]:List Int)),C (V one_4)])]) (q (oMv j j)<|q (oCa (xs:=[.v false [.mp 39 0 0],.v false [.nil]]) (vs:=[(false,[.im 0 _])]) (v:=.v false [.im 0 _]) (L_impl_shiftSearch_run hx41) (.inl j) j kF121_101_28 j (ppPx (ob':=⟨0,0,false,true,false,true,[C (W 1 (eL 1 eI) x32),C (W 1 eI x34),C (I least_2),C (I budget_3),C (I 0),Z (W 1 eI ([]:List Int)),C (V one_4)]⟩) j j j (by kernel_rfl) (ppM take_nil pp0)) j j (pbPx (ob':=⟨0,1,false,true,false,true,[⟨.imm,1,0,W 1 (eL 1 eI) x41.2.near⟩,⟨.imm,1,0,W 1 eI x41.2.contrasts⟩,⟨.imm,1,0,I x41.2.least⟩,⟨.imm,1,0,I x41.2.left⟩,⟨.imm,1,0,I x41.2.found⟩,⟨.sh,1,0,W 1 eI x41.2.first⟩,⟨.imm,1,0,V x41.2.one⟩]⟩) j j (by kernel_rfl) pb0) j j j)<|nl)<|us<|gs<|gs<|g1 j j (mk [(12,M 39)] [(39,Oa [C (W 1 (eL 1 eI) x41.2.near),C (W 1 eI x41.2.contrasts),C (I x41.2.least),C (I x41.2.left),C (I x41.2.found),Z (W 1 eI x41.2.first),C (V x41.2.one)])]) (q (oMv j j)<|q (oNl j j j)<|q (oFA (r':=.mp 39 0 3) j fF105_3 j j)<|q (oLd (cs:=[.im 0 _]) j tF2 j j)<|q (oBi j j j j)<|nl)<|us<|gc h j iDec (fun hc5 h=>?_) fun hc5 h=>?_
     ·refine gs<|g0 j j (q (oAsI j j)<|q (oAsI j j)<|nl)<|us<|Go.ret (Unw.ret ?_)
      cases h
      exact fr rF67 j
     ·refine Go.skip<|us<|gs<|g0 j j (q (oMv j j)<|q (oAsP j j)<|q (oAsI j j)<|nl)<|us<|Go.ret (Unw.ret ?_)
      cases h
      exact fr rF67 j
theorem L_impl_FirstShifts {d_0:S_Drawing} {sheets_1:(List S_Veneer)} {least_2:Int} {budget_3:Int} {r:((List Int)×Int)} (h:impl_FirstShifts d_0 sheets_1 least_2 budget_3=some r):FX 24 [.im 2 true (u_S_Drawing d_0),.im 2 false [W 3 e_S_Veneer sheets_1],.im 2 false [I least_2],.im 2 false [I budget_3]] (B0 [(false,[.im 0 (W 1 eI r.1)]),(false,[.im 0 (I r.2)])]):=by
 unfold impl_FirstShifts at h
 refine gn 36 Try.func24 rfl ?_
 refine gs<|g0 j j (sqn z24 j (oBx j tF26 j (tkI (tkI (tkI (tkI tk0)))))<|sqf z24 j (oAsN j j eF28) (frzO j j j)<|sqn z24 j (oAsI j j)<|nl)<|us<|gs<|?_
 obtain ⟨x17,hx17,h⟩:=bs h
 refine g0 j j (sqn z24 j (oLd (cs:=[.im 0 _,.im 0 _,.im 2 _,.im 2 _]) j tF26 j j)<|sqn z24 j (oMv j j)<|sqn z24 j (oMv j j)<|sqn z24 j (oMv j j)<|sqn z24 j (oCa (xs:=[.v true [.im 0 _,.im 0 _,.im 2 _,.im 2 _],.v false [.im 2 _],.v false [.im 2 _],.v false [.im 2 _],.v false [.im 0 _]]) (vs:=[(false,[.im 0 (eO e_S_shiftSearch x17.1)]),(false,[.im 0 (I x17.2)])]) (v:=.tup [(false,[.im 0 _]),(false,[.im 0 _])]) (L_impl_searchShifts hx17) (.inl j) j kF67_26_42_2_2_4 j (ppC j (ppC j (ppC j (ppC j (ppC j pp0))))) j j pb0 j (by cases x17.1<;>kernel_rfl) j)<|sqn z24 j (oMvT j j)<|sqn z24 j (oEx j j j)<|sqn z24 j (oEx j j j)<|sqn z24 j (oAsI j j)<|sqn z24 j (oAsI j j)<|nl)<|us<|gs<|gs<|?_
 obtain ⟨t_28_m2,hm8,h⟩:=bs h
 refine gX c24 j j j (mk [(10,D 0 (eO e_S_shiftSearch x17.1)),(11,iv x17.2),(28,bv t_28_m2)] []) ?_ ?_
 ·refine ic hm8 (fun hc1 hm8=>?_) fun hc1 hm8=>?_
  ·revert hm8
   cases x17.1 with
   | none=>
    intro hm8
    cases hm8
   | some ohc2=>
    intro hm8
    cases hm8
    exact xsqn z24 rfl (oMv rfl rfl)<|xsqn z24 rfl (oBi rfl rfl rfl rfl)<|xsqn z24 rfl (oMv rfl rfl)<|xsgTn z24 rfl rfl rfl (iEq.2 hc1) (oMv rfl rfl)<|xsgTn z24 rfl rfl rfl (iEq.2 hc1) (oNl rfl rfl rfl)<|xsgTn z24 rfl rfl rfl (iEq.2 hc1) (oFA (r':=.im 0 _) rfl fF105_4 rfl rfl)<|xsgTn z24 rfl rfl rfl (iEq.2 hc1) (oLd (cs:=[.im 0 _]) rfl tF2 rfl rfl)<|xsgTn z24 rfl rfl rfl (iEq.2 hc1) (oBi rfl rfl rfl rfl)<|xsqn z24 rfl (oPkT rfl rfl (iEq.2 hc1) rfl)<|xn (by first | (cases x17.1<;>kernel_rfl) | kernel_rfl)
  ·cases hm8
   exact xsqn z24 rfl (oMv rfl rfl)<|xsqn z24 rfl (oBi rfl rfl rfl rfl)<|xsqn z24 rfl (oMv rfl rfl)<|xsgF rfl rfl (byF iEq hc1) rfl<|xsgF rfl rfl (byF iEq hc1) rfl<|xsgF rfl rfl (byF iEq hc1) rfl<|xsgF rfl rfl (byF iEq hc1) rfl<|xsgF rfl rfl (byF iEq hc1) rfl<|xsqn z24 rfl (oPkF rfl rfl (byF iEq hc1) rfl)<|xn (by first | (cases x17.1<;>kernel_rfl) | kernel_rfl)
 ·refine us<|Go.join (fun st=>∃code_11_r4,impl_FirstShifts_k4 x17 code_11_r4=some r∧st.norm ([10,11],[])=mk [(10,D 0 (eO e_S_shiftSearch x17.1)),(11,iv code_11_r4)] []) ?_ ?_
  ·rintro st ⟨code_11_r4,h,hst⟩
   unfold impl_FirstShifts_k4 at h
   refine us<|gs<|gs<|g2 c24 j j hst (sqn z24 j (oMv j j)<|sqn z24 j (oBi j j j j)<|nl)<|us<|gc h j iNe (fun hc4 h=>?_) fun hc4 h=>?_
   ·refine gs<|g0 j j (sqn z24 j (oMv j j)<|sqf z24 j (oAsN j j eF28) (frzO j j j)<|sqn z24 j (oAsI j j)<|nl)<|us<|Go.ret (Unw.ret ?_)
    cases h
    exact fr rF24 j
   ·refine Go.skip<|us<|gs<|?_
    revert h
    cases x17.1 with
    | none=>
     intro h
     cases h
    | some ohc5=>
     intro h
     refine g0 j j (sqn z24 j (oMv j j)<|sqn z24 j (oNl j j j)<|sqn z24 j (oFA (r':=.im 0 _) j fF105_5 j j)<|sqn z24 j (oLd (cs:=[.im 0 _]) j tF28 j j)<|sqf z24 j (oAsI j j) (frzI j)<|sqn z24 j (oAsI j j)<|nl)<|us<|Go.ret (Unw.ret ?_)
     cases h
     exact fr rF24 j
  ·intro K6
   refine gc h j iR (fun hc7 h=>?_) fun hc7 h=>?_
   ·exact g0 j j (sqn z24 j (oAsI j j)<|nl)<|K6 _ ⟨3,h,(by first | (cases x17.1<;>kernel_rfl) | kernel_rfl)⟩
   ·exact Go.skip<|K6 _ ⟨x17.2,h,(by first | (cases x17.1<;>kernel_rfl) | kernel_rfl)⟩
theorem L_laws_eqInt64S {a_0:(List Int)} {b_1:(List Int)} {r:Bool} (h:laws_eqInt64S a_0 b_1=some r):FX 40 [.im 2 false [W 1 eI a_0],.im 2 false [W 1 eI b_1]] (B0 [(false,[.im 0 (V r)])]):=by
 unfold laws_eqInt64S at h
 refine gn 26 Try.func40 rfl ?_
 refine gs<|g0 j j (q (oAsI j j)<|nl)<|us<|gs<|gs<|g0 j j (q (oMv j j)<|q (oLnI j j uF28 j)<|q (oMv j j)<|q (oLnI j j uF28 j)<|q (oBi j j j j)<|nl)<|us<|gc h j iNe (fun hc1 h=>?_) fun hc1 h=>?_
 ·refine gs<|g0 j j (q (oAsI j j)<|nl)<|us<|Go.ret (Unw.ret ?_)
  cases h
  exact fr rF40 j
 ·refine Go.skip<|us<|gs<|gs<|g0 j j (q (oAsI j j)<|nl)<|us<|Go.block<|?_
  obtain ⟨o,hl,h⟩:=bs h
  refine gl c40 j _ (fun (i_5_l4:Int)=>mk [(0,D 2 (W 1 eI a_0)),(1,D 2 (W 1 eI b_1)),(5,iv i_5_l4)] []) (fun (o:(Unit ⊕ Bool)) (p:Ex×St)=>match o with | (.inl _)=>p.1= .exit 0∧p.2.norm ([],[])=mk [] [] | (.inr r2)=>p.1= .ret∧fin Try.prog cfg 40 Try.f40 [.im 2 false [W 1 eI a_0],.im 2 false [W 1 eI b_1]] p.2=some (B0 [(false,[.im 0 (V r2)])])) hl (by kernel_rfl) ?_ ?_ ?_
  ·intro o p hp e
   rcases o with u | r2<;>exact nomatch (hp.1.symm.trans e)
  ·rintro i_5_l4 o h
   unfold laws_eqInt64S_l4 at h
   refine gs<|gs<|g0 j j (q (oMv j j)<|q (oMv j j)<|q (oLnI j j uF28 j)<|q (oBi j j j j)<|nl)<|us<|gc h j iDec (fun hc6 h=>?_) fun hc6 h=>?_
   ·refine Go.skip<|us<|gs<|Go.block<|gs<|?_
    obtain ⟨x19,hx19,h⟩:=bs h
    obtain ⟨x23,hx23,h⟩:=bs h
    refine gd c40 j j j j (mk [(0,D 2 (W 1 eI a_0)),(1,D 2 (W 1 eI b_1)),(5,iv i_5_l4),(25,bv (x19 != x23))] []) (t j j (oMv j j)<|t j j (oMv j j)<|t j j (oIAI j hx19 sF28 j j)<|t j j (oLd (cs:=[.im 2 _]) j tF2 j j)<|t j j (oMv j j)<|t j j (oMv j j)<|t j j (oIAI j hx23 sF28 j j)<|t j j (oLd (cs:=[.im 2 _]) j tF2 j j)<|t j j (oBi j j j j)<|sD (by kernel_rfl))<|us<|gc h j iNe (fun hc7 h=>?_) fun hc7 h=>?_
    ·refine gs<|g0 j j (q (oAsI j j)<|nl)<|us<|Go.ret (Unw.ret ?_)
     cases h
     exact ⟨j,(fo rF40 j)⟩
    ·refine Go.skip<|Unw.blk<|us<|g0 j j (q (oMv j j)<|q (oBi j j j j)<|q (oAsI j j)<|nl)<|Unw.nil<|?_
     cases h
     exact ⟨j,(by kernel_rfl)⟩
   ·refine Go.exit<|ux<|Unw.nil<|?_
    cases h
    exact ⟨j,(by kernel_rfl)⟩
  ·rintro ⟨e,st⟩ hp
   rcases o with u | r2
   ·dsimp only at h
    obtain ⟨he,hst⟩:=hp
    obtain rfl:e= .exit 0:=he
    refine Unw.blkx<|us<|gs<|g2 c40 j j hst (q (oAsI j j)<|nl)<|us<|Go.ret (Unw.ret ?_)
    cases h
    exact fr rF40 j
   ·dsimp only at h
    obtain ⟨he,hfin⟩:=hp
    obtain rfl:e= .ret:=he
    cases h
    exact Unw.ret (Fin_ret hfin)
theorem L_laws_eqPoint {a_0:S_Point} {b_1:S_Point} {r:Bool} (h:laws_eqPoint a_0 b_1=some r):FX 140 [.im 2 true (u_S_Point a_0),.im 2 true (u_S_Point b_1)] (B0 [(false,[.im 0 (V r)])]):=by
 unfold laws_eqPoint at h
 refine gn 15 Try.func140 rfl ?_
 refine gs<|g0 j j (q (oBx j tF155 j (tkI (tkI tk0)))<|q (oBx j tF155 j (tkI (tkI tk0)))<|q (oAsI j j)<|nl)<|us<|gs<|gs<|g0 j j (q (oFA (r':=.mp 2 0 0) j fF155_0 j j)<|q (oLd (cs:=[.im 0 _]) j tF2 j j)<|q (oFA (r':=.mp 3 0 0) j fF155_0 j j)<|q (oLd (cs:=[.im 0 _]) j tF2 j j)<|q (oBi j j j j)<|nl)<|us<|gc h j iNe (fun hc1 h=>?_) fun hc1 h=>?_
 ·refine gs<|g0 j j (q (oAsI j j)<|nl)<|us<|Go.ret (Unw.ret ?_)
  cases h
  exact fr rF140 j
 ·refine Go.skip<|us<|gs<|gs<|g0 j j (q (oFA (r':=.mp 2 0 1) j fF155_1 j j)<|q (oLd (cs:=[.im 0 _]) j tF2 j j)<|q (oFA (r':=.mp 3 0 1) j fF155_1 j j)<|q (oLd (cs:=[.im 0 _]) j tF2 j j)<|q (oBi j j j j)<|nl)<|us<|gc h j iNe (fun hc2 h=>?_) fun hc2 h=>?_
  ·refine gs<|g0 j j (q (oAsI j j)<|nl)<|us<|Go.ret (Unw.ret ?_)
   cases h
   exact fr rF140 j
  ·refine Go.skip<|us<|gs<|g0 j j (q (oAsI j j)<|nl)<|us<|Go.ret (Unw.ret ?_)
   cases h
   exact fr rF140 j
theorem L_laws_eqPointS {a_0:(List S_Point)} {b_1:(List S_Point)} {r:Bool} (h:laws_eqPointS a_0 b_1=some r):FX 87 [.im 2 false [W 2 e_S_Point a_0],.im 2 false [W 2 e_S_Point b_1]] (B0 [(false,[.im 0 (V r)])]):=by
 unfold laws_eqPointS at h
 refine gn 27 Try.func87 rfl ?_
 refine gs<|g0 j j (q (oAsI j j)<|nl)<|us<|gs<|gs<|g0 j j (q (oMv j j)<|q (oLnI j j uF23 j)<|q (oMv j j)<|q (oLnI j j uF23 j)<|q (oBi j j j j)<|nl)<|us<|gc h j iNe (fun hc1 h=>?_) fun hc1 h=>?_
 ·refine gs<|g0 j j (q (oAsI j j)<|nl)<|us<|Go.ret (Unw.ret ?_)
  cases h
  exact fr rF87 j
 ·refine Go.skip<|us<|gs<|gs<|g0 j j (q (oAsI j j)<|nl)<|us<|Go.block<|?_
  obtain ⟨o,hl,h⟩:=bs h
  refine gl c87 j _ (fun (i_5_l4:Int)=>mk [(0,D 2 (W 2 e_S_Point a_0)),(1,D 2 (W 2 e_S_Point b_1)),(5,iv i_5_l4)] []) (fun (o:(Unit ⊕ Bool)) (p:Ex×St)=>match o with | (.inl _)=>p.1= .exit 0∧p.2.norm ([],[])=mk [] [] | (.inr r2)=>p.1= .ret∧fin Try.prog cfg 87 Try.f87 [.im 2 false [W 2 e_S_Point a_0],.im 2 false [W 2 e_S_Point b_1]] p.2=some (B0 [(false,[.im 0 (V r2)])])) hl (by kernel_rfl) ?_ ?_ ?_
  ·intro o p hp e
   rcases o with u | r2<;>exact nomatch (hp.1.symm.trans e)
  ·rintro i_5_l4 o h
   unfold laws_eqPointS_l4 at h
   refine gs<|gs<|g0 j j (q (oMv j j)<|q (oMv j j)<|q (oLnI j j uF23 j)<|q (oBi j j j j)<|nl)<|us<|gc h j iDec (fun hc6 h=>?_) fun hc6 h=>?_
   ·refine Go.skip<|us<|gs<|Go.block<|gs<|?_
    obtain ⟨x19,hx19,h⟩:=bs h
    obtain ⟨x23,hx23,h⟩:=bs h
    obtain ⟨x25,hx25,h⟩:=bs h
    refine gd c87 j j j j (mk [(0,D 2 (W 2 e_S_Point a_0)),(1,D 2 (W 2 e_S_Point b_1)),(5,iv i_5_l4),(26,bv (!x25))] []) (t j j (oMv j j)<|t j j (oMv j j)<|t j j (oIAI j hx19 sF23 j j)<|t j j (oLd (cs:=[.im 2 _,.im 2 _]) j tF155 j j)<|t j j (oMv j j)<|t j j (oMv j j)<|t j j (oIAI j hx23 sF23 j j)<|t j j (oLd (cs:=[.im 2 _,.im 2 _]) j tF155 j j)<|sS (dN z87 j (oCa (xs:=[.v true [.im 2 _,.im 2 _],.v true [.im 2 _,.im 2 _]]) (vs:=[(false,[.im 0 _])]) (v:=.v false [.im 0 _]) (L_laws_eqPoint hx25) (.inl j) j kF140_155_155 j (ppC j (ppC j pp0)) j j pb0 j j j)) trivial (t j j (oUn j j j)<|sD (by kernel_rfl)))<|us<|?_
    by_cases hc7:x25=true
    ·rw [if_pos hc7] at h
     refine gF j (nF (iR.2 hc7))<|Go.skip<|Unw.blk<|us<|g0 j j (q (oMv j j)<|q (oBi j j j j)<|q (oAsI j j)<|nl)<|Unw.nil<|?_
     cases h
     exact ⟨j,(by kernel_rfl)⟩
    ·rw [if_neg hc7] at h
     refine gT j (nT (byF iR hc7))<|gs<|g0 j j (q (oAsI j j)<|nl)<|us<|Go.ret (Unw.ret ?_)
     cases h
     exact ⟨j,(fo rF87 j)⟩
   ·refine Go.exit<|ux<|Unw.nil<|?_
    cases h
    exact ⟨j,(by kernel_rfl)⟩
  ·rintro ⟨e,st⟩ hp
   rcases o with u | r2
   ·dsimp only at h
    obtain ⟨he,hst⟩:=hp
    obtain rfl:e= .exit 0:=he
    refine Unw.blkx<|us<|gs<|g2 c87 j j hst (q (oAsI j j)<|nl)<|us<|Go.ret (Unw.ret ?_)
    cases h
    exact fr rF87 j
   ·dsimp only at h
    obtain ⟨he,hfin⟩:=hp
    obtain rfl:e= .ret:=he
    cases h
    exact Unw.ret (Fin_ret hfin)
theorem L_laws_eqFace {a_0:S_Face} {b_1:S_Face} {r:Bool} (h:laws_eqFace a_0 b_1=some r):FX 141 [.im 2 true (u_S_Face a_0),.im 2 true (u_S_Face b_1)] (B0 [(false,[.im 0 (V r)])]):=by
 unfold laws_eqFace at h
 refine gn 16 Try.func141 rfl ?_
 refine gs<|g0 j j (q (oBx j tF148 j (tkI (tkI tk0)))<|q (oBx j tF148 j (tkI (tkI tk0)))<|q (oAsI j j)<|nl)<|us<|gs<|gs<|g0 j j (q (oFA (r':=.mp 2 0 0) j fF148_0 j j)<|q (oLd (cs:=[.im 0 _]) j tF9 j j)<|q (oFA (r':=.mp 3 0 0) j fF148_0 j j)<|q (oLd (cs:=[.im 0 _]) j tF9 j j)<|q (oBi j j j j)<|nl)<|us<|gc h j (iNot iStr) (fun hc1 h=>?_) fun hc1 h=>?_
 ·refine gs<|g0 j j (q (oAsI j j)<|nl)<|us<|Go.ret (Unw.ret ?_)
  cases h
  exact fr rF141 j
 ·refine Go.skip<|us<|gs<|gs<|?_
  obtain ⟨x14,hx14,h⟩:=bs h
  refine g0 j j (q (oFA (r':=.mp 2 0 1) j fF148_1 j j)<|q (oLd (cs:=[.im 2 _]) j tF28 j j)<|q (oFA (r':=.mp 3 0 1) j fF148_1 j j)<|q (oLd (cs:=[.im 2 _]) j tF28 j j)<|q (oCa (xs:=[.v false [.im 2 _],.v false [.im 2 _]]) (vs:=[(false,[.im 0 _])]) (v:=.v false [.im 0 _]) (L_laws_eqInt64S hx14) (.inl j) j kF40_28_28 j (ppC j (ppC j pp0)) j j pb0 j j j)<|q (oUn j j j)<|nl)<|us<|?_
  by_cases hc2:x14=true
  ·rw [if_pos hc2] at h
   refine gF j (nF (iR.2 hc2))<|Go.skip<|us<|gs<|g0 j j (q (oAsI j j)<|nl)<|us<|Go.ret (Unw.ret ?_)
   cases h
   exact fr rF141 j
  ·rw [if_neg hc2] at h
   refine gT j (nT (byF iR hc2))<|gs<|g0 j j (q (oAsI j j)<|nl)<|us<|Go.ret (Unw.ret ?_)
   cases h
   exact fr rF141 j
theorem L_laws_eqFaceS {a_0:(List S_Face)} {b_1:(List S_Face)} {r:Bool} (h:laws_eqFaceS a_0 b_1=some r):FX 88 [.im 2 false [W 2 e_S_Face a_0],.im 2 false [W 2 e_S_Face b_1]] (B0 [(false,[.im 0 (V r)])]):=by
 unfold laws_eqFaceS at h
 refine gn 27 Try.func88 rfl ?_
 refine gs<|g0 j j (q (oAsI j j)<|nl)<|us<|gs<|gs<|g0 j j (q (oMv j j)<|q (oLnI j j uF24 j)<|q (oMv j j)<|q (oLnI j j uF24 j)<|q (oBi j j j j)<|nl)<|us<|gc h j iNe (fun hc1 h=>?_) fun hc1 h=>?_
 ·refine gs<|g0 j j (q (oAsI j j)<|nl)<|us<|Go.ret (Unw.ret ?_)
  cases h
  exact fr rF88 j
 ·refine Go.skip<|us<|gs<|gs<|g0 j j (q (oAsI j j)<|nl)<|us<|Go.block<|?_
  obtain ⟨o,hl,h⟩:=bs h
  refine gl c88 j _ (fun (i_5_l4:Int)=>mk [(0,D 2 (W 2 e_S_Face a_0)),(1,D 2 (W 2 e_S_Face b_1)),(5,iv i_5_l4)] []) (fun (o:(Unit ⊕ Bool)) (p:Ex×St)=>match o with | (.inl _)=>p.1= .exit 0∧p.2.norm ([],[])=mk [] [] | (.inr r2)=>p.1= .ret∧fin Try.prog cfg 88 Try.f88 [.im 2 false [W 2 e_S_Face a_0],.im 2 false [W 2 e_S_Face b_1]] p.2=some (B0 [(false,[.im 0 (V r2)])])) hl (by kernel_rfl) ?_ ?_ ?_
  ·intro o p hp e
   rcases o with u | r2<;>exact nomatch (hp.1.symm.trans e)
  ·rintro i_5_l4 o h
   unfold laws_eqFaceS_l4 at h
   refine gs<|gs<|g0 j j (q (oMv j j)<|q (oMv j j)<|q (oLnI j j uF24 j)<|q (oBi j j j j)<|nl)<|us<|gc h j iDec (fun hc6 h=>?_) fun hc6 h=>?_
   ·refine Go.skip<|us<|gs<|Go.block<|gs<|?_
    obtain ⟨x19,hx19,h⟩:=bs h
    obtain ⟨x23,hx23,h⟩:=bs h
    obtain ⟨x25,hx25,h⟩:=bs h
    refine gd c88 j j j j (mk [(0,D 2 (W 2 e_S_Face a_0)),(1,D 2 (W 2 e_S_Face b_1)),(5,iv i_5_l4),(26,bv (!x25))] []) (t j j (oMv j j)<|t j j (oMv j j)<|t j j (oIAI j hx19 sF24 j j)<|t j j (oLd (cs:=[.im 2 _,.im 2 _]) j tF148 j j)<|t j j (oMv j j)<|t j j (oMv j j)<|t j j (oIAI j hx23 sF24 j j)<|t j j (oLd (cs:=[.im 2 _,.im 2 _]) j tF148 j j)<|sS (dN z88 j (oCa (xs:=[.v true [.im 2 _,.im 2 _],.v true [.im 2 _,.im 2 _]]) (vs:=[(false,[.im 0 _])]) (v:=.v false [.im 0 _]) (L_laws_eqFace hx25) (.inl j) j kF141_148_148 j (ppC j (ppC j pp0)) j j pb0 j j j)) trivial (t j j (oUn j j j)<|sD (by kernel_rfl)))<|us<|?_
    by_cases hc7:x25=true
    ·rw [if_pos hc7] at h
     refine gF j (nF (iR.2 hc7))<|Go.skip<|Unw.blk<|us<|g0 j j (q (oMv j j)<|q (oBi j j j j)<|q (oAsI j j)<|nl)<|Unw.nil<|?_
     cases h
     exact ⟨j,(by kernel_rfl)⟩
    ·rw [if_neg hc7] at h
     refine gT j (nT (byF iR hc7))<|gs<|g0 j j (q (oAsI j j)<|nl)<|us<|Go.ret (Unw.ret ?_)
     cases h
     exact ⟨j,(fo rF88 j)⟩
   ·refine Go.exit<|ux<|Unw.nil<|?_
    cases h
    exact ⟨j,(by kernel_rfl)⟩
  ·rintro ⟨e,st⟩ hp
   rcases o with u | r2
   ·dsimp only at h
    obtain ⟨he,hst⟩:=hp
    obtain rfl:e= .exit 0:=he
    refine Unw.blkx<|us<|gs<|g2 c88 j j hst (q (oAsI j j)<|nl)<|us<|Go.ret (Unw.ret ?_)
    cases h
    exact fr rF88 j
   ·dsimp only at h
    obtain ⟨he,hfin⟩:=hp
    obtain rfl:e= .ret:=he
    cases h
    exact Unw.ret (Fin_ret hfin)
theorem L_laws_eqDrawing {a_0:S_Drawing} {b_1:S_Drawing} {r:Bool} (h:laws_eqDrawing a_0 b_1=some r):FX 41 [.im 2 true (u_S_Drawing a_0),.im 2 true (u_S_Drawing b_1)] (B0 [(false,[.im 0 (V r)])]):=by
 unfold laws_eqDrawing at h
 refine gn 27 Try.func41 rfl ?_
 refine gs<|g0 j j (q (oBx j tF26 j (tkI (tkI (tkI (tkI tk0)))))<|q (oBx j tF26 j (tkI (tkI (tkI (tkI tk0)))))<|q (oAsI j j)<|nl)<|us<|gs<|gs<|g0 j j (q (oFA (r':=.mp 2 0 0) j fF26_0 j j)<|q (oLd (cs:=[.im 0 _]) j tF2 j j)<|q (oFA (r':=.mp 3 0 0) j fF26_0 j j)<|q (oLd (cs:=[.im 0 _]) j tF2 j j)<|q (oBi j j j j)<|nl)<|us<|gc h j iNe (fun hc1 h=>?_) fun hc1 h=>?_
 ·refine gs<|g0 j j (q (oAsI j j)<|nl)<|us<|Go.ret (Unw.ret ?_)
  cases h
  exact fr rF41 j
 ·refine Go.skip<|us<|gs<|gs<|g0 j j (q (oFA (r':=.mp 2 0 1) j fF26_1 j j)<|q (oLd (cs:=[.im 0 _]) j tF2 j j)<|q (oFA (r':=.mp 3 0 1) j fF26_1 j j)<|q (oLd (cs:=[.im 0 _]) j tF2 j j)<|q (oBi j j j j)<|nl)<|us<|gc h j iNe (fun hc2 h=>?_) fun hc2 h=>?_
  ·refine gs<|g0 j j (q (oAsI j j)<|nl)<|us<|Go.ret (Unw.ret ?_)
   cases h
   exact fr rF41 j
  ·refine Go.skip<|us<|gs<|gs<|?_
   obtain ⟨x19,hx19,h⟩:=bs h
   refine g0 j j (q (oFA (r':=.mp 2 0 2) j fF26_2 j j)<|q (oLd (cs:=[.im 2 _]) j tF23 j j)<|q (oFA (r':=.mp 3 0 2) j fF26_2 j j)<|q (oLd (cs:=[.im 2 _]) j tF23 j j)<|q (oCa (xs:=[.v false [.im 2 _],.v false [.im 2 _]]) (vs:=[(false,[.im 0 _])]) (v:=.v false [.im 0 _]) (L_laws_eqPointS hx19) (.inl j) j kF87_23_23 j (ppC j (ppC j pp0)) j j pb0 j j j)<|q (oUn j j j)<|nl)<|us<|?_
   by_cases hc3:x19=true
   ·rw [if_pos hc3] at h
    refine gF j (nF (iR.2 hc3))<|Go.skip<|us<|gs<|gs<|?_
    obtain ⟨x25,hx25,h⟩:=bs h
    refine g0 j j (q (oFA (r':=.mp 2 0 3) j fF26_3 j j)<|q (oLd (cs:=[.im 2 _]) j tF24 j j)<|q (oFA (r':=.mp 3 0 3) j fF26_3 j j)<|q (oLd (cs:=[.im 2 _]) j tF24 j j)<|q (oCa (xs:=[.v false [.im 2 _],.v false [.im 2 _]]) (vs:=[(false,[.im 0 _])]) (v:=.v false [.im 0 _]) (L_laws_eqFaceS hx25) (.inl j) j kF88_24_24 j (ppC j (ppC j pp0)) j j pb0 j j j)<|q (oUn j j j)<|nl)<|us<|?_
    by_cases hc4:x25=true
    ·rw [if_pos hc4] at h
     refine gF j (nF (iR.2 hc4))<|Go.skip<|us<|gs<|g0 j j (q (oAsI j j)<|nl)<|us<|Go.ret (Unw.ret ?_)
     cases h
     exact fr rF41 j
    ·rw [if_neg hc4] at h
     refine gT j (nT (byF iR hc4))<|gs<|g0 j j (q (oAsI j j)<|nl)<|us<|Go.ret (Unw.ret ?_)
     cases h
     exact fr rF41 j
   ·rw [if_neg hc3] at h
    refine gT j (nT (byF iR hc3))<|gs<|g0 j j (q (oAsI j j)<|nl)<|us<|Go.ret (Unw.ret ?_)
    cases h
    exact fr rF41 j
theorem L_laws_eqVeneer {a_0:S_Veneer} {b_1:S_Veneer} {r:Bool} (h:laws_eqVeneer a_0 b_1=some r):FX 93 [.im 2 true (u_S_Veneer a_0),.im 2 true (u_S_Veneer b_1)] (B0 [(false,[.im 0 (V r)])]):=by
 unfold laws_eqVeneer at h
 refine gn 20 Try.func93 rfl ?_
 refine gs<|g0 j j (q (oBx j tF123 j (tkI (tkI (tkI tk0))))<|q (oBx j tF123 j (tkI (tkI (tkI tk0))))<|q (oAsI j j)<|nl)<|us<|gs<|gs<|g0 j j (q (oFA (r':=.mp 2 0 0) j fF123_0 j j)<|q (oLd (cs:=[.im 0 _]) j tF9 j j)<|q (oFA (r':=.mp 3 0 0) j fF123_0 j j)<|q (oLd (cs:=[.im 0 _]) j tF9 j j)<|q (oBi j j j j)<|nl)<|us<|gc h j (iNot iStr) (fun hc1 h=>?_) fun hc1 h=>?_
 ·refine gs<|g0 j j (q (oAsI j j)<|nl)<|us<|Go.ret (Unw.ret ?_)
  cases h
  exact fr rF93 j
 ·refine Go.skip<|us<|gs<|gs<|g0 j j (q (oFA (r':=.mp 2 0 1) j fF123_1 j j)<|q (oLd (cs:=[.im 0 _]) j tF2 j j)<|q (oFA (r':=.mp 3 0 1) j fF123_1 j j)<|q (oLd (cs:=[.im 0 _]) j tF2 j j)<|q (oBi j j j j)<|nl)<|us<|gc h j iNe (fun hc2 h=>?_) fun hc2 h=>?_
  ·refine gs<|g0 j j (q (oAsI j j)<|nl)<|us<|Go.ret (Unw.ret ?_)
   cases h
   exact fr rF93 j
  ·refine Go.skip<|us<|gs<|gs<|g0 j j (q (oFA (r':=.mp 2 0 2) j fF123_2 j j)<|q (oLd (cs:=[.im 0 _]) j tF2 j j)<|q (oFA (r':=.mp 3 0 2) j fF123_2 j j)<|q (oLd (cs:=[.im 0 _]) j tF2 j j)<|q (oBi j j j j)<|nl)<|us<|gc h j iNe (fun hc3 h=>?_) fun hc3 h=>?_
   ·refine gs<|g0 j j (q (oAsI j j)<|nl)<|us<|Go.ret (Unw.ret ?_)
    cases h
    exact fr rF93 j
   ·refine Go.skip<|us<|gs<|g0 j j (q (oAsI j j)<|nl)<|us<|Go.ret (Unw.ret ?_)
    cases h
    exact fr rF93 j
theorem L_laws_eqVeneerS {a_0:(List S_Veneer)} {b_1:(List S_Veneer)} {r:Bool} (h:laws_eqVeneerS a_0 b_1=some r):FX 47 [.im 2 false [W 3 e_S_Veneer a_0],.im 2 false [W 3 e_S_Veneer b_1]] (B0 [(false,[.im 0 (V r)])]):=by
 unfold laws_eqVeneerS at h
 refine gn 27 Try.func47 rfl ?_
 refine gs<|g0 j j (q (oAsI j j)<|nl)<|us<|gs<|gs<|g0 j j (q (oMv j j)<|q (oLnI j j uF42 j)<|q (oMv j j)<|q (oLnI j j uF42 j)<|q (oBi j j j j)<|nl)<|us<|gc h j iNe (fun hc1 h=>?_) fun hc1 h=>?_
 ·refine gs<|g0 j j (q (oAsI j j)<|nl)<|us<|Go.ret (Unw.ret ?_)
  cases h
  exact fr rF47 j
 ·refine Go.skip<|us<|gs<|gs<|g0 j j (q (oAsI j j)<|nl)<|us<|Go.block<|?_
  obtain ⟨o,hl,h⟩:=bs h
  refine gl c47 j _ (fun (i_5_l4:Int)=>mk [(0,D 2 (W 3 e_S_Veneer a_0)),(1,D 2 (W 3 e_S_Veneer b_1)),(5,iv i_5_l4)] []) (fun (o:(Unit ⊕ Bool)) (p:Ex×St)=>match o with | (.inl _)=>p.1= .exit 0∧p.2.norm ([],[])=mk [] [] | (.inr r2)=>p.1= .ret∧fin Try.prog cfg 47 Try.f47 [.im 2 false [W 3 e_S_Veneer a_0],.im 2 false [W 3 e_S_Veneer b_1]] p.2=some (B0 [(false,[.im 0 (V r2)])])) hl (by kernel_rfl) ?_ ?_ ?_
  ·intro o p hp e
   rcases o with u | r2<;>exact nomatch (hp.1.symm.trans e)
  ·rintro i_5_l4 o h
   unfold laws_eqVeneerS_l4 at h
   refine gs<|gs<|g0 j j (q (oMv j j)<|q (oMv j j)<|q (oLnI j j uF42 j)<|q (oBi j j j j)<|nl)<|us<|gc h j iDec (fun hc6 h=>?_) fun hc6 h=>?_
   ·refine Go.skip<|us<|gs<|Go.block<|gs<|?_
    obtain ⟨x19,hx19,h⟩:=bs h
    obtain ⟨x23,hx23,h⟩:=bs h
    obtain ⟨x25,hx25,h⟩:=bs h
    refine gd c47 j j j j (mk [(0,D 2 (W 3 e_S_Veneer a_0)),(1,D 2 (W 3 e_S_Veneer b_1)),(5,iv i_5_l4),(26,bv (!x25))] []) (t j j (oMv j j)<|t j j (oMv j j)<|t j j (oIAI j hx19 sF42 j j)<|t j j (oLd (cs:=[.im 2 _,.im 2 _,.im 2 _]) j tF123 j j)<|t j j (oMv j j)<|t j j (oMv j j)<|t j j (oIAI j hx23 sF42 j j)<|t j j (oLd (cs:=[.im 2 _,.im 2 _,.im 2 _]) j tF123 j j)<|sS (dN z47 j (oCa (xs:=[.v true [.im 2 _,.im 2 _,.im 2 _],.v true [.im 2 _,.im 2 _,.im 2 _]]) (vs:=[(false,[.im 0 _])]) (v:=.v false [.im 0 _]) (L_laws_eqVeneer hx25) (.inl j) j kF93_123_123 j (ppC j (ppC j pp0)) j j pb0 j j j)) trivial (t j j (oUn j j j)<|sD (by kernel_rfl)))<|us<|?_
    by_cases hc7:x25=true
    ·rw [if_pos hc7] at h
     refine gF j (nF (iR.2 hc7))<|Go.skip<|Unw.blk<|us<|g0 j j (q (oMv j j)<|q (oBi j j j j)<|q (oAsI j j)<|nl)<|Unw.nil<|?_
     cases h
     exact ⟨j,(by kernel_rfl)⟩
    ·rw [if_neg hc7] at h
     refine gT j (nT (byF iR hc7))<|gs<|g0 j j (q (oAsI j j)<|nl)<|us<|Go.ret (Unw.ret ?_)
     cases h
     exact ⟨j,(fo rF47 j)⟩
   ·refine Go.exit<|ux<|Unw.nil<|?_
    cases h
    exact ⟨j,(by kernel_rfl)⟩
  ·rintro ⟨e,st⟩ hp
   rcases o with u | r2
   ·dsimp only at h
    obtain ⟨he,hst⟩:=hp
    obtain rfl:e= .exit 0:=he
    refine Unw.blkx<|us<|gs<|g2 c47 j j hst (q (oAsI j j)<|nl)<|us<|Go.ret (Unw.ret ?_)
    cases h
    exact fr rF47 j
   ·dsimp only at h
    obtain ⟨he,hfin⟩:=hp
    obtain rfl:e= .ret:=he
    cases h
    exact Unw.ret (Fin_ret hfin)
theorem L_laws_markPointS_ws {a_0:(List S_Point)} {k_1:Int} {r:Int} (h:laws_markPointS_ws a_0 k_1=some r):FX 89 [.ws false [W 2 e_S_Point a_0],.im 2 false [I k_1]] (B0 [(false,[.im 0 (I r)])]):=by
 unfold laws_markPointS_ws at h
 refine FL_goS (A:=[(0,.v false [.ws (W 2 e_S_Point a_0)]),(1,D 2 (I k_1))]) (B:=[(0,none),(1,none)]) (nt:=27) rfl rfl Try.func89 rfl rfl rfl rfl ?_
 refine gs<|g0 j j (q (oAsI j j)<|nl)<|us<|gs<|gs<|g0 j j (q (oAsI j j)<|nl)<|us<|Go.block<|?_
 obtain ⟨o,hl,h⟩:=bs h
 refine gl c89 j _ (fun (s:(Int×Int))=>match s with | (k_1_l2,i_5_l2)=>mk [(0,.v false [.ws (W 2 e_S_Point a_0)]),(1,iv k_1_l2),(5,iv i_5_l2)] []) (fun (k_1_e0_2:Int) (p:Ex×St)=>p.1= .exit 0∧p.2.norm ([1],[])=mk [(1,iv k_1_e0_2)] []) hl (by kernel_rfl) ?_ ?_ ?_
 ·intro o p hp e
  exact nomatch (hp.1.symm.trans e)
 ·rintro ⟨k_1_l2,i_5_l2⟩ o h
  unfold laws_markPointS_ws_l2 at h
  dsimp only at h
  refine gs<|gs<|g0 j j (q (oMv j j)<|q (oMv j j)<|q (oLnW j j uF23 j)<|q (oBi j j j j)<|nl)<|us<|gc h j iDec (fun hc3 h=>?_) fun hc3 h=>?_
  ·refine Go.skip<|us<|gs<|Go.block<|gs<|?_
   obtain ⟨x15,hx15,h⟩:=bs h
   refine g0 j j (q (oMv j j)<|q (oMv j j)<|q (oMv j j)<|q (oIAW j hx15 sF23 j j)<|q (oFA (r':=.ws _) j fF155_0 j j)<|q (oStW tF2 j j j j)<|nl)<|us<|gs<|g1 j j (mk [(0,.v false [.ws (W 2 e_S_Point a_0)]),(1,iv k_1_l2),(5,iv i_5_l2)] []) (q (oMv j j)<|q (oBi j j j j)<|q (oAsI j j)<|nl)<|us<|gs<|?_
   obtain ⟨x22,hx22,h⟩:=bs h
   refine g0 j j (q (oMv j j)<|q (oMv j j)<|q (oMv j j)<|q (oIAW j hx22 sF23 j j)<|q (oFA (r':=.ws _) j fF155_1 j j)<|q (oStW tF2 j j j j)<|nl)<|us<|g1 j j (mk [(0,.v false [.ws (W 2 e_S_Point a_0)]),(1,iv (w64 (k_1_l2+1))),(5,iv i_5_l2)] []) (q (oMv j j)<|q (oBi j j j j)<|q (oAsI j j)<|nl)<|Unw.blk<|us<|g0 j j (q (oMv j j)<|q (oBi j j j j)<|q (oAsI j j)<|nl)<|Unw.nil<|?_
   cases h
   exact ⟨j,(by kernel_rfl)⟩
  ·refine Go.exit<|ux<|Unw.nil<|?_
   cases h
   exact ⟨j,(by kernel_rfl)⟩
 ·rintro ⟨e,st⟩ hp
  obtain ⟨k_1_e0_2,rfl⟩:∃y,y=o:=⟨o,rfl⟩
  obtain ⟨he,hst⟩:=hp
  obtain rfl:e= .exit 0:=he
  refine Unw.blkx<|us<|gs<|g2 c89 j j hst (q (oMv j j)<|q (oAsI j j)<|nl)<|us<|Go.ret (Unw.ret ?_)
  cases h
  exact fr rF89 j
theorem L_laws_markText {k_0:Int} {r:ByteArray} (h:laws_markText k_0=some r):FX 94 [.im 2 false [I k_0]] (B0 [(false,[.im 0 (Y r)])]):=by
 unfold laws_markText at h
 refine gn 20 Try.func94 rfl ?_
 refine gs<|g0 j j (q (oAsI j j)<|nl)<|us<|gs<|gs<|g0 j j (q (oMv j j)<|q (oBi j j j j)<|nl)<|us<|gc h j iDec (fun hc1 h=>?_) fun hc1 h=>?_
 ·refine gs<|g0 j j (q (oAsI j j)<|nl)<|us<|Go.ret (Unw.ret ?_)
  cases h
  exact fr rF94 j
 ·refine Go.skip<|us<|gs<|g0 j j (q (oAsI j j)<|nl)<|us<|gs<|Go.block<|?_
  obtain ⟨o,hl,h⟩:=bs h
  refine gl c94 j _ (fun (s:(Int×ByteArray))=>match s with | (k_0_l4,out_3_l4)=>mk [(0,iv k_0_l4),(3,sv out_3_l4)] []) (fun (out_3_e0_4:ByteArray) (p:Ex×St)=>p.1= .exit 0∧p.2.norm ([3],[])=mk [(3,sv out_3_e0_4)] []) hl (by kernel_rfl) ?_ ?_ ?_
  ·intro o p hp e
   exact nomatch (hp.1.symm.trans e)
  ·rintro ⟨k_0_l4,out_3_l4⟩ o h
   unfold laws_markText_l4 at h
   dsimp only at h
   refine gs<|gs<|g0 j j (q (oMv j j)<|q (oBi j j j j)<|nl)<|us<|gc h j iDec (fun hc4 h=>?_) fun hc4 h=>?_
   ·refine Go.skip<|us<|Go.block<|gs<|?_
    obtain ⟨x9,hx9,h⟩:=bs h
    obtain ⟨x15,hx15,h⟩:=bs h
    refine g0 j j (q (oMv j j)<|q (oRem j hx9 j j)<|q (oBi j j j j)<|q (oCvI j uF3 uF5 j)<|q (oBS (es:=List.map (eK .u8) ([(IntKind.wrap .u8 ((w64 (48+x9))))]:List Int)) j sF22 j (ptC j (fxI fx0) j pt0) (flat0 j fun _=>j))<|q (oCvB (l:=([(IntKind.wrap .u8 ((w64 (48+x9))))]:List Int)) j uF22 uF5 uF9 j (el_own j j))<|q (oMv j j)<|q (oCat j hx15 j j)<|q (oAsI j j)<|nl)<|us<|?_
    obtain ⟨x17,hx17,h⟩:=bs h
    refine g0 j j (q (oMv j j)<|q (oQuo j hx17 j j)<|q (oAsI j j)<|nl)<|Unw.blk<|Unw.nil<|?_
    cases h
    exact ⟨j,(by kernel_rfl)⟩
   ·refine Go.exit<|ux<|Unw.nil<|?_
    cases h
    exact ⟨j,(by kernel_rfl)⟩
  ·rintro ⟨e,st⟩ hp
   obtain ⟨out_3_e0_4,rfl⟩:∃y,y=o:=⟨o,rfl⟩
   obtain ⟨he,hst⟩:=hp
   obtain rfl:e= .exit 0:=he
   refine Unw.blkx<|us<|gs<|?_
   obtain ⟨x19,hx19,h⟩:=bs h
   refine g2 c94 j j hst (q (oMv j j)<|q (oCat j hx19 j j)<|q (oAsI j j)<|nl)<|us<|Go.ret (Unw.ret ?_)
   cases h
   exact fr rF94 j
theorem L_laws_markInt64S_ws {a_0:(List Int)} {k_1:Int} {r:Int} (h:laws_markInt64S_ws a_0 k_1=some r):FX 43 [.ws false [W 1 eI a_0],.im 2 false [I k_1]] (B0 [(false,[.im 0 (I r)])]):=by
 unfold laws_markInt64S_ws at h
 refine FL_goS (A:=[(0,.v false [.ws (W 1 eI a_0)]),(1,D 2 (I k_1))]) (B:=[(0,none),(1,none)]) (nt:=19) rfl rfl Try.func43 rfl rfl rfl rfl ?_
 refine gs<|g0 j j (q (oAsI j j)<|nl)<|us<|gs<|gs<|g0 j j (q (oAsI j j)<|nl)<|us<|Go.block<|?_
 obtain ⟨o,hl,h⟩:=bs h
 refine gl c43 j _ (fun (s:(Int×Int))=>match s with | (k_1_l2,i_5_l2)=>mk [(0,.v false [.ws (W 1 eI a_0)]),(1,iv k_1_l2),(5,iv i_5_l2)] [(0,none)]) (fun (k_1_e0_2:Int) (p:Ex×St)=>p.1= .exit 0∧p.2.norm ([1],[0])=mk [(1,iv k_1_e0_2)] [(0,none)]) hl (by kernel_rfl) ?_ ?_ ?_
 ·intro o p hp e
  exact nomatch (hp.1.symm.trans e)
 ·rintro ⟨k_1_l2,i_5_l2⟩ o h
  unfold laws_markInt64S_ws_l2 at h
  dsimp only at h
  refine gs<|gs<|g0 j j (q (oMv j j)<|q (oMv j j)<|q (oLnW j j uF28 j)<|q (oBi j j j j)<|nl)<|us<|gc h j iDec (fun hc3 h=>?_) fun hc3 h=>?_
  ·refine Go.skip<|us<|gs<|Go.block<|gs<|?_
   obtain ⟨x15,hx15,h⟩:=bs h
   refine g0 j j (q (oMv j j)<|q (oMv j j)<|q (oMv j j)<|q (oIAW j hx15 sF28 j j)<|q (oStW tF2 j j j j)<|nl)<|us<|g1 j j (mk [(0,.v false [.ws (W 1 eI a_0)]),(1,iv k_1_l2),(5,iv i_5_l2)] [(0,none)]) (q (oMv j j)<|q (oBi j j j j)<|q (oAsI j j)<|nl)<|Unw.blk<|us<|g0 j j (q (oMv j j)<|q (oBi j j j j)<|q (oAsI j j)<|nl)<|Unw.nil<|?_
   cases h
   exact ⟨j,(by kernel_rfl)⟩
  ·refine Go.exit<|ux<|Unw.nil<|?_
   cases h
   exact ⟨j,(by kernel_rfl)⟩
 ·rintro ⟨e,st⟩ hp
  obtain ⟨k_1_e0_2,rfl⟩:∃y,y=o:=⟨o,rfl⟩
  obtain ⟨he,hst⟩:=hp
  obtain rfl:e= .exit 0:=he
  refine Unw.blkx<|us<|gs<|g2 c43 j j hst (q (oMv j j)<|q (oAsI j j)<|nl)<|us<|Go.ret (Unw.ret ?_)
  cases h
  exact fr rF43 j
theorem L_laws_markFaceS {a_0:(List S_Face)} {k_1:Int} {r:Int} (h:laws_markFaceS a_0 k_1=some r):FX 90 [.ws false [W 2 e_S_Face a_0],.im 2 false [I k_1]] (B0 [(false,[.im 0 (I r)])]):=by
 unfold laws_markFaceS at h
 refine FL_goS (A:=[(0,.v false [.ws (W 2 e_S_Face a_0)]),(1,D 2 (I k_1))]) (B:=[(0,none),(1,none)]) (nt:=28) rfl rfl Try.func90 rfl rfl rfl rfl ?_
 refine gs<|g0 j j (q (oAsI j j)<|nl)<|us<|gs<|gs<|g0 j j (q (oAsI j j)<|nl)<|us<|Go.block<|?_
 obtain ⟨o,hl,h⟩:=bs h
 refine gl c90 j _ (fun (s:(Int×Int))=>match s with | (k_1_l2,i_5_l2)=>mk [(0,.v false [.ws (W 2 e_S_Face a_0)]),(1,iv k_1_l2),(5,iv i_5_l2)] []) (fun (k_1_e0_2:Int) (p:Ex×St)=>p.1= .exit 0∧p.2.norm ([1],[])=mk [(1,iv k_1_e0_2)] []) hl (by kernel_rfl) ?_ ?_ ?_
 ·intro o p hp e
  exact nomatch (hp.1.symm.trans e)
 ·rintro ⟨k_1_l2,i_5_l2⟩ o h
  unfold laws_markFaceS_l2 at h
  dsimp only at h
  refine gs<|gs<|g0 j j (q (oMv j j)<|q (oMv j j)<|q (oLnW j j uF24 j)<|q (oBi j j j j)<|nl)<|us<|gc h j iDec (fun hc3 h=>?_) fun hc3 h=>?_
  ·refine Go.skip<|us<|gs<|Go.block<|gs<|?_
   obtain ⟨x15,hx15,h⟩:=bs h
   obtain ⟨x16,hx16,h⟩:=bs h
   refine g0 j j (q (oMv j j)<|q (oMv j j)<|q (oMv j j)<|q (oCa (xs:=[.v false [.im 0 _]]) (vs:=[(false,[.im 0 _])]) (v:=.v false [.im 0 _]) (L_laws_markText hx15) (.inl j) j kF94_3 j (ppC j pp0) j j pb0 j j j)<|q (oIAW j hx16 sF24 j j)<|q (oFA (r':=.ws _) j fF148_0 j j)<|q (oStW tF9 j j j j)<|nl)<|us<|gs<|g1 j j (mk [(0,.v false [.ws (W 2 e_S_Face a_0)]),(1,iv k_1_l2),(5,iv i_5_l2)] []) (q (oMv j j)<|q (oBi j j j j)<|q (oAsI j j)<|nl)<|us<|?_
   obtain ⟨x22,hx22,h⟩:=bs h
   obtain ⟨x26,hx26,h⟩:=bs h
   refine g0 j j (q (oMv j j)<|q (oMv j j)<|q (oIAW j hx22 sF24 j j)<|q (oFA (r':=.ws _) j fF148_1 j j)<|q (oLd (cs:=[.ws _]) j tF28 j j)<|q (oMv j j)<|q (oCa (xs:=[.v false [.ws _],.v false [.im 0 _]]) (vs:=[(false,[.im 0 _])]) (v:=.v false [.im 0 _]) (L_laws_markInt64S_ws hx26) (.inl j) j kF43_28_3 j (ppC j (ppC j pp0)) j j pb0 j j j)<|q (oAsI j j)<|nl)<|Unw.blk<|us<|g0 j j (q (oMv j j)<|q (oBi j j j j)<|q (oAsI j j)<|nl)<|Unw.nil<|?_
   cases h
   exact ⟨j,(by kernel_rfl)⟩
  ·refine Go.exit<|ux<|Unw.nil<|?_
   cases h
   exact ⟨j,(by kernel_rfl)⟩
 ·rintro ⟨e,st⟩ hp
  obtain ⟨k_1_e0_2,rfl⟩:∃y,y=o:=⟨o,rfl⟩
  obtain ⟨he,hst⟩:=hp
  obtain rfl:e= .exit 0:=he
  refine Unw.blkx<|us<|gs<|g2 c90 j j hst (q (oMv j j)<|q (oAsI j j)<|nl)<|us<|Go.ret (Unw.ret ?_)
  cases h
  exact fr rF90 j
theorem L_laws_markDrawing {a_0:S_Drawing} {k_1:Int} {r:Int} (h:laws_markDrawing a_0 k_1=some r):FX 42 [.ws true (u_S_Drawing a_0),.im 2 false [I k_1]] (B0 [(false,[.im 0 (I r)])]):=by
 unfold laws_markDrawing at h
 refine FL_goS (A:=[(0,.v true (S (u_S_Drawing a_0))),(1,D 2 (I k_1))]) (B:=[(0,none),(1,none)]) (nt:=14) rfl rfl Try.func42 rfl rfl rfl rfl ?_
 refine gs<|g0 j j (q (oBx j tF26 j (tkW (tkW (tkW (tkW tk0)))))<|q (oAsI j j)<|nl)<|us<|gs<|?_
 obtain ⟨x8,hx8,h⟩:=bs h
 refine g0 j j (q (oFA (r':=.mp 2 0 2) j fF26_2 j j)<|q (oLd (cs:=[.ws _]) j tF23 j j)<|q (oMv j j)<|q (oCa (xs:=[.v false [.ws _],.v false [.im 2 _]]) (vs:=[(false,[.im 0 _])]) (v:=.v false [.im 0 _]) (L_laws_markPointS_ws hx8) (.inl j) j kF89_23_3 j (ppC j (ppC j pp0)) j j pb0 j j j)<|q (oAsI j j)<|nl)<|us<|gs<|?_
 obtain ⟨x12,hx12,h⟩:=bs h
 refine g0 j j (q (oFA (r':=.mp 2 0 3) j fF26_3 j j)<|q (oLd (cs:=[.ws _]) j tF24 j j)<|q (oMv j j)<|q (oCa (xs:=[.v false [.ws _],.v false [.im 0 _]]) (vs:=[(false,[.im 0 _])]) (v:=.v false [.im 0 _]) (L_laws_markFaceS hx12) (.inl j) j kF90_24_3 j (ppC j (ppC j pp0)) j j pb0 j j j)<|q (oAsI j j)<|nl)<|us<|gs<|g0 j j (q (oMv j j)<|q (oAsI j j)<|nl)<|us<|Go.ret (Unw.ret ?_)
 cases h
 exact fr rF42 j
theorem L_laws_markVeneerS {a_0:(List S_Veneer)} {k_1:Int} {r:(Int×(List S_Veneer))} (h:laws_markVeneerS a_0 k_1=some r):FX 48 [.ow 3 (List.map e_S_Veneer a_0),.im 2 false [I k_1]] ([(false,[.im 0 (I r.1)])],[.ow 3 (List.map e_S_Veneer r.2)]):=by
 unfold laws_markVeneerS at h
 refine FL_goS (A:=[(0,H 0 0),(1,D 2 (I k_1))]) (B:=[(0,Oe [Z (W 3 e_S_Veneer a_0)]),(1,none)]) (nt:=35) rfl rfl Try.func48 rfl rfl rfl rfl ?_
 refine gs<|g0 j j (q (oAsI j j)<|nl)<|us<|gs<|gs<|g0 j j (q (oAsI j j)<|nl)<|us<|Go.block<|?_
 obtain ⟨o,hl,h⟩:=bs h
 refine gl c48 j _ (fun (s:(Int×Int×(List S_Veneer)))=>match s with | (k_1_l2,i_5_l2,a_o0_l2)=>mk [(0,H 0 0),(1,iv k_1_l2),(5,iv i_5_l2)] [(0,Oe [Z (W 3 e_S_Veneer a_o0_l2)])]) (fun (o:(Int×(List S_Veneer))) (p:Ex×St)=>match o with | (k_1_e0_2,a_o0_e0_2)=>p.1= .exit 0∧p.2.norm ([1],[0])=mk [(1,iv k_1_e0_2)] [(0,Oe [Z (W 3 e_S_Veneer a_o0_e0_2)])]) hl (by kernel_rfl) ?_ ?_ ?_
 ·intro o p hp e
  obtain ⟨k_1_e0_2,a_o0_e0_2⟩:=o
  exact nomatch (hp.1.symm.trans e)
 ·rintro ⟨k_1_l2,i_5_l2,a_o0_l2⟩ o h
  unfold laws_markVeneerS_l2 at h
  dsimp only at h
  refine gs<|gs<|g0 j j (q (oMv j j)<|q (oMv j j)<|q (oLnO j j uF42 j j j (fun e=>nomatch e))<|q (oBi j j j j)<|nl)<|us<|gc h j iDec (fun hc3 h=>?_) fun hc3 h=>?_
  ·refine Go.skip<|us<|gs<|Go.block<|gs<|?_
   obtain ⟨x15,hx15,h⟩:=bs h
   obtain ⟨x16,hx16,h⟩:=bs h
   refine g0 j j (q (oMv j j)<|q (oMv j j)<|q (oMv j j)<|q (oCa (xs:=[.v false [.im 0 _]]) (vs:=[(false,[.im 0 _])]) (v:=.v false [.im 0 _]) (L_laws_markText hx15) (.inl j) j kF94_3 j (ppC j pp0) j j pb0 j j j)<|q (oIAO j hx16 sF42 j j j j)<|q (oFA (r':=.mpe 0 0 0 _ 0) j fF123_0 j j)<|q (oStE (v':=(⟨x15,x16.Shade,x16.Grain⟩:S_Veneer)) tF9 j j j (fxI fx0) j j (rd_get hx16) j)<|nl)<|us<|gs<|g1 j j (mk [(0,H 0 0),(1,iv k_1_l2),(5,iv i_5_l2)] [(0,Oe [Z (W 3 e_S_Veneer (a_o0_l2.set i_5_l2.toNat (⟨x15,x16.Shade,x16.Grain⟩:S_Veneer)))])]) (q (oMv j j)<|q (oBi j j j j)<|q (oAsI j j)<|nl)<|us<|gs<|?_
   obtain ⟨x23,hx23,h⟩:=bs h
   refine g0 j j (q (oMv j j)<|q (oMv j j)<|q (oMv j j)<|q (oIAO j hx23 sF42 j j j j)<|q (oFA (r':=.mpe 0 0 0 _ 1) j fF123_1 j j)<|q (oStE (v':=(⟨x23.Species,(w64 (k_1_l2+1)),x23.Grain⟩:S_Veneer)) tF2 j j j (fxI fx0) j j (rd_get hx23) j)<|nl)<|us<|gs<|g1 j j (mk [(0,H 0 0),(1,iv (w64 (k_1_l2+1))),(5,iv i_5_l2)] [(0,Oe [Z (W 3 e_S_Veneer ((a_o0_l2.set i_5_l2.toNat (⟨x15,x16.Shade,x16.Grain⟩:S_Veneer)).set i_5_l2.toNat (⟨x23.Species,(w64 (k_1_l2+1)),x23.Grain⟩:S_Veneer)))])]) (q (oMv j j)<|q (oBi j j j j)<|q (oAsI j j)<|nl)<|us<|gs<|?_
   obtain ⟨x30,hx30,h⟩:=bs h
   refine g0 j j (q (oMv j j)<|q (oMv j j)<|q (oMv j j)<|q (oIAO j hx30 sF42 j j j j)<|q (oFA (r':=.mpe 0 0 0 _ 2) j fF123_2 j j)<|q (oStE (v':=(⟨x30.Species,x30.Shade,(w64 ((w64 (k_1_l2+1))+1))⟩:S_Veneer)) tF2 j j j (fxI fx0) j j (rd_get hx30) j)<|nl)<|us<|g1 j j (mk [(0,H 0 0),(1,iv (w64 ((w64 (k_1_l2+1))+1))),(5,iv i_5_l2)] [(0,Oe [Z (W 3 e_S_Veneer (((a_o0_l2.set i_5_l2.toNat (⟨x15,x16.Shade,x16.Grain⟩:S_Veneer)).set i_5_l2.toNat (⟨x23.Species,(w64 (k_1_l2+1)),x23.Grain⟩:S_Veneer)).set i_5_l2.toNat (⟨x30.Species,x30.Shade,(w64 ((w64 (k_1_l2+1))+1))⟩:S_Veneer)))])]) (q (oMv j j)<|q (oBi j j j j)<|q (oAsI j j)<|nl)<|Unw.blk<|us<|g0 j j (q (oMv j j)<|q (oBi j j j j)<|q (oAsI j j)<|nl)<|Unw.nil<|?_
   cases h
   exact ⟨j,(by kernel_rfl)⟩
  ·refine Go.exit<|ux<|Unw.nil<|?_
   cases h
   exact ⟨j,(by kernel_rfl)⟩
 ·rintro ⟨e,st⟩ hp
  obtain ⟨k_1_e0_2,a_o0_e0_2⟩:=o
  dsimp only at h
  obtain ⟨he,hst⟩:=hp
  obtain rfl:e= .exit 0:=he
  refine Unw.blkx<|us<|gs<|g2 c48 j j hst (q (oMv j j)<|q (oAsI j j)<|nl)<|us<|Go.ret (Unw.ret ?_)
  cases h
  exact fr rF48 j
theorem L_laws_markInt64S {a_0:(List Int)} {k_1:Int} {r:(Int×(List Int))} (h:laws_markInt64S a_0 k_1=some r):FX 43 [.ow 1 (List.map eI a_0),.im 2 false [I k_1]] ([(false,[.im 0 (I r.1)])],[.ow 1 (List.map eI r.2)]):=by
 unfold laws_markInt64S at h
 refine FL_goS (A:=[(0,H 0 0),(1,D 2 (I k_1))]) (B:=[(0,Oe [Z (W 1 eI a_0)]),(1,none)]) (nt:=19) rfl rfl Try.func43 rfl rfl rfl rfl ?_
 refine gs<|g0 j j (q (oAsI j j)<|nl)<|us<|gs<|gs<|g0 j j (q (oAsI j j)<|nl)<|us<|Go.block<|?_
 obtain ⟨o,hl,h⟩:=bs h
 refine gl c43 j _ (fun (s:(Int×Int×(List Int)))=>match s with | (k_1_l2,i_5_l2,a_o0_l2)=>mk [(0,H 0 0),(1,iv k_1_l2),(5,iv i_5_l2)] [(0,Oe [Z (W 1 eI a_o0_l2)])]) (fun (o:(Int×(List Int))) (p:Ex×St)=>match o with | (k_1_e0_2,a_o0_e0_2)=>p.1= .exit 0∧p.2.norm ([1],[0])=mk [(1,iv k_1_e0_2)] [(0,Oe [Z (W 1 eI a_o0_e0_2)])]) hl (by kernel_rfl) ?_ ?_ ?_
 ·intro o p hp e
  obtain ⟨k_1_e0_2,a_o0_e0_2⟩:=o
  exact nomatch (hp.1.symm.trans e)
 ·rintro ⟨k_1_l2,i_5_l2,a_o0_l2⟩ o h
  unfold laws_markInt64S_l2 at h
  dsimp only at h
  refine gs<|gs<|g0 j j (q (oMv j j)<|q (oMv j j)<|q (oLnO j j uF28 j j j (fun e=>nomatch e))<|q (oBi j j j j)<|nl)<|us<|gc h j iDec (fun hc3 h=>?_) fun hc3 h=>?_
  ·refine Go.skip<|us<|gs<|Go.block<|gs<|?_
   obtain ⟨x15,hx15,h⟩:=bs h
   refine g0 j j (q (oMv j j)<|q (oMv j j)<|q (oMv j j)<|q (oIAO j hx15 sF28 j j j j)<|q (oStE (v':=k_1_l2) tF2 j j j (fxI fx0) j j (rd_get hx15) j)<|nl)<|us<|g1 j j (mk [(0,H 0 0),(1,iv k_1_l2),(5,iv i_5_l2)] [(0,Oe [Z (W 1 eI (a_o0_l2.set i_5_l2.toNat k_1_l2))])]) (q (oMv j j)<|q (oBi j j j j)<|q (oAsI j j)<|nl)<|Unw.blk<|us<|g0 j j (q (oMv j j)<|q (oBi j j j j)<|q (oAsI j j)<|nl)<|Unw.nil<|?_
   cases h
   exact ⟨j,(by kernel_rfl)⟩
  ·refine Go.exit<|ux<|Unw.nil<|?_
   cases h
   exact ⟨j,(by kernel_rfl)⟩
 ·rintro ⟨e,st⟩ hp
  obtain ⟨k_1_e0_2,a_o0_e0_2⟩:=o
  dsimp only at h
  obtain ⟨he,hst⟩:=hp
  obtain rfl:e= .exit 0:=he
  refine Unw.blkx<|us<|gs<|g2 c43 j j hst (q (oMv j j)<|q (oAsI j j)<|nl)<|us<|Go.ret (Unw.ret ?_)
  cases h
  exact fr rF43 j
theorem L_laws_heldInt64S {a_0:(List Int)} {k_1:Int} {r:Int} (h:laws_heldInt64S a_0 k_1=some r):FX 44 [.im 2 false [W 1 eI a_0],.im 2 false [I k_1]] (B0 [(false,[.im 0 (I r)])]):=by
 unfold laws_heldInt64S at h
 refine gn 21 Try.func44 rfl ?_
 refine gs<|g0 j j (q (oAsI j j)<|nl)<|us<|gs<|gs<|g0 j j (q (oAsI j j)<|nl)<|us<|Go.block<|?_
 obtain ⟨o,hl,h⟩:=bs h
 refine gl c44 j _ (fun (s:(Int×Int))=>match s with | (k_1_l2,i_5_l2)=>mk [(0,D 2 (W 1 eI a_0)),(1,iv k_1_l2),(5,iv i_5_l2)] []) (fun (o:(Int ⊕ Int)) (p:Ex×St)=>match o with | (.inl k_1_e0_2)=>p.1= .exit 0∧p.2.norm ([1],[])=mk [(1,iv k_1_e0_2)] [] | (.inr r2)=>p.1= .ret∧fin Try.prog cfg 44 Try.f44 [.im 2 false [W 1 eI a_0],.im 2 false [I k_1]] p.2=some (B0 [(false,[.im 0 (I r2)])])) hl (by kernel_rfl) ?_ ?_ ?_
 ·intro o p hp e
  rcases o with k_1_e0_2 | r2<;>exact nomatch (hp.1.symm.trans e)
 ·rintro ⟨k_1_l2,i_5_l2⟩ o h
  unfold laws_heldInt64S_l2 at h
  dsimp only at h
  refine gs<|gs<|g0 j j (q (oMv j j)<|q (oMv j j)<|q (oLnI j j uF28 j)<|q (oBi j j j j)<|nl)<|us<|gc h j iDec (fun hc5 h=>?_) fun hc5 h=>?_
  ·refine Go.skip<|us<|gs<|Go.block<|gs<|gs<|?_
   obtain ⟨x14,hx14,h⟩:=bs h
   refine g0 j j (q (oMv j j)<|q (oMv j j)<|q (oIAI j hx14 sF28 j j)<|q (oLd (cs:=[.im 2 _]) j tF2 j j)<|q (oMv j j)<|q (oBi j j j j)<|nl)<|us<|gc h j iNe (fun hc6 h=>?_) fun hc6 h=>?_
   ·refine gs<|g0 j j (q (oAsI j j)<|nl)<|us<|Go.ret (Unw.ret ?_)
    cases h
    exact ⟨j,(fo rF44 j)⟩
   ·refine Go.skip<|us<|g0 j j (q (oMv j j)<|q (oBi j j j j)<|q (oAsI j j)<|nl)<|Unw.blk<|us<|g0 j j (q (oMv j j)<|q (oBi j j j j)<|q (oAsI j j)<|nl)<|Unw.nil<|?_
    cases h
    exact ⟨j,(by kernel_rfl)⟩
  ·refine Go.exit<|ux<|Unw.nil<|?_
   cases h
   exact ⟨j,(by kernel_rfl)⟩
 ·rintro ⟨e,st⟩ hp
  rcases o with k_1_e0_2 | r2
  ·dsimp only at h
   obtain ⟨he,hst⟩:=hp
   obtain rfl:e= .exit 0:=he
   refine Unw.blkx<|us<|gs<|g2 c44 j j hst (q (oMv j j)<|q (oAsI j j)<|nl)<|us<|Go.ret (Unw.ret ?_)
   cases h
   exact fr rF44 j
  ·dsimp only at h
   obtain ⟨he,hfin⟩:=hp
   obtain rfl:e= .ret:=he
   cases h
   exact Unw.ret (Fin_ret hfin)
theorem L_laws_FnExactFirstShifts {aD_0:S_Drawing} {aSheets_1:(List S_Veneer)} {aLeast_2:Int} {aBudget_3:Int} {r:Bool} (h:laws_FnExactFirstShifts aD_0 aSheets_1 aLeast_2 aBudget_3=some r):FX 8 [.im 2 true (u_S_Drawing aD_0),.im 2 false [W 3 e_S_Veneer aSheets_1],.im 2 false [I aLeast_2],.im 2 false [I aBudget_3]] (B0 [(false,[.im 0 (V r)])]):=by
 unfold laws_FnExactFirstShifts at h
 refine gn 129 Try.func8 rfl ?_
 refine gs<|g0 j j (q (oBx j tF63 j (tkI (tkI (tkI (tkI tk0)))))<|q (oAsI j j)<|nl)<|us<|gs<|g0 j j (q (oAsI j j)<|nl)<|us<|gs<|?_
 obtain ⟨x23,hx23,h⟩:=bs h
 refine g0 j j (q (oLd (cs:=[.im 0 _,.im 0 _,.im 2 _,.im 2 _]) j tF63 j j)<|q (oMv j j)<|q (oCa (xs:=[.v true [.im 0 _,.im 0 _,.im 2 _,.im 2 _],.v false [.im 0 _]]) (vs:=[(false,[.im 0 _])]) (v:=.v false [.im 0 _]) (L_laws_szDrawing hx23) (.inl j) j kF37_63_3 j (ppC j (ppC j pp0)) j j pb0 j j j)<|q (oAsI j j)<|nl)<|us<|gs<|gs<|g0 j j (q (oMv j j)<|q (oBi j j j j)<|nl)<|us<|gc h j iDec (fun hc1 h=>?_) fun hc1 h=>?_
 ·refine gs<|g0 j j (q (oAsI j j)<|nl)<|us<|Go.ret (Unw.ret ?_)
  cases h
  exact fr rF8 j
 ·refine Go.skip<|us<|gs<|?_
  obtain ⟨x28,hx28,h⟩:=bs h
  refine g0 j j (q (oMv j j)<|q (oMv j j)<|q (oCa (xs:=[.v false [.im 2 _],.v false [.im 0 _]]) (vs:=[(false,[.im 0 _])]) (v:=.v false [.im 0 _]) (L_laws_szVeneerS hx28) (.inl j) j kF45_71_3 j (ppC j (ppC j pp0)) j j pb0 j j j)<|q (oAsI j j)<|nl)<|us<|gs<|gs<|g0 j j (q (oMv j j)<|q (oBi j j j j)<|nl)<|us<|gc h j iDec (fun hc2 h=>?_) fun hc2 h=>?_
  ·refine gs<|g0 j j (q (oAsI j j)<|nl)<|us<|Go.ret (Unw.ret ?_)
   cases h
   exact fr rF8 j
  ·refine Go.skip<|us<|gs<|?_
   obtain ⟨x33,hx33,h⟩:=bs h
   obtain ⟨x35,hx35,h⟩:=bs h
   obtain ⟨x38,hx38,h⟩:=bs h
   refine g0 j j (q (oLd (cs:=[.im 0 _,.im 0 _,.im 2 _,.im 2 _]) j tF63 j j)<|q (oCr (xs:=[.v true [.im 0 _,.im 0 _,.im 2 _,.im 2 _]]) (vs:=[(true,[.im 0 _,.im 0 _,.own 33 0 0,.own 33 0 1])]) (v:=.v true [.im 0 _,.im 0 _,.own 33 0 0,.own 33 0 1]) (c:=⟨.sh,0,_⟩) (cs:=[⟨.sh,0,_⟩]) (L_laws_toDrawing hx33) (.inl j) j kF39_63 j (ppC j pp0) j j pb0 j j j)<|q (oMv j j)<|q (oCr (xs:=[.v false [.im 2 _]]) (vs:=[(false,[.own 35 0 0])]) (v:=.v false [.own 35 0 0]) (c:=⟨.sh,0,_⟩) (cs:=[]) (L_laws_toVeneerS hx35) (.inl j) j kF46_71 j (ppC j pp0) j j pb0 j j j)<|q (oMv j j)<|q (oMv j j)<|q (oCr (xs:=[.v true [.im 0 _,.im 0 _,.own 33 0 0,.own 33 0 1],.v false [.own 35 0 0],.v false [.im 2 _],.v false [.im 2 _]]) (vs:=[(false,[.own 38 0 0]),(false,[.im 0 _])]) (v:=.tup [(false,[.own 38 0 0]),(false,[.im 0 _])]) (c:=⟨.sh,0,_⟩) (cs:=[]) (L_spec_FirstShifts hx38) (.inl j) j kF25_26_42_2_2 j (ppC j (ppC j (ppC j (ppC j pp0)))) j j pb0 j j j)<|q (oMvT j j)<|q (oEx j j j)<|q (oEx j j j)<|q (oAsO j j j j j)<|q (oAsI j j)<|nl)<|us<|gs<|?_
   obtain ⟨x42,hx42,h⟩:=bs h
   refine g0 j j (q (oLd (cs:=[.im 0 _,.im 0 _,.im 2 _,.im 2 _]) j tF63 j j)<|q (oCF (xs:=[.v true [.im 0 _,.im 0 _,.im 2 _,.im 2 _]]) (vs:=[(true,[.im 0 _,.im 0 _,.fr _,.fr _])]) (v:=.v true [.im 0 _,.im 0 _,.fr _,.fr _]) (L_laws_toDrawing hx42) (.inl j) j kF39_63 j (ppC j pp0) j j j j)<|q (oAl j tF26 (tkI (tkI (tkN (tkN tk0)))))<|q (oSt tF26 j j j (tkI (tkI (tkF (tkF tk0)))) j j j)<|nl)<|us<|gs<|?_
   obtain ⟨x44,hx44,h⟩:=bs h
   refine g1 j j (mk [(1,D 2 (W 3 e_S_Veneer aSheets_1)),(2,iv aLeast_2),(3,iv aBudget_3),(4,M 4),(10,H 10 0),(11,iv x38.2),(12,M 12)] [(4,Oa (G 2 (u_S_Drawing aD_0))),(10,Oc [Z (W 1 eI x38.1)]),(12,Oa (K (u_S_Drawing x42)))]) (q (oMv j j)<|q (oCr (xs:=[.v false [.im 2 _]]) (vs:=[(false,[.own 44 0 0])]) (v:=.v false [.own 44 0 0]) (c:=⟨.sh,0,_⟩) (cs:=[]) (L_laws_toVeneerS hx44) (.inl j) j kF46_71 j (ppC j pp0) j j pb0 j j j)<|q (oAsO j j j j j)<|nl)<|us<|gs<|?_
   obtain ⟨x50,hx50,h⟩:=bs h
   refine g0 j j (q (oLd (cs:=[.im 0 _,.im 0 _,.fr _,.fr _]) j tF26 j j)<|q (oMv j j)<|q (oMv j j)<|q (oMv j j)<|q (oCG (xs:=[.v true [.im 0 _,.im 0 _,.fr _,.fr _],.v false [.own 13 0 0],.v false [.im 0 _],.v false [.im 0 _]]) (vs:=[(false,[.own 50 0 0]),(false,[.im 0 _])]) (v:=.tup [(false,[.own 50 0 0]),(false,[.im 0 _])]) (c:=⟨.sh,0,_⟩) (cs:=[]) (L_impl_FirstShifts hx50) (.inl j) j kF24_26_42_2_2 j (ppC j (ppC j (ppC j (ppC j pp0)))) j j (uz2 fun _=>j) j j j)<|q (oMvT j j)<|q (oEx j j j)<|q (oEx j j j)<|q (oAsO j j j j j)<|q (oAsI j j)<|nl)<|us<|gs<|gs<|?_
   obtain ⟨x55,hx55,h⟩:=bs h
   refine gX c8 j j j (mk [(1,D 2 (W 3 e_S_Veneer aSheets_1)),(2,iv aLeast_2),(3,iv aBudget_3),(4,M 4),(10,H 10 0),(11,iv x38.2),(12,M 12),(13,H 13 0),(14,H 14 0),(15,iv x50.2),(61,bv ((!x55)||(x50.2 != x38.2)))] [(4,Oa (G 2 (u_S_Drawing aD_0))),(10,Oc [Z (W 1 eI x38.1)]),(12,Oa (K (u_S_Drawing x42))),(13,Oc [Z (W 3 e_S_Veneer x44)]),(14,Oc [Z (W 1 eI x50.1)])]) ?_ ?_
   ·refine xq (oMv j j)<|xq (oMv j j)<|xq (oCa (xs:=[.v false [.own 14 0 0],.v false [.own 10 0 0]]) (vs:=[(false,[.im 0 _])]) (v:=.v false [.im 0 _]) (L_laws_eqInt64S hx55) (.inl j) j kF40_28_28 j (ppC j (ppC j pp0)) j j pb0 j j j)<|xq (oUn j j j)<|xq (oMv j j)<|?_
    by_cases hc3:x55=true
    ·exact xqT rfl rfl (nF (iR.2 hc3)) (oMv rfl rfl)<|xqT rfl rfl (nF (iR.2 hc3)) (oMv rfl rfl)<|xqT rfl rfl (nF (iR.2 hc3)) (oBi rfl rfl rfl rfl)<|xq (oPkF rfl rfl (nF (iR.2 hc3)) rfl)<|xn (Eq.trans (b:=(fun t_61_m12:Bool=>mk [(1,D 2 (W 3 e_S_Veneer aSheets_1)),(2,iv aLeast_2),(3,iv aBudget_3),(4,M 4),(10,H 10 0),(11,iv x38.2),(12,M 12),(13,H 13 0),(14,H 14 0),(15,iv x50.2),(61,bv t_61_m12)] [(4,Oa (G 2 (u_S_Drawing aD_0))),(10,Oc [Z (W 1 eI x38.1)]),(12,Oa (K (u_S_Drawing x42))),(13,Oc [Z (W 3 e_S_Veneer x44)]),(14,Oc [Z (W 1 eI x50.1)])]) (x50.2 != x38.2)) (by kernel_rfl) (congrArg (fun t_61_m12:Bool=>mk [(1,D 2 (W 3 e_S_Veneer aSheets_1)),(2,iv aLeast_2),(3,iv aBudget_3),(4,M 4),(10,H 10 0),(11,iv x38.2),(12,M 12),(13,H 13 0),(14,H 14 0),(15,iv x50.2),(61,bv t_61_m12)] [(4,Oa (G 2 (u_S_Drawing aD_0))),(10,Oc [Z (W 1 eI x38.1)]),(12,Oa (K (u_S_Drawing x42))),(13,Oc [Z (W 3 e_S_Veneer x44)]),(14,Oc [Z (W 1 eI x50.1)])]) (by first | rfl | (simp [(iR.2 hc3)];done) | (simp [(iR.2 hc3)];omega))))
    ·exact xsgF rfl rfl (nT (byF iR hc3)) rfl<|xsgF rfl rfl (nT (byF iR hc3)) rfl<|xsgF rfl rfl (nT (byF iR hc3)) rfl<|xq (oPkT rfl rfl (nT (byF iR hc3)) rfl)<|xn (Eq.trans (b:=(fun t_61_m12:Bool=>mk [(1,D 2 (W 3 e_S_Veneer aSheets_1)),(2,iv aLeast_2),(3,iv aBudget_3),(4,M 4),(10,H 10 0),(11,iv x38.2),(12,M 12),(13,H 13 0),(14,H 14 0),(15,iv x50.2),(61,bv t_61_m12)] [(4,Oa (G 2 (u_S_Drawing aD_0))),(10,Oc [Z (W 1 eI x38.1)]),(12,Oa (K (u_S_Drawing x42))),(13,Oc [Z (W 3 e_S_Veneer x44)]),(14,Oc [Z (W 1 eI x50.1)])]) true) (by kernel_rfl) (congrArg (fun t_61_m12:Bool=>mk [(1,D 2 (W 3 e_S_Veneer aSheets_1)),(2,iv aLeast_2),(3,iv aBudget_3),(4,M 4),(10,H 10 0),(11,iv x38.2),(12,M 12),(13,H 13 0),(14,H 14 0),(15,iv x50.2),(61,bv t_61_m12)] [(4,Oa (G 2 (u_S_Drawing aD_0))),(10,Oc [Z (W 1 eI x38.1)]),(12,Oa (K (u_S_Drawing x42))),(13,Oc [Z (W 3 e_S_Veneer x44)]),(14,Oc [Z (W 1 eI x50.1)])]) (by first | rfl | (simp [(byF iR hc3)];done) | (simp [(byF iR hc3)];omega))))
   ·refine us<|gc h j (iOr (iNot iR) iNe) (fun hc4 h=>?_) fun hc4 h=>?_
    ·refine gs<|g0 j j (q (oAsI j j)<|nl)<|us<|Go.ret (Unw.ret ?_)
     cases h
     exact fr rF8 j
    ·refine Go.skip<|us<|gs<|gs<|?_
     obtain ⟨x64,hx64,h⟩:=bs h
     obtain ⟨x65,hx65,h⟩:=bs h
     refine gd c8 j j j j (mk [(1,D 2 (W 3 e_S_Veneer aSheets_1)),(2,iv aLeast_2),(3,iv aBudget_3),(4,M 4),(10,H 10 0),(11,iv x38.2),(12,M 12),(13,H 13 0),(14,H 14 0),(15,iv x50.2),(66,bv (!x65))] [(4,Oa (G 2 (u_S_Drawing aD_0))),(10,Oc [Z (W 1 eI x38.1)]),(12,Oa (K (u_S_Drawing x42))),(13,Oc [Z (W 3 e_S_Veneer x44)]),(14,Oc [Z (W 1 eI x50.1)])]) (t j j (oLd (cs:=[.im 0 _,.im 0 _,.fr _,.fr _]) j tF26 j j)<|t j j (oLd (cs:=[.im 0 _,.im 0 _,.im 2 _,.im 2 _]) j tF63 j j)<|sS (dN z8 j (oCr (xs:=[.v true [.im 0 _,.im 0 _,.im 2 _,.im 2 _]]) (vs:=[(true,[.im 0 _,.im 0 _,.own 64 0 0,.own 64 0 1])]) (v:=.v true [.im 0 _,.im 0 _,.own 64 0 0,.own 64 0 1]) (c:=⟨.sh,0,_⟩) (cs:=[⟨.sh,0,_⟩]) (L_laws_toDrawing hx64) (.inl j) j kF39_63 j (ppC j pp0) j j pb0 j j j)) trivial (sS (dN z8 j (oCa (xs:=[.v true [.im 0 _,.im 0 _,.fr _,.fr _],.v true [.im 0 _,.im 0 _,.own 64 0 0,.own 64 0 1]]) (vs:=[(false,[.im 0 _])]) (v:=.v false [.im 0 _]) (L_laws_eqDrawing hx65) (.inl j) j kF41_26_26 j (ppC j (ppC j pp0)) j j pb0 j j j)) trivial (t j j (oUn j j j)<|sD (by kernel_rfl))))<|us<|?_
     by_cases hc5:x65=true
     ·rw [if_pos hc5] at h
      refine gF j (nF (iR.2 hc5))<|Go.skip<|us<|gs<|gs<|?_
      obtain ⟨x69,hx69,h⟩:=bs h
      obtain ⟨x70,hx70,h⟩:=bs h
      refine g0 j j (q (oMv j j)<|q (oMv j j)<|q (oCr (xs:=[.v false [.im 2 _]]) (vs:=[(false,[.own 69 0 0])]) (v:=.v false [.own 69 0 0]) (c:=⟨.sh,0,_⟩) (cs:=[]) (L_laws_toVeneerS hx69) (.inl j) j kF46_71 j (ppC j pp0) j j pb0 j j j)<|q (oCa (xs:=[.v false [.own 13 0 0],.v false [.own 69 0 0]]) (vs:=[(false,[.im 0 _])]) (v:=.v false [.im 0 _]) (L_laws_eqVeneerS hx70) (.inl j) j kF47_42_42 j (ppC j (ppC j pp0)) j j pb0 j j j)<|q (oUn j j j)<|nl)<|us<|?_
      by_cases hc6:x70=true
      ·rw [if_pos hc6] at h
       refine gF j (nF (iR.2 hc6))<|Go.skip<|us<|gs<|g0 j j (q (oAsI j j)<|nl)<|us<|gs<|?_
       obtain ⟨x74,hx74,h⟩:=bs h
       refine gS j j (mk [(1,D 2 (W 3 e_S_Veneer aSheets_1)),(2,iv aLeast_2),(3,iv aBudget_3),(4,M 4),(10,H 10 0),(11,iv x38.2),(12,M 12),(13,H 13 0),(14,H 14 0),(15,iv x50.2),(16,iv 1)] [(4,Oa (G 2 (u_S_Drawing aD_0))),(10,Oc [Z (W 1 eI x38.1)]),(12,Oa (Kw (u_S_Drawing x42))),(13,Oc [Z (W 3 e_S_Veneer x44)]),(14,Oc [Z (W 1 eI x50.1)])]) (q (oLd (cs:=[.im 0 _,.im 0 _,.ws _,.ws _]) j tF26 j j)<|q (oMv j j)<|q (oCa (xs:=[.v true [.im 0 _,.im 0 _,.ws _,.ws _],.v false [.im 0 _]]) (vs:=[(false,[.im 0 _])]) (v:=.v false [.im 0 _]) (L_laws_markDrawing hx74) (.inl j) j kF42_26_3 j (ppC j (ppC j pp0)) j j pb0 j j j)<|q (oAsI j j)<|nl)<|us<|gs<|?_
       obtain ⟨x77,hx77,h⟩:=bs h
       refine g0 j j (q (oMv j j)<|q (oMv j j)<|q (oCa (xs:=[.v false [.own 13 0 0],.v false [.im 0 _]]) (vs:=[(false,[.im 0 _])]) (v:=.v false [.im 0 _]) (L_laws_markVeneerS hx77) (.inl j) j kF48_42_3 j (ppC j (ppC j pp0)) j j (pbO j j j j pb0) j j j)<|q (oAsI j j)<|nl)<|us<|gs<|gs<|?_
       obtain ⟨t_90_m21,hm16,h⟩:=bs h
       refine gX c8 j j (st1:=mk [(1,D 2 (W 3 e_S_Veneer aSheets_1)),(2,iv aLeast_2),(3,iv aBudget_3),(4,M 4),(10,H 10 0),(11,iv x38.2),(14,H 14 0),(15,iv x50.2),(16,iv x77.1)] [(4,Oa (G 2 (u_S_Drawing aD_0))),(10,Oc [Z (W 1 eI x38.1)]),(14,Oc [Z (W 1 eI x50.1)])]) (by kernel_rfl) (mk [(1,D 2 (W 3 e_S_Veneer aSheets_1)),(2,iv aLeast_2),(3,iv aBudget_3),(4,M 4),(10,H 10 0),(11,iv x38.2),(14,H 14 0),(90,bv t_90_m21)] [(4,Oa (G 2 (u_S_Drawing aD_0))),(10,Oc [Z (W 1 eI x38.1)]),(14,Oc [Z (W 1 eI x50.1)])]) ?_ ?_
       ·refine xq (oMv j j)<|xq (oBi j j j j)<|xq (oMv j j)<|?_
        refine ic hm16 (fun hc7 hm16=>?_) fun hc7 hm16=>?_
        ·cases hm16
         exact xsgF j j (iDec.2 hc7) j<|xsgF j j (iDec.2 hc7) j<|xsgF j j (iDec.2 hc7) j<|xsgF j j (iDec.2 hc7) j<|xq (oPkT j j (iDec.2 hc7) j)<|xq (oMv j j)<|xsgF j j j j<|xsgF j j j j<|xsgF j j j j<|xq (oPkT j j j j)<|xn
        ·obtain ⟨x83,hx83,hm16⟩:=bs hm16
         refine xqT j j (byF iDec hc7) (oMv j j)<|xqT j j (byF iDec hc7) (oMv j j)<|xqT j j (byF iDec hc7) (oCa (xs:=[.v false [.own 14 0 0],.v false [.own 10 0 0]]) (vs:=[(false,[.im 0 _])]) (v:=.v false [.im 0 _]) (L_laws_eqInt64S hx83) (.inl j) j kF40_28_28 j (ppC j (ppC j pp0)) j j pb0 j j j)<|xqT j j (byF iDec hc7) (oUn j j j)<|xq (oPkF j j (byF iDec hc7) j)<|xq (oMv j j)<|?_
         refine ic hm16 (fun hc8 hm16=>?_) fun hc8 hm16=>?_
         ·cases hm16
          exact xqT j j (nF (iR.2 hc8)) (oMv j j)<|xqT j j (nF (iR.2 hc8)) (oMv j j)<|xqT j j (nF (iR.2 hc8)) (oBi j j j j)<|xq (oPkF j j (nF (iR.2 hc8)) j)<|xn
         ·cases hm16
          exact xsgF j j (nT (byF iR hc8)) j<|xsgF j j (nT (byF iR hc8)) j<|xsgF j j (nT (byF iR hc8)) j<|xq (oPkT j j (nT (byF iR hc8)) j)<|xn
       ·refine us<|gc h j iR (fun hc9 h=>?_) fun hc9 h=>?_
        ·refine gs<|g0 j j (q (oAsI j j)<|nl)<|us<|Go.ret (Unw.ret ?_)
         cases h
         exact fr rF8 j
        ·refine Go.skip<|us<|gs<|g0 j j (q (oAsI j j)<|nl)<|us<|gs<|?_
         obtain ⟨x93,hx93,h⟩:=bs h
         refine g0 j j (q (oMv j j)<|q (oMv j j)<|q (oCa (xs:=[.v false [.own 14 0 0],.v false [.im 0 _]]) (vs:=[(false,[.im 0 _])]) (v:=.v false [.im 0 _]) (L_laws_markInt64S hx93) (.inl j) j kF43_28_3 j (ppC j (ppC j pp0)) j j (pbO j j j j pb0) j j j)<|q (oAsI j j)<|nl)<|us<|gs<|g1 j j (mk [(1,D 2 (W 3 e_S_Veneer aSheets_1)),(2,iv aLeast_2),(3,iv aBudget_3),(4,M 4),(10,H 10 0),(11,iv x38.2),(14,H 14 0),(17,iv x93.1)] [(4,Oa (G 2 (u_S_Drawing aD_0))),(10,Oc [Z (W 1 eI x38.1)]),(14,Oc [Z (W 1 eI x93.2)])]) (q (oAsI j j)<|nl)<|us<|gs<|?_
         obtain ⟨x96,hx96,h⟩:=bs h
         refine g0 j j (q (oMv j j)<|q (oMv j j)<|q (oCa (xs:=[.v false [.own 14 0 0],.v false [.im 0 _]]) (vs:=[(false,[.im 0 _])]) (v:=.v false [.im 0 _]) (L_laws_heldInt64S hx96) (.inl j) j kF44_28_3 j (ppC j (ppC j pp0)) j j pb0 j j j)<|q (oAsI j j)<|nl)<|us<|gs<|gs<|g0 j j (q (oMv j j)<|q (oBi j j j j)<|nl)<|us<|gc h j iDec (fun hc10 h=>?_) fun hc10 h=>?_
         ·refine gs<|g0 j j (q (oAsI j j)<|nl)<|us<|Go.ret (Unw.ret ?_)
          cases h
          exact fr rF8 j
         ·refine Go.skip<|us<|gs<|gs<|g0 j j (q (oMv j j)<|q (oMv j j)<|q (oBi j j j j)<|nl)<|us<|gc h j iNe (fun hc11 h=>?_) fun hc11 h=>?_
          ·refine gs<|g0 j j (q (oAsI j j)<|nl)<|us<|Go.ret (Unw.ret ?_)
           cases h
           exact fr rF8 j
          ·refine Go.skip<|us<|gs<|?_
           obtain ⟨x104,hx104,h⟩:=bs h
           obtain ⟨x106,hx106,h⟩:=bs h
           obtain ⟨x109,hx109,h⟩:=bs h
           refine g0 j j (q (oLd (cs:=[.im 0 _,.im 0 _,.im 2 _,.im 2 _]) j tF63 j j)<|q (oCr (xs:=[.v true [.im 0 _,.im 0 _,.im 2 _,.im 2 _]]) (vs:=[(true,[.im 0 _,.im 0 _,.own 104 0 0,.own 104 0 1])]) (v:=.v true [.im 0 _,.im 0 _,.own 104 0 0,.own 104 0 1]) (c:=⟨.sh,0,_⟩) (cs:=[⟨.sh,0,_⟩]) (L_laws_toDrawing hx104) (.inl j) j kF39_63 j (ppC j pp0) j j pb0 j j j)<|q (oMv j j)<|q (oCr (xs:=[.v false [.im 2 _]]) (vs:=[(false,[.own 106 0 0])]) (v:=.v false [.own 106 0 0]) (c:=⟨.sh,0,_⟩) (cs:=[]) (L_laws_toVeneerS hx106) (.inl j) j kF46_71 j (ppC j pp0) j j pb0 j j j)<|q (oMv j j)<|q (oMv j j)<|q (oCa (xs:=[.v true [.im 0 _,.im 0 _,.own 104 0 0,.own 104 0 1],.v false [.own 106 0 0],.v false [.im 0 _],.v false [.im 0 _]]) (vs:=[(false,[.im 0 _]),(false,[.im 0 _])]) (v:=.tup [(false,[.im 0 _]),(false,[.im 0 _])]) (L_impl_FirstShifts hx109) (.inl j) j kF24_26_42_2_2 j (ppC j (ppC j (ppC j (ppC j pp0)))) j j pb0 j j j)<|q (oMvT j j)<|q (oEx j j j)<|q (oEx j j j)<|q (oAsI j j)<|q (oAsI j j)<|nl)<|us<|gs<|gs<|?_
           obtain ⟨x114,hx114,h⟩:=bs h
           refine gX c8 j j j (mk [(14,H 14 0),(17,iv x93.1),(120,bv ((!x114)||(x109.2 != x38.2)))] [(14,Oc [Z (W 1 eI x93.2)])]) ?_ ?_
           ·refine xq (oMv j j)<|xq (oMv j j)<|xq (oCa (xs:=[.v false [.im 0 _],.v false [.own 10 0 0]]) (vs:=[(false,[.im 0 _])]) (v:=.v false [.im 0 _]) (L_laws_eqInt64S hx114) (.inl j) j kF40_28_28 j (ppC j (ppC j pp0)) j j pb0 j j j)<|xq (oUn j j j)<|xq (oMv j j)<|?_
            by_cases hc12:x114=true
            ·exact xqT rfl rfl (nF (iR.2 hc12)) (oMv rfl rfl)<|xqT rfl rfl (nF (iR.2 hc12)) (oMv rfl rfl)<|xqT rfl rfl (nF (iR.2 hc12)) (oBi rfl rfl rfl rfl)<|xq (oPkF rfl rfl (nF (iR.2 hc12)) rfl)<|xn (Eq.trans (b:=(fun t_120_m32:Bool=>mk [(14,H 14 0),(17,iv x93.1),(120,bv t_120_m32)] [(14,Oc [Z (W 1 eI x93.2)])]) (x109.2 != x38.2)) (by kernel_rfl) (congrArg (fun t_120_m32:Bool=>mk [(14,H 14 0),(17,iv x93.1),(120,bv t_120_m32)] [(14,Oc [Z (W 1 eI x93.2)])]) (by first | rfl | (simp [(iR.2 hc12)];done) | (simp [(iR.2 hc12)];omega))))
            ·exact xsgF rfl rfl (nT (byF iR hc12)) rfl<|xsgF rfl rfl (nT (byF iR hc12)) rfl<|xsgF rfl rfl (nT (byF iR hc12)) rfl<|xq (oPkT rfl rfl (nT (byF iR hc12)) rfl)<|xn (Eq.trans (b:=(fun t_120_m32:Bool=>mk [(14,H 14 0),(17,iv x93.1),(120,bv t_120_m32)] [(14,Oc [Z (W 1 eI x93.2)])]) true) (by kernel_rfl) (congrArg (fun t_120_m32:Bool=>mk [(14,H 14 0),(17,iv x93.1),(120,bv t_120_m32)] [(14,Oc [Z (W 1 eI x93.2)])]) (by first | rfl | (simp [(byF iR hc12)];done) | (simp [(byF iR hc12)];omega))))
           ·refine us<|gc h j (iOr (iNot iR) iNe) (fun hc13 h=>?_) fun hc13 h=>?_
            ·refine gs<|g0 j j (q (oAsI j j)<|nl)<|us<|Go.ret (Unw.ret ?_)
             cases h
             exact fr rF8 j
            ·refine Go.skip<|us<|gs<|g0 j j (q (oAsI j j)<|nl)<|us<|gs<|?_
             obtain ⟨x123,hx123,h⟩:=bs h
             refine g0 j j (q (oMv j j)<|q (oMv j j)<|q (oCa (xs:=[.v false [.own 14 0 0],.v false [.im 0 _]]) (vs:=[(false,[.im 0 _])]) (v:=.v false [.im 0 _]) (L_laws_heldInt64S hx123) (.inl j) j kF44_28_3 j (ppC j (ppC j pp0)) j j pb0 j j j)<|q (oAsI j j)<|nl)<|us<|gs<|gs<|g0 j j (q (oMv j j)<|q (oBi j j j j)<|nl)<|us<|gc h j iDec (fun hc14 h=>?_) fun hc14 h=>?_
             ·refine gs<|g0 j j (q (oAsI j j)<|nl)<|us<|Go.ret (Unw.ret ?_)
              cases h
              exact fr rF8 j
             ·refine Go.skip<|us<|gs<|gs<|g0 j j (q (oMv j j)<|q (oMv j j)<|q (oBi j j j j)<|nl)<|us<|gc h j iNe (fun hc15 h=>?_) fun hc15 h=>?_
              ·refine gs<|g0 j j (q (oAsI j j)<|nl)<|us<|Go.ret (Unw.ret ?_)
               cases h
               exact fr rF8 j
              ·refine Go.skip<|us<|gs<|g0 j j (q (oAsI j j)<|nl)<|us<|Go.ret (Unw.ret ?_)
               cases h
               exact fr rF8 j
      ·rw [if_neg hc6] at h
       refine gT j (nT (byF iR hc6))<|gs<|g0 j j (q (oAsI j j)<|nl)<|us<|Go.ret (Unw.ret ?_)
       cases h
       exact fr rF8 j
     ·rw [if_neg hc5] at h
      refine gT j (nT (byF iR hc5))<|gs<|g0 j j (q (oAsI j j)<|nl)<|us<|Go.ret (Unw.ret ?_)
      cases h
      exact fr rF8 j
end
end Go.Proofs.Ytfjmlccolihpmaa
