/- The machine answers, at each function of the program that is reached, what its plain function answers. Conditions: none. -/
import Derived.Test.YthdegfgajfgggaaDoorProg
import Derived.KernelRfl
import Derived.Test.YthdegfgajfgggaaDoorSimRs
import Derived.Test.YthdegfgajfgggaaDoorSimRt
import Derived.Test.YthdegfgajfgggaaDoorTrtT
namespace Go.Proofs.YthdegfgajfgggaaDoor
open Go Go.Sim Go.Pw Go.Proofs
set_option linter.unusedVariables false
set_option linter.unusedSimpArgs false
set_option maxRecDepth 100000
set_option maxHeartbeats 4000000
noncomputable section
noncomputable abbrev u_S_Room (x:S_Room):List AV:=[I x.Width,I x.Length]
noncomputable def e_S_Room (x:S_Room):AV:= .agg (u_S_Room x)
noncomputable def fc3:FCfg:={par:=[.cst false],inn:=[],out:=[],loopK:=[],frz:=[],sch:=[]}
noncomputable def fc6:FCfg:={par:=[.cst false],inn:=[],out:=[],loopK:=[],frz:=[],sch:=[]}
noncomputable def fc7:FCfg:={par:=[.cst false],inn:=[(3,some ([1,2,3],[1,2,3])),(4,some ([2,3],[2,3]))],out:=[],loopK:=[],frz:=[],sch:=[]}
noncomputable def fc8:FCfg:={par:=[.cst false],inn:=[],out:=[(3,some ([2],[]))],loopK:=[],frz:=[],sch:=[(3,.first 0 [1,2,3,6,7,8] [4,5]<| .first 1 [2,3,6,7,8] [4,5]<| .first 4 [5,6,7,8] [2,3]<| .first 5 [6,7,8] [2,3]<| .fork 2 (.first 3 [7,8] [6]<| .fork 6 (.first 7 [8] []<| .fork 8 (.done) (.stop)) (.stop)) (.stop))]}
noncomputable def fc20:FCfg:={par:=[.cut 2],inn:=[],out:=[(1,some ([2],[]))],loopK:=[],frz:=[],sch:=[]}
noncomputable def fc21:FCfg:={par:=[.cut 2],inn:=[],out:=[(1,some ([2],[]))],loopK:=[],frz:=[],sch:=[(1,.first 0 [1,2,3,4,5,10,11,12] [6,7,8,9]<| .first 1 [2,3,4,5,10,11,12] [6,7,8,9]<| .first 2 [3,4,5,10,11,12] [6,7,8,9]<| .first 3 [4,5,10,11,12] [6,7,8,9]<| .first 6 (rg [7,13]) [4,5]<| .first 7 [8,9,10,11,12] [4,5]<| .first 8 [9,10,11,12] [4,5]<| .first 9 [10,11,12] [4,5]<| .fork 4 (.first 5 [11,12] [10]<| .fork 10 (.first 11 [12] []<| .fork 12 (.done) (.stop)) (.stop)) (.stop))]}
noncomputable def fc22:FCfg:={par:=[.cst false],inn:=[],out:=[(1,some ([2],[]))],loopK:=[],frz:=[],sch:=[]}
noncomputable def fc23:FCfg:={par:=[.cst false],inn:=[],out:=[],loopK:=[],frz:=[],sch:=[]}
noncomputable def fc33:FCfg:={par:=[.cst false,.cst false,.cst false],inn:=[],out:=[(1,some ([6],[]))],loopK:=[],frz:=[],sch:=[]}
noncomputable def fc34:FCfg:={par:=[.cst false],inn:=[(10,some ([0,3,4,5],[3])),(11,some ([0,3],[3])),(13,some ([3],[3])),(18,some ([6],[6]))],out:=[],loopK:=[(5,([0,3,4],[3])),(15,([3,6,7],[3,6]))],frz:=[],sch:=[]}
noncomputable def fc35:FCfg:={par:=[.cst false,.cst false,.cst false],inn:=[],out:=[(1,some ([6],[]))],loopK:=[],frz:=[],sch:=[]}
noncomputable def fcs:List (Nat×FCfg):=[(3,fc3),(6,fc6),(7,fc7),(8,fc8),(20,fc20),(21,fc21),(22,fc22),(23,fc23),(33,fc33),(34,fc34),(35,fc35)]
noncomputable def gpow:Nat:=(Tryd.prog.globalNamed powName).getD 0
noncomputable def ons:List (Nat×Bool):=[(3,true),(6,true),(7,true),(8,true),(20,true),(21,true),(22,true),(23,true),(33,true),(34,true),(35,true)]
noncomputable def cfg:Cfg:=mkCfg ons fcs [(36,some extFmt)] [] [(gpow,(·=powTab))]
theorem c3:cfg.fc 3=fc3:=rfl
instance C3:Cf cfg 3 fc3:=⟨c3⟩
instance Z3:Zf cfg 3:=⟨rfl⟩
theorem c6:cfg.fc 6=fc6:=rfl
instance C6:Cf cfg 6 fc6:=⟨c6⟩
instance Z6:Zf cfg 6:=⟨rfl⟩
theorem c7:cfg.fc 7=fc7:=rfl
instance C7:Cf cfg 7 fc7:=⟨c7⟩
instance Z7:Zf cfg 7:=⟨rfl⟩
theorem c8:cfg.fc 8=fc8:=rfl
instance C8:Cf cfg 8 fc8:=⟨c8⟩
instance Z8:Zf cfg 8:=⟨rfl⟩
theorem z8:(cfg.fc 8).frz=[]:=rfl
theorem c20:cfg.fc 20=fc20:=rfl
instance C20:Cf cfg 20 fc20:=⟨c20⟩
instance Z20:Zf cfg 20:=⟨rfl⟩
theorem c21:cfg.fc 21=fc21:=rfl
instance C21:Cf cfg 21 fc21:=⟨c21⟩
instance Z21:Zf cfg 21:=⟨rfl⟩
theorem z21:(cfg.fc 21).frz=[]:=rfl
theorem c22:cfg.fc 22=fc22:=rfl
instance C22:Cf cfg 22 fc22:=⟨c22⟩
instance Z22:Zf cfg 22:=⟨rfl⟩
theorem c23:cfg.fc 23=fc23:=rfl
instance C23:Cf cfg 23 fc23:=⟨c23⟩
instance Z23:Zf cfg 23:=⟨rfl⟩
theorem c33:cfg.fc 33=fc33:=rfl
instance C33:Cf cfg 33 fc33:=⟨c33⟩
instance Z33:Zf cfg 33:=⟨rfl⟩
theorem c34:cfg.fc 34=fc34:=rfl
instance C34:Cf cfg 34 fc34:=⟨c34⟩
instance Z34:Zf cfg 34:=⟨rfl⟩
theorem c35:cfg.fc 35=fc35:=rfl
instance C35:Cf cfg 35 fc35:=⟨c35⟩
instance Z35:Zf cfg 35:=⟨rfl⟩
noncomputable abbrev Pg:=Tryd.prog
theorem fF23_0:fieldF Pg 23 0=some 0:=kr
theorem fF23_1:fieldF Pg 23 1=some 1:=kr
theorem fF25_0:fieldF Pg 25 0=some 0:=kr
theorem fF25_1:fieldF Pg 25 1=some 1:=kr
theorem kF20_48:callK Pg cfg 20 0 [48]=[(.cut 2,[none])]:=kr
theorem kF21_48:callK Pg cfg 21 0 [48]=[(.cut 2,[none])]:=kr
theorem kF22_25:callK Pg cfg 22 0 [25]=[(.cst false,[none,none])]:=kr
theorem kF23_2:callK Pg cfg 23 0 [2]=[(.cst false,[none])]:=kr
theorem kF33_2_2_2:callK Pg cfg 33 0 [2,2,2]=[(.cst false,[none]),(.cst false,[none]),(.cst false,[none])]:=kr
theorem kF34_2:callK Pg cfg 34 0 [2]=[(.cst false,[none])]:=kr
theorem kF35_2_2_2:callK Pg cfg 35 0 [2,2,2]=[(.cst false,[none]),(.cst false,[none]),(.cst false,[none])]:=kr
theorem kF36_2_3:callK Pg cfg 36 0 [2,3]=[(.cst false,[none]),(.cst false,[none])]:=kr
theorem kF6_25:callK Pg cfg 6 0 [25]=[(.cst false,[none,none])]:=kr
theorem kF7_23:callK Pg cfg 7 0 [23]=[(.cst false,[none,none])]:=kr
theorem kF8_25:callK Pg cfg 8 0 [25]=[(.cst false,[none,none])]:=kr
theorem rF20:resK Pg (Tryd.f20.results.toList.zip Tryd.f20.resultTypes.toList)=[(.tmp 2,[none],none)]:=kr
theorem rF21:resK Pg (Tryd.f21.results.toList.zip Tryd.f21.resultTypes.toList)=[(.tmp 2,[none],none)]:=kr
theorem rF22:resK Pg (Tryd.f22.results.toList.zip Tryd.f22.resultTypes.toList)=[(.tmp 2,[none],none)]:=kr
theorem rF23:resK Pg (Tryd.f23.results.toList.zip Tryd.f23.resultTypes.toList)=[(.tmp 2,[none],none)]:=kr
theorem rF3:resK Pg (Tryd.f3.results.toList.zip Tryd.f3.resultTypes.toList)=[(.tmp 2,[none],none)]:=kr
theorem rF33:resK Pg (Tryd.f33.results.toList.zip Tryd.f33.resultTypes.toList)=[(.tmp 6,[none],none)]:=kr
theorem rF34:resK Pg (Tryd.f34.results.toList.zip Tryd.f34.resultTypes.toList)=[(.tmp 2,[none],none)]:=kr
theorem rF35:resK Pg (Tryd.f35.results.toList.zip Tryd.f35.resultTypes.toList)=[(.tmp 6,[none],none)]:=kr
theorem rF6:resK Pg (Tryd.f6.results.toList.zip Tryd.f6.resultTypes.toList)=[(.tmp 2,[none],none)]:=kr
theorem rF7:resK Pg (Tryd.f7.results.toList.zip Tryd.f7.resultTypes.toList)=[(.cell 2 25,[none,none],some (true,2))]:=kr
theorem rF8:resK Pg (Tryd.f8.results.toList.zip Tryd.f8.resultTypes.toList)=[(.tmp 2,[none],none)]:=kr
theorem sF32:sliceF Pg 32=some (5,1,[none],false,1,[.im 0 (.sc (.int .u8 0))]):=kr
theorem tF2:tyF Pg 2=some ([z0],[none],false,1):=kr
theorem tF23:tyF Pg 23=some ([z0,z0],[none,none],true,2):=kr
theorem tF25:tyF Pg 25=some ([z0,z0],[none,none],true,2):=kr
theorem tF5:tyF Pg 5=some ([.im 0 (.sc (.int .u8 0))],[none],false,1):=kr
theorem uF2:Pg.underlying 2=some (.int .i64):=kr
theorem uF32:Pg.underlying 32=some (.slice 5):=kr
theorem uF5:Pg.underlying 5=some (.int .u8):=kr
theorem uF9:Pg.underlying 9=some .string:=kr
abbrev FX (i:Nat) (a:List Arg) (r:Res×List Out):Prop:=FL Tryd.prog cfg i a=some r
theorem L_laws_toRoom {a_0:S_Room} {r:S_Room} (h:laws_toRoom a_0=some r):FX 7 [.im 2 true (u_S_Room a_0)] (B0 [(true,J 0 (u_S_Room r))]):=by
 unfold laws_toRoom at h
 refine gn 11 Tryd.func7 rfl ?_
 refine gs<|g0 j j (q (oBx j tF23 j (tkI (tkI tk0)))<|q (oAl j tF25 (tkI (tkI tk0)))<|nl)<|us<|gs<|g0 j j (q (oAl j tF25 (tkI (tkI tk0)))<|nl)<|us<|gs<|g0 j j (q (oFA (r':=.mp 1 0 0) j fF23_0 j j)<|q (oLd (cs:=[.im 0 _]) j tF2 j j)<|q (oFA (r':=.mp 3 0 0) j fF25_0 j j)<|q (oSt tF2 j j j (tkI tk0) j j j)<|nl)<|us<|gs<|g1 j j (mk [(1,M 1),(2,M 2),(3,M 3)] [(1,Oa (G 0 (u_S_Room a_0))),(2,Oa [C (I 0),C (I 0)]),(3,Oa [C (I a_0.Width),C (I 0)])]) (q (oFA (r':=.mp 1 0 1) j fF23_1 j j)<|q (oLd (cs:=[.im 0 _]) j tF2 j j)<|q (oFA (r':=.mp 3 0 1) j fF25_1 j j)<|q (oSt tF2 j j j (tkI tk0) j j j)<|nl)<|us<|gs<|g1 j j (mk [(2,M 2),(3,M 3)] [(2,Oa [C (I 0),C (I 0)]),(3,Oa (G 0 (u_S_Room a_0)))]) (q (oLd (cs:=[.im 0 _,.im 0 _]) j tF25 j j)<|q (oSt tF25 j j j (tkI (tkI tk0)) j j j)<|nl)<|us<|Go.ret (Unw.ret ?_)
 cases h
 exact fr rF7 j
theorem L_spec_l00In {n_0:Int} {low_1:Int} {high_2:Int} {r:Bool} (h:spec_l00In n_0 low_1 high_2=some r):FX 33 [.im 2 false [I n_0],.im 2 false [I low_1],.im 2 false [I high_2]] (B0 [(false,[.im 0 (V r)])]):=by
 unfold spec_l00In at h
 refine gn 15 Tryd.func33 rfl ?_
 refine gs<|g0 j j (q (oAsI j j)<|nl)<|us<|gs<|gX c33 j j j (mk [(6,bv ((decide (n_0≥low_1))&&(decide (n_0≤high_2))))] []) ?_ ?_
 ·refine xq (oMv j j)<|xq (oMv j j)<|xq (oBi j j j j)<|xq (oMv j j)<|?_
  by_cases hc1:n_0≥low_1
  ·exact xqT rfl rfl (iDec.2 hc1) (oMv rfl rfl)<|xqT rfl rfl (iDec.2 hc1) (oMv rfl rfl)<|xqT rfl rfl (iDec.2 hc1) (oBi rfl rfl rfl rfl)<|xq (oPkT rfl rfl (iDec.2 hc1) rfl)<|xq (oAsI rfl rfl)<|xn (Eq.trans (b:=(fun t_6_m1:Bool=>mk [(6,bv t_6_m1)] []) (decide (n_0≤high_2))) (by kernel_rfl) (congrArg (fun t_6_m1:Bool=>mk [(6,bv t_6_m1)] []) (by first | rfl | (simp [(iDec.2 hc1)];done) | (simp [(iDec.2 hc1)];omega))))
  ·exact xsgF rfl rfl (byF iDec hc1) rfl<|xsgF rfl rfl (byF iDec hc1) rfl<|xsgF rfl rfl (byF iDec hc1) rfl<|xq (oPkF rfl rfl (byF iDec hc1) rfl)<|xq (oAsI rfl rfl)<|xn (Eq.trans (b:=(fun t_6_m1:Bool=>mk [(6,bv t_6_m1)] []) false) (by kernel_rfl) (congrArg (fun t_6_m1:Bool=>mk [(6,bv t_6_m1)] []) (by first | rfl | (simp [(byF iDec hc1)];done) | (simp [(byF iDec hc1)];omega))))
 ·refine us<|Go.ret (Unw.ret ?_)
  cases h
  exact fr rF33 j
theorem L_spec_l30Room {r_0:S_Room} {r:Bool} (h:spec_l30Room r_0=some r):FX 20 [.im 2 false [.cp (u_S_Room r_0) 0]] (B0 [(false,[.im 0 (V r)])]):=by
 unfold spec_l30Room at h
 refine gn 15 Tryd.func20 rfl ?_
 refine gs<|g0 j j (q (oAsI j j)<|nl)<|us<|gs<|?_
 obtain ⟨x7,hx7,h⟩:=bs h
 obtain ⟨t_2_m1,hm2,h⟩:=bs h
 refine gX c20 j j j (mk [(2,bv t_2_m1)] []) ?_ ?_
 ·refine xq (oMv j j)<|xq (oNl j j j)<|xq (oFA (r':=.im 2 _) j fF25_0 j j)<|xq (oLd (cs:=[.im 2 _]) j tF2 j j)<|xq (oCa (xs:=[.v false [.im 2 _],.v false [.im 0 _],.v false [.im 0 _]]) (vs:=[(false,[.im 0 _])]) (v:=.v false [.im 0 _]) (L_spec_l00In hx7) (.inl j) j kF33_2_2_2 j (ppC j (ppC j (ppC j pp0))) j j pb0 j j j)<|xq (oMv j j)<|?_
  refine ic hm2 (fun hc1 hm2=>?_) fun hc1 hm2=>?_
  ·obtain ⟨x13,hx13,hm2⟩:=bs hm2
   cases hm2
   exact xqT j j (iR.2 hc1) (oMv j j)<|xqT j j (iR.2 hc1) (oNl j j j)<|xqT j j (iR.2 hc1) (oFA (r':=.im 2 _) j fF25_1 j j)<|xqT j j (iR.2 hc1) (oLd (cs:=[.im 2 _]) j tF2 j j)<|xqT j j (iR.2 hc1) (oCa (xs:=[.v false [.im 2 _],.v false [.im 0 _],.v false [.im 0 _]]) (vs:=[(false,[.im 0 _])]) (v:=.v false [.im 0 _]) (L_spec_l00In hx13) (.inl j) j kF33_2_2_2 j (ppC j (ppC j (ppC j pp0))) j j pb0 j j j)<|xq (oPkT j j (iR.2 hc1) j)<|xq (oAsI j j)<|xn
  ·cases hm2
   exact xsgF j j (byF iR hc1) j<|xsgF j j (byF iR hc1) j<|xsgF j j (byF iR hc1) j<|xsgF j j (byF iR hc1) j<|xsgF j j (byF iR hc1) j<|xq (oPkF j j (byF iR hc1) j)<|xq (oAsI j j)<|xn
 ·refine us<|Go.ret (Unw.ret ?_)
  cases h
  exact fr rF20 j
theorem L_spec_l01Dec {n_0:Int} {r:ByteArray} (h:spec_l01Dec n_0=some r):FX 34 [.im 2 false [I n_0]] (B0 [(false,[.im 0 (Y r)])]):=by
 unfold spec_l01Dec at h
 refine gn 50 Tryd.func34 rfl ?_
 refine gs<|g0 j j (q (oAsI j j)<|nl)<|us<|gs<|gs<|g0 j j (q (oMv j j)<|q (oBi j j j j)<|nl)<|us<|gc h j iEq (fun hc1 h=>?_) fun hc1 h=>?_
 ·refine gs<|g0 j j (q (oAsI j j)<|nl)<|us<|Go.ret (Unw.ret ?_)
  cases h
  exact fr rF34 j
 ·refine Go.skip<|us<|gs<|g0 j j (q (oBS (es:=List.map (eK .u8) ([]:List Int)) j sF32 j pt0 (flat0 j fun _=>j))<|q (oAsO j j j j j)<|nl)<|us<|gs<|gs<|g0 j j (q (oMv j j)<|q (oAsI j j)<|nl)<|us<|Go.block<|?_
  obtain ⟨o,hl,h⟩:=bs h
  refine gl c34 j _ (fun (s:(Int×(List Int)))=>match s with | (m_4_l5,digits_o3_l5)=>mk [(0,iv n_0),(3,H 3 0),(4,iv m_4_l5)] [(3,Oc [Z (W 1 (eK .u8) digits_o3_l5)])]) (fun (digits_o3_e0_5:(List Int)) (p:Ex×St)=>p.1= .exit 0∧p.2.norm ([0,3],[3])=mk [(0,iv n_0),(3,H 3 0)] [(3,Oc [Z (W 1 (eK .u8) digits_o3_e0_5)])]) hl (by kernel_rfl) ?_ ?_ ?_
  ·intro o p hp e
   exact nomatch (hp.1.symm.trans e)
  ·rintro ⟨m_4_l5,digits_o3_l5⟩ o h
   unfold spec_l01Dec_l5 at h
   dsimp only at h
   refine gs<|gs<|g0 j j (q (oMv j j)<|q (oBi j j j j)<|nl)<|us<|gc h j iNe (fun hc12 h=>?_) fun hc12 h=>?_
   ·refine Go.skip<|us<|gs<|Go.block<|gs<|?_
    obtain ⟨x17,hx17,h⟩:=bs h
    refine g0 j j (q (oMv j j)<|q (oRem j hx17 j j)<|q (oAsI j j)<|nl)<|us<|gs<|gs<|g0 j j (q (oMv j j)<|q (oBi j j j j)<|nl)<|us<|Go.join (fun st=>∃d_5_r10,spec_l01Dec_k10 digits_o3_l5 m_4_l5 d_5_r10=some o∧st.norm ([0,3,4,5],[3])=mk [(0,iv n_0),(3,H 3 0),(4,iv m_4_l5),(5,iv d_5_r10)] [(3,Oc [Z (W 1 (eK .u8) digits_o3_l5)])]) ?_ ?_
    ·rintro st ⟨d_5_r10,h,hst⟩
     unfold spec_l01Dec_k10 at h
     refine us<|?_
     obtain ⟨x27,hx27,h⟩:=bs h
     refine g2 c34 j j hst (q (oMv j j)<|q (oMv j j)<|q (oBi j j j j)<|q (oCvI j uF2 uF5 j)<|q (oBS (es:=List.map (eK .u8) ([(IntKind.wrap .u8 ((w64 (48+d_5_r10))))]:List Int)) j sF32 j (ptC j (fxI fx0) j pt0) (flat0 j fun _=>j))<|q (oApO (en:=(eK .u8)) (M:=([(IntKind.wrap .u8 ((w64 (48+d_5_r10))))]:List Int)) j hx27 j sF32 j j uF32 (.inl ⟨_,j⟩) j j j j (el_own j j) (flat0 j fun _=>j))<|q (oAsO j j j j j)<|nl)<|Unw.blk<|us<|?_
     obtain ⟨x15,hx15,h⟩:=bs h
     refine g0 j j (q (oMv j j)<|q (oQuo j hx15 j j)<|q (oAsI j j)<|nl)<|Unw.nil<|?_
     cases h
     exact ⟨j,(by kernel_rfl)⟩
    ·intro K14
     refine gc h j iDec (fun hc15 h=>?_) fun hc15 h=>?_
     ·exact g0 j j (q (oMv j j)<|q (oUn j j j)<|q (oAsI j j)<|nl)<|K14 _ ⟨(w64 (0 - x17)),h,(by kernel_rfl)⟩
     ·exact Go.skip<|K14 _ ⟨x17,h,(by kernel_rfl)⟩
   ·refine Go.exit<|ux<|Unw.nil<|?_
    cases h
    exact ⟨j,(by kernel_rfl)⟩
  ·rintro ⟨e,st⟩ hp
   obtain ⟨digits_o3_e0_5,rfl⟩:∃y,y=o:=⟨o,rfl⟩
   obtain ⟨he,hst⟩:=hp
   obtain rfl:e= .exit 0:=he
   refine Unw.blkx<|us<|gs<|gs<|g2 c34 j j hst (q (oMv j j)<|q (oBi j j j j)<|nl)<|us<|Go.join (fun st=>∃digits_o3_r13,spec_l01Dec_k13 digits_o3_r13=some r∧st.norm ([3],[3])=mk [(3,H 3 0)] [(3,Oc [Z (W 1 (eK .u8) digits_o3_r13)])]) ?_ ?_
   ·rintro st ⟨digits_o3_r13,h,hst⟩
    unfold spec_l01Dec_k13 at h
    refine us<|gs<|g2 c34 j j hst (q (oBS (es:=List.map (eK .u8) ([]:List Int)) j sF32 j pt0 (flat0 j fun _=>j))<|q (oAsO j j j j j)<|nl)<|us<|gs<|gs<|g0 j j (q (oMv j j)<|q (oLnO j j uF32 j j j (fun e=>nomatch e))<|q (oBi j j j j)<|q (oAsI j j)<|nl)<|us<|Go.block<|?_
    obtain ⟨o,hl,h⟩:=bs h
    refine gl c34 j _ (fun (s:(Int×(List Int)))=>match s with | (i_7_l15,out_o6_l15)=>mk [(3,H 3 0),(6,H 6 0),(7,iv i_7_l15)] [(3,Oc [Z (W 1 (eK .u8) digits_o3_r13)]),(6,Oc [Z (W 1 (eK .u8) out_o6_l15)])]) (fun (out_o6_e2_15:(List Int)) (p:Ex×St)=>p.1= .exit 2∧p.2.norm ([6],[6])=mk [(6,H 6 0)] [(6,Oc [Z (W 1 (eK .u8) out_o6_e2_15)])]) hl (by kernel_rfl) ?_ ?_ ?_
    ·intro o p hp e
     exact nomatch (hp.1.symm.trans e)
    ·rintro ⟨i_7_l15,out_o6_l15⟩ o h
     unfold spec_l01Dec_l15 at h
     dsimp only at h
     refine gs<|gs<|g0 j j (q (oMv j j)<|q (oBi j j j j)<|nl)<|us<|gc h j iDec (fun hc9 h=>?_) fun hc9 h=>?_
     ·refine Go.skip<|us<|gs<|Go.block<|?_
      obtain ⟨x44,hx44,h⟩:=bs h
      obtain ⟨x47,hx47,h⟩:=bs h
      refine g0 j j (q (oMv j j)<|q (oMv j j)<|q (oMv j j)<|q (oIAO j hx44 sF32 j j j j)<|q (oLdE (cs:=[.im 0 _]) j tF5 j j j j (rd_get hx44) j j)<|q (oBS (es:=List.map (eK .u8) ([x44]:List Int)) j sF32 j (ptC j (fxI fx0) j pt0) (flat0 j fun _=>j))<|q (oApO (en:=(eK .u8)) (M:=([x44]:List Int)) j hx47 j sF32 j j uF32 (.inl ⟨_,j⟩) j j j j (el_own j j) (flat0 j fun _=>j))<|q (oAsO j j j j j)<|nl)<|Unw.blk<|us<|g0 j j (q (oMv j j)<|q (oBi j j j j)<|q (oAsI j j)<|nl)<|Unw.nil<|?_
      cases h
      exact ⟨j,(by kernel_rfl)⟩
     ·refine Go.exit<|ux<|Unw.nil<|?_
      cases h
      exact ⟨j,(by kernel_rfl)⟩
    ·rintro ⟨e,st⟩ hp
     obtain ⟨out_o6_e2_15,rfl⟩:∃y,y=o:=⟨o,rfl⟩
     obtain ⟨he,hst⟩:=hp
     obtain rfl:e= .exit 2:=he
     refine Unw.blkx<|us<|gs<|g2 c34 j j hst (q (oMv j j)<|q (oCvB (l:=out_o6_e2_15) j uF32 uF5 uF9 j (el_own j j))<|q (oAsI j j)<|nl)<|us<|Go.ret (Unw.ret ?_)
     cases h
     exact fr rF34 j
   ·intro K10
    refine gc h j iDec (fun hc11 h=>?_) fun hc11 h=>?_
    ·obtain ⟨x32,hx32,h⟩:=bs h
     exact g0 j j (q (oMv j j)<|q (oBS (es:=List.map (eK .u8) ([45]:List Int)) j sF32 j (ptC j (fxI fx0) j pt0) (flat0 j fun _=>j))<|q (oApO (en:=(eK .u8)) (M:=([45]:List Int)) j hx32 j sF32 j j uF32 (.inl ⟨_,j⟩) j j j j (el_own j j) (flat0 j fun _=>j))<|q (oAsO j j j j j)<|nl)<|K10 _ ⟨x32,h,(by kernel_rfl)⟩
    ·exact Go.skip<|K10 _ ⟨digits_o3_e0_5,h,(by kernel_rfl)⟩
theorem L_spec_l30Text {r_0:S_Room} {r:ByteArray} (h:spec_l30Text r_0=some r):FX 21 [.im 2 false [.cp (u_S_Room r_0) 0]] (B0 [(false,[.im 0 (Y r)])]):=by
 unfold spec_l30Text at h
 refine gn 15 Tryd.func21 rfl ?_
 refine gs<|g0 j j (q (oAsI j j)<|nl)<|us<|gs<|?_
 obtain ⟨x7,hx7,h⟩:=bs h
 obtain ⟨x8,hx8,h⟩:=bs h
 obtain ⟨x13,hx13,h⟩:=bs h
 obtain ⟨x14,hx14,h⟩:=bs h
 refine gd c21 j j j j (mk [(2,sv x14)] []) (t j j (oMv j j)<|t j j (oNl j j j)<|t j j (oFA (r':=.im 2 _) j fF25_0 j j)<|t j j (oLd (cs:=[.im 2 _]) j tF2 j j)<|t j j (oMv j j)<|t j j (oNl j j j)<|t j j (oFA (r':=.im 2 _) j fF25_1 j j)<|t j j (oLd (cs:=[.im 2 _]) j tF2 j j)<|sS (dN z21 j (oCa (xs:=[.v false [.im 2 _]]) (vs:=[(false,[.im 0 _])]) (v:=.v false [.im 0 _]) (L_spec_l01Dec hx7) (.inl j) j kF34_2 j (ppC j pp0) j j pb0 j j j)) trivial (t j j (oCat j hx8 j j)<|sS (dN z21 j (oCa (xs:=[.v false [.im 2 _]]) (vs:=[(false,[.im 0 _])]) (v:=.v false [.im 0 _]) (L_spec_l01Dec hx13) (.inl j) j kF34_2 j (ppC j pp0) j j pb0 j j j)) trivial (t j j (oCat j hx14 j j)<|sS (dN z21 j (oAsI j j)) trivial (sD (by kernel_rfl)))))<|us<|Go.ret (Unw.ret ?_)
 cases h
 exact fr rF21 j
theorem L_spec_RoomText {r_0:S_Room} {r:ByteArray} (h:spec_RoomText r_0=some r):FX 6 [.im 2 true (u_S_Room r_0)] (B0 [(false,[.im 0 (Y r)])]):=by
 unfold spec_RoomText at h
 refine gn 6 Tryd.func6 rfl ?_
 refine gs<|g0 j j (q (oBx j tF25 j (tkI (tkI tk0)))<|q (oAsI j j)<|nl)<|us<|gs<|gs<|?_
 obtain ⟨x3,hx3,h⟩:=bs h
 refine g0 j j (q (oCa (xs:=[.v false [.mp 1 0 0]]) (vs:=[(false,[.im 0 _])]) (v:=.v false [.im 0 _]) (L_spec_l30Room hx3) (.inl j) j kF20_48 j (ppC j pp0) j j pb0 j j j)<|q (oUn j j j)<|nl)<|us<|?_
 by_cases hc1:x3=true
 ·rw [if_pos hc1] at h
  refine gF j (nF (iR.2 hc1))<|Go.skip<|us<|gs<|?_
  obtain ⟨x5,hx5,h⟩:=bs h
  refine g0 j j (q (oCa (xs:=[.v false [.mp 1 0 0]]) (vs:=[(false,[.im 0 _])]) (v:=.v false [.im 0 _]) (L_spec_l30Text hx5) (.inl j) j kF21_48 j (ppC j pp0) j j pb0 j j j)<|q (oAsI j j)<|nl)<|us<|Go.ret (Unw.ret ?_)
  cases h
  exact fr rF6 j
 ·rw [if_neg hc1] at h
  refine gT j (nT (byF iR hc1))<|gs<|g0 j j (q (oAsI j j)<|nl)<|us<|Go.ret (Unw.ret ?_)
  cases h
  exact fr rF6 j
theorem L_impl_within {n_0:Int} {low_1:Int} {high_2:Int} {r:Bool} (h:impl_within n_0 low_1 high_2=some r):FX 35 [.im 2 false [I n_0],.im 2 false [I low_1],.im 2 false [I high_2]] (B0 [(false,[.im 0 (V r)])]):=by
 unfold impl_within at h
 refine gn 15 Tryd.func35 rfl ?_
 refine gs<|g0 j j (q (oAsI j j)<|nl)<|us<|gs<|gX c35 j j j (mk [(6,bv ((decide (n_0≥low_1))&&(decide (n_0≤high_2))))] []) ?_ ?_
 ·refine xq (oMv j j)<|xq (oMv j j)<|xq (oBi j j j j)<|xq (oMv j j)<|?_
  by_cases hc1:n_0≥low_1
  ·exact xqT rfl rfl (iDec.2 hc1) (oMv rfl rfl)<|xqT rfl rfl (iDec.2 hc1) (oMv rfl rfl)<|xqT rfl rfl (iDec.2 hc1) (oBi rfl rfl rfl rfl)<|xq (oPkT rfl rfl (iDec.2 hc1) rfl)<|xq (oAsI rfl rfl)<|xn (Eq.trans (b:=(fun t_6_m1:Bool=>mk [(6,bv t_6_m1)] []) (decide (n_0≤high_2))) (by kernel_rfl) (congrArg (fun t_6_m1:Bool=>mk [(6,bv t_6_m1)] []) (by first | rfl | (simp [(iDec.2 hc1)];done) | (simp [(iDec.2 hc1)];omega))))
  ·exact xsgF rfl rfl (byF iDec hc1) rfl<|xsgF rfl rfl (byF iDec hc1) rfl<|xsgF rfl rfl (byF iDec hc1) rfl<|xq (oPkF rfl rfl (byF iDec hc1) rfl)<|xq (oAsI rfl rfl)<|xn (Eq.trans (b:=(fun t_6_m1:Bool=>mk [(6,bv t_6_m1)] []) false) (by kernel_rfl) (congrArg (fun t_6_m1:Bool=>mk [(6,bv t_6_m1)] []) (by first | rfl | (simp [(byF iDec hc1)];done) | (simp [(byF iDec hc1)];omega))))
 ·refine us<|Go.ret (Unw.ret ?_)
  cases h
  exact fr rF35 j
theorem L_impl_ValidRoom {r_0:S_Room} {r:Bool} (h:impl_ValidRoom r_0=some r):FX 22 [.im 2 true (u_S_Room r_0)] (B0 [(false,[.im 0 (V r)])]):=by
 unfold impl_ValidRoom at h
 refine gn 11 Tryd.func22 rfl ?_
 refine gs<|g0 j j (q (oBx j tF25 j (tkI (tkI tk0)))<|q (oAsI j j)<|nl)<|us<|gs<|?_
 obtain ⟨x5,hx5,h⟩:=bs h
 obtain ⟨t_2_m1,hm2,h⟩:=bs h
 refine gX c22 j j j (mk [(2,bv t_2_m1)] []) ?_ ?_
 ·refine xq (oFA (r':=.mp 1 0 0) j fF25_0 j j)<|xq (oLd (cs:=[.im 0 _]) j tF2 j j)<|xq (oCa (xs:=[.v false [.im 0 _],.v false [.im 0 _],.v false [.im 0 _]]) (vs:=[(false,[.im 0 _])]) (v:=.v false [.im 0 _]) (L_impl_within hx5) (.inl j) j kF35_2_2_2 j (ppC j (ppC j (ppC j pp0))) j j pb0 j j j)<|xq (oMv j j)<|?_
  refine ic hm2 (fun hc1 hm2=>?_) fun hc1 hm2=>?_
  ·obtain ⟨x9,hx9,hm2⟩:=bs hm2
   cases hm2
   exact xqT j j (iR.2 hc1) (oFA (r':=.mp 1 0 1) j fF25_1 j j)<|xqT j j (iR.2 hc1) (oLd (cs:=[.im 0 _]) j tF2 j j)<|xqT j j (iR.2 hc1) (oCa (xs:=[.v false [.im 0 _],.v false [.im 0 _],.v false [.im 0 _]]) (vs:=[(false,[.im 0 _])]) (v:=.v false [.im 0 _]) (L_impl_within hx9) (.inl j) j kF35_2_2_2 j (ppC j (ppC j (ppC j pp0))) j j pb0 j j j)<|xq (oPkT j j (iR.2 hc1) j)<|xq (oAsI j j)<|xn
  ·cases hm2
   exact xsgF j j (byF iR hc1) j<|xsgF j j (byF iR hc1) j<|xsgF j j (byF iR hc1) j<|xq (oPkF j j (byF iR hc1) j)<|xq (oAsI j j)<|xn
 ·refine us<|Go.ret (Unw.ret ?_)
  cases h
  exact fr rF22 j
theorem L_impl_Decimal {n_0:Int} {r:ByteArray} (h:impl_Decimal n_0=some r):FX 23 [.im 2 false [I n_0]] (B0 [(false,[.im 0 (Y r)])]):=by
 unfold impl_Decimal at h
 refine gn 5 Tryd.func23 rfl ?_
 refine gs<|g0 j j (q (oAsI j j)<|nl)<|us<|gs<|?_
 obtain ⟨x4,hx4,h⟩:=bs h
 refine g0 j j (q (oMv j j)<|q (oCa (xs:=[.v false [.im 2 _],.v false [.im 0 _]]) (vs:=[(false,[.im 0 _])]) (v:=.v false [.im 0 _]) (FL_fmt j hx4) (.inl j) j kF36_2_3 j (ppC j (ppC j pp0)) j j pb0 j j j)<|q (oAsI j j)<|nl)<|us<|Go.ret (Unw.ret ?_)
 cases h
 exact fr rF23 j
theorem L_impl_RoomText {r_0:S_Room} {r:ByteArray} (h:impl_RoomText r_0=some r):FX 8 [.im 2 true (u_S_Room r_0)] (B0 [(false,[.im 0 (Y r)])]):=by
 unfold impl_RoomText at h
 refine gn 14 Tryd.func8 rfl ?_
 refine gs<|g0 j j (q (oBx j tF25 j (tkI (tkI tk0)))<|q (oAsI j j)<|nl)<|us<|gs<|gs<|?_
 obtain ⟨x4,hx4,h⟩:=bs h
 refine g0 j j (q (oLd (cs:=[.im 0 _,.im 0 _]) j tF25 j j)<|q (oCa (xs:=[.v true [.im 0 _,.im 0 _]]) (vs:=[(false,[.im 0 _])]) (v:=.v false [.im 0 _]) (L_impl_ValidRoom hx4) (.inl j) j kF22_25 j (ppC j pp0) j j pb0 j j j)<|q (oUn j j j)<|nl)<|us<|?_
 by_cases hc1:x4=true
 ·rw [if_pos hc1] at h
  refine gF j (nF (iR.2 hc1))<|Go.skip<|us<|gs<|?_
  obtain ⟨x8,hx8,h⟩:=bs h
  obtain ⟨x9,hx9,h⟩:=bs h
  obtain ⟨x12,hx12,h⟩:=bs h
  obtain ⟨x13,hx13,h⟩:=bs h
  refine gd c8 j j j j (mk [(2,sv x13)] []) (t j j (oFA (r':=.mp 1 0 0) j fF25_0 j j)<|t j j (oLd (cs:=[.im 0 _]) j tF2 j j)<|t j j (oFA (r':=.mp 1 0 1) j fF25_1 j j)<|t j j (oLd (cs:=[.im 0 _]) j tF2 j j)<|sS (dN z8 j (oCa (xs:=[.v false [.im 0 _]]) (vs:=[(false,[.im 0 _])]) (v:=.v false [.im 0 _]) (L_impl_Decimal hx8) (.inl j) j kF23_2 j (ppC j pp0) j j pb0 j j j)) trivial (t j j (oCat j hx9 j j)<|sS (dN z8 j (oCa (xs:=[.v false [.im 0 _]]) (vs:=[(false,[.im 0 _])]) (v:=.v false [.im 0 _]) (L_impl_Decimal hx12) (.inl j) j kF23_2 j (ppC j pp0) j j pb0 j j j)) trivial (t j j (oCat j hx13 j j)<|sS (dN z8 j (oAsI j j)) trivial (sD (by kernel_rfl)))))<|us<|Go.ret (Unw.ret ?_)
  cases h
  exact fr rF8 j
 ·rw [if_neg hc1] at h
  refine gT j (nT (byF iR hc1))<|gs<|g0 j j (q (oAsI j j)<|nl)<|us<|Go.ret (Unw.ret ?_)
  cases h
  exact fr rF8 j
theorem L_laws_FnExactRoomText {aR_0:S_Room} {r:Bool} (h:laws_FnExactRoomText aR_0=some r):FX 3 [.im 2 true (u_S_Room aR_0)] (B0 [(false,[.im 0 (V r)])]):=by
 unfold laws_FnExactRoomText at h
 refine gn 14 Tryd.func3 rfl ?_
 refine gs<|g0 j j (q (oBx j tF23 j (tkI (tkI tk0)))<|q (oAsI j j)<|nl)<|us<|gs<|?_
 obtain ⟨x6,hx6,h⟩:=bs h
 obtain ⟨x7,hx7,h⟩:=bs h
 refine g0 j j (q (oLd (cs:=[.im 0 _,.im 0 _]) j tF23 j j)<|q (oCa (xs:=[.v true [.im 0 _,.im 0 _]]) (vs:=[(true,[.im 0 _,.im 0 _])]) (v:=.v true [.im 0 _,.im 0 _]) (L_laws_toRoom hx6) (.inl j) j kF7_23 j (ppC j pp0) j j pb0 j j j)<|q (oCa (xs:=[.v true [.im 0 _,.im 0 _]]) (vs:=[(false,[.im 0 _])]) (v:=.v false [.im 0 _]) (L_spec_RoomText hx7) (.inl j) j kF6_25 j (ppC j pp0) j j pb0 j j j)<|q (oAsI j j)<|nl)<|us<|gs<|?_
 obtain ⟨x9,hx9,h⟩:=bs h
 obtain ⟨x10,hx10,h⟩:=bs h
 refine g0 j j (q (oLd (cs:=[.im 0 _,.im 0 _]) j tF23 j j)<|q (oCa (xs:=[.v true [.im 0 _,.im 0 _]]) (vs:=[(true,[.im 0 _,.im 0 _])]) (v:=.v true [.im 0 _,.im 0 _]) (L_laws_toRoom hx9) (.inl j) j kF7_23 j (ppC j pp0) j j pb0 j j j)<|q (oCa (xs:=[.v true [.im 0 _,.im 0 _]]) (vs:=[(false,[.im 0 _])]) (v:=.v false [.im 0 _]) (L_impl_RoomText hx10) (.inl j) j kF8_25 j (ppC j pp0) j j pb0 j j j)<|q (oAsI j j)<|nl)<|us<|gs<|gs<|g0 j j (q (oMv j j)<|q (oMv j j)<|q (oBi j j j j)<|nl)<|us<|gc h j (iNot iStr) (fun hc1 h=>?_) fun hc1 h=>?_
 ·refine gs<|g0 j j (q (oAsI j j)<|nl)<|us<|Go.ret (Unw.ret ?_)
  cases h
  exact fr rF3 j
 ·refine Go.skip<|us<|gs<|g0 j j (q (oAsI j j)<|nl)<|us<|Go.ret (Unw.ret ?_)
  cases h
  exact fr rF3 j
end
end Go.Proofs.YthdegfgajfgggaaDoor
