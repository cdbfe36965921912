/- The machine answers, at each function of the program that is reached, what its plain function answers. Conditions: none. -/
import Derived.Test.YthdegfgajfgggaaDoorProg
import Derived.KernelRfl
import Derived.Test.YthdegfgajfgggaaDoorSimRs
import Derived.Test.YthdegfgajfgggaaDoorSimRu
import Derived.Test.YthdegfgajfgggaaDoorTrrT
namespace Go.Proofs.YthdegfgajfgggaaDoor
open Go Go.Sim Go.Pw Go.Proofs
set_option linter.unusedVariables false
set_option linter.unusedSimpArgs false
set_option maxRecDepth 100000
set_option maxHeartbeats 4000000
noncomputable section
noncomputable abbrev u_S_Room (x:S_Room):List AV:=[I x.Width,I x.Length]
noncomputable def fc4:FCfg:={par:=[.cst false],inn:=[(4,some ([0,3,4],[3])),(5,some ([3,4,5,6],[3,5]))],out:=[(5,some ([28],[]))],loopK:=[],frz:=[],sch:=[]}
noncomputable def fc9:FCfg:={par:=[.cst false],inn:=[],out:=[],loopK:=[],frz:=[],sch:=[]}
noncomputable def fc10:FCfg:={par:=[.cst false],inn:=[(3,some ([2,6,7],[2,7]))],out:=[(3,some ([2,7,23],[2,7]))],loopK:=[],frz:=[],sch:=[]}
noncomputable def fc11:FCfg:={par:=[.cst false,.cst false],inn:=[],out:=[],loopK:=[],frz:=[],sch:=[]}
noncomputable def fc20:FCfg:={par:=[.cut 2],inn:=[],out:=[(1,some ([2],[]))],loopK:=[],frz:=[],sch:=[]}
noncomputable def fc22:FCfg:={par:=[.cst false],inn:=[],out:=[(1,some ([2],[]))],loopK:=[],frz:=[],sch:=[]}
noncomputable def fc23:FCfg:={par:=[.cst false],inn:=[],out:=[],loopK:=[],frz:=[],sch:=[]}
noncomputable def fc24:FCfg:={par:=[.cst false],inn:=[(7,some ([2,6,8,9],[2,9]))],out:=[(7,some ([2,9,42],[2,9]))],loopK:=[],frz:=[],sch:=[]}
noncomputable def fc25:FCfg:={par:=[.cst false],inn:=[],out:=[(4,some ([2,3,4],[]))],loopK:=[],frz:=[],sch:=[]}
noncomputable def fc33:FCfg:={par:=[.cst false,.cst false,.cst false],inn:=[],out:=[(1,some ([6],[]))],loopK:=[],frz:=[],sch:=[]}
noncomputable def fc35:FCfg:={par:=[.cst false,.cst false,.cst false],inn:=[],out:=[(1,some ([6],[]))],loopK:=[],frz:=[],sch:=[]}
noncomputable def fc37:FCfg:={par:=[.cst false,.cst false],inn:=[(5,some ([0,1,5,6,7],[5])),(9,some ([0,5,6],[5]))],out:=[],loopK:=[(4,([0,1,5,6,7],[5]))],frz:=[],sch:=[]}
noncomputable def fc38:FCfg:={par:=[.cst false],inn:=[(4,some ([0,4],[])),(13,some ([4,5],[])),(15,some ([5],[]))],out:=[(2,some ([0,4,14],[])),(4,some ([0,4,36],[]))],loopK:=[(8,([0,4,5,6],[]))],frz:=[],sch:=[]}
noncomputable def fc40:FCfg:={par:=[.cst false],inn:=[(4,some ([0,4],[])),(13,some ([0,4,5],[])),(15,some ([0,5],[]))],out:=[(4,some ([0,4,19],[])),(10,some ([0,4,5,6,35],[]))],loopK:=[(8,([0,4,5,6],[]))],frz:=[],sch:=[]}
noncomputable def fc48:FCfg:={par:=[.cst false],inn:=[],out:=[(1,some ([2],[]))],loopK:=[],frz:=[],sch:=[]}
noncomputable def fc50:FCfg:={par:=[.cst false,.cst false],inn:=[],out:=[],loopK:=[],frz:=[],sch:=[]}
noncomputable def fc57:FCfg:={par:=[.cst false,.cst false],inn:=[],out:=[(1,some ([4],[]))],loopK:=[],frz:=[],sch:=[]}
noncomputable def fcs:List (Nat×FCfg):=[(4,fc4),(9,fc9),(10,fc10),(11,fc11),(20,fc20),(22,fc22),(23,fc23),(24,fc24),(25,fc25),(33,fc33),(35,fc35),(37,fc37),(38,fc38),(40,fc40),(48,fc48),(50,fc50),(57,fc57)]
noncomputable def gmax:Nat:=(Tryd.prog.globalNamed "internal/bytealg.MaxLen").getD 0
noncomputable def gpow:Nat:=(Tryd.prog.globalNamed powName).getD 0
noncomputable def ons:List (Nat×Bool):=[(4,true),(9,true),(10,true),(11,true),(20,true),(22,true),(23,true),(24,true),(25,true),(33,true),(35,true),(37,true),(38,true),(40,true),(48,true),(50,true),(57,true)]
noncomputable def cfg:Cfg:=mkCfg ons fcs [(36,some extFmt),(39,some extCut)] [] [(gpow,(·=powTab)),(gmax,isNum)]
theorem c4:cfg.fc 4=fc4:=rfl
instance C4:Cf cfg 4 fc4:=⟨c4⟩
instance Z4:Zf cfg 4:=⟨rfl⟩
theorem c9:cfg.fc 9=fc9:=rfl
instance C9:Cf cfg 9 fc9:=⟨c9⟩
instance Z9:Zf cfg 9:=⟨rfl⟩
theorem c10:cfg.fc 10=fc10:=rfl
instance C10:Cf cfg 10 fc10:=⟨c10⟩
instance Z10:Zf cfg 10:=⟨rfl⟩
theorem c11:cfg.fc 11=fc11:=rfl
instance C11:Cf cfg 11 fc11:=⟨c11⟩
instance Z11:Zf cfg 11:=⟨rfl⟩
theorem c20:cfg.fc 20=fc20:=rfl
instance C20:Cf cfg 20 fc20:=⟨c20⟩
instance Z20:Zf cfg 20:=⟨rfl⟩
theorem c22:cfg.fc 22=fc22:=rfl
instance C22:Cf cfg 22 fc22:=⟨c22⟩
instance Z22:Zf cfg 22:=⟨rfl⟩
theorem c23:cfg.fc 23=fc23:=rfl
instance C23:Cf cfg 23 fc23:=⟨c23⟩
instance Z23:Zf cfg 23:=⟨rfl⟩
theorem c24:cfg.fc 24=fc24:=rfl
instance C24:Cf cfg 24 fc24:=⟨c24⟩
instance Z24:Zf cfg 24:=⟨rfl⟩
theorem c25:cfg.fc 25=fc25:=rfl
instance C25:Cf cfg 25 fc25:=⟨c25⟩
instance Z25:Zf cfg 25:=⟨rfl⟩
theorem c33:cfg.fc 33=fc33:=rfl
instance C33:Cf cfg 33 fc33:=⟨c33⟩
instance Z33:Zf cfg 33:=⟨rfl⟩
theorem c35:cfg.fc 35=fc35:=rfl
instance C35:Cf cfg 35 fc35:=⟨c35⟩
instance Z35:Zf cfg 35:=⟨rfl⟩
theorem c37:cfg.fc 37=fc37:=rfl
instance C37:Cf cfg 37 fc37:=⟨c37⟩
instance Z37:Zf cfg 37:=⟨rfl⟩
theorem c38:cfg.fc 38=fc38:=rfl
instance C38:Cf cfg 38 fc38:=⟨c38⟩
instance Z38:Zf cfg 38:=⟨rfl⟩
theorem c40:cfg.fc 40=fc40:=rfl
instance C40:Cf cfg 40 fc40:=⟨c40⟩
instance Z40:Zf cfg 40:=⟨rfl⟩
theorem c48:cfg.fc 48=fc48:=rfl
instance C48:Cf cfg 48 fc48:=⟨c48⟩
instance Z48:Zf cfg 48:=⟨rfl⟩
theorem c50:cfg.fc 50=fc50:=rfl
instance C50:Cf cfg 50 fc50:=⟨c50⟩
instance Z50:Zf cfg 50:=⟨rfl⟩
theorem c57:cfg.fc 57=fc57:=rfl
instance C57:Cf cfg 57 fc57:=⟨c57⟩
instance Z57:Zf cfg 57:=⟨rfl⟩
noncomputable abbrev Pg:=Tryd.prog
theorem bF25:buildF Pg 25=some ([z0,z0],[(0,1),(1,1)]):=kr
theorem eF67:elemSz Pg 67=some (9,1):=kr
theorem fF25_0:fieldF Pg 25 0=some 0:=kr
theorem fF25_1:fieldF Pg 25 1=some 1:=kr
theorem kF10_9:callK Pg cfg 10 0 [9]=[(.cst false,[none])]:=kr
theorem kF11_25_25:callK Pg cfg 11 0 [25,25]=[(.cst false,[none,none]),(.cst false,[none,none])]:=kr
theorem kF20_48:callK Pg cfg 20 0 [48]=[(.cut 2,[none])]:=kr
theorem kF22_25:callK Pg cfg 22 0 [25]=[(.cst false,[none,none])]:=kr
theorem kF23_2:callK Pg cfg 23 0 [2]=[(.cst false,[none])]:=kr
theorem kF24_9:callK Pg cfg 24 0 [9]=[(.cst false,[none])]:=kr
theorem kF25_9:callK Pg cfg 25 0 [9]=[(.cst false,[none])]:=kr
theorem kF33_2_2_2:callK Pg cfg 33 0 [2,2,2]=[(.cst false,[none]),(.cst false,[none]),(.cst false,[none])]:=kr
theorem kF35_2_2_2:callK Pg cfg 35 0 [2,2,2]=[(.cst false,[none]),(.cst false,[none]),(.cst false,[none])]:=kr
theorem kF36_2_3:callK Pg cfg 36 0 [2,3]=[(.cst false,[none]),(.cst false,[none])]:=kr
theorem kF37_9_5:callK Pg cfg 37 0 [9,5]=[(.cst false,[none]),(.cst false,[none])]:=kr
theorem kF38_9:callK Pg cfg 38 0 [9]=[(.cst false,[none])]:=kr
theorem kF39_9_9:callK Pg cfg 39 0 [9,9]=[(.cst false,[none]),(.cst false,[none])]:=kr
theorem kF40_9:callK Pg cfg 40 0 [9]=[(.cst false,[none])]:=kr
theorem kF48_5:callK Pg cfg 48 0 [5]=[(.cst false,[none])]:=kr
theorem kF50_9_9:callK Pg cfg 50 0 [9,9]=[(.cst false,[none]),(.cst false,[none])]:=kr
theorem kF57_9_9:callK Pg cfg 57 0 [9,9]=[(.cst false,[none]),(.cst false,[none])]:=kr
theorem kF9_9:callK Pg cfg 9 0 [9]=[(.cst false,[none])]:=kr
theorem rF10:resK Pg (Tryd.f10.results.toList.zip Tryd.f10.resultTypes.toList)=[(.cell 2 25,[none,none],some (true,2)),(.tmp 3,[none],none)]:=kr
theorem rF11:resK Pg (Tryd.f11.results.toList.zip Tryd.f11.resultTypes.toList)=[(.tmp 4,[none],none)]:=kr
theorem rF20:resK Pg (Tryd.f20.results.toList.zip Tryd.f20.resultTypes.toList)=[(.tmp 2,[none],none)]:=kr
theorem rF22:resK Pg (Tryd.f22.results.toList.zip Tryd.f22.resultTypes.toList)=[(.tmp 2,[none],none)]:=kr
theorem rF23:resK Pg (Tryd.f23.results.toList.zip Tryd.f23.resultTypes.toList)=[(.tmp 2,[none],none)]:=kr
theorem rF24:resK Pg (Tryd.f24.results.toList.zip Tryd.f24.resultTypes.toList)=[(.cell 2 25,[none,none],some (true,2)),(.tmp 3,[none],none)]:=kr
theorem rF25:resK Pg (Tryd.f25.results.toList.zip Tryd.f25.resultTypes.toList)=[(.tmp 2,[none],none),(.tmp 3,[none],none),(.tmp 4,[none],none)]:=kr
theorem rF33:resK Pg (Tryd.f33.results.toList.zip Tryd.f33.resultTypes.toList)=[(.tmp 6,[none],none)]:=kr
theorem rF35:resK Pg (Tryd.f35.results.toList.zip Tryd.f35.resultTypes.toList)=[(.tmp 6,[none],none)]:=kr
theorem rF37:resK Pg (Tryd.f37.results.toList.zip Tryd.f37.resultTypes.toList)=[(.tmp 4,[some 1],none)]:=kr
theorem rF38:resK Pg (Tryd.f38.results.toList.zip Tryd.f38.resultTypes.toList)=[(.tmp 2,[none],none),(.tmp 3,[none],none)]:=kr
theorem rF4:resK Pg (Tryd.f4.results.toList.zip Tryd.f4.resultTypes.toList)=[(.tmp 2,[none],none)]:=kr
theorem rF40:resK Pg (Tryd.f40.results.toList.zip Tryd.f40.resultTypes.toList)=[(.tmp 2,[none],none),(.tmp 3,[none],none)]:=kr
theorem rF48:resK Pg (Tryd.f48.results.toList.zip Tryd.f48.resultTypes.toList)=[(.tmp 2,[none],none)]:=kr
theorem rF50:resK Pg (Tryd.f50.results.toList.zip Tryd.f50.resultTypes.toList)=[(.tmp 4,[none],none)]:=kr
theorem rF57:resK Pg (Tryd.f57.results.toList.zip Tryd.f57.resultTypes.toList)=[(.tmp 4,[none],none)]:=kr
theorem rF9:resK Pg (Tryd.f9.results.toList.zip Tryd.f9.resultTypes.toList)=[(.cell 2 25,[none,none],some (true,2)),(.tmp 3,[none],none)]:=kr
theorem sF67:sliceF Pg 67=some (9,1,[none],false,16,[z1]):=kr
theorem tF2:tyF Pg 2=some ([z0],[none],false,1):=kr
theorem tF25:tyF Pg 25=some ([z0,z0],[none,none],true,2):=kr
theorem tF9:tyF Pg 9=some ([z1],[none],false,1):=kr
theorem uF2:Pg.underlying 2=some (.int .i64):=kr
theorem uF4:Pg.underlying 4=some .bool:=kr
theorem uF5:Pg.underlying 5=some (.int .u8):=kr
theorem uF67:Pg.underlying 67=some (.slice 9):=kr
theorem uF9:Pg.underlying 9=some .string:=kr
abbrev FX (i:Nat) (a:List Arg) (r:Res×List Out):Prop:=FL Tryd.prog cfg i a=some r
theorem L_spec_l01Split {s_0:ByteArray} {by_1:Int} {r:(List ByteArray)} (h:spec_l01Split s_0 by_1=some r):FX 37 [.im 2 false [Y s_0],.im 2 false [.sc (.int .u8 by_1)]] (B0 [(false,[.ow 0 1 (List.map eS r)])]):=by
 unfold spec_l01Split at h
 refine gn 35 Tryd.func37 rfl ?_
 refine gs<|g0 j j (q (oAsN j j eF67)<|nl)<|us<|gs<|g0 j j (q (oBS (es:=List.map eS ([]:List ByteArray)) j sF67 j pt0 (flat0 j fun _=>j))<|q (oAsO j j j j j)<|nl)<|us<|gs<|g0 j j (q (oAsI j j)<|nl)<|us<|gs<|gs<|g0 j j (q (oAsI j j)<|nl)<|us<|Go.block<|?_
 obtain ⟨o,hl,h⟩:=bs h
 refine gl c37 j _ (fun (s:(Int×Int×(List ByteArray)))=>match s with | (from_6_l4,i_7_l4,out_o5_l4)=>mk [(0,sv s_0),(1,D 0 (.sc (.int .u8 by_1))),(5,H 5 0),(6,iv from_6_l4),(7,iv i_7_l4)] [(5,Oc [Z (W 1 eS out_o5_l4)])]) (fun (o:(Int×(List ByteArray))) (p:Ex×St)=>match o with | (from_6_e0_4,out_o5_e0_4)=>p.1= .exit 0∧p.2.norm ([0,5,6],[5])=mk [(0,sv s_0),(5,H 5 0),(6,iv from_6_e0_4)] [(5,Oc [Z (W 1 eS out_o5_e0_4)])]) hl (by kernel_rfl) ?_ ?_ ?_
 ·intro o p hp e
  obtain ⟨from_6_e0_4,out_o5_e0_4⟩:=o
  exact nomatch (hp.1.symm.trans e)
 ·rintro ⟨from_6_l4,i_7_l4,out_o5_l4⟩ o h
  unfold spec_l01Split_l4 at h
  dsimp only at h
  refine gs<|gs<|g0 j j (q (oMv j j)<|q (oMv j j)<|q (oLnS j j uF9 j)<|q (oBi j j j j)<|nl)<|us<|gc h j iDec (fun hc5 h=>?_) fun hc5 h=>?_
  ·refine Go.skip<|us<|gs<|Go.join (fun st=>∃from_6_r5,∃out_o5_r5,spec_l01Split_k5 i_7_l4 from_6_r5 out_o5_r5=some o∧st.norm ([0,1,5,6,7],[5])=mk [(0,sv s_0),(1,D 0 (.sc (.int .u8 by_1))),(5,H 5 0),(6,iv from_6_r5),(7,iv i_7_l4)] [(5,Oc [Z (W 1 eS out_o5_r5)])]) ?_ ?_
   ·rintro st ⟨from_6_r5,out_o5_r5,h,hst⟩
    unfold spec_l01Split_k5 at h
    refine us<|g2 c37 j j hst (q (oMv j j)<|q (oBi j j j j)<|q (oAsI j j)<|nl)<|Unw.nil<|?_
    cases h
    exact ⟨j,(by kernel_rfl)⟩
   ·intro K7
    refine Go.block<|gs<|?_
    obtain ⟨x17,hx17,h⟩:=bs h
    refine g0 j j (q (oMv j j)<|q (oMv j j)<|q (oIx j hx17 uF9 j j)<|q (oMv j j)<|q (oBi j j j j)<|nl)<|us<|gc h j iEq (fun hc8 h=>?_) fun hc8 h=>?_
    ·refine gs<|?_
     obtain ⟨x24,hx24,h⟩:=bs h
     obtain ⟨x26,hx26,h⟩:=bs h
     exact g0 j j (q (oMv j j)<|q (oMv j j)<|q (oMv j j)<|q (oMv j j)<|q (oSlS j hx24 uF9 j (bn1 j) (bn1 j) j j)<|q (oBS (es:=List.map eS ([x24]:List ByteArray)) j sF67 j (ptC j (fxI fx0) j pt0) (flat0 j fun _=>j))<|q (oApO (en:=eS) (M:=([x24]:List ByteArray)) j hx26 j sF67 j j uF67 (.inl ⟨_,j⟩) j j j j (el_own j j) (flat0 j fun _=>j))<|q (oAsO j j j j j)<|nl)<|us<|g0 j j (q (oMv j j)<|q (oBi j j j j)<|q (oAsI j j)<|nl)<|Unw.blk<|K7 _ ⟨(w64 (i_7_l4+1)),x26,h,(by kernel_rfl)⟩
    ·exact Go.skip<|Unw.blk<|K7 _ ⟨from_6_l4,out_o5_l4,h,(by kernel_rfl)⟩
  ·refine Go.exit<|ux<|Unw.nil<|?_
   cases h
   exact ⟨j,(by kernel_rfl)⟩
 ·rintro ⟨e,st⟩ hp
  obtain ⟨from_6_e0_4,out_o5_e0_4⟩:=o
  dsimp only at h
  obtain ⟨he,hst⟩:=hp
  obtain rfl:e= .exit 0:=he
  refine Unw.blkx<|us<|gs<|?_
  obtain ⟨x32,hx32,h⟩:=bs h
  obtain ⟨x34,hx34,h⟩:=bs h
  refine g2 c37 j j hst (q (oMv j j)<|q (oMv j j)<|q (oMv j j)<|q (oSlS j hx32 uF9 j (bn1 j) bn0 j j)<|q (oBS (es:=List.map eS ([x32]:List ByteArray)) j sF67 j (ptC j (fxI fx0) j pt0) (flat0 j fun _=>j))<|q (oApO (en:=eS) (M:=([x32]:List ByteArray)) j hx34 j sF67 j j uF67 (.inl ⟨_,j⟩) j j j j (el_own j j) (flat0 j fun _=>j))<|q (oAsO j j j j j)<|nl)<|us<|Go.ret (Unw.ret ?_)
  cases h
  exact fr rF37 j
theorem L_spec_l01Digit {c_0:Int} {r:Bool} (h:spec_l01Digit c_0=some r):FX 48 [.im 2 false [.sc (.int .u8 c_0)]] (B0 [(false,[.im 0 (V r)])]):=by
 unfold spec_l01Digit at h
 refine gn 9 Tryd.func48 rfl ?_
 refine gs<|g0 j j (q (oAsI j j)<|nl)<|us<|gs<|gX c48 j j j (mk [(2,bv ((decide (c_0≥48))&&(decide (c_0≤57))))] []) ?_ ?_
 ·refine xq (oMv j j)<|xq (oBi j j j j)<|xq (oMv j j)<|?_
  by_cases hc1:c_0≥48
  ·exact xqT rfl rfl (iDec.2 hc1) (oMv rfl rfl)<|xqT rfl rfl (iDec.2 hc1) (oBi rfl rfl rfl rfl)<|xq (oPkT rfl rfl (iDec.2 hc1) rfl)<|xq (oAsI rfl rfl)<|xn (Eq.trans (b:=(fun t_2_m1:Bool=>mk [(2,bv t_2_m1)] []) (decide (c_0≤57))) (by kernel_rfl) (congrArg (fun t_2_m1:Bool=>mk [(2,bv t_2_m1)] []) (by first | rfl | (simp [(iDec.2 hc1)];done) | (simp [(iDec.2 hc1)];omega))))
  ·exact xsgF rfl rfl (byF iDec hc1) rfl<|xsgF rfl rfl (byF iDec hc1) rfl<|xq (oPkF rfl rfl (byF iDec hc1) rfl)<|xq (oAsI rfl rfl)<|xn (Eq.trans (b:=(fun t_2_m1:Bool=>mk [(2,bv t_2_m1)] []) false) (by kernel_rfl) (congrArg (fun t_2_m1:Bool=>mk [(2,bv t_2_m1)] []) (by first | rfl | (simp [(byF iDec hc1)];done) | (simp [(byF iDec hc1)];omega))))
 ·refine us<|Go.ret (Unw.ret ?_)
  cases h
  exact fr rF48 j
theorem L_spec_l01Number {s_0:ByteArray} {r:(Int×Bool)} (h:spec_l01Number s_0=some r):FX 38 [.im 2 false [Y s_0]] (B0 [(false,[.im 0 (I r.1)]),(false,[.im 0 (V r.2)])]):=by
 unfold spec_l01Number at h
 refine gn 62 Tryd.func38 rfl ?_
 refine gs<|g0 j j (q (oAsI j j)<|q (oAsI j j)<|nl)<|us<|gs<|g0 j j (q (oAsI j j)<|nl)<|us<|gs<|gs<|?_
 obtain ⟨t_14_m2,hm19,h⟩:=bs h
 refine gX c38 j j j (mk [(0,sv s_0),(4,iv 0),(14,bv t_14_m2)] []) ?_ ?_
 ·refine xq (oMv j j)<|xq (oLnS j j uF9 j)<|xq (oBi j j j j)<|xq (oMv j j)<|?_
  refine ic hm19 (fun hc1 hm19=>?_) fun hc1 hm19=>?_
  ·obtain ⟨x12,hx12,hm19⟩:=bs hm19
   cases hm19
   exact xqT j j (iDec.2 hc1) (oMv j j)<|xqT j j (iDec.2 hc1) (oIx j hx12 uF9 j j)<|xqT j j (iDec.2 hc1) (oBi j j j j)<|xq (oPkT j j (iDec.2 hc1) j)<|xn
  ·cases hm19
   exact xsgF j j (byF iDec hc1) j<|xsgF j j (byF iDec hc1) j<|xsgF j j (byF iDec hc1) j<|xq (oPkF j j (byF iDec hc1) j)<|xn
 ·refine us<|Go.join (fun st=>∃at_4_r4,spec_l01Number_k4 s_0 at_4_r4=some r∧st.norm ([0,4],[])=mk [(0,sv s_0),(4,iv at_4_r4)] []) ?_ ?_
  ·rintro st ⟨at_4_r4,h,hst⟩
   unfold spec_l01Number_k4 at h
   refine us<|gs<|gs<|?_
   obtain ⟨t_36_m4,hm16,h⟩:=bs h
   refine gX c38 j j hst (mk [(0,sv s_0),(4,iv at_4_r4),(36,bv t_36_m4)] []) ?_ ?_
   ·refine xq (oMv j j)<|xq (oLnS j j uF9 j)<|xq (oMv j j)<|xq (oBi j j j j)<|xq (oMv j j)<|?_
    refine ic hm16 (fun hc3 hm16=>?_) fun hc3 hm16=>?_
    ·cases hm16
     exact xsgF j j (iEq.2 hc3) j<|xsgF j j (iEq.2 hc3) j<|xsgF j j (iEq.2 hc3) j<|xsgF j j (iEq.2 hc3) j<|xsgF j j (iEq.2 hc3) j<|xq (oPkT j j (iEq.2 hc3) j)<|xq (oMv j j)<|xsgF j j j j<|xsgF j j j j<|xsgF j j j j<|xsgF j j j j<|xsgF j j j j<|xsgU j j j<|xsgU j j j<|xsgU j j j<|xsgF j j j j<|xq (oPkT j j j j)<|xn
    ·refine xqT j j (byF iEq hc3) (oMv j j)<|xqT j j (byF iEq hc3) (oLnS j j uF9 j)<|xqT j j (byF iEq hc3) (oMv j j)<|xqT j j (byF iEq hc3) (oBi j j j j)<|xqT j j (byF iEq hc3) (oBi j j j j)<|xq (oPkF j j (byF iEq hc3) j)<|xq (oMv j j)<|?_
     refine ic hm16 (fun hc4 hm16=>?_) fun hc4 hm16=>?_
     ·cases hm16
      exact xsgF j j (iDec.2 hc4) j<|xsgF j j (iDec.2 hc4) j<|xsgF j j (iDec.2 hc4) j<|xsgF j j (iDec.2 hc4) j<|xsgF j j (iDec.2 hc4) j<|xsgU j j j<|xsgU j j j<|xsgU j j j<|xsgF j j (iDec.2 hc4) j<|xq (oPkT j j (iDec.2 hc4) j)<|xn
     ·obtain ⟨x29,hx29,hm16⟩:=bs hm16
      refine xqT j j (byF iDec hc4) (oMv j j)<|xqT j j (byF iDec hc4) (oMv j j)<|xqT j j (byF iDec hc4) (oIx j hx29 uF9 j j)<|xqT j j (byF iDec hc4) (oBi j j j j)<|xqT j j (byF iDec hc4) (oMv j j)<|?_
      refine ic hm16 (fun hc5 hm16=>?_) fun hc5 hm16=>?_
      ·cases hm16
       exact xqT j j (iEq.2 hc5) (oMv j j)<|xqT j j (iEq.2 hc5) (oLnS j j uF9 j)<|xqT j j (iEq.2 hc5) (oBi j j j j)<|xqT j j (byF iDec hc4) (oPkT j j (iEq.2 hc5) j)<|xq (oPkF j j (byF iDec hc4) j)<|xn
      ·cases hm16
       exact xsgF j j (byF iEq hc5) j<|xsgF j j (byF iEq hc5) j<|xsgF j j (byF iEq hc5) j<|xqT j j (byF iDec hc4) (oPkF j j (byF iEq hc5) j)<|xq (oPkF j j (byF iDec hc4) j)<|xn
   ·refine us<|gc h j iR (fun hc6 h=>?_) fun hc6 h=>?_
    ·refine gs<|g0 j j (q (oAsI j j)<|q (oAsI j j)<|nl)<|us<|Go.ret (Unw.ret ?_)
     cases h
     exact fr rF38 j
    ·refine Go.skip<|us<|gs<|g0 j j (q (oAsI j j)<|nl)<|us<|gs<|gs<|g0 j j (q (oMv j j)<|q (oAsI j j)<|nl)<|us<|Go.block<|?_
     obtain ⟨o,hl,h⟩:=bs h
     refine gl c38 j _ (fun (s:(Int×Int))=>match s with | (n_5_l8,i_6_l8)=>mk [(0,sv s_0),(4,iv at_4_r4),(5,iv n_5_l8),(6,iv i_6_l8)] []) (fun (o:(Int ⊕ (Int×Bool))) (p:Ex×St)=>match o with | (.inl n_5_e0_8)=>p.1= .exit 0∧p.2.norm ([4,5],[])=mk [(4,iv at_4_r4),(5,iv n_5_e0_8)] [] | (.inr r2)=>p.1= .ret∧fin Tryd.prog cfg 38 Tryd.f38 [.im 2 false [Y s_0]] p.2=some (B0 [(false,[.im 0 (I r2.1)]),(false,[.im 0 (V r2.2)])])) hl (by kernel_rfl) ?_ ?_ ?_
     ·intro o p hp e
      rcases o with n_5_e0_8 | r2<;>exact nomatch (hp.1.symm.trans e)
     ·rintro ⟨n_5_l8,i_6_l8⟩ o h
      unfold spec_l01Number_l8 at h
      dsimp only at h
      refine gs<|gs<|g0 j j (q (oMv j j)<|q (oMv j j)<|q (oLnS j j uF9 j)<|q (oBi j j j j)<|nl)<|us<|gc h j iDec (fun hc14 h=>?_) fun hc14 h=>?_
      ·refine Go.skip<|us<|gs<|Go.block<|gs<|gs<|?_
       obtain ⟨x46,hx46,h⟩:=bs h
       obtain ⟨x47,hx47,h⟩:=bs h
       refine g0 j j (q (oMv j j)<|q (oMv j j)<|q (oIx j hx46 uF9 j j)<|q (oCa (xs:=[.v false [.im 0 _]]) (vs:=[(false,[.im 0 _])]) (v:=.v false [.im 0 _]) (L_spec_l01Digit hx47) (.inl j) j kF48_5 j (ppC j pp0) j j pb0 j j j)<|q (oUn j j j)<|nl)<|us<|?_
       by_cases hc15:x47=true
       ·rw [if_pos hc15] at h
        refine gF j (nF (iR.2 hc15))<|Go.skip<|us<|?_
        obtain ⟨x53,hx53,h⟩:=bs h
        refine g0 j j (q (oMv j j)<|q (oBi j j j j)<|q (oMv j j)<|q (oMv j j)<|q (oIx j hx53 uF9 j j)<|q (oBi j j j j)<|q (oCvI j uF5 uF2 j)<|q (oBi j j j j)<|q (oAsI j j)<|nl)<|Unw.blk<|us<|g0 j j (q (oMv j j)<|q (oBi j j j j)<|q (oAsI j j)<|nl)<|Unw.nil<|?_
        cases h
        exact ⟨j,(by kernel_rfl)⟩
       ·rw [if_neg hc15] at h
        refine gT j (nT (byF iR hc15))<|gs<|g0 j j (q (oAsI j j)<|q (oAsI j j)<|nl)<|us<|Go.ret (Unw.ret ?_)
        cases h
        exact ⟨j,(fo rF38 j)⟩
      ·refine Go.exit<|ux<|Unw.nil<|?_
       cases h
       exact ⟨j,(by kernel_rfl)⟩
     ·rintro ⟨e,st⟩ hp
      rcases o with n_5_e0_8 | r2
      ·dsimp only at h
       obtain ⟨he,hst⟩:=hp
       obtain rfl:e= .exit 0:=he
       refine Unw.blkx<|us<|gs<|gs<|g2 c38 j j hst (q (oMv j j)<|q (oBi j j j j)<|nl)<|us<|Go.join (fun st=>∃n_5_r15,spec_l01Number_k15 n_5_r15=some r∧st.norm ([5],[])=mk [(5,iv n_5_r15)] []) ?_ ?_
       ·rintro st ⟨n_5_r15,h,hst⟩
        unfold spec_l01Number_k15 at h
        refine us<|gs<|g2 c38 j j hst (q (oMv j j)<|q (oAsI j j)<|q (oAsI j j)<|nl)<|us<|Go.ret (Unw.ret ?_)
        cases h
        exact fr rF38 j
       ·intro K12
        refine gc h j iEq (fun hc13 h=>?_) fun hc13 h=>?_
        ·exact g0 j j (q (oMv j j)<|q (oUn j j j)<|q (oAsI j j)<|nl)<|K12 _ ⟨(w64 (0 - n_5_e0_8)),h,(by kernel_rfl)⟩
        ·exact Go.skip<|K12 _ ⟨n_5_e0_8,h,(by kernel_rfl)⟩
      ·dsimp only at h
       obtain ⟨he,hfin⟩:=hp
       obtain rfl:e= .ret:=he
       cases h
       exact Unw.ret (Fin_ret hfin)
  ·intro K17
   refine gc h j iR (fun hc18 h=>?_) fun hc18 h=>?_
   ·exact g0 j j (q (oAsI j j)<|nl)<|K17 _ ⟨1,h,(by kernel_rfl)⟩
   ·exact Go.skip<|K17 _ ⟨0,h,(by kernel_rfl)⟩
theorem L_spec_l00In {n_0:Int} {low_1:Int} {high_2:Int} {r:Bool} (h:spec_l00In n_0 low_1 high_2=some r):FX 33 [.im 2 false [I n_0],.im 2 false [I low_1],.im 2 false [I high_2]] (B0 [(false,[.im 0 (V r)])]):=by
 unfold spec_l00In at h
 refine gn 15 Tryd.func33 rfl ?_
 refine gs<|g0 j j (q (oAsI j j)<|nl)<|us<|gs<|gX c33 j j j (mk [(6,bv ((decide (n_0≥low_1))&&(decide (n_0≤high_2))))] []) ?_ ?_
 ·refine xq (oMv j j)<|xq (oMv j j)<|xq (oBi j j j j)<|xq (oMv j j)<|?_
  by_cases hc1:n_0≥low_1
  ·exact xqT rfl rfl (iDec.2 hc1) (oMv rfl rfl)<|xqT rfl rfl (iDec.2 hc1) (oMv rfl rfl)<|xqT rfl rfl (iDec.2 hc1) (oBi rfl rfl rfl rfl)<|xq (oPkT rfl rfl (iDec.2 hc1) rfl)<|xq (oAsI rfl rfl)<|xn (Eq.trans (b:=(fun t_6_m1:Bool=>mk [(6,bv t_6_m1)] []) (decide (n_0≤high_2))) (by kernel_rfl) (congrArg (fun t_6_m1:Bool=>mk [(6,bv t_6_m1)] []) (by first | rfl | (simp [(iDec.2 hc1)];done) | (simp [(iDec.2 hc1)];omega))))
  ·exact xsgF rfl rfl (byF iDec hc1) rfl<|xsgF rfl rfl (byF iDec hc1) rfl<|xsgF rfl rfl (byF iDec hc1) rfl<|xq (oPkF rfl rfl (byF iDec hc1) rfl)<|xq (oAsI rfl rfl)<|xn (Eq.trans (b:=(fun t_6_m1:Bool=>mk [(6,bv t_6_m1)] []) false) (by kernel_rfl) (congrArg (fun t_6_m1:Bool=>mk [(6,bv t_6_m1)] []) (by first | rfl | (simp [(byF iDec hc1)];done) | (simp [(byF iDec hc1)];omega))))
 ·refine us<|Go.ret (Unw.ret ?_)
  cases h
  exact fr rF33 j
theorem L_spec_l30Room {r_0:S_Room} {r:Bool} (h:spec_l30Room r_0=some r):FX 20 [.im 2 false [.cp (u_S_Room r_0) 0]] (B0 [(false,[.im 0 (V r)])]):=by
 unfold spec_l30Room at h
 refine gn 15 Tryd.func20 rfl ?_
 refine gs<|g0 j j (q (oAsI j j)<|nl)<|us<|gs<|?_
 obtain ⟨x7,hx7,h⟩:=bs h
 obtain ⟨t_2_m1,hm2,h⟩:=bs h
 refine gX c20 j j j (mk [(2,bv t_2_m1)] []) ?_ ?_
 ·refine xq (oMv j j)<|xq (oNl j j j)<|xq (oFA (r':=.im 2 _) j fF25_0 j j)<|xq (oLd (cs:=[.im 2 _]) j tF2 j j)<|xq (oCa (xs:=[.v false [.im 2 _],.v false [.im 0 _],.v false [.im 0 _]]) (vs:=[(false,[.im 0 _])]) (v:=.v false [.im 0 _]) (L_spec_l00In hx7) (.inl j) j kF33_2_2_2 j (ppC j (ppC j (ppC j pp0))) j j pb0 j j j)<|xq (oMv j j)<|?_
  refine ic hm2 (fun hc1 hm2=>?_) fun hc1 hm2=>?_
  ·obtain ⟨x13,hx13,hm2⟩:=bs hm2
   cases hm2
   exact xqT j j (iR.2 hc1) (oMv j j)<|xqT j j (iR.2 hc1) (oNl j j j)<|xqT j j (iR.2 hc1) (oFA (r':=.im 2 _) j fF25_1 j j)<|xqT j j (iR.2 hc1) (oLd (cs:=[.im 2 _]) j tF2 j j)<|xqT j j (iR.2 hc1) (oCa (xs:=[.v false [.im 2 _],.v false [.im 0 _],.v false [.im 0 _]]) (vs:=[(false,[.im 0 _])]) (v:=.v false [.im 0 _]) (L_spec_l00In hx13) (.inl j) j kF33_2_2_2 j (ppC j (ppC j (ppC j pp0))) j j pb0 j j j)<|xq (oPkT j j (iR.2 hc1) j)<|xq (oAsI j j)<|xn
  ·cases hm2
   exact xsgF j j (byF iR hc1) j<|xsgF j j (byF iR hc1) j<|xsgF j j (byF iR hc1) j<|xsgF j j (byF iR hc1) j<|xsgF j j (byF iR hc1) j<|xq (oPkF j j (byF iR hc1) j)<|xq (oAsI j j)<|xn
 ·refine us<|Go.ret (Unw.ret ?_)
  cases h
  exact fr rF20 j
theorem L_spec_l30Read {s_0:ByteArray} {r:(S_Room×Bool)} (h:spec_l30Read s_0=some r):FX 24 [.im 2 false [Y s_0]] (B0 [(true,J 0 (u_S_Room r.1)),(false,[.im 0 (V r.2)])]):=by
 unfold spec_l30Read at h
 refine gn 45 Tryd.func24 rfl ?_
 refine gs<|g0 j j (q (oAl j tF25 (tkI (tkI tk0)))<|q (oAsI j j)<|nl)<|us<|gs<|?_
 obtain ⟨x11,hx11,h⟩:=bs h
 refine g0 j j (q (oMv j j)<|q (oCr (xs:=[.v false [.im 2 _],.v false [.im 0 _]]) (vs:=[(false,[.own 11 0 0])]) (v:=.v false [.own 11 0 0]) (c:=⟨.sh,0,_⟩) (cs:=[]) (L_spec_l01Split hx11) (.inl j) j kF37_9_5 j (ppC j (ppC j pp0)) j j pb0 j j j)<|q (oAsO j j j j j)<|nl)<|us<|gs<|gs<|g0 j j (q (oMv j j)<|q (oLnO j j uF67 j j j (fun e=>nomatch e))<|q (oBi j j j j)<|nl)<|us<|gc h j iNe (fun hc1 h=>?_) fun hc1 h=>?_
 ·refine gs<|g0 j j (q (oBu (cs:=[.im 0 _,.im 0 _]) j bF25 j)<|q (oSt tF25 j j j (tkI (tkI tk0)) j j j)<|q (oAsI j j)<|nl)<|us<|Go.ret (Unw.ret ?_)
  cases h
  exact fr rF24 j
 ·refine Go.skip<|us<|gs<|?_
  obtain ⟨x18,hx18,h⟩:=bs h
  obtain ⟨x20,hx20,h⟩:=bs h
  refine g0 j j (q (oMv j j)<|q (oIAO j hx18 sF67 j j j j)<|q (oLdE (cs:=[.im 0 _]) j tF9 j j j j (rd_get hx18) j j)<|q (oCa (xs:=[.v false [.im 0 _]]) (vs:=[(false,[.im 0 _]),(false,[.im 0 _])]) (v:=.tup [(false,[.im 0 _]),(false,[.im 0 _])]) (L_spec_l01Number hx20) (.inl j) j kF38_9 j (ppC j pp0) j j pb0 j j j)<|q (oMvT j j)<|q (oEx j j j)<|q (oEx j j j)<|q (oAsI j j)<|q (oAsI j j)<|nl)<|us<|gs<|?_
  obtain ⟨x25,hx25,h⟩:=bs h
  obtain ⟨x27,hx27,h⟩:=bs h
  refine g0 j j (q (oMv j j)<|q (oIAO j hx25 sF67 j j j j)<|q (oLdE (cs:=[.im 0 _]) j tF9 j j j j (rd_get hx25) j j)<|q (oCa (xs:=[.v false [.im 0 _]]) (vs:=[(false,[.im 0 _]),(false,[.im 0 _])]) (v:=.tup [(false,[.im 0 _]),(false,[.im 0 _])]) (L_spec_l01Number hx27) (.inl j) j kF38_9 j (ppC j pp0) j j pb0 j j j)<|q (oMvT j j)<|q (oEx j j j)<|q (oEx j j j)<|q (oAsI j j)<|q (oAsI j j)<|nl)<|us<|gs<|g0 j j (q (oMv j j)<|q (oMv j j)<|q (oBu (cs:=[.im 0 _,.im 0 _]) j bF25 j)<|q (oAl j tF25 (tkI (tkI tk0)))<|q (oSt tF25 j j j (tkI (tkI tk0)) j j j)<|nl)<|us<|gs<|gs<|?_
  obtain ⟨t_42_m7,hm5,h⟩:=bs h
  refine gX c24 j j (st1:=mk [(2,M 2),(6,bv x20.2),(8,bv x27.2),(9,M 9)] [(2,Oa [C (I 0),C (I 0)]),(9,Oa [C (I x20.1),C (I x27.1)])]) (by kernel_rfl) (mk [(2,M 2),(9,M 9),(42,bv t_42_m7)] [(2,Oa [C (I 0),C (I 0)]),(9,Oa [C (I x20.1),C (I x27.1)])]) ?_ ?_
  ·refine xq (oMv j j)<|xq (oUn j j j)<|xq (oMv j j)<|?_
   refine ic hm5 (fun hc2 hm5=>?_) fun hc2 hm5=>?_
   ·refine xqT j j (nF (iR.2 hc2)) (oMv j j)<|xqT j j (nF (iR.2 hc2)) (oUn j j j)<|xq (oPkF j j (nF (iR.2 hc2)) j)<|xq (oMv j j)<|?_
    refine ic hm5 (fun hc3 hm5=>?_) fun hc3 hm5=>?_
    ·obtain ⟨x40,hx40,hm5⟩:=bs hm5
     cases hm5
     exact xqT j j (nF (iR.2 hc3)) (oCa (xs:=[.v false [.mp 9 0 0]]) (vs:=[(false,[.im 0 _])]) (v:=.v false [.im 0 _]) (L_spec_l30Room hx40) (.inl j) j kF20_48 j (ppC j pp0) j j pb0 j j j)<|xqT j j (nF (iR.2 hc3)) (oUn j j j)<|xq (oPkF j j (nF (iR.2 hc3)) j)<|xn
    ·cases hm5
     exact xsgF j j (nT (byF iR hc3)) j<|xsgF j j (nT (byF iR hc3)) j<|xq (oPkT j j (nT (byF iR hc3)) j)<|xn
   ·cases hm5
    exact xsgF j j (nT (byF iR hc2)) j<|xsgF j j (nT (byF iR hc2)) j<|xq (oPkT j j (nT (byF iR hc2)) j)<|xq (oMv j j)<|xsgF j j j j<|xsgF j j j j<|xq (oPkT j j j j)<|xn
  ·refine us<|gc h j iR (fun hc4 h=>?_) fun hc4 h=>?_
   ·refine gs<|g0 j j (q (oBu (cs:=[.im 0 _,.im 0 _]) j bF25 j)<|q (oSt tF25 j j j (tkI (tkI tk0)) j j j)<|q (oAsI j j)<|nl)<|us<|Go.ret (Unw.ret ?_)
    cases h
    exact fr rF24 j
   ·refine Go.skip<|us<|gs<|g0 j j (q (oLd (cs:=[.im 0 _,.im 0 _]) j tF25 j j)<|q (oSt tF25 j j j (tkI (tkI tk0)) j j j)<|q (oAsI j j)<|nl)<|us<|Go.ret (Unw.ret ?_)
    cases h
    exact fr rF24 j
theorem L_spec_ReadRoom {s_0:ByteArray} {r:(S_Room×Bool)} (h:spec_ReadRoom s_0=some r):FX 9 [.im 2 false [Y s_0]] (B0 [(true,J 0 (u_S_Room r.1)),(false,[.im 0 (V r.2)])]):=by
 unfold spec_ReadRoom at h
 refine gn 8 Tryd.func9 rfl ?_
 refine gs<|g0 j j (q (oAl j tF25 (tkI (tkI tk0)))<|q (oAsI j j)<|nl)<|us<|gs<|?_
 obtain ⟨x5,hx5,h⟩:=bs h
 refine g0 j j (q (oMv j j)<|q (oCa (xs:=[.v false [.im 2 _]]) (vs:=[(true,[.im 0 _,.im 0 _]),(false,[.im 0 _])]) (v:=.tup [(true,[.im 0 _,.im 0 _]),(false,[.im 0 _])]) (L_spec_l30Read hx5) (.inl j) j kF24_9 j (ppC j pp0) j j pb0 j j j)<|q (oEx j j j)<|q (oEx j j j)<|q (oSt tF25 j j j (tkI (tkI tk0)) j j j)<|q (oAsI j j)<|nl)<|us<|Go.ret (Unw.ret ?_)
 cases h
 exact fr rF9 j
theorem L_stringslite_HasPrefix {s_0:ByteArray} {prefix_1:ByteArray} {r:Bool} (h:stringslite_HasPrefix s_0 prefix_1=some r):FX 57 [.im 2 false [Y s_0],.im 2 false [Y prefix_1]] (B0 [(false,[.im 0 (V r)])]):=by
 unfold stringslite_HasPrefix at h
 refine gn 18 Tryd.func57 rfl ?_
 refine gs<|g0 j j (q (oAsI j j)<|nl)<|us<|gs<|?_
 obtain ⟨t_4_m1,hm2,h⟩:=bs h
 refine gX c57 j j j (mk [(4,bv t_4_m1)] []) ?_ ?_
 ·refine xq (oMv j j)<|xq (oLnS j j uF9 j)<|xq (oMv j j)<|xq (oLnS j j uF9 j)<|xq (oBi j j j j)<|xq (oMv j j)<|?_
  refine ic hm2 (fun hc1 hm2=>?_) fun hc1 hm2=>?_
  ·obtain ⟨x14,hx14,hm2⟩:=bs hm2
   cases hm2
   exact xqT j j (iDec.2 hc1) (oMv j j)<|xqT j j (iDec.2 hc1) (oMv j j)<|xqT j j (iDec.2 hc1) (oLnS j j uF9 j)<|xqT j j (iDec.2 hc1) (oSlS j hx14 uF9 j bn0 (bn1 j) j j)<|xqT j j (iDec.2 hc1) (oMv j j)<|xqT j j (iDec.2 hc1) (oBi j j j j)<|xq (oPkT j j (iDec.2 hc1) j)<|xq (oAsI j j)<|xn
  ·cases hm2
   exact xsgF j j (byF iDec hc1) j<|xsgF j j (byF iDec hc1) j<|xsgF j j (byF iDec hc1) j<|xsgF j j (byF iDec hc1) j<|xsgF j j (byF iDec hc1) j<|xsgF j j (byF iDec hc1) j<|xq (oPkF j j (byF iDec hc1) j)<|xq (oAsI j j)<|xn
 ·refine us<|Go.ret (Unw.ret ?_)
  cases h
  exact fr rF57 j
theorem L_strings_HasPrefix {s_0:ByteArray} {prefix_1:ByteArray} {r:Bool} (h:strings_HasPrefix s_0 prefix_1=some r):FX 50 [.im 2 false [Y s_0],.im 2 false [Y prefix_1]] (B0 [(false,[.im 0 (V r)])]):=by
 unfold strings_HasPrefix at h
 refine gn 8 Tryd.func50 rfl ?_
 refine gs<|g0 j j (q (oAsI j j)<|nl)<|us<|gs<|?_
 obtain ⟨x7,hx7,h⟩:=bs h
 refine g0 j j (q (oMv j j)<|q (oMv j j)<|q (oCa (xs:=[.v false [.im 2 _],.v false [.im 2 _]]) (vs:=[(false,[.im 0 _])]) (v:=.v false [.im 0 _]) (L_stringslite_HasPrefix hx7) (.inl j) j kF57_9_9 j (ppC j (ppC j pp0)) j j pb0 j j j)<|q (oAsI j j)<|nl)<|us<|Go.ret (Unw.ret ?_)
 cases h
 exact fr rF50 j
theorem L_impl_Decimal {n_0:Int} {r:ByteArray} (h:impl_Decimal n_0=some r):FX 23 [.im 2 false [I n_0]] (B0 [(false,[.im 0 (Y r)])]):=by
 unfold impl_Decimal at h
 refine gn 5 Tryd.func23 rfl ?_
 refine gs<|g0 j j (q (oAsI j j)<|nl)<|us<|gs<|?_
 obtain ⟨x4,hx4,h⟩:=bs h
 refine g0 j j (q (oMv j j)<|q (oCa (xs:=[.v false [.im 2 _],.v false [.im 0 _]]) (vs:=[(false,[.im 0 _])]) (v:=.v false [.im 0 _]) (FL_fmt j hx4) (.inl j) j kF36_2_3 j (ppC j (ppC j pp0)) j j pb0 j j j)<|q (oAsI j j)<|nl)<|us<|Go.ret (Unw.ret ?_)
 cases h
 exact fr rF23 j
theorem L_impl_ReadDecimal {s_0:ByteArray} {r:(Int×Bool)} (h:impl_ReadDecimal s_0=some r):FX 40 [.im 2 false [Y s_0]] (B0 [(false,[.im 0 (I r.1)]),(false,[.im 0 (V r.2)])]):=by
 unfold impl_ReadDecimal at h
 refine gn 56 Tryd.func40 rfl ?_
 refine gs<|g0 j j (q (oAsI j j)<|q (oAsI j j)<|nl)<|us<|gs<|g0 j j (q (oMv j j)<|q (oAsI j j)<|nl)<|us<|gs<|gs<|?_
 obtain ⟨x9,hx9,h⟩:=bs h
 refine g0 j j (q (oMv j j)<|q (oCa (xs:=[.v false [.im 2 _],.v false [.im 0 _]]) (vs:=[(false,[.im 0 _])]) (v:=.v false [.im 0 _]) (L_strings_HasPrefix hx9) (.inl j) j kF50_9_9 j (ppC j (ppC j pp0)) j j pb0 j j j)<|nl)<|us<|Go.join (fun st=>∃digits_4_r4,impl_ReadDecimal_k4 s_0 digits_4_r4=some r∧st.norm ([0,4],[])=mk [(0,sv s_0),(4,sv digits_4_r4)] []) ?_ ?_
 ·rintro st ⟨digits_4_r4,h,hst⟩
  unfold impl_ReadDecimal_k4 at h
  refine us<|gs<|gs<|gX c40 j j hst (mk [(0,sv s_0),(4,sv digits_4_r4),(19,bv ((decide ((digits_4_r4.size:Int) <1))||(decide ((digits_4_r4.size:Int) >18))))] []) ?_ ?_
  ·refine xq (oMv j j)<|xq (oLnS j j uF9 j)<|xq (oBi j j j j)<|xq (oMv j j)<|?_
   by_cases hc2:(digits_4_r4.size:Int) <1
   ·exact xsgF rfl rfl (iDec.2 hc2) rfl<|xsgF rfl rfl (iDec.2 hc2) rfl<|xsgF rfl rfl (iDec.2 hc2) rfl<|xq (oPkT rfl rfl (iDec.2 hc2) rfl)<|xn (Eq.trans (b:=(fun t_19_m4:Bool=>mk [(0,sv s_0),(4,sv digits_4_r4),(19,bv t_19_m4)] []) true) (by kernel_rfl) (congrArg (fun t_19_m4:Bool=>mk [(0,sv s_0),(4,sv digits_4_r4),(19,bv t_19_m4)] []) (by first | rfl | (simp [(iDec.2 hc2)];done) | (simp [(iDec.2 hc2)];omega))))
   ·exact xqT rfl rfl (byF iDec hc2) (oMv rfl rfl)<|xqT rfl rfl (byF iDec hc2) (oLnS rfl rfl uF9 rfl)<|xqT rfl rfl (byF iDec hc2) (oBi rfl rfl rfl rfl)<|xq (oPkF rfl rfl (byF iDec hc2) rfl)<|xn (Eq.trans (b:=(fun t_19_m4:Bool=>mk [(0,sv s_0),(4,sv digits_4_r4),(19,bv t_19_m4)] []) (decide ((digits_4_r4.size:Int) >18))) (by kernel_rfl) (congrArg (fun t_19_m4:Bool=>mk [(0,sv s_0),(4,sv digits_4_r4),(19,bv t_19_m4)] []) (by first | rfl | (simp [(byF iDec hc2)];done) | (simp [(byF iDec hc2)];omega))))
  ·refine us<|gc h j (iOr iDec iDec) (fun hc3 h=>?_) fun hc3 h=>?_
   ·refine gs<|g0 j j (q (oAsI j j)<|q (oAsI j j)<|nl)<|us<|Go.ret (Unw.ret ?_)
    cases h
    exact fr rF40 j
   ·refine Go.skip<|us<|gs<|g0 j j (q (oAsI j j)<|nl)<|us<|gs<|gs<|g0 j j (q (oAsI j j)<|nl)<|us<|Go.block<|?_
    obtain ⟨o,hl,h⟩:=bs h
    refine gl c40 j _ (fun (s:(Int×Int))=>match s with | (n_5_l8,i_6_l8)=>mk [(0,sv s_0),(4,sv digits_4_r4),(5,iv n_5_l8),(6,iv i_6_l8)] []) (fun (o:(Int ⊕ (Int×Bool))) (p:Ex×St)=>match o with | (.inl n_5_e0_8)=>p.1= .exit 0∧p.2.norm ([0,4,5],[])=mk [(0,sv s_0),(4,sv digits_4_r4),(5,iv n_5_e0_8)] [] | (.inr r2)=>p.1= .ret∧fin Tryd.prog cfg 40 Tryd.f40 [.im 2 false [Y s_0]] p.2=some (B0 [(false,[.im 0 (I r2.1)]),(false,[.im 0 (V r2.2)])])) hl (by kernel_rfl) ?_ ?_ ?_
    ·intro o p hp e
     rcases o with n_5_e0_8 | r2<;>exact nomatch (hp.1.symm.trans e)
    ·rintro ⟨n_5_l8,i_6_l8⟩ o h
     unfold impl_ReadDecimal_l8 at h
     dsimp only at h
     refine gs<|gs<|g0 j j (q (oMv j j)<|q (oMv j j)<|q (oLnS j j uF9 j)<|q (oBi j j j j)<|nl)<|us<|gc h j iDec (fun hc16 h=>?_) fun hc16 h=>?_
     ·refine Go.skip<|us<|gs<|Go.block<|gs<|gs<|?_
      obtain ⟨x28,hx28,h⟩:=bs h
      obtain ⟨t_35_m10,hm19,h⟩:=bs h
      refine gX c40 j j j (mk [(0,sv s_0),(4,sv digits_4_r4),(5,iv n_5_l8),(6,iv i_6_l8),(35,bv t_35_m10)] []) ?_ ?_
      ·refine xq (oMv j j)<|xq (oMv j j)<|xq (oIx j hx28 uF9 j j)<|xq (oBi j j j j)<|xq (oMv j j)<|?_
       refine ic hm19 (fun hc17 hm19=>?_) fun hc17 hm19=>?_
       ·cases hm19
        exact xsgF j j (iDec.2 hc17) j<|xsgF j j (iDec.2 hc17) j<|xsgF j j (iDec.2 hc17) j<|xsgF j j (iDec.2 hc17) j<|xq (oPkT j j (iDec.2 hc17) j)<|xn
       ·obtain ⟨x33,hx33,hm19⟩:=bs hm19
        cases hm19
        exact xqT j j (byF iDec hc17) (oMv j j)<|xqT j j (byF iDec hc17) (oMv j j)<|xqT j j (byF iDec hc17) (oIx j hx33 uF9 j j)<|xqT j j (byF iDec hc17) (oBi j j j j)<|xq (oPkF j j (byF iDec hc17) j)<|xn
      ·refine us<|gc h j iR (fun hc18 h=>?_) fun hc18 h=>?_
       ·refine gs<|g0 j j (q (oAsI j j)<|q (oAsI j j)<|nl)<|us<|Go.ret (Unw.ret ?_)
        cases h
        exact ⟨j,(fo rF40 j)⟩
       ·refine Go.skip<|us<|?_
        obtain ⟨x40,hx40,h⟩:=bs h
        refine g0 j j (q (oMv j j)<|q (oBi j j j j)<|q (oMv j j)<|q (oMv j j)<|q (oIx j hx40 uF9 j j)<|q (oBi j j j j)<|q (oCvI j uF5 uF2 j)<|q (oBi j j j j)<|q (oAsI j j)<|nl)<|Unw.blk<|us<|g0 j j (q (oMv j j)<|q (oBi j j j j)<|q (oAsI j j)<|nl)<|Unw.nil<|?_
        cases h
        exact ⟨j,(by kernel_rfl)⟩
     ·refine Go.exit<|ux<|Unw.nil<|?_
      cases h
      exact ⟨j,(by kernel_rfl)⟩
    ·rintro ⟨e,st⟩ hp
     rcases o with n_5_e0_8 | r2
     ·dsimp only at h
      obtain ⟨he,hst⟩:=hp
      obtain rfl:e= .exit 0:=he
      refine Unw.blkx<|us<|gs<|gs<|g2 c40 j j hst (q (oMv j j)<|q (oLnS j j uF9 j)<|q (oMv j j)<|q (oLnS j j uF9 j)<|q (oBi j j j j)<|nl)<|us<|Go.join (fun st=>∃n_5_r15,impl_ReadDecimal_k15 s_0 n_5_r15=some r∧st.norm ([0,5],[])=mk [(0,sv s_0),(5,iv n_5_r15)] []) ?_ ?_
      ·rintro st ⟨n_5_r15,h,hst⟩
       unfold impl_ReadDecimal_k15 at h
       refine us<|gs<|gs<|?_
       obtain ⟨x52,hx52,h⟩:=bs h
       refine g2 c40 j j hst (q (oMv j j)<|q (oCa (xs:=[.v false [.im 0 _]]) (vs:=[(false,[.im 0 _])]) (v:=.v false [.im 0 _]) (L_impl_Decimal hx52) (.inl j) j kF23_2 j (ppC j pp0) j j pb0 j j j)<|q (oMv j j)<|q (oBi j j j j)<|nl)<|us<|gc h j (iNot iStr) (fun hc13 h=>?_) fun hc13 h=>?_
       ·refine gs<|g0 j j (q (oAsI j j)<|q (oAsI j j)<|nl)<|us<|Go.ret (Unw.ret ?_)
        cases h
        exact fr rF40 j
       ·refine Go.skip<|us<|gs<|g0 j j (q (oMv j j)<|q (oAsI j j)<|q (oAsI j j)<|nl)<|us<|Go.ret (Unw.ret ?_)
        cases h
        exact fr rF40 j
      ·intro K14
       refine gc h j iDec (fun hc15 h=>?_) fun hc15 h=>?_
       ·exact g0 j j (q (oMv j j)<|q (oUn j j j)<|q (oAsI j j)<|nl)<|K14 _ ⟨(w64 (0 - n_5_e0_8)),h,(by kernel_rfl)⟩
       ·exact Go.skip<|K14 _ ⟨n_5_e0_8,h,(by kernel_rfl)⟩
     ·dsimp only at h
      obtain ⟨he,hfin⟩:=hp
      obtain rfl:e= .ret:=he
      cases h
      exact Unw.ret (Fin_ret hfin)
 ·intro K20
  refine gc h j iR (fun hc21 h=>?_) fun hc21 h=>?_
  ·obtain ⟨x11,hx11,h⟩:=bs h
   exact g0 j j (q (oMv j j)<|q (oSlS j hx11 uF9 j (bn1 j) bn0 j j)<|q (oAsI j j)<|nl)<|K20 _ ⟨x11,h,(by kernel_rfl)⟩
  ·exact Go.skip<|K20 _ ⟨s_0,h,(by kernel_rfl)⟩
theorem L_impl_readSize {s_0:ByteArray} {r:(Int×Int×Bool)} (h:impl_readSize s_0=some r):FX 25 [.im 2 false [Y s_0]] (B0 [(false,[.im 0 (I r.1)]),(false,[.im 0 (I r.2.1)]),(false,[.im 0 (V r.2.2)])]):=by
 unfold impl_readSize at h
 refine gn 37 Tryd.func25 rfl ?_
 refine gs<|g0 j j (q (oAsI j j)<|q (oAsI j j)<|q (oAsI j j)<|nl)<|us<|gs<|?_
 obtain ⟨x14,hx14,h⟩:=bs h
 refine g0 j j (q (oMv j j)<|q (oCa (xs:=[.v false [.im 2 _],.v false [.im 0 _]]) (vs:=[(false,[.im 0 _]),(false,[.im 0 _]),(false,[.im 0 _])]) (v:=.tup [(false,[.im 0 _]),(false,[.im 0 _]),(false,[.im 0 _])]) (FL_cut j hx14) (.inl j) j kF39_9_9 j (ppC j (ppC j pp0)) j j pb0 j j j)<|q (oMvT j j)<|q (oEx j j j)<|q (oEx j j j)<|q (oEx j j j)<|q (oAsI j j)<|q (oAsI j j)<|q (oAsI j j)<|nl)<|us<|gs<|?_
 obtain ⟨x20,hx20,h⟩:=bs h
 refine g0 j j (q (oMv j j)<|q (oCa (xs:=[.v false [.im 0 _]]) (vs:=[(false,[.im 0 _]),(false,[.im 0 _])]) (v:=.tup [(false,[.im 0 _]),(false,[.im 0 _])]) (L_impl_ReadDecimal hx20) (.inl j) j kF40_9 j (ppC j pp0) j j pb0 j j j)<|q (oMvT j j)<|q (oEx j j j)<|q (oEx j j j)<|q (oAsI j j)<|q (oAsI j j)<|nl)<|us<|gs<|?_
 obtain ⟨x25,hx25,h⟩:=bs h
 refine g0 j j (q (oMv j j)<|q (oCa (xs:=[.v false [.im 0 _]]) (vs:=[(false,[.im 0 _]),(false,[.im 0 _])]) (v:=.tup [(false,[.im 0 _]),(false,[.im 0 _])]) (L_impl_ReadDecimal hx25) (.inl j) j kF40_9 j (ppC j pp0) j j pb0 j j j)<|q (oMvT j j)<|q (oEx j j j)<|q (oEx j j j)<|q (oAsI j j)<|q (oAsI j j)<|nl)<|us<|gs<|gX c25 j j j (mk [(2,iv x20.1),(3,iv x25.1),(4,bv (x14.2.2&&(x20.2&&x25.2)))] []) ?_ ?_
 ·refine xq (oMv j j)<|xq (oMv j j)<|xq (oMv j j)<|xq (oMv j j)<|?_
  by_cases hc1:x14.2.2=true
  ·refine xqT j j (iR.2 hc1) (oMv j j)<|xq (oPkT j j (iR.2 hc1) j)<|xq (oMv j j)<|?_
   by_cases hc2:x20.2=true
   ·exact xqT rfl rfl (iR.2 hc2) (oMv rfl rfl)<|xq (oPkT rfl rfl (iR.2 hc2) rfl)<|xq (oAsI rfl rfl)<|xq (oAsI rfl rfl)<|xq (oAsI rfl rfl)<|xn (Eq.trans (b:=(fun t_4_m4:Bool=>mk [(2,iv x20.1),(3,iv x25.1),(4,bv t_4_m4)] []) x25.2) (by kernel_rfl) (congrArg (fun t_4_m4:Bool=>mk [(2,iv x20.1),(3,iv x25.1),(4,bv t_4_m4)] []) (by first | rfl | (simp [(iR.2 hc1),(iR.2 hc2)];done) | (simp [(iR.2 hc1),(iR.2 hc2)];omega) | (have q0:=(iR.2 hc1);have q1:=(iR.2 hc2);simp_all))))
   ·exact xsgF rfl rfl (byF iR hc2) rfl<|xq (oPkF rfl rfl (byF iR hc2) rfl)<|xq (oAsI rfl rfl)<|xq (oAsI rfl rfl)<|xq (oAsI rfl rfl)<|xn (Eq.trans (b:=(fun t_4_m4:Bool=>mk [(2,iv x20.1),(3,iv x25.1),(4,bv t_4_m4)] []) false) (by kernel_rfl) (congrArg (fun t_4_m4:Bool=>mk [(2,iv x20.1),(3,iv x25.1),(4,bv t_4_m4)] []) (by first | rfl | (simp [(iR.2 hc1),(byF iR hc2)];done) | (simp [(iR.2 hc1),(byF iR hc2)];omega) | (have q0:=(iR.2 hc1);have q1:=(byF iR hc2);simp_all))))
  ·exact xsgF rfl rfl (byF iR hc1) rfl<|xq (oPkF rfl rfl (byF iR hc1) rfl)<|xq (oMv rfl rfl)<|xsgF rfl rfl rfl rfl<|xq (oPkF rfl rfl rfl rfl)<|xq (oAsI rfl rfl)<|xq (oAsI rfl rfl)<|xq (oAsI rfl rfl)<|xn (Eq.trans (b:=(fun t_4_m4:Bool=>mk [(2,iv x20.1),(3,iv x25.1),(4,bv t_4_m4)] []) false) (by kernel_rfl) (congrArg (fun t_4_m4:Bool=>mk [(2,iv x20.1),(3,iv x25.1),(4,bv t_4_m4)] []) (by first | rfl | (simp [(byF iR hc1)];done) | (simp [(byF iR hc1)];omega))))
 ·refine us<|Go.ret (Unw.ret ?_)
  cases h
  exact fr rF25 j
theorem L_impl_within {n_0:Int} {low_1:Int} {high_2:Int} {r:Bool} (h:impl_within n_0 low_1 high_2=some r):FX 35 [.im 2 false [I n_0],.im 2 false [I low_1],.im 2 false [I high_2]] (B0 [(false,[.im 0 (V r)])]):=by
 unfold impl_within at h
 refine gn 15 Tryd.func35 rfl ?_
 refine gs<|g0 j j (q (oAsI j j)<|nl)<|us<|gs<|gX c35 j j j (mk [(6,bv ((decide (n_0≥low_1))&&(decide (n_0≤high_2))))] []) ?_ ?_
 ·refine xq (oMv j j)<|xq (oMv j j)<|xq (oBi j j j j)<|xq (oMv j j)<|?_
  by_cases hc1:n_0≥low_1
  ·exact xqT rfl rfl (iDec.2 hc1) (oMv rfl rfl)<|xqT rfl rfl (iDec.2 hc1) (oMv rfl rfl)<|xqT rfl rfl (iDec.2 hc1) (oBi rfl rfl rfl rfl)<|xq (oPkT rfl rfl (iDec.2 hc1) rfl)<|xq (oAsI rfl rfl)<|xn (Eq.trans (b:=(fun t_6_m1:Bool=>mk [(6,bv t_6_m1)] []) (decide (n_0≤high_2))) (by kernel_rfl) (congrArg (fun t_6_m1:Bool=>mk [(6,bv t_6_m1)] []) (by first | rfl | (simp [(iDec.2 hc1)];done) | (simp [(iDec.2 hc1)];omega))))
  ·exact xsgF rfl rfl (byF iDec hc1) rfl<|xsgF rfl rfl (byF iDec hc1) rfl<|xsgF rfl rfl (byF iDec hc1) rfl<|xq (oPkF rfl rfl (byF iDec hc1) rfl)<|xq (oAsI rfl rfl)<|xn (Eq.trans (b:=(fun t_6_m1:Bool=>mk [(6,bv t_6_m1)] []) false) (by kernel_rfl) (congrArg (fun t_6_m1:Bool=>mk [(6,bv t_6_m1)] []) (by first | rfl | (simp [(byF iDec hc1)];done) | (simp [(byF iDec hc1)];omega))))
 ·refine us<|Go.ret (Unw.ret ?_)
  cases h
  exact fr rF35 j
theorem L_impl_ValidRoom {r_0:S_Room} {r:Bool} (h:impl_ValidRoom r_0=some r):FX 22 [.im 2 true (u_S_Room r_0)] (B0 [(false,[.im 0 (V r)])]):=by
 unfold impl_ValidRoom at h
 refine gn 11 Tryd.func22 rfl ?_
 refine gs<|g0 j j (q (oBx j tF25 j (tkI (tkI tk0)))<|q (oAsI j j)<|nl)<|us<|gs<|?_
 obtain ⟨x5,hx5,h⟩:=bs h
 obtain ⟨t_2_m1,hm2,h⟩:=bs h
 refine gX c22 j j j (mk [(2,bv t_2_m1)] []) ?_ ?_
 ·refine xq (oFA (r':=.mp 1 0 0) j fF25_0 j j)<|xq (oLd (cs:=[.im 0 _]) j tF2 j j)<|xq (oCa (xs:=[.v false [.im 0 _],.v false [.im 0 _],.v false [.im 0 _]]) (vs:=[(false,[.im 0 _])]) (v:=.v false [.im 0 _]) (L_impl_within hx5) (.inl j) j kF35_2_2_2 j (ppC j (ppC j (ppC j pp0))) j j pb0 j j j)<|xq (oMv j j)<|?_
  refine ic hm2 (fun hc1 hm2=>?_) fun hc1 hm2=>?_
  ·obtain ⟨x9,hx9,hm2⟩:=bs hm2
   cases hm2
   exact xqT j j (iR.2 hc1) (oFA (r':=.mp 1 0 1) j fF25_1 j j)<|xqT j j (iR.2 hc1) (oLd (cs:=[.im 0 _]) j tF2 j j)<|xqT j j (iR.2 hc1) (oCa (xs:=[.v false [.im 0 _],.v false [.im 0 _],.v false [.im 0 _]]) (vs:=[(false,[.im 0 _])]) (v:=.v false [.im 0 _]) (L_impl_within hx9) (.inl j) j kF35_2_2_2 j (ppC j (ppC j (ppC j pp0))) j j pb0 j j j)<|xq (oPkT j j (iR.2 hc1) j)<|xq (oAsI j j)<|xn
  ·cases hm2
   exact xsgF j j (byF iR hc1) j<|xsgF j j (byF iR hc1) j<|xsgF j j (byF iR hc1) j<|xq (oPkF j j (byF iR hc1) j)<|xq (oAsI j j)<|xn
 ·refine us<|Go.ret (Unw.ret ?_)
  cases h
  exact fr rF22 j
theorem L_impl_ReadRoom {s_0:ByteArray} {r:(S_Room×Bool)} (h:impl_ReadRoom s_0=some r):FX 10 [.im 2 false [Y s_0]] (B0 [(true,J 0 (u_S_Room r.1)),(false,[.im 0 (V r.2)])]):=by
 unfold impl_ReadRoom at h
 refine gn 26 Tryd.func10 rfl ?_
 refine gs<|g0 j j (q (oAl j tF25 (tkI (tkI tk0)))<|q (oAsI j j)<|nl)<|us<|gs<|?_
 obtain ⟨x10,hx10,h⟩:=bs h
 refine g0 j j (q (oMv j j)<|q (oCa (xs:=[.v false [.im 2 _]]) (vs:=[(false,[.im 0 _]),(false,[.im 0 _]),(false,[.im 0 _])]) (v:=.tup [(false,[.im 0 _]),(false,[.im 0 _]),(false,[.im 0 _])]) (L_impl_readSize hx10) (.inl j) j kF25_9 j (ppC j pp0) j j pb0 j j j)<|q (oMvT j j)<|q (oEx j j j)<|q (oEx j j j)<|q (oEx j j j)<|q (oAsI j j)<|q (oAsI j j)<|q (oAsI j j)<|nl)<|us<|gs<|g0 j j (q (oMv j j)<|q (oMv j j)<|q (oBu (cs:=[.im 0 _,.im 0 _]) j bF25 j)<|q (oAl j tF25 (tkI (tkI tk0)))<|q (oSt tF25 j j j (tkI (tkI tk0)) j j j)<|nl)<|us<|gs<|gs<|?_
 obtain ⟨t_23_m3,hm3,h⟩:=bs h
 refine gX c10 j j (st1:=mk [(2,M 2),(6,bv x10.2.2),(7,M 7)] [(2,Oa [C (I 0),C (I 0)]),(7,Oa [C (I x10.1),C (I x10.2.1)])]) (by kernel_rfl) (mk [(2,M 2),(7,M 7),(23,bv t_23_m3)] [(2,Oa [C (I 0),C (I 0)]),(7,Oa [C (I x10.1),C (I x10.2.1)])]) ?_ ?_
 ·refine xq (oMv j j)<|xq (oUn j j j)<|xq (oMv j j)<|?_
  refine ic hm3 (fun hc1 hm3=>?_) fun hc1 hm3=>?_
  ·obtain ⟨x21,hx21,hm3⟩:=bs hm3
   cases hm3
   exact xqT j j (nF (iR.2 hc1)) (oLd (cs:=[.im 0 _,.im 0 _]) j tF25 j j)<|xqT j j (nF (iR.2 hc1)) (oCa (xs:=[.v true [.im 0 _,.im 0 _]]) (vs:=[(false,[.im 0 _])]) (v:=.v false [.im 0 _]) (L_impl_ValidRoom hx21) (.inl j) j kF22_25 j (ppC j pp0) j j pb0 j j j)<|xqT j j (nF (iR.2 hc1)) (oUn j j j)<|xq (oPkF j j (nF (iR.2 hc1)) j)<|xn
  ·cases hm3
   exact xsgF j j (nT (byF iR hc1)) j<|xsgF j j (nT (byF iR hc1)) j<|xsgF j j (nT (byF iR hc1)) j<|xq (oPkT j j (nT (byF iR hc1)) j)<|xn
 ·refine us<|gc h j iR (fun hc2 h=>?_) fun hc2 h=>?_
  ·refine gs<|g0 j j (q (oBu (cs:=[.im 0 _,.im 0 _]) j bF25 j)<|q (oSt tF25 j j j (tkI (tkI tk0)) j j j)<|q (oAsI j j)<|nl)<|us<|Go.ret (Unw.ret ?_)
   cases h
   exact fr rF10 j
  ·refine Go.skip<|us<|gs<|g0 j j (q (oLd (cs:=[.im 0 _,.im 0 _]) j tF25 j j)<|q (oSt tF25 j j j (tkI (tkI tk0)) j j j)<|q (oAsI j j)<|nl)<|us<|Go.ret (Unw.ret ?_)
   cases h
   exact fr rF10 j
theorem L_laws_eqRoom {a_0:S_Room} {b_1:S_Room} {r:Bool} (h:laws_eqRoom a_0 b_1=some r):FX 11 [.im 2 true (u_S_Room a_0),.im 2 true (u_S_Room b_1)] (B0 [(false,[.im 0 (V r)])]):=by
 unfold laws_eqRoom at h
 refine gn 15 Tryd.func11 rfl ?_
 refine gs<|g0 j j (q (oBx j tF25 j (tkI (tkI tk0)))<|q (oBx j tF25 j (tkI (tkI tk0)))<|q (oAsI j j)<|nl)<|us<|gs<|gs<|g0 j j (q (oFA (r':=.mp 2 0 0) j fF25_0 j j)<|q (oLd (cs:=[.im 0 _]) j tF2 j j)<|q (oFA (r':=.mp 3 0 0) j fF25_0 j j)<|q (oLd (cs:=[.im 0 _]) j tF2 j j)<|q (oBi j j j j)<|nl)<|us<|gc h j iNe (fun hc1 h=>?_) fun hc1 h=>?_
 ·refine gs<|g0 j j (q (oAsI j j)<|nl)<|us<|Go.ret (Unw.ret ?_)
  cases h
  exact fr rF11 j
 ·refine Go.skip<|us<|gs<|gs<|g0 j j (q (oFA (r':=.mp 2 0 1) j fF25_1 j j)<|q (oLd (cs:=[.im 0 _]) j tF2 j j)<|q (oFA (r':=.mp 3 0 1) j fF25_1 j j)<|q (oLd (cs:=[.im 0 _]) j tF2 j j)<|q (oBi j j j j)<|nl)<|us<|gc h j iNe (fun hc2 h=>?_) fun hc2 h=>?_
  ·refine gs<|g0 j j (q (oAsI j j)<|nl)<|us<|Go.ret (Unw.ret ?_)
   cases h
   exact fr rF11 j
  ·refine Go.skip<|us<|gs<|g0 j j (q (oAsI j j)<|nl)<|us<|Go.ret (Unw.ret ?_)
   cases h
   exact fr rF11 j
theorem L_laws_FnExactReadRoom {aS_0:ByteArray} {r:Bool} (h:laws_FnExactReadRoom aS_0=some r):FX 4 [.im 2 false [Y aS_0]] (B0 [(false,[.im 0 (V r)])]):=by
 unfold laws_FnExactReadRoom at h
 refine gn 29 Tryd.func4 rfl ?_
 refine gs<|g0 j j (q (oAsI j j)<|nl)<|us<|gs<|gs<|g0 j j (q (oMv j j)<|q (oLnS j j uF9 j)<|q (oBi j j j j)<|nl)<|us<|gc h j iDec (fun hc1 h=>?_) fun hc1 h=>?_
 ·refine gs<|g0 j j (q (oAsI j j)<|nl)<|us<|Go.ret (Unw.ret ?_)
  cases h
  exact fr rF4 j
 ·refine Go.skip<|us<|gs<|?_
  obtain ⟨x12,hx12,h⟩:=bs h
  refine g0 j j (q (oMv j j)<|q (oCa (xs:=[.v false [.im 2 _]]) (vs:=[(true,[.im 0 _,.im 0 _]),(false,[.im 0 _])]) (v:=.tup [(true,[.im 0 _,.im 0 _]),(false,[.im 0 _])]) (L_spec_ReadRoom hx12) (.inl j) j kF9_9 j (ppC j pp0) j j pb0 j j j)<|q (oMvT j j)<|q (oEx j j j)<|q (oEx j j j)<|q (oAl j tF25 (tkI (tkI tk0)))<|q (oSt tF25 j j j (tkI (tkI tk0)) j j j)<|q (oAsI j j)<|nl)<|us<|gs<|?_
  obtain ⟨x17,hx17,h⟩:=bs h
  refine g1 j j (mk [(0,sv aS_0),(3,M 3),(4,bv x12.2)] [(3,Oa (G 0 (u_S_Room x12.1)))]) (q (oMv j j)<|q (oCa (xs:=[.v false [.im 0 _]]) (vs:=[(true,[.im 0 _,.im 0 _]),(false,[.im 0 _])]) (v:=.tup [(true,[.im 0 _,.im 0 _]),(false,[.im 0 _])]) (L_impl_ReadRoom hx17) (.inl j) j kF10_9 j (ppC j pp0) j j pb0 j j j)<|q (oMvT j j)<|q (oEx j j j)<|q (oEx j j j)<|q (oAl j tF25 (tkI (tkI tk0)))<|q (oSt tF25 j j j (tkI (tkI tk0)) j j j)<|q (oAsI j j)<|nl)<|us<|gs<|gs<|?_
  obtain ⟨x22,hx22,h⟩:=bs h
  refine gX c4 j j (st1:=mk [(3,M 3),(4,bv x12.2),(5,M 5),(6,bv x17.2)] [(3,Oa (G 0 (u_S_Room x12.1))),(5,Oa (G 0 (u_S_Room x17.1)))]) (by kernel_rfl) (mk [(28,bv ((!x22)||(!(x17.2==x12.2))))] []) ?_ ?_
  ·refine xq (oLd (cs:=[.im 0 _,.im 0 _]) j tF25 j j)<|xq (oLd (cs:=[.im 0 _,.im 0 _]) j tF25 j j)<|xq (oCa (xs:=[.v true [.im 0 _,.im 0 _],.v true [.im 0 _,.im 0 _]]) (vs:=[(false,[.im 0 _])]) (v:=.v false [.im 0 _]) (L_laws_eqRoom hx22) (.inl j) j kF11_25_25 j (ppC j (ppC j pp0)) j j pb0 j j j)<|xq (oUn j j j)<|xq (oMv j j)<|?_
   by_cases hc2:x22=true
   ·exact xqT rfl rfl (nF (iR.2 hc2)) (oMv rfl rfl)<|xqT rfl rfl (nF (iR.2 hc2)) (oMv rfl rfl)<|xqT rfl rfl (nF (iR.2 hc2)) (oBiU rfl uF4 rfl rfl rfl)<|xq (oPkF rfl rfl (nF (iR.2 hc2)) rfl)<|xn (Eq.trans (b:=(fun t_28_m5:Bool=>mk [(28,bv t_28_m5)] []) (!(x17.2==x12.2))) (by kernel_rfl) (congrArg (fun t_28_m5:Bool=>mk [(28,bv t_28_m5)] []) (by first | rfl | (simp [(iR.2 hc2)];done) | (simp [(iR.2 hc2)];omega))))
   ·exact xsgF rfl rfl (nT (byF iR hc2)) rfl<|xsgF rfl rfl (nT (byF iR hc2)) rfl<|xsgF rfl rfl (nT (byF iR hc2)) rfl<|xq (oPkT rfl rfl (nT (byF iR hc2)) rfl)<|xn (Eq.trans (b:=(fun t_28_m5:Bool=>mk [(28,bv t_28_m5)] []) true) (by kernel_rfl) (congrArg (fun t_28_m5:Bool=>mk [(28,bv t_28_m5)] []) (by first | rfl | (simp [(byF iR hc2)];done) | (simp [(byF iR hc2)];omega))))
  ·refine us<|gc h j (iOr (iNot iR) (iNot iBe)) (fun hc3 h=>?_) fun hc3 h=>?_
   ·refine gs<|g0 j j (q (oAsI j j)<|nl)<|us<|Go.ret (Unw.ret ?_)
    cases h
    exact fr rF4 j
   ·refine Go.skip<|us<|gs<|g0 j j (q (oAsI j j)<|nl)<|us<|Go.ret (Unw.ret ?_)
    cases h
    exact fr rF4 j
end
end Go.Proofs.YthdegfgajfgggaaDoor
