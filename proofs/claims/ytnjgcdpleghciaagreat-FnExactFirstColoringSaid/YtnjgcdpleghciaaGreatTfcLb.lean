/- The machine answers, at each function of the program that is reached, what its plain function answers: a further part. Conditions: none. -/
import Derived.Test.YtnjgcdpleghciaaGreatTfcLa
namespace Go.Proofs.YtnjgcdpleghciaaGreat
open Go Go.Sim Go.Pw Go.Proofs
set_option linter.unusedVariables false
set_option linter.unusedSimpArgs false
set_option maxRecDepth 100000
set_option maxHeartbeats 4000000
noncomputable section
theorem LD {d_0:aA} {aQ:(List ai)} {aO:Int} {bK:Int} {r:aG} (h:wL d_0 aQ aO bK=some r):FX 27 [.im 2 false [.cp (ak d_0) 0],.im 2 false [W 3 au aQ],.im 2 false [I aO],.im 2 false [I bK]] (B0 [(false,[.pt true [⟨.imm,0,W 1 (eL 1 eI) r.before⟩,⟨.sh,0,W 1 (eL 1 eI) r.table⟩,⟨.imm,0,I r.limit⟩,⟨.imm,0,I r.most⟩,⟨.sh,0,W 1 eI r.choice⟩,⟨.imm,0,I r.nodes⟩,⟨.imm,0,I r.budget⟩,⟨.imm,0,V r.full⟩]])]):=by
 unfold wL at h
 refine gn 112 Tryz.func27 rfl ?_
 refine gs<|g0 j j (q (ae j j)<|nl)<|us<|gs<|g0 j j (q (oMv j j)<|q (oMv j j)<|q (oBu (cs:=[.nil,.nil,.im 2 _,.im 0 _,.nil,.im 0 _,.im 2 _,.im 0 _]) j af7 j)<|q (afT (ys:=[⟨.dp 0,0,W 1 (eL 1 eI) ([]:List (List Int))⟩,⟨.sh,0,W 1 (eL 1 eI) ([]:List (List Int))⟩,⟨.imm,0,I aO⟩,⟨.imm,0,I 10⟩,⟨.sh,0,W 1 eI ([]:List Int)⟩,⟨.imm,0,I 0⟩,⟨.imm,0,I bK⟩,⟨.imm,0,V false⟩]) j agU j (tkN (tkN (tkI (tkI (tkN (tkI (tkI (tkI tk0)))))))) (by kernel_rfl))<|q (YH j j)<|nl)<|us<|gs<|gs<|g1 j j (mk [(0,D 2 (.cp (ak d_0) 0)),(1,D 2 (W 3 au aQ)),(9,M 19)] [(19,Oa [⟨.dp 0,0,0,W 1 (eL 1 eI) ([]:List (List Int))⟩,Z (W 1 (eL 1 eI) ([]:List (List Int))),C (I aO),C (I 10),Z (W 1 eI ([]:List Int)),C (I 0),C (I bK),C (V false)])]) (q (ae j j)<|nl)<|us<|Go.block<|?_
 obtain ⟨o,hl,h⟩:=bs h
 refine gl c27 j _ (fun (s:(Int×(List (List Int))))=>match s with | (DK,yG)=>mk [(0,D 2 (.cp (ak d_0) 0)),(1,D 2 (W 3 au aQ)),(9,M 19),(10,iv DK)] [(19,Oa [⟨.dp 0,0,0,W 1 (eL 1 eI) yG⟩,Z (W 1 (eL 1 eI) ([]:List (List Int))),C (I aO),C (I 10),Z (W 1 eI ([]:List Int)),C (I 0),C (I bK),C (V false)])]) (fun (xZ:(List (List Int))) (p:Ex×St)=>p.1= .exit 0∧p.2.norm ([0,1,9],[19])=mk [(0,D 2 (.cp (ak d_0) 0)),(1,D 2 (W 3 au aQ)),(9,M 19)] [(19,Oa [⟨.dp 0,0,0,W 1 (eL 1 eI) xZ⟩,Z (W 1 (eL 1 eI) ([]:List (List Int))),C (I aO),C (I 10),Z (W 1 eI ([]:List Int)),C (I 0),C (I bK),C (V false)])]) hl (by kernel_rfl) ?_ ?_ ?_
 ·intro o p hp e
  exact nomatch (hp.1.symm.trans e)
 ·rintro ⟨DK,yG⟩ o h
  unfold nS at h
  dsimp only at h
  refine gs<|gs<|g0 j j (q (oMv j j)<|q (oMv j j)<|q (oNl j j j)<|q (oFA (r':=.im 2 _) j oK j j)<|q (oLd (cs:=[.im 2 _]) j Bi j j)<|q (gB j j Iu j)<|q (oBi j j j j)<|nl)<|us<|gc h j ah (fun hc16 h=>?_) fun hc16 h=>?_
  ·refine Go.skip<|us<|gs<|Go.block<|?_
   obtain ⟨x36,FZ,h⟩:=bs h
   refine g0 j j (q (oMv j j)<|q (oMv j j)<|q (oNl j j j)<|q (oFA (r':=.mp 19 0 0) j xK j j)<|q (oLd (cs:=[.own 19 0 0]) j yZ j j)<|q (oBS (es:=List.map eI ([]:List Int)) j fH j pt0 (dX j fun _=>j))<|q (afS (em:=(eL 1 eI)) (u:=([]:List Int)) j uy j j j j j j)<|q (ad8 (em:=(eL 1 eI)) (M:=([([]:List Int)]:List (List Int))) j FZ j uy j j SB (.inl ⟨_,j⟩) j j j j j j j)<|q (oNl j j j)<|q (oFA (r':=.mp 19 0 0) j xK j j)<|q (oSt yZ j j j (tkD j j tk0) j j j)<|nl)<|Unw.blk<|us<|g1 j j (mk [(0,D 2 (.cp (ak d_0) 0)),(1,D 2 (W 3 au aQ)),(9,M 19),(10,iv DK)] [(19,Oa [⟨.dp 0,0,0,W 1 (eL 1 eI) x36⟩,Z (W 1 (eL 1 eI) ([]:List (List Int))),C (I aO),C (I 10),Z (W 1 eI ([]:List Int)),C (I 0),C (I bK),C (V false)])]) (q (oMv j j)<|q (oBi j j j j)<|q (ae j j)<|nl)<|Unw.nil<|?_
   cases h
   exact ⟨j,(by kernel_rfl)⟩
  ·refine Go.exit<|ux<|Unw.nil<|?_
   cases h
   exact ⟨j,(by kernel_rfl)⟩
 ·rintro ⟨e,st⟩ hp
  obtain ⟨xZ,rfl⟩:∃y,y=o:=⟨o,rfl⟩
  obtain ⟨he,hst⟩:=hp
  obtain rfl:e= .exit 0:=he
  refine Unw.iP<|us<|gs<|?_
  obtain ⟨x40,KD,h⟩:=bs h
  refine g2 c27 j j hst (q (oMv j j)<|q (oCr (xs:=[.v false [.im 2 _]]) (vs:=[(false,[.own 40 0 0])]) (v:=.v false [.own 40 0 0]) (c:=⟨.sh,0,_⟩) (cs:=[]) (IM KD) (.inl j) j aax j (ppC j pp0) j j pb0 j j j)<|q (kC j j j j j)<|nl)<|us<|gs<|gs<|g0 j j (q (ae j j)<|nl)<|us<|Go.block<|?_
  obtain ⟨o,hl,h⟩:=bs h
  refine gl c27 j _ (fun (s:(Int×(List (List Int))))=>match s with | (Bc,tN)=>mk [(1,D 2 (W 3 au aQ)),(9,M 19),(11,H 11 0),(12,iv Bc)] [(11,Oc [Z (W 1 (eL 1 eI) x40)]),(19,Oa [⟨.dp 0,0,0,W 1 (eL 1 eI) tN⟩,Z (W 1 (eL 1 eI) ([]:List (List Int))),C (I aO),C (I 10),Z (W 1 eI ([]:List Int)),C (I 0),C (I bK),C (V false)])]) (fun (jO:(List (List Int))) (p:Ex×St)=>p.1= .exit 2∧p.2.norm ([1,9],[19])=mk [(1,D 2 (W 3 au aQ)),(9,M 19)] [(19,Oa [⟨.dp 0,0,0,W 1 (eL 1 eI) jO⟩,Z (W 1 (eL 1 eI) ([]:List (List Int))),C (I aO),C (I 10),Z (W 1 eI ([]:List Int)),C (I 0),C (I bK),C (V false)])]) hl (by kernel_rfl) ?_ ?_ ?_
  ·intro o p hp e
   exact nomatch (hp.1.symm.trans e)
  ·rintro ⟨Bc,tN⟩ o h
   unfold qp at h
   dsimp only at h
   refine gs<|gs<|g0 j j (q (oMv j j)<|q (oMv j j)<|q (GM j j SB j j j (fun e=>nomatch e))<|q (oBi j j j j)<|nl)<|us<|gc h j ah (fun SG h=>?_) fun SG h=>?_
   ·refine Go.skip<|us<|gs<|Go.block<|?_
    obtain ⟨x71,Vk,h⟩:=bs h
    obtain ⟨x73,ag2,h⟩:=bs h
    obtain ⟨x55,aaZ,h⟩:=bs h
    obtain ⟨x67,qf,h⟩:=bs h
    obtain ⟨x76,LG,h⟩:=bs h
    refine gd c27 j j j j (mk [(1,D 2 (W 3 au aQ)),(9,M 19),(11,H 11 0),(12,iv Bc)] [(11,Oc [Z (W 1 (eL 1 eI) x40)]),(19,Oa [⟨.dp 0,0,0,W 1 (eL 1 eI) (tN.set x55.toNat x76)⟩,Z (W 1 (eL 1 eI) ([]:List (List Int))),C (I aO),C (I 10),Z (W 1 eI ([]:List Int)),C (I 0),C (I bK),C (V false)])]) (t j j (oMv j j)<|t j j (oMv j j)<|t j j (oMv j j)<|t j j (oMv j j)<|t j j (oMv j j)<|t j j (oMv j j)<|t j j (oMv j j)<|t j j (oMv j j)<|t j j (zY j Vk uy j j j j)<|t j j (Iq (cs:=[.im 0 _]) j oh j j j j (eP Vk) j j)<|t j j (fU j ag2 fH j j)<|t j j (oLd (cs:=[.im 0 _]) j tF2 j j)<|sK (O:=[11]) j j j (dN z27 j (zY j Vk uy j j j j))<|sK (O:=[11]) j j j (dN z27 j (Iq (cs:=[.im 0 _]) j oh j j j j (eP Vk) j j))<|t j j (fU j aaZ fH j j)<|t j j (oLd (cs:=[.im 0 _]) j tF2 j j)<|sK (O:=[19]) j j j (dN z27 j (oNl j j j))<|sK (O:=[19]) j j j (dN z27 j (oFA (r':=.mp 19 0 0) j xK j j))<|sK (O:=[19]) j j j (dN z27 j (oLd (cs:=[.own 19 0 0]) j yZ j j))<|sK (O:=[11]) j j j (dN z27 j (zY j Vk uy j j j j))<|sK (O:=[11]) j j j (dN z27 j (Iq (cs:=[.im 0 _]) j oh j j j j (eP Vk) j j))<|t j j (fU j aaZ fH j j)<|t j j (oLd (cs:=[.im 0 _]) j tF2 j j)<|sK (O:=[19]) j j j (dN z27 j (GR j qf uy j j j j (fun e=>nomatch e)))<|sK (O:=[19]) j j j (dN z27 j (ad7 (cs:=[.inr 19 0 0 _ 0 0]) j oh j j j (eP qf) j j))<|sF (dN z27 j (oNl j j j)) (kY ⟨j,trivial⟩ (kY ⟨j,trivial⟩ (kY ⟨j,trivial⟩ (kY ⟨j,trivial⟩ (kY ⟨j,trivial⟩ (kY ⟨j,trivial⟩ (kY ⟨j,trivial⟩ (kY ⟨j,trivial⟩ (kY ⟨j,trivial⟩ trivial))))))))) (sF (dN z27 j (oFA (r':=.mp 19 0 0) j xK j j)) (kY ⟨j,trivial⟩ (kY ⟨j,trivial⟩ (kY ⟨j,trivial⟩ (kY ⟨j,trivial⟩ (kY ⟨j,trivial⟩ (kY ⟨j,trivial⟩ (kY ⟨j,trivial⟩ (kY ⟨j,trivial⟩ (kY ⟨j,trivial⟩ trivial))))))))) (sF (dN z27 j (oLd (cs:=[.own 19 0 0]) j yZ j j)) (kY ⟨j,trivial⟩ (kY ⟨j,trivial⟩ (kY ⟨j,trivial⟩ (kY ⟨j,trivial⟩ (kY ⟨j,trivial⟩ (kY ⟨j,trivial⟩ (kY ⟨j,trivial⟩ (kY ⟨j,trivial⟩ (kY ⟨j,trivial⟩ trivial))))))))) (sS (dN z27 j (oBS (es:=List.map eI ([x73]:List Int)) j fH j (ptC j (fxI fx0) j pt0) (dX j fun _=>j))) (kY ⟨j,trivial⟩ (kY ⟨j,trivial⟩ (kY ⟨j,trivial⟩ (kY ⟨j,trivial⟩ (kY ⟨j,trivial⟩ (kY ⟨j,trivial⟩ (kY ⟨j,trivial⟩ (kY ⟨j,trivial⟩ (kY ⟨j,trivial⟩ trivial))))))))) (sS (dN z27 j (JW (en:=eI) (M:=([x73]:List Int)) j LG j fH j j lX (.inl ⟨_,j⟩) j j j (eP qf) j j (kH j j) (dX j fun _=>j))) (kN j (kN j (kN j (kN j (kN j (kN j (kN j (kY ⟨j,trivial⟩ (kY ⟨j,trivial⟩ trivial))))))))) (t j j (GR j qf uy j j j j (fun e=>nomatch e))<|sS (dN z27 j (JV (v':=x76) oh j j j j (tkO j j tk0) j j (eP qf) j)) (kN j (kN j (kN j (kN j (kN j (kN j (kN j (kN j (kN j trivial))))))))) (sD (by kernel_rfl))))) (sS (dN z27 j (oBS (es:=List.map eI ([x73]:List Int)) j fH j (ptC j (fxI fx0) j pt0) (dX j fun _=>j))) (kY ⟨j,trivial⟩ (kY ⟨j,trivial⟩ (kY ⟨j,trivial⟩ (kY ⟨j,trivial⟩ (kY ⟨j,trivial⟩ (kY ⟨j,trivial⟩ (kY ⟨j,trivial⟩ (kY ⟨j,trivial⟩ (kY ⟨j,trivial⟩ trivial))))))))) (sF (dN z27 j (oLd (cs:=[.own 19 0 0]) j yZ j j)) (kY ⟨j,trivial⟩ (kY ⟨j,trivial⟩ (kY ⟨j,trivial⟩ (kY ⟨j,trivial⟩ (kY ⟨j,trivial⟩ (kY ⟨j,trivial⟩ (kY ⟨j,trivial⟩ (kY ⟨j,trivial⟩ (kY ⟨j,trivial⟩ trivial))))))))) (sS (dN z27 j (JW (en:=eI) (M:=([x73]:List Int)) j LG j fH j j lX (.inl ⟨_,j⟩) j j j (eP qf) j j (kH j j) (dX j fun _=>j))) (kN j (kN j (kN j (kN j (kN j (kN j (kN j (kY ⟨j,trivial⟩ (kY ⟨j,trivial⟩ trivial))))))))) (t j j (GR j qf uy j j j j (fun e=>nomatch e))<|sS (dN z27 j (JV (v':=x76) oh j j j j (tkO j j tk0) j j (eP qf) j)) (kN j (kN j (kN j (kN j (kN j (kN j (kN j (kN j (kN j trivial))))))))) (sD (by kernel_rfl)))) (sS (dN z27 j (JW (en:=eI) (M:=([x73]:List Int)) j LG j fH j j lX (.inl ⟨_,j⟩) j j j (eP qf) j j (kH j j) (dX j fun _=>j))) (kN j (kN j (kN j (kN j (kN j (kN j (kN j (kY ⟨j,trivial⟩ (kY ⟨j,trivial⟩ trivial))))))))) (sS (dN z27 j (oLd (cs:=[.own 19 0 0]) j yZ j j)) (kY ⟨j,trivial⟩ (kY ⟨j,trivial⟩ (kY ⟨j,trivial⟩ (kY ⟨j,trivial⟩ (kY ⟨j,trivial⟩ (kY ⟨j,trivial⟩ (kY ⟨j,trivial⟩ (kY ⟨j,trivial⟩ (kY ⟨j,trivial⟩ trivial))))))))) (t j j (GR j qf uy j j j j (fun e=>nomatch e))<|sS (dN z27 j (JV (v':=x76) oh j j j j (tkO j j tk0) j j (eP qf) j)) (kN j (kN j (kN j (kN j (kN j (kN j (kN j (kN j (kN j trivial))))))))) (sD (by kernel_rfl)))))))) (sS (dN z27 j (oBS (es:=List.map eI ([x73]:List Int)) j fH j (ptC j (fxI fx0) j pt0) (dX j fun _=>j))) (kY ⟨j,trivial⟩ (kY ⟨j,trivial⟩ (kY ⟨j,trivial⟩ (kY ⟨j,trivial⟩ (kY ⟨j,trivial⟩ (kY ⟨j,trivial⟩ (kY ⟨j,trivial⟩ (kY ⟨j,trivial⟩ (kY ⟨j,trivial⟩ trivial))))))))) (sF (dN z27 j (oFA (r':=.mp 19 0 0) j xK j j)) (kY ⟨j,trivial⟩ (kY ⟨j,trivial⟩ (kY ⟨j,trivial⟩ (kY ⟨j,trivial⟩ (kY ⟨j,trivial⟩ (kY ⟨j,trivial⟩ (kY ⟨j,trivial⟩ (kY ⟨j,trivial⟩ (kY ⟨j,trivial⟩ trivial))))))))) (sF (dN z27 j (oLd (cs:=[.own 19 0 0]) j yZ j j)) (kY ⟨j,trivial⟩ (kY ⟨j,trivial⟩ (kY ⟨j,trivial⟩ (kY ⟨j,trivial⟩ (kY ⟨j,trivial⟩ (kY ⟨j,trivial⟩ (kY ⟨j,trivial⟩ (kY ⟨j,trivial⟩ (kY ⟨j,trivial⟩ trivial))))))))) (sS (dN z27 j (JW (en:=eI) (M:=([x73]:List Int)) j LG j fH j j lX (.inl ⟨_,j⟩) j j j (eP qf) j j (kH j j) (dX j fun _=>j))) (kN j (kN j (kN j (kN j (kN j (kN j (kN j (kY ⟨j,trivial⟩ (kY ⟨j,trivial⟩ trivial))))))))) (t j j (GR j qf uy j j j j (fun e=>nomatch e))<|sS (dN z27 j (JV (v':=x76) oh j j j j (tkO j j tk0) j j (eP qf) j)) (kN j (kN j (kN j (kN j (kN j (kN j (kN j (kN j (kN j trivial))))))))) (sD (by kernel_rfl)))) (sS (dN z27 j (JW (en:=eI) (M:=([x73]:List Int)) j LG j fH j j lX (.inl ⟨_,j⟩) j j j (eP qf) j j (kH j j) (dX j fun _=>j))) (kN j (kN j (kN j (kN j (kN j (kN j (kN j (kY ⟨j,trivial⟩ (kY ⟨j,trivial⟩ trivial))))))))) (sS (dN z27 j (oLd (cs:=[.own 19 0 0]) j yZ j j)) (kY ⟨j,trivial⟩ (kY ⟨j,trivial⟩ (kY ⟨j,trivial⟩ (kY ⟨j,trivial⟩ (kY ⟨j,trivial⟩ (kY ⟨j,trivial⟩ (kY ⟨j,trivial⟩ (kY ⟨j,trivial⟩ (kY ⟨j,trivial⟩ trivial))))))))) (t j j (GR j qf uy j j j j (fun e=>nomatch e))<|sS (dN z27 j (JV (v':=x76) oh j j j j (tkO j j tk0) j j (eP qf) j)) (kN j (kN j (kN j (kN j (kN j (kN j (kN j (kN j (kN j trivial))))))))) (sD (by kernel_rfl)))))) (sS (dN z27 j (JW (en:=eI) (M:=([x73]:List Int)) j LG j fH j j lX (.inl ⟨_,j⟩) j j j (eP qf) j j (kH j j) (dX j fun _=>j))) (kN j (kN j (kN j (kN j (kN j (kN j (kN j (kY ⟨j,trivial⟩ (kY ⟨j,trivial⟩ trivial))))))))) (sS (dN z27 j (oFA (r':=.mp 19 0 0) j xK j j)) (kY ⟨j,trivial⟩ (kY ⟨j,trivial⟩ (kY ⟨j,trivial⟩ (kY ⟨j,trivial⟩ (kY ⟨j,trivial⟩ (kY ⟨j,trivial⟩ (kY ⟨j,trivial⟩ (kY ⟨j,trivial⟩ (kY ⟨j,trivial⟩ trivial))))))))) (sS (dN z27 j (oLd (cs:=[.own 19 0 0]) j yZ j j)) (kY ⟨j,trivial⟩ (kY ⟨j,trivial⟩ (kY ⟨j,trivial⟩ (kY ⟨j,trivial⟩ (kY ⟨j,trivial⟩ (kY ⟨j,trivial⟩ (kY ⟨j,trivial⟩ (kY ⟨j,trivial⟩ (kY ⟨j,trivial⟩ trivial))))))))) (t j j (GR j qf uy j j j j (fun e=>nomatch e))<|sS (dN z27 j (JV (v':=x76) oh j j j j (tkO j j tk0) j j (eP qf) j)) (kN j (kN j (kN j (kN j (kN j (kN j (kN j (kN j (kN j trivial))))))))) (sD (by kernel_rfl))))))))) (sS (dN z27 j (oBS (es:=List.map eI ([x73]:List Int)) j fH j (ptC j (fxI fx0) j pt0) (dX j fun _=>j))) (kY ⟨j,trivial⟩ (kY ⟨j,trivial⟩ (kY ⟨j,trivial⟩ (kY ⟨j,trivial⟩ (kY ⟨j,trivial⟩ (kY ⟨j,trivial⟩ (kY ⟨j,trivial⟩ (kY ⟨j,trivial⟩ (kY ⟨j,trivial⟩ trivial))))))))) (sF (dN z27 j (oNl j j j)) (kY ⟨j,trivial⟩ (kY ⟨j,trivial⟩ (kY ⟨j,trivial⟩ (kY ⟨j,trivial⟩ (kY ⟨j,trivial⟩ (kY ⟨j,trivial⟩ (kY ⟨j,trivial⟩ (kY ⟨j,trivial⟩ (kY ⟨j,trivial⟩ trivial))))))))) (sF (dN z27 j (oFA (r':=.mp 19 0 0) j xK j j)) (kY ⟨j,trivial⟩ (kY ⟨j,trivial⟩ (kY ⟨j,trivial⟩ (kY ⟨j,trivial⟩ (kY ⟨j,trivial⟩ (kY ⟨j,trivial⟩ (kY ⟨j,trivial⟩ (kY ⟨j,trivial⟩ (kY ⟨j,trivial⟩ trivial))))))))) (sF (dN z27 j (oLd (cs:=[.own 19 0 0]) j yZ j j)) (kY ⟨j,trivial⟩ (kY ⟨j,trivial⟩ (kY ⟨j,trivial⟩ (kY ⟨j,trivial⟩ (kY ⟨j,trivial⟩ (kY ⟨j,trivial⟩ (kY ⟨j,trivial⟩ (kY ⟨j,trivial⟩ (kY ⟨j,trivial⟩ trivial))))))))) (sS (dN z27 j (JW (en:=eI) (M:=([x73]:List Int)) j LG j fH j j lX (.inl ⟨_,j⟩) j j j (eP qf) j j (kH j j) (dX j fun _=>j))) (kN j (kN j (kN j (kN j (kN j (kN j (kN j (kY ⟨j,trivial⟩ (kY ⟨j,trivial⟩ trivial))))))))) (t j j (GR j qf uy j j j j (fun e=>nomatch e))<|sS (dN z27 j (JV (v':=x76) oh j j j j (tkO j j tk0) j j (eP qf) j)) (kN j (kN j (kN j (kN j (kN j (kN j (kN j (kN j (kN j trivial))))))))) (sD (by kernel_rfl)))) (sS (dN z27 j (JW (en:=eI) (M:=([x73]:List Int)) j LG j fH j j lX (.inl ⟨_,j⟩) j j j (eP qf) j j (kH j j) (dX j fun _=>j))) (kN j (kN j (kN j (kN j (kN j (kN j (kN j (kY ⟨j,trivial⟩ (kY ⟨j,trivial⟩ trivial))))))))) (sS (dN z27 j (oLd (cs:=[.own 19 0 0]) j yZ j j)) (kY ⟨j,trivial⟩ (kY ⟨j,trivial⟩ (kY ⟨j,trivial⟩ (kY ⟨j,trivial⟩ (kY ⟨j,trivial⟩ (kY ⟨j,trivial⟩ (kY ⟨j,trivial⟩ (kY ⟨j,trivial⟩ (kY ⟨j,trivial⟩ trivial))))))))) (t j j (GR j qf uy j j j j (fun e=>nomatch e))<|sS (dN z27 j (JV (v':=x76) oh j j j j (tkO j j tk0) j j (eP qf) j)) (kN j (kN j (kN j (kN j (kN j (kN j (kN j (kN j (kN j trivial))))))))) (sD (by kernel_rfl)))))) (sS (dN z27 j (JW (en:=eI) (M:=([x73]:List Int)) j LG j fH j j lX (.inl ⟨_,j⟩) j j j (eP qf) j j (kH j j) (dX j fun _=>j))) (kN j (kN j (kN j (kN j (kN j (kN j (kN j (kY ⟨j,trivial⟩ (kY ⟨j,trivial⟩ trivial))))))))) (sS (dN z27 j (oFA (r':=.mp 19 0 0) j xK j j)) (kY ⟨j,trivial⟩ (kY ⟨j,trivial⟩ (kY ⟨j,trivial⟩ (kY ⟨j,trivial⟩ (kY ⟨j,trivial⟩ (kY ⟨j,trivial⟩ (kY ⟨j,trivial⟩ (kY ⟨j,trivial⟩ (kY ⟨j,trivial⟩ trivial))))))))) (sS (dN z27 j (oLd (cs:=[.own 19 0 0]) j yZ j j)) (kY ⟨j,trivial⟩ (kY ⟨j,trivial⟩ (kY ⟨j,trivial⟩ (kY ⟨j,trivial⟩ (kY ⟨j,trivial⟩ (kY ⟨j,trivial⟩ (kY ⟨j,trivial⟩ (kY ⟨j,trivial⟩ (kY ⟨j,trivial⟩ trivial))))))))) (t j j (GR j qf uy j j j j (fun e=>nomatch e))<|sS (dN z27 j (JV (v':=x76) oh j j j j (tkO j j tk0) j j (eP qf) j)) (kN j (kN j (kN j (kN j (kN j (kN j (kN j (kN j (kN j trivial))))))))) (sD (by kernel_rfl))))))) (sS (dN z27 j (JW (en:=eI) (M:=([x73]:List Int)) j LG j fH j j lX (.inl ⟨_,j⟩) j j j (eP qf) j j (kH j j) (dX j fun _=>j))) (kN j (kN j (kN j (kN j (kN j (kN j (kN j (kY ⟨j,trivial⟩ (kY ⟨j,trivial⟩ trivial))))))))) (sS (dN z27 j (oNl j j j)) (kY ⟨j,trivial⟩ (kY ⟨j,trivial⟩ (kY ⟨j,trivial⟩ (kY ⟨j,trivial⟩ (kY ⟨j,trivial⟩ (kY ⟨j,trivial⟩ (kY ⟨j,trivial⟩ (kY ⟨j,trivial⟩ (kY ⟨j,trivial⟩ trivial))))))))) (sS (dN z27 j (oFA (r':=.mp 19 0 0) j xK j j)) (kY ⟨j,trivial⟩ (kY ⟨j,trivial⟩ (kY ⟨j,trivial⟩ (kY ⟨j,trivial⟩ (kY ⟨j,trivial⟩ (kY ⟨j,trivial⟩ (kY ⟨j,trivial⟩ (kY ⟨j,trivial⟩ (kY ⟨j,trivial⟩ trivial))))))))) (sS (dN z27 j (oLd (cs:=[.own 19 0 0]) j yZ j j)) (kY ⟨j,trivial⟩ (kY ⟨j,trivial⟩ (kY ⟨j,trivial⟩ (kY ⟨j,trivial⟩ (kY ⟨j,trivial⟩ (kY ⟨j,trivial⟩ (kY ⟨j,trivial⟩ (kY ⟨j,trivial⟩ (kY ⟨j,trivial⟩ trivial))))))))) (t j j (GR j qf uy j j j j (fun e=>nomatch e))<|sS (dN z27 j (JV (v':=x76) oh j j j j (tkO j j tk0) j j (eP qf) j)) (kN j (kN j (kN j (kN j (kN j (kN j (kN j (kN j (kN j trivial))))))))) (sD (by kernel_rfl))))))))))<|Unw.blk<|us<|g0 j j (q (oMv j j)<|q (oBi j j j j)<|q (ae j j)<|nl)<|Unw.nil<|?_
    cases h
    exact ⟨j,(by kernel_rfl)⟩
   ·refine Go.exit<|ux<|Unw.nil<|?_
    cases h
    exact ⟨j,(by kernel_rfl)⟩
  ·rintro ⟨e,st⟩ hp
   obtain ⟨jO,rfl⟩:∃y,y=o:=⟨o,rfl⟩
   obtain ⟨he,hst⟩:=hp
   obtain rfl:e= .exit 2:=he
   refine Unw.iP<|us<|gs<|gs<|g2 c27 j j hst (q (ae j j)<|nl)<|us<|Go.block<|?_
   obtain ⟨o,hl,h⟩:=bs h
   refine gl c27 j _ (fun (s:(Int×(List (List Int))))=>match s with | (o5,oq)=>mk [(1,D 2 (W 3 au aQ)),(9,M 19),(13,iv o5)] [(19,Oa [⟨.dp 0,0,0,W 1 (eL 1 eI) jO⟩,Z (W 1 (eL 1 eI) oq),C (I aO),C (I 10),Z (W 1 eI ([]:List Int)),C (I 0),C (I bK),C (V false)])]) (fun (wB:(List (List Int))) (p:Ex×St)=>p.1= .exit 4∧p.2.norm ([9],[19])=mk [(9,M 19)] [(19,Oa [⟨.dp 0,0,0,W 1 (eL 1 eI) jO⟩,Z (W 1 (eL 1 eI) wB),C (I aO),C (I 10),Z (W 1 eI ([]:List Int)),C (I 0),C (I bK),C (V false)])]) hl (by kernel_rfl) ?_ ?_ ?_
   ·intro o p hp e
    exact nomatch (hp.1.symm.trans e)
   ·rintro ⟨o5,oq⟩ o h
    unfold o6 at h
    dsimp only at h
    refine gs<|gs<|g0 j j (q (oMv j j)<|q (oMv j j)<|q (gB j j FY j)<|q (oBi j j j j)<|nl)<|us<|gc h j ah (fun LC h=>?_) fun LC h=>?_
    ·refine Go.skip<|us<|gs<|Go.block<|gs<|g0 j j (q (oBS (es:=List.map eI ([]:List Int)) j fH j pt0 (dX j fun _=>j))<|q (kC j j j j j)<|nl)<|us<|gs<|gs<|g0 j j (q (ae j j)<|nl)<|us<|Go.block<|?_
     obtain ⟨o,hl,h⟩:=bs h
     refine gl c27 j _ (fun (s:(Int×(List Int)))=>match s with | (yF,wK)=>mk [(1,D 2 (W 3 au aQ)),(9,M 19),(13,iv o5),(14,H 14 0),(15,iv yF)] [(14,Oc [Z (W 1 eI wK)]),(19,Oa [⟨.dp 0,0,0,W 1 (eL 1 eI) jO⟩,Z (W 1 (eL 1 eI) oq),C (I aO),C (I 10),Z (W 1 eI ([]:List Int)),C (I 0),C (I bK),C (V false)])]) (fun (pM:(List Int)) (p:Ex×St)=>p.1= .exit 6∧p.2.norm ([1,9,13,14],[14,19])=mk [(1,D 2 (W 3 au aQ)),(9,M 19),(13,iv o5),(14,H 14 0)] [(14,Oc [Z (W 1 eI pM)]),(19,Oa [⟨.dp 0,0,0,W 1 (eL 1 eI) jO⟩,Z (W 1 (eL 1 eI) oq),C (I aO),C (I 10),Z (W 1 eI ([]:List Int)),C (I 0),C (I bK),C (V false)])]) hl (by kernel_rfl) ?_ ?_ ?_
     ·intro o p hp e
      exact nomatch (hp.1.symm.trans e)
     ·rintro ⟨yF,wK⟩ o h
      unfold oZ at h
      dsimp only at h
      refine gs<|gs<|g0 j j (q (oMv j j)<|q (oMv j j)<|q (gB j j FY j)<|q (oBi j j j j)<|nl)<|us<|gc h j ah (fun XD h=>?_) fun XD h=>?_
      ·refine Go.skip<|us<|gs<|Go.block<|?_
       obtain ⟨x94,ac3,h⟩:=bs h
       obtain ⟨x97,ac4,h⟩:=bs h
       obtain ⟨x98,hx98,h⟩:=bs h
       obtain ⟨x100,aeV,h⟩:=bs h
       refine gd c27 j j j j (mk [(1,D 2 (W 3 au aQ)),(9,M 19),(13,iv o5),(14,H 14 0),(15,iv yF)] [(14,Oc [Z (W 1 eI x100)]),(19,Oa [⟨.dp 0,0,0,W 1 (eL 1 eI) jO⟩,Z (W 1 (eL 1 eI) oq),C (I aO),C (I 10),Z (W 1 eI ([]:List Int)),C (I 0),C (I bK),C (V false)])]) (t j j (oMv j j)<|t j j (oMv j j)<|t j j (oMv j j)<|t j j (fU j ac3 G9 j j)<|t j j (oMv j j)<|t j j (oMv j j)<|t j j (fU j ac4 G9 j j)<|sS (dN z27 j (oCa (xs:=[.v false [.im 2 _],.v false [.im 2 _]]) (vs:=[(false,[.im 0 _])]) (v:=.v false [.im 0 _]) (EM hx98) (.inl j) j Si j (ppC j (ppC j pp0)) j j pb0 j j j)) trivial (sS (dN z27 j (oBS (es:=List.map eI ([x98]:List Int)) j fH j (ptC j (fxI fx0) j pt0) (dX j fun _=>j))) trivial (sS (dN z27 j (Ey (en:=eI) (M:=([x98]:List Int)) j aeV j fH j j lX (.inl ⟨_,j⟩) j j j j (kH j j) (dX j fun _=>j))) trivial (sS (dN z27 j (kC j j j j j)) trivial (sD (by kernel_rfl))))))<|Unw.blk<|us<|g0 j j (q (oMv j j)<|q (oBi j j j j)<|q (ae j j)<|nl)<|Unw.nil<|?_
       cases h
       exact ⟨j,(by kernel_rfl)⟩
      ·refine Go.exit<|ux<|Unw.nil<|?_
       cases h
       exact ⟨j,(by kernel_rfl)⟩
     ·rintro ⟨e,st⟩ hp
      obtain ⟨pM,rfl⟩:∃y,y=o:=⟨o,rfl⟩
      obtain ⟨he,hst⟩:=hp
      obtain rfl:e= .exit 6:=he
      refine Unw.iP<|us<|?_
      obtain ⟨acp,aeW,h⟩:=bs h
      refine g2 c27 j j hst (q (oMv j j)<|q (oMv j j)<|q (oNl j j j)<|q (oFA (r':=.mp 19 0 1) j Oz j j)<|q (oLd (cs:=[.own 19 0 1]) j yZ j j)<|q (oMv j j)<|q (oBS (es:=List.map (eL 1 eI) ([pM]:List (List Int))) j uy j (ptC j (fxO j j fx0) j pt0) (Ci j))<|q (Ey (en:=(eL 1 eI)) (M:=([pM]:List (List Int))) j aeW j uy j j SB (.inl ⟨_,j⟩) j j j j (kH j j) (Ci j))<|q (oNl j j j)<|q (oFA (r':=.mp 19 0 1) j Oz j j)<|q (oSt yZ j j j (tkO j j tk0) j j j)<|nl)<|Unw.blk<|us<|g1 j j (mk [(1,D 2 (W 3 au aQ)),(9,M 19),(13,iv o5)] [(19,Oa [⟨.dp 0,0,0,W 1 (eL 1 eI) jO⟩,Z (W 1 (eL 1 eI) acp),C (I aO),C (I 10),Z (W 1 eI ([]:List Int)),C (I 0),C (I bK),C (V false)])]) (q (oMv j j)<|q (oBi j j j j)<|q (ae j j)<|nl)<|Unw.nil<|?_
      cases h
      exact ⟨j,(by kernel_rfl)⟩
    ·refine Go.exit<|ux<|Unw.nil<|?_
     cases h
     exact ⟨j,(by kernel_rfl)⟩
   ·rintro ⟨e,st⟩ hp
    obtain ⟨wB,rfl⟩:∃y,y=o:=⟨o,rfl⟩
    obtain ⟨he,hst⟩:=hp
    obtain rfl:e= .exit 4:=he
    refine Unw.iP<|us<|gs<|g2 c27 j j hst (q (oMv j j)<|q (YH j j)<|nl)<|us<|Go.ret (Unw.ret ?_)
    cases h
    exact fr agf j
theorem LH {bV:(List Int)} {n_1:Int} {r:(List Int)} (h:wM bV n_1=some r):FX 48 [.im 2 false [W 1 eI bV],.im 2 false [I n_1]] (B0 [(false,[.ow 0 1 (List.map eI r)])]):=by
 unfold wM at h
 refine gn 49 Tryz.func48 rfl ?_
 refine gs<|g0 j j (q (vH j j FQ)<|nl)<|us<|gs<|g0 j j (q (oBS (es:=List.map eI ([]:List Int)) j fH j pt0 (dX j fun _=>j))<|q (kC j j j j j)<|nl)<|us<|gs<|g0 j j (q (ae j j)<|nl)<|us<|gs<|gs<|g0 j j (q (ae j j)<|nl)<|us<|Go.block<|?_
 obtain ⟨o,hl,h⟩:=bs h
 refine gl c48 j _ (fun (s:(Bool×Int×(List Int)))=>match s with | (um,tV,dZ)=>mk [(0,D 2 (W 1 eI bV)),(1,iv n_1),(5,H 5 0),(6,bv um),(7,iv tV)] [(5,Oc [Z (W 1 eI dZ)])]) (fun (o:(Bool×(List Int))) (p:Ex×St)=>match o with | (uq,jw)=>p.1= .exit 0∧p.2.norm ([1,5,6],[5])=mk [(1,iv n_1),(5,H 5 0),(6,bv uq)] [(5,Oc [Z (W 1 eI jw)])]) hl (by kernel_rfl) ?_ ?_ ?_
 ·intro o p hp e
  obtain ⟨uq,jw⟩:=o
  exact nomatch (hp.1.symm.trans e)
 ·rintro ⟨um,tV,dZ⟩ o h
  unfold fP at h
  dsimp only at h
  refine gs<|gs<|g0 j j (q (oMv j j)<|q (oMv j j)<|q (gB j j lX j)<|q (oBi j j j j)<|nl)<|us<|gc h j ah (fun hc12 h=>?_) fun hc12 h=>?_
  ·refine Go.skip<|us<|gs<|Go.block<|gs<|gs<|?_
   obtain ⟨Oj,SK,h⟩:=bs h
   refine gX c48 j j j (mk [(0,D 2 (W 1 eI bV)),(1,iv n_1),(5,H 5 0),(6,bv um),(7,iv tV),(24,bv Oj)] [(5,Oc [Z (W 1 eI dZ)])]) ?_ ?_
   ·refine xq (oMv j j)<|xq (oUn j j j)<|xq (oMv j j)<|?_
    refine ic SK (fun hc13 SK=>?_) fun hc13 SK=>?_
    ·cases SK
     exact aj j j (nF (iR.2 hc13)) j<|aj j j (nF (iR.2 hc13)) j<|aj j j (nF (iR.2 hc13)) j<|aj j j (nF (iR.2 hc13)) j<|aj j j (nF (iR.2 hc13)) j<|aj j j (nF (iR.2 hc13)) j<|xq (dV j j (nF (iR.2 hc13)) j)<|xn
    ·obtain ⟨x20,yh,SK⟩:=bs SK
     cases SK
     exact xqT j j (nT (byF iR hc13)) (oMv j j)<|xqT j j (nT (byF iR hc13)) (oMv j j)<|xqT j j (nT (byF iR hc13)) (fU j yh fH j j)<|xqT j j (nT (byF iR hc13)) (oLd (cs:=[.im 2 _]) j tF2 j j)<|xqT j j (nT (byF iR hc13)) (oMv j j)<|xqT j j (nT (byF iR hc13)) (oBi j j j j)<|xq (bU j j (nT (byF iR hc13)) j)<|xn
   ·refine us<|Go.join (fun st=>∃yI,∃yJ,iQ tV bV yI yJ=some o∧st.norm ([0,1,5,6,7],[5])=mk [(0,D 2 (W 1 eI bV)),(1,iv n_1),(5,H 5 0),(6,bv yI),(7,iv tV)] [(5,Oc [Z (W 1 eI yJ)])]) ?_ ?_
    ·rintro st ⟨yI,yJ,h,hst⟩
     unfold iQ at h
     refine us<|?_
     obtain ⟨x38,hx38,h⟩:=bs h
     obtain ⟨x41,SH,h⟩:=bs h
     refine g2 c48 j j hst (q (oMv j j)<|q (oMv j j)<|q (oMv j j)<|q (fU j hx38 fH j j)<|q (oLd (cs:=[.im 2 _]) j tF2 j j)<|q (oBS (es:=List.map eI ([x38]:List Int)) j fH j (ptC j (fxI fx0) j pt0) (dX j fun _=>j))<|q (Ey (en:=eI) (M:=([x38]:List Int)) j SH j fH j j lX (.inl ⟨_,j⟩) j j j j (kH j j) (dX j fun _=>j))<|q (kC j j j j j)<|nl)<|Unw.blk<|us<|g0 j j (q (oMv j j)<|q (oBi j j j j)<|q (ae j j)<|nl)<|Unw.nil<|?_
     cases h
     exact ⟨j,(by kernel_rfl)⟩
    ·intro K16
     refine gc h j iR (fun hc17 h=>?_) fun hc17 h=>?_
     ·refine gs<|g0 j j (q (ae j j)<|nl)<|us<|gs<|?_
      obtain ⟨x27,hx27,h⟩:=bs h
      refine g0 j j (q (oMv j j)<|q (oMv j j)<|q (fU j hx27 fH j j)<|q (oLd (cs:=[.im 2 _]) j tF2 j j)<|q (oMv j j)<|q (oBi j j j j)<|nl)<|us<|gc h j ah (fun hc18 h=>?_) fun hc18 h=>?_
      ·obtain ⟨x34,hx34,h⟩:=bs h
       exact g0 j j (q (oMv j j)<|q (oMv j j)<|q (oBS (es:=List.map eI ([n_1]:List Int)) j fH j (ptC j (fxI fx0) j pt0) (dX j fun _=>j))<|q (Ey (en:=eI) (M:=([n_1]:List Int)) j hx34 j fH j j lX (.inl ⟨_,j⟩) j j j j (kH j j) (dX j fun _=>j))<|q (kC j j j j j)<|nl)<|K16 _ ⟨true,x34,h,(by kernel_rfl)⟩
      ·exact Go.skip<|K16 _ ⟨true,dZ,h,(by kernel_rfl)⟩
     ·exact Go.skip<|K16 _ ⟨um,dZ,h,(by kernel_rfl)⟩
  ·refine Go.exit<|ux<|Unw.nil<|?_
   cases h
   exact ⟨j,(by kernel_rfl)⟩
 ·rintro ⟨e,st⟩ hp
  obtain ⟨uq,jw⟩:=o
  dsimp only at h
  obtain ⟨he,hst⟩:=hp
  obtain rfl:e= .exit 0:=he
  refine Unw.iP<|us<|gs<|gs<|g2 c48 j j hst (q (oMv j j)<|q (oUn j j j)<|nl)<|us<|Go.join (fun st=>∃yH,o7 yH=some r∧st.norm ([5],[5])=mk [(5,H 5 0)] [(5,Oc [Z (W 1 eI yH)])]) ?_ ?_
  ·rintro st ⟨yH,h,hst⟩
   unfold o7 at h
   refine us<|gs<|g2 c48 j j hst (q (oMv j j)<|q (kC j j j j j)<|nl)<|us<|Go.ret (Unw.ret ?_)
   cases h
   exact fr ags j
  ·intro K10
   by_cases LC:uq=true
   ·rw [if_pos LC] at h
    exact gF j (nF (iR.2 LC))<|Go.skip<|K10 _ ⟨jw,h,(by kernel_rfl)⟩
   ·rw [if_neg LC] at h
    refine gT j (nT (byF iR LC))<|?_
    obtain ⟨x47,SC,h⟩:=bs h
    exact g0 j j (q (oMv j j)<|q (oMv j j)<|q (oBS (es:=List.map eI ([n_1]:List Int)) j fH j (ptC j (fxI fx0) j pt0) (dX j fun _=>j))<|q (Ey (en:=eI) (M:=([n_1]:List Int)) j SC j fH j j lX (.inl ⟨_,j⟩) j j j j (kH j j) (dX j fun _=>j))<|q (kC j j j j j)<|nl)<|K10 _ ⟨x47,h,(by kernel_rfl)⟩
theorem LJ {bV:(List Int)} {n_1:Int} {r:Bool} (h:wO bV n_1=some r):FX 49 [.im 2 false [W 1 eI bV],.im 2 false [I n_1]] (B0 [(false,[.im 0 (V r)])]):=by
 unfold wO at h
 refine gn 18 Tryz.func49 rfl ?_
 refine gs<|g0 j j (q (ae j j)<|nl)<|us<|gs<|gs<|g0 j j (q (ae j j)<|nl)<|us<|Go.block<|?_
 obtain ⟨o,hl,h⟩:=bs h
 refine gl c49 j _ (fun (aW:Int)=>mk [(0,D 2 (W 1 eI bV)),(1,iv n_1),(5,iv aW)] []) (fun (o:(Unit ⊕ Bool)) (p:Ex×St)=>match o with | (.inl _)=>p.1= .exit 0∧p.2.norm ([],[])=mk [] [] | (.inr r2)=>p.1= .ret∧fin Tryz.prog cfg 49 Tryz.f49 [.im 2 false [W 1 eI bV],.im 2 false [I n_1]] p.2=some (B0 [(false,[.im 0 (V r2)])])) hl (by kernel_rfl) ?_ ?_ ?_
 ·intro o p hp e
  rcases o with u | r2<;>exact nomatch (hp.1.symm.trans e)
 ·rintro aW o h
  unfold qw at h
  refine gs<|gs<|g0 j j (q (oMv j j)<|q (oMv j j)<|q (gB j j lX j)<|q (oBi j j j j)<|nl)<|us<|gc h j ah (fun hc5 h=>?_) fun hc5 h=>?_
  ·refine Go.skip<|us<|gs<|Go.block<|gs<|?_
   obtain ⟨x14,ve,h⟩:=bs h
   refine g0 j j (q (oMv j j)<|q (oMv j j)<|q (fU j ve fH j j)<|q (oLd (cs:=[.im 2 _]) j tF2 j j)<|q (oMv j j)<|q (oBi j j j j)<|nl)<|us<|gc h j iEq (fun hc6 h=>?_) fun hc6 h=>?_
   ·refine gs<|g0 j j (q (ae j j)<|nl)<|us<|Go.ret (Unw.ret ?_)
    cases h
    exact ⟨j,(fo aez j)⟩
   ·refine Go.skip<|Unw.blk<|us<|g0 j j (q (oMv j j)<|q (oBi j j j j)<|q (ae j j)<|nl)<|Unw.nil<|?_
    cases h
    exact ⟨j,(by kernel_rfl)⟩
  ·refine Go.exit<|ux<|Unw.nil<|?_
   cases h
   exact ⟨j,(by kernel_rfl)⟩
 ·rintro ⟨e,st⟩ hp
  rcases o with u | r2
  ·dsimp only at h
   obtain ⟨he,hst⟩:=hp
   obtain rfl:e= .exit 0:=he
   refine Unw.iP<|us<|gs<|g2 c49 j j hst (q (ae j j)<|nl)<|us<|Go.ret (Unw.ret ?_)
   cases h
   exact fr aez j
  ·dsimp only at h
   obtain ⟨he,hfin⟩:=hp
   obtain rfl:e= .ret:=he
   cases h
   exact Unw.ret (gm hfin)
theorem Bl {self:aG→Option (Bool×aG)} (ih:∀{x_0:aG} {r:(Bool×aG)},self x_0=some r→FX 28 [.ptr true [(.gone,W 1 (eL 1 eI) x_0.before),(.sh,W 1 (eL 1 eI) x_0.table),(.imm,I x_0.limit),(.imm,I x_0.most),(.sh,W 1 eI x_0.choice),(.imm,I x_0.nodes),(.imm,I x_0.budget),(.imm,V x_0.full)]] ([(false,[.im 0 (V r.1)])],[.ptr true [(.gone,W 1 (eL 1 eI) r.2.before),(.sh,W 1 (eL 1 eI) r.2.table),(.imm,I r.2.limit),(.imm,I r.2.most),(.sh,W 1 eI r.2.choice),(.imm,I r.2.nodes),(.imm,I r.2.budget),(.imm,V r.2.full)]])) {x_0:aG} {r:(Bool×aG)} (h:fZ self x_0=some r):FX 28 [.ptr true [(.gone,W 1 (eL 1 eI) x_0.before),(.sh,W 1 (eL 1 eI) x_0.table),(.imm,I x_0.limit),(.imm,I x_0.most),(.sh,W 1 eI x_0.choice),(.imm,I x_0.nodes),(.imm,I x_0.budget),(.imm,V x_0.full)]] ([(false,[.im 0 (V r.1)])],[.ptr true [(.gone,W 1 (eL 1 eI) r.2.before),(.sh,W 1 (eL 1 eI) r.2.table),(.imm,I r.2.limit),(.imm,I r.2.most),(.sh,W 1 eI r.2.choice),(.imm,I r.2.nodes),(.imm,I r.2.budget),(.imm,V r.2.full)]]):=by
 unfold fZ at h
 refine AY (A:=[(0,M 0)]) (B:=[(0,Od [C (W 1 (eL 1 eI) x_0.before),Z (W 1 (eL 1 eI) x_0.table),C (I x_0.limit),C (I x_0.most),Z (W 1 eI x_0.choice),C (I x_0.nodes),C (I x_0.budget),C (V x_0.full)])]) (nt:=148) rfl rfl Tryz.func28 rfl rfl rfl rfl ?_
 refine gs<|g0 j j (q (ae j j)<|nl)<|us<|gs<|g0 j j (q (oMv j j)<|q (oNl j j j)<|q (oFA (r':=.mp 0 0 4) j CQ j j)<|q (oLd (cs:=[.own 0 0 4]) j oh j j)<|q (GM j j lX j j j (fun e=>nomatch e))<|q (ae j j)<|nl)<|us<|gs<|gs<|g0 j j (q (oMv j j)<|q (oMv j j)<|q (oNl j j j)<|q (oFA (r':=.mp 0 0 0) j xK j j)<|q (oLd (cs:=[.im 0 _]) j yZ j j)<|q (gB j j SB j)<|q (oBi j j j j)<|nl)<|us<|gc h j iEq (fun hc1 h=>?_) fun hc1 h=>?_
 ·refine gs<|g0 j j (q (ae j j)<|nl)<|us<|Go.ret (Unw.ret ?_)
  cases h
  exact fr aaO j
 ·refine Go.skip<|us<|gs<|gs<|g0 j j (q (ae j j)<|nl)<|us<|Go.block<|?_
  obtain ⟨o,hl,h⟩:=bs h
  refine gl c28 j _ (fun (s:(Int×(List (List Int))×(List (List Int))×Int×Int×(List Int)×Int×Int×Bool))=>match s with | (fQ,bG,bH,bI,bQ,bJ,bZ,cu,fA)=>mk [(0,M 0),(3,iv (x_0.choice.length:Int)),(4,iv fQ)] [(0,Od [C (W 1 (eL 1 eI) bG),Z (W 1 (eL 1 eI) bH),C (I bI),C (I bQ),Z (W 1 eI bJ),C (I bZ),C (I cu),C (V fA)])]) (fun (o:(((List (List Int))×(List (List Int))×Int×Int×(List Int)×Int×Int×Bool) ⊕ (Bool×aG))) (p:Ex×St)=>match o with | (.inl (wP,wQ,wR,wU,wV,wW,wX,wY))=>p.1= .exit 0∧p.2.norm ([],[0])=mk [] [(0,Od [C (W 1 (eL 1 eI) wP),Z (W 1 (eL 1 eI) wQ),C (I wR),C (I wU),Z (W 1 eI wV),C (I wW),C (I wX),C (V wY)])] | (.inr r2)=>p.1= .ret∧fin Tryz.prog cfg 28 Tryz.f28 [.ptr true [(.gone,W 1 (eL 1 eI) x_0.before),(.sh,W 1 (eL 1 eI) x_0.table),(.imm,I x_0.limit),(.imm,I x_0.most),(.sh,W 1 eI x_0.choice),(.imm,I x_0.nodes),(.imm,I x_0.budget),(.imm,V x_0.full)]] p.2=some ([(false,[.im 0 (V r2.1)])],[.ptr true [(.gone,W 1 (eL 1 eI) r2.2.before),(.sh,W 1 (eL 1 eI) r2.2.table),(.imm,I r2.2.limit),(.imm,I r2.2.most),(.sh,W 1 eI r2.2.choice),(.imm,I r2.2.nodes),(.imm,I r2.2.budget),(.imm,V r2.2.full)]])) hl (by kernel_rfl) ?_ ?_ ?_
  ·intro o p hp e
   rcases o with ⟨wP,wQ,wR,wU,wV,wW,wX,wY⟩ | r2<;>exact nomatch (hp.1.symm.trans e)
  ·rintro ⟨fQ,bG,bH,bI,bQ,bJ,bZ,cu,fA⟩ o h
   unfold dn at h
   dsimp only at h
   refine gs<|gs<|g0 j j (q (oMv j j)<|q (oMv j j)<|q (oNl j j j)<|q (oFA (r':=.mp 0 0 1) j Oz j j)<|q (oLd (cs:=[.own 0 0 1]) j yZ j j)<|q (GM j j SB j j j (fun e=>nomatch e))<|q (oBi j j j j)<|nl)<|us<|gc h j ah (fun XC h=>?_) fun XC h=>?_
   ·refine Go.skip<|us<|gs<|Go.join (fun st=>∃Af,∃Ag,∃Ah,∃Ai,∃Aj,∃Ak,∃Am,∃Ap,fF self fQ Af Ag Ah Ai Aj Ak Am Ap=some o∧st.norm ([0,3,4],[0])=mk [(0,M 0),(3,iv (x_0.choice.length:Int)),(4,iv fQ)] [(0,Od [C (W 1 (eL 1 eI) Af),Z (W 1 (eL 1 eI) Ag),C (I Ah),C (I Ai),Z (W 1 eI Aj),C (I Ak),C (I Am),C (V Ap)])]) ?_ ?_
    ·rintro st ⟨Af,Ag,Ah,Ai,Aj,Ak,Am,Ap,h,hst⟩
     unfold fF at h
     refine us<|g2 c28 j j hst (q (oMv j j)<|q (oBi j j j j)<|q (ae j j)<|nl)<|Unw.nil<|?_
     cases h
     exact ⟨j,(by kernel_rfl)⟩
    ·intro K38
     refine Go.block<|gs<|g0 j j (q (oBS (es:=List.map eI ([]:List Int)) j fH j pt0 (dX j fun _=>j))<|q (kC j j j j j)<|nl)<|us<|gs<|gs<|g0 j j (q (ae j j)<|nl)<|us<|Go.block<|?_
     obtain ⟨o,hl,h⟩:=bs h
     refine gl c28 j _ (fun (s:(Int×(List Int)))=>match s with | (GZ,yK)=>mk [(0,M 0),(3,iv (x_0.choice.length:Int)),(4,iv fQ),(5,H 5 0),(6,iv GZ)] [(0,Od [C (W 1 (eL 1 eI) bG),Z (W 1 (eL 1 eI) bH),C (I bI),C (I bQ),Z (W 1 eI bJ),C (I bZ),C (I cu),C (V fA)]),(5,Oc [Z (W 1 eI yK)])]) (fun (oI:(List Int)) (p:Ex×St)=>p.1= .exit 2∧p.2.norm ([0,3,4,5],[0,5])=mk [(0,M 0),(3,iv (x_0.choice.length:Int)),(4,iv fQ),(5,H 5 0)] [(0,Od [C (W 1 (eL 1 eI) bG),Z (W 1 (eL 1 eI) bH),C (I bI),C (I bQ),Z (W 1 eI bJ),C (I bZ),C (I cu),C (V fA)]),(5,Oc [Z (W 1 eI oI)])]) hl (by kernel_rfl) ?_ ?_ ?_
     ·intro o p hp e
      exact nomatch (hp.1.symm.trans e)
     ·rintro ⟨GZ,yK⟩ o h
      unfold fG at h
      dsimp only at h
      refine gs<|gs<|g0 j j (q (oMv j j)<|q (oMv j j)<|q (oBi j j j j)<|nl)<|us<|gc h j ah (fun Vl h=>?_) fun Vl h=>?_
      ·refine Go.skip<|us<|gs<|Go.block<|?_
       obtain ⟨x42,Qx,h⟩:=bs h
       obtain ⟨x44,ac7,h⟩:=bs h
       refine g0 j j (q (oMv j j)<|q (oMv j j)<|q (oNl j j j)<|q (oFA (r':=.mp 0 0 4) j CQ j j)<|q (oLd (cs:=[.own 0 0 4]) j oh j j)<|q (oMv j j)<|q (zY j Qx fH j j j j)<|q (Iq (cs:=[.im 0 _]) j tF2 j j j j (eP Qx) j j)<|q (oCr (xs:=[.v false [.own 5 0 0],.v false [.im 0 _]]) (vs:=[(false,[.own 44 0 0])]) (v:=.v false [.own 44 0 0]) (c:=⟨.sh,0,_⟩) (cs:=[]) (LH ac7) (.inl j) j U9 j (ppC j (ppC j pp0)) j j pb0 j j j)<|q (kC j j j j j)<|nl)<|Unw.blk<|us<|g0 j j (q (oMv j j)<|q (oBi j j j j)<|q (ae j j)<|nl)<|Unw.nil<|?_
       cases h
       exact ⟨j,(by kernel_rfl)⟩
      ·refine Go.exit<|ux<|Unw.nil<|?_
       cases h
       exact ⟨j,(by kernel_rfl)⟩
     ·rintro ⟨e,st⟩ hp
      obtain ⟨oI,rfl⟩:∃y,y=o:=⟨o,rfl⟩
      obtain ⟨he,hst⟩:=hp
      obtain rfl:e= .exit 2:=he
      refine Unw.iP<|us<|gs<|?_
      obtain ⟨x47,SC,h⟩:=bs h
      refine gX c28 j j hst (mk [(0,M 0),(3,iv (x_0.choice.length:Int)),(4,iv fQ),(7,bv (x47||(decide ((oI.length:Int) <bQ))))] [(0,Od [C (W 1 (eL 1 eI) bG),Z (W 1 (eL 1 eI) bH),C (I bI),C (I bQ),Z (W 1 eI bJ),C (I bZ),C (I cu),C (V fA)])]) ?_ ?_
      ·refine xq (oMv j j)<|xq (oMv j j)<|xq (oCa (xs:=[.v false [.own 5 0 0],.v false [.im 0 _]]) (vs:=[(false,[.im 0 _])]) (v:=.v false [.im 0 _]) (LJ SC) (.inl j) j Va j (ppC j (ppC j pp0)) j j pb0 j j j)<|xq (oMv j j)<|?_
       by_cases qg:x47=true
       ·exact aj rfl rfl (iR.2 qg) rfl<|aj rfl rfl (iR.2 qg) rfl<|aj rfl rfl (iR.2 qg) rfl<|aj rfl rfl (iR.2 qg) rfl<|aj rfl rfl (iR.2 qg) rfl<|aj rfl rfl (iR.2 qg) rfl<|aj rfl rfl (iR.2 qg) rfl<|xq (bU rfl rfl (iR.2 qg) rfl)<|xq (ae rfl rfl)<|xn (Eq.trans (b:=(fun tX:Bool=>mk [(0,M 0),(3,iv (x_0.choice.length:Int)),(4,iv fQ),(7,bv tX)] [(0,Od [C (W 1 (eL 1 eI) bG),Z (W 1 (eL 1 eI) bH),C (I bI),C (I bQ),Z (W 1 eI bJ),C (I bZ),C (I cu),C (V fA)])]) true) (by kernel_rfl) (congrArg (fun tX:Bool=>mk [(0,M 0),(3,iv (x_0.choice.length:Int)),(4,iv fQ),(7,bv tX)] [(0,Od [C (W 1 (eL 1 eI) bG),Z (W 1 (eL 1 eI) bH),C (I bI),C (I bQ),Z (W 1 eI bJ),C (I bZ),C (I cu),C (V fA)])]) (by first | rfl | (simp [(iR.2 qg)];done) | (simp [(iR.2 qg)];omega))))
       ·exact xqT rfl rfl (byF iR qg) (oMv rfl rfl)<|xqT rfl rfl (byF iR qg) (GM rfl rfl lX rfl rfl rfl (fun e=>nomatch e))<|xqT rfl rfl (byF iR qg) (oMv rfl rfl)<|xqT rfl rfl (byF iR qg) (oNl rfl rfl rfl)<|xqT rfl rfl (byF iR qg) (oFA (r':=.mp 0 0 3) rfl acC rfl rfl)<|xqT rfl rfl (byF iR qg) (oLd (cs:=[.im 0 _]) rfl tF2 rfl rfl)<|xqT rfl rfl (byF iR qg) (oBi rfl rfl rfl rfl)<|xq (dV rfl rfl (byF iR qg) rfl)<|xq (ae rfl rfl)<|xn (Eq.trans (b:=(fun tX:Bool=>mk [(0,M 0),(3,iv (x_0.choice.length:Int)),(4,iv fQ),(7,bv tX)] [(0,Od [C (W 1 (eL 1 eI) bG),Z (W 1 (eL 1 eI) bH),C (I bI),C (I bQ),Z (W 1 eI bJ),C (I bZ),C (I cu),C (V fA)])]) (decide ((oI.length:Int) <bQ))) (by kernel_rfl) (congrArg (fun tX:Bool=>mk [(0,M 0),(3,iv (x_0.choice.length:Int)),(4,iv fQ),(7,bv tX)] [(0,Od [C (W 1 (eL 1 eI) bG),Z (W 1 (eL 1 eI) bH),C (I bI),C (I bQ),Z (W 1 eI bJ),C (I bZ),C (I cu),C (V fA)])]) (by first | rfl | (simp [(byF iR qg)];done) | (simp [(byF iR qg)];omega))))
      ·refine us<|gs<|gs<|g0 j j (q (ae j j)<|nl)<|us<|Go.block<|?_
       obtain ⟨o,hl,h⟩:=bs h
       refine gl c28 j _ (fun (s:(Bool×Int))=>match s with | (kL,pY)=>mk [(0,M 0),(3,iv (x_0.choice.length:Int)),(4,iv fQ),(7,bv kL),(8,iv pY)] [(0,Od [C (W 1 (eL 1 eI) bG),Z (W 1 (eL 1 eI) bH),C (I bI),C (I bQ),Z (W 1 eI bJ),C (I bZ),C (I cu),C (V fA)])]) (fun (uU:Bool) (p:Ex×St)=>p.1= .exit 4∧p.2.norm ([0,3,4,7],[0])=mk [(0,M 0),(3,iv (x_0.choice.length:Int)),(4,iv fQ),(7,bv uU)] [(0,Od [C (W 1 (eL 1 eI) bG),Z (W 1 (eL 1 eI) bH),C (I bI),C (I bQ),Z (W 1 eI bJ),C (I bZ),C (I cu),C (V fA)])]) hl (by kernel_rfl) ?_ ?_ ?_
       ·intro o p hp e
        exact nomatch (hp.1.symm.trans e)
       ·rintro ⟨kL,pY⟩ o h
        unfold dK at h
        dsimp only at h
        refine gs<|gs<|?_
        obtain ⟨x63,ag3,h⟩:=bs h
        refine gX c28 j j j (mk [(0,M 0),(3,iv (x_0.choice.length:Int)),(4,iv fQ),(7,bv kL),(8,iv pY),(69,bv ((decide (pY< (x63.length:Int)))&&kL))] [(0,Od [C (W 1 (eL 1 eI) bG),Z (W 1 (eL 1 eI) bH),C (I bI),C (I bQ),Z (W 1 eI bJ),C (I bZ),C (I cu),C (V fA)])]) ?_ ?_
        ·refine xq (oMv j j)<|xq (oMv j j)<|xq (oNl j j j)<|xq (oFA (r':=.mp 0 0 0) j xK j j)<|xq (oLd (cs:=[.im 0 _]) j yZ j j)<|xq (oMv j j)<|xq (fU j ag3 uy j j)<|xq (oLd (cs:=[.im 0 _]) j oh j j)<|xq (gB j j lX j)<|xq (oBi j j j j)<|xq (oMv j j)<|?_
         by_cases Qy:pY< (x63.length:Int)
         ·exact xqT rfl rfl (ah.2 Qy) (oMv rfl rfl)<|xq (bU rfl rfl (ah.2 Qy) rfl)<|xn (Eq.trans (b:=(fun yS:Bool=>mk [(0,M 0),(3,iv (x_0.choice.length:Int)),(4,iv fQ),(7,bv kL),(8,iv pY),(69,bv yS)] [(0,Od [C (W 1 (eL 1 eI) bG),Z (W 1 (eL 1 eI) bH),C (I bI),C (I bQ),Z (W 1 eI bJ),C (I bZ),C (I cu),C (V fA)])]) kL) (by kernel_rfl) (congrArg (fun yS:Bool=>mk [(0,M 0),(3,iv (x_0.choice.length:Int)),(4,iv fQ),(7,bv kL),(8,iv pY),(69,bv yS)] [(0,Od [C (W 1 (eL 1 eI) bG),Z (W 1 (eL 1 eI) bH),C (I bI),C (I bQ),Z (W 1 eI bJ),C (I bZ),C (I cu),C (V fA)])]) (by first | rfl | (simp [(ah.2 Qy)];done) | (simp [(ah.2 Qy)];omega))))
         ·exact aj rfl rfl (byF ah Qy) rfl<|xq (dV rfl rfl (byF ah Qy) rfl)<|xn (Eq.trans (b:=(fun yS:Bool=>mk [(0,M 0),(3,iv (x_0.choice.length:Int)),(4,iv fQ),(7,bv kL),(8,iv pY),(69,bv yS)] [(0,Od [C (W 1 (eL 1 eI) bG),Z (W 1 (eL 1 eI) bH),C (I bI),C (I bQ),Z (W 1 eI bJ),C (I bZ),C (I cu),C (V fA)])]) false) (by kernel_rfl) (congrArg (fun yS:Bool=>mk [(0,M 0),(3,iv (x_0.choice.length:Int)),(4,iv fQ),(7,bv kL),(8,iv pY),(69,bv yS)] [(0,Od [C (W 1 (eL 1 eI) bG),Z (W 1 (eL 1 eI) bH),C (I bI),C (I bQ),Z (W 1 eI bJ),C (I bZ),C (I cu),C (V fA)])]) (by first | rfl | (simp [(byF ah Qy)];done) | (simp [(byF ah Qy)];omega))))
        ·refine us<|gc h j (xE ah iR) (fun ag4 h=>?_) fun ag4 h=>?_
         ·refine Go.skip<|us<|gs<|Go.block<|?_
          obtain ⟨x77,Vh,h⟩:=bs h
          obtain ⟨x88,ag5,h⟩:=bs h
          obtain ⟨x91,hx91,h⟩:=bs h
          obtain ⟨x93,hx93,h⟩:=bs h
          obtain ⟨x95,hx95,h⟩:=bs h
          refine gd c28 j j j j (mk [(0,M 0),(3,iv (x_0.choice.length:Int)),(4,iv fQ),(7,bv (decide (x95≥bI))),(8,iv pY)] [(0,Od [C (W 1 (eL 1 eI) bG),Z (W 1 (eL 1 eI) bH),C (I bI),C (I bQ),Z (W 1 eI bJ),C (I bZ),C (I cu),C (V fA)])]) (t j j (oMv j j)<|t j j (oNl j j j)<|t j j (oFA (r':=.mp 0 0 1) j Oz j j)<|t j j (oLd (cs:=[.own 0 0 1]) j yZ j j)<|t j j (oMv j j)<|t j j (zY j Vh uy j j j j)<|t j j (Iq (cs:=[.im 0 _]) j oh j j j j (eP Vh) j j)<|t j j (oMv j j)<|t j j (oNl j j j)<|t j j (oFA (r':=.mp 0 0 4) j CQ j j)<|t j j (oLd (cs:=[.own 0 0 4]) j oh j j)<|t j j (oMv j j)<|t j j (oNl j j j)<|t j j (oFA (r':=.mp 0 0 0) j xK j j)<|t j j (oLd (cs:=[.im 0 _]) j yZ j j)<|t j j (oMv j j)<|t j j (fU j ag5 uy j j)<|t j j (oLd (cs:=[.im 0 _]) j oh j j)<|t j j (oMv j j)<|t j j (fU j hx91 fH j j)<|t j j (oLd (cs:=[.im 0 _]) j tF2 j j)<|t j j (zY j hx93 fH j j j j)<|t j j (Iq (cs:=[.im 0 _]) j tF2 j j j j (eP hx93) j j)<|t j j (fU j hx95 fH j j)<|t j j (oLd (cs:=[.im 0 _]) j tF2 j j)<|t j j (oMv j j)<|t j j (oNl j j j)<|t j j (oFA (r':=.mp 0 0 2) j acB j j)<|t j j (oLd (cs:=[.im 0 _]) j tF2 j j)<|t j j (oBi j j j j)<|sS (dN z28 j (ae j j)) trivial (sD (by kernel_rfl)))<|Unw.blk<|us<|g0 j j (q (oMv j j)<|q (oBi j j j j)<|q (ae j j)<|nl)<|Unw.nil<|?_
          cases h
          exact ⟨j,(by kernel_rfl)⟩
         ·refine Go.exit<|ux<|Unw.nil<|?_
          cases h
          exact ⟨j,(by kernel_rfl)⟩
       ·rintro ⟨e,st⟩ hp
        obtain ⟨uU,rfl⟩:∃y,y=o:=⟨o,rfl⟩
        obtain ⟨he,hst⟩:=hp
        obtain rfl:e= .exit 4:=he
        refine Unw.iP<|us<|gs<|gs<|g2 c28 j j hst (q (oMv j j)<|q (oUn j j j)<|nl)<|us<|?_
        by_cases pG:uU=true
        ·rw [if_pos pG] at h
         refine gF j (nF (iR.2 pG))<|Go.skip<|us<|gs<|gs<|gd c28 j j j j (mk [(0,M 0),(3,iv (x_0.choice.length:Int)),(4,iv fQ),(112,bv (bZ==cu))] [(0,Od [C (W 1 (eL 1 eI) bG),Z (W 1 (eL 1 eI) bH),C (I bI),C (I bQ),Z (W 1 eI bJ),C (I bZ),C (I cu),C (V fA)])]) (t j j (oMv j j)<|t j j (oNl j j j)<|t j j (oFA (r':=.mp 0 0 5) j RJ j j)<|t j j (oLd (cs:=[.im 0 _]) j tF2 j j)<|t j j (oMv j j)<|t j j (oNl j j j)<|t j j (oFA (r':=.mp 0 0 6) j acD j j)<|t j j (oLd (cs:=[.im 0 _]) j tF2 j j)<|t j j (oBi j j j j)<|sD (by kernel_rfl))<|us<|Go.join (fun st=>∃nC,bF self fQ x_0 bG bH bI bQ bJ bZ cu nC=some o∧st.norm ([0,3,4],[0])=mk [(0,M 0),(3,iv (x_0.choice.length:Int)),(4,iv fQ)] [(0,Od [C (W 1 (eL 1 eI) bG),Z (W 1 (eL 1 eI) bH),C (I bI),C (I bQ),Z (W 1 eI bJ),C (I bZ),C (I cu),C (V nC)])]) ?_ ?_
         ·rintro st ⟨nC,h,hst⟩
          unfold bF at h
          refine us<|gs<|gs<|g2 c28 j j hst (q (oMv j j)<|q (oNl j j j)<|q (oFA (r':=.mp 0 0 7) j RN j j)<|q (oLd (cs:=[.im 0 _]) j tF4 j j)<|nl)<|us<|gc h j iR (fun ag6 h=>?_) fun ag6 h=>?_
          ·refine gs<|g0 j j (q (ae j j)<|nl)<|us<|Go.ret (Unw.ret ?_)
           cases h
           exact ⟨j,(fo aaO j)⟩
          ·refine Go.skip<|us<|gs<|g0 j j (q (oMv j j)<|q (oNl j j j)<|q (oFA (r':=.mp 0 0 5) j RJ j j)<|q (oLd (cs:=[.im 0 _]) j tF2 j j)<|q (oBi j j j j)<|q (oNl j j j)<|q (oFA (r':=.mp 0 0 5) j RJ j j)<|q (oSt tF2 j j j (tkI tk0) j j j)<|nl)<|us<|gs<|?_
           obtain ⟨YQ,aeX,h⟩:=bs h
           refine g1 j j (mk [(0,M 0),(3,iv (x_0.choice.length:Int)),(4,iv fQ)] [(0,Od [C (W 1 (eL 1 eI) bG),Z (W 1 (eL 1 eI) bH),C (I bI),C (I bQ),Z (W 1 eI bJ),C (I (w64 (bZ+1))),C (I cu),C (V nC)])]) (q (oMv j j)<|q (oMv j j)<|q (oNl j j j)<|q (oFA (r':=.mp 0 0 4) j CQ j j)<|q (oLd (cs:=[.own 0 0 4]) j oh j j)<|q (oMv j j)<|q (oBS (es:=List.map eI ([fQ]:List Int)) j fH j (ptC j (fxI fx0) j pt0) (dX j fun _=>j))<|q (Ey (en:=eI) (M:=([fQ]:List Int)) j aeX j fH j j lX (.inl ⟨_,j⟩) j j j j (kH j j) (dX j fun _=>j))<|q (oNl j j j)<|q (oFA (r':=.mp 0 0 4) j CQ j j)<|q (oSt oh j j j (tkO j j tk0) j j j)<|nl)<|us<|gs<|gs<|?_
           obtain ⟨mO,aeY,h⟩:=bs h
           refine g1 j j (mk [(0,M 0),(3,iv (x_0.choice.length:Int)),(4,iv fQ)] [(0,Od [C (W 1 (eL 1 eI) bG),Z (W 1 (eL 1 eI) bH),C (I bI),C (I bQ),Z (W 1 eI YQ),C (I (w64 (bZ+1))),C (I cu),C (V nC)])]) (q (oMv j j)<|q (oCa (xs:=[.v false [.mp 0 0 0]]) (vs:=[(false,[.im 0 _])]) (v:=.v false [.im 0 _]) (ih aeY) (.inl j) j Uh j (ad4 (ob':=⟨0,0,true,true,false,true,[C (W 1 (eL 1 eI) bG),Z (W 1 (eL 1 eI) bH),C (I bI),C (I bQ),Z (W 1 eI YQ),C (I (w64 (bZ+1))),C (I cu),C (V nC)]⟩) j j j (by kernel_rfl) pp0) j j (ad5 (ob':=⟨0,1,true,true,false,true,[⟨.imm,1,0,W 1 (eL 1 eI) mO.2.before⟩,⟨.sh,1,0,W 1 (eL 1 eI) mO.2.table⟩,⟨.imm,1,0,I mO.2.limit⟩,⟨.imm,1,0,I mO.2.most⟩,⟨.sh,1,0,W 1 eI mO.2.choice⟩,⟨.imm,1,0,I mO.2.nodes⟩,⟨.imm,1,0,I mO.2.budget⟩,⟨.imm,1,0,V mO.2.full⟩]⟩) j j (by kernel_rfl) pb0) j j j)<|nl)<|us<|gc h j iR (fun ag7 h=>?_) fun ag7 h=>?_
           ·refine gs<|g1 j j (mk [] [(0,Od [C (W 1 (eL 1 eI) mO.2.before),Z (W 1 (eL 1 eI) mO.2.table),C (I mO.2.limit),C (I mO.2.most),Z (W 1 eI mO.2.choice),C (I mO.2.nodes),C (I mO.2.budget),C (V mO.2.full)])]) (q (ae j j)<|nl)<|us<|Go.ret (Unw.ret ?_)
            cases h
            exact ⟨j,(fo aaO j)⟩
           ·refine Go.skip<|us<|?_
            obtain ⟨af1,aeZ,h⟩:=bs h
            exact g1 j j (mk [(0,M 0),(3,iv (x_0.choice.length:Int)),(4,iv fQ)] [(0,Od [C (W 1 (eL 1 eI) mO.2.before),Z (W 1 (eL 1 eI) mO.2.table),C (I mO.2.limit),C (I mO.2.most),Z (W 1 eI mO.2.choice),C (I mO.2.nodes),C (I mO.2.budget),C (V mO.2.full)])]) (q (oMv j j)<|q (oMv j j)<|q (oNl j j j)<|q (oFA (r':=.mp 0 0 4) j CQ j j)<|q (oLd (cs:=[.own 0 0 4]) j oh j j)<|q (oMv j j)<|q (afP j aeZ fH j j j bn0 (bn1 j) j j j)<|q (oNl j j j)<|q (oFA (r':=.mp 0 0 4) j CQ j j)<|q (oSt oh j j j (afM j j tk0) j j j)<|nl)<|Unw.blk<|K38 _ ⟨mO.2.before,mO.2.table,mO.2.limit,mO.2.most,((mO.2.choice.take ((x_0.choice.length:Int).toNat)).drop 0),mO.2.nodes,mO.2.budget,mO.2.full,h,(by kernel_rfl)⟩
         ·intro K50
          refine gc h j iEq (fun Vg h=>?_) fun Vg h=>?_
          ·exact g0 j j (q (oMv j j)<|q (oNl j j j)<|q (oFA (r':=.mp 0 0 7) j RN j j)<|q (oSt tF4 j j j (tkI tk0) j j j)<|nl)<|K50 _ ⟨true,h,(by kernel_rfl)⟩
          ·exact Go.skip<|K50 _ ⟨fA,h,(by kernel_rfl)⟩
        ·rw [if_neg pG] at h
         exact gT j (nT (byF iR pG))<|Go.exit<|ux<|Unw.iP<|K38 _ ⟨bG,bH,bI,bQ,bJ,bZ,cu,fA,h,(by kernel_rfl)⟩
   ·refine Go.exit<|ux<|Unw.nil<|?_
    cases h
    exact ⟨j,(by kernel_rfl)⟩
  ·rintro ⟨e,st⟩ hp
   rcases o with ⟨wP,wQ,wR,wU,wV,wW,wX,wY⟩ | r2
   ·dsimp only at h
    obtain ⟨he,hst⟩:=hp
    obtain rfl:e= .exit 0:=he
    refine Unw.iP<|us<|gs<|g2 c28 j j hst (q (ae j j)<|nl)<|us<|Go.ret (Unw.ret ?_)
    cases h
    exact fr aaO j
   ·dsimp only at h
    obtain ⟨he,hfin⟩:=hp
    obtain rfl:e= .ret:=he
    cases h
    exact Unw.ret (gm hfin)
theorem Dh {x_0:aG} {r:(Bool×aG)} (h:jI x_0=some r):FX 28 [.ptr true [(.gone,W 1 (eL 1 eI) x_0.before),(.sh,W 1 (eL 1 eI) x_0.table),(.imm,I x_0.limit),(.imm,I x_0.most),(.sh,W 1 eI x_0.choice),(.imm,I x_0.nodes),(.imm,I x_0.budget),(.imm,V x_0.full)]] ([(false,[.im 0 (V r.1)])],[.ptr true [(.gone,W 1 (eL 1 eI) r.2.before),(.sh,W 1 (eL 1 eI) r.2.table),(.imm,I r.2.limit),(.imm,I r.2.most),(.sh,W 1 eI r.2.choice),(.imm,I r.2.nodes),(.imm,I r.2.budget),(.imm,V r.2.full)]]):=by
 unfold jI at h
 obtain ⟨n,hn⟩:=zW h
 clear h
 induction n generalizing x_0 r with
 | zero=>cases hn
 | succ n ihn=>exact Bl (self:=wG _ n) (fun h=>ihn h) hn
theorem LM {bV:(List Int)} {r:(List Int)} (h:wZ bV=some r):FX 29 [.im 2 false [W 1 eI bV]] (B0 [(false,[.ow 0 1 (List.map eI r)])]):=by
 unfold wZ at h
 refine gn 6 Tryz.func29 rfl ?_
 refine gs<|g0 j j (q (vH j j FQ)<|nl)<|us<|gs<|?_
 obtain ⟨x5,hx5,h⟩:=bs h
 refine g0 j j (q (oBS (es:=List.map eI ([]:List Int)) j fH j pt0 (dX j fun _=>j))<|q (oMv j j)<|q (Ey (en:=eI) (M:=bV) j hx5 j fH j j lX (.inl ⟨_,j⟩) j j j j abx (dX j fun _=>j))<|q (kC j j j j j)<|nl)<|us<|Go.ret (Unw.ret ?_)
 cases h
 exact fr agh j
theorem Di {d_0:aA} {aQ:(List ai)} {aO:Int} {bK:Int} {r:((List Int)×Int)} (h:lM d_0 aQ aO bK=some r):FX 8 [.im 2 true (ak d_0),.im 2 false [W 3 au aQ],.im 2 false [I aO],.im 2 false [I bK]] (B0 [(false,[.ow 0 1 (List.map eI r.1)]),(false,[.im 0 (I r.2)])]):=by
 unfold lM at h
 refine gn 34 Tryz.func8 rfl ?_
 refine gs<|g0 j j (q (oBx j Ar j (tkI (tkI (tkI (tkI tk0)))))<|q (vH j j FQ)<|q (ae j j)<|nl)<|us<|gs<|?_
 obtain ⟨x15,y5,h⟩:=bs h
 refine g0 j j (q (oMv j j)<|q (oMv j j)<|q (oMv j j)<|q (oCa (xs:=[.v false [.mp 4 0 0],.v false [.im 2 _],.v false [.im 2 _],.v false [.im 2 _]]) (vs:=[(false,[.im 0 _])]) (v:=.v false [.im 0 _]) (Lu y5) (.inl j) j Ku j (ppC j (ppC j (ppC j (ppC j pp0)))) j j pb0 j j j)<|q (ae j j)<|nl)<|us<|gs<|gs<|g0 j j (q (oMv j j)<|q (oBi j j j j)<|nl)<|us<|gc h j iNe (fun hc1 h=>?_) fun hc1 h=>?_
 ·refine gs<|g0 j j (q (oMv j j)<|q (vH j j FQ)<|q (ae j j)<|nl)<|us<|Go.ret (Unw.ret ?_)
  cases h
  exact fr rF8 j
 ·refine Go.skip<|us<|gs<|?_
  obtain ⟨x22,F6,h⟩:=bs h
  refine g0 j j (q (oMv j j)<|q (oMv j j)<|q (oMv j j)<|q (oCp (xs:=[.v false [.mp 4 0 0],.v false [.im 2 _],.v false [.im 2 _],.v false [.im 2 _]]) (LD F6) (.inl j) j Kv j (ppC j (ppC j (ppC j (ppC j pp0)))) j j pb0 j)<|q (YH j j)<|nl)<|us<|gs<|gs<|?_
  obtain ⟨x24,hx24,h⟩:=bs h
  refine g0 j j (q (oMv j j)<|q (oCa (xs:=[.v false [.mp 22 0 0]]) (vs:=[(false,[.im 0 _])]) (v:=.v false [.im 0 _]) (Dh hx24) (.inl j) j Uh j (ad4 (ob':=⟨0,0,false,true,false,true,[C (W 1 (eL 1 eI) x22.before),Z (W 1 (eL 1 eI) x22.table),C (I x22.limit),C (I x22.most),Z (W 1 eI x22.choice),C (I x22.nodes),C (I x22.budget),C (V x22.full)]⟩) j j j (by kernel_rfl) pp0) j j (ad5 (ob':=⟨0,1,false,true,false,true,[⟨.imm,1,0,W 1 (eL 1 eI) x24.2.before⟩,⟨.sh,1,0,W 1 (eL 1 eI) x24.2.table⟩,⟨.imm,1,0,I x24.2.limit⟩,⟨.imm,1,0,I x24.2.most⟩,⟨.sh,1,0,W 1 eI x24.2.choice⟩,⟨.imm,1,0,I x24.2.nodes⟩,⟨.imm,1,0,I x24.2.budget⟩,⟨.imm,1,0,V x24.2.full⟩]⟩) j j (by kernel_rfl) pb0) j j j)<|nl)<|us<|gc h j iR (fun hc2 h=>?_) fun hc2 h=>?_
  ·refine gs<|?_
   obtain ⟨x29,hx29,h⟩:=bs h
   refine g1 j j (mk [(11,M 22)] [(22,Oa [C (W 1 (eL 1 eI) x24.2.before),Z (W 1 (eL 1 eI) x24.2.table),C (I x24.2.limit),C (I x24.2.most),Z (W 1 eI x24.2.choice),C (I x24.2.nodes),C (I x24.2.budget),C (V x24.2.full)])]) (q (oMv j j)<|q (oNl j j j)<|q (oFA (r':=.mp 22 0 4) j CQ j j)<|q (oLd (cs:=[.own 22 0 4]) j oh j j)<|q (oCr (xs:=[.v false [.own 22 0 4]]) (vs:=[(false,[.own 29 0 0])]) (v:=.v false [.own 29 0 0]) (c:=⟨.sh,0,_⟩) (cs:=[]) (LM hx29) (.inl j) j aaq j (ppC j pp0) j j pb0 j j j)<|q (kC j j j j j)<|q (ae j j)<|nl)<|us<|Go.ret (Unw.ret ?_)
   cases h
   exact fr rF8 j
  ·refine Go.skip<|us<|gs<|gs<|g1 j j (mk [(11,M 22)] [(22,Oa [C (W 1 (eL 1 eI) x24.2.before),Z (W 1 (eL 1 eI) x24.2.table),C (I x24.2.limit),C (I x24.2.most),Z (W 1 eI x24.2.choice),C (I x24.2.nodes),C (I x24.2.budget),C (V x24.2.full)])]) (q (oMv j j)<|q (oNl j j j)<|q (oFA (r':=.mp 22 0 7) j RN j j)<|q (oLd (cs:=[.im 0 _]) j tF4 j j)<|nl)<|us<|gc h j iR (fun hc3 h=>?_) fun hc3 h=>?_
   ·refine gs<|g0 j j (q (vH j j FQ)<|q (ae j j)<|nl)<|us<|Go.ret (Unw.ret ?_)
    cases h
    exact fr rF8 j
   ·refine Go.skip<|us<|gs<|g0 j j (q (vH j j FQ)<|q (ae j j)<|nl)<|us<|Go.ret (Unw.ret ?_)
    cases h
    exact fr rF8 j
theorem dA {n_0:Int} {Ac:Int} {vK:Int} {r:Bool} (h:cO n_0 Ac vK=some r):FX 54 [.im 2 false [I n_0],.im 2 false [I Ac],.im 2 false [I vK]] (B0 [(false,[.im 0 (V r)])]):=by
 unfold cO at h
 refine gn 15 Tryz.func54 rfl ?_
 refine gs<|g0 j j (q (ae j j)<|nl)<|us<|gs<|gX c54 j j j (mk [(6,bv ((decide (n_0≥Ac))&&(decide (n_0≤vK))))] []) ?_ ?_
 ·refine xq (oMv j j)<|xq (oMv j j)<|xq (oBi j j j j)<|xq (oMv j j)<|?_
  by_cases hc1:n_0≥Ac
  ·exact xqT rfl rfl (ah.2 hc1) (oMv rfl rfl)<|xqT rfl rfl (ah.2 hc1) (oMv rfl rfl)<|xqT rfl rfl (ah.2 hc1) (oBi rfl rfl rfl rfl)<|xq (bU rfl rfl (ah.2 hc1) rfl)<|xq (ae rfl rfl)<|xn (Eq.trans (b:=(fun lH:Bool=>mk [(6,bv lH)] []) (decide (n_0≤vK))) (by kernel_rfl) (congrArg (fun lH:Bool=>mk [(6,bv lH)] []) (by first | rfl | (simp [(ah.2 hc1)];done) | (simp [(ah.2 hc1)];omega))))
  ·exact aj rfl rfl (byF ah hc1) rfl<|aj rfl rfl (byF ah hc1) rfl<|aj rfl rfl (byF ah hc1) rfl<|xq (dV rfl rfl (byF ah hc1) rfl)<|xq (ae rfl rfl)<|xn (Eq.trans (b:=(fun lH:Bool=>mk [(6,bv lH)] []) false) (by kernel_rfl) (congrArg (fun lH:Bool=>mk [(6,bv lH)] []) (by first | rfl | (simp [(byF ah hc1)];done) | (simp [(byF ah hc1)];omega))))
 ·refine us<|Go.ret (Unw.ret ?_)
  cases h
  exact fr agw j
theorem rG {s_0:(List af)} {v_1:af} {r:Int} (h:gp s_0 v_1=some r):FX 100 [.im 2 false [W 2 az s_0],.im 2 true (aF v_1)] (B0 [(false,[.im 0 (I r)])]):=by
 unfold gp at h
 refine gn 19 Tryz.func100 rfl ?_
 refine gs<|g0 j j (q (oBx j aJ j (tkI (tkI tk0)))<|q (ae j j)<|nl)<|us<|gs<|gs<|g0 j j (q (oMv j j)<|q (gB j j zD j)<|q (oMv j j)<|nl)<|us<|Go.block<|?_
 obtain ⟨o,hl,h⟩:=bs h
 refine gl aan j _ (fun (eY:Int)=>mk [(0,D 2 (W 2 az s_0)),(3,M 3),(7,iv (s_0.length:Int)),(8,iv eY)] [(3,Oa (G 0 (aF v_1)))]) (fun (o:(Unit ⊕ Int)) (p:Ex×St)=>match o with | (.inl _)=>p.1= .exit 0∧p.2.norm ([],[])=mk [] [] | (.inr r2)=>p.1= .ret∧fin Tryz.prog cfg 100 Tryz.f100 [.im 2 false [W 2 az s_0],.im 2 true (aF v_1)] p.2=some (B0 [(false,[.im 0 (I r2)])])) hl (by kernel_rfl) ?_ ?_ ?_
 ·intro o p hp e
  rcases o with u | r2<;>exact nomatch (hp.1.symm.trans e)
 ·rintro eY o h
  unfold dB at h
  refine gs<|g0 j j (q (oBi j j j j)<|nl)<|us<|gs<|gc h j ah (fun hc5 h=>?_) fun hc5 h=>?_
  ·refine Go.skip<|us<|gs<|Go.block<|gs<|g0 j j (q (oMv j j)<|q (ae j j)<|nl)<|us<|gs<|?_
   obtain ⟨x14,ve,h⟩:=bs h
   refine gd aan j j j j (mk [(0,D 2 (W 2 az s_0)),(3,M 3),(5,iv eY),(7,iv (s_0.length:Int)),(8,iv eY),(16,bv ((v_1.X==x14.X)&&(v_1.Y==x14.Y)))] [(3,Oa (G 0 (aF v_1)))]) (t j j (oLd (cs:=[.im 0 _,.im 0 _]) j aJ j j)<|t j j (oMv j j)<|t j j (oMv j j)<|t j j (fU j ve pF j j)<|t j j (oLd (cs:=[.im 2 _,.im 2 _]) j aJ j j)<|t j j (oBa j (Uj v_1.X v_1.Y x14.X x14.Y) j j j j)<|sD (by kernel_rfl))<|us<|gc h j (xE iEq iEq) (fun hc6 h=>?_) fun hc6 h=>?_
   ·refine gs<|g0 j j (q (oMv j j)<|q (ae j j)<|nl)<|us<|Go.ret (Unw.ret ?_)
    cases h
    exact ⟨j,(fo aby j)⟩
   ·refine Go.skip<|Unw.blk<|us<|g0 j j (q (oBi j j j j)<|q (oMv j j)<|nl)<|Unw.nil<|?_
    cases h
    exact ⟨j,(by kernel_rfl)⟩
  ·refine Go.exit<|ux<|Unw.nil<|?_
   cases h
   exact ⟨j,(by kernel_rfl)⟩
 ·rintro ⟨e,st⟩ hp
  rcases o with u | r2
  ·dsimp only at h
   obtain ⟨he,hst⟩:=hp
   obtain rfl:e= .exit 0:=he
   refine Unw.iP<|us<|gs<|g2 aan j j hst (q (ae j j)<|nl)<|us<|Go.ret (Unw.ret ?_)
   cases h
   exact fr aby j
  ·dsimp only at h
   obtain ⟨he,hfin⟩:=hp
   obtain rfl:e= .ret:=he
   cases h
   exact Unw.ret (gm hfin)
theorem qh {s_0:(List af)} {v_1:af} {r:Bool} (h:dD s_0 v_1=some r):FX 76 [.im 2 false [W 2 az s_0],.im 2 true (aF v_1)] (B0 [(false,[.im 0 (V r)])]):=by
 unfold dD at h
 refine gn 9 Tryz.func76 rfl ?_
 refine gs<|g0 j j (q (oBx j aJ j (tkI (tkI tk0)))<|q (ae j j)<|nl)<|us<|gs<|?_
 obtain ⟨x7,hx7,h⟩:=bs h
 refine g0 j j (q (oMv j j)<|q (oLd (cs:=[.im 0 _,.im 0 _]) j aJ j j)<|q (oCa (xs:=[.v false [.im 2 _],.v true [.im 0 _,.im 0 _]]) (vs:=[(false,[.im 0 _])]) (v:=.v false [.im 0 _]) (rG hx7) (.inl j) j Qo j (ppC j (ppC j pp0)) j j pb0 j j j)<|q (oBi j j j j)<|q (ae j j)<|nl)<|us<|Go.ret (Unw.ret ?_)
 cases h
 exact fr agH j
theorem zG {s_0:ByteArray} {r:Bool} (h:xe s_0=some r):FX 77 [.im 2 false [Y s_0]] (B0 [(false,[.im 0 (V r)])]):=by
 unfold xe at h
 refine gn 50 Tryz.func77 rfl ?_
 refine gs<|g0 j j (q (ae j j)<|nl)<|us<|gs<|gs<|?_
 obtain ⟨Ol,Dj,h⟩:=bs h
 refine gX c77 j j j (mk [(0,sv s_0),(21,bv Ol)] []) ?_ ?_
 ·refine xq (oMv j j)<|xq (Ru j j uF9 j)<|xq (oBi j j j j)<|xq (oMv j j)<|?_
  refine ic Dj (fun hc1 Dj=>?_) fun hc1 Dj=>?_
  ·cases Dj
   exact aj j j (ah.2 hc1) j<|aj j j (ah.2 hc1) j<|aj j j (ah.2 hc1) j<|xq (bU j j (ah.2 hc1) j)<|xq (oMv j j)<|aj j j j j<|aj j j j j<|aj j j j j<|xq (bU j j j j)<|xq (oMv j j)<|aj j j j j<|aj j j j j<|aj j j j j<|xq (bU j j j j)<|xn
  ·refine xqT j j (byF ah hc1) (oMv j j)<|xqT j j (byF ah hc1) (Ru j j uF9 j)<|xqT j j (byF ah hc1) (oBi j j j j)<|xq (dV j j (byF ah hc1) j)<|xq (oMv j j)<|?_
   refine ic Dj (fun hc2 Dj=>?_) fun hc2 Dj=>?_
   ·cases Dj
    exact aj j j (ah.2 hc2) j<|aj j j (ah.2 hc2) j<|aj j j (ah.2 hc2) j<|xq (bU j j (ah.2 hc2) j)<|xq (oMv j j)<|aj j j j j<|aj j j j j<|aj j j j j<|xq (bU j j j j)<|xn
   ·obtain ⟨x14,ve,Dj⟩:=bs Dj
    refine xqT j j (byF ah hc2) (oMv j j)<|xqT j j (byF ah hc2) (oIx j ve uF9 j j)<|xqT j j (byF ah hc2) (oBi j j j j)<|xq (dV j j (byF ah hc2) j)<|xq (oMv j j)<|?_
    refine ic Dj (fun hc3 Dj=>?_) fun hc3 Dj=>?_
    ·cases Dj
     exact aj j j (ah.2 hc3) j<|aj j j (ah.2 hc3) j<|aj j j (ah.2 hc3) j<|xq (bU j j (ah.2 hc3) j)<|xn
    ·obtain ⟨x19,y7,Dj⟩:=bs Dj
     cases Dj
     exact xqT j j (byF ah hc3) (oMv j j)<|xqT j j (byF ah hc3) (oIx j y7 uF9 j j)<|xqT j j (byF ah hc3) (oBi j j j j)<|xq (dV j j (byF ah hc3) j)<|xn
 ·refine us<|gc h j iR (fun hc4 h=>?_) fun hc4 h=>?_
  ·refine gs<|g0 j j (q (ae j j)<|nl)<|us<|Go.ret (Unw.ret ?_)
   cases h
   exact fr acW j
  ·refine Go.skip<|us<|gs<|gs<|g0 j j (q (ae j j)<|nl)<|us<|Go.block<|?_
   obtain ⟨o,hl,h⟩:=bs h
   refine gl c77 j _ (fun (dI:Int)=>mk [(0,sv s_0),(3,iv dI)] []) (fun (o:(Unit ⊕ Bool)) (p:Ex×St)=>match o with | (.inl _)=>p.1= .exit 0∧p.2.norm ([],[])=mk [] [] | (.inr r2)=>p.1= .ret∧fin Tryz.prog cfg 77 Tryz.f77 [.im 2 false [Y s_0]] p.2=some (B0 [(false,[.im 0 (V r2)])])) hl (by kernel_rfl) ?_ ?_ ?_
   ·intro o p hp e
    rcases o with u | r2<;>exact nomatch (hp.1.symm.trans e)
   ·rintro dI o h
    unfold qA at h
    refine gs<|gs<|g0 j j (q (oMv j j)<|q (oMv j j)<|q (Ru j j uF9 j)<|q (oBi j j j j)<|nl)<|us<|gc h j ah (fun hc19 h=>?_) fun hc19 h=>?_
    ·refine Go.skip<|us<|gs<|Go.block<|gs<|?_
     obtain ⟨x30,Lr,h⟩:=bs h
     obtain ⟨A7,vP,h⟩:=bs h
     refine gX c77 j j j (mk [(0,sv s_0),(3,iv dI),(49,bv A7)] []) ?_ ?_
     ·refine xq (oMv j j)<|xq (oMv j j)<|xq (oIx j Lr uF9 j j)<|xq (oBi j j j j)<|xq (oMv j j)<|?_
      refine ic vP (fun EK vP=>?_) fun EK vP=>?_
      ·obtain ⟨x41,SH,vP⟩:=bs vP
       refine aj j j (ah.2 EK) j<|aj j j (ah.2 EK) j<|aj j j (ah.2 EK) j<|aj j j (ah.2 EK) j<|xq (bU j j (ah.2 EK) j)<|xq (oMv j j)<|xqT j j j (oMv j j)<|xqT j j j (oMv j j)<|xqT j j j (oIx j SH uF9 j j)<|xqT j j j (oBi j j j j)<|xqT j j j (oMv j j)<|?_
       refine ic vP (fun hc21 vP=>?_) fun hc21 vP=>?_
       ·cases vP
        exact aj j j (ah.2 hc21) j<|aj j j (ah.2 hc21) j<|aj j j (ah.2 hc21) j<|aj j j (ah.2 hc21) j<|xqT j j j (bU j j (ah.2 hc21) j)<|xq (bU j j j j)<|xn
       ·obtain ⟨x46,SI,vP⟩:=bs vP
        cases vP
        exact xqT j j (byF ah hc21) (oMv j j)<|xqT j j (byF ah hc21) (oMv j j)<|xqT j j (byF ah hc21) (oIx j SI uF9 j j)<|xqT j j (byF ah hc21) (oBi j j j j)<|xqT j j j (dV j j (byF ah hc21) j)<|xq (bU j j j j)<|xn
      ·obtain ⟨x35,XJ,vP⟩:=bs vP
       refine xqT j j (byF ah EK) (oMv j j)<|xqT j j (byF ah EK) (oMv j j)<|xqT j j (byF ah EK) (oIx j XJ uF9 j j)<|xqT j j (byF ah EK) (oBi j j j j)<|xq (dV j j (byF ah EK) j)<|xq (oMv j j)<|?_
       refine ic vP (fun hc22 vP=>?_) fun hc22 vP=>?_
       ·obtain ⟨x41,SH,vP⟩:=bs vP
        refine xqT j j (ah.2 hc22) (oMv j j)<|xqT j j (ah.2 hc22) (oMv j j)<|xqT j j (ah.2 hc22) (oIx j SH uF9 j j)<|xqT j j (ah.2 hc22) (oBi j j j j)<|xqT j j (ah.2 hc22) (oMv j j)<|?_
        refine ic vP (fun kM vP=>?_) fun kM vP=>?_
        ·cases vP
         exact aj j j (ah.2 kM) j<|aj j j (ah.2 kM) j<|aj j j (ah.2 kM) j<|aj j j (ah.2 kM) j<|xqT j j (ah.2 hc22) (bU j j (ah.2 kM) j)<|xq (bU j j (ah.2 hc22) j)<|xn
        ·obtain ⟨x46,SI,vP⟩:=bs vP
         cases vP
         exact xqT j j (byF ah kM) (oMv j j)<|xqT j j (byF ah kM) (oMv j j)<|xqT j j (byF ah kM) (oIx j SI uF9 j j)<|xqT j j (byF ah kM) (oBi j j j j)<|xqT j j (ah.2 hc22) (dV j j (byF ah kM) j)<|xq (bU j j (ah.2 hc22) j)<|xn
       ·cases vP
        exact aj j j (byF ah hc22) j<|aj j j (byF ah hc22) j<|aj j j (byF ah hc22) j<|aj j j (byF ah hc22) j<|aj j j (byF ah hc22) j<|Ry j j j<|Ry j j j<|Ry j j j<|Ry j j j<|aj j j (byF ah hc22) j<|xq (dV j j (byF ah hc22) j)<|xn
     ·refine us<|gc h j iR (fun hc24 h=>?_) fun hc24 h=>?_
      ·refine gs<|g0 j j (q (ae j j)<|nl)<|us<|Go.ret (Unw.ret ?_)
       cases h
       exact ⟨j,(fo acW j)⟩
      ·refine Go.skip<|Unw.blk<|us<|g0 j j (q (oMv j j)<|q (oBi j j j j)<|q (ae j j)<|nl)<|Unw.nil<|?_
       cases h
       exact ⟨j,(by kernel_rfl)⟩
    ·refine Go.exit<|ux<|Unw.nil<|?_
     cases h
     exact ⟨j,(by kernel_rfl)⟩
   ·rintro ⟨e,st⟩ hp
    rcases o with u | r2
    ·dsimp only at h
     obtain ⟨he,hst⟩:=hp
     obtain rfl:e= .exit 0:=he
     refine Unw.iP<|us<|gs<|g2 c77 j j hst (q (ae j j)<|nl)<|us<|Go.ret (Unw.ret ?_)
     cases h
     exact fr acW j
    ·dsimp only at h
     obtain ⟨he,hfin⟩:=hp
     obtain rfl:e= .ret:=he
     cases h
     exact Unw.ret (gm hfin)
theorem EN {uV:(List af)} {lF:(List Int)} {r:((List af)×Bool)} (h:jJ uV lF=some r):FX 78 [.im 2 false [W 2 az uV],.im 2 false [W 1 eI lF]] (B0 [(false,[.ow 0 2 (List.map az r.1)]),(false,[.im 0 (V r.2)])]):=by
 unfold jJ at h
 refine gn 31 Tryz.func78 rfl ?_
 refine gs<|g0 j j (q (vH j j Xe)<|q (ae j j)<|nl)<|us<|gs<|g0 j j (q (oBS (es:=List.map az ([]:List af)) j pF j pt0 (dX j fun _=>j))<|q (kC j j j j j)<|nl)<|us<|gs<|gs<|g0 j j (q (oMv j j)<|q (gB j j lX j)<|q (oMv j j)<|nl)<|us<|Go.block<|?_
 obtain ⟨o,hl,h⟩:=bs h
 refine gl c78 j _ (fun (s:(Int×(List af)))=>match s with | (DL,l9)=>mk [(0,D 2 (W 2 az uV)),(6,H 6 0),(10,D 2 (W 1 eI lF)),(11,iv (lF.length:Int)),(12,iv DL)] [(6,Oc [Z (W 2 az l9)])]) (fun (o:((List af) ⊕ ((List af)×Bool))) (p:Ex×St)=>match o with | (.inl jZ)=>p.1= .exit 0∧p.2.norm ([6],[6])=mk [(6,H 6 0)] [(6,Oc [Z (W 2 az jZ)])] | (.inr r2)=>p.1= .ret∧fin Tryz.prog cfg 78 Tryz.f78 [.im 2 false [W 2 az uV],.im 2 false [W 1 eI lF]] p.2=some (B0 [(false,[.ow 0 2 (List.map az r2.1)]),(false,[.im 0 (V r2.2)])])) hl (by kernel_rfl) ?_ ?_ ?_
 ·intro o p hp e
  rcases o with jZ | r2<;>exact nomatch (hp.1.symm.trans e)
 ·rintro ⟨DL,l9⟩ o h
  unfold nK at h
  dsimp only at h
  refine gs<|g0 j j (q (oBi j j j j)<|nl)<|us<|gs<|gc h j ah (fun hc5 h=>?_) fun hc5 h=>?_
  ·refine Go.skip<|us<|gs<|Go.block<|gs<|?_
   obtain ⟨x14,ve,h⟩:=bs h
   refine g0 j j (q (fU j ve fH j j)<|q (oLd (cs:=[.im 2 _]) j tF2 j j)<|q (ae j j)<|nl)<|us<|gs<|gs<|?_
   obtain ⟨x20,yh,h⟩:=bs h
   refine g0 j j (q (oMv j j)<|q (oMv j j)<|q (gB j j zD j)<|q (oBi j j j j)<|q (oCa (xs:=[.v false [.im 2 _],.v false [.im 0 _],.v false [.im 0 _]]) (vs:=[(false,[.im 0 _])]) (v:=.v false [.im 0 _]) (dA yh) (.inl j) j gu j (ppC j (ppC j (ppC j pp0))) j j pb0 j j j)<|q (oUn j j j)<|nl)<|us<|?_
   by_cases hc6:x20=true
   ·rw [if_pos hc6] at h
    refine gF j (nF (iR.2 hc6))<|Go.skip<|us<|?_
    obtain ⟨x25,hx25,h⟩:=bs h
    obtain ⟨x28,hx28,h⟩:=bs h
    refine g0 j j (q (oMv j j)<|q (oMv j j)<|q (oMv j j)<|q (fU j hx25 pF j j)<|q (oLd (cs:=[.im 2 _,.im 2 _]) j aJ j j)<|q (oBS (es:=List.map az ([x25]:List af)) j pF j (ptC j (fxI (fxI fx0)) j pt0) (dX j fun _=>j))<|q (Ey (en:=az) (M:=([x25]:List af)) j hx28 j pF j j zD (.inl ⟨_,j⟩) j j j j (kH j j) (dX j fun _=>j))<|q (kC j j j j j)<|nl)<|Unw.blk<|us<|g0 j j (q (oBi j j j j)<|q (oMv j j)<|nl)<|Unw.nil<|?_
    cases h
    exact ⟨j,(by kernel_rfl)⟩
   ·rw [if_neg hc6] at h
    refine gT j (nT (byF iR hc6))<|gs<|g0 j j (q (vH j j Xe)<|q (ae j j)<|nl)<|us<|Go.ret (Unw.ret ?_)
    cases h
    exact ⟨j,(fo aeE j)⟩
  ·refine Go.exit<|ux<|Unw.nil<|?_
   cases h
   exact ⟨j,(by kernel_rfl)⟩
 ·rintro ⟨e,st⟩ hp
  rcases o with jZ | r2
  ·dsimp only at h
   obtain ⟨he,hst⟩:=hp
   obtain rfl:e= .exit 0:=he
   refine Unw.iP<|us<|gs<|g2 c78 j j hst (q (oMv j j)<|q (kC j j j j j)<|q (ae j j)<|nl)<|us<|Go.ret (Unw.ret ?_)
   cases h
   exact fr aeE j
  ·dsimp only at h
   obtain ⟨he,hfin⟩:=hp
   obtain rfl:e= .ret:=he
   cases h
   exact Unw.ret (gm hfin)
theorem F9 {p_0:af} {r:Bool} (h:o8 p_0=some r):FX 121 [.im 2 true (aF p_0)] (B0 [(false,[.im 0 (V r)])]):=by
 unfold o8 at h
 refine gn 11 Tryz.func121 rfl ?_
 refine gs<|g0 j j (q (oBx j aJ j (tkI (tkI tk0)))<|q (ae j j)<|nl)<|us<|gs<|?_
 obtain ⟨x5,hx5,h⟩:=bs h
 obtain ⟨lG,hm2,h⟩:=bs h
 refine gX aee j j j (mk [(2,bv lG)] []) ?_ ?_
 ·refine xq (oFA (r':=.mp 1 0 0) j iF j j)<|xq (oLd (cs:=[.im 0 _]) j tF2 j j)<|xq (oCa (xs:=[.v false [.im 0 _],.v false [.im 0 _],.v false [.im 0 _]]) (vs:=[(false,[.im 0 _])]) (v:=.v false [.im 0 _]) (dA hx5) (.inl j) j gu j (ppC j (ppC j (ppC j pp0))) j j pb0 j j j)<|xq (oMv j j)<|?_
  refine ic hm2 (fun hc1 hm2=>?_) fun hc1 hm2=>?_
  ·obtain ⟨x9,hx9,hm2⟩:=bs hm2
   cases hm2
   exact xqT j j (iR.2 hc1) (oFA (r':=.mp 1 0 1) j iW j j)<|xqT j j (iR.2 hc1) (oLd (cs:=[.im 0 _]) j tF2 j j)<|xqT j j (iR.2 hc1) (oCa (xs:=[.v false [.im 0 _],.v false [.im 0 _],.v false [.im 0 _]]) (vs:=[(false,[.im 0 _])]) (v:=.v false [.im 0 _]) (dA hx9) (.inl j) j gu j (ppC j (ppC j (ppC j pp0))) j j pb0 j j j)<|xq (bU j j (iR.2 hc1) j)<|xq (ae j j)<|xn
  ·cases hm2
   exact aj j j (byF iR hc1) j<|aj j j (byF iR hc1) j<|aj j j (byF iR hc1) j<|xq (dV j j (byF iR hc1) j)<|xq (ae j j)<|xn
 ·refine us<|Go.ret (Unw.ret ?_)
  cases h
  exact fr aeq j
theorem EO {bV:(List af)} {r:Bool} (h:qR bV=some r):FX 101 [.im 2 false [W 2 az bV]] (B0 [(false,[.im 0 (V r)])]):=by
 unfold qR at h
 refine gn 15 Tryz.func101 rfl ?_
 refine gs<|g0 j j (q (ae j j)<|nl)<|us<|gs<|gs<|g0 j j (q (oMv j j)<|q (gB j j zD j)<|q (oMv j j)<|nl)<|us<|Go.block<|?_
 obtain ⟨o,hl,h⟩:=bs h
 refine gl acs j _ (fun (EF:Int)=>mk [(5,D 2 (W 2 az bV)),(6,iv (bV.length:Int)),(7,iv EF)] []) (fun (o:(Unit ⊕ Bool)) (p:Ex×St)=>match o with | (.inl _)=>p.1= .exit 0∧p.2.norm ([],[])=mk [] [] | (.inr r2)=>p.1= .ret∧fin Tryz.prog cfg 101 Tryz.f101 [.im 2 false [W 2 az bV]] p.2=some (B0 [(false,[.im 0 (V r2)])])) hl (by kernel_rfl) ?_ ?_ ?_
 ·intro o p hp e
  rcases o with u | r2<;>exact nomatch (hp.1.symm.trans e)
 ·rintro EF o h
  unfold gJ at h
  refine gs<|g0 j j (q (oBi j j j j)<|nl)<|us<|gs<|gc h j ah (fun hc5 h=>?_) fun hc5 h=>?_
  ·refine Go.skip<|us<|gs<|Go.block<|gs<|?_
   obtain ⟨x9,hx9,h⟩:=bs h
   refine g0 j j (q (fU j hx9 pF j j)<|q (oLd (cs:=[.im 2 _,.im 2 _]) j aJ j j)<|q (oAl j aJ (tkI (tkI tk0)))<|q (oSt aJ j j j (tkI (tkI tk0)) j j j)<|nl)<|us<|gs<|?_
   obtain ⟨x12,zF,h⟩:=bs h
   refine g1 j j (mk [(4,M 4),(5,D 2 (W 2 az bV)),(6,iv (bV.length:Int)),(7,iv EF)] [(4,Oa (G 0 (aF x9)))]) (q (oLd (cs:=[.im 0 _,.im 0 _]) j aJ j j)<|q (oCa (xs:=[.v true [.im 0 _,.im 0 _]]) (vs:=[(false,[.im 0 _])]) (v:=.v false [.im 0 _]) (F9 zF) (.inl j) j Xn j (ppC j pp0) j j pb0 j j j)<|q (oUn j j j)<|nl)<|us<|?_
   by_cases hc6:x12=true
   ·rw [if_pos hc6] at h
    refine gF j (nF (iR.2 hc6))<|Go.skip<|Unw.blk<|us<|g0 j j (q (oBi j j j j)<|q (oMv j j)<|nl)<|Unw.nil<|?_
    cases h
    exact ⟨j,(by kernel_rfl)⟩
   ·rw [if_neg hc6] at h
    refine gT j (nT (byF iR hc6))<|gs<|g0 j j (q (ae j j)<|nl)<|us<|Go.ret (Unw.ret ?_)
    cases h
    exact ⟨j,(fo abz j)⟩
  ·refine Go.exit<|ux<|Unw.nil<|?_
   cases h
   exact ⟨j,(by kernel_rfl)⟩
 ·rintro ⟨e,st⟩ hp
  rcases o with u | r2
  ·dsimp only at h
   obtain ⟨he,hst⟩:=hp
   obtain rfl:e= .exit 0:=he
   refine Unw.iP<|us<|gs<|g2 acs j j hst (q (ae j j)<|nl)<|us<|Go.ret (Unw.ret ?_)
   cases h
   exact fr abz j
  ·dsimp only at h
   obtain ⟨he,hfin⟩:=hp
   obtain rfl:e= .ret:=he
   cases h
   exact Unw.ret (gm hfin)
theorem qG {a_0:af} {b_1:af} {c_2:af} {r:Int} (h:nU a_0 b_1 c_2=some r):FX 122 [.im 2 true (aF a_0),.im 2 true (aF b_1),.im 2 true (aF c_2)] (B0 [(false,[.im 0 (I r)])]):=by
 unfold nU at h
 refine gn 37 Tryz.func122 rfl ?_
 refine gs<|g0 j j (q (oBx j aJ j (tkI (tkI tk0)))<|q (oBx j aJ j (tkI (tkI tk0)))<|q (oBx j aJ j (tkI (tkI tk0)))<|q (ae j j)<|nl)<|us<|gs<|g0 j j (q (oFA (r':=.mp 4 0 0) j iF j j)<|q (oLd (cs:=[.im 0 _]) j tF2 j j)<|q (oFA (r':=.mp 3 0 0) j iF j j)<|q (oLd (cs:=[.im 0 _]) j tF2 j j)<|q (oBi j j j j)<|q (oFA (r':=.mp 5 0 1) j iW j j)<|q (oLd (cs:=[.im 0 _]) j tF2 j j)<|q (oFA (r':=.mp 3 0 1) j iW j j)<|q (oLd (cs:=[.im 0 _]) j tF2 j j)<|q (oBi j j j j)<|q (oBi j j j j)<|q (oFA (r':=.mp 4 0 1) j iW j j)<|q (oLd (cs:=[.im 0 _]) j tF2 j j)<|q (oFA (r':=.mp 3 0 1) j iW j j)<|q (oLd (cs:=[.im 0 _]) j tF2 j j)<|q (oBi j j j j)<|q (oFA (r':=.mp 5 0 0) j iF j j)<|q (oLd (cs:=[.im 0 _]) j tF2 j j)<|q (oFA (r':=.mp 3 0 0) j iF j j)<|q (oLd (cs:=[.im 0 _]) j tF2 j j)<|q (oBi j j j j)<|q (oBi j j j j)<|q (oBi j j j j)<|q (ae j j)<|nl)<|us<|gs<|Go.block<|gs<|g0 j j (q (oMv j j)<|q (oBi j j j j)<|q (ae j j)<|nl)<|us<|gc h j ah (fun hc1 h=>?_) fun hc1 h=>?_
 ·refine gs<|g0 j j (q (ae j j)<|nl)<|us<|Go.ret (Unw.ret ?_)
  cases h
  exact fr Xw j
 ·refine gs<|g0 j j (q (oMv j j)<|q (oBi j j j j)<|q (ae j j)<|nl)<|us<|gc h j ah (fun hc2 h=>?_) fun hc2 h=>?_
  ·refine gs<|g0 j j (q (ae j j)<|nl)<|us<|Go.ret (Unw.ret ?_)
   cases h
   exact fr Xw j
  ·refine Go.skip<|Unw.blk<|us<|gs<|g0 j j (q (ae j j)<|nl)<|us<|Go.ret (Unw.ret ?_)
   cases h
   exact fr Xw j
theorem yu {a_0:af} {b_1:af} {p_2:af} {r:Bool} (h:sQ a_0 b_1 p_2=some r):FX 102 [.im 2 true (aF a_0),.im 2 true (aF b_1),.im 2 true (aF p_2)] (B0 [(false,[.im 0 (V r)])]):=by
 unfold sQ at h
 refine gn 42 Tryz.func102 rfl ?_
 refine gs<|g0 j j (q (oBx j aJ j (tkI (tkI tk0)))<|q (oBx j aJ j (tkI (tkI tk0)))<|q (oBx j aJ j (tkI (tkI tk0)))<|q (ae j j)<|nl)<|us<|gs<|?_
 obtain ⟨x10,Hl,h⟩:=bs h
 obtain ⟨lH,hm3,h⟩:=bs h
 refine gX aec j j j (mk [(6,bv lH)] []) ?_ ?_
 ·refine xq (oLd (cs:=[.im 0 _,.im 0 _]) j aJ j j)<|xq (oLd (cs:=[.im 0 _,.im 0 _]) j aJ j j)<|xq (oLd (cs:=[.im 0 _,.im 0 _]) j aJ j j)<|xq (oCa (xs:=[.v true [.im 0 _,.im 0 _],.v true [.im 0 _,.im 0 _],.v true [.im 0 _,.im 0 _]]) (vs:=[(false,[.im 0 _])]) (v:=.v false [.im 0 _]) (qG Hl) (.inl j) j lW j (ppC j (ppC j (ppC j pp0))) j j pb0 j j j)<|xq (oBi j j j j)<|xq (oMv j j)<|?_
  refine ic hm3 (fun hc1 hm3=>?_) fun hc1 hm3=>?_
  ·obtain ⟨x25,hx25,hm3⟩:=bs hm3
   refine xqT j j (iEq.2 hc1) (oFA (r':=.mp 5 0 0) j iF j j)<|xqT j j (iEq.2 hc1) (oLd (cs:=[.im 0 _]) j tF2 j j)<|xqT j j (iEq.2 hc1) (oFA (r':=.mp 3 0 0) j iF j j)<|xqT j j (iEq.2 hc1) (oLd (cs:=[.im 0 _]) j tF2 j j)<|xqT j j (iEq.2 hc1) (oFA (r':=.mp 4 0 0) j iF j j)<|xqT j j (iEq.2 hc1) (oLd (cs:=[.im 0 _]) j tF2 j j)<|xqT j j (iEq.2 hc1) (YI j j)<|xqT j j (iEq.2 hc1) (oFA (r':=.mp 3 0 0) j iF j j)<|xqT j j (iEq.2 hc1) (oLd (cs:=[.im 0 _]) j tF2 j j)<|xqT j j (iEq.2 hc1) (oFA (r':=.mp 4 0 0) j iF j j)<|xqT j j (iEq.2 hc1) (oLd (cs:=[.im 0 _]) j tF2 j j)<|xqT j j (iEq.2 hc1) (WO j j)<|xqT j j (iEq.2 hc1) (oCa (xs:=[.v false [.im 0 _],.v false [.im 0 _],.v false [.im 0 _]]) (vs:=[(false,[.im 0 _])]) (v:=.v false [.im 0 _]) (dA hx25) (.inl j) j gu j (ppC j (ppC j (ppC j pp0))) j j pb0 j j j)<|xq (bU j j (iEq.2 hc1) j)<|xq (oMv j j)<|?_
   refine ic hm3 (fun hc2 hm3=>?_) fun hc2 hm3=>?_
   ·obtain ⟨x40,KD,hm3⟩:=bs hm3
    cases hm3
    exact xqT j j (iR.2 hc2) (oFA (r':=.mp 5 0 1) j iW j j)<|xqT j j (iR.2 hc2) (oLd (cs:=[.im 0 _]) j tF2 j j)<|xqT j j (iR.2 hc2) (oFA (r':=.mp 3 0 1) j iW j j)<|xqT j j (iR.2 hc2) (oLd (cs:=[.im 0 _]) j tF2 j j)<|xqT j j (iR.2 hc2) (oFA (r':=.mp 4 0 1) j iW j j)<|xqT j j (iR.2 hc2) (oLd (cs:=[.im 0 _]) j tF2 j j)<|xqT j j (iR.2 hc2) (YI j j)<|xqT j j (iR.2 hc2) (oFA (r':=.mp 3 0 1) j iW j j)<|xqT j j (iR.2 hc2) (oLd (cs:=[.im 0 _]) j tF2 j j)<|xqT j j (iR.2 hc2) (oFA (r':=.mp 4 0 1) j iW j j)<|xqT j j (iR.2 hc2) (oLd (cs:=[.im 0 _]) j tF2 j j)<|xqT j j (iR.2 hc2) (WO j j)<|xqT j j (iR.2 hc2) (oCa (xs:=[.v false [.im 0 _],.v false [.im 0 _],.v false [.im 0 _]]) (vs:=[(false,[.im 0 _])]) (v:=.v false [.im 0 _]) (dA KD) (.inl j) j gu j (ppC j (ppC j (ppC j pp0))) j j pb0 j j j)<|xq (bU j j (iR.2 hc2) j)<|xq (ae j j)<|xn
   ·cases hm3
    exact aj j j (byF iR hc2) j<|aj j j (byF iR hc2) j<|aj j j (byF iR hc2) j<|aj j j (byF iR hc2) j<|aj j j (byF iR hc2) j<|aj j j (byF iR hc2) j<|aj j j (byF iR hc2) j<|aj j j (byF iR hc2) j<|aj j j (byF iR hc2) j<|aj j j (byF iR hc2) j<|aj j j (byF iR hc2) j<|aj j j (byF iR hc2) j<|aj j j (byF iR hc2) j<|xq (dV j j (byF iR hc2) j)<|xq (ae j j)<|xn
  ·cases hm3
   exact aj j j (byF iEq hc1) j<|aj j j (byF iEq hc1) j<|aj j j (byF iEq hc1) j<|aj j j (byF iEq hc1) j<|aj j j (byF iEq hc1) j<|aj j j (byF iEq hc1) j<|aj j j (byF iEq hc1) j<|aj j j (byF iEq hc1) j<|aj j j (byF iEq hc1) j<|aj j j (byF iEq hc1) j<|aj j j (byF iEq hc1) j<|aj j j (byF iEq hc1) j<|aj j j (byF iEq hc1) j<|xq (dV j j (byF iEq hc1) j)<|xq (oMv j j)<|aj j j j j<|aj j j j j<|aj j j j j<|aj j j j j<|aj j j j j<|aj j j j j<|aj j j j j<|aj j j j j<|aj j j j j<|aj j j j j<|aj j j j j<|aj j j j j<|aj j j j j<|xq (dV j j j j)<|xq (ae j j)<|xn
 ·refine us<|Go.ret (Unw.ret ?_)
  cases h
  exact fr aej j
theorem IQ {a_0:af} {b_1:af} {c_2:af} {d_3:af} {r:Bool} (h:nD a_0 b_1 c_2 d_3=some r):FX 123 [.im 2 true (aF a_0),.im 2 true (aF b_1),.im 2 true (aF c_2),.im 2 true (aF d_3)] (B0 [(false,[.im 0 (V r)])]):=by
 unfold nD at h
 refine gn 31 Tryz.func123 rfl ?_
 refine gs<|g0 j j (q (oBx j aJ j (tkI (tkI tk0)))<|q (oBx j aJ j (tkI (tkI tk0)))<|q (oBx j aJ j (tkI (tkI tk0)))<|q (oBx j aJ j (tkI (tkI tk0)))<|q (ae j j)<|nl)<|us<|gs<|?_
 obtain ⟨x12,zF,h⟩:=bs h
 obtain ⟨x16,hx16,h⟩:=bs h
 obtain ⟨tJ,hm2,h⟩:=bs h
 refine gd aef j j j j (mk [(8,bv tJ)] []) ?_ ?_
 ·refine t j j (oLd (cs:=[.im 0 _,.im 0 _]) j aJ j j)<|t j j (oLd (cs:=[.im 0 _,.im 0 _]) j aJ j j)<|t j j (oLd (cs:=[.im 0 _,.im 0 _]) j aJ j j)<|t j j (oLd (cs:=[.im 0 _,.im 0 _]) j aJ j j)<|t j j (oLd (cs:=[.im 0 _,.im 0 _]) j aJ j j)<|?_
  refine ic hm2 (fun hc1 hm2=>?_) fun hc1 hm2=>?_
  ·obtain ⟨x23,yj,hm2⟩:=bs hm2
   obtain ⟨x27,hx27,hm2⟩:=bs hm2
   cases hm2
   exact t j j (oLd (cs:=[.im 0 _,.im 0 _]) j aJ j j)<|sS (dN Qn j (oCa (xs:=[.v true [.im 0 _,.im 0 _],.v true [.im 0 _,.im 0 _],.v true [.im 0 _,.im 0 _]]) (vs:=[(false,[.im 0 _])]) (v:=.v false [.im 0 _]) (qG zF) (.inl j) j lW j (ppC j (ppC j (ppC j pp0))) j j pb0 j j j)) trivial (sS (dN Qn j (oCa (xs:=[.v true [.im 0 _,.im 0 _],.v true [.im 0 _,.im 0 _],.v true [.im 0 _,.im 0 _]]) (vs:=[(false,[.im 0 _])]) (v:=.v false [.im 0 _]) (qG hx16) (.inl j) j lW j (ppC j (ppC j (ppC j pp0))) j j pb0 j j j)) trivial (t j j (oBi j j j j)<|t j j (oBi j j j j)<|t j j (oMv j j)<|tT j j j j (ah.2 hc1) (oLd (cs:=[.im 0 _,.im 0 _]) j aJ j j)<|tT j j j j (ah.2 hc1) (oLd (cs:=[.im 0 _,.im 0 _]) j aJ j j)<|tT j j j j (ah.2 hc1) (oLd (cs:=[.im 0 _,.im 0 _]) j aJ j j)<|tT j j j j (ah.2 hc1) (oLd (cs:=[.im 0 _,.im 0 _]) j aJ j j)<|tT j j j j (ah.2 hc1) (oLd (cs:=[.im 0 _,.im 0 _]) j aJ j j)<|tT j j j j (ah.2 hc1) (oLd (cs:=[.im 0 _,.im 0 _]) j aJ j j)<|sS (dT Qn j j j (ah.2 hc1) (oCa (xs:=[.v true [.im 0 _,.im 0 _],.v true [.im 0 _,.im 0 _],.v true [.im 0 _,.im 0 _]]) (vs:=[(false,[.im 0 _])]) (v:=.v false [.im 0 _]) (qG yj) (.inl j) j lW j (ppC j (ppC j (ppC j pp0))) j j pb0 j j j)) trivial (sS (dT Qn j j j (ah.2 hc1) (oCa (xs:=[.v true [.im 0 _,.im 0 _],.v true [.im 0 _,.im 0 _],.v true [.im 0 _,.im 0 _]]) (vs:=[(false,[.im 0 _])]) (v:=.v false [.im 0 _]) (qG hx27) (.inl j) j lW j (ppC j (ppC j (ppC j pp0))) j j pb0 j j j)) trivial (tT j j j j (ah.2 hc1) (oBi j j j j)<|tT j j j j (ah.2 hc1) (oBi j j j j)<|t j j (bU j j (ah.2 hc1) j)<|sS (dN Qn j (ae j j)) trivial (sD (by kernel_rfl))))))
  ·cases hm2
   exact t j j (oLd (cs:=[.im 0 _,.im 0 _]) j aJ j j)<|sS (dN Qn j (oCa (xs:=[.v true [.im 0 _,.im 0 _],.v true [.im 0 _,.im 0 _],.v true [.im 0 _,.im 0 _]]) (vs:=[(false,[.im 0 _])]) (v:=.v false [.im 0 _]) (qG zF) (.inl j) j lW j (ppC j (ppC j (ppC j pp0))) j j pb0 j j j)) trivial (sS (dN Qn j (oCa (xs:=[.v true [.im 0 _,.im 0 _],.v true [.im 0 _,.im 0 _],.v true [.im 0 _,.im 0 _]]) (vs:=[(false,[.im 0 _])]) (v:=.v false [.im 0 _]) (qG hx16) (.inl j) j lW j (ppC j (ppC j (ppC j pp0))) j j pb0 j j j)) trivial (t j j (oBi j j j j)<|t j j (oBi j j j j)<|t j j (oMv j j)<|tF j j j j (byF ah hc1) j<|tF j j j j (byF ah hc1) j<|tF j j j j (byF ah hc1) j<|tF j j j j (byF ah hc1) j<|tF j j j j (byF ah hc1) j<|tF j j j j (byF ah hc1) j<|sS (dF j j j (byF ah hc1) j) trivial (sS (dF j j j (byF ah hc1) j) trivial (tF j j j j (byF ah hc1) j<|tF j j j j (byF ah hc1) j<|t j j (dV j j (byF ah hc1) j)<|sS (dN Qn j (ae j j)) trivial (sD (by kernel_rfl))))))
 ·refine us<|Go.ret (Unw.ret ?_)
  cases h
  exact fr aer j
theorem IU {a_0:af} {b_1:af} {c_2:af} {d_3:af} {r:Bool} (h:nG a_0 b_1 c_2 d_3=some r):FX 103 [.im 2 true (aF a_0),.im 2 true (aF b_1),.im 2 true (aF c_2),.im 2 true (aF d_3)] (B0 [(false,[.im 0 (V r)])]):=by
 unfold nG at h
 refine gn 38 Tryz.func103 rfl ?_
 refine gs<|g0 j j (q (oBx j aJ j (tkI (tkI tk0)))<|q (oBx j aJ j (tkI (tkI tk0)))<|q (oBx j aJ j (tkI (tkI tk0)))<|q (oBx j aJ j (tkI (tkI tk0)))<|q (ae j j)<|nl)<|us<|gs<|?_
 obtain ⟨x13,OE,h⟩:=bs h
 obtain ⟨tJ,hm5,h⟩:=bs h
 refine gX aed j j j (mk [(8,bv tJ)] []) ?_ ?_
 ·refine xq (oLd (cs:=[.im 0 _,.im 0 _]) j aJ j j)<|xq (oLd (cs:=[.im 0 _,.im 0 _]) j aJ j j)<|xq (oLd (cs:=[.im 0 _,.im 0 _]) j aJ j j)<|xq (oLd (cs:=[.im 0 _,.im 0 _]) j aJ j j)<|xq (oCa (xs:=[.v true [.im 0 _,.im 0 _],.v true [.im 0 _,.im 0 _],.v true [.im 0 _,.im 0 _],.v true [.im 0 _,.im 0 _]]) (vs:=[(false,[.im 0 _])]) (v:=.v false [.im 0 _]) (IQ OE) (.inl j) j FV j (ppC j (ppC j (ppC j (ppC j pp0)))) j j pb0 j j j)<|xq (oMv j j)<|?_
  refine ic hm5 (fun hc1 hm5=>?_) fun hc1 hm5=>?_
  ·cases hm5
   exact aj j j (iR.2 hc1) j<|aj j j (iR.2 hc1) j<|aj j j (iR.2 hc1) j<|aj j j (iR.2 hc1) j<|xq (bU j j (iR.2 hc1) j)<|xq (oMv j j)<|aj j j j j<|aj j j j j<|aj j j j j<|aj j j j j<|xq (bU j j j j)<|xq (oMv j j)<|aj j j j j<|aj j j j j<|aj j j j j<|aj j j j j<|xq (bU j j j j)<|xq (oMv j j)<|aj j j j j<|aj j j j j<|aj j j j j<|aj j j j j<|xq (bU j j j j)<|xq (ae j j)<|xn
  ·obtain ⟨x18,EJ,hm5⟩:=bs hm5
   refine xqT j j (byF iR hc1) (oLd (cs:=[.im 0 _,.im 0 _]) j aJ j j)<|xqT j j (byF iR hc1) (oLd (cs:=[.im 0 _,.im 0 _]) j aJ j j)<|xqT j j (byF iR hc1) (oLd (cs:=[.im 0 _,.im 0 _]) j aJ j j)<|xqT j j (byF iR hc1) (oCa (xs:=[.v true [.im 0 _,.im 0 _],.v true [.im 0 _,.im 0 _],.v true [.im 0 _,.im 0 _]]) (vs:=[(false,[.im 0 _])]) (v:=.v false [.im 0 _]) (yu EJ) (.inl j) j og j (ppC j (ppC j (ppC j pp0))) j j pb0 j j j)<|xq (dV j j (byF iR hc1) j)<|xq (oMv j j)<|?_
   refine ic hm5 (fun hc2 hm5=>?_) fun hc2 hm5=>?_
   ·cases hm5
    exact aj j j (iR.2 hc2) j<|aj j j (iR.2 hc2) j<|aj j j (iR.2 hc2) j<|aj j j (iR.2 hc2) j<|xq (bU j j (iR.2 hc2) j)<|xq (oMv j j)<|aj j j j j<|aj j j j j<|aj j j j j<|aj j j j j<|xq (bU j j j j)<|xq (oMv j j)<|aj j j j j<|aj j j j j<|aj j j j j<|aj j j j j<|xq (bU j j j j)<|xq (ae j j)<|xn
   ·obtain ⟨x24,hx24,hm5⟩:=bs hm5
    refine xqT j j (byF iR hc2) (oLd (cs:=[.im 0 _,.im 0 _]) j aJ j j)<|xqT j j (byF iR hc2) (oLd (cs:=[.im 0 _,.im 0 _]) j aJ j j)<|xqT j j (byF iR hc2) (oLd (cs:=[.im 0 _,.im 0 _]) j aJ j j)<|xqT j j (byF iR hc2) (oCa (xs:=[.v true [.im 0 _,.im 0 _],.v true [.im 0 _,.im 0 _],.v true [.im 0 _,.im 0 _]]) (vs:=[(false,[.im 0 _])]) (v:=.v false [.im 0 _]) (yu hx24) (.inl j) j og j (ppC j (ppC j (ppC j pp0))) j j pb0 j j j)<|xq (dV j j (byF iR hc2) j)<|xq (oMv j j)<|?_
    refine ic hm5 (fun hc3 hm5=>?_) fun hc3 hm5=>?_
    ·cases hm5
     exact aj j j (iR.2 hc3) j<|aj j j (iR.2 hc3) j<|aj j j (iR.2 hc3) j<|aj j j (iR.2 hc3) j<|xq (bU j j (iR.2 hc3) j)<|xq (oMv j j)<|aj j j j j<|aj j j j j<|aj j j j j<|aj j j j j<|xq (bU j j j j)<|xq (ae j j)<|xn
    ·obtain ⟨x30,Lr,hm5⟩:=bs hm5
     refine xqT j j (byF iR hc3) (oLd (cs:=[.im 0 _,.im 0 _]) j aJ j j)<|xqT j j (byF iR hc3) (oLd (cs:=[.im 0 _,.im 0 _]) j aJ j j)<|xqT j j (byF iR hc3) (oLd (cs:=[.im 0 _,.im 0 _]) j aJ j j)<|xqT j j (byF iR hc3) (oCa (xs:=[.v true [.im 0 _,.im 0 _],.v true [.im 0 _,.im 0 _],.v true [.im 0 _,.im 0 _]]) (vs:=[(false,[.im 0 _])]) (v:=.v false [.im 0 _]) (yu Lr) (.inl j) j og j (ppC j (ppC j (ppC j pp0))) j j pb0 j j j)<|xq (dV j j (byF iR hc3) j)<|xq (oMv j j)<|?_
     refine ic hm5 (fun hc4 hm5=>?_) fun hc4 hm5=>?_
     ·cases hm5
      exact aj j j (iR.2 hc4) j<|aj j j (iR.2 hc4) j<|aj j j (iR.2 hc4) j<|aj j j (iR.2 hc4) j<|xq (bU j j (iR.2 hc4) j)<|xq (ae j j)<|xn
     ·obtain ⟨x36,FZ,hm5⟩:=bs hm5
      cases hm5
      exact xqT j j (byF iR hc4) (oLd (cs:=[.im 0 _,.im 0 _]) j aJ j j)<|xqT j j (byF iR hc4) (oLd (cs:=[.im 0 _,.im 0 _]) j aJ j j)<|xqT j j (byF iR hc4) (oLd (cs:=[.im 0 _,.im 0 _]) j aJ j j)<|xqT j j (byF iR hc4) (oCa (xs:=[.v true [.im 0 _,.im 0 _],.v true [.im 0 _,.im 0 _],.v true [.im 0 _,.im 0 _]]) (vs:=[(false,[.im 0 _])]) (v:=.v false [.im 0 _]) (yu FZ) (.inl j) j og j (ppC j (ppC j (ppC j pp0))) j j pb0 j j j)<|xq (dV j j (byF iR hc4) j)<|xq (ae j j)<|xn
 ·refine us<|Go.ret (Unw.ret ?_)
  cases h
  exact fr aek j
theorem KJ {p_0:(List af)} {r:Int} (h:oJ p_0=some r):FX 104 [.im 2 false [W 2 az p_0]] (B0 [(false,[.im 0 (I r)])]):=by
 unfold oJ at h
 refine gn 37 Tryz.func104 rfl ?_
 refine gs<|g0 j j (q (ae j j)<|nl)<|us<|gs<|g0 j j (q (ae j j)<|nl)<|us<|gs<|gs<|g0 j j (q (oMv j j)<|q (gB j j zD j)<|q (oMv j j)<|nl)<|us<|Go.block<|?_
 obtain ⟨o,hl,h⟩:=bs h
 refine gl acu j _ (fun (s:(Int×Int))=>match s with | (lI,zA)=>mk [(0,D 2 (W 2 az p_0)),(3,iv lI),(7,D 2 (W 2 az p_0)),(8,iv (p_0.length:Int)),(9,iv zA)] []) (fun (oH:Int) (p:Ex×St)=>p.1= .exit 0∧p.2.norm ([3],[])=mk [(3,iv oH)] []) hl (by kernel_rfl) ?_ ?_ ?_
 ·intro o p hp e
  exact nomatch (hp.1.symm.trans e)
 ·rintro ⟨lI,zA⟩ o h
  unfold o9 at h
  dsimp only at h
  refine gs<|g0 j j (q (oBi j j j j)<|nl)<|us<|gs<|gc h j ah (fun hc3 h=>?_) fun hc3 h=>?_
  ·refine Go.skip<|us<|gs<|Go.block<|gs<|?_
   obtain ⟨x12,zF,h⟩:=bs h
   refine g0 j j (q (oMv j j)<|q (fU j zF pF j j)<|q (oLd (cs:=[.im 2 _,.im 2 _]) j aJ j j)<|q (oAl j aJ (tkI (tkI tk0)))<|q (ae j j)<|q (oSt aJ j j j (tkI (tkI tk0)) j j j)<|nl)<|us<|gs<|?_
   obtain ⟨x19,y7,h⟩:=bs h
   obtain ⟨x20,yh,h⟩:=bs h
   refine g1 j j (mk [(0,D 2 (W 2 az p_0)),(3,iv lI),(4,iv zA),(5,M 5),(7,D 2 (W 2 az p_0)),(8,iv (p_0.length:Int)),(9,iv zA)] [(5,Oa (G 0 (aF x12)))]) (q (oMv j j)<|q (oMv j j)<|q (oBi j j j j)<|q (oMv j j)<|q (gB j j zD j)<|q (FK j y7 j j)<|q (fU j yh pF j j)<|q (oLd (cs:=[.im 2 _,.im 2 _]) j aJ j j)<|q (oAl j aJ (tkI (tkI tk0)))<|q (oSt aJ j j j (tkI (tkI tk0)) j j j)<|nl)<|us<|g1 j j (mk [(0,D 2 (W 2 az p_0)),(3,iv lI),(5,M 5),(6,M 6),(7,D 2 (W 2 az p_0)),(8,iv (p_0.length:Int)),(9,iv zA)] [(5,Oa (G 0 (aF x12))),(6,Oa (G 0 (aF x20)))]) (q (oMv j j)<|q (oFA (r':=.mp 5 0 0) j iF j j)<|q (oLd (cs:=[.im 0 _]) j tF2 j j)<|q (oFA (r':=.mp 6 0 1) j iW j j)<|q (oLd (cs:=[.im 0 _]) j tF2 j j)<|q (oBi j j j j)<|q (oFA (r':=.mp 5 0 1) j iW j j)<|q (oLd (cs:=[.im 0 _]) j tF2 j j)<|q (oFA (r':=.mp 6 0 0) j iF j j)<|q (oLd (cs:=[.im 0 _]) j tF2 j j)<|q (oBi j j j j)<|q (oBi j j j j)<|q (oBi j j j j)<|q (ae j j)<|nl)<|Unw.blk<|us<|g0 j j (q (oBi j j j j)<|q (oMv j j)<|nl)<|Unw.nil<|?_
   cases h
   exact ⟨j,(by kernel_rfl)⟩
  ·refine Go.exit<|ux<|Unw.nil<|?_
   cases h
   exact ⟨j,(by kernel_rfl)⟩
 ·rintro ⟨e,st⟩ hp
  obtain ⟨oH,rfl⟩:∃y,y=o:=⟨o,rfl⟩
  obtain ⟨he,hst⟩:=hp
  obtain rfl:e= .exit 0:=he
  refine Unw.iP<|us<|gs<|g2 acu j j hst (q (oMv j j)<|q (ae j j)<|nl)<|us<|Go.ret (Unw.ret ?_)
  cases h
  exact fr ael j
theorem DV {p_0:(List af)} {r:Bool} (h:mP p_0=some r):FX 79 [.im 2 false [W 2 az p_0]] (B0 [(false,[.im 0 (V r)])]):=by
 unfold mP at h
 refine gn 93 Tryz.func79 rfl ?_
 refine gs<|g0 j j (q (ae j j)<|nl)<|us<|gs<|g0 j j (q (oMv j j)<|q (gB j j zD j)<|q (ae j j)<|nl)<|us<|gs<|gs<|?_
 obtain ⟨Oo,KL,h⟩:=bs h
 refine gX c79 j j j (mk [(0,D 2 (W 2 az p_0)),(3,iv (p_0.length:Int)),(21,bv Oo)] []) ?_ ?_
 ·refine xq (oMv j j)<|xq (oBi j j j j)<|xq (oMv j j)<|?_
  refine ic KL (fun hc1 KL=>?_) fun hc1 KL=>?_
  ·cases KL
   exact aj j j (ah.2 hc1) j<|aj j j (ah.2 hc1) j<|xq (bU j j (ah.2 hc1) j)<|xq (oMv j j)<|aj j j j j<|aj j j j j<|aj j j j j<|xq (bU j j j j)<|xn
  ·refine xqT j j (byF ah hc1) (oMv j j)<|xqT j j (byF ah hc1) (oBi j j j j)<|xq (dV j j (byF ah hc1) j)<|xq (oMv j j)<|?_
   refine ic KL (fun hc2 KL=>?_) fun hc2 KL=>?_
   ·cases KL
    exact aj j j (ah.2 hc2) j<|aj j j (ah.2 hc2) j<|aj j j (ah.2 hc2) j<|xq (bU j j (ah.2 hc2) j)<|xn
   ·obtain ⟨x19,y7,KL⟩:=bs KL
    cases KL
    exact xqT j j (byF ah hc2) (oMv j j)<|xqT j j (byF ah hc2) (oCa (xs:=[.v false [.im 2 _]]) (vs:=[(false,[.im 0 _])]) (v:=.v false [.im 0 _]) (EO y7) (.inl j) j Xl j (ppC j pp0) j j pb0 j j j)<|xqT j j (byF ah hc2) (oUn j j j)<|xq (dV j j (byF ah hc2) j)<|xn
 ·refine us<|gc h j iR (fun hc3 h=>?_) fun hc3 h=>?_
  ·refine gs<|g0 j j (q (ae j j)<|nl)<|us<|Go.ret (Unw.ret ?_)
   cases h
   exact fr aaT j
  ·refine Go.skip<|us<|gs<|gs<|g0 j j (q (oMv j j)<|q (gB j j zD j)<|q (oMv j j)<|nl)<|us<|Go.block<|?_
   obtain ⟨o,hl,h⟩:=bs h
   refine gl c79 j _ (fun (jP:Int)=>mk [(0,D 2 (W 2 az p_0)),(3,iv (p_0.length:Int)),(23,iv (p_0.length:Int)),(24,iv jP)] []) (fun (o:(Unit ⊕ Bool)) (p:Ex×St)=>match o with | (.inl _)=>p.1= .exit 0∧p.2.norm ([0],[])=mk [(0,D 2 (W 2 az p_0))] [] | (.inr r2)=>p.1= .ret∧fin Tryz.prog cfg 79 Tryz.f79 [.im 2 false [W 2 az p_0]] p.2=some (B0 [(false,[.im 0 (V r2)])])) hl (by kernel_rfl) ?_ ?_ ?_
   ·intro o p hp e
    rcases o with u | r2<;>exact nomatch (hp.1.symm.trans e)
   ·rintro jP o h
    unfold iy at h
    refine gs<|g0 j j (q (oBi j j j j)<|nl)<|us<|gs<|gc h j ah (fun kP h=>?_) fun kP h=>?_
    ·refine Go.skip<|us<|gs<|Go.block<|gs<|g0 j j (q (oMv j j)<|q (ae j j)<|nl)<|us<|gs<|?_
     obtain ⟨x29,hx29,h⟩:=bs h
     obtain ⟨x35,XJ,h⟩:=bs h
     obtain ⟨x36,FZ,h⟩:=bs h
     obtain ⟨x42,Qx,h⟩:=bs h
     obtain ⟨x43,Ls,h⟩:=bs h
     refine gd c79 j j j j (mk [(0,D 2 (W 2 az p_0)),(3,iv (p_0.length:Int)),(4,iv jP),(5,M 5),(6,M 6),(7,M 7),(23,iv (p_0.length:Int)),(24,iv jP)] [(5,Oa (G 0 (aF x29))),(6,Oa (G 0 (aF x36))),(7,Oa (G 0 (aF x43)))]) (t j j (oMv j j)<|t j j (oMv j j)<|t j j (fU j hx29 pF j j)<|t j j (oLd (cs:=[.im 2 _,.im 2 _]) j aJ j j)<|t j j (oMv j j)<|t j j (oMv j j)<|t j j (oBi j j j j)<|t j j (oMv j j)<|t j j (FK j XJ j j)<|t j j (fU j FZ pF j j)<|t j j (oLd (cs:=[.im 2 _,.im 2 _]) j aJ j j)<|t j j (oMv j j)<|t j j (oMv j j)<|t j j (oBi j j j j)<|t j j (oMv j j)<|t j j (FK j Qx j j)<|t j j (fU j Ls pF j j)<|t j j (oLd (cs:=[.im 2 _,.im 2 _]) j aJ j j)<|sF (dN z79 j (oAl j aJ (tkI (tkI tk0)))) trivial (sF (dN z79 j (oAl j aJ (tkI (tkI tk0)))) trivial (sS (dN z79 j (oAl j aJ (tkI (tkI tk0)))) trivial (sS (dN z79 j (oSt aJ j j j (tkI (tkI tk0)) j j j)) trivial (sS (dN z79 j (oSt aJ j j j (tkI (tkI tk0)) j j j)) trivial (sS (dN z79 j (oSt aJ j j j (tkI (tkI tk0)) j j j)) trivial (sD (by kernel_rfl)))))) (sS (dN z79 j (oAl j aJ (tkI (tkI tk0)))) trivial (sS (dN z79 j (oAl j aJ (tkI (tkI tk0)))) trivial (sS (dN z79 j (oSt aJ j j j (tkI (tkI tk0)) j j j)) trivial (sS (dN z79 j (oSt aJ j j j (tkI (tkI tk0)) j j j)) trivial (sS (dN z79 j (oSt aJ j j j (tkI (tkI tk0)) j j j)) trivial (sD (by kernel_rfl)))))))) (sF (dN z79 j (oAl j aJ (tkI (tkI tk0)))) trivial (sF (dN z79 j (oAl j aJ (tkI (tkI tk0)))) trivial (sS (dN z79 j (oAl j aJ (tkI (tkI tk0)))) trivial (sS (dN z79 j (oSt aJ j j j (tkI (tkI tk0)) j j j)) trivial (sS (dN z79 j (oSt aJ j j j (tkI (tkI tk0)) j j j)) trivial (sS (dN z79 j (oSt aJ j j j (tkI (tkI tk0)) j j j)) trivial (sD (by kernel_rfl)))))) (sS (dN z79 j (oAl j aJ (tkI (tkI tk0)))) trivial (sS (dN z79 j (oAl j aJ (tkI (tkI tk0)))) trivial (sS (dN z79 j (oSt aJ j j j (tkI (tkI tk0)) j j j)) trivial (sS (dN z79 j (oSt aJ j j j (tkI (tkI tk0)) j j j)) trivial (sS (dN z79 j (oSt aJ j j j (tkI (tkI tk0)) j j j)) trivial (sD (by kernel_rfl)))))))) (sS (dN z79 j (oAl j aJ (tkI (tkI tk0)))) trivial (sF (dN z79 j (oAl j aJ (tkI (tkI tk0)))) trivial (sS (dN z79 j (oAl j aJ (tkI (tkI tk0)))) trivial (sS (dN z79 j (oSt aJ j j j (tkI (tkI tk0)) j j j)) trivial (sS (dN z79 j (oSt aJ j j j (tkI (tkI tk0)) j j j)) trivial (sS (dN z79 j (oSt aJ j j j (tkI (tkI tk0)) j j j)) trivial (sD (by kernel_rfl)))))) (sS (dN z79 j (oAl j aJ (tkI (tkI tk0)))) trivial (sS (dN z79 j (oAl j aJ (tkI (tkI tk0)))) trivial (sS (dN z79 j (oSt aJ j j j (tkI (tkI tk0)) j j j)) trivial (sS (dN z79 j (oSt aJ j j j (tkI (tkI tk0)) j j j)) trivial (sS (dN z79 j (oSt aJ j j j (tkI (tkI tk0)) j j j)) trivial (sD (by kernel_rfl)))))))))))<|us<|gs<|gs<|?_
     obtain ⟨Om,Hu,h⟩:=bs h
     refine gX c79 j j j (mk [(0,D 2 (W 2 az p_0)),(3,iv (p_0.length:Int)),(4,iv jP),(5,M 5),(6,M 6),(23,iv (p_0.length:Int)),(24,iv jP),(59,bv Om)] [(5,Oa (G 0 (aF x29))),(6,Oa (G 0 (aF x36)))]) ?_ ?_
     ·refine xq (oLd (cs:=[.im 0 _,.im 0 _]) j aJ j j)<|xq (oLd (cs:=[.im 0 _,.im 0 _]) j aJ j j)<|xq (oBa j (Uj x29.X x29.Y x36.X x36.Y) j j j j)<|xq (oMv j j)<|?_
      refine ic Hu (fun hc31 Hu=>?_) fun hc31 Hu=>?_
      ·cases Hu
       exact aj j j ((xE iEq iEq).2 hc31) j<|aj j j ((xE iEq iEq).2 hc31) j<|aj j j ((xE iEq iEq).2 hc31) j<|aj j j ((xE iEq iEq).2 hc31) j<|xq (bU j j ((xE iEq iEq).2 hc31) j)<|xq (oMv j j)<|aj j j j j<|aj j j j j<|aj j j j j<|aj j j j j<|xq (bU j j j j)<|xn
      ·obtain ⟨x52,XK,Hu⟩:=bs Hu
       refine xqT j j (byF (xE iEq iEq) hc31) (oLd (cs:=[.im 0 _,.im 0 _]) j aJ j j)<|xqT j j (byF (xE iEq iEq) hc31) (oLd (cs:=[.im 0 _,.im 0 _]) j aJ j j)<|xqT j j (byF (xE iEq iEq) hc31) (oLd (cs:=[.im 0 _,.im 0 _]) j aJ j j)<|xqT j j (byF (xE iEq iEq) hc31) (oCa (xs:=[.v true [.im 0 _,.im 0 _],.v true [.im 0 _,.im 0 _],.v true [.im 0 _,.im 0 _]]) (vs:=[(false,[.im 0 _])]) (v:=.v false [.im 0 _]) (yu XK) (.inl j) j og j (ppC j (ppC j (ppC j pp0))) j j pb0 j j j)<|xq (dV j j (byF (xE iEq iEq) hc31) j)<|xq (oMv j j)<|?_
       refine ic Hu (fun hc32 Hu=>?_) fun hc32 Hu=>?_
       ·cases Hu
        exact aj j j (iR.2 hc32) j<|aj j j (iR.2 hc32) j<|aj j j (iR.2 hc32) j<|aj j j (iR.2 hc32) j<|xq (bU j j (iR.2 hc32) j)<|xn
       ·obtain ⟨x58,ag8,Hu⟩:=bs Hu
        cases Hu
        exact xqT j j (byF iR hc32) (oLd (cs:=[.im 0 _,.im 0 _]) j aJ j j)<|xqT j j (byF iR hc32) (oLd (cs:=[.im 0 _,.im 0 _]) j aJ j j)<|xqT j j (byF iR hc32) (oLd (cs:=[.im 0 _,.im 0 _]) j aJ j j)<|xqT j j (byF iR hc32) (oCa (xs:=[.v true [.im 0 _,.im 0 _],.v true [.im 0 _,.im 0 _],.v true [.im 0 _,.im 0 _]]) (vs:=[(false,[.im 0 _])]) (v:=.v false [.im 0 _]) (yu ag8) (.inl j) j og j (ppC j (ppC j (ppC j pp0))) j j pb0 j j j)<|xq (dV j j (byF iR hc32) j)<|xn
     ·refine us<|gc h j iR (fun vO h=>?_) fun vO h=>?_
      ·refine gs<|g0 j j (q (ae j j)<|nl)<|us<|Go.ret (Unw.ret ?_)
       cases h
       exact ⟨j,(fo aaT j)⟩
      ·refine Go.skip<|us<|gs<|g0 j j (q (oMv j j)<|q (oBi j j j j)<|q (ae j j)<|nl)<|us<|Go.block<|?_
       obtain ⟨o,hl,h⟩:=bs h
       refine gl c79 j _ (fun (yc:Int)=>mk [(0,D 2 (W 2 az p_0)),(3,iv (p_0.length:Int)),(4,iv jP),(5,M 5),(6,M 6),(8,iv yc),(23,iv (p_0.length:Int)),(24,iv jP)] [(5,Oa (G 0 (aF x29))),(6,Oa (G 0 (aF x36)))]) (fun (o:(Unit ⊕ Bool)) (p:Ex×St)=>match o with | (.inl _)=>p.1= .exit 2∧p.2.norm ([0,3,23,24],[])=mk [(0,D 2 (W 2 az p_0)),(3,iv (p_0.length:Int)),(23,iv (p_0.length:Int)),(24,iv jP)] [] | (.inr r2)=>p.1= .ret∧fin Tryz.prog cfg 79 Tryz.f79 [.im 2 false [W 2 az p_0]] p.2=some (B0 [(false,[.im 0 (V r2)])])) hl (by kernel_rfl) ?_ ?_ ?_
       ·intro o p hp e
        rcases o with u | r2<;>exact nomatch (hp.1.symm.trans e)
       ·rintro yc o h
        unfold gQ at h
        refine gs<|gs<|g0 j j (q (oMv j j)<|q (oMv j j)<|q (oBi j j j j)<|nl)<|us<|gc h j ah (fun ac8 h=>?_) fun ac8 h=>?_
        ·refine Go.skip<|us<|gs<|Go.block<|gs<|?_
         obtain ⟨x70,XH,h⟩:=bs h
         obtain ⟨J8,Hw,h⟩:=bs h
         refine gd c79 j j j j (mk [(0,D 2 (W 2 az p_0)),(3,iv (p_0.length:Int)),(4,iv jP),(5,M 5),(6,M 6),(8,iv yc),(23,iv (p_0.length:Int)),(24,iv jP),(88,bv J8)] [(5,Oa (G 0 (aF x29))),(6,Oa (G 0 (aF x36)))]) ?_ ?_
         ·refine t j j (oMv j j)<|t j j (oBi j j j j)<|t j j (oMv j j)<|t j j (FK j XH j j)<|t j j (oMv j j)<|t j j (oBi j j j j)<|t j j (oMv j j)<|?_
          refine ic Hw (fun tY Hw=>?_) fun tY Hw=>?_
          ·obtain ⟨x78,ag9,Hw⟩:=bs Hw
           obtain ⟨x84,aha,Hw⟩:=bs Hw
           obtain ⟨x85,XG,Hw⟩:=bs Hw
           obtain ⟨x87,ac9,Hw⟩:=bs Hw
           cases Hw
           exact tT j j j j (iNe.2 tY) (oLd (cs:=[.im 0 _,.im 0 _]) j aJ j j)<|tT j j j j (iNe.2 tY) (oLd (cs:=[.im 0 _,.im 0 _]) j aJ j j)<|tT j j j j (iNe.2 tY) (oMv j j)<|tT j j j j (iNe.2 tY) (oMv j j)<|tT j j j j (iNe.2 tY) (fU j ag9 pF j j)<|tT j j j j (iNe.2 tY) (oLd (cs:=[.im 2 _,.im 2 _]) j aJ j j)<|tT j j j j (iNe.2 tY) (oMv j j)<|tT j j j j (iNe.2 tY) (oMv j j)<|tT j j j j (iNe.2 tY) (oBi j j j j)<|tT j j j j (iNe.2 tY) (oMv j j)<|tT j j j j (iNe.2 tY) (FK j aha j j)<|tT j j j j (iNe.2 tY) (fU j XG pF j j)<|tT j j j j (iNe.2 tY) (oLd (cs:=[.im 2 _,.im 2 _]) j aJ j j)<|sS (dT z79 j j j (iNe.2 tY) (oCa (xs:=[.v true [.im 0 _,.im 0 _],.v true [.im 0 _,.im 0 _],.v true [.im 2 _,.im 2 _],.v true [.im 2 _,.im 2 _]]) (vs:=[(false,[.im 0 _])]) (v:=.v false [.im 0 _]) (IU ac9) (.inl j) j FT j (ppC j (ppC j (ppC j (ppC j pp0)))) j j pb0 j j j)) trivial (t j j (bU j j (iNe.2 tY) j)<|sD (by kernel_rfl))
          ·cases Hw
           exact tF j j j j (byF iNe tY) j<|tF j j j j (byF iNe tY) j<|tF j j j j (byF iNe tY) j<|tF j j j j (byF iNe tY) j<|tF j j j j (byF iNe tY) j<|tF j j j j (byF iNe tY) j<|tF j j j j (byF iNe tY) j<|tF j j j j (byF iNe tY) j<|tF j j j j (byF iNe tY) j<|tF j j j j (byF iNe tY) j<|tF j j j j (byF iNe tY) j<|tF j j j j (byF iNe tY) j<|tF j j j j (byF iNe tY) j<|sS (dF j j j (byF iNe tY) j) trivial (t j j (dV j j (byF iNe tY) j)<|sD (by kernel_rfl))
         ·refine us<|gc h j iR (fun ahb h=>?_) fun ahb h=>?_
          ·refine gs<|g0 j j (q (ae j j)<|nl)<|us<|Go.ret (Unw.ret ?_)
           cases h
           exact ⟨j,(fo aaT j)⟩
          ·refine Go.skip<|Unw.blk<|us<|g0 j j (q (oMv j j)<|q (oBi j j j j)<|q (ae j j)<|nl)<|Unw.nil<|?_
           cases h
           exact ⟨j,(by kernel_rfl)⟩
        ·refine Go.exit<|ux<|Unw.nil<|?_
         cases h
         exact ⟨j,(by kernel_rfl)⟩
       ·rintro ⟨e,st⟩ hp
        rcases o with u | r2
        ·dsimp only at h
         obtain ⟨he,hst⟩:=hp
         obtain rfl:e= .exit 2:=he
         refine Unw.iP<|Unw.blk<|us<|g2 c79 j j hst (q (oBi j j j j)<|q (oMv j j)<|nl)<|Unw.nil<|?_
         cases h
         exact ⟨j,(by kernel_rfl)⟩
        ·dsimp only at h
         obtain ⟨he,hfin⟩:=hp
         obtain rfl:e= .ret:=he
         cases h
         exact Unw.ret ⟨j,hfin⟩
    ·refine Go.exit<|ux<|Unw.nil<|?_
     cases h
     exact ⟨j,(by kernel_rfl)⟩
   ·rintro ⟨e,st⟩ hp
    rcases o with u | r2
    ·dsimp only at h
     obtain ⟨he,hst⟩:=hp
     obtain rfl:e= .exit 0:=he
     refine Unw.iP<|us<|gs<|?_
     obtain ⟨x91,hx91,h⟩:=bs h
     refine g2 c79 j j hst (q (oMv j j)<|q (oCa (xs:=[.v false [.im 2 _]]) (vs:=[(false,[.im 0 _])]) (v:=.v false [.im 0 _]) (KJ hx91) (.inl j) j Xm j (ppC j pp0) j j pb0 j j j)<|q (oBi j j j j)<|q (ae j j)<|nl)<|us<|Go.ret (Unw.ret ?_)
     cases h
     exact fr aaT j
    ·dsimp only at h
     obtain ⟨he,hfin⟩:=hp
     obtain rfl:e= .ret:=he
     cases h
     exact Unw.ret (gm hfin)
theorem DW {d_0:aA} {r:Bool} (h:mQ d_0=some r):FX 52 [.im 2 true (ak d_0)] (B0 [(false,[.im 0 (V r)])]):=by
 unfold mQ at h
 refine gn 106 Tryz.func52 rfl ?_
 refine gs<|g0 j j (q (oBx j Ar j (tkI (tkI (tkI (tkI tk0)))))<|q (ae j j)<|nl)<|us<|gs<|gs<|?_
 obtain ⟨x11,XE,h⟩:=bs h
 obtain ⟨Ot,EP,h⟩:=bs h
 refine gX c52 j j j (mk [(1,M 1),(30,bv Ot)] [(1,Oa (G 2 (ak d_0)))]) ?_ ?_
 ·refine xq (oFA (r':=.mp 1 0 0) j EG j j)<|xq (oLd (cs:=[.im 0 _]) j tF2 j j)<|xq (oCa (xs:=[.v false [.im 0 _],.v false [.im 0 _],.v false [.im 0 _]]) (vs:=[(false,[.im 0 _])]) (v:=.v false [.im 0 _]) (dA XE) (.inl j) j gu j (ppC j (ppC j (ppC j pp0))) j j pb0 j j j)<|xq (oUn j j j)<|xq (oMv j j)<|?_
  refine ic EP (fun hc1 EP=>?_) fun hc1 EP=>?_
  ·obtain ⟨x16,hx16,EP⟩:=bs EP
   refine xqT j j (nF (iR.2 hc1)) (oFA (r':=.mp 1 0 1) j CP j j)<|xqT j j (nF (iR.2 hc1)) (oLd (cs:=[.im 0 _]) j tF2 j j)<|xqT j j (nF (iR.2 hc1)) (oCa (xs:=[.v false [.im 0 _],.v false [.im 0 _],.v false [.im 0 _]]) (vs:=[(false,[.im 0 _])]) (v:=.v false [.im 0 _]) (dA hx16) (.inl j) j gu j (ppC j (ppC j (ppC j pp0))) j j pb0 j j j)<|xqT j j (nF (iR.2 hc1)) (oUn j j j)<|xq (dV j j (nF (iR.2 hc1)) j)<|xq (oMv j j)<|?_
   refine ic EP (fun hc2 EP=>?_) fun hc2 EP=>?_
   ·refine xqT j j (nF (iR.2 hc2)) (oFA (r':=.mp 1 0 2) j rE j j)<|xqT j j (nF (iR.2 hc2)) (oLd (cs:=[.im 2 _]) j DU j j)<|xqT j j (nF (iR.2 hc2)) (gB j j zD j)<|xqT j j (nF (iR.2 hc2)) (oBi j j j j)<|xq (dV j j (nF (iR.2 hc2)) j)<|xq (oMv j j)<|?_
    refine ic EP (fun hc3 EP=>?_) fun hc3 EP=>?_
    ·cases EP
     exact aj j j (ah.2 hc3) j<|aj j j (ah.2 hc3) j<|aj j j (ah.2 hc3) j<|aj j j (ah.2 hc3) j<|xq (bU j j (ah.2 hc3) j)<|xn
    ·cases EP
     exact xqT j j (byF ah hc3) (oFA (r':=.mp 1 0 3) j oK j j)<|xqT j j (byF ah hc3) (oLd (cs:=[.im 2 _]) j Bi j j)<|xqT j j (byF ah hc3) (gB j j Iu j)<|xqT j j (byF ah hc3) (oBi j j j j)<|xq (dV j j (byF ah hc3) j)<|xn
   ·cases EP
    exact aj j j (nT (byF iR hc2)) j<|aj j j (nT (byF iR hc2)) j<|aj j j (nT (byF iR hc2)) j<|aj j j (nT (byF iR hc2)) j<|xq (bU j j (nT (byF iR hc2)) j)<|xq (oMv j j)<|aj j j j j<|aj j j j j<|aj j j j j<|aj j j j j<|xq (bU j j j j)<|xn
  ·cases EP
   exact aj j j (nT (byF iR hc1)) j<|aj j j (nT (byF iR hc1)) j<|aj j j (nT (byF iR hc1)) j<|aj j j (nT (byF iR hc1)) j<|xq (bU j j (nT (byF iR hc1)) j)<|xq (oMv j j)<|aj j j j j<|aj j j j j<|aj j j j j<|aj j j j j<|xq (bU j j j j)<|xq (oMv j j)<|aj j j j j<|aj j j j j<|aj j j j j<|aj j j j j<|xq (bU j j j j)<|xn
 ·refine us<|gc h j iR (fun hc4 h=>?_) fun hc4 h=>?_
  ·refine gs<|g0 j j (q (ae j j)<|nl)<|us<|Go.ret (Unw.ret ?_)
   cases h
   exact fr Xy j
  ·refine Go.skip<|us<|gs<|gs<|g0 j j (q (oFA (r':=.mp 1 0 2) j rE j j)<|q (oLd (cs:=[.im 2 _]) j DU j j)<|q (gB j j zD j)<|q (oMv j j)<|nl)<|us<|Go.block<|?_
   obtain ⟨o,hl,h⟩:=bs h
   refine gl c52 j _ (fun (wC:Int)=>mk [(1,M 1),(32,D 2 (W 2 az d_0.bf)),(33,iv (d_0.bf.length:Int)),(34,iv wC)] [(1,Oa (G 2 (ak d_0)))]) (fun (o:(Unit ⊕ Bool)) (p:Ex×St)=>match o with | (.inl _)=>p.1= .exit 0∧p.2.norm ([1],[1])=mk [(1,M 1)] [(1,Oa (G 2 (ak d_0)))] | (.inr r2)=>p.1= .ret∧fin Tryz.prog cfg 52 Tryz.f52 [.im 2 true (ak d_0)] p.2=some (B0 [(false,[.im 0 (V r2)])])) hl (by kernel_rfl) ?_ ?_ ?_
   ·intro o p hp e
    rcases o with u | r2<;>exact nomatch (hp.1.symm.trans e)
   ·rintro wC o h
    unfold iZ at h
    refine gs<|g0 j j (q (oBi j j j j)<|nl)<|us<|gs<|gc h j ah (fun hc39 h=>?_) fun hc39 h=>?_
    ·refine Go.skip<|us<|gs<|Go.block<|gs<|?_
     obtain ⟨x37,ahc,h⟩:=bs h
     refine g0 j j (q (oMv j j)<|q (fU j ahc pF j j)<|q (oLd (cs:=[.im 2 _,.im 2 _]) j aJ j j)<|q (oAl j aJ (tkI (tkI tk0)))<|q (ae j j)<|q (oSt aJ j j j (tkI (tkI tk0)) j j j)<|nl)<|us<|gs<|?_
     obtain ⟨x43,Ls,h⟩:=bs h
     obtain ⟨Oq,ER,h⟩:=bs h
     refine gd c52 j j j (st1:=mk [(1,M 1),(3,iv wC),(4,M 4),(32,D 2 (W 2 az d_0.bf)),(33,iv (d_0.bf.length:Int)),(34,iv wC)] [(1,Oa (G 2 (ak d_0))),(4,Oa (G 0 (aF x37)))]) (by kernel_rfl) (mk [(1,M 1),(32,D 2 (W 2 az d_0.bf)),(33,iv (d_0.bf.length:Int)),(34,iv wC),(60,bv Oq)] [(1,Oa (G 2 (ak d_0)))]) ?_ ?_
     ·refine t j j (oFA (r':=.mp 4 0 0) j iF j j)<|t j j (oLd (cs:=[.im 0 _]) j tF2 j j)<|t j j (oFA (r':=.mp 1 0 0) j EG j j)<|?_
      refine ic ER (fun y8 ER=>?_) fun y8 ER=>?_
      ·obtain ⟨x50,Lt,ER⟩:=bs ER
       refine ic ER (fun qg ER=>?_) fun qg ER=>?_
       ·obtain ⟨x57,Vm,ER⟩:=bs ER
        obtain ⟨x59,ac1,ER⟩:=bs ER
        cases ER
        exact t j j (oLd (cs:=[.im 0 _]) j tF2 j j)<|sS (dN z52 j (oCa (xs:=[.v false [.im 0 _],.v false [.im 0 _],.v false [.im 0 _]]) (vs:=[(false,[.im 0 _])]) (v:=.v false [.im 0 _]) (dA Ls) (.inl j) j gu j (ppC j (ppC j (ppC j pp0))) j j pb0 j j j)) trivial (t j j (oUn j j j)<|t j j (oMv j j)<|tT j j j j (nF (iR.2 y8)) (oFA (r':=.mp 4 0 1) j iW j j)<|tT j j j j (nF (iR.2 y8)) (oLd (cs:=[.im 0 _]) j tF2 j j)<|tT j j j j (nF (iR.2 y8)) (oFA (r':=.mp 1 0 1) j CP j j)<|tT j j j j (nF (iR.2 y8)) (oLd (cs:=[.im 0 _]) j tF2 j j)<|sS (dT z52 j j j (nF (iR.2 y8)) (oCa (xs:=[.v false [.im 0 _],.v false [.im 0 _],.v false [.im 0 _]]) (vs:=[(false,[.im 0 _])]) (v:=.v false [.im 0 _]) (dA Lt) (.inl j) j gu j (ppC j (ppC j (ppC j pp0))) j j pb0 j j j)) trivial (tT j j j j (nF (iR.2 y8)) (oUn j j j)<|t j j (dV j j (nF (iR.2 y8)) j)<|t j j (oMv j j)<|tT j j j j (nF (iR.2 qg)) (oFA (r':=.mp 1 0 2) j rE j j)<|tT j j j j (nF (iR.2 qg)) (oLd (cs:=[.im 2 _]) j DU j j)<|tT j j j j (nF (iR.2 qg)) (oMv j j)<|sK (O:=[4]) j j j (dT z52 j j j (nF (iR.2 qg)) (oLd (cs:=[.im 0 _,.im 0 _]) j aJ j j))<|sS (dT z52 j j j (nF (iR.2 qg)) (afO j Vm pF j bn0 (bn1 j) j j)) (kY ⟨j,trivial⟩ trivial) (sS (dT z52 j j j (nF (iR.2 qg)) (oCa (xs:=[.v false [.im 2 _],.v true [.im 0 _,.im 0 _]]) (vs:=[(false,[.im 0 _])]) (v:=.v false [.im 0 _]) (qh ac1) (.inl j) j Sv j (ppC j (ppC j pp0)) j j pb0 j j j)) (kN j trivial) (t j j (dV j j (nF (iR.2 qg)) j)<|sD (by kernel_rfl)))))
       ·cases ER
        exact t j j (oLd (cs:=[.im 0 _]) j tF2 j j)<|sS (dN z52 j (oCa (xs:=[.v false [.im 0 _],.v false [.im 0 _],.v false [.im 0 _]]) (vs:=[(false,[.im 0 _])]) (v:=.v false [.im 0 _]) (dA Ls) (.inl j) j gu j (ppC j (ppC j (ppC j pp0))) j j pb0 j j j)) trivial (t j j (oUn j j j)<|t j j (oMv j j)<|tT j j j j (nF (iR.2 y8)) (oFA (r':=.mp 4 0 1) j iW j j)<|tT j j j j (nF (iR.2 y8)) (oLd (cs:=[.im 0 _]) j tF2 j j)<|tT j j j j (nF (iR.2 y8)) (oFA (r':=.mp 1 0 1) j CP j j)<|tT j j j j (nF (iR.2 y8)) (oLd (cs:=[.im 0 _]) j tF2 j j)<|sS (dT z52 j j j (nF (iR.2 y8)) (oCa (xs:=[.v false [.im 0 _],.v false [.im 0 _],.v false [.im 0 _]]) (vs:=[(false,[.im 0 _])]) (v:=.v false [.im 0 _]) (dA Lt) (.inl j) j gu j (ppC j (ppC j (ppC j pp0))) j j pb0 j j j)) trivial (tT j j j j (nF (iR.2 y8)) (oUn j j j)<|t j j (dV j j (nF (iR.2 y8)) j)<|t j j (oMv j j)<|tF j j j j (nT (byF iR qg)) j<|tF j j j j (nT (byF iR qg)) j<|tF j j j j (nT (byF iR qg)) j<|sK (O:=[4]) j j j (dF j j j (nT (byF iR qg)) j)<|sS (dF j j j (nT (byF iR qg)) j) (kY ⟨j,trivial⟩ trivial) (sS (dF j j j (nT (byF iR qg)) j) (kN j trivial) (t j j (bU j j (nT (byF iR qg)) j)<|sD (by kernel_rfl)))))
      ·cases ER
       exact t j j (oLd (cs:=[.im 0 _]) j tF2 j j)<|sS (dN z52 j (oCa (xs:=[.v false [.im 0 _],.v false [.im 0 _],.v false [.im 0 _]]) (vs:=[(false,[.im 0 _])]) (v:=.v false [.im 0 _]) (dA Ls) (.inl j) j gu j (ppC j (ppC j (ppC j pp0))) j j pb0 j j j)) trivial (t j j (oUn j j j)<|t j j (oMv j j)<|tF j j j j (nT (byF iR y8)) j<|tF j j j j (nT (byF iR y8)) j<|tF j j j j (nT (byF iR y8)) j<|tF j j j j (nT (byF iR y8)) j<|sS (dF j j j (nT (byF iR y8)) j) trivial (tF j j j j (nT (byF iR y8)) j<|t j j (bU j j (nT (byF iR y8)) j)<|t j j (oMv j j)<|tF j j j j j j<|tF j j j j j j<|tF j j j j j j<|sK (O:=[4]) j j j (dF j j j j j)<|sS (dF j j j j j) (kY ⟨j,trivial⟩ trivial) (sS (dF j j j j j) (kN j trivial) (t j j (bU j j j j)<|sD (by kernel_rfl)))))
     ·refine us<|gc h j iR (fun ac8 h=>?_) fun ac8 h=>?_
      ·refine gs<|g0 j j (q (ae j j)<|nl)<|us<|Go.ret (Unw.ret ?_)
       cases h
       exact ⟨j,(fo Xy j)⟩
      ·refine Go.skip<|Unw.blk<|us<|g0 j j (q (oBi j j j j)<|q (oMv j j)<|nl)<|Unw.nil<|?_
       cases h
       exact ⟨j,(by kernel_rfl)⟩
    ·refine Go.exit<|ux<|Unw.nil<|?_
     cases h
     exact ⟨j,(by kernel_rfl)⟩
   ·rintro ⟨e,st⟩ hp
    rcases o with u | r2
    ·dsimp only at h
     obtain ⟨he,hst⟩:=hp
     obtain rfl:e= .exit 0:=he
     refine Unw.iP<|us<|gs<|gs<|g2 c52 j j hst (q (oFA (r':=.mp 1 0 3) j oK j j)<|q (oLd (cs:=[.im 2 _]) j Bi j j)<|q (gB j j Iu j)<|q (oMv j j)<|nl)<|us<|Go.block<|?_
     obtain ⟨o,hl,h⟩:=bs h
     refine gl c52 j _ (fun (pg:Int)=>mk [(1,M 1),(63,D 2 (W 2 bM d_0.aC)),(64,iv (d_0.aC.length:Int)),(65,iv pg)] [(1,Oa (G 2 (ak d_0)))]) (fun (o:(Unit ⊕ Bool)) (p:Ex×St)=>match o with | (.inl _)=>p.1= .exit 2∧p.2.norm ([],[])=mk [] [] | (.inr r2)=>p.1= .ret∧fin Tryz.prog cfg 52 Tryz.f52 [.im 2 true (ak d_0)] p.2=some (B0 [(false,[.im 0 (V r2)])])) hl (by kernel_rfl) ?_ ?_ ?_
     ·intro o p hp e
      rcases o with u | r2<;>exact nomatch (hp.1.symm.trans e)
     ·rintro pg o h
      unfold iM at h
      refine gs<|g0 j j (q (oBi j j j j)<|nl)<|us<|gs<|gc h j ah (fun hc31 h=>?_) fun hc31 h=>?_
      ·refine Go.skip<|us<|gs<|Go.block<|gs<|?_
       obtain ⟨x68,ahd,h⟩:=bs h
       refine g0 j j (q (oMv j j)<|q (fU j ahd EH j j)<|q (oLd (cs:=[.im 2 _,.im 2 _]) j EI j j)<|q (oAl j EI (tkI (tkN tk0)))<|q (ae j j)<|q (oSt EI j j j (tkI (tkI tk0)) j j j)<|nl)<|us<|gs<|gs<|?_
       obtain ⟨x72,ada,h⟩:=bs h
       obtain ⟨J9,KN,h⟩:=bs h
       refine gd c52 j j j (st1:=mk [(1,M 1),(5,iv pg),(6,M 6),(63,D 2 (W 2 bM d_0.aC)),(64,iv (d_0.aC.length:Int)),(65,iv pg)] [(1,Oa (G 2 (ak d_0))),(6,Oa (G 2 (uZ x68)))]) (by kernel_rfl) (mk [(1,M 1),(6,M 6),(63,D 2 (W 2 bM d_0.aC)),(64,iv (d_0.aC.length:Int)),(65,iv pg),(89,bv J9)] [(1,Oa (G 2 (ak d_0))),(6,Oa (G 2 (uZ x68)))]) ?_ ?_
       ·refine t j j (oFA (r':=.mp 6 0 0) j zC j j)<|?_
        refine ic KN (fun hc32 KN=>?_) fun hc32 KN=>?_
        ·refine ic KN (fun vO KN=>?_) fun vO KN=>?_
         ·obtain ⟨x82,ahe,KN⟩:=bs KN
          cases KN
          exact t j j (oLd (cs:=[.im 0 _]) j tF9 j j)<|sS (dN z52 j (oCa (xs:=[.v false [.im 0 _]]) (vs:=[(false,[.im 0 _])]) (v:=.v false [.im 0 _]) (zG ada) (.inl j) j Sz j (ppC j pp0) j j pb0 j j j)) trivial (t j j (oUn j j j)<|t j j (oMv j j)<|tT j j j j (nF (iR.2 hc32)) (oMv j j)<|tT j j j j (nF (iR.2 hc32)) (oBi j j j j)<|tT j j j j (nF (iR.2 hc32)) (oMv j j)<|tT j j j j (ah.2 vO) (oFA (r':=.mp 1 0 3) j oK j j)<|tT j j j j (ah.2 vO) (oLd (cs:=[.im 2 _]) j Bi j j)<|tT j j j j (ah.2 vO) (oMv j j)<|tT j j j j (ah.2 vO) (oBi j j j j)<|tT j j j j (ah.2 vO) (fU j ahe EH j j)<|tT j j j j (ah.2 vO) (oFA (r':=.im 2 _) j zC j j)<|tT j j j j (ah.2 vO) (oLd (cs:=[.im 2 _]) j tF9 j j)<|tT j j j j (ah.2 vO) (oFA (r':=.mp 6 0 0) j zC j j)<|tT j j j j (ah.2 vO) (oLd (cs:=[.im 0 _]) j tF9 j j)<|tT j j j j (ah.2 vO) (oBi j j j j)<|tT j j j j (nF (iR.2 hc32)) (bU j j (ah.2 vO) j)<|t j j (dV j j (nF (iR.2 hc32)) j)<|sD (by kernel_rfl))
         ·cases KN
          exact t j j (oLd (cs:=[.im 0 _]) j tF9 j j)<|sS (dN z52 j (oCa (xs:=[.v false [.im 0 _]]) (vs:=[(false,[.im 0 _])]) (v:=.v false [.im 0 _]) (zG ada) (.inl j) j Sz j (ppC j pp0) j j pb0 j j j)) trivial (t j j (oUn j j j)<|t j j (oMv j j)<|tT j j j j (nF (iR.2 hc32)) (oMv j j)<|tT j j j j (nF (iR.2 hc32)) (oBi j j j j)<|tT j j j j (nF (iR.2 hc32)) (oMv j j)<|tF j j j j (byF ah vO) j<|tF j j j j (byF ah vO) j<|tF j j j j (byF ah vO) j<|tF j j j j (byF ah vO) j<|tF j j j j (byF ah vO) j<|tF j j j j (byF ah vO) j<|tF j j j j (byF ah vO) j<|tF j j j j (byF ah vO) j<|tF j j j j (byF ah vO) j<|tF j j j j (byF ah vO) j<|tT j j j j (nF (iR.2 hc32)) (dV j j (byF ah vO) j)<|t j j (dV j j (nF (iR.2 hc32)) j)<|sD (by kernel_rfl))
        ·cases KN
         exact t j j (oLd (cs:=[.im 0 _]) j tF9 j j)<|sS (dN z52 j (oCa (xs:=[.v false [.im 0 _]]) (vs:=[(false,[.im 0 _])]) (v:=.v false [.im 0 _]) (zG ada) (.inl j) j Sz j (ppC j pp0) j j pb0 j j j)) trivial (t j j (oUn j j j)<|t j j (oMv j j)<|tF j j j j (nT (byF iR hc32)) j<|tF j j j j (nT (byF iR hc32)) j<|tF j j j j (nT (byF iR hc32)) j<|sT j (dU j j j j)<|sT j (dU j j j j)<|sT j (dU j j j j)<|sT j (dU j j j j)<|sT j (dU j j j j)<|sT j (dU j j j j)<|sT j (dU j j j j)<|sT j (dU j j j j)<|sT j (dU j j j j)<|sT j (dU j j j j)<|tF j j j j (nT (byF iR hc32)) j<|t j j (bU j j (nT (byF iR hc32)) j)<|sD (by kernel_rfl))
       ·refine us<|gc h j iR (fun hc34 h=>?_) fun hc34 h=>?_
        ·refine gs<|g0 j j (q (ae j j)<|nl)<|us<|Go.ret (Unw.ret ?_)
         cases h
         exact ⟨j,(fo Xy j)⟩
        ·refine Go.skip<|us<|gs<|?_
         obtain ⟨x95,hx95,h⟩:=bs h
         refine g0 j j (q (oFA (r':=.mp 1 0 2) j rE j j)<|q (oLd (cs:=[.im 2 _]) j DU j j)<|q (oFA (r':=.mp 6 0 1) j Bg j j)<|q (oLd (cs:=[.im 2 _]) j oh j j)<|q (oCr (xs:=[.v false [.im 2 _],.v false [.im 2 _]]) (vs:=[(false,[.own 95 0 0]),(false,[.im 0 _])]) (v:=.tup [(false,[.own 95 0 0]),(false,[.im 0 _])]) (c:=⟨.sh,0,_⟩) (cs:=[]) (EN hx95) (.inl j) j SA j (ppC j (ppC j pp0)) j j pb0 j j j)<|q (NT j j)<|q (oEx j j j)<|q (oEx j j j)<|q (kC j j j j j)<|q (ae j j)<|nl)<|us<|gs<|?_
         obtain ⟨G5,Dk,h⟩:=bs h
         refine gX c52 j j j (mk [(1,M 1),(63,D 2 (W 2 bM d_0.aC)),(64,iv (d_0.aC.length:Int)),(65,iv pg),(104,bv G5)] [(1,Oa (G 2 (ak d_0)))]) ?_ ?_
         ·refine xq (oMv j j)<|xq (oUn j j j)<|xq (oMv j j)<|?_
          refine ic Dk (fun pW Dk=>?_) fun pW Dk=>?_
          ·obtain ⟨x102,hx102,Dk⟩:=bs Dk
           cases Dk
           exact xqT j j (nF (iR.2 pW)) (oMv j j)<|xqT j j (nF (iR.2 pW)) (oCa (xs:=[.v false [.own 7 0 0]]) (vs:=[(false,[.im 0 _])]) (v:=.v false [.im 0 _]) (DV hx102) (.inl j) j aaJ j (ppC j pp0) j j pb0 j j j)<|xqT j j (nF (iR.2 pW)) (oUn j j j)<|xq (dV j j (nF (iR.2 pW)) j)<|xn
          ·cases Dk
           exact aj j j (nT (byF iR pW)) j<|aj j j (nT (byF iR pW)) j<|aj j j (nT (byF iR pW)) j<|xq (bU j j (nT (byF iR pW)) j)<|xn
         ·refine us<|gc h j iR (fun XF h=>?_) fun XF h=>?_
          ·refine gs<|g0 j j (q (ae j j)<|nl)<|us<|Go.ret (Unw.ret ?_)
           cases h
           exact ⟨j,(fo Xy j)⟩
          ·refine Go.skip<|Unw.blk<|us<|g0 j j (q (oBi j j j j)<|q (oMv j j)<|nl)<|Unw.nil<|?_
           cases h
           exact ⟨j,(by kernel_rfl)⟩
      ·refine Go.exit<|ux<|Unw.nil<|?_
       cases h
       exact ⟨j,(by kernel_rfl)⟩
     ·rintro ⟨e,st⟩ hp
      rcases o with u | r2
      ·dsimp only at h
       obtain ⟨he,hst⟩:=hp
       obtain rfl:e= .exit 2:=he
       refine Unw.iP<|us<|gs<|g2 c52 j j hst (q (ae j j)<|nl)<|us<|Go.ret (Unw.ret ?_)
       cases h
       exact fr Xy j
      ·dsimp only at h
       obtain ⟨he,hfin⟩:=hp
       obtain rfl:e= .ret:=he
       cases h
       exact Unw.ret (gm hfin)
    ·dsimp only at h
     obtain ⟨he,hfin⟩:=hp
     obtain rfl:e= .ret:=he
     cases h
     exact Unw.ret (gm hfin)
theorem ES {jG:ByteArray} {r:(Int×Int×Int×Int)} (h:nV jG=some r):FX 124 [.im 2 false [Y jG]] (B0 [(false,[.im 0 (I r.1)]),(false,[.im 0 (I r.2.1)]),(false,[.im 0 (I r.2.2.1)]),(false,[.im 0 (I r.2.2.2)])]):=by
 unfold nV at h
 refine gn 27 Tryz.func124 rfl ?_
 refine gs<|g0 j j (q (ae j j)<|q (ae j j)<|q (ae j j)<|q (ae j j)<|nl)<|us<|gs<|gs<|g0 j j (q (oMv j j)<|nl)<|us<|Go.block<|gs<|g0 j j (q (oBi j j j j)<|q (ae j j)<|nl)<|us<|gc h j zu (fun hc1 h=>?_) fun hc1 h=>?_
 ·refine gs<|g0 j j (q (ae j j)<|q (ae j j)<|q (ae j j)<|q (ae j j)<|nl)<|us<|Go.ret (Unw.ret ?_)
  cases h
  exact fr CX j
 ·refine gs<|g0 j j (q (oBi j j j j)<|q (ae j j)<|nl)<|us<|gc h j zu (fun hc2 h=>?_) fun hc2 h=>?_
  ·refine gs<|g0 j j (q (ae j j)<|q (ae j j)<|q (ae j j)<|q (ae j j)<|nl)<|us<|Go.ret (Unw.ret ?_)
   cases h
   exact fr CX j
  ·refine gs<|g0 j j (q (oBi j j j j)<|q (ae j j)<|nl)<|us<|gc h j zu (fun hc3 h=>?_) fun hc3 h=>?_
   ·refine gs<|g0 j j (q (ae j j)<|q (ae j j)<|q (ae j j)<|q (ae j j)<|nl)<|us<|Go.ret (Unw.ret ?_)
    cases h
    exact fr CX j
   ·refine gs<|g0 j j (q (oBi j j j j)<|q (ae j j)<|nl)<|us<|gc h j zu (fun hc4 h=>?_) fun hc4 h=>?_
    ·refine gs<|g0 j j (q (ae j j)<|q (ae j j)<|q (ae j j)<|q (ae j j)<|nl)<|us<|Go.ret (Unw.ret ?_)
     cases h
     exact fr CX j
    ·refine gs<|g0 j j (q (oBi j j j j)<|q (ae j j)<|nl)<|us<|gc h j zu (fun hc5 h=>?_) fun hc5 h=>?_
     ·refine gs<|g0 j j (q (ae j j)<|q (ae j j)<|q (ae j j)<|q (ae j j)<|nl)<|us<|Go.ret (Unw.ret ?_)
      cases h
      exact fr CX j
     ·refine gs<|g0 j j (q (oBi j j j j)<|q (ae j j)<|nl)<|us<|gc h j zu (fun hc6 h=>?_) fun hc6 h=>?_
      ·refine gs<|g0 j j (q (ae j j)<|q (ae j j)<|q (ae j j)<|q (ae j j)<|nl)<|us<|Go.ret (Unw.ret ?_)
       cases h
       exact fr CX j
      ·refine gs<|g0 j j (q (oBi j j j j)<|q (ae j j)<|nl)<|us<|gc h j zu (fun hc7 h=>?_) fun hc7 h=>?_
       ·refine gs<|g0 j j (q (ae j j)<|q (ae j j)<|q (ae j j)<|q (ae j j)<|nl)<|us<|Go.ret (Unw.ret ?_)
        cases h
        exact fr CX j
       ·refine gs<|g0 j j (q (oBi j j j j)<|q (ae j j)<|nl)<|us<|gc h j zu (fun hc8 h=>?_) fun hc8 h=>?_
        ·refine gs<|g0 j j (q (ae j j)<|q (ae j j)<|q (ae j j)<|q (ae j j)<|nl)<|us<|Go.ret (Unw.ret ?_)
         cases h
         exact fr CX j
        ·refine gs<|g0 j j (q (oBi j j j j)<|q (ae j j)<|nl)<|us<|gc h j zu (fun hc9 h=>?_) fun hc9 h=>?_
         ·refine gs<|g0 j j (q (ae j j)<|q (ae j j)<|q (ae j j)<|q (ae j j)<|nl)<|us<|Go.ret (Unw.ret ?_)
          cases h
          exact fr CX j
         ·refine gs<|g0 j j (q (oBi j j j j)<|q (ae j j)<|nl)<|us<|gc h j zu (fun adb h=>?_) fun adb h=>?_
          ·refine gs<|g0 j j (q (ae j j)<|q (ae j j)<|q (ae j j)<|q (ae j j)<|nl)<|us<|Go.ret (Unw.ret ?_)
           cases h
           exact fr CX j
          ·refine Go.skip<|Unw.blk<|us<|gs<|g0 j j (q (ae j j)<|q (ae j j)<|q (ae j j)<|q (ae j j)<|nl)<|us<|Go.ret (Unw.ret ?_)
           cases h
           exact fr CX j
theorem DX {jG:ByteArray} {r:(Int×Bool)} (h:iK jG=some r):FX 106 [.im 2 false [Y jG]] (B0 [(false,[.im 0 (I r.1)]),(false,[.im 0 (V r.2)])]):=by
 unfold iK at h
 refine gn 18 Tryz.func106 rfl ?_
 refine gs<|g0 j j (q (ae j j)<|q (ae j j)<|nl)<|us<|gs<|?_
 obtain ⟨x10,Hl,h⟩:=bs h
 refine g0 j j (q (oMv j j)<|q (oCa (xs:=[.v false [.im 2 _]]) (vs:=[(false,[.im 0 _]),(false,[.im 0 _]),(false,[.im 0 _]),(false,[.im 0 _])]) (v:=.tup [(false,[.im 0 _]),(false,[.im 0 _]),(false,[.im 0 _]),(false,[.im 0 _])]) (ES Hl) (.inl j) j aap j (ppC j pp0) j j pb0 j j j)<|q (NT j j)<|q (oEx j j j)<|q (oEx j j j)<|q (oEx j j j)<|q (oEx j j j)<|q (ae j j)<|q (ae j j)<|q (ae j j)<|q (ae j j)<|nl)<|us<|gs<|g0 j j (q (oMv j j)<|q (oMv j j)<|q (oBi j j j j)<|q (ae j j)<|q (ae j j)<|nl)<|us<|Go.ret (Unw.ret ?_)
 cases h
 exact fr aem j
theorem ET {v_0:ai} {r:Bool} (h:jK v_0=some r):FX 82 [.im 2 true (iE v_0)] (B0 [(false,[.im 0 (V r)])]):=by
 unfold jK at h
 refine gn 29 Tryz.func82 rfl ?_
 refine gs<|g0 j j (q (oBx j CY j (tkI (tkI (tkI tk0))))<|q (ae j j)<|nl)<|us<|gs<|?_
 obtain ⟨x8,hx8,h⟩:=bs h
 refine g0 j j (q (oFA (r':=.mp 1 0 0) j G7 j j)<|q (oLd (cs:=[.im 0 _]) j tF9 j j)<|q (oCa (xs:=[.v false [.im 0 _]]) (vs:=[(false,[.im 0 _]),(false,[.im 0 _])]) (v:=.tup [(false,[.im 0 _]),(false,[.im 0 _])]) (DX hx8) (.inl j) j aao j (ppC j pp0) j j pb0 j j j)<|q (NT j j)<|q (oEx j j j)<|q (oEx j j j)<|q (ae j j)<|q (ae j j)<|nl)<|us<|gs<|?_
 obtain ⟨RH,hm4,h⟩:=bs h
 refine gX c82 j j j (mk [(2,bv RH)] []) ?_ ?_
 ·refine xq (oMv j j)<|xq (oMv j j)<|?_
  refine ic hm4 (fun hc1 hm4=>?_) fun hc1 hm4=>?_
  ·obtain ⟨x15,y5,hm4⟩:=bs hm4
   refine xqT j j (iR.2 hc1) (oFA (r':=.mp 1 0 1) j rF j j)<|xqT j j (iR.2 hc1) (oLd (cs:=[.im 0 _]) j tF2 j j)<|xqT j j (iR.2 hc1) (oCa (xs:=[.v false [.im 0 _],.v false [.im 0 _],.v false [.im 0 _]]) (vs:=[(false,[.im 0 _])]) (v:=.v false [.im 0 _]) (dA y5) (.inl j) j gu j (ppC j (ppC j (ppC j pp0))) j j pb0 j j j)<|xq (bU j j (iR.2 hc1) j)<|xq (oMv j j)<|?_
   refine ic hm4 (fun hc2 hm4=>?_) fun hc2 hm4=>?_
   ·obtain ⟨x22,F6,hm4⟩:=bs hm4
    refine xqT j j (iR.2 hc2) (oFA (r':=.mp 1 0 1) j rF j j)<|xqT j j (iR.2 hc2) (oLd (cs:=[.im 0 _]) j tF2 j j)<|xqT j j (iR.2 hc2) (oMv j j)<|xqT j j (iR.2 hc2) (oBi j j j j)<|xqT j j (iR.2 hc2) (oCa (xs:=[.v false [.im 0 _],.v false [.im 0 _],.v false [.im 0 _]]) (vs:=[(false,[.im 0 _])]) (v:=.v false [.im 0 _]) (dA F6) (.inl j) j gu j (ppC j (ppC j (ppC j pp0))) j j pb0 j j j)<|xq (bU j j (iR.2 hc2) j)<|xq (oMv j j)<|?_
    refine ic hm4 (fun hc3 hm4=>?_) fun hc3 hm4=>?_
    ·obtain ⟨x27,hx27,hm4⟩:=bs hm4
     cases hm4
     exact xqT j j (iR.2 hc3) (oFA (r':=.mp 1 0 2) j zB j j)<|xqT j j (iR.2 hc3) (oLd (cs:=[.im 0 _]) j tF2 j j)<|xqT j j (iR.2 hc3) (oCa (xs:=[.v false [.im 0 _],.v false [.im 0 _],.v false [.im 0 _]]) (vs:=[(false,[.im 0 _])]) (v:=.v false [.im 0 _]) (dA hx27) (.inl j) j gu j (ppC j (ppC j (ppC j pp0))) j j pb0 j j j)<|xq (bU j j (iR.2 hc3) j)<|xq (ae j j)<|xn
    ·cases hm4
     exact aj j j (byF iR hc3) j<|aj j j (byF iR hc3) j<|aj j j (byF iR hc3) j<|xq (dV j j (byF iR hc3) j)<|xq (ae j j)<|xn
   ·cases hm4
    exact aj j j (byF iR hc2) j<|aj j j (byF iR hc2) j<|aj j j (byF iR hc2) j<|aj j j (byF iR hc2) j<|aj j j (byF iR hc2) j<|xq (dV j j (byF iR hc2) j)<|xq (oMv j j)<|aj j j j j<|aj j j j j<|aj j j j j<|xq (dV j j j j)<|xq (ae j j)<|xn
  ·cases hm4
   exact aj j j (byF iR hc1) j<|aj j j (byF iR hc1) j<|aj j j (byF iR hc1) j<|xq (dV j j (byF iR hc1) j)<|xq (oMv j j)<|aj j j j j<|aj j j j j<|aj j j j j<|aj j j j j<|aj j j j j<|xq (dV j j j j)<|xq (oMv j j)<|aj j j j j<|aj j j j j<|aj j j j j<|xq (dV j j j j)<|xq (ae j j)<|xn
 ·refine us<|Go.ret (Unw.ret ?_)
  cases h
  exact fr agK j
theorem Bo {v_0:ai} {r:Bool} (h:iC v_0=some r):FX 81 [.im 2 true (iE v_0)] (B0 [(false,[.im 0 (V r)])]):=by
 unfold iC at h
 refine gn 6 Tryz.func81 rfl ?_
 refine gs<|g0 j j (q (oBx j CY j (tkI (tkI (tkI tk0))))<|q (ae j j)<|nl)<|us<|gs<|?_
 obtain ⟨x4,hx4,h⟩:=bs h
 refine g0 j j (q (oLd (cs:=[.im 0 _,.im 0 _,.im 0 _]) j CY j j)<|q (oCa (xs:=[.v true [.im 0 _,.im 0 _,.im 0 _]]) (vs:=[(false,[.im 0 _])]) (v:=.v false [.im 0 _]) (ET hx4) (.inl j) j aaL j (ppC j pp0) j j pb0 j j j)<|q (oUn j j j)<|q (ae j j)<|nl)<|us<|Go.ret (Unw.ret ?_)
 cases h
 exact fr agJ j
theorem nJ {s_0:(List ai)} {r:Int} (h:dW s_0 (fun b0=>iC b0)=some r):FX 105 [.im 2 false [W 3 au s_0],.im 2 false [.clo 81 []]] (B0 [(false,[.im 0 (I r)])]):=by
 unfold dW at h
 refine gn 19 Tryz.func105 rfl ?_
 refine gs<|g0 j j (q (ae j j)<|nl)<|us<|gs<|gs<|g0 j j (q (oMv j j)<|q (gB j j FY j)<|q (oMv j j)<|nl)<|us<|Go.block<|?_
 obtain ⟨o,hl,h⟩:=bs h
 refine gl c105 j _ (fun (eY:Int)=>mk [(0,D 2 (W 3 au s_0)),(1,D 2 (.clo 81 [])),(7,iv (s_0.length:Int)),(8,iv eY)] []) (fun (o:(Unit ⊕ Int)) (p:Ex×St)=>match o with | (.inl _)=>p.1= .exit 0∧p.2.norm ([],[])=mk [] [] | (.inr r2)=>p.1= .ret∧fin Tryz.prog cfg 105 Tryz.f105 [.im 2 false [W 3 au s_0],.im 2 false [.clo 81 []]] p.2=some (B0 [(false,[.im 0 (I r2)])])) hl (by kernel_rfl) ?_ ?_ ?_
 ·intro o p hp e
  rcases o with u | r2<;>exact nomatch (hp.1.symm.trans e)
 ·rintro eY o h
  unfold bY at h
  refine gs<|g0 j j (q (oBi j j j j)<|nl)<|us<|gs<|gc h j ah (fun hc5 h=>?_) fun hc5 h=>?_
  ·refine Go.skip<|us<|gs<|Go.block<|gs<|g0 j j (q (oMv j j)<|q (ae j j)<|nl)<|us<|gs<|?_
   obtain ⟨x14,ve,h⟩:=bs h
   obtain ⟨x16,hx16,h⟩:=bs h
   refine g0 j j (q (oMv j j)<|q (oMv j j)<|q (oMv j j)<|q (fU j ve G9 j j)<|q (oLd (cs:=[.im 2 _,.im 2 _,.im 2 _]) j CY j j)<|q (oCa (xs:=[.v true [.im 2 _,.im 2 _,.im 2 _]]) (vs:=[(false,[.im 0 _])]) (v:=.v false [.im 0 _]) (Bo hx16) (.inr ⟨_,_,j,j⟩) j aaK j (ppC j pp0) j j pb0 j j j)<|nl)<|us<|gc h j iR (fun hc6 h=>?_) fun hc6 h=>?_
   ·refine gs<|g0 j j (q (oMv j j)<|q (ae j j)<|nl)<|us<|Go.ret (Unw.ret ?_)
    cases h
    exact ⟨j,(fo abA j)⟩
   ·refine Go.skip<|Unw.blk<|us<|g0 j j (q (oBi j j j j)<|q (oMv j j)<|nl)<|Unw.nil<|?_
    cases h
    exact ⟨j,(by kernel_rfl)⟩
  ·refine Go.exit<|ux<|Unw.nil<|?_
   cases h
   exact ⟨j,(by kernel_rfl)⟩
 ·rintro ⟨e,st⟩ hp
  rcases o with u | r2
  ·dsimp only at h
   obtain ⟨he,hst⟩:=hp
   obtain rfl:e= .exit 0:=he
   refine Unw.iP<|us<|gs<|g2 c105 j j hst (q (ae j j)<|nl)<|us<|Go.ret (Unw.ret ?_)
   cases h
   exact fr abA j
  ·dsimp only at h
   obtain ⟨he,hfin⟩:=hp
   obtain rfl:e= .ret:=he
   cases h
   exact Unw.ret (gm hfin)
theorem lZ {s_0:(List ai)} {r:Bool} (h:dH s_0 (fun b0=>iC b0)=some r):FX 80 [.im 2 false [W 3 au s_0],.im 2 false [.clo 81 []]] (B0 [(false,[.im 0 (V r)])]):=by
 unfold dH at h
 refine gn 9 Tryz.func80 rfl ?_
 refine gs<|g0 j j (q (ae j j)<|nl)<|us<|gs<|?_
 obtain ⟨x7,hx7,h⟩:=bs h
 refine g0 j j (q (oMv j j)<|q (oMv j j)<|q (oCa (xs:=[.v false [.im 2 _],.v false [.im 2 _]]) (vs:=[(false,[.im 0 _])]) (v:=.v false [.im 0 _]) (nJ hx7) (.inl j) j OA j (ppC j (ppC j pp0)) j j pb0 j j j)<|q (oBi j j j j)<|q (ae j j)<|nl)<|us<|Go.ret (Unw.ret ?_)
 cases h
 exact fr agI j
theorem DY {bV:(List ai)} {r:Bool} (h:mV bV=some r):FX 53 [.im 2 false [W 3 au bV]] (B0 [(false,[.im 0 (V r)])]):=by
 unfold mV at h
 refine gn 6 Tryz.func53 rfl ?_
 refine gs<|g0 j j (q (ae j j)<|nl)<|us<|gs<|?_
 obtain ⟨x4,hx4,h⟩:=bs h
 refine g0 j j (q (oMv j j)<|q (oCa (xs:=[.v false [.im 2 _],.fn 81 []]) (vs:=[(false,[.im 0 _])]) (v:=.v false [.im 0 _]) (lZ hx4) (.inl j) j Qr j (ppC j (ppC j pp0)) j j pb0 j j j)<|q (oUn j j j)<|q (ae j j)<|nl)<|us<|Go.ret (Unw.ret ?_)
 cases h
 exact fr agv j
theorem DZ {d_0:aA} {aQ:(List ai)} {aO:Int} {bK:Int} {r:Int} (h:mW d_0 aQ aO bK=some r):FX 33 [.im 2 true (ak d_0),.im 2 false [W 3 au aQ],.im 2 false [I aO],.im 2 false [I bK]] (B0 [(false,[.im 0 (I r)])]):=by
 unfold mW at h
 refine gn 37 Tryz.func33 rfl ?_
 refine gs<|g0 j j (q (oBx j Ar j (tkI (tkI (tkI (tkI tk0)))))<|q (ae j j)<|nl)<|us<|gs<|Go.block<|gs<|?_
 obtain ⟨x11,XE,h⟩:=bs h
 obtain ⟨RI,hm8,h⟩:=bs h
 refine gX c33 j j j (mk [(1,D 2 (W 3 au aQ)),(2,iv aO),(3,iv bK),(9,bv RI)] []) ?_ ?_
 ·refine xq (oLd (cs:=[.im 0 _,.im 0 _,.im 2 _,.im 2 _]) j Ar j j)<|xq (oCa (xs:=[.v true [.im 0 _,.im 0 _,.im 2 _,.im 2 _]]) (vs:=[(false,[.im 0 _])]) (v:=.v false [.im 0 _]) (DW XE) (.inl j) j aaA j (ppC j pp0) j j pb0 j j j)<|xq (oUn j j j)<|xq (oMv j j)<|?_
  refine ic hm8 (fun hc1 hm8=>?_) fun hc1 hm8=>?_
  ·obtain ⟨x15,y5,hm8⟩:=bs hm8
   cases hm8
   exact xqT j j (nF (iR.2 hc1)) (oMv j j)<|xqT j j (nF (iR.2 hc1)) (oCa (xs:=[.v false [.im 2 _]]) (vs:=[(false,[.im 0 _])]) (v:=.v false [.im 0 _]) (DY y5) (.inl j) j aaB j (ppC j pp0) j j pb0 j j j)<|xqT j j (nF (iR.2 hc1)) (oUn j j j)<|xq (dV j j (nF (iR.2 hc1)) j)<|xq (ae j j)<|xn
  ·cases hm8
   exact aj j j (nT (byF iR hc1)) j<|aj j j (nT (byF iR hc1)) j<|aj j j (nT (byF iR hc1)) j<|xq (bU j j (nT (byF iR hc1)) j)<|xq (ae j j)<|xn
 ·refine us<|gc h j iR (fun hc2 h=>?_) fun hc2 h=>?_
  ·refine gs<|g0 j j (q (ae j j)<|nl)<|us<|Go.ret (Unw.ret ?_)
   cases h
   exact fr acP j
  ·refine gs<|?_
   obtain ⟨Ou,hm7,h⟩:=bs h
   refine gX c33 j j j (mk [(18,bv Ou)] []) ?_ ?_
   ·refine xq (oMv j j)<|xq (gB j j FY j)<|xq (oBi j j j j)<|xq (oMv j j)<|?_
    refine ic hm7 (fun hc3 hm7=>?_) fun hc3 hm7=>?_
    ·cases hm7
     exact aj j j (ah.2 hc3) j<|aj j j (ah.2 hc3) j<|aj j j (ah.2 hc3) j<|xq (bU j j (ah.2 hc3) j)<|xq (oMv j j)<|aj j j j j<|aj j j j j<|aj j j j j<|xq (bU j j j j)<|xq (oMv j j)<|aj j j j j<|aj j j j j<|aj j j j j<|xq (bU j j j j)<|xq (ae j j)<|xn
    ·refine xqT j j (byF ah hc3) (oMv j j)<|xqT j j (byF ah hc3) (gB j j FY j)<|xqT j j (byF ah hc3) (oBi j j j j)<|xq (dV j j (byF ah hc3) j)<|xq (oMv j j)<|?_
     refine ic hm7 (fun hc4 hm7=>?_) fun hc4 hm7=>?_
     ·cases hm7
      exact aj j j (ah.2 hc4) j<|aj j j (ah.2 hc4) j<|aj j j (ah.2 hc4) j<|xq (bU j j (ah.2 hc4) j)<|xq (oMv j j)<|aj j j j j<|aj j j j j<|aj j j j j<|xq (bU j j j j)<|xq (ae j j)<|xn
     ·obtain ⟨x29,hx29,hm7⟩:=bs hm7
      refine xqT j j (byF ah hc4) (oMv j j)<|xqT j j (byF ah hc4) (oCa (xs:=[.v false [.im 0 _],.v false [.im 0 _],.v false [.im 0 _]]) (vs:=[(false,[.im 0 _])]) (v:=.v false [.im 0 _]) (dA hx29) (.inl j) j gu j (ppC j (ppC j (ppC j pp0))) j j pb0 j j j)<|xqT j j (byF ah hc4) (oUn j j j)<|xq (dV j j (byF ah hc4) j)<|xq (oMv j j)<|?_
      refine ic hm7 (fun hc5 hm7=>?_) fun hc5 hm7=>?_
      ·obtain ⟨x34,hx34,hm7⟩:=bs hm7
       cases hm7
       exact xqT j j (nF (iR.2 hc5)) (oMv j j)<|xqT j j (nF (iR.2 hc5)) (oCa (xs:=[.v false [.im 0 _],.v false [.im 0 _],.v false [.im 0 _]]) (vs:=[(false,[.im 0 _])]) (v:=.v false [.im 0 _]) (dA hx34) (.inl j) j gu j (ppC j (ppC j (ppC j pp0))) j j pb0 j j j)<|xqT j j (nF (iR.2 hc5)) (oUn j j j)<|xq (dV j j (nF (iR.2 hc5)) j)<|xq (ae j j)<|xn
      ·cases hm7
       exact aj j j (nT (byF iR hc5)) j<|aj j j (nT (byF iR hc5)) j<|aj j j (nT (byF iR hc5)) j<|xq (bU j j (nT (byF iR hc5)) j)<|xq (ae j j)<|xn
   ·refine us<|gc h j iR (fun hc6 h=>?_) fun hc6 h=>?_
    ·refine gs<|g0 j j (q (ae j j)<|nl)<|us<|Go.ret (Unw.ret ?_)
     cases h
     exact fr acP j
    ·refine Go.skip<|Unw.blk<|us<|gs<|g0 j j (q (ae j j)<|nl)<|us<|Go.ret (Unw.ret ?_)
     cases h
     exact fr acP j
theorem Hy {kK:(List Int)} {r:(List aY)} (h:qB kK=some r):FX 55 [.im 2 false [W 1 eI kK]] (B0 [(false,[.ow 0 2 (List.map bT r)])]):=by
 unfold qB at h
 refine gn 35 Tryz.func55 rfl ?_
 refine gs<|g0 j j (q (vH j j agb)<|nl)<|us<|gs<|g0 j j (q (oBS (es:=List.map bT ([]:List aY)) j XB j pt0 (dX j fun _=>j))<|q (kC j j j j j)<|nl)<|us<|gs<|gs<|g0 j j (q (oMv j j)<|q (gB j j lX j)<|q (oMv j j)<|nl)<|us<|Go.block<|?_
 obtain ⟨o,hl,h⟩:=bs h
 refine gl c55 j _ (fun (s:(Int×(List aY)))=>match s with | (Bd,aV)=>mk [(0,D 2 (W 1 eI kK)),(3,H 3 0),(8,D 2 (W 1 eI kK)),(9,iv (kK.length:Int)),(10,iv Bd)] [(3,Oc [Z (W 2 bT aV)])]) (fun (bu:(List aY)) (p:Ex×St)=>p.1= .exit 0∧p.2.norm ([3],[3])=mk [(3,H 3 0)] [(3,Oc [Z (W 2 bT bu)])]) hl (by kernel_rfl) ?_ ?_ ?_
 ·intro o p hp e
  exact nomatch (hp.1.symm.trans e)
 ·rintro ⟨Bd,aV⟩ o h
  unfold mX at h
  dsimp only at h
  refine gs<|g0 j j (q (oBi j j j j)<|nl)<|us<|gs<|gc h j ah (fun hc3 h=>?_) fun hc3 h=>?_
  ·refine Go.skip<|us<|gs<|Go.block<|gs<|?_
   obtain ⟨x13,OE,h⟩:=bs h
   refine g0 j j (q (oMv j j)<|q (fU j OE fH j j)<|q (oLd (cs:=[.im 2 _]) j tF2 j j)<|q (ae j j)<|q (ae j j)<|nl)<|us<|gs<|?_
   obtain ⟨x20,yh,h⟩:=bs h
   obtain ⟨x21,IB,h⟩:=bs h
   refine g0 j j (q (oMv j j)<|q (oMv j j)<|q (oBi j j j j)<|q (oMv j j)<|q (gB j j lX j)<|q (FK j yh j j)<|q (fU j IB fH j j)<|q (oLd (cs:=[.im 2 _]) j tF2 j j)<|q (ae j j)<|nl)<|us<|?_
   obtain ⟨x32,hx32,h⟩:=bs h
   refine g0 j j (q (oMv j j)<|q (oMv j j)<|q (oMv j j)<|q (YI j j)<|q (oMv j j)<|q (oMv j j)<|q (WO j j)<|q (oBu (cs:=[.im 0 _,.im 0 _]) j aeg j)<|q (oBS (es:=List.map bT ([(⟨(min2 x13 x21),(max2 x13 x21)⟩:aY)]:List aY)) j XB j (ptC j (fxI (fxI fx0)) j pt0) (dX j fun _=>j))<|q (Ey (en:=bT) (M:=([(⟨(min2 x13 x21),(max2 x13 x21)⟩:aY)]:List aY)) j hx32 j XB j j acZ (.inl ⟨_,j⟩) j j j j (kH j j) (dX j fun _=>j))<|q (kC j j j j j)<|nl)<|Unw.blk<|us<|g0 j j (q (oBi j j j j)<|q (oMv j j)<|nl)<|Unw.nil<|?_
   cases h
   exact ⟨j,(by kernel_rfl)⟩
  ·refine Go.exit<|ux<|Unw.nil<|?_
   cases h
   exact ⟨j,(by kernel_rfl)⟩
 ·rintro ⟨e,st⟩ hp
  obtain ⟨bu,rfl⟩:∃y,y=o:=⟨o,rfl⟩
  obtain ⟨he,hst⟩:=hp
  obtain rfl:e= .exit 0:=he
  refine Unw.iP<|us<|gs<|g2 c55 j j hst (q (oMv j j)<|q (kC j j j j j)<|nl)<|us<|Go.ret (Unw.ret ?_)
  cases h
  exact fr agx j
theorem vS {s_0:(List aY)} {v_1:aY} {r:Int} (h:iT s_0 v_1=some r):FX 84 [.im 2 false [W 2 bT s_0],.im 2 true (vN v_1)] (B0 [(false,[.im 0 (I r)])]):=by
 unfold iT at h
 refine gn 19 Tryz.func84 rfl ?_
 refine gs<|g0 j j (q (oBx j Io j (tkI (tkI tk0)))<|q (ae j j)<|nl)<|us<|gs<|gs<|g0 j j (q (oMv j j)<|q (gB j j acZ j)<|q (oMv j j)<|nl)<|us<|Go.block<|?_
 obtain ⟨o,hl,h⟩:=bs h
 refine gl c84 j _ (fun (eY:Int)=>mk [(0,D 2 (W 2 bT s_0)),(3,M 3),(7,iv (s_0.length:Int)),(8,iv eY)] [(3,Oa (G 0 (vN v_1)))]) (fun (o:(Unit ⊕ Int)) (p:Ex×St)=>match o with | (.inl _)=>p.1= .exit 0∧p.2.norm ([],[])=mk [] [] | (.inr r2)=>p.1= .ret∧fin Tryz.prog cfg 84 Tryz.f84 [.im 2 false [W 2 bT s_0],.im 2 true (vN v_1)] p.2=some (B0 [(false,[.im 0 (I r2)])])) hl (by kernel_rfl) ?_ ?_ ?_
 ·intro o p hp e
  rcases o with u | r2<;>exact nomatch (hp.1.symm.trans e)
 ·rintro eY o h
  unfold fC at h
  refine gs<|g0 j j (q (oBi j j j j)<|nl)<|us<|gs<|gc h j ah (fun hc5 h=>?_) fun hc5 h=>?_
  ·refine Go.skip<|us<|gs<|Go.block<|gs<|g0 j j (q (oMv j j)<|q (ae j j)<|nl)<|us<|gs<|?_
   obtain ⟨x14,ve,h⟩:=bs h
   refine gd c84 j j j j (mk [(0,D 2 (W 2 bT s_0)),(3,M 3),(5,iv eY),(7,iv (s_0.length:Int)),(8,iv eY),(16,bv ((v_1.e0==x14.e0)&&(v_1.e1==x14.e1)))] [(3,Oa (G 0 (vN v_1)))]) (t j j (oLd (cs:=[.im 0 _,.im 0 _]) j Io j j)<|t j j (oMv j j)<|t j j (oMv j j)<|t j j (fU j ve XB j j)<|t j j (oLd (cs:=[.im 2 _,.im 2 _]) j Io j j)<|t j j (oBa j (acK v_1.e0 v_1.e1 x14.e0 x14.e1) j j j j)<|sD (by kernel_rfl))<|us<|gc h j (xE iEq iEq) (fun hc6 h=>?_) fun hc6 h=>?_
   ·refine gs<|g0 j j (q (oMv j j)<|q (ae j j)<|nl)<|us<|Go.ret (Unw.ret ?_)
    cases h
    exact ⟨j,(fo aeG j)⟩
   ·refine Go.skip<|Unw.blk<|us<|g0 j j (q (oBi j j j j)<|q (oMv j j)<|nl)<|Unw.nil<|?_
    cases h
    exact ⟨j,(by kernel_rfl)⟩
  ·refine Go.exit<|ux<|Unw.nil<|?_
   cases h
   exact ⟨j,(by kernel_rfl)⟩
 ·rintro ⟨e,st⟩ hp
  rcases o with u | r2
  ·dsimp only at h
   obtain ⟨he,hst⟩:=hp
   obtain rfl:e= .exit 0:=he
   refine Unw.iP<|us<|gs<|g2 c84 j j hst (q (ae j j)<|nl)<|us<|Go.ret (Unw.ret ?_)
   cases h
   exact fr aeG j
  ·dsimp only at h
   obtain ⟨he,hfin⟩:=hp
   obtain rfl:e= .ret:=he
   cases h
   exact Unw.ret (gm hfin)
theorem uz {s_0:(List aY)} {v_1:aY} {r:Bool} (h:fD s_0 v_1=some r):FX 58 [.im 2 false [W 2 bT s_0],.im 2 true (vN v_1)] (B0 [(false,[.im 0 (V r)])]):=by
 unfold fD at h
 refine gn 9 Tryz.func58 rfl ?_
 refine gs<|g0 j j (q (oBx j Io j (tkI (tkI tk0)))<|q (ae j j)<|nl)<|us<|gs<|?_
 obtain ⟨x7,hx7,h⟩:=bs h
 refine g0 j j (q (oMv j j)<|q (oLd (cs:=[.im 0 _,.im 0 _]) j Io j j)<|q (oCa (xs:=[.v false [.im 2 _],.v true [.im 0 _,.im 0 _]]) (vs:=[(false,[.im 0 _])]) (v:=.v false [.im 0 _]) (vS hx7) (.inl j) j Qu j (ppC j (ppC j pp0)) j j pb0 j j j)<|q (oBi j j j j)<|q (ae j j)<|nl)<|us<|Go.ret (Unw.ret ?_)
 cases h
 exact fr agA j
theorem Dl {e_0:aY} {Ov:(List (List aY))} {Ox:Int} {r:Bool} (h:iV e_0 Ov Ox=some r):FX 57 [.im 2 true (vN e_0),.im 2 false [.cp [W 1 (eL 2 bT) Ov] 0],.im 2 false [.cp [I Ox] 0]] (B0 [(false,[.im 0 (V r)])]):=by
 unfold iV at h
 refine gn 11 Tryz.func57 rfl ?_
 refine gs<|g0 j j (q (oBx j Io j (tkI (tkI tk0)))<|q (ae j j)<|nl)<|us<|gs<|?_
 obtain ⟨x7,hx7,h⟩:=bs h
 obtain ⟨x10,Hl,h⟩:=bs h
 refine gd c57 j j j j (mk [(4,bv x10)] []) (t j j (oLd (cs:=[.im 2 _]) j OD j j)<|t j j (oLd (cs:=[.im 2 _]) j tF3 j j)<|t j j (fU j hx7 XA j j)<|t j j (oLd (cs:=[.im 2 _]) j aeS j j)<|t j j (oLd (cs:=[.im 0 _,.im 0 _]) j Io j j)<|sS (dN z57 j (oCa (xs:=[.v false [.im 2 _],.v true [.im 0 _,.im 0 _]]) (vs:=[(false,[.im 0 _])]) (v:=.v false [.im 0 _]) (uz Hl) (.inl j) j Qq j (ppC j (ppC j pp0)) j j pb0 j j j)) trivial (sS (dN z57 j (ae j j)) trivial (sD (by kernel_rfl))))<|us<|Go.ret (Unw.ret ?_)
 cases h
 exact fr agz j
theorem qY {s_0:(List aY)} {Bq:(List (List aY))} {Bv:Int} {r:Int} (h:gW s_0 (fun b0=>iV b0 Bq Bv)=some r):FX 83 [.im 2 false [W 2 bT s_0],.im 2 false [.clo 57 [.cp [W 1 (eL 2 bT) Bq] 0,.cp [I Bv] 0]]] (B0 [(false,[.im 0 (I r)])]):=by
 unfold gW at h
 refine gn 19 Tryz.func83 rfl ?_
 refine gs<|g0 j j (q (ae j j)<|nl)<|us<|gs<|gs<|g0 j j (q (oMv j j)<|q (gB j j acZ j)<|q (oMv j j)<|nl)<|us<|Go.block<|?_
 obtain ⟨o,hl,h⟩:=bs h
 refine gl c83 j _ (fun (eY:Int)=>mk [(0,D 2 (W 2 bT s_0)),(1,D 2 (.clo 57 [.cp [W 1 (eL 2 bT) Bq] 0,.cp [I Bv] 0])),(7,iv (s_0.length:Int)),(8,iv eY)] []) (fun (o:(Unit ⊕ Int)) (p:Ex×St)=>match o with | (.inl _)=>p.1= .exit 0∧p.2.norm ([],[])=mk [] [] | (.inr r2)=>p.1= .ret∧fin Tryz.prog cfg 83 Tryz.f83 [.im 2 false [W 2 bT s_0],.im 2 false [.clo 57 [.cp [W 1 (eL 2 bT) Bq] 0,.cp [I Bv] 0]]] p.2=some (B0 [(false,[.im 0 (I r2)])])) hl (by kernel_rfl) ?_ ?_ ?_
 ·intro o p hp e
  rcases o with u | r2<;>exact nomatch (hp.1.symm.trans e)
 ·rintro eY o h
  unfold dO at h
  refine gs<|g0 j j (q (oBi j j j j)<|nl)<|us<|gs<|gc h j ah (fun hc5 h=>?_) fun hc5 h=>?_
  ·refine Go.skip<|us<|gs<|Go.block<|gs<|g0 j j (q (oMv j j)<|q (ae j j)<|nl)<|us<|gs<|?_
   obtain ⟨x14,ve,h⟩:=bs h
   obtain ⟨x16,hx16,h⟩:=bs h
   refine g0 j j (q (oMv j j)<|q (oMv j j)<|q (oMv j j)<|q (fU j ve XB j j)<|q (oLd (cs:=[.im 2 _,.im 2 _]) j Io j j)<|q (oCa (xs:=[.v true [.im 2 _,.im 2 _],.v false [.im 2 _],.v false [.im 2 _]]) (vs:=[(false,[.im 0 _])]) (v:=.v false [.im 0 _]) (Dl hx16) (.inr ⟨_,_,j,j⟩) j OB j (ppC j (ppC j (ppC j pp0))) j j pb0 j j j)<|nl)<|us<|gc h j iR (fun hc6 h=>?_) fun hc6 h=>?_
   ·refine gs<|g0 j j (q (oMv j j)<|q (ae j j)<|nl)<|us<|Go.ret (Unw.ret ?_)
    cases h
    exact ⟨j,(fo aeF j)⟩
   ·refine Go.skip<|Unw.blk<|us<|g0 j j (q (oBi j j j j)<|q (oMv j j)<|nl)<|Unw.nil<|?_
    cases h
    exact ⟨j,(by kernel_rfl)⟩
  ·refine Go.exit<|ux<|Unw.nil<|?_
   cases h
   exact ⟨j,(by kernel_rfl)⟩
 ·rintro ⟨e,st⟩ hp
  rcases o with u | r2
  ·dsimp only at h
   obtain ⟨he,hst⟩:=hp
   obtain rfl:e= .exit 0:=he
   refine Unw.iP<|us<|gs<|g2 c83 j j hst (q (ae j j)<|nl)<|us<|Go.ret (Unw.ret ?_)
   cases h
   exact fr aeF j
  ·dsimp only at h
   obtain ⟨he,hfin⟩:=hp
   obtain rfl:e= .ret:=he
   cases h
   exact Unw.ret (gm hfin)
theorem pX {s_0:(List aY)} {Bq:(List (List aY))} {Bv:Int} {r:Bool} (h:dP s_0 (fun b0=>iV b0 Bq Bv)=some r):FX 56 [.im 2 false [W 2 bT s_0],.im 2 false [.clo 57 [.cp [W 1 (eL 2 bT) Bq] 0,.cp [I Bv] 0]]] (B0 [(false,[.im 0 (V r)])]):=by
 unfold dP at h
 refine gn 9 Tryz.func56 rfl ?_
 refine gs<|g0 j j (q (ae j j)<|nl)<|us<|gs<|?_
 obtain ⟨x7,hx7,h⟩:=bs h
 refine g0 j j (q (oMv j j)<|q (oMv j j)<|q (oCa (xs:=[.v false [.im 2 _],.v false [.im 2 _]]) (vs:=[(false,[.im 0 _])]) (v:=.v false [.im 0 _]) (qY hx7) (.inl j) j Qs j (ppC j (ppC j pp0)) j j pb0 j j j)<|q (oBi j j j j)<|q (ae j j)<|nl)<|us<|Go.ret (Unw.ret ?_)
 cases h
 exact fr agy j
theorem Gf {d_0:aA} {r:(List (List Int))} (h:pq d_0=some r):FX 34 [.im 2 true (ak d_0)] (B0 [(false,[.im 0 (W 1 (eL 1 eI) r)])]):=by
 unfold pq at h
 refine gn 61 Tryz.func34 rfl ?_
 refine gs<|g0 j j (sqn z34 j (oBx j Ar j (tkI (tkI (tkI (tkI tk0)))))<|sqf z34 j (vH j j acv) (afQ j j j)<|nl)<|us<|gs<|g0 j j (sqn z34 j (oBS (es:=List.map (eL 2 bT) ([]:List (List aY))) j XA j pt0 (Ci j))<|sqn z34 j (oAl j OD (tkN tk0))<|sq0 (oSt OD j j j (tkO j j tk0) j j j)<|nl)<|us<|gs<|gs<|g1 j j (mk [(1,M 1),(3,M 3)] [(1,Oa (G 2 (ak d_0))),(3,Ob [Z (W 1 (eL 2 bT) ([]:List (List aY)))])]) (sqn z34 j (oFA (r':=.mp 1 0 3) j oK j j)<|sqn z34 j (oLd (cs:=[.im 2 _]) j Bi j j)<|sqn z34 j (gB j j Iu j)<|sqn z34 j (oMv j j)<|nl)<|us<|Go.block<|?_
 obtain ⟨o,hl,h⟩:=bs h
 refine gl c34 j _ (fun (s:(Int×(List (List aY))))=>match s with | (zn,uu)=>mk [(3,M 3),(11,D 2 (W 2 bM d_0.aC)),(12,iv (d_0.aC.length:Int)),(13,iv zn)] [(3,Ob [Z (W 1 (eL 2 bT) uu)])]) (fun (aS:(List (List aY))) (p:Ex×St)=>p.1= .exit 0∧p.2.norm ([3],[3])=mk [(3,M 3)] [(3,Ob [Z (W 1 (eL 2 bT) aS)])]) hl (by kernel_rfl) ?_ ?_ ?_
 ·intro o p hp e
  exact nomatch (hp.1.symm.trans e)
 ·rintro ⟨zn,uu⟩ o h
  unfold lQ at h
  dsimp only at h
  refine gs<|g0 j j (sqn z34 j (oBi j j j j)<|nl)<|us<|gs<|gc h j ah (fun hc38 h=>?_) fun hc38 h=>?_
  ·refine Go.skip<|us<|gs<|Go.block<|gs<|?_
   obtain ⟨x15,y5,h⟩:=bs h
   refine g0 j j (sqn z34 j (fU j y5 EH j j)<|sqn z34 j (oLd (cs:=[.im 2 _,.im 2 _]) j EI j j)<|sqn z34 j (oAl j EI (tkI (tkN tk0)))<|sq0 (oSt EI j j j (tkI (tkI tk0)) j j j)<|nl)<|us<|?_
   obtain ⟨x20,yh,h⟩:=bs h
   obtain ⟨x22,F6,h⟩:=bs h
   refine gd c34 j j j (st1:=mk [(3,M 3),(5,M 5),(11,D 2 (W 2 bM d_0.aC)),(12,iv (d_0.aC.length:Int)),(13,iv zn)] [(3,Ob [Z (W 1 (eL 2 bT) uu)]),(5,Oa (G 2 (uZ x15)))]) (by kernel_rfl) (mk [(3,M 3),(11,D 2 (W 2 bM d_0.aC)),(12,iv (d_0.aC.length:Int)),(13,iv zn)] [(3,Ob [Z (W 1 (eL 2 bT) x22)])]) (sT j (dNn z34 j j (oFA (r':=.mp 5 0 1) j Bg j j))<|sT j (dNn z34 j j (oLd (cs:=[.im 2 _]) j oh j j))<|sK (O:=[3]) j j j (dNn z34 j j (oLd (cs:=[.own 3 0 0]) j OD j j))<|sS (dNn z34 j j (oCr (xs:=[.v false [.im 2 _]]) (vs:=[(false,[.own 20 0 0])]) (v:=.v false [.own 20 0 0]) (c:=⟨.sh,0,_⟩) (cs:=[]) (Hy yh) (.inl j) j aaC j (ppC j pp0) j j pb0 j j j)) (kY ⟨j,trivial⟩ trivial) (sS (dNn z34 j j (oBS (es:=List.map (eL 2 bT) ([x20]:List (List aY))) j XA j (ptC j (fxO j j fx0) j pt0) (Ci j))) (kY ⟨j,trivial⟩ trivial) (sS (dNn z34 j j (Ey (en:=(eL 2 bT)) (M:=([x20]:List (List aY))) j F6 j XA j j aaY (.inl ⟨_,j⟩) j j j j (kH j j) (Ci j))) (kN j trivial) (sS (dN0 j (oSt OD j j j (tkO j j tk0) j j j)) (kN j trivial) (sD (by kernel_rfl))))))<|Unw.blk<|us<|g0 j j (sqn z34 j (oBi j j j j)<|sqn z34 j (oMv j j)<|nl)<|Unw.nil<|?_
   cases h
   exact ⟨j,(by kernel_rfl)⟩
  ·refine Go.exit<|ux<|Unw.nil<|?_
   cases h
   exact ⟨j,(by kernel_rfl)⟩
 ·rintro ⟨e,st⟩ hp
  obtain ⟨aS,rfl⟩:∃y,y=o:=⟨o,rfl⟩
  obtain ⟨he,hst⟩:=hp
  obtain rfl:e= .exit 0:=he
  refine Unw.iP<|us<|gs<|?_
  obtain ⟨x26,SE,h⟩:=bs h
  refine g2 c34 j j hst (sqn z34 j (oLd (cs:=[.own 3 0 0]) j OD j j)<|sqn z34 j (GM j j aaY j j j (fun e=>nomatch e))<|sqn z34 j (afN (en:=(eL 1 eI)) j SE j uy j j (fxN fx0) j (Ci j))<|sqn z34 j (ad6 j j j j j)<|nl)<|us<|gs<|gs<|g0 j j (sqn z34 j (oLd (cs:=[.own 3 0 0]) j OD j j)<|sqn z34 j (GM j j aaY j j j (fun e=>nomatch e))<|sqn z34 j (oMv j j)<|nl)<|us<|Go.block<|?_
  obtain ⟨o,hl,h⟩:=bs h
  refine gl c34 j _ (fun (s:(Int×(List (List Int))))=>match s with | (iU,Aq)=>mk [(3,M 3),(6,H 6 0),(28,iv (aS.length:Int)),(29,iv iU)] [(3,Ob [Z (W 1 (eL 2 bT) aS)]),(6,Oc [⟨.dp 0,0,0,W 1 (eL 1 eI) Aq⟩])]) (fun (zo:(List (List Int))) (p:Ex×St)=>p.1= .exit 2∧p.2.norm ([6],[6])=mk [(6,H 6 0)] [(6,Oc [⟨.dp 0,0,0,W 1 (eL 1 eI) zo⟩])]) hl (by kernel_rfl) ?_ ?_ ?_
  ·intro o p hp e
   exact nomatch (hp.1.symm.trans e)
  ·rintro ⟨iU,Aq⟩ o h
   unfold lN at h
   dsimp only at h
   refine gs<|g0 j j (sqn z34 j (oBi j j j j)<|nl)<|us<|gs<|gc h j ah (fun hc21 h=>?_) fun hc21 h=>?_
   ·refine Go.skip<|us<|gs<|Go.block<|gs<|g0 j j (sqn z34 j (oMv j j)<|sqn z34 j (ae j j)<|nl)<|us<|gs<|g0 j j (sqn z34 j (oLd (cs:=[.own 3 0 0]) j OD j j)<|sqn z34 j (GM j j aaY j j j (fun e=>nomatch e))<|sqn z34 j (oMv j j)<|nl)<|us<|Go.block<|?_
    obtain ⟨o,hl,h⟩:=bs h
    refine gl c34 j _ (fun (s:(Int×(List (List Int))))=>match s with | (ja,jL)=>mk [(3,M 3),(6,H 6 0),(7,iv iU),(28,iv (aS.length:Int)),(29,iv iU),(33,iv (aS.length:Int)),(34,iv ja)] [(3,Ob [Z (W 1 (eL 2 bT) aS)]),(6,Oc [⟨.dp 0,0,0,W 1 (eL 1 eI) jL⟩])]) (fun (yf:(List (List Int))) (p:Ex×St)=>p.1= .exit 4∧p.2.norm ([3,6,28,29],[3,6])=mk [(3,M 3),(6,H 6 0),(28,iv (aS.length:Int)),(29,iv iU)] [(3,Ob [Z (W 1 (eL 2 bT) aS)]),(6,Oc [⟨.dp 0,0,0,W 1 (eL 1 eI) yf⟩])]) hl (by kernel_rfl) ?_ ?_ ?_
    ·intro o p hp e
     exact nomatch (hp.1.symm.trans e)
    ·rintro ⟨ja,jL⟩ o h
     unfold kR at h
     dsimp only at h
     refine gs<|g0 j j (sqn z34 j (oBi j j j j)<|nl)<|us<|gs<|gc h j ah (fun kP h=>?_) fun kP h=>?_
     ·refine Go.skip<|us<|gs<|Go.join (fun st=>∃yL,kQ ja yL=some o∧st.norm ([3,6,7,28,29,33,34],[3,6])=mk [(3,M 3),(6,H 6 0),(7,iv iU),(28,iv (aS.length:Int)),(29,iv iU),(33,iv (aS.length:Int)),(34,iv ja)] [(3,Ob [Z (W 1 (eL 2 bT) aS)]),(6,Oc [⟨.dp 0,0,0,W 1 (eL 1 eI) yL⟩])]) ?_ ?_
      ·rintro st ⟨yL,h,hst⟩
       unfold kQ at h
       refine us<|g2 c34 j j hst (sqn z34 j (oBi j j j j)<|sqn z34 j (oMv j j)<|nl)<|Unw.nil<|?_
       cases h
       exact ⟨j,(by kernel_rfl)⟩
      ·intro K34
       refine Go.block<|gs<|g0 j j (sqn z34 j (oMv j j)<|sqn z34 j (oAl j tF3 (tkI tk0))<|sq0 (oSt tF3 j j j (tkI tk0) j j j)<|nl)<|us<|gs<|?_
       obtain ⟨Ko,Dk,h⟩:=bs h
       refine gX c34 j j (st1:=mk [(3,M 3),(6,H 6 0),(7,iv iU),(8,M 8),(28,iv (aS.length:Int)),(29,iv iU),(33,iv (aS.length:Int)),(34,iv ja)] [(3,Ob [Z (W 1 (eL 2 bT) aS)]),(6,Oc [⟨.dp 0,0,0,W 1 (eL 1 eI) jL⟩]),(8,Ob [C (I ja)])]) (by kernel_rfl) (mk [(3,M 3),(6,H 6 0),(7,iv iU),(8,M 8),(28,iv (aS.length:Int)),(29,iv iU),(33,iv (aS.length:Int)),(34,iv ja),(47,bv Ko)] [(3,Ob [Z (W 1 (eL 2 bT) aS)]),(6,Oc [⟨.dp 0,0,0,W 1 (eL 1 eI) jL⟩]),(8,Ob [C (I ja)])]) ?_ ?_
       ·refine UU z34 j (oMv j j)<|UU z34 j (oLd (cs:=[.im 0 _]) j tF3 j j)<|UU z34 j (oBi j j j j)<|UU z34 j (oMv j j)<|?_
        refine ic Dk (fun pW Dk=>?_) fun pW Dk=>?_
        ·obtain ⟨x43,Ls,Dk⟩:=bs Dk
         obtain ⟨x46,SI,Dk⟩:=bs Dk
         cases Dk
         exact MX z34 j j j (iNe.2 pW) (oLd (cs:=[.own 3 0 0]) j OD j j)<|MX z34 j j j (iNe.2 pW) (oMv j j)<|MX z34 j j j (iNe.2 pW) (zY j Ls XA j j j j)<|MX z34 j j j (iNe.2 pW) (Iq (cs:=[.im 0 _]) j aeS j j j j (eP Ls) j j)<|MX z34 j j j (iNe.2 pW) (oMF (rs:=[.mp 3 0 0,.mp 8 0 0]) j j)<|MX z34 j j j (iNe.2 pW) (oCa (xs:=[.v false [.im 0 _],.fn 57 [.mp 3 0 0,.mp 8 0 0]]) (vs:=[(false,[.im 0 _])]) (v:=.v false [.im 0 _]) (pX SI) (.inl j) j Qp j (ppC j (ppC j pp0)) j j pb0 j j j)<|UU z34 j (bU j j (iNe.2 pW) j)<|xn
        ·cases Dk
         exact aj j j (byF iNe pW) j<|aj j j (byF iNe pW) j<|aj j j (byF iNe pW) j<|aj j j (byF iNe pW) j<|aj j j (byF iNe pW) j<|aj j j (byF iNe pW) j<|UU z34 j (dV j j (byF iNe pW) j)<|xn
       ·refine us<|gc h j iR (fun XF h=>?_) fun XF h=>?_
        ·obtain ⟨x52,XK,h⟩:=bs h
         obtain ⟨x56,ac6,h⟩:=bs h
         obtain ⟨x57,Vm,h⟩:=bs h
         exact gd c34 j j j j (mk [(3,M 3),(6,H 6 0),(7,iv iU),(28,iv (aS.length:Int)),(29,iv iU),(33,iv (aS.length:Int)),(34,iv ja)] [(3,Ob [Z (W 1 (eL 2 bT) aS)]),(6,Oc [⟨.dp 0,0,0,W 1 (eL 1 eI) (jL.set iU.toNat x56)⟩])]) (sT j (dNn z34 j j (oMv j j))<|sT j (dNn z34 j j (oMv j j))<|sT j (dNn z34 j j (oMv j j))<|sT j (dNn z34 j j (oMv j j))<|sT j (dNn z34 j j (oLd (cs:=[.im 0 _]) j tF3 j j))<|sK (O:=[6]) j j j (dNn z34 j j (GR j XK uy j j j j (fun e=>nomatch e)))<|sK (O:=[6]) j j j (dNn z34 j j (ad7 (cs:=[.inr 6 0 0 _ 0 0]) j oh j j j (eP XK) j j))<|sS (dNn z34 j j (oBS (es:=List.map eI ([ja]:List Int)) j fH j (ptC j (fxI fx0) j pt0) (dX j fun _=>j))) (kY ⟨j,trivial⟩ (kY ⟨j,trivial⟩ trivial)) (sS (dNn z34 j j (JW (en:=eI) (M:=([ja]:List Int)) j ac6 j fH j j lX (.inl ⟨_,j⟩) j j j (eP XK) j j (kH j j) (dX j fun _=>j))) (kN j (kN j trivial)) (sT j (dNn z34 j j (GR j Vm uy j j j j (fun e=>nomatch e)))<|sS (dN0 j (JV (v':=x56) oh j j j j (tkO j j tk0) j j (eP Vm) j)) (kN j (kN j trivial)) (sD (by kernel_rfl)))))<|Unw.blk<|K34 _ ⟨(jL.set iU.toNat x56),h,(by kernel_rfl)⟩
        ·exact Go.skip<|Unw.blk<|K34 _ ⟨jL,h,(by kernel_rfl)⟩
     ·refine Go.exit<|ux<|Unw.nil<|?_
      cases h
      exact ⟨j,(by kernel_rfl)⟩
    ·rintro ⟨e,st⟩ hp
     obtain ⟨yf,rfl⟩:∃y,y=o:=⟨o,rfl⟩
     obtain ⟨he,hst⟩:=hp
     obtain rfl:e= .exit 4:=he
     refine Unw.iP<|Unw.blk<|us<|g2 c34 j j hst (sqn z34 j (oBi j j j j)<|sqn z34 j (oMv j j)<|nl)<|Unw.nil<|?_
     cases h
     exact ⟨j,(by kernel_rfl)⟩
   ·refine Go.exit<|ux<|Unw.nil<|?_
    cases h
    exact ⟨j,(by kernel_rfl)⟩
  ·rintro ⟨e,st⟩ hp
   obtain ⟨zo,rfl⟩:∃y,y=o:=⟨o,rfl⟩
   obtain ⟨he,hst⟩:=hp
   obtain rfl:e= .exit 2:=he
   refine Unw.iP<|us<|gs<|g2 c34 j j hst (sqn z34 j (oMv j j)<|sqf z34 j (ad6 j j j j j) (afR j j j)<|nl)<|us<|Go.ret (Unw.ret ?_)
   cases h
   exact fr agl j
theorem yT {s_0:(List Int)} {v_1:Int} {r:Int} (h:jQ s_0 v_1=some r):FX 87 [.im 2 false [W 1 eI s_0],.im 2 false [I v_1]] (B0 [(false,[.im 0 (I r)])]):=by
 unfold jQ at h
 refine gn 19 Tryz.func87 rfl ?_
 refine gs<|g0 j j (q (ae j j)<|nl)<|us<|gs<|gs<|g0 j j (q (oMv j j)<|q (gB j j lX j)<|q (oMv j j)<|nl)<|us<|Go.block<|?_
 obtain ⟨o,hl,h⟩:=bs h
 refine gl c87 j _ (fun (eY:Int)=>mk [(0,D 2 (W 1 eI s_0)),(1,iv v_1),(7,iv (s_0.length:Int)),(8,iv eY)] []) (fun (o:(Unit ⊕ Int)) (p:Ex×St)=>match o with | (.inl _)=>p.1= .exit 0∧p.2.norm ([],[])=mk [] [] | (.inr r2)=>p.1= .ret∧fin Tryz.prog cfg 87 Tryz.f87 [.im 2 false [W 1 eI s_0],.im 2 false [I v_1]] p.2=some (B0 [(false,[.im 0 (I r2)])])) hl (by kernel_rfl) ?_ ?_ ?_
 ·intro o p hp e
  rcases o with u | r2<;>exact nomatch (hp.1.symm.trans e)
 ·rintro eY o h
  unfold gY at h
  refine gs<|g0 j j (q (oBi j j j j)<|nl)<|us<|gs<|gc h j ah (fun hc5 h=>?_) fun hc5 h=>?_
  ·refine Go.skip<|us<|gs<|Go.block<|gs<|g0 j j (q (oMv j j)<|q (ae j j)<|nl)<|us<|gs<|?_
   obtain ⟨x14,ve,h⟩:=bs h
   refine g0 j j (q (oMv j j)<|q (oMv j j)<|q (oMv j j)<|q (fU j ve fH j j)<|q (oLd (cs:=[.im 2 _]) j tF2 j j)<|q (oBi j j j j)<|nl)<|us<|gc h j iEq (fun hc6 h=>?_) fun hc6 h=>?_
   ·refine gs<|g0 j j (q (oMv j j)<|q (ae j j)<|nl)<|us<|Go.ret (Unw.ret ?_)
    cases h
    exact ⟨j,(fo aeH j)⟩
   ·refine Go.skip<|Unw.blk<|us<|g0 j j (q (oBi j j j j)<|q (oMv j j)<|nl)<|Unw.nil<|?_
    cases h
    exact ⟨j,(by kernel_rfl)⟩
  ·refine Go.exit<|ux<|Unw.nil<|?_
   cases h
   exact ⟨j,(by kernel_rfl)⟩
 ·rintro ⟨e,st⟩ hp
  rcases o with u | r2
  ·dsimp only at h
   obtain ⟨he,hst⟩:=hp
   obtain rfl:e= .exit 0:=he
   refine Unw.iP<|us<|gs<|g2 c87 j j hst (q (ae j j)<|nl)<|us<|Go.ret (Unw.ret ?_)
   cases h
   exact fr aeH j
  ·dsimp only at h
   obtain ⟨he,hfin⟩:=hp
   obtain rfl:e= .ret:=he
   cases h
   exact Unw.ret (gm hfin)
theorem xw {s_0:(List Int)} {v_1:Int} {r:Bool} (h:fB s_0 v_1=some r):FX 62 [.im 2 false [W 1 eI s_0],.im 2 false [I v_1]] (B0 [(false,[.im 0 (V r)])]):=by
 unfold fB at h
 refine gn 9 Tryz.func62 rfl ?_
 refine gs<|g0 j j (q (ae j j)<|nl)<|us<|gs<|?_
 obtain ⟨x7,hx7,h⟩:=bs h
 refine g0 j j (q (oMv j j)<|q (oMv j j)<|q (oCa (xs:=[.v false [.im 2 _],.v false [.im 2 _]]) (vs:=[(false,[.im 0 _])]) (v:=.v false [.im 0 _]) (yT hx7) (.inl j) j Vf j (ppC j (ppC j pp0)) j j pb0 j j j)<|q (oBi j j j j)<|q (ae j j)<|nl)<|us<|Go.ret (Unw.ret ?_)
 cases h
 exact fr agC j
theorem Gg {a_0:Int} {b_1:Int} {r:(Int×Int)} (h:sU a_0 b_1=some r):FX 88 [.im 2 false [I a_0],.im 2 false [I b_1]] (B0 [(false,[.im 0 (I r.1)]),(false,[.im 0 (I r.2)])]):=by
 unfold sU at h
 refine gn 26 Tryz.func88 rfl ?_
 refine gs<|g0 j j (q (ae j j)<|q (ae j j)<|nl)<|us<|gs<|gs<|?_
 obtain ⟨x8,hx8,h⟩:=bs h
 obtain ⟨Oy,hm3,h⟩:=bs h
 refine gX c88 j j j (mk [(0,iv a_0),(1,iv b_1),(14,bv Oy)] []) ?_ ?_
 ·refine xq (oMv j j)<|xq (oCa (xs:=[.v false [.im 2 _],.v false [.im 0 _],.v false [.im 0 _]]) (vs:=[(false,[.im 0 _])]) (v:=.v false [.im 0 _]) (dA hx8) (.inl j) j gu j (ppC j (ppC j (ppC j pp0))) j j pb0 j j j)<|xq (oUn j j j)<|xq (oMv j j)<|?_
  refine ic hm3 (fun hc1 hm3=>?_) fun hc1 hm3=>?_
  ·obtain ⟨x12,zF,hm3⟩:=bs hm3
   cases hm3
   exact xqT j j (nF (iR.2 hc1)) (oMv j j)<|xqT j j (nF (iR.2 hc1)) (oCa (xs:=[.v false [.im 2 _],.v false [.im 0 _],.v false [.im 0 _]]) (vs:=[(false,[.im 0 _])]) (v:=.v false [.im 0 _]) (dA zF) (.inl j) j gu j (ppC j (ppC j (ppC j pp0))) j j pb0 j j j)<|xqT j j (nF (iR.2 hc1)) (oUn j j j)<|xq (dV j j (nF (iR.2 hc1)) j)<|xn
  ·cases hm3
   exact aj j j (nT (byF iR hc1)) j<|aj j j (nT (byF iR hc1)) j<|aj j j (nT (byF iR hc1)) j<|xq (bU j j (nT (byF iR hc1)) j)<|xn
 ·refine us<|gc h j iR (fun hc2 h=>?_) fun hc2 h=>?_
  ·refine gs<|g0 j j (q (ae j j)<|q (ae j j)<|nl)<|us<|Go.ret (Unw.ret ?_)
   cases h
   exact fr aeI j
  ·refine Go.skip<|us<|gs<|g0 j j (q (oMv j j)<|q (oMv j j)<|q (oBi j j j j)<|q (oMv j j)<|q (oMv j j)<|q (oBi j j j j)<|q (WO j j)<|q (ae j j)<|nl)<|us<|gs<|g0 j j (q (oMv j j)<|q (oMv j j)<|q (oBi j j j j)<|q (YI j j)<|q (ae j j)<|q (ae j j)<|nl)<|us<|Go.ret (Unw.ret ?_)
   cases h
   exact fr aeI j
theorem IV {a_0:ai} {b_1:ai} {r:Int} (h:sG a_0 b_1=some r):FX 63 [.im 2 true (iE a_0),.im 2 true (iE b_1)] (B0 [(false,[.im 0 (I r)])]):=by
 unfold sG at h
 refine gn 29 Tryz.func63 rfl ?_
 refine gs<|g0 j j (q (oBx j CY j (tkI (tkI (tkI tk0))))<|q (oBx j CY j (tkI (tkI (tkI tk0))))<|q (ae j j)<|nl)<|us<|gs<|?_
 obtain ⟨x12,zF,h⟩:=bs h
 refine g0 j j (q (oFA (r':=.mp 2 0 2) j zB j j)<|q (oLd (cs:=[.im 0 _]) j tF2 j j)<|q (oFA (r':=.mp 3 0 2) j zB j j)<|q (oLd (cs:=[.im 0 _]) j tF2 j j)<|q (oCa (xs:=[.v false [.im 0 _],.v false [.im 0 _]]) (vs:=[(false,[.im 0 _]),(false,[.im 0 _])]) (v:=.tup [(false,[.im 0 _]),(false,[.im 0 _])]) (Gg zF) (.inl j) j Xt j (ppC j (ppC j pp0)) j j pb0 j j j)<|q (NT j j)<|q (oEx j j j)<|q (oEx j j j)<|q (ae j j)<|q (ae j j)<|nl)<|us<|gs<|?_
 obtain ⟨x27,hx27,h⟩:=bs h
 refine g0 j j (q (oFA (r':=.mp 2 0 1) j rF j j)<|q (oLd (cs:=[.im 0 _]) j tF2 j j)<|q (oFA (r':=.mp 3 0 1) j rF j j)<|q (oLd (cs:=[.im 0 _]) j tF2 j j)<|q (oBi j j j j)<|q (oFA (r':=.mp 3 0 1) j rF j j)<|q (oLd (cs:=[.im 0 _]) j tF2 j j)<|q (oFA (r':=.mp 2 0 1) j rF j j)<|q (oLd (cs:=[.im 0 _]) j tF2 j j)<|q (oBi j j j j)<|q (WO j j)<|q (oMv j j)<|q (ace j hx27 j j)<|q (oBi j j j j)<|q (ae j j)<|nl)<|us<|Go.ret (Unw.ret ?_)
 cases h
 exact fr agD j
theorem zH {self:(aP×(List Int)×Int×Int)→Option ((List Int)×Int×aP)} (ih:∀{s_0:aP} {aZ:(List Int)} {aO:Int} {jk:Int} {r:((List Int)×Int×aP)},self (s_0,aZ,aO,jk)=some r→FX 35 [.ptr true [(.gone,W 1 (eL 1 eI) s_0.near),(.imm,W 3 au s_0.je),(.imm,I s_0.left)],.mv 1 (List.map eI aZ),.im 2 false [I aO],.im 2 false [I jk]] ([(false,[.ow 0 1 (List.map eI r.1)]),(false,[.im 0 (I r.2.1)])],[.ptr true [(.gone,W 1 (eL 1 eI) r.2.2.near),(.imm,W 3 au r.2.2.je),(.imm,I r.2.2.left)]])) {s_0:aP} {aZ:(List Int)} {aO:Int} {jk:Int} {r:((List Int)×Int×aP)} (h:eU self s_0 aZ aO jk=some r):FX 35 [.ptr true [(.gone,W 1 (eL 1 eI) s_0.near),(.imm,W 3 au s_0.je),(.imm,I s_0.left)],.mv 1 (List.map eI aZ),.im 2 false [I aO],.im 2 false [I jk]] ([(false,[.ow 0 1 (List.map eI r.1)]),(false,[.im 0 (I r.2.1)])],[.ptr true [(.gone,W 1 (eL 1 eI) r.2.2.near),(.imm,W 3 au r.2.2.je),(.imm,I r.2.2.left)]]):=by
 unfold eU at h
 refine AY (A:=[(0,M 0),(1,H 1 0),(2,D 2 (I aO)),(3,D 2 (I jk))]) (B:=[(0,Od [C (W 1 (eL 1 eI) s_0.near),Ct 1 (W 3 au s_0.je),C (I s_0.left)]),(1,Oc [Z (W 1 eI aZ)]),(2,none),(3,none)]) (nt:=124) rfl rfl Tryz.func35 rfl rfl rfl rfl ?_
 refine gs<|g0 j j (q (vH j j FQ)<|q (ae j j)<|nl)<|us<|gs<|g0 j j (q (oMv j j)<|q (GM j j lX j j j (fun e=>nomatch e))<|q (ae j j)<|nl)<|us<|gs<|gs<|g0 j j (q (oMv j j)<|q (oMv j j)<|q (oNl j j j)<|q (oFA (r':=.mp 0 0 0) j Xi j j)<|q (oLd (cs:=[.im 0 _]) j yZ j j)<|q (gB j j SB j)<|q (oBi j j j j)<|nl)<|us<|gc h j iEq (fun hc1 h=>?_) fun hc1 h=>?_
 ·refine gs<|g0 j j (q (oMv j j)<|q (kC j j j j j)<|q (ae j j)<|nl)<|us<|Go.ret (Unw.ret ?_)
  cases h
  exact fr aaP j
 ·refine Go.skip<|us<|gs<|?_
  obtain ⟨x29,hx29,h⟩:=bs h
  refine g0 j j (q (oMv j j)<|q (oCr (xs:=[.v false [.own 1 0 0]]) (vs:=[(false,[.own 29 0 0])]) (v:=.v false [.own 29 0 0]) (c:=⟨.sh,0,_⟩) (cs:=[]) (MW (en:=eI) (L:=aZ) j hx29 (fun _=>j)) (.inl j) j Ui j (ppC j pp0) j j pb0 j j j)<|q (kC j j j j j)<|nl)<|us<|gs<|?_
  obtain ⟨x31,hx31,h⟩:=bs h
  refine g0 j j (q (oMv j j)<|q (oCa (xs:=[.v false [.own 11 0 0]]) (vs:=[]) (v:=.tup []) (YP j hx31) (.inl j) j aaD j (ppC j pp0) j j (pbO j j j j pb0) j j j)<|nl)<|us<|gs<|?_
  obtain ⟨x33,XI,h⟩:=bs h
  refine g1 j j (mk [(0,M 0),(1,H 1 0),(2,iv aO),(3,iv jk),(10,iv (aZ.length:Int)),(11,H 11 0)] [(0,Od [C (W 1 (eL 1 eI) s_0.near),Ct 1 (W 3 au s_0.je),C (I s_0.left)]),(1,Oc [Z (W 1 eI aZ)]),(11,Oc [Z (W 1 eI x31)])]) (q (oMv j j)<|q (oCr (xs:=[.v false [.own 11 0 0]]) (vs:=[(false,[.own 33 0 0])]) (v:=.v false [.own 33 0 0]) (c:=⟨.sh,0,_⟩) (cs:=[]) (RF j XI) (.inl j) j aaE j (ppM (zX j j) pp0) j j pb0 j j j)<|q (kC j j j j j)<|nl)<|us<|gs<|gs<|g0 j j (q (oMv j j)<|q (oNl j j j)<|q (oFA (r':=.mp 0 0 1) j RP j j)<|q (oLd (cs:=[.im 1 _]) j acX j j)<|q (gB j j FY j)<|q (oMv j j)<|nl)<|us<|Go.block<|?_
  obtain ⟨o,hl,h⟩:=bs h
  refine gl c35 j _ (fun (s:(Int×(List (List Int))×(List ai)×Int))=>match s with | (gZ,jq,iH,jr)=>mk [(0,M 0),(1,H 1 0),(2,iv aO),(3,iv jk),(10,iv (aZ.length:Int)),(11,H 11 0),(38,iv (s_0.je.length:Int)),(39,iv gZ)] [(0,Od [C (W 1 (eL 1 eI) jq),Ct 1 (W 3 au iH),C (I jr)]),(1,Oc [Z (W 1 eI aZ)]),(11,Oc [Z (W 1 eI x33)])]) (fun (o:(((List (List Int))×(List ai)×Int) ⊕ ((List Int)×Int×aP))) (p:Ex×St)=>match o with | (.inl (xh,xk,xm))=>p.1= .exit 0∧p.2.norm ([],[0])=mk [] [(0,Od [C (W 1 (eL 1 eI) xh),Ct 1 (W 3 au xk),C (I xm)])] | (.inr r2)=>p.1= .ret∧fin Tryz.prog cfg 35 Tryz.f35 [.ptr true [(.gone,W 1 (eL 1 eI) s_0.near),(.imm,W 3 au s_0.je),(.imm,I s_0.left)],.mv 1 (List.map eI aZ),.im 2 false [I aO],.im 2 false [I jk]] p.2=some ([(false,[.ow 0 1 (List.map eI r2.1)]),(false,[.im 0 (I r2.2.1)])],[.ptr true [(.gone,W 1 (eL 1 eI) r2.2.2.near),(.imm,W 3 au r2.2.2.je),(.imm,I r2.2.2.left)]])) hl (by kernel_rfl) ?_ ?_ ?_
  ·intro o p hp e
   rcases o with ⟨xh,xk,xm⟩ | r2<;>exact nomatch (hp.1.symm.trans e)
  ·rintro ⟨gZ,jq,iH,jr⟩ o h
   unfold eu at h
   dsimp only at h
   refine gs<|g0 j j (q (oBi j j j j)<|nl)<|us<|gs<|gc h j ah (fun kP h=>?_) fun kP h=>?_
   ·refine Go.skip<|us<|gs<|Go.join (fun st=>∃yM,∃yN,∃yO,dQ self gZ yM yN yO=some o∧st.norm ([0,1,2,3,10,11,38,39],[0,1,11])=mk [(0,M 0),(1,H 1 0),(2,iv aO),(3,iv jk),(10,iv (aZ.length:Int)),(11,H 11 0),(38,iv (s_0.je.length:Int)),(39,iv gZ)] [(0,Od [C (W 1 (eL 1 eI) yM),Ct 1 (W 3 au yN),C (I yO)]),(1,Oc [Z (W 1 eI aZ)]),(11,Oc [Z (W 1 eI x33)])]) ?_ ?_
    ·rintro st ⟨yM,yN,yO,h,hst⟩
     unfold dQ at h
     refine us<|g2 c35 j j hst (q (oBi j j j j)<|q (oMv j j)<|nl)<|Unw.nil<|?_
     cases h
     exact ⟨j,(by kernel_rfl)⟩
    ·intro K44
     refine Go.block<|gs<|g0 j j (q (oMv j j)<|q (ae j j)<|nl)<|us<|gs<|gs<|?_
     obtain ⟨Kq,SL,h⟩:=bs h
     refine gX c35 j j j (mk [(0,M 0),(1,H 1 0),(2,iv aO),(3,iv jk),(10,iv (aZ.length:Int)),(11,H 11 0),(12,iv gZ),(38,iv (s_0.je.length:Int)),(39,iv gZ),(51,bv Kq)] [(0,Od [C (W 1 (eL 1 eI) jq),Ct 1 (W 3 au iH),C (I jr)]),(1,Oc [Z (W 1 eI aZ)]),(11,Oc [Z (W 1 eI x33)])]) ?_ ?_
     ·refine xq (oMv j j)<|xq (GM j j lX j j j (fun e=>nomatch e))<|xq (oMv j j)<|xq (oBi j j j j)<|xq (oMv j j)<|?_
      refine ic SL (fun Hq SL=>?_) fun Hq SL=>?_
      ·obtain ⟨x49,ac0,SL⟩:=bs SL
       cases SL
       exact xqT j j (ah.2 Hq) (oMv j j)<|xqT j j (ah.2 Hq) (oMv j j)<|xqT j j (ah.2 Hq) (oCa (xs:=[.v false [.own 11 0 0],.v false [.im 0 _]]) (vs:=[(false,[.im 0 _])]) (v:=.v false [.im 0 _]) (xw ac0) (.inl j) j Vb j (ppC j (ppC j pp0)) j j pb0 j j j)<|xqT j j (ah.2 Hq) (oUn j j j)<|xq (bU j j (ah.2 Hq) j)<|xn
      ·cases SL
       exact aj j j (byF ah Hq) j<|aj j j (byF ah Hq) j<|aj j j (byF ah Hq) j<|aj j j (byF ah Hq) j<|xq (dV j j (byF ah Hq) j)<|xn
     ·refine us<|gc h j iR (fun pG h=>?_) fun pG h=>?_
      ·exact Go.exit<|ux<|Unw.iP<|K44 _ ⟨jq,iH,jr,h,(by kernel_rfl)⟩
      ·refine Go.skip<|us<|gs<|g0 j j (q (ae j j)<|nl)<|us<|gs<|gs<|?_
       obtain ⟨x57,Vm,h⟩:=bs h
       refine g0 j j (q (oMv j j)<|q (oNl j j j)<|q (oFA (r':=.mp 0 0 0) j Xi j j)<|q (oLd (cs:=[.im 0 _]) j yZ j j)<|q (oMv j j)<|q (fU j Vm uy j j)<|q (oLd (cs:=[.im 0 _]) j oh j j)<|q (gB j j lX j)<|q (oMv j j)<|nl)<|us<|Go.block<|?_
       obtain ⟨o,hl,h⟩:=bs h
       refine gl c35 j _ (fun (s:(Bool×Int))=>match s with | (xg,yP)=>mk [(0,M 0),(1,H 1 0),(2,iv aO),(3,iv jk),(10,iv (aZ.length:Int)),(11,H 11 0),(12,iv gZ),(13,bv xg),(38,iv (s_0.je.length:Int)),(39,iv gZ),(58,D 0 (W 1 eI x57)),(59,iv (x57.length:Int)),(60,iv yP)] [(0,Od [C (W 1 (eL 1 eI) jq),Ct 1 (W 3 au iH),C (I jr)]),(1,Oc [Z (W 1 eI aZ)]),(11,Oc [Z (W 1 eI x33)])]) (fun (sH:Bool) (p:Ex×St)=>p.1= .exit 2∧p.2.norm ([0,1,2,3,10,11,12,13,38,39],[0,1,11])=mk [(0,M 0),(1,H 1 0),(2,iv aO),(3,iv jk),(10,iv (aZ.length:Int)),(11,H 11 0),(12,iv gZ),(13,bv sH),(38,iv (s_0.je.length:Int)),(39,iv gZ)] [(0,Od [C (W 1 (eL 1 eI) jq),Ct 1 (W 3 au iH),C (I jr)]),(1,Oc [Z (W 1 eI aZ)]),(11,Oc [Z (W 1 eI x33)])]) hl (by kernel_rfl) ?_ ?_ ?_
       ·intro o p hp e
        exact nomatch (hp.1.symm.trans e)
       ·rintro ⟨xg,yP⟩ o h
        unfold gI at h
        dsimp only at h
        refine gs<|g0 j j (q (oBi j j j j)<|nl)<|us<|gs<|gc h j ah (fun ahf h=>?_) fun ahf h=>?_
        ·refine Go.skip<|us<|gs<|Go.block<|gs<|?_
         obtain ⟨x62,ac5,h⟩:=bs h
         refine g0 j j (q (fU j ac5 fH j j)<|q (oLd (cs:=[.im 0 _]) j tF2 j j)<|q (ae j j)<|nl)<|us<|?_
         obtain ⟨CJ,Dn,h⟩:=bs h
         refine gd c35 j j j j (mk [(0,M 0),(1,H 1 0),(2,iv aO),(3,iv jk),(10,iv (aZ.length:Int)),(11,H 11 0),(12,iv gZ),(13,bv CJ),(38,iv (s_0.je.length:Int)),(39,iv gZ),(58,D 0 (W 1 eI x57)),(59,iv (x57.length:Int)),(60,iv yP)] [(0,Od [C (W 1 (eL 1 eI) jq),Ct 1 (W 3 au iH),C (I jr)]),(1,Oc [Z (W 1 eI aZ)]),(11,Oc [Z (W 1 eI x33)])]) ?_ ?_
         ·refine t j j (oMv j j)<|t j j (oMv j j)<|?_
          refine ic Dn (fun EU Dn=>?_) fun EU Dn=>?_
          ·refine tT j j j j (iR.2 EU) (oMv j j)<|tT j j j j (iR.2 EU) (oMv j j)<|tT j j j j (iR.2 EU) (oBi j j j j)<|tT j j j j (iR.2 EU) (oMv j j)<|?_
           refine ic Dn (fun nH Dn=>?_) fun nH Dn=>?_
           ·cases Dn
            exact tF j j j j (ah.2 nH) j<|tF j j j j (ah.2 nH) j<|tF j j j j (ah.2 nH) j<|tF j j j j (ah.2 nH) j<|tF j j j j (ah.2 nH) j<|tF j j j j (ah.2 nH) j<|tF j j j j (ah.2 nH) j<|tF j j j j (ah.2 nH) j<|tF j j j j (ah.2 nH) j<|tF j j j j (ah.2 nH) j<|tF j j j j (ah.2 nH) j<|tF j j j j (ah.2 nH) j<|tF j j j j (ah.2 nH) j<|tF j j j j (ah.2 nH) j<|tF j j j j (ah.2 nH) j<|tF j j j j (ah.2 nH) j<|tF j j j j (ah.2 nH) j<|tF j j j j (ah.2 nH) j<|sS (dF j j j (ah.2 nH) j) trivial (tF j j j j (ah.2 nH) j<|tT j j j j (iR.2 EU) (bU j j (ah.2 nH) j)<|t j j (bU j j (iR.2 EU) j)<|sS (dN z35 j (ae j j)) trivial (sD (by kernel_rfl)))
           ·obtain ⟨x75,ahg,Dn⟩:=bs Dn
            obtain ⟨x83,Vj,Dn⟩:=bs Dn
            obtain ⟨x85,XG,Dn⟩:=bs Dn
            obtain ⟨x87,ac9,Dn⟩:=bs Dn
            cases Dn
            exact tT j j j j (byF ah nH) (oMv j j)<|tT j j j j (byF ah nH) (oNl j j j)<|tT j j j j (byF ah nH) (oFA (r':=.mp 0 0 1) j RP j j)<|tT j j j j (byF ah nH) (oLd (cs:=[.im 1 _]) j acX j j)<|tT j j j j (byF ah nH) (oMv j j)<|tT j j j j (byF ah nH) (fU j ahg G9 j j)<|tT j j j j (byF ah nH) (oLd (cs:=[.im 1 _,.im 1 _,.im 1 _]) j CY j j)<|tT j j j j (byF ah nH) (oMv j j)<|tT j j j j (byF ah nH) (oNl j j j)<|tT j j j j (byF ah nH) (oFA (r':=.mp 0 0 1) j RP j j)<|tT j j j j (byF ah nH) (oLd (cs:=[.im 1 _]) j acX j j)<|tT j j j j (byF ah nH) (oMv j j)<|tT j j j j (byF ah nH) (oMv j j)<|tT j j j j (byF ah nH) (zY j Vj fH j j j j)<|tT j j j j (byF ah nH) (Iq (cs:=[.im 0 _]) j tF2 j j j j (eP Vj) j j)<|tT j j j j (byF ah nH) (fU j XG G9 j j)<|tT j j j j (byF ah nH) (oLd (cs:=[.im 1 _,.im 1 _,.im 1 _]) j CY j j)<|tT j j j j (byF ah nH) (oMv j j)<|sS (dT z35 j j j (byF ah nH) (oCa (xs:=[.v true [.im 1 _,.im 1 _,.im 1 _],.v true [.im 1 _,.im 1 _,.im 1 _]]) (vs:=[(false,[.im 0 _])]) (v:=.v false [.im 0 _]) (IV ac9) (.inl j) j Sj j (ppC j (ppC j pp0)) j j pb0 j j j)) trivial (tT j j j j (byF ah nH) (oBi j j j j)<|tT j j j j (iR.2 EU) (dV j j (byF ah nH) j)<|t j j (bU j j (iR.2 EU) j)<|sS (dN z35 j (ae j j)) trivial (sD (by kernel_rfl)))
          ·cases Dn
           exact tF j j j j (byF iR EU) j<|tF j j j j (byF iR EU) j<|tF j j j j (byF iR EU) j<|tF j j j j (byF iR EU) j<|sT j (dU j j j j)<|sT j (dU j j j j)<|sT j (dU j j j j)<|sT j (dU j j j j)<|sT j (dU j j j j)<|sT j (dU j j j j)<|sT j (dU j j j j)<|sT j (dU j j j j)<|sT j (dU j j j j)<|sT j (dU j j j j)<|sT j (dU j j j j)<|sT j (dU j j j j)<|sT j (dU j j j j)<|sT j (dU j j j j)<|sT j (dU j j j j)<|sT j (dU j j j j)<|sT j (dU j j j j)<|sT j (dU j j j j)<|sS (dU j j j j) trivial (sT j (dU j j j j)<|tF j j j j (byF iR EU) j<|t j j (dV j j (byF iR EU) j)<|sS (dN z35 j (ae j j)) trivial (sD (by kernel_rfl)))
         ·refine Unw.blk<|us<|g0 j j (q (oBi j j j j)<|q (oMv j j)<|nl)<|Unw.nil<|?_
          cases h
          exact ⟨j,(by kernel_rfl)⟩
        ·refine Go.exit<|ux<|Unw.nil<|?_
         cases h
         exact ⟨j,(by kernel_rfl)⟩
       ·rintro ⟨e,st⟩ hp
        obtain ⟨sH,rfl⟩:∃y,y=o:=⟨o,rfl⟩
        obtain ⟨he,hst⟩:=hp
        obtain rfl:e= .exit 2:=he
        refine Unw.iP<|us<|gs<|gs<|g2 c35 j j hst (q (oMv j j)<|q (oUn j j j)<|nl)<|us<|?_
        by_cases Vl:sH=true
        ·rw [if_pos Vl] at h
         refine gF j (nF (iR.2 Vl))<|Go.skip<|us<|gs<|gs<|g0 j j (q (oMv j j)<|q (oNl j j j)<|q (oFA (r':=.mp 0 0 2) j RQ j j)<|q (oLd (cs:=[.im 0 _]) j tF2 j j)<|q (oBi j j j j)<|nl)<|us<|gc h j iEq (fun ahh h=>?_) fun ahh h=>?_
         ·refine gs<|g0 j j (q (vH j j FQ)<|q (ae j j)<|nl)<|us<|Go.ret (Unw.ret ?_)
          cases h
          exact ⟨j,(fo aaP j)⟩
         ·refine Go.skip<|us<|gs<|g0 j j (q (oMv j j)<|q (oNl j j j)<|q (oFA (r':=.mp 0 0 2) j RQ j j)<|q (oLd (cs:=[.im 0 _]) j tF2 j j)<|q (oBi j j j j)<|q (oNl j j j)<|q (oFA (r':=.mp 0 0 2) j RQ j j)<|q (oSt tF2 j j j (tkI tk0) j j j)<|nl)<|us<|gs<|?_
          obtain ⟨aea,ae0,h⟩:=bs h
          obtain ⟨x113,hx113,h⟩:=bs h
          obtain ⟨yg,ae1,h⟩:=bs h
          refine g1 j j (mk [(0,M 0),(1,H 1 0),(2,iv aO),(3,iv jk),(10,iv (aZ.length:Int)),(11,H 11 0),(12,iv gZ),(38,iv (s_0.je.length:Int)),(39,iv gZ)] [(0,Od [C (W 1 (eL 1 eI) jq),Ct 1 (W 3 au iH),C (I (w64 (jr - 1)))]),(1,Oc [Z (W 1 eI aZ)]),(11,Oc [Z (W 1 eI x33)])]) (q (oMv j j)<|q (oMv j j)<|q (oCr (xs:=[.v false [.own 1 0 0]]) (vs:=[(false,[.own 110 0 0])]) (v:=.v false [.own 110 0 0]) (c:=⟨.sh,0,_⟩) (cs:=[]) (MW (en:=eI) (L:=aZ) j ae0 (fun _=>j)) (.inl j) j Ui j (ppC j pp0) j j pb0 j j j)<|q (oMv j j)<|q (oBS (es:=List.map eI ([gZ]:List Int)) j fH j (ptC j (fxI fx0) j pt0) (dX j fun _=>j))<|q (Ey (en:=eI) (M:=([gZ]:List Int)) j hx113 j fH j j lX (.inl ⟨_,j⟩) j j j j (kH j j) (dX j fun _=>j))<|q (oMv j j)<|q (oMv j j)<|q (oCr (xs:=[.v false [.mp 0 0 0],.v false [.own 113 0 0],.v false [.im 0 _],.v false [.im 0 _]]) (vs:=[(false,[.own 116 0 0]),(false,[.im 0 _])]) (v:=.tup [(false,[.own 116 0 0]),(false,[.im 0 _])]) (c:=⟨.sh,0,_⟩) (cs:=[]) (ih ae1) (.inl j) j CU j (ppP j j j (ppM (zX j j) (ppC j (ppC j pp0)))) j j (pbP j j pb0) j j j)<|q (NT j j)<|q (oEx j j j)<|q (oEx j j j)<|q (kC j j j j j)<|q (ae j j)<|nl)<|us<|gs<|g1 j j (mk [(0,M 0),(1,H 1 0),(2,iv aO),(3,iv jk),(10,iv (aZ.length:Int)),(11,H 11 0),(16,H 16 0),(17,iv yg.2.1),(38,iv (s_0.je.length:Int)),(39,iv gZ)] [(0,Od [C (W 1 (eL 1 eI) yg.2.2.near),Ct 1 (W 3 au yg.2.2.je),C (I yg.2.2.left)]),(1,Oc [Z (W 1 eI aZ)]),(11,Oc [Z (W 1 eI x33)]),(16,Oc [Z (W 1 eI yg.1)])]) (q (oMv j j)<|q (oBi j j j j)<|nl)<|us<|gc h j iNe (fun ahi h=>?_) fun ahi h=>?_
          ·refine gs<|g0 j j (q (oMv j j)<|q (oMv j j)<|q (kC j j j j j)<|q (ae j j)<|nl)<|us<|Go.ret (Unw.ret ?_)
           cases h
           exact ⟨j,(fo aaP j)⟩
          ·exact Go.skip<|Unw.blk<|K44 _ ⟨yg.2.2.near,yg.2.2.je,yg.2.2.left,h,(by kernel_rfl)⟩
        ·rw [if_neg Vl] at h
         exact gT j (nT (byF iR Vl))<|Go.exit<|ux<|Unw.iP<|K44 _ ⟨jq,iH,jr,h,(by kernel_rfl)⟩
   ·refine Go.exit<|ux<|Unw.nil<|?_
    cases h
    exact ⟨j,(by kernel_rfl)⟩
  ·rintro ⟨e,st⟩ hp
   rcases o with ⟨xh,xk,xm⟩ | r2
   ·dsimp only at h
    obtain ⟨he,hst⟩:=hp
    obtain rfl:e= .exit 0:=he
    refine Unw.iP<|us<|gs<|g2 c35 j j hst (q (vH j j FQ)<|q (ae j j)<|nl)<|us<|Go.ret (Unw.ret ?_)
    cases h
    exact fr aaP j
   ·dsimp only at h
    obtain ⟨he,hfin⟩:=hp
    obtain rfl:e= .ret:=he
    cases h
    exact Unw.ret (gm hfin)
theorem Bz {s_0:aP} {aZ:(List Int)} {aO:Int} {jk:Int} {r:((List Int)×Int×aP)} (h:jb s_0 aZ aO jk=some r):FX 35 [.ptr true [(.gone,W 1 (eL 1 eI) s_0.near),(.imm,W 3 au s_0.je),(.imm,I s_0.left)],.mv 1 (List.map eI aZ),.im 2 false [I aO],.im 2 false [I jk]] ([(false,[.ow 0 1 (List.map eI r.1)]),(false,[.im 0 (I r.2.1)])],[.ptr true [(.gone,W 1 (eL 1 eI) r.2.2.near),(.imm,W 3 au r.2.2.je),(.imm,I r.2.2.left)]]):=by
 unfold jb at h
 obtain ⟨n,hn⟩:=zW h
 clear h
 induction n generalizing s_0 aZ aO jk r with
 | zero=>cases hn
 | succ n ihn=>exact zH (self:=wG _ n) (fun h=>ihn h) hn
theorem xx {d_0:aA} {aQ:(List ai)} {aO:Int} {bK:Int} {r:((List Int)×Int)} (h:jM d_0 aQ aO bK=some r):FX 11 [.im 2 true (ak d_0),.im 2 false [W 3 au aQ],.im 2 false [I aO],.im 2 false [I bK]] (B0 [(false,[.ow 0 1 (List.map eI r.1)]),(false,[.im 0 (I r.2)])]):=by
 unfold jM at h
 refine gn 33 Tryz.func11 rfl ?_
 refine gs<|g0 j j (q (oBx j Ar j (tkI (tkI (tkI (tkI tk0)))))<|q (vH j j FQ)<|q (ae j j)<|nl)<|us<|gs<|gs<|?_
 obtain ⟨x16,hx16,h⟩:=bs h
 refine g0 j j (q (oLd (cs:=[.im 0 _,.im 0 _,.im 2 _,.im 2 _]) j Ar j j)<|q (oMv j j)<|q (oMv j j)<|q (oMv j j)<|q (oCa (xs:=[.v true [.im 0 _,.im 0 _,.im 2 _,.im 2 _],.v false [.im 2 _],.v false [.im 2 _],.v false [.im 2 _]]) (vs:=[(false,[.im 0 _])]) (v:=.v false [.im 0 _]) (DZ hx16) (.inl j) j Ky j (ppC j (ppC j (ppC j (ppC j pp0)))) j j pb0 j j j)<|q (ae j j)<|nl)<|us<|gs<|g0 j j (q (oMv j j)<|q (oBi j j j j)<|nl)<|us<|gc h j iNe (fun hc1 h=>?_) fun hc1 h=>?_
 ·refine gs<|g0 j j (q (oMv j j)<|q (vH j j FQ)<|q (ae j j)<|nl)<|us<|Go.ret (Unw.ret ?_)
  cases h
  exact fr aen j
 ·refine Go.skip<|us<|gs<|?_
  obtain ⟨x21,IB,h⟩:=bs h
  refine g0 j j (q (oLd (cs:=[.im 0 _,.im 0 _,.im 2 _,.im 2 _]) j Ar j j)<|q (oCa (xs:=[.v true [.im 0 _,.im 0 _,.im 2 _,.im 2 _]]) (vs:=[(false,[.im 0 _])]) (v:=.v false [.im 0 _]) (Gf IB) (.inl j) j aau j (ppC j pp0) j j pb0 j j j)<|q (oMv j j)<|q (oMv j j)<|q (oBu (cs:=[.im 0 _,.im 2 _,.im 2 _]) j af8 j)<|q (oBx j agV j (tkI (tkI (tkI tk0))))<|q (YH j j)<|nl)<|us<|gs<|?_
  obtain ⟨x30,Lr,h⟩:=bs h
  refine g0 j j (q (oMv j j)<|q (oMv j j)<|q (oMv j j)<|q (gB j j FY j)<|q (oCr (xs:=[.v false [.mp 25 0 0],.v false [.nil],.v false [.im 2 _],.v false [.im 0 _]]) (vs:=[(false,[.own 30 0 0]),(false,[.im 0 _])]) (v:=.tup [(false,[.own 30 0 0]),(false,[.im 0 _])]) (c:=⟨.sh,0,_⟩) (cs:=[]) (Bz Lr) (.inl j) j CU j (ppP j j j (ppM take_nil (ppC j (ppC j pp0)))) j j (pbP j j pb0) j j j)<|q (oEx j j j)<|q (oEx j j j)<|q (kC j j j j j)<|q (ae j j)<|nl)<|us<|Go.ret (Unw.ret ?_)
  cases h
  exact fr aen j
theorem sW {a_0:(List Int)} {b_1:(List Int)} {r:Bool} (h:jg a_0 b_1=some r):FX 12 [.im 2 false [W 1 eI a_0],.im 2 false [W 1 eI b_1]] (B0 [(false,[.im 0 (V r)])]):=by
 unfold jg at h
 refine gn 26 Tryz.func12 rfl ?_
 refine gs<|g0 j j (q (ae j j)<|nl)<|us<|gs<|gs<|g0 j j (q (oMv j j)<|q (gB j j lX j)<|q (oMv j j)<|q (gB j j lX j)<|q (oBi j j j j)<|nl)<|us<|gc h j iNe (fun hc1 h=>?_) fun hc1 h=>?_
 ·refine gs<|g0 j j (q (ae j j)<|nl)<|us<|Go.ret (Unw.ret ?_)
  cases h
  exact fr acL j
 ·refine Go.skip<|us<|gs<|gs<|g0 j j (q (ae j j)<|nl)<|us<|Go.block<|?_
  obtain ⟨o,hl,h⟩:=bs h
  refine gl c12 j _ (fun (iD:Int)=>mk [(0,D 2 (W 1 eI a_0)),(1,D 2 (W 1 eI b_1)),(5,iv iD)] []) (fun (o:(Unit ⊕ Bool)) (p:Ex×St)=>match o with | (.inl _)=>p.1= .exit 0∧p.2.norm ([],[])=mk [] [] | (.inr r2)=>p.1= .ret∧fin Tryz.prog cfg 12 Tryz.f12 [.im 2 false [W 1 eI a_0],.im 2 false [W 1 eI b_1]] p.2=some (B0 [(false,[.im 0 (V r2)])])) hl (by kernel_rfl) ?_ ?_ ?_
  ·intro o p hp e
   rcases o with u | r2<;>exact nomatch (hp.1.symm.trans e)
  ·rintro iD o h
   unfold kZ at h
   refine gs<|gs<|g0 j j (q (oMv j j)<|q (oMv j j)<|q (gB j j lX j)<|q (oBi j j j j)<|nl)<|us<|gc h j ah (fun hc6 h=>?_) fun hc6 h=>?_
   ·refine Go.skip<|us<|gs<|Go.block<|gs<|?_
    obtain ⟨x19,y7,h⟩:=bs h
    obtain ⟨x23,yj,h⟩:=bs h
    refine gd c12 j j j j (mk [(0,D 2 (W 1 eI a_0)),(1,D 2 (W 1 eI b_1)),(5,iv iD),(25,bv (x19 != x23))] []) (t j j (oMv j j)<|t j j (oMv j j)<|t j j (fU j y7 fH j j)<|t j j (oLd (cs:=[.im 2 _]) j tF2 j j)<|t j j (oMv j j)<|t j j (oMv j j)<|t j j (fU j yj fH j j)<|t j j (oLd (cs:=[.im 2 _]) j tF2 j j)<|t j j (oBi j j j j)<|sD (by kernel_rfl))<|us<|gc h j iNe (fun hc7 h=>?_) fun hc7 h=>?_
    ·refine gs<|g0 j j (q (ae j j)<|nl)<|us<|Go.ret (Unw.ret ?_)
     cases h
     exact ⟨j,(fo acL j)⟩
    ·refine Go.skip<|Unw.blk<|us<|g0 j j (q (oMv j j)<|q (oBi j j j j)<|q (ae j j)<|nl)<|Unw.nil<|?_
     cases h
     exact ⟨j,(by kernel_rfl)⟩
   ·refine Go.exit<|ux<|Unw.nil<|?_
    cases h
    exact ⟨j,(by kernel_rfl)⟩
  ·rintro ⟨e,st⟩ hp
   rcases o with u | r2
   ·dsimp only at h
    obtain ⟨he,hst⟩:=hp
    obtain rfl:e= .exit 0:=he
    refine Unw.iP<|us<|gs<|g2 c12 j j hst (q (ae j j)<|nl)<|us<|Go.ret (Unw.ret ?_)
    cases h
    exact fr acL j
   ·dsimp only at h
    obtain ⟨he,hfin⟩:=hp
    obtain rfl:e= .ret:=he
    cases h
    exact Unw.ret (gm hfin)
theorem KO {a_0:af} {b_1:af} {r:Bool} (h:uX a_0 b_1=some r):FX 64 [.im 2 true (aF a_0),.im 2 true (aF b_1)] (B0 [(false,[.im 0 (V r)])]):=by
 unfold uX at h
 refine gn 15 Tryz.func64 rfl ?_
 refine gs<|g0 j j (q (oBx j aJ j (tkI (tkI tk0)))<|q (oBx j aJ j (tkI (tkI tk0)))<|q (ae j j)<|nl)<|us<|gs<|gs<|g0 j j (q (oFA (r':=.mp 2 0 0) j iF j j)<|q (oLd (cs:=[.im 0 _]) j tF2 j j)<|q (oFA (r':=.mp 3 0 0) j iF j j)<|q (oLd (cs:=[.im 0 _]) j tF2 j j)<|q (oBi j j j j)<|nl)<|us<|gc h j iNe (fun hc1 h=>?_) fun hc1 h=>?_
 ·refine gs<|g0 j j (q (ae j j)<|nl)<|us<|Go.ret (Unw.ret ?_)
  cases h
  exact fr acT j
 ·refine Go.skip<|us<|gs<|gs<|g0 j j (q (oFA (r':=.mp 2 0 1) j iW j j)<|q (oLd (cs:=[.im 0 _]) j tF2 j j)<|q (oFA (r':=.mp 3 0 1) j iW j j)<|q (oLd (cs:=[.im 0 _]) j tF2 j j)<|q (oBi j j j j)<|nl)<|us<|gc h j iNe (fun hc2 h=>?_) fun hc2 h=>?_
  ·refine gs<|g0 j j (q (ae j j)<|nl)<|us<|Go.ret (Unw.ret ?_)
   cases h
   exact fr acT j
  ·refine Go.skip<|us<|gs<|g0 j j (q (ae j j)<|nl)<|us<|Go.ret (Unw.ret ?_)
   cases h
   exact fr acT j
theorem IW {a_0:(List af)} {b_1:(List af)} {r:Bool} (h:sJ a_0 b_1=some r):FX 36 [.im 2 false [W 2 az a_0],.im 2 false [W 2 az b_1]] (B0 [(false,[.im 0 (V r)])]):=by
 unfold sJ at h
 refine gn 27 Tryz.func36 rfl ?_
 refine gs<|g0 j j (q (ae j j)<|nl)<|us<|gs<|gs<|g0 j j (q (oMv j j)<|q (gB j j zD j)<|q (oMv j j)<|q (gB j j zD j)<|q (oBi j j j j)<|nl)<|us<|gc h j iNe (fun hc1 h=>?_) fun hc1 h=>?_
 ·refine gs<|g0 j j (q (ae j j)<|nl)<|us<|Go.ret (Unw.ret ?_)
  cases h
  exact fr acQ j
 ·refine Go.skip<|us<|gs<|gs<|g0 j j (q (ae j j)<|nl)<|us<|Go.block<|?_
  obtain ⟨o,hl,h⟩:=bs h
  refine gl c36 j _ (fun (iD:Int)=>mk [(0,D 2 (W 2 az a_0)),(1,D 2 (W 2 az b_1)),(5,iv iD)] []) (fun (o:(Unit ⊕ Bool)) (p:Ex×St)=>match o with | (.inl _)=>p.1= .exit 0∧p.2.norm ([],[])=mk [] [] | (.inr r2)=>p.1= .ret∧fin Tryz.prog cfg 36 Tryz.f36 [.im 2 false [W 2 az a_0],.im 2 false [W 2 az b_1]] p.2=some (B0 [(false,[.im 0 (V r2)])])) hl (by kernel_rfl) ?_ ?_ ?_
  ·intro o p hp e
   rcases o with u | r2<;>exact nomatch (hp.1.symm.trans e)
  ·rintro iD o h
   unfold qU at h
   refine gs<|gs<|g0 j j (q (oMv j j)<|q (oMv j j)<|q (gB j j zD j)<|q (oBi j j j j)<|nl)<|us<|gc h j ah (fun hc6 h=>?_) fun hc6 h=>?_
   ·refine Go.skip<|us<|gs<|Go.block<|gs<|?_
    obtain ⟨x19,y7,h⟩:=bs h
    obtain ⟨x23,yj,h⟩:=bs h
    obtain ⟨x25,hx25,h⟩:=bs h
    refine gd c36 j j j j (mk [(0,D 2 (W 2 az a_0)),(1,D 2 (W 2 az b_1)),(5,iv iD),(26,bv (!x25))] []) (t j j (oMv j j)<|t j j (oMv j j)<|t j j (fU j y7 pF j j)<|t j j (oLd (cs:=[.im 2 _,.im 2 _]) j aJ j j)<|t j j (oMv j j)<|t j j (oMv j j)<|t j j (fU j yj pF j j)<|t j j (oLd (cs:=[.im 2 _,.im 2 _]) j aJ j j)<|sS (dN z36 j (oCa (xs:=[.v true [.im 2 _,.im 2 _],.v true [.im 2 _,.im 2 _]]) (vs:=[(false,[.im 0 _])]) (v:=.v false [.im 0 _]) (KO hx25) (.inl j) j Sl j (ppC j (ppC j pp0)) j j pb0 j j j)) trivial (t j j (oUn j j j)<|sD (by kernel_rfl)))<|us<|?_
    by_cases hc7:x25=true
    ·rw [if_pos hc7] at h
     refine gF j (nF (iR.2 hc7))<|Go.skip<|Unw.blk<|us<|g0 j j (q (oMv j j)<|q (oBi j j j j)<|q (ae j j)<|nl)<|Unw.nil<|?_
     cases h
     exact ⟨j,(by kernel_rfl)⟩
    ·rw [if_neg hc7] at h
     refine gT j (nT (byF iR hc7))<|gs<|g0 j j (q (ae j j)<|nl)<|us<|Go.ret (Unw.ret ?_)
     cases h
     exact ⟨j,(fo acQ j)⟩
   ·refine Go.exit<|ux<|Unw.nil<|?_
    cases h
    exact ⟨j,(by kernel_rfl)⟩
  ·rintro ⟨e,st⟩ hp
   rcases o with u | r2
   ·dsimp only at h
    obtain ⟨he,hst⟩:=hp
    obtain rfl:e= .exit 0:=he
    refine Unw.iP<|us<|gs<|g2 c36 j j hst (q (ae j j)<|nl)<|us<|Go.ret (Unw.ret ?_)
    cases h
    exact fr acQ j
   ·dsimp only at h
    obtain ⟨he,hfin⟩:=hp
    obtain rfl:e= .ret:=he
    cases h
    exact Unw.ret (gm hfin)
theorem LP {a_0:dh} {b_1:dh} {r:Bool} (h:xu a_0 b_1=some r):FX 65 [.im 2 true (uZ a_0),.im 2 true (uZ b_1)] (B0 [(false,[.im 0 (V r)])]):=by
 unfold xu at h
 refine gn 16 Tryz.func65 rfl ?_
 refine gs<|g0 j j (q (oBx j EI j (tkI (tkI tk0)))<|q (oBx j EI j (tkI (tkI tk0)))<|q (ae j j)<|nl)<|us<|gs<|gs<|g0 j j (q (oFA (r':=.mp 2 0 0) j zC j j)<|q (oLd (cs:=[.im 0 _]) j tF9 j j)<|q (oFA (r':=.mp 3 0 0) j zC j j)<|q (oLd (cs:=[.im 0 _]) j tF9 j j)<|q (oBi j j j j)<|nl)<|us<|gc h j (YL zu) (fun hc1 h=>?_) fun hc1 h=>?_
 ·refine gs<|g0 j j (q (ae j j)<|nl)<|us<|Go.ret (Unw.ret ?_)
  cases h
  exact fr acU j
 ·refine Go.skip<|us<|gs<|gs<|?_
  obtain ⟨x14,ve,h⟩:=bs h
  refine g0 j j (q (oFA (r':=.mp 2 0 1) j Bg j j)<|q (oLd (cs:=[.im 2 _]) j oh j j)<|q (oFA (r':=.mp 3 0 1) j Bg j j)<|q (oLd (cs:=[.im 2 _]) j oh j j)<|q (oCa (xs:=[.v false [.im 2 _],.v false [.im 2 _]]) (vs:=[(false,[.im 0 _])]) (v:=.v false [.im 0 _]) (sW ve) (.inl j) j Bh j (ppC j (ppC j pp0)) j j pb0 j j j)<|q (oUn j j j)<|nl)<|us<|?_
  by_cases hc2:x14=true
  ·rw [if_pos hc2] at h
   refine gF j (nF (iR.2 hc2))<|Go.skip<|us<|gs<|g0 j j (q (ae j j)<|nl)<|us<|Go.ret (Unw.ret ?_)
   cases h
   exact fr acU j
  ·rw [if_neg hc2] at h
   refine gT j (nT (byF iR hc2))<|gs<|g0 j j (q (ae j j)<|nl)<|us<|Go.ret (Unw.ret ?_)
   cases h
   exact fr acU j
theorem KP {a_0:(List dh)} {b_1:(List dh)} {r:Bool} (h:uY a_0 b_1=some r):FX 37 [.im 2 false [W 2 bM a_0],.im 2 false [W 2 bM b_1]] (B0 [(false,[.im 0 (V r)])]):=by
 unfold uY at h
 refine gn 27 Tryz.func37 rfl ?_
 refine gs<|g0 j j (q (ae j j)<|nl)<|us<|gs<|gs<|g0 j j (q (oMv j j)<|q (gB j j Iu j)<|q (oMv j j)<|q (gB j j Iu j)<|q (oBi j j j j)<|nl)<|us<|gc h j iNe (fun hc1 h=>?_) fun hc1 h=>?_
 ·refine gs<|g0 j j (q (ae j j)<|nl)<|us<|Go.ret (Unw.ret ?_)
  cases h
  exact fr acR j
 ·refine Go.skip<|us<|gs<|gs<|g0 j j (q (ae j j)<|nl)<|us<|Go.block<|?_
  obtain ⟨o,hl,h⟩:=bs h
  refine gl c37 j _ (fun (iD:Int)=>mk [(0,D 2 (W 2 bM a_0)),(1,D 2 (W 2 bM b_1)),(5,iv iD)] []) (fun (o:(Unit ⊕ Bool)) (p:Ex×St)=>match o with | (.inl _)=>p.1= .exit 0∧p.2.norm ([],[])=mk [] [] | (.inr r2)=>p.1= .ret∧fin Tryz.prog cfg 37 Tryz.f37 [.im 2 false [W 2 bM a_0],.im 2 false [W 2 bM b_1]] p.2=some (B0 [(false,[.im 0 (V r2)])])) hl (by kernel_rfl) ?_ ?_ ?_
  ·intro o p hp e
   rcases o with u | r2<;>exact nomatch (hp.1.symm.trans e)
  ·rintro iD o h
   unfold sV at h
   refine gs<|gs<|g0 j j (q (oMv j j)<|q (oMv j j)<|q (gB j j Iu j)<|q (oBi j j j j)<|nl)<|us<|gc h j ah (fun hc6 h=>?_) fun hc6 h=>?_
   ·refine Go.skip<|us<|gs<|Go.block<|gs<|?_
    obtain ⟨x19,y7,h⟩:=bs h
    obtain ⟨x23,yj,h⟩:=bs h
    obtain ⟨x25,hx25,h⟩:=bs h
    refine gd c37 j j j j (mk [(0,D 2 (W 2 bM a_0)),(1,D 2 (W 2 bM b_1)),(5,iv iD),(26,bv (!x25))] []) (t j j (oMv j j)<|t j j (oMv j j)<|t j j (fU j y7 EH j j)<|t j j (oLd (cs:=[.im 2 _,.im 2 _]) j EI j j)<|t j j (oMv j j)<|t j j (oMv j j)<|t j j (fU j yj EH j j)<|t j j (oLd (cs:=[.im 2 _,.im 2 _]) j EI j j)<|sS (dN z37 j (oCa (xs:=[.v true [.im 2 _,.im 2 _],.v true [.im 2 _,.im 2 _]]) (vs:=[(false,[.im 0 _])]) (v:=.v false [.im 0 _]) (LP hx25) (.inl j) j Sm j (ppC j (ppC j pp0)) j j pb0 j j j)) trivial (t j j (oUn j j j)<|sD (by kernel_rfl)))<|us<|?_
    by_cases hc7:x25=true
    ·rw [if_pos hc7] at h
     refine gF j (nF (iR.2 hc7))<|Go.skip<|Unw.blk<|us<|g0 j j (q (oMv j j)<|q (oBi j j j j)<|q (ae j j)<|nl)<|Unw.nil<|?_
     cases h
     exact ⟨j,(by kernel_rfl)⟩
    ·rw [if_neg hc7] at h
     refine gT j (nT (byF iR hc7))<|gs<|g0 j j (q (ae j j)<|nl)<|us<|Go.ret (Unw.ret ?_)
     cases h
     exact ⟨j,(fo acR j)⟩
   ·refine Go.exit<|ux<|Unw.nil<|?_
    cases h
    exact ⟨j,(by kernel_rfl)⟩
  ·rintro ⟨e,st⟩ hp
   rcases o with u | r2
   ·dsimp only at h
    obtain ⟨he,hst⟩:=hp
    obtain rfl:e= .exit 0:=he
    refine Unw.iP<|us<|gs<|g2 c37 j j hst (q (ae j j)<|nl)<|us<|Go.ret (Unw.ret ?_)
    cases h
    exact fr acR j
   ·dsimp only at h
    obtain ⟨he,hfin⟩:=hp
    obtain rfl:e= .ret:=he
    cases h
    exact Unw.ret (gm hfin)
theorem Hz {a_0:aA} {b_1:aA} {r:Bool} (h:qC a_0 b_1=some r):FX 13 [.im 2 true (ak a_0),.im 2 true (ak b_1)] (B0 [(false,[.im 0 (V r)])]):=by
 unfold qC at h
 refine gn 27 Tryz.func13 rfl ?_
 refine gs<|g0 j j (q (oBx j Ar j (tkI (tkI (tkI (tkI tk0)))))<|q (oBx j Ar j (tkI (tkI (tkI (tkI tk0)))))<|q (ae j j)<|nl)<|us<|gs<|gs<|g0 j j (q (oFA (r':=.mp 2 0 0) j EG j j)<|q (oLd (cs:=[.im 0 _]) j tF2 j j)<|q (oFA (r':=.mp 3 0 0) j EG j j)<|q (oLd (cs:=[.im 0 _]) j tF2 j j)<|q (oBi j j j j)<|nl)<|us<|gc h j iNe (fun hc1 h=>?_) fun hc1 h=>?_
 ·refine gs<|g0 j j (q (ae j j)<|nl)<|us<|Go.ret (Unw.ret ?_)
  cases h
  exact fr Xx j
 ·refine Go.skip<|us<|gs<|gs<|g0 j j (q (oFA (r':=.mp 2 0 1) j CP j j)<|q (oLd (cs:=[.im 0 _]) j tF2 j j)<|q (oFA (r':=.mp 3 0 1) j CP j j)<|q (oLd (cs:=[.im 0 _]) j tF2 j j)<|q (oBi j j j j)<|nl)<|us<|gc h j iNe (fun hc2 h=>?_) fun hc2 h=>?_
  ·refine gs<|g0 j j (q (ae j j)<|nl)<|us<|Go.ret (Unw.ret ?_)
   cases h
   exact fr Xx j
  ·refine Go.skip<|us<|gs<|gs<|?_
   obtain ⟨x19,y7,h⟩:=bs h
   refine g0 j j (q (oFA (r':=.mp 2 0 2) j rE j j)<|q (oLd (cs:=[.im 2 _]) j DU j j)<|q (oFA (r':=.mp 3 0 2) j rE j j)<|q (oLd (cs:=[.im 2 _]) j DU j j)<|q (oCa (xs:=[.v false [.im 2 _],.v false [.im 2 _]]) (vs:=[(false,[.im 0 _])]) (v:=.v false [.im 0 _]) (IW y7) (.inl j) j RX j (ppC j (ppC j pp0)) j j pb0 j j j)<|q (oUn j j j)<|nl)<|us<|?_
   by_cases hc3:x19=true
   ·rw [if_pos hc3] at h
    refine gF j (nF (iR.2 hc3))<|Go.skip<|us<|gs<|gs<|?_
    obtain ⟨x25,hx25,h⟩:=bs h
    refine g0 j j (q (oFA (r':=.mp 2 0 3) j oK j j)<|q (oLd (cs:=[.im 2 _]) j Bi j j)<|q (oFA (r':=.mp 3 0 3) j oK j j)<|q (oLd (cs:=[.im 2 _]) j Bi j j)<|q (oCa (xs:=[.v false [.im 2 _],.v false [.im 2 _]]) (vs:=[(false,[.im 0 _])]) (v:=.v false [.im 0 _]) (KP hx25) (.inl j) j RY j (ppC j (ppC j pp0)) j j pb0 j j j)<|q (oUn j j j)<|nl)<|us<|?_
    by_cases hc4:x25=true
    ·rw [if_pos hc4] at h
     refine gF j (nF (iR.2 hc4))<|Go.skip<|us<|gs<|g0 j j (q (ae j j)<|nl)<|us<|Go.ret (Unw.ret ?_)
     cases h
     exact fr Xx j
    ·rw [if_neg hc4] at h
     refine gT j (nT (byF iR hc4))<|gs<|g0 j j (q (ae j j)<|nl)<|us<|Go.ret (Unw.ret ?_)
     cases h
     exact fr Xx j
   ·rw [if_neg hc3] at h
    refine gT j (nT (byF iR hc3))<|gs<|g0 j j (q (ae j j)<|nl)<|us<|Go.ret (Unw.ret ?_)
    cases h
    exact fr Xx j
theorem IX {a_0:ai} {b_1:ai} {r:Bool} (h:sN a_0 b_1=some r):FX 38 [.im 2 true (iE a_0),.im 2 true (iE b_1)] (B0 [(false,[.im 0 (V r)])]):=by
 unfold sN at h
 refine gn 20 Tryz.func38 rfl ?_
 refine gs<|g0 j j (q (oBx j CY j (tkI (tkI (tkI tk0))))<|q (oBx j CY j (tkI (tkI (tkI tk0))))<|q (ae j j)<|nl)<|us<|gs<|gs<|g0 j j (q (oFA (r':=.mp 2 0 0) j G7 j j)<|q (oLd (cs:=[.im 0 _]) j tF9 j j)<|q (oFA (r':=.mp 3 0 0) j G7 j j)<|q (oLd (cs:=[.im 0 _]) j tF9 j j)<|q (oBi j j j j)<|nl)<|us<|gc h j (YL zu) (fun hc1 h=>?_) fun hc1 h=>?_
 ·refine gs<|g0 j j (q (ae j j)<|nl)<|us<|Go.ret (Unw.ret ?_)
  cases h
  exact fr aaQ j
 ·refine Go.skip<|us<|gs<|gs<|g0 j j (q (oFA (r':=.mp 2 0 1) j rF j j)<|q (oLd (cs:=[.im 0 _]) j tF2 j j)<|q (oFA (r':=.mp 3 0 1) j rF j j)<|q (oLd (cs:=[.im 0 _]) j tF2 j j)<|q (oBi j j j j)<|nl)<|us<|gc h j iNe (fun hc2 h=>?_) fun hc2 h=>?_
  ·refine gs<|g0 j j (q (ae j j)<|nl)<|us<|Go.ret (Unw.ret ?_)
   cases h
   exact fr aaQ j
  ·refine Go.skip<|us<|gs<|gs<|g0 j j (q (oFA (r':=.mp 2 0 2) j zB j j)<|q (oLd (cs:=[.im 0 _]) j tF2 j j)<|q (oFA (r':=.mp 3 0 2) j zB j j)<|q (oLd (cs:=[.im 0 _]) j tF2 j j)<|q (oBi j j j j)<|nl)<|us<|gc h j iNe (fun hc3 h=>?_) fun hc3 h=>?_
   ·refine gs<|g0 j j (q (ae j j)<|nl)<|us<|Go.ret (Unw.ret ?_)
    cases h
    exact fr aaQ j
   ·refine Go.skip<|us<|gs<|g0 j j (q (ae j j)<|nl)<|us<|Go.ret (Unw.ret ?_)
    cases h
    exact fr aaQ j
theorem HY {a_0:(List ai)} {b_1:(List ai)} {r:Bool} (h:qE a_0 b_1=some r):FX 14 [.im 2 false [W 3 au a_0],.im 2 false [W 3 au b_1]] (B0 [(false,[.im 0 (V r)])]):=by
 unfold qE at h
 refine gn 27 Tryz.func14 rfl ?_
 refine gs<|g0 j j (q (ae j j)<|nl)<|us<|gs<|gs<|g0 j j (q (oMv j j)<|q (gB j j FY j)<|q (oMv j j)<|q (gB j j FY j)<|q (oBi j j j j)<|nl)<|us<|gc h j iNe (fun hc1 h=>?_) fun hc1 h=>?_
 ·refine gs<|g0 j j (q (ae j j)<|nl)<|us<|Go.ret (Unw.ret ?_)
  cases h
  exact fr acM j
 ·refine Go.skip<|us<|gs<|gs<|g0 j j (q (ae j j)<|nl)<|us<|Go.block<|?_
  obtain ⟨o,hl,h⟩:=bs h
  refine gl c14 j _ (fun (iD:Int)=>mk [(0,D 2 (W 3 au a_0)),(1,D 2 (W 3 au b_1)),(5,iv iD)] []) (fun (o:(Unit ⊕ Bool)) (p:Ex×St)=>match o with | (.inl _)=>p.1= .exit 0∧p.2.norm ([],[])=mk [] [] | (.inr r2)=>p.1= .ret∧fin Tryz.prog cfg 14 Tryz.f14 [.im 2 false [W 3 au a_0],.im 2 false [W 3 au b_1]] p.2=some (B0 [(false,[.im 0 (V r2)])])) hl (by kernel_rfl) ?_ ?_ ?_
  ·intro o p hp e
   rcases o with u | r2<;>exact nomatch (hp.1.symm.trans e)
  ·rintro iD o h
   unfold qc at h
   refine gs<|gs<|g0 j j (q (oMv j j)<|q (oMv j j)<|q (gB j j FY j)<|q (oBi j j j j)<|nl)<|us<|gc h j ah (fun hc6 h=>?_) fun hc6 h=>?_
   ·refine Go.skip<|us<|gs<|Go.block<|gs<|?_
    obtain ⟨x19,y7,h⟩:=bs h
    obtain ⟨x23,yj,h⟩:=bs h
    obtain ⟨x25,hx25,h⟩:=bs h
    refine gd c14 j j j j (mk [(0,D 2 (W 3 au a_0)),(1,D 2 (W 3 au b_1)),(5,iv iD),(26,bv (!x25))] []) (t j j (oMv j j)<|t j j (oMv j j)<|t j j (fU j y7 G9 j j)<|t j j (oLd (cs:=[.im 2 _,.im 2 _,.im 2 _]) j CY j j)<|t j j (oMv j j)<|t j j (oMv j j)<|t j j (fU j yj G9 j j)<|t j j (oLd (cs:=[.im 2 _,.im 2 _,.im 2 _]) j CY j j)<|sS (dN z14 j (oCa (xs:=[.v true [.im 2 _,.im 2 _,.im 2 _],.v true [.im 2 _,.im 2 _,.im 2 _]]) (vs:=[(false,[.im 0 _])]) (v:=.v false [.im 0 _]) (IX hx25) (.inl j) j RZ j (ppC j (ppC j pp0)) j j pb0 j j j)) trivial (t j j (oUn j j j)<|sD (by kernel_rfl)))<|us<|?_
    by_cases hc7:x25=true
    ·rw [if_pos hc7] at h
     refine gF j (nF (iR.2 hc7))<|Go.skip<|Unw.blk<|us<|g0 j j (q (oMv j j)<|q (oBi j j j j)<|q (ae j j)<|nl)<|Unw.nil<|?_
     cases h
     exact ⟨j,(by kernel_rfl)⟩
    ·rw [if_neg hc7] at h
     refine gT j (nT (byF iR hc7))<|gs<|g0 j j (q (ae j j)<|nl)<|us<|Go.ret (Unw.ret ?_)
     cases h
     exact ⟨j,(fo acM j)⟩
   ·refine Go.exit<|ux<|Unw.nil<|?_
    cases h
    exact ⟨j,(by kernel_rfl)⟩
  ·rintro ⟨e,st⟩ hp
   rcases o with u | r2
   ·dsimp only at h
    obtain ⟨he,hst⟩:=hp
    obtain rfl:e= .exit 0:=he
    refine Unw.iP<|us<|gs<|g2 c14 j j hst (q (ae j j)<|nl)<|us<|Go.ret (Unw.ret ?_)
    cases h
    exact fr acM j
   ·dsimp only at h
    obtain ⟨he,hfin⟩:=hp
    obtain rfl:e= .ret:=he
    cases h
    exact Unw.ret (gm hfin)
theorem Dp {a_0:(List af)} {k_1:Int} {r:Int} (h:lS a_0 k_1=some r):FX 39 [.ws false [W 2 az a_0],.im 2 false [I k_1]] (B0 [(false,[.im 0 (I r)])]):=by
 unfold lS at h
 refine AY (A:=[(0,.v false [.ws (W 2 az a_0)]),(1,D 2 (I k_1))]) (B:=[(0,none),(1,none)]) (nt:=27) rfl rfl Tryz.func39 rfl rfl rfl rfl ?_
 refine gs<|g0 j j (q (ae j j)<|nl)<|us<|gs<|gs<|g0 j j (q (ae j j)<|nl)<|us<|Go.block<|?_
 obtain ⟨o,hl,h⟩:=bs h
 refine gl c39 j _ (fun (s:(Int×Int))=>match s with | (dm,aW)=>mk [(0,.v false [.ws (W 2 az a_0)]),(1,iv dm),(5,iv aW)] []) (fun (dR:Int) (p:Ex×St)=>p.1= .exit 0∧p.2.norm ([1],[])=mk [(1,iv dR)] []) hl (by kernel_rfl) ?_ ?_ ?_
 ·intro o p hp e
  exact nomatch (hp.1.symm.trans e)
 ·rintro ⟨dm,aW⟩ o h
  unfold jC at h
  dsimp only at h
  refine gs<|gs<|g0 j j (q (oMv j j)<|q (oMv j j)<|q (ach j j zD j)<|q (oBi j j j j)<|nl)<|us<|gc h j ah (fun hc3 h=>?_) fun hc3 h=>?_
  ·refine Go.skip<|us<|gs<|Go.block<|gs<|?_
   obtain ⟨x15,y5,h⟩:=bs h
   refine g0 j j (q (oMv j j)<|q (oMv j j)<|q (oMv j j)<|q (WU j y5 pF j j)<|q (oFA (r':=.ws _) j iF j j)<|q (YK tF2 j j j j)<|nl)<|us<|gs<|g1 j j (mk [(0,.v false [.ws (W 2 az a_0)]),(1,iv dm),(5,iv aW)] []) (q (oMv j j)<|q (oBi j j j j)<|q (ae j j)<|nl)<|us<|gs<|?_
   obtain ⟨x22,F6,h⟩:=bs h
   refine g0 j j (q (oMv j j)<|q (oMv j j)<|q (oMv j j)<|q (WU j F6 pF j j)<|q (oFA (r':=.ws _) j iW j j)<|q (YK tF2 j j j j)<|nl)<|us<|g1 j j (mk [(0,.v false [.ws (W 2 az a_0)]),(1,iv (w64 (dm+1))),(5,iv aW)] []) (q (oMv j j)<|q (oBi j j j j)<|q (ae j j)<|nl)<|Unw.blk<|us<|g0 j j (q (oMv j j)<|q (oBi j j j j)<|q (ae j j)<|nl)<|Unw.nil<|?_
   cases h
   exact ⟨j,(by kernel_rfl)⟩
  ·refine Go.exit<|ux<|Unw.nil<|?_
   cases h
   exact ⟨j,(by kernel_rfl)⟩
 ·rintro ⟨e,st⟩ hp
  obtain ⟨dR,rfl⟩:∃y,y=o:=⟨o,rfl⟩
  obtain ⟨he,hst⟩:=hp
  obtain rfl:e= .exit 0:=he
  refine Unw.iP<|us<|gs<|g2 c39 j j hst (q (oMv j j)<|q (ae j j)<|nl)<|us<|Go.ret (Unw.ret ?_)
  cases h
  exact fr agm j
theorem BF {k_0:Int} {r:ByteArray} (h:pO k_0=some r):FX 41 [.im 2 false [I k_0]] (B0 [(false,[.im 0 (Y r)])]):=by
 unfold pO at h
 refine gn 20 Tryz.func41 rfl ?_
 refine gs<|g0 j j (q (ae j j)<|nl)<|us<|gs<|gs<|g0 j j (q (oMv j j)<|q (oBi j j j j)<|nl)<|us<|gc h j ah (fun hc1 h=>?_) fun hc1 h=>?_
 ·refine gs<|g0 j j (q (ae j j)<|nl)<|us<|Go.ret (Unw.ret ?_)
  cases h
  exact fr aex j
 ·refine Go.skip<|us<|gs<|g0 j j (q (ae j j)<|nl)<|us<|gs<|Go.block<|?_
  obtain ⟨o,hl,h⟩:=bs h
  refine gl c41 j _ (fun (s:(Int×ByteArray))=>match s with | (G6,CO)=>mk [(0,iv G6),(3,sv CO)] []) (fun (Be:ByteArray) (p:Ex×St)=>p.1= .exit 0∧p.2.norm ([3],[])=mk [(3,sv Be)] []) hl (by kernel_rfl) ?_ ?_ ?_
  ·intro o p hp e
   exact nomatch (hp.1.symm.trans e)
  ·rintro ⟨G6,CO⟩ o h
   unfold lg at h
   dsimp only at h
   refine gs<|gs<|g0 j j (q (oMv j j)<|q (oBi j j j j)<|nl)<|us<|gc h j ah (fun hc4 h=>?_) fun hc4 h=>?_
   ·refine Go.skip<|us<|Go.block<|gs<|?_
    obtain ⟨x9,hx9,h⟩:=bs h
    obtain ⟨x15,y5,h⟩:=bs h
    refine g0 j j (q (oMv j j)<|q (FK j hx9 j j)<|q (oBi j j j j)<|q (afK j uF3 uF5 j)<|q (oBS (es:=List.map (eK .u8) ([(IntKind.wrap .u8 ((w64 (48+x9))))]:List Int)) j aeM j (ptC j (fxI fx0) j pt0) (dX j fun _=>j))<|q (afL (l:=([(IntKind.wrap .u8 ((w64 (48+x9))))]:List Int)) j aeT uF5 uF9 j (kH j j))<|q (oMv j j)<|q (ad1 j y5 j j)<|q (ae j j)<|nl)<|us<|?_
    obtain ⟨x17,OH,h⟩:=bs h
    refine g0 j j (q (oMv j j)<|q (ace j OH j j)<|q (ae j j)<|nl)<|Unw.blk<|Unw.nil<|?_
    cases h
    exact ⟨j,(by kernel_rfl)⟩
   ·refine Go.exit<|ux<|Unw.nil<|?_
    cases h
    exact ⟨j,(by kernel_rfl)⟩
  ·rintro ⟨e,st⟩ hp
   obtain ⟨Be,rfl⟩:∃y,y=o:=⟨o,rfl⟩
   obtain ⟨he,hst⟩:=hp
   obtain rfl:e= .exit 0:=he
   refine Unw.iP<|us<|gs<|?_
   obtain ⟨x19,y7,h⟩:=bs h
   refine g2 c41 j j hst (q (oMv j j)<|q (ad1 j y7 j j)<|q (ae j j)<|nl)<|us<|Go.ret (Unw.ret ?_)
   cases h
   exact fr aex j
theorem Dq {a_0:(List Int)} {k_1:Int} {r:Int} (h:lT a_0 k_1=some r):FX 17 [.ws false [W 1 eI a_0],.im 2 false [I k_1]] (B0 [(false,[.im 0 (I r)])]):=by
 unfold lT at h
 refine AY (A:=[(0,.v false [.ws (W 1 eI a_0)]),(1,D 2 (I k_1))]) (B:=[(0,none),(1,none)]) (nt:=19) rfl rfl Tryz.func17 rfl rfl rfl rfl ?_
 refine gs<|g0 j j (q (ae j j)<|nl)<|us<|gs<|gs<|g0 j j (q (ae j j)<|nl)<|us<|Go.block<|?_
 obtain ⟨o,hl,h⟩:=bs h
 refine gl c17 j _ (fun (s:(Int×Int))=>match s with | (dm,aW)=>mk [(0,.v false [.ws (W 1 eI a_0)]),(1,iv dm),(5,iv aW)] [(0,none)]) (fun (dR:Int) (p:Ex×St)=>p.1= .exit 0∧p.2.norm ([1],[0])=mk [(1,iv dR)] [(0,none)]) hl (by kernel_rfl) ?_ ?_ ?_
 ·intro o p hp e
  exact nomatch (hp.1.symm.trans e)
 ·rintro ⟨dm,aW⟩ o h
  unfold jD at h
  dsimp only at h
  refine gs<|gs<|g0 j j (q (oMv j j)<|q (oMv j j)<|q (ach j j lX j)<|q (oBi j j j j)<|nl)<|us<|gc h j ah (fun hc3 h=>?_) fun hc3 h=>?_
  ·refine Go.skip<|us<|gs<|Go.block<|gs<|?_
   obtain ⟨x15,y5,h⟩:=bs h
   refine g0 j j (q (oMv j j)<|q (oMv j j)<|q (oMv j j)<|q (WU j y5 fH j j)<|q (YK tF2 j j j j)<|nl)<|us<|g1 j j (mk [(0,.v false [.ws (W 1 eI a_0)]),(1,iv dm),(5,iv aW)] [(0,none)]) (q (oMv j j)<|q (oBi j j j j)<|q (ae j j)<|nl)<|Unw.blk<|us<|g0 j j (q (oMv j j)<|q (oBi j j j j)<|q (ae j j)<|nl)<|Unw.nil<|?_
   cases h
   exact ⟨j,(by kernel_rfl)⟩
  ·refine Go.exit<|ux<|Unw.nil<|?_
   cases h
   exact ⟨j,(by kernel_rfl)⟩
 ·rintro ⟨e,st⟩ hp
  obtain ⟨dR,rfl⟩:∃y,y=o:=⟨o,rfl⟩
  obtain ⟨he,hst⟩:=hp
  obtain rfl:e= .exit 0:=he
  refine Unw.iP<|us<|gs<|g2 c17 j j hst (q (oMv j j)<|q (ae j j)<|nl)<|us<|Go.ret (Unw.ret ?_)
  cases h
  exact fr aet j
theorem H6 {a_0:(List dh)} {k_1:Int} {r:Int} (h:qF a_0 k_1=some r):FX 40 [.ws false [W 2 bM a_0],.im 2 false [I k_1]] (B0 [(false,[.im 0 (I r)])]):=by
 unfold qF at h
 refine AY (A:=[(0,.v false [.ws (W 2 bM a_0)]),(1,D 2 (I k_1))]) (B:=[(0,none),(1,none)]) (nt:=28) rfl rfl Tryz.func40 rfl rfl rfl rfl ?_
 refine gs<|g0 j j (q (ae j j)<|nl)<|us<|gs<|gs<|g0 j j (q (ae j j)<|nl)<|us<|Go.block<|?_
 obtain ⟨o,hl,h⟩:=bs h
 refine gl c40 j _ (fun (s:(Int×Int))=>match s with | (dm,aW)=>mk [(0,.v false [.ws (W 2 bM a_0)]),(1,iv dm),(5,iv aW)] []) (fun (dR:Int) (p:Ex×St)=>p.1= .exit 0∧p.2.norm ([1],[])=mk [(1,iv dR)] []) hl (by kernel_rfl) ?_ ?_ ?_
 ·intro o p hp e
  exact nomatch (hp.1.symm.trans e)
 ·rintro ⟨dm,aW⟩ o h
  unfold mY at h
  dsimp only at h
  refine gs<|gs<|g0 j j (q (oMv j j)<|q (oMv j j)<|q (ach j j Iu j)<|q (oBi j j j j)<|nl)<|us<|gc h j ah (fun hc3 h=>?_) fun hc3 h=>?_
  ·refine Go.skip<|us<|gs<|Go.block<|gs<|?_
   obtain ⟨x15,y5,h⟩:=bs h
   obtain ⟨x16,hx16,h⟩:=bs h
   refine g0 j j (q (oMv j j)<|q (oMv j j)<|q (oMv j j)<|q (oCa (xs:=[.v false [.im 0 _]]) (vs:=[(false,[.im 0 _])]) (v:=.v false [.im 0 _]) (BF y5) (.inl j) j Xo j (ppC j pp0) j j pb0 j j j)<|q (WU j hx16 EH j j)<|q (oFA (r':=.ws _) j zC j j)<|q (YK tF9 j j j j)<|nl)<|us<|gs<|g1 j j (mk [(0,.v false [.ws (W 2 bM a_0)]),(1,iv dm),(5,iv aW)] []) (q (oMv j j)<|q (oBi j j j j)<|q (ae j j)<|nl)<|us<|?_
   obtain ⟨x22,F6,h⟩:=bs h
   obtain ⟨x26,SE,h⟩:=bs h
   refine g0 j j (q (oMv j j)<|q (oMv j j)<|q (WU j F6 EH j j)<|q (oFA (r':=.ws _) j Bg j j)<|q (oLd (cs:=[.ws _]) j oh j j)<|q (oMv j j)<|q (oCa (xs:=[.v false [.ws _],.v false [.im 0 _]]) (vs:=[(false,[.im 0 _])]) (v:=.v false [.im 0 _]) (Dq SE) (.inl j) j Nb j (ppC j (ppC j pp0)) j j pb0 j j j)<|q (ae j j)<|nl)<|Unw.blk<|us<|g0 j j (q (oMv j j)<|q (oBi j j j j)<|q (ae j j)<|nl)<|Unw.nil<|?_
   cases h
   exact ⟨j,(by kernel_rfl)⟩
  ·refine Go.exit<|ux<|Unw.nil<|?_
   cases h
   exact ⟨j,(by kernel_rfl)⟩
 ·rintro ⟨e,st⟩ hp
  obtain ⟨dR,rfl⟩:∃y,y=o:=⟨o,rfl⟩
  obtain ⟨he,hst⟩:=hp
  obtain rfl:e= .exit 0:=he
  refine Unw.iP<|us<|gs<|g2 c40 j j hst (q (oMv j j)<|q (ae j j)<|nl)<|us<|Go.ret (Unw.ret ?_)
  cases h
  exact fr agn j
theorem EW {a_0:aA} {k_1:Int} {r:Int} (h:nX a_0 k_1=some r):FX 15 [.ws true (ak a_0),.im 2 false [I k_1]] (B0 [(false,[.im 0 (I r)])]):=by
 unfold nX at h
 refine AY (A:=[(0,.v true (S (ak a_0))),(1,D 2 (I k_1))]) (B:=[(0,none),(1,none)]) (nt:=14) rfl rfl Tryz.func15 rfl rfl rfl rfl ?_
 refine gs<|g0 j j (q (oBx j Ar j (tkW (tkW (tkW (tkW tk0)))))<|q (ae j j)<|nl)<|us<|gs<|?_
 obtain ⟨x8,hx8,h⟩:=bs h
 refine g0 j j (q (oFA (r':=.mp 2 0 2) j rE j j)<|q (oLd (cs:=[.ws _]) j DU j j)<|q (oMv j j)<|q (oCa (xs:=[.v false [.ws _],.v false [.im 2 _]]) (vs:=[(false,[.im 0 _])]) (v:=.v false [.im 0 _]) (Dp hx8) (.inl j) j U6 j (ppC j (ppC j pp0)) j j pb0 j j j)<|q (ae j j)<|nl)<|us<|gs<|?_
 obtain ⟨x12,zF,h⟩:=bs h
 refine g0 j j (q (oFA (r':=.mp 2 0 3) j oK j j)<|q (oLd (cs:=[.ws _]) j Bi j j)<|q (oMv j j)<|q (oCa (xs:=[.v false [.ws _],.v false [.im 0 _]]) (vs:=[(false,[.im 0 _])]) (v:=.v false [.im 0 _]) (H6 zF) (.inl j) j U7 j (ppC j (ppC j pp0)) j j pb0 j j j)<|q (ae j j)<|nl)<|us<|gs<|g0 j j (q (oMv j j)<|q (ae j j)<|nl)<|us<|Go.ret (Unw.ret ?_)
 cases h
 exact fr agd j
theorem EX {a_0:(List ai)} {k_1:Int} {r:(Int×(List ai))} (h:nY a_0 k_1=some r):FX 16 [.ow 3 (List.map au a_0),.im 2 false [I k_1]] ([(false,[.im 0 (I r.1)])],[.ow 3 (List.map au r.2)]):=by
 unfold nY at h
 refine AY (A:=[(0,H 0 0),(1,D 2 (I k_1))]) (B:=[(0,Oe [Z (W 3 au a_0)]),(1,none)]) (nt:=35) rfl rfl Tryz.func16 rfl rfl rfl rfl ?_
 refine gs<|g0 j j (q (ae j j)<|nl)<|us<|gs<|gs<|g0 j j (q (ae j j)<|nl)<|us<|Go.block<|?_
 obtain ⟨o,hl,h⟩:=bs h
 refine gl c16 j _ (fun (s:(Int×Int×(List ai)))=>match s with | (dm,aW,jR)=>mk [(0,H 0 0),(1,iv dm),(5,iv aW)] [(0,Oe [Z (W 3 au jR)])]) (fun (o:(Int×(List ai))) (p:Ex×St)=>match o with | (dR,nZ)=>p.1= .exit 0∧p.2.norm ([1],[0])=mk [(1,iv dR)] [(0,Oe [Z (W 3 au nZ)])]) hl (by kernel_rfl) ?_ ?_ ?_
 ·intro o p hp e
  obtain ⟨dR,nZ⟩:=o
  exact nomatch (hp.1.symm.trans e)
 ·rintro ⟨dm,aW,jR⟩ o h
  unfold jv at h
  dsimp only at h
  refine gs<|gs<|g0 j j (q (oMv j j)<|q (oMv j j)<|q (GM j j FY j j j (fun e=>nomatch e))<|q (oBi j j j j)<|nl)<|us<|gc h j ah (fun hc3 h=>?_) fun hc3 h=>?_
  ·refine Go.skip<|us<|gs<|Go.block<|gs<|?_
   obtain ⟨x15,y5,h⟩:=bs h
   obtain ⟨x16,hx16,h⟩:=bs h
   refine g0 j j (q (oMv j j)<|q (oMv j j)<|q (oMv j j)<|q (oCa (xs:=[.v false [.im 0 _]]) (vs:=[(false,[.im 0 _])]) (v:=.v false [.im 0 _]) (BF y5) (.inl j) j Xo j (ppC j pp0) j j pb0 j j j)<|q (zY j hx16 G9 j j j j)<|q (oFA (r':=.mpe 0 0 0 _ 0) j G7 j j)<|q (Qg (v':=(⟨x15,x16.dM,x16.aX⟩:ai)) tF9 j j j (fxI fx0) j j (eP hx16) j)<|nl)<|us<|gs<|g1 j j (mk [(0,H 0 0),(1,iv dm),(5,iv aW)] [(0,Oe [Z (W 3 au (jR.set aW.toNat (⟨x15,x16.dM,x16.aX⟩:ai)))])]) (q (oMv j j)<|q (oBi j j j j)<|q (ae j j)<|nl)<|us<|gs<|?_
   obtain ⟨x23,yj,h⟩:=bs h
   refine g0 j j (q (oMv j j)<|q (oMv j j)<|q (oMv j j)<|q (zY j yj G9 j j j j)<|q (oFA (r':=.mpe 0 0 0 _ 1) j rF j j)<|q (Qg (v':=(⟨x23.ji,(w64 (dm+1)),x23.aX⟩:ai)) tF2 j j j (fxI fx0) j j (eP yj) j)<|nl)<|us<|gs<|g1 j j (mk [(0,H 0 0),(1,iv (w64 (dm+1))),(5,iv aW)] [(0,Oe [Z (W 3 au ((jR.set aW.toNat (⟨x15,x16.dM,x16.aX⟩:ai)).set aW.toNat (⟨x23.ji,(w64 (dm+1)),x23.aX⟩:ai)))])]) (q (oMv j j)<|q (oBi j j j j)<|q (ae j j)<|nl)<|us<|gs<|?_
   obtain ⟨x30,Lr,h⟩:=bs h
   refine g0 j j (q (oMv j j)<|q (oMv j j)<|q (oMv j j)<|q (zY j Lr G9 j j j j)<|q (oFA (r':=.mpe 0 0 0 _ 2) j zB j j)<|q (Qg (v':=(⟨x30.ji,x30.dM,(w64 ((w64 (dm+1))+1))⟩:ai)) tF2 j j j (fxI fx0) j j (eP Lr) j)<|nl)<|us<|g1 j j (mk [(0,H 0 0),(1,iv (w64 ((w64 (dm+1))+1))),(5,iv aW)] [(0,Oe [Z (W 3 au (((jR.set aW.toNat (⟨x15,x16.dM,x16.aX⟩:ai)).set aW.toNat (⟨x23.ji,(w64 (dm+1)),x23.aX⟩:ai)).set aW.toNat (⟨x30.ji,x30.dM,(w64 ((w64 (dm+1))+1))⟩:ai)))])]) (q (oMv j j)<|q (oBi j j j j)<|q (ae j j)<|nl)<|Unw.blk<|us<|g0 j j (q (oMv j j)<|q (oBi j j j j)<|q (ae j j)<|nl)<|Unw.nil<|?_
   cases h
   exact ⟨j,(by kernel_rfl)⟩
  ·refine Go.exit<|ux<|Unw.nil<|?_
   cases h
   exact ⟨j,(by kernel_rfl)⟩
 ·rintro ⟨e,st⟩ hp
  obtain ⟨dR,nZ⟩:=o
  dsimp only at h
  obtain ⟨he,hst⟩:=hp
  obtain rfl:e= .exit 0:=he
  refine Unw.iP<|us<|gs<|g2 c16 j j hst (q (oMv j j)<|q (ae j j)<|nl)<|us<|Go.ret (Unw.ret ?_)
  cases h
  exact fr age j
theorem Gh {a_0:(List Int)} {k_1:Int} {r:(Int×(List Int))} (h:pz a_0 k_1=some r):FX 17 [.ow 1 (List.map eI a_0),.im 2 false [I k_1]] ([(false,[.im 0 (I r.1)])],[.ow 1 (List.map eI r.2)]):=by
 unfold pz at h
 refine AY (A:=[(0,H 0 0),(1,D 2 (I k_1))]) (B:=[(0,Oe [Z (W 1 eI a_0)]),(1,none)]) (nt:=19) rfl rfl Tryz.func17 rfl rfl rfl rfl ?_
 refine gs<|g0 j j (q (ae j j)<|nl)<|us<|gs<|gs<|g0 j j (q (ae j j)<|nl)<|us<|Go.block<|?_
 obtain ⟨o,hl,h⟩:=bs h
 refine gl c17 j _ (fun (s:(Int×Int×(List Int)))=>match s with | (dm,aW,jR)=>mk [(0,H 0 0),(1,iv dm),(5,iv aW)] [(0,Oe [Z (W 1 eI jR)])]) (fun (o:(Int×(List Int))) (p:Ex×St)=>match o with | (dR,nZ)=>p.1= .exit 0∧p.2.norm ([1],[0])=mk [(1,iv dR)] [(0,Oe [Z (W 1 eI nZ)])]) hl (by kernel_rfl) ?_ ?_ ?_
 ·intro o p hp e
  obtain ⟨dR,nZ⟩:=o
  exact nomatch (hp.1.symm.trans e)
 ·rintro ⟨dm,aW,jR⟩ o h
  unfold lU at h
  dsimp only at h
  refine gs<|gs<|g0 j j (q (oMv j j)<|q (oMv j j)<|q (GM j j lX j j j (fun e=>nomatch e))<|q (oBi j j j j)<|nl)<|us<|gc h j ah (fun hc3 h=>?_) fun hc3 h=>?_
  ·refine Go.skip<|us<|gs<|Go.block<|gs<|?_
   obtain ⟨x15,y5,h⟩:=bs h
   refine g0 j j (q (oMv j j)<|q (oMv j j)<|q (oMv j j)<|q (zY j y5 fH j j j j)<|q (Qg (v':=dm) tF2 j j j (fxI fx0) j j (eP y5) j)<|nl)<|us<|g1 j j (mk [(0,H 0 0),(1,iv dm),(5,iv aW)] [(0,Oe [Z (W 1 eI (jR.set aW.toNat dm))])]) (q (oMv j j)<|q (oBi j j j j)<|q (ae j j)<|nl)<|Unw.blk<|us<|g0 j j (q (oMv j j)<|q (oBi j j j j)<|q (ae j j)<|nl)<|Unw.nil<|?_
   cases h
   exact ⟨j,(by kernel_rfl)⟩
  ·refine Go.exit<|ux<|Unw.nil<|?_
   cases h
   exact ⟨j,(by kernel_rfl)⟩
 ·rintro ⟨e,st⟩ hp
  obtain ⟨dR,nZ⟩:=o
  dsimp only at h
  obtain ⟨he,hst⟩:=hp
  obtain rfl:e= .exit 0:=he
  refine Unw.iP<|us<|gs<|g2 c17 j j hst (q (oMv j j)<|q (ae j j)<|nl)<|us<|Go.ret (Unw.ret ?_)
  cases h
  exact fr aet j
theorem zq {a_0:(List Int)} {k_1:Int} {r:Int} (h:mg a_0 k_1=some r):FX 18 [.im 2 false [W 1 eI a_0],.im 2 false [I k_1]] (B0 [(false,[.im 0 (I r)])]):=by
 unfold mg at h
 refine gn 21 Tryz.func18 rfl ?_
 refine gs<|g0 j j (q (ae j j)<|nl)<|us<|gs<|gs<|g0 j j (q (ae j j)<|nl)<|us<|Go.block<|?_
 obtain ⟨o,hl,h⟩:=bs h
 refine gl c18 j _ (fun (s:(Int×Int))=>match s with | (dm,aW)=>mk [(0,D 2 (W 1 eI a_0)),(1,iv dm),(5,iv aW)] []) (fun (o:(Int ⊕ Int)) (p:Ex×St)=>match o with | (.inl dR)=>p.1= .exit 0∧p.2.norm ([1],[])=mk [(1,iv dR)] [] | (.inr r2)=>p.1= .ret∧fin Tryz.prog cfg 18 Tryz.f18 [.im 2 false [W 1 eI a_0],.im 2 false [I k_1]] p.2=some (B0 [(false,[.im 0 (I r2)])])) hl (by kernel_rfl) ?_ ?_ ?_
 ·intro o p hp e
  rcases o with dR | r2<;>exact nomatch (hp.1.symm.trans e)
 ·rintro ⟨dm,aW⟩ o h
  unfold lV at h
  dsimp only at h
  refine gs<|gs<|g0 j j (q (oMv j j)<|q (oMv j j)<|q (gB j j lX j)<|q (oBi j j j j)<|nl)<|us<|gc h j ah (fun hc5 h=>?_) fun hc5 h=>?_
  ·refine Go.skip<|us<|gs<|Go.block<|gs<|gs<|?_
   obtain ⟨x14,ve,h⟩:=bs h
   refine g0 j j (q (oMv j j)<|q (oMv j j)<|q (fU j ve fH j j)<|q (oLd (cs:=[.im 2 _]) j tF2 j j)<|q (oMv j j)<|q (oBi j j j j)<|nl)<|us<|gc h j iNe (fun hc6 h=>?_) fun hc6 h=>?_
   ·refine gs<|g0 j j (q (ae j j)<|nl)<|us<|Go.ret (Unw.ret ?_)
    cases h
    exact ⟨j,(fo aeu j)⟩
   ·refine Go.skip<|us<|g0 j j (q (oMv j j)<|q (oBi j j j j)<|q (ae j j)<|nl)<|Unw.blk<|us<|g0 j j (q (oMv j j)<|q (oBi j j j j)<|q (ae j j)<|nl)<|Unw.nil<|?_
    cases h
    exact ⟨j,(by kernel_rfl)⟩
  ·refine Go.exit<|ux<|Unw.nil<|?_
   cases h
   exact ⟨j,(by kernel_rfl)⟩
 ·rintro ⟨e,st⟩ hp
  rcases o with dR | r2
  ·dsimp only at h
   obtain ⟨he,hst⟩:=hp
   obtain rfl:e= .exit 0:=he
   refine Unw.iP<|us<|gs<|g2 c18 j j hst (q (oMv j j)<|q (ae j j)<|nl)<|us<|Go.ret (Unw.ret ?_)
   cases h
   exact fr aeu j
  ·dsimp only at h
   obtain ⟨he,hfin⟩:=hp
   obtain rfl:e= .ret:=he
   cases h
   exact Unw.ret (gm hfin)
end
end Go.Proofs.YtnjgcdpleghciaaGreat
