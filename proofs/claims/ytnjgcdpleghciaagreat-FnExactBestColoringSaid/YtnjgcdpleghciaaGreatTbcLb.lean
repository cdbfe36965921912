/- The machine answers, at each function of the program that is reached, what its plain function answers: a further part. Conditions: none. -/
import Derived.Test.YtnjgcdpleghciaaGreatTbcLa
namespace Go.Proofs.YtnjgcdpleghciaaGreat
open Go Go.Sim Go.Pw Go.Proofs
set_option linter.unusedVariables false
set_option linter.unusedSimpArgs false
set_option maxRecDepth 100000
set_option maxHeartbeats 4000000
noncomputable section
theorem MK {d_0:aA} {aK:(List ai)} {aW:Int} {eU:Int} {r:aH} (h:wV d_0 aK aW eU=some r):FX 27 [.im 2 false [.cp (ak d_0) 0],.im 2 false [W 3 au aK],.im 2 false [I aW],.im 2 false [I eU]] (B0 [(false,[.pt true [⟨.imm,0,W 1 (eL 1 eI) r.before⟩,⟨.sh,0,W 1 (eL 1 eI) r.table⟩,⟨.imm,0,I r.limit⟩,⟨.imm,0,I r.most⟩,⟨.sh,0,W 1 eI r.choice⟩,⟨.imm,0,I r.nodes⟩,⟨.imm,0,I r.budget⟩,⟨.imm,0,V r.full⟩]])]):=by
 unfold wV at h
 refine gn 112 Tryz.func27 rfl ?_
 refine gs<|g0 j j (q (ae j j)<|nl)<|us<|gs<|g0 j j (q (oMv j j)<|q (oMv j j)<|q (oBu (cs:=[.nil,.nil,.im 2 _,.im 0 _,.nil,.im 0 _,.im 2 _,.im 0 _]) j agt j)<|q (age (ys:=[⟨.dp 0,0,W 1 (eL 1 eI) ([]:List (List Int))⟩,⟨.sh,0,W 1 (eL 1 eI) ([]:List (List Int))⟩,⟨.imm,0,I aW⟩,⟨.imm,0,I 10⟩,⟨.sh,0,W 1 eI ([]:List Int)⟩,⟨.imm,0,I 0⟩,⟨.imm,0,I eU⟩,⟨.imm,0,V false⟩]) j ahe j (tkN (tkN (tkI (tkI (tkN (tkI (tkI (tkI tk0)))))))) (by kernel_rfl))<|q (Y0 j j)<|nl)<|us<|gs<|gs<|g1 j j (mk [(0,D 2 (.cp (ak d_0) 0)),(1,D 2 (W 3 au aK)),(9,M 19)] [(19,Oa [⟨.dp 0,0,0,W 1 (eL 1 eI) ([]:List (List Int))⟩,Z (W 1 (eL 1 eI) ([]:List (List Int))),C (I aW),C (I 10),Z (W 1 eI ([]:List Int)),C (I 0),C (I eU),C (V false)])]) (q (ae j j)<|nl)<|us<|Go.block<|?_
 obtain ⟨o,hl,h⟩:=bs h
 refine gl c27 j _ (fun (s:(Int×(List (List Int))))=>match s with | (Eb,yK)=>mk [(0,D 2 (.cp (ak d_0) 0)),(1,D 2 (W 3 au aK)),(9,M 19),(10,iv Eb)] [(19,Oa [⟨.dp 0,0,0,W 1 (eL 1 eI) yK⟩,Z (W 1 (eL 1 eI) ([]:List (List Int))),C (I aW),C (I 10),Z (W 1 eI ([]:List Int)),C (I 0),C (I eU),C (V false)])]) (fun (yj:(List (List Int))) (p:Ex×St)=>p.1= .exit 0∧p.2.norm ([0,1,9],[19])=mk [(0,D 2 (.cp (ak d_0) 0)),(1,D 2 (W 3 au aK)),(9,M 19)] [(19,Oa [⟨.dp 0,0,0,W 1 (eL 1 eI) yj⟩,Z (W 1 (eL 1 eI) ([]:List (List Int))),C (I aW),C (I 10),Z (W 1 eI ([]:List Int)),C (I 0),C (I eU),C (V false)])]) hl (by kernel_rfl) ?_ ?_ ?_
 ·intro o p hp e
  exact nomatch (hp.1.symm.trans e)
 ·rintro ⟨Eb,yK⟩ o h
  unfold nU at h
  dsimp only at h
  refine gs<|gs<|g0 j j (q (oMv j j)<|q (oMv j j)<|q (oNl j j j)<|q (oFA (r':=.im 2 _) j oO j j)<|q (oLd (cs:=[.im 2 _]) j BP j j)<|q (gJ j j I5 j)<|q (oBi j j j j)<|nl)<|us<|gc h j ah (fun hc16 h=>?_) fun hc16 h=>?_
  ·refine Go.skip<|us<|gs<|Go.block<|?_
   obtain ⟨x36,Ba,h⟩:=bs h
   refine g0 j j (q (oMv j j)<|q (oMv j j)<|q (oNl j j j)<|q (oFA (r':=.mp 19 0 0) j xQ j j)<|q (oLd (cs:=[.own 19 0 0]) j zo j j)<|q (oBS (es:=List.map eI ([]:List Int)) j fP j pt0 (eG j fun _=>j))<|q (agd (em:=(eL 1 eI)) (u:=([]:List Int)) j uG j j j j j j)<|q (aet (em:=(eL 1 eI)) (M:=([([]:List Int)]:List (List Int))) j Ba j uG j j TA (.inl ⟨_,j⟩) j j j j j j j)<|q (oNl j j j)<|q (oFA (r':=.mp 19 0 0) j xQ j j)<|q (oSt zo j j j (tkD j j tk0) j j j)<|nl)<|Unw.blk<|us<|g1 j j (mk [(0,D 2 (.cp (ak d_0) 0)),(1,D 2 (W 3 au aK)),(9,M 19),(10,iv Eb)] [(19,Oa [⟨.dp 0,0,0,W 1 (eL 1 eI) x36⟩,Z (W 1 (eL 1 eI) ([]:List (List Int))),C (I aW),C (I 10),Z (W 1 eI ([]:List Int)),C (I 0),C (I eU),C (V false)])]) (q (oMv j j)<|q (oBi j j j j)<|q (ae j j)<|nl)<|Unw.nil<|?_
   cases h
   exact ⟨j,(by kernel_rfl)⟩
  ·refine Go.exit<|ux<|Unw.nil<|?_
   cases h
   exact ⟨j,(by kernel_rfl)⟩
 ·rintro ⟨e,st⟩ hp
  obtain ⟨yj,rfl⟩:∃y,y=o:=⟨o,rfl⟩
  obtain ⟨he,hst⟩:=hp
  obtain rfl:e= .exit 0:=he
  refine Unw.iU<|us<|gs<|?_
  obtain ⟨x40,Lj,h⟩:=bs h
  refine g2 c27 j j hst (q (oMv j j)<|q (oCr (xs:=[.v false [.im 2 _]]) (vs:=[(false,[.own 40 0 0])]) (v:=.v false [.own 40 0 0]) (c:=⟨.sh,0,_⟩) (cs:=[]) (Jj Lj) (.inl j) j aaS j (ppC j pp0) j j pb0 j j j)<|q (jX j j j j j)<|nl)<|us<|gs<|gs<|g0 j j (q (ae j j)<|nl)<|us<|Go.block<|?_
  obtain ⟨o,hl,h⟩:=bs h
  refine gl c27 j _ (fun (s:(Int×(List (List Int))))=>match s with | (BH,uh)=>mk [(1,D 2 (W 3 au aK)),(9,M 19),(11,H 11 0),(12,iv BH)] [(11,Oc [Z (W 1 (eL 1 eI) x40)]),(19,Oa [⟨.dp 0,0,0,W 1 (eL 1 eI) uh⟩,Z (W 1 (eL 1 eI) ([]:List (List Int))),C (I aW),C (I 10),Z (W 1 eI ([]:List Int)),C (I 0),C (I eU),C (V false)])]) (fun (jP:(List (List Int))) (p:Ex×St)=>p.1= .exit 2∧p.2.norm ([1,9],[19])=mk [(1,D 2 (W 3 au aK)),(9,M 19)] [(19,Oa [⟨.dp 0,0,0,W 1 (eL 1 eI) jP⟩,Z (W 1 (eL 1 eI) ([]:List (List Int))),C (I aW),C (I 10),Z (W 1 eI ([]:List Int)),C (I 0),C (I eU),C (V false)])]) hl (by kernel_rfl) ?_ ?_ ?_
  ·intro o p hp e
   exact nomatch (hp.1.symm.trans e)
  ·rintro ⟨BH,uh⟩ o h
   unfold qC at h
   dsimp only at h
   refine gs<|gs<|g0 j j (q (oMv j j)<|q (oMv j j)<|q (Hr j j TA j j j (fun e=>nomatch e))<|q (oBi j j j j)<|nl)<|us<|gc h j ah (fun Bc h=>?_) fun Bc h=>?_
   ·refine Go.skip<|us<|gs<|Go.block<|?_
    obtain ⟨x71,QX,h⟩:=bs h
    obtain ⟨x73,ahn,h⟩:=bs h
    obtain ⟨x55,aff,h⟩:=bs h
    obtain ⟨x67,qj,h⟩:=bs h
    obtain ⟨x76,Jl,h⟩:=bs h
    refine gd c27 j j j j (mk [(1,D 2 (W 3 au aK)),(9,M 19),(11,H 11 0),(12,iv BH)] [(11,Oc [Z (W 1 (eL 1 eI) x40)]),(19,Oa [⟨.dp 0,0,0,W 1 (eL 1 eI) (uh.set x55.toNat x76)⟩,Z (W 1 (eL 1 eI) ([]:List (List Int))),C (I aW),C (I 10),Z (W 1 eI ([]:List Int)),C (I 0),C (I eU),C (V false)])]) (t j j (oMv j j)<|t j j (oMv j j)<|t j j (oMv j j)<|t j j (oMv j j)<|t j j (oMv j j)<|t j j (oMv j j)<|t j j (oMv j j)<|t j j (oMv j j)<|t j j (Am j QX uG j j j j)<|t j j (IZ (cs:=[.im 0 _]) j oz j j j j (fA QX) j j)<|t j j (gq j ahn fP j j)<|t j j (oLd (cs:=[.im 0 _]) j tF2 j j)<|sK (O:=[11]) j j j (dN z27 j (Am j QX uG j j j j))<|sK (O:=[11]) j j j (dN z27 j (IZ (cs:=[.im 0 _]) j oz j j j j (fA QX) j j))<|t j j (gq j aff fP j j)<|t j j (oLd (cs:=[.im 0 _]) j tF2 j j)<|sK (O:=[19]) j j j (dN z27 j (oNl j j j))<|sK (O:=[19]) j j j (dN z27 j (oFA (r':=.mp 19 0 0) j xQ j j))<|sK (O:=[19]) j j j (dN z27 j (oLd (cs:=[.own 19 0 0]) j zo j j))<|sK (O:=[11]) j j j (dN z27 j (Am j QX uG j j j j))<|sK (O:=[11]) j j j (dN z27 j (IZ (cs:=[.im 0 _]) j oz j j j j (fA QX) j j))<|t j j (gq j aff fP j j)<|t j j (oLd (cs:=[.im 0 _]) j tF2 j j)<|sK (O:=[19]) j j j (dN z27 j (Hu j qj uG j j j j (fun e=>nomatch e)))<|sK (O:=[19]) j j j (dN z27 j (aes (cs:=[.inr 19 0 0 _ 0 0]) j oz j j j (fA qj) j j))<|sF (dN z27 j (oNl j j j)) (kY ⟨j,trivial⟩ (kY ⟨j,trivial⟩ (kY ⟨j,trivial⟩ (kY ⟨j,trivial⟩ (kY ⟨j,trivial⟩ (kY ⟨j,trivial⟩ (kY ⟨j,trivial⟩ (kY ⟨j,trivial⟩ (kY ⟨j,trivial⟩ trivial))))))))) (sF (dN z27 j (oFA (r':=.mp 19 0 0) j xQ j j)) (kY ⟨j,trivial⟩ (kY ⟨j,trivial⟩ (kY ⟨j,trivial⟩ (kY ⟨j,trivial⟩ (kY ⟨j,trivial⟩ (kY ⟨j,trivial⟩ (kY ⟨j,trivial⟩ (kY ⟨j,trivial⟩ (kY ⟨j,trivial⟩ trivial))))))))) (sF (dN z27 j (oLd (cs:=[.own 19 0 0]) j zo j j)) (kY ⟨j,trivial⟩ (kY ⟨j,trivial⟩ (kY ⟨j,trivial⟩ (kY ⟨j,trivial⟩ (kY ⟨j,trivial⟩ (kY ⟨j,trivial⟩ (kY ⟨j,trivial⟩ (kY ⟨j,trivial⟩ (kY ⟨j,trivial⟩ trivial))))))))) (sS (dN z27 j (oBS (es:=List.map eI ([x73]:List Int)) j fP j (ptC j (fxI fx0) j pt0) (eG j fun _=>j))) (kY ⟨j,trivial⟩ (kY ⟨j,trivial⟩ (kY ⟨j,trivial⟩ (kY ⟨j,trivial⟩ (kY ⟨j,trivial⟩ (kY ⟨j,trivial⟩ (kY ⟨j,trivial⟩ (kY ⟨j,trivial⟩ (kY ⟨j,trivial⟩ trivial))))))))) (sS (dN z27 j (KH (en:=eI) (M:=([x73]:List Int)) j Jl j fP j j lX (.inl ⟨_,j⟩) j j j (fA qj) j j (kJ j j) (eG j fun _=>j))) (kN j (kN j (kN j (kN j (kN j (kN j (kN j (kY ⟨j,trivial⟩ (kY ⟨j,trivial⟩ trivial))))))))) (t j j (Hu j qj uG j j j j (fun e=>nomatch e))<|sS (dN z27 j (KG (v':=x76) oz j j j j (tkO j j tk0) j j (fA qj) j)) (kN j (kN j (kN j (kN j (kN j (kN j (kN j (kN j (kN j trivial))))))))) (sD (by kernel_rfl))))) (sS (dN z27 j (oBS (es:=List.map eI ([x73]:List Int)) j fP j (ptC j (fxI fx0) j pt0) (eG j fun _=>j))) (kY ⟨j,trivial⟩ (kY ⟨j,trivial⟩ (kY ⟨j,trivial⟩ (kY ⟨j,trivial⟩ (kY ⟨j,trivial⟩ (kY ⟨j,trivial⟩ (kY ⟨j,trivial⟩ (kY ⟨j,trivial⟩ (kY ⟨j,trivial⟩ trivial))))))))) (sF (dN z27 j (oLd (cs:=[.own 19 0 0]) j zo j j)) (kY ⟨j,trivial⟩ (kY ⟨j,trivial⟩ (kY ⟨j,trivial⟩ (kY ⟨j,trivial⟩ (kY ⟨j,trivial⟩ (kY ⟨j,trivial⟩ (kY ⟨j,trivial⟩ (kY ⟨j,trivial⟩ (kY ⟨j,trivial⟩ trivial))))))))) (sS (dN z27 j (KH (en:=eI) (M:=([x73]:List Int)) j Jl j fP j j lX (.inl ⟨_,j⟩) j j j (fA qj) j j (kJ j j) (eG j fun _=>j))) (kN j (kN j (kN j (kN j (kN j (kN j (kN j (kY ⟨j,trivial⟩ (kY ⟨j,trivial⟩ trivial))))))))) (t j j (Hu j qj uG j j j j (fun e=>nomatch e))<|sS (dN z27 j (KG (v':=x76) oz j j j j (tkO j j tk0) j j (fA qj) j)) (kN j (kN j (kN j (kN j (kN j (kN j (kN j (kN j (kN j trivial))))))))) (sD (by kernel_rfl)))) (sS (dN z27 j (KH (en:=eI) (M:=([x73]:List Int)) j Jl j fP j j lX (.inl ⟨_,j⟩) j j j (fA qj) j j (kJ j j) (eG j fun _=>j))) (kN j (kN j (kN j (kN j (kN j (kN j (kN j (kY ⟨j,trivial⟩ (kY ⟨j,trivial⟩ trivial))))))))) (sS (dN z27 j (oLd (cs:=[.own 19 0 0]) j zo j j)) (kY ⟨j,trivial⟩ (kY ⟨j,trivial⟩ (kY ⟨j,trivial⟩ (kY ⟨j,trivial⟩ (kY ⟨j,trivial⟩ (kY ⟨j,trivial⟩ (kY ⟨j,trivial⟩ (kY ⟨j,trivial⟩ (kY ⟨j,trivial⟩ trivial))))))))) (t j j (Hu j qj uG j j j j (fun e=>nomatch e))<|sS (dN z27 j (KG (v':=x76) oz j j j j (tkO j j tk0) j j (fA qj) j)) (kN j (kN j (kN j (kN j (kN j (kN j (kN j (kN j (kN j trivial))))))))) (sD (by kernel_rfl)))))))) (sS (dN z27 j (oBS (es:=List.map eI ([x73]:List Int)) j fP j (ptC j (fxI fx0) j pt0) (eG j fun _=>j))) (kY ⟨j,trivial⟩ (kY ⟨j,trivial⟩ (kY ⟨j,trivial⟩ (kY ⟨j,trivial⟩ (kY ⟨j,trivial⟩ (kY ⟨j,trivial⟩ (kY ⟨j,trivial⟩ (kY ⟨j,trivial⟩ (kY ⟨j,trivial⟩ trivial))))))))) (sF (dN z27 j (oFA (r':=.mp 19 0 0) j xQ j j)) (kY ⟨j,trivial⟩ (kY ⟨j,trivial⟩ (kY ⟨j,trivial⟩ (kY ⟨j,trivial⟩ (kY ⟨j,trivial⟩ (kY ⟨j,trivial⟩ (kY ⟨j,trivial⟩ (kY ⟨j,trivial⟩ (kY ⟨j,trivial⟩ trivial))))))))) (sF (dN z27 j (oLd (cs:=[.own 19 0 0]) j zo j j)) (kY ⟨j,trivial⟩ (kY ⟨j,trivial⟩ (kY ⟨j,trivial⟩ (kY ⟨j,trivial⟩ (kY ⟨j,trivial⟩ (kY ⟨j,trivial⟩ (kY ⟨j,trivial⟩ (kY ⟨j,trivial⟩ (kY ⟨j,trivial⟩ trivial))))))))) (sS (dN z27 j (KH (en:=eI) (M:=([x73]:List Int)) j Jl j fP j j lX (.inl ⟨_,j⟩) j j j (fA qj) j j (kJ j j) (eG j fun _=>j))) (kN j (kN j (kN j (kN j (kN j (kN j (kN j (kY ⟨j,trivial⟩ (kY ⟨j,trivial⟩ trivial))))))))) (t j j (Hu j qj uG j j j j (fun e=>nomatch e))<|sS (dN z27 j (KG (v':=x76) oz j j j j (tkO j j tk0) j j (fA qj) j)) (kN j (kN j (kN j (kN j (kN j (kN j (kN j (kN j (kN j trivial))))))))) (sD (by kernel_rfl)))) (sS (dN z27 j (KH (en:=eI) (M:=([x73]:List Int)) j Jl j fP j j lX (.inl ⟨_,j⟩) j j j (fA qj) j j (kJ j j) (eG j fun _=>j))) (kN j (kN j (kN j (kN j (kN j (kN j (kN j (kY ⟨j,trivial⟩ (kY ⟨j,trivial⟩ trivial))))))))) (sS (dN z27 j (oLd (cs:=[.own 19 0 0]) j zo j j)) (kY ⟨j,trivial⟩ (kY ⟨j,trivial⟩ (kY ⟨j,trivial⟩ (kY ⟨j,trivial⟩ (kY ⟨j,trivial⟩ (kY ⟨j,trivial⟩ (kY ⟨j,trivial⟩ (kY ⟨j,trivial⟩ (kY ⟨j,trivial⟩ trivial))))))))) (t j j (Hu j qj uG j j j j (fun e=>nomatch e))<|sS (dN z27 j (KG (v':=x76) oz j j j j (tkO j j tk0) j j (fA qj) j)) (kN j (kN j (kN j (kN j (kN j (kN j (kN j (kN j (kN j trivial))))))))) (sD (by kernel_rfl)))))) (sS (dN z27 j (KH (en:=eI) (M:=([x73]:List Int)) j Jl j fP j j lX (.inl ⟨_,j⟩) j j j (fA qj) j j (kJ j j) (eG j fun _=>j))) (kN j (kN j (kN j (kN j (kN j (kN j (kN j (kY ⟨j,trivial⟩ (kY ⟨j,trivial⟩ trivial))))))))) (sS (dN z27 j (oFA (r':=.mp 19 0 0) j xQ j j)) (kY ⟨j,trivial⟩ (kY ⟨j,trivial⟩ (kY ⟨j,trivial⟩ (kY ⟨j,trivial⟩ (kY ⟨j,trivial⟩ (kY ⟨j,trivial⟩ (kY ⟨j,trivial⟩ (kY ⟨j,trivial⟩ (kY ⟨j,trivial⟩ trivial))))))))) (sS (dN z27 j (oLd (cs:=[.own 19 0 0]) j zo j j)) (kY ⟨j,trivial⟩ (kY ⟨j,trivial⟩ (kY ⟨j,trivial⟩ (kY ⟨j,trivial⟩ (kY ⟨j,trivial⟩ (kY ⟨j,trivial⟩ (kY ⟨j,trivial⟩ (kY ⟨j,trivial⟩ (kY ⟨j,trivial⟩ trivial))))))))) (t j j (Hu j qj uG j j j j (fun e=>nomatch e))<|sS (dN z27 j (KG (v':=x76) oz j j j j (tkO j j tk0) j j (fA qj) j)) (kN j (kN j (kN j (kN j (kN j (kN j (kN j (kN j (kN j trivial))))))))) (sD (by kernel_rfl))))))))) (sS (dN z27 j (oBS (es:=List.map eI ([x73]:List Int)) j fP j (ptC j (fxI fx0) j pt0) (eG j fun _=>j))) (kY ⟨j,trivial⟩ (kY ⟨j,trivial⟩ (kY ⟨j,trivial⟩ (kY ⟨j,trivial⟩ (kY ⟨j,trivial⟩ (kY ⟨j,trivial⟩ (kY ⟨j,trivial⟩ (kY ⟨j,trivial⟩ (kY ⟨j,trivial⟩ trivial))))))))) (sF (dN z27 j (oNl j j j)) (kY ⟨j,trivial⟩ (kY ⟨j,trivial⟩ (kY ⟨j,trivial⟩ (kY ⟨j,trivial⟩ (kY ⟨j,trivial⟩ (kY ⟨j,trivial⟩ (kY ⟨j,trivial⟩ (kY ⟨j,trivial⟩ (kY ⟨j,trivial⟩ trivial))))))))) (sF (dN z27 j (oFA (r':=.mp 19 0 0) j xQ j j)) (kY ⟨j,trivial⟩ (kY ⟨j,trivial⟩ (kY ⟨j,trivial⟩ (kY ⟨j,trivial⟩ (kY ⟨j,trivial⟩ (kY ⟨j,trivial⟩ (kY ⟨j,trivial⟩ (kY ⟨j,trivial⟩ (kY ⟨j,trivial⟩ trivial))))))))) (sF (dN z27 j (oLd (cs:=[.own 19 0 0]) j zo j j)) (kY ⟨j,trivial⟩ (kY ⟨j,trivial⟩ (kY ⟨j,trivial⟩ (kY ⟨j,trivial⟩ (kY ⟨j,trivial⟩ (kY ⟨j,trivial⟩ (kY ⟨j,trivial⟩ (kY ⟨j,trivial⟩ (kY ⟨j,trivial⟩ trivial))))))))) (sS (dN z27 j (KH (en:=eI) (M:=([x73]:List Int)) j Jl j fP j j lX (.inl ⟨_,j⟩) j j j (fA qj) j j (kJ j j) (eG j fun _=>j))) (kN j (kN j (kN j (kN j (kN j (kN j (kN j (kY ⟨j,trivial⟩ (kY ⟨j,trivial⟩ trivial))))))))) (t j j (Hu j qj uG j j j j (fun e=>nomatch e))<|sS (dN z27 j (KG (v':=x76) oz j j j j (tkO j j tk0) j j (fA qj) j)) (kN j (kN j (kN j (kN j (kN j (kN j (kN j (kN j (kN j trivial))))))))) (sD (by kernel_rfl)))) (sS (dN z27 j (KH (en:=eI) (M:=([x73]:List Int)) j Jl j fP j j lX (.inl ⟨_,j⟩) j j j (fA qj) j j (kJ j j) (eG j fun _=>j))) (kN j (kN j (kN j (kN j (kN j (kN j (kN j (kY ⟨j,trivial⟩ (kY ⟨j,trivial⟩ trivial))))))))) (sS (dN z27 j (oLd (cs:=[.own 19 0 0]) j zo j j)) (kY ⟨j,trivial⟩ (kY ⟨j,trivial⟩ (kY ⟨j,trivial⟩ (kY ⟨j,trivial⟩ (kY ⟨j,trivial⟩ (kY ⟨j,trivial⟩ (kY ⟨j,trivial⟩ (kY ⟨j,trivial⟩ (kY ⟨j,trivial⟩ trivial))))))))) (t j j (Hu j qj uG j j j j (fun e=>nomatch e))<|sS (dN z27 j (KG (v':=x76) oz j j j j (tkO j j tk0) j j (fA qj) j)) (kN j (kN j (kN j (kN j (kN j (kN j (kN j (kN j (kN j trivial))))))))) (sD (by kernel_rfl)))))) (sS (dN z27 j (KH (en:=eI) (M:=([x73]:List Int)) j Jl j fP j j lX (.inl ⟨_,j⟩) j j j (fA qj) j j (kJ j j) (eG j fun _=>j))) (kN j (kN j (kN j (kN j (kN j (kN j (kN j (kY ⟨j,trivial⟩ (kY ⟨j,trivial⟩ trivial))))))))) (sS (dN z27 j (oFA (r':=.mp 19 0 0) j xQ j j)) (kY ⟨j,trivial⟩ (kY ⟨j,trivial⟩ (kY ⟨j,trivial⟩ (kY ⟨j,trivial⟩ (kY ⟨j,trivial⟩ (kY ⟨j,trivial⟩ (kY ⟨j,trivial⟩ (kY ⟨j,trivial⟩ (kY ⟨j,trivial⟩ trivial))))))))) (sS (dN z27 j (oLd (cs:=[.own 19 0 0]) j zo j j)) (kY ⟨j,trivial⟩ (kY ⟨j,trivial⟩ (kY ⟨j,trivial⟩ (kY ⟨j,trivial⟩ (kY ⟨j,trivial⟩ (kY ⟨j,trivial⟩ (kY ⟨j,trivial⟩ (kY ⟨j,trivial⟩ (kY ⟨j,trivial⟩ trivial))))))))) (t j j (Hu j qj uG j j j j (fun e=>nomatch e))<|sS (dN z27 j (KG (v':=x76) oz j j j j (tkO j j tk0) j j (fA qj) j)) (kN j (kN j (kN j (kN j (kN j (kN j (kN j (kN j (kN j trivial))))))))) (sD (by kernel_rfl))))))) (sS (dN z27 j (KH (en:=eI) (M:=([x73]:List Int)) j Jl j fP j j lX (.inl ⟨_,j⟩) j j j (fA qj) j j (kJ j j) (eG j fun _=>j))) (kN j (kN j (kN j (kN j (kN j (kN j (kN j (kY ⟨j,trivial⟩ (kY ⟨j,trivial⟩ trivial))))))))) (sS (dN z27 j (oNl j j j)) (kY ⟨j,trivial⟩ (kY ⟨j,trivial⟩ (kY ⟨j,trivial⟩ (kY ⟨j,trivial⟩ (kY ⟨j,trivial⟩ (kY ⟨j,trivial⟩ (kY ⟨j,trivial⟩ (kY ⟨j,trivial⟩ (kY ⟨j,trivial⟩ trivial))))))))) (sS (dN z27 j (oFA (r':=.mp 19 0 0) j xQ j j)) (kY ⟨j,trivial⟩ (kY ⟨j,trivial⟩ (kY ⟨j,trivial⟩ (kY ⟨j,trivial⟩ (kY ⟨j,trivial⟩ (kY ⟨j,trivial⟩ (kY ⟨j,trivial⟩ (kY ⟨j,trivial⟩ (kY ⟨j,trivial⟩ trivial))))))))) (sS (dN z27 j (oLd (cs:=[.own 19 0 0]) j zo j j)) (kY ⟨j,trivial⟩ (kY ⟨j,trivial⟩ (kY ⟨j,trivial⟩ (kY ⟨j,trivial⟩ (kY ⟨j,trivial⟩ (kY ⟨j,trivial⟩ (kY ⟨j,trivial⟩ (kY ⟨j,trivial⟩ (kY ⟨j,trivial⟩ trivial))))))))) (t j j (Hu j qj uG j j j j (fun e=>nomatch e))<|sS (dN z27 j (KG (v':=x76) oz j j j j (tkO j j tk0) j j (fA qj) j)) (kN j (kN j (kN j (kN j (kN j (kN j (kN j (kN j (kN j trivial))))))))) (sD (by kernel_rfl))))))))))<|Unw.blk<|us<|g0 j j (q (oMv j j)<|q (oBi j j j j)<|q (ae j j)<|nl)<|Unw.nil<|?_
    cases h
    exact ⟨j,(by kernel_rfl)⟩
   ·refine Go.exit<|ux<|Unw.nil<|?_
    cases h
    exact ⟨j,(by kernel_rfl)⟩
  ·rintro ⟨e,st⟩ hp
   obtain ⟨jP,rfl⟩:∃y,y=o:=⟨o,rfl⟩
   obtain ⟨he,hst⟩:=hp
   obtain rfl:e= .exit 2:=he
   refine Unw.iU<|us<|gs<|gs<|g2 c27 j j hst (q (ae j j)<|nl)<|us<|Go.block<|?_
   obtain ⟨o,hl,h⟩:=bs h
   refine gl c27 j _ (fun (s:(Int×(List (List Int))))=>match s with | (o9,oC)=>mk [(1,D 2 (W 3 au aK)),(9,M 19),(13,iv o9)] [(19,Oa [⟨.dp 0,0,0,W 1 (eL 1 eI) jP⟩,Z (W 1 (eL 1 eI) oC),C (I aW),C (I 10),Z (W 1 eI ([]:List Int)),C (I 0),C (I eU),C (V false)])]) (fun (wJ:(List (List Int))) (p:Ex×St)=>p.1= .exit 4∧p.2.norm ([9],[19])=mk [(9,M 19)] [(19,Oa [⟨.dp 0,0,0,W 1 (eL 1 eI) jP⟩,Z (W 1 (eL 1 eI) wJ),C (I aW),C (I 10),Z (W 1 eI ([]:List Int)),C (I 0),C (I eU),C (V false)])]) hl (by kernel_rfl) ?_ ?_ ?_
   ·intro o p hp e
    exact nomatch (hp.1.symm.trans e)
   ·rintro ⟨o9,oC⟩ o h
    unfold pg at h
    dsimp only at h
    refine gs<|gs<|g0 j j (q (oMv j j)<|q (oMv j j)<|q (gJ j j Gw j)<|q (oBi j j j j)<|nl)<|us<|gc h j ah (fun MJ h=>?_) fun MJ h=>?_
    ·refine Go.skip<|us<|gs<|Go.block<|gs<|g0 j j (q (oBS (es:=List.map eI ([]:List Int)) j fP j pt0 (eG j fun _=>j))<|q (jX j j j j j)<|nl)<|us<|gs<|gs<|g0 j j (q (ae j j)<|nl)<|us<|Go.block<|?_
     obtain ⟨o,hl,h⟩:=bs h
     refine gl c27 j _ (fun (s:(Int×(List Int)))=>match s with | (yJ,wU)=>mk [(1,D 2 (W 3 au aK)),(9,M 19),(13,iv o9),(14,H 14 0),(15,iv yJ)] [(14,Oc [Z (W 1 eI wU)]),(19,Oa [⟨.dp 0,0,0,W 1 (eL 1 eI) jP⟩,Z (W 1 (eL 1 eI) oC),C (I aW),C (I 10),Z (W 1 eI ([]:List Int)),C (I 0),C (I eU),C (V false)])]) (fun (pV:(List Int)) (p:Ex×St)=>p.1= .exit 6∧p.2.norm ([1,9,13,14],[14,19])=mk [(1,D 2 (W 3 au aK)),(9,M 19),(13,iv o9),(14,H 14 0)] [(14,Oc [Z (W 1 eI pV)]),(19,Oa [⟨.dp 0,0,0,W 1 (eL 1 eI) jP⟩,Z (W 1 (eL 1 eI) oC),C (I aW),C (I 10),Z (W 1 eI ([]:List Int)),C (I 0),C (I eU),C (V false)])]) hl (by kernel_rfl) ?_ ?_ ?_
     ·intro o p hp e
      exact nomatch (hp.1.symm.trans e)
     ·rintro ⟨yJ,wU⟩ o h
      unfold o8 at h
      dsimp only at h
      refine gs<|gs<|g0 j j (q (oMv j j)<|q (oMv j j)<|q (gJ j j Gw j)<|q (oBi j j j j)<|nl)<|us<|gc h j ah (fun A8 h=>?_) fun A8 h=>?_
      ·refine Go.skip<|us<|gs<|Go.block<|?_
       obtain ⟨x94,adt,h⟩:=bs h
       obtain ⟨x97,adu,h⟩:=bs h
       obtain ⟨x98,hx98,h⟩:=bs h
       obtain ⟨x100,afg,h⟩:=bs h
       refine gd c27 j j j j (mk [(1,D 2 (W 3 au aK)),(9,M 19),(13,iv o9),(14,H 14 0),(15,iv yJ)] [(14,Oc [Z (W 1 eI x100)]),(19,Oa [⟨.dp 0,0,0,W 1 (eL 1 eI) jP⟩,Z (W 1 (eL 1 eI) oC),C (I aW),C (I 10),Z (W 1 eI ([]:List Int)),C (I 0),C (I eU),C (V false)])]) (t j j (oMv j j)<|t j j (oMv j j)<|t j j (oMv j j)<|t j j (gq j adt Ic j j)<|t j j (oMv j j)<|t j j (oMv j j)<|t j j (gq j adu Ic j j)<|sS (dN z27 j (oCa (xs:=[.v false [.im 2 _],.v false [.im 2 _]]) (vs:=[(false,[.im 0 _])]) (v:=.v false [.im 0 _]) (Fh hx98) (.inl j) j Ti j (ppC j (ppC j pp0)) j j pb0 j j j)) trivial (sS (dN z27 j (oBS (es:=List.map eI ([x98]:List Int)) j fP j (ptC j (fxI fx0) j pt0) (eG j fun _=>j))) trivial (sS (dN z27 j (EU (en:=eI) (M:=([x98]:List Int)) j afg j fP j j lX (.inl ⟨_,j⟩) j j j j (kJ j j) (eG j fun _=>j))) trivial (sS (dN z27 j (jX j j j j j)) trivial (sD (by kernel_rfl))))))<|Unw.blk<|us<|g0 j j (q (oMv j j)<|q (oBi j j j j)<|q (ae j j)<|nl)<|Unw.nil<|?_
       cases h
       exact ⟨j,(by kernel_rfl)⟩
      ·refine Go.exit<|ux<|Unw.nil<|?_
       cases h
       exact ⟨j,(by kernel_rfl)⟩
     ·rintro ⟨e,st⟩ hp
      obtain ⟨pV,rfl⟩:∃y,y=o:=⟨o,rfl⟩
      obtain ⟨he,hst⟩:=hp
      obtain rfl:e= .exit 6:=he
      refine Unw.iU<|us<|?_
      obtain ⟨acQ,afh,h⟩:=bs h
      refine g2 c27 j j hst (q (oMv j j)<|q (oMv j j)<|q (oNl j j j)<|q (oFA (r':=.mp 19 0 1) j O4 j j)<|q (oLd (cs:=[.own 19 0 1]) j zo j j)<|q (oMv j j)<|q (oBS (es:=List.map (eL 1 eI) ([pV]:List (List Int))) j uG j (ptC j (fxO j j fx0) j pt0) (Dk j))<|q (EU (en:=(eL 1 eI)) (M:=([pV]:List (List Int))) j afh j uG j j TA (.inl ⟨_,j⟩) j j j j (kJ j j) (Dk j))<|q (oNl j j j)<|q (oFA (r':=.mp 19 0 1) j O4 j j)<|q (oSt zo j j j (tkO j j tk0) j j j)<|nl)<|Unw.blk<|us<|g1 j j (mk [(1,D 2 (W 3 au aK)),(9,M 19),(13,iv o9)] [(19,Oa [⟨.dp 0,0,0,W 1 (eL 1 eI) jP⟩,Z (W 1 (eL 1 eI) acQ),C (I aW),C (I 10),Z (W 1 eI ([]:List Int)),C (I 0),C (I eU),C (V false)])]) (q (oMv j j)<|q (oBi j j j j)<|q (ae j j)<|nl)<|Unw.nil<|?_
      cases h
      exact ⟨j,(by kernel_rfl)⟩
    ·refine Go.exit<|ux<|Unw.nil<|?_
     cases h
     exact ⟨j,(by kernel_rfl)⟩
   ·rintro ⟨e,st⟩ hp
    obtain ⟨wJ,rfl⟩:∃y,y=o:=⟨o,rfl⟩
    obtain ⟨he,hst⟩:=hp
    obtain rfl:e= .exit 4:=he
    refine Unw.iU<|us<|gs<|g2 c27 j j hst (q (oMv j j)<|q (Y0 j j)<|nl)<|us<|Go.ret (Unw.ret ?_)
    cases h
    exact fr agB j
theorem ML {cu:(List Int)} {n_1:Int} {r:(List Int)} (h:wW cu n_1=some r):FX 48 [.im 2 false [W 1 eI cu],.im 2 false [I n_1]] (B0 [(false,[.ow 0 1 (List.map eI r)])]):=by
 unfold wW at h
 refine gn 49 Tryz.func48 rfl ?_
 refine gs<|g0 j j (q (vG j j E5)<|nl)<|us<|gs<|g0 j j (q (oBS (es:=List.map eI ([]:List Int)) j fP j pt0 (eG j fun _=>j))<|q (jX j j j j j)<|nl)<|us<|gs<|g0 j j (q (ae j j)<|nl)<|us<|gs<|gs<|g0 j j (q (ae j j)<|nl)<|us<|Go.block<|?_
 obtain ⟨o,hl,h⟩:=bs h
 refine gl c48 j _ (fun (s:(Bool×Int×(List Int)))=>match s with | (uB,uj,eH)=>mk [(0,D 2 (W 1 eI cu)),(1,iv n_1),(5,H 5 0),(6,bv uB),(7,iv uj)] [(5,Oc [Z (W 1 eI eH)])]) (fun (o:(Bool×(List Int))) (p:Ex×St)=>match o with | (uC,jC)=>p.1= .exit 0∧p.2.norm ([1,5,6],[5])=mk [(1,iv n_1),(5,H 5 0),(6,bv uC)] [(5,Oc [Z (W 1 eI jC)])]) hl (by kernel_rfl) ?_ ?_ ?_
 ·intro o p hp e
  obtain ⟨uC,jC⟩:=o
  exact nomatch (hp.1.symm.trans e)
 ·rintro ⟨uB,uj,eH⟩ o h
  unfold gm at h
  dsimp only at h
  refine gs<|gs<|g0 j j (q (oMv j j)<|q (oMv j j)<|q (gJ j j lX j)<|q (oBi j j j j)<|nl)<|us<|gc h j ah (fun hc12 h=>?_) fun hc12 h=>?_
  ·refine Go.skip<|us<|gs<|Go.block<|gs<|gs<|?_
   obtain ⟨OT,zf,h⟩:=bs h
   refine gX c48 j j j (mk [(0,D 2 (W 1 eI cu)),(1,iv n_1),(5,H 5 0),(6,bv uB),(7,iv uj),(24,bv OT)] [(5,Oc [Z (W 1 eI eH)])]) ?_ ?_
   ·refine xq (oMv j j)<|xq (oUn j j j)<|xq (oMv j j)<|?_
    refine ic zf (fun hc13 zf=>?_) fun hc13 zf=>?_
    ·cases zf
     exact aj j j (nF (iR.2 hc13)) j<|aj j j (nF (iR.2 hc13)) j<|aj j j (nF (iR.2 hc13)) j<|aj j j (nF (iR.2 hc13)) j<|aj j j (nF (iR.2 hc13)) j<|aj j j (nF (iR.2 hc13)) j<|xq (dP j j (nF (iR.2 hc13)) j)<|xn
    ·obtain ⟨x20,yu,zf⟩:=bs zf
     cases zf
     exact xqT j j (nT (byF iR hc13)) (oMv j j)<|xqT j j (nT (byF iR hc13)) (oMv j j)<|xqT j j (nT (byF iR hc13)) (gq j yu fP j j)<|xqT j j (nT (byF iR hc13)) (oLd (cs:=[.im 2 _]) j tF2 j j)<|xqT j j (nT (byF iR hc13)) (oMv j j)<|xqT j j (nT (byF iR hc13)) (oBi j j j j)<|xq (bG j j (nT (byF iR hc13)) j)<|xn
   ·refine us<|Go.join (fun st=>∃yM,∃yN,iY uj cu yM yN=some o∧st.norm ([0,1,5,6,7],[5])=mk [(0,D 2 (W 1 eI cu)),(1,iv n_1),(5,H 5 0),(6,bv yM),(7,iv uj)] [(5,Oc [Z (W 1 eI yN)])]) ?_ ?_
    ·rintro st ⟨yM,yN,h,hst⟩
     unfold iY at h
     refine us<|?_
     obtain ⟨x38,hx38,h⟩:=bs h
     obtain ⟨x41,Pq,h⟩:=bs h
     refine g2 c48 j j hst (q (oMv j j)<|q (oMv j j)<|q (oMv j j)<|q (gq j hx38 fP j j)<|q (oLd (cs:=[.im 2 _]) j tF2 j j)<|q (oBS (es:=List.map eI ([x38]:List Int)) j fP j (ptC j (fxI fx0) j pt0) (eG j fun _=>j))<|q (EU (en:=eI) (M:=([x38]:List Int)) j Pq j fP j j lX (.inl ⟨_,j⟩) j j j j (kJ j j) (eG j fun _=>j))<|q (jX j j j j j)<|nl)<|Unw.blk<|us<|g0 j j (q (oMv j j)<|q (oBi j j j j)<|q (ae j j)<|nl)<|Unw.nil<|?_
     cases h
     exact ⟨j,(by kernel_rfl)⟩
    ·intro K16
     refine gc h j iR (fun hc17 h=>?_) fun hc17 h=>?_
     ·refine gs<|g0 j j (q (ae j j)<|nl)<|us<|gs<|?_
      obtain ⟨x27,hx27,h⟩:=bs h
      refine g0 j j (q (oMv j j)<|q (oMv j j)<|q (gq j hx27 fP j j)<|q (oLd (cs:=[.im 2 _]) j tF2 j j)<|q (oMv j j)<|q (oBi j j j j)<|nl)<|us<|gc h j ah (fun hc18 h=>?_) fun hc18 h=>?_
      ·obtain ⟨x34,hx34,h⟩:=bs h
       exact g0 j j (q (oMv j j)<|q (oMv j j)<|q (oBS (es:=List.map eI ([n_1]:List Int)) j fP j (ptC j (fxI fx0) j pt0) (eG j fun _=>j))<|q (EU (en:=eI) (M:=([n_1]:List Int)) j hx34 j fP j j lX (.inl ⟨_,j⟩) j j j j (kJ j j) (eG j fun _=>j))<|q (jX j j j j j)<|nl)<|K16 _ ⟨true,x34,h,(by kernel_rfl)⟩
      ·exact Go.skip<|K16 _ ⟨true,eH,h,(by kernel_rfl)⟩
     ·exact Go.skip<|K16 _ ⟨uB,eH,h,(by kernel_rfl)⟩
  ·refine Go.exit<|ux<|Unw.nil<|?_
   cases h
   exact ⟨j,(by kernel_rfl)⟩
 ·rintro ⟨e,st⟩ hp
  obtain ⟨uC,jC⟩:=o
  dsimp only at h
  obtain ⟨he,hst⟩:=hp
  obtain rfl:e= .exit 0:=he
  refine Unw.iU<|us<|gs<|gs<|g2 c48 j j hst (q (oMv j j)<|q (oUn j j j)<|nl)<|us<|Go.join (fun st=>∃yL,pq yL=some r∧st.norm ([5],[5])=mk [(5,H 5 0)] [(5,Oc [Z (W 1 eI yL)])]) ?_ ?_
  ·rintro st ⟨yL,h,hst⟩
   unfold pq at h
   refine us<|gs<|g2 c48 j j hst (q (oMv j j)<|q (jX j j j j j)<|nl)<|us<|Go.ret (Unw.ret ?_)
   cases h
   exact fr agM j
  ·intro K10
   by_cases MJ:uC=true
   ·rw [if_pos MJ] at h
    exact gF j (nF (iR.2 MJ))<|Go.skip<|K10 _ ⟨jC,h,(by kernel_rfl)⟩
   ·rw [if_neg MJ] at h
    refine gT j (nT (byF iR MJ))<|?_
    obtain ⟨x47,TB,h⟩:=bs h
    exact g0 j j (q (oMv j j)<|q (oMv j j)<|q (oBS (es:=List.map eI ([n_1]:List Int)) j fP j (ptC j (fxI fx0) j pt0) (eG j fun _=>j))<|q (EU (en:=eI) (M:=([n_1]:List Int)) j TB j fP j j lX (.inl ⟨_,j⟩) j j j j (kJ j j) (eG j fun _=>j))<|q (jX j j j j j)<|nl)<|K10 _ ⟨x47,h,(by kernel_rfl)⟩
theorem MM {cu:(List Int)} {n_1:Int} {r:Bool} (h:wX cu n_1=some r):FX 49 [.im 2 false [W 1 eI cu],.im 2 false [I n_1]] (B0 [(false,[.im 0 (V r)])]):=by
 unfold wX at h
 refine gn 18 Tryz.func49 rfl ?_
 refine gs<|g0 j j (q (ae j j)<|nl)<|us<|gs<|gs<|g0 j j (q (ae j j)<|nl)<|us<|Go.block<|?_
 obtain ⟨o,hl,h⟩:=bs h
 refine gl c49 j _ (fun (aY:Int)=>mk [(0,D 2 (W 1 eI cu)),(1,iv n_1),(5,iv aY)] []) (fun (o:(Unit ⊕ Bool)) (p:Ex×St)=>match o with | (.inl _)=>p.1= .exit 0∧p.2.norm ([],[])=mk [] [] | (.inr r2)=>p.1= .ret∧fin Tryz.prog cfg 49 Tryz.f49 [.im 2 false [W 1 eI cu],.im 2 false [I n_1]] p.2=some (B0 [(false,[.im 0 (V r2)])])) hl (by kernel_rfl) ?_ ?_ ?_
 ·intro o p hp e
  rcases o with u | r2<;>exact nomatch (hp.1.symm.trans e)
 ·rintro aY o h
  unfold qE at h
  refine gs<|gs<|g0 j j (q (oMv j j)<|q (oMv j j)<|q (gJ j j lX j)<|q (oBi j j j j)<|nl)<|us<|gc h j ah (fun hc5 h=>?_) fun hc5 h=>?_
  ·refine Go.skip<|us<|gs<|Go.block<|gs<|?_
   obtain ⟨x14,vH,h⟩:=bs h
   refine g0 j j (q (oMv j j)<|q (oMv j j)<|q (gq j vH fP j j)<|q (oLd (cs:=[.im 2 _]) j tF2 j j)<|q (oMv j j)<|q (oBi j j j j)<|nl)<|us<|gc h j iEq (fun hc6 h=>?_) fun hc6 h=>?_
   ·refine gs<|g0 j j (q (ae j j)<|nl)<|us<|Go.ret (Unw.ret ?_)
    cases h
    exact ⟨j,(fo aeT j)⟩
   ·refine Go.skip<|Unw.blk<|us<|g0 j j (q (oMv j j)<|q (oBi j j j j)<|q (ae j j)<|nl)<|Unw.nil<|?_
    cases h
    exact ⟨j,(by kernel_rfl)⟩
  ·refine Go.exit<|ux<|Unw.nil<|?_
   cases h
   exact ⟨j,(by kernel_rfl)⟩
 ·rintro ⟨e,st⟩ hp
  rcases o with u | r2
  ·dsimp only at h
   obtain ⟨he,hst⟩:=hp
   obtain rfl:e= .exit 0:=he
   refine Unw.iU<|us<|gs<|g2 c49 j j hst (q (ae j j)<|nl)<|us<|Go.ret (Unw.ret ?_)
   cases h
   exact fr aeT j
  ·dsimp only at h
   obtain ⟨he,hfin⟩:=hp
   obtain rfl:e= .ret:=he
   cases h
   exact Unw.ret (fO hfin)
theorem BR {self:aH→Option (Bool×aH)} (ih:∀{x_0:aH} {r:(Bool×aH)},self x_0=some r→FX 28 [.ptr true [(.gone,W 1 (eL 1 eI) x_0.before),(.sh,W 1 (eL 1 eI) x_0.table),(.imm,I x_0.limit),(.imm,I x_0.most),(.sh,W 1 eI x_0.choice),(.imm,I x_0.nodes),(.imm,I x_0.budget),(.imm,V x_0.full)]] ([(false,[.im 0 (V r.1)])],[.ptr true [(.gone,W 1 (eL 1 eI) r.2.before),(.sh,W 1 (eL 1 eI) r.2.table),(.imm,I r.2.limit),(.imm,I r.2.most),(.sh,W 1 eI r.2.choice),(.imm,I r.2.nodes),(.imm,I r.2.budget),(.imm,V r.2.full)]])) {x_0:aH} {r:(Bool×aH)} (h:gu self x_0=some r):FX 28 [.ptr true [(.gone,W 1 (eL 1 eI) x_0.before),(.sh,W 1 (eL 1 eI) x_0.table),(.imm,I x_0.limit),(.imm,I x_0.most),(.sh,W 1 eI x_0.choice),(.imm,I x_0.nodes),(.imm,I x_0.budget),(.imm,V x_0.full)]] ([(false,[.im 0 (V r.1)])],[.ptr true [(.gone,W 1 (eL 1 eI) r.2.before),(.sh,W 1 (eL 1 eI) r.2.table),(.imm,I r.2.limit),(.imm,I r.2.most),(.sh,W 1 eI r.2.choice),(.imm,I r.2.nodes),(.imm,I r.2.budget),(.imm,V r.2.full)]]):=by
 unfold gu at h
 refine BA (A:=[(0,M 0)]) (B:=[(0,Od [C (W 1 (eL 1 eI) x_0.before),Z (W 1 (eL 1 eI) x_0.table),C (I x_0.limit),C (I x_0.most),Z (W 1 eI x_0.choice),C (I x_0.nodes),C (I x_0.budget),C (V x_0.full)])]) (nt:=148) rfl rfl Tryz.func28 rfl rfl rfl rfl ?_
 refine gs<|g0 j j (q (ae j j)<|nl)<|us<|gs<|g0 j j (q (oMv j j)<|q (oNl j j j)<|q (oFA (r':=.mp 0 0 4) j Dx j j)<|q (oLd (cs:=[.own 0 0 4]) j oz j j)<|q (Hr j j lX j j j (fun e=>nomatch e))<|q (ae j j)<|nl)<|us<|gs<|gs<|g0 j j (q (oMv j j)<|q (oMv j j)<|q (oNl j j j)<|q (oFA (r':=.mp 0 0 0) j xQ j j)<|q (oLd (cs:=[.im 0 _]) j zo j j)<|q (gJ j j TA j)<|q (oBi j j j j)<|nl)<|us<|gc h j iEq (fun hc1 h=>?_) fun hc1 h=>?_
 ·refine gs<|g0 j j (q (ae j j)<|nl)<|us<|Go.ret (Unw.ret ?_)
  cases h
  exact fr aba j
 ·refine Go.skip<|us<|gs<|gs<|g0 j j (q (ae j j)<|nl)<|us<|Go.block<|?_
  obtain ⟨o,hl,h⟩:=bs h
  refine gl c28 j _ (fun (s:(Int×(List (List Int))×(List (List Int))×Int×Int×(List Int)×Int×Int×Bool))=>match s with | (gp,bJ,bK,bM,bW,bP,cZ,dh,fE)=>mk [(0,M 0),(3,iv (x_0.choice.length:Int)),(4,iv gp)] [(0,Od [C (W 1 (eL 1 eI) bJ),Z (W 1 (eL 1 eI) bK),C (I bM),C (I bW),Z (W 1 eI bP),C (I cZ),C (I dh),C (V fE)])]) (fun (o:(((List (List Int))×(List (List Int))×Int×Int×(List Int)×Int×Int×Bool) ⊕ (Bool×aH))) (p:Ex×St)=>match o with | (.inl (wY,wZ,xe,xg,xh,xk,xm,xu))=>p.1= .exit 0∧p.2.norm ([],[0])=mk [] [(0,Od [C (W 1 (eL 1 eI) wY),Z (W 1 (eL 1 eI) wZ),C (I xe),C (I xg),Z (W 1 eI xh),C (I xk),C (I xm),C (V xu)])] | (.inr r2)=>p.1= .ret∧fin Tryz.prog cfg 28 Tryz.f28 [.ptr true [(.gone,W 1 (eL 1 eI) x_0.before),(.sh,W 1 (eL 1 eI) x_0.table),(.imm,I x_0.limit),(.imm,I x_0.most),(.sh,W 1 eI x_0.choice),(.imm,I x_0.nodes),(.imm,I x_0.budget),(.imm,V x_0.full)]] p.2=some ([(false,[.im 0 (V r2.1)])],[.ptr true [(.gone,W 1 (eL 1 eI) r2.2.before),(.sh,W 1 (eL 1 eI) r2.2.table),(.imm,I r2.2.limit),(.imm,I r2.2.most),(.sh,W 1 eI r2.2.choice),(.imm,I r2.2.nodes),(.imm,I r2.2.budget),(.imm,V r2.2.full)]])) hl (by kernel_rfl) ?_ ?_ ?_
  ·intro o p hp e
   rcases o with ⟨wY,wZ,xe,xg,xh,xk,xm,xu⟩ | r2<;>exact nomatch (hp.1.symm.trans e)
  ·rintro ⟨gp,bJ,bK,bM,bW,bP,cZ,dh,fE⟩ o h
   unfold dB at h
   dsimp only at h
   refine gs<|gs<|g0 j j (q (oMv j j)<|q (oMv j j)<|q (oNl j j j)<|q (oFA (r':=.mp 0 0 1) j O4 j j)<|q (oLd (cs:=[.own 0 0 1]) j zo j j)<|q (Hr j j TA j j j (fun e=>nomatch e))<|q (oBi j j j j)<|nl)<|us<|gc h j ah (fun XZ h=>?_) fun XZ h=>?_
   ·refine Go.skip<|us<|gs<|Go.join (fun st=>∃AA,∃AB,∃AL,∃AO,∃AP,∃AQ,∃AU,∃AX,fK self gp AA AB AL AO AP AQ AU AX=some o∧st.norm ([0,3,4],[0])=mk [(0,M 0),(3,iv (x_0.choice.length:Int)),(4,iv gp)] [(0,Od [C (W 1 (eL 1 eI) AA),Z (W 1 (eL 1 eI) AB),C (I AL),C (I AO),Z (W 1 eI AP),C (I AQ),C (I AU),C (V AX)])]) ?_ ?_
    ·rintro st ⟨AA,AB,AL,AO,AP,AQ,AU,AX,h,hst⟩
     unfold fK at h
     refine us<|g2 c28 j j hst (q (oMv j j)<|q (oBi j j j j)<|q (ae j j)<|nl)<|Unw.nil<|?_
     cases h
     exact ⟨j,(by kernel_rfl)⟩
    ·intro K38
     refine Go.block<|gs<|g0 j j (q (oBS (es:=List.map eI ([]:List Int)) j fP j pt0 (eG j fun _=>j))<|q (jX j j j j j)<|nl)<|us<|gs<|gs<|g0 j j (q (ae j j)<|nl)<|us<|Go.block<|?_
     obtain ⟨o,hl,h⟩:=bs h
     refine gl c28 j _ (fun (s:(Int×(List Int)))=>match s with | (HY,yO)=>mk [(0,M 0),(3,iv (x_0.choice.length:Int)),(4,iv gp),(5,H 5 0),(6,iv HY)] [(0,Od [C (W 1 (eL 1 eI) bJ),Z (W 1 (eL 1 eI) bK),C (I bM),C (I bW),Z (W 1 eI bP),C (I cZ),C (I dh),C (V fE)]),(5,Oc [Z (W 1 eI yO)])]) (fun (oM:(List Int)) (p:Ex×St)=>p.1= .exit 2∧p.2.norm ([0,3,4,5],[0,5])=mk [(0,M 0),(3,iv (x_0.choice.length:Int)),(4,iv gp),(5,H 5 0)] [(0,Od [C (W 1 (eL 1 eI) bJ),Z (W 1 (eL 1 eI) bK),C (I bM),C (I bW),Z (W 1 eI bP),C (I cZ),C (I dh),C (V fE)]),(5,Oc [Z (W 1 eI oM)])]) hl (by kernel_rfl) ?_ ?_ ?_
     ·intro o p hp e
      exact nomatch (hp.1.symm.trans e)
     ·rintro ⟨HY,yO⟩ o h
      unfold fM at h
      dsimp only at h
      refine gs<|gs<|g0 j j (q (oMv j j)<|q (oMv j j)<|q (oBi j j j j)<|nl)<|us<|gc h j ah (fun VL h=>?_) fun VL h=>?_
      ·refine Go.skip<|us<|gs<|Go.block<|?_
       obtain ⟨x42,VJ,h⟩:=bs h
       obtain ⟨x44,aho,h⟩:=bs h
       refine g0 j j (q (oMv j j)<|q (oMv j j)<|q (oNl j j j)<|q (oFA (r':=.mp 0 0 4) j Dx j j)<|q (oLd (cs:=[.own 0 0 4]) j oz j j)<|q (oMv j j)<|q (Am j VJ fP j j j j)<|q (IZ (cs:=[.im 0 _]) j tF2 j j j j (fA VJ) j j)<|q (oCr (xs:=[.v false [.own 5 0 0],.v false [.im 0 _]]) (vs:=[(false,[.own 44 0 0])]) (v:=.v false [.own 44 0 0]) (c:=⟨.sh,0,_⟩) (cs:=[]) (ML aho) (.inl j) j VC j (ppC j (ppC j pp0)) j j pb0 j j j)<|q (jX j j j j j)<|nl)<|Unw.blk<|us<|g0 j j (q (oMv j j)<|q (oBi j j j j)<|q (ae j j)<|nl)<|Unw.nil<|?_
       cases h
       exact ⟨j,(by kernel_rfl)⟩
      ·refine Go.exit<|ux<|Unw.nil<|?_
       cases h
       exact ⟨j,(by kernel_rfl)⟩
     ·rintro ⟨e,st⟩ hp
      obtain ⟨oM,rfl⟩:∃y,y=o:=⟨o,rfl⟩
      obtain ⟨he,hst⟩:=hp
      obtain rfl:e= .exit 2:=he
      refine Unw.iU<|us<|gs<|?_
      obtain ⟨x47,TB,h⟩:=bs h
      refine gX c28 j j hst (mk [(0,M 0),(3,iv (x_0.choice.length:Int)),(4,iv gp),(7,bv (x47||(decide ((oM.length:Int) <bW))))] [(0,Od [C (W 1 (eL 1 eI) bJ),Z (W 1 (eL 1 eI) bK),C (I bM),C (I bW),Z (W 1 eI bP),C (I cZ),C (I dh),C (V fE)])]) ?_ ?_
      ·refine xq (oMv j j)<|xq (oMv j j)<|xq (oCa (xs:=[.v false [.own 5 0 0],.v false [.im 0 _]]) (vs:=[(false,[.im 0 _])]) (v:=.v false [.im 0 _]) (MM TB) (.inl j) j VD j (ppC j (ppC j pp0)) j j pb0 j j j)<|xq (oMv j j)<|?_
       by_cases ql:x47=true
       ·exact aj rfl rfl (iR.2 ql) rfl<|aj rfl rfl (iR.2 ql) rfl<|aj rfl rfl (iR.2 ql) rfl<|aj rfl rfl (iR.2 ql) rfl<|aj rfl rfl (iR.2 ql) rfl<|aj rfl rfl (iR.2 ql) rfl<|aj rfl rfl (iR.2 ql) rfl<|xq (bG rfl rfl (iR.2 ql) rfl)<|xq (ae rfl rfl)<|xn (Eq.trans (b:=(fun uk:Bool=>mk [(0,M 0),(3,iv (x_0.choice.length:Int)),(4,iv gp),(7,bv uk)] [(0,Od [C (W 1 (eL 1 eI) bJ),Z (W 1 (eL 1 eI) bK),C (I bM),C (I bW),Z (W 1 eI bP),C (I cZ),C (I dh),C (V fE)])]) true) (by kernel_rfl) (congrArg (fun uk:Bool=>mk [(0,M 0),(3,iv (x_0.choice.length:Int)),(4,iv gp),(7,bv uk)] [(0,Od [C (W 1 (eL 1 eI) bJ),Z (W 1 (eL 1 eI) bK),C (I bM),C (I bW),Z (W 1 eI bP),C (I cZ),C (I dh),C (V fE)])]) (by first | rfl | (simp [(iR.2 ql)];done) | (simp [(iR.2 ql)];omega))))
       ·exact xqT rfl rfl (byF iR ql) (oMv rfl rfl)<|xqT rfl rfl (byF iR ql) (Hr rfl rfl lX rfl rfl rfl (fun e=>nomatch e))<|xqT rfl rfl (byF iR ql) (oMv rfl rfl)<|xqT rfl rfl (byF iR ql) (oNl rfl rfl rfl)<|xqT rfl rfl (byF iR ql) (oFA (r':=.mp 0 0 3) rfl acZ rfl rfl)<|xqT rfl rfl (byF iR ql) (oLd (cs:=[.im 0 _]) rfl tF2 rfl rfl)<|xqT rfl rfl (byF iR ql) (oBi rfl rfl rfl rfl)<|xq (dP rfl rfl (byF iR ql) rfl)<|xq (ae rfl rfl)<|xn (Eq.trans (b:=(fun uk:Bool=>mk [(0,M 0),(3,iv (x_0.choice.length:Int)),(4,iv gp),(7,bv uk)] [(0,Od [C (W 1 (eL 1 eI) bJ),Z (W 1 (eL 1 eI) bK),C (I bM),C (I bW),Z (W 1 eI bP),C (I cZ),C (I dh),C (V fE)])]) (decide ((oM.length:Int) <bW))) (by kernel_rfl) (congrArg (fun uk:Bool=>mk [(0,M 0),(3,iv (x_0.choice.length:Int)),(4,iv gp),(7,bv uk)] [(0,Od [C (W 1 (eL 1 eI) bJ),Z (W 1 (eL 1 eI) bK),C (I bM),C (I bW),Z (W 1 eI bP),C (I cZ),C (I dh),C (V fE)])]) (by first | rfl | (simp [(byF iR ql)];done) | (simp [(byF iR ql)];omega))))
      ·refine us<|gs<|gs<|g0 j j (q (ae j j)<|nl)<|us<|Go.block<|?_
       obtain ⟨o,hl,h⟩:=bs h
       refine gl c28 j _ (fun (s:(Bool×Int))=>match s with | (kM,qh)=>mk [(0,M 0),(3,iv (x_0.choice.length:Int)),(4,iv gp),(7,bv kM),(8,iv qh)] [(0,Od [C (W 1 (eL 1 eI) bJ),Z (W 1 (eL 1 eI) bK),C (I bM),C (I bW),Z (W 1 eI bP),C (I cZ),C (I dh),C (V fE)])]) (fun (vk:Bool) (p:Ex×St)=>p.1= .exit 4∧p.2.norm ([0,3,4,7],[0])=mk [(0,M 0),(3,iv (x_0.choice.length:Int)),(4,iv gp),(7,bv vk)] [(0,Od [C (W 1 (eL 1 eI) bJ),Z (W 1 (eL 1 eI) bK),C (I bM),C (I bW),Z (W 1 eI bP),C (I cZ),C (I dh),C (V fE)])]) hl (by kernel_rfl) ?_ ?_ ?_
       ·intro o p hp e
        exact nomatch (hp.1.symm.trans e)
       ·rintro ⟨kM,qh⟩ o h
        unfold dQ at h
        dsimp only at h
        refine gs<|gs<|?_
        obtain ⟨x63,ahp,h⟩:=bs h
        refine gX c28 j j j (mk [(0,M 0),(3,iv (x_0.choice.length:Int)),(4,iv gp),(7,bv kM),(8,iv qh),(69,bv ((decide (qh< (x63.length:Int)))&&kM))] [(0,Od [C (W 1 (eL 1 eI) bJ),Z (W 1 (eL 1 eI) bK),C (I bM),C (I bW),Z (W 1 eI bP),C (I cZ),C (I dh),C (V fE)])]) ?_ ?_
        ·refine xq (oMv j j)<|xq (oMv j j)<|xq (oNl j j j)<|xq (oFA (r':=.mp 0 0 0) j xQ j j)<|xq (oLd (cs:=[.im 0 _]) j zo j j)<|xq (oMv j j)<|xq (gq j ahp uG j j)<|xq (oLd (cs:=[.im 0 _]) j oz j j)<|xq (gJ j j lX j)<|xq (oBi j j j j)<|xq (oMv j j)<|?_
         by_cases QY:qh< (x63.length:Int)
         ·exact xqT rfl rfl (ah.2 QY) (oMv rfl rfl)<|xq (bG rfl rfl (ah.2 QY) rfl)<|xn (Eq.trans (b:=(fun zg:Bool=>mk [(0,M 0),(3,iv (x_0.choice.length:Int)),(4,iv gp),(7,bv kM),(8,iv qh),(69,bv zg)] [(0,Od [C (W 1 (eL 1 eI) bJ),Z (W 1 (eL 1 eI) bK),C (I bM),C (I bW),Z (W 1 eI bP),C (I cZ),C (I dh),C (V fE)])]) kM) (by kernel_rfl) (congrArg (fun zg:Bool=>mk [(0,M 0),(3,iv (x_0.choice.length:Int)),(4,iv gp),(7,bv kM),(8,iv qh),(69,bv zg)] [(0,Od [C (W 1 (eL 1 eI) bJ),Z (W 1 (eL 1 eI) bK),C (I bM),C (I bW),Z (W 1 eI bP),C (I cZ),C (I dh),C (V fE)])]) (by first | rfl | (simp [(ah.2 QY)];done) | (simp [(ah.2 QY)];omega))))
         ·exact aj rfl rfl (byF ah QY) rfl<|xq (dP rfl rfl (byF ah QY) rfl)<|xn (Eq.trans (b:=(fun zg:Bool=>mk [(0,M 0),(3,iv (x_0.choice.length:Int)),(4,iv gp),(7,bv kM),(8,iv qh),(69,bv zg)] [(0,Od [C (W 1 (eL 1 eI) bJ),Z (W 1 (eL 1 eI) bK),C (I bM),C (I bW),Z (W 1 eI bP),C (I cZ),C (I dh),C (V fE)])]) false) (by kernel_rfl) (congrArg (fun zg:Bool=>mk [(0,M 0),(3,iv (x_0.choice.length:Int)),(4,iv gp),(7,bv kM),(8,iv qh),(69,bv zg)] [(0,Od [C (W 1 (eL 1 eI) bJ),Z (W 1 (eL 1 eI) bK),C (I bM),C (I bW),Z (W 1 eI bP),C (I cZ),C (I dh),C (V fE)])]) (by first | rfl | (simp [(byF ah QY)];done) | (simp [(byF ah QY)];omega))))
        ·refine us<|gc h j (xK ah iR) (fun ahq h=>?_) fun ahq h=>?_
         ·refine Go.skip<|us<|gs<|Go.block<|?_
          obtain ⟨x77,abn,h⟩:=bs h
          obtain ⟨x88,ahr,h⟩:=bs h
          obtain ⟨x91,hx91,h⟩:=bs h
          obtain ⟨x93,hx93,h⟩:=bs h
          obtain ⟨x95,hx95,h⟩:=bs h
          refine gd c28 j j j j (mk [(0,M 0),(3,iv (x_0.choice.length:Int)),(4,iv gp),(7,bv (decide (x95≥bM))),(8,iv qh)] [(0,Od [C (W 1 (eL 1 eI) bJ),Z (W 1 (eL 1 eI) bK),C (I bM),C (I bW),Z (W 1 eI bP),C (I cZ),C (I dh),C (V fE)])]) (t j j (oMv j j)<|t j j (oNl j j j)<|t j j (oFA (r':=.mp 0 0 1) j O4 j j)<|t j j (oLd (cs:=[.own 0 0 1]) j zo j j)<|t j j (oMv j j)<|t j j (Am j abn uG j j j j)<|t j j (IZ (cs:=[.im 0 _]) j oz j j j j (fA abn) j j)<|t j j (oMv j j)<|t j j (oNl j j j)<|t j j (oFA (r':=.mp 0 0 4) j Dx j j)<|t j j (oLd (cs:=[.own 0 0 4]) j oz j j)<|t j j (oMv j j)<|t j j (oNl j j j)<|t j j (oFA (r':=.mp 0 0 0) j xQ j j)<|t j j (oLd (cs:=[.im 0 _]) j zo j j)<|t j j (oMv j j)<|t j j (gq j ahr uG j j)<|t j j (oLd (cs:=[.im 0 _]) j oz j j)<|t j j (oMv j j)<|t j j (gq j hx91 fP j j)<|t j j (oLd (cs:=[.im 0 _]) j tF2 j j)<|t j j (Am j hx93 fP j j j j)<|t j j (IZ (cs:=[.im 0 _]) j tF2 j j j j (fA hx93) j j)<|t j j (gq j hx95 fP j j)<|t j j (oLd (cs:=[.im 0 _]) j tF2 j j)<|t j j (oMv j j)<|t j j (oNl j j j)<|t j j (oFA (r':=.mp 0 0 2) j H9 j j)<|t j j (oLd (cs:=[.im 0 _]) j tF2 j j)<|t j j (oBi j j j j)<|sS (dN z28 j (ae j j)) trivial (sD (by kernel_rfl)))<|Unw.blk<|us<|g0 j j (q (oMv j j)<|q (oBi j j j j)<|q (ae j j)<|nl)<|Unw.nil<|?_
          cases h
          exact ⟨j,(by kernel_rfl)⟩
         ·refine Go.exit<|ux<|Unw.nil<|?_
          cases h
          exact ⟨j,(by kernel_rfl)⟩
       ·rintro ⟨e,st⟩ hp
        obtain ⟨vk,rfl⟩:∃y,y=o:=⟨o,rfl⟩
        obtain ⟨he,hst⟩:=hp
        obtain rfl:e= .exit 4:=he
        refine Unw.iU<|us<|gs<|gs<|g2 c28 j j hst (q (oMv j j)<|q (oUn j j j)<|nl)<|us<|?_
        by_cases pM:vk=true
        ·rw [if_pos pM] at h
         refine gF j (nF (iR.2 pM))<|Go.skip<|us<|gs<|gs<|gd c28 j j j j (mk [(0,M 0),(3,iv (x_0.choice.length:Int)),(4,iv gp),(112,bv (cZ==dh))] [(0,Od [C (W 1 (eL 1 eI) bJ),Z (W 1 (eL 1 eI) bK),C (I bM),C (I bW),Z (W 1 eI bP),C (I cZ),C (I dh),C (V fE)])]) (t j j (oMv j j)<|t j j (oNl j j j)<|t j j (oFA (r':=.mp 0 0 5) j SN j j)<|t j j (oLd (cs:=[.im 0 _]) j tF2 j j)<|t j j (oMv j j)<|t j j (oNl j j j)<|t j j (oFA (r':=.mp 0 0 6) j ac0 j j)<|t j j (oLd (cs:=[.im 0 _]) j tF2 j j)<|t j j (oBi j j j j)<|sD (by kernel_rfl))<|us<|Go.join (fun st=>∃nD,bI self gp x_0 bJ bK bM bW bP cZ dh nD=some o∧st.norm ([0,3,4],[0])=mk [(0,M 0),(3,iv (x_0.choice.length:Int)),(4,iv gp)] [(0,Od [C (W 1 (eL 1 eI) bJ),Z (W 1 (eL 1 eI) bK),C (I bM),C (I bW),Z (W 1 eI bP),C (I cZ),C (I dh),C (V nD)])]) ?_ ?_
         ·rintro st ⟨nD,h,hst⟩
          unfold bI at h
          refine us<|gs<|gs<|g2 c28 j j hst (q (oMv j j)<|q (oNl j j j)<|q (oFA (r':=.mp 0 0 7) j SQ j j)<|q (oLd (cs:=[.im 0 _]) j tF4 j j)<|nl)<|us<|gc h j iR (fun ahs h=>?_) fun ahs h=>?_
          ·refine gs<|g0 j j (q (ae j j)<|nl)<|us<|Go.ret (Unw.ret ?_)
           cases h
           exact ⟨j,(fo aba j)⟩
          ·refine Go.skip<|us<|gs<|g0 j j (q (oMv j j)<|q (oNl j j j)<|q (oFA (r':=.mp 0 0 5) j SN j j)<|q (oLd (cs:=[.im 0 _]) j tF2 j j)<|q (oBi j j j j)<|q (oNl j j j)<|q (oFA (r':=.mp 0 0 5) j SN j j)<|q (oSt tF2 j j j (tkI tk0) j j j)<|nl)<|us<|gs<|?_
           obtain ⟨Y9,afi,h⟩:=bs h
           refine g1 j j (mk [(0,M 0),(3,iv (x_0.choice.length:Int)),(4,iv gp)] [(0,Od [C (W 1 (eL 1 eI) bJ),Z (W 1 (eL 1 eI) bK),C (I bM),C (I bW),Z (W 1 eI bP),C (I (w64 (cZ+1))),C (I dh),C (V nD)])]) (q (oMv j j)<|q (oMv j j)<|q (oNl j j j)<|q (oFA (r':=.mp 0 0 4) j Dx j j)<|q (oLd (cs:=[.own 0 0 4]) j oz j j)<|q (oMv j j)<|q (oBS (es:=List.map eI ([gp]:List Int)) j fP j (ptC j (fxI fx0) j pt0) (eG j fun _=>j))<|q (EU (en:=eI) (M:=([gp]:List Int)) j afi j fP j j lX (.inl ⟨_,j⟩) j j j j (kJ j j) (eG j fun _=>j))<|q (oNl j j j)<|q (oFA (r':=.mp 0 0 4) j Dx j j)<|q (oSt oz j j j (tkO j j tk0) j j j)<|nl)<|us<|gs<|gs<|?_
           obtain ⟨mO,afj,h⟩:=bs h
           refine g1 j j (mk [(0,M 0),(3,iv (x_0.choice.length:Int)),(4,iv gp)] [(0,Od [C (W 1 (eL 1 eI) bJ),Z (W 1 (eL 1 eI) bK),C (I bM),C (I bW),Z (W 1 eI Y9),C (I (w64 (cZ+1))),C (I dh),C (V nD)])]) (q (oMv j j)<|q (oCa (xs:=[.v false [.mp 0 0 0]]) (vs:=[(false,[.im 0 _])]) (v:=.v false [.im 0 _]) (ih afj) (.inl j) j UI j (aep (ob':=⟨0,0,true,true,false,true,[C (W 1 (eL 1 eI) bJ),Z (W 1 (eL 1 eI) bK),C (I bM),C (I bW),Z (W 1 eI Y9),C (I (w64 (cZ+1))),C (I dh),C (V nD)]⟩) j j j (by kernel_rfl) pp0) j j (aeq (ob':=⟨0,1,true,true,false,true,[⟨.imm,1,0,W 1 (eL 1 eI) mO.2.before⟩,⟨.sh,1,0,W 1 (eL 1 eI) mO.2.table⟩,⟨.imm,1,0,I mO.2.limit⟩,⟨.imm,1,0,I mO.2.most⟩,⟨.sh,1,0,W 1 eI mO.2.choice⟩,⟨.imm,1,0,I mO.2.nodes⟩,⟨.imm,1,0,I mO.2.budget⟩,⟨.imm,1,0,V mO.2.full⟩]⟩) j j (by kernel_rfl) pb0) j j j)<|nl)<|us<|gc h j iR (fun aht h=>?_) fun aht h=>?_
           ·refine gs<|g1 j j (mk [] [(0,Od [C (W 1 (eL 1 eI) mO.2.before),Z (W 1 (eL 1 eI) mO.2.table),C (I mO.2.limit),C (I mO.2.most),Z (W 1 eI mO.2.choice),C (I mO.2.nodes),C (I mO.2.budget),C (V mO.2.full)])]) (q (ae j j)<|nl)<|us<|Go.ret (Unw.ret ?_)
            cases h
            exact ⟨j,(fo aba j)⟩
           ·refine Go.skip<|us<|?_
            obtain ⟨agn,afk,h⟩:=bs h
            exact g1 j j (mk [(0,M 0),(3,iv (x_0.choice.length:Int)),(4,iv gp)] [(0,Od [C (W 1 (eL 1 eI) mO.2.before),Z (W 1 (eL 1 eI) mO.2.table),C (I mO.2.limit),C (I mO.2.most),Z (W 1 eI mO.2.choice),C (I mO.2.nodes),C (I mO.2.budget),C (V mO.2.full)])]) (q (oMv j j)<|q (oMv j j)<|q (oNl j j j)<|q (oFA (r':=.mp 0 0 4) j Dx j j)<|q (oLd (cs:=[.own 0 0 4]) j oz j j)<|q (oMv j j)<|q (aga j afk fP j j j bn0 (bn1 j) j j j)<|q (oNl j j j)<|q (oFA (r':=.mp 0 0 4) j Dx j j)<|q (oSt oz j j j (af7 j j tk0) j j j)<|nl)<|Unw.blk<|K38 _ ⟨mO.2.before,mO.2.table,mO.2.limit,mO.2.most,((mO.2.choice.take ((x_0.choice.length:Int).toNat)).drop 0),mO.2.nodes,mO.2.budget,mO.2.full,h,(by kernel_rfl)⟩
         ·intro K50
          refine gc h j iEq (fun VI h=>?_) fun VI h=>?_
          ·exact g0 j j (q (oMv j j)<|q (oNl j j j)<|q (oFA (r':=.mp 0 0 7) j SQ j j)<|q (oSt tF4 j j j (tkI tk0) j j j)<|nl)<|K50 _ ⟨true,h,(by kernel_rfl)⟩
          ·exact Go.skip<|K50 _ ⟨fE,h,(by kernel_rfl)⟩
        ·rw [if_neg pM] at h
         exact gT j (nT (byF iR pM))<|Go.exit<|ux<|Unw.iU<|K38 _ ⟨bJ,bK,bM,bW,bP,cZ,dh,fE,h,(by kernel_rfl)⟩
   ·refine Go.exit<|ux<|Unw.nil<|?_
    cases h
    exact ⟨j,(by kernel_rfl)⟩
  ·rintro ⟨e,st⟩ hp
   rcases o with ⟨wY,wZ,xe,xg,xh,xk,xm,xu⟩ | r2
   ·dsimp only at h
    obtain ⟨he,hst⟩:=hp
    obtain rfl:e= .exit 0:=he
    refine Unw.iU<|us<|gs<|g2 c28 j j hst (q (ae j j)<|nl)<|us<|Go.ret (Unw.ret ?_)
    cases h
    exact fr aba j
   ·dsimp only at h
    obtain ⟨he,hfin⟩:=hp
    obtain rfl:e= .ret:=he
    cases h
    exact Unw.ret (fO hfin)
theorem DK {x_0:aH} {r:(Bool×aH)} (h:jb x_0=some r):FX 28 [.ptr true [(.gone,W 1 (eL 1 eI) x_0.before),(.sh,W 1 (eL 1 eI) x_0.table),(.imm,I x_0.limit),(.imm,I x_0.most),(.sh,W 1 eI x_0.choice),(.imm,I x_0.nodes),(.imm,I x_0.budget),(.imm,V x_0.full)]] ([(false,[.im 0 (V r.1)])],[.ptr true [(.gone,W 1 (eL 1 eI) r.2.before),(.sh,W 1 (eL 1 eI) r.2.table),(.imm,I r.2.limit),(.imm,I r.2.most),(.sh,W 1 eI r.2.choice),(.imm,I r.2.nodes),(.imm,I r.2.budget),(.imm,V r.2.full)]]):=by
 unfold jb at h
 obtain ⟨n,hn⟩:=Aj h
 clear h
 induction n generalizing x_0 r with
 | zero=>cases hn
 | succ n ihn=>exact BR (self:=wO _ n) (fun h=>ihn h) hn
theorem MN {cu:(List Int)} {r:(List Int)} (h:xw cu=some r):FX 29 [.im 2 false [W 1 eI cu]] (B0 [(false,[.ow 0 1 (List.map eI r)])]):=by
 unfold xw at h
 refine gn 6 Tryz.func29 rfl ?_
 refine gs<|g0 j j (q (vG j j E5)<|nl)<|us<|gs<|?_
 obtain ⟨x5,hx5,h⟩:=bs h
 refine g0 j j (q (oBS (es:=List.map eI ([]:List Int)) j fP j pt0 (eG j fun _=>j))<|q (oMv j j)<|q (EU (en:=eI) (M:=cu) j hx5 j fP j j lX (.inl ⟨_,j⟩) j j j j abV (eG j fun _=>j))<|q (jX j j j j j)<|nl)<|us<|Go.ret (Unw.ret ?_)
 cases h
 exact fr agC j
theorem Ei {d_0:aA} {aK:(List ai)} {nV:Int} {r:((List Int)×Int×Int)} (h:mP d_0 aK nV=some r):FX 19 [.im 2 true (ak d_0),.im 2 false [W 3 au aK],.im 2 false [I nV]] (B0 [(false,[.ow 0 1 (List.map eI r.1)]),(false,[.im 0 (I r.2.1)]),(false,[.im 0 (I r.2.2)])]):=by
 unfold mP at h
 refine gn 50 Tryz.func19 rfl ?_
 refine gs<|g0 j j (q (oBx j AZ j (tkI (tkI (tkI (tkI tk0)))))<|q (vG j j E5)<|q (ae j j)<|q (ae j j)<|nl)<|us<|gs<|?_
 obtain ⟨x13,Ll,h⟩:=bs h
 refine g0 j j (q (oMv j j)<|q (oMv j j)<|q (oCa (xs:=[.v false [.mp 3 0 0],.v false [.im 2 _],.v false [.im 0 _],.v false [.im 2 _]]) (vs:=[(false,[.im 0 _])]) (v:=.v false [.im 0 _]) (MI Ll) (.inl j) j KZ j (ppC j (ppC j (ppC j (ppC j pp0)))) j j pb0 j j j)<|q (ae j j)<|nl)<|us<|gs<|gs<|g0 j j (q (oMv j j)<|q (oBi j j j j)<|nl)<|us<|gc h j iNe (fun hc1 h=>?_) fun hc1 h=>?_
 ·refine gs<|g0 j j (q (oMv j j)<|q (vG j j E5)<|q (ae j j)<|q (ae j j)<|nl)<|us<|Go.ret (Unw.ret ?_)
  cases h
  exact fr ada j
 ·refine Go.skip<|us<|gs<|?_
  obtain ⟨x19,yw,h⟩:=bs h
  refine g0 j j (q (oMv j j)<|q (oMv j j)<|q (oCp (xs:=[.v false [.mp 3 0 0],.v false [.im 2 _],.v false [.im 0 _],.v false [.im 2 _]]) (MK yw) (.inl j) j La j (ppC j (ppC j (ppC j (ppC j pp0)))) j j pb0 j)<|q (Y0 j j)<|nl)<|us<|gs<|gs<|g0 j j (q (oMv j j)<|q (oNl j j j)<|q (oFA (r':=.mp 19 0 2) j H9 j j)<|q (oSt tF2 j j j (tkI tk0) j j j)<|nl)<|us<|Go.block<|?_
  obtain ⟨o,hl,h⟩:=bs h
  refine gl c19 j _ (fun (s:((List (List Int))×(List (List Int))×Int×Int×(List Int)×Int×Int×Bool))=>match s with | (yP,yQ,vW,yR,yS,yT,yU,yV)=>mk [(10,M 19)] [(19,Oa [C (W 1 (eL 1 eI) yP),Z (W 1 (eL 1 eI) yQ),C (I vW),C (I yR),Z (W 1 eI yS),C (I yT),C (I yU),C (V yV)])]) (fun (o:(Unit ⊕ ((List Int)×Int×Int))) (p:Ex×St)=>match o with | (.inl _)=>p.1= .exit 0∧p.2.norm ([],[])=mk [] [] | (.inr r2)=>p.1= .ret∧fin Tryz.prog cfg 19 Tryz.f19 [.im 2 true (ak d_0),.im 2 false [W 3 au aK],.im 2 false [I nV]] p.2=some (B0 [(false,[.ow 0 1 (List.map eI r2.1)]),(false,[.im 0 (I r2.2.1)]),(false,[.im 0 (I r2.2.2)])])) hl (by kernel_rfl) ?_ ?_ ?_
  ·intro o p hp e
   rcases o with u | r2<;>exact nomatch (hp.1.symm.trans e)
  ·rintro ⟨yP,yQ,vW,yR,yS,yT,yU,yV⟩ o h
   unfold bY at h
   dsimp only at h
   refine gs<|gs<|g0 j j (q (oMv j j)<|q (oNl j j j)<|q (oFA (r':=.mp 19 0 2) j H9 j j)<|q (oLd (cs:=[.im 0 _]) j tF2 j j)<|q (oBi j j j j)<|nl)<|us<|gc h j ah (fun hc8 h=>?_) fun hc8 h=>?_
   ·refine Go.skip<|us<|gs<|Go.block<|gs<|gs<|?_
    obtain ⟨x36,Ba,h⟩:=bs h
    refine g0 j j (q (oMv j j)<|q (oCa (xs:=[.v false [.mp 19 0 0]]) (vs:=[(false,[.im 0 _])]) (v:=.v false [.im 0 _]) (DK Ba) (.inl j) j UI j (aep (ob':=⟨0,0,false,true,false,true,[C (W 1 (eL 1 eI) yP),Z (W 1 (eL 1 eI) yQ),C (I vW),C (I yR),Z (W 1 eI yS),C (I yT),C (I yU),C (V yV)]⟩) j j j (by kernel_rfl) pp0) j j (aeq (ob':=⟨0,1,false,true,false,true,[⟨.imm,1,0,W 1 (eL 1 eI) x36.2.before⟩,⟨.sh,1,0,W 1 (eL 1 eI) x36.2.table⟩,⟨.imm,1,0,I x36.2.limit⟩,⟨.imm,1,0,I x36.2.most⟩,⟨.sh,1,0,W 1 eI x36.2.choice⟩,⟨.imm,1,0,I x36.2.nodes⟩,⟨.imm,1,0,I x36.2.budget⟩,⟨.imm,1,0,V x36.2.full⟩]⟩) j j (by kernel_rfl) pb0) j j j)<|nl)<|us<|gc h j iR (fun hc9 h=>?_) fun hc9 h=>?_
    ·refine gs<|?_
     obtain ⟨x41,Pq,h⟩:=bs h
     refine gd c19 j j j (st1:=mk [(10,M 19)] [(19,Oa [C (W 1 (eL 1 eI) x36.2.before),Z (W 1 (eL 1 eI) x36.2.table),C (I x36.2.limit),C (I x36.2.most),Z (W 1 eI x36.2.choice),C (I x36.2.nodes),C (I x36.2.budget),C (V x36.2.full)])]) (by kernel_rfl) (mk [(6,H 6 0),(7,iv x36.2.limit),(8,iv 0)] [(6,Oc [Z (W 1 eI x41)])]) (t j j (oMv j j)<|t j j (oNl j j j)<|t j j (oFA (r':=.mp 19 0 4) j Dx j j)<|t j j (oLd (cs:=[.own 19 0 4]) j oz j j)<|t j j (oMv j j)<|sK (O:=[19]) j j j (dN z19 j (oNl j j j))<|sK (O:=[19]) j j j (dN z19 j (oFA (r':=.mp 19 0 2) j H9 j j))<|sK (O:=[19]) j j j (dN z19 j (oLd (cs:=[.im 0 _]) j tF2 j j))<|sS (dN z19 j (oCr (xs:=[.v false [.own 19 0 4]]) (vs:=[(false,[.own 41 0 0])]) (v:=.v false [.own 41 0 0]) (c:=⟨.sh,0,_⟩) (cs:=[]) (MN Pq) (.inl j) j aaL j (ppC j pp0) j j pb0 j j j)) (kY ⟨j,trivial⟩ (kY ⟨j,trivial⟩ (kY ⟨j,trivial⟩ trivial))) (sS (dN z19 j (jX j j j j j)) (kY ⟨j,trivial⟩ (kY ⟨j,trivial⟩ (kY ⟨j,trivial⟩ trivial))) (sS (dN z19 j (ae j j)) (kN j (kN j (kN j trivial))) (sS (dN z19 j (ae j j)) (kN j (kN j (kN j trivial))) (sD (by kernel_rfl))))))<|us<|Go.ret (Unw.ret ?_)
     cases h
     exact ⟨j,(fo ada j)⟩
    ·refine Go.skip<|us<|gs<|g1 j j (mk [(10,M 19)] [(19,Oa [C (W 1 (eL 1 eI) x36.2.before),Z (W 1 (eL 1 eI) x36.2.table),C (I x36.2.limit),C (I x36.2.most),Z (W 1 eI x36.2.choice),C (I x36.2.nodes),C (I x36.2.budget),C (V x36.2.full)])]) (q (oMv j j)<|q (oNl j j j)<|q (oFA (r':=.mp 19 0 7) j SQ j j)<|q (oLd (cs:=[.im 0 _]) j tF4 j j)<|nl)<|us<|gc h j iR (fun Fj h=>?_) fun Fj h=>?_
     ·refine Go.exit<|Unw.af4 j<|ux<|Unw.nil<|?_
      cases h
      exact ⟨j,(by kernel_rfl)⟩
     ·refine Go.skip<|Unw.blk<|us<|g0 j j (q (oMv j j)<|q (oNl j j j)<|q (oFA (r':=.mp 19 0 2) j H9 j j)<|q (oLd (cs:=[.im 0 _]) j tF2 j j)<|q (oBi j j j j)<|q (oNl j j j)<|q (oFA (r':=.mp 19 0 2) j H9 j j)<|q (oSt tF2 j j j (tkI tk0) j j j)<|nl)<|Unw.nil<|?_
      cases h
      exact ⟨j,(by kernel_rfl)⟩
   ·refine Go.exit<|ux<|Unw.nil<|?_
    cases h
    exact ⟨j,(by kernel_rfl)⟩
  ·rintro ⟨e,st⟩ hp
   rcases o with u | r2
   ·dsimp only at h
    obtain ⟨he,hst⟩:=hp
    obtain rfl:e= .exit 0:=he
    refine Unw.iU<|us<|gs<|g2 c19 j j hst (q (vG j j E5)<|q (ae j j)<|q (ae j j)<|nl)<|us<|Go.ret (Unw.ret ?_)
    cases h
    exact fr ada j
   ·dsimp only at h
    obtain ⟨he,hfin⟩:=hp
    obtain rfl:e= .ret:=he
    cases h
    exact Unw.ret (fO hfin)
theorem dI {n_0:Int} {Au:Int} {vU:Int} {r:Bool} (h:di n_0 Au vU=some r):FX 54 [.im 2 false [I n_0],.im 2 false [I Au],.im 2 false [I vU]] (B0 [(false,[.im 0 (V r)])]):=by
 unfold di at h
 refine gn 15 Tryz.func54 rfl ?_
 refine gs<|g0 j j (q (ae j j)<|nl)<|us<|gs<|gX c54 j j j (mk [(6,bv ((decide (n_0≥Au))&&(decide (n_0≤vU))))] []) ?_ ?_
 ·refine xq (oMv j j)<|xq (oMv j j)<|xq (oBi j j j j)<|xq (oMv j j)<|?_
  by_cases hc1:n_0≥Au
  ·exact xqT rfl rfl (ah.2 hc1) (oMv rfl rfl)<|xqT rfl rfl (ah.2 hc1) (oMv rfl rfl)<|xqT rfl rfl (ah.2 hc1) (oBi rfl rfl rfl rfl)<|xq (bG rfl rfl (ah.2 hc1) rfl)<|xq (ae rfl rfl)<|xn (Eq.trans (b:=(fun lI:Bool=>mk [(6,bv lI)] []) (decide (n_0≤vU))) (by kernel_rfl) (congrArg (fun lI:Bool=>mk [(6,bv lI)] []) (by first | rfl | (simp [(ah.2 hc1)];done) | (simp [(ah.2 hc1)];omega))))
  ·exact aj rfl rfl (byF ah hc1) rfl<|aj rfl rfl (byF ah hc1) rfl<|aj rfl rfl (byF ah hc1) rfl<|xq (dP rfl rfl (byF ah hc1) rfl)<|xq (ae rfl rfl)<|xn (Eq.trans (b:=(fun lI:Bool=>mk [(6,bv lI)] []) false) (by kernel_rfl) (congrArg (fun lI:Bool=>mk [(6,bv lI)] []) (by first | rfl | (simp [(byF ah hc1)];done) | (simp [(byF ah hc1)];omega))))
 ·refine us<|Go.ret (Unw.ret ?_)
  cases h
  exact fr agQ j
theorem rP {s_0:(List af)} {v_1:af} {r:Int} (h:gz s_0 v_1=some r):FX 100 [.im 2 false [W 2 az s_0],.im 2 true (aF v_1)] (B0 [(false,[.im 0 (I r)])]):=by
 unfold gz at h
 refine gn 19 Tryz.func100 rfl ?_
 refine gs<|g0 j j (q (oBx j aJ j (tkI (tkI tk0)))<|q (ae j j)<|nl)<|us<|gs<|gs<|g0 j j (q (oMv j j)<|q (gJ j j zT j)<|q (oMv j j)<|nl)<|us<|Go.block<|?_
 obtain ⟨o,hl,h⟩:=bs h
 refine gl aaI j _ (fun (fC:Int)=>mk [(0,D 2 (W 2 az s_0)),(3,M 3),(7,iv (s_0.length:Int)),(8,iv fC)] [(3,Oa (G 0 (aF v_1)))]) (fun (o:(Unit ⊕ Int)) (p:Ex×St)=>match o with | (.inl _)=>p.1= .exit 0∧p.2.norm ([],[])=mk [] [] | (.inr r2)=>p.1= .ret∧fin Tryz.prog cfg 100 Tryz.f100 [.im 2 false [W 2 az s_0],.im 2 true (aF v_1)] p.2=some (B0 [(false,[.im 0 (I r2)])])) hl (by kernel_rfl) ?_ ?_ ?_
 ·intro o p hp e
  rcases o with u | r2<;>exact nomatch (hp.1.symm.trans e)
 ·rintro fC o h
  unfold dJ at h
  refine gs<|g0 j j (q (oBi j j j j)<|nl)<|us<|gs<|gc h j ah (fun hc5 h=>?_) fun hc5 h=>?_
  ·refine Go.skip<|us<|gs<|Go.block<|gs<|g0 j j (q (oMv j j)<|q (ae j j)<|nl)<|us<|gs<|?_
   obtain ⟨x14,vH,h⟩:=bs h
   refine gd aaI j j j j (mk [(0,D 2 (W 2 az s_0)),(3,M 3),(5,iv fC),(7,iv (s_0.length:Int)),(8,iv fC),(16,bv ((v_1.X==x14.X)&&(v_1.Y==x14.Y)))] [(3,Oa (G 0 (aF v_1)))]) (t j j (oLd (cs:=[.im 0 _,.im 0 _]) j aJ j j)<|t j j (oMv j j)<|t j j (oMv j j)<|t j j (gq j vH pK j j)<|t j j (oLd (cs:=[.im 2 _,.im 2 _]) j aJ j j)<|t j j (oBa j (UK v_1.X v_1.Y x14.X x14.Y) j j j j)<|sD (by kernel_rfl))<|us<|gc h j (xK iEq iEq) (fun hc6 h=>?_) fun hc6 h=>?_
   ·refine gs<|g0 j j (q (oMv j j)<|q (ae j j)<|nl)<|us<|Go.ret (Unw.ret ?_)
    cases h
    exact ⟨j,(fo abW j)⟩
   ·refine Go.skip<|Unw.blk<|us<|g0 j j (q (oBi j j j j)<|q (oMv j j)<|nl)<|Unw.nil<|?_
    cases h
    exact ⟨j,(by kernel_rfl)⟩
  ·refine Go.exit<|ux<|Unw.nil<|?_
   cases h
   exact ⟨j,(by kernel_rfl)⟩
 ·rintro ⟨e,st⟩ hp
  rcases o with u | r2
  ·dsimp only at h
   obtain ⟨he,hst⟩:=hp
   obtain rfl:e= .exit 0:=he
   refine Unw.iU<|us<|gs<|g2 aaI j j hst (q (ae j j)<|nl)<|us<|Go.ret (Unw.ret ?_)
   cases h
   exact fr abW j
  ·dsimp only at h
   obtain ⟨he,hfin⟩:=hp
   obtain rfl:e= .ret:=he
   cases h
   exact Unw.ret (fO hfin)
theorem qm {s_0:(List af)} {v_1:af} {r:Bool} (h:dK s_0 v_1=some r):FX 76 [.im 2 false [W 2 az s_0],.im 2 true (aF v_1)] (B0 [(false,[.im 0 (V r)])]):=by
 unfold dK at h
 refine gn 9 Tryz.func76 rfl ?_
 refine gs<|g0 j j (q (oBx j aJ j (tkI (tkI tk0)))<|q (ae j j)<|nl)<|us<|gs<|?_
 obtain ⟨x7,hx7,h⟩:=bs h
 refine g0 j j (q (oMv j j)<|q (oLd (cs:=[.im 0 _,.im 0 _]) j aJ j j)<|q (oCa (xs:=[.v false [.im 2 _],.v true [.im 0 _,.im 0 _]]) (vs:=[(false,[.im 0 _])]) (v:=.v false [.im 0 _]) (rP hx7) (.inl j) j QL j (ppC j (ppC j pp0)) j j pb0 j j j)<|q (oBi j j j j)<|q (ae j j)<|nl)<|us<|Go.ret (Unw.ret ?_)
 cases h
 exact fr ag1 j
theorem zV {s_0:ByteArray} {r:Bool} (h:xx s_0=some r):FX 77 [.im 2 false [Y s_0]] (B0 [(false,[.im 0 (V r)])]):=by
 unfold xx at h
 refine gn 50 Tryz.func77 rfl ?_
 refine gs<|g0 j j (q (ae j j)<|nl)<|us<|gs<|gs<|?_
 obtain ⟨OU,DL,h⟩:=bs h
 refine gX c77 j j j (mk [(0,sv s_0),(21,bv OU)] []) ?_ ?_
 ·refine xq (oMv j j)<|xq (Sv j j uF9 j)<|xq (oBi j j j j)<|xq (oMv j j)<|?_
  refine ic DL (fun hc1 DL=>?_) fun hc1 DL=>?_
  ·cases DL
   exact aj j j (ah.2 hc1) j<|aj j j (ah.2 hc1) j<|aj j j (ah.2 hc1) j<|xq (bG j j (ah.2 hc1) j)<|xq (oMv j j)<|aj j j j j<|aj j j j j<|aj j j j j<|xq (bG j j j j)<|xq (oMv j j)<|aj j j j j<|aj j j j j<|aj j j j j<|xq (bG j j j j)<|xn
  ·refine xqT j j (byF ah hc1) (oMv j j)<|xqT j j (byF ah hc1) (Sv j j uF9 j)<|xqT j j (byF ah hc1) (oBi j j j j)<|xq (dP j j (byF ah hc1) j)<|xq (oMv j j)<|?_
   refine ic DL (fun hc2 DL=>?_) fun hc2 DL=>?_
   ·cases DL
    exact aj j j (ah.2 hc2) j<|aj j j (ah.2 hc2) j<|aj j j (ah.2 hc2) j<|xq (bG j j (ah.2 hc2) j)<|xq (oMv j j)<|aj j j j j<|aj j j j j<|aj j j j j<|xq (bG j j j j)<|xn
   ·obtain ⟨x14,vH,DL⟩:=bs DL
    refine xqT j j (byF ah hc2) (oMv j j)<|xqT j j (byF ah hc2) (oIx j vH uF9 j j)<|xqT j j (byF ah hc2) (oBi j j j j)<|xq (dP j j (byF ah hc2) j)<|xq (oMv j j)<|?_
    refine ic DL (fun hc3 DL=>?_) fun hc3 DL=>?_
    ·cases DL
     exact aj j j (ah.2 hc3) j<|aj j j (ah.2 hc3) j<|aj j j (ah.2 hc3) j<|xq (bG j j (ah.2 hc3) j)<|xn
    ·obtain ⟨x19,yw,DL⟩:=bs DL
     cases DL
     exact xqT j j (byF ah hc3) (oMv j j)<|xqT j j (byF ah hc3) (oIx j yw uF9 j j)<|xqT j j (byF ah hc3) (oBi j j j j)<|xq (dP j j (byF ah hc3) j)<|xn
 ·refine us<|gc h j iR (fun hc4 h=>?_) fun hc4 h=>?_
  ·refine gs<|g0 j j (q (ae j j)<|nl)<|us<|Go.ret (Unw.ret ?_)
   cases h
   exact fr adn j
  ·refine Go.skip<|us<|gs<|gs<|g0 j j (q (ae j j)<|nl)<|us<|Go.block<|?_
   obtain ⟨o,hl,h⟩:=bs h
   refine gl c77 j _ (fun (dM:Int)=>mk [(0,sv s_0),(3,iv dM)] []) (fun (o:(Unit ⊕ Bool)) (p:Ex×St)=>match o with | (.inl _)=>p.1= .exit 0∧p.2.norm ([],[])=mk [] [] | (.inr r2)=>p.1= .ret∧fin Tryz.prog cfg 77 Tryz.f77 [.im 2 false [Y s_0]] p.2=some (B0 [(false,[.im 0 (V r2)])])) hl (by kernel_rfl) ?_ ?_ ?_
   ·intro o p hp e
    rcases o with u | r2<;>exact nomatch (hp.1.symm.trans e)
   ·rintro dM o h
    unfold qF at h
    refine gs<|gs<|g0 j j (q (oMv j j)<|q (oMv j j)<|q (Sv j j uF9 j)<|q (oBi j j j j)<|nl)<|us<|gc h j ah (fun hc19 h=>?_) fun hc19 h=>?_
    ·refine Go.skip<|us<|gs<|Go.block<|gs<|?_
     obtain ⟨x30,QW,h⟩:=bs h
     obtain ⟨BD,vZ,h⟩:=bs h
     refine gX c77 j j j (mk [(0,sv s_0),(3,iv dM),(49,bv BD)] []) ?_ ?_
     ·refine xq (oMv j j)<|xq (oMv j j)<|xq (oIx j QW uF9 j j)<|xq (oBi j j j j)<|xq (oMv j j)<|?_
      refine ic vZ (fun Ff vZ=>?_) fun Ff vZ=>?_
      ·obtain ⟨x41,Pq,vZ⟩:=bs vZ
       refine aj j j (ah.2 Ff) j<|aj j j (ah.2 Ff) j<|aj j j (ah.2 Ff) j<|aj j j (ah.2 Ff) j<|xq (bG j j (ah.2 Ff) j)<|xq (oMv j j)<|xqT j j j (oMv j j)<|xqT j j j (oMv j j)<|xqT j j j (oIx j Pq uF9 j j)<|xqT j j j (oBi j j j j)<|xqT j j j (oMv j j)<|?_
       refine ic vZ (fun hc21 vZ=>?_) fun hc21 vZ=>?_
       ·cases vZ
        exact aj j j (ah.2 hc21) j<|aj j j (ah.2 hc21) j<|aj j j (ah.2 hc21) j<|aj j j (ah.2 hc21) j<|xqT j j j (bG j j (ah.2 hc21) j)<|xq (bG j j j j)<|xn
       ·obtain ⟨x46,TD,vZ⟩:=bs vZ
        cases vZ
        exact xqT j j (byF ah hc21) (oMv j j)<|xqT j j (byF ah hc21) (oMv j j)<|xqT j j (byF ah hc21) (oIx j TD uF9 j j)<|xqT j j (byF ah hc21) (oBi j j j j)<|xqT j j j (dP j j (byF ah hc21) j)<|xq (bG j j j j)<|xn
      ·obtain ⟨x35,adx,vZ⟩:=bs vZ
       refine xqT j j (byF ah Ff) (oMv j j)<|xqT j j (byF ah Ff) (oMv j j)<|xqT j j (byF ah Ff) (oIx j adx uF9 j j)<|xqT j j (byF ah Ff) (oBi j j j j)<|xq (dP j j (byF ah Ff) j)<|xq (oMv j j)<|?_
       refine ic vZ (fun hc22 vZ=>?_) fun hc22 vZ=>?_
       ·obtain ⟨x41,Pq,vZ⟩:=bs vZ
        refine xqT j j (ah.2 hc22) (oMv j j)<|xqT j j (ah.2 hc22) (oMv j j)<|xqT j j (ah.2 hc22) (oIx j Pq uF9 j j)<|xqT j j (ah.2 hc22) (oBi j j j j)<|xqT j j (ah.2 hc22) (oMv j j)<|?_
        refine ic vZ (fun kP vZ=>?_) fun kP vZ=>?_
        ·cases vZ
         exact aj j j (ah.2 kP) j<|aj j j (ah.2 kP) j<|aj j j (ah.2 kP) j<|aj j j (ah.2 kP) j<|xqT j j (ah.2 hc22) (bG j j (ah.2 kP) j)<|xq (bG j j (ah.2 hc22) j)<|xn
        ·obtain ⟨x46,TD,vZ⟩:=bs vZ
         cases vZ
         exact xqT j j (byF ah kP) (oMv j j)<|xqT j j (byF ah kP) (oMv j j)<|xqT j j (byF ah kP) (oIx j TD uF9 j j)<|xqT j j (byF ah kP) (oBi j j j j)<|xqT j j (ah.2 hc22) (dP j j (byF ah kP) j)<|xq (bG j j (ah.2 hc22) j)<|xn
       ·cases vZ
        exact aj j j (byF ah hc22) j<|aj j j (byF ah hc22) j<|aj j j (byF ah hc22) j<|aj j j (byF ah hc22) j<|aj j j (byF ah hc22) j<|SB j j j<|SB j j j<|SB j j j<|SB j j j<|aj j j (byF ah hc22) j<|xq (dP j j (byF ah hc22) j)<|xn
     ·refine us<|gc h j iR (fun hc24 h=>?_) fun hc24 h=>?_
      ·refine gs<|g0 j j (q (ae j j)<|nl)<|us<|Go.ret (Unw.ret ?_)
       cases h
       exact ⟨j,(fo adn j)⟩
      ·refine Go.skip<|Unw.blk<|us<|g0 j j (q (oMv j j)<|q (oBi j j j j)<|q (ae j j)<|nl)<|Unw.nil<|?_
       cases h
       exact ⟨j,(by kernel_rfl)⟩
    ·refine Go.exit<|ux<|Unw.nil<|?_
     cases h
     exact ⟨j,(by kernel_rfl)⟩
   ·rintro ⟨e,st⟩ hp
    rcases o with u | r2
    ·dsimp only at h
     obtain ⟨he,hst⟩:=hp
     obtain rfl:e= .exit 0:=he
     refine Unw.iU<|us<|gs<|g2 c77 j j hst (q (ae j j)<|nl)<|us<|Go.ret (Unw.ret ?_)
     cases h
     exact fr adn j
    ·dsimp only at h
     obtain ⟨he,hfin⟩:=hp
     obtain rfl:e= .ret:=he
     cases h
     exact Unw.ret (fO hfin)
theorem Fq {vw:(List af)} {lG:(List Int)} {r:((List af)×Bool)} (h:jL vw lG=some r):FX 78 [.im 2 false [W 2 az vw],.im 2 false [W 1 eI lG]] (B0 [(false,[.ow 0 2 (List.map az r.1)]),(false,[.im 0 (V r.2)])]):=by
 unfold jL at h
 refine gn 31 Tryz.func78 rfl ?_
 refine gs<|g0 j j (q (vG j j XB)<|q (ae j j)<|nl)<|us<|gs<|g0 j j (q (oBS (es:=List.map az ([]:List af)) j pK j pt0 (eG j fun _=>j))<|q (jX j j j j j)<|nl)<|us<|gs<|gs<|g0 j j (q (oMv j j)<|q (gJ j j lX j)<|q (oMv j j)<|nl)<|us<|Go.block<|?_
 obtain ⟨o,hl,h⟩:=bs h
 refine gl c78 j _ (fun (s:(Int×(List af)))=>match s with | (Ec,l9)=>mk [(0,D 2 (W 2 az vw)),(6,H 6 0),(10,D 2 (W 1 eI lG)),(11,iv (lG.length:Int)),(12,iv Ec)] [(6,Oc [Z (W 2 az l9)])]) (fun (o:((List af) ⊕ ((List af)×Bool))) (p:Ex×St)=>match o with | (.inl kC)=>p.1= .exit 0∧p.2.norm ([6],[6])=mk [(6,H 6 0)] [(6,Oc [Z (W 2 az kC)])] | (.inr r2)=>p.1= .ret∧fin Tryz.prog cfg 78 Tryz.f78 [.im 2 false [W 2 az vw],.im 2 false [W 1 eI lG]] p.2=some (B0 [(false,[.ow 0 2 (List.map az r2.1)]),(false,[.im 0 (V r2.2)])])) hl (by kernel_rfl) ?_ ?_ ?_
 ·intro o p hp e
  rcases o with kC | r2<;>exact nomatch (hp.1.symm.trans e)
 ·rintro ⟨Ec,l9⟩ o h
  unfold nM at h
  dsimp only at h
  refine gs<|g0 j j (q (oBi j j j j)<|nl)<|us<|gs<|gc h j ah (fun hc5 h=>?_) fun hc5 h=>?_
  ·refine Go.skip<|us<|gs<|Go.block<|gs<|?_
   obtain ⟨x14,vH,h⟩:=bs h
   refine g0 j j (q (gq j vH fP j j)<|q (oLd (cs:=[.im 2 _]) j tF2 j j)<|q (ae j j)<|nl)<|us<|gs<|gs<|?_
   obtain ⟨x20,yu,h⟩:=bs h
   refine g0 j j (q (oMv j j)<|q (oMv j j)<|q (gJ j j zT j)<|q (oBi j j j j)<|q (oCa (xs:=[.v false [.im 2 _],.v false [.im 0 _],.v false [.im 0 _]]) (vs:=[(false,[.im 0 _])]) (v:=.v false [.im 0 _]) (dI yu) (.inl j) j gB j (ppC j (ppC j (ppC j pp0))) j j pb0 j j j)<|q (oUn j j j)<|nl)<|us<|?_
   by_cases hc6:x20=true
   ·rw [if_pos hc6] at h
    refine gF j (nF (iR.2 hc6))<|Go.skip<|us<|?_
    obtain ⟨x25,hx25,h⟩:=bs h
    obtain ⟨x28,hx28,h⟩:=bs h
    refine g0 j j (q (oMv j j)<|q (oMv j j)<|q (oMv j j)<|q (gq j hx25 pK j j)<|q (oLd (cs:=[.im 2 _,.im 2 _]) j aJ j j)<|q (oBS (es:=List.map az ([x25]:List af)) j pK j (ptC j (fxI (fxI fx0)) j pt0) (eG j fun _=>j))<|q (EU (en:=az) (M:=([x25]:List af)) j hx28 j pK j j zT (.inl ⟨_,j⟩) j j j j (kJ j j) (eG j fun _=>j))<|q (jX j j j j j)<|nl)<|Unw.blk<|us<|g0 j j (q (oBi j j j j)<|q (oMv j j)<|nl)<|Unw.nil<|?_
    cases h
    exact ⟨j,(by kernel_rfl)⟩
   ·rw [if_neg hc6] at h
    refine gT j (nT (byF iR hc6))<|gs<|g0 j j (q (vG j j XB)<|q (ae j j)<|nl)<|us<|Go.ret (Unw.ret ?_)
    cases h
    exact ⟨j,(fo aeY j)⟩
  ·refine Go.exit<|ux<|Unw.nil<|?_
   cases h
   exact ⟨j,(by kernel_rfl)⟩
 ·rintro ⟨e,st⟩ hp
  rcases o with kC | r2
  ·dsimp only at h
   obtain ⟨he,hst⟩:=hp
   obtain rfl:e= .exit 0:=he
   refine Unw.iU<|us<|gs<|g2 c78 j j hst (q (oMv j j)<|q (jX j j j j j)<|q (ae j j)<|nl)<|us<|Go.ret (Unw.ret ?_)
   cases h
   exact fr aeY j
  ·dsimp only at h
   obtain ⟨he,hfin⟩:=hp
   obtain rfl:e= .ret:=he
   cases h
   exact Unw.ret (fO hfin)
theorem GH {p_0:af} {r:Bool} (h:pz p_0=some r):FX 121 [.im 2 true (aF p_0)] (B0 [(false,[.im 0 (V r)])]):=by
 unfold pz at h
 refine gn 11 Tryz.func121 rfl ?_
 refine gs<|g0 j j (q (oBx j aJ j (tkI (tkI tk0)))<|q (ae j j)<|nl)<|us<|gs<|?_
 obtain ⟨x5,hx5,h⟩:=bs h
 obtain ⟨lH,hm2,h⟩:=bs h
 refine gX aez j j j (mk [(2,bv lH)] []) ?_ ?_
 ·refine xq (oFA (r':=.mp 1 0 0) j iI j j)<|xq (oLd (cs:=[.im 0 _]) j tF2 j j)<|xq (oCa (xs:=[.v false [.im 0 _],.v false [.im 0 _],.v false [.im 0 _]]) (vs:=[(false,[.im 0 _])]) (v:=.v false [.im 0 _]) (dI hx5) (.inl j) j gB j (ppC j (ppC j (ppC j pp0))) j j pb0 j j j)<|xq (oMv j j)<|?_
  refine ic hm2 (fun hc1 hm2=>?_) fun hc1 hm2=>?_
  ·obtain ⟨x9,hx9,hm2⟩:=bs hm2
   cases hm2
   exact xqT j j (iR.2 hc1) (oFA (r':=.mp 1 0 1) j jd j j)<|xqT j j (iR.2 hc1) (oLd (cs:=[.im 0 _]) j tF2 j j)<|xqT j j (iR.2 hc1) (oCa (xs:=[.v false [.im 0 _],.v false [.im 0 _],.v false [.im 0 _]]) (vs:=[(false,[.im 0 _])]) (v:=.v false [.im 0 _]) (dI hx9) (.inl j) j gB j (ppC j (ppC j (ppC j pp0))) j j pb0 j j j)<|xq (bG j j (iR.2 hc1) j)<|xq (ae j j)<|xn
  ·cases hm2
   exact aj j j (byF iR hc1) j<|aj j j (byF iR hc1) j<|aj j j (byF iR hc1) j<|xq (dP j j (byF iR hc1) j)<|xq (ae j j)<|xn
 ·refine us<|Go.ret (Unw.ret ?_)
  cases h
  exact fr aeK j
theorem Fv {cu:(List af)} {r:Bool} (h:qX cu=some r):FX 101 [.im 2 false [W 2 az cu]] (B0 [(false,[.im 0 (V r)])]):=by
 unfold qX at h
 refine gn 15 Tryz.func101 rfl ?_
 refine gs<|g0 j j (q (ae j j)<|nl)<|us<|gs<|gs<|g0 j j (q (oMv j j)<|q (gJ j j zT j)<|q (oMv j j)<|nl)<|us<|Go.block<|?_
 obtain ⟨o,hl,h⟩:=bs h
 refine gl acS j _ (fun (EZ:Int)=>mk [(5,D 2 (W 2 az cu)),(6,iv (cu.length:Int)),(7,iv EZ)] []) (fun (o:(Unit ⊕ Bool)) (p:Ex×St)=>match o with | (.inl _)=>p.1= .exit 0∧p.2.norm ([],[])=mk [] [] | (.inr r2)=>p.1= .ret∧fin Tryz.prog cfg 101 Tryz.f101 [.im 2 false [W 2 az cu]] p.2=some (B0 [(false,[.im 0 (V r2)])])) hl (by kernel_rfl) ?_ ?_ ?_
 ·intro o p hp e
  rcases o with u | r2<;>exact nomatch (hp.1.symm.trans e)
 ·rintro EZ o h
  unfold gU at h
  refine gs<|g0 j j (q (oBi j j j j)<|nl)<|us<|gs<|gc h j ah (fun hc5 h=>?_) fun hc5 h=>?_
  ·refine Go.skip<|us<|gs<|Go.block<|gs<|?_
   obtain ⟨x9,hx9,h⟩:=bs h
   refine g0 j j (q (gq j hx9 pK j j)<|q (oLd (cs:=[.im 2 _,.im 2 _]) j aJ j j)<|q (oAl j aJ (tkI (tkI tk0)))<|q (oSt aJ j j j (tkI (tkI tk0)) j j j)<|nl)<|us<|gs<|?_
   obtain ⟨x12,zU,h⟩:=bs h
   refine g1 j j (mk [(4,M 4),(5,D 2 (W 2 az cu)),(6,iv (cu.length:Int)),(7,iv EZ)] [(4,Oa (G 0 (aF x9)))]) (q (oLd (cs:=[.im 0 _,.im 0 _]) j aJ j j)<|q (oCa (xs:=[.v true [.im 0 _,.im 0 _]]) (vs:=[(false,[.im 0 _])]) (v:=.v false [.im 0 _]) (GH zU) (.inl j) j XK j (ppC j pp0) j j pb0 j j j)<|q (oUn j j j)<|nl)<|us<|?_
   by_cases hc6:x12=true
   ·rw [if_pos hc6] at h
    refine gF j (nF (iR.2 hc6))<|Go.skip<|Unw.blk<|us<|g0 j j (q (oBi j j j j)<|q (oMv j j)<|nl)<|Unw.nil<|?_
    cases h
    exact ⟨j,(by kernel_rfl)⟩
   ·rw [if_neg hc6] at h
    refine gT j (nT (byF iR hc6))<|gs<|g0 j j (q (ae j j)<|nl)<|us<|Go.ret (Unw.ret ?_)
    cases h
    exact ⟨j,(fo abX j)⟩
  ·refine Go.exit<|ux<|Unw.nil<|?_
   cases h
   exact ⟨j,(by kernel_rfl)⟩
 ·rintro ⟨e,st⟩ hp
  rcases o with u | r2
  ·dsimp only at h
   obtain ⟨he,hst⟩:=hp
   obtain rfl:e= .exit 0:=he
   refine Unw.iU<|us<|gs<|g2 acS j j hst (q (ae j j)<|nl)<|us<|Go.ret (Unw.ret ?_)
   cases h
   exact fr abX j
  ·dsimp only at h
   obtain ⟨he,hfin⟩:=hp
   obtain rfl:e= .ret:=he
   cases h
   exact Unw.ret (fO hfin)
theorem qK {a_0:af} {b_1:af} {c_2:af} {r:Int} (h:nX a_0 b_1 c_2=some r):FX 122 [.im 2 true (aF a_0),.im 2 true (aF b_1),.im 2 true (aF c_2)] (B0 [(false,[.im 0 (I r)])]):=by
 unfold nX at h
 refine gn 37 Tryz.func122 rfl ?_
 refine gs<|g0 j j (q (oBx j aJ j (tkI (tkI tk0)))<|q (oBx j aJ j (tkI (tkI tk0)))<|q (oBx j aJ j (tkI (tkI tk0)))<|q (ae j j)<|nl)<|us<|gs<|g0 j j (q (oFA (r':=.mp 4 0 0) j iI j j)<|q (oLd (cs:=[.im 0 _]) j tF2 j j)<|q (oFA (r':=.mp 3 0 0) j iI j j)<|q (oLd (cs:=[.im 0 _]) j tF2 j j)<|q (oBi j j j j)<|q (oFA (r':=.mp 5 0 1) j jd j j)<|q (oLd (cs:=[.im 0 _]) j tF2 j j)<|q (oFA (r':=.mp 3 0 1) j jd j j)<|q (oLd (cs:=[.im 0 _]) j tF2 j j)<|q (oBi j j j j)<|q (oBi j j j j)<|q (oFA (r':=.mp 4 0 1) j jd j j)<|q (oLd (cs:=[.im 0 _]) j tF2 j j)<|q (oFA (r':=.mp 3 0 1) j jd j j)<|q (oLd (cs:=[.im 0 _]) j tF2 j j)<|q (oBi j j j j)<|q (oFA (r':=.mp 5 0 0) j iI j j)<|q (oLd (cs:=[.im 0 _]) j tF2 j j)<|q (oFA (r':=.mp 3 0 0) j iI j j)<|q (oLd (cs:=[.im 0 _]) j tF2 j j)<|q (oBi j j j j)<|q (oBi j j j j)<|q (oBi j j j j)<|q (ae j j)<|nl)<|us<|gs<|Go.block<|gs<|g0 j j (q (oMv j j)<|q (oBi j j j j)<|q (ae j j)<|nl)<|us<|gc h j ah (fun hc1 h=>?_) fun hc1 h=>?_
 ·refine gs<|g0 j j (q (ae j j)<|nl)<|us<|Go.ret (Unw.ret ?_)
  cases h
  exact fr XT j
 ·refine gs<|g0 j j (q (oMv j j)<|q (oBi j j j j)<|q (ae j j)<|nl)<|us<|gc h j ah (fun hc2 h=>?_) fun hc2 h=>?_
  ·refine gs<|g0 j j (q (ae j j)<|nl)<|us<|Go.ret (Unw.ret ?_)
   cases h
   exact fr XT j
  ·refine Go.skip<|Unw.blk<|us<|gs<|g0 j j (q (ae j j)<|nl)<|us<|Go.ret (Unw.ret ?_)
   cases h
   exact fr XT j
theorem yA {a_0:af} {b_1:af} {p_2:af} {r:Bool} (h:tu a_0 b_1 p_2=some r):FX 102 [.im 2 true (aF a_0),.im 2 true (aF b_1),.im 2 true (aF p_2)] (B0 [(false,[.im 0 (V r)])]):=by
 unfold tu at h
 refine gn 42 Tryz.func102 rfl ?_
 refine gs<|g0 j j (q (oBx j aJ j (tkI (tkI tk0)))<|q (oBx j aJ j (tkI (tkI tk0)))<|q (oBx j aJ j (tkI (tkI tk0)))<|q (ae j j)<|nl)<|us<|gs<|?_
 obtain ⟨x10,Ij,h⟩:=bs h
 obtain ⟨lI,hm3,h⟩:=bs h
 refine gX aex j j j (mk [(6,bv lI)] []) ?_ ?_
 ·refine xq (oLd (cs:=[.im 0 _,.im 0 _]) j aJ j j)<|xq (oLd (cs:=[.im 0 _,.im 0 _]) j aJ j j)<|xq (oLd (cs:=[.im 0 _,.im 0 _]) j aJ j j)<|xq (oCa (xs:=[.v true [.im 0 _,.im 0 _],.v true [.im 0 _,.im 0 _],.v true [.im 0 _,.im 0 _]]) (vs:=[(false,[.im 0 _])]) (v:=.v false [.im 0 _]) (qK Ij) (.inl j) j lW j (ppC j (ppC j (ppC j pp0))) j j pb0 j j j)<|xq (oBi j j j j)<|xq (oMv j j)<|?_
  refine ic hm3 (fun hc1 hm3=>?_) fun hc1 hm3=>?_
  ·obtain ⟨x25,hx25,hm3⟩:=bs hm3
   refine xqT j j (iEq.2 hc1) (oFA (r':=.mp 5 0 0) j iI j j)<|xqT j j (iEq.2 hc1) (oLd (cs:=[.im 0 _]) j tF2 j j)<|xqT j j (iEq.2 hc1) (oFA (r':=.mp 3 0 0) j iI j j)<|xqT j j (iEq.2 hc1) (oLd (cs:=[.im 0 _]) j tF2 j j)<|xqT j j (iEq.2 hc1) (oFA (r':=.mp 4 0 0) j iI j j)<|xqT j j (iEq.2 hc1) (oLd (cs:=[.im 0 _]) j tF2 j j)<|xqT j j (iEq.2 hc1) (Y1 j j)<|xqT j j (iEq.2 hc1) (oFA (r':=.mp 3 0 0) j iI j j)<|xqT j j (iEq.2 hc1) (oLd (cs:=[.im 0 _]) j tF2 j j)<|xqT j j (iEq.2 hc1) (oFA (r':=.mp 4 0 0) j iI j j)<|xqT j j (iEq.2 hc1) (oLd (cs:=[.im 0 _]) j tF2 j j)<|xqT j j (iEq.2 hc1) (Xm j j)<|xqT j j (iEq.2 hc1) (oCa (xs:=[.v false [.im 0 _],.v false [.im 0 _],.v false [.im 0 _]]) (vs:=[(false,[.im 0 _])]) (v:=.v false [.im 0 _]) (dI hx25) (.inl j) j gB j (ppC j (ppC j (ppC j pp0))) j j pb0 j j j)<|xq (bG j j (iEq.2 hc1) j)<|xq (oMv j j)<|?_
   refine ic hm3 (fun hc2 hm3=>?_) fun hc2 hm3=>?_
   ·obtain ⟨x40,Lj,hm3⟩:=bs hm3
    cases hm3
    exact xqT j j (iR.2 hc2) (oFA (r':=.mp 5 0 1) j jd j j)<|xqT j j (iR.2 hc2) (oLd (cs:=[.im 0 _]) j tF2 j j)<|xqT j j (iR.2 hc2) (oFA (r':=.mp 3 0 1) j jd j j)<|xqT j j (iR.2 hc2) (oLd (cs:=[.im 0 _]) j tF2 j j)<|xqT j j (iR.2 hc2) (oFA (r':=.mp 4 0 1) j jd j j)<|xqT j j (iR.2 hc2) (oLd (cs:=[.im 0 _]) j tF2 j j)<|xqT j j (iR.2 hc2) (Y1 j j)<|xqT j j (iR.2 hc2) (oFA (r':=.mp 3 0 1) j jd j j)<|xqT j j (iR.2 hc2) (oLd (cs:=[.im 0 _]) j tF2 j j)<|xqT j j (iR.2 hc2) (oFA (r':=.mp 4 0 1) j jd j j)<|xqT j j (iR.2 hc2) (oLd (cs:=[.im 0 _]) j tF2 j j)<|xqT j j (iR.2 hc2) (Xm j j)<|xqT j j (iR.2 hc2) (oCa (xs:=[.v false [.im 0 _],.v false [.im 0 _],.v false [.im 0 _]]) (vs:=[(false,[.im 0 _])]) (v:=.v false [.im 0 _]) (dI Lj) (.inl j) j gB j (ppC j (ppC j (ppC j pp0))) j j pb0 j j j)<|xq (bG j j (iR.2 hc2) j)<|xq (ae j j)<|xn
   ·cases hm3
    exact aj j j (byF iR hc2) j<|aj j j (byF iR hc2) j<|aj j j (byF iR hc2) j<|aj j j (byF iR hc2) j<|aj j j (byF iR hc2) j<|aj j j (byF iR hc2) j<|aj j j (byF iR hc2) j<|aj j j (byF iR hc2) j<|aj j j (byF iR hc2) j<|aj j j (byF iR hc2) j<|aj j j (byF iR hc2) j<|aj j j (byF iR hc2) j<|aj j j (byF iR hc2) j<|xq (dP j j (byF iR hc2) j)<|xq (ae j j)<|xn
  ·cases hm3
   exact aj j j (byF iEq hc1) j<|aj j j (byF iEq hc1) j<|aj j j (byF iEq hc1) j<|aj j j (byF iEq hc1) j<|aj j j (byF iEq hc1) j<|aj j j (byF iEq hc1) j<|aj j j (byF iEq hc1) j<|aj j j (byF iEq hc1) j<|aj j j (byF iEq hc1) j<|aj j j (byF iEq hc1) j<|aj j j (byF iEq hc1) j<|aj j j (byF iEq hc1) j<|aj j j (byF iEq hc1) j<|xq (dP j j (byF iEq hc1) j)<|xq (oMv j j)<|aj j j j j<|aj j j j j<|aj j j j j<|aj j j j j<|aj j j j j<|aj j j j j<|aj j j j j<|aj j j j j<|aj j j j j<|aj j j j j<|aj j j j j<|aj j j j j<|aj j j j j<|xq (dP j j j j)<|xq (ae j j)<|xn
 ·refine us<|Go.ret (Unw.ret ?_)
  cases h
  exact fr aeE j
theorem Jm {a_0:af} {b_1:af} {c_2:af} {d_3:af} {r:Bool} (h:nG a_0 b_1 c_2 d_3=some r):FX 123 [.im 2 true (aF a_0),.im 2 true (aF b_1),.im 2 true (aF c_2),.im 2 true (aF d_3)] (B0 [(false,[.im 0 (V r)])]):=by
 unfold nG at h
 refine gn 31 Tryz.func123 rfl ?_
 refine gs<|g0 j j (q (oBx j aJ j (tkI (tkI tk0)))<|q (oBx j aJ j (tkI (tkI tk0)))<|q (oBx j aJ j (tkI (tkI tk0)))<|q (oBx j aJ j (tkI (tkI tk0)))<|q (ae j j)<|nl)<|us<|gs<|?_
 obtain ⟨x12,zU,h⟩:=bs h
 obtain ⟨x16,hx16,h⟩:=bs h
 obtain ⟨tZ,hm2,h⟩:=bs h
 refine gd aeA j j j j (mk [(8,bv tZ)] []) ?_ ?_
 ·refine t j j (oLd (cs:=[.im 0 _,.im 0 _]) j aJ j j)<|t j j (oLd (cs:=[.im 0 _,.im 0 _]) j aJ j j)<|t j j (oLd (cs:=[.im 0 _,.im 0 _]) j aJ j j)<|t j j (oLd (cs:=[.im 0 _,.im 0 _]) j aJ j j)<|t j j (oLd (cs:=[.im 0 _,.im 0 _]) j aJ j j)<|?_
  refine ic hm2 (fun hc1 hm2=>?_) fun hc1 hm2=>?_
  ·obtain ⟨x23,zq,hm2⟩:=bs hm2
   obtain ⟨x27,hx27,hm2⟩:=bs hm2
   cases hm2
   exact t j j (oLd (cs:=[.im 0 _,.im 0 _]) j aJ j j)<|sS (dN QK j (oCa (xs:=[.v true [.im 0 _,.im 0 _],.v true [.im 0 _,.im 0 _],.v true [.im 0 _,.im 0 _]]) (vs:=[(false,[.im 0 _])]) (v:=.v false [.im 0 _]) (qK zU) (.inl j) j lW j (ppC j (ppC j (ppC j pp0))) j j pb0 j j j)) trivial (sS (dN QK j (oCa (xs:=[.v true [.im 0 _,.im 0 _],.v true [.im 0 _,.im 0 _],.v true [.im 0 _,.im 0 _]]) (vs:=[(false,[.im 0 _])]) (v:=.v false [.im 0 _]) (qK hx16) (.inl j) j lW j (ppC j (ppC j (ppC j pp0))) j j pb0 j j j)) trivial (t j j (oBi j j j j)<|t j j (oBi j j j j)<|t j j (oMv j j)<|tT j j j j (ah.2 hc1) (oLd (cs:=[.im 0 _,.im 0 _]) j aJ j j)<|tT j j j j (ah.2 hc1) (oLd (cs:=[.im 0 _,.im 0 _]) j aJ j j)<|tT j j j j (ah.2 hc1) (oLd (cs:=[.im 0 _,.im 0 _]) j aJ j j)<|tT j j j j (ah.2 hc1) (oLd (cs:=[.im 0 _,.im 0 _]) j aJ j j)<|tT j j j j (ah.2 hc1) (oLd (cs:=[.im 0 _,.im 0 _]) j aJ j j)<|tT j j j j (ah.2 hc1) (oLd (cs:=[.im 0 _,.im 0 _]) j aJ j j)<|sS (dT QK j j j (ah.2 hc1) (oCa (xs:=[.v true [.im 0 _,.im 0 _],.v true [.im 0 _,.im 0 _],.v true [.im 0 _,.im 0 _]]) (vs:=[(false,[.im 0 _])]) (v:=.v false [.im 0 _]) (qK zq) (.inl j) j lW j (ppC j (ppC j (ppC j pp0))) j j pb0 j j j)) trivial (sS (dT QK j j j (ah.2 hc1) (oCa (xs:=[.v true [.im 0 _,.im 0 _],.v true [.im 0 _,.im 0 _],.v true [.im 0 _,.im 0 _]]) (vs:=[(false,[.im 0 _])]) (v:=.v false [.im 0 _]) (qK hx27) (.inl j) j lW j (ppC j (ppC j (ppC j pp0))) j j pb0 j j j)) trivial (tT j j j j (ah.2 hc1) (oBi j j j j)<|tT j j j j (ah.2 hc1) (oBi j j j j)<|t j j (bG j j (ah.2 hc1) j)<|sS (dN QK j (ae j j)) trivial (sD (by kernel_rfl))))))
  ·cases hm2
   exact t j j (oLd (cs:=[.im 0 _,.im 0 _]) j aJ j j)<|sS (dN QK j (oCa (xs:=[.v true [.im 0 _,.im 0 _],.v true [.im 0 _,.im 0 _],.v true [.im 0 _,.im 0 _]]) (vs:=[(false,[.im 0 _])]) (v:=.v false [.im 0 _]) (qK zU) (.inl j) j lW j (ppC j (ppC j (ppC j pp0))) j j pb0 j j j)) trivial (sS (dN QK j (oCa (xs:=[.v true [.im 0 _,.im 0 _],.v true [.im 0 _,.im 0 _],.v true [.im 0 _,.im 0 _]]) (vs:=[(false,[.im 0 _])]) (v:=.v false [.im 0 _]) (qK hx16) (.inl j) j lW j (ppC j (ppC j (ppC j pp0))) j j pb0 j j j)) trivial (t j j (oBi j j j j)<|t j j (oBi j j j j)<|t j j (oMv j j)<|tF j j j j (byF ah hc1) j<|tF j j j j (byF ah hc1) j<|tF j j j j (byF ah hc1) j<|tF j j j j (byF ah hc1) j<|tF j j j j (byF ah hc1) j<|tF j j j j (byF ah hc1) j<|sS (dF j j j (byF ah hc1) j) trivial (sS (dF j j j (byF ah hc1) j) trivial (tF j j j j (byF ah hc1) j<|tF j j j j (byF ah hc1) j<|t j j (dP j j (byF ah hc1) j)<|sS (dN QK j (ae j j)) trivial (sD (by kernel_rfl))))))
 ·refine us<|Go.ret (Unw.ret ?_)
  cases h
  exact fr aeL j
theorem Jn {a_0:af} {b_1:af} {c_2:af} {d_3:af} {r:Bool} (h:nH a_0 b_1 c_2 d_3=some r):FX 103 [.im 2 true (aF a_0),.im 2 true (aF b_1),.im 2 true (aF c_2),.im 2 true (aF d_3)] (B0 [(false,[.im 0 (V r)])]):=by
 unfold nH at h
 refine gn 38 Tryz.func103 rfl ?_
 refine gs<|g0 j j (q (oBx j aJ j (tkI (tkI tk0)))<|q (oBx j aJ j (tkI (tkI tk0)))<|q (oBx j aJ j (tkI (tkI tk0)))<|q (oBx j aJ j (tkI (tkI tk0)))<|q (ae j j)<|nl)<|us<|gs<|?_
 obtain ⟨x13,Ll,h⟩:=bs h
 obtain ⟨tZ,hm5,h⟩:=bs h
 refine gX aey j j j (mk [(8,bv tZ)] []) ?_ ?_
 ·refine xq (oLd (cs:=[.im 0 _,.im 0 _]) j aJ j j)<|xq (oLd (cs:=[.im 0 _,.im 0 _]) j aJ j j)<|xq (oLd (cs:=[.im 0 _,.im 0 _]) j aJ j j)<|xq (oLd (cs:=[.im 0 _,.im 0 _]) j aJ j j)<|xq (oCa (xs:=[.v true [.im 0 _,.im 0 _],.v true [.im 0 _,.im 0 _],.v true [.im 0 _,.im 0 _],.v true [.im 0 _,.im 0 _]]) (vs:=[(false,[.im 0 _])]) (v:=.v false [.im 0 _]) (Jm Ll) (.inl j) j Gt j (ppC j (ppC j (ppC j (ppC j pp0)))) j j pb0 j j j)<|xq (oMv j j)<|?_
  refine ic hm5 (fun hc1 hm5=>?_) fun hc1 hm5=>?_
  ·cases hm5
   exact aj j j (iR.2 hc1) j<|aj j j (iR.2 hc1) j<|aj j j (iR.2 hc1) j<|aj j j (iR.2 hc1) j<|xq (bG j j (iR.2 hc1) j)<|xq (oMv j j)<|aj j j j j<|aj j j j j<|aj j j j j<|aj j j j j<|xq (bG j j j j)<|xq (oMv j j)<|aj j j j j<|aj j j j j<|aj j j j j<|aj j j j j<|xq (bG j j j j)<|xq (oMv j j)<|aj j j j j<|aj j j j j<|aj j j j j<|aj j j j j<|xq (bG j j j j)<|xq (ae j j)<|xn
  ·obtain ⟨x18,Fe,hm5⟩:=bs hm5
   refine xqT j j (byF iR hc1) (oLd (cs:=[.im 0 _,.im 0 _]) j aJ j j)<|xqT j j (byF iR hc1) (oLd (cs:=[.im 0 _,.im 0 _]) j aJ j j)<|xqT j j (byF iR hc1) (oLd (cs:=[.im 0 _,.im 0 _]) j aJ j j)<|xqT j j (byF iR hc1) (oCa (xs:=[.v true [.im 0 _,.im 0 _],.v true [.im 0 _,.im 0 _],.v true [.im 0 _,.im 0 _]]) (vs:=[(false,[.im 0 _])]) (v:=.v false [.im 0 _]) (yA Fe) (.inl j) j oq j (ppC j (ppC j (ppC j pp0))) j j pb0 j j j)<|xq (dP j j (byF iR hc1) j)<|xq (oMv j j)<|?_
   refine ic hm5 (fun hc2 hm5=>?_) fun hc2 hm5=>?_
   ·cases hm5
    exact aj j j (iR.2 hc2) j<|aj j j (iR.2 hc2) j<|aj j j (iR.2 hc2) j<|aj j j (iR.2 hc2) j<|xq (bG j j (iR.2 hc2) j)<|xq (oMv j j)<|aj j j j j<|aj j j j j<|aj j j j j<|aj j j j j<|xq (bG j j j j)<|xq (oMv j j)<|aj j j j j<|aj j j j j<|aj j j j j<|aj j j j j<|xq (bG j j j j)<|xq (ae j j)<|xn
   ·obtain ⟨x24,hx24,hm5⟩:=bs hm5
    refine xqT j j (byF iR hc2) (oLd (cs:=[.im 0 _,.im 0 _]) j aJ j j)<|xqT j j (byF iR hc2) (oLd (cs:=[.im 0 _,.im 0 _]) j aJ j j)<|xqT j j (byF iR hc2) (oLd (cs:=[.im 0 _,.im 0 _]) j aJ j j)<|xqT j j (byF iR hc2) (oCa (xs:=[.v true [.im 0 _,.im 0 _],.v true [.im 0 _,.im 0 _],.v true [.im 0 _,.im 0 _]]) (vs:=[(false,[.im 0 _])]) (v:=.v false [.im 0 _]) (yA hx24) (.inl j) j oq j (ppC j (ppC j (ppC j pp0))) j j pb0 j j j)<|xq (dP j j (byF iR hc2) j)<|xq (oMv j j)<|?_
    refine ic hm5 (fun hc3 hm5=>?_) fun hc3 hm5=>?_
    ·cases hm5
     exact aj j j (iR.2 hc3) j<|aj j j (iR.2 hc3) j<|aj j j (iR.2 hc3) j<|aj j j (iR.2 hc3) j<|xq (bG j j (iR.2 hc3) j)<|xq (oMv j j)<|aj j j j j<|aj j j j j<|aj j j j j<|aj j j j j<|xq (bG j j j j)<|xq (ae j j)<|xn
    ·obtain ⟨x30,QW,hm5⟩:=bs hm5
     refine xqT j j (byF iR hc3) (oLd (cs:=[.im 0 _,.im 0 _]) j aJ j j)<|xqT j j (byF iR hc3) (oLd (cs:=[.im 0 _,.im 0 _]) j aJ j j)<|xqT j j (byF iR hc3) (oLd (cs:=[.im 0 _,.im 0 _]) j aJ j j)<|xqT j j (byF iR hc3) (oCa (xs:=[.v true [.im 0 _,.im 0 _],.v true [.im 0 _,.im 0 _],.v true [.im 0 _,.im 0 _]]) (vs:=[(false,[.im 0 _])]) (v:=.v false [.im 0 _]) (yA QW) (.inl j) j oq j (ppC j (ppC j (ppC j pp0))) j j pb0 j j j)<|xq (dP j j (byF iR hc3) j)<|xq (oMv j j)<|?_
     refine ic hm5 (fun hc4 hm5=>?_) fun hc4 hm5=>?_
     ·cases hm5
      exact aj j j (iR.2 hc4) j<|aj j j (iR.2 hc4) j<|aj j j (iR.2 hc4) j<|aj j j (iR.2 hc4) j<|xq (bG j j (iR.2 hc4) j)<|xq (ae j j)<|xn
     ·obtain ⟨x36,Ba,hm5⟩:=bs hm5
      cases hm5
      exact xqT j j (byF iR hc4) (oLd (cs:=[.im 0 _,.im 0 _]) j aJ j j)<|xqT j j (byF iR hc4) (oLd (cs:=[.im 0 _,.im 0 _]) j aJ j j)<|xqT j j (byF iR hc4) (oLd (cs:=[.im 0 _,.im 0 _]) j aJ j j)<|xqT j j (byF iR hc4) (oCa (xs:=[.v true [.im 0 _,.im 0 _],.v true [.im 0 _,.im 0 _],.v true [.im 0 _,.im 0 _]]) (vs:=[(false,[.im 0 _])]) (v:=.v false [.im 0 _]) (yA Ba) (.inl j) j oq j (ppC j (ppC j (ppC j pp0))) j j pb0 j j j)<|xq (dP j j (byF iR hc4) j)<|xq (ae j j)<|xn
 ·refine us<|Go.ret (Unw.ret ?_)
  cases h
  exact fr aeF j
theorem LC {p_0:(List af)} {r:Int} (h:oN p_0=some r):FX 104 [.im 2 false [W 2 az p_0]] (B0 [(false,[.im 0 (I r)])]):=by
 unfold oN at h
 refine gn 37 Tryz.func104 rfl ?_
 refine gs<|g0 j j (q (ae j j)<|nl)<|us<|gs<|g0 j j (q (ae j j)<|nl)<|us<|gs<|gs<|g0 j j (q (oMv j j)<|q (gJ j j zT j)<|q (oMv j j)<|nl)<|us<|Go.block<|?_
 obtain ⟨o,hl,h⟩:=bs h
 refine gl acT j _ (fun (s:(Int×Int))=>match s with | (lJ,zN)=>mk [(0,D 2 (W 2 az p_0)),(3,iv lJ),(7,D 2 (W 2 az p_0)),(8,iv (p_0.length:Int)),(9,iv zN)] []) (fun (oL:Int) (p:Ex×St)=>p.1= .exit 0∧p.2.norm ([3],[])=mk [(3,iv oL)] []) hl (by kernel_rfl) ?_ ?_ ?_
 ·intro o p hp e
  exact nomatch (hp.1.symm.trans e)
 ·rintro ⟨lJ,zN⟩ o h
  unfold pF at h
  dsimp only at h
  refine gs<|g0 j j (q (oBi j j j j)<|nl)<|us<|gs<|gc h j ah (fun hc3 h=>?_) fun hc3 h=>?_
  ·refine Go.skip<|us<|gs<|Go.block<|gs<|?_
   obtain ⟨x12,zU,h⟩:=bs h
   refine g0 j j (q (oMv j j)<|q (gq j zU pK j j)<|q (oLd (cs:=[.im 2 _,.im 2 _]) j aJ j j)<|q (oAl j aJ (tkI (tkI tk0)))<|q (ae j j)<|q (oSt aJ j j j (tkI (tkI tk0)) j j j)<|nl)<|us<|gs<|?_
   obtain ⟨x19,yw,h⟩:=bs h
   obtain ⟨x20,yu,h⟩:=bs h
   refine g1 j j (mk [(0,D 2 (W 2 az p_0)),(3,iv lJ),(4,iv zN),(5,M 5),(7,D 2 (W 2 az p_0)),(8,iv (p_0.length:Int)),(9,iv zN)] [(5,Oa (G 0 (aF x12)))]) (q (oMv j j)<|q (oMv j j)<|q (oBi j j j j)<|q (oMv j j)<|q (gJ j j zT j)<|q (Gi j yw j j)<|q (gq j yu pK j j)<|q (oLd (cs:=[.im 2 _,.im 2 _]) j aJ j j)<|q (oAl j aJ (tkI (tkI tk0)))<|q (oSt aJ j j j (tkI (tkI tk0)) j j j)<|nl)<|us<|g1 j j (mk [(0,D 2 (W 2 az p_0)),(3,iv lJ),(5,M 5),(6,M 6),(7,D 2 (W 2 az p_0)),(8,iv (p_0.length:Int)),(9,iv zN)] [(5,Oa (G 0 (aF x12))),(6,Oa (G 0 (aF x20)))]) (q (oMv j j)<|q (oFA (r':=.mp 5 0 0) j iI j j)<|q (oLd (cs:=[.im 0 _]) j tF2 j j)<|q (oFA (r':=.mp 6 0 1) j jd j j)<|q (oLd (cs:=[.im 0 _]) j tF2 j j)<|q (oBi j j j j)<|q (oFA (r':=.mp 5 0 1) j jd j j)<|q (oLd (cs:=[.im 0 _]) j tF2 j j)<|q (oFA (r':=.mp 6 0 0) j iI j j)<|q (oLd (cs:=[.im 0 _]) j tF2 j j)<|q (oBi j j j j)<|q (oBi j j j j)<|q (oBi j j j j)<|q (ae j j)<|nl)<|Unw.blk<|us<|g0 j j (q (oBi j j j j)<|q (oMv j j)<|nl)<|Unw.nil<|?_
   cases h
   exact ⟨j,(by kernel_rfl)⟩
  ·refine Go.exit<|ux<|Unw.nil<|?_
   cases h
   exact ⟨j,(by kernel_rfl)⟩
 ·rintro ⟨e,st⟩ hp
  obtain ⟨oL,rfl⟩:∃y,y=o:=⟨o,rfl⟩
  obtain ⟨he,hst⟩:=hp
  obtain rfl:e= .exit 0:=he
  refine Unw.iU<|us<|gs<|g2 acT j j hst (q (oMv j j)<|q (ae j j)<|nl)<|us<|Go.ret (Unw.ret ?_)
  cases h
  exact fr aeG j
theorem Ej {p_0:(List af)} {r:Bool} (h:mQ p_0=some r):FX 79 [.im 2 false [W 2 az p_0]] (B0 [(false,[.im 0 (V r)])]):=by
 unfold mQ at h
 refine gn 93 Tryz.func79 rfl ?_
 refine gs<|g0 j j (q (ae j j)<|nl)<|us<|gs<|g0 j j (q (oMv j j)<|q (gJ j j zT j)<|q (ae j j)<|nl)<|us<|gs<|gs<|?_
 obtain ⟨OW,LD,h⟩:=bs h
 refine gX c79 j j j (mk [(0,D 2 (W 2 az p_0)),(3,iv (p_0.length:Int)),(21,bv OW)] []) ?_ ?_
 ·refine xq (oMv j j)<|xq (oBi j j j j)<|xq (oMv j j)<|?_
  refine ic LD (fun hc1 LD=>?_) fun hc1 LD=>?_
  ·cases LD
   exact aj j j (ah.2 hc1) j<|aj j j (ah.2 hc1) j<|xq (bG j j (ah.2 hc1) j)<|xq (oMv j j)<|aj j j j j<|aj j j j j<|aj j j j j<|xq (bG j j j j)<|xn
  ·refine xqT j j (byF ah hc1) (oMv j j)<|xqT j j (byF ah hc1) (oBi j j j j)<|xq (dP j j (byF ah hc1) j)<|xq (oMv j j)<|?_
   refine ic LD (fun hc2 LD=>?_) fun hc2 LD=>?_
   ·cases LD
    exact aj j j (ah.2 hc2) j<|aj j j (ah.2 hc2) j<|aj j j (ah.2 hc2) j<|xq (bG j j (ah.2 hc2) j)<|xn
   ·obtain ⟨x19,yw,LD⟩:=bs LD
    cases LD
    exact xqT j j (byF ah hc2) (oMv j j)<|xqT j j (byF ah hc2) (oCa (xs:=[.v false [.im 2 _]]) (vs:=[(false,[.im 0 _])]) (v:=.v false [.im 0 _]) (Fv yw) (.inl j) j XI j (ppC j pp0) j j pb0 j j j)<|xqT j j (byF ah hc2) (oUn j j j)<|xq (dP j j (byF ah hc2) j)<|xn
 ·refine us<|gc h j iR (fun hc3 h=>?_) fun hc3 h=>?_
  ·refine gs<|g0 j j (q (ae j j)<|nl)<|us<|Go.ret (Unw.ret ?_)
   cases h
   exact fr abg j
  ·refine Go.skip<|us<|gs<|gs<|g0 j j (q (oMv j j)<|q (gJ j j zT j)<|q (oMv j j)<|nl)<|us<|Go.block<|?_
   obtain ⟨o,hl,h⟩:=bs h
   refine gl c79 j _ (fun (jQ:Int)=>mk [(0,D 2 (W 2 az p_0)),(3,iv (p_0.length:Int)),(23,iv (p_0.length:Int)),(24,iv jQ)] []) (fun (o:(Unit ⊕ Bool)) (p:Ex×St)=>match o with | (.inl _)=>p.1= .exit 0∧p.2.norm ([0],[])=mk [(0,D 2 (W 2 az p_0))] [] | (.inr r2)=>p.1= .ret∧fin Tryz.prog cfg 79 Tryz.f79 [.im 2 false [W 2 az p_0]] p.2=some (B0 [(false,[.im 0 (V r2)])])) hl (by kernel_rfl) ?_ ?_ ?_
   ·intro o p hp e
    rcases o with u | r2<;>exact nomatch (hp.1.symm.trans e)
   ·rintro jQ o h
    unfold iE at h
    refine gs<|g0 j j (q (oBi j j j j)<|nl)<|us<|gs<|gc h j ah (fun kQ h=>?_) fun kQ h=>?_
    ·refine Go.skip<|us<|gs<|Go.block<|gs<|g0 j j (q (oMv j j)<|q (ae j j)<|nl)<|us<|gs<|?_
     obtain ⟨x29,hx29,h⟩:=bs h
     obtain ⟨x35,adx,h⟩:=bs h
     obtain ⟨x36,Ba,h⟩:=bs h
     obtain ⟨x42,VJ,h⟩:=bs h
     obtain ⟨x43,Jf,h⟩:=bs h
     refine gd c79 j j j j (mk [(0,D 2 (W 2 az p_0)),(3,iv (p_0.length:Int)),(4,iv jQ),(5,M 5),(6,M 6),(7,M 7),(23,iv (p_0.length:Int)),(24,iv jQ)] [(5,Oa (G 0 (aF x29))),(6,Oa (G 0 (aF x36))),(7,Oa (G 0 (aF x43)))]) (t j j (oMv j j)<|t j j (oMv j j)<|t j j (gq j hx29 pK j j)<|t j j (oLd (cs:=[.im 2 _,.im 2 _]) j aJ j j)<|t j j (oMv j j)<|t j j (oMv j j)<|t j j (oBi j j j j)<|t j j (oMv j j)<|t j j (Gi j adx j j)<|t j j (gq j Ba pK j j)<|t j j (oLd (cs:=[.im 2 _,.im 2 _]) j aJ j j)<|t j j (oMv j j)<|t j j (oMv j j)<|t j j (oBi j j j j)<|t j j (oMv j j)<|t j j (Gi j VJ j j)<|t j j (gq j Jf pK j j)<|t j j (oLd (cs:=[.im 2 _,.im 2 _]) j aJ j j)<|sF (dN z79 j (oAl j aJ (tkI (tkI tk0)))) trivial (sF (dN z79 j (oAl j aJ (tkI (tkI tk0)))) trivial (sS (dN z79 j (oAl j aJ (tkI (tkI tk0)))) trivial (sS (dN z79 j (oSt aJ j j j (tkI (tkI tk0)) j j j)) trivial (sS (dN z79 j (oSt aJ j j j (tkI (tkI tk0)) j j j)) trivial (sS (dN z79 j (oSt aJ j j j (tkI (tkI tk0)) j j j)) trivial (sD (by kernel_rfl)))))) (sS (dN z79 j (oAl j aJ (tkI (tkI tk0)))) trivial (sS (dN z79 j (oAl j aJ (tkI (tkI tk0)))) trivial (sS (dN z79 j (oSt aJ j j j (tkI (tkI tk0)) j j j)) trivial (sS (dN z79 j (oSt aJ j j j (tkI (tkI tk0)) j j j)) trivial (sS (dN z79 j (oSt aJ j j j (tkI (tkI tk0)) j j j)) trivial (sD (by kernel_rfl)))))))) (sF (dN z79 j (oAl j aJ (tkI (tkI tk0)))) trivial (sF (dN z79 j (oAl j aJ (tkI (tkI tk0)))) trivial (sS (dN z79 j (oAl j aJ (tkI (tkI tk0)))) trivial (sS (dN z79 j (oSt aJ j j j (tkI (tkI tk0)) j j j)) trivial (sS (dN z79 j (oSt aJ j j j (tkI (tkI tk0)) j j j)) trivial (sS (dN z79 j (oSt aJ j j j (tkI (tkI tk0)) j j j)) trivial (sD (by kernel_rfl)))))) (sS (dN z79 j (oAl j aJ (tkI (tkI tk0)))) trivial (sS (dN z79 j (oAl j aJ (tkI (tkI tk0)))) trivial (sS (dN z79 j (oSt aJ j j j (tkI (tkI tk0)) j j j)) trivial (sS (dN z79 j (oSt aJ j j j (tkI (tkI tk0)) j j j)) trivial (sS (dN z79 j (oSt aJ j j j (tkI (tkI tk0)) j j j)) trivial (sD (by kernel_rfl)))))))) (sS (dN z79 j (oAl j aJ (tkI (tkI tk0)))) trivial (sF (dN z79 j (oAl j aJ (tkI (tkI tk0)))) trivial (sS (dN z79 j (oAl j aJ (tkI (tkI tk0)))) trivial (sS (dN z79 j (oSt aJ j j j (tkI (tkI tk0)) j j j)) trivial (sS (dN z79 j (oSt aJ j j j (tkI (tkI tk0)) j j j)) trivial (sS (dN z79 j (oSt aJ j j j (tkI (tkI tk0)) j j j)) trivial (sD (by kernel_rfl)))))) (sS (dN z79 j (oAl j aJ (tkI (tkI tk0)))) trivial (sS (dN z79 j (oAl j aJ (tkI (tkI tk0)))) trivial (sS (dN z79 j (oSt aJ j j j (tkI (tkI tk0)) j j j)) trivial (sS (dN z79 j (oSt aJ j j j (tkI (tkI tk0)) j j j)) trivial (sS (dN z79 j (oSt aJ j j j (tkI (tkI tk0)) j j j)) trivial (sD (by kernel_rfl)))))))))))<|us<|gs<|gs<|?_
     obtain ⟨OV,Iq,h⟩:=bs h
     refine gX c79 j j j (mk [(0,D 2 (W 2 az p_0)),(3,iv (p_0.length:Int)),(4,iv jQ),(5,M 5),(6,M 6),(23,iv (p_0.length:Int)),(24,iv jQ),(59,bv OV)] [(5,Oa (G 0 (aF x29))),(6,Oa (G 0 (aF x36)))]) ?_ ?_
     ·refine xq (oLd (cs:=[.im 0 _,.im 0 _]) j aJ j j)<|xq (oLd (cs:=[.im 0 _,.im 0 _]) j aJ j j)<|xq (oBa j (UK x29.X x29.Y x36.X x36.Y) j j j j)<|xq (oMv j j)<|?_
      refine ic Iq (fun hc31 Iq=>?_) fun hc31 Iq=>?_
      ·cases Iq
       exact aj j j ((xK iEq iEq).2 hc31) j<|aj j j ((xK iEq iEq).2 hc31) j<|aj j j ((xK iEq iEq).2 hc31) j<|aj j j ((xK iEq iEq).2 hc31) j<|xq (bG j j ((xK iEq iEq).2 hc31) j)<|xq (oMv j j)<|aj j j j j<|aj j j j j<|aj j j j j<|aj j j j j<|xq (bG j j j j)<|xn
      ·obtain ⟨x52,X7,Iq⟩:=bs Iq
       refine xqT j j (byF (xK iEq iEq) hc31) (oLd (cs:=[.im 0 _,.im 0 _]) j aJ j j)<|xqT j j (byF (xK iEq iEq) hc31) (oLd (cs:=[.im 0 _,.im 0 _]) j aJ j j)<|xqT j j (byF (xK iEq iEq) hc31) (oLd (cs:=[.im 0 _,.im 0 _]) j aJ j j)<|xqT j j (byF (xK iEq iEq) hc31) (oCa (xs:=[.v true [.im 0 _,.im 0 _],.v true [.im 0 _,.im 0 _],.v true [.im 0 _,.im 0 _]]) (vs:=[(false,[.im 0 _])]) (v:=.v false [.im 0 _]) (yA X7) (.inl j) j oq j (ppC j (ppC j (ppC j pp0))) j j pb0 j j j)<|xq (dP j j (byF (xK iEq iEq) hc31) j)<|xq (oMv j j)<|?_
       refine ic Iq (fun hc32 Iq=>?_) fun hc32 Iq=>?_
       ·cases Iq
        exact aj j j (iR.2 hc32) j<|aj j j (iR.2 hc32) j<|aj j j (iR.2 hc32) j<|aj j j (iR.2 hc32) j<|xq (bG j j (iR.2 hc32) j)<|xn
       ·obtain ⟨x58,ahu,Iq⟩:=bs Iq
        cases Iq
        exact xqT j j (byF iR hc32) (oLd (cs:=[.im 0 _,.im 0 _]) j aJ j j)<|xqT j j (byF iR hc32) (oLd (cs:=[.im 0 _,.im 0 _]) j aJ j j)<|xqT j j (byF iR hc32) (oLd (cs:=[.im 0 _,.im 0 _]) j aJ j j)<|xqT j j (byF iR hc32) (oCa (xs:=[.v true [.im 0 _,.im 0 _],.v true [.im 0 _,.im 0 _],.v true [.im 0 _,.im 0 _]]) (vs:=[(false,[.im 0 _])]) (v:=.v false [.im 0 _]) (yA ahu) (.inl j) j oq j (ppC j (ppC j (ppC j pp0))) j j pb0 j j j)<|xq (dP j j (byF iR hc32) j)<|xn
     ·refine us<|gc h j iR (fun vY h=>?_) fun vY h=>?_
      ·refine gs<|g0 j j (q (ae j j)<|nl)<|us<|Go.ret (Unw.ret ?_)
       cases h
       exact ⟨j,(fo abg j)⟩
      ·refine Go.skip<|us<|gs<|g0 j j (q (oMv j j)<|q (oBi j j j j)<|q (ae j j)<|nl)<|us<|Go.block<|?_
       obtain ⟨o,hl,h⟩:=bs h
       refine gl c79 j _ (fun (yl:Int)=>mk [(0,D 2 (W 2 az p_0)),(3,iv (p_0.length:Int)),(4,iv jQ),(5,M 5),(6,M 6),(8,iv yl),(23,iv (p_0.length:Int)),(24,iv jQ)] [(5,Oa (G 0 (aF x29))),(6,Oa (G 0 (aF x36)))]) (fun (o:(Unit ⊕ Bool)) (p:Ex×St)=>match o with | (.inl _)=>p.1= .exit 2∧p.2.norm ([0,3,23,24],[])=mk [(0,D 2 (W 2 az p_0)),(3,iv (p_0.length:Int)),(23,iv (p_0.length:Int)),(24,iv jQ)] [] | (.inr r2)=>p.1= .ret∧fin Tryz.prog cfg 79 Tryz.f79 [.im 2 false [W 2 az p_0]] p.2=some (B0 [(false,[.im 0 (V r2)])])) hl (by kernel_rfl) ?_ ?_ ?_
       ·intro o p hp e
        rcases o with u | r2<;>exact nomatch (hp.1.symm.trans e)
       ·rintro yl o h
        unfold gW at h
        refine gs<|gs<|g0 j j (q (oMv j j)<|q (oMv j j)<|q (oBi j j j j)<|nl)<|us<|gc h j ah (fun ady h=>?_) fun ady h=>?_
        ·refine Go.skip<|us<|gs<|Go.block<|gs<|?_
         obtain ⟨x70,X5,h⟩:=bs h
         obtain ⟨KT,Ir,h⟩:=bs h
         refine gd c79 j j j j (mk [(0,D 2 (W 2 az p_0)),(3,iv (p_0.length:Int)),(4,iv jQ),(5,M 5),(6,M 6),(8,iv yl),(23,iv (p_0.length:Int)),(24,iv jQ),(88,bv KT)] [(5,Oa (G 0 (aF x29))),(6,Oa (G 0 (aF x36)))]) ?_ ?_
         ·refine t j j (oMv j j)<|t j j (oBi j j j j)<|t j j (oMv j j)<|t j j (Gi j X5 j j)<|t j j (oMv j j)<|t j j (oBi j j j j)<|t j j (oMv j j)<|?_
          refine ic Ir (fun um Ir=>?_) fun um Ir=>?_
          ·obtain ⟨x78,ahv,Ir⟩:=bs Ir
           obtain ⟨x84,ahw,Ir⟩:=bs Ir
           obtain ⟨x85,X4,Ir⟩:=bs Ir
           obtain ⟨x87,adz,Ir⟩:=bs Ir
           cases Ir
           exact tT j j j j (iNe.2 um) (oLd (cs:=[.im 0 _,.im 0 _]) j aJ j j)<|tT j j j j (iNe.2 um) (oLd (cs:=[.im 0 _,.im 0 _]) j aJ j j)<|tT j j j j (iNe.2 um) (oMv j j)<|tT j j j j (iNe.2 um) (oMv j j)<|tT j j j j (iNe.2 um) (gq j ahv pK j j)<|tT j j j j (iNe.2 um) (oLd (cs:=[.im 2 _,.im 2 _]) j aJ j j)<|tT j j j j (iNe.2 um) (oMv j j)<|tT j j j j (iNe.2 um) (oMv j j)<|tT j j j j (iNe.2 um) (oBi j j j j)<|tT j j j j (iNe.2 um) (oMv j j)<|tT j j j j (iNe.2 um) (Gi j ahw j j)<|tT j j j j (iNe.2 um) (gq j X4 pK j j)<|tT j j j j (iNe.2 um) (oLd (cs:=[.im 2 _,.im 2 _]) j aJ j j)<|sS (dT z79 j j j (iNe.2 um) (oCa (xs:=[.v true [.im 0 _,.im 0 _],.v true [.im 0 _,.im 0 _],.v true [.im 2 _,.im 2 _],.v true [.im 2 _,.im 2 _]]) (vs:=[(false,[.im 0 _])]) (v:=.v false [.im 0 _]) (Jn adz) (.inl j) j Gq j (ppC j (ppC j (ppC j (ppC j pp0)))) j j pb0 j j j)) trivial (t j j (bG j j (iNe.2 um) j)<|sD (by kernel_rfl))
          ·cases Ir
           exact tF j j j j (byF iNe um) j<|tF j j j j (byF iNe um) j<|tF j j j j (byF iNe um) j<|tF j j j j (byF iNe um) j<|tF j j j j (byF iNe um) j<|tF j j j j (byF iNe um) j<|tF j j j j (byF iNe um) j<|tF j j j j (byF iNe um) j<|tF j j j j (byF iNe um) j<|tF j j j j (byF iNe um) j<|tF j j j j (byF iNe um) j<|tF j j j j (byF iNe um) j<|tF j j j j (byF iNe um) j<|sS (dF j j j (byF iNe um) j) trivial (t j j (dP j j (byF iNe um) j)<|sD (by kernel_rfl))
         ·refine us<|gc h j iR (fun ahx h=>?_) fun ahx h=>?_
          ·refine gs<|g0 j j (q (ae j j)<|nl)<|us<|Go.ret (Unw.ret ?_)
           cases h
           exact ⟨j,(fo abg j)⟩
          ·refine Go.skip<|Unw.blk<|us<|g0 j j (q (oMv j j)<|q (oBi j j j j)<|q (ae j j)<|nl)<|Unw.nil<|?_
           cases h
           exact ⟨j,(by kernel_rfl)⟩
        ·refine Go.exit<|ux<|Unw.nil<|?_
         cases h
         exact ⟨j,(by kernel_rfl)⟩
       ·rintro ⟨e,st⟩ hp
        rcases o with u | r2
        ·dsimp only at h
         obtain ⟨he,hst⟩:=hp
         obtain rfl:e= .exit 2:=he
         refine Unw.iU<|Unw.blk<|us<|g2 c79 j j hst (q (oBi j j j j)<|q (oMv j j)<|nl)<|Unw.nil<|?_
         cases h
         exact ⟨j,(by kernel_rfl)⟩
        ·dsimp only at h
         obtain ⟨he,hfin⟩:=hp
         obtain rfl:e= .ret:=he
         cases h
         exact Unw.ret ⟨j,hfin⟩
    ·refine Go.exit<|ux<|Unw.nil<|?_
     cases h
     exact ⟨j,(by kernel_rfl)⟩
   ·rintro ⟨e,st⟩ hp
    rcases o with u | r2
    ·dsimp only at h
     obtain ⟨he,hst⟩:=hp
     obtain rfl:e= .exit 0:=he
     refine Unw.iU<|us<|gs<|?_
     obtain ⟨x91,hx91,h⟩:=bs h
     refine g2 c79 j j hst (q (oMv j j)<|q (oCa (xs:=[.v false [.im 2 _]]) (vs:=[(false,[.im 0 _])]) (v:=.v false [.im 0 _]) (LC hx91) (.inl j) j XJ j (ppC j pp0) j j pb0 j j j)<|q (oBi j j j j)<|q (ae j j)<|nl)<|us<|Go.ret (Unw.ret ?_)
     cases h
     exact fr abg j
    ·dsimp only at h
     obtain ⟨he,hfin⟩:=hp
     obtain rfl:e= .ret:=he
     cases h
     exact Unw.ret (fO hfin)
theorem Em {d_0:aA} {r:Bool} (h:mV d_0=some r):FX 52 [.im 2 true (ak d_0)] (B0 [(false,[.im 0 (V r)])]):=by
 unfold mV at h
 refine gn 106 Tryz.func52 rfl ?_
 refine gs<|g0 j j (q (oBx j AZ j (tkI (tkI (tkI (tkI tk0)))))<|q (ae j j)<|nl)<|us<|gs<|gs<|?_
 obtain ⟨x11,X0,h⟩:=bs h
 obtain ⟨OY,Fz,h⟩:=bs h
 refine gX c52 j j j (mk [(1,M 1),(30,bv OY)] [(1,Oa (G 2 (ak d_0)))]) ?_ ?_
 ·refine xq (oFA (r':=.mp 1 0 0) j E8 j j)<|xq (oLd (cs:=[.im 0 _]) j tF2 j j)<|xq (oCa (xs:=[.v false [.im 0 _],.v false [.im 0 _],.v false [.im 0 _]]) (vs:=[(false,[.im 0 _])]) (v:=.v false [.im 0 _]) (dI X0) (.inl j) j gB j (ppC j (ppC j (ppC j pp0))) j j pb0 j j j)<|xq (oUn j j j)<|xq (oMv j j)<|?_
  refine ic Fz (fun hc1 Fz=>?_) fun hc1 Fz=>?_
  ·obtain ⟨x16,hx16,Fz⟩:=bs Fz
   refine xqT j j (nF (iR.2 hc1)) (oFA (r':=.mp 1 0 1) j Dw j j)<|xqT j j (nF (iR.2 hc1)) (oLd (cs:=[.im 0 _]) j tF2 j j)<|xqT j j (nF (iR.2 hc1)) (oCa (xs:=[.v false [.im 0 _],.v false [.im 0 _],.v false [.im 0 _]]) (vs:=[(false,[.im 0 _])]) (v:=.v false [.im 0 _]) (dI hx16) (.inl j) j gB j (ppC j (ppC j (ppC j pp0))) j j pb0 j j j)<|xqT j j (nF (iR.2 hc1)) (oUn j j j)<|xq (dP j j (nF (iR.2 hc1)) j)<|xq (oMv j j)<|?_
   refine ic Fz (fun hc2 Fz=>?_) fun hc2 Fz=>?_
   ·refine xqT j j (nF (iR.2 hc2)) (oFA (r':=.mp 1 0 2) j rM j j)<|xqT j j (nF (iR.2 hc2)) (oLd (cs:=[.im 2 _]) j Eh j j)<|xqT j j (nF (iR.2 hc2)) (gJ j j zT j)<|xqT j j (nF (iR.2 hc2)) (oBi j j j j)<|xq (dP j j (nF (iR.2 hc2)) j)<|xq (oMv j j)<|?_
    refine ic Fz (fun hc3 Fz=>?_) fun hc3 Fz=>?_
    ·cases Fz
     exact aj j j (ah.2 hc3) j<|aj j j (ah.2 hc3) j<|aj j j (ah.2 hc3) j<|aj j j (ah.2 hc3) j<|xq (bG j j (ah.2 hc3) j)<|xn
    ·cases Fz
     exact xqT j j (byF ah hc3) (oFA (r':=.mp 1 0 3) j oO j j)<|xqT j j (byF ah hc3) (oLd (cs:=[.im 2 _]) j BP j j)<|xqT j j (byF ah hc3) (gJ j j I5 j)<|xqT j j (byF ah hc3) (oBi j j j j)<|xq (dP j j (byF ah hc3) j)<|xn
   ·cases Fz
    exact aj j j (nT (byF iR hc2)) j<|aj j j (nT (byF iR hc2)) j<|aj j j (nT (byF iR hc2)) j<|aj j j (nT (byF iR hc2)) j<|xq (bG j j (nT (byF iR hc2)) j)<|xq (oMv j j)<|aj j j j j<|aj j j j j<|aj j j j j<|aj j j j j<|xq (bG j j j j)<|xn
  ·cases Fz
   exact aj j j (nT (byF iR hc1)) j<|aj j j (nT (byF iR hc1)) j<|aj j j (nT (byF iR hc1)) j<|aj j j (nT (byF iR hc1)) j<|xq (bG j j (nT (byF iR hc1)) j)<|xq (oMv j j)<|aj j j j j<|aj j j j j<|aj j j j j<|aj j j j j<|xq (bG j j j j)<|xq (oMv j j)<|aj j j j j<|aj j j j j<|aj j j j j<|aj j j j j<|xq (bG j j j j)<|xn
 ·refine us<|gc h j iR (fun hc4 h=>?_) fun hc4 h=>?_
  ·refine gs<|g0 j j (q (ae j j)<|nl)<|us<|Go.ret (Unw.ret ?_)
   cases h
   exact fr XV j
  ·refine Go.skip<|us<|gs<|gs<|g0 j j (q (oFA (r':=.mp 1 0 2) j rM j j)<|q (oLd (cs:=[.im 2 _]) j Eh j j)<|q (gJ j j zT j)<|q (oMv j j)<|nl)<|us<|Go.block<|?_
   obtain ⟨o,hl,h⟩:=bs h
   refine gl c52 j _ (fun (wK:Int)=>mk [(1,M 1),(32,D 2 (W 2 az d_0.bn)),(33,iv (d_0.bn.length:Int)),(34,iv wK)] [(1,Oa (G 2 (ak d_0)))]) (fun (o:(Unit ⊕ Bool)) (p:Ex×St)=>match o with | (.inl _)=>p.1= .exit 0∧p.2.norm ([1],[1])=mk [(1,M 1)] [(1,Oa (G 2 (ak d_0)))] | (.inr r2)=>p.1= .ret∧fin Tryz.prog cfg 52 Tryz.f52 [.im 2 true (ak d_0)] p.2=some (B0 [(false,[.im 0 (V r2)])])) hl (by kernel_rfl) ?_ ?_ ?_
   ·intro o p hp e
    rcases o with u | r2<;>exact nomatch (hp.1.symm.trans e)
   ·rintro wK o h
    unfold jf at h
    refine gs<|g0 j j (q (oBi j j j j)<|nl)<|us<|gs<|gc h j ah (fun hc39 h=>?_) fun hc39 h=>?_
    ·refine Go.skip<|us<|gs<|Go.block<|gs<|?_
     obtain ⟨x37,ahy,h⟩:=bs h
     refine g0 j j (q (oMv j j)<|q (gq j ahy pK j j)<|q (oLd (cs:=[.im 2 _,.im 2 _]) j aJ j j)<|q (oAl j aJ (tkI (tkI tk0)))<|q (ae j j)<|q (oSt aJ j j j (tkI (tkI tk0)) j j j)<|nl)<|us<|gs<|?_
     obtain ⟨x43,Jf,h⟩:=bs h
     obtain ⟨OX,FB,h⟩:=bs h
     refine gd c52 j j j (st1:=mk [(1,M 1),(3,iv wK),(4,M 4),(32,D 2 (W 2 az d_0.bn)),(33,iv (d_0.bn.length:Int)),(34,iv wK)] [(1,Oa (G 2 (ak d_0))),(4,Oa (G 0 (aF x37)))]) (by kernel_rfl) (mk [(1,M 1),(32,D 2 (W 2 az d_0.bn)),(33,iv (d_0.bn.length:Int)),(34,iv wK),(60,bv OX)] [(1,Oa (G 2 (ak d_0)))]) ?_ ?_
     ·refine t j j (oFA (r':=.mp 4 0 0) j iI j j)<|t j j (oLd (cs:=[.im 0 _]) j tF2 j j)<|t j j (oFA (r':=.mp 1 0 0) j E8 j j)<|?_
      refine ic FB (fun zu FB=>?_) fun zu FB=>?_
      ·obtain ⟨x50,MH,FB⟩:=bs FB
       refine ic FB (fun ql FB=>?_) fun ql FB=>?_
       ·obtain ⟨x57,VM,FB⟩:=bs FB
        obtain ⟨x59,ads,FB⟩:=bs FB
        cases FB
        exact t j j (oLd (cs:=[.im 0 _]) j tF2 j j)<|sS (dN z52 j (oCa (xs:=[.v false [.im 0 _],.v false [.im 0 _],.v false [.im 0 _]]) (vs:=[(false,[.im 0 _])]) (v:=.v false [.im 0 _]) (dI Jf) (.inl j) j gB j (ppC j (ppC j (ppC j pp0))) j j pb0 j j j)) trivial (t j j (oUn j j j)<|t j j (oMv j j)<|tT j j j j (nF (iR.2 zu)) (oFA (r':=.mp 4 0 1) j jd j j)<|tT j j j j (nF (iR.2 zu)) (oLd (cs:=[.im 0 _]) j tF2 j j)<|tT j j j j (nF (iR.2 zu)) (oFA (r':=.mp 1 0 1) j Dw j j)<|tT j j j j (nF (iR.2 zu)) (oLd (cs:=[.im 0 _]) j tF2 j j)<|sS (dT z52 j j j (nF (iR.2 zu)) (oCa (xs:=[.v false [.im 0 _],.v false [.im 0 _],.v false [.im 0 _]]) (vs:=[(false,[.im 0 _])]) (v:=.v false [.im 0 _]) (dI MH) (.inl j) j gB j (ppC j (ppC j (ppC j pp0))) j j pb0 j j j)) trivial (tT j j j j (nF (iR.2 zu)) (oUn j j j)<|t j j (dP j j (nF (iR.2 zu)) j)<|t j j (oMv j j)<|tT j j j j (nF (iR.2 ql)) (oFA (r':=.mp 1 0 2) j rM j j)<|tT j j j j (nF (iR.2 ql)) (oLd (cs:=[.im 2 _]) j Eh j j)<|tT j j j j (nF (iR.2 ql)) (oMv j j)<|sK (O:=[4]) j j j (dT z52 j j j (nF (iR.2 ql)) (oLd (cs:=[.im 0 _,.im 0 _]) j aJ j j))<|sS (dT z52 j j j (nF (iR.2 ql)) (af9 j VM pK j bn0 (bn1 j) j j)) (kY ⟨j,trivial⟩ trivial) (sS (dT z52 j j j (nF (iR.2 ql)) (oCa (xs:=[.v false [.im 2 _],.v true [.im 0 _,.im 0 _]]) (vs:=[(false,[.im 0 _])]) (v:=.v false [.im 0 _]) (qm ads) (.inl j) j Tu j (ppC j (ppC j pp0)) j j pb0 j j j)) (kN j trivial) (t j j (dP j j (nF (iR.2 ql)) j)<|sD (by kernel_rfl)))))
       ·cases FB
        exact t j j (oLd (cs:=[.im 0 _]) j tF2 j j)<|sS (dN z52 j (oCa (xs:=[.v false [.im 0 _],.v false [.im 0 _],.v false [.im 0 _]]) (vs:=[(false,[.im 0 _])]) (v:=.v false [.im 0 _]) (dI Jf) (.inl j) j gB j (ppC j (ppC j (ppC j pp0))) j j pb0 j j j)) trivial (t j j (oUn j j j)<|t j j (oMv j j)<|tT j j j j (nF (iR.2 zu)) (oFA (r':=.mp 4 0 1) j jd j j)<|tT j j j j (nF (iR.2 zu)) (oLd (cs:=[.im 0 _]) j tF2 j j)<|tT j j j j (nF (iR.2 zu)) (oFA (r':=.mp 1 0 1) j Dw j j)<|tT j j j j (nF (iR.2 zu)) (oLd (cs:=[.im 0 _]) j tF2 j j)<|sS (dT z52 j j j (nF (iR.2 zu)) (oCa (xs:=[.v false [.im 0 _],.v false [.im 0 _],.v false [.im 0 _]]) (vs:=[(false,[.im 0 _])]) (v:=.v false [.im 0 _]) (dI MH) (.inl j) j gB j (ppC j (ppC j (ppC j pp0))) j j pb0 j j j)) trivial (tT j j j j (nF (iR.2 zu)) (oUn j j j)<|t j j (dP j j (nF (iR.2 zu)) j)<|t j j (oMv j j)<|tF j j j j (nT (byF iR ql)) j<|tF j j j j (nT (byF iR ql)) j<|tF j j j j (nT (byF iR ql)) j<|sK (O:=[4]) j j j (dF j j j (nT (byF iR ql)) j)<|sS (dF j j j (nT (byF iR ql)) j) (kY ⟨j,trivial⟩ trivial) (sS (dF j j j (nT (byF iR ql)) j) (kN j trivial) (t j j (bG j j (nT (byF iR ql)) j)<|sD (by kernel_rfl)))))
      ·cases FB
       exact t j j (oLd (cs:=[.im 0 _]) j tF2 j j)<|sS (dN z52 j (oCa (xs:=[.v false [.im 0 _],.v false [.im 0 _],.v false [.im 0 _]]) (vs:=[(false,[.im 0 _])]) (v:=.v false [.im 0 _]) (dI Jf) (.inl j) j gB j (ppC j (ppC j (ppC j pp0))) j j pb0 j j j)) trivial (t j j (oUn j j j)<|t j j (oMv j j)<|tF j j j j (nT (byF iR zu)) j<|tF j j j j (nT (byF iR zu)) j<|tF j j j j (nT (byF iR zu)) j<|tF j j j j (nT (byF iR zu)) j<|sS (dF j j j (nT (byF iR zu)) j) trivial (tF j j j j (nT (byF iR zu)) j<|t j j (bG j j (nT (byF iR zu)) j)<|t j j (oMv j j)<|tF j j j j j j<|tF j j j j j j<|tF j j j j j j<|sK (O:=[4]) j j j (dF j j j j j)<|sS (dF j j j j j) (kY ⟨j,trivial⟩ trivial) (sS (dF j j j j j) (kN j trivial) (t j j (bG j j j j)<|sD (by kernel_rfl)))))
     ·refine us<|gc h j iR (fun ady h=>?_) fun ady h=>?_
      ·refine gs<|g0 j j (q (ae j j)<|nl)<|us<|Go.ret (Unw.ret ?_)
       cases h
       exact ⟨j,(fo XV j)⟩
      ·refine Go.skip<|Unw.blk<|us<|g0 j j (q (oBi j j j j)<|q (oMv j j)<|nl)<|Unw.nil<|?_
       cases h
       exact ⟨j,(by kernel_rfl)⟩
    ·refine Go.exit<|ux<|Unw.nil<|?_
     cases h
     exact ⟨j,(by kernel_rfl)⟩
   ·rintro ⟨e,st⟩ hp
    rcases o with u | r2
    ·dsimp only at h
     obtain ⟨he,hst⟩:=hp
     obtain rfl:e= .exit 0:=he
     refine Unw.iU<|us<|gs<|gs<|g2 c52 j j hst (q (oFA (r':=.mp 1 0 3) j oO j j)<|q (oLd (cs:=[.im 2 _]) j BP j j)<|q (gJ j j I5 j)<|q (oMv j j)<|nl)<|us<|Go.block<|?_
     obtain ⟨o,hl,h⟩:=bs h
     refine gl c52 j _ (fun (pG:Int)=>mk [(1,M 1),(63,D 2 (W 2 bQ d_0.aB)),(64,iv (d_0.aB.length:Int)),(65,iv pG)] [(1,Oa (G 2 (ak d_0)))]) (fun (o:(Unit ⊕ Bool)) (p:Ex×St)=>match o with | (.inl _)=>p.1= .exit 2∧p.2.norm ([],[])=mk [] [] | (.inr r2)=>p.1= .ret∧fin Tryz.prog cfg 52 Tryz.f52 [.im 2 true (ak d_0)] p.2=some (B0 [(false,[.im 0 (V r2)])])) hl (by kernel_rfl) ?_ ?_ ?_
     ·intro o p hp e
      rcases o with u | r2<;>exact nomatch (hp.1.symm.trans e)
     ·rintro pG o h
      unfold iV at h
      refine gs<|g0 j j (q (oBi j j j j)<|nl)<|us<|gs<|gc h j ah (fun hc31 h=>?_) fun hc31 h=>?_
      ·refine Go.skip<|us<|gs<|Go.block<|gs<|?_
       obtain ⟨x68,ahz,h⟩:=bs h
       refine g0 j j (q (oMv j j)<|q (gq j ahz Fa j j)<|q (oLd (cs:=[.im 2 _,.im 2 _]) j Fb j j)<|q (oAl j Fb (tkI (tkN tk0)))<|q (ae j j)<|q (oSt Fb j j j (tkI (tkI tk0)) j j j)<|nl)<|us<|gs<|gs<|?_
       obtain ⟨x72,adA,h⟩:=bs h
       obtain ⟨KU,LG,h⟩:=bs h
       refine gd c52 j j j (st1:=mk [(1,M 1),(5,iv pG),(6,M 6),(63,D 2 (W 2 bQ d_0.aB)),(64,iv (d_0.aB.length:Int)),(65,iv pG)] [(1,Oa (G 2 (ak d_0))),(6,Oa (G 2 (vF x68)))]) (by kernel_rfl) (mk [(1,M 1),(6,M 6),(63,D 2 (W 2 bQ d_0.aB)),(64,iv (d_0.aB.length:Int)),(65,iv pG),(89,bv KU)] [(1,Oa (G 2 (ak d_0))),(6,Oa (G 2 (vF x68)))]) ?_ ?_
       ·refine t j j (oFA (r':=.mp 6 0 0) j zS j j)<|?_
        refine ic LG (fun hc32 LG=>?_) fun hc32 LG=>?_
        ·refine ic LG (fun vY LG=>?_) fun vY LG=>?_
         ·obtain ⟨x82,ahA,LG⟩:=bs LG
          cases LG
          exact t j j (oLd (cs:=[.im 0 _]) j tF9 j j)<|sS (dN z52 j (oCa (xs:=[.v false [.im 0 _]]) (vs:=[(false,[.im 0 _])]) (v:=.v false [.im 0 _]) (zV adA) (.inl j) j Tv j (ppC j pp0) j j pb0 j j j)) trivial (t j j (oUn j j j)<|t j j (oMv j j)<|tT j j j j (nF (iR.2 hc32)) (oMv j j)<|tT j j j j (nF (iR.2 hc32)) (oBi j j j j)<|tT j j j j (nF (iR.2 hc32)) (oMv j j)<|tT j j j j (ah.2 vY) (oFA (r':=.mp 1 0 3) j oO j j)<|tT j j j j (ah.2 vY) (oLd (cs:=[.im 2 _]) j BP j j)<|tT j j j j (ah.2 vY) (oMv j j)<|tT j j j j (ah.2 vY) (oBi j j j j)<|tT j j j j (ah.2 vY) (gq j ahA Fa j j)<|tT j j j j (ah.2 vY) (oFA (r':=.im 2 _) j zS j j)<|tT j j j j (ah.2 vY) (oLd (cs:=[.im 2 _]) j tF9 j j)<|tT j j j j (ah.2 vY) (oFA (r':=.mp 6 0 0) j zS j j)<|tT j j j j (ah.2 vY) (oLd (cs:=[.im 0 _]) j tF9 j j)<|tT j j j j (ah.2 vY) (oBi j j j j)<|tT j j j j (nF (iR.2 hc32)) (bG j j (ah.2 vY) j)<|t j j (dP j j (nF (iR.2 hc32)) j)<|sD (by kernel_rfl))
         ·cases LG
          exact t j j (oLd (cs:=[.im 0 _]) j tF9 j j)<|sS (dN z52 j (oCa (xs:=[.v false [.im 0 _]]) (vs:=[(false,[.im 0 _])]) (v:=.v false [.im 0 _]) (zV adA) (.inl j) j Tv j (ppC j pp0) j j pb0 j j j)) trivial (t j j (oUn j j j)<|t j j (oMv j j)<|tT j j j j (nF (iR.2 hc32)) (oMv j j)<|tT j j j j (nF (iR.2 hc32)) (oBi j j j j)<|tT j j j j (nF (iR.2 hc32)) (oMv j j)<|tF j j j j (byF ah vY) j<|tF j j j j (byF ah vY) j<|tF j j j j (byF ah vY) j<|tF j j j j (byF ah vY) j<|tF j j j j (byF ah vY) j<|tF j j j j (byF ah vY) j<|tF j j j j (byF ah vY) j<|tF j j j j (byF ah vY) j<|tF j j j j (byF ah vY) j<|tF j j j j (byF ah vY) j<|tT j j j j (nF (iR.2 hc32)) (dP j j (byF ah vY) j)<|t j j (dP j j (nF (iR.2 hc32)) j)<|sD (by kernel_rfl))
        ·cases LG
         exact t j j (oLd (cs:=[.im 0 _]) j tF9 j j)<|sS (dN z52 j (oCa (xs:=[.v false [.im 0 _]]) (vs:=[(false,[.im 0 _])]) (v:=.v false [.im 0 _]) (zV adA) (.inl j) j Tv j (ppC j pp0) j j pb0 j j j)) trivial (t j j (oUn j j j)<|t j j (oMv j j)<|tF j j j j (nT (byF iR hc32)) j<|tF j j j j (nT (byF iR hc32)) j<|tF j j j j (nT (byF iR hc32)) j<|sT j (dU j j j j)<|sT j (dU j j j j)<|sT j (dU j j j j)<|sT j (dU j j j j)<|sT j (dU j j j j)<|sT j (dU j j j j)<|sT j (dU j j j j)<|sT j (dU j j j j)<|sT j (dU j j j j)<|sT j (dU j j j j)<|tF j j j j (nT (byF iR hc32)) j<|t j j (bG j j (nT (byF iR hc32)) j)<|sD (by kernel_rfl))
       ·refine us<|gc h j iR (fun hc34 h=>?_) fun hc34 h=>?_
        ·refine gs<|g0 j j (q (ae j j)<|nl)<|us<|Go.ret (Unw.ret ?_)
         cases h
         exact ⟨j,(fo XV j)⟩
        ·refine Go.skip<|us<|gs<|?_
         obtain ⟨x95,hx95,h⟩:=bs h
         refine g0 j j (q (oFA (r':=.mp 1 0 2) j rM j j)<|q (oLd (cs:=[.im 2 _]) j Eh j j)<|q (oFA (r':=.mp 6 0 1) j BN j j)<|q (oLd (cs:=[.im 2 _]) j oz j j)<|q (oCr (xs:=[.v false [.im 2 _],.v false [.im 2 _]]) (vs:=[(false,[.own 95 0 0]),(false,[.im 0 _])]) (v:=.tup [(false,[.own 95 0 0]),(false,[.im 0 _])]) (c:=⟨.sh,0,_⟩) (cs:=[]) (Fq hx95) (.inl j) j Tz j (ppC j (ppC j pp0)) j j pb0 j j j)<|q (Md j j)<|q (oEx j j j)<|q (oEx j j j)<|q (jX j j j j j)<|q (ae j j)<|nl)<|us<|gs<|?_
         obtain ⟨H6,DN,h⟩:=bs h
         refine gX c52 j j j (mk [(1,M 1),(63,D 2 (W 2 bQ d_0.aB)),(64,iv (d_0.aB.length:Int)),(65,iv pG),(104,bv H6)] [(1,Oa (G 2 (ak d_0)))]) ?_ ?_
         ·refine xq (oMv j j)<|xq (oUn j j j)<|xq (oMv j j)<|?_
          refine ic DN (fun qf DN=>?_) fun qf DN=>?_
          ·obtain ⟨x102,hx102,DN⟩:=bs DN
           cases DN
           exact xqT j j (nF (iR.2 qf)) (oMv j j)<|xqT j j (nF (iR.2 qf)) (oCa (xs:=[.v false [.own 7 0 0]]) (vs:=[(false,[.im 0 _])]) (v:=.v false [.im 0 _]) (Ej hx102) (.inl j) j aa4 j (ppC j pp0) j j pb0 j j j)<|xqT j j (nF (iR.2 qf)) (oUn j j j)<|xq (dP j j (nF (iR.2 qf)) j)<|xn
          ·cases DN
           exact aj j j (nT (byF iR qf)) j<|aj j j (nT (byF iR qf)) j<|aj j j (nT (byF iR qf)) j<|xq (bG j j (nT (byF iR qf)) j)<|xn
         ·refine us<|gc h j iR (fun X3 h=>?_) fun X3 h=>?_
          ·refine gs<|g0 j j (q (ae j j)<|nl)<|us<|Go.ret (Unw.ret ?_)
           cases h
           exact ⟨j,(fo XV j)⟩
          ·refine Go.skip<|Unw.blk<|us<|g0 j j (q (oBi j j j j)<|q (oMv j j)<|nl)<|Unw.nil<|?_
           cases h
           exact ⟨j,(by kernel_rfl)⟩
      ·refine Go.exit<|ux<|Unw.nil<|?_
       cases h
       exact ⟨j,(by kernel_rfl)⟩
     ·rintro ⟨e,st⟩ hp
      rcases o with u | r2
      ·dsimp only at h
       obtain ⟨he,hst⟩:=hp
       obtain rfl:e= .exit 2:=he
       refine Unw.iU<|us<|gs<|g2 c52 j j hst (q (ae j j)<|nl)<|us<|Go.ret (Unw.ret ?_)
       cases h
       exact fr XV j
      ·dsimp only at h
       obtain ⟨he,hfin⟩:=hp
       obtain rfl:e= .ret:=he
       cases h
       exact Unw.ret (fO hfin)
    ·dsimp only at h
     obtain ⟨he,hfin⟩:=hp
     obtain rfl:e= .ret:=he
     cases h
     exact Unw.ret (fO hfin)
theorem FC {jJ:ByteArray} {r:(Int×Int×Int×Int)} (h:nY jJ=some r):FX 124 [.im 2 false [Y jJ]] (B0 [(false,[.im 0 (I r.1)]),(false,[.im 0 (I r.2.1)]),(false,[.im 0 (I r.2.2.1)]),(false,[.im 0 (I r.2.2.2)])]):=by
 unfold nY at h
 refine gn 27 Tryz.func124 rfl ?_
 refine gs<|g0 j j (q (ae j j)<|q (ae j j)<|q (ae j j)<|q (ae j j)<|nl)<|us<|gs<|gs<|g0 j j (q (oMv j j)<|nl)<|us<|Go.block<|gs<|g0 j j (q (oBi j j j j)<|q (ae j j)<|nl)<|us<|gc h j zK (fun hc1 h=>?_) fun hc1 h=>?_
 ·refine gs<|g0 j j (q (ae j j)<|q (ae j j)<|q (ae j j)<|q (ae j j)<|nl)<|us<|Go.ret (Unw.ret ?_)
  cases h
  exact fr DC j
 ·refine gs<|g0 j j (q (oBi j j j j)<|q (ae j j)<|nl)<|us<|gc h j zK (fun hc2 h=>?_) fun hc2 h=>?_
  ·refine gs<|g0 j j (q (ae j j)<|q (ae j j)<|q (ae j j)<|q (ae j j)<|nl)<|us<|Go.ret (Unw.ret ?_)
   cases h
   exact fr DC j
  ·refine gs<|g0 j j (q (oBi j j j j)<|q (ae j j)<|nl)<|us<|gc h j zK (fun hc3 h=>?_) fun hc3 h=>?_
   ·refine gs<|g0 j j (q (ae j j)<|q (ae j j)<|q (ae j j)<|q (ae j j)<|nl)<|us<|Go.ret (Unw.ret ?_)
    cases h
    exact fr DC j
   ·refine gs<|g0 j j (q (oBi j j j j)<|q (ae j j)<|nl)<|us<|gc h j zK (fun hc4 h=>?_) fun hc4 h=>?_
    ·refine gs<|g0 j j (q (ae j j)<|q (ae j j)<|q (ae j j)<|q (ae j j)<|nl)<|us<|Go.ret (Unw.ret ?_)
     cases h
     exact fr DC j
    ·refine gs<|g0 j j (q (oBi j j j j)<|q (ae j j)<|nl)<|us<|gc h j zK (fun hc5 h=>?_) fun hc5 h=>?_
     ·refine gs<|g0 j j (q (ae j j)<|q (ae j j)<|q (ae j j)<|q (ae j j)<|nl)<|us<|Go.ret (Unw.ret ?_)
      cases h
      exact fr DC j
     ·refine gs<|g0 j j (q (oBi j j j j)<|q (ae j j)<|nl)<|us<|gc h j zK (fun hc6 h=>?_) fun hc6 h=>?_
      ·refine gs<|g0 j j (q (ae j j)<|q (ae j j)<|q (ae j j)<|q (ae j j)<|nl)<|us<|Go.ret (Unw.ret ?_)
       cases h
       exact fr DC j
      ·refine gs<|g0 j j (q (oBi j j j j)<|q (ae j j)<|nl)<|us<|gc h j zK (fun hc7 h=>?_) fun hc7 h=>?_
       ·refine gs<|g0 j j (q (ae j j)<|q (ae j j)<|q (ae j j)<|q (ae j j)<|nl)<|us<|Go.ret (Unw.ret ?_)
        cases h
        exact fr DC j
       ·refine gs<|g0 j j (q (oBi j j j j)<|q (ae j j)<|nl)<|us<|gc h j zK (fun hc8 h=>?_) fun hc8 h=>?_
        ·refine gs<|g0 j j (q (ae j j)<|q (ae j j)<|q (ae j j)<|q (ae j j)<|nl)<|us<|Go.ret (Unw.ret ?_)
         cases h
         exact fr DC j
        ·refine gs<|g0 j j (q (oBi j j j j)<|q (ae j j)<|nl)<|us<|gc h j zK (fun hc9 h=>?_) fun hc9 h=>?_
         ·refine gs<|g0 j j (q (ae j j)<|q (ae j j)<|q (ae j j)<|q (ae j j)<|nl)<|us<|Go.ret (Unw.ret ?_)
          cases h
          exact fr DC j
         ·refine gs<|g0 j j (q (oBi j j j j)<|q (ae j j)<|nl)<|us<|gc h j zK (fun Fj h=>?_) fun Fj h=>?_
          ·refine gs<|g0 j j (q (ae j j)<|q (ae j j)<|q (ae j j)<|q (ae j j)<|nl)<|us<|Go.ret (Unw.ret ?_)
           cases h
           exact fr DC j
          ·refine Go.skip<|Unw.blk<|us<|gs<|g0 j j (q (ae j j)<|q (ae j j)<|q (ae j j)<|q (ae j j)<|nl)<|us<|Go.ret (Unw.ret ?_)
           cases h
           exact fr DC j
theorem En {jJ:ByteArray} {r:(Int×Bool)} (h:iQ jJ=some r):FX 106 [.im 2 false [Y jJ]] (B0 [(false,[.im 0 (I r.1)]),(false,[.im 0 (V r.2)])]):=by
 unfold iQ at h
 refine gn 18 Tryz.func106 rfl ?_
 refine gs<|g0 j j (q (ae j j)<|q (ae j j)<|nl)<|us<|gs<|?_
 obtain ⟨x10,Ij,h⟩:=bs h
 refine g0 j j (q (oMv j j)<|q (oCa (xs:=[.v false [.im 2 _]]) (vs:=[(false,[.im 0 _]),(false,[.im 0 _]),(false,[.im 0 _]),(false,[.im 0 _])]) (v:=.tup [(false,[.im 0 _]),(false,[.im 0 _]),(false,[.im 0 _]),(false,[.im 0 _])]) (FC Ij) (.inl j) j aaK j (ppC j pp0) j j pb0 j j j)<|q (Md j j)<|q (oEx j j j)<|q (oEx j j j)<|q (oEx j j j)<|q (oEx j j j)<|q (ae j j)<|q (ae j j)<|q (ae j j)<|q (ae j j)<|nl)<|us<|gs<|g0 j j (q (oMv j j)<|q (oMv j j)<|q (oBi j j j j)<|q (ae j j)<|q (ae j j)<|nl)<|us<|Go.ret (Unw.ret ?_)
 cases h
 exact fr aeH j
theorem FD {v_0:ai} {r:Bool} (h:jM v_0=some r):FX 82 [.im 2 true (iH v_0)] (B0 [(false,[.im 0 (V r)])]):=by
 unfold jM at h
 refine gn 29 Tryz.func82 rfl ?_
 refine gs<|g0 j j (q (oBx j DD j (tkI (tkI (tkI tk0))))<|q (ae j j)<|nl)<|us<|gs<|?_
 obtain ⟨x8,hx8,h⟩:=bs h
 refine g0 j j (q (oFA (r':=.mp 1 0 0) j Ia j j)<|q (oLd (cs:=[.im 0 _]) j tF9 j j)<|q (oCa (xs:=[.v false [.im 0 _]]) (vs:=[(false,[.im 0 _]),(false,[.im 0 _])]) (v:=.tup [(false,[.im 0 _]),(false,[.im 0 _])]) (En hx8) (.inl j) j aaJ j (ppC j pp0) j j pb0 j j j)<|q (Md j j)<|q (oEx j j j)<|q (oEx j j j)<|q (ae j j)<|q (ae j j)<|nl)<|us<|gs<|?_
 obtain ⟨SK,hm4,h⟩:=bs h
 refine gX c82 j j j (mk [(2,bv SK)] []) ?_ ?_
 ·refine xq (oMv j j)<|xq (oMv j j)<|?_
  refine ic hm4 (fun hc1 hm4=>?_) fun hc1 hm4=>?_
  ·obtain ⟨x15,A7,hm4⟩:=bs hm4
   refine xqT j j (iR.2 hc1) (oFA (r':=.mp 1 0 1) j rO j j)<|xqT j j (iR.2 hc1) (oLd (cs:=[.im 0 _]) j tF2 j j)<|xqT j j (iR.2 hc1) (oCa (xs:=[.v false [.im 0 _],.v false [.im 0 _],.v false [.im 0 _]]) (vs:=[(false,[.im 0 _])]) (v:=.v false [.im 0 _]) (dI A7) (.inl j) j gB j (ppC j (ppC j (ppC j pp0))) j j pb0 j j j)<|xq (bG j j (iR.2 hc1) j)<|xq (oMv j j)<|?_
   refine ic hm4 (fun hc2 hm4=>?_) fun hc2 hm4=>?_
   ·obtain ⟨x22,Gy,hm4⟩:=bs hm4
    refine xqT j j (iR.2 hc2) (oFA (r':=.mp 1 0 1) j rO j j)<|xqT j j (iR.2 hc2) (oLd (cs:=[.im 0 _]) j tF2 j j)<|xqT j j (iR.2 hc2) (oMv j j)<|xqT j j (iR.2 hc2) (oBi j j j j)<|xqT j j (iR.2 hc2) (oCa (xs:=[.v false [.im 0 _],.v false [.im 0 _],.v false [.im 0 _]]) (vs:=[(false,[.im 0 _])]) (v:=.v false [.im 0 _]) (dI Gy) (.inl j) j gB j (ppC j (ppC j (ppC j pp0))) j j pb0 j j j)<|xq (bG j j (iR.2 hc2) j)<|xq (oMv j j)<|?_
    refine ic hm4 (fun hc3 hm4=>?_) fun hc3 hm4=>?_
    ·obtain ⟨x27,hx27,hm4⟩:=bs hm4
     cases hm4
     exact xqT j j (iR.2 hc3) (oFA (r':=.mp 1 0 2) j zQ j j)<|xqT j j (iR.2 hc3) (oLd (cs:=[.im 0 _]) j tF2 j j)<|xqT j j (iR.2 hc3) (oCa (xs:=[.v false [.im 0 _],.v false [.im 0 _],.v false [.im 0 _]]) (vs:=[(false,[.im 0 _])]) (v:=.v false [.im 0 _]) (dI hx27) (.inl j) j gB j (ppC j (ppC j (ppC j pp0))) j j pb0 j j j)<|xq (bG j j (iR.2 hc3) j)<|xq (ae j j)<|xn
    ·cases hm4
     exact aj j j (byF iR hc3) j<|aj j j (byF iR hc3) j<|aj j j (byF iR hc3) j<|xq (dP j j (byF iR hc3) j)<|xq (ae j j)<|xn
   ·cases hm4
    exact aj j j (byF iR hc2) j<|aj j j (byF iR hc2) j<|aj j j (byF iR hc2) j<|aj j j (byF iR hc2) j<|aj j j (byF iR hc2) j<|xq (dP j j (byF iR hc2) j)<|xq (oMv j j)<|aj j j j j<|aj j j j j<|aj j j j j<|xq (dP j j j j)<|xq (ae j j)<|xn
  ·cases hm4
   exact aj j j (byF iR hc1) j<|aj j j (byF iR hc1) j<|aj j j (byF iR hc1) j<|xq (dP j j (byF iR hc1) j)<|xq (oMv j j)<|aj j j j j<|aj j j j j<|aj j j j j<|aj j j j j<|aj j j j j<|xq (dP j j j j)<|xq (oMv j j)<|aj j j j j<|aj j j j j<|aj j j j j<|xq (dP j j j j)<|xq (ae j j)<|xn
 ·refine us<|Go.ret (Unw.ret ?_)
  cases h
  exact fr ag4 j
theorem BU {v_0:ai} {r:Bool} (h:iF v_0=some r):FX 81 [.im 2 true (iH v_0)] (B0 [(false,[.im 0 (V r)])]):=by
 unfold iF at h
 refine gn 6 Tryz.func81 rfl ?_
 refine gs<|g0 j j (q (oBx j DD j (tkI (tkI (tkI tk0))))<|q (ae j j)<|nl)<|us<|gs<|?_
 obtain ⟨x4,hx4,h⟩:=bs h
 refine g0 j j (q (oLd (cs:=[.im 0 _,.im 0 _,.im 0 _]) j DD j j)<|q (oCa (xs:=[.v true [.im 0 _,.im 0 _,.im 0 _]]) (vs:=[(false,[.im 0 _])]) (v:=.v false [.im 0 _]) (FD hx4) (.inl j) j aa6 j (ppC j pp0) j j pb0 j j j)<|q (oUn j j j)<|q (ae j j)<|nl)<|us<|Go.ret (Unw.ret ?_)
 cases h
 exact fr ag3 j
theorem nK {s_0:(List ai)} {r:Int} (h:eF s_0 (fun b0=>iF b0)=some r):FX 105 [.im 2 false [W 3 au s_0],.im 2 false [.clo 81 []]] (B0 [(false,[.im 0 (I r)])]):=by
 unfold eF at h
 refine gn 19 Tryz.func105 rfl ?_
 refine gs<|g0 j j (q (ae j j)<|nl)<|us<|gs<|gs<|g0 j j (q (oMv j j)<|q (gJ j j Gw j)<|q (oMv j j)<|nl)<|us<|Go.block<|?_
 obtain ⟨o,hl,h⟩:=bs h
 refine gl c105 j _ (fun (fC:Int)=>mk [(0,D 2 (W 3 au s_0)),(1,D 2 (.clo 81 [])),(7,iv (s_0.length:Int)),(8,iv fC)] []) (fun (o:(Unit ⊕ Int)) (p:Ex×St)=>match o with | (.inl _)=>p.1= .exit 0∧p.2.norm ([],[])=mk [] [] | (.inr r2)=>p.1= .ret∧fin Tryz.prog cfg 105 Tryz.f105 [.im 2 false [W 3 au s_0],.im 2 false [.clo 81 []]] p.2=some (B0 [(false,[.im 0 (I r2)])])) hl (by kernel_rfl) ?_ ?_ ?_
 ·intro o p hp e
  rcases o with u | r2<;>exact nomatch (hp.1.symm.trans e)
 ·rintro fC o h
  unfold cO at h
  refine gs<|g0 j j (q (oBi j j j j)<|nl)<|us<|gs<|gc h j ah (fun hc5 h=>?_) fun hc5 h=>?_
  ·refine Go.skip<|us<|gs<|Go.block<|gs<|g0 j j (q (oMv j j)<|q (ae j j)<|nl)<|us<|gs<|?_
   obtain ⟨x14,vH,h⟩:=bs h
   obtain ⟨x16,hx16,h⟩:=bs h
   refine g0 j j (q (oMv j j)<|q (oMv j j)<|q (oMv j j)<|q (gq j vH Ic j j)<|q (oLd (cs:=[.im 2 _,.im 2 _,.im 2 _]) j DD j j)<|q (oCa (xs:=[.v true [.im 2 _,.im 2 _,.im 2 _]]) (vs:=[(false,[.im 0 _])]) (v:=.v false [.im 0 _]) (BU hx16) (.inr ⟨_,_,j,j⟩) j aa5 j (ppC j pp0) j j pb0 j j j)<|nl)<|us<|gc h j iR (fun hc6 h=>?_) fun hc6 h=>?_
   ·refine gs<|g0 j j (q (oMv j j)<|q (ae j j)<|nl)<|us<|Go.ret (Unw.ret ?_)
    cases h
    exact ⟨j,(fo abY j)⟩
   ·refine Go.skip<|Unw.blk<|us<|g0 j j (q (oBi j j j j)<|q (oMv j j)<|nl)<|Unw.nil<|?_
    cases h
    exact ⟨j,(by kernel_rfl)⟩
  ·refine Go.exit<|ux<|Unw.nil<|?_
   cases h
   exact ⟨j,(by kernel_rfl)⟩
 ·rintro ⟨e,st⟩ hp
  rcases o with u | r2
  ·dsimp only at h
   obtain ⟨he,hst⟩:=hp
   obtain rfl:e= .exit 0:=he
   refine Unw.iU<|us<|gs<|g2 c105 j j hst (q (ae j j)<|nl)<|us<|Go.ret (Unw.ret ?_)
   cases h
   exact fr abY j
  ·dsimp only at h
   obtain ⟨he,hfin⟩:=hp
   obtain rfl:e= .ret:=he
   cases h
   exact Unw.ret (fO hfin)
theorem lZ {s_0:(List ai)} {r:Bool} (h:dL s_0 (fun b0=>iF b0)=some r):FX 80 [.im 2 false [W 3 au s_0],.im 2 false [.clo 81 []]] (B0 [(false,[.im 0 (V r)])]):=by
 unfold dL at h
 refine gn 9 Tryz.func80 rfl ?_
 refine gs<|g0 j j (q (ae j j)<|nl)<|us<|gs<|?_
 obtain ⟨x7,hx7,h⟩:=bs h
 refine g0 j j (q (oMv j j)<|q (oMv j j)<|q (oCa (xs:=[.v false [.im 2 _],.v false [.im 2 _]]) (vs:=[(false,[.im 0 _])]) (v:=.v false [.im 0 _]) (nK hx7) (.inl j) j O5 j (ppC j (ppC j pp0)) j j pb0 j j j)<|q (oBi j j j j)<|q (ae j j)<|nl)<|us<|Go.ret (Unw.ret ?_)
 cases h
 exact fr ag2 j
theorem Eo {cu:(List ai)} {r:Bool} (h:mW cu=some r):FX 53 [.im 2 false [W 3 au cu]] (B0 [(false,[.im 0 (V r)])]):=by
 unfold mW at h
 refine gn 6 Tryz.func53 rfl ?_
 refine gs<|g0 j j (q (ae j j)<|nl)<|us<|gs<|?_
 obtain ⟨x4,hx4,h⟩:=bs h
 refine g0 j j (q (oMv j j)<|q (oCa (xs:=[.v false [.im 2 _],.fn 81 []]) (vs:=[(false,[.im 0 _])]) (v:=.v false [.im 0 _]) (lZ hx4) (.inl j) j QO j (ppC j (ppC j pp0)) j j pb0 j j j)<|q (oUn j j j)<|q (ae j j)<|nl)<|us<|Go.ret (Unw.ret ?_)
 cases h
 exact fr agP j
theorem Ep {d_0:aA} {aK:(List ai)} {aW:Int} {eU:Int} {r:Int} (h:mX d_0 aK aW eU=some r):FX 33 [.im 2 true (ak d_0),.im 2 false [W 3 au aK],.im 2 false [I aW],.im 2 false [I eU]] (B0 [(false,[.im 0 (I r)])]):=by
 unfold mX at h
 refine gn 37 Tryz.func33 rfl ?_
 refine gs<|g0 j j (q (oBx j AZ j (tkI (tkI (tkI (tkI tk0)))))<|q (ae j j)<|nl)<|us<|gs<|Go.block<|gs<|?_
 obtain ⟨x11,X0,h⟩:=bs h
 obtain ⟨SL,hm8,h⟩:=bs h
 refine gX c33 j j j (mk [(1,D 2 (W 3 au aK)),(2,iv aW),(3,iv eU),(9,bv SL)] []) ?_ ?_
 ·refine xq (oLd (cs:=[.im 0 _,.im 0 _,.im 2 _,.im 2 _]) j AZ j j)<|xq (oCa (xs:=[.v true [.im 0 _,.im 0 _,.im 2 _,.im 2 _]]) (vs:=[(false,[.im 0 _])]) (v:=.v false [.im 0 _]) (Em X0) (.inl j) j aaV j (ppC j pp0) j j pb0 j j j)<|xq (oUn j j j)<|xq (oMv j j)<|?_
  refine ic hm8 (fun hc1 hm8=>?_) fun hc1 hm8=>?_
  ·obtain ⟨x15,A7,hm8⟩:=bs hm8
   cases hm8
   exact xqT j j (nF (iR.2 hc1)) (oMv j j)<|xqT j j (nF (iR.2 hc1)) (oCa (xs:=[.v false [.im 2 _]]) (vs:=[(false,[.im 0 _])]) (v:=.v false [.im 0 _]) (Eo A7) (.inl j) j aaW j (ppC j pp0) j j pb0 j j j)<|xqT j j (nF (iR.2 hc1)) (oUn j j j)<|xq (dP j j (nF (iR.2 hc1)) j)<|xq (ae j j)<|xn
  ·cases hm8
   exact aj j j (nT (byF iR hc1)) j<|aj j j (nT (byF iR hc1)) j<|aj j j (nT (byF iR hc1)) j<|xq (bG j j (nT (byF iR hc1)) j)<|xq (ae j j)<|xn
 ·refine us<|gc h j iR (fun hc2 h=>?_) fun hc2 h=>?_
  ·refine gs<|g0 j j (q (ae j j)<|nl)<|us<|Go.ret (Unw.ret ?_)
   cases h
   exact fr adf j
  ·refine gs<|?_
   obtain ⟨OZ,hm7,h⟩:=bs h
   refine gX c33 j j j (mk [(18,bv OZ)] []) ?_ ?_
   ·refine xq (oMv j j)<|xq (gJ j j Gw j)<|xq (oBi j j j j)<|xq (oMv j j)<|?_
    refine ic hm7 (fun hc3 hm7=>?_) fun hc3 hm7=>?_
    ·cases hm7
     exact aj j j (ah.2 hc3) j<|aj j j (ah.2 hc3) j<|aj j j (ah.2 hc3) j<|xq (bG j j (ah.2 hc3) j)<|xq (oMv j j)<|aj j j j j<|aj j j j j<|aj j j j j<|xq (bG j j j j)<|xq (oMv j j)<|aj j j j j<|aj j j j j<|aj j j j j<|xq (bG j j j j)<|xq (ae j j)<|xn
    ·refine xqT j j (byF ah hc3) (oMv j j)<|xqT j j (byF ah hc3) (gJ j j Gw j)<|xqT j j (byF ah hc3) (oBi j j j j)<|xq (dP j j (byF ah hc3) j)<|xq (oMv j j)<|?_
     refine ic hm7 (fun hc4 hm7=>?_) fun hc4 hm7=>?_
     ·cases hm7
      exact aj j j (ah.2 hc4) j<|aj j j (ah.2 hc4) j<|aj j j (ah.2 hc4) j<|xq (bG j j (ah.2 hc4) j)<|xq (oMv j j)<|aj j j j j<|aj j j j j<|aj j j j j<|xq (bG j j j j)<|xq (ae j j)<|xn
     ·obtain ⟨x29,hx29,hm7⟩:=bs hm7
      refine xqT j j (byF ah hc4) (oMv j j)<|xqT j j (byF ah hc4) (oCa (xs:=[.v false [.im 0 _],.v false [.im 0 _],.v false [.im 0 _]]) (vs:=[(false,[.im 0 _])]) (v:=.v false [.im 0 _]) (dI hx29) (.inl j) j gB j (ppC j (ppC j (ppC j pp0))) j j pb0 j j j)<|xqT j j (byF ah hc4) (oUn j j j)<|xq (dP j j (byF ah hc4) j)<|xq (oMv j j)<|?_
      refine ic hm7 (fun hc5 hm7=>?_) fun hc5 hm7=>?_
      ·obtain ⟨x34,hx34,hm7⟩:=bs hm7
       cases hm7
       exact xqT j j (nF (iR.2 hc5)) (oMv j j)<|xqT j j (nF (iR.2 hc5)) (oCa (xs:=[.v false [.im 0 _],.v false [.im 0 _],.v false [.im 0 _]]) (vs:=[(false,[.im 0 _])]) (v:=.v false [.im 0 _]) (dI hx34) (.inl j) j gB j (ppC j (ppC j (ppC j pp0))) j j pb0 j j j)<|xqT j j (nF (iR.2 hc5)) (oUn j j j)<|xq (dP j j (nF (iR.2 hc5)) j)<|xq (ae j j)<|xn
      ·cases hm7
       exact aj j j (nT (byF iR hc5)) j<|aj j j (nT (byF iR hc5)) j<|aj j j (nT (byF iR hc5)) j<|xq (bG j j (nT (byF iR hc5)) j)<|xq (ae j j)<|xn
   ·refine us<|gc h j iR (fun hc6 h=>?_) fun hc6 h=>?_
    ·refine gs<|g0 j j (q (ae j j)<|nl)<|us<|Go.ret (Unw.ret ?_)
     cases h
     exact fr adf j
    ·refine Go.skip<|Unw.blk<|us<|gs<|g0 j j (q (ae j j)<|nl)<|us<|Go.ret (Unw.ret ?_)
     cases h
     exact fr adf j
theorem Iu {kL:(List Int)} {r:(List bf)} (h:qG kL=some r):FX 55 [.im 2 false [W 1 eI kL]] (B0 [(false,[.ow 0 2 (List.map bZ r)])]):=by
 unfold qG at h
 refine gn 35 Tryz.func55 rfl ?_
 refine gs<|g0 j j (q (vG j j agx)<|nl)<|us<|gs<|g0 j j (q (oBS (es:=List.map bZ ([]:List bf)) j XY j pt0 (eG j fun _=>j))<|q (jX j j j j j)<|nl)<|us<|gs<|gs<|g0 j j (q (oMv j j)<|q (gJ j j lX j)<|q (oMv j j)<|nl)<|us<|Go.block<|?_
 obtain ⟨o,hl,h⟩:=bs h
 refine gl c55 j _ (fun (s:(Int×(List bf)))=>match s with | (BI,aX)=>mk [(0,D 2 (W 1 eI kL)),(3,H 3 0),(8,D 2 (W 1 eI kL)),(9,iv (kL.length:Int)),(10,iv BI)] [(3,Oc [Z (W 2 bZ aX)])]) (fun (bz:(List bf)) (p:Ex×St)=>p.1= .exit 0∧p.2.norm ([3],[3])=mk [(3,H 3 0)] [(3,Oc [Z (W 2 bZ bz)])]) hl (by kernel_rfl) ?_ ?_ ?_
 ·intro o p hp e
  exact nomatch (hp.1.symm.trans e)
 ·rintro ⟨BI,aX⟩ o h
  unfold mY at h
  dsimp only at h
  refine gs<|g0 j j (q (oBi j j j j)<|nl)<|us<|gs<|gc h j ah (fun hc3 h=>?_) fun hc3 h=>?_
  ·refine Go.skip<|us<|gs<|Go.block<|gs<|?_
   obtain ⟨x13,Ll,h⟩:=bs h
   refine g0 j j (q (oMv j j)<|q (gq j Ll fP j j)<|q (oLd (cs:=[.im 2 _]) j tF2 j j)<|q (ae j j)<|q (ae j j)<|nl)<|us<|gs<|?_
   obtain ⟨x20,yu,h⟩:=bs h
   obtain ⟨x21,MF,h⟩:=bs h
   refine g0 j j (q (oMv j j)<|q (oMv j j)<|q (oBi j j j j)<|q (oMv j j)<|q (gJ j j lX j)<|q (Gi j yu j j)<|q (gq j MF fP j j)<|q (oLd (cs:=[.im 2 _]) j tF2 j j)<|q (ae j j)<|nl)<|us<|?_
   obtain ⟨x32,hx32,h⟩:=bs h
   refine g0 j j (q (oMv j j)<|q (oMv j j)<|q (oMv j j)<|q (Y1 j j)<|q (oMv j j)<|q (oMv j j)<|q (Xm j j)<|q (oBu (cs:=[.im 0 _,.im 0 _]) j aeB j)<|q (oBS (es:=List.map bZ ([(⟨(min2 x13 x21),(max2 x13 x21)⟩:bf)]:List bf)) j XY j (ptC j (fxI (fxI fx0)) j pt0) (eG j fun _=>j))<|q (EU (en:=bZ) (M:=([(⟨(min2 x13 x21),(max2 x13 x21)⟩:bf)]:List bf)) j hx32 j XY j j adq (.inl ⟨_,j⟩) j j j j (kJ j j) (eG j fun _=>j))<|q (jX j j j j j)<|nl)<|Unw.blk<|us<|g0 j j (q (oBi j j j j)<|q (oMv j j)<|nl)<|Unw.nil<|?_
   cases h
   exact ⟨j,(by kernel_rfl)⟩
  ·refine Go.exit<|ux<|Unw.nil<|?_
   cases h
   exact ⟨j,(by kernel_rfl)⟩
 ·rintro ⟨e,st⟩ hp
  obtain ⟨bz,rfl⟩:∃y,y=o:=⟨o,rfl⟩
  obtain ⟨he,hst⟩:=hp
  obtain rfl:e= .exit 0:=he
  refine Unw.iU<|us<|gs<|g2 c55 j j hst (q (oMv j j)<|q (jX j j j j j)<|nl)<|us<|Go.ret (Unw.ret ?_)
  cases h
  exact fr agR j
theorem wo {s_0:(List bf)} {v_1:bf} {r:Int} (h:iZ s_0 v_1=some r):FX 84 [.im 2 false [W 2 bZ s_0],.im 2 true (vX v_1)] (B0 [(false,[.im 0 (I r)])]):=by
 unfold iZ at h
 refine gn 19 Tryz.func84 rfl ?_
 refine gs<|g0 j j (q (oBx j IX j (tkI (tkI tk0)))<|q (ae j j)<|nl)<|us<|gs<|gs<|g0 j j (q (oMv j j)<|q (gJ j j adq j)<|q (oMv j j)<|nl)<|us<|Go.block<|?_
 obtain ⟨o,hl,h⟩:=bs h
 refine gl c84 j _ (fun (fC:Int)=>mk [(0,D 2 (W 2 bZ s_0)),(3,M 3),(7,iv (s_0.length:Int)),(8,iv fC)] [(3,Oa (G 0 (vX v_1)))]) (fun (o:(Unit ⊕ Int)) (p:Ex×St)=>match o with | (.inl _)=>p.1= .exit 0∧p.2.norm ([],[])=mk [] [] | (.inr r2)=>p.1= .ret∧fin Tryz.prog cfg 84 Tryz.f84 [.im 2 false [W 2 bZ s_0],.im 2 true (vX v_1)] p.2=some (B0 [(false,[.im 0 (I r2)])])) hl (by kernel_rfl) ?_ ?_ ?_
 ·intro o p hp e
  rcases o with u | r2<;>exact nomatch (hp.1.symm.trans e)
 ·rintro fC o h
  unfold fF at h
  refine gs<|g0 j j (q (oBi j j j j)<|nl)<|us<|gs<|gc h j ah (fun hc5 h=>?_) fun hc5 h=>?_
  ·refine Go.skip<|us<|gs<|Go.block<|gs<|g0 j j (q (oMv j j)<|q (ae j j)<|nl)<|us<|gs<|?_
   obtain ⟨x14,vH,h⟩:=bs h
   refine gd c84 j j j j (mk [(0,D 2 (W 2 bZ s_0)),(3,M 3),(5,iv fC),(7,iv (s_0.length:Int)),(8,iv fC),(16,bv ((v_1.e0==x14.e0)&&(v_1.e1==x14.e1)))] [(3,Oa (G 0 (vX v_1)))]) (t j j (oLd (cs:=[.im 0 _,.im 0 _]) j IX j j)<|t j j (oMv j j)<|t j j (oMv j j)<|t j j (gq j vH XY j j)<|t j j (oLd (cs:=[.im 2 _,.im 2 _]) j IX j j)<|t j j (oBa j (ac7 v_1.e0 v_1.e1 x14.e0 x14.e1) j j j j)<|sD (by kernel_rfl))<|us<|gc h j (xK iEq iEq) (fun hc6 h=>?_) fun hc6 h=>?_
   ·refine gs<|g0 j j (q (oMv j j)<|q (ae j j)<|nl)<|us<|Go.ret (Unw.ret ?_)
    cases h
    exact ⟨j,(fo ae0 j)⟩
   ·refine Go.skip<|Unw.blk<|us<|g0 j j (q (oBi j j j j)<|q (oMv j j)<|nl)<|Unw.nil<|?_
    cases h
    exact ⟨j,(by kernel_rfl)⟩
  ·refine Go.exit<|ux<|Unw.nil<|?_
   cases h
   exact ⟨j,(by kernel_rfl)⟩
 ·rintro ⟨e,st⟩ hp
  rcases o with u | r2
  ·dsimp only at h
   obtain ⟨he,hst⟩:=hp
   obtain rfl:e= .exit 0:=he
   refine Unw.iU<|us<|gs<|g2 c84 j j hst (q (ae j j)<|nl)<|us<|Go.ret (Unw.ret ?_)
   cases h
   exact fr ae0 j
  ·dsimp only at h
   obtain ⟨he,hfin⟩:=hp
   obtain rfl:e= .ret:=he
   cases h
   exact Unw.ret (fO hfin)
theorem uH {s_0:(List bf)} {v_1:bf} {r:Bool} (h:fG s_0 v_1=some r):FX 58 [.im 2 false [W 2 bZ s_0],.im 2 true (vX v_1)] (B0 [(false,[.im 0 (V r)])]):=by
 unfold fG at h
 refine gn 9 Tryz.func58 rfl ?_
 refine gs<|g0 j j (q (oBx j IX j (tkI (tkI tk0)))<|q (ae j j)<|nl)<|us<|gs<|?_
 obtain ⟨x7,hx7,h⟩:=bs h
 refine g0 j j (q (oMv j j)<|q (oLd (cs:=[.im 0 _,.im 0 _]) j IX j j)<|q (oCa (xs:=[.v false [.im 2 _],.v true [.im 0 _,.im 0 _]]) (vs:=[(false,[.im 0 _])]) (v:=.v false [.im 0 _]) (wo hx7) (.inl j) j QT j (ppC j (ppC j pp0)) j j pb0 j j j)<|q (oBi j j j j)<|q (ae j j)<|nl)<|us<|Go.ret (Unw.ret ?_)
 cases h
 exact fr agU j
theorem DR {e_0:bf} {O0:(List (List bf))} {O1:Int} {r:Bool} (h:jc e_0 O0 O1=some r):FX 57 [.im 2 true (vX e_0),.im 2 false [.cp [W 1 (eL 2 bZ) O0] 0],.im 2 false [.cp [I O1] 0]] (B0 [(false,[.im 0 (V r)])]):=by
 unfold jc at h
 refine gn 11 Tryz.func57 rfl ?_
 refine gs<|g0 j j (q (oBx j IX j (tkI (tkI tk0)))<|q (ae j j)<|nl)<|us<|gs<|?_
 obtain ⟨x7,hx7,h⟩:=bs h
 obtain ⟨x10,Ij,h⟩:=bs h
 refine gd c57 j j j j (mk [(4,bv x10)] []) (t j j (oLd (cs:=[.im 2 _]) j O9 j j)<|t j j (oLd (cs:=[.im 2 _]) j tF3 j j)<|t j j (gq j hx7 XX j j)<|t j j (oLd (cs:=[.im 2 _]) j afc j j)<|t j j (oLd (cs:=[.im 0 _,.im 0 _]) j IX j j)<|sS (dN z57 j (oCa (xs:=[.v false [.im 2 _],.v true [.im 0 _,.im 0 _]]) (vs:=[(false,[.im 0 _])]) (v:=.v false [.im 0 _]) (uH Ij) (.inl j) j QN j (ppC j (ppC j pp0)) j j pb0 j j j)) trivial (sS (dN z57 j (ae j j)) trivial (sD (by kernel_rfl))))<|us<|Go.ret (Unw.ret ?_)
 cases h
 exact fr agT j
theorem ru {s_0:(List bf)} {BV:(List (List bf))} {BX:Int} {r:Int} (h:ig s_0 (fun b0=>jc b0 BV BX)=some r):FX 83 [.im 2 false [W 2 bZ s_0],.im 2 false [.clo 57 [.cp [W 1 (eL 2 bZ) BV] 0,.cp [I BX] 0]]] (B0 [(false,[.im 0 (I r)])]):=by
 unfold ig at h
 refine gn 19 Tryz.func83 rfl ?_
 refine gs<|g0 j j (q (ae j j)<|nl)<|us<|gs<|gs<|g0 j j (q (oMv j j)<|q (gJ j j adq j)<|q (oMv j j)<|nl)<|us<|Go.block<|?_
 obtain ⟨o,hl,h⟩:=bs h
 refine gl c83 j _ (fun (fC:Int)=>mk [(0,D 2 (W 2 bZ s_0)),(1,D 2 (.clo 57 [.cp [W 1 (eL 2 bZ) BV] 0,.cp [I BX] 0])),(7,iv (s_0.length:Int)),(8,iv fC)] []) (fun (o:(Unit ⊕ Int)) (p:Ex×St)=>match o with | (.inl _)=>p.1= .exit 0∧p.2.norm ([],[])=mk [] [] | (.inr r2)=>p.1= .ret∧fin Tryz.prog cfg 83 Tryz.f83 [.im 2 false [W 2 bZ s_0],.im 2 false [.clo 57 [.cp [W 1 (eL 2 bZ) BV] 0,.cp [I BX] 0]]] p.2=some (B0 [(false,[.im 0 (I r2)])])) hl (by kernel_rfl) ?_ ?_ ?_
 ·intro o p hp e
  rcases o with u | r2<;>exact nomatch (hp.1.symm.trans e)
 ·rintro fC o h
  unfold dW at h
  refine gs<|g0 j j (q (oBi j j j j)<|nl)<|us<|gs<|gc h j ah (fun hc5 h=>?_) fun hc5 h=>?_
  ·refine Go.skip<|us<|gs<|Go.block<|gs<|g0 j j (q (oMv j j)<|q (ae j j)<|nl)<|us<|gs<|?_
   obtain ⟨x14,vH,h⟩:=bs h
   obtain ⟨x16,hx16,h⟩:=bs h
   refine g0 j j (q (oMv j j)<|q (oMv j j)<|q (oMv j j)<|q (gq j vH XY j j)<|q (oLd (cs:=[.im 2 _,.im 2 _]) j IX j j)<|q (oCa (xs:=[.v true [.im 2 _,.im 2 _],.v false [.im 2 _],.v false [.im 2 _]]) (vs:=[(false,[.im 0 _])]) (v:=.v false [.im 0 _]) (DR hx16) (.inr ⟨_,_,j,j⟩) j O7 j (ppC j (ppC j (ppC j pp0))) j j pb0 j j j)<|nl)<|us<|gc h j iR (fun hc6 h=>?_) fun hc6 h=>?_
   ·refine gs<|g0 j j (q (oMv j j)<|q (ae j j)<|nl)<|us<|Go.ret (Unw.ret ?_)
    cases h
    exact ⟨j,(fo aeZ j)⟩
   ·refine Go.skip<|Unw.blk<|us<|g0 j j (q (oBi j j j j)<|q (oMv j j)<|nl)<|Unw.nil<|?_
    cases h
    exact ⟨j,(by kernel_rfl)⟩
  ·refine Go.exit<|ux<|Unw.nil<|?_
   cases h
   exact ⟨j,(by kernel_rfl)⟩
 ·rintro ⟨e,st⟩ hp
  rcases o with u | r2
  ·dsimp only at h
   obtain ⟨he,hst⟩:=hp
   obtain rfl:e= .exit 0:=he
   refine Unw.iU<|us<|gs<|g2 c83 j j hst (q (ae j j)<|nl)<|us<|Go.ret (Unw.ret ?_)
   cases h
   exact fr aeZ j
  ·dsimp only at h
   obtain ⟨he,hfin⟩:=hp
   obtain rfl:e= .ret:=he
   cases h
   exact Unw.ret (fO hfin)
theorem qg {s_0:(List bf)} {BV:(List (List bf))} {BX:Int} {r:Bool} (h:dX s_0 (fun b0=>jc b0 BV BX)=some r):FX 56 [.im 2 false [W 2 bZ s_0],.im 2 false [.clo 57 [.cp [W 1 (eL 2 bZ) BV] 0,.cp [I BX] 0]]] (B0 [(false,[.im 0 (V r)])]):=by
 unfold dX at h
 refine gn 9 Tryz.func56 rfl ?_
 refine gs<|g0 j j (q (ae j j)<|nl)<|us<|gs<|?_
 obtain ⟨x7,hx7,h⟩:=bs h
 refine g0 j j (q (oMv j j)<|q (oMv j j)<|q (oCa (xs:=[.v false [.im 2 _],.v false [.im 2 _]]) (vs:=[(false,[.im 0 _])]) (v:=.v false [.im 0 _]) (ru hx7) (.inl j) j QS j (ppC j (ppC j pp0)) j j pb0 j j j)<|q (oBi j j j j)<|q (ae j j)<|nl)<|us<|Go.ret (Unw.ret ?_)
 cases h
 exact fr agS j
theorem GI {d_0:aA} {r:(List (List Int))} (h:pI d_0=some r):FX 34 [.im 2 true (ak d_0)] (B0 [(false,[.im 0 (W 1 (eL 1 eI) r)])]):=by
 unfold pI at h
 refine gn 61 Tryz.func34 rfl ?_
 refine gs<|g0 j j (sqn z34 j (oBx j AZ j (tkI (tkI (tkI (tkI tk0)))))<|sqf z34 j (vG j j acU) (agb j j j)<|nl)<|us<|gs<|g0 j j (sqn z34 j (oBS (es:=List.map (eL 2 bZ) ([]:List (List bf))) j XX j pt0 (Dk j))<|sqn z34 j (oAl j O9 (tkN tk0))<|sq0 (oSt O9 j j j (tkO j j tk0) j j j)<|nl)<|us<|gs<|gs<|g1 j j (mk [(1,M 1),(3,M 3)] [(1,Oa (G 2 (ak d_0))),(3,Ob [Z (W 1 (eL 2 bZ) ([]:List (List bf)))])]) (sqn z34 j (oFA (r':=.mp 1 0 3) j oO j j)<|sqn z34 j (oLd (cs:=[.im 2 _]) j BP j j)<|sqn z34 j (gJ j j I5 j)<|sqn z34 j (oMv j j)<|nl)<|us<|Go.block<|?_
 obtain ⟨o,hl,h⟩:=bs h
 refine gl c34 j _ (fun (s:(Int×(List (List bf))))=>match s with | (zH,uD)=>mk [(3,M 3),(11,D 2 (W 2 bQ d_0.aB)),(12,iv (d_0.aB.length:Int)),(13,iv zH)] [(3,Ob [Z (W 1 (eL 2 bZ) uD)])]) (fun (aS:(List (List bf))) (p:Ex×St)=>p.1= .exit 0∧p.2.norm ([3],[3])=mk [(3,M 3)] [(3,Ob [Z (W 1 (eL 2 bZ) aS)])]) hl (by kernel_rfl) ?_ ?_ ?_
 ·intro o p hp e
  exact nomatch (hp.1.symm.trans e)
 ·rintro ⟨zH,uD⟩ o h
  unfold lQ at h
  dsimp only at h
  refine gs<|g0 j j (sqn z34 j (oBi j j j j)<|nl)<|us<|gs<|gc h j ah (fun hc38 h=>?_) fun hc38 h=>?_
  ·refine Go.skip<|us<|gs<|Go.block<|gs<|?_
   obtain ⟨x15,A7,h⟩:=bs h
   refine g0 j j (sqn z34 j (gq j A7 Fa j j)<|sqn z34 j (oLd (cs:=[.im 2 _,.im 2 _]) j Fb j j)<|sqn z34 j (oAl j Fb (tkI (tkN tk0)))<|sq0 (oSt Fb j j j (tkI (tkI tk0)) j j j)<|nl)<|us<|?_
   obtain ⟨x20,yu,h⟩:=bs h
   obtain ⟨x22,Gy,h⟩:=bs h
   refine gd c34 j j j (st1:=mk [(3,M 3),(5,M 5),(11,D 2 (W 2 bQ d_0.aB)),(12,iv (d_0.aB.length:Int)),(13,iv zH)] [(3,Ob [Z (W 1 (eL 2 bZ) uD)]),(5,Oa (G 2 (vF x15)))]) (by kernel_rfl) (mk [(3,M 3),(11,D 2 (W 2 bQ d_0.aB)),(12,iv (d_0.aB.length:Int)),(13,iv zH)] [(3,Ob [Z (W 1 (eL 2 bZ) x22)])]) (sT j (dNn z34 j j (oFA (r':=.mp 5 0 1) j BN j j))<|sT j (dNn z34 j j (oLd (cs:=[.im 2 _]) j oz j j))<|sK (O:=[3]) j j j (dNn z34 j j (oLd (cs:=[.own 3 0 0]) j O9 j j))<|sS (dNn z34 j j (oCr (xs:=[.v false [.im 2 _]]) (vs:=[(false,[.own 20 0 0])]) (v:=.v false [.own 20 0 0]) (c:=⟨.sh,0,_⟩) (cs:=[]) (Iu yu) (.inl j) j aaX j (ppC j pp0) j j pb0 j j j)) (kY ⟨j,trivial⟩ trivial) (sS (dNn z34 j j (oBS (es:=List.map (eL 2 bZ) ([x20]:List (List bf))) j XX j (ptC j (fxO j j fx0) j pt0) (Dk j))) (kY ⟨j,trivial⟩ trivial) (sS (dNn z34 j j (EU (en:=(eL 2 bZ)) (M:=([x20]:List (List bf))) j Gy j XX j j abm (.inl ⟨_,j⟩) j j j j (kJ j j) (Dk j))) (kN j trivial) (sS (dN0 j (oSt O9 j j j (tkO j j tk0) j j j)) (kN j trivial) (sD (by kernel_rfl))))))<|Unw.blk<|us<|g0 j j (sqn z34 j (oBi j j j j)<|sqn z34 j (oMv j j)<|nl)<|Unw.nil<|?_
   cases h
   exact ⟨j,(by kernel_rfl)⟩
  ·refine Go.exit<|ux<|Unw.nil<|?_
   cases h
   exact ⟨j,(by kernel_rfl)⟩
 ·rintro ⟨e,st⟩ hp
  obtain ⟨aS,rfl⟩:∃y,y=o:=⟨o,rfl⟩
  obtain ⟨he,hst⟩:=hp
  obtain rfl:e= .exit 0:=he
  refine Unw.iU<|us<|gs<|?_
  obtain ⟨x26,TC,h⟩:=bs h
  refine g2 c34 j j hst (sqn z34 j (oLd (cs:=[.own 3 0 0]) j O9 j j)<|sqn z34 j (Hr j j abm j j j (fun e=>nomatch e))<|sqn z34 j (af8 (en:=(eL 1 eI)) j TC j uG j j (fxN fx0) j (Dk j))<|sqn z34 j (aer j j j j j)<|nl)<|us<|gs<|gs<|g0 j j (sqn z34 j (oLd (cs:=[.own 3 0 0]) j O9 j j)<|sqn z34 j (Hr j j abm j j j (fun e=>nomatch e))<|sqn z34 j (oMv j j)<|nl)<|us<|Go.block<|?_
  obtain ⟨o,hl,h⟩:=bs h
  refine gl c34 j _ (fun (s:(Int×(List (List Int))))=>match s with | (ja,AY)=>mk [(3,M 3),(6,H 6 0),(28,iv (aS.length:Int)),(29,iv ja)] [(3,Ob [Z (W 1 (eL 2 bZ) aS)]),(6,Oc [⟨.dp 0,0,0,W 1 (eL 1 eI) AY⟩])]) (fun (zI:(List (List Int))) (p:Ex×St)=>p.1= .exit 2∧p.2.norm ([6],[6])=mk [(6,H 6 0)] [(6,Oc [⟨.dp 0,0,0,W 1 (eL 1 eI) zI⟩])]) hl (by kernel_rfl) ?_ ?_ ?_
  ·intro o p hp e
   exact nomatch (hp.1.symm.trans e)
  ·rintro ⟨ja,AY⟩ o h
   unfold lN at h
   dsimp only at h
   refine gs<|g0 j j (sqn z34 j (oBi j j j j)<|nl)<|us<|gs<|gc h j ah (fun hc21 h=>?_) fun hc21 h=>?_
   ·refine Go.skip<|us<|gs<|Go.block<|gs<|g0 j j (sqn z34 j (oMv j j)<|sqn z34 j (ae j j)<|nl)<|us<|gs<|g0 j j (sqn z34 j (oLd (cs:=[.own 3 0 0]) j O9 j j)<|sqn z34 j (Hr j j abm j j j (fun e=>nomatch e))<|sqn z34 j (oMv j j)<|nl)<|us<|Go.block<|?_
    obtain ⟨o,hl,h⟩:=bs h
    refine gl c34 j _ (fun (s:(Int×(List (List Int))))=>match s with | (jg,jO)=>mk [(3,M 3),(6,H 6 0),(7,iv ja),(28,iv (aS.length:Int)),(29,iv ja),(33,iv (aS.length:Int)),(34,iv jg)] [(3,Ob [Z (W 1 (eL 2 bZ) aS)]),(6,Oc [⟨.dp 0,0,0,W 1 (eL 1 eI) jO⟩])]) (fun (yt:(List (List Int))) (p:Ex×St)=>p.1= .exit 4∧p.2.norm ([3,6,28,29],[3,6])=mk [(3,M 3),(6,H 6 0),(28,iv (aS.length:Int)),(29,iv ja)] [(3,Ob [Z (W 1 (eL 2 bZ) aS)]),(6,Oc [⟨.dp 0,0,0,W 1 (eL 1 eI) yt⟩])]) hl (by kernel_rfl) ?_ ?_ ?_
    ·intro o p hp e
     exact nomatch (hp.1.symm.trans e)
    ·rintro ⟨jg,jO⟩ o h
     unfold kS at h
     dsimp only at h
     refine gs<|g0 j j (sqn z34 j (oBi j j j j)<|nl)<|us<|gs<|gc h j ah (fun kQ h=>?_) fun kQ h=>?_
     ·refine Go.skip<|us<|gs<|Go.join (fun st=>∃yX,kR jg yX=some o∧st.norm ([3,6,7,28,29,33,34],[3,6])=mk [(3,M 3),(6,H 6 0),(7,iv ja),(28,iv (aS.length:Int)),(29,iv ja),(33,iv (aS.length:Int)),(34,iv jg)] [(3,Ob [Z (W 1 (eL 2 bZ) aS)]),(6,Oc [⟨.dp 0,0,0,W 1 (eL 1 eI) yX⟩])]) ?_ ?_
      ·rintro st ⟨yX,h,hst⟩
       unfold kR at h
       refine us<|g2 c34 j j hst (sqn z34 j (oBi j j j j)<|sqn z34 j (oMv j j)<|nl)<|Unw.nil<|?_
       cases h
       exact ⟨j,(by kernel_rfl)⟩
      ·intro K34
       refine Go.block<|gs<|g0 j j (sqn z34 j (oMv j j)<|sqn z34 j (oAl j tF3 (tkI tk0))<|sq0 (oSt tF3 j j j (tkI tk0) j j j)<|nl)<|us<|gs<|?_
       obtain ⟨KW,DN,h⟩:=bs h
       refine gX c34 j j (st1:=mk [(3,M 3),(6,H 6 0),(7,iv ja),(8,M 8),(28,iv (aS.length:Int)),(29,iv ja),(33,iv (aS.length:Int)),(34,iv jg)] [(3,Ob [Z (W 1 (eL 2 bZ) aS)]),(6,Oc [⟨.dp 0,0,0,W 1 (eL 1 eI) jO⟩]),(8,Ob [C (I jg)])]) (by kernel_rfl) (mk [(3,M 3),(6,H 6 0),(7,iv ja),(8,M 8),(28,iv (aS.length:Int)),(29,iv ja),(33,iv (aS.length:Int)),(34,iv jg),(47,bv KW)] [(3,Ob [Z (W 1 (eL 2 bZ) aS)]),(6,Oc [⟨.dp 0,0,0,W 1 (eL 1 eI) jO⟩]),(8,Ob [C (I jg)])]) ?_ ?_
       ·refine Vm z34 j (oMv j j)<|Vm z34 j (oLd (cs:=[.im 0 _]) j tF3 j j)<|Vm z34 j (oBi j j j j)<|Vm z34 j (oMv j j)<|?_
        refine ic DN (fun qf DN=>?_) fun qf DN=>?_
        ·obtain ⟨x43,Jf,DN⟩:=bs DN
         obtain ⟨x46,TD,DN⟩:=bs DN
         cases DN
         exact NK z34 j j j (iNe.2 qf) (oLd (cs:=[.own 3 0 0]) j O9 j j)<|NK z34 j j j (iNe.2 qf) (oMv j j)<|NK z34 j j j (iNe.2 qf) (Am j Jf XX j j j j)<|NK z34 j j j (iNe.2 qf) (IZ (cs:=[.im 0 _]) j afc j j j j (fA Jf) j j)<|NK z34 j j j (iNe.2 qf) (oMF (rs:=[.mp 3 0 0,.mp 8 0 0]) j j)<|NK z34 j j j (iNe.2 qf) (oCa (xs:=[.v false [.im 0 _],.fn 57 [.mp 3 0 0,.mp 8 0 0]]) (vs:=[(false,[.im 0 _])]) (v:=.v false [.im 0 _]) (qg TD) (.inl j) j QM j (ppC j (ppC j pp0)) j j pb0 j j j)<|Vm z34 j (bG j j (iNe.2 qf) j)<|xn
        ·cases DN
         exact aj j j (byF iNe qf) j<|aj j j (byF iNe qf) j<|aj j j (byF iNe qf) j<|aj j j (byF iNe qf) j<|aj j j (byF iNe qf) j<|aj j j (byF iNe qf) j<|Vm z34 j (dP j j (byF iNe qf) j)<|xn
       ·refine us<|gc h j iR (fun X3 h=>?_) fun X3 h=>?_
        ·obtain ⟨x52,X7,h⟩:=bs h
         obtain ⟨x56,X6,h⟩:=bs h
         obtain ⟨x57,VM,h⟩:=bs h
         exact gd c34 j j j j (mk [(3,M 3),(6,H 6 0),(7,iv ja),(28,iv (aS.length:Int)),(29,iv ja),(33,iv (aS.length:Int)),(34,iv jg)] [(3,Ob [Z (W 1 (eL 2 bZ) aS)]),(6,Oc [⟨.dp 0,0,0,W 1 (eL 1 eI) (jO.set ja.toNat x56)⟩])]) (sT j (dNn z34 j j (oMv j j))<|sT j (dNn z34 j j (oMv j j))<|sT j (dNn z34 j j (oMv j j))<|sT j (dNn z34 j j (oMv j j))<|sT j (dNn z34 j j (oLd (cs:=[.im 0 _]) j tF3 j j))<|sK (O:=[6]) j j j (dNn z34 j j (Hu j X7 uG j j j j (fun e=>nomatch e)))<|sK (O:=[6]) j j j (dNn z34 j j (aes (cs:=[.inr 6 0 0 _ 0 0]) j oz j j j (fA X7) j j))<|sS (dNn z34 j j (oBS (es:=List.map eI ([jg]:List Int)) j fP j (ptC j (fxI fx0) j pt0) (eG j fun _=>j))) (kY ⟨j,trivial⟩ (kY ⟨j,trivial⟩ trivial)) (sS (dNn z34 j j (KH (en:=eI) (M:=([jg]:List Int)) j X6 j fP j j lX (.inl ⟨_,j⟩) j j j (fA X7) j j (kJ j j) (eG j fun _=>j))) (kN j (kN j trivial)) (sT j (dNn z34 j j (Hu j VM uG j j j j (fun e=>nomatch e)))<|sS (dN0 j (KG (v':=x56) oz j j j j (tkO j j tk0) j j (fA VM) j)) (kN j (kN j trivial)) (sD (by kernel_rfl)))))<|Unw.blk<|K34 _ ⟨(jO.set ja.toNat x56),h,(by kernel_rfl)⟩
        ·exact Go.skip<|Unw.blk<|K34 _ ⟨jO,h,(by kernel_rfl)⟩
     ·refine Go.exit<|ux<|Unw.nil<|?_
      cases h
      exact ⟨j,(by kernel_rfl)⟩
    ·rintro ⟨e,st⟩ hp
     obtain ⟨yt,rfl⟩:∃y,y=o:=⟨o,rfl⟩
     obtain ⟨he,hst⟩:=hp
     obtain rfl:e= .exit 4:=he
     refine Unw.iU<|Unw.blk<|us<|g2 c34 j j hst (sqn z34 j (oBi j j j j)<|sqn z34 j (oMv j j)<|nl)<|Unw.nil<|?_
     cases h
     exact ⟨j,(by kernel_rfl)⟩
   ·refine Go.exit<|ux<|Unw.nil<|?_
    cases h
    exact ⟨j,(by kernel_rfl)⟩
  ·rintro ⟨e,st⟩ hp
   obtain ⟨zI,rfl⟩:∃y,y=o:=⟨o,rfl⟩
   obtain ⟨he,hst⟩:=hp
   obtain rfl:e= .exit 2:=he
   refine Unw.iU<|us<|gs<|g2 c34 j j hst (sqn z34 j (oMv j j)<|sqf z34 j (aer j j j j j) (agc j j j)<|nl)<|us<|Go.ret (Unw.ret ?_)
   cases h
   exact fr agG j
theorem zh {s_0:(List Int)} {v_1:Int} {r:Int} (h:jR s_0 v_1=some r):FX 87 [.im 2 false [W 1 eI s_0],.im 2 false [I v_1]] (B0 [(false,[.im 0 (I r)])]):=by
 unfold jR at h
 refine gn 19 Tryz.func87 rfl ?_
 refine gs<|g0 j j (q (ae j j)<|nl)<|us<|gs<|gs<|g0 j j (q (oMv j j)<|q (gJ j j lX j)<|q (oMv j j)<|nl)<|us<|Go.block<|?_
 obtain ⟨o,hl,h⟩:=bs h
 refine gl c87 j _ (fun (fC:Int)=>mk [(0,D 2 (W 1 eI s_0)),(1,iv v_1),(7,iv (s_0.length:Int)),(8,iv fC)] []) (fun (o:(Unit ⊕ Int)) (p:Ex×St)=>match o with | (.inl _)=>p.1= .exit 0∧p.2.norm ([],[])=mk [] [] | (.inr r2)=>p.1= .ret∧fin Tryz.prog cfg 87 Tryz.f87 [.im 2 false [W 1 eI s_0],.im 2 false [I v_1]] p.2=some (B0 [(false,[.im 0 (I r2)])])) hl (by kernel_rfl) ?_ ?_ ?_
 ·intro o p hp e
  rcases o with u | r2<;>exact nomatch (hp.1.symm.trans e)
 ·rintro fC o h
  unfold ik at h
  refine gs<|g0 j j (q (oBi j j j j)<|nl)<|us<|gs<|gc h j ah (fun hc5 h=>?_) fun hc5 h=>?_
  ·refine Go.skip<|us<|gs<|Go.block<|gs<|g0 j j (q (oMv j j)<|q (ae j j)<|nl)<|us<|gs<|?_
   obtain ⟨x14,vH,h⟩:=bs h
   refine g0 j j (q (oMv j j)<|q (oMv j j)<|q (oMv j j)<|q (gq j vH fP j j)<|q (oLd (cs:=[.im 2 _]) j tF2 j j)<|q (oBi j j j j)<|nl)<|us<|gc h j iEq (fun hc6 h=>?_) fun hc6 h=>?_
   ·refine gs<|g0 j j (q (oMv j j)<|q (ae j j)<|nl)<|us<|Go.ret (Unw.ret ?_)
    cases h
    exact ⟨j,(fo ae1 j)⟩
   ·refine Go.skip<|Unw.blk<|us<|g0 j j (q (oBi j j j j)<|q (oMv j j)<|nl)<|Unw.nil<|?_
    cases h
    exact ⟨j,(by kernel_rfl)⟩
  ·refine Go.exit<|ux<|Unw.nil<|?_
   cases h
   exact ⟨j,(by kernel_rfl)⟩
 ·rintro ⟨e,st⟩ hp
  rcases o with u | r2
  ·dsimp only at h
   obtain ⟨he,hst⟩:=hp
   obtain rfl:e= .exit 0:=he
   refine Unw.iU<|us<|gs<|g2 c87 j j hst (q (ae j j)<|nl)<|us<|Go.ret (Unw.ret ?_)
   cases h
   exact fr ae1 j
  ·dsimp only at h
   obtain ⟨he,hfin⟩:=hp
   obtain rfl:e= .ret:=he
   cases h
   exact Unw.ret (fO hfin)
theorem xG {s_0:(List Int)} {v_1:Int} {r:Bool} (h:dR s_0 v_1=some r):FX 62 [.im 2 false [W 1 eI s_0],.im 2 false [I v_1]] (B0 [(false,[.im 0 (V r)])]):=by
 unfold dR at h
 refine gn 9 Tryz.func62 rfl ?_
 refine gs<|g0 j j (q (ae j j)<|nl)<|us<|gs<|?_
 obtain ⟨x7,hx7,h⟩:=bs h
 refine g0 j j (q (oMv j j)<|q (oMv j j)<|q (oCa (xs:=[.v false [.im 2 _],.v false [.im 2 _]]) (vs:=[(false,[.im 0 _])]) (v:=.v false [.im 0 _]) (zh hx7) (.inl j) j VH j (ppC j (ppC j pp0)) j j pb0 j j j)<|q (oBi j j j j)<|q (ae j j)<|nl)<|us<|Go.ret (Unw.ret ?_)
 cases h
 exact fr agW j
theorem GK {a_0:Int} {b_1:Int} {r:(Int×Int)} (h:tC a_0 b_1=some r):FX 88 [.im 2 false [I a_0],.im 2 false [I b_1]] (B0 [(false,[.im 0 (I r.1)]),(false,[.im 0 (I r.2)])]):=by
 unfold tC at h
 refine gn 26 Tryz.func88 rfl ?_
 refine gs<|g0 j j (q (ae j j)<|q (ae j j)<|nl)<|us<|gs<|gs<|?_
 obtain ⟨x8,hx8,h⟩:=bs h
 obtain ⟨O3,hm3,h⟩:=bs h
 refine gX c88 j j j (mk [(0,iv a_0),(1,iv b_1),(14,bv O3)] []) ?_ ?_
 ·refine xq (oMv j j)<|xq (oCa (xs:=[.v false [.im 2 _],.v false [.im 0 _],.v false [.im 0 _]]) (vs:=[(false,[.im 0 _])]) (v:=.v false [.im 0 _]) (dI hx8) (.inl j) j gB j (ppC j (ppC j (ppC j pp0))) j j pb0 j j j)<|xq (oUn j j j)<|xq (oMv j j)<|?_
  refine ic hm3 (fun hc1 hm3=>?_) fun hc1 hm3=>?_
  ·obtain ⟨x12,zU,hm3⟩:=bs hm3
   cases hm3
   exact xqT j j (nF (iR.2 hc1)) (oMv j j)<|xqT j j (nF (iR.2 hc1)) (oCa (xs:=[.v false [.im 2 _],.v false [.im 0 _],.v false [.im 0 _]]) (vs:=[(false,[.im 0 _])]) (v:=.v false [.im 0 _]) (dI zU) (.inl j) j gB j (ppC j (ppC j (ppC j pp0))) j j pb0 j j j)<|xqT j j (nF (iR.2 hc1)) (oUn j j j)<|xq (dP j j (nF (iR.2 hc1)) j)<|xn
  ·cases hm3
   exact aj j j (nT (byF iR hc1)) j<|aj j j (nT (byF iR hc1)) j<|aj j j (nT (byF iR hc1)) j<|xq (bG j j (nT (byF iR hc1)) j)<|xn
 ·refine us<|gc h j iR (fun hc2 h=>?_) fun hc2 h=>?_
  ·refine gs<|g0 j j (q (ae j j)<|q (ae j j)<|nl)<|us<|Go.ret (Unw.ret ?_)
   cases h
   exact fr ae2 j
  ·refine Go.skip<|us<|gs<|g0 j j (q (oMv j j)<|q (oMv j j)<|q (oBi j j j j)<|q (oMv j j)<|q (oMv j j)<|q (oBi j j j j)<|q (Xm j j)<|q (ae j j)<|nl)<|us<|gs<|g0 j j (q (oMv j j)<|q (oMv j j)<|q (oBi j j j j)<|q (Y1 j j)<|q (ae j j)<|q (ae j j)<|nl)<|us<|Go.ret (Unw.ret ?_)
   cases h
   exact fr ae2 j
theorem Jo {a_0:ai} {b_1:ai} {r:Int} (h:sQ a_0 b_1=some r):FX 63 [.im 2 true (iH a_0),.im 2 true (iH b_1)] (B0 [(false,[.im 0 (I r)])]):=by
 unfold sQ at h
 refine gn 29 Tryz.func63 rfl ?_
 refine gs<|g0 j j (q (oBx j DD j (tkI (tkI (tkI tk0))))<|q (oBx j DD j (tkI (tkI (tkI tk0))))<|q (ae j j)<|nl)<|us<|gs<|?_
 obtain ⟨x12,zU,h⟩:=bs h
 refine g0 j j (q (oFA (r':=.mp 2 0 2) j zQ j j)<|q (oLd (cs:=[.im 0 _]) j tF2 j j)<|q (oFA (r':=.mp 3 0 2) j zQ j j)<|q (oLd (cs:=[.im 0 _]) j tF2 j j)<|q (oCa (xs:=[.v false [.im 0 _],.v false [.im 0 _]]) (vs:=[(false,[.im 0 _]),(false,[.im 0 _])]) (v:=.tup [(false,[.im 0 _]),(false,[.im 0 _])]) (GK zU) (.inl j) j XP j (ppC j (ppC j pp0)) j j pb0 j j j)<|q (Md j j)<|q (oEx j j j)<|q (oEx j j j)<|q (ae j j)<|q (ae j j)<|nl)<|us<|gs<|?_
 obtain ⟨x27,hx27,h⟩:=bs h
 refine g0 j j (q (oFA (r':=.mp 2 0 1) j rO j j)<|q (oLd (cs:=[.im 0 _]) j tF2 j j)<|q (oFA (r':=.mp 3 0 1) j rO j j)<|q (oLd (cs:=[.im 0 _]) j tF2 j j)<|q (oBi j j j j)<|q (oFA (r':=.mp 3 0 1) j rO j j)<|q (oLd (cs:=[.im 0 _]) j tF2 j j)<|q (oFA (r':=.mp 2 0 1) j rO j j)<|q (oLd (cs:=[.im 0 _]) j tF2 j j)<|q (oBi j j j j)<|q (Xm j j)<|q (oMv j j)<|q (acG j hx27 j j)<|q (oBi j j j j)<|q (ae j j)<|nl)<|us<|Go.ret (Unw.ret ?_)
 cases h
 exact fr agX j
theorem zW {self:(aO×(List Int)×Int×Int)→Option ((List Int)×Int×aO)} (ih:∀{s_0:aO} {bg:(List Int)} {aW:Int} {jq:Int} {r:((List Int)×Int×aO)},self (s_0,bg,aW,jq)=some r→FX 35 [.ptr true [(.gone,W 1 (eL 1 eI) s_0.near),(.imm,W 3 au s_0.iJ),(.imm,I s_0.left)],.mv 1 (List.map eI bg),.im 2 false [I aW],.im 2 false [I jq]] ([(false,[.ow 0 1 (List.map eI r.1)]),(false,[.im 0 (I r.2.1)])],[.ptr true [(.gone,W 1 (eL 1 eI) r.2.2.near),(.imm,W 3 au r.2.2.iJ),(.imm,I r.2.2.left)]])) {s_0:aO} {bg:(List Int)} {aW:Int} {jq:Int} {r:((List Int)×Int×aO)} (h:dH self s_0 bg aW jq=some r):FX 35 [.ptr true [(.gone,W 1 (eL 1 eI) s_0.near),(.imm,W 3 au s_0.iJ),(.imm,I s_0.left)],.mv 1 (List.map eI bg),.im 2 false [I aW],.im 2 false [I jq]] ([(false,[.ow 0 1 (List.map eI r.1)]),(false,[.im 0 (I r.2.1)])],[.ptr true [(.gone,W 1 (eL 1 eI) r.2.2.near),(.imm,W 3 au r.2.2.iJ),(.imm,I r.2.2.left)]]):=by
 unfold dH at h
 refine BA (A:=[(0,M 0),(1,H 1 0),(2,D 2 (I aW)),(3,D 2 (I jq))]) (B:=[(0,Od [C (W 1 (eL 1 eI) s_0.near),Ct 1 (W 3 au s_0.iJ),C (I s_0.left)]),(1,Oc [Z (W 1 eI bg)]),(2,none),(3,none)]) (nt:=124) rfl rfl Tryz.func35 rfl rfl rfl rfl ?_
 refine gs<|g0 j j (q (vG j j E5)<|q (ae j j)<|nl)<|us<|gs<|g0 j j (q (oMv j j)<|q (Hr j j lX j j j (fun e=>nomatch e))<|q (ae j j)<|nl)<|us<|gs<|gs<|g0 j j (q (oMv j j)<|q (oMv j j)<|q (oNl j j j)<|q (oFA (r':=.mp 0 0 0) j XF j j)<|q (oLd (cs:=[.im 0 _]) j zo j j)<|q (gJ j j TA j)<|q (oBi j j j j)<|nl)<|us<|gc h j iEq (fun hc1 h=>?_) fun hc1 h=>?_
 ·refine gs<|g0 j j (q (oMv j j)<|q (jX j j j j j)<|q (ae j j)<|nl)<|us<|Go.ret (Unw.ret ?_)
  cases h
  exact fr abb j
 ·refine Go.skip<|us<|gs<|?_
  obtain ⟨x29,hx29,h⟩:=bs h
  refine g0 j j (q (oMv j j)<|q (oCr (xs:=[.v false [.own 1 0 0]]) (vs:=[(false,[.own 29 0 0])]) (v:=.v false [.own 29 0 0]) (c:=⟨.sh,0,_⟩) (cs:=[]) (NJ (en:=eI) (L:=bg) j hx29 (fun _=>j)) (.inl j) j UJ j (ppC j pp0) j j pb0 j j j)<|q (jX j j j j j)<|nl)<|us<|gs<|?_
  obtain ⟨x31,hx31,h⟩:=bs h
  refine g0 j j (q (oMv j j)<|q (oCa (xs:=[.v false [.own 11 0 0]]) (vs:=[]) (v:=.tup []) (Y8 j hx31) (.inl j) j aaY j (ppC j pp0) j j (pbO j j j j pb0) j j j)<|nl)<|us<|gs<|?_
  obtain ⟨x33,adw,h⟩:=bs h
  refine g1 j j (mk [(0,M 0),(1,H 1 0),(2,iv aW),(3,iv jq),(10,iv (bg.length:Int)),(11,H 11 0)] [(0,Od [C (W 1 (eL 1 eI) s_0.near),Ct 1 (W 3 au s_0.iJ),C (I s_0.left)]),(1,Oc [Z (W 1 eI bg)]),(11,Oc [Z (W 1 eI x31)])]) (q (oMv j j)<|q (oCr (xs:=[.v false [.own 11 0 0]]) (vs:=[(false,[.own 33 0 0])]) (v:=.v false [.own 33 0 0]) (c:=⟨.sh,0,_⟩) (cs:=[]) (SH j adw) (.inl j) j aaZ j (ppM (Ak j j) pp0) j j pb0 j j j)<|q (jX j j j j j)<|nl)<|us<|gs<|gs<|g0 j j (q (oMv j j)<|q (oNl j j j)<|q (oFA (r':=.mp 0 0 1) j SS j j)<|q (oLd (cs:=[.im 1 _]) j ado j j)<|q (gJ j j Gw j)<|q (oMv j j)<|nl)<|us<|Go.block<|?_
  obtain ⟨o,hl,h⟩:=bs h
  refine gl c35 j _ (fun (s:(Int×(List (List Int))×(List ai)×Int))=>match s with | (iq,jy,iL,jA)=>mk [(0,M 0),(1,H 1 0),(2,iv aW),(3,iv jq),(10,iv (bg.length:Int)),(11,H 11 0),(38,iv (s_0.iJ.length:Int)),(39,iv iq)] [(0,Od [C (W 1 (eL 1 eI) jy),Ct 1 (W 3 au iL),C (I jA)]),(1,Oc [Z (W 1 eI bg)]),(11,Oc [Z (W 1 eI x33)])]) (fun (o:(((List (List Int))×(List ai)×Int) ⊕ ((List Int)×Int×aO))) (p:Ex×St)=>match o with | (.inl (xA,xB,xC))=>p.1= .exit 0∧p.2.norm ([],[0])=mk [] [(0,Od [C (W 1 (eL 1 eI) xA),Ct 1 (W 3 au xB),C (I xC)])] | (.inr r2)=>p.1= .ret∧fin Tryz.prog cfg 35 Tryz.f35 [.ptr true [(.gone,W 1 (eL 1 eI) s_0.near),(.imm,W 3 au s_0.iJ),(.imm,I s_0.left)],.mv 1 (List.map eI bg),.im 2 false [I aW],.im 2 false [I jq]] p.2=some ([(false,[.ow 0 1 (List.map eI r2.1)]),(false,[.im 0 (I r2.2.1)])],[.ptr true [(.gone,W 1 (eL 1 eI) r2.2.2.near),(.imm,W 3 au r2.2.2.iJ),(.imm,I r2.2.2.left)]])) hl (by kernel_rfl) ?_ ?_ ?_
  ·intro o p hp e
   rcases o with ⟨xA,xB,xC⟩ | r2<;>exact nomatch (hp.1.symm.trans e)
  ·rintro ⟨iq,jy,iL,jA⟩ o h
   unfold aU at h
   dsimp only at h
   refine gs<|g0 j j (q (oBi j j j j)<|nl)<|us<|gs<|gc h j ah (fun kQ h=>?_) fun kQ h=>?_
   ·refine Go.skip<|us<|gs<|Go.join (fun st=>∃yY,∃yZ,∃y5,dG self iq yY yZ y5=some o∧st.norm ([0,1,2,3,10,11,38,39],[0,1,11])=mk [(0,M 0),(1,H 1 0),(2,iv aW),(3,iv jq),(10,iv (bg.length:Int)),(11,H 11 0),(38,iv (s_0.iJ.length:Int)),(39,iv iq)] [(0,Od [C (W 1 (eL 1 eI) yY),Ct 1 (W 3 au yZ),C (I y5)]),(1,Oc [Z (W 1 eI bg)]),(11,Oc [Z (W 1 eI x33)])]) ?_ ?_
    ·rintro st ⟨yY,yZ,y5,h,hst⟩
     unfold dG at h
     refine us<|g2 c35 j j hst (q (oBi j j j j)<|q (oMv j j)<|nl)<|Unw.nil<|?_
     cases h
     exact ⟨j,(by kernel_rfl)⟩
    ·intro K44
     refine Go.block<|gs<|g0 j j (q (oMv j j)<|q (ae j j)<|nl)<|us<|gs<|gs<|?_
     obtain ⟨KX,TE,h⟩:=bs h
     refine gX c35 j j j (mk [(0,M 0),(1,H 1 0),(2,iv aW),(3,iv jq),(10,iv (bg.length:Int)),(11,H 11 0),(12,iv iq),(38,iv (s_0.iJ.length:Int)),(39,iv iq),(51,bv KX)] [(0,Od [C (W 1 (eL 1 eI) jy),Ct 1 (W 3 au iL),C (I jA)]),(1,Oc [Z (W 1 eI bg)]),(11,Oc [Z (W 1 eI x33)])]) ?_ ?_
     ·refine xq (oMv j j)<|xq (Hr j j lX j j j (fun e=>nomatch e))<|xq (oMv j j)<|xq (oBi j j j j)<|xq (oMv j j)<|?_
      refine ic TE (fun Il TE=>?_) fun Il TE=>?_
      ·obtain ⟨x49,adr,TE⟩:=bs TE
       cases TE
       exact xqT j j (ah.2 Il) (oMv j j)<|xqT j j (ah.2 Il) (oMv j j)<|xqT j j (ah.2 Il) (oCa (xs:=[.v false [.own 11 0 0],.v false [.im 0 _]]) (vs:=[(false,[.im 0 _])]) (v:=.v false [.im 0 _]) (xG adr) (.inl j) j VE j (ppC j (ppC j pp0)) j j pb0 j j j)<|xqT j j (ah.2 Il) (oUn j j j)<|xq (bG j j (ah.2 Il) j)<|xn
      ·cases TE
       exact aj j j (byF ah Il) j<|aj j j (byF ah Il) j<|aj j j (byF ah Il) j<|aj j j (byF ah Il) j<|xq (dP j j (byF ah Il) j)<|xn
     ·refine us<|gc h j iR (fun pM h=>?_) fun pM h=>?_
      ·exact Go.exit<|ux<|Unw.iU<|K44 _ ⟨jy,iL,jA,h,(by kernel_rfl)⟩
      ·refine Go.skip<|us<|gs<|g0 j j (q (ae j j)<|nl)<|us<|gs<|gs<|?_
       obtain ⟨x57,VM,h⟩:=bs h
       refine g0 j j (q (oMv j j)<|q (oNl j j j)<|q (oFA (r':=.mp 0 0 0) j XF j j)<|q (oLd (cs:=[.im 0 _]) j zo j j)<|q (oMv j j)<|q (gq j VM uG j j)<|q (oLd (cs:=[.im 0 _]) j oz j j)<|q (gJ j j lX j)<|q (oMv j j)<|nl)<|us<|Go.block<|?_
       obtain ⟨o,hl,h⟩:=bs h
       refine gl c35 j _ (fun (s:(Bool×Int))=>match s with | (xy,y7)=>mk [(0,M 0),(1,H 1 0),(2,iv aW),(3,iv jq),(10,iv (bg.length:Int)),(11,H 11 0),(12,iv iq),(13,bv xy),(38,iv (s_0.iJ.length:Int)),(39,iv iq),(58,D 0 (W 1 eI x57)),(59,iv (x57.length:Int)),(60,iv y7)] [(0,Od [C (W 1 (eL 1 eI) jy),Ct 1 (W 3 au iL),C (I jA)]),(1,Oc [Z (W 1 eI bg)]),(11,Oc [Z (W 1 eI x33)])]) (fun (sU:Bool) (p:Ex×St)=>p.1= .exit 2∧p.2.norm ([0,1,2,3,10,11,12,13,38,39],[0,1,11])=mk [(0,M 0),(1,H 1 0),(2,iv aW),(3,iv jq),(10,iv (bg.length:Int)),(11,H 11 0),(12,iv iq),(13,bv sU),(38,iv (s_0.iJ.length:Int)),(39,iv iq)] [(0,Od [C (W 1 (eL 1 eI) jy),Ct 1 (W 3 au iL),C (I jA)]),(1,Oc [Z (W 1 eI bg)]),(11,Oc [Z (W 1 eI x33)])]) hl (by kernel_rfl) ?_ ?_ ?_
       ·intro o p hp e
        exact nomatch (hp.1.symm.trans e)
       ·rintro ⟨xy,y7⟩ o h
        unfold gQ at h
        dsimp only at h
        refine gs<|g0 j j (q (oBi j j j j)<|nl)<|us<|gs<|gc h j ah (fun ahB h=>?_) fun ahB h=>?_
        ·refine Go.skip<|us<|gs<|Go.block<|gs<|?_
         obtain ⟨x62,adv,h⟩:=bs h
         refine g0 j j (q (gq j adv fP j j)<|q (oLd (cs:=[.im 0 _]) j tF2 j j)<|q (ae j j)<|nl)<|us<|?_
         obtain ⟨Du,DT,h⟩:=bs h
         refine gd c35 j j j j (mk [(0,M 0),(1,H 1 0),(2,iv aW),(3,iv jq),(10,iv (bg.length:Int)),(11,H 11 0),(12,iv iq),(13,bv Du),(38,iv (s_0.iJ.length:Int)),(39,iv iq),(58,D 0 (W 1 eI x57)),(59,iv (x57.length:Int)),(60,iv y7)] [(0,Od [C (W 1 (eL 1 eI) jy),Ct 1 (W 3 au iL),C (I jA)]),(1,Oc [Z (W 1 eI bg)]),(11,Oc [Z (W 1 eI x33)])]) ?_ ?_
         ·refine t j j (oMv j j)<|t j j (oMv j j)<|?_
          refine ic DT (fun FH DT=>?_) fun FH DT=>?_
          ·refine tT j j j j (iR.2 FH) (oMv j j)<|tT j j j j (iR.2 FH) (oMv j j)<|tT j j j j (iR.2 FH) (oBi j j j j)<|tT j j j j (iR.2 FH) (oMv j j)<|?_
           refine ic DT (fun nI DT=>?_) fun nI DT=>?_
           ·cases DT
            exact tF j j j j (ah.2 nI) j<|tF j j j j (ah.2 nI) j<|tF j j j j (ah.2 nI) j<|tF j j j j (ah.2 nI) j<|tF j j j j (ah.2 nI) j<|tF j j j j (ah.2 nI) j<|tF j j j j (ah.2 nI) j<|tF j j j j (ah.2 nI) j<|tF j j j j (ah.2 nI) j<|tF j j j j (ah.2 nI) j<|tF j j j j (ah.2 nI) j<|tF j j j j (ah.2 nI) j<|tF j j j j (ah.2 nI) j<|tF j j j j (ah.2 nI) j<|tF j j j j (ah.2 nI) j<|tF j j j j (ah.2 nI) j<|tF j j j j (ah.2 nI) j<|tF j j j j (ah.2 nI) j<|sS (dF j j j (ah.2 nI) j) trivial (tF j j j j (ah.2 nI) j<|tT j j j j (iR.2 FH) (bG j j (ah.2 nI) j)<|t j j (bG j j (iR.2 FH) j)<|sS (dN z35 j (ae j j)) trivial (sD (by kernel_rfl)))
           ·obtain ⟨x75,adB,DT⟩:=bs DT
            obtain ⟨x83,VK,DT⟩:=bs DT
            obtain ⟨x85,X4,DT⟩:=bs DT
            obtain ⟨x87,adz,DT⟩:=bs DT
            cases DT
            exact tT j j j j (byF ah nI) (oMv j j)<|tT j j j j (byF ah nI) (oNl j j j)<|tT j j j j (byF ah nI) (oFA (r':=.mp 0 0 1) j SS j j)<|tT j j j j (byF ah nI) (oLd (cs:=[.im 1 _]) j ado j j)<|tT j j j j (byF ah nI) (oMv j j)<|tT j j j j (byF ah nI) (gq j adB Ic j j)<|tT j j j j (byF ah nI) (oLd (cs:=[.im 1 _,.im 1 _,.im 1 _]) j DD j j)<|tT j j j j (byF ah nI) (oMv j j)<|tT j j j j (byF ah nI) (oNl j j j)<|tT j j j j (byF ah nI) (oFA (r':=.mp 0 0 1) j SS j j)<|tT j j j j (byF ah nI) (oLd (cs:=[.im 1 _]) j ado j j)<|tT j j j j (byF ah nI) (oMv j j)<|tT j j j j (byF ah nI) (oMv j j)<|tT j j j j (byF ah nI) (Am j VK fP j j j j)<|tT j j j j (byF ah nI) (IZ (cs:=[.im 0 _]) j tF2 j j j j (fA VK) j j)<|tT j j j j (byF ah nI) (gq j X4 Ic j j)<|tT j j j j (byF ah nI) (oLd (cs:=[.im 1 _,.im 1 _,.im 1 _]) j DD j j)<|tT j j j j (byF ah nI) (oMv j j)<|sS (dT z35 j j j (byF ah nI) (oCa (xs:=[.v true [.im 1 _,.im 1 _,.im 1 _],.v true [.im 1 _,.im 1 _,.im 1 _]]) (vs:=[(false,[.im 0 _])]) (v:=.v false [.im 0 _]) (Jo adz) (.inl j) j Tj j (ppC j (ppC j pp0)) j j pb0 j j j)) trivial (tT j j j j (byF ah nI) (oBi j j j j)<|tT j j j j (iR.2 FH) (dP j j (byF ah nI) j)<|t j j (bG j j (iR.2 FH) j)<|sS (dN z35 j (ae j j)) trivial (sD (by kernel_rfl)))
          ·cases DT
           exact tF j j j j (byF iR FH) j<|tF j j j j (byF iR FH) j<|tF j j j j (byF iR FH) j<|tF j j j j (byF iR FH) j<|sT j (dU j j j j)<|sT j (dU j j j j)<|sT j (dU j j j j)<|sT j (dU j j j j)<|sT j (dU j j j j)<|sT j (dU j j j j)<|sT j (dU j j j j)<|sT j (dU j j j j)<|sT j (dU j j j j)<|sT j (dU j j j j)<|sT j (dU j j j j)<|sT j (dU j j j j)<|sT j (dU j j j j)<|sT j (dU j j j j)<|sT j (dU j j j j)<|sT j (dU j j j j)<|sT j (dU j j j j)<|sT j (dU j j j j)<|sS (dU j j j j) trivial (sT j (dU j j j j)<|tF j j j j (byF iR FH) j<|t j j (dP j j (byF iR FH) j)<|sS (dN z35 j (ae j j)) trivial (sD (by kernel_rfl)))
         ·refine Unw.blk<|us<|g0 j j (q (oBi j j j j)<|q (oMv j j)<|nl)<|Unw.nil<|?_
          cases h
          exact ⟨j,(by kernel_rfl)⟩
        ·refine Go.exit<|ux<|Unw.nil<|?_
         cases h
         exact ⟨j,(by kernel_rfl)⟩
       ·rintro ⟨e,st⟩ hp
        obtain ⟨sU,rfl⟩:∃y,y=o:=⟨o,rfl⟩
        obtain ⟨he,hst⟩:=hp
        obtain rfl:e= .exit 2:=he
        refine Unw.iU<|us<|gs<|gs<|g2 c35 j j hst (q (oMv j j)<|q (oUn j j j)<|nl)<|us<|?_
        by_cases VL:sU=true
        ·rw [if_pos VL] at h
         refine gF j (nF (iR.2 VL))<|Go.skip<|us<|gs<|gs<|g0 j j (q (oMv j j)<|q (oNl j j j)<|q (oFA (r':=.mp 0 0 2) j SX j j)<|q (oLd (cs:=[.im 0 _]) j tF2 j j)<|q (oBi j j j j)<|nl)<|us<|gc h j iEq (fun ahC h=>?_) fun ahC h=>?_
         ·refine gs<|g0 j j (q (vG j j E5)<|q (ae j j)<|nl)<|us<|Go.ret (Unw.ret ?_)
          cases h
          exact ⟨j,(fo abb j)⟩
         ·refine Go.skip<|us<|gs<|g0 j j (q (oMv j j)<|q (oNl j j j)<|q (oFA (r':=.mp 0 0 2) j SX j j)<|q (oLd (cs:=[.im 0 _]) j tF2 j j)<|q (oBi j j j j)<|q (oNl j j j)<|q (oFA (r':=.mp 0 0 2) j SX j j)<|q (oSt tF2 j j j (tkI tk0) j j j)<|nl)<|us<|gs<|?_
          obtain ⟨aev,afl,h⟩:=bs h
          obtain ⟨x113,hx113,h⟩:=bs h
          obtain ⟨sV,afm,h⟩:=bs h
          refine g1 j j (mk [(0,M 0),(1,H 1 0),(2,iv aW),(3,iv jq),(10,iv (bg.length:Int)),(11,H 11 0),(12,iv iq),(38,iv (s_0.iJ.length:Int)),(39,iv iq)] [(0,Od [C (W 1 (eL 1 eI) jy),Ct 1 (W 3 au iL),C (I (w64 (jA - 1)))]),(1,Oc [Z (W 1 eI bg)]),(11,Oc [Z (W 1 eI x33)])]) (q (oMv j j)<|q (oMv j j)<|q (oCr (xs:=[.v false [.own 1 0 0]]) (vs:=[(false,[.own 110 0 0])]) (v:=.v false [.own 110 0 0]) (c:=⟨.sh,0,_⟩) (cs:=[]) (NJ (en:=eI) (L:=bg) j afl (fun _=>j)) (.inl j) j UJ j (ppC j pp0) j j pb0 j j j)<|q (oMv j j)<|q (oBS (es:=List.map eI ([iq]:List Int)) j fP j (ptC j (fxI fx0) j pt0) (eG j fun _=>j))<|q (EU (en:=eI) (M:=([iq]:List Int)) j hx113 j fP j j lX (.inl ⟨_,j⟩) j j j j (kJ j j) (eG j fun _=>j))<|q (oMv j j)<|q (oMv j j)<|q (oCr (xs:=[.v false [.mp 0 0 0],.v false [.own 113 0 0],.v false [.im 0 _],.v false [.im 0 _]]) (vs:=[(false,[.own 116 0 0]),(false,[.im 0 _])]) (v:=.tup [(false,[.own 116 0 0]),(false,[.im 0 _])]) (c:=⟨.sh,0,_⟩) (cs:=[]) (ih afm) (.inl j) j Dy j (ppP j j j (ppM (Ak j j) (ppC j (ppC j pp0)))) j j (pbP j j pb0) j j j)<|q (Md j j)<|q (oEx j j j)<|q (oEx j j j)<|q (jX j j j j j)<|q (ae j j)<|nl)<|us<|gs<|g1 j j (mk [(0,M 0),(1,H 1 0),(2,iv aW),(3,iv jq),(10,iv (bg.length:Int)),(11,H 11 0),(16,H 16 0),(17,iv sV.2.1),(38,iv (s_0.iJ.length:Int)),(39,iv iq)] [(0,Od [C (W 1 (eL 1 eI) sV.2.2.near),Ct 1 (W 3 au sV.2.2.iJ),C (I sV.2.2.left)]),(1,Oc [Z (W 1 eI bg)]),(11,Oc [Z (W 1 eI x33)]),(16,Oc [Z (W 1 eI sV.1)])]) (q (oMv j j)<|q (oBi j j j j)<|nl)<|us<|gc h j iNe (fun ahD h=>?_) fun ahD h=>?_
          ·refine gs<|g0 j j (q (oMv j j)<|q (oMv j j)<|q (jX j j j j j)<|q (ae j j)<|nl)<|us<|Go.ret (Unw.ret ?_)
           cases h
           exact ⟨j,(fo abb j)⟩
          ·exact Go.skip<|Unw.blk<|K44 _ ⟨sV.2.2.near,sV.2.2.iJ,sV.2.2.left,h,(by kernel_rfl)⟩
        ·rw [if_neg VL] at h
         exact gT j (nT (byF iR VL))<|Go.exit<|ux<|Unw.iU<|K44 _ ⟨jy,iL,jA,h,(by kernel_rfl)⟩
   ·refine Go.exit<|ux<|Unw.nil<|?_
    cases h
    exact ⟨j,(by kernel_rfl)⟩
  ·rintro ⟨e,st⟩ hp
   rcases o with ⟨xA,xB,xC⟩ | r2
   ·dsimp only at h
    obtain ⟨he,hst⟩:=hp
    obtain rfl:e= .exit 0:=he
    refine Unw.iU<|us<|gs<|g2 c35 j j hst (q (vG j j E5)<|q (ae j j)<|nl)<|us<|Go.ret (Unw.ret ?_)
    cases h
    exact fr abb j
   ·dsimp only at h
    obtain ⟨he,hfin⟩:=hp
    obtain rfl:e= .ret:=he
    cases h
    exact Unw.ret (fO hfin)
theorem BZ {s_0:aO} {bg:(List Int)} {aW:Int} {jq:Int} {r:((List Int)×Int×aO)} (h:gy s_0 bg aW jq=some r):FX 35 [.ptr true [(.gone,W 1 (eL 1 eI) s_0.near),(.imm,W 3 au s_0.iJ),(.imm,I s_0.left)],.mv 1 (List.map eI bg),.im 2 false [I aW],.im 2 false [I jq]] ([(false,[.ow 0 1 (List.map eI r.1)]),(false,[.im 0 (I r.2.1)])],[.ptr true [(.gone,W 1 (eL 1 eI) r.2.2.near),(.imm,W 3 au r.2.2.iJ),(.imm,I r.2.2.left)]]):=by
 unfold gy at h
 obtain ⟨n,hn⟩:=Aj h
 clear h
 induction n generalizing s_0 bg aW jq r with
 | zero=>cases hn
 | succ n ihn=>exact zW (self:=wO _ n) (fun h=>ihn h) hn
theorem xU {d_0:aA} {aK:(List ai)} {nV:Int} {r:((List Int)×Int×Int)} (h:kG d_0 aK nV=some r):FX 20 [.im 2 true (ak d_0),.im 2 false [W 3 au aK],.im 2 false [I nV]] (B0 [(false,[.ow 0 1 (List.map eI r.1)]),(false,[.im 0 (I r.2.1)]),(false,[.im 0 (I r.2.2)])]):=by
 unfold kG at h
 refine gn 46 Tryz.func20 rfl ?_
 refine gs<|g0 j j (q (oBx j AZ j (tkI (tkI (tkI (tkI tk0)))))<|q (vG j j E5)<|q (ae j j)<|q (ae j j)<|nl)<|us<|gs<|gs<|?_
 obtain ⟨x17,Lp,h⟩:=bs h
 refine g0 j j (q (oLd (cs:=[.im 0 _,.im 0 _,.im 2 _,.im 2 _]) j AZ j j)<|q (oMv j j)<|q (oMv j j)<|q (oCa (xs:=[.v true [.im 0 _,.im 0 _,.im 2 _,.im 2 _],.v false [.im 2 _],.v false [.im 0 _],.v false [.im 2 _]]) (vs:=[(false,[.im 0 _])]) (v:=.v false [.im 0 _]) (Ep Lp) (.inl j) j Lc j (ppC j (ppC j (ppC j (ppC j pp0)))) j j pb0 j j j)<|q (ae j j)<|nl)<|us<|gs<|g0 j j (q (oMv j j)<|q (oBi j j j j)<|nl)<|us<|gc h j iNe (fun hc1 h=>?_) fun hc1 h=>?_
 ·refine gs<|g0 j j (q (oMv j j)<|q (vG j j E5)<|q (ae j j)<|q (ae j j)<|nl)<|us<|Go.ret (Unw.ret ?_)
  cases h
  exact fr aa9 j
 ·refine Go.skip<|us<|gs<|?_
  obtain ⟨x22,Gy,h⟩:=bs h
  refine g0 j j (q (oLd (cs:=[.im 0 _,.im 0 _,.im 2 _,.im 2 _]) j AZ j j)<|q (oCa (xs:=[.v true [.im 0 _,.im 0 _,.im 2 _,.im 2 _]]) (vs:=[(false,[.im 0 _])]) (v:=.v false [.im 0 _]) (GI Gy) (.inl j) j aaP j (ppC j pp0) j j pb0 j j j)<|q (oMv j j)<|q (oMv j j)<|q (oBu (cs:=[.im 0 _,.im 2 _,.im 2 _]) j agu j)<|q (oBx j ahf j (tkI (tkI (tkI tk0))))<|q (Y0 j j)<|nl)<|us<|gs<|gs<|g0 j j (q (ae j j)<|nl)<|us<|Go.block<|?_
  obtain ⟨o,hl,h⟩:=bs h
  refine gl c20 j _ (fun (s:(Int×(List (List Int))×(List ai)×Int))=>match s with | (oD,BJ,BK,BL)=>mk [(1,D 2 (W 3 au aK)),(10,M 26),(11,iv oD)] [(26,Oa [C (W 1 (eL 1 eI) BJ),Ct 2 (W 3 au BK),C (I BL)])]) (fun (o:(Unit ⊕ ((List Int)×Int×Int))) (p:Ex×St)=>match o with | (.inl _)=>p.1= .exit 0∧p.2.norm ([],[])=mk [] [] | (.inr r2)=>p.1= .ret∧fin Tryz.prog cfg 20 Tryz.f20 [.im 2 true (ak d_0),.im 2 false [W 3 au aK],.im 2 false [I nV]] p.2=some (B0 [(false,[.ow 0 1 (List.map eI r2.1)]),(false,[.im 0 (I r2.2.1)]),(false,[.im 0 (I r2.2.2)])])) hl (by kernel_rfl) ?_ ?_ ?_
  ·intro o p hp e
   rcases o with u | r2<;>exact nomatch (hp.1.symm.trans e)
  ·rintro ⟨oD,BJ,BK,BL⟩ o h
   unfold bC at h
   dsimp only at h
   refine gs<|gs<|g0 j j (q (oMv j j)<|q (oBi j j j j)<|nl)<|us<|gc h j ah (fun hc8 h=>?_) fun hc8 h=>?_
   ·refine Go.skip<|us<|gs<|Go.block<|gs<|?_
    obtain ⟨x36,Ba,h⟩:=bs h
    refine g0 j j (q (oMv j j)<|q (oMv j j)<|q (oMv j j)<|q (gJ j j Gw j)<|q (oCr (xs:=[.v false [.mp 26 0 0],.v false [.nil],.v false [.im 0 _],.v false [.im 0 _]]) (vs:=[(false,[.own 36 0 0]),(false,[.im 0 _])]) (v:=.tup [(false,[.own 36 0 0]),(false,[.im 0 _])]) (c:=⟨.sh,0,_⟩) (cs:=[]) (BZ Ba) (.inl j) j Dy j (ppP j j j (ppM take_nil (ppC j (ppC j pp0)))) j j (pbP j j pb0) j j j)<|q (Md j j)<|q (oEx j j j)<|q (oEx j j j)<|q (jX j j j j j)<|q (ae j j)<|nl)<|us<|gs<|gs<|g1 j j (mk [(1,D 2 (W 3 au aK)),(10,M 26),(11,iv oD),(12,H 12 0),(13,iv x36.2.1)] [(12,Oc [Z (W 1 eI x36.1)]),(26,Oa [C (W 1 (eL 1 eI) x36.2.2.near),Ct 2 (W 3 au x36.2.2.iJ),C (I x36.2.2.left)])]) (q (oMv j j)<|q (oBi j j j j)<|nl)<|us<|gc h j iEq (fun hc9 h=>?_) fun hc9 h=>?_
    ·refine gs<|g0 j j (q (oMv j j)<|q (oMv j j)<|q (jX j j j j j)<|q (ae j j)<|q (ae j j)<|nl)<|us<|Go.ret (Unw.ret ?_)
     cases h
     exact ⟨j,(fo aa9 j)⟩
    ·refine Go.skip<|us<|gs<|g0 j j (q (oMv j j)<|q (oBi j j j j)<|nl)<|us<|gc h j iNe (fun Fj h=>?_) fun Fj h=>?_
     ·refine gs<|g0 j j (q (oMv j j)<|q (vG j j E5)<|q (ae j j)<|q (ae j j)<|nl)<|us<|Go.ret (Unw.ret ?_)
      cases h
      exact ⟨j,(fo aa9 j)⟩
     ·refine Go.skip<|Unw.blk<|us<|g0 j j (q (oMv j j)<|q (oBi j j j j)<|q (ae j j)<|nl)<|Unw.nil<|?_
      cases h
      exact ⟨j,(by kernel_rfl)⟩
   ·refine Go.exit<|ux<|Unw.nil<|?_
    cases h
    exact ⟨j,(by kernel_rfl)⟩
  ·rintro ⟨e,st⟩ hp
   rcases o with u | r2
   ·dsimp only at h
    obtain ⟨he,hst⟩:=hp
    obtain rfl:e= .exit 0:=he
    refine Unw.iU<|us<|gs<|g2 c20 j j hst (q (vG j j E5)<|q (ae j j)<|q (ae j j)<|nl)<|us<|Go.ret (Unw.ret ?_)
    cases h
    exact fr aa9 j
   ·dsimp only at h
    obtain ⟨he,hfin⟩:=hp
    obtain rfl:e= .ret:=he
    cases h
    exact Unw.ret (fO hfin)
theorem tJ {a_0:(List Int)} {b_1:(List Int)} {r:Bool} (h:jl a_0 b_1=some r):FX 12 [.im 2 false [W 1 eI a_0],.im 2 false [W 1 eI b_1]] (B0 [(false,[.im 0 (V r)])]):=by
 unfold jl at h
 refine gn 26 Tryz.func12 rfl ?_
 refine gs<|g0 j j (q (ae j j)<|nl)<|us<|gs<|gs<|g0 j j (q (oMv j j)<|q (gJ j j lX j)<|q (oMv j j)<|q (gJ j j lX j)<|q (oBi j j j j)<|nl)<|us<|gc h j iNe (fun hc1 h=>?_) fun hc1 h=>?_
 ·refine gs<|g0 j j (q (ae j j)<|nl)<|us<|Go.ret (Unw.ret ?_)
  cases h
  exact fr ac8 j
 ·refine Go.skip<|us<|gs<|gs<|g0 j j (q (ae j j)<|nl)<|us<|Go.block<|?_
  obtain ⟨o,hl,h⟩:=bs h
  refine gl c12 j _ (fun (iG:Int)=>mk [(0,D 2 (W 1 eI a_0)),(1,D 2 (W 1 eI b_1)),(5,iv iG)] []) (fun (o:(Unit ⊕ Bool)) (p:Ex×St)=>match o with | (.inl _)=>p.1= .exit 0∧p.2.norm ([],[])=mk [] [] | (.inr r2)=>p.1= .ret∧fin Tryz.prog cfg 12 Tryz.f12 [.im 2 false [W 1 eI a_0],.im 2 false [W 1 eI b_1]] p.2=some (B0 [(false,[.im 0 (V r2)])])) hl (by kernel_rfl) ?_ ?_ ?_
  ·intro o p hp e
   rcases o with u | r2<;>exact nomatch (hp.1.symm.trans e)
  ·rintro iG o h
   unfold lg at h
   refine gs<|gs<|g0 j j (q (oMv j j)<|q (oMv j j)<|q (gJ j j lX j)<|q (oBi j j j j)<|nl)<|us<|gc h j ah (fun hc6 h=>?_) fun hc6 h=>?_
   ·refine Go.skip<|us<|gs<|Go.block<|gs<|?_
    obtain ⟨x19,yw,h⟩:=bs h
    obtain ⟨x23,zq,h⟩:=bs h
    refine gd c12 j j j j (mk [(0,D 2 (W 1 eI a_0)),(1,D 2 (W 1 eI b_1)),(5,iv iG),(25,bv (x19 != x23))] []) (t j j (oMv j j)<|t j j (oMv j j)<|t j j (gq j yw fP j j)<|t j j (oLd (cs:=[.im 2 _]) j tF2 j j)<|t j j (oMv j j)<|t j j (oMv j j)<|t j j (gq j zq fP j j)<|t j j (oLd (cs:=[.im 2 _]) j tF2 j j)<|t j j (oBi j j j j)<|sD (by kernel_rfl))<|us<|gc h j iNe (fun hc7 h=>?_) fun hc7 h=>?_
    ·refine gs<|g0 j j (q (ae j j)<|nl)<|us<|Go.ret (Unw.ret ?_)
     cases h
     exact ⟨j,(fo ac8 j)⟩
    ·refine Go.skip<|Unw.blk<|us<|g0 j j (q (oMv j j)<|q (oBi j j j j)<|q (ae j j)<|nl)<|Unw.nil<|?_
     cases h
     exact ⟨j,(by kernel_rfl)⟩
   ·refine Go.exit<|ux<|Unw.nil<|?_
    cases h
    exact ⟨j,(by kernel_rfl)⟩
  ·rintro ⟨e,st⟩ hp
   rcases o with u | r2
   ·dsimp only at h
    obtain ⟨he,hst⟩:=hp
    obtain rfl:e= .exit 0:=he
    refine Unw.iU<|us<|gs<|g2 c12 j j hst (q (ae j j)<|nl)<|us<|Go.ret (Unw.ret ?_)
    cases h
    exact fr ac8 j
   ·dsimp only at h
    obtain ⟨he,hfin⟩:=hp
    obtain rfl:e= .ret:=he
    cases h
    exact Unw.ret (fO hfin)
theorem LH {a_0:af} {b_1:af} {r:Bool} (h:vz a_0 b_1=some r):FX 64 [.im 2 true (aF a_0),.im 2 true (aF b_1)] (B0 [(false,[.im 0 (V r)])]):=by
 unfold vz at h
 refine gn 15 Tryz.func64 rfl ?_
 refine gs<|g0 j j (q (oBx j aJ j (tkI (tkI tk0)))<|q (oBx j aJ j (tkI (tkI tk0)))<|q (ae j j)<|nl)<|us<|gs<|gs<|g0 j j (q (oFA (r':=.mp 2 0 0) j iI j j)<|q (oLd (cs:=[.im 0 _]) j tF2 j j)<|q (oFA (r':=.mp 3 0 0) j iI j j)<|q (oLd (cs:=[.im 0 _]) j tF2 j j)<|q (oBi j j j j)<|nl)<|us<|gc h j iNe (fun hc1 h=>?_) fun hc1 h=>?_
 ·refine gs<|g0 j j (q (ae j j)<|nl)<|us<|Go.ret (Unw.ret ?_)
  cases h
  exact fr adk j
 ·refine Go.skip<|us<|gs<|gs<|g0 j j (q (oFA (r':=.mp 2 0 1) j jd j j)<|q (oLd (cs:=[.im 0 _]) j tF2 j j)<|q (oFA (r':=.mp 3 0 1) j jd j j)<|q (oLd (cs:=[.im 0 _]) j tF2 j j)<|q (oBi j j j j)<|nl)<|us<|gc h j iNe (fun hc2 h=>?_) fun hc2 h=>?_
  ·refine gs<|g0 j j (q (ae j j)<|nl)<|us<|Go.ret (Unw.ret ?_)
   cases h
   exact fr adk j
  ·refine Go.skip<|us<|gs<|g0 j j (q (ae j j)<|nl)<|us<|Go.ret (Unw.ret ?_)
   cases h
   exact fr adk j
theorem Jp {a_0:(List af)} {b_1:(List af)} {r:Bool} (h:sW a_0 b_1=some r):FX 36 [.im 2 false [W 2 az a_0],.im 2 false [W 2 az b_1]] (B0 [(false,[.im 0 (V r)])]):=by
 unfold sW at h
 refine gn 27 Tryz.func36 rfl ?_
 refine gs<|g0 j j (q (ae j j)<|nl)<|us<|gs<|gs<|g0 j j (q (oMv j j)<|q (gJ j j zT j)<|q (oMv j j)<|q (gJ j j zT j)<|q (oBi j j j j)<|nl)<|us<|gc h j iNe (fun hc1 h=>?_) fun hc1 h=>?_
 ·refine gs<|g0 j j (q (ae j j)<|nl)<|us<|Go.ret (Unw.ret ?_)
  cases h
  exact fr adg j
 ·refine Go.skip<|us<|gs<|gs<|g0 j j (q (ae j j)<|nl)<|us<|Go.block<|?_
  obtain ⟨o,hl,h⟩:=bs h
  refine gl c36 j _ (fun (iG:Int)=>mk [(0,D 2 (W 2 az a_0)),(1,D 2 (W 2 az b_1)),(5,iv iG)] []) (fun (o:(Unit ⊕ Bool)) (p:Ex×St)=>match o with | (.inl _)=>p.1= .exit 0∧p.2.norm ([],[])=mk [] [] | (.inr r2)=>p.1= .ret∧fin Tryz.prog cfg 36 Tryz.f36 [.im 2 false [W 2 az a_0],.im 2 false [W 2 az b_1]] p.2=some (B0 [(false,[.im 0 (V r2)])])) hl (by kernel_rfl) ?_ ?_ ?_
  ·intro o p hp e
   rcases o with u | r2<;>exact nomatch (hp.1.symm.trans e)
  ·rintro iG o h
   unfold qY at h
   refine gs<|gs<|g0 j j (q (oMv j j)<|q (oMv j j)<|q (gJ j j zT j)<|q (oBi j j j j)<|nl)<|us<|gc h j ah (fun hc6 h=>?_) fun hc6 h=>?_
   ·refine Go.skip<|us<|gs<|Go.block<|gs<|?_
    obtain ⟨x19,yw,h⟩:=bs h
    obtain ⟨x23,zq,h⟩:=bs h
    obtain ⟨x25,hx25,h⟩:=bs h
    refine gd c36 j j j j (mk [(0,D 2 (W 2 az a_0)),(1,D 2 (W 2 az b_1)),(5,iv iG),(26,bv (!x25))] []) (t j j (oMv j j)<|t j j (oMv j j)<|t j j (gq j yw pK j j)<|t j j (oLd (cs:=[.im 2 _,.im 2 _]) j aJ j j)<|t j j (oMv j j)<|t j j (oMv j j)<|t j j (gq j zq pK j j)<|t j j (oLd (cs:=[.im 2 _,.im 2 _]) j aJ j j)<|sS (dN z36 j (oCa (xs:=[.v true [.im 2 _,.im 2 _],.v true [.im 2 _,.im 2 _]]) (vs:=[(false,[.im 0 _])]) (v:=.v false [.im 0 _]) (LH hx25) (.inl j) j Tm j (ppC j (ppC j pp0)) j j pb0 j j j)) trivial (t j j (oUn j j j)<|sD (by kernel_rfl)))<|us<|?_
    by_cases hc7:x25=true
    ·rw [if_pos hc7] at h
     refine gF j (nF (iR.2 hc7))<|Go.skip<|Unw.blk<|us<|g0 j j (q (oMv j j)<|q (oBi j j j j)<|q (ae j j)<|nl)<|Unw.nil<|?_
     cases h
     exact ⟨j,(by kernel_rfl)⟩
    ·rw [if_neg hc7] at h
     refine gT j (nT (byF iR hc7))<|gs<|g0 j j (q (ae j j)<|nl)<|us<|Go.ret (Unw.ret ?_)
     cases h
     exact ⟨j,(fo adg j)⟩
   ·refine Go.exit<|ux<|Unw.nil<|?_
    cases h
    exact ⟨j,(by kernel_rfl)⟩
  ·rintro ⟨e,st⟩ hp
   rcases o with u | r2
   ·dsimp only at h
    obtain ⟨he,hst⟩:=hp
    obtain rfl:e= .exit 0:=he
    refine Unw.iU<|us<|gs<|g2 c36 j j hst (q (ae j j)<|nl)<|us<|Go.ret (Unw.ret ?_)
    cases h
    exact fr adg j
   ·dsimp only at h
    obtain ⟨he,hfin⟩:=hp
    obtain rfl:e= .ret:=he
    cases h
    exact Unw.ret (fO hfin)
theorem MO {a_0:dn} {b_1:dn} {r:Bool} (h:xE a_0 b_1=some r):FX 65 [.im 2 true (vF a_0),.im 2 true (vF b_1)] (B0 [(false,[.im 0 (V r)])]):=by
 unfold xE at h
 refine gn 16 Tryz.func65 rfl ?_
 refine gs<|g0 j j (q (oBx j Fb j (tkI (tkI tk0)))<|q (oBx j Fb j (tkI (tkI tk0)))<|q (ae j j)<|nl)<|us<|gs<|gs<|g0 j j (q (oFA (r':=.mp 2 0 0) j zS j j)<|q (oLd (cs:=[.im 0 _]) j tF9 j j)<|q (oFA (r':=.mp 3 0 0) j zS j j)<|q (oLd (cs:=[.im 0 _]) j tF9 j j)<|q (oBi j j j j)<|nl)<|us<|gc h j (Y4 zK) (fun hc1 h=>?_) fun hc1 h=>?_
 ·refine gs<|g0 j j (q (ae j j)<|nl)<|us<|Go.ret (Unw.ret ?_)
  cases h
  exact fr adl j
 ·refine Go.skip<|us<|gs<|gs<|?_
  obtain ⟨x14,vH,h⟩:=bs h
  refine g0 j j (q (oFA (r':=.mp 2 0 1) j BN j j)<|q (oLd (cs:=[.im 2 _]) j oz j j)<|q (oFA (r':=.mp 3 0 1) j BN j j)<|q (oLd (cs:=[.im 2 _]) j oz j j)<|q (oCa (xs:=[.v false [.im 2 _],.v false [.im 2 _]]) (vs:=[(false,[.im 0 _])]) (v:=.v false [.im 0 _]) (tJ vH) (.inl j) j BO j (ppC j (ppC j pp0)) j j pb0 j j j)<|q (oUn j j j)<|nl)<|us<|?_
  by_cases hc2:x14=true
  ·rw [if_pos hc2] at h
   refine gF j (nF (iR.2 hc2))<|Go.skip<|us<|gs<|g0 j j (q (ae j j)<|nl)<|us<|Go.ret (Unw.ret ?_)
   cases h
   exact fr adl j
  ·rw [if_neg hc2] at h
   refine gT j (nT (byF iR hc2))<|gs<|g0 j j (q (ae j j)<|nl)<|us<|Go.ret (Unw.ret ?_)
   cases h
   exact fr adl j
theorem LJ {a_0:(List dn)} {b_1:(List dn)} {r:Bool} (h:vC a_0 b_1=some r):FX 37 [.im 2 false [W 2 bQ a_0],.im 2 false [W 2 bQ b_1]] (B0 [(false,[.im 0 (V r)])]):=by
 unfold vC at h
 refine gn 27 Tryz.func37 rfl ?_
 refine gs<|g0 j j (q (ae j j)<|nl)<|us<|gs<|gs<|g0 j j (q (oMv j j)<|q (gJ j j I5 j)<|q (oMv j j)<|q (gJ j j I5 j)<|q (oBi j j j j)<|nl)<|us<|gc h j iNe (fun hc1 h=>?_) fun hc1 h=>?_
 ·refine gs<|g0 j j (q (ae j j)<|nl)<|us<|Go.ret (Unw.ret ?_)
  cases h
  exact fr adh j
 ·refine Go.skip<|us<|gs<|gs<|g0 j j (q (ae j j)<|nl)<|us<|Go.block<|?_
  obtain ⟨o,hl,h⟩:=bs h
  refine gl c37 j _ (fun (iG:Int)=>mk [(0,D 2 (W 2 bQ a_0)),(1,D 2 (W 2 bQ b_1)),(5,iv iG)] []) (fun (o:(Unit ⊕ Bool)) (p:Ex×St)=>match o with | (.inl _)=>p.1= .exit 0∧p.2.norm ([],[])=mk [] [] | (.inr r2)=>p.1= .ret∧fin Tryz.prog cfg 37 Tryz.f37 [.im 2 false [W 2 bQ a_0],.im 2 false [W 2 bQ b_1]] p.2=some (B0 [(false,[.im 0 (V r2)])])) hl (by kernel_rfl) ?_ ?_ ?_
  ·intro o p hp e
   rcases o with u | r2<;>exact nomatch (hp.1.symm.trans e)
  ·rintro iG o h
   unfold tH at h
   refine gs<|gs<|g0 j j (q (oMv j j)<|q (oMv j j)<|q (gJ j j I5 j)<|q (oBi j j j j)<|nl)<|us<|gc h j ah (fun hc6 h=>?_) fun hc6 h=>?_
   ·refine Go.skip<|us<|gs<|Go.block<|gs<|?_
    obtain ⟨x19,yw,h⟩:=bs h
    obtain ⟨x23,zq,h⟩:=bs h
    obtain ⟨x25,hx25,h⟩:=bs h
    refine gd c37 j j j j (mk [(0,D 2 (W 2 bQ a_0)),(1,D 2 (W 2 bQ b_1)),(5,iv iG),(26,bv (!x25))] []) (t j j (oMv j j)<|t j j (oMv j j)<|t j j (gq j yw Fa j j)<|t j j (oLd (cs:=[.im 2 _,.im 2 _]) j Fb j j)<|t j j (oMv j j)<|t j j (oMv j j)<|t j j (gq j zq Fa j j)<|t j j (oLd (cs:=[.im 2 _,.im 2 _]) j Fb j j)<|sS (dN z37 j (oCa (xs:=[.v true [.im 2 _,.im 2 _],.v true [.im 2 _,.im 2 _]]) (vs:=[(false,[.im 0 _])]) (v:=.v false [.im 0 _]) (MO hx25) (.inl j) j Tn j (ppC j (ppC j pp0)) j j pb0 j j j)) trivial (t j j (oUn j j j)<|sD (by kernel_rfl)))<|us<|?_
    by_cases hc7:x25=true
    ·rw [if_pos hc7] at h
     refine gF j (nF (iR.2 hc7))<|Go.skip<|Unw.blk<|us<|g0 j j (q (oMv j j)<|q (oBi j j j j)<|q (ae j j)<|nl)<|Unw.nil<|?_
     cases h
     exact ⟨j,(by kernel_rfl)⟩
    ·rw [if_neg hc7] at h
     refine gT j (nT (byF iR hc7))<|gs<|g0 j j (q (ae j j)<|nl)<|us<|Go.ret (Unw.ret ?_)
     cases h
     exact ⟨j,(fo adh j)⟩
   ·refine Go.exit<|ux<|Unw.nil<|?_
    cases h
    exact ⟨j,(by kernel_rfl)⟩
  ·rintro ⟨e,st⟩ hp
   rcases o with u | r2
   ·dsimp only at h
    obtain ⟨he,hst⟩:=hp
    obtain rfl:e= .exit 0:=he
    refine Unw.iU<|us<|gs<|g2 c37 j j hst (q (ae j j)<|nl)<|us<|Go.ret (Unw.ret ?_)
    cases h
    exact fr adh j
   ·dsimp only at h
    obtain ⟨he,hfin⟩:=hp
    obtain rfl:e= .ret:=he
    cases h
    exact Unw.ret (fO hfin)
theorem Iw {a_0:aA} {b_1:aA} {r:Bool} (h:qH a_0 b_1=some r):FX 13 [.im 2 true (ak a_0),.im 2 true (ak b_1)] (B0 [(false,[.im 0 (V r)])]):=by
 unfold qH at h
 refine gn 27 Tryz.func13 rfl ?_
 refine gs<|g0 j j (q (oBx j AZ j (tkI (tkI (tkI (tkI tk0)))))<|q (oBx j AZ j (tkI (tkI (tkI (tkI tk0)))))<|q (ae j j)<|nl)<|us<|gs<|gs<|g0 j j (q (oFA (r':=.mp 2 0 0) j E8 j j)<|q (oLd (cs:=[.im 0 _]) j tF2 j j)<|q (oFA (r':=.mp 3 0 0) j E8 j j)<|q (oLd (cs:=[.im 0 _]) j tF2 j j)<|q (oBi j j j j)<|nl)<|us<|gc h j iNe (fun hc1 h=>?_) fun hc1 h=>?_
 ·refine gs<|g0 j j (q (ae j j)<|nl)<|us<|Go.ret (Unw.ret ?_)
  cases h
  exact fr XU j
 ·refine Go.skip<|us<|gs<|gs<|g0 j j (q (oFA (r':=.mp 2 0 1) j Dw j j)<|q (oLd (cs:=[.im 0 _]) j tF2 j j)<|q (oFA (r':=.mp 3 0 1) j Dw j j)<|q (oLd (cs:=[.im 0 _]) j tF2 j j)<|q (oBi j j j j)<|nl)<|us<|gc h j iNe (fun hc2 h=>?_) fun hc2 h=>?_
  ·refine gs<|g0 j j (q (ae j j)<|nl)<|us<|Go.ret (Unw.ret ?_)
   cases h
   exact fr XU j
  ·refine Go.skip<|us<|gs<|gs<|?_
   obtain ⟨x19,yw,h⟩:=bs h
   refine g0 j j (q (oFA (r':=.mp 2 0 2) j rM j j)<|q (oLd (cs:=[.im 2 _]) j Eh j j)<|q (oFA (r':=.mp 3 0 2) j rM j j)<|q (oLd (cs:=[.im 2 _]) j Eh j j)<|q (oCa (xs:=[.v false [.im 2 _],.v false [.im 2 _]]) (vs:=[(false,[.im 0 _])]) (v:=.v false [.im 0 _]) (Jp yw) (.inl j) j Tc j (ppC j (ppC j pp0)) j j pb0 j j j)<|q (oUn j j j)<|nl)<|us<|?_
   by_cases hc3:x19=true
   ·rw [if_pos hc3] at h
    refine gF j (nF (iR.2 hc3))<|Go.skip<|us<|gs<|gs<|?_
    obtain ⟨x25,hx25,h⟩:=bs h
    refine g0 j j (q (oFA (r':=.mp 2 0 3) j oO j j)<|q (oLd (cs:=[.im 2 _]) j BP j j)<|q (oFA (r':=.mp 3 0 3) j oO j j)<|q (oLd (cs:=[.im 2 _]) j BP j j)<|q (oCa (xs:=[.v false [.im 2 _],.v false [.im 2 _]]) (vs:=[(false,[.im 0 _])]) (v:=.v false [.im 0 _]) (LJ hx25) (.inl j) j Td j (ppC j (ppC j pp0)) j j pb0 j j j)<|q (oUn j j j)<|nl)<|us<|?_
    by_cases hc4:x25=true
    ·rw [if_pos hc4] at h
     refine gF j (nF (iR.2 hc4))<|Go.skip<|us<|gs<|g0 j j (q (ae j j)<|nl)<|us<|Go.ret (Unw.ret ?_)
     cases h
     exact fr XU j
    ·rw [if_neg hc4] at h
     refine gT j (nT (byF iR hc4))<|gs<|g0 j j (q (ae j j)<|nl)<|us<|Go.ret (Unw.ret ?_)
     cases h
     exact fr XU j
   ·rw [if_neg hc3] at h
    refine gT j (nT (byF iR hc3))<|gs<|g0 j j (q (ae j j)<|nl)<|us<|Go.ret (Unw.ret ?_)
    cases h
    exact fr XU j
theorem Jq {a_0:ai} {b_1:ai} {r:Bool} (h:sZ a_0 b_1=some r):FX 38 [.im 2 true (iH a_0),.im 2 true (iH b_1)] (B0 [(false,[.im 0 (V r)])]):=by
 unfold sZ at h
 refine gn 20 Tryz.func38 rfl ?_
 refine gs<|g0 j j (q (oBx j DD j (tkI (tkI (tkI tk0))))<|q (oBx j DD j (tkI (tkI (tkI tk0))))<|q (ae j j)<|nl)<|us<|gs<|gs<|g0 j j (q (oFA (r':=.mp 2 0 0) j Ia j j)<|q (oLd (cs:=[.im 0 _]) j tF9 j j)<|q (oFA (r':=.mp 3 0 0) j Ia j j)<|q (oLd (cs:=[.im 0 _]) j tF9 j j)<|q (oBi j j j j)<|nl)<|us<|gc h j (Y4 zK) (fun hc1 h=>?_) fun hc1 h=>?_
 ·refine gs<|g0 j j (q (ae j j)<|nl)<|us<|Go.ret (Unw.ret ?_)
  cases h
  exact fr abd j
 ·refine Go.skip<|us<|gs<|gs<|g0 j j (q (oFA (r':=.mp 2 0 1) j rO j j)<|q (oLd (cs:=[.im 0 _]) j tF2 j j)<|q (oFA (r':=.mp 3 0 1) j rO j j)<|q (oLd (cs:=[.im 0 _]) j tF2 j j)<|q (oBi j j j j)<|nl)<|us<|gc h j iNe (fun hc2 h=>?_) fun hc2 h=>?_
  ·refine gs<|g0 j j (q (ae j j)<|nl)<|us<|Go.ret (Unw.ret ?_)
   cases h
   exact fr abd j
  ·refine Go.skip<|us<|gs<|gs<|g0 j j (q (oFA (r':=.mp 2 0 2) j zQ j j)<|q (oLd (cs:=[.im 0 _]) j tF2 j j)<|q (oFA (r':=.mp 3 0 2) j zQ j j)<|q (oLd (cs:=[.im 0 _]) j tF2 j j)<|q (oBi j j j j)<|nl)<|us<|gc h j iNe (fun hc3 h=>?_) fun hc3 h=>?_
   ·refine gs<|g0 j j (q (ae j j)<|nl)<|us<|Go.ret (Unw.ret ?_)
    cases h
    exact fr abd j
   ·refine Go.skip<|us<|gs<|g0 j j (q (ae j j)<|nl)<|us<|Go.ret (Unw.ret ?_)
    cases h
    exact fr abd j
theorem Iy {a_0:(List ai)} {b_1:(List ai)} {r:Bool} (h:qI a_0 b_1=some r):FX 14 [.im 2 false [W 3 au a_0],.im 2 false [W 3 au b_1]] (B0 [(false,[.im 0 (V r)])]):=by
 unfold qI at h
 refine gn 27 Tryz.func14 rfl ?_
 refine gs<|g0 j j (q (ae j j)<|nl)<|us<|gs<|gs<|g0 j j (q (oMv j j)<|q (gJ j j Gw j)<|q (oMv j j)<|q (gJ j j Gw j)<|q (oBi j j j j)<|nl)<|us<|gc h j iNe (fun hc1 h=>?_) fun hc1 h=>?_
 ·refine gs<|g0 j j (q (ae j j)<|nl)<|us<|Go.ret (Unw.ret ?_)
  cases h
  exact fr ac9 j
 ·refine Go.skip<|us<|gs<|gs<|g0 j j (q (ae j j)<|nl)<|us<|Go.block<|?_
  obtain ⟨o,hl,h⟩:=bs h
  refine gl c14 j _ (fun (iG:Int)=>mk [(0,D 2 (W 3 au a_0)),(1,D 2 (W 3 au b_1)),(5,iv iG)] []) (fun (o:(Unit ⊕ Bool)) (p:Ex×St)=>match o with | (.inl _)=>p.1= .exit 0∧p.2.norm ([],[])=mk [] [] | (.inr r2)=>p.1= .ret∧fin Tryz.prog cfg 14 Tryz.f14 [.im 2 false [W 3 au a_0],.im 2 false [W 3 au b_1]] p.2=some (B0 [(false,[.im 0 (V r2)])])) hl (by kernel_rfl) ?_ ?_ ?_
  ·intro o p hp e
   rcases o with u | r2<;>exact nomatch (hp.1.symm.trans e)
  ·rintro iG o h
   unfold qi at h
   refine gs<|gs<|g0 j j (q (oMv j j)<|q (oMv j j)<|q (gJ j j Gw j)<|q (oBi j j j j)<|nl)<|us<|gc h j ah (fun hc6 h=>?_) fun hc6 h=>?_
   ·refine Go.skip<|us<|gs<|Go.block<|gs<|?_
    obtain ⟨x19,yw,h⟩:=bs h
    obtain ⟨x23,zq,h⟩:=bs h
    obtain ⟨x25,hx25,h⟩:=bs h
    refine gd c14 j j j j (mk [(0,D 2 (W 3 au a_0)),(1,D 2 (W 3 au b_1)),(5,iv iG),(26,bv (!x25))] []) (t j j (oMv j j)<|t j j (oMv j j)<|t j j (gq j yw Ic j j)<|t j j (oLd (cs:=[.im 2 _,.im 2 _,.im 2 _]) j DD j j)<|t j j (oMv j j)<|t j j (oMv j j)<|t j j (gq j zq Ic j j)<|t j j (oLd (cs:=[.im 2 _,.im 2 _,.im 2 _]) j DD j j)<|sS (dN z14 j (oCa (xs:=[.v true [.im 2 _,.im 2 _,.im 2 _],.v true [.im 2 _,.im 2 _,.im 2 _]]) (vs:=[(false,[.im 0 _])]) (v:=.v false [.im 0 _]) (Jq hx25) (.inl j) j Tf j (ppC j (ppC j pp0)) j j pb0 j j j)) trivial (t j j (oUn j j j)<|sD (by kernel_rfl)))<|us<|?_
    by_cases hc7:x25=true
    ·rw [if_pos hc7] at h
     refine gF j (nF (iR.2 hc7))<|Go.skip<|Unw.blk<|us<|g0 j j (q (oMv j j)<|q (oBi j j j j)<|q (ae j j)<|nl)<|Unw.nil<|?_
     cases h
     exact ⟨j,(by kernel_rfl)⟩
    ·rw [if_neg hc7] at h
     refine gT j (nT (byF iR hc7))<|gs<|g0 j j (q (ae j j)<|nl)<|us<|Go.ret (Unw.ret ?_)
     cases h
     exact ⟨j,(fo ac9 j)⟩
   ·refine Go.exit<|ux<|Unw.nil<|?_
    cases h
    exact ⟨j,(by kernel_rfl)⟩
  ·rintro ⟨e,st⟩ hp
   rcases o with u | r2
   ·dsimp only at h
    obtain ⟨he,hst⟩:=hp
    obtain rfl:e= .exit 0:=he
    refine Unw.iU<|us<|gs<|g2 c14 j j hst (q (ae j j)<|nl)<|us<|Go.ret (Unw.ret ?_)
    cases h
    exact fr ac9 j
   ·dsimp only at h
    obtain ⟨he,hfin⟩:=hp
    obtain rfl:e= .ret:=he
    cases h
    exact Unw.ret (fO hfin)
theorem DU {a_0:(List af)} {k_1:Int} {r:Int} (h:lS a_0 k_1=some r):FX 39 [.ws false [W 2 az a_0],.im 2 false [I k_1]] (B0 [(false,[.im 0 (I r)])]):=by
 unfold lS at h
 refine BA (A:=[(0,.v false [.ws (W 2 az a_0)]),(1,D 2 (I k_1))]) (B:=[(0,none),(1,none)]) (nt:=27) rfl rfl Tryz.func39 rfl rfl rfl rfl ?_
 refine gs<|g0 j j (q (ae j j)<|nl)<|us<|gs<|gs<|g0 j j (q (ae j j)<|nl)<|us<|Go.block<|?_
 obtain ⟨o,hl,h⟩:=bs h
 refine gl c39 j _ (fun (s:(Int×Int))=>match s with | (dA,aY)=>mk [(0,.v false [.ws (W 2 az a_0)]),(1,iv dA),(5,iv aY)] []) (fun (dY:Int) (p:Ex×St)=>p.1= .exit 0∧p.2.norm ([1],[])=mk [(1,iv dY)] []) hl (by kernel_rfl) ?_ ?_ ?_
 ·intro o p hp e
  exact nomatch (hp.1.symm.trans e)
 ·rintro ⟨dA,aY⟩ o h
  unfold jF at h
  dsimp only at h
  refine gs<|gs<|g0 j j (q (oMv j j)<|q (oMv j j)<|q (acJ j j zT j)<|q (oBi j j j j)<|nl)<|us<|gc h j ah (fun hc3 h=>?_) fun hc3 h=>?_
  ·refine Go.skip<|us<|gs<|Go.block<|gs<|?_
   obtain ⟨x15,A7,h⟩:=bs h
   refine g0 j j (q (oMv j j)<|q (oMv j j)<|q (oMv j j)<|q (Xr j A7 pK j j)<|q (oFA (r':=.ws _) j iI j j)<|q (Y3 tF2 j j j j)<|nl)<|us<|gs<|g1 j j (mk [(0,.v false [.ws (W 2 az a_0)]),(1,iv dA),(5,iv aY)] []) (q (oMv j j)<|q (oBi j j j j)<|q (ae j j)<|nl)<|us<|gs<|?_
   obtain ⟨x22,Gy,h⟩:=bs h
   refine g0 j j (q (oMv j j)<|q (oMv j j)<|q (oMv j j)<|q (Xr j Gy pK j j)<|q (oFA (r':=.ws _) j jd j j)<|q (Y3 tF2 j j j j)<|nl)<|us<|g1 j j (mk [(0,.v false [.ws (W 2 az a_0)]),(1,iv (w64 (dA+1))),(5,iv aY)] []) (q (oMv j j)<|q (oBi j j j j)<|q (ae j j)<|nl)<|Unw.blk<|us<|g0 j j (q (oMv j j)<|q (oBi j j j j)<|q (ae j j)<|nl)<|Unw.nil<|?_
   cases h
   exact ⟨j,(by kernel_rfl)⟩
  ·refine Go.exit<|ux<|Unw.nil<|?_
   cases h
   exact ⟨j,(by kernel_rfl)⟩
 ·rintro ⟨e,st⟩ hp
  obtain ⟨dY,rfl⟩:∃y,y=o:=⟨o,rfl⟩
  obtain ⟨he,hst⟩:=hp
  obtain rfl:e= .exit 0:=he
  refine Unw.iU<|us<|gs<|g2 c39 j j hst (q (oMv j j)<|q (ae j j)<|nl)<|us<|Go.ret (Unw.ret ?_)
  cases h
  exact fr agH j
theorem Cj {k_0:Int} {r:ByteArray} (h:pW k_0=some r):FX 41 [.im 2 false [I k_0]] (B0 [(false,[.im 0 (Y r)])]):=by
 unfold pW at h
 refine gn 20 Tryz.func41 rfl ?_
 refine gs<|g0 j j (q (ae j j)<|nl)<|us<|gs<|gs<|g0 j j (q (oMv j j)<|q (oBi j j j j)<|nl)<|us<|gc h j ah (fun hc1 h=>?_) fun hc1 h=>?_
 ·refine gs<|g0 j j (q (ae j j)<|nl)<|us<|Go.ret (Unw.ret ?_)
  cases h
  exact fr aeR j
 ·refine Go.skip<|us<|gs<|g0 j j (q (ae j j)<|nl)<|us<|gs<|Go.block<|?_
  obtain ⟨o,hl,h⟩:=bs h
  refine gl c41 j _ (fun (s:(Int×ByteArray))=>match s with | (H7,Dv)=>mk [(0,iv H7),(3,sv Dv)] []) (fun (BM:ByteArray) (p:Ex×St)=>p.1= .exit 0∧p.2.norm ([3],[])=mk [(3,sv BM)] []) hl (by kernel_rfl) ?_ ?_ ?_
  ·intro o p hp e
   exact nomatch (hp.1.symm.trans e)
  ·rintro ⟨H7,Dv⟩ o h
   unfold lq at h
   dsimp only at h
   refine gs<|gs<|g0 j j (q (oMv j j)<|q (oBi j j j j)<|nl)<|us<|gc h j ah (fun hc4 h=>?_) fun hc4 h=>?_
   ·refine Go.skip<|us<|Go.block<|gs<|?_
    obtain ⟨x9,hx9,h⟩:=bs h
    obtain ⟨x15,A7,h⟩:=bs h
    refine g0 j j (q (oMv j j)<|q (Gi j hx9 j j)<|q (oBi j j j j)<|q (af5 j uF3 uF5 j)<|q (oBS (es:=List.map (eK .u8) ([(IntKind.wrap .u8 ((w64 (48+x9))))]:List Int)) j ae6 j (ptC j (fxI fx0) j pt0) (eG j fun _=>j))<|q (af6 (l:=([(IntKind.wrap .u8 ((w64 (48+x9))))]:List Int)) j afd uF5 uF9 j (kJ j j))<|q (oMv j j)<|q (aem j A7 j j)<|q (ae j j)<|nl)<|us<|?_
    obtain ⟨x17,Lp,h⟩:=bs h
    refine g0 j j (q (oMv j j)<|q (acG j Lp j j)<|q (ae j j)<|nl)<|Unw.blk<|Unw.nil<|?_
    cases h
    exact ⟨j,(by kernel_rfl)⟩
   ·refine Go.exit<|ux<|Unw.nil<|?_
    cases h
    exact ⟨j,(by kernel_rfl)⟩
  ·rintro ⟨e,st⟩ hp
   obtain ⟨BM,rfl⟩:∃y,y=o:=⟨o,rfl⟩
   obtain ⟨he,hst⟩:=hp
   obtain rfl:e= .exit 0:=he
   refine Unw.iU<|us<|gs<|?_
   obtain ⟨x19,yw,h⟩:=bs h
   refine g2 c41 j j hst (q (oMv j j)<|q (aem j yw j j)<|q (ae j j)<|nl)<|us<|Go.ret (Unw.ret ?_)
   cases h
   exact fr aeR j
theorem DV {a_0:(List Int)} {k_1:Int} {r:Int} (h:lT a_0 k_1=some r):FX 17 [.ws false [W 1 eI a_0],.im 2 false [I k_1]] (B0 [(false,[.im 0 (I r)])]):=by
 unfold lT at h
 refine BA (A:=[(0,.v false [.ws (W 1 eI a_0)]),(1,D 2 (I k_1))]) (B:=[(0,none),(1,none)]) (nt:=19) rfl rfl Tryz.func17 rfl rfl rfl rfl ?_
 refine gs<|g0 j j (q (ae j j)<|nl)<|us<|gs<|gs<|g0 j j (q (ae j j)<|nl)<|us<|Go.block<|?_
 obtain ⟨o,hl,h⟩:=bs h
 refine gl c17 j _ (fun (s:(Int×Int))=>match s with | (dA,aY)=>mk [(0,.v false [.ws (W 1 eI a_0)]),(1,iv dA),(5,iv aY)] [(0,none)]) (fun (dY:Int) (p:Ex×St)=>p.1= .exit 0∧p.2.norm ([1],[0])=mk [(1,iv dY)] [(0,none)]) hl (by kernel_rfl) ?_ ?_ ?_
 ·intro o p hp e
  exact nomatch (hp.1.symm.trans e)
 ·rintro ⟨dA,aY⟩ o h
  unfold jG at h
  dsimp only at h
  refine gs<|gs<|g0 j j (q (oMv j j)<|q (oMv j j)<|q (acJ j j lX j)<|q (oBi j j j j)<|nl)<|us<|gc h j ah (fun hc3 h=>?_) fun hc3 h=>?_
  ·refine Go.skip<|us<|gs<|Go.block<|gs<|?_
   obtain ⟨x15,A7,h⟩:=bs h
   refine g0 j j (q (oMv j j)<|q (oMv j j)<|q (oMv j j)<|q (Xr j A7 fP j j)<|q (Y3 tF2 j j j j)<|nl)<|us<|g1 j j (mk [(0,.v false [.ws (W 1 eI a_0)]),(1,iv dA),(5,iv aY)] [(0,none)]) (q (oMv j j)<|q (oBi j j j j)<|q (ae j j)<|nl)<|Unw.blk<|us<|g0 j j (q (oMv j j)<|q (oBi j j j j)<|q (ae j j)<|nl)<|Unw.nil<|?_
   cases h
   exact ⟨j,(by kernel_rfl)⟩
  ·refine Go.exit<|ux<|Unw.nil<|?_
   cases h
   exact ⟨j,(by kernel_rfl)⟩
 ·rintro ⟨e,st⟩ hp
  obtain ⟨dY,rfl⟩:∃y,y=o:=⟨o,rfl⟩
  obtain ⟨he,hst⟩:=hp
  obtain rfl:e= .exit 0:=he
  refine Unw.iU<|us<|gs<|g2 c17 j j hst (q (oMv j j)<|q (ae j j)<|nl)<|us<|Go.ret (Unw.ret ?_)
  cases h
  exact fr aeN j
theorem Iz {a_0:(List dn)} {k_1:Int} {r:Int} (h:qJ a_0 k_1=some r):FX 40 [.ws false [W 2 bQ a_0],.im 2 false [I k_1]] (B0 [(false,[.im 0 (I r)])]):=by
 unfold qJ at h
 refine BA (A:=[(0,.v false [.ws (W 2 bQ a_0)]),(1,D 2 (I k_1))]) (B:=[(0,none),(1,none)]) (nt:=28) rfl rfl Tryz.func40 rfl rfl rfl rfl ?_
 refine gs<|g0 j j (q (ae j j)<|nl)<|us<|gs<|gs<|g0 j j (q (ae j j)<|nl)<|us<|Go.block<|?_
 obtain ⟨o,hl,h⟩:=bs h
 refine gl c40 j _ (fun (s:(Int×Int))=>match s with | (dA,aY)=>mk [(0,.v false [.ws (W 2 bQ a_0)]),(1,iv dA),(5,iv aY)] []) (fun (dY:Int) (p:Ex×St)=>p.1= .exit 0∧p.2.norm ([1],[])=mk [(1,iv dY)] []) hl (by kernel_rfl) ?_ ?_ ?_
 ·intro o p hp e
  exact nomatch (hp.1.symm.trans e)
 ·rintro ⟨dA,aY⟩ o h
  unfold mZ at h
  dsimp only at h
  refine gs<|gs<|g0 j j (q (oMv j j)<|q (oMv j j)<|q (acJ j j I5 j)<|q (oBi j j j j)<|nl)<|us<|gc h j ah (fun hc3 h=>?_) fun hc3 h=>?_
  ·refine Go.skip<|us<|gs<|Go.block<|gs<|?_
   obtain ⟨x15,A7,h⟩:=bs h
   obtain ⟨x16,hx16,h⟩:=bs h
   refine g0 j j (q (oMv j j)<|q (oMv j j)<|q (oMv j j)<|q (oCa (xs:=[.v false [.im 0 _]]) (vs:=[(false,[.im 0 _])]) (v:=.v false [.im 0 _]) (Cj A7) (.inl j) j XL j (ppC j pp0) j j pb0 j j j)<|q (Xr j hx16 Fa j j)<|q (oFA (r':=.ws _) j zS j j)<|q (Y3 tF9 j j j j)<|nl)<|us<|gs<|g1 j j (mk [(0,.v false [.ws (W 2 bQ a_0)]),(1,iv dA),(5,iv aY)] []) (q (oMv j j)<|q (oBi j j j j)<|q (ae j j)<|nl)<|us<|?_
   obtain ⟨x22,Gy,h⟩:=bs h
   obtain ⟨x26,TC,h⟩:=bs h
   refine g0 j j (q (oMv j j)<|q (oMv j j)<|q (Xr j Gy Fa j j)<|q (oFA (r':=.ws _) j BN j j)<|q (oLd (cs:=[.ws _]) j oz j j)<|q (oMv j j)<|q (oCa (xs:=[.v false [.ws _],.v false [.im 0 _]]) (vs:=[(false,[.im 0 _])]) (v:=.v false [.im 0 _]) (DV TC) (.inl j) j NP j (ppC j (ppC j pp0)) j j pb0 j j j)<|q (ae j j)<|nl)<|Unw.blk<|us<|g0 j j (q (oMv j j)<|q (oBi j j j j)<|q (ae j j)<|nl)<|Unw.nil<|?_
   cases h
   exact ⟨j,(by kernel_rfl)⟩
  ·refine Go.exit<|ux<|Unw.nil<|?_
   cases h
   exact ⟨j,(by kernel_rfl)⟩
 ·rintro ⟨e,st⟩ hp
  obtain ⟨dY,rfl⟩:∃y,y=o:=⟨o,rfl⟩
  obtain ⟨he,hst⟩:=hp
  obtain rfl:e= .exit 0:=he
  refine Unw.iU<|us<|gs<|g2 c40 j j hst (q (oMv j j)<|q (ae j j)<|nl)<|us<|Go.ret (Unw.ret ?_)
  cases h
  exact fr agI j
theorem FI {a_0:aA} {k_1:Int} {r:Int} (h:nZ a_0 k_1=some r):FX 15 [.ws true (ak a_0),.im 2 false [I k_1]] (B0 [(false,[.im 0 (I r)])]):=by
 unfold nZ at h
 refine BA (A:=[(0,.v true (S (ak a_0))),(1,D 2 (I k_1))]) (B:=[(0,none),(1,none)]) (nt:=14) rfl rfl Tryz.func15 rfl rfl rfl rfl ?_
 refine gs<|g0 j j (q (oBx j AZ j (tkW (tkW (tkW (tkW tk0)))))<|q (ae j j)<|nl)<|us<|gs<|?_
 obtain ⟨x8,hx8,h⟩:=bs h
 refine g0 j j (q (oFA (r':=.mp 2 0 2) j rM j j)<|q (oLd (cs:=[.ws _]) j Eh j j)<|q (oMv j j)<|q (oCa (xs:=[.v false [.ws _],.v false [.im 2 _]]) (vs:=[(false,[.im 0 _])]) (v:=.v false [.im 0 _]) (DU hx8) (.inl j) j Vz j (ppC j (ppC j pp0)) j j pb0 j j j)<|q (ae j j)<|nl)<|us<|gs<|?_
 obtain ⟨x12,zU,h⟩:=bs h
 refine g0 j j (q (oFA (r':=.mp 2 0 3) j oO j j)<|q (oLd (cs:=[.ws _]) j BP j j)<|q (oMv j j)<|q (oCa (xs:=[.v false [.ws _],.v false [.im 0 _]]) (vs:=[(false,[.im 0 _])]) (v:=.v false [.im 0 _]) (Iz zU) (.inl j) j VA j (ppC j (ppC j pp0)) j j pb0 j j j)<|q (ae j j)<|nl)<|us<|gs<|g0 j j (q (oMv j j)<|q (ae j j)<|nl)<|us<|Go.ret (Unw.ret ?_)
 cases h
 exact fr agz j
theorem FK {a_0:(List ai)} {k_1:Int} {r:(Int×(List ai))} (h:og a_0 k_1=some r):FX 16 [.ow 3 (List.map au a_0),.im 2 false [I k_1]] ([(false,[.im 0 (I r.1)])],[.ow 3 (List.map au r.2)]):=by
 unfold og at h
 refine BA (A:=[(0,H 0 0),(1,D 2 (I k_1))]) (B:=[(0,Oe [Z (W 3 au a_0)]),(1,none)]) (nt:=35) rfl rfl Tryz.func16 rfl rfl rfl rfl ?_
 refine gs<|g0 j j (q (ae j j)<|nl)<|us<|gs<|gs<|g0 j j (q (ae j j)<|nl)<|us<|Go.block<|?_
 obtain ⟨o,hl,h⟩:=bs h
 refine gl c16 j _ (fun (s:(Int×Int×(List ai)))=>match s with | (dA,aY,jS)=>mk [(0,H 0 0),(1,iv dA),(5,iv aY)] [(0,Oe [Z (W 3 au jS)])]) (fun (o:(Int×(List ai))) (p:Ex×St)=>match o with | (dY,oh)=>p.1= .exit 0∧p.2.norm ([1],[0])=mk [(1,iv dY)] [(0,Oe [Z (W 3 au oh)])]) hl (by kernel_rfl) ?_ ?_ ?_
 ·intro o p hp e
  obtain ⟨dY,oh⟩:=o
  exact nomatch (hp.1.symm.trans e)
 ·rintro ⟨dA,aY,jS⟩ o h
  unfold jB at h
  dsimp only at h
  refine gs<|gs<|g0 j j (q (oMv j j)<|q (oMv j j)<|q (Hr j j Gw j j j (fun e=>nomatch e))<|q (oBi j j j j)<|nl)<|us<|gc h j ah (fun hc3 h=>?_) fun hc3 h=>?_
  ·refine Go.skip<|us<|gs<|Go.block<|gs<|?_
   obtain ⟨x15,A7,h⟩:=bs h
   obtain ⟨x16,hx16,h⟩:=bs h
   refine g0 j j (q (oMv j j)<|q (oMv j j)<|q (oMv j j)<|q (oCa (xs:=[.v false [.im 0 _]]) (vs:=[(false,[.im 0 _])]) (v:=.v false [.im 0 _]) (Cj A7) (.inl j) j XL j (ppC j pp0) j j pb0 j j j)<|q (Am j hx16 Ic j j j j)<|q (oFA (r':=.mpe 0 0 0 _ 0) j Ia j j)<|q (QD (v':=(⟨x15,x16.dV,x16.aZ⟩:ai)) tF9 j j j (fxI fx0) j j (fA hx16) j)<|nl)<|us<|gs<|g1 j j (mk [(0,H 0 0),(1,iv dA),(5,iv aY)] [(0,Oe [Z (W 3 au (jS.set aY.toNat (⟨x15,x16.dV,x16.aZ⟩:ai)))])]) (q (oMv j j)<|q (oBi j j j j)<|q (ae j j)<|nl)<|us<|gs<|?_
   obtain ⟨x23,zq,h⟩:=bs h
   refine g0 j j (q (oMv j j)<|q (oMv j j)<|q (oMv j j)<|q (Am j zq Ic j j j j)<|q (oFA (r':=.mpe 0 0 0 _ 1) j rO j j)<|q (QD (v':=(⟨x23.jo,(w64 (dA+1)),x23.aZ⟩:ai)) tF2 j j j (fxI fx0) j j (fA zq) j)<|nl)<|us<|gs<|g1 j j (mk [(0,H 0 0),(1,iv (w64 (dA+1))),(5,iv aY)] [(0,Oe [Z (W 3 au ((jS.set aY.toNat (⟨x15,x16.dV,x16.aZ⟩:ai)).set aY.toNat (⟨x23.jo,(w64 (dA+1)),x23.aZ⟩:ai)))])]) (q (oMv j j)<|q (oBi j j j j)<|q (ae j j)<|nl)<|us<|gs<|?_
   obtain ⟨x30,QW,h⟩:=bs h
   refine g0 j j (q (oMv j j)<|q (oMv j j)<|q (oMv j j)<|q (Am j QW Ic j j j j)<|q (oFA (r':=.mpe 0 0 0 _ 2) j zQ j j)<|q (QD (v':=(⟨x30.jo,x30.dV,(w64 ((w64 (dA+1))+1))⟩:ai)) tF2 j j j (fxI fx0) j j (fA QW) j)<|nl)<|us<|g1 j j (mk [(0,H 0 0),(1,iv (w64 ((w64 (dA+1))+1))),(5,iv aY)] [(0,Oe [Z (W 3 au (((jS.set aY.toNat (⟨x15,x16.dV,x16.aZ⟩:ai)).set aY.toNat (⟨x23.jo,(w64 (dA+1)),x23.aZ⟩:ai)).set aY.toNat (⟨x30.jo,x30.dV,(w64 ((w64 (dA+1))+1))⟩:ai)))])]) (q (oMv j j)<|q (oBi j j j j)<|q (ae j j)<|nl)<|Unw.blk<|us<|g0 j j (q (oMv j j)<|q (oBi j j j j)<|q (ae j j)<|nl)<|Unw.nil<|?_
   cases h
   exact ⟨j,(by kernel_rfl)⟩
  ·refine Go.exit<|ux<|Unw.nil<|?_
   cases h
   exact ⟨j,(by kernel_rfl)⟩
 ·rintro ⟨e,st⟩ hp
  obtain ⟨dY,oh⟩:=o
  dsimp only at h
  obtain ⟨he,hst⟩:=hp
  obtain rfl:e= .exit 0:=he
  refine Unw.iU<|us<|gs<|g2 c16 j j hst (q (oMv j j)<|q (ae j j)<|nl)<|us<|Go.ret (Unw.ret ?_)
  cases h
  exact fr agA j
theorem GL {a_0:(List Int)} {k_1:Int} {r:(Int×(List Int))} (h:pJ a_0 k_1=some r):FX 17 [.ow 1 (List.map eI a_0),.im 2 false [I k_1]] ([(false,[.im 0 (I r.1)])],[.ow 1 (List.map eI r.2)]):=by
 unfold pJ at h
 refine BA (A:=[(0,H 0 0),(1,D 2 (I k_1))]) (B:=[(0,Oe [Z (W 1 eI a_0)]),(1,none)]) (nt:=19) rfl rfl Tryz.func17 rfl rfl rfl rfl ?_
 refine gs<|g0 j j (q (ae j j)<|nl)<|us<|gs<|gs<|g0 j j (q (ae j j)<|nl)<|us<|Go.block<|?_
 obtain ⟨o,hl,h⟩:=bs h
 refine gl c17 j _ (fun (s:(Int×Int×(List Int)))=>match s with | (dA,aY,jS)=>mk [(0,H 0 0),(1,iv dA),(5,iv aY)] [(0,Oe [Z (W 1 eI jS)])]) (fun (o:(Int×(List Int))) (p:Ex×St)=>match o with | (dY,oh)=>p.1= .exit 0∧p.2.norm ([1],[0])=mk [(1,iv dY)] [(0,Oe [Z (W 1 eI oh)])]) hl (by kernel_rfl) ?_ ?_ ?_
 ·intro o p hp e
  obtain ⟨dY,oh⟩:=o
  exact nomatch (hp.1.symm.trans e)
 ·rintro ⟨dA,aY,jS⟩ o h
  unfold lU at h
  dsimp only at h
  refine gs<|gs<|g0 j j (q (oMv j j)<|q (oMv j j)<|q (Hr j j lX j j j (fun e=>nomatch e))<|q (oBi j j j j)<|nl)<|us<|gc h j ah (fun hc3 h=>?_) fun hc3 h=>?_
  ·refine Go.skip<|us<|gs<|Go.block<|gs<|?_
   obtain ⟨x15,A7,h⟩:=bs h
   refine g0 j j (q (oMv j j)<|q (oMv j j)<|q (oMv j j)<|q (Am j A7 fP j j j j)<|q (QD (v':=dA) tF2 j j j (fxI fx0) j j (fA A7) j)<|nl)<|us<|g1 j j (mk [(0,H 0 0),(1,iv dA),(5,iv aY)] [(0,Oe [Z (W 1 eI (jS.set aY.toNat dA))])]) (q (oMv j j)<|q (oBi j j j j)<|q (ae j j)<|nl)<|Unw.blk<|us<|g0 j j (q (oMv j j)<|q (oBi j j j j)<|q (ae j j)<|nl)<|Unw.nil<|?_
   cases h
   exact ⟨j,(by kernel_rfl)⟩
  ·refine Go.exit<|ux<|Unw.nil<|?_
   cases h
   exact ⟨j,(by kernel_rfl)⟩
 ·rintro ⟨e,st⟩ hp
  obtain ⟨dY,oh⟩:=o
  dsimp only at h
  obtain ⟨he,hst⟩:=hp
  obtain rfl:e= .exit 0:=he
  refine Unw.iU<|us<|gs<|g2 c17 j j hst (q (oMv j j)<|q (ae j j)<|nl)<|us<|Go.ret (Unw.ret ?_)
  cases h
  exact fr aeN j
theorem zJ {a_0:(List Int)} {k_1:Int} {r:Int} (h:mg a_0 k_1=some r):FX 18 [.im 2 false [W 1 eI a_0],.im 2 false [I k_1]] (B0 [(false,[.im 0 (I r)])]):=by
 unfold mg at h
 refine gn 21 Tryz.func18 rfl ?_
 refine gs<|g0 j j (q (ae j j)<|nl)<|us<|gs<|gs<|g0 j j (q (ae j j)<|nl)<|us<|Go.block<|?_
 obtain ⟨o,hl,h⟩:=bs h
 refine gl c18 j _ (fun (s:(Int×Int))=>match s with | (dA,aY)=>mk [(0,D 2 (W 1 eI a_0)),(1,iv dA),(5,iv aY)] []) (fun (o:(Int ⊕ Int)) (p:Ex×St)=>match o with | (.inl dY)=>p.1= .exit 0∧p.2.norm ([1],[])=mk [(1,iv dY)] [] | (.inr r2)=>p.1= .ret∧fin Tryz.prog cfg 18 Tryz.f18 [.im 2 false [W 1 eI a_0],.im 2 false [I k_1]] p.2=some (B0 [(false,[.im 0 (I r2)])])) hl (by kernel_rfl) ?_ ?_ ?_
 ·intro o p hp e
  rcases o with dY | r2<;>exact nomatch (hp.1.symm.trans e)
 ·rintro ⟨dA,aY⟩ o h
  unfold lV at h
  dsimp only at h
  refine gs<|gs<|g0 j j (q (oMv j j)<|q (oMv j j)<|q (gJ j j lX j)<|q (oBi j j j j)<|nl)<|us<|gc h j ah (fun hc5 h=>?_) fun hc5 h=>?_
  ·refine Go.skip<|us<|gs<|Go.block<|gs<|gs<|?_
   obtain ⟨x14,vH,h⟩:=bs h
   refine g0 j j (q (oMv j j)<|q (oMv j j)<|q (gq j vH fP j j)<|q (oLd (cs:=[.im 2 _]) j tF2 j j)<|q (oMv j j)<|q (oBi j j j j)<|nl)<|us<|gc h j iNe (fun hc6 h=>?_) fun hc6 h=>?_
   ·refine gs<|g0 j j (q (ae j j)<|nl)<|us<|Go.ret (Unw.ret ?_)
    cases h
    exact ⟨j,(fo aeO j)⟩
   ·refine Go.skip<|us<|g0 j j (q (oMv j j)<|q (oBi j j j j)<|q (ae j j)<|nl)<|Unw.blk<|us<|g0 j j (q (oMv j j)<|q (oBi j j j j)<|q (ae j j)<|nl)<|Unw.nil<|?_
    cases h
    exact ⟨j,(by kernel_rfl)⟩
  ·refine Go.exit<|ux<|Unw.nil<|?_
   cases h
   exact ⟨j,(by kernel_rfl)⟩
 ·rintro ⟨e,st⟩ hp
  rcases o with dY | r2
  ·dsimp only at h
   obtain ⟨he,hst⟩:=hp
   obtain rfl:e= .exit 0:=he
   refine Unw.iU<|us<|gs<|g2 c18 j j hst (q (oMv j j)<|q (ae j j)<|nl)<|us<|Go.ret (Unw.ret ?_)
   cases h
   exact fr aeO j
  ·dsimp only at h
   obtain ⟨he,hfin⟩:=hp
   obtain rfl:e= .ret:=he
   cases h
   exact Unw.ret (fO hfin)
end
end Go.Proofs.YtnjgcdpleghciaaGreat
