/- The machine answers, at each function of the program that is reached, what its plain function answers: a further part. Conditions: none. -/
import Derived.Test.YtnjgcdpleghciaaGreatTfvLa
namespace Go.Proofs.YtnjgcdpleghciaaGreat
open Go Go.Sim Go.Pw Go.Proofs
set_option linter.unusedVariables false
set_option linter.unusedSimpArgs false
set_option maxRecDepth 100000
set_option maxHeartbeats 4000000
noncomputable section
theorem MC {d_0:aA} {aI:(List ai)} {aN:Int} {bz:Int} {r:aH} (h:xe d_0 aI aN bz=some r):FX 27 [.im 2 false [.cp (au d_0) 0],.im 2 false [W 3 ak aI],.im 2 false [I aN],.im 2 false [I bz]] (B0 [(false,[.pt true [⟨.imm,0,W 1 (eL 1 eI) r.before⟩,⟨.sh,0,W 1 (eL 1 eI) r.table⟩,⟨.imm,0,I r.limit⟩,⟨.imm,0,I r.most⟩,⟨.sh,0,W 1 eI r.choice⟩,⟨.imm,0,I r.nodes⟩,⟨.imm,0,I r.budget⟩,⟨.imm,0,V r.full⟩]])]):=by
 unfold xe at h
 refine gn 112 Tryz.func27 rfl ?_
 refine gs<|g0 j j (q (ae j j)<|nl)<|us<|gs<|g0 j j (q (oMv j j)<|q (oMv j j)<|q (oBu (cs:=[.nil,.nil,.im 2 _,.im 0 _,.nil,.im 0 _,.im 2 _,.im 0 _]) j agx j)<|q (agj (ys:=[⟨.dp 0,0,W 1 (eL 1 eI) ([]:List (List Int))⟩,⟨.sh,0,W 1 (eL 1 eI) ([]:List (List Int))⟩,⟨.imm,0,I aN⟩,⟨.imm,0,I 10⟩,⟨.sh,0,W 1 eI ([]:List Int)⟩,⟨.imm,0,I 0⟩,⟨.imm,0,I bz⟩,⟨.imm,0,V false⟩]) j ahi j (tkN (tkN (tkI (tkI (tkN (tkI (tkI (tkI tk0)))))))) (by kernel_rfl))<|q (YU j j)<|nl)<|us<|gs<|gs<|g1 j j (mk [(0,D 2 (.cp (au d_0) 0)),(1,D 2 (W 3 ak aI)),(9,M 19)] [(19,Oa [⟨.dp 0,0,0,W 1 (eL 1 eI) ([]:List (List Int))⟩,Z (W 1 (eL 1 eI) ([]:List (List Int))),C (I aN),C (I 10),Z (W 1 eI ([]:List Int)),C (I 0),C (I bz),C (V false)])]) (q (ae j j)<|nl)<|us<|Go.block<|?_
 obtain ⟨o,hl,h⟩:=bs h
 refine gl c27 j _ (fun (s:(Int×(List (List Int))))=>match s with | (Eb,yQ)=>mk [(0,D 2 (.cp (au d_0) 0)),(1,D 2 (W 3 ak aI)),(9,M 19),(10,iv Eb)] [(19,Oa [⟨.dp 0,0,0,W 1 (eL 1 eI) yQ⟩,Z (W 1 (eL 1 eI) ([]:List (List Int))),C (I aN),C (I 10),Z (W 1 eI ([]:List Int)),C (I 0),C (I bz),C (V false)])]) (fun (yA:(List (List Int))) (p:Ex×St)=>p.1= .exit 0∧p.2.norm ([0,1,9],[19])=mk [(0,D 2 (.cp (au d_0) 0)),(1,D 2 (W 3 ak aI)),(9,M 19)] [(19,Oa [⟨.dp 0,0,0,W 1 (eL 1 eI) yA⟩,Z (W 1 (eL 1 eI) ([]:List (List Int))),C (I aN),C (I 10),Z (W 1 eI ([]:List Int)),C (I 0),C (I bz),C (V false)])]) hl (by kernel_rfl) ?_ ?_ ?_
 ·intro o p hp e
  exact nomatch (hp.1.symm.trans e)
 ·rintro ⟨Eb,yQ⟩ o h
  unfold nX at h
  dsimp only at h
  refine gs<|gs<|g0 j j (q (oMv j j)<|q (oMv j j)<|q (oNl j j j)<|q (oFA (r':=.im 2 _) j oO j j)<|q (oLd (cs:=[.im 2 _]) j BK j j)<|q (gB j j IY j)<|q (oBi j j j j)<|nl)<|us<|gc h j ah (fun hc16 h=>?_) fun hc16 h=>?_
  ·refine Go.skip<|us<|gs<|Go.block<|?_
   obtain ⟨x36,Ce,h⟩:=bs h
   refine g0 j j (q (oMv j j)<|q (oMv j j)<|q (oNl j j j)<|q (oFA (r':=.mp 19 0 0) j yf j j)<|q (oLd (cs:=[.own 19 0 0]) j zl j j)<|q (oBS (es:=List.map eI ([]:List Int)) j fO j pt0 (dZ j fun _=>j))<|q (agi (em:=(eL 1 eI)) (u:=([]:List Int)) j uF j j j j j j)<|q (aet (em:=(eL 1 eI)) (M:=([([]:List Int)]:List (List Int))) j Ce j uF j j Tt (.inl ⟨_,j⟩) j j j j j j j)<|q (oNl j j j)<|q (oFA (r':=.mp 19 0 0) j yf j j)<|q (oSt zl j j j (tkD j j tk0) j j j)<|nl)<|Unw.blk<|us<|g1 j j (mk [(0,D 2 (.cp (au d_0) 0)),(1,D 2 (W 3 ak aI)),(9,M 19),(10,iv Eb)] [(19,Oa [⟨.dp 0,0,0,W 1 (eL 1 eI) x36⟩,Z (W 1 (eL 1 eI) ([]:List (List Int))),C (I aN),C (I 10),Z (W 1 eI ([]:List Int)),C (I 0),C (I bz),C (V false)])]) (q (oMv j j)<|q (oBi j j j j)<|q (ae j j)<|nl)<|Unw.nil<|?_
   cases h
   exact ⟨j,(by kernel_rfl)⟩
  ·refine Go.exit<|ux<|Unw.nil<|?_
   cases h
   exact ⟨j,(by kernel_rfl)⟩
 ·rintro ⟨e,st⟩ hp
  obtain ⟨yA,rfl⟩:∃y,y=o:=⟨o,rfl⟩
  obtain ⟨he,hst⟩:=hp
  obtain rfl:e= .exit 0:=he
  refine Unw.iT<|us<|gs<|?_
  obtain ⟨x40,Ig,h⟩:=bs h
  refine g2 c27 j j hst (q (oMv j j)<|q (oCr (xs:=[.v false [.im 2 _]]) (vs:=[(false,[.own 40 0 0])]) (v:=.v false [.own 40 0 0]) (c:=⟨.sh,0,_⟩) (cs:=[]) (Jg Ig) (.inl j) j aaM j (ppC j pp0) j j pb0 j j j)<|q (jZ j j j j j)<|nl)<|us<|gs<|gs<|g0 j j (q (ae j j)<|nl)<|us<|Go.block<|?_
  obtain ⟨o,hl,h⟩:=bs h
  refine gl c27 j _ (fun (s:(Int×(List (List Int))))=>match s with | (BB,uh)=>mk [(1,D 2 (W 3 ak aI)),(9,M 19),(11,H 11 0),(12,iv BB)] [(11,Oc [Z (W 1 (eL 1 eI) x40)]),(19,Oa [⟨.dp 0,0,0,W 1 (eL 1 eI) uh⟩,Z (W 1 (eL 1 eI) ([]:List (List Int))),C (I aN),C (I 10),Z (W 1 eI ([]:List Int)),C (I 0),C (I bz),C (V false)])]) (fun (jR:(List (List Int))) (p:Ex×St)=>p.1= .exit 2∧p.2.norm ([1,9],[19])=mk [(1,D 2 (W 3 ak aI)),(9,M 19)] [(19,Oa [⟨.dp 0,0,0,W 1 (eL 1 eI) jR⟩,Z (W 1 (eL 1 eI) ([]:List (List Int))),C (I aN),C (I 10),Z (W 1 eI ([]:List Int)),C (I 0),C (I bz),C (V false)])]) hl (by kernel_rfl) ?_ ?_ ?_
  ·intro o p hp e
   exact nomatch (hp.1.symm.trans e)
  ·rintro ⟨BB,uh⟩ o h
   unfold qC at h
   dsimp only at h
   refine gs<|gs<|g0 j j (q (oMv j j)<|q (oMv j j)<|q (Ho j j Tt j j j (fun e=>nomatch e))<|q (oBi j j j j)<|nl)<|us<|gc h j ah (fun A7 h=>?_) fun A7 h=>?_
   ·refine Go.skip<|us<|gs<|Go.block<|?_
    obtain ⟨x71,VC,h⟩:=bs h
    obtain ⟨x73,ahp,h⟩:=bs h
    obtain ⟨x55,afg,h⟩:=bs h
    obtain ⟨x67,qj,h⟩:=bs h
    obtain ⟨x76,MF,h⟩:=bs h
    refine gd c27 j j j j (mk [(1,D 2 (W 3 ak aI)),(9,M 19),(11,H 11 0),(12,iv BB)] [(11,Oc [Z (W 1 (eL 1 eI) x40)]),(19,Oa [⟨.dp 0,0,0,W 1 (eL 1 eI) (uh.set x55.toNat x76)⟩,Z (W 1 (eL 1 eI) ([]:List (List Int))),C (I aN),C (I 10),Z (W 1 eI ([]:List Int)),C (I 0),C (I bz),C (V false)])]) (t j j (oMv j j)<|t j j (oMv j j)<|t j j (oMv j j)<|t j j (oMv j j)<|t j j (oMv j j)<|t j j (oMv j j)<|t j j (oMv j j)<|t j j (oMv j j)<|t j j (Ak j VC uF j j j j)<|t j j (IW (cs:=[.im 0 _]) j oC j j j j (eX VC) j j)<|t j j (gp j ahp fO j j)<|t j j (oLd (cs:=[.im 0 _]) j tF2 j j)<|sK (O:=[11]) j j j (dN z27 j (Ak j VC uF j j j j))<|sK (O:=[11]) j j j (dN z27 j (IW (cs:=[.im 0 _]) j oC j j j j (eX VC) j j))<|t j j (gp j afg fO j j)<|t j j (oLd (cs:=[.im 0 _]) j tF2 j j)<|sK (O:=[19]) j j j (dN z27 j (oNl j j j))<|sK (O:=[19]) j j j (dN z27 j (oFA (r':=.mp 19 0 0) j yf j j))<|sK (O:=[19]) j j j (dN z27 j (oLd (cs:=[.own 19 0 0]) j zl j j))<|sK (O:=[11]) j j j (dN z27 j (Ak j VC uF j j j j))<|sK (O:=[11]) j j j (dN z27 j (IW (cs:=[.im 0 _]) j oC j j j j (eX VC) j j))<|t j j (gp j afg fO j j)<|t j j (oLd (cs:=[.im 0 _]) j tF2 j j)<|sK (O:=[19]) j j j (dN z27 j (Hr j qj uF j j j j (fun e=>nomatch e)))<|sK (O:=[19]) j j j (dN z27 j (aes (cs:=[.inr 19 0 0 _ 0 0]) j oC j j j (eX qj) j j))<|sF (dN z27 j (oNl j j j)) (kY ⟨j,trivial⟩ (kY ⟨j,trivial⟩ (kY ⟨j,trivial⟩ (kY ⟨j,trivial⟩ (kY ⟨j,trivial⟩ (kY ⟨j,trivial⟩ (kY ⟨j,trivial⟩ (kY ⟨j,trivial⟩ (kY ⟨j,trivial⟩ trivial))))))))) (sF (dN z27 j (oFA (r':=.mp 19 0 0) j yf j j)) (kY ⟨j,trivial⟩ (kY ⟨j,trivial⟩ (kY ⟨j,trivial⟩ (kY ⟨j,trivial⟩ (kY ⟨j,trivial⟩ (kY ⟨j,trivial⟩ (kY ⟨j,trivial⟩ (kY ⟨j,trivial⟩ (kY ⟨j,trivial⟩ trivial))))))))) (sF (dN z27 j (oLd (cs:=[.own 19 0 0]) j zl j j)) (kY ⟨j,trivial⟩ (kY ⟨j,trivial⟩ (kY ⟨j,trivial⟩ (kY ⟨j,trivial⟩ (kY ⟨j,trivial⟩ (kY ⟨j,trivial⟩ (kY ⟨j,trivial⟩ (kY ⟨j,trivial⟩ (kY ⟨j,trivial⟩ trivial))))))))) (sS (dN z27 j (oBS (es:=List.map eI ([x73]:List Int)) j fO j (ptC j (fxI fx0) j pt0) (dZ j fun _=>j))) (kY ⟨j,trivial⟩ (kY ⟨j,trivial⟩ (kY ⟨j,trivial⟩ (kY ⟨j,trivial⟩ (kY ⟨j,trivial⟩ (kY ⟨j,trivial⟩ (kY ⟨j,trivial⟩ (kY ⟨j,trivial⟩ (kY ⟨j,trivial⟩ trivial))))))))) (sS (dN z27 j (KC (en:=eI) (M:=([x73]:List Int)) j MF j fO j j l9 (.inl ⟨_,j⟩) j j j (eX qj) j j (kL j j) (dZ j fun _=>j))) (kN j (kN j (kN j (kN j (kN j (kN j (kN j (kY ⟨j,trivial⟩ (kY ⟨j,trivial⟩ trivial))))))))) (t j j (Hr j qj uF j j j j (fun e=>nomatch e))<|sS (dN z27 j (KA (v':=x76) oC j j j j (tkO j j tk0) j j (eX qj) j)) (kN j (kN j (kN j (kN j (kN j (kN j (kN j (kN j (kN j trivial))))))))) (sD (by kernel_rfl))))) (sS (dN z27 j (oBS (es:=List.map eI ([x73]:List Int)) j fO j (ptC j (fxI fx0) j pt0) (dZ j fun _=>j))) (kY ⟨j,trivial⟩ (kY ⟨j,trivial⟩ (kY ⟨j,trivial⟩ (kY ⟨j,trivial⟩ (kY ⟨j,trivial⟩ (kY ⟨j,trivial⟩ (kY ⟨j,trivial⟩ (kY ⟨j,trivial⟩ (kY ⟨j,trivial⟩ trivial))))))))) (sF (dN z27 j (oLd (cs:=[.own 19 0 0]) j zl j j)) (kY ⟨j,trivial⟩ (kY ⟨j,trivial⟩ (kY ⟨j,trivial⟩ (kY ⟨j,trivial⟩ (kY ⟨j,trivial⟩ (kY ⟨j,trivial⟩ (kY ⟨j,trivial⟩ (kY ⟨j,trivial⟩ (kY ⟨j,trivial⟩ trivial))))))))) (sS (dN z27 j (KC (en:=eI) (M:=([x73]:List Int)) j MF j fO j j l9 (.inl ⟨_,j⟩) j j j (eX qj) j j (kL j j) (dZ j fun _=>j))) (kN j (kN j (kN j (kN j (kN j (kN j (kN j (kY ⟨j,trivial⟩ (kY ⟨j,trivial⟩ trivial))))))))) (t j j (Hr j qj uF j j j j (fun e=>nomatch e))<|sS (dN z27 j (KA (v':=x76) oC j j j j (tkO j j tk0) j j (eX qj) j)) (kN j (kN j (kN j (kN j (kN j (kN j (kN j (kN j (kN j trivial))))))))) (sD (by kernel_rfl)))) (sS (dN z27 j (KC (en:=eI) (M:=([x73]:List Int)) j MF j fO j j l9 (.inl ⟨_,j⟩) j j j (eX qj) j j (kL j j) (dZ j fun _=>j))) (kN j (kN j (kN j (kN j (kN j (kN j (kN j (kY ⟨j,trivial⟩ (kY ⟨j,trivial⟩ trivial))))))))) (sS (dN z27 j (oLd (cs:=[.own 19 0 0]) j zl j j)) (kY ⟨j,trivial⟩ (kY ⟨j,trivial⟩ (kY ⟨j,trivial⟩ (kY ⟨j,trivial⟩ (kY ⟨j,trivial⟩ (kY ⟨j,trivial⟩ (kY ⟨j,trivial⟩ (kY ⟨j,trivial⟩ (kY ⟨j,trivial⟩ trivial))))))))) (t j j (Hr j qj uF j j j j (fun e=>nomatch e))<|sS (dN z27 j (KA (v':=x76) oC j j j j (tkO j j tk0) j j (eX qj) j)) (kN j (kN j (kN j (kN j (kN j (kN j (kN j (kN j (kN j trivial))))))))) (sD (by kernel_rfl)))))))) (sS (dN z27 j (oBS (es:=List.map eI ([x73]:List Int)) j fO j (ptC j (fxI fx0) j pt0) (dZ j fun _=>j))) (kY ⟨j,trivial⟩ (kY ⟨j,trivial⟩ (kY ⟨j,trivial⟩ (kY ⟨j,trivial⟩ (kY ⟨j,trivial⟩ (kY ⟨j,trivial⟩ (kY ⟨j,trivial⟩ (kY ⟨j,trivial⟩ (kY ⟨j,trivial⟩ trivial))))))))) (sF (dN z27 j (oFA (r':=.mp 19 0 0) j yf j j)) (kY ⟨j,trivial⟩ (kY ⟨j,trivial⟩ (kY ⟨j,trivial⟩ (kY ⟨j,trivial⟩ (kY ⟨j,trivial⟩ (kY ⟨j,trivial⟩ (kY ⟨j,trivial⟩ (kY ⟨j,trivial⟩ (kY ⟨j,trivial⟩ trivial))))))))) (sF (dN z27 j (oLd (cs:=[.own 19 0 0]) j zl j j)) (kY ⟨j,trivial⟩ (kY ⟨j,trivial⟩ (kY ⟨j,trivial⟩ (kY ⟨j,trivial⟩ (kY ⟨j,trivial⟩ (kY ⟨j,trivial⟩ (kY ⟨j,trivial⟩ (kY ⟨j,trivial⟩ (kY ⟨j,trivial⟩ trivial))))))))) (sS (dN z27 j (KC (en:=eI) (M:=([x73]:List Int)) j MF j fO j j l9 (.inl ⟨_,j⟩) j j j (eX qj) j j (kL j j) (dZ j fun _=>j))) (kN j (kN j (kN j (kN j (kN j (kN j (kN j (kY ⟨j,trivial⟩ (kY ⟨j,trivial⟩ trivial))))))))) (t j j (Hr j qj uF j j j j (fun e=>nomatch e))<|sS (dN z27 j (KA (v':=x76) oC j j j j (tkO j j tk0) j j (eX qj) j)) (kN j (kN j (kN j (kN j (kN j (kN j (kN j (kN j (kN j trivial))))))))) (sD (by kernel_rfl)))) (sS (dN z27 j (KC (en:=eI) (M:=([x73]:List Int)) j MF j fO j j l9 (.inl ⟨_,j⟩) j j j (eX qj) j j (kL j j) (dZ j fun _=>j))) (kN j (kN j (kN j (kN j (kN j (kN j (kN j (kY ⟨j,trivial⟩ (kY ⟨j,trivial⟩ trivial))))))))) (sS (dN z27 j (oLd (cs:=[.own 19 0 0]) j zl j j)) (kY ⟨j,trivial⟩ (kY ⟨j,trivial⟩ (kY ⟨j,trivial⟩ (kY ⟨j,trivial⟩ (kY ⟨j,trivial⟩ (kY ⟨j,trivial⟩ (kY ⟨j,trivial⟩ (kY ⟨j,trivial⟩ (kY ⟨j,trivial⟩ trivial))))))))) (t j j (Hr j qj uF j j j j (fun e=>nomatch e))<|sS (dN z27 j (KA (v':=x76) oC j j j j (tkO j j tk0) j j (eX qj) j)) (kN j (kN j (kN j (kN j (kN j (kN j (kN j (kN j (kN j trivial))))))))) (sD (by kernel_rfl)))))) (sS (dN z27 j (KC (en:=eI) (M:=([x73]:List Int)) j MF j fO j j l9 (.inl ⟨_,j⟩) j j j (eX qj) j j (kL j j) (dZ j fun _=>j))) (kN j (kN j (kN j (kN j (kN j (kN j (kN j (kY ⟨j,trivial⟩ (kY ⟨j,trivial⟩ trivial))))))))) (sS (dN z27 j (oFA (r':=.mp 19 0 0) j yf j j)) (kY ⟨j,trivial⟩ (kY ⟨j,trivial⟩ (kY ⟨j,trivial⟩ (kY ⟨j,trivial⟩ (kY ⟨j,trivial⟩ (kY ⟨j,trivial⟩ (kY ⟨j,trivial⟩ (kY ⟨j,trivial⟩ (kY ⟨j,trivial⟩ trivial))))))))) (sS (dN z27 j (oLd (cs:=[.own 19 0 0]) j zl j j)) (kY ⟨j,trivial⟩ (kY ⟨j,trivial⟩ (kY ⟨j,trivial⟩ (kY ⟨j,trivial⟩ (kY ⟨j,trivial⟩ (kY ⟨j,trivial⟩ (kY ⟨j,trivial⟩ (kY ⟨j,trivial⟩ (kY ⟨j,trivial⟩ trivial))))))))) (t j j (Hr j qj uF j j j j (fun e=>nomatch e))<|sS (dN z27 j (KA (v':=x76) oC j j j j (tkO j j tk0) j j (eX qj) j)) (kN j (kN j (kN j (kN j (kN j (kN j (kN j (kN j (kN j trivial))))))))) (sD (by kernel_rfl))))))))) (sS (dN z27 j (oBS (es:=List.map eI ([x73]:List Int)) j fO j (ptC j (fxI fx0) j pt0) (dZ j fun _=>j))) (kY ⟨j,trivial⟩ (kY ⟨j,trivial⟩ (kY ⟨j,trivial⟩ (kY ⟨j,trivial⟩ (kY ⟨j,trivial⟩ (kY ⟨j,trivial⟩ (kY ⟨j,trivial⟩ (kY ⟨j,trivial⟩ (kY ⟨j,trivial⟩ trivial))))))))) (sF (dN z27 j (oNl j j j)) (kY ⟨j,trivial⟩ (kY ⟨j,trivial⟩ (kY ⟨j,trivial⟩ (kY ⟨j,trivial⟩ (kY ⟨j,trivial⟩ (kY ⟨j,trivial⟩ (kY ⟨j,trivial⟩ (kY ⟨j,trivial⟩ (kY ⟨j,trivial⟩ trivial))))))))) (sF (dN z27 j (oFA (r':=.mp 19 0 0) j yf j j)) (kY ⟨j,trivial⟩ (kY ⟨j,trivial⟩ (kY ⟨j,trivial⟩ (kY ⟨j,trivial⟩ (kY ⟨j,trivial⟩ (kY ⟨j,trivial⟩ (kY ⟨j,trivial⟩ (kY ⟨j,trivial⟩ (kY ⟨j,trivial⟩ trivial))))))))) (sF (dN z27 j (oLd (cs:=[.own 19 0 0]) j zl j j)) (kY ⟨j,trivial⟩ (kY ⟨j,trivial⟩ (kY ⟨j,trivial⟩ (kY ⟨j,trivial⟩ (kY ⟨j,trivial⟩ (kY ⟨j,trivial⟩ (kY ⟨j,trivial⟩ (kY ⟨j,trivial⟩ (kY ⟨j,trivial⟩ trivial))))))))) (sS (dN z27 j (KC (en:=eI) (M:=([x73]:List Int)) j MF j fO j j l9 (.inl ⟨_,j⟩) j j j (eX qj) j j (kL j j) (dZ j fun _=>j))) (kN j (kN j (kN j (kN j (kN j (kN j (kN j (kY ⟨j,trivial⟩ (kY ⟨j,trivial⟩ trivial))))))))) (t j j (Hr j qj uF j j j j (fun e=>nomatch e))<|sS (dN z27 j (KA (v':=x76) oC j j j j (tkO j j tk0) j j (eX qj) j)) (kN j (kN j (kN j (kN j (kN j (kN j (kN j (kN j (kN j trivial))))))))) (sD (by kernel_rfl)))) (sS (dN z27 j (KC (en:=eI) (M:=([x73]:List Int)) j MF j fO j j l9 (.inl ⟨_,j⟩) j j j (eX qj) j j (kL j j) (dZ j fun _=>j))) (kN j (kN j (kN j (kN j (kN j (kN j (kN j (kY ⟨j,trivial⟩ (kY ⟨j,trivial⟩ trivial))))))))) (sS (dN z27 j (oLd (cs:=[.own 19 0 0]) j zl j j)) (kY ⟨j,trivial⟩ (kY ⟨j,trivial⟩ (kY ⟨j,trivial⟩ (kY ⟨j,trivial⟩ (kY ⟨j,trivial⟩ (kY ⟨j,trivial⟩ (kY ⟨j,trivial⟩ (kY ⟨j,trivial⟩ (kY ⟨j,trivial⟩ trivial))))))))) (t j j (Hr j qj uF j j j j (fun e=>nomatch e))<|sS (dN z27 j (KA (v':=x76) oC j j j j (tkO j j tk0) j j (eX qj) j)) (kN j (kN j (kN j (kN j (kN j (kN j (kN j (kN j (kN j trivial))))))))) (sD (by kernel_rfl)))))) (sS (dN z27 j (KC (en:=eI) (M:=([x73]:List Int)) j MF j fO j j l9 (.inl ⟨_,j⟩) j j j (eX qj) j j (kL j j) (dZ j fun _=>j))) (kN j (kN j (kN j (kN j (kN j (kN j (kN j (kY ⟨j,trivial⟩ (kY ⟨j,trivial⟩ trivial))))))))) (sS (dN z27 j (oFA (r':=.mp 19 0 0) j yf j j)) (kY ⟨j,trivial⟩ (kY ⟨j,trivial⟩ (kY ⟨j,trivial⟩ (kY ⟨j,trivial⟩ (kY ⟨j,trivial⟩ (kY ⟨j,trivial⟩ (kY ⟨j,trivial⟩ (kY ⟨j,trivial⟩ (kY ⟨j,trivial⟩ trivial))))))))) (sS (dN z27 j (oLd (cs:=[.own 19 0 0]) j zl j j)) (kY ⟨j,trivial⟩ (kY ⟨j,trivial⟩ (kY ⟨j,trivial⟩ (kY ⟨j,trivial⟩ (kY ⟨j,trivial⟩ (kY ⟨j,trivial⟩ (kY ⟨j,trivial⟩ (kY ⟨j,trivial⟩ (kY ⟨j,trivial⟩ trivial))))))))) (t j j (Hr j qj uF j j j j (fun e=>nomatch e))<|sS (dN z27 j (KA (v':=x76) oC j j j j (tkO j j tk0) j j (eX qj) j)) (kN j (kN j (kN j (kN j (kN j (kN j (kN j (kN j (kN j trivial))))))))) (sD (by kernel_rfl))))))) (sS (dN z27 j (KC (en:=eI) (M:=([x73]:List Int)) j MF j fO j j l9 (.inl ⟨_,j⟩) j j j (eX qj) j j (kL j j) (dZ j fun _=>j))) (kN j (kN j (kN j (kN j (kN j (kN j (kN j (kY ⟨j,trivial⟩ (kY ⟨j,trivial⟩ trivial))))))))) (sS (dN z27 j (oNl j j j)) (kY ⟨j,trivial⟩ (kY ⟨j,trivial⟩ (kY ⟨j,trivial⟩ (kY ⟨j,trivial⟩ (kY ⟨j,trivial⟩ (kY ⟨j,trivial⟩ (kY ⟨j,trivial⟩ (kY ⟨j,trivial⟩ (kY ⟨j,trivial⟩ trivial))))))))) (sS (dN z27 j (oFA (r':=.mp 19 0 0) j yf j j)) (kY ⟨j,trivial⟩ (kY ⟨j,trivial⟩ (kY ⟨j,trivial⟩ (kY ⟨j,trivial⟩ (kY ⟨j,trivial⟩ (kY ⟨j,trivial⟩ (kY ⟨j,trivial⟩ (kY ⟨j,trivial⟩ (kY ⟨j,trivial⟩ trivial))))))))) (sS (dN z27 j (oLd (cs:=[.own 19 0 0]) j zl j j)) (kY ⟨j,trivial⟩ (kY ⟨j,trivial⟩ (kY ⟨j,trivial⟩ (kY ⟨j,trivial⟩ (kY ⟨j,trivial⟩ (kY ⟨j,trivial⟩ (kY ⟨j,trivial⟩ (kY ⟨j,trivial⟩ (kY ⟨j,trivial⟩ trivial))))))))) (t j j (Hr j qj uF j j j j (fun e=>nomatch e))<|sS (dN z27 j (KA (v':=x76) oC j j j j (tkO j j tk0) j j (eX qj) j)) (kN j (kN j (kN j (kN j (kN j (kN j (kN j (kN j (kN j trivial))))))))) (sD (by kernel_rfl))))))))))<|Unw.blk<|us<|g0 j j (q (oMv j j)<|q (oBi j j j j)<|q (ae j j)<|nl)<|Unw.nil<|?_
    cases h
    exact ⟨j,(by kernel_rfl)⟩
   ·refine Go.exit<|ux<|Unw.nil<|?_
    cases h
    exact ⟨j,(by kernel_rfl)⟩
  ·rintro ⟨e,st⟩ hp
   obtain ⟨jR,rfl⟩:∃y,y=o:=⟨o,rfl⟩
   obtain ⟨he,hst⟩:=hp
   obtain rfl:e= .exit 2:=he
   refine Unw.iT<|us<|gs<|gs<|g2 c27 j j hst (q (ae j j)<|nl)<|us<|Go.block<|?_
   obtain ⟨o,hl,h⟩:=bs h
   refine gl c27 j _ (fun (s:(Int×(List (List Int))))=>match s with | (o9,oD)=>mk [(1,D 2 (W 3 ak aI)),(9,M 19),(13,iv o9)] [(19,Oa [⟨.dp 0,0,0,W 1 (eL 1 eI) jR⟩,Z (W 1 (eL 1 eI) oD),C (I aN),C (I 10),Z (W 1 eI ([]:List Int)),C (I 0),C (I bz),C (V false)])]) (fun (wP:(List (List Int))) (p:Ex×St)=>p.1= .exit 4∧p.2.norm ([9],[19])=mk [(9,M 19)] [(19,Oa [⟨.dp 0,0,0,W 1 (eL 1 eI) jR⟩,Z (W 1 (eL 1 eI) wP),C (I aN),C (I 10),Z (W 1 eI ([]:List Int)),C (I 0),C (I bz),C (V false)])]) hl (by kernel_rfl) ?_ ?_ ?_
   ·intro o p hp e
    exact nomatch (hp.1.symm.trans e)
   ·rintro ⟨o9,oD⟩ o h
    unfold pg at h
    dsimp only at h
    refine gs<|gs<|g0 j j (q (oMv j j)<|q (oMv j j)<|q (gB j j Fe j)<|q (oBi j j j j)<|nl)<|us<|gc h j ah (fun MB h=>?_) fun MB h=>?_
    ·refine Go.skip<|us<|gs<|Go.block<|gs<|g0 j j (q (oBS (es:=List.map eI ([]:List Int)) j fO j pt0 (dZ j fun _=>j))<|q (jZ j j j j j)<|nl)<|us<|gs<|gs<|g0 j j (q (ae j j)<|nl)<|us<|Go.block<|?_
     obtain ⟨o,hl,h⟩:=bs h
     refine gl c27 j _ (fun (s:(Int×(List Int)))=>match s with | (yP,wZ)=>mk [(1,D 2 (W 3 ak aI)),(9,M 19),(13,iv o9),(14,H 14 0),(15,iv yP)] [(14,Oc [Z (W 1 eI wZ)]),(19,Oa [⟨.dp 0,0,0,W 1 (eL 1 eI) jR⟩,Z (W 1 (eL 1 eI) oD),C (I aN),C (I 10),Z (W 1 eI ([]:List Int)),C (I 0),C (I bz),C (V false)])]) (fun (pV:(List Int)) (p:Ex×St)=>p.1= .exit 6∧p.2.norm ([1,9,13,14],[14,19])=mk [(1,D 2 (W 3 ak aI)),(9,M 19),(13,iv o9),(14,H 14 0)] [(14,Oc [Z (W 1 eI pV)]),(19,Oa [⟨.dp 0,0,0,W 1 (eL 1 eI) jR⟩,Z (W 1 (eL 1 eI) oD),C (I aN),C (I 10),Z (W 1 eI ([]:List Int)),C (I 0),C (I bz),C (V false)])]) hl (by kernel_rfl) ?_ ?_ ?_
     ·intro o p hp e
      exact nomatch (hp.1.symm.trans e)
     ·rintro ⟨yP,wZ⟩ o h
      unfold o8 at h
      dsimp only at h
      refine gs<|gs<|g0 j j (q (oMv j j)<|q (oMv j j)<|q (gB j j Fe j)<|q (oBi j j j j)<|nl)<|us<|gc h j ah (fun AZ h=>?_) fun AZ h=>?_
      ·refine Go.skip<|us<|gs<|Go.block<|?_
       obtain ⟨x94,ado,h⟩:=bs h
       obtain ⟨x97,adp,h⟩:=bs h
       obtain ⟨x98,hx98,h⟩:=bs h
       obtain ⟨x100,afh,h⟩:=bs h
       refine gd c27 j j j j (mk [(1,D 2 (W 3 ak aI)),(9,M 19),(13,iv o9),(14,H 14 0),(15,iv yP)] [(14,Oc [Z (W 1 eI x100)]),(19,Oa [⟨.dp 0,0,0,W 1 (eL 1 eI) jR⟩,Z (W 1 (eL 1 eI) oD),C (I aN),C (I 10),Z (W 1 eI ([]:List Int)),C (I 0),C (I bz),C (V false)])]) (t j j (oMv j j)<|t j j (oMv j j)<|t j j (oMv j j)<|t j j (gp j ado Ia j j)<|t j j (oMv j j)<|t j j (oMv j j)<|t j j (gp j adp Ia j j)<|sS (dN z27 j (oCa (xs:=[.v false [.im 2 _],.v false [.im 2 _]]) (vs:=[(false,[.im 0 _])]) (v:=.v false [.im 0 _]) (Fj hx98) (.inl j) j S9 j (ppC j (ppC j pp0)) j j pb0 j j j)) trivial (sS (dN z27 j (oBS (es:=List.map eI ([x98]:List Int)) j fO j (ptC j (fxI fx0) j pt0) (dZ j fun _=>j))) trivial (sS (dN z27 j (ET (en:=eI) (M:=([x98]:List Int)) j afh j fO j j l9 (.inl ⟨_,j⟩) j j j j (kL j j) (dZ j fun _=>j))) trivial (sS (dN z27 j (jZ j j j j j)) trivial (sD (by kernel_rfl))))))<|Unw.blk<|us<|g0 j j (q (oMv j j)<|q (oBi j j j j)<|q (ae j j)<|nl)<|Unw.nil<|?_
       cases h
       exact ⟨j,(by kernel_rfl)⟩
      ·refine Go.exit<|ux<|Unw.nil<|?_
       cases h
       exact ⟨j,(by kernel_rfl)⟩
     ·rintro ⟨e,st⟩ hp
      obtain ⟨pV,rfl⟩:∃y,y=o:=⟨o,rfl⟩
      obtain ⟨he,hst⟩:=hp
      obtain rfl:e= .exit 6:=he
      refine Unw.iT<|us<|?_
      obtain ⟨yc,XY,h⟩:=bs h
      refine g2 c27 j j hst (q (oMv j j)<|q (oMv j j)<|q (oNl j j j)<|q (oFA (r':=.mp 19 0 1) j OZ j j)<|q (oLd (cs:=[.own 19 0 1]) j zl j j)<|q (oMv j j)<|q (oBS (es:=List.map (eL 1 eI) ([pV]:List (List Int))) j uF j (ptC j (fxO j j fx0) j pt0) (Df j))<|q (ET (en:=(eL 1 eI)) (M:=([pV]:List (List Int))) j XY j uF j j Tt (.inl ⟨_,j⟩) j j j j (kL j j) (Df j))<|q (oNl j j j)<|q (oFA (r':=.mp 19 0 1) j OZ j j)<|q (oSt zl j j j (tkO j j tk0) j j j)<|nl)<|Unw.blk<|us<|g1 j j (mk [(1,D 2 (W 3 ak aI)),(9,M 19),(13,iv o9)] [(19,Oa [⟨.dp 0,0,0,W 1 (eL 1 eI) jR⟩,Z (W 1 (eL 1 eI) yc),C (I aN),C (I 10),Z (W 1 eI ([]:List Int)),C (I 0),C (I bz),C (V false)])]) (q (oMv j j)<|q (oBi j j j j)<|q (ae j j)<|nl)<|Unw.nil<|?_
      cases h
      exact ⟨j,(by kernel_rfl)⟩
    ·refine Go.exit<|ux<|Unw.nil<|?_
     cases h
     exact ⟨j,(by kernel_rfl)⟩
   ·rintro ⟨e,st⟩ hp
    obtain ⟨wP,rfl⟩:∃y,y=o:=⟨o,rfl⟩
    obtain ⟨he,hst⟩:=hp
    obtain rfl:e= .exit 4:=he
    refine Unw.iT<|us<|gs<|g2 c27 j j hst (q (oMv j j)<|q (YU j j)<|nl)<|us<|Go.ret (Unw.ret ?_)
    cases h
    exact fr agF j
theorem MG {bW:(List Int)} {n_1:Int} {r:(List Int)} (h:xg bW n_1=some r):FX 48 [.im 2 false [W 1 eI bW],.im 2 false [I n_1]] (B0 [(false,[.ow 0 1 (List.map eI r)])]):=by
 unfold xg at h
 refine gn 49 Tryz.func48 rfl ?_
 refine gs<|g0 j j (q (uO j j Eg)<|nl)<|us<|gs<|g0 j j (q (oBS (es:=List.map eI ([]:List Int)) j fO j pt0 (dZ j fun _=>j))<|q (jZ j j j j j)<|nl)<|us<|gs<|g0 j j (q (ae j j)<|nl)<|us<|gs<|gs<|g0 j j (q (ae j j)<|nl)<|us<|Go.block<|?_
 obtain ⟨o,hl,h⟩:=bs h
 refine gl c48 j _ (fun (s:(Bool×Int×(List Int)))=>match s with | (uA,uj,eF)=>mk [(0,D 2 (W 1 eI bW)),(1,iv n_1),(5,H 5 0),(6,bv uA),(7,iv uj)] [(5,Oc [Z (W 1 eI eF)])]) (fun (o:(Bool×(List Int))) (p:Ex×St)=>match o with | (uB,jB)=>p.1= .exit 0∧p.2.norm ([1,5,6],[5])=mk [(1,iv n_1),(5,H 5 0),(6,bv uB)] [(5,Oc [Z (W 1 eI jB)])]) hl (by kernel_rfl) ?_ ?_ ?_
 ·intro o p hp e
  obtain ⟨uB,jB⟩:=o
  exact nomatch (hp.1.symm.trans e)
 ·rintro ⟨uA,uj,eF⟩ o h
  unfold fZ at h
  dsimp only at h
  refine gs<|gs<|g0 j j (q (oMv j j)<|q (oMv j j)<|q (gB j j l9 j)<|q (oBi j j j j)<|nl)<|us<|gc h j ah (fun hc12 h=>?_) fun hc12 h=>?_
  ·refine Go.skip<|us<|gs<|Go.block<|gs<|gs<|?_
   obtain ⟨OJ,y9,h⟩:=bs h
   refine gX c48 j j j (mk [(0,D 2 (W 1 eI bW)),(1,iv n_1),(5,H 5 0),(6,bv uA),(7,iv uj),(24,bv OJ)] [(5,Oc [Z (W 1 eI eF)])]) ?_ ?_
   ·refine xq (oMv j j)<|xq (oUn j j j)<|xq (oMv j j)<|?_
    refine ic y9 (fun hc13 y9=>?_) fun hc13 y9=>?_
    ·cases y9
     exact aj j j (nF (iR.2 hc13)) j<|aj j j (nF (iR.2 hc13)) j<|aj j j (nF (iR.2 hc13)) j<|aj j j (nF (iR.2 hc13)) j<|aj j j (nF (iR.2 hc13)) j<|aj j j (nF (iR.2 hc13)) j<|xq (dK j j (nF (iR.2 hc13)) j)<|xn
    ·obtain ⟨x20,xM,y9⟩:=bs y9
     cases y9
     exact xqT j j (nT (byF iR hc13)) (oMv j j)<|xqT j j (nT (byF iR hc13)) (oMv j j)<|xqT j j (nT (byF iR hc13)) (gp j xM fO j j)<|xqT j j (nT (byF iR hc13)) (oLd (cs:=[.im 2 _]) j tF2 j j)<|xqT j j (nT (byF iR hc13)) (oMv j j)<|xqT j j (nT (byF iR hc13)) (oBi j j j j)<|xq (bF j j (nT (byF iR hc13)) j)<|xn
   ·refine us<|Go.join (fun st=>∃yS,∃yT,iW uj bW yS yT=some o∧st.norm ([0,1,5,6,7],[5])=mk [(0,D 2 (W 1 eI bW)),(1,iv n_1),(5,H 5 0),(6,bv yS),(7,iv uj)] [(5,Oc [Z (W 1 eI yT)])]) ?_ ?_
    ·rintro st ⟨yS,yT,h,hst⟩
     unfold iW at h
     refine us<|?_
     obtain ⟨x38,hx38,h⟩:=bs h
     obtain ⟨x41,Lm,h⟩:=bs h
     refine g2 c48 j j hst (q (oMv j j)<|q (oMv j j)<|q (oMv j j)<|q (gp j hx38 fO j j)<|q (oLd (cs:=[.im 2 _]) j tF2 j j)<|q (oBS (es:=List.map eI ([x38]:List Int)) j fO j (ptC j (fxI fx0) j pt0) (dZ j fun _=>j))<|q (ET (en:=eI) (M:=([x38]:List Int)) j Lm j fO j j l9 (.inl ⟨_,j⟩) j j j j (kL j j) (dZ j fun _=>j))<|q (jZ j j j j j)<|nl)<|Unw.blk<|us<|g0 j j (q (oMv j j)<|q (oBi j j j j)<|q (ae j j)<|nl)<|Unw.nil<|?_
     cases h
     exact ⟨j,(by kernel_rfl)⟩
    ·intro K16
     refine gc h j iR (fun hc17 h=>?_) fun hc17 h=>?_
     ·refine gs<|g0 j j (q (ae j j)<|nl)<|us<|gs<|?_
      obtain ⟨x27,hx27,h⟩:=bs h
      refine g0 j j (q (oMv j j)<|q (oMv j j)<|q (gp j hx27 fO j j)<|q (oLd (cs:=[.im 2 _]) j tF2 j j)<|q (oMv j j)<|q (oBi j j j j)<|nl)<|us<|gc h j ah (fun hc18 h=>?_) fun hc18 h=>?_
      ·obtain ⟨x34,hx34,h⟩:=bs h
       exact g0 j j (q (oMv j j)<|q (oMv j j)<|q (oBS (es:=List.map eI ([n_1]:List Int)) j fO j (ptC j (fxI fx0) j pt0) (dZ j fun _=>j))<|q (ET (en:=eI) (M:=([n_1]:List Int)) j hx34 j fO j j l9 (.inl ⟨_,j⟩) j j j j (kL j j) (dZ j fun _=>j))<|q (jZ j j j j j)<|nl)<|K16 _ ⟨true,x34,h,(by kernel_rfl)⟩
      ·exact Go.skip<|K16 _ ⟨true,eF,h,(by kernel_rfl)⟩
     ·exact Go.skip<|K16 _ ⟨uA,eF,h,(by kernel_rfl)⟩
  ·refine Go.exit<|ux<|Unw.nil<|?_
   cases h
   exact ⟨j,(by kernel_rfl)⟩
 ·rintro ⟨e,st⟩ hp
  obtain ⟨uB,jB⟩:=o
  dsimp only at h
  obtain ⟨he,hst⟩:=hp
  obtain rfl:e= .exit 0:=he
  refine Unw.iT<|us<|gs<|gs<|g2 c48 j j hst (q (oMv j j)<|q (oUn j j j)<|nl)<|us<|Go.join (fun st=>∃yR,pq yR=some r∧st.norm ([5],[5])=mk [(5,H 5 0)] [(5,Oc [Z (W 1 eI yR)])]) ?_ ?_
  ·rintro st ⟨yR,h,hst⟩
   unfold pq at h
   refine us<|gs<|g2 c48 j j hst (q (oMv j j)<|q (jZ j j j j j)<|nl)<|us<|Go.ret (Unw.ret ?_)
   cases h
   exact fr agQ j
  ·intro K10
   by_cases MB:uB=true
   ·rw [if_pos MB] at h
    exact gF j (nF (iR.2 MB))<|Go.skip<|K10 _ ⟨jB,h,(by kernel_rfl)⟩
   ·rw [if_neg MB] at h
    refine gT j (nT (byF iR MB))<|?_
    obtain ⟨x47,Tu,h⟩:=bs h
    exact g0 j j (q (oMv j j)<|q (oMv j j)<|q (oBS (es:=List.map eI ([n_1]:List Int)) j fO j (ptC j (fxI fx0) j pt0) (dZ j fun _=>j))<|q (ET (en:=eI) (M:=([n_1]:List Int)) j Tu j fO j j l9 (.inl ⟨_,j⟩) j j j j (kL j j) (dZ j fun _=>j))<|q (jZ j j j j j)<|nl)<|K10 _ ⟨x47,h,(by kernel_rfl)⟩
theorem MH {bW:(List Int)} {n_1:Int} {r:Bool} (h:xh bW n_1=some r):FX 49 [.im 2 false [W 1 eI bW],.im 2 false [I n_1]] (B0 [(false,[.im 0 (V r)])]):=by
 unfold xh at h
 refine gn 18 Tryz.func49 rfl ?_
 refine gs<|g0 j j (q (ae j j)<|nl)<|us<|gs<|gs<|g0 j j (q (ae j j)<|nl)<|us<|Go.block<|?_
 obtain ⟨o,hl,h⟩:=bs h
 refine gl c49 j _ (fun (aX:Int)=>mk [(0,D 2 (W 1 eI bW)),(1,iv n_1),(5,iv aX)] []) (fun (o:(Unit ⊕ Bool)) (p:Ex×St)=>match o with | (.inl _)=>p.1= .exit 0∧p.2.norm ([],[])=mk [] [] | (.inr r2)=>p.1= .ret∧fin Tryz.prog cfg 49 Tryz.f49 [.im 2 false [W 1 eI bW],.im 2 false [I n_1]] p.2=some (B0 [(false,[.im 0 (V r2)])])) hl (by kernel_rfl) ?_ ?_ ?_
 ·intro o p hp e
  rcases o with u | r2<;>exact nomatch (hp.1.symm.trans e)
 ·rintro aX o h
  unfold qE at h
  refine gs<|gs<|g0 j j (q (oMv j j)<|q (oMv j j)<|q (gB j j l9 j)<|q (oBi j j j j)<|nl)<|us<|gc h j ah (fun hc5 h=>?_) fun hc5 h=>?_
  ·refine Go.skip<|us<|gs<|Go.block<|gs<|?_
   obtain ⟨x14,vG,h⟩:=bs h
   refine g0 j j (q (oMv j j)<|q (oMv j j)<|q (gp j vG fO j j)<|q (oLd (cs:=[.im 2 _]) j tF2 j j)<|q (oMv j j)<|q (oBi j j j j)<|nl)<|us<|gc h j iEq (fun hc6 h=>?_) fun hc6 h=>?_
   ·refine gs<|g0 j j (q (ae j j)<|nl)<|us<|Go.ret (Unw.ret ?_)
    cases h
    exact ⟨j,(fo aeU j)⟩
   ·refine Go.skip<|Unw.blk<|us<|g0 j j (q (oMv j j)<|q (oBi j j j j)<|q (ae j j)<|nl)<|Unw.nil<|?_
    cases h
    exact ⟨j,(by kernel_rfl)⟩
  ·refine Go.exit<|ux<|Unw.nil<|?_
   cases h
   exact ⟨j,(by kernel_rfl)⟩
 ·rintro ⟨e,st⟩ hp
  rcases o with u | r2
  ·dsimp only at h
   obtain ⟨he,hst⟩:=hp
   obtain rfl:e= .exit 0:=he
   refine Unw.iT<|us<|gs<|g2 c49 j j hst (q (ae j j)<|nl)<|us<|Go.ret (Unw.ret ?_)
   cases h
   exact fr aeU j
  ·dsimp only at h
   obtain ⟨he,hfin⟩:=hp
   obtain rfl:e= .ret:=he
   cases h
   exact Unw.ret (fM hfin)
theorem BM {self:aH→Option (Bool×aH)} (ih:∀{x_0:aH} {r:(Bool×aH)},self x_0=some r→FX 28 [.ptr true [(.gone,W 1 (eL 1 eI) x_0.before),(.sh,W 1 (eL 1 eI) x_0.table),(.imm,I x_0.limit),(.imm,I x_0.most),(.sh,W 1 eI x_0.choice),(.imm,I x_0.nodes),(.imm,I x_0.budget),(.imm,V x_0.full)]] ([(false,[.im 0 (V r.1)])],[.ptr true [(.gone,W 1 (eL 1 eI) r.2.before),(.sh,W 1 (eL 1 eI) r.2.table),(.imm,I r.2.limit),(.imm,I r.2.most),(.sh,W 1 eI r.2.choice),(.imm,I r.2.nodes),(.imm,I r.2.budget),(.imm,V r.2.full)]])) {x_0:aH} {r:(Bool×aH)} (h:gu self x_0=some r):FX 28 [.ptr true [(.gone,W 1 (eL 1 eI) x_0.before),(.sh,W 1 (eL 1 eI) x_0.table),(.imm,I x_0.limit),(.imm,I x_0.most),(.sh,W 1 eI x_0.choice),(.imm,I x_0.nodes),(.imm,I x_0.budget),(.imm,V x_0.full)]] ([(false,[.im 0 (V r.1)])],[.ptr true [(.gone,W 1 (eL 1 eI) r.2.before),(.sh,W 1 (eL 1 eI) r.2.table),(.imm,I r.2.limit),(.imm,I r.2.most),(.sh,W 1 eI r.2.choice),(.imm,I r.2.nodes),(.imm,I r.2.budget),(.imm,V r.2.full)]]):=by
 unfold gu at h
 refine Bo (A:=[(0,M 0)]) (B:=[(0,Od [C (W 1 (eL 1 eI) x_0.before),Z (W 1 (eL 1 eI) x_0.table),C (I x_0.limit),C (I x_0.most),Z (W 1 eI x_0.choice),C (I x_0.nodes),C (I x_0.budget),C (V x_0.full)])]) (nt:=148) rfl rfl Tryz.func28 rfl rfl rfl rfl ?_
 refine gs<|g0 j j (q (ae j j)<|nl)<|us<|gs<|g0 j j (q (oMv j j)<|q (oNl j j j)<|q (oFA (r':=.mp 0 0 4) j Dt j j)<|q (oLd (cs:=[.own 0 0 4]) j oC j j)<|q (Ho j j l9 j j j (fun e=>nomatch e))<|q (ae j j)<|nl)<|us<|gs<|gs<|g0 j j (q (oMv j j)<|q (oMv j j)<|q (oNl j j j)<|q (oFA (r':=.mp 0 0 0) j yf j j)<|q (oLd (cs:=[.im 0 _]) j zl j j)<|q (gB j j Tt j)<|q (oBi j j j j)<|nl)<|us<|gc h j iEq (fun hc1 h=>?_) fun hc1 h=>?_
 ·refine gs<|g0 j j (q (ae j j)<|nl)<|us<|Go.ret (Unw.ret ?_)
  cases h
  exact fr aa5 j
 ·refine Go.skip<|us<|gs<|gs<|g0 j j (q (ae j j)<|nl)<|us<|Go.block<|?_
  obtain ⟨o,hl,h⟩:=bs h
  refine gl c28 j _ (fun (s:(Int×(List (List Int))×(List (List Int))×Int×Int×(List Int)×Int×Int×Bool))=>match s with | (gm,bI,bJ,bK,bU,bM,bZ,cu,fD)=>mk [(0,M 0),(3,iv (x_0.choice.length:Int)),(4,iv gm)] [(0,Od [C (W 1 (eL 1 eI) bI),Z (W 1 (eL 1 eI) bJ),C (I bK),C (I bU),Z (W 1 eI bM),C (I bZ),C (I cu),C (V fD)])]) (fun (o:(((List (List Int))×(List (List Int))×Int×Int×(List Int)×Int×Int×Bool) ⊕ (Bool×aH))) (p:Ex×St)=>match o with | (.inl (xk,xm,xu,xw,xx,xy,xA,xB))=>p.1= .exit 0∧p.2.norm ([],[0])=mk [] [(0,Od [C (W 1 (eL 1 eI) xk),Z (W 1 (eL 1 eI) xm),C (I xu),C (I xw),Z (W 1 eI xx),C (I xy),C (I xA),C (V xB)])] | (.inr r2)=>p.1= .ret∧fin Tryz.prog cfg 28 Tryz.f28 [.ptr true [(.gone,W 1 (eL 1 eI) x_0.before),(.sh,W 1 (eL 1 eI) x_0.table),(.imm,I x_0.limit),(.imm,I x_0.most),(.sh,W 1 eI x_0.choice),(.imm,I x_0.nodes),(.imm,I x_0.budget),(.imm,V x_0.full)]] p.2=some ([(false,[.im 0 (V r2.1)])],[.ptr true [(.gone,W 1 (eL 1 eI) r2.2.before),(.sh,W 1 (eL 1 eI) r2.2.table),(.imm,I r2.2.limit),(.imm,I r2.2.most),(.sh,W 1 eI r2.2.choice),(.imm,I r2.2.nodes),(.imm,I r2.2.budget),(.imm,V r2.2.full)]])) hl (by kernel_rfl) ?_ ?_ ?_
  ·intro o p hp e
   rcases o with ⟨xk,xm,xu,xw,xx,xy,xA,xB⟩ | r2<;>exact nomatch (hp.1.symm.trans e)
  ·rintro ⟨gm,bI,bJ,bK,bU,bM,bZ,cu,fD⟩ o h
   unfold dn at h
   dsimp only at h
   refine gs<|gs<|g0 j j (q (oMv j j)<|q (oMv j j)<|q (oNl j j j)<|q (oFA (r':=.mp 0 0 1) j OZ j j)<|q (oLd (cs:=[.own 0 0 1]) j zl j j)<|q (Ho j j Tt j j j (fun e=>nomatch e))<|q (oBi j j j j)<|nl)<|us<|gc h j ah (fun XU h=>?_) fun XU h=>?_
   ·refine Go.skip<|us<|gs<|Go.join (fun st=>∃Aw,∃Az,∃AA,∃AB,∃AL,∃AO,∃AP,∃AQ,fJ self gm Aw Az AA AB AL AO AP AQ=some o∧st.norm ([0,3,4],[0])=mk [(0,M 0),(3,iv (x_0.choice.length:Int)),(4,iv gm)] [(0,Od [C (W 1 (eL 1 eI) Aw),Z (W 1 (eL 1 eI) Az),C (I AA),C (I AB),Z (W 1 eI AL),C (I AO),C (I AP),C (V AQ)])]) ?_ ?_
    ·rintro st ⟨Aw,Az,AA,AB,AL,AO,AP,AQ,h,hst⟩
     unfold fJ at h
     refine us<|g2 c28 j j hst (q (oMv j j)<|q (oBi j j j j)<|q (ae j j)<|nl)<|Unw.nil<|?_
     cases h
     exact ⟨j,(by kernel_rfl)⟩
    ·intro K38
     refine Go.block<|gs<|g0 j j (q (oBS (es:=List.map eI ([]:List Int)) j fO j pt0 (dZ j fun _=>j))<|q (jZ j j j j j)<|nl)<|us<|gs<|gs<|g0 j j (q (ae j j)<|nl)<|us<|Go.block<|?_
     obtain ⟨o,hl,h⟩:=bs h
     refine gl c28 j _ (fun (s:(Int×(List Int)))=>match s with | (Hz,yU)=>mk [(0,M 0),(3,iv (x_0.choice.length:Int)),(4,iv gm),(5,H 5 0),(6,iv Hz)] [(0,Od [C (W 1 (eL 1 eI) bI),Z (W 1 (eL 1 eI) bJ),C (I bK),C (I bU),Z (W 1 eI bM),C (I bZ),C (I cu),C (V fD)]),(5,Oc [Z (W 1 eI yU)])]) (fun (oM:(List Int)) (p:Ex×St)=>p.1= .exit 2∧p.2.norm ([0,3,4,5],[0,5])=mk [(0,M 0),(3,iv (x_0.choice.length:Int)),(4,iv gm),(5,H 5 0)] [(0,Od [C (W 1 (eL 1 eI) bI),Z (W 1 (eL 1 eI) bJ),C (I bK),C (I bU),Z (W 1 eI bM),C (I bZ),C (I cu),C (V fD)]),(5,Oc [Z (W 1 eI oM)])]) hl (by kernel_rfl) ?_ ?_ ?_
     ·intro o p hp e
      exact nomatch (hp.1.symm.trans e)
     ·rintro ⟨Hz,yU⟩ o h
      unfold fK at h
      dsimp only at h
      refine gs<|gs<|g0 j j (q (oMv j j)<|q (oMv j j)<|q (oBi j j j j)<|nl)<|us<|gc h j ah (fun VD h=>?_) fun VD h=>?_
      ·refine Go.skip<|us<|gs<|Go.block<|?_
       obtain ⟨x42,VB,h⟩:=bs h
       obtain ⟨x44,ahq,h⟩:=bs h
       refine g0 j j (q (oMv j j)<|q (oMv j j)<|q (oNl j j j)<|q (oFA (r':=.mp 0 0 4) j Dt j j)<|q (oLd (cs:=[.own 0 0 4]) j oC j j)<|q (oMv j j)<|q (Ak j VB fO j j j j)<|q (IW (cs:=[.im 0 _]) j tF2 j j j j (eX VB) j j)<|q (oCr (xs:=[.v false [.own 5 0 0],.v false [.im 0 _]]) (vs:=[(false,[.own 44 0 0])]) (v:=.v false [.own 44 0 0]) (c:=⟨.sh,0,_⟩) (cs:=[]) (MG ahq) (.inl j) j Vt j (ppC j (ppC j pp0)) j j pb0 j j j)<|q (jZ j j j j j)<|nl)<|Unw.blk<|us<|g0 j j (q (oMv j j)<|q (oBi j j j j)<|q (ae j j)<|nl)<|Unw.nil<|?_
       cases h
       exact ⟨j,(by kernel_rfl)⟩
      ·refine Go.exit<|ux<|Unw.nil<|?_
       cases h
       exact ⟨j,(by kernel_rfl)⟩
     ·rintro ⟨e,st⟩ hp
      obtain ⟨oM,rfl⟩:∃y,y=o:=⟨o,rfl⟩
      obtain ⟨he,hst⟩:=hp
      obtain rfl:e= .exit 2:=he
      refine Unw.iT<|us<|gs<|?_
      obtain ⟨x47,Tu,h⟩:=bs h
      refine gX c28 j j hst (mk [(0,M 0),(3,iv (x_0.choice.length:Int)),(4,iv gm),(7,bv (x47||(decide ((oM.length:Int) <bU))))] [(0,Od [C (W 1 (eL 1 eI) bI),Z (W 1 (eL 1 eI) bJ),C (I bK),C (I bU),Z (W 1 eI bM),C (I bZ),C (I cu),C (V fD)])]) ?_ ?_
      ·refine xq (oMv j j)<|xq (oMv j j)<|xq (oCa (xs:=[.v false [.own 5 0 0],.v false [.im 0 _]]) (vs:=[(false,[.im 0 _])]) (v:=.v false [.im 0 _]) (MH Tu) (.inl j) j Vu j (ppC j (ppC j pp0)) j j pb0 j j j)<|xq (oMv j j)<|?_
       by_cases ql:x47=true
       ·exact aj rfl rfl (iR.2 ql) rfl<|aj rfl rfl (iR.2 ql) rfl<|aj rfl rfl (iR.2 ql) rfl<|aj rfl rfl (iR.2 ql) rfl<|aj rfl rfl (iR.2 ql) rfl<|aj rfl rfl (iR.2 ql) rfl<|aj rfl rfl (iR.2 ql) rfl<|xq (bF rfl rfl (iR.2 ql) rfl)<|xq (ae rfl rfl)<|xn (Eq.trans (b:=(fun uk:Bool=>mk [(0,M 0),(3,iv (x_0.choice.length:Int)),(4,iv gm),(7,bv uk)] [(0,Od [C (W 1 (eL 1 eI) bI),Z (W 1 (eL 1 eI) bJ),C (I bK),C (I bU),Z (W 1 eI bM),C (I bZ),C (I cu),C (V fD)])]) true) (by kernel_rfl) (congrArg (fun uk:Bool=>mk [(0,M 0),(3,iv (x_0.choice.length:Int)),(4,iv gm),(7,bv uk)] [(0,Od [C (W 1 (eL 1 eI) bI),Z (W 1 (eL 1 eI) bJ),C (I bK),C (I bU),Z (W 1 eI bM),C (I bZ),C (I cu),C (V fD)])]) (by first | rfl | (simp [(iR.2 ql)];done) | (simp [(iR.2 ql)];omega))))
       ·exact xqT rfl rfl (byF iR ql) (oMv rfl rfl)<|xqT rfl rfl (byF iR ql) (Ho rfl rfl l9 rfl rfl rfl (fun e=>nomatch e))<|xqT rfl rfl (byF iR ql) (oMv rfl rfl)<|xqT rfl rfl (byF iR ql) (oNl rfl rfl rfl)<|xqT rfl rfl (byF iR ql) (oFA (r':=.mp 0 0 3) rfl Xz rfl rfl)<|xqT rfl rfl (byF iR ql) (oLd (cs:=[.im 0 _]) rfl tF2 rfl rfl)<|xqT rfl rfl (byF iR ql) (oBi rfl rfl rfl rfl)<|xq (dK rfl rfl (byF iR ql) rfl)<|xq (ae rfl rfl)<|xn (Eq.trans (b:=(fun uk:Bool=>mk [(0,M 0),(3,iv (x_0.choice.length:Int)),(4,iv gm),(7,bv uk)] [(0,Od [C (W 1 (eL 1 eI) bI),Z (W 1 (eL 1 eI) bJ),C (I bK),C (I bU),Z (W 1 eI bM),C (I bZ),C (I cu),C (V fD)])]) (decide ((oM.length:Int) <bU))) (by kernel_rfl) (congrArg (fun uk:Bool=>mk [(0,M 0),(3,iv (x_0.choice.length:Int)),(4,iv gm),(7,bv uk)] [(0,Od [C (W 1 (eL 1 eI) bI),Z (W 1 (eL 1 eI) bJ),C (I bK),C (I bU),Z (W 1 eI bM),C (I bZ),C (I cu),C (V fD)])]) (by first | rfl | (simp [(byF iR ql)];done) | (simp [(byF iR ql)];omega))))
      ·refine us<|gs<|gs<|g0 j j (q (ae j j)<|nl)<|us<|Go.block<|?_
       obtain ⟨o,hl,h⟩:=bs h
       refine gl c28 j _ (fun (s:(Bool×Int))=>match s with | (kQ,qh)=>mk [(0,M 0),(3,iv (x_0.choice.length:Int)),(4,iv gm),(7,bv kQ),(8,iv qh)] [(0,Od [C (W 1 (eL 1 eI) bI),Z (W 1 (eL 1 eI) bJ),C (I bK),C (I bU),Z (W 1 eI bM),C (I bZ),C (I cu),C (V fD)])]) (fun (vk:Bool) (p:Ex×St)=>p.1= .exit 4∧p.2.norm ([0,3,4,7],[0])=mk [(0,M 0),(3,iv (x_0.choice.length:Int)),(4,iv gm),(7,bv vk)] [(0,Od [C (W 1 (eL 1 eI) bI),Z (W 1 (eL 1 eI) bJ),C (I bK),C (I bU),Z (W 1 eI bM),C (I bZ),C (I cu),C (V fD)])]) hl (by kernel_rfl) ?_ ?_ ?_
       ·intro o p hp e
        exact nomatch (hp.1.symm.trans e)
       ·rintro ⟨kQ,qh⟩ o h
        unfold dL at h
        dsimp only at h
        refine gs<|gs<|?_
        obtain ⟨x63,ahr,h⟩:=bs h
        refine gX c28 j j j (mk [(0,M 0),(3,iv (x_0.choice.length:Int)),(4,iv gm),(7,bv kQ),(8,iv qh),(69,bv ((decide (qh< (x63.length:Int)))&&kQ))] [(0,Od [C (W 1 (eL 1 eI) bI),Z (W 1 (eL 1 eI) bJ),C (I bK),C (I bU),Z (W 1 eI bM),C (I bZ),C (I cu),C (V fD)])]) ?_ ?_
        ·refine xq (oMv j j)<|xq (oMv j j)<|xq (oNl j j j)<|xq (oFA (r':=.mp 0 0 0) j yf j j)<|xq (oLd (cs:=[.im 0 _]) j zl j j)<|xq (oMv j j)<|xq (gp j ahr uF j j)<|xq (oLd (cs:=[.im 0 _]) j oC j j)<|xq (gB j j l9 j)<|xq (oBi j j j j)<|xq (oMv j j)<|?_
         by_cases QX:qh< (x63.length:Int)
         ·exact xqT rfl rfl (ah.2 QX) (oMv rfl rfl)<|xq (bF rfl rfl (ah.2 QX) rfl)<|xn (Eq.trans (b:=(fun zf:Bool=>mk [(0,M 0),(3,iv (x_0.choice.length:Int)),(4,iv gm),(7,bv kQ),(8,iv qh),(69,bv zf)] [(0,Od [C (W 1 (eL 1 eI) bI),Z (W 1 (eL 1 eI) bJ),C (I bK),C (I bU),Z (W 1 eI bM),C (I bZ),C (I cu),C (V fD)])]) kQ) (by kernel_rfl) (congrArg (fun zf:Bool=>mk [(0,M 0),(3,iv (x_0.choice.length:Int)),(4,iv gm),(7,bv kQ),(8,iv qh),(69,bv zf)] [(0,Od [C (W 1 (eL 1 eI) bI),Z (W 1 (eL 1 eI) bJ),C (I bK),C (I bU),Z (W 1 eI bM),C (I bZ),C (I cu),C (V fD)])]) (by first | rfl | (simp [(ah.2 QX)];done) | (simp [(ah.2 QX)];omega))))
         ·exact aj rfl rfl (byF ah QX) rfl<|xq (dK rfl rfl (byF ah QX) rfl)<|xn (Eq.trans (b:=(fun zf:Bool=>mk [(0,M 0),(3,iv (x_0.choice.length:Int)),(4,iv gm),(7,bv kQ),(8,iv qh),(69,bv zf)] [(0,Od [C (W 1 (eL 1 eI) bI),Z (W 1 (eL 1 eI) bJ),C (I bK),C (I bU),Z (W 1 eI bM),C (I bZ),C (I cu),C (V fD)])]) false) (by kernel_rfl) (congrArg (fun zf:Bool=>mk [(0,M 0),(3,iv (x_0.choice.length:Int)),(4,iv gm),(7,bv kQ),(8,iv qh),(69,bv zf)] [(0,Od [C (W 1 (eL 1 eI) bI),Z (W 1 (eL 1 eI) bJ),C (I bK),C (I bU),Z (W 1 eI bM),C (I bZ),C (I cu),C (V fD)])]) (by first | rfl | (simp [(byF ah QX)];done) | (simp [(byF ah QX)];omega))))
        ·refine us<|gc h j (xU ah iR) (fun ahs h=>?_) fun ahs h=>?_
         ·refine Go.skip<|us<|gs<|Go.block<|?_
          obtain ⟨x77,abh,h⟩:=bs h
          obtain ⟨x88,aht,h⟩:=bs h
          obtain ⟨x91,hx91,h⟩:=bs h
          obtain ⟨x93,hx93,h⟩:=bs h
          obtain ⟨x95,hx95,h⟩:=bs h
          refine gd c28 j j j j (mk [(0,M 0),(3,iv (x_0.choice.length:Int)),(4,iv gm),(7,bv (decide (x95≥bK))),(8,iv qh)] [(0,Od [C (W 1 (eL 1 eI) bI),Z (W 1 (eL 1 eI) bJ),C (I bK),C (I bU),Z (W 1 eI bM),C (I bZ),C (I cu),C (V fD)])]) (t j j (oMv j j)<|t j j (oNl j j j)<|t j j (oFA (r':=.mp 0 0 1) j OZ j j)<|t j j (oLd (cs:=[.own 0 0 1]) j zl j j)<|t j j (oMv j j)<|t j j (Ak j abh uF j j j j)<|t j j (IW (cs:=[.im 0 _]) j oC j j j j (eX abh) j j)<|t j j (oMv j j)<|t j j (oNl j j j)<|t j j (oFA (r':=.mp 0 0 4) j Dt j j)<|t j j (oLd (cs:=[.own 0 0 4]) j oC j j)<|t j j (oMv j j)<|t j j (oNl j j j)<|t j j (oFA (r':=.mp 0 0 0) j yf j j)<|t j j (oLd (cs:=[.im 0 _]) j zl j j)<|t j j (oMv j j)<|t j j (gp j aht uF j j)<|t j j (oLd (cs:=[.im 0 _]) j oC j j)<|t j j (oMv j j)<|t j j (gp j hx91 fO j j)<|t j j (oLd (cs:=[.im 0 _]) j tF2 j j)<|t j j (Ak j hx93 fO j j j j)<|t j j (IW (cs:=[.im 0 _]) j tF2 j j j j (eX hx93) j j)<|t j j (gp j hx95 fO j j)<|t j j (oLd (cs:=[.im 0 _]) j tF2 j j)<|t j j (oMv j j)<|t j j (oNl j j j)<|t j j (oFA (r':=.mp 0 0 2) j acU j j)<|t j j (oLd (cs:=[.im 0 _]) j tF2 j j)<|t j j (oBi j j j j)<|sS (dN z28 j (ae j j)) trivial (sD (by kernel_rfl)))<|Unw.blk<|us<|g0 j j (q (oMv j j)<|q (oBi j j j j)<|q (ae j j)<|nl)<|Unw.nil<|?_
          cases h
          exact ⟨j,(by kernel_rfl)⟩
         ·refine Go.exit<|ux<|Unw.nil<|?_
          cases h
          exact ⟨j,(by kernel_rfl)⟩
       ·rintro ⟨e,st⟩ hp
        obtain ⟨vk,rfl⟩:∃y,y=o:=⟨o,rfl⟩
        obtain ⟨he,hst⟩:=hp
        obtain rfl:e= .exit 4:=he
        refine Unw.iT<|us<|gs<|gs<|g2 c28 j j hst (q (oMv j j)<|q (oUn j j j)<|nl)<|us<|?_
        by_cases pM:vk=true
        ·rw [if_pos pM] at h
         refine gF j (nF (iR.2 pM))<|Go.skip<|us<|gs<|gs<|gd c28 j j j j (mk [(0,M 0),(3,iv (x_0.choice.length:Int)),(4,iv gm),(112,bv (bZ==cu))] [(0,Od [C (W 1 (eL 1 eI) bI),Z (W 1 (eL 1 eI) bJ),C (I bK),C (I bU),Z (W 1 eI bM),C (I bZ),C (I cu),C (V fD)])]) (t j j (oMv j j)<|t j j (oNl j j j)<|t j j (oFA (r':=.mp 0 0 5) j SH j j)<|t j j (oLd (cs:=[.im 0 _]) j tF2 j j)<|t j j (oMv j j)<|t j j (oNl j j j)<|t j j (oFA (r':=.mp 0 0 6) j acV j j)<|t j j (oLd (cs:=[.im 0 _]) j tF2 j j)<|t j j (oBi j j j j)<|sD (by kernel_rfl))<|us<|Go.join (fun st=>∃nH,bH self gm x_0 bI bJ bK bU bM bZ cu nH=some o∧st.norm ([0,3,4],[0])=mk [(0,M 0),(3,iv (x_0.choice.length:Int)),(4,iv gm)] [(0,Od [C (W 1 (eL 1 eI) bI),Z (W 1 (eL 1 eI) bJ),C (I bK),C (I bU),Z (W 1 eI bM),C (I bZ),C (I cu),C (V nH)])]) ?_ ?_
         ·rintro st ⟨nH,h,hst⟩
          unfold bH at h
          refine us<|gs<|gs<|g2 c28 j j hst (q (oMv j j)<|q (oNl j j j)<|q (oFA (r':=.mp 0 0 7) j SI j j)<|q (oLd (cs:=[.im 0 _]) j tF4 j j)<|nl)<|us<|gc h j iR (fun ahu h=>?_) fun ahu h=>?_
          ·refine gs<|g0 j j (q (ae j j)<|nl)<|us<|Go.ret (Unw.ret ?_)
           cases h
           exact ⟨j,(fo aa5 j)⟩
          ·refine Go.skip<|us<|gs<|g0 j j (q (oMv j j)<|q (oNl j j j)<|q (oFA (r':=.mp 0 0 5) j SH j j)<|q (oLd (cs:=[.im 0 _]) j tF2 j j)<|q (oBi j j j j)<|q (oNl j j j)<|q (oFA (r':=.mp 0 0 5) j SH j j)<|q (oSt tF2 j j j (tkI tk0) j j j)<|nl)<|us<|gs<|?_
           obtain ⟨Y3,afi,h⟩:=bs h
           refine g1 j j (mk [(0,M 0),(3,iv (x_0.choice.length:Int)),(4,iv gm)] [(0,Od [C (W 1 (eL 1 eI) bI),Z (W 1 (eL 1 eI) bJ),C (I bK),C (I bU),Z (W 1 eI bM),C (I (w64 (bZ+1))),C (I cu),C (V nH)])]) (q (oMv j j)<|q (oMv j j)<|q (oNl j j j)<|q (oFA (r':=.mp 0 0 4) j Dt j j)<|q (oLd (cs:=[.own 0 0 4]) j oC j j)<|q (oMv j j)<|q (oBS (es:=List.map eI ([gm]:List Int)) j fO j (ptC j (fxI fx0) j pt0) (dZ j fun _=>j))<|q (ET (en:=eI) (M:=([gm]:List Int)) j afi j fO j j l9 (.inl ⟨_,j⟩) j j j j (kL j j) (dZ j fun _=>j))<|q (oNl j j j)<|q (oFA (r':=.mp 0 0 4) j Dt j j)<|q (oSt oC j j j (tkO j j tk0) j j j)<|nl)<|us<|gs<|gs<|?_
           obtain ⟨mV,afj,h⟩:=bs h
           refine g1 j j (mk [(0,M 0),(3,iv (x_0.choice.length:Int)),(4,iv gm)] [(0,Od [C (W 1 (eL 1 eI) bI),Z (W 1 (eL 1 eI) bJ),C (I bK),C (I bU),Z (W 1 eI Y3),C (I (w64 (bZ+1))),C (I cu),C (V nH)])]) (q (oMv j j)<|q (oCa (xs:=[.v false [.mp 0 0 0]]) (vs:=[(false,[.im 0 _])]) (v:=.v false [.im 0 _]) (ih afj) (.inl j) j UB j (aep (ob':=⟨0,0,true,true,false,true,[C (W 1 (eL 1 eI) bI),Z (W 1 (eL 1 eI) bJ),C (I bK),C (I bU),Z (W 1 eI Y3),C (I (w64 (bZ+1))),C (I cu),C (V nH)]⟩) j j j (by kernel_rfl) pp0) j j (aeq (ob':=⟨0,1,true,true,false,true,[⟨.imm,1,0,W 1 (eL 1 eI) mV.2.before⟩,⟨.sh,1,0,W 1 (eL 1 eI) mV.2.table⟩,⟨.imm,1,0,I mV.2.limit⟩,⟨.imm,1,0,I mV.2.most⟩,⟨.sh,1,0,W 1 eI mV.2.choice⟩,⟨.imm,1,0,I mV.2.nodes⟩,⟨.imm,1,0,I mV.2.budget⟩,⟨.imm,1,0,V mV.2.full⟩]⟩) j j (by kernel_rfl) pb0) j j j)<|nl)<|us<|gc h j iR (fun ahv h=>?_) fun ahv h=>?_
           ·refine gs<|g1 j j (mk [] [(0,Od [C (W 1 (eL 1 eI) mV.2.before),Z (W 1 (eL 1 eI) mV.2.table),C (I mV.2.limit),C (I mV.2.most),Z (W 1 eI mV.2.choice),C (I mV.2.nodes),C (I mV.2.budget),C (V mV.2.full)])]) (q (ae j j)<|nl)<|us<|Go.ret (Unw.ret ?_)
            cases h
            exact ⟨j,(fo aa5 j)⟩
           ·refine Go.skip<|us<|?_
            obtain ⟨ags,afk,h⟩:=bs h
            exact g1 j j (mk [(0,M 0),(3,iv (x_0.choice.length:Int)),(4,iv gm)] [(0,Od [C (W 1 (eL 1 eI) mV.2.before),Z (W 1 (eL 1 eI) mV.2.table),C (I mV.2.limit),C (I mV.2.most),Z (W 1 eI mV.2.choice),C (I mV.2.nodes),C (I mV.2.budget),C (V mV.2.full)])]) (q (oMv j j)<|q (oMv j j)<|q (oNl j j j)<|q (oFA (r':=.mp 0 0 4) j Dt j j)<|q (oLd (cs:=[.own 0 0 4]) j oC j j)<|q (oMv j j)<|q (age j afk fO j j j bn0 (bn1 j) j j j)<|q (oNl j j j)<|q (oFA (r':=.mp 0 0 4) j Dt j j)<|q (oSt oC j j j (agb j j tk0) j j j)<|nl)<|Unw.blk<|K38 _ ⟨mV.2.before,mV.2.table,mV.2.limit,mV.2.most,((mV.2.choice.take ((x_0.choice.length:Int).toNat)).drop 0),mV.2.nodes,mV.2.budget,mV.2.full,h,(by kernel_rfl)⟩
         ·intro K50
          refine gc h j iEq (fun VA h=>?_) fun VA h=>?_
          ·exact g0 j j (q (oMv j j)<|q (oNl j j j)<|q (oFA (r':=.mp 0 0 7) j SI j j)<|q (oSt tF4 j j j (tkI tk0) j j j)<|nl)<|K50 _ ⟨true,h,(by kernel_rfl)⟩
          ·exact Go.skip<|K50 _ ⟨fD,h,(by kernel_rfl)⟩
        ·rw [if_neg pM] at h
         exact gT j (nT (byF iR pM))<|Go.exit<|ux<|Unw.iT<|K38 _ ⟨bI,bJ,bK,bU,bM,bZ,cu,fD,h,(by kernel_rfl)⟩
   ·refine Go.exit<|ux<|Unw.nil<|?_
    cases h
    exact ⟨j,(by kernel_rfl)⟩
  ·rintro ⟨e,st⟩ hp
   rcases o with ⟨xk,xm,xu,xw,xx,xy,xA,xB⟩ | r2
   ·dsimp only at h
    obtain ⟨he,hst⟩:=hp
    obtain rfl:e= .exit 0:=he
    refine Unw.iT<|us<|gs<|g2 c28 j j hst (q (ae j j)<|nl)<|us<|Go.ret (Unw.ret ?_)
    cases h
    exact fr aa5 j
   ·dsimp only at h
    obtain ⟨he,hfin⟩:=hp
    obtain rfl:e= .ret:=he
    cases h
    exact Unw.ret (fM hfin)
theorem DF {x_0:aH} {r:(Bool×aH)} (h:jL x_0=some r):FX 28 [.ptr true [(.gone,W 1 (eL 1 eI) x_0.before),(.sh,W 1 (eL 1 eI) x_0.table),(.imm,I x_0.limit),(.imm,I x_0.most),(.sh,W 1 eI x_0.choice),(.imm,I x_0.nodes),(.imm,I x_0.budget),(.imm,V x_0.full)]] ([(false,[.im 0 (V r.1)])],[.ptr true [(.gone,W 1 (eL 1 eI) r.2.before),(.sh,W 1 (eL 1 eI) r.2.table),(.imm,I r.2.limit),(.imm,I r.2.most),(.sh,W 1 eI r.2.choice),(.imm,I r.2.nodes),(.imm,I r.2.budget),(.imm,V r.2.full)]]):=by
 unfold jL at h
 obtain ⟨n,hn⟩:=Ai h
 clear h
 induction n generalizing x_0 r with
 | zero=>cases hn
 | succ n ihn=>exact BM (self:=wV _ n) (fun h=>ihn h) hn
theorem MI {bW:(List Int)} {r:(List Int)} (h:xC bW=some r):FX 29 [.im 2 false [W 1 eI bW]] (B0 [(false,[.ow 0 1 (List.map eI r)])]):=by
 unfold xC at h
 refine gn 6 Tryz.func29 rfl ?_
 refine gs<|g0 j j (q (uO j j Eg)<|nl)<|us<|gs<|?_
 obtain ⟨x5,hx5,h⟩:=bs h
 refine g0 j j (q (oBS (es:=List.map eI ([]:List Int)) j fO j pt0 (dZ j fun _=>j))<|q (oMv j j)<|q (ET (en:=eI) (M:=bW) j hx5 j fO j j l9 (.inl ⟨_,j⟩) j j j j abQ (dZ j fun _=>j))<|q (jZ j j j j j)<|nl)<|us<|Go.ret (Unw.ret ?_)
 cases h
 exact fr agG j
theorem DI {d_0:aA} {aI:(List ai)} {aN:Int} {bz:Int} {r:((List Int)×Int×Int)} (h:lS d_0 aI aN bz=some r):FX 21 [.im 2 true (au d_0),.im 2 false [W 3 ak aI],.im 2 false [I aN],.im 2 false [I bz]] (B0 [(false,[.ow 0 1 (List.map eI r.1)]),(false,[.im 0 (I r.2.1)]),(false,[.im 0 (I r.2.2)])]):=by
 unfold lS at h
 refine gn 47 Tryz.func21 rfl ?_
 refine gs<|g0 j j (q (oBx j AX j (tkI (tkI (tkI (tkI tk0)))))<|q (uO j j Eg)<|q (ae j j)<|q (ae j j)<|nl)<|us<|gs<|?_
 obtain ⟨x17,Ld,h⟩:=bs h
 refine g0 j j (q (oMv j j)<|q (oMv j j)<|q (oMv j j)<|q (oCa (xs:=[.v false [.mp 4 0 0],.v false [.im 2 _],.v false [.im 2 _],.v false [.im 2 _]]) (vs:=[(false,[.im 0 _])]) (v:=.v false [.im 0 _]) (Me Ld) (.inl j) j KU j (ppC j (ppC j (ppC j (ppC j pp0)))) j j pb0 j j j)<|q (ae j j)<|nl)<|us<|gs<|gs<|g0 j j (q (oMv j j)<|q (oBi j j j j)<|nl)<|us<|gc h j iNe (fun hc1 h=>?_) fun hc1 h=>?_
 ·refine gs<|g0 j j (q (oMv j j)<|q (uO j j Eg)<|q (ae j j)<|q (ae j j)<|nl)<|us<|Go.ret (Unw.ret ?_)
  cases h
  exact fr aa3 j
 ·refine Go.skip<|us<|gs<|?_
  obtain ⟨x24,hx24,h⟩:=bs h
  refine g0 j j (q (oMv j j)<|q (oMv j j)<|q (oMv j j)<|q (oCp (xs:=[.v false [.mp 4 0 0],.v false [.im 2 _],.v false [.im 2 _],.v false [.im 2 _]]) (MC hx24) (.inl j) j KW j (ppC j (ppC j (ppC j (ppC j pp0)))) j j pb0 j)<|q (YU j j)<|nl)<|us<|gs<|gs<|g0 j j (q (ae j j)<|nl)<|us<|Go.block<|?_
  obtain ⟨o,hl,h⟩:=bs h
  refine gl c21 j _ (fun (s:(Int×(List (List Int))×(List (List Int))×Int×Int×(List Int)×Int×Int×Bool))=>match s with | (jS,vV,vW,vX,EZ,vY,vZ,wo,wu)=>mk [(1,D 2 (W 3 ak aI)),(12,M 24),(13,iv jS)] [(24,Oa [C (W 1 (eL 1 eI) vV),Z (W 1 (eL 1 eI) vW),C (I vX),C (I EZ),Z (W 1 eI vY),C (I vZ),C (I wo),C (V wu)])]) (fun (o:(Unit ⊕ ((List Int)×Int×Int))) (p:Ex×St)=>match o with | (.inl _)=>p.1= .exit 0∧p.2.norm ([],[])=mk [] [] | (.inr r2)=>p.1= .ret∧fin Tryz.prog cfg 21 Tryz.f21 [.im 2 true (au d_0),.im 2 false [W 3 ak aI],.im 2 false [I aN],.im 2 false [I bz]] p.2=some (B0 [(false,[.ow 0 1 (List.map eI r2.1)]),(false,[.im 0 (I r2.2.1)]),(false,[.im 0 (I r2.2.2)])])) hl (by kernel_rfl) ?_ ?_ ?_
  ·intro o p hp e
   rcases o with u | r2<;>exact nomatch (hp.1.symm.trans e)
  ·rintro ⟨jS,vV,vW,vX,EZ,vY,vZ,wo,wu⟩ o h
   unfold dW at h
   dsimp only at h
   refine gs<|gs<|g0 j j (q (oMv j j)<|q (oMv j j)<|q (gB j j Fe j)<|q (oBi j j j j)<|nl)<|us<|gc h j ah (fun hc8 h=>?_) fun hc8 h=>?_
   ·refine Go.skip<|us<|gs<|Go.block<|gs<|g0 j j (q (oMv j j)<|q (oMv j j)<|q (oNl j j j)<|q (oFA (r':=.mp 24 0 3) j Xz j j)<|q (oSt tF2 j j j (tkI tk0) j j j)<|nl)<|us<|gs<|gs<|?_
    obtain ⟨x36,Ce,h⟩:=bs h
    refine g1 j j (mk [(1,D 2 (W 3 ak aI)),(12,M 24),(13,iv jS)] [(24,Oa [C (W 1 (eL 1 eI) vV),Z (W 1 (eL 1 eI) vW),C (I vX),C (I jS),Z (W 1 eI vY),C (I vZ),C (I wo),C (V wu)])]) (q (oMv j j)<|q (oCa (xs:=[.v false [.mp 24 0 0]]) (vs:=[(false,[.im 0 _])]) (v:=.v false [.im 0 _]) (DF Ce) (.inl j) j UB j (aep (ob':=⟨0,0,false,true,false,true,[C (W 1 (eL 1 eI) vV),Z (W 1 (eL 1 eI) vW),C (I vX),C (I jS),Z (W 1 eI vY),C (I vZ),C (I wo),C (V wu)]⟩) j j j (by kernel_rfl) pp0) j j (aeq (ob':=⟨0,1,false,true,false,true,[⟨.imm,1,0,W 1 (eL 1 eI) x36.2.before⟩,⟨.sh,1,0,W 1 (eL 1 eI) x36.2.table⟩,⟨.imm,1,0,I x36.2.limit⟩,⟨.imm,1,0,I x36.2.most⟩,⟨.sh,1,0,W 1 eI x36.2.choice⟩,⟨.imm,1,0,I x36.2.nodes⟩,⟨.imm,1,0,I x36.2.budget⟩,⟨.imm,1,0,V x36.2.full⟩]⟩) j j (by kernel_rfl) pb0) j j j)<|nl)<|us<|gc h j iR (fun hc9 h=>?_) fun hc9 h=>?_
    ·refine gs<|?_
     obtain ⟨x41,Lm,h⟩:=bs h
     refine g1 j j (mk [(12,M 24),(13,iv jS)] [(24,Oa [C (W 1 (eL 1 eI) x36.2.before),Z (W 1 (eL 1 eI) x36.2.table),C (I x36.2.limit),C (I x36.2.most),Z (W 1 eI x36.2.choice),C (I x36.2.nodes),C (I x36.2.budget),C (V x36.2.full)])]) (q (oMv j j)<|q (oNl j j j)<|q (oFA (r':=.mp 24 0 4) j Dt j j)<|q (oLd (cs:=[.own 24 0 4]) j oC j j)<|q (oCr (xs:=[.v false [.own 24 0 4]]) (vs:=[(false,[.own 41 0 0])]) (v:=.v false [.own 41 0 0]) (c:=⟨.sh,0,_⟩) (cs:=[]) (MI Lm) (.inl j) j aaF j (ppC j pp0) j j pb0 j j j)<|q (oMv j j)<|q (jZ j j j j j)<|q (ae j j)<|q (ae j j)<|nl)<|us<|Go.ret (Unw.ret ?_)
     cases h
     exact ⟨j,(fo aa3 j)⟩
    ·refine Go.skip<|us<|gs<|g1 j j (mk [(1,D 2 (W 3 ak aI)),(12,M 24),(13,iv jS)] [(24,Oa [C (W 1 (eL 1 eI) x36.2.before),Z (W 1 (eL 1 eI) x36.2.table),C (I x36.2.limit),C (I x36.2.most),Z (W 1 eI x36.2.choice),C (I x36.2.nodes),C (I x36.2.budget),C (V x36.2.full)])]) (q (oMv j j)<|q (oNl j j j)<|q (oFA (r':=.mp 24 0 7) j SI j j)<|q (oLd (cs:=[.im 0 _]) j tF4 j j)<|nl)<|us<|gc h j iR (fun Fq h=>?_) fun Fq h=>?_
     ·refine gs<|g0 j j (q (uO j j Eg)<|q (ae j j)<|q (ae j j)<|nl)<|us<|Go.ret (Unw.ret ?_)
      cases h
      exact ⟨j,(fo aa3 j)⟩
     ·refine Go.skip<|Unw.blk<|us<|g0 j j (q (oMv j j)<|q (oBi j j j j)<|q (ae j j)<|nl)<|Unw.nil<|?_
      cases h
      exact ⟨j,(by kernel_rfl)⟩
   ·refine Go.exit<|ux<|Unw.nil<|?_
    cases h
    exact ⟨j,(by kernel_rfl)⟩
  ·rintro ⟨e,st⟩ hp
   rcases o with u | r2
   ·dsimp only at h
    obtain ⟨he,hst⟩:=hp
    obtain rfl:e= .exit 0:=he
    refine Unw.iT<|us<|gs<|g2 c21 j j hst (q (uO j j Eg)<|q (ae j j)<|q (ae j j)<|nl)<|us<|Go.ret (Unw.ret ?_)
    cases h
    exact fr aa3 j
   ·dsimp only at h
    obtain ⟨he,hfin⟩:=hp
    obtain rfl:e= .ret:=he
    cases h
    exact Unw.ret (fM hfin)
theorem dB {n_0:Int} {Aq:Int} {vT:Int} {r:Bool} (h:cO n_0 Aq vT=some r):FX 54 [.im 2 false [I n_0],.im 2 false [I Aq],.im 2 false [I vT]] (B0 [(false,[.im 0 (V r)])]):=by
 unfold cO at h
 refine gn 15 Tryz.func54 rfl ?_
 refine gs<|g0 j j (q (ae j j)<|nl)<|us<|gs<|gX c54 j j j (mk [(6,bv ((decide (n_0≥Aq))&&(decide (n_0≤vT))))] []) ?_ ?_
 ·refine xq (oMv j j)<|xq (oMv j j)<|xq (oBi j j j j)<|xq (oMv j j)<|?_
  by_cases hc1:n_0≥Aq
  ·exact xqT rfl rfl (ah.2 hc1) (oMv rfl rfl)<|xqT rfl rfl (ah.2 hc1) (oMv rfl rfl)<|xqT rfl rfl (ah.2 hc1) (oBi rfl rfl rfl rfl)<|xq (bF rfl rfl (ah.2 hc1) rfl)<|xq (ae rfl rfl)<|xn (Eq.trans (b:=(fun lK:Bool=>mk [(6,bv lK)] []) (decide (n_0≤vT))) (by kernel_rfl) (congrArg (fun lK:Bool=>mk [(6,bv lK)] []) (by first | rfl | (simp [(ah.2 hc1)];done) | (simp [(ah.2 hc1)];omega))))
  ·exact aj rfl rfl (byF ah hc1) rfl<|aj rfl rfl (byF ah hc1) rfl<|aj rfl rfl (byF ah hc1) rfl<|xq (dK rfl rfl (byF ah hc1) rfl)<|xq (ae rfl rfl)<|xn (Eq.trans (b:=(fun lK:Bool=>mk [(6,bv lK)] []) false) (by kernel_rfl) (congrArg (fun lK:Bool=>mk [(6,bv lK)] []) (by first | rfl | (simp [(byF ah hc1)];done) | (simp [(byF ah hc1)];omega))))
 ·refine us<|Go.ret (Unw.ret ?_)
  cases h
  exact fr agU j
theorem rP {s_0:(List af)} {v_1:af} {r:Int} (h:gy s_0 v_1=some r):FX 100 [.im 2 false [W 2 az s_0],.im 2 true (aF v_1)] (B0 [(false,[.im 0 (I r)])]):=by
 unfold gy at h
 refine gn 19 Tryz.func100 rfl ?_
 refine gs<|g0 j j (q (oBx j aK j (tkI (tkI tk0)))<|q (ae j j)<|nl)<|us<|gs<|gs<|g0 j j (q (oMv j j)<|q (gB j j zQ j)<|q (oMv j j)<|nl)<|us<|Go.block<|?_
 obtain ⟨o,hl,h⟩:=bs h
 refine gl aaC j _ (fun (fB:Int)=>mk [(0,D 2 (W 2 az s_0)),(3,M 3),(7,iv (s_0.length:Int)),(8,iv fB)] [(3,Oa (G 0 (aF v_1)))]) (fun (o:(Unit ⊕ Int)) (p:Ex×St)=>match o with | (.inl _)=>p.1= .exit 0∧p.2.norm ([],[])=mk [] [] | (.inr r2)=>p.1= .ret∧fin Tryz.prog cfg 100 Tryz.f100 [.im 2 false [W 2 az s_0],.im 2 true (aF v_1)] p.2=some (B0 [(false,[.im 0 (I r2)])])) hl (by kernel_rfl) ?_ ?_ ?_
 ·intro o p hp e
  rcases o with u | r2<;>exact nomatch (hp.1.symm.trans e)
 ·rintro fB o h
  unfold dD at h
  refine gs<|g0 j j (q (oBi j j j j)<|nl)<|us<|gs<|gc h j ah (fun hc5 h=>?_) fun hc5 h=>?_
  ·refine Go.skip<|us<|gs<|Go.block<|gs<|g0 j j (q (oMv j j)<|q (ae j j)<|nl)<|us<|gs<|?_
   obtain ⟨x14,vG,h⟩:=bs h
   refine gd aaC j j j j (mk [(0,D 2 (W 2 az s_0)),(3,M 3),(5,iv fB),(7,iv (s_0.length:Int)),(8,iv fB),(16,bv ((v_1.X==x14.X)&&(v_1.Y==x14.Y)))] [(3,Oa (G 0 (aF v_1)))]) (t j j (oLd (cs:=[.im 0 _,.im 0 _]) j aK j j)<|t j j (oMv j j)<|t j j (oMv j j)<|t j j (gp j vG pK j j)<|t j j (oLd (cs:=[.im 2 _,.im 2 _]) j aK j j)<|t j j (oBa j (UD v_1.X v_1.Y x14.X x14.Y) j j j j)<|sD (by kernel_rfl))<|us<|gc h j (xU iEq iEq) (fun hc6 h=>?_) fun hc6 h=>?_
   ·refine gs<|g0 j j (q (oMv j j)<|q (ae j j)<|nl)<|us<|Go.ret (Unw.ret ?_)
    cases h
    exact ⟨j,(fo abR j)⟩
   ·refine Go.skip<|Unw.blk<|us<|g0 j j (q (oBi j j j j)<|q (oMv j j)<|nl)<|Unw.nil<|?_
    cases h
    exact ⟨j,(by kernel_rfl)⟩
  ·refine Go.exit<|ux<|Unw.nil<|?_
   cases h
   exact ⟨j,(by kernel_rfl)⟩
 ·rintro ⟨e,st⟩ hp
  rcases o with u | r2
  ·dsimp only at h
   obtain ⟨he,hst⟩:=hp
   obtain rfl:e= .exit 0:=he
   refine Unw.iT<|us<|gs<|g2 aaC j j hst (q (ae j j)<|nl)<|us<|Go.ret (Unw.ret ?_)
   cases h
   exact fr abR j
  ·dsimp only at h
   obtain ⟨he,hfin⟩:=hp
   obtain rfl:e= .ret:=he
   cases h
   exact Unw.ret (fM hfin)
theorem qm {s_0:(List af)} {v_1:af} {r:Bool} (h:dG s_0 v_1=some r):FX 76 [.im 2 false [W 2 az s_0],.im 2 true (aF v_1)] (B0 [(false,[.im 0 (V r)])]):=by
 unfold dG at h
 refine gn 9 Tryz.func76 rfl ?_
 refine gs<|g0 j j (q (oBx j aK j (tkI (tkI tk0)))<|q (ae j j)<|nl)<|us<|gs<|?_
 obtain ⟨x7,hx7,h⟩:=bs h
 refine g0 j j (q (oMv j j)<|q (oLd (cs:=[.im 0 _,.im 0 _]) j aK j j)<|q (oCa (xs:=[.v false [.im 2 _],.v true [.im 0 _,.im 0 _]]) (vs:=[(false,[.im 0 _])]) (v:=.v false [.im 0 _]) (rP hx7) (.inl j) j QK j (ppC j (ppC j pp0)) j j pb0 j j j)<|q (oBi j j j j)<|q (ae j j)<|nl)<|us<|Go.ret (Unw.ret ?_)
 cases h
 exact fr ag5 j
theorem zT {s_0:ByteArray} {r:Bool} (h:xE s_0=some r):FX 77 [.im 2 false [Y s_0]] (B0 [(false,[.im 0 (V r)])]):=by
 unfold xE at h
 refine gn 50 Tryz.func77 rfl ?_
 refine gs<|g0 j j (q (ae j j)<|nl)<|us<|gs<|gs<|?_
 obtain ⟨OL,DJ,h⟩:=bs h
 refine gX c77 j j j (mk [(0,sv s_0),(21,bv OL)] []) ?_ ?_
 ·refine xq (oMv j j)<|xq (Sm j j uF9 j)<|xq (oBi j j j j)<|xq (oMv j j)<|?_
  refine ic DJ (fun hc1 DJ=>?_) fun hc1 DJ=>?_
  ·cases DJ
   exact aj j j (ah.2 hc1) j<|aj j j (ah.2 hc1) j<|aj j j (ah.2 hc1) j<|xq (bF j j (ah.2 hc1) j)<|xq (oMv j j)<|aj j j j j<|aj j j j j<|aj j j j j<|xq (bF j j j j)<|xq (oMv j j)<|aj j j j j<|aj j j j j<|aj j j j j<|xq (bF j j j j)<|xn
  ·refine xqT j j (byF ah hc1) (oMv j j)<|xqT j j (byF ah hc1) (Sm j j uF9 j)<|xqT j j (byF ah hc1) (oBi j j j j)<|xq (dK j j (byF ah hc1) j)<|xq (oMv j j)<|?_
   refine ic DJ (fun hc2 DJ=>?_) fun hc2 DJ=>?_
   ·cases DJ
    exact aj j j (ah.2 hc2) j<|aj j j (ah.2 hc2) j<|aj j j (ah.2 hc2) j<|xq (bF j j (ah.2 hc2) j)<|xq (oMv j j)<|aj j j j j<|aj j j j j<|aj j j j j<|xq (bF j j j j)<|xn
   ·obtain ⟨x14,vG,DJ⟩:=bs DJ
    refine xqT j j (byF ah hc2) (oMv j j)<|xqT j j (byF ah hc2) (oIx j vG uF9 j j)<|xqT j j (byF ah hc2) (oBi j j j j)<|xq (dK j j (byF ah hc2) j)<|xq (oMv j j)<|?_
    refine ic DJ (fun hc3 DJ=>?_) fun hc3 DJ=>?_
    ·cases DJ
     exact aj j j (ah.2 hc3) j<|aj j j (ah.2 hc3) j<|aj j j (ah.2 hc3) j<|xq (bF j j (ah.2 hc3) j)<|xn
    ·obtain ⟨x19,zo,DJ⟩:=bs DJ
     cases DJ
     exact xqT j j (byF ah hc3) (oMv j j)<|xqT j j (byF ah hc3) (oIx j zo uF9 j j)<|xqT j j (byF ah hc3) (oBi j j j j)<|xq (dK j j (byF ah hc3) j)<|xn
 ·refine us<|gc h j iR (fun hc4 h=>?_) fun hc4 h=>?_
  ·refine gs<|g0 j j (q (ae j j)<|nl)<|us<|Go.ret (Unw.ret ?_)
   cases h
   exact fr adg j
  ·refine Go.skip<|us<|gs<|gs<|g0 j j (q (ae j j)<|nl)<|us<|Go.block<|?_
   obtain ⟨o,hl,h⟩:=bs h
   refine gl c77 j _ (fun (dI:Int)=>mk [(0,sv s_0),(3,iv dI)] []) (fun (o:(Unit ⊕ Bool)) (p:Ex×St)=>match o with | (.inl _)=>p.1= .exit 0∧p.2.norm ([],[])=mk [] [] | (.inr r2)=>p.1= .ret∧fin Tryz.prog cfg 77 Tryz.f77 [.im 2 false [Y s_0]] p.2=some (B0 [(false,[.im 0 (V r2)])])) hl (by kernel_rfl) ?_ ?_ ?_
   ·intro o p hp e
    rcases o with u | r2<;>exact nomatch (hp.1.symm.trans e)
   ·rintro dI o h
    unfold qF at h
    refine gs<|gs<|g0 j j (q (oMv j j)<|q (oMv j j)<|q (Sm j j uF9 j)<|q (oBi j j j j)<|nl)<|us<|gc h j ah (fun hc19 h=>?_) fun hc19 h=>?_
    ·refine Go.skip<|us<|gs<|Go.block<|gs<|?_
     obtain ⟨x30,QV,h⟩:=bs h
     obtain ⟨Bv,wC,h⟩:=bs h
     refine gX c77 j j j (mk [(0,sv s_0),(3,iv dI),(49,bv Bv)] []) ?_ ?_
     ·refine xq (oMv j j)<|xq (oMv j j)<|xq (oIx j QV uF9 j j)<|xq (oBi j j j j)<|xq (oMv j j)<|?_
      refine ic wC (fun Fg wC=>?_) fun Fg wC=>?_
      ·obtain ⟨x41,Lm,wC⟩:=bs wC
       refine aj j j (ah.2 Fg) j<|aj j j (ah.2 Fg) j<|aj j j (ah.2 Fg) j<|aj j j (ah.2 Fg) j<|xq (bF j j (ah.2 Fg) j)<|xq (oMv j j)<|xqT j j j (oMv j j)<|xqT j j j (oMv j j)<|xqT j j j (oIx j Lm uF9 j j)<|xqT j j j (oBi j j j j)<|xqT j j j (oMv j j)<|?_
       refine ic wC (fun hc21 wC=>?_) fun hc21 wC=>?_
       ·cases wC
        exact aj j j (ah.2 hc21) j<|aj j j (ah.2 hc21) j<|aj j j (ah.2 hc21) j<|aj j j (ah.2 hc21) j<|xqT j j j (bF j j (ah.2 hc21) j)<|xq (bF j j j j)<|xn
       ·obtain ⟨x46,Pm,wC⟩:=bs wC
        cases wC
        exact xqT j j (byF ah hc21) (oMv j j)<|xqT j j (byF ah hc21) (oMv j j)<|xqT j j (byF ah hc21) (oIx j Pm uF9 j j)<|xqT j j (byF ah hc21) (oBi j j j j)<|xqT j j j (dK j j (byF ah hc21) j)<|xq (bF j j j j)<|xn
      ·obtain ⟨x35,adv,wC⟩:=bs wC
       refine xqT j j (byF ah Fg) (oMv j j)<|xqT j j (byF ah Fg) (oMv j j)<|xqT j j (byF ah Fg) (oIx j adv uF9 j j)<|xqT j j (byF ah Fg) (oBi j j j j)<|xq (dK j j (byF ah Fg) j)<|xq (oMv j j)<|?_
       refine ic wC (fun hc22 wC=>?_) fun hc22 wC=>?_
       ·obtain ⟨x41,Lm,wC⟩:=bs wC
        refine xqT j j (ah.2 hc22) (oMv j j)<|xqT j j (ah.2 hc22) (oMv j j)<|xqT j j (ah.2 hc22) (oIx j Lm uF9 j j)<|xqT j j (ah.2 hc22) (oBi j j j j)<|xqT j j (ah.2 hc22) (oMv j j)<|?_
        refine ic wC (fun kR wC=>?_) fun kR wC=>?_
        ·cases wC
         exact aj j j (ah.2 kR) j<|aj j j (ah.2 kR) j<|aj j j (ah.2 kR) j<|aj j j (ah.2 kR) j<|xqT j j (ah.2 hc22) (bF j j (ah.2 kR) j)<|xq (bF j j (ah.2 hc22) j)<|xn
        ·obtain ⟨x46,Pm,wC⟩:=bs wC
         cases wC
         exact xqT j j (byF ah kR) (oMv j j)<|xqT j j (byF ah kR) (oMv j j)<|xqT j j (byF ah kR) (oIx j Pm uF9 j j)<|xqT j j (byF ah kR) (oBi j j j j)<|xqT j j (ah.2 hc22) (dK j j (byF ah kR) j)<|xq (bF j j (ah.2 hc22) j)<|xn
       ·cases wC
        exact aj j j (byF ah hc22) j<|aj j j (byF ah hc22) j<|aj j j (byF ah hc22) j<|aj j j (byF ah hc22) j<|aj j j (byF ah hc22) j<|Sv j j j<|Sv j j j<|Sv j j j<|Sv j j j<|aj j j (byF ah hc22) j<|xq (dK j j (byF ah hc22) j)<|xn
     ·refine us<|gc h j iR (fun hc24 h=>?_) fun hc24 h=>?_
      ·refine gs<|g0 j j (q (ae j j)<|nl)<|us<|Go.ret (Unw.ret ?_)
       cases h
       exact ⟨j,(fo adg j)⟩
      ·refine Go.skip<|Unw.blk<|us<|g0 j j (q (oMv j j)<|q (oBi j j j j)<|q (ae j j)<|nl)<|Unw.nil<|?_
       cases h
       exact ⟨j,(by kernel_rfl)⟩
    ·refine Go.exit<|ux<|Unw.nil<|?_
     cases h
     exact ⟨j,(by kernel_rfl)⟩
   ·rintro ⟨e,st⟩ hp
    rcases o with u | r2
    ·dsimp only at h
     obtain ⟨he,hst⟩:=hp
     obtain rfl:e= .exit 0:=he
     refine Unw.iT<|us<|gs<|g2 c77 j j hst (q (ae j j)<|nl)<|us<|Go.ret (Unw.ret ?_)
     cases h
     exact fr adg j
    ·dsimp only at h
     obtain ⟨he,hfin⟩:=hp
     obtain rfl:e= .ret:=he
     cases h
     exact Unw.ret (fM hfin)
theorem Fv {vw:(List af)} {lI:(List Int)} {r:((List af)×Bool)} (h:jM vw lI=some r):FX 78 [.im 2 false [W 2 az vw],.im 2 false [W 1 eI lI]] (B0 [(false,[.ow 0 2 (List.map az r.1)]),(false,[.im 0 (V r.2)])]):=by
 unfold jM at h
 refine gn 31 Tryz.func78 rfl ?_
 refine gs<|g0 j j (q (uO j j Xv)<|q (ae j j)<|nl)<|us<|gs<|g0 j j (q (oBS (es:=List.map az ([]:List af)) j pK j pt0 (dZ j fun _=>j))<|q (jZ j j j j j)<|nl)<|us<|gs<|gs<|g0 j j (q (oMv j j)<|q (gB j j l9 j)<|q (oMv j j)<|nl)<|us<|Go.block<|?_
 obtain ⟨o,hl,h⟩:=bs h
 refine gl c78 j _ (fun (s:(Int×(List af)))=>match s with | (Ec,mF)=>mk [(0,D 2 (W 2 az vw)),(6,H 6 0),(10,D 2 (W 1 eI lI)),(11,iv (lI.length:Int)),(12,iv Ec)] [(6,Oc [Z (W 2 az mF)])]) (fun (o:((List af) ⊕ ((List af)×Bool))) (p:Ex×St)=>match o with | (.inl kE)=>p.1= .exit 0∧p.2.norm ([6],[6])=mk [(6,H 6 0)] [(6,Oc [Z (W 2 az kE)])] | (.inr r2)=>p.1= .ret∧fin Tryz.prog cfg 78 Tryz.f78 [.im 2 false [W 2 az vw],.im 2 false [W 1 eI lI]] p.2=some (B0 [(false,[.ow 0 2 (List.map az r2.1)]),(false,[.im 0 (V r2.2)])])) hl (by kernel_rfl) ?_ ?_ ?_
 ·intro o p hp e
  rcases o with kE | r2<;>exact nomatch (hp.1.symm.trans e)
 ·rintro ⟨Ec,mF⟩ o h
  unfold nO at h
  dsimp only at h
  refine gs<|g0 j j (q (oBi j j j j)<|nl)<|us<|gs<|gc h j ah (fun hc5 h=>?_) fun hc5 h=>?_
  ·refine Go.skip<|us<|gs<|Go.block<|gs<|?_
   obtain ⟨x14,vG,h⟩:=bs h
   refine g0 j j (q (gp j vG fO j j)<|q (oLd (cs:=[.im 2 _]) j tF2 j j)<|q (ae j j)<|nl)<|us<|gs<|gs<|?_
   obtain ⟨x20,xM,h⟩:=bs h
   refine g0 j j (q (oMv j j)<|q (oMv j j)<|q (gB j j zQ j)<|q (oBi j j j j)<|q (oCa (xs:=[.v false [.im 2 _],.v false [.im 0 _],.v false [.im 0 _]]) (vs:=[(false,[.im 0 _])]) (v:=.v false [.im 0 _]) (dB xM) (.inl j) j gz j (ppC j (ppC j (ppC j pp0))) j j pb0 j j j)<|q (oUn j j j)<|nl)<|us<|?_
   by_cases hc6:x20=true
   ·rw [if_pos hc6] at h
    refine gF j (nF (iR.2 hc6))<|Go.skip<|us<|?_
    obtain ⟨x25,hx25,h⟩:=bs h
    obtain ⟨x28,hx28,h⟩:=bs h
    refine g0 j j (q (oMv j j)<|q (oMv j j)<|q (oMv j j)<|q (gp j hx25 pK j j)<|q (oLd (cs:=[.im 2 _,.im 2 _]) j aK j j)<|q (oBS (es:=List.map az ([x25]:List af)) j pK j (ptC j (fxI (fxI fx0)) j pt0) (dZ j fun _=>j))<|q (ET (en:=az) (M:=([x25]:List af)) j hx28 j pK j j zQ (.inl ⟨_,j⟩) j j j j (kL j j) (dZ j fun _=>j))<|q (jZ j j j j j)<|nl)<|Unw.blk<|us<|g0 j j (q (oBi j j j j)<|q (oMv j j)<|nl)<|Unw.nil<|?_
    cases h
    exact ⟨j,(by kernel_rfl)⟩
   ·rw [if_neg hc6] at h
    refine gT j (nT (byF iR hc6))<|gs<|g0 j j (q (uO j j Xv)<|q (ae j j)<|nl)<|us<|Go.ret (Unw.ret ?_)
    cases h
    exact ⟨j,(fo aeZ j)⟩
  ·refine Go.exit<|ux<|Unw.nil<|?_
   cases h
   exact ⟨j,(by kernel_rfl)⟩
 ·rintro ⟨e,st⟩ hp
  rcases o with kE | r2
  ·dsimp only at h
   obtain ⟨he,hst⟩:=hp
   obtain rfl:e= .exit 0:=he
   refine Unw.iT<|us<|gs<|g2 c78 j j hst (q (oMv j j)<|q (jZ j j j j j)<|q (ae j j)<|nl)<|us<|Go.ret (Unw.ret ?_)
   cases h
   exact fr aeZ j
  ·dsimp only at h
   obtain ⟨he,hfin⟩:=hp
   obtain rfl:e= .ret:=he
   cases h
   exact Unw.ret (fM hfin)
theorem Gy {p_0:af} {r:Bool} (h:pz p_0=some r):FX 121 [.im 2 true (aF p_0)] (B0 [(false,[.im 0 (V r)])]):=by
 unfold pz at h
 refine gn 11 Tryz.func121 rfl ?_
 refine gs<|g0 j j (q (oBx j aK j (tkI (tkI tk0)))<|q (ae j j)<|nl)<|us<|gs<|?_
 obtain ⟨x5,hx5,h⟩:=bs h
 obtain ⟨lJ,hm2,h⟩:=bs h
 refine gX aeA j j j (mk [(2,bv lJ)] []) ?_ ?_
 ·refine xq (oFA (r':=.mp 1 0 0) j iH j j)<|xq (oLd (cs:=[.im 0 _]) j tF2 j j)<|xq (oCa (xs:=[.v false [.im 0 _],.v false [.im 0 _],.v false [.im 0 _]]) (vs:=[(false,[.im 0 _])]) (v:=.v false [.im 0 _]) (dB hx5) (.inl j) j gz j (ppC j (ppC j (ppC j pp0))) j j pb0 j j j)<|xq (oMv j j)<|?_
  refine ic hm2 (fun hc1 hm2=>?_) fun hc1 hm2=>?_
  ·obtain ⟨x9,hx9,hm2⟩:=bs hm2
   cases hm2
   exact xqT j j (iR.2 hc1) (oFA (r':=.mp 1 0 1) j jb j j)<|xqT j j (iR.2 hc1) (oLd (cs:=[.im 0 _]) j tF2 j j)<|xqT j j (iR.2 hc1) (oCa (xs:=[.v false [.im 0 _],.v false [.im 0 _],.v false [.im 0 _]]) (vs:=[(false,[.im 0 _])]) (v:=.v false [.im 0 _]) (dB hx9) (.inl j) j gz j (ppC j (ppC j (ppC j pp0))) j j pb0 j j j)<|xq (bF j j (iR.2 hc1) j)<|xq (ae j j)<|xn
  ·cases hm2
   exact aj j j (byF iR hc1) j<|aj j j (byF iR hc1) j<|aj j j (byF iR hc1) j<|xq (dK j j (byF iR hc1) j)<|xq (ae j j)<|xn
 ·refine us<|Go.ret (Unw.ret ?_)
  cases h
  exact fr aeL j
theorem Fz {bW:(List af)} {r:Bool} (h:qY bW=some r):FX 101 [.im 2 false [W 2 az bW]] (B0 [(false,[.im 0 (V r)])]):=by
 unfold qY at h
 refine gn 15 Tryz.func101 rfl ?_
 refine gs<|g0 j j (q (ae j j)<|nl)<|us<|gs<|gs<|g0 j j (q (oMv j j)<|q (gB j j zQ j)<|q (oMv j j)<|nl)<|us<|Go.block<|?_
 obtain ⟨o,hl,h⟩:=bs h
 refine gl acN j _ (fun (E5:Int)=>mk [(5,D 2 (W 2 az bW)),(6,iv (bW.length:Int)),(7,iv E5)] []) (fun (o:(Unit ⊕ Bool)) (p:Ex×St)=>match o with | (.inl _)=>p.1= .exit 0∧p.2.norm ([],[])=mk [] [] | (.inr r2)=>p.1= .ret∧fin Tryz.prog cfg 101 Tryz.f101 [.im 2 false [W 2 az bW]] p.2=some (B0 [(false,[.im 0 (V r2)])])) hl (by kernel_rfl) ?_ ?_ ?_
 ·intro o p hp e
  rcases o with u | r2<;>exact nomatch (hp.1.symm.trans e)
 ·rintro E5 o h
  unfold gQ at h
  refine gs<|g0 j j (q (oBi j j j j)<|nl)<|us<|gs<|gc h j ah (fun hc5 h=>?_) fun hc5 h=>?_
  ·refine Go.skip<|us<|gs<|Go.block<|gs<|?_
   obtain ⟨x9,hx9,h⟩:=bs h
   refine g0 j j (q (gp j hx9 pK j j)<|q (oLd (cs:=[.im 2 _,.im 2 _]) j aK j j)<|q (oAl j aK (tkI (tkI tk0)))<|q (oSt aK j j j (tkI (tkI tk0)) j j j)<|nl)<|us<|gs<|?_
   obtain ⟨x12,zS,h⟩:=bs h
   refine g1 j j (mk [(4,M 4),(5,D 2 (W 2 az bW)),(6,iv (bW.length:Int)),(7,iv E5)] [(4,Oa (G 0 (aF x9)))]) (q (oLd (cs:=[.im 0 _,.im 0 _]) j aK j j)<|q (oCa (xs:=[.v true [.im 0 _,.im 0 _]]) (vs:=[(false,[.im 0 _])]) (v:=.v false [.im 0 _]) (Gy zS) (.inl j) j XF j (ppC j pp0) j j pb0 j j j)<|q (oUn j j j)<|nl)<|us<|?_
   by_cases hc6:x12=true
   ·rw [if_pos hc6] at h
    refine gF j (nF (iR.2 hc6))<|Go.skip<|Unw.blk<|us<|g0 j j (q (oBi j j j j)<|q (oMv j j)<|nl)<|Unw.nil<|?_
    cases h
    exact ⟨j,(by kernel_rfl)⟩
   ·rw [if_neg hc6] at h
    refine gT j (nT (byF iR hc6))<|gs<|g0 j j (q (ae j j)<|nl)<|us<|Go.ret (Unw.ret ?_)
    cases h
    exact ⟨j,(fo abS j)⟩
  ·refine Go.exit<|ux<|Unw.nil<|?_
   cases h
   exact ⟨j,(by kernel_rfl)⟩
 ·rintro ⟨e,st⟩ hp
  rcases o with u | r2
  ·dsimp only at h
   obtain ⟨he,hst⟩:=hp
   obtain rfl:e= .exit 0:=he
   refine Unw.iT<|us<|gs<|g2 acN j j hst (q (ae j j)<|nl)<|us<|Go.ret (Unw.ret ?_)
   cases h
   exact fr abS j
  ·dsimp only at h
   obtain ⟨he,hfin⟩:=hp
   obtain rfl:e= .ret:=he
   cases h
   exact Unw.ret (fM hfin)
theorem qK {a_0:af} {b_1:af} {c_2:af} {r:Int} (h:nY a_0 b_1 c_2=some r):FX 122 [.im 2 true (aF a_0),.im 2 true (aF b_1),.im 2 true (aF c_2)] (B0 [(false,[.im 0 (I r)])]):=by
 unfold nY at h
 refine gn 37 Tryz.func122 rfl ?_
 refine gs<|g0 j j (q (oBx j aK j (tkI (tkI tk0)))<|q (oBx j aK j (tkI (tkI tk0)))<|q (oBx j aK j (tkI (tkI tk0)))<|q (ae j j)<|nl)<|us<|gs<|g0 j j (q (oFA (r':=.mp 4 0 0) j iH j j)<|q (oLd (cs:=[.im 0 _]) j tF2 j j)<|q (oFA (r':=.mp 3 0 0) j iH j j)<|q (oLd (cs:=[.im 0 _]) j tF2 j j)<|q (oBi j j j j)<|q (oFA (r':=.mp 5 0 1) j jb j j)<|q (oLd (cs:=[.im 0 _]) j tF2 j j)<|q (oFA (r':=.mp 3 0 1) j jb j j)<|q (oLd (cs:=[.im 0 _]) j tF2 j j)<|q (oBi j j j j)<|q (oBi j j j j)<|q (oFA (r':=.mp 4 0 1) j jb j j)<|q (oLd (cs:=[.im 0 _]) j tF2 j j)<|q (oFA (r':=.mp 3 0 1) j jb j j)<|q (oLd (cs:=[.im 0 _]) j tF2 j j)<|q (oBi j j j j)<|q (oFA (r':=.mp 5 0 0) j iH j j)<|q (oLd (cs:=[.im 0 _]) j tF2 j j)<|q (oFA (r':=.mp 3 0 0) j iH j j)<|q (oLd (cs:=[.im 0 _]) j tF2 j j)<|q (oBi j j j j)<|q (oBi j j j j)<|q (oBi j j j j)<|q (ae j j)<|nl)<|us<|gs<|Go.block<|gs<|g0 j j (q (oMv j j)<|q (oBi j j j j)<|q (ae j j)<|nl)<|us<|gc h j ah (fun hc1 h=>?_) fun hc1 h=>?_
 ·refine gs<|g0 j j (q (ae j j)<|nl)<|us<|Go.ret (Unw.ret ?_)
  cases h
  exact fr XN j
 ·refine gs<|g0 j j (q (oMv j j)<|q (oBi j j j j)<|q (ae j j)<|nl)<|us<|gc h j ah (fun hc2 h=>?_) fun hc2 h=>?_
  ·refine gs<|g0 j j (q (ae j j)<|nl)<|us<|Go.ret (Unw.ret ?_)
   cases h
   exact fr XN j
  ·refine Go.skip<|Unw.blk<|us<|gs<|g0 j j (q (ae j j)<|nl)<|us<|Go.ret (Unw.ret ?_)
   cases h
   exact fr XN j
theorem yG {a_0:af} {b_1:af} {p_2:af} {r:Bool} (h:tu a_0 b_1 p_2=some r):FX 102 [.im 2 true (aF a_0),.im 2 true (aF b_1),.im 2 true (aF p_2)] (B0 [(false,[.im 0 (V r)])]):=by
 unfold tu at h
 refine gn 42 Tryz.func102 rfl ?_
 refine gs<|g0 j j (q (oBx j aK j (tkI (tkI tk0)))<|q (oBx j aK j (tkI (tkI tk0)))<|q (oBx j aK j (tkI (tkI tk0)))<|q (ae j j)<|nl)<|us<|gs<|?_
 obtain ⟨x10,Ii,h⟩:=bs h
 obtain ⟨lK,hm3,h⟩:=bs h
 refine gX aey j j j (mk [(6,bv lK)] []) ?_ ?_
 ·refine xq (oLd (cs:=[.im 0 _,.im 0 _]) j aK j j)<|xq (oLd (cs:=[.im 0 _,.im 0 _]) j aK j j)<|xq (oLd (cs:=[.im 0 _,.im 0 _]) j aK j j)<|xq (oCa (xs:=[.v true [.im 0 _,.im 0 _],.v true [.im 0 _,.im 0 _],.v true [.im 0 _,.im 0 _]]) (vs:=[(false,[.im 0 _])]) (v:=.v false [.im 0 _]) (qK Ii) (.inl j) j lZ j (ppC j (ppC j (ppC j pp0))) j j pb0 j j j)<|xq (oBi j j j j)<|xq (oMv j j)<|?_
  refine ic hm3 (fun hc1 hm3=>?_) fun hc1 hm3=>?_
  ·obtain ⟨x25,hx25,hm3⟩:=bs hm3
   refine xqT j j (iEq.2 hc1) (oFA (r':=.mp 5 0 0) j iH j j)<|xqT j j (iEq.2 hc1) (oLd (cs:=[.im 0 _]) j tF2 j j)<|xqT j j (iEq.2 hc1) (oFA (r':=.mp 3 0 0) j iH j j)<|xqT j j (iEq.2 hc1) (oLd (cs:=[.im 0 _]) j tF2 j j)<|xqT j j (iEq.2 hc1) (oFA (r':=.mp 4 0 0) j iH j j)<|xqT j j (iEq.2 hc1) (oLd (cs:=[.im 0 _]) j tF2 j j)<|xqT j j (iEq.2 hc1) (YV j j)<|xqT j j (iEq.2 hc1) (oFA (r':=.mp 3 0 0) j iH j j)<|xqT j j (iEq.2 hc1) (oLd (cs:=[.im 0 _]) j tF2 j j)<|xqT j j (iEq.2 hc1) (oFA (r':=.mp 4 0 0) j iH j j)<|xqT j j (iEq.2 hc1) (oLd (cs:=[.im 0 _]) j tF2 j j)<|xqT j j (iEq.2 hc1) (Xf j j)<|xqT j j (iEq.2 hc1) (oCa (xs:=[.v false [.im 0 _],.v false [.im 0 _],.v false [.im 0 _]]) (vs:=[(false,[.im 0 _])]) (v:=.v false [.im 0 _]) (dB hx25) (.inl j) j gz j (ppC j (ppC j (ppC j pp0))) j j pb0 j j j)<|xq (bF j j (iEq.2 hc1) j)<|xq (oMv j j)<|?_
   refine ic hm3 (fun hc2 hm3=>?_) fun hc2 hm3=>?_
   ·obtain ⟨x40,Ig,hm3⟩:=bs hm3
    cases hm3
    exact xqT j j (iR.2 hc2) (oFA (r':=.mp 5 0 1) j jb j j)<|xqT j j (iR.2 hc2) (oLd (cs:=[.im 0 _]) j tF2 j j)<|xqT j j (iR.2 hc2) (oFA (r':=.mp 3 0 1) j jb j j)<|xqT j j (iR.2 hc2) (oLd (cs:=[.im 0 _]) j tF2 j j)<|xqT j j (iR.2 hc2) (oFA (r':=.mp 4 0 1) j jb j j)<|xqT j j (iR.2 hc2) (oLd (cs:=[.im 0 _]) j tF2 j j)<|xqT j j (iR.2 hc2) (YV j j)<|xqT j j (iR.2 hc2) (oFA (r':=.mp 3 0 1) j jb j j)<|xqT j j (iR.2 hc2) (oLd (cs:=[.im 0 _]) j tF2 j j)<|xqT j j (iR.2 hc2) (oFA (r':=.mp 4 0 1) j jb j j)<|xqT j j (iR.2 hc2) (oLd (cs:=[.im 0 _]) j tF2 j j)<|xqT j j (iR.2 hc2) (Xf j j)<|xqT j j (iR.2 hc2) (oCa (xs:=[.v false [.im 0 _],.v false [.im 0 _],.v false [.im 0 _]]) (vs:=[(false,[.im 0 _])]) (v:=.v false [.im 0 _]) (dB Ig) (.inl j) j gz j (ppC j (ppC j (ppC j pp0))) j j pb0 j j j)<|xq (bF j j (iR.2 hc2) j)<|xq (ae j j)<|xn
   ·cases hm3
    exact aj j j (byF iR hc2) j<|aj j j (byF iR hc2) j<|aj j j (byF iR hc2) j<|aj j j (byF iR hc2) j<|aj j j (byF iR hc2) j<|aj j j (byF iR hc2) j<|aj j j (byF iR hc2) j<|aj j j (byF iR hc2) j<|aj j j (byF iR hc2) j<|aj j j (byF iR hc2) j<|aj j j (byF iR hc2) j<|aj j j (byF iR hc2) j<|aj j j (byF iR hc2) j<|xq (dK j j (byF iR hc2) j)<|xq (ae j j)<|xn
  ·cases hm3
   exact aj j j (byF iEq hc1) j<|aj j j (byF iEq hc1) j<|aj j j (byF iEq hc1) j<|aj j j (byF iEq hc1) j<|aj j j (byF iEq hc1) j<|aj j j (byF iEq hc1) j<|aj j j (byF iEq hc1) j<|aj j j (byF iEq hc1) j<|aj j j (byF iEq hc1) j<|aj j j (byF iEq hc1) j<|aj j j (byF iEq hc1) j<|aj j j (byF iEq hc1) j<|aj j j (byF iEq hc1) j<|xq (dK j j (byF iEq hc1) j)<|xq (oMv j j)<|aj j j j j<|aj j j j j<|aj j j j j<|aj j j j j<|aj j j j j<|aj j j j j<|aj j j j j<|aj j j j j<|aj j j j j<|aj j j j j<|aj j j j j<|aj j j j j<|aj j j j j<|xq (dK j j j j)<|xq (ae j j)<|xn
 ·refine us<|Go.ret (Unw.ret ?_)
  cases h
  exact fr aeF j
theorem Ji {a_0:af} {b_1:af} {c_2:af} {d_3:af} {r:Bool} (h:nI a_0 b_1 c_2 d_3=some r):FX 123 [.im 2 true (aF a_0),.im 2 true (aF b_1),.im 2 true (aF c_2),.im 2 true (aF d_3)] (B0 [(false,[.im 0 (V r)])]):=by
 unfold nI at h
 refine gn 31 Tryz.func123 rfl ?_
 refine gs<|g0 j j (q (oBx j aK j (tkI (tkI tk0)))<|q (oBx j aK j (tkI (tkI tk0)))<|q (oBx j aK j (tkI (tkI tk0)))<|q (oBx j aK j (tkI (tkI tk0)))<|q (ae j j)<|nl)<|us<|gs<|?_
 obtain ⟨x12,zS,h⟩:=bs h
 obtain ⟨x16,hx16,h⟩:=bs h
 obtain ⟨tZ,hm2,h⟩:=bs h
 refine gd aeB j j j j (mk [(8,bv tZ)] []) ?_ ?_
 ·refine t j j (oLd (cs:=[.im 0 _,.im 0 _]) j aK j j)<|t j j (oLd (cs:=[.im 0 _,.im 0 _]) j aK j j)<|t j j (oLd (cs:=[.im 0 _,.im 0 _]) j aK j j)<|t j j (oLd (cs:=[.im 0 _,.im 0 _]) j aK j j)<|t j j (oLd (cs:=[.im 0 _,.im 0 _]) j aK j j)<|?_
  refine ic hm2 (fun hc1 hm2=>?_) fun hc1 hm2=>?_
  ·obtain ⟨x23,zn,hm2⟩:=bs hm2
   obtain ⟨x27,hx27,hm2⟩:=bs hm2
   cases hm2
   exact t j j (oLd (cs:=[.im 0 _,.im 0 _]) j aK j j)<|sS (dN QJ j (oCa (xs:=[.v true [.im 0 _,.im 0 _],.v true [.im 0 _,.im 0 _],.v true [.im 0 _,.im 0 _]]) (vs:=[(false,[.im 0 _])]) (v:=.v false [.im 0 _]) (qK zS) (.inl j) j lZ j (ppC j (ppC j (ppC j pp0))) j j pb0 j j j)) trivial (sS (dN QJ j (oCa (xs:=[.v true [.im 0 _,.im 0 _],.v true [.im 0 _,.im 0 _],.v true [.im 0 _,.im 0 _]]) (vs:=[(false,[.im 0 _])]) (v:=.v false [.im 0 _]) (qK hx16) (.inl j) j lZ j (ppC j (ppC j (ppC j pp0))) j j pb0 j j j)) trivial (t j j (oBi j j j j)<|t j j (oBi j j j j)<|t j j (oMv j j)<|tT j j j j (ah.2 hc1) (oLd (cs:=[.im 0 _,.im 0 _]) j aK j j)<|tT j j j j (ah.2 hc1) (oLd (cs:=[.im 0 _,.im 0 _]) j aK j j)<|tT j j j j (ah.2 hc1) (oLd (cs:=[.im 0 _,.im 0 _]) j aK j j)<|tT j j j j (ah.2 hc1) (oLd (cs:=[.im 0 _,.im 0 _]) j aK j j)<|tT j j j j (ah.2 hc1) (oLd (cs:=[.im 0 _,.im 0 _]) j aK j j)<|tT j j j j (ah.2 hc1) (oLd (cs:=[.im 0 _,.im 0 _]) j aK j j)<|sS (dT QJ j j j (ah.2 hc1) (oCa (xs:=[.v true [.im 0 _,.im 0 _],.v true [.im 0 _,.im 0 _],.v true [.im 0 _,.im 0 _]]) (vs:=[(false,[.im 0 _])]) (v:=.v false [.im 0 _]) (qK zn) (.inl j) j lZ j (ppC j (ppC j (ppC j pp0))) j j pb0 j j j)) trivial (sS (dT QJ j j j (ah.2 hc1) (oCa (xs:=[.v true [.im 0 _,.im 0 _],.v true [.im 0 _,.im 0 _],.v true [.im 0 _,.im 0 _]]) (vs:=[(false,[.im 0 _])]) (v:=.v false [.im 0 _]) (qK hx27) (.inl j) j lZ j (ppC j (ppC j (ppC j pp0))) j j pb0 j j j)) trivial (tT j j j j (ah.2 hc1) (oBi j j j j)<|tT j j j j (ah.2 hc1) (oBi j j j j)<|t j j (bF j j (ah.2 hc1) j)<|sS (dN QJ j (ae j j)) trivial (sD (by kernel_rfl))))))
  ·cases hm2
   exact t j j (oLd (cs:=[.im 0 _,.im 0 _]) j aK j j)<|sS (dN QJ j (oCa (xs:=[.v true [.im 0 _,.im 0 _],.v true [.im 0 _,.im 0 _],.v true [.im 0 _,.im 0 _]]) (vs:=[(false,[.im 0 _])]) (v:=.v false [.im 0 _]) (qK zS) (.inl j) j lZ j (ppC j (ppC j (ppC j pp0))) j j pb0 j j j)) trivial (sS (dN QJ j (oCa (xs:=[.v true [.im 0 _,.im 0 _],.v true [.im 0 _,.im 0 _],.v true [.im 0 _,.im 0 _]]) (vs:=[(false,[.im 0 _])]) (v:=.v false [.im 0 _]) (qK hx16) (.inl j) j lZ j (ppC j (ppC j (ppC j pp0))) j j pb0 j j j)) trivial (t j j (oBi j j j j)<|t j j (oBi j j j j)<|t j j (oMv j j)<|tF j j j j (byF ah hc1) j<|tF j j j j (byF ah hc1) j<|tF j j j j (byF ah hc1) j<|tF j j j j (byF ah hc1) j<|tF j j j j (byF ah hc1) j<|tF j j j j (byF ah hc1) j<|sS (dF j j j (byF ah hc1) j) trivial (sS (dF j j j (byF ah hc1) j) trivial (tF j j j j (byF ah hc1) j<|tF j j j j (byF ah hc1) j<|t j j (dK j j (byF ah hc1) j)<|sS (dN QJ j (ae j j)) trivial (sD (by kernel_rfl))))))
 ·refine us<|Go.ret (Unw.ret ?_)
  cases h
  exact fr aeM j
theorem Jj {a_0:af} {b_1:af} {c_2:af} {d_3:af} {r:Bool} (h:nJ a_0 b_1 c_2 d_3=some r):FX 103 [.im 2 true (aF a_0),.im 2 true (aF b_1),.im 2 true (aF c_2),.im 2 true (aF d_3)] (B0 [(false,[.im 0 (V r)])]):=by
 unfold nJ at h
 refine gn 38 Tryz.func103 rfl ?_
 refine gs<|g0 j j (q (oBx j aK j (tkI (tkI tk0)))<|q (oBx j aK j (tkI (tkI tk0)))<|q (oBx j aK j (tkI (tkI tk0)))<|q (oBx j aK j (tkI (tkI tk0)))<|q (ae j j)<|nl)<|us<|gs<|?_
 obtain ⟨x13,O5,h⟩:=bs h
 obtain ⟨tZ,hm5,h⟩:=bs h
 refine gX aez j j j (mk [(8,bv tZ)] []) ?_ ?_
 ·refine xq (oLd (cs:=[.im 0 _,.im 0 _]) j aK j j)<|xq (oLd (cs:=[.im 0 _,.im 0 _]) j aK j j)<|xq (oLd (cs:=[.im 0 _,.im 0 _]) j aK j j)<|xq (oLd (cs:=[.im 0 _,.im 0 _]) j aK j j)<|xq (oCa (xs:=[.v true [.im 0 _,.im 0 _],.v true [.im 0 _,.im 0 _],.v true [.im 0 _,.im 0 _],.v true [.im 0 _,.im 0 _]]) (vs:=[(false,[.im 0 _])]) (v:=.v false [.im 0 _]) (Ji O5) (.inl j) j Gt j (ppC j (ppC j (ppC j (ppC j pp0)))) j j pb0 j j j)<|xq (oMv j j)<|?_
  refine ic hm5 (fun hc1 hm5=>?_) fun hc1 hm5=>?_
  ·cases hm5
   exact aj j j (iR.2 hc1) j<|aj j j (iR.2 hc1) j<|aj j j (iR.2 hc1) j<|aj j j (iR.2 hc1) j<|xq (bF j j (iR.2 hc1) j)<|xq (oMv j j)<|aj j j j j<|aj j j j j<|aj j j j j<|aj j j j j<|xq (bF j j j j)<|xq (oMv j j)<|aj j j j j<|aj j j j j<|aj j j j j<|aj j j j j<|xq (bF j j j j)<|xq (oMv j j)<|aj j j j j<|aj j j j j<|aj j j j j<|aj j j j j<|xq (bF j j j j)<|xq (ae j j)<|xn
  ·obtain ⟨x18,Ff,hm5⟩:=bs hm5
   refine xqT j j (byF iR hc1) (oLd (cs:=[.im 0 _,.im 0 _]) j aK j j)<|xqT j j (byF iR hc1) (oLd (cs:=[.im 0 _,.im 0 _]) j aK j j)<|xqT j j (byF iR hc1) (oLd (cs:=[.im 0 _,.im 0 _]) j aK j j)<|xqT j j (byF iR hc1) (oCa (xs:=[.v true [.im 0 _,.im 0 _],.v true [.im 0 _,.im 0 _],.v true [.im 0 _,.im 0 _]]) (vs:=[(false,[.im 0 _])]) (v:=.v false [.im 0 _]) (yG Ff) (.inl j) j ou j (ppC j (ppC j (ppC j pp0))) j j pb0 j j j)<|xq (dK j j (byF iR hc1) j)<|xq (oMv j j)<|?_
   refine ic hm5 (fun hc2 hm5=>?_) fun hc2 hm5=>?_
   ·cases hm5
    exact aj j j (iR.2 hc2) j<|aj j j (iR.2 hc2) j<|aj j j (iR.2 hc2) j<|aj j j (iR.2 hc2) j<|xq (bF j j (iR.2 hc2) j)<|xq (oMv j j)<|aj j j j j<|aj j j j j<|aj j j j j<|aj j j j j<|xq (bF j j j j)<|xq (oMv j j)<|aj j j j j<|aj j j j j<|aj j j j j<|aj j j j j<|xq (bF j j j j)<|xq (ae j j)<|xn
   ·obtain ⟨x24,hx24,hm5⟩:=bs hm5
    refine xqT j j (byF iR hc2) (oLd (cs:=[.im 0 _,.im 0 _]) j aK j j)<|xqT j j (byF iR hc2) (oLd (cs:=[.im 0 _,.im 0 _]) j aK j j)<|xqT j j (byF iR hc2) (oLd (cs:=[.im 0 _,.im 0 _]) j aK j j)<|xqT j j (byF iR hc2) (oCa (xs:=[.v true [.im 0 _,.im 0 _],.v true [.im 0 _,.im 0 _],.v true [.im 0 _,.im 0 _]]) (vs:=[(false,[.im 0 _])]) (v:=.v false [.im 0 _]) (yG hx24) (.inl j) j ou j (ppC j (ppC j (ppC j pp0))) j j pb0 j j j)<|xq (dK j j (byF iR hc2) j)<|xq (oMv j j)<|?_
    refine ic hm5 (fun hc3 hm5=>?_) fun hc3 hm5=>?_
    ·cases hm5
     exact aj j j (iR.2 hc3) j<|aj j j (iR.2 hc3) j<|aj j j (iR.2 hc3) j<|aj j j (iR.2 hc3) j<|xq (bF j j (iR.2 hc3) j)<|xq (oMv j j)<|aj j j j j<|aj j j j j<|aj j j j j<|aj j j j j<|xq (bF j j j j)<|xq (ae j j)<|xn
    ·obtain ⟨x30,QV,hm5⟩:=bs hm5
     refine xqT j j (byF iR hc3) (oLd (cs:=[.im 0 _,.im 0 _]) j aK j j)<|xqT j j (byF iR hc3) (oLd (cs:=[.im 0 _,.im 0 _]) j aK j j)<|xqT j j (byF iR hc3) (oLd (cs:=[.im 0 _,.im 0 _]) j aK j j)<|xqT j j (byF iR hc3) (oCa (xs:=[.v true [.im 0 _,.im 0 _],.v true [.im 0 _,.im 0 _],.v true [.im 0 _,.im 0 _]]) (vs:=[(false,[.im 0 _])]) (v:=.v false [.im 0 _]) (yG QV) (.inl j) j ou j (ppC j (ppC j (ppC j pp0))) j j pb0 j j j)<|xq (dK j j (byF iR hc3) j)<|xq (oMv j j)<|?_
     refine ic hm5 (fun hc4 hm5=>?_) fun hc4 hm5=>?_
     ·cases hm5
      exact aj j j (iR.2 hc4) j<|aj j j (iR.2 hc4) j<|aj j j (iR.2 hc4) j<|aj j j (iR.2 hc4) j<|xq (bF j j (iR.2 hc4) j)<|xq (ae j j)<|xn
     ·obtain ⟨x36,Ce,hm5⟩:=bs hm5
      cases hm5
      exact xqT j j (byF iR hc4) (oLd (cs:=[.im 0 _,.im 0 _]) j aK j j)<|xqT j j (byF iR hc4) (oLd (cs:=[.im 0 _,.im 0 _]) j aK j j)<|xqT j j (byF iR hc4) (oLd (cs:=[.im 0 _,.im 0 _]) j aK j j)<|xqT j j (byF iR hc4) (oCa (xs:=[.v true [.im 0 _,.im 0 _],.v true [.im 0 _,.im 0 _],.v true [.im 0 _,.im 0 _]]) (vs:=[(false,[.im 0 _])]) (v:=.v false [.im 0 _]) (yG Ce) (.inl j) j ou j (ppC j (ppC j (ppC j pp0))) j j pb0 j j j)<|xq (dK j j (byF iR hc4) j)<|xq (ae j j)<|xn
 ·refine us<|Go.ret (Unw.ret ?_)
  cases h
  exact fr aeG j
theorem Lp {p_0:(List af)} {r:Int} (h:oN p_0=some r):FX 104 [.im 2 false [W 2 az p_0]] (B0 [(false,[.im 0 (I r)])]):=by
 unfold oN at h
 refine gn 37 Tryz.func104 rfl ?_
 refine gs<|g0 j j (q (ae j j)<|nl)<|us<|gs<|g0 j j (q (ae j j)<|nl)<|us<|gs<|gs<|g0 j j (q (oMv j j)<|q (gB j j zQ j)<|q (oMv j j)<|nl)<|us<|Go.block<|?_
 obtain ⟨o,hl,h⟩:=bs h
 refine gl acO j _ (fun (s:(Int×Int))=>match s with | (lM,zL)=>mk [(0,D 2 (W 2 az p_0)),(3,iv lM),(7,D 2 (W 2 az p_0)),(8,iv (p_0.length:Int)),(9,iv zL)] []) (fun (oL:Int) (p:Ex×St)=>p.1= .exit 0∧p.2.norm ([3],[])=mk [(3,iv oL)] []) hl (by kernel_rfl) ?_ ?_ ?_
 ·intro o p hp e
  exact nomatch (hp.1.symm.trans e)
 ·rintro ⟨lM,zL⟩ o h
  unfold pF at h
  dsimp only at h
  refine gs<|g0 j j (q (oBi j j j j)<|nl)<|us<|gs<|gc h j ah (fun hc3 h=>?_) fun hc3 h=>?_
  ·refine Go.skip<|us<|gs<|Go.block<|gs<|?_
   obtain ⟨x12,zS,h⟩:=bs h
   refine g0 j j (q (oMv j j)<|q (gp j zS pK j j)<|q (oLd (cs:=[.im 2 _,.im 2 _]) j aK j j)<|q (oAl j aK (tkI (tkI tk0)))<|q (ae j j)<|q (oSt aK j j j (tkI (tkI tk0)) j j j)<|nl)<|us<|gs<|?_
   obtain ⟨x19,zo,h⟩:=bs h
   obtain ⟨x20,xM,h⟩:=bs h
   refine g1 j j (mk [(0,D 2 (W 2 az p_0)),(3,iv lM),(4,iv zL),(5,M 5),(7,D 2 (W 2 az p_0)),(8,iv (p_0.length:Int)),(9,iv zL)] [(5,Oa (G 0 (aF x12)))]) (q (oMv j j)<|q (oMv j j)<|q (oBi j j j j)<|q (oMv j j)<|q (gB j j zQ j)<|q (Gj j zo j j)<|q (gp j xM pK j j)<|q (oLd (cs:=[.im 2 _,.im 2 _]) j aK j j)<|q (oAl j aK (tkI (tkI tk0)))<|q (oSt aK j j j (tkI (tkI tk0)) j j j)<|nl)<|us<|g1 j j (mk [(0,D 2 (W 2 az p_0)),(3,iv lM),(5,M 5),(6,M 6),(7,D 2 (W 2 az p_0)),(8,iv (p_0.length:Int)),(9,iv zL)] [(5,Oa (G 0 (aF x12))),(6,Oa (G 0 (aF x20)))]) (q (oMv j j)<|q (oFA (r':=.mp 5 0 0) j iH j j)<|q (oLd (cs:=[.im 0 _]) j tF2 j j)<|q (oFA (r':=.mp 6 0 1) j jb j j)<|q (oLd (cs:=[.im 0 _]) j tF2 j j)<|q (oBi j j j j)<|q (oFA (r':=.mp 5 0 1) j jb j j)<|q (oLd (cs:=[.im 0 _]) j tF2 j j)<|q (oFA (r':=.mp 6 0 0) j iH j j)<|q (oLd (cs:=[.im 0 _]) j tF2 j j)<|q (oBi j j j j)<|q (oBi j j j j)<|q (oBi j j j j)<|q (ae j j)<|nl)<|Unw.blk<|us<|g0 j j (q (oBi j j j j)<|q (oMv j j)<|nl)<|Unw.nil<|?_
   cases h
   exact ⟨j,(by kernel_rfl)⟩
  ·refine Go.exit<|ux<|Unw.nil<|?_
   cases h
   exact ⟨j,(by kernel_rfl)⟩
 ·rintro ⟨e,st⟩ hp
  obtain ⟨oL,rfl⟩:∃y,y=o:=⟨o,rfl⟩
  obtain ⟨he,hst⟩:=hp
  obtain rfl:e= .exit 0:=he
  refine Unw.iT<|us<|gs<|g2 acO j j hst (q (oMv j j)<|q (ae j j)<|nl)<|us<|Go.ret (Unw.ret ?_)
  cases h
  exact fr aeH j
theorem Ei {p_0:(List af)} {r:Bool} (h:mW p_0=some r):FX 79 [.im 2 false [W 2 az p_0]] (B0 [(false,[.im 0 (V r)])]):=by
 unfold mW at h
 refine gn 93 Tryz.func79 rfl ?_
 refine gs<|g0 j j (q (ae j j)<|nl)<|us<|gs<|g0 j j (q (oMv j j)<|q (gB j j zQ j)<|q (ae j j)<|nl)<|us<|gs<|gs<|?_
 obtain ⟨OQ,Lr,h⟩:=bs h
 refine gX c79 j j j (mk [(0,D 2 (W 2 az p_0)),(3,iv (p_0.length:Int)),(21,bv OQ)] []) ?_ ?_
 ·refine xq (oMv j j)<|xq (oBi j j j j)<|xq (oMv j j)<|?_
  refine ic Lr (fun hc1 Lr=>?_) fun hc1 Lr=>?_
  ·cases Lr
   exact aj j j (ah.2 hc1) j<|aj j j (ah.2 hc1) j<|xq (bF j j (ah.2 hc1) j)<|xq (oMv j j)<|aj j j j j<|aj j j j j<|aj j j j j<|xq (bF j j j j)<|xn
  ·refine xqT j j (byF ah hc1) (oMv j j)<|xqT j j (byF ah hc1) (oBi j j j j)<|xq (dK j j (byF ah hc1) j)<|xq (oMv j j)<|?_
   refine ic Lr (fun hc2 Lr=>?_) fun hc2 Lr=>?_
   ·cases Lr
    exact aj j j (ah.2 hc2) j<|aj j j (ah.2 hc2) j<|aj j j (ah.2 hc2) j<|xq (bF j j (ah.2 hc2) j)<|xn
   ·obtain ⟨x19,zo,Lr⟩:=bs Lr
    cases Lr
    exact xqT j j (byF ah hc2) (oMv j j)<|xqT j j (byF ah hc2) (oCa (xs:=[.v false [.im 2 _]]) (vs:=[(false,[.im 0 _])]) (v:=.v false [.im 0 _]) (Fz zo) (.inl j) j XD j (ppC j pp0) j j pb0 j j j)<|xqT j j (byF ah hc2) (oUn j j j)<|xq (dK j j (byF ah hc2) j)<|xn
 ·refine us<|gc h j iR (fun hc3 h=>?_) fun hc3 h=>?_
  ·refine gs<|g0 j j (q (ae j j)<|nl)<|us<|Go.ret (Unw.ret ?_)
   cases h
   exact fr aba j
  ·refine Go.skip<|us<|gs<|gs<|g0 j j (q (oMv j j)<|q (gB j j zQ j)<|q (oMv j j)<|nl)<|us<|Go.block<|?_
   obtain ⟨o,hl,h⟩:=bs h
   refine gl c79 j _ (fun (jT:Int)=>mk [(0,D 2 (W 2 az p_0)),(3,iv (p_0.length:Int)),(23,iv (p_0.length:Int)),(24,iv jT)] []) (fun (o:(Unit ⊕ Bool)) (p:Ex×St)=>match o with | (.inl _)=>p.1= .exit 0∧p.2.norm ([0],[])=mk [(0,D 2 (W 2 az p_0))] [] | (.inr r2)=>p.1= .ret∧fin Tryz.prog cfg 79 Tryz.f79 [.im 2 false [W 2 az p_0]] p.2=some (B0 [(false,[.im 0 (V r2)])])) hl (by kernel_rfl) ?_ ?_ ?_
   ·intro o p hp e
    rcases o with u | r2<;>exact nomatch (hp.1.symm.trans e)
   ·rintro jT o h
    unfold iD at h
    refine gs<|g0 j j (q (oBi j j j j)<|nl)<|us<|gs<|gc h j ah (fun kS h=>?_) fun kS h=>?_
    ·refine Go.skip<|us<|gs<|Go.block<|gs<|g0 j j (q (oMv j j)<|q (ae j j)<|nl)<|us<|gs<|?_
     obtain ⟨x29,hx29,h⟩:=bs h
     obtain ⟨x35,adv,h⟩:=bs h
     obtain ⟨x36,Ce,h⟩:=bs h
     obtain ⟨x42,VB,h⟩:=bs h
     obtain ⟨x43,Md,h⟩:=bs h
     refine gd c79 j j j j (mk [(0,D 2 (W 2 az p_0)),(3,iv (p_0.length:Int)),(4,iv jT),(5,M 5),(6,M 6),(7,M 7),(23,iv (p_0.length:Int)),(24,iv jT)] [(5,Oa (G 0 (aF x29))),(6,Oa (G 0 (aF x36))),(7,Oa (G 0 (aF x43)))]) (t j j (oMv j j)<|t j j (oMv j j)<|t j j (gp j hx29 pK j j)<|t j j (oLd (cs:=[.im 2 _,.im 2 _]) j aK j j)<|t j j (oMv j j)<|t j j (oMv j j)<|t j j (oBi j j j j)<|t j j (oMv j j)<|t j j (Gj j adv j j)<|t j j (gp j Ce pK j j)<|t j j (oLd (cs:=[.im 2 _,.im 2 _]) j aK j j)<|t j j (oMv j j)<|t j j (oMv j j)<|t j j (oBi j j j j)<|t j j (oMv j j)<|t j j (Gj j VB j j)<|t j j (gp j Md pK j j)<|t j j (oLd (cs:=[.im 2 _,.im 2 _]) j aK j j)<|sF (dN z79 j (oAl j aK (tkI (tkI tk0)))) trivial (sF (dN z79 j (oAl j aK (tkI (tkI tk0)))) trivial (sS (dN z79 j (oAl j aK (tkI (tkI tk0)))) trivial (sS (dN z79 j (oSt aK j j j (tkI (tkI tk0)) j j j)) trivial (sS (dN z79 j (oSt aK j j j (tkI (tkI tk0)) j j j)) trivial (sS (dN z79 j (oSt aK j j j (tkI (tkI tk0)) j j j)) trivial (sD (by kernel_rfl)))))) (sS (dN z79 j (oAl j aK (tkI (tkI tk0)))) trivial (sS (dN z79 j (oAl j aK (tkI (tkI tk0)))) trivial (sS (dN z79 j (oSt aK j j j (tkI (tkI tk0)) j j j)) trivial (sS (dN z79 j (oSt aK j j j (tkI (tkI tk0)) j j j)) trivial (sS (dN z79 j (oSt aK j j j (tkI (tkI tk0)) j j j)) trivial (sD (by kernel_rfl)))))))) (sF (dN z79 j (oAl j aK (tkI (tkI tk0)))) trivial (sF (dN z79 j (oAl j aK (tkI (tkI tk0)))) trivial (sS (dN z79 j (oAl j aK (tkI (tkI tk0)))) trivial (sS (dN z79 j (oSt aK j j j (tkI (tkI tk0)) j j j)) trivial (sS (dN z79 j (oSt aK j j j (tkI (tkI tk0)) j j j)) trivial (sS (dN z79 j (oSt aK j j j (tkI (tkI tk0)) j j j)) trivial (sD (by kernel_rfl)))))) (sS (dN z79 j (oAl j aK (tkI (tkI tk0)))) trivial (sS (dN z79 j (oAl j aK (tkI (tkI tk0)))) trivial (sS (dN z79 j (oSt aK j j j (tkI (tkI tk0)) j j j)) trivial (sS (dN z79 j (oSt aK j j j (tkI (tkI tk0)) j j j)) trivial (sS (dN z79 j (oSt aK j j j (tkI (tkI tk0)) j j j)) trivial (sD (by kernel_rfl)))))))) (sS (dN z79 j (oAl j aK (tkI (tkI tk0)))) trivial (sF (dN z79 j (oAl j aK (tkI (tkI tk0)))) trivial (sS (dN z79 j (oAl j aK (tkI (tkI tk0)))) trivial (sS (dN z79 j (oSt aK j j j (tkI (tkI tk0)) j j j)) trivial (sS (dN z79 j (oSt aK j j j (tkI (tkI tk0)) j j j)) trivial (sS (dN z79 j (oSt aK j j j (tkI (tkI tk0)) j j j)) trivial (sD (by kernel_rfl)))))) (sS (dN z79 j (oAl j aK (tkI (tkI tk0)))) trivial (sS (dN z79 j (oAl j aK (tkI (tkI tk0)))) trivial (sS (dN z79 j (oSt aK j j j (tkI (tkI tk0)) j j j)) trivial (sS (dN z79 j (oSt aK j j j (tkI (tkI tk0)) j j j)) trivial (sS (dN z79 j (oSt aK j j j (tkI (tkI tk0)) j j j)) trivial (sD (by kernel_rfl)))))))))))<|us<|gs<|gs<|?_
     obtain ⟨OO,Ip,h⟩:=bs h
     refine gX c79 j j j (mk [(0,D 2 (W 2 az p_0)),(3,iv (p_0.length:Int)),(4,iv jT),(5,M 5),(6,M 6),(23,iv (p_0.length:Int)),(24,iv jT),(59,bv OO)] [(5,Oa (G 0 (aF x29))),(6,Oa (G 0 (aF x36)))]) ?_ ?_
     ·refine xq (oLd (cs:=[.im 0 _,.im 0 _]) j aK j j)<|xq (oLd (cs:=[.im 0 _,.im 0 _]) j aK j j)<|xq (oBa j (UD x29.X x29.Y x36.X x36.Y) j j j j)<|xq (oMv j j)<|?_
      refine ic Ip (fun hc31 Ip=>?_) fun hc31 Ip=>?_
      ·cases Ip
       exact aj j j ((xU iEq iEq).2 hc31) j<|aj j j ((xU iEq iEq).2 hc31) j<|aj j j ((xU iEq iEq).2 hc31) j<|aj j j ((xU iEq iEq).2 hc31) j<|xq (bF j j ((xU iEq iEq).2 hc31) j)<|xq (oMv j j)<|aj j j j j<|aj j j j j<|aj j j j j<|aj j j j j<|xq (bF j j j j)<|xn
      ·obtain ⟨x52,XZ,Ip⟩:=bs Ip
       refine xqT j j (byF (xU iEq iEq) hc31) (oLd (cs:=[.im 0 _,.im 0 _]) j aK j j)<|xqT j j (byF (xU iEq iEq) hc31) (oLd (cs:=[.im 0 _,.im 0 _]) j aK j j)<|xqT j j (byF (xU iEq iEq) hc31) (oLd (cs:=[.im 0 _,.im 0 _]) j aK j j)<|xqT j j (byF (xU iEq iEq) hc31) (oCa (xs:=[.v true [.im 0 _,.im 0 _],.v true [.im 0 _,.im 0 _],.v true [.im 0 _,.im 0 _]]) (vs:=[(false,[.im 0 _])]) (v:=.v false [.im 0 _]) (yG XZ) (.inl j) j ou j (ppC j (ppC j (ppC j pp0))) j j pb0 j j j)<|xq (dK j j (byF (xU iEq iEq) hc31) j)<|xq (oMv j j)<|?_
       refine ic Ip (fun hc32 Ip=>?_) fun hc32 Ip=>?_
       ·cases Ip
        exact aj j j (iR.2 hc32) j<|aj j j (iR.2 hc32) j<|aj j j (iR.2 hc32) j<|aj j j (iR.2 hc32) j<|xq (bF j j (iR.2 hc32) j)<|xn
       ·obtain ⟨x58,ahw,Ip⟩:=bs Ip
        cases Ip
        exact xqT j j (byF iR hc32) (oLd (cs:=[.im 0 _,.im 0 _]) j aK j j)<|xqT j j (byF iR hc32) (oLd (cs:=[.im 0 _,.im 0 _]) j aK j j)<|xqT j j (byF iR hc32) (oLd (cs:=[.im 0 _,.im 0 _]) j aK j j)<|xqT j j (byF iR hc32) (oCa (xs:=[.v true [.im 0 _,.im 0 _],.v true [.im 0 _,.im 0 _],.v true [.im 0 _,.im 0 _]]) (vs:=[(false,[.im 0 _])]) (v:=.v false [.im 0 _]) (yG ahw) (.inl j) j ou j (ppC j (ppC j (ppC j pp0))) j j pb0 j j j)<|xq (dK j j (byF iR hc32) j)<|xn
     ·refine us<|gc h j iR (fun wB h=>?_) fun wB h=>?_
      ·refine gs<|g0 j j (q (ae j j)<|nl)<|us<|Go.ret (Unw.ret ?_)
       cases h
       exact ⟨j,(fo aba j)⟩
      ·refine Go.skip<|us<|gs<|g0 j j (q (oMv j j)<|q (oBi j j j j)<|q (ae j j)<|nl)<|us<|Go.block<|?_
       obtain ⟨o,hl,h⟩:=bs h
       refine gl c79 j _ (fun (yB:Int)=>mk [(0,D 2 (W 2 az p_0)),(3,iv (p_0.length:Int)),(4,iv jT),(5,M 5),(6,M 6),(8,iv yB),(23,iv (p_0.length:Int)),(24,iv jT)] [(5,Oa (G 0 (aF x29))),(6,Oa (G 0 (aF x36)))]) (fun (o:(Unit ⊕ Bool)) (p:Ex×St)=>match o with | (.inl _)=>p.1= .exit 2∧p.2.norm ([0,3,23,24],[])=mk [(0,D 2 (W 2 az p_0)),(3,iv (p_0.length:Int)),(23,iv (p_0.length:Int)),(24,iv jT)] [] | (.inr r2)=>p.1= .ret∧fin Tryz.prog cfg 79 Tryz.f79 [.im 2 false [W 2 az p_0]] p.2=some (B0 [(false,[.im 0 (V r2)])])) hl (by kernel_rfl) ?_ ?_ ?_
       ·intro o p hp e
        rcases o with u | r2<;>exact nomatch (hp.1.symm.trans e)
       ·rintro yB o h
        unfold gV at h
        refine gs<|gs<|g0 j j (q (oMv j j)<|q (oMv j j)<|q (oBi j j j j)<|nl)<|us<|gc h j ah (fun adw h=>?_) fun adw h=>?_
        ·refine Go.skip<|us<|gs<|Go.block<|gs<|?_
         obtain ⟨x70,adr,h⟩:=bs h
         obtain ⟨KN,Iq,h⟩:=bs h
         refine gd c79 j j j j (mk [(0,D 2 (W 2 az p_0)),(3,iv (p_0.length:Int)),(4,iv jT),(5,M 5),(6,M 6),(8,iv yB),(23,iv (p_0.length:Int)),(24,iv jT),(88,bv KN)] [(5,Oa (G 0 (aF x29))),(6,Oa (G 0 (aF x36)))]) ?_ ?_
         ·refine t j j (oMv j j)<|t j j (oBi j j j j)<|t j j (oMv j j)<|t j j (Gj j adr j j)<|t j j (oMv j j)<|t j j (oBi j j j j)<|t j j (oMv j j)<|?_
          refine ic Iq (fun um Iq=>?_) fun um Iq=>?_
          ·obtain ⟨x78,ahx,Iq⟩:=bs Iq
           obtain ⟨x84,adx,Iq⟩:=bs Iq
           obtain ⟨x85,XX,Iq⟩:=bs Iq
           obtain ⟨x87,X0,Iq⟩:=bs Iq
           cases Iq
           exact tT j j j j (iNe.2 um) (oLd (cs:=[.im 0 _,.im 0 _]) j aK j j)<|tT j j j j (iNe.2 um) (oLd (cs:=[.im 0 _,.im 0 _]) j aK j j)<|tT j j j j (iNe.2 um) (oMv j j)<|tT j j j j (iNe.2 um) (oMv j j)<|tT j j j j (iNe.2 um) (gp j ahx pK j j)<|tT j j j j (iNe.2 um) (oLd (cs:=[.im 2 _,.im 2 _]) j aK j j)<|tT j j j j (iNe.2 um) (oMv j j)<|tT j j j j (iNe.2 um) (oMv j j)<|tT j j j j (iNe.2 um) (oBi j j j j)<|tT j j j j (iNe.2 um) (oMv j j)<|tT j j j j (iNe.2 um) (Gj j adx j j)<|tT j j j j (iNe.2 um) (gp j XX pK j j)<|tT j j j j (iNe.2 um) (oLd (cs:=[.im 2 _,.im 2 _]) j aK j j)<|sS (dT z79 j j j (iNe.2 um) (oCa (xs:=[.v true [.im 0 _,.im 0 _],.v true [.im 0 _,.im 0 _],.v true [.im 2 _,.im 2 _],.v true [.im 2 _,.im 2 _]]) (vs:=[(false,[.im 0 _])]) (v:=.v false [.im 0 _]) (Jj X0) (.inl j) j Gq j (ppC j (ppC j (ppC j (ppC j pp0)))) j j pb0 j j j)) trivial (t j j (bF j j (iNe.2 um) j)<|sD (by kernel_rfl))
          ·cases Iq
           exact tF j j j j (byF iNe um) j<|tF j j j j (byF iNe um) j<|tF j j j j (byF iNe um) j<|tF j j j j (byF iNe um) j<|tF j j j j (byF iNe um) j<|tF j j j j (byF iNe um) j<|tF j j j j (byF iNe um) j<|tF j j j j (byF iNe um) j<|tF j j j j (byF iNe um) j<|tF j j j j (byF iNe um) j<|tF j j j j (byF iNe um) j<|tF j j j j (byF iNe um) j<|tF j j j j (byF iNe um) j<|sS (dF j j j (byF iNe um) j) trivial (t j j (dK j j (byF iNe um) j)<|sD (by kernel_rfl))
         ·refine us<|gc h j iR (fun ahy h=>?_) fun ahy h=>?_
          ·refine gs<|g0 j j (q (ae j j)<|nl)<|us<|Go.ret (Unw.ret ?_)
           cases h
           exact ⟨j,(fo aba j)⟩
          ·refine Go.skip<|Unw.blk<|us<|g0 j j (q (oMv j j)<|q (oBi j j j j)<|q (ae j j)<|nl)<|Unw.nil<|?_
           cases h
           exact ⟨j,(by kernel_rfl)⟩
        ·refine Go.exit<|ux<|Unw.nil<|?_
         cases h
         exact ⟨j,(by kernel_rfl)⟩
       ·rintro ⟨e,st⟩ hp
        rcases o with u | r2
        ·dsimp only at h
         obtain ⟨he,hst⟩:=hp
         obtain rfl:e= .exit 2:=he
         refine Unw.iT<|Unw.blk<|us<|g2 c79 j j hst (q (oBi j j j j)<|q (oMv j j)<|nl)<|Unw.nil<|?_
         cases h
         exact ⟨j,(by kernel_rfl)⟩
        ·dsimp only at h
         obtain ⟨he,hfin⟩:=hp
         obtain rfl:e= .ret:=he
         cases h
         exact Unw.ret ⟨j,hfin⟩
    ·refine Go.exit<|ux<|Unw.nil<|?_
     cases h
     exact ⟨j,(by kernel_rfl)⟩
   ·rintro ⟨e,st⟩ hp
    rcases o with u | r2
    ·dsimp only at h
     obtain ⟨he,hst⟩:=hp
     obtain rfl:e= .exit 0:=he
     refine Unw.iT<|us<|gs<|?_
     obtain ⟨x91,hx91,h⟩:=bs h
     refine g2 c79 j j hst (q (oMv j j)<|q (oCa (xs:=[.v false [.im 2 _]]) (vs:=[(false,[.im 0 _])]) (v:=.v false [.im 0 _]) (Lp hx91) (.inl j) j XE j (ppC j pp0) j j pb0 j j j)<|q (oBi j j j j)<|q (ae j j)<|nl)<|us<|Go.ret (Unw.ret ?_)
     cases h
     exact fr aba j
    ·dsimp only at h
     obtain ⟨he,hfin⟩:=hp
     obtain rfl:e= .ret:=he
     cases h
     exact Unw.ret (fM hfin)
theorem Ej {d_0:aA} {r:Bool} (h:mX d_0=some r):FX 52 [.im 2 true (au d_0)] (B0 [(false,[.im 0 (V r)])]):=by
 unfold mX at h
 refine gn 106 Tryz.func52 rfl ?_
 refine gs<|g0 j j (q (oBx j AX j (tkI (tkI (tkI (tkI tk0)))))<|q (ae j j)<|nl)<|us<|gs<|gs<|?_
 obtain ⟨x11,XV,h⟩:=bs h
 obtain ⟨OU,FB,h⟩:=bs h
 refine gX c52 j j j (mk [(1,M 1),(30,bv OU)] [(1,Oa (G 2 (au d_0)))]) ?_ ?_
 ·refine xq (oFA (r':=.mp 1 0 0) j E8 j j)<|xq (oLd (cs:=[.im 0 _]) j tF2 j j)<|xq (oCa (xs:=[.v false [.im 0 _],.v false [.im 0 _],.v false [.im 0 _]]) (vs:=[(false,[.im 0 _])]) (v:=.v false [.im 0 _]) (dB XV) (.inl j) j gz j (ppC j (ppC j (ppC j pp0))) j j pb0 j j j)<|xq (oUn j j j)<|xq (oMv j j)<|?_
  refine ic FB (fun hc1 FB=>?_) fun hc1 FB=>?_
  ·obtain ⟨x16,hx16,FB⟩:=bs FB
   refine xqT j j (nF (iR.2 hc1)) (oFA (r':=.mp 1 0 1) j Dq j j)<|xqT j j (nF (iR.2 hc1)) (oLd (cs:=[.im 0 _]) j tF2 j j)<|xqT j j (nF (iR.2 hc1)) (oCa (xs:=[.v false [.im 0 _],.v false [.im 0 _],.v false [.im 0 _]]) (vs:=[(false,[.im 0 _])]) (v:=.v false [.im 0 _]) (dB hx16) (.inl j) j gz j (ppC j (ppC j (ppC j pp0))) j j pb0 j j j)<|xqT j j (nF (iR.2 hc1)) (oUn j j j)<|xq (dK j j (nF (iR.2 hc1)) j)<|xq (oMv j j)<|?_
   refine ic FB (fun hc2 FB=>?_) fun hc2 FB=>?_
   ·refine xqT j j (nF (iR.2 hc2)) (oFA (r':=.mp 1 0 2) j rM j j)<|xqT j j (nF (iR.2 hc2)) (oLd (cs:=[.im 2 _]) j Eh j j)<|xqT j j (nF (iR.2 hc2)) (gB j j zQ j)<|xqT j j (nF (iR.2 hc2)) (oBi j j j j)<|xq (dK j j (nF (iR.2 hc2)) j)<|xq (oMv j j)<|?_
    refine ic FB (fun hc3 FB=>?_) fun hc3 FB=>?_
    ·cases FB
     exact aj j j (ah.2 hc3) j<|aj j j (ah.2 hc3) j<|aj j j (ah.2 hc3) j<|aj j j (ah.2 hc3) j<|xq (bF j j (ah.2 hc3) j)<|xn
    ·cases FB
     exact xqT j j (byF ah hc3) (oFA (r':=.mp 1 0 3) j oO j j)<|xqT j j (byF ah hc3) (oLd (cs:=[.im 2 _]) j BK j j)<|xqT j j (byF ah hc3) (gB j j IY j)<|xqT j j (byF ah hc3) (oBi j j j j)<|xq (dK j j (byF ah hc3) j)<|xn
   ·cases FB
    exact aj j j (nT (byF iR hc2)) j<|aj j j (nT (byF iR hc2)) j<|aj j j (nT (byF iR hc2)) j<|aj j j (nT (byF iR hc2)) j<|xq (bF j j (nT (byF iR hc2)) j)<|xq (oMv j j)<|aj j j j j<|aj j j j j<|aj j j j j<|aj j j j j<|xq (bF j j j j)<|xn
  ·cases FB
   exact aj j j (nT (byF iR hc1)) j<|aj j j (nT (byF iR hc1)) j<|aj j j (nT (byF iR hc1)) j<|aj j j (nT (byF iR hc1)) j<|xq (bF j j (nT (byF iR hc1)) j)<|xq (oMv j j)<|aj j j j j<|aj j j j j<|aj j j j j<|aj j j j j<|xq (bF j j j j)<|xq (oMv j j)<|aj j j j j<|aj j j j j<|aj j j j j<|aj j j j j<|xq (bF j j j j)<|xn
 ·refine us<|gc h j iR (fun hc4 h=>?_) fun hc4 h=>?_
  ·refine gs<|g0 j j (q (ae j j)<|nl)<|us<|Go.ret (Unw.ret ?_)
   cases h
   exact fr XP j
  ·refine Go.skip<|us<|gs<|gs<|g0 j j (q (oFA (r':=.mp 1 0 2) j rM j j)<|q (oLd (cs:=[.im 2 _]) j Eh j j)<|q (gB j j zQ j)<|q (oMv j j)<|nl)<|us<|Go.block<|?_
   obtain ⟨o,hl,h⟩:=bs h
   refine gl c52 j _ (fun (wQ:Int)=>mk [(1,M 1),(32,D 2 (W 2 az d_0.bg)),(33,iv (d_0.bg.length:Int)),(34,iv wQ)] [(1,Oa (G 2 (au d_0)))]) (fun (o:(Unit ⊕ Bool)) (p:Ex×St)=>match o with | (.inl _)=>p.1= .exit 0∧p.2.norm ([1],[1])=mk [(1,M 1)] [(1,Oa (G 2 (au d_0)))] | (.inr r2)=>p.1= .ret∧fin Tryz.prog cfg 52 Tryz.f52 [.im 2 true (au d_0)] p.2=some (B0 [(false,[.im 0 (V r2)])])) hl (by kernel_rfl) ?_ ?_ ?_
   ·intro o p hp e
    rcases o with u | r2<;>exact nomatch (hp.1.symm.trans e)
   ·rintro wQ o h
    unfold jd at h
    refine gs<|g0 j j (q (oBi j j j j)<|nl)<|us<|gs<|gc h j ah (fun hc39 h=>?_) fun hc39 h=>?_
    ·refine Go.skip<|us<|gs<|Go.block<|gs<|?_
     obtain ⟨x37,ahz,h⟩:=bs h
     refine g0 j j (q (oMv j j)<|q (gp j ahz pK j j)<|q (oLd (cs:=[.im 2 _,.im 2 _]) j aK j j)<|q (oAl j aK (tkI (tkI tk0)))<|q (ae j j)<|q (oSt aK j j j (tkI (tkI tk0)) j j j)<|nl)<|us<|gs<|?_
     obtain ⟨x43,Md,h⟩:=bs h
     obtain ⟨OT,FC,h⟩:=bs h
     refine gd c52 j j j (st1:=mk [(1,M 1),(3,iv wQ),(4,M 4),(32,D 2 (W 2 az d_0.bg)),(33,iv (d_0.bg.length:Int)),(34,iv wQ)] [(1,Oa (G 2 (au d_0))),(4,Oa (G 0 (aF x37)))]) (by kernel_rfl) (mk [(1,M 1),(32,D 2 (W 2 az d_0.bg)),(33,iv (d_0.bg.length:Int)),(34,iv wQ),(60,bv OT)] [(1,Oa (G 2 (au d_0)))]) ?_ ?_
     ·refine t j j (oFA (r':=.mp 4 0 0) j iH j j)<|t j j (oLd (cs:=[.im 0 _]) j tF2 j j)<|t j j (oFA (r':=.mp 1 0 0) j E8 j j)<|?_
      refine ic FC (fun zq FC=>?_) fun zq FC=>?_
      ·obtain ⟨x50,QW,FC⟩:=bs FC
       refine ic FC (fun ql FC=>?_) fun ql FC=>?_
       ·obtain ⟨x57,VE,FC⟩:=bs FC
        obtain ⟨x59,adn,FC⟩:=bs FC
        cases FC
        exact t j j (oLd (cs:=[.im 0 _]) j tF2 j j)<|sS (dN z52 j (oCa (xs:=[.v false [.im 0 _],.v false [.im 0 _],.v false [.im 0 _]]) (vs:=[(false,[.im 0 _])]) (v:=.v false [.im 0 _]) (dB Md) (.inl j) j gz j (ppC j (ppC j (ppC j pp0))) j j pb0 j j j)) trivial (t j j (oUn j j j)<|t j j (oMv j j)<|tT j j j j (nF (iR.2 zq)) (oFA (r':=.mp 4 0 1) j jb j j)<|tT j j j j (nF (iR.2 zq)) (oLd (cs:=[.im 0 _]) j tF2 j j)<|tT j j j j (nF (iR.2 zq)) (oFA (r':=.mp 1 0 1) j Dq j j)<|tT j j j j (nF (iR.2 zq)) (oLd (cs:=[.im 0 _]) j tF2 j j)<|sS (dT z52 j j j (nF (iR.2 zq)) (oCa (xs:=[.v false [.im 0 _],.v false [.im 0 _],.v false [.im 0 _]]) (vs:=[(false,[.im 0 _])]) (v:=.v false [.im 0 _]) (dB QW) (.inl j) j gz j (ppC j (ppC j (ppC j pp0))) j j pb0 j j j)) trivial (tT j j j j (nF (iR.2 zq)) (oUn j j j)<|t j j (dK j j (nF (iR.2 zq)) j)<|t j j (oMv j j)<|tT j j j j (nF (iR.2 ql)) (oFA (r':=.mp 1 0 2) j rM j j)<|tT j j j j (nF (iR.2 ql)) (oLd (cs:=[.im 2 _]) j Eh j j)<|tT j j j j (nF (iR.2 ql)) (oMv j j)<|sK (O:=[4]) j j j (dT z52 j j j (nF (iR.2 ql)) (oLd (cs:=[.im 0 _,.im 0 _]) j aK j j))<|sS (dT z52 j j j (nF (iR.2 ql)) (agd j VE pK j bn0 (bn1 j) j j)) (kY ⟨j,trivial⟩ trivial) (sS (dT z52 j j j (nF (iR.2 ql)) (oCa (xs:=[.v false [.im 2 _],.v true [.im 0 _,.im 0 _]]) (vs:=[(false,[.im 0 _])]) (v:=.v false [.im 0 _]) (qm adn) (.inl j) j Tm j (ppC j (ppC j pp0)) j j pb0 j j j)) (kN j trivial) (t j j (dK j j (nF (iR.2 ql)) j)<|sD (by kernel_rfl)))))
       ·cases FC
        exact t j j (oLd (cs:=[.im 0 _]) j tF2 j j)<|sS (dN z52 j (oCa (xs:=[.v false [.im 0 _],.v false [.im 0 _],.v false [.im 0 _]]) (vs:=[(false,[.im 0 _])]) (v:=.v false [.im 0 _]) (dB Md) (.inl j) j gz j (ppC j (ppC j (ppC j pp0))) j j pb0 j j j)) trivial (t j j (oUn j j j)<|t j j (oMv j j)<|tT j j j j (nF (iR.2 zq)) (oFA (r':=.mp 4 0 1) j jb j j)<|tT j j j j (nF (iR.2 zq)) (oLd (cs:=[.im 0 _]) j tF2 j j)<|tT j j j j (nF (iR.2 zq)) (oFA (r':=.mp 1 0 1) j Dq j j)<|tT j j j j (nF (iR.2 zq)) (oLd (cs:=[.im 0 _]) j tF2 j j)<|sS (dT z52 j j j (nF (iR.2 zq)) (oCa (xs:=[.v false [.im 0 _],.v false [.im 0 _],.v false [.im 0 _]]) (vs:=[(false,[.im 0 _])]) (v:=.v false [.im 0 _]) (dB QW) (.inl j) j gz j (ppC j (ppC j (ppC j pp0))) j j pb0 j j j)) trivial (tT j j j j (nF (iR.2 zq)) (oUn j j j)<|t j j (dK j j (nF (iR.2 zq)) j)<|t j j (oMv j j)<|tF j j j j (nT (byF iR ql)) j<|tF j j j j (nT (byF iR ql)) j<|tF j j j j (nT (byF iR ql)) j<|sK (O:=[4]) j j j (dF j j j (nT (byF iR ql)) j)<|sS (dF j j j (nT (byF iR ql)) j) (kY ⟨j,trivial⟩ trivial) (sS (dF j j j (nT (byF iR ql)) j) (kN j trivial) (t j j (bF j j (nT (byF iR ql)) j)<|sD (by kernel_rfl)))))
      ·cases FC
       exact t j j (oLd (cs:=[.im 0 _]) j tF2 j j)<|sS (dN z52 j (oCa (xs:=[.v false [.im 0 _],.v false [.im 0 _],.v false [.im 0 _]]) (vs:=[(false,[.im 0 _])]) (v:=.v false [.im 0 _]) (dB Md) (.inl j) j gz j (ppC j (ppC j (ppC j pp0))) j j pb0 j j j)) trivial (t j j (oUn j j j)<|t j j (oMv j j)<|tF j j j j (nT (byF iR zq)) j<|tF j j j j (nT (byF iR zq)) j<|tF j j j j (nT (byF iR zq)) j<|tF j j j j (nT (byF iR zq)) j<|sS (dF j j j (nT (byF iR zq)) j) trivial (tF j j j j (nT (byF iR zq)) j<|t j j (bF j j (nT (byF iR zq)) j)<|t j j (oMv j j)<|tF j j j j j j<|tF j j j j j j<|tF j j j j j j<|sK (O:=[4]) j j j (dF j j j j j)<|sS (dF j j j j j) (kY ⟨j,trivial⟩ trivial) (sS (dF j j j j j) (kN j trivial) (t j j (bF j j j j)<|sD (by kernel_rfl)))))
     ·refine us<|gc h j iR (fun adw h=>?_) fun adw h=>?_
      ·refine gs<|g0 j j (q (ae j j)<|nl)<|us<|Go.ret (Unw.ret ?_)
       cases h
       exact ⟨j,(fo XP j)⟩
      ·refine Go.skip<|Unw.blk<|us<|g0 j j (q (oBi j j j j)<|q (oMv j j)<|nl)<|Unw.nil<|?_
       cases h
       exact ⟨j,(by kernel_rfl)⟩
    ·refine Go.exit<|ux<|Unw.nil<|?_
     cases h
     exact ⟨j,(by kernel_rfl)⟩
   ·rintro ⟨e,st⟩ hp
    rcases o with u | r2
    ·dsimp only at h
     obtain ⟨he,hst⟩:=hp
     obtain rfl:e= .exit 0:=he
     refine Unw.iT<|us<|gs<|gs<|g2 c52 j j hst (q (oFA (r':=.mp 1 0 3) j oO j j)<|q (oLd (cs:=[.im 2 _]) j BK j j)<|q (gB j j IY j)<|q (oMv j j)<|nl)<|us<|Go.block<|?_
     obtain ⟨o,hl,h⟩:=bs h
     refine gl c52 j _ (fun (pG:Int)=>mk [(1,M 1),(63,D 2 (W 2 bQ d_0.aC)),(64,iv (d_0.aC.length:Int)),(65,iv pG)] [(1,Oa (G 2 (au d_0)))]) (fun (o:(Unit ⊕ Bool)) (p:Ex×St)=>match o with | (.inl _)=>p.1= .exit 2∧p.2.norm ([],[])=mk [] [] | (.inr r2)=>p.1= .ret∧fin Tryz.prog cfg 52 Tryz.f52 [.im 2 true (au d_0)] p.2=some (B0 [(false,[.im 0 (V r2)])])) hl (by kernel_rfl) ?_ ?_ ?_
     ·intro o p hp e
      rcases o with u | r2<;>exact nomatch (hp.1.symm.trans e)
     ·rintro pG o h
      unfold iU at h
      refine gs<|g0 j j (q (oBi j j j j)<|nl)<|us<|gs<|gc h j ah (fun hc31 h=>?_) fun hc31 h=>?_
      ·refine Go.skip<|us<|gs<|Go.block<|gs<|?_
       obtain ⟨x68,ahA,h⟩:=bs h
       refine g0 j j (q (oMv j j)<|q (gp j ahA Fa j j)<|q (oLd (cs:=[.im 2 _,.im 2 _]) j Fb j j)<|q (oAl j Fb (tkI (tkN tk0)))<|q (ae j j)<|q (oSt Fb j j j (tkI (tkI tk0)) j j j)<|nl)<|us<|gs<|gs<|?_
       obtain ⟨x72,ady,h⟩:=bs h
       obtain ⟨KO,Ls,h⟩:=bs h
       refine gd c52 j j j (st1:=mk [(1,M 1),(5,iv pG),(6,M 6),(63,D 2 (W 2 bQ d_0.aC)),(64,iv (d_0.aC.length:Int)),(65,iv pG)] [(1,Oa (G 2 (au d_0))),(6,Oa (G 2 (vF x68)))]) (by kernel_rfl) (mk [(1,M 1),(6,M 6),(63,D 2 (W 2 bQ d_0.aC)),(64,iv (d_0.aC.length:Int)),(65,iv pG),(89,bv KO)] [(1,Oa (G 2 (au d_0))),(6,Oa (G 2 (vF x68)))]) ?_ ?_
       ·refine t j j (oFA (r':=.mp 6 0 0) j zO j j)<|?_
        refine ic Ls (fun hc32 Ls=>?_) fun hc32 Ls=>?_
        ·refine ic Ls (fun wB Ls=>?_) fun wB Ls=>?_
         ·obtain ⟨x82,ahB,Ls⟩:=bs Ls
          cases Ls
          exact t j j (oLd (cs:=[.im 0 _]) j tF9 j j)<|sS (dN z52 j (oCa (xs:=[.v false [.im 0 _]]) (vs:=[(false,[.im 0 _])]) (v:=.v false [.im 0 _]) (zT ady) (.inl j) j Tn j (ppC j pp0) j j pb0 j j j)) trivial (t j j (oUn j j j)<|t j j (oMv j j)<|tT j j j j (nF (iR.2 hc32)) (oMv j j)<|tT j j j j (nF (iR.2 hc32)) (oBi j j j j)<|tT j j j j (nF (iR.2 hc32)) (oMv j j)<|tT j j j j (ah.2 wB) (oFA (r':=.mp 1 0 3) j oO j j)<|tT j j j j (ah.2 wB) (oLd (cs:=[.im 2 _]) j BK j j)<|tT j j j j (ah.2 wB) (oMv j j)<|tT j j j j (ah.2 wB) (oBi j j j j)<|tT j j j j (ah.2 wB) (gp j ahB Fa j j)<|tT j j j j (ah.2 wB) (oFA (r':=.im 2 _) j zO j j)<|tT j j j j (ah.2 wB) (oLd (cs:=[.im 2 _]) j tF9 j j)<|tT j j j j (ah.2 wB) (oFA (r':=.mp 6 0 0) j zO j j)<|tT j j j j (ah.2 wB) (oLd (cs:=[.im 0 _]) j tF9 j j)<|tT j j j j (ah.2 wB) (oBi j j j j)<|tT j j j j (nF (iR.2 hc32)) (bF j j (ah.2 wB) j)<|t j j (dK j j (nF (iR.2 hc32)) j)<|sD (by kernel_rfl))
         ·cases Ls
          exact t j j (oLd (cs:=[.im 0 _]) j tF9 j j)<|sS (dN z52 j (oCa (xs:=[.v false [.im 0 _]]) (vs:=[(false,[.im 0 _])]) (v:=.v false [.im 0 _]) (zT ady) (.inl j) j Tn j (ppC j pp0) j j pb0 j j j)) trivial (t j j (oUn j j j)<|t j j (oMv j j)<|tT j j j j (nF (iR.2 hc32)) (oMv j j)<|tT j j j j (nF (iR.2 hc32)) (oBi j j j j)<|tT j j j j (nF (iR.2 hc32)) (oMv j j)<|tF j j j j (byF ah wB) j<|tF j j j j (byF ah wB) j<|tF j j j j (byF ah wB) j<|tF j j j j (byF ah wB) j<|tF j j j j (byF ah wB) j<|tF j j j j (byF ah wB) j<|tF j j j j (byF ah wB) j<|tF j j j j (byF ah wB) j<|tF j j j j (byF ah wB) j<|tF j j j j (byF ah wB) j<|tT j j j j (nF (iR.2 hc32)) (dK j j (byF ah wB) j)<|t j j (dK j j (nF (iR.2 hc32)) j)<|sD (by kernel_rfl))
        ·cases Ls
         exact t j j (oLd (cs:=[.im 0 _]) j tF9 j j)<|sS (dN z52 j (oCa (xs:=[.v false [.im 0 _]]) (vs:=[(false,[.im 0 _])]) (v:=.v false [.im 0 _]) (zT ady) (.inl j) j Tn j (ppC j pp0) j j pb0 j j j)) trivial (t j j (oUn j j j)<|t j j (oMv j j)<|tF j j j j (nT (byF iR hc32)) j<|tF j j j j (nT (byF iR hc32)) j<|tF j j j j (nT (byF iR hc32)) j<|sT j (dU j j j j)<|sT j (dU j j j j)<|sT j (dU j j j j)<|sT j (dU j j j j)<|sT j (dU j j j j)<|sT j (dU j j j j)<|sT j (dU j j j j)<|sT j (dU j j j j)<|sT j (dU j j j j)<|sT j (dU j j j j)<|tF j j j j (nT (byF iR hc32)) j<|t j j (bF j j (nT (byF iR hc32)) j)<|sD (by kernel_rfl))
       ·refine us<|gc h j iR (fun hc34 h=>?_) fun hc34 h=>?_
        ·refine gs<|g0 j j (q (ae j j)<|nl)<|us<|Go.ret (Unw.ret ?_)
         cases h
         exact ⟨j,(fo XP j)⟩
        ·refine Go.skip<|us<|gs<|?_
         obtain ⟨x95,hx95,h⟩:=bs h
         refine g0 j j (q (oFA (r':=.mp 1 0 2) j rM j j)<|q (oLd (cs:=[.im 2 _]) j Eh j j)<|q (oFA (r':=.mp 6 0 1) j BI j j)<|q (oLd (cs:=[.im 2 _]) j oC j j)<|q (oCr (xs:=[.v false [.im 2 _],.v false [.im 2 _]]) (vs:=[(false,[.own 95 0 0]),(false,[.im 0 _])]) (v:=.tup [(false,[.own 95 0 0]),(false,[.im 0 _])]) (c:=⟨.sh,0,_⟩) (cs:=[]) (Fv hx95) (.inl j) j Tq j (ppC j (ppC j pp0)) j j pb0 j j j)<|q (LY j j)<|q (oEx j j j)<|q (oEx j j j)<|q (jZ j j j j j)<|q (ae j j)<|nl)<|us<|gs<|?_
         obtain ⟨HY,DK,h⟩:=bs h
         refine gX c52 j j j (mk [(1,M 1),(63,D 2 (W 2 bQ d_0.aC)),(64,iv (d_0.aC.length:Int)),(65,iv pG),(104,bv HY)] [(1,Oa (G 2 (au d_0)))]) ?_ ?_
         ·refine xq (oMv j j)<|xq (oUn j j j)<|xq (oMv j j)<|?_
          refine ic DK (fun qf DK=>?_) fun qf DK=>?_
          ·obtain ⟨x102,hx102,DK⟩:=bs DK
           cases DK
           exact xqT j j (nF (iR.2 qf)) (oMv j j)<|xqT j j (nF (iR.2 qf)) (oCa (xs:=[.v false [.own 7 0 0]]) (vs:=[(false,[.im 0 _])]) (v:=.v false [.im 0 _]) (Ei hx102) (.inl j) j aaY j (ppC j pp0) j j pb0 j j j)<|xqT j j (nF (iR.2 qf)) (oUn j j j)<|xq (dK j j (nF (iR.2 qf)) j)<|xn
          ·cases DK
           exact aj j j (nT (byF iR qf)) j<|aj j j (nT (byF iR qf)) j<|aj j j (nT (byF iR qf)) j<|xq (bF j j (nT (byF iR qf)) j)<|xn
         ·refine us<|gc h j iR (fun XW h=>?_) fun XW h=>?_
          ·refine gs<|g0 j j (q (ae j j)<|nl)<|us<|Go.ret (Unw.ret ?_)
           cases h
           exact ⟨j,(fo XP j)⟩
          ·refine Go.skip<|Unw.blk<|us<|g0 j j (q (oBi j j j j)<|q (oMv j j)<|nl)<|Unw.nil<|?_
           cases h
           exact ⟨j,(by kernel_rfl)⟩
      ·refine Go.exit<|ux<|Unw.nil<|?_
       cases h
       exact ⟨j,(by kernel_rfl)⟩
     ·rintro ⟨e,st⟩ hp
      rcases o with u | r2
      ·dsimp only at h
       obtain ⟨he,hst⟩:=hp
       obtain rfl:e= .exit 2:=he
       refine Unw.iT<|us<|gs<|g2 c52 j j hst (q (ae j j)<|nl)<|us<|Go.ret (Unw.ret ?_)
       cases h
       exact fr XP j
      ·dsimp only at h
       obtain ⟨he,hfin⟩:=hp
       obtain rfl:e= .ret:=he
       cases h
       exact Unw.ret (fM hfin)
    ·dsimp only at h
     obtain ⟨he,hfin⟩:=hp
     obtain rfl:e= .ret:=he
     cases h
     exact Unw.ret (fM hfin)
theorem FD {jJ:ByteArray} {r:(Int×Int×Int×Int)} (h:nZ jJ=some r):FX 124 [.im 2 false [Y jJ]] (B0 [(false,[.im 0 (I r.1)]),(false,[.im 0 (I r.2.1)]),(false,[.im 0 (I r.2.2.1)]),(false,[.im 0 (I r.2.2.2)])]):=by
 unfold nZ at h
 refine gn 27 Tryz.func124 rfl ?_
 refine gs<|g0 j j (q (ae j j)<|q (ae j j)<|q (ae j j)<|q (ae j j)<|nl)<|us<|gs<|gs<|g0 j j (q (oMv j j)<|nl)<|us<|Go.block<|gs<|g0 j j (q (oBi j j j j)<|q (ae j j)<|nl)<|us<|gc h j zI (fun hc1 h=>?_) fun hc1 h=>?_
 ·refine gs<|g0 j j (q (ae j j)<|q (ae j j)<|q (ae j j)<|q (ae j j)<|nl)<|us<|Go.ret (Unw.ret ?_)
  cases h
  exact fr Dx j
 ·refine gs<|g0 j j (q (oBi j j j j)<|q (ae j j)<|nl)<|us<|gc h j zI (fun hc2 h=>?_) fun hc2 h=>?_
  ·refine gs<|g0 j j (q (ae j j)<|q (ae j j)<|q (ae j j)<|q (ae j j)<|nl)<|us<|Go.ret (Unw.ret ?_)
   cases h
   exact fr Dx j
  ·refine gs<|g0 j j (q (oBi j j j j)<|q (ae j j)<|nl)<|us<|gc h j zI (fun hc3 h=>?_) fun hc3 h=>?_
   ·refine gs<|g0 j j (q (ae j j)<|q (ae j j)<|q (ae j j)<|q (ae j j)<|nl)<|us<|Go.ret (Unw.ret ?_)
    cases h
    exact fr Dx j
   ·refine gs<|g0 j j (q (oBi j j j j)<|q (ae j j)<|nl)<|us<|gc h j zI (fun hc4 h=>?_) fun hc4 h=>?_
    ·refine gs<|g0 j j (q (ae j j)<|q (ae j j)<|q (ae j j)<|q (ae j j)<|nl)<|us<|Go.ret (Unw.ret ?_)
     cases h
     exact fr Dx j
    ·refine gs<|g0 j j (q (oBi j j j j)<|q (ae j j)<|nl)<|us<|gc h j zI (fun hc5 h=>?_) fun hc5 h=>?_
     ·refine gs<|g0 j j (q (ae j j)<|q (ae j j)<|q (ae j j)<|q (ae j j)<|nl)<|us<|Go.ret (Unw.ret ?_)
      cases h
      exact fr Dx j
     ·refine gs<|g0 j j (q (oBi j j j j)<|q (ae j j)<|nl)<|us<|gc h j zI (fun hc6 h=>?_) fun hc6 h=>?_
      ·refine gs<|g0 j j (q (ae j j)<|q (ae j j)<|q (ae j j)<|q (ae j j)<|nl)<|us<|Go.ret (Unw.ret ?_)
       cases h
       exact fr Dx j
      ·refine gs<|g0 j j (q (oBi j j j j)<|q (ae j j)<|nl)<|us<|gc h j zI (fun hc7 h=>?_) fun hc7 h=>?_
       ·refine gs<|g0 j j (q (ae j j)<|q (ae j j)<|q (ae j j)<|q (ae j j)<|nl)<|us<|Go.ret (Unw.ret ?_)
        cases h
        exact fr Dx j
       ·refine gs<|g0 j j (q (oBi j j j j)<|q (ae j j)<|nl)<|us<|gc h j zI (fun hc8 h=>?_) fun hc8 h=>?_
        ·refine gs<|g0 j j (q (ae j j)<|q (ae j j)<|q (ae j j)<|q (ae j j)<|nl)<|us<|Go.ret (Unw.ret ?_)
         cases h
         exact fr Dx j
        ·refine gs<|g0 j j (q (oBi j j j j)<|q (ae j j)<|nl)<|us<|gc h j zI (fun hc9 h=>?_) fun hc9 h=>?_
         ·refine gs<|g0 j j (q (ae j j)<|q (ae j j)<|q (ae j j)<|q (ae j j)<|nl)<|us<|Go.ret (Unw.ret ?_)
          cases h
          exact fr Dx j
         ·refine gs<|g0 j j (q (oBi j j j j)<|q (ae j j)<|nl)<|us<|gc h j zI (fun Fq h=>?_) fun Fq h=>?_
          ·refine gs<|g0 j j (q (ae j j)<|q (ae j j)<|q (ae j j)<|q (ae j j)<|nl)<|us<|Go.ret (Unw.ret ?_)
           cases h
           exact fr Dx j
          ·refine Go.skip<|Unw.blk<|us<|gs<|g0 j j (q (ae j j)<|q (ae j j)<|q (ae j j)<|q (ae j j)<|nl)<|us<|Go.ret (Unw.ret ?_)
           cases h
           exact fr Dx j
theorem Em {jJ:ByteArray} {r:(Int×Bool)} (h:iP jJ=some r):FX 106 [.im 2 false [Y jJ]] (B0 [(false,[.im 0 (I r.1)]),(false,[.im 0 (V r.2)])]):=by
 unfold iP at h
 refine gn 18 Tryz.func106 rfl ?_
 refine gs<|g0 j j (q (ae j j)<|q (ae j j)<|nl)<|us<|gs<|?_
 obtain ⟨x10,Ii,h⟩:=bs h
 refine g0 j j (q (oMv j j)<|q (oCa (xs:=[.v false [.im 2 _]]) (vs:=[(false,[.im 0 _]),(false,[.im 0 _]),(false,[.im 0 _]),(false,[.im 0 _])]) (v:=.tup [(false,[.im 0 _]),(false,[.im 0 _]),(false,[.im 0 _]),(false,[.im 0 _])]) (FD Ii) (.inl j) j aaE j (ppC j pp0) j j pb0 j j j)<|q (LY j j)<|q (oEx j j j)<|q (oEx j j j)<|q (oEx j j j)<|q (oEx j j j)<|q (ae j j)<|q (ae j j)<|q (ae j j)<|q (ae j j)<|nl)<|us<|gs<|g0 j j (q (oMv j j)<|q (oMv j j)<|q (oBi j j j j)<|q (ae j j)<|q (ae j j)<|nl)<|us<|Go.ret (Unw.ret ?_)
 cases h
 exact fr aeI j
theorem FH {v_0:ai} {r:Bool} (h:jO v_0=some r):FX 82 [.im 2 true (iG v_0)] (B0 [(false,[.im 0 (V r)])]):=by
 unfold jO at h
 refine gn 29 Tryz.func82 rfl ?_
 refine gs<|g0 j j (q (oBx j Dy j (tkI (tkI (tkI tk0))))<|q (ae j j)<|nl)<|us<|gs<|?_
 obtain ⟨x8,hx8,h⟩:=bs h
 refine g0 j j (q (oFA (r':=.mp 1 0 0) j H8 j j)<|q (oLd (cs:=[.im 0 _]) j tF9 j j)<|q (oCa (xs:=[.v false [.im 0 _]]) (vs:=[(false,[.im 0 _]),(false,[.im 0 _])]) (v:=.tup [(false,[.im 0 _]),(false,[.im 0 _])]) (Em hx8) (.inl j) j aaD j (ppC j pp0) j j pb0 j j j)<|q (LY j j)<|q (oEx j j j)<|q (oEx j j j)<|q (ae j j)<|q (ae j j)<|nl)<|us<|gs<|?_
 obtain ⟨SE,hm4,h⟩:=bs h
 refine gX c82 j j j (mk [(2,bv SE)] []) ?_ ?_
 ·refine xq (oMv j j)<|xq (oMv j j)<|?_
  refine ic hm4 (fun hc1 hm4=>?_) fun hc1 hm4=>?_
  ·obtain ⟨x15,AY,hm4⟩:=bs hm4
   refine xqT j j (iR.2 hc1) (oFA (r':=.mp 1 0 1) j rO j j)<|xqT j j (iR.2 hc1) (oLd (cs:=[.im 0 _]) j tF2 j j)<|xqT j j (iR.2 hc1) (oCa (xs:=[.v false [.im 0 _],.v false [.im 0 _],.v false [.im 0 _]]) (vs:=[(false,[.im 0 _])]) (v:=.v false [.im 0 _]) (dB AY) (.inl j) j gz j (ppC j (ppC j (ppC j pp0))) j j pb0 j j j)<|xq (bF j j (iR.2 hc1) j)<|xq (oMv j j)<|?_
   refine ic hm4 (fun hc2 hm4=>?_) fun hc2 hm4=>?_
   ·obtain ⟨x22,Jc,hm4⟩:=bs hm4
    refine xqT j j (iR.2 hc2) (oFA (r':=.mp 1 0 1) j rO j j)<|xqT j j (iR.2 hc2) (oLd (cs:=[.im 0 _]) j tF2 j j)<|xqT j j (iR.2 hc2) (oMv j j)<|xqT j j (iR.2 hc2) (oBi j j j j)<|xqT j j (iR.2 hc2) (oCa (xs:=[.v false [.im 0 _],.v false [.im 0 _],.v false [.im 0 _]]) (vs:=[(false,[.im 0 _])]) (v:=.v false [.im 0 _]) (dB Jc) (.inl j) j gz j (ppC j (ppC j (ppC j pp0))) j j pb0 j j j)<|xq (bF j j (iR.2 hc2) j)<|xq (oMv j j)<|?_
    refine ic hm4 (fun hc3 hm4=>?_) fun hc3 hm4=>?_
    ·obtain ⟨x27,hx27,hm4⟩:=bs hm4
     cases hm4
     exact xqT j j (iR.2 hc3) (oFA (r':=.mp 1 0 2) j zN j j)<|xqT j j (iR.2 hc3) (oLd (cs:=[.im 0 _]) j tF2 j j)<|xqT j j (iR.2 hc3) (oCa (xs:=[.v false [.im 0 _],.v false [.im 0 _],.v false [.im 0 _]]) (vs:=[(false,[.im 0 _])]) (v:=.v false [.im 0 _]) (dB hx27) (.inl j) j gz j (ppC j (ppC j (ppC j pp0))) j j pb0 j j j)<|xq (bF j j (iR.2 hc3) j)<|xq (ae j j)<|xn
    ·cases hm4
     exact aj j j (byF iR hc3) j<|aj j j (byF iR hc3) j<|aj j j (byF iR hc3) j<|xq (dK j j (byF iR hc3) j)<|xq (ae j j)<|xn
   ·cases hm4
    exact aj j j (byF iR hc2) j<|aj j j (byF iR hc2) j<|aj j j (byF iR hc2) j<|aj j j (byF iR hc2) j<|aj j j (byF iR hc2) j<|xq (dK j j (byF iR hc2) j)<|xq (oMv j j)<|aj j j j j<|aj j j j j<|aj j j j j<|xq (dK j j j j)<|xq (ae j j)<|xn
  ·cases hm4
   exact aj j j (byF iR hc1) j<|aj j j (byF iR hc1) j<|aj j j (byF iR hc1) j<|xq (dK j j (byF iR hc1) j)<|xq (oMv j j)<|aj j j j j<|aj j j j j<|aj j j j j<|aj j j j j<|aj j j j j<|xq (dK j j j j)<|xq (oMv j j)<|aj j j j j<|aj j j j j<|aj j j j j<|xq (dK j j j j)<|xq (ae j j)<|xn
 ·refine us<|Go.ret (Unw.ret ?_)
  cases h
  exact fr ag8 j
theorem BN {v_0:ai} {r:Bool} (h:iE v_0=some r):FX 81 [.im 2 true (iG v_0)] (B0 [(false,[.im 0 (V r)])]):=by
 unfold iE at h
 refine gn 6 Tryz.func81 rfl ?_
 refine gs<|g0 j j (q (oBx j Dy j (tkI (tkI (tkI tk0))))<|q (ae j j)<|nl)<|us<|gs<|?_
 obtain ⟨x4,hx4,h⟩:=bs h
 refine g0 j j (q (oLd (cs:=[.im 0 _,.im 0 _,.im 0 _]) j Dy j j)<|q (oCa (xs:=[.v true [.im 0 _,.im 0 _,.im 0 _]]) (vs:=[(false,[.im 0 _])]) (v:=.v false [.im 0 _]) (FH hx4) (.inl j) j aa0 j (ppC j pp0) j j pb0 j j j)<|q (oUn j j j)<|q (ae j j)<|nl)<|us<|Go.ret (Unw.ret ?_)
 cases h
 exact fr ag7 j
theorem nN {s_0:(List ai)} {r:Int} (h:dX s_0 (fun b0=>iE b0)=some r):FX 105 [.im 2 false [W 3 ak s_0],.im 2 false [.clo 81 []]] (B0 [(false,[.im 0 (I r)])]):=by
 unfold dX at h
 refine gn 19 Tryz.func105 rfl ?_
 refine gs<|g0 j j (q (ae j j)<|nl)<|us<|gs<|gs<|g0 j j (q (oMv j j)<|q (gB j j Fe j)<|q (oMv j j)<|nl)<|us<|Go.block<|?_
 obtain ⟨o,hl,h⟩:=bs h
 refine gl c105 j _ (fun (fB:Int)=>mk [(0,D 2 (W 3 ak s_0)),(1,D 2 (.clo 81 [])),(7,iv (s_0.length:Int)),(8,iv fB)] []) (fun (o:(Unit ⊕ Int)) (p:Ex×St)=>match o with | (.inl _)=>p.1= .exit 0∧p.2.norm ([],[])=mk [] [] | (.inr r2)=>p.1= .ret∧fin Tryz.prog cfg 105 Tryz.f105 [.im 2 false [W 3 ak s_0],.im 2 false [.clo 81 []]] p.2=some (B0 [(false,[.im 0 (I r2)])])) hl (by kernel_rfl) ?_ ?_ ?_
 ·intro o p hp e
  rcases o with u | r2<;>exact nomatch (hp.1.symm.trans e)
 ·rintro fB o h
  unfold bY at h
  refine gs<|g0 j j (q (oBi j j j j)<|nl)<|us<|gs<|gc h j ah (fun hc5 h=>?_) fun hc5 h=>?_
  ·refine Go.skip<|us<|gs<|Go.block<|gs<|g0 j j (q (oMv j j)<|q (ae j j)<|nl)<|us<|gs<|?_
   obtain ⟨x14,vG,h⟩:=bs h
   obtain ⟨x16,hx16,h⟩:=bs h
   refine g0 j j (q (oMv j j)<|q (oMv j j)<|q (oMv j j)<|q (gp j vG Ia j j)<|q (oLd (cs:=[.im 2 _,.im 2 _,.im 2 _]) j Dy j j)<|q (oCa (xs:=[.v true [.im 2 _,.im 2 _,.im 2 _]]) (vs:=[(false,[.im 0 _])]) (v:=.v false [.im 0 _]) (BN hx16) (.inr ⟨_,_,j,j⟩) j aaZ j (ppC j pp0) j j pb0 j j j)<|nl)<|us<|gc h j iR (fun hc6 h=>?_) fun hc6 h=>?_
   ·refine gs<|g0 j j (q (oMv j j)<|q (ae j j)<|nl)<|us<|Go.ret (Unw.ret ?_)
    cases h
    exact ⟨j,(fo abT j)⟩
   ·refine Go.skip<|Unw.blk<|us<|g0 j j (q (oBi j j j j)<|q (oMv j j)<|nl)<|Unw.nil<|?_
    cases h
    exact ⟨j,(by kernel_rfl)⟩
  ·refine Go.exit<|ux<|Unw.nil<|?_
   cases h
   exact ⟨j,(by kernel_rfl)⟩
 ·rintro ⟨e,st⟩ hp
  rcases o with u | r2
  ·dsimp only at h
   obtain ⟨he,hst⟩:=hp
   obtain rfl:e= .exit 0:=he
   refine Unw.iT<|us<|gs<|g2 c105 j j hst (q (ae j j)<|nl)<|us<|Go.ret (Unw.ret ?_)
   cases h
   exact fr abT j
  ·dsimp only at h
   obtain ⟨he,hfin⟩:=hp
   obtain rfl:e= .ret:=he
   cases h
   exact Unw.ret (fM hfin)
theorem mD {s_0:(List ai)} {r:Bool} (h:dH s_0 (fun b0=>iE b0)=some r):FX 80 [.im 2 false [W 3 ak s_0],.im 2 false [.clo 81 []]] (B0 [(false,[.im 0 (V r)])]):=by
 unfold dH at h
 refine gn 9 Tryz.func80 rfl ?_
 refine gs<|g0 j j (q (ae j j)<|nl)<|us<|gs<|?_
 obtain ⟨x7,hx7,h⟩:=bs h
 refine g0 j j (q (oMv j j)<|q (oMv j j)<|q (oCa (xs:=[.v false [.im 2 _],.v false [.im 2 _]]) (vs:=[(false,[.im 0 _])]) (v:=.v false [.im 0 _]) (nN hx7) (.inl j) j O0 j (ppC j (ppC j pp0)) j j pb0 j j j)<|q (oBi j j j j)<|q (ae j j)<|nl)<|us<|Go.ret (Unw.ret ?_)
 cases h
 exact fr ag6 j
theorem En {bW:(List ai)} {r:Bool} (h:mY bW=some r):FX 53 [.im 2 false [W 3 ak bW]] (B0 [(false,[.im 0 (V r)])]):=by
 unfold mY at h
 refine gn 6 Tryz.func53 rfl ?_
 refine gs<|g0 j j (q (ae j j)<|nl)<|us<|gs<|?_
 obtain ⟨x4,hx4,h⟩:=bs h
 refine g0 j j (q (oMv j j)<|q (oCa (xs:=[.v false [.im 2 _],.fn 81 []]) (vs:=[(false,[.im 0 _])]) (v:=.v false [.im 0 _]) (mD hx4) (.inl j) j QN j (ppC j (ppC j pp0)) j j pb0 j j j)<|q (oUn j j j)<|q (ae j j)<|nl)<|us<|Go.ret (Unw.ret ?_)
 cases h
 exact fr agT j
theorem Eo {d_0:aA} {aI:(List ai)} {aN:Int} {bz:Int} {r:Int} (h:mZ d_0 aI aN bz=some r):FX 33 [.im 2 true (au d_0),.im 2 false [W 3 ak aI],.im 2 false [I aN],.im 2 false [I bz]] (B0 [(false,[.im 0 (I r)])]):=by
 unfold mZ at h
 refine gn 37 Tryz.func33 rfl ?_
 refine gs<|g0 j j (q (oBx j AX j (tkI (tkI (tkI (tkI tk0)))))<|q (ae j j)<|nl)<|us<|gs<|Go.block<|gs<|?_
 obtain ⟨x11,XV,h⟩:=bs h
 obtain ⟨SG,hm8,h⟩:=bs h
 refine gX c33 j j j (mk [(1,D 2 (W 3 ak aI)),(2,iv aN),(3,iv bz),(9,bv SG)] []) ?_ ?_
 ·refine xq (oLd (cs:=[.im 0 _,.im 0 _,.im 2 _,.im 2 _]) j AX j j)<|xq (oCa (xs:=[.v true [.im 0 _,.im 0 _,.im 2 _,.im 2 _]]) (vs:=[(false,[.im 0 _])]) (v:=.v false [.im 0 _]) (Ej XV) (.inl j) j aaP j (ppC j pp0) j j pb0 j j j)<|xq (oUn j j j)<|xq (oMv j j)<|?_
  refine ic hm8 (fun hc1 hm8=>?_) fun hc1 hm8=>?_
  ·obtain ⟨x15,AY,hm8⟩:=bs hm8
   cases hm8
   exact xqT j j (nF (iR.2 hc1)) (oMv j j)<|xqT j j (nF (iR.2 hc1)) (oCa (xs:=[.v false [.im 2 _]]) (vs:=[(false,[.im 0 _])]) (v:=.v false [.im 0 _]) (En AY) (.inl j) j aaQ j (ppC j pp0) j j pb0 j j j)<|xqT j j (nF (iR.2 hc1)) (oUn j j j)<|xq (dK j j (nF (iR.2 hc1)) j)<|xq (ae j j)<|xn
  ·cases hm8
   exact aj j j (nT (byF iR hc1)) j<|aj j j (nT (byF iR hc1)) j<|aj j j (nT (byF iR hc1)) j<|xq (bF j j (nT (byF iR hc1)) j)<|xq (ae j j)<|xn
 ·refine us<|gc h j iR (fun hc2 h=>?_) fun hc2 h=>?_
  ·refine gs<|g0 j j (q (ae j j)<|nl)<|us<|Go.ret (Unw.ret ?_)
   cases h
   exact fr ac7 j
  ·refine gs<|?_
   obtain ⟨OV,hm7,h⟩:=bs h
   refine gX c33 j j j (mk [(18,bv OV)] []) ?_ ?_
   ·refine xq (oMv j j)<|xq (gB j j Fe j)<|xq (oBi j j j j)<|xq (oMv j j)<|?_
    refine ic hm7 (fun hc3 hm7=>?_) fun hc3 hm7=>?_
    ·cases hm7
     exact aj j j (ah.2 hc3) j<|aj j j (ah.2 hc3) j<|aj j j (ah.2 hc3) j<|xq (bF j j (ah.2 hc3) j)<|xq (oMv j j)<|aj j j j j<|aj j j j j<|aj j j j j<|xq (bF j j j j)<|xq (oMv j j)<|aj j j j j<|aj j j j j<|aj j j j j<|xq (bF j j j j)<|xq (ae j j)<|xn
    ·refine xqT j j (byF ah hc3) (oMv j j)<|xqT j j (byF ah hc3) (gB j j Fe j)<|xqT j j (byF ah hc3) (oBi j j j j)<|xq (dK j j (byF ah hc3) j)<|xq (oMv j j)<|?_
     refine ic hm7 (fun hc4 hm7=>?_) fun hc4 hm7=>?_
     ·cases hm7
      exact aj j j (ah.2 hc4) j<|aj j j (ah.2 hc4) j<|aj j j (ah.2 hc4) j<|xq (bF j j (ah.2 hc4) j)<|xq (oMv j j)<|aj j j j j<|aj j j j j<|aj j j j j<|xq (bF j j j j)<|xq (ae j j)<|xn
     ·obtain ⟨x29,hx29,hm7⟩:=bs hm7
      refine xqT j j (byF ah hc4) (oMv j j)<|xqT j j (byF ah hc4) (oCa (xs:=[.v false [.im 0 _],.v false [.im 0 _],.v false [.im 0 _]]) (vs:=[(false,[.im 0 _])]) (v:=.v false [.im 0 _]) (dB hx29) (.inl j) j gz j (ppC j (ppC j (ppC j pp0))) j j pb0 j j j)<|xqT j j (byF ah hc4) (oUn j j j)<|xq (dK j j (byF ah hc4) j)<|xq (oMv j j)<|?_
      refine ic hm7 (fun hc5 hm7=>?_) fun hc5 hm7=>?_
      ·obtain ⟨x34,hx34,hm7⟩:=bs hm7
       cases hm7
       exact xqT j j (nF (iR.2 hc5)) (oMv j j)<|xqT j j (nF (iR.2 hc5)) (oCa (xs:=[.v false [.im 0 _],.v false [.im 0 _],.v false [.im 0 _]]) (vs:=[(false,[.im 0 _])]) (v:=.v false [.im 0 _]) (dB hx34) (.inl j) j gz j (ppC j (ppC j (ppC j pp0))) j j pb0 j j j)<|xqT j j (nF (iR.2 hc5)) (oUn j j j)<|xq (dK j j (nF (iR.2 hc5)) j)<|xq (ae j j)<|xn
      ·cases hm7
       exact aj j j (nT (byF iR hc5)) j<|aj j j (nT (byF iR hc5)) j<|aj j j (nT (byF iR hc5)) j<|xq (bF j j (nT (byF iR hc5)) j)<|xq (ae j j)<|xn
   ·refine us<|gc h j iR (fun hc6 h=>?_) fun hc6 h=>?_
    ·refine gs<|g0 j j (q (ae j j)<|nl)<|us<|Go.ret (Unw.ret ?_)
     cases h
     exact fr ac7 j
    ·refine Go.skip<|Unw.blk<|us<|gs<|g0 j j (q (ae j j)<|nl)<|us<|Go.ret (Unw.ret ?_)
     cases h
     exact fr ac7 j
theorem Ir {kP:(List Int)} {r:(List aZ)} (h:qG kP=some r):FX 55 [.im 2 false [W 1 eI kP]] (B0 [(false,[.ow 0 2 (List.map bV r)])]):=by
 unfold qG at h
 refine gn 35 Tryz.func55 rfl ?_
 refine gs<|g0 j j (q (uO j j agB)<|nl)<|us<|gs<|g0 j j (q (oBS (es:=List.map bV ([]:List aZ)) j XT j pt0 (dZ j fun _=>j))<|q (jZ j j j j j)<|nl)<|us<|gs<|gs<|g0 j j (q (oMv j j)<|q (gB j j l9 j)<|q (oMv j j)<|nl)<|us<|Go.block<|?_
 obtain ⟨o,hl,h⟩:=bs h
 refine gl c55 j _ (fun (s:(Int×(List aZ)))=>match s with | (BC,aW)=>mk [(0,D 2 (W 1 eI kP)),(3,H 3 0),(8,D 2 (W 1 eI kP)),(9,iv (kP.length:Int)),(10,iv BC)] [(3,Oc [Z (W 2 bV aW)])]) (fun (bu:(List aZ)) (p:Ex×St)=>p.1= .exit 0∧p.2.norm ([3],[3])=mk [(3,H 3 0)] [(3,Oc [Z (W 2 bV bu)])]) hl (by kernel_rfl) ?_ ?_ ?_
 ·intro o p hp e
  exact nomatch (hp.1.symm.trans e)
 ·rintro ⟨BC,aW⟩ o h
  unfold ng at h
  dsimp only at h
  refine gs<|g0 j j (q (oBi j j j j)<|nl)<|us<|gs<|gc h j ah (fun hc3 h=>?_) fun hc3 h=>?_
  ·refine Go.skip<|us<|gs<|Go.block<|gs<|?_
   obtain ⟨x13,O5,h⟩:=bs h
   refine g0 j j (q (oMv j j)<|q (gp j O5 fO j j)<|q (oLd (cs:=[.im 2 _]) j tF2 j j)<|q (ae j j)<|q (ae j j)<|nl)<|us<|gs<|?_
   obtain ⟨x20,xM,h⟩:=bs h
   obtain ⟨x21,L9,h⟩:=bs h
   refine g0 j j (q (oMv j j)<|q (oMv j j)<|q (oBi j j j j)<|q (oMv j j)<|q (gB j j l9 j)<|q (Gj j xM j j)<|q (gp j L9 fO j j)<|q (oLd (cs:=[.im 2 _]) j tF2 j j)<|q (ae j j)<|nl)<|us<|?_
   obtain ⟨x32,hx32,h⟩:=bs h
   refine g0 j j (q (oMv j j)<|q (oMv j j)<|q (oMv j j)<|q (YV j j)<|q (oMv j j)<|q (oMv j j)<|q (Xf j j)<|q (oBu (cs:=[.im 0 _,.im 0 _]) j aeC j)<|q (oBS (es:=List.map bV ([(⟨(min2 x13 x21),(max2 x13 x21)⟩:aZ)]:List aZ)) j XT j (ptC j (fxI (fxI fx0)) j pt0) (dZ j fun _=>j))<|q (ET (en:=bV) (M:=([(⟨(min2 x13 x21),(max2 x13 x21)⟩:aZ)]:List aZ)) j hx32 j XT j j adk (.inl ⟨_,j⟩) j j j j (kL j j) (dZ j fun _=>j))<|q (jZ j j j j j)<|nl)<|Unw.blk<|us<|g0 j j (q (oBi j j j j)<|q (oMv j j)<|nl)<|Unw.nil<|?_
   cases h
   exact ⟨j,(by kernel_rfl)⟩
  ·refine Go.exit<|ux<|Unw.nil<|?_
   cases h
   exact ⟨j,(by kernel_rfl)⟩
 ·rintro ⟨e,st⟩ hp
  obtain ⟨bu,rfl⟩:∃y,y=o:=⟨o,rfl⟩
  obtain ⟨he,hst⟩:=hp
  obtain rfl:e= .exit 0:=he
  refine Unw.iT<|us<|gs<|g2 c55 j j hst (q (oMv j j)<|q (jZ j j j j j)<|nl)<|us<|Go.ret (Unw.ret ?_)
  cases h
  exact fr agV j
theorem wE {s_0:(List aZ)} {v_1:aZ} {r:Int} (h:iY s_0 v_1=some r):FX 84 [.im 2 false [W 2 bV s_0],.im 2 true (wz v_1)] (B0 [(false,[.im 0 (I r)])]):=by
 unfold iY at h
 refine gn 19 Tryz.func84 rfl ?_
 refine gs<|g0 j j (q (oBx j IU j (tkI (tkI tk0)))<|q (ae j j)<|nl)<|us<|gs<|gs<|g0 j j (q (oMv j j)<|q (gB j j adk j)<|q (oMv j j)<|nl)<|us<|Go.block<|?_
 obtain ⟨o,hl,h⟩:=bs h
 refine gl c84 j _ (fun (fB:Int)=>mk [(0,D 2 (W 2 bV s_0)),(3,M 3),(7,iv (s_0.length:Int)),(8,iv fB)] [(3,Oa (G 0 (wz v_1)))]) (fun (o:(Unit ⊕ Int)) (p:Ex×St)=>match o with | (.inl _)=>p.1= .exit 0∧p.2.norm ([],[])=mk [] [] | (.inr r2)=>p.1= .ret∧fin Tryz.prog cfg 84 Tryz.f84 [.im 2 false [W 2 bV s_0],.im 2 true (wz v_1)] p.2=some (B0 [(false,[.im 0 (I r2)])])) hl (by kernel_rfl) ?_ ?_ ?_
 ·intro o p hp e
  rcases o with u | r2<;>exact nomatch (hp.1.symm.trans e)
 ·rintro fB o h
  unfold fF at h
  refine gs<|g0 j j (q (oBi j j j j)<|nl)<|us<|gs<|gc h j ah (fun hc5 h=>?_) fun hc5 h=>?_
  ·refine Go.skip<|us<|gs<|Go.block<|gs<|g0 j j (q (oMv j j)<|q (ae j j)<|nl)<|us<|gs<|?_
   obtain ⟨x14,vG,h⟩:=bs h
   refine gd c84 j j j j (mk [(0,D 2 (W 2 bV s_0)),(3,M 3),(5,iv fB),(7,iv (s_0.length:Int)),(8,iv fB),(16,bv ((v_1.e0==x14.e0)&&(v_1.e1==x14.e1)))] [(3,Oa (G 0 (wz v_1)))]) (t j j (oLd (cs:=[.im 0 _,.im 0 _]) j IU j j)<|t j j (oMv j j)<|t j j (oMv j j)<|t j j (gp j vG XT j j)<|t j j (oLd (cs:=[.im 2 _,.im 2 _]) j IU j j)<|t j j (oBa j (ac2 v_1.e0 v_1.e1 x14.e0 x14.e1) j j j j)<|sD (by kernel_rfl))<|us<|gc h j (xU iEq iEq) (fun hc6 h=>?_) fun hc6 h=>?_
   ·refine gs<|g0 j j (q (oMv j j)<|q (ae j j)<|nl)<|us<|Go.ret (Unw.ret ?_)
    cases h
    exact ⟨j,(fo ae1 j)⟩
   ·refine Go.skip<|Unw.blk<|us<|g0 j j (q (oBi j j j j)<|q (oMv j j)<|nl)<|Unw.nil<|?_
    cases h
    exact ⟨j,(by kernel_rfl)⟩
  ·refine Go.exit<|ux<|Unw.nil<|?_
   cases h
   exact ⟨j,(by kernel_rfl)⟩
 ·rintro ⟨e,st⟩ hp
  rcases o with u | r2
  ·dsimp only at h
   obtain ⟨he,hst⟩:=hp
   obtain rfl:e= .exit 0:=he
   refine Unw.iT<|us<|gs<|g2 c84 j j hst (q (ae j j)<|nl)<|us<|Go.ret (Unw.ret ?_)
   cases h
   exact fr ae1 j
  ·dsimp only at h
   obtain ⟨he,hfin⟩:=hp
   obtain rfl:e= .ret:=he
   cases h
   exact Unw.ret (fM hfin)
theorem uG {s_0:(List aZ)} {v_1:aZ} {r:Bool} (h:fG s_0 v_1=some r):FX 58 [.im 2 false [W 2 bV s_0],.im 2 true (wz v_1)] (B0 [(false,[.im 0 (V r)])]):=by
 unfold fG at h
 refine gn 9 Tryz.func58 rfl ?_
 refine gs<|g0 j j (q (oBx j IU j (tkI (tkI tk0)))<|q (ae j j)<|nl)<|us<|gs<|?_
 obtain ⟨x7,hx7,h⟩:=bs h
 refine g0 j j (q (oMv j j)<|q (oLd (cs:=[.im 0 _,.im 0 _]) j IU j j)<|q (oCa (xs:=[.v false [.im 2 _],.v true [.im 0 _,.im 0 _]]) (vs:=[(false,[.im 0 _])]) (v:=.v false [.im 0 _]) (wE hx7) (.inl j) j QS j (ppC j (ppC j pp0)) j j pb0 j j j)<|q (oBi j j j j)<|q (ae j j)<|nl)<|us<|Go.ret (Unw.ret ?_)
 cases h
 exact fr agY j
theorem DL {e_0:aZ} {OW:(List (List aZ))} {OX:Int} {r:Bool} (h:ja e_0 OW OX=some r):FX 57 [.im 2 true (wz e_0),.im 2 false [.cp [W 1 (eL 2 bV) OW] 0],.im 2 false [.cp [I OX] 0]] (B0 [(false,[.im 0 (V r)])]):=by
 unfold ja at h
 refine gn 11 Tryz.func57 rfl ?_
 refine gs<|g0 j j (q (oBx j IU j (tkI (tkI tk0)))<|q (ae j j)<|nl)<|us<|gs<|?_
 obtain ⟨x7,hx7,h⟩:=bs h
 obtain ⟨x10,Ii,h⟩:=bs h
 refine gd c57 j j j j (mk [(4,bv x10)] []) (t j j (oLd (cs:=[.im 2 _]) j O4 j j)<|t j j (oLd (cs:=[.im 2 _]) j tF3 j j)<|t j j (gp j hx7 XR j j)<|t j j (oLd (cs:=[.im 2 _]) j afd j j)<|t j j (oLd (cs:=[.im 0 _,.im 0 _]) j IU j j)<|sS (dN z57 j (oCa (xs:=[.v false [.im 2 _],.v true [.im 0 _,.im 0 _]]) (vs:=[(false,[.im 0 _])]) (v:=.v false [.im 0 _]) (uG Ii) (.inl j) j QM j (ppC j (ppC j pp0)) j j pb0 j j j)) trivial (sS (dN z57 j (ae j j)) trivial (sD (by kernel_rfl))))<|us<|Go.ret (Unw.ret ?_)
 cases h
 exact fr agX j
theorem rC {s_0:(List aZ)} {BO:(List (List aZ))} {BP:Int} {r:Int} (h:gZ s_0 (fun b0=>ja b0 BO BP)=some r):FX 83 [.im 2 false [W 2 bV s_0],.im 2 false [.clo 57 [.cp [W 1 (eL 2 bV) BO] 0,.cp [I BP] 0]]] (B0 [(false,[.im 0 (I r)])]):=by
 unfold gZ at h
 refine gn 19 Tryz.func83 rfl ?_
 refine gs<|g0 j j (q (ae j j)<|nl)<|us<|gs<|gs<|g0 j j (q (oMv j j)<|q (gB j j adk j)<|q (oMv j j)<|nl)<|us<|Go.block<|?_
 obtain ⟨o,hl,h⟩:=bs h
 refine gl c83 j _ (fun (fB:Int)=>mk [(0,D 2 (W 2 bV s_0)),(1,D 2 (.clo 57 [.cp [W 1 (eL 2 bV) BO] 0,.cp [I BP] 0])),(7,iv (s_0.length:Int)),(8,iv fB)] []) (fun (o:(Unit ⊕ Int)) (p:Ex×St)=>match o with | (.inl _)=>p.1= .exit 0∧p.2.norm ([],[])=mk [] [] | (.inr r2)=>p.1= .ret∧fin Tryz.prog cfg 83 Tryz.f83 [.im 2 false [W 2 bV s_0],.im 2 false [.clo 57 [.cp [W 1 (eL 2 bV) BO] 0,.cp [I BP] 0]]] p.2=some (B0 [(false,[.im 0 (I r2)])])) hl (by kernel_rfl) ?_ ?_ ?_
 ·intro o p hp e
  rcases o with u | r2<;>exact nomatch (hp.1.symm.trans e)
 ·rintro fB o h
  unfold dP at h
  refine gs<|g0 j j (q (oBi j j j j)<|nl)<|us<|gs<|gc h j ah (fun hc5 h=>?_) fun hc5 h=>?_
  ·refine Go.skip<|us<|gs<|Go.block<|gs<|g0 j j (q (oMv j j)<|q (ae j j)<|nl)<|us<|gs<|?_
   obtain ⟨x14,vG,h⟩:=bs h
   obtain ⟨x16,hx16,h⟩:=bs h
   refine g0 j j (q (oMv j j)<|q (oMv j j)<|q (oMv j j)<|q (gp j vG XT j j)<|q (oLd (cs:=[.im 2 _,.im 2 _]) j IU j j)<|q (oCa (xs:=[.v true [.im 2 _,.im 2 _],.v false [.im 2 _],.v false [.im 2 _]]) (vs:=[(false,[.im 0 _])]) (v:=.v false [.im 0 _]) (DL hx16) (.inr ⟨_,_,j,j⟩) j O1 j (ppC j (ppC j (ppC j pp0))) j j pb0 j j j)<|nl)<|us<|gc h j iR (fun hc6 h=>?_) fun hc6 h=>?_
   ·refine gs<|g0 j j (q (oMv j j)<|q (ae j j)<|nl)<|us<|Go.ret (Unw.ret ?_)
    cases h
    exact ⟨j,(fo ae0 j)⟩
   ·refine Go.skip<|Unw.blk<|us<|g0 j j (q (oBi j j j j)<|q (oMv j j)<|nl)<|Unw.nil<|?_
    cases h
    exact ⟨j,(by kernel_rfl)⟩
  ·refine Go.exit<|ux<|Unw.nil<|?_
   cases h
   exact ⟨j,(by kernel_rfl)⟩
 ·rintro ⟨e,st⟩ hp
  rcases o with u | r2
  ·dsimp only at h
   obtain ⟨he,hst⟩:=hp
   obtain rfl:e= .exit 0:=he
   refine Unw.iT<|us<|gs<|g2 c83 j j hst (q (ae j j)<|nl)<|us<|Go.ret (Unw.ret ?_)
   cases h
   exact fr ae0 j
  ·dsimp only at h
   obtain ⟨he,hfin⟩:=hp
   obtain rfl:e= .ret:=he
   cases h
   exact Unw.ret (fM hfin)
theorem qg {s_0:(List aZ)} {BO:(List (List aZ))} {BP:Int} {r:Bool} (h:dQ s_0 (fun b0=>ja b0 BO BP)=some r):FX 56 [.im 2 false [W 2 bV s_0],.im 2 false [.clo 57 [.cp [W 1 (eL 2 bV) BO] 0,.cp [I BP] 0]]] (B0 [(false,[.im 0 (V r)])]):=by
 unfold dQ at h
 refine gn 9 Tryz.func56 rfl ?_
 refine gs<|g0 j j (q (ae j j)<|nl)<|us<|gs<|?_
 obtain ⟨x7,hx7,h⟩:=bs h
 refine g0 j j (q (oMv j j)<|q (oMv j j)<|q (oCa (xs:=[.v false [.im 2 _],.v false [.im 2 _]]) (vs:=[(false,[.im 0 _])]) (v:=.v false [.im 0 _]) (rC hx7) (.inl j) j QO j (ppC j (ppC j pp0)) j j pb0 j j j)<|q (oBi j j j j)<|q (ae j j)<|nl)<|us<|Go.ret (Unw.ret ?_)
 cases h
 exact fr agW j
theorem Gz {d_0:aA} {r:(List (List Int))} (h:pI d_0=some r):FX 34 [.im 2 true (au d_0)] (B0 [(false,[.im 0 (W 1 (eL 1 eI) r)])]):=by
 unfold pI at h
 refine gn 61 Tryz.func34 rfl ?_
 refine gs<|g0 j j (sqn z34 j (oBx j AX j (tkI (tkI (tkI (tkI tk0)))))<|sqf z34 j (uO j j acP) (agf j j j)<|nl)<|us<|gs<|g0 j j (sqn z34 j (oBS (es:=List.map (eL 2 bV) ([]:List (List aZ))) j XR j pt0 (Df j))<|sqn z34 j (oAl j O4 (tkN tk0))<|sq0 (oSt O4 j j j (tkO j j tk0) j j j)<|nl)<|us<|gs<|gs<|g1 j j (mk [(1,M 1),(3,M 3)] [(1,Oa (G 2 (au d_0))),(3,Ob [Z (W 1 (eL 2 bV) ([]:List (List aZ)))])]) (sqn z34 j (oFA (r':=.mp 1 0 3) j oO j j)<|sqn z34 j (oLd (cs:=[.im 2 _]) j BK j j)<|sqn z34 j (gB j j IY j)<|sqn z34 j (oMv j j)<|nl)<|us<|Go.block<|?_
 obtain ⟨o,hl,h⟩:=bs h
 refine gl c34 j _ (fun (s:(Int×(List (List aZ))))=>match s with | (zF,uC)=>mk [(3,M 3),(11,D 2 (W 2 bQ d_0.aC)),(12,iv (d_0.aC.length:Int)),(13,iv zF)] [(3,Ob [Z (W 1 (eL 2 bV) uC)])]) (fun (aS:(List (List aZ))) (p:Ex×St)=>p.1= .exit 0∧p.2.norm ([3],[3])=mk [(3,M 3)] [(3,Ob [Z (W 1 (eL 2 bV) aS)])]) hl (by kernel_rfl) ?_ ?_ ?_
 ·intro o p hp e
  exact nomatch (hp.1.symm.trans e)
 ·rintro ⟨zF,uC⟩ o h
  unfold lU at h
  dsimp only at h
  refine gs<|g0 j j (sqn z34 j (oBi j j j j)<|nl)<|us<|gs<|gc h j ah (fun hc38 h=>?_) fun hc38 h=>?_
  ·refine Go.skip<|us<|gs<|Go.block<|gs<|?_
   obtain ⟨x15,AY,h⟩:=bs h
   refine g0 j j (sqn z34 j (gp j AY Fa j j)<|sqn z34 j (oLd (cs:=[.im 2 _,.im 2 _]) j Fb j j)<|sqn z34 j (oAl j Fb (tkI (tkN tk0)))<|sq0 (oSt Fb j j j (tkI (tkI tk0)) j j j)<|nl)<|us<|?_
   obtain ⟨x20,xM,h⟩:=bs h
   obtain ⟨x22,Jc,h⟩:=bs h
   refine gd c34 j j j (st1:=mk [(3,M 3),(5,M 5),(11,D 2 (W 2 bQ d_0.aC)),(12,iv (d_0.aC.length:Int)),(13,iv zF)] [(3,Ob [Z (W 1 (eL 2 bV) uC)]),(5,Oa (G 2 (vF x15)))]) (by kernel_rfl) (mk [(3,M 3),(11,D 2 (W 2 bQ d_0.aC)),(12,iv (d_0.aC.length:Int)),(13,iv zF)] [(3,Ob [Z (W 1 (eL 2 bV) x22)])]) (sT j (dNn z34 j j (oFA (r':=.mp 5 0 1) j BI j j))<|sT j (dNn z34 j j (oLd (cs:=[.im 2 _]) j oC j j))<|sK (O:=[3]) j j j (dNn z34 j j (oLd (cs:=[.own 3 0 0]) j O4 j j))<|sS (dNn z34 j j (oCr (xs:=[.v false [.im 2 _]]) (vs:=[(false,[.own 20 0 0])]) (v:=.v false [.own 20 0 0]) (c:=⟨.sh,0,_⟩) (cs:=[]) (Ir xM) (.inl j) j aaR j (ppC j pp0) j j pb0 j j j)) (kY ⟨j,trivial⟩ trivial) (sS (dNn z34 j j (oBS (es:=List.map (eL 2 bV) ([x20]:List (List aZ))) j XR j (ptC j (fxO j j fx0) j pt0) (Df j))) (kY ⟨j,trivial⟩ trivial) (sS (dNn z34 j j (ET (en:=(eL 2 bV)) (M:=([x20]:List (List aZ))) j Jc j XR j j abg (.inl ⟨_,j⟩) j j j j (kL j j) (Df j))) (kN j trivial) (sS (dN0 j (oSt O4 j j j (tkO j j tk0) j j j)) (kN j trivial) (sD (by kernel_rfl))))))<|Unw.blk<|us<|g0 j j (sqn z34 j (oBi j j j j)<|sqn z34 j (oMv j j)<|nl)<|Unw.nil<|?_
   cases h
   exact ⟨j,(by kernel_rfl)⟩
  ·refine Go.exit<|ux<|Unw.nil<|?_
   cases h
   exact ⟨j,(by kernel_rfl)⟩
 ·rintro ⟨e,st⟩ hp
  obtain ⟨aS,rfl⟩:∃y,y=o:=⟨o,rfl⟩
  obtain ⟨he,hst⟩:=hp
  obtain rfl:e= .exit 0:=he
  refine Unw.iT<|us<|gs<|?_
  obtain ⟨x26,O6,h⟩:=bs h
  refine g2 c34 j j hst (sqn z34 j (oLd (cs:=[.own 3 0 0]) j O4 j j)<|sqn z34 j (Ho j j abg j j j (fun e=>nomatch e))<|sqn z34 j (agc (en:=(eL 1 eI)) j O6 j uF j j (fxN fx0) j (Df j))<|sqn z34 j (aer j j j j j)<|nl)<|us<|gs<|gs<|g0 j j (sqn z34 j (oLd (cs:=[.own 3 0 0]) j O4 j j)<|sqn z34 j (Ho j j abg j j j (fun e=>nomatch e))<|sqn z34 j (oMv j j)<|nl)<|us<|Go.block<|?_
  obtain ⟨o,hl,h⟩:=bs h
  refine gl c34 j _ (fun (s:(Int×(List (List Int))))=>match s with | (iZ,AU)=>mk [(3,M 3),(6,H 6 0),(28,iv (aS.length:Int)),(29,iv iZ)] [(3,Ob [Z (W 1 (eL 2 bV) aS)]),(6,Oc [⟨.dp 0,0,0,W 1 (eL 1 eI) AU⟩])]) (fun (zG:(List (List Int))) (p:Ex×St)=>p.1= .exit 2∧p.2.norm ([6],[6])=mk [(6,H 6 0)] [(6,Oc [⟨.dp 0,0,0,W 1 (eL 1 eI) zG⟩])]) hl (by kernel_rfl) ?_ ?_ ?_
  ·intro o p hp e
   exact nomatch (hp.1.symm.trans e)
  ·rintro ⟨iZ,AU⟩ o h
   unfold lT at h
   dsimp only at h
   refine gs<|g0 j j (sqn z34 j (oBi j j j j)<|nl)<|us<|gs<|gc h j ah (fun hc21 h=>?_) fun hc21 h=>?_
   ·refine Go.skip<|us<|gs<|Go.block<|gs<|g0 j j (sqn z34 j (oMv j j)<|sqn z34 j (ae j j)<|nl)<|us<|gs<|g0 j j (sqn z34 j (oLd (cs:=[.own 3 0 0]) j O4 j j)<|sqn z34 j (Ho j j abg j j j (fun e=>nomatch e))<|sqn z34 j (oMv j j)<|nl)<|us<|Go.block<|?_
    obtain ⟨o,hl,h⟩:=bs h
    refine gl c34 j _ (fun (s:(Int×(List (List Int))))=>match s with | (je,jP)=>mk [(3,M 3),(6,H 6 0),(7,iv iZ),(28,iv (aS.length:Int)),(29,iv iZ),(33,iv (aS.length:Int)),(34,iv je)] [(3,Ob [Z (W 1 (eL 2 bV) aS)]),(6,Oc [⟨.dp 0,0,0,W 1 (eL 1 eI) jP⟩])]) (fun (yC:(List (List Int))) (p:Ex×St)=>p.1= .exit 4∧p.2.norm ([3,6,28,29],[3,6])=mk [(3,M 3),(6,H 6 0),(28,iv (aS.length:Int)),(29,iv iZ)] [(3,Ob [Z (W 1 (eL 2 bV) aS)]),(6,Oc [⟨.dp 0,0,0,W 1 (eL 1 eI) yC⟩])]) hl (by kernel_rfl) ?_ ?_ ?_
    ·intro o p hp e
     exact nomatch (hp.1.symm.trans e)
    ·rintro ⟨je,jP⟩ o h
     unfold kU at h
     dsimp only at h
     refine gs<|g0 j j (sqn z34 j (oBi j j j j)<|nl)<|us<|gs<|gc h j ah (fun kS h=>?_) fun kS h=>?_
     ·refine Go.skip<|us<|gs<|Go.join (fun st=>∃yV,kT je yV=some o∧st.norm ([3,6,7,28,29,33,34],[3,6])=mk [(3,M 3),(6,H 6 0),(7,iv iZ),(28,iv (aS.length:Int)),(29,iv iZ),(33,iv (aS.length:Int)),(34,iv je)] [(3,Ob [Z (W 1 (eL 2 bV) aS)]),(6,Oc [⟨.dp 0,0,0,W 1 (eL 1 eI) yV⟩])]) ?_ ?_
      ·rintro st ⟨yV,h,hst⟩
       unfold kT at h
       refine us<|g2 c34 j j hst (sqn z34 j (oBi j j j j)<|sqn z34 j (oMv j j)<|nl)<|Unw.nil<|?_
       cases h
       exact ⟨j,(by kernel_rfl)⟩
      ·intro K34
       refine Go.block<|gs<|g0 j j (sqn z34 j (oMv j j)<|sqn z34 j (oAl j tF3 (tkI tk0))<|sq0 (oSt tF3 j j j (tkI tk0) j j j)<|nl)<|us<|gs<|?_
       obtain ⟨KP,DK,h⟩:=bs h
       refine gX c34 j j (st1:=mk [(3,M 3),(6,H 6 0),(7,iv iZ),(8,M 8),(28,iv (aS.length:Int)),(29,iv iZ),(33,iv (aS.length:Int)),(34,iv je)] [(3,Ob [Z (W 1 (eL 2 bV) aS)]),(6,Oc [⟨.dp 0,0,0,W 1 (eL 1 eI) jP⟩]),(8,Ob [C (I je)])]) (by kernel_rfl) (mk [(3,M 3),(6,H 6 0),(7,iv iZ),(8,M 8),(28,iv (aS.length:Int)),(29,iv iZ),(33,iv (aS.length:Int)),(34,iv je),(47,bv KP)] [(3,Ob [Z (W 1 (eL 2 bV) aS)]),(6,Oc [⟨.dp 0,0,0,W 1 (eL 1 eI) jP⟩]),(8,Ob [C (I je)])]) ?_ ?_
       ·refine Vd z34 j (oMv j j)<|Vd z34 j (oLd (cs:=[.im 0 _]) j tF3 j j)<|Vd z34 j (oBi j j j j)<|Vd z34 j (oMv j j)<|?_
        refine ic DK (fun qf DK=>?_) fun qf DK=>?_
        ·obtain ⟨x43,Md,DK⟩:=bs DK
         obtain ⟨x46,Pm,DK⟩:=bs DK
         cases DK
         exact NF z34 j j j (iNe.2 qf) (oLd (cs:=[.own 3 0 0]) j O4 j j)<|NF z34 j j j (iNe.2 qf) (oMv j j)<|NF z34 j j j (iNe.2 qf) (Ak j Md XR j j j j)<|NF z34 j j j (iNe.2 qf) (IW (cs:=[.im 0 _]) j afd j j j j (eX Md) j j)<|NF z34 j j j (iNe.2 qf) (oMF (rs:=[.mp 3 0 0,.mp 8 0 0]) j j)<|NF z34 j j j (iNe.2 qf) (oCa (xs:=[.v false [.im 0 _],.fn 57 [.mp 3 0 0,.mp 8 0 0]]) (vs:=[(false,[.im 0 _])]) (v:=.v false [.im 0 _]) (qg Pm) (.inl j) j QL j (ppC j (ppC j pp0)) j j pb0 j j j)<|Vd z34 j (bF j j (iNe.2 qf) j)<|xn
        ·cases DK
         exact aj j j (byF iNe qf) j<|aj j j (byF iNe qf) j<|aj j j (byF iNe qf) j<|aj j j (byF iNe qf) j<|aj j j (byF iNe qf) j<|aj j j (byF iNe qf) j<|Vd z34 j (dK j j (byF iNe qf) j)<|xn
       ·refine us<|gc h j iR (fun XW h=>?_) fun XW h=>?_
        ·obtain ⟨x52,XZ,h⟩:=bs h
         obtain ⟨x56,adt,h⟩:=bs h
         obtain ⟨x57,VE,h⟩:=bs h
         exact gd c34 j j j j (mk [(3,M 3),(6,H 6 0),(7,iv iZ),(28,iv (aS.length:Int)),(29,iv iZ),(33,iv (aS.length:Int)),(34,iv je)] [(3,Ob [Z (W 1 (eL 2 bV) aS)]),(6,Oc [⟨.dp 0,0,0,W 1 (eL 1 eI) (jP.set iZ.toNat x56)⟩])]) (sT j (dNn z34 j j (oMv j j))<|sT j (dNn z34 j j (oMv j j))<|sT j (dNn z34 j j (oMv j j))<|sT j (dNn z34 j j (oMv j j))<|sT j (dNn z34 j j (oLd (cs:=[.im 0 _]) j tF3 j j))<|sK (O:=[6]) j j j (dNn z34 j j (Hr j XZ uF j j j j (fun e=>nomatch e)))<|sK (O:=[6]) j j j (dNn z34 j j (aes (cs:=[.inr 6 0 0 _ 0 0]) j oC j j j (eX XZ) j j))<|sS (dNn z34 j j (oBS (es:=List.map eI ([je]:List Int)) j fO j (ptC j (fxI fx0) j pt0) (dZ j fun _=>j))) (kY ⟨j,trivial⟩ (kY ⟨j,trivial⟩ trivial)) (sS (dNn z34 j j (KC (en:=eI) (M:=([je]:List Int)) j adt j fO j j l9 (.inl ⟨_,j⟩) j j j (eX XZ) j j (kL j j) (dZ j fun _=>j))) (kN j (kN j trivial)) (sT j (dNn z34 j j (Hr j VE uF j j j j (fun e=>nomatch e)))<|sS (dN0 j (KA (v':=x56) oC j j j j (tkO j j tk0) j j (eX VE) j)) (kN j (kN j trivial)) (sD (by kernel_rfl)))))<|Unw.blk<|K34 _ ⟨(jP.set iZ.toNat x56),h,(by kernel_rfl)⟩
        ·exact Go.skip<|Unw.blk<|K34 _ ⟨jP,h,(by kernel_rfl)⟩
     ·refine Go.exit<|ux<|Unw.nil<|?_
      cases h
      exact ⟨j,(by kernel_rfl)⟩
    ·rintro ⟨e,st⟩ hp
     obtain ⟨yC,rfl⟩:∃y,y=o:=⟨o,rfl⟩
     obtain ⟨he,hst⟩:=hp
     obtain rfl:e= .exit 4:=he
     refine Unw.iT<|Unw.blk<|us<|g2 c34 j j hst (sqn z34 j (oBi j j j j)<|sqn z34 j (oMv j j)<|nl)<|Unw.nil<|?_
     cases h
     exact ⟨j,(by kernel_rfl)⟩
   ·refine Go.exit<|ux<|Unw.nil<|?_
    cases h
    exact ⟨j,(by kernel_rfl)⟩
  ·rintro ⟨e,st⟩ hp
   obtain ⟨zG,rfl⟩:∃y,y=o:=⟨o,rfl⟩
   obtain ⟨he,hst⟩:=hp
   obtain rfl:e= .exit 2:=he
   refine Unw.iT<|us<|gs<|g2 c34 j j hst (sqn z34 j (oMv j j)<|sqf z34 j (aer j j j j j) (agh j j j)<|nl)<|us<|Go.ret (Unw.ret ?_)
   cases h
   exact fr agK j
theorem zg {s_0:(List Int)} {v_1:Int} {r:Int} (h:jU s_0 v_1=some r):FX 87 [.im 2 false [W 1 eI s_0],.im 2 false [I v_1]] (B0 [(false,[.im 0 (I r)])]):=by
 unfold jU at h
 refine gn 19 Tryz.func87 rfl ?_
 refine gs<|g0 j j (q (ae j j)<|nl)<|us<|gs<|gs<|g0 j j (q (oMv j j)<|q (gB j j l9 j)<|q (oMv j j)<|nl)<|us<|Go.block<|?_
 obtain ⟨o,hl,h⟩:=bs h
 refine gl c87 j _ (fun (fB:Int)=>mk [(0,D 2 (W 1 eI s_0)),(1,iv v_1),(7,iv (s_0.length:Int)),(8,iv fB)] []) (fun (o:(Unit ⊕ Int)) (p:Ex×St)=>match o with | (.inl _)=>p.1= .exit 0∧p.2.norm ([],[])=mk [] [] | (.inr r2)=>p.1= .ret∧fin Tryz.prog cfg 87 Tryz.f87 [.im 2 false [W 1 eI s_0],.im 2 false [I v_1]] p.2=some (B0 [(false,[.im 0 (I r2)])])) hl (by kernel_rfl) ?_ ?_ ?_
 ·intro o p hp e
  rcases o with u | r2<;>exact nomatch (hp.1.symm.trans e)
 ·rintro fB o h
  unfold ig at h
  refine gs<|g0 j j (q (oBi j j j j)<|nl)<|us<|gs<|gc h j ah (fun hc5 h=>?_) fun hc5 h=>?_
  ·refine Go.skip<|us<|gs<|Go.block<|gs<|g0 j j (q (oMv j j)<|q (ae j j)<|nl)<|us<|gs<|?_
   obtain ⟨x14,vG,h⟩:=bs h
   refine g0 j j (q (oMv j j)<|q (oMv j j)<|q (oMv j j)<|q (gp j vG fO j j)<|q (oLd (cs:=[.im 2 _]) j tF2 j j)<|q (oBi j j j j)<|nl)<|us<|gc h j iEq (fun hc6 h=>?_) fun hc6 h=>?_
   ·refine gs<|g0 j j (q (oMv j j)<|q (ae j j)<|nl)<|us<|Go.ret (Unw.ret ?_)
    cases h
    exact ⟨j,(fo ae2 j)⟩
   ·refine Go.skip<|Unw.blk<|us<|g0 j j (q (oBi j j j j)<|q (oMv j j)<|nl)<|Unw.nil<|?_
    cases h
    exact ⟨j,(by kernel_rfl)⟩
  ·refine Go.exit<|ux<|Unw.nil<|?_
   cases h
   exact ⟨j,(by kernel_rfl)⟩
 ·rintro ⟨e,st⟩ hp
  rcases o with u | r2
  ·dsimp only at h
   obtain ⟨he,hst⟩:=hp
   obtain rfl:e= .exit 0:=he
   refine Unw.iT<|us<|gs<|g2 c87 j j hst (q (ae j j)<|nl)<|us<|Go.ret (Unw.ret ?_)
   cases h
   exact fr ae2 j
  ·dsimp only at h
   obtain ⟨he,hfin⟩:=hp
   obtain rfl:e= .ret:=he
   cases h
   exact Unw.ret (fM hfin)
theorem xN {s_0:(List Int)} {v_1:Int} {r:Bool} (h:fE s_0 v_1=some r):FX 62 [.im 2 false [W 1 eI s_0],.im 2 false [I v_1]] (B0 [(false,[.im 0 (V r)])]):=by
 unfold fE at h
 refine gn 9 Tryz.func62 rfl ?_
 refine gs<|g0 j j (q (ae j j)<|nl)<|us<|gs<|?_
 obtain ⟨x7,hx7,h⟩:=bs h
 refine g0 j j (q (oMv j j)<|q (oMv j j)<|q (oCa (xs:=[.v false [.im 2 _],.v false [.im 2 _]]) (vs:=[(false,[.im 0 _])]) (v:=.v false [.im 0 _]) (zg hx7) (.inl j) j Vz j (ppC j (ppC j pp0)) j j pb0 j j j)<|q (oBi j j j j)<|q (ae j j)<|nl)<|us<|Go.ret (Unw.ret ?_)
 cases h
 exact fr ag0 j
theorem GG {a_0:Int} {b_1:Int} {r:(Int×Int)} (h:tC a_0 b_1=some r):FX 88 [.im 2 false [I a_0],.im 2 false [I b_1]] (B0 [(false,[.im 0 (I r.1)]),(false,[.im 0 (I r.2)])]):=by
 unfold tC at h
 refine gn 26 Tryz.func88 rfl ?_
 refine gs<|g0 j j (q (ae j j)<|q (ae j j)<|nl)<|us<|gs<|gs<|?_
 obtain ⟨x8,hx8,h⟩:=bs h
 obtain ⟨OY,hm3,h⟩:=bs h
 refine gX c88 j j j (mk [(0,iv a_0),(1,iv b_1),(14,bv OY)] []) ?_ ?_
 ·refine xq (oMv j j)<|xq (oCa (xs:=[.v false [.im 2 _],.v false [.im 0 _],.v false [.im 0 _]]) (vs:=[(false,[.im 0 _])]) (v:=.v false [.im 0 _]) (dB hx8) (.inl j) j gz j (ppC j (ppC j (ppC j pp0))) j j pb0 j j j)<|xq (oUn j j j)<|xq (oMv j j)<|?_
  refine ic hm3 (fun hc1 hm3=>?_) fun hc1 hm3=>?_
  ·obtain ⟨x12,zS,hm3⟩:=bs hm3
   cases hm3
   exact xqT j j (nF (iR.2 hc1)) (oMv j j)<|xqT j j (nF (iR.2 hc1)) (oCa (xs:=[.v false [.im 2 _],.v false [.im 0 _],.v false [.im 0 _]]) (vs:=[(false,[.im 0 _])]) (v:=.v false [.im 0 _]) (dB zS) (.inl j) j gz j (ppC j (ppC j (ppC j pp0))) j j pb0 j j j)<|xqT j j (nF (iR.2 hc1)) (oUn j j j)<|xq (dK j j (nF (iR.2 hc1)) j)<|xn
  ·cases hm3
   exact aj j j (nT (byF iR hc1)) j<|aj j j (nT (byF iR hc1)) j<|aj j j (nT (byF iR hc1)) j<|xq (bF j j (nT (byF iR hc1)) j)<|xn
 ·refine us<|gc h j iR (fun hc2 h=>?_) fun hc2 h=>?_
  ·refine gs<|g0 j j (q (ae j j)<|q (ae j j)<|nl)<|us<|Go.ret (Unw.ret ?_)
   cases h
   exact fr ae3 j
  ·refine Go.skip<|us<|gs<|g0 j j (q (oMv j j)<|q (oMv j j)<|q (oBi j j j j)<|q (oMv j j)<|q (oMv j j)<|q (oBi j j j j)<|q (Xf j j)<|q (ae j j)<|nl)<|us<|gs<|g0 j j (q (oMv j j)<|q (oMv j j)<|q (oBi j j j j)<|q (YV j j)<|q (ae j j)<|q (ae j j)<|nl)<|us<|Go.ret (Unw.ret ?_)
   cases h
   exact fr ae3 j
theorem Jk {a_0:ai} {b_1:ai} {r:Int} (h:sQ a_0 b_1=some r):FX 63 [.im 2 true (iG a_0),.im 2 true (iG b_1)] (B0 [(false,[.im 0 (I r)])]):=by
 unfold sQ at h
 refine gn 29 Tryz.func63 rfl ?_
 refine gs<|g0 j j (q (oBx j Dy j (tkI (tkI (tkI tk0))))<|q (oBx j Dy j (tkI (tkI (tkI tk0))))<|q (ae j j)<|nl)<|us<|gs<|?_
 obtain ⟨x12,zS,h⟩:=bs h
 refine g0 j j (q (oFA (r':=.mp 2 0 2) j zN j j)<|q (oLd (cs:=[.im 0 _]) j tF2 j j)<|q (oFA (r':=.mp 3 0 2) j zN j j)<|q (oLd (cs:=[.im 0 _]) j tF2 j j)<|q (oCa (xs:=[.v false [.im 0 _],.v false [.im 0 _]]) (vs:=[(false,[.im 0 _]),(false,[.im 0 _])]) (v:=.tup [(false,[.im 0 _]),(false,[.im 0 _])]) (GG zS) (.inl j) j XK j (ppC j (ppC j pp0)) j j pb0 j j j)<|q (LY j j)<|q (oEx j j j)<|q (oEx j j j)<|q (ae j j)<|q (ae j j)<|nl)<|us<|gs<|?_
 obtain ⟨x27,hx27,h⟩:=bs h
 refine g0 j j (q (oFA (r':=.mp 2 0 1) j rO j j)<|q (oLd (cs:=[.im 0 _]) j tF2 j j)<|q (oFA (r':=.mp 3 0 1) j rO j j)<|q (oLd (cs:=[.im 0 _]) j tF2 j j)<|q (oBi j j j j)<|q (oFA (r':=.mp 3 0 1) j rO j j)<|q (oLd (cs:=[.im 0 _]) j tF2 j j)<|q (oFA (r':=.mp 2 0 1) j rO j j)<|q (oLd (cs:=[.im 0 _]) j tF2 j j)<|q (oBi j j j j)<|q (Xf j j)<|q (oMv j j)<|q (acB j hx27 j j)<|q (oBi j j j j)<|q (ae j j)<|nl)<|us<|Go.ret (Unw.ret ?_)
 cases h
 exact fr ag1 j
theorem zU {self:(aQ×(List Int)×Int×Int)→Option ((List Int)×Int×aQ)} (ih:∀{s_0:aQ} {bf:(List Int)} {aN:Int} {jm:Int} {r:((List Int)×Int×aQ)},self (s_0,bf,aN,jm)=some r→FX 35 [.ptr true [(.gone,W 1 (eL 1 eI) s_0.near),(.imm,W 3 ak s_0.iO),(.imm,I s_0.left)],.mv 1 (List.map eI bf),.im 2 false [I aN],.im 2 false [I jm]] ([(false,[.ow 0 1 (List.map eI r.1)]),(false,[.im 0 (I r.2.1)])],[.ptr true [(.gone,W 1 (eL 1 eI) r.2.2.near),(.imm,W 3 ak r.2.2.iO),(.imm,I r.2.2.left)]])) {s_0:aQ} {bf:(List Int)} {aN:Int} {jm:Int} {r:((List Int)×Int×aQ)} (h:eY self s_0 bf aN jm=some r):FX 35 [.ptr true [(.gone,W 1 (eL 1 eI) s_0.near),(.imm,W 3 ak s_0.iO),(.imm,I s_0.left)],.mv 1 (List.map eI bf),.im 2 false [I aN],.im 2 false [I jm]] ([(false,[.ow 0 1 (List.map eI r.1)]),(false,[.im 0 (I r.2.1)])],[.ptr true [(.gone,W 1 (eL 1 eI) r.2.2.near),(.imm,W 3 ak r.2.2.iO),(.imm,I r.2.2.left)]]):=by
 unfold eY at h
 refine Bo (A:=[(0,M 0),(1,H 1 0),(2,D 2 (I aN)),(3,D 2 (I jm))]) (B:=[(0,Od [C (W 1 (eL 1 eI) s_0.near),Ct 1 (W 3 ak s_0.iO),C (I s_0.left)]),(1,Oc [Z (W 1 eI bf)]),(2,none),(3,none)]) (nt:=124) rfl rfl Tryz.func35 rfl rfl rfl rfl ?_
 refine gs<|g0 j j (q (uO j j Eg)<|q (ae j j)<|nl)<|us<|gs<|g0 j j (q (oMv j j)<|q (Ho j j l9 j j j (fun e=>nomatch e))<|q (ae j j)<|nl)<|us<|gs<|gs<|g0 j j (q (oMv j j)<|q (oMv j j)<|q (oNl j j j)<|q (oFA (r':=.mp 0 0 0) j XA j j)<|q (oLd (cs:=[.im 0 _]) j zl j j)<|q (gB j j Tt j)<|q (oBi j j j j)<|nl)<|us<|gc h j iEq (fun hc1 h=>?_) fun hc1 h=>?_
 ·refine gs<|g0 j j (q (oMv j j)<|q (jZ j j j j j)<|q (ae j j)<|nl)<|us<|Go.ret (Unw.ret ?_)
  cases h
  exact fr aa6 j
 ·refine Go.skip<|us<|gs<|?_
  obtain ⟨x29,hx29,h⟩:=bs h
  refine g0 j j (q (oMv j j)<|q (oCr (xs:=[.v false [.own 1 0 0]]) (vs:=[(false,[.own 29 0 0])]) (v:=.v false [.own 29 0 0]) (c:=⟨.sh,0,_⟩) (cs:=[]) (ND (en:=eI) (L:=bf) j hx29 (fun _=>j)) (.inl j) j UC j (ppC j pp0) j j pb0 j j j)<|q (jZ j j j j j)<|nl)<|us<|gs<|?_
  obtain ⟨x31,hx31,h⟩:=bs h
  refine g0 j j (q (oMv j j)<|q (oCa (xs:=[.v false [.own 11 0 0]]) (vs:=[]) (v:=.tup []) (Y2 j hx31) (.inl j) j aaS j (ppC j pp0) j j (pbO j j j j pb0) j j j)<|nl)<|us<|gs<|?_
  obtain ⟨x33,adu,h⟩:=bs h
  refine g1 j j (mk [(0,M 0),(1,H 1 0),(2,iv aN),(3,iv jm),(10,iv (bf.length:Int)),(11,H 11 0)] [(0,Od [C (W 1 (eL 1 eI) s_0.near),Ct 1 (W 3 ak s_0.iO),C (I s_0.left)]),(1,Oc [Z (W 1 eI bf)]),(11,Oc [Z (W 1 eI x31)])]) (q (oMv j j)<|q (oCr (xs:=[.v false [.own 11 0 0]]) (vs:=[(false,[.own 33 0 0])]) (v:=.v false [.own 33 0 0]) (c:=⟨.sh,0,_⟩) (cs:=[]) (SB j adu) (.inl j) j aaT j (ppM (Aj j j) pp0) j j pb0 j j j)<|q (jZ j j j j j)<|nl)<|us<|gs<|gs<|g0 j j (q (oMv j j)<|q (oNl j j j)<|q (oFA (r':=.mp 0 0 1) j SK j j)<|q (oLd (cs:=[.im 1 _]) j adh j j)<|q (gB j j Fe j)<|q (oMv j j)<|nl)<|us<|Go.block<|?_
  obtain ⟨o,hl,h⟩:=bs h
  refine gl c35 j _ (fun (s:(Int×(List (List Int))×(List ai)×Int))=>match s with | (ik,jw,iJ,jy)=>mk [(0,M 0),(1,H 1 0),(2,iv aN),(3,iv jm),(10,iv (bf.length:Int)),(11,H 11 0),(38,iv (s_0.iO.length:Int)),(39,iv ik)] [(0,Od [C (W 1 (eL 1 eI) jw),Ct 1 (W 3 ak iJ),C (I jy)]),(1,Oc [Z (W 1 eI bf)]),(11,Oc [Z (W 1 eI x33)])]) (fun (o:(((List (List Int))×(List ai)×Int) ⊕ ((List Int)×Int×aQ))) (p:Ex×St)=>match o with | (.inl (xH,xI,xJ))=>p.1= .exit 0∧p.2.norm ([],[0])=mk [] [(0,Od [C (W 1 (eL 1 eI) xH),Ct 1 (W 3 ak xI),C (I xJ)])] | (.inr r2)=>p.1= .ret∧fin Tryz.prog cfg 35 Tryz.f35 [.ptr true [(.gone,W 1 (eL 1 eI) s_0.near),(.imm,W 3 ak s_0.iO),(.imm,I s_0.left)],.mv 1 (List.map eI bf),.im 2 false [I aN],.im 2 false [I jm]] p.2=some ([(false,[.ow 0 1 (List.map eI r2.1)]),(false,[.im 0 (I r2.2.1)])],[.ptr true [(.gone,W 1 (eL 1 eI) r2.2.2.near),(.imm,W 3 ak r2.2.2.iO),(.imm,I r2.2.2.left)]])) hl (by kernel_rfl) ?_ ?_ ?_
  ·intro o p hp e
   rcases o with ⟨xH,xI,xJ⟩ | r2<;>exact nomatch (hp.1.symm.trans e)
  ·rintro ⟨ik,jw,iJ,jy⟩ o h
   unfold eG at h
   dsimp only at h
   refine gs<|g0 j j (q (oBi j j j j)<|nl)<|us<|gs<|gc h j ah (fun kS h=>?_) fun kS h=>?_
   ·refine Go.skip<|us<|gs<|Go.join (fun st=>∃yX,∃yY,∃yZ,dR self ik yX yY yZ=some o∧st.norm ([0,1,2,3,10,11,38,39],[0,1,11])=mk [(0,M 0),(1,H 1 0),(2,iv aN),(3,iv jm),(10,iv (bf.length:Int)),(11,H 11 0),(38,iv (s_0.iO.length:Int)),(39,iv ik)] [(0,Od [C (W 1 (eL 1 eI) yX),Ct 1 (W 3 ak yY),C (I yZ)]),(1,Oc [Z (W 1 eI bf)]),(11,Oc [Z (W 1 eI x33)])]) ?_ ?_
    ·rintro st ⟨yX,yY,yZ,h,hst⟩
     unfold dR at h
     refine us<|g2 c35 j j hst (q (oBi j j j j)<|q (oMv j j)<|nl)<|Unw.nil<|?_
     cases h
     exact ⟨j,(by kernel_rfl)⟩
    ·intro K44
     refine Go.block<|gs<|g0 j j (q (oMv j j)<|q (ae j j)<|nl)<|us<|gs<|gs<|?_
     obtain ⟨KQ,Tv,h⟩:=bs h
     refine gX c35 j j j (mk [(0,M 0),(1,H 1 0),(2,iv aN),(3,iv jm),(10,iv (bf.length:Int)),(11,H 11 0),(12,iv ik),(38,iv (s_0.iO.length:Int)),(39,iv ik),(51,bv KQ)] [(0,Od [C (W 1 (eL 1 eI) jw),Ct 1 (W 3 ak iJ),C (I jy)]),(1,Oc [Z (W 1 eI bf)]),(11,Oc [Z (W 1 eI x33)])]) ?_ ?_
     ·refine xq (oMv j j)<|xq (Ho j j l9 j j j (fun e=>nomatch e))<|xq (oMv j j)<|xq (oBi j j j j)<|xq (oMv j j)<|?_
      refine ic Tv (fun Ik Tv=>?_) fun Ik Tv=>?_
      ·obtain ⟨x49,adm,Tv⟩:=bs Tv
       cases Tv
       exact xqT j j (ah.2 Ik) (oMv j j)<|xqT j j (ah.2 Ik) (oMv j j)<|xqT j j (ah.2 Ik) (oCa (xs:=[.v false [.own 11 0 0],.v false [.im 0 _]]) (vs:=[(false,[.im 0 _])]) (v:=.v false [.im 0 _]) (xN adm) (.inl j) j Vw j (ppC j (ppC j pp0)) j j pb0 j j j)<|xqT j j (ah.2 Ik) (oUn j j j)<|xq (bF j j (ah.2 Ik) j)<|xn
      ·cases Tv
       exact aj j j (byF ah Ik) j<|aj j j (byF ah Ik) j<|aj j j (byF ah Ik) j<|aj j j (byF ah Ik) j<|xq (dK j j (byF ah Ik) j)<|xn
     ·refine us<|gc h j iR (fun pM h=>?_) fun pM h=>?_
      ·exact Go.exit<|ux<|Unw.iT<|K44 _ ⟨jw,iJ,jy,h,(by kernel_rfl)⟩
      ·refine Go.skip<|us<|gs<|g0 j j (q (ae j j)<|nl)<|us<|gs<|gs<|?_
       obtain ⟨x57,VE,h⟩:=bs h
       refine g0 j j (q (oMv j j)<|q (oNl j j j)<|q (oFA (r':=.mp 0 0 0) j XA j j)<|q (oLd (cs:=[.im 0 _]) j zl j j)<|q (oMv j j)<|q (gp j VE uF j j)<|q (oLd (cs:=[.im 0 _]) j oC j j)<|q (gB j j l9 j)<|q (oMv j j)<|nl)<|us<|Go.block<|?_
       obtain ⟨o,hl,h⟩:=bs h
       refine gl c35 j _ (fun (s:(Bool×Int))=>match s with | (xG,y5)=>mk [(0,M 0),(1,H 1 0),(2,iv aN),(3,iv jm),(10,iv (bf.length:Int)),(11,H 11 0),(12,iv ik),(13,bv xG),(38,iv (s_0.iO.length:Int)),(39,iv ik),(58,D 0 (W 1 eI x57)),(59,iv (x57.length:Int)),(60,iv y5)] [(0,Od [C (W 1 (eL 1 eI) jw),Ct 1 (W 3 ak iJ),C (I jy)]),(1,Oc [Z (W 1 eI bf)]),(11,Oc [Z (W 1 eI x33)])]) (fun (sU:Bool) (p:Ex×St)=>p.1= .exit 2∧p.2.norm ([0,1,2,3,10,11,12,13,38,39],[0,1,11])=mk [(0,M 0),(1,H 1 0),(2,iv aN),(3,iv jm),(10,iv (bf.length:Int)),(11,H 11 0),(12,iv ik),(13,bv sU),(38,iv (s_0.iO.length:Int)),(39,iv ik)] [(0,Od [C (W 1 (eL 1 eI) jw),Ct 1 (W 3 ak iJ),C (I jy)]),(1,Oc [Z (W 1 eI bf)]),(11,Oc [Z (W 1 eI x33)])]) hl (by kernel_rfl) ?_ ?_ ?_
       ·intro o p hp e
        exact nomatch (hp.1.symm.trans e)
       ·rintro ⟨xG,y5⟩ o h
        unfold gK at h
        dsimp only at h
        refine gs<|g0 j j (q (oBi j j j j)<|nl)<|us<|gs<|gc h j ah (fun ahC h=>?_) fun ahC h=>?_
        ·refine Go.skip<|us<|gs<|Go.block<|gs<|?_
         obtain ⟨x62,adq,h⟩:=bs h
         refine g0 j j (q (gp j adq fO j j)<|q (oLd (cs:=[.im 0 _]) j tF2 j j)<|q (ae j j)<|nl)<|us<|?_
         obtain ⟨Dn,DN,h⟩:=bs h
         refine gd c35 j j j j (mk [(0,M 0),(1,H 1 0),(2,iv aN),(3,iv jm),(10,iv (bf.length:Int)),(11,H 11 0),(12,iv ik),(13,bv Dn),(38,iv (s_0.iO.length:Int)),(39,iv ik),(58,D 0 (W 1 eI x57)),(59,iv (x57.length:Int)),(60,iv y5)] [(0,Od [C (W 1 (eL 1 eI) jw),Ct 1 (W 3 ak iJ),C (I jy)]),(1,Oc [Z (W 1 eI bf)]),(11,Oc [Z (W 1 eI x33)])]) ?_ ?_
         ·refine t j j (oMv j j)<|t j j (oMv j j)<|?_
          refine ic DN (fun FI DN=>?_) fun FI DN=>?_
          ·refine tT j j j j (iR.2 FI) (oMv j j)<|tT j j j j (iR.2 FI) (oMv j j)<|tT j j j j (iR.2 FI) (oBi j j j j)<|tT j j j j (iR.2 FI) (oMv j j)<|?_
           refine ic DN (fun nK DN=>?_) fun nK DN=>?_
           ·cases DN
            exact tF j j j j (ah.2 nK) j<|tF j j j j (ah.2 nK) j<|tF j j j j (ah.2 nK) j<|tF j j j j (ah.2 nK) j<|tF j j j j (ah.2 nK) j<|tF j j j j (ah.2 nK) j<|tF j j j j (ah.2 nK) j<|tF j j j j (ah.2 nK) j<|tF j j j j (ah.2 nK) j<|tF j j j j (ah.2 nK) j<|tF j j j j (ah.2 nK) j<|tF j j j j (ah.2 nK) j<|tF j j j j (ah.2 nK) j<|tF j j j j (ah.2 nK) j<|tF j j j j (ah.2 nK) j<|tF j j j j (ah.2 nK) j<|tF j j j j (ah.2 nK) j<|tF j j j j (ah.2 nK) j<|sS (dF j j j (ah.2 nK) j) trivial (tF j j j j (ah.2 nK) j<|tT j j j j (iR.2 FI) (bF j j (ah.2 nK) j)<|t j j (bF j j (iR.2 FI) j)<|sS (dN z35 j (ae j j)) trivial (sD (by kernel_rfl)))
           ·obtain ⟨x75,adz,DN⟩:=bs DN
            obtain ⟨x83,abj,DN⟩:=bs DN
            obtain ⟨x85,XX,DN⟩:=bs DN
            obtain ⟨x87,X0,DN⟩:=bs DN
            cases DN
            exact tT j j j j (byF ah nK) (oMv j j)<|tT j j j j (byF ah nK) (oNl j j j)<|tT j j j j (byF ah nK) (oFA (r':=.mp 0 0 1) j SK j j)<|tT j j j j (byF ah nK) (oLd (cs:=[.im 1 _]) j adh j j)<|tT j j j j (byF ah nK) (oMv j j)<|tT j j j j (byF ah nK) (gp j adz Ia j j)<|tT j j j j (byF ah nK) (oLd (cs:=[.im 1 _,.im 1 _,.im 1 _]) j Dy j j)<|tT j j j j (byF ah nK) (oMv j j)<|tT j j j j (byF ah nK) (oNl j j j)<|tT j j j j (byF ah nK) (oFA (r':=.mp 0 0 1) j SK j j)<|tT j j j j (byF ah nK) (oLd (cs:=[.im 1 _]) j adh j j)<|tT j j j j (byF ah nK) (oMv j j)<|tT j j j j (byF ah nK) (oMv j j)<|tT j j j j (byF ah nK) (Ak j abj fO j j j j)<|tT j j j j (byF ah nK) (IW (cs:=[.im 0 _]) j tF2 j j j j (eX abj) j j)<|tT j j j j (byF ah nK) (gp j XX Ia j j)<|tT j j j j (byF ah nK) (oLd (cs:=[.im 1 _,.im 1 _,.im 1 _]) j Dy j j)<|tT j j j j (byF ah nK) (oMv j j)<|sS (dT z35 j j j (byF ah nK) (oCa (xs:=[.v true [.im 1 _,.im 1 _,.im 1 _],.v true [.im 1 _,.im 1 _,.im 1 _]]) (vs:=[(false,[.im 0 _])]) (v:=.v false [.im 0 _]) (Jk X0) (.inl j) j Tc j (ppC j (ppC j pp0)) j j pb0 j j j)) trivial (tT j j j j (byF ah nK) (oBi j j j j)<|tT j j j j (iR.2 FI) (dK j j (byF ah nK) j)<|t j j (bF j j (iR.2 FI) j)<|sS (dN z35 j (ae j j)) trivial (sD (by kernel_rfl)))
          ·cases DN
           exact tF j j j j (byF iR FI) j<|tF j j j j (byF iR FI) j<|tF j j j j (byF iR FI) j<|tF j j j j (byF iR FI) j<|sT j (dU j j j j)<|sT j (dU j j j j)<|sT j (dU j j j j)<|sT j (dU j j j j)<|sT j (dU j j j j)<|sT j (dU j j j j)<|sT j (dU j j j j)<|sT j (dU j j j j)<|sT j (dU j j j j)<|sT j (dU j j j j)<|sT j (dU j j j j)<|sT j (dU j j j j)<|sT j (dU j j j j)<|sT j (dU j j j j)<|sT j (dU j j j j)<|sT j (dU j j j j)<|sT j (dU j j j j)<|sT j (dU j j j j)<|sS (dU j j j j) trivial (sT j (dU j j j j)<|tF j j j j (byF iR FI) j<|t j j (dK j j (byF iR FI) j)<|sS (dN z35 j (ae j j)) trivial (sD (by kernel_rfl)))
         ·refine Unw.blk<|us<|g0 j j (q (oBi j j j j)<|q (oMv j j)<|nl)<|Unw.nil<|?_
          cases h
          exact ⟨j,(by kernel_rfl)⟩
        ·refine Go.exit<|ux<|Unw.nil<|?_
         cases h
         exact ⟨j,(by kernel_rfl)⟩
       ·rintro ⟨e,st⟩ hp
        obtain ⟨sU,rfl⟩:∃y,y=o:=⟨o,rfl⟩
        obtain ⟨he,hst⟩:=hp
        obtain rfl:e= .exit 2:=he
        refine Unw.iT<|us<|gs<|gs<|g2 c35 j j hst (q (oMv j j)<|q (oUn j j j)<|nl)<|us<|?_
        by_cases VD:sU=true
        ·rw [if_pos VD] at h
         refine gF j (nF (iR.2 VD))<|Go.skip<|us<|gs<|gs<|g0 j j (q (oMv j j)<|q (oNl j j j)<|q (oFA (r':=.mp 0 0 2) j SL j j)<|q (oLd (cs:=[.im 0 _]) j tF2 j j)<|q (oBi j j j j)<|nl)<|us<|gc h j iEq (fun ahD h=>?_) fun ahD h=>?_
         ·refine gs<|g0 j j (q (uO j j Eg)<|q (ae j j)<|nl)<|us<|Go.ret (Unw.ret ?_)
          cases h
          exact ⟨j,(fo aa6 j)⟩
         ·refine Go.skip<|us<|gs<|g0 j j (q (oMv j j)<|q (oNl j j j)<|q (oFA (r':=.mp 0 0 2) j SL j j)<|q (oLd (cs:=[.im 0 _]) j tF2 j j)<|q (oBi j j j j)<|q (oNl j j j)<|q (oFA (r':=.mp 0 0 2) j SL j j)<|q (oSt tF2 j j j (tkI tk0) j j j)<|nl)<|us<|gs<|?_
          obtain ⟨aev,afl,h⟩:=bs h
          obtain ⟨x113,hx113,h⟩:=bs h
          obtain ⟨yD,afm,h⟩:=bs h
          refine g1 j j (mk [(0,M 0),(1,H 1 0),(2,iv aN),(3,iv jm),(10,iv (bf.length:Int)),(11,H 11 0),(12,iv ik),(38,iv (s_0.iO.length:Int)),(39,iv ik)] [(0,Od [C (W 1 (eL 1 eI) jw),Ct 1 (W 3 ak iJ),C (I (w64 (jy - 1)))]),(1,Oc [Z (W 1 eI bf)]),(11,Oc [Z (W 1 eI x33)])]) (q (oMv j j)<|q (oMv j j)<|q (oCr (xs:=[.v false [.own 1 0 0]]) (vs:=[(false,[.own 110 0 0])]) (v:=.v false [.own 110 0 0]) (c:=⟨.sh,0,_⟩) (cs:=[]) (ND (en:=eI) (L:=bf) j afl (fun _=>j)) (.inl j) j UC j (ppC j pp0) j j pb0 j j j)<|q (oMv j j)<|q (oBS (es:=List.map eI ([ik]:List Int)) j fO j (ptC j (fxI fx0) j pt0) (dZ j fun _=>j))<|q (ET (en:=eI) (M:=([ik]:List Int)) j hx113 j fO j j l9 (.inl ⟨_,j⟩) j j j j (kL j j) (dZ j fun _=>j))<|q (oMv j j)<|q (oMv j j)<|q (oCr (xs:=[.v false [.mp 0 0 0],.v false [.own 113 0 0],.v false [.im 0 _],.v false [.im 0 _]]) (vs:=[(false,[.own 116 0 0]),(false,[.im 0 _])]) (v:=.tup [(false,[.own 116 0 0]),(false,[.im 0 _])]) (c:=⟨.sh,0,_⟩) (cs:=[]) (ih afm) (.inl j) j Dv j (ppP j j j (ppM (Aj j j) (ppC j (ppC j pp0)))) j j (pbP j j pb0) j j j)<|q (LY j j)<|q (oEx j j j)<|q (oEx j j j)<|q (jZ j j j j j)<|q (ae j j)<|nl)<|us<|gs<|g1 j j (mk [(0,M 0),(1,H 1 0),(2,iv aN),(3,iv jm),(10,iv (bf.length:Int)),(11,H 11 0),(16,H 16 0),(17,iv yD.2.1),(38,iv (s_0.iO.length:Int)),(39,iv ik)] [(0,Od [C (W 1 (eL 1 eI) yD.2.2.near),Ct 1 (W 3 ak yD.2.2.iO),C (I yD.2.2.left)]),(1,Oc [Z (W 1 eI bf)]),(11,Oc [Z (W 1 eI x33)]),(16,Oc [Z (W 1 eI yD.1)])]) (q (oMv j j)<|q (oBi j j j j)<|nl)<|us<|gc h j iNe (fun ahE h=>?_) fun ahE h=>?_
          ·refine gs<|g0 j j (q (oMv j j)<|q (oMv j j)<|q (jZ j j j j j)<|q (ae j j)<|nl)<|us<|Go.ret (Unw.ret ?_)
           cases h
           exact ⟨j,(fo aa6 j)⟩
          ·exact Go.skip<|Unw.blk<|K44 _ ⟨yD.2.2.near,yD.2.2.iO,yD.2.2.left,h,(by kernel_rfl)⟩
        ·rw [if_neg VD] at h
         exact gT j (nT (byF iR VD))<|Go.exit<|ux<|Unw.iT<|K44 _ ⟨jw,iJ,jy,h,(by kernel_rfl)⟩
   ·refine Go.exit<|ux<|Unw.nil<|?_
    cases h
    exact ⟨j,(by kernel_rfl)⟩
  ·rintro ⟨e,st⟩ hp
   rcases o with ⟨xH,xI,xJ⟩ | r2
   ·dsimp only at h
    obtain ⟨he,hst⟩:=hp
    obtain rfl:e= .exit 0:=he
    refine Unw.iT<|us<|gs<|g2 c35 j j hst (q (uO j j Eg)<|q (ae j j)<|nl)<|us<|Go.ret (Unw.ret ?_)
    cases h
    exact fr aa6 j
   ·dsimp only at h
    obtain ⟨he,hfin⟩:=hp
    obtain rfl:e= .ret:=he
    cases h
    exact Unw.ret (fM hfin)
theorem BQ {s_0:aQ} {bf:(List Int)} {aN:Int} {jm:Int} {r:((List Int)×Int×aQ)} (h:jf s_0 bf aN jm=some r):FX 35 [.ptr true [(.gone,W 1 (eL 1 eI) s_0.near),(.imm,W 3 ak s_0.iO),(.imm,I s_0.left)],.mv 1 (List.map eI bf),.im 2 false [I aN],.im 2 false [I jm]] ([(false,[.ow 0 1 (List.map eI r.1)]),(false,[.im 0 (I r.2.1)])],[.ptr true [(.gone,W 1 (eL 1 eI) r.2.2.near),(.imm,W 3 ak r.2.2.iO),(.imm,I r.2.2.left)]]):=by
 unfold jf at h
 obtain ⟨n,hn⟩:=Ai h
 clear h
 induction n generalizing s_0 bf aN jm r with
 | zero=>cases hn
 | succ n ihn=>exact zU (self:=wV _ n) (fun h=>ihn h) hn
theorem xO {d_0:aA} {aI:(List ai)} {aN:Int} {bz:Int} {r:((List Int)×Int×Int)} (h:jQ d_0 aI aN bz=some r):FX 22 [.im 2 true (au d_0),.im 2 false [W 3 ak aI],.im 2 false [I aN],.im 2 false [I bz]] (B0 [(false,[.ow 0 1 (List.map eI r.1)]),(false,[.im 0 (I r.2.1)]),(false,[.im 0 (I r.2.2)])]):=by
 unfold jQ at h
 refine gn 50 Tryz.func22 rfl ?_
 refine gs<|g0 j j (q (oBx j AX j (tkI (tkI (tkI (tkI tk0)))))<|q (uO j j Eg)<|q (ae j j)<|q (ae j j)<|nl)<|us<|gs<|gs<|?_
 obtain ⟨x20,xM,h⟩:=bs h
 refine g0 j j (q (oLd (cs:=[.im 0 _,.im 0 _,.im 2 _,.im 2 _]) j AX j j)<|q (oMv j j)<|q (oMv j j)<|q (oMv j j)<|q (oCa (xs:=[.v true [.im 0 _,.im 0 _,.im 2 _,.im 2 _],.v false [.im 2 _],.v false [.im 2 _],.v false [.im 2 _]]) (vs:=[(false,[.im 0 _])]) (v:=.v false [.im 0 _]) (Eo xM) (.inl j) j KX j (ppC j (ppC j (ppC j (ppC j pp0)))) j j pb0 j j j)<|q (ae j j)<|nl)<|us<|gs<|g0 j j (q (oMv j j)<|q (oBi j j j j)<|nl)<|us<|gc h j iNe (fun hc1 h=>?_) fun hc1 h=>?_
 ·refine gs<|g0 j j (q (oMv j j)<|q (uO j j Eg)<|q (ae j j)<|q (ae j j)<|nl)<|us<|Go.ret (Unw.ret ?_)
  cases h
  exact fr aa4 j
 ·refine Go.skip<|us<|gs<|?_
  obtain ⟨x25,hx25,h⟩:=bs h
  refine g0 j j (q (oLd (cs:=[.im 0 _,.im 0 _,.im 2 _,.im 2 _]) j AX j j)<|q (oCa (xs:=[.v true [.im 0 _,.im 0 _,.im 2 _,.im 2 _]]) (vs:=[(false,[.im 0 _])]) (v:=.v false [.im 0 _]) (Gz hx25) (.inl j) j aaJ j (ppC j pp0) j j pb0 j j j)<|q (oMv j j)<|q (oMv j j)<|q (oBu (cs:=[.im 0 _,.im 2 _,.im 2 _]) j agy j)<|q (oBx j ahj j (tkI (tkI (tkI tk0))))<|q (YU j j)<|nl)<|us<|gs<|gs<|g0 j j (q (ae j j)<|nl)<|us<|Go.block<|?_
  obtain ⟨o,hl,h⟩:=bs h
  refine gl c22 j _ (fun (s:(Int×(List (List Int))×(List ai)×Int))=>match s with | (jS,BD,BF,BG)=>mk [(1,D 2 (W 3 ak aI)),(2,iv aN),(12,M 29),(13,iv jS)] [(29,Oa [C (W 1 (eL 1 eI) BD),Ct 2 (W 3 ak BF),C (I BG)])]) (fun (o:(Unit ⊕ ((List Int)×Int×Int))) (p:Ex×St)=>match o with | (.inl _)=>p.1= .exit 0∧p.2.norm ([],[])=mk [] [] | (.inr r2)=>p.1= .ret∧fin Tryz.prog cfg 22 Tryz.f22 [.im 2 true (au d_0),.im 2 false [W 3 ak aI],.im 2 false [I aN],.im 2 false [I bz]] p.2=some (B0 [(false,[.ow 0 1 (List.map eI r2.1)]),(false,[.im 0 (I r2.2.1)]),(false,[.im 0 (I r2.2.2)])])) hl (by kernel_rfl) ?_ ?_ ?_
  ·intro o p hp e
   rcases o with u | r2<;>exact nomatch (hp.1.symm.trans e)
  ·rintro ⟨jS,BD,BF,BG⟩ o h
   unfold dY at h
   dsimp only at h
   refine gs<|gs<|g0 j j (q (oMv j j)<|q (oMv j j)<|q (gB j j Fe j)<|q (oBi j j j j)<|nl)<|us<|gc h j ah (fun hc8 h=>?_) fun hc8 h=>?_
   ·refine Go.skip<|us<|gs<|Go.block<|gs<|?_
    obtain ⟨x40,Ig,h⟩:=bs h
    refine g0 j j (q (oMv j j)<|q (oMv j j)<|q (oMv j j)<|q (oCr (xs:=[.v false [.mp 29 0 0],.v false [.nil],.v false [.im 0 _],.v false [.im 0 _]]) (vs:=[(false,[.own 40 0 0]),(false,[.im 0 _])]) (v:=.tup [(false,[.own 40 0 0]),(false,[.im 0 _])]) (c:=⟨.sh,0,_⟩) (cs:=[]) (BQ Ig) (.inl j) j Dv j (ppP j j j (ppM take_nil (ppC j (ppC j pp0)))) j j (pbP j j pb0) j j j)<|q (LY j j)<|q (oEx j j j)<|q (oEx j j j)<|q (jZ j j j j j)<|q (ae j j)<|nl)<|us<|gs<|gs<|g1 j j (mk [(1,D 2 (W 3 ak aI)),(2,iv aN),(12,M 29),(13,iv jS),(14,H 14 0),(15,iv x40.2.1)] [(14,Oc [Z (W 1 eI x40.1)]),(29,Oa [C (W 1 (eL 1 eI) x40.2.2.near),Ct 2 (W 3 ak x40.2.2.iO),C (I x40.2.2.left)])]) (q (oMv j j)<|q (oBi j j j j)<|nl)<|us<|gc h j iEq (fun hc9 h=>?_) fun hc9 h=>?_
    ·refine gs<|g0 j j (q (oMv j j)<|q (oMv j j)<|q (jZ j j j j j)<|q (ae j j)<|q (ae j j)<|nl)<|us<|Go.ret (Unw.ret ?_)
     cases h
     exact ⟨j,(fo aa4 j)⟩
    ·refine Go.skip<|us<|gs<|g0 j j (q (oMv j j)<|q (oBi j j j j)<|nl)<|us<|gc h j iNe (fun Fq h=>?_) fun Fq h=>?_
     ·refine gs<|g0 j j (q (oMv j j)<|q (uO j j Eg)<|q (ae j j)<|q (ae j j)<|nl)<|us<|Go.ret (Unw.ret ?_)
      cases h
      exact ⟨j,(fo aa4 j)⟩
     ·refine Go.skip<|Unw.blk<|us<|g0 j j (q (oMv j j)<|q (oBi j j j j)<|q (ae j j)<|nl)<|Unw.nil<|?_
      cases h
      exact ⟨j,(by kernel_rfl)⟩
   ·refine Go.exit<|ux<|Unw.nil<|?_
    cases h
    exact ⟨j,(by kernel_rfl)⟩
  ·rintro ⟨e,st⟩ hp
   rcases o with u | r2
   ·dsimp only at h
    obtain ⟨he,hst⟩:=hp
    obtain rfl:e= .exit 0:=he
    refine Unw.iT<|us<|gs<|g2 c22 j j hst (q (uO j j Eg)<|q (ae j j)<|q (ae j j)<|nl)<|us<|Go.ret (Unw.ret ?_)
    cases h
    exact fr aa4 j
   ·dsimp only at h
    obtain ⟨he,hfin⟩:=hp
    obtain rfl:e= .ret:=he
    cases h
    exact Unw.ret (fM hfin)
theorem tJ {a_0:(List Int)} {b_1:(List Int)} {r:Bool} (h:ji a_0 b_1=some r):FX 12 [.im 2 false [W 1 eI a_0],.im 2 false [W 1 eI b_1]] (B0 [(false,[.im 0 (V r)])]):=by
 unfold ji at h
 refine gn 26 Tryz.func12 rfl ?_
 refine gs<|g0 j j (q (ae j j)<|nl)<|us<|gs<|gs<|g0 j j (q (oMv j j)<|q (gB j j l9 j)<|q (oMv j j)<|q (gB j j l9 j)<|q (oBi j j j j)<|nl)<|us<|gc h j iNe (fun hc1 h=>?_) fun hc1 h=>?_
 ·refine gs<|g0 j j (q (ae j j)<|nl)<|us<|Go.ret (Unw.ret ?_)
  cases h
  exact fr ac3 j
 ·refine Go.skip<|us<|gs<|gs<|g0 j j (q (ae j j)<|nl)<|us<|Go.block<|?_
  obtain ⟨o,hl,h⟩:=bs h
  refine gl c12 j _ (fun (iF:Int)=>mk [(0,D 2 (W 1 eI a_0)),(1,D 2 (W 1 eI b_1)),(5,iv iF)] []) (fun (o:(Unit ⊕ Bool)) (p:Ex×St)=>match o with | (.inl _)=>p.1= .exit 0∧p.2.norm ([],[])=mk [] [] | (.inr r2)=>p.1= .ret∧fin Tryz.prog cfg 12 Tryz.f12 [.im 2 false [W 1 eI a_0],.im 2 false [W 1 eI b_1]] p.2=some (B0 [(false,[.im 0 (V r2)])])) hl (by kernel_rfl) ?_ ?_ ?_
  ·intro o p hp e
   rcases o with u | r2<;>exact nomatch (hp.1.symm.trans e)
  ·rintro iF o h
   unfold lu at h
   refine gs<|gs<|g0 j j (q (oMv j j)<|q (oMv j j)<|q (gB j j l9 j)<|q (oBi j j j j)<|nl)<|us<|gc h j ah (fun hc6 h=>?_) fun hc6 h=>?_
   ·refine Go.skip<|us<|gs<|Go.block<|gs<|?_
    obtain ⟨x19,zo,h⟩:=bs h
    obtain ⟨x23,zn,h⟩:=bs h
    refine gd c12 j j j j (mk [(0,D 2 (W 1 eI a_0)),(1,D 2 (W 1 eI b_1)),(5,iv iF),(25,bv (x19 != x23))] []) (t j j (oMv j j)<|t j j (oMv j j)<|t j j (gp j zo fO j j)<|t j j (oLd (cs:=[.im 2 _]) j tF2 j j)<|t j j (oMv j j)<|t j j (oMv j j)<|t j j (gp j zn fO j j)<|t j j (oLd (cs:=[.im 2 _]) j tF2 j j)<|t j j (oBi j j j j)<|sD (by kernel_rfl))<|us<|gc h j iNe (fun hc7 h=>?_) fun hc7 h=>?_
    ·refine gs<|g0 j j (q (ae j j)<|nl)<|us<|Go.ret (Unw.ret ?_)
     cases h
     exact ⟨j,(fo ac3 j)⟩
    ·refine Go.skip<|Unw.blk<|us<|g0 j j (q (oMv j j)<|q (oBi j j j j)<|q (ae j j)<|nl)<|Unw.nil<|?_
     cases h
     exact ⟨j,(by kernel_rfl)⟩
   ·refine Go.exit<|ux<|Unw.nil<|?_
    cases h
    exact ⟨j,(by kernel_rfl)⟩
  ·rintro ⟨e,st⟩ hp
   rcases o with u | r2
   ·dsimp only at h
    obtain ⟨he,hst⟩:=hp
    obtain rfl:e= .exit 0:=he
    refine Unw.iT<|us<|gs<|g2 c12 j j hst (q (ae j j)<|nl)<|us<|Go.ret (Unw.ret ?_)
    cases h
    exact fr ac3 j
   ·dsimp only at h
    obtain ⟨he,hfin⟩:=hp
    obtain rfl:e= .ret:=he
    cases h
    exact Unw.ret (fM hfin)
theorem Lt {a_0:af} {b_1:af} {r:Bool} (h:vz a_0 b_1=some r):FX 64 [.im 2 true (aF a_0),.im 2 true (aF b_1)] (B0 [(false,[.im 0 (V r)])]):=by
 unfold vz at h
 refine gn 15 Tryz.func64 rfl ?_
 refine gs<|g0 j j (q (oBx j aK j (tkI (tkI tk0)))<|q (oBx j aK j (tkI (tkI tk0)))<|q (ae j j)<|nl)<|us<|gs<|gs<|g0 j j (q (oFA (r':=.mp 2 0 0) j iH j j)<|q (oLd (cs:=[.im 0 _]) j tF2 j j)<|q (oFA (r':=.mp 3 0 0) j iH j j)<|q (oLd (cs:=[.im 0 _]) j tF2 j j)<|q (oBi j j j j)<|nl)<|us<|gc h j iNe (fun hc1 h=>?_) fun hc1 h=>?_
 ·refine gs<|g0 j j (q (ae j j)<|nl)<|us<|Go.ret (Unw.ret ?_)
  cases h
  exact fr adb j
 ·refine Go.skip<|us<|gs<|gs<|g0 j j (q (oFA (r':=.mp 2 0 1) j jb j j)<|q (oLd (cs:=[.im 0 _]) j tF2 j j)<|q (oFA (r':=.mp 3 0 1) j jb j j)<|q (oLd (cs:=[.im 0 _]) j tF2 j j)<|q (oBi j j j j)<|nl)<|us<|gc h j iNe (fun hc2 h=>?_) fun hc2 h=>?_
  ·refine gs<|g0 j j (q (ae j j)<|nl)<|us<|Go.ret (Unw.ret ?_)
   cases h
   exact fr adb j
  ·refine Go.skip<|us<|gs<|g0 j j (q (ae j j)<|nl)<|us<|Go.ret (Unw.ret ?_)
   cases h
   exact fr adb j
theorem Jl {a_0:(List af)} {b_1:(List af)} {r:Bool} (h:sV a_0 b_1=some r):FX 36 [.im 2 false [W 2 az a_0],.im 2 false [W 2 az b_1]] (B0 [(false,[.im 0 (V r)])]):=by
 unfold sV at h
 refine gn 27 Tryz.func36 rfl ?_
 refine gs<|g0 j j (q (ae j j)<|nl)<|us<|gs<|gs<|g0 j j (q (oMv j j)<|q (gB j j zQ j)<|q (oMv j j)<|q (gB j j zQ j)<|q (oBi j j j j)<|nl)<|us<|gc h j iNe (fun hc1 h=>?_) fun hc1 h=>?_
 ·refine gs<|g0 j j (q (ae j j)<|nl)<|us<|Go.ret (Unw.ret ?_)
  cases h
  exact fr ac8 j
 ·refine Go.skip<|us<|gs<|gs<|g0 j j (q (ae j j)<|nl)<|us<|Go.block<|?_
  obtain ⟨o,hl,h⟩:=bs h
  refine gl c36 j _ (fun (iF:Int)=>mk [(0,D 2 (W 2 az a_0)),(1,D 2 (W 2 az b_1)),(5,iv iF)] []) (fun (o:(Unit ⊕ Bool)) (p:Ex×St)=>match o with | (.inl _)=>p.1= .exit 0∧p.2.norm ([],[])=mk [] [] | (.inr r2)=>p.1= .ret∧fin Tryz.prog cfg 36 Tryz.f36 [.im 2 false [W 2 az a_0],.im 2 false [W 2 az b_1]] p.2=some (B0 [(false,[.im 0 (V r2)])])) hl (by kernel_rfl) ?_ ?_ ?_
  ·intro o p hp e
   rcases o with u | r2<;>exact nomatch (hp.1.symm.trans e)
  ·rintro iF o h
   unfold qZ at h
   refine gs<|gs<|g0 j j (q (oMv j j)<|q (oMv j j)<|q (gB j j zQ j)<|q (oBi j j j j)<|nl)<|us<|gc h j ah (fun hc6 h=>?_) fun hc6 h=>?_
   ·refine Go.skip<|us<|gs<|Go.block<|gs<|?_
    obtain ⟨x19,zo,h⟩:=bs h
    obtain ⟨x23,zn,h⟩:=bs h
    obtain ⟨x25,hx25,h⟩:=bs h
    refine gd c36 j j j j (mk [(0,D 2 (W 2 az a_0)),(1,D 2 (W 2 az b_1)),(5,iv iF),(26,bv (!x25))] []) (t j j (oMv j j)<|t j j (oMv j j)<|t j j (gp j zo pK j j)<|t j j (oLd (cs:=[.im 2 _,.im 2 _]) j aK j j)<|t j j (oMv j j)<|t j j (oMv j j)<|t j j (gp j zn pK j j)<|t j j (oLd (cs:=[.im 2 _,.im 2 _]) j aK j j)<|sS (dN z36 j (oCa (xs:=[.v true [.im 2 _,.im 2 _],.v true [.im 2 _,.im 2 _]]) (vs:=[(false,[.im 0 _])]) (v:=.v false [.im 0 _]) (Lt hx25) (.inl j) j Td j (ppC j (ppC j pp0)) j j pb0 j j j)) trivial (t j j (oUn j j j)<|sD (by kernel_rfl)))<|us<|?_
    by_cases hc7:x25=true
    ·rw [if_pos hc7] at h
     refine gF j (nF (iR.2 hc7))<|Go.skip<|Unw.blk<|us<|g0 j j (q (oMv j j)<|q (oBi j j j j)<|q (ae j j)<|nl)<|Unw.nil<|?_
     cases h
     exact ⟨j,(by kernel_rfl)⟩
    ·rw [if_neg hc7] at h
     refine gT j (nT (byF iR hc7))<|gs<|g0 j j (q (ae j j)<|nl)<|us<|Go.ret (Unw.ret ?_)
     cases h
     exact ⟨j,(fo ac8 j)⟩
   ·refine Go.exit<|ux<|Unw.nil<|?_
    cases h
    exact ⟨j,(by kernel_rfl)⟩
  ·rintro ⟨e,st⟩ hp
   rcases o with u | r2
   ·dsimp only at h
    obtain ⟨he,hst⟩:=hp
    obtain rfl:e= .exit 0:=he
    refine Unw.iT<|us<|gs<|g2 c36 j j hst (q (ae j j)<|nl)<|us<|Go.ret (Unw.ret ?_)
    cases h
    exact fr ac8 j
   ·dsimp only at h
    obtain ⟨he,hfin⟩:=hp
    obtain rfl:e= .ret:=he
    cases h
    exact Unw.ret (fM hfin)
theorem MJ {a_0:dh} {b_1:dh} {r:Bool} (h:xK a_0 b_1=some r):FX 65 [.im 2 true (vF a_0),.im 2 true (vF b_1)] (B0 [(false,[.im 0 (V r)])]):=by
 unfold xK at h
 refine gn 16 Tryz.func65 rfl ?_
 refine gs<|g0 j j (q (oBx j Fb j (tkI (tkI tk0)))<|q (oBx j Fb j (tkI (tkI tk0)))<|q (ae j j)<|nl)<|us<|gs<|gs<|g0 j j (q (oFA (r':=.mp 2 0 0) j zO j j)<|q (oLd (cs:=[.im 0 _]) j tF9 j j)<|q (oFA (r':=.mp 3 0 0) j zO j j)<|q (oLd (cs:=[.im 0 _]) j tF9 j j)<|q (oBi j j j j)<|nl)<|us<|gc h j (YY zI) (fun hc1 h=>?_) fun hc1 h=>?_
 ·refine gs<|g0 j j (q (ae j j)<|nl)<|us<|Go.ret (Unw.ret ?_)
  cases h
  exact fr ade j
 ·refine Go.skip<|us<|gs<|gs<|?_
  obtain ⟨x14,vG,h⟩:=bs h
  refine g0 j j (q (oFA (r':=.mp 2 0 1) j BI j j)<|q (oLd (cs:=[.im 2 _]) j oC j j)<|q (oFA (r':=.mp 3 0 1) j BI j j)<|q (oLd (cs:=[.im 2 _]) j oC j j)<|q (oCa (xs:=[.v false [.im 2 _],.v false [.im 2 _]]) (vs:=[(false,[.im 0 _])]) (v:=.v false [.im 0 _]) (tJ vG) (.inl j) j BJ j (ppC j (ppC j pp0)) j j pb0 j j j)<|q (oUn j j j)<|nl)<|us<|?_
  by_cases hc2:x14=true
  ·rw [if_pos hc2] at h
   refine gF j (nF (iR.2 hc2))<|Go.skip<|us<|gs<|g0 j j (q (ae j j)<|nl)<|us<|Go.ret (Unw.ret ?_)
   cases h
   exact fr ade j
  ·rw [if_neg hc2] at h
   refine gT j (nT (byF iR hc2))<|gs<|g0 j j (q (ae j j)<|nl)<|us<|Go.ret (Unw.ret ?_)
   cases h
   exact fr ade j
theorem Lu {a_0:(List dh)} {b_1:(List dh)} {r:Bool} (h:vC a_0 b_1=some r):FX 37 [.im 2 false [W 2 bQ a_0],.im 2 false [W 2 bQ b_1]] (B0 [(false,[.im 0 (V r)])]):=by
 unfold vC at h
 refine gn 27 Tryz.func37 rfl ?_
 refine gs<|g0 j j (q (ae j j)<|nl)<|us<|gs<|gs<|g0 j j (q (oMv j j)<|q (gB j j IY j)<|q (oMv j j)<|q (gB j j IY j)<|q (oBi j j j j)<|nl)<|us<|gc h j iNe (fun hc1 h=>?_) fun hc1 h=>?_
 ·refine gs<|g0 j j (q (ae j j)<|nl)<|us<|Go.ret (Unw.ret ?_)
  cases h
  exact fr ac9 j
 ·refine Go.skip<|us<|gs<|gs<|g0 j j (q (ae j j)<|nl)<|us<|Go.block<|?_
  obtain ⟨o,hl,h⟩:=bs h
  refine gl c37 j _ (fun (iF:Int)=>mk [(0,D 2 (W 2 bQ a_0)),(1,D 2 (W 2 bQ b_1)),(5,iv iF)] []) (fun (o:(Unit ⊕ Bool)) (p:Ex×St)=>match o with | (.inl _)=>p.1= .exit 0∧p.2.norm ([],[])=mk [] [] | (.inr r2)=>p.1= .ret∧fin Tryz.prog cfg 37 Tryz.f37 [.im 2 false [W 2 bQ a_0],.im 2 false [W 2 bQ b_1]] p.2=some (B0 [(false,[.im 0 (V r2)])])) hl (by kernel_rfl) ?_ ?_ ?_
  ·intro o p hp e
   rcases o with u | r2<;>exact nomatch (hp.1.symm.trans e)
  ·rintro iF o h
   unfold tH at h
   refine gs<|gs<|g0 j j (q (oMv j j)<|q (oMv j j)<|q (gB j j IY j)<|q (oBi j j j j)<|nl)<|us<|gc h j ah (fun hc6 h=>?_) fun hc6 h=>?_
   ·refine Go.skip<|us<|gs<|Go.block<|gs<|?_
    obtain ⟨x19,zo,h⟩:=bs h
    obtain ⟨x23,zn,h⟩:=bs h
    obtain ⟨x25,hx25,h⟩:=bs h
    refine gd c37 j j j j (mk [(0,D 2 (W 2 bQ a_0)),(1,D 2 (W 2 bQ b_1)),(5,iv iF),(26,bv (!x25))] []) (t j j (oMv j j)<|t j j (oMv j j)<|t j j (gp j zo Fa j j)<|t j j (oLd (cs:=[.im 2 _,.im 2 _]) j Fb j j)<|t j j (oMv j j)<|t j j (oMv j j)<|t j j (gp j zn Fa j j)<|t j j (oLd (cs:=[.im 2 _,.im 2 _]) j Fb j j)<|sS (dN z37 j (oCa (xs:=[.v true [.im 2 _,.im 2 _],.v true [.im 2 _,.im 2 _]]) (vs:=[(false,[.im 0 _])]) (v:=.v false [.im 0 _]) (MJ hx25) (.inl j) j Tf j (ppC j (ppC j pp0)) j j pb0 j j j)) trivial (t j j (oUn j j j)<|sD (by kernel_rfl)))<|us<|?_
    by_cases hc7:x25=true
    ·rw [if_pos hc7] at h
     refine gF j (nF (iR.2 hc7))<|Go.skip<|Unw.blk<|us<|g0 j j (q (oMv j j)<|q (oBi j j j j)<|q (ae j j)<|nl)<|Unw.nil<|?_
     cases h
     exact ⟨j,(by kernel_rfl)⟩
    ·rw [if_neg hc7] at h
     refine gT j (nT (byF iR hc7))<|gs<|g0 j j (q (ae j j)<|nl)<|us<|Go.ret (Unw.ret ?_)
     cases h
     exact ⟨j,(fo ac9 j)⟩
   ·refine Go.exit<|ux<|Unw.nil<|?_
    cases h
    exact ⟨j,(by kernel_rfl)⟩
  ·rintro ⟨e,st⟩ hp
   rcases o with u | r2
   ·dsimp only at h
    obtain ⟨he,hst⟩:=hp
    obtain rfl:e= .exit 0:=he
    refine Unw.iT<|us<|gs<|g2 c37 j j hst (q (ae j j)<|nl)<|us<|Go.ret (Unw.ret ?_)
    cases h
    exact fr ac9 j
   ·dsimp only at h
    obtain ⟨he,hfin⟩:=hp
    obtain rfl:e= .ret:=he
    cases h
    exact Unw.ret (fM hfin)
theorem Iu {a_0:aA} {b_1:aA} {r:Bool} (h:qH a_0 b_1=some r):FX 13 [.im 2 true (au a_0),.im 2 true (au b_1)] (B0 [(false,[.im 0 (V r)])]):=by
 unfold qH at h
 refine gn 27 Tryz.func13 rfl ?_
 refine gs<|g0 j j (q (oBx j AX j (tkI (tkI (tkI (tkI tk0)))))<|q (oBx j AX j (tkI (tkI (tkI (tkI tk0)))))<|q (ae j j)<|nl)<|us<|gs<|gs<|g0 j j (q (oFA (r':=.mp 2 0 0) j E8 j j)<|q (oLd (cs:=[.im 0 _]) j tF2 j j)<|q (oFA (r':=.mp 3 0 0) j E8 j j)<|q (oLd (cs:=[.im 0 _]) j tF2 j j)<|q (oBi j j j j)<|nl)<|us<|gc h j iNe (fun hc1 h=>?_) fun hc1 h=>?_
 ·refine gs<|g0 j j (q (ae j j)<|nl)<|us<|Go.ret (Unw.ret ?_)
  cases h
  exact fr XO j
 ·refine Go.skip<|us<|gs<|gs<|g0 j j (q (oFA (r':=.mp 2 0 1) j Dq j j)<|q (oLd (cs:=[.im 0 _]) j tF2 j j)<|q (oFA (r':=.mp 3 0 1) j Dq j j)<|q (oLd (cs:=[.im 0 _]) j tF2 j j)<|q (oBi j j j j)<|nl)<|us<|gc h j iNe (fun hc2 h=>?_) fun hc2 h=>?_
  ·refine gs<|g0 j j (q (ae j j)<|nl)<|us<|Go.ret (Unw.ret ?_)
   cases h
   exact fr XO j
  ·refine Go.skip<|us<|gs<|gs<|?_
   obtain ⟨x19,zo,h⟩:=bs h
   refine g0 j j (q (oFA (r':=.mp 2 0 2) j rM j j)<|q (oLd (cs:=[.im 2 _]) j Eh j j)<|q (oFA (r':=.mp 3 0 2) j rM j j)<|q (oLd (cs:=[.im 2 _]) j Eh j j)<|q (oCa (xs:=[.v false [.im 2 _],.v false [.im 2 _]]) (vs:=[(false,[.im 0 _])]) (v:=.v false [.im 0 _]) (Jl zo) (.inl j) j SS j (ppC j (ppC j pp0)) j j pb0 j j j)<|q (oUn j j j)<|nl)<|us<|?_
   by_cases hc3:x19=true
   ·rw [if_pos hc3] at h
    refine gF j (nF (iR.2 hc3))<|Go.skip<|us<|gs<|gs<|?_
    obtain ⟨x25,hx25,h⟩:=bs h
    refine g0 j j (q (oFA (r':=.mp 2 0 3) j oO j j)<|q (oLd (cs:=[.im 2 _]) j BK j j)<|q (oFA (r':=.mp 3 0 3) j oO j j)<|q (oLd (cs:=[.im 2 _]) j BK j j)<|q (oCa (xs:=[.v false [.im 2 _],.v false [.im 2 _]]) (vs:=[(false,[.im 0 _])]) (v:=.v false [.im 0 _]) (Lu hx25) (.inl j) j SX j (ppC j (ppC j pp0)) j j pb0 j j j)<|q (oUn j j j)<|nl)<|us<|?_
    by_cases hc4:x25=true
    ·rw [if_pos hc4] at h
     refine gF j (nF (iR.2 hc4))<|Go.skip<|us<|gs<|g0 j j (q (ae j j)<|nl)<|us<|Go.ret (Unw.ret ?_)
     cases h
     exact fr XO j
    ·rw [if_neg hc4] at h
     refine gT j (nT (byF iR hc4))<|gs<|g0 j j (q (ae j j)<|nl)<|us<|Go.ret (Unw.ret ?_)
     cases h
     exact fr XO j
   ·rw [if_neg hc3] at h
    refine gT j (nT (byF iR hc3))<|gs<|g0 j j (q (ae j j)<|nl)<|us<|Go.ret (Unw.ret ?_)
    cases h
    exact fr XO j
theorem Jm {a_0:ai} {b_1:ai} {r:Bool} (h:sW a_0 b_1=some r):FX 38 [.im 2 true (iG a_0),.im 2 true (iG b_1)] (B0 [(false,[.im 0 (V r)])]):=by
 unfold sW at h
 refine gn 20 Tryz.func38 rfl ?_
 refine gs<|g0 j j (q (oBx j Dy j (tkI (tkI (tkI tk0))))<|q (oBx j Dy j (tkI (tkI (tkI tk0))))<|q (ae j j)<|nl)<|us<|gs<|gs<|g0 j j (q (oFA (r':=.mp 2 0 0) j H8 j j)<|q (oLd (cs:=[.im 0 _]) j tF9 j j)<|q (oFA (r':=.mp 3 0 0) j H8 j j)<|q (oLd (cs:=[.im 0 _]) j tF9 j j)<|q (oBi j j j j)<|nl)<|us<|gc h j (YY zI) (fun hc1 h=>?_) fun hc1 h=>?_
 ·refine gs<|g0 j j (q (ae j j)<|nl)<|us<|Go.ret (Unw.ret ?_)
  cases h
  exact fr aa7 j
 ·refine Go.skip<|us<|gs<|gs<|g0 j j (q (oFA (r':=.mp 2 0 1) j rO j j)<|q (oLd (cs:=[.im 0 _]) j tF2 j j)<|q (oFA (r':=.mp 3 0 1) j rO j j)<|q (oLd (cs:=[.im 0 _]) j tF2 j j)<|q (oBi j j j j)<|nl)<|us<|gc h j iNe (fun hc2 h=>?_) fun hc2 h=>?_
  ·refine gs<|g0 j j (q (ae j j)<|nl)<|us<|Go.ret (Unw.ret ?_)
   cases h
   exact fr aa7 j
  ·refine Go.skip<|us<|gs<|gs<|g0 j j (q (oFA (r':=.mp 2 0 2) j zN j j)<|q (oLd (cs:=[.im 0 _]) j tF2 j j)<|q (oFA (r':=.mp 3 0 2) j zN j j)<|q (oLd (cs:=[.im 0 _]) j tF2 j j)<|q (oBi j j j j)<|nl)<|us<|gc h j iNe (fun hc3 h=>?_) fun hc3 h=>?_
   ·refine gs<|g0 j j (q (ae j j)<|nl)<|us<|Go.ret (Unw.ret ?_)
    cases h
    exact fr aa7 j
   ·refine Go.skip<|us<|gs<|g0 j j (q (ae j j)<|nl)<|us<|Go.ret (Unw.ret ?_)
    cases h
    exact fr aa7 j
theorem Iw {a_0:(List ai)} {b_1:(List ai)} {r:Bool} (h:qI a_0 b_1=some r):FX 14 [.im 2 false [W 3 ak a_0],.im 2 false [W 3 ak b_1]] (B0 [(false,[.im 0 (V r)])]):=by
 unfold qI at h
 refine gn 27 Tryz.func14 rfl ?_
 refine gs<|g0 j j (q (ae j j)<|nl)<|us<|gs<|gs<|g0 j j (q (oMv j j)<|q (gB j j Fe j)<|q (oMv j j)<|q (gB j j Fe j)<|q (oBi j j j j)<|nl)<|us<|gc h j iNe (fun hc1 h=>?_) fun hc1 h=>?_
 ·refine gs<|g0 j j (q (ae j j)<|nl)<|us<|Go.ret (Unw.ret ?_)
  cases h
  exact fr ac4 j
 ·refine Go.skip<|us<|gs<|gs<|g0 j j (q (ae j j)<|nl)<|us<|Go.block<|?_
  obtain ⟨o,hl,h⟩:=bs h
  refine gl c14 j _ (fun (iF:Int)=>mk [(0,D 2 (W 3 ak a_0)),(1,D 2 (W 3 ak b_1)),(5,iv iF)] []) (fun (o:(Unit ⊕ Bool)) (p:Ex×St)=>match o with | (.inl _)=>p.1= .exit 0∧p.2.norm ([],[])=mk [] [] | (.inr r2)=>p.1= .ret∧fin Tryz.prog cfg 14 Tryz.f14 [.im 2 false [W 3 ak a_0],.im 2 false [W 3 ak b_1]] p.2=some (B0 [(false,[.im 0 (V r2)])])) hl (by kernel_rfl) ?_ ?_ ?_
  ·intro o p hp e
   rcases o with u | r2<;>exact nomatch (hp.1.symm.trans e)
  ·rintro iF o h
   unfold qi at h
   refine gs<|gs<|g0 j j (q (oMv j j)<|q (oMv j j)<|q (gB j j Fe j)<|q (oBi j j j j)<|nl)<|us<|gc h j ah (fun hc6 h=>?_) fun hc6 h=>?_
   ·refine Go.skip<|us<|gs<|Go.block<|gs<|?_
    obtain ⟨x19,zo,h⟩:=bs h
    obtain ⟨x23,zn,h⟩:=bs h
    obtain ⟨x25,hx25,h⟩:=bs h
    refine gd c14 j j j j (mk [(0,D 2 (W 3 ak a_0)),(1,D 2 (W 3 ak b_1)),(5,iv iF),(26,bv (!x25))] []) (t j j (oMv j j)<|t j j (oMv j j)<|t j j (gp j zo Ia j j)<|t j j (oLd (cs:=[.im 2 _,.im 2 _,.im 2 _]) j Dy j j)<|t j j (oMv j j)<|t j j (oMv j j)<|t j j (gp j zn Ia j j)<|t j j (oLd (cs:=[.im 2 _,.im 2 _,.im 2 _]) j Dy j j)<|sS (dN z14 j (oCa (xs:=[.v true [.im 2 _,.im 2 _,.im 2 _],.v true [.im 2 _,.im 2 _,.im 2 _]]) (vs:=[(false,[.im 0 _])]) (v:=.v false [.im 0 _]) (Jm hx25) (.inl j) j SY j (ppC j (ppC j pp0)) j j pb0 j j j)) trivial (t j j (oUn j j j)<|sD (by kernel_rfl)))<|us<|?_
    by_cases hc7:x25=true
    ·rw [if_pos hc7] at h
     refine gF j (nF (iR.2 hc7))<|Go.skip<|Unw.blk<|us<|g0 j j (q (oMv j j)<|q (oBi j j j j)<|q (ae j j)<|nl)<|Unw.nil<|?_
     cases h
     exact ⟨j,(by kernel_rfl)⟩
    ·rw [if_neg hc7] at h
     refine gT j (nT (byF iR hc7))<|gs<|g0 j j (q (ae j j)<|nl)<|us<|Go.ret (Unw.ret ?_)
     cases h
     exact ⟨j,(fo ac4 j)⟩
   ·refine Go.exit<|ux<|Unw.nil<|?_
    cases h
    exact ⟨j,(by kernel_rfl)⟩
  ·rintro ⟨e,st⟩ hp
   rcases o with u | r2
   ·dsimp only at h
    obtain ⟨he,hst⟩:=hp
    obtain rfl:e= .exit 0:=he
    refine Unw.iT<|us<|gs<|g2 c14 j j hst (q (ae j j)<|nl)<|us<|Go.ret (Unw.ret ?_)
    cases h
    exact fr ac4 j
   ·dsimp only at h
    obtain ⟨he,hfin⟩:=hp
    obtain rfl:e= .ret:=he
    cases h
    exact Unw.ret (fM hfin)
theorem DR {a_0:(List af)} {k_1:Int} {r:Int} (h:lV a_0 k_1=some r):FX 39 [.ws false [W 2 az a_0],.im 2 false [I k_1]] (B0 [(false,[.im 0 (I r)])]):=by
 unfold lV at h
 refine Bo (A:=[(0,.v false [.ws (W 2 az a_0)]),(1,D 2 (I k_1))]) (B:=[(0,none),(1,none)]) (nt:=27) rfl rfl Tryz.func39 rfl rfl rfl rfl ?_
 refine gs<|g0 j j (q (ae j j)<|nl)<|us<|gs<|gs<|g0 j j (q (ae j j)<|nl)<|us<|Go.block<|?_
 obtain ⟨o,hl,h⟩:=bs h
 refine gl c39 j _ (fun (s:(Int×Int))=>match s with | (dm,aX)=>mk [(0,.v false [.ws (W 2 az a_0)]),(1,iv dm),(5,iv aX)] []) (fun (dS:Int) (p:Ex×St)=>p.1= .exit 0∧p.2.norm ([1],[])=mk [(1,iv dS)] []) hl (by kernel_rfl) ?_ ?_ ?_
 ·intro o p hp e
  exact nomatch (hp.1.symm.trans e)
 ·rintro ⟨dm,aX⟩ o h
  unfold jF at h
  dsimp only at h
  refine gs<|gs<|g0 j j (q (oMv j j)<|q (oMv j j)<|q (acE j j zQ j)<|q (oBi j j j j)<|nl)<|us<|gc h j ah (fun hc3 h=>?_) fun hc3 h=>?_
  ·refine Go.skip<|us<|gs<|Go.block<|gs<|?_
   obtain ⟨x15,AY,h⟩:=bs h
   refine g0 j j (q (oMv j j)<|q (oMv j j)<|q (oMv j j)<|q (Xk j AY pK j j)<|q (oFA (r':=.ws _) j iH j j)<|q (YX tF2 j j j j)<|nl)<|us<|gs<|g1 j j (mk [(0,.v false [.ws (W 2 az a_0)]),(1,iv dm),(5,iv aX)] []) (q (oMv j j)<|q (oBi j j j j)<|q (ae j j)<|nl)<|us<|gs<|?_
   obtain ⟨x22,Jc,h⟩:=bs h
   refine g0 j j (q (oMv j j)<|q (oMv j j)<|q (oMv j j)<|q (Xk j Jc pK j j)<|q (oFA (r':=.ws _) j jb j j)<|q (YX tF2 j j j j)<|nl)<|us<|g1 j j (mk [(0,.v false [.ws (W 2 az a_0)]),(1,iv (w64 (dm+1))),(5,iv aX)] []) (q (oMv j j)<|q (oBi j j j j)<|q (ae j j)<|nl)<|Unw.blk<|us<|g0 j j (q (oMv j j)<|q (oBi j j j j)<|q (ae j j)<|nl)<|Unw.nil<|?_
   cases h
   exact ⟨j,(by kernel_rfl)⟩
  ·refine Go.exit<|ux<|Unw.nil<|?_
   cases h
   exact ⟨j,(by kernel_rfl)⟩
 ·rintro ⟨e,st⟩ hp
  obtain ⟨dS,rfl⟩:∃y,y=o:=⟨o,rfl⟩
  obtain ⟨he,hst⟩:=hp
  obtain rfl:e= .exit 0:=he
  refine Unw.iT<|us<|gs<|g2 c39 j j hst (q (oMv j j)<|q (ae j j)<|nl)<|us<|Go.ret (Unw.ret ?_)
  cases h
  exact fr agL j
theorem BZ {k_0:Int} {r:ByteArray} (h:pW k_0=some r):FX 41 [.im 2 false [I k_0]] (B0 [(false,[.im 0 (Y r)])]):=by
 unfold pW at h
 refine gn 20 Tryz.func41 rfl ?_
 refine gs<|g0 j j (q (ae j j)<|nl)<|us<|gs<|gs<|g0 j j (q (oMv j j)<|q (oBi j j j j)<|nl)<|us<|gc h j ah (fun hc1 h=>?_) fun hc1 h=>?_
 ·refine gs<|g0 j j (q (ae j j)<|nl)<|us<|Go.ret (Unw.ret ?_)
  cases h
  exact fr aeS j
 ·refine Go.skip<|us<|gs<|g0 j j (q (ae j j)<|nl)<|us<|gs<|Go.block<|?_
  obtain ⟨o,hl,h⟩:=bs h
  refine gl c41 j _ (fun (s:(Int×ByteArray))=>match s with | (H6,Dp)=>mk [(0,iv H6),(3,sv Dp)] []) (fun (BH:ByteArray) (p:Ex×St)=>p.1= .exit 0∧p.2.norm ([3],[])=mk [(3,sv BH)] []) hl (by kernel_rfl) ?_ ?_ ?_
  ·intro o p hp e
   exact nomatch (hp.1.symm.trans e)
  ·rintro ⟨H6,Dp⟩ o h
   unfold lC at h
   dsimp only at h
   refine gs<|gs<|g0 j j (q (oMv j j)<|q (oBi j j j j)<|nl)<|us<|gc h j ah (fun hc4 h=>?_) fun hc4 h=>?_
   ·refine Go.skip<|us<|Go.block<|gs<|?_
    obtain ⟨x9,hx9,h⟩:=bs h
    obtain ⟨x15,AY,h⟩:=bs h
    refine g0 j j (q (oMv j j)<|q (Gj j hx9 j j)<|q (oBi j j j j)<|q (af9 j uF3 uF5 j)<|q (oBS (es:=List.map (eK .u8) ([(IntKind.wrap .u8 ((w64 (48+x9))))]:List Int)) j ae7 j (ptC j (fxI fx0) j pt0) (dZ j fun _=>j))<|q (aga (l:=([(IntKind.wrap .u8 ((w64 (48+x9))))]:List Int)) j afe uF5 uF9 j (kL j j))<|q (oMv j j)<|q (aem j AY j j)<|q (ae j j)<|nl)<|us<|?_
    obtain ⟨x17,Ld,h⟩:=bs h
    refine g0 j j (q (oMv j j)<|q (acB j Ld j j)<|q (ae j j)<|nl)<|Unw.blk<|Unw.nil<|?_
    cases h
    exact ⟨j,(by kernel_rfl)⟩
   ·refine Go.exit<|ux<|Unw.nil<|?_
    cases h
    exact ⟨j,(by kernel_rfl)⟩
  ·rintro ⟨e,st⟩ hp
   obtain ⟨BH,rfl⟩:∃y,y=o:=⟨o,rfl⟩
   obtain ⟨he,hst⟩:=hp
   obtain rfl:e= .exit 0:=he
   refine Unw.iT<|us<|gs<|?_
   obtain ⟨x19,zo,h⟩:=bs h
   refine g2 c41 j j hst (q (oMv j j)<|q (aem j zo j j)<|q (ae j j)<|nl)<|us<|Go.ret (Unw.ret ?_)
   cases h
   exact fr aeS j
theorem DT {a_0:(List Int)} {k_1:Int} {r:Int} (h:lW a_0 k_1=some r):FX 17 [.ws false [W 1 eI a_0],.im 2 false [I k_1]] (B0 [(false,[.im 0 (I r)])]):=by
 unfold lW at h
 refine Bo (A:=[(0,.v false [.ws (W 1 eI a_0)]),(1,D 2 (I k_1))]) (B:=[(0,none),(1,none)]) (nt:=19) rfl rfl Tryz.func17 rfl rfl rfl rfl ?_
 refine gs<|g0 j j (q (ae j j)<|nl)<|us<|gs<|gs<|g0 j j (q (ae j j)<|nl)<|us<|Go.block<|?_
 obtain ⟨o,hl,h⟩:=bs h
 refine gl c17 j _ (fun (s:(Int×Int))=>match s with | (dm,aX)=>mk [(0,.v false [.ws (W 1 eI a_0)]),(1,iv dm),(5,iv aX)] [(0,none)]) (fun (dS:Int) (p:Ex×St)=>p.1= .exit 0∧p.2.norm ([1],[0])=mk [(1,iv dS)] [(0,none)]) hl (by kernel_rfl) ?_ ?_ ?_
 ·intro o p hp e
  exact nomatch (hp.1.symm.trans e)
 ·rintro ⟨dm,aX⟩ o h
  unfold jG at h
  dsimp only at h
  refine gs<|gs<|g0 j j (q (oMv j j)<|q (oMv j j)<|q (acE j j l9 j)<|q (oBi j j j j)<|nl)<|us<|gc h j ah (fun hc3 h=>?_) fun hc3 h=>?_
  ·refine Go.skip<|us<|gs<|Go.block<|gs<|?_
   obtain ⟨x15,AY,h⟩:=bs h
   refine g0 j j (q (oMv j j)<|q (oMv j j)<|q (oMv j j)<|q (Xk j AY fO j j)<|q (YX tF2 j j j j)<|nl)<|us<|g1 j j (mk [(0,.v false [.ws (W 1 eI a_0)]),(1,iv dm),(5,iv aX)] [(0,none)]) (q (oMv j j)<|q (oBi j j j j)<|q (ae j j)<|nl)<|Unw.blk<|us<|g0 j j (q (oMv j j)<|q (oBi j j j j)<|q (ae j j)<|nl)<|Unw.nil<|?_
   cases h
   exact ⟨j,(by kernel_rfl)⟩
  ·refine Go.exit<|ux<|Unw.nil<|?_
   cases h
   exact ⟨j,(by kernel_rfl)⟩
 ·rintro ⟨e,st⟩ hp
  obtain ⟨dS,rfl⟩:∃y,y=o:=⟨o,rfl⟩
  obtain ⟨he,hst⟩:=hp
  obtain rfl:e= .exit 0:=he
  refine Unw.iT<|us<|gs<|g2 c17 j j hst (q (oMv j j)<|q (ae j j)<|nl)<|us<|Go.ret (Unw.ret ?_)
  cases h
  exact fr aeO j
theorem Iy {a_0:(List dh)} {k_1:Int} {r:Int} (h:qJ a_0 k_1=some r):FX 40 [.ws false [W 2 bQ a_0],.im 2 false [I k_1]] (B0 [(false,[.im 0 (I r)])]):=by
 unfold qJ at h
 refine Bo (A:=[(0,.v false [.ws (W 2 bQ a_0)]),(1,D 2 (I k_1))]) (B:=[(0,none),(1,none)]) (nt:=28) rfl rfl Tryz.func40 rfl rfl rfl rfl ?_
 refine gs<|g0 j j (q (ae j j)<|nl)<|us<|gs<|gs<|g0 j j (q (ae j j)<|nl)<|us<|Go.block<|?_
 obtain ⟨o,hl,h⟩:=bs h
 refine gl c40 j _ (fun (s:(Int×Int))=>match s with | (dm,aX)=>mk [(0,.v false [.ws (W 2 bQ a_0)]),(1,iv dm),(5,iv aX)] []) (fun (dS:Int) (p:Ex×St)=>p.1= .exit 0∧p.2.norm ([1],[])=mk [(1,iv dS)] []) hl (by kernel_rfl) ?_ ?_ ?_
 ·intro o p hp e
  exact nomatch (hp.1.symm.trans e)
 ·rintro ⟨dm,aX⟩ o h
  unfold ni at h
  dsimp only at h
  refine gs<|gs<|g0 j j (q (oMv j j)<|q (oMv j j)<|q (acE j j IY j)<|q (oBi j j j j)<|nl)<|us<|gc h j ah (fun hc3 h=>?_) fun hc3 h=>?_
  ·refine Go.skip<|us<|gs<|Go.block<|gs<|?_
   obtain ⟨x15,AY,h⟩:=bs h
   obtain ⟨x16,hx16,h⟩:=bs h
   refine g0 j j (q (oMv j j)<|q (oMv j j)<|q (oMv j j)<|q (oCa (xs:=[.v false [.im 0 _]]) (vs:=[(false,[.im 0 _])]) (v:=.v false [.im 0 _]) (BZ AY) (.inl j) j XG j (ppC j pp0) j j pb0 j j j)<|q (Xk j hx16 Fa j j)<|q (oFA (r':=.ws _) j zO j j)<|q (YX tF9 j j j j)<|nl)<|us<|gs<|g1 j j (mk [(0,.v false [.ws (W 2 bQ a_0)]),(1,iv dm),(5,iv aX)] []) (q (oMv j j)<|q (oBi j j j j)<|q (ae j j)<|nl)<|us<|?_
   obtain ⟨x22,Jc,h⟩:=bs h
   obtain ⟨x26,O6,h⟩:=bs h
   refine g0 j j (q (oMv j j)<|q (oMv j j)<|q (Xk j Jc Fa j j)<|q (oFA (r':=.ws _) j BI j j)<|q (oLd (cs:=[.ws _]) j oC j j)<|q (oMv j j)<|q (oCa (xs:=[.v false [.ws _],.v false [.im 0 _]]) (vs:=[(false,[.im 0 _])]) (v:=.v false [.im 0 _]) (DT O6) (.inl j) j NI j (ppC j (ppC j pp0)) j j pb0 j j j)<|q (ae j j)<|nl)<|Unw.blk<|us<|g0 j j (q (oMv j j)<|q (oBi j j j j)<|q (ae j j)<|nl)<|Unw.nil<|?_
   cases h
   exact ⟨j,(by kernel_rfl)⟩
  ·refine Go.exit<|ux<|Unw.nil<|?_
   cases h
   exact ⟨j,(by kernel_rfl)⟩
 ·rintro ⟨e,st⟩ hp
  obtain ⟨dS,rfl⟩:∃y,y=o:=⟨o,rfl⟩
  obtain ⟨he,hst⟩:=hp
  obtain rfl:e= .exit 0:=he
  refine Unw.iT<|us<|gs<|g2 c40 j j hst (q (oMv j j)<|q (ae j j)<|nl)<|us<|Go.ret (Unw.ret ?_)
  cases h
  exact fr agM j
theorem FK {a_0:aA} {k_1:Int} {r:Int} (h:og a_0 k_1=some r):FX 15 [.ws true (au a_0),.im 2 false [I k_1]] (B0 [(false,[.im 0 (I r)])]):=by
 unfold og at h
 refine Bo (A:=[(0,.v true (S (au a_0))),(1,D 2 (I k_1))]) (B:=[(0,none),(1,none)]) (nt:=14) rfl rfl Tryz.func15 rfl rfl rfl rfl ?_
 refine gs<|g0 j j (q (oBx j AX j (tkW (tkW (tkW (tkW tk0)))))<|q (ae j j)<|nl)<|us<|gs<|?_
 obtain ⟨x8,hx8,h⟩:=bs h
 refine g0 j j (q (oFA (r':=.mp 2 0 2) j rM j j)<|q (oLd (cs:=[.ws _]) j Eh j j)<|q (oMv j j)<|q (oCa (xs:=[.v false [.ws _],.v false [.im 2 _]]) (vs:=[(false,[.im 0 _])]) (v:=.v false [.im 0 _]) (DR hx8) (.inl j) j Vq j (ppC j (ppC j pp0)) j j pb0 j j j)<|q (ae j j)<|nl)<|us<|gs<|?_
 obtain ⟨x12,zS,h⟩:=bs h
 refine g0 j j (q (oFA (r':=.mp 2 0 3) j oO j j)<|q (oLd (cs:=[.ws _]) j BK j j)<|q (oMv j j)<|q (oCa (xs:=[.v false [.ws _],.v false [.im 0 _]]) (vs:=[(false,[.im 0 _])]) (v:=.v false [.im 0 _]) (Iy zS) (.inl j) j Vr j (ppC j (ppC j pp0)) j j pb0 j j j)<|q (ae j j)<|nl)<|us<|gs<|g0 j j (q (oMv j j)<|q (ae j j)<|nl)<|us<|Go.ret (Unw.ret ?_)
 cases h
 exact fr agD j
theorem FM {a_0:(List ai)} {k_1:Int} {r:(Int×(List ai))} (h:oh a_0 k_1=some r):FX 16 [.ow 3 (List.map ak a_0),.im 2 false [I k_1]] ([(false,[.im 0 (I r.1)])],[.ow 3 (List.map ak r.2)]):=by
 unfold oh at h
 refine Bo (A:=[(0,H 0 0),(1,D 2 (I k_1))]) (B:=[(0,Oe [Z (W 3 ak a_0)]),(1,none)]) (nt:=35) rfl rfl Tryz.func16 rfl rfl rfl rfl ?_
 refine gs<|g0 j j (q (ae j j)<|nl)<|us<|gs<|gs<|g0 j j (q (ae j j)<|nl)<|us<|Go.block<|?_
 obtain ⟨o,hl,h⟩:=bs h
 refine gl c16 j _ (fun (s:(Int×Int×(List ai)))=>match s with | (dm,aX,jV)=>mk [(0,H 0 0),(1,iv dm),(5,iv aX)] [(0,Oe [Z (W 3 ak jV)])]) (fun (o:(Int×(List ai))) (p:Ex×St)=>match o with | (dS,oq)=>p.1= .exit 0∧p.2.norm ([1],[0])=mk [(1,iv dS)] [(0,Oe [Z (W 3 ak oq)])]) hl (by kernel_rfl) ?_ ?_ ?_
 ·intro o p hp e
  obtain ⟨dS,oq⟩:=o
  exact nomatch (hp.1.symm.trans e)
 ·rintro ⟨dm,aX,jV⟩ o h
  unfold jA at h
  dsimp only at h
  refine gs<|gs<|g0 j j (q (oMv j j)<|q (oMv j j)<|q (Ho j j Fe j j j (fun e=>nomatch e))<|q (oBi j j j j)<|nl)<|us<|gc h j ah (fun hc3 h=>?_) fun hc3 h=>?_
  ·refine Go.skip<|us<|gs<|Go.block<|gs<|?_
   obtain ⟨x15,AY,h⟩:=bs h
   obtain ⟨x16,hx16,h⟩:=bs h
   refine g0 j j (q (oMv j j)<|q (oMv j j)<|q (oMv j j)<|q (oCa (xs:=[.v false [.im 0 _]]) (vs:=[(false,[.im 0 _])]) (v:=.v false [.im 0 _]) (BZ AY) (.inl j) j XG j (ppC j pp0) j j pb0 j j j)<|q (Ak j hx16 Ia j j j j)<|q (oFA (r':=.mpe 0 0 0 _ 0) j H8 j j)<|q (QB (v':=(⟨x15,x16.dO,x16.aY⟩:ai)) tF9 j j j (fxI fx0) j j (eX hx16) j)<|nl)<|us<|gs<|g1 j j (mk [(0,H 0 0),(1,iv dm),(5,iv aX)] [(0,Oe [Z (W 3 ak (jV.set aX.toNat (⟨x15,x16.dO,x16.aY⟩:ai)))])]) (q (oMv j j)<|q (oBi j j j j)<|q (ae j j)<|nl)<|us<|gs<|?_
   obtain ⟨x23,zn,h⟩:=bs h
   refine g0 j j (q (oMv j j)<|q (oMv j j)<|q (oMv j j)<|q (Ak j zn Ia j j j j)<|q (oFA (r':=.mpe 0 0 0 _ 1) j rO j j)<|q (QB (v':=(⟨x23.jl,(w64 (dm+1)),x23.aY⟩:ai)) tF2 j j j (fxI fx0) j j (eX zn) j)<|nl)<|us<|gs<|g1 j j (mk [(0,H 0 0),(1,iv (w64 (dm+1))),(5,iv aX)] [(0,Oe [Z (W 3 ak ((jV.set aX.toNat (⟨x15,x16.dO,x16.aY⟩:ai)).set aX.toNat (⟨x23.jl,(w64 (dm+1)),x23.aY⟩:ai)))])]) (q (oMv j j)<|q (oBi j j j j)<|q (ae j j)<|nl)<|us<|gs<|?_
   obtain ⟨x30,QV,h⟩:=bs h
   refine g0 j j (q (oMv j j)<|q (oMv j j)<|q (oMv j j)<|q (Ak j QV Ia j j j j)<|q (oFA (r':=.mpe 0 0 0 _ 2) j zN j j)<|q (QB (v':=(⟨x30.jl,x30.dO,(w64 ((w64 (dm+1))+1))⟩:ai)) tF2 j j j (fxI fx0) j j (eX QV) j)<|nl)<|us<|g1 j j (mk [(0,H 0 0),(1,iv (w64 ((w64 (dm+1))+1))),(5,iv aX)] [(0,Oe [Z (W 3 ak (((jV.set aX.toNat (⟨x15,x16.dO,x16.aY⟩:ai)).set aX.toNat (⟨x23.jl,(w64 (dm+1)),x23.aY⟩:ai)).set aX.toNat (⟨x30.jl,x30.dO,(w64 ((w64 (dm+1))+1))⟩:ai)))])]) (q (oMv j j)<|q (oBi j j j j)<|q (ae j j)<|nl)<|Unw.blk<|us<|g0 j j (q (oMv j j)<|q (oBi j j j j)<|q (ae j j)<|nl)<|Unw.nil<|?_
   cases h
   exact ⟨j,(by kernel_rfl)⟩
  ·refine Go.exit<|ux<|Unw.nil<|?_
   cases h
   exact ⟨j,(by kernel_rfl)⟩
 ·rintro ⟨e,st⟩ hp
  obtain ⟨dS,oq⟩:=o
  dsimp only at h
  obtain ⟨he,hst⟩:=hp
  obtain rfl:e= .exit 0:=he
  refine Unw.iT<|us<|gs<|g2 c16 j j hst (q (oMv j j)<|q (ae j j)<|nl)<|us<|Go.ret (Unw.ret ?_)
  cases h
  exact fr agE j
theorem GH {a_0:(List Int)} {k_1:Int} {r:(Int×(List Int))} (h:pJ a_0 k_1=some r):FX 17 [.ow 1 (List.map eI a_0),.im 2 false [I k_1]] ([(false,[.im 0 (I r.1)])],[.ow 1 (List.map eI r.2)]):=by
 unfold pJ at h
 refine Bo (A:=[(0,H 0 0),(1,D 2 (I k_1))]) (B:=[(0,Oe [Z (W 1 eI a_0)]),(1,none)]) (nt:=19) rfl rfl Tryz.func17 rfl rfl rfl rfl ?_
 refine gs<|g0 j j (q (ae j j)<|nl)<|us<|gs<|gs<|g0 j j (q (ae j j)<|nl)<|us<|Go.block<|?_
 obtain ⟨o,hl,h⟩:=bs h
 refine gl c17 j _ (fun (s:(Int×Int×(List Int)))=>match s with | (dm,aX,jV)=>mk [(0,H 0 0),(1,iv dm),(5,iv aX)] [(0,Oe [Z (W 1 eI jV)])]) (fun (o:(Int×(List Int))) (p:Ex×St)=>match o with | (dS,oq)=>p.1= .exit 0∧p.2.norm ([1],[0])=mk [(1,iv dS)] [(0,Oe [Z (W 1 eI oq)])]) hl (by kernel_rfl) ?_ ?_ ?_
 ·intro o p hp e
  obtain ⟨dS,oq⟩:=o
  exact nomatch (hp.1.symm.trans e)
 ·rintro ⟨dm,aX,jV⟩ o h
  unfold lX at h
  dsimp only at h
  refine gs<|gs<|g0 j j (q (oMv j j)<|q (oMv j j)<|q (Ho j j l9 j j j (fun e=>nomatch e))<|q (oBi j j j j)<|nl)<|us<|gc h j ah (fun hc3 h=>?_) fun hc3 h=>?_
  ·refine Go.skip<|us<|gs<|Go.block<|gs<|?_
   obtain ⟨x15,AY,h⟩:=bs h
   refine g0 j j (q (oMv j j)<|q (oMv j j)<|q (oMv j j)<|q (Ak j AY fO j j j j)<|q (QB (v':=dm) tF2 j j j (fxI fx0) j j (eX AY) j)<|nl)<|us<|g1 j j (mk [(0,H 0 0),(1,iv dm),(5,iv aX)] [(0,Oe [Z (W 1 eI (jV.set aX.toNat dm))])]) (q (oMv j j)<|q (oBi j j j j)<|q (ae j j)<|nl)<|Unw.blk<|us<|g0 j j (q (oMv j j)<|q (oBi j j j j)<|q (ae j j)<|nl)<|Unw.nil<|?_
   cases h
   exact ⟨j,(by kernel_rfl)⟩
  ·refine Go.exit<|ux<|Unw.nil<|?_
   cases h
   exact ⟨j,(by kernel_rfl)⟩
 ·rintro ⟨e,st⟩ hp
  obtain ⟨dS,oq⟩:=o
  dsimp only at h
  obtain ⟨he,hst⟩:=hp
  obtain rfl:e= .exit 0:=he
  refine Unw.iT<|us<|gs<|g2 c17 j j hst (q (oMv j j)<|q (ae j j)<|nl)<|us<|Go.ret (Unw.ret ?_)
  cases h
  exact fr aeO j
theorem zH {a_0:(List Int)} {k_1:Int} {r:Int} (h:mG a_0 k_1=some r):FX 18 [.im 2 false [W 1 eI a_0],.im 2 false [I k_1]] (B0 [(false,[.im 0 (I r)])]):=by
 unfold mG at h
 refine gn 21 Tryz.func18 rfl ?_
 refine gs<|g0 j j (q (ae j j)<|nl)<|us<|gs<|gs<|g0 j j (q (ae j j)<|nl)<|us<|Go.block<|?_
 obtain ⟨o,hl,h⟩:=bs h
 refine gl c18 j _ (fun (s:(Int×Int))=>match s with | (dm,aX)=>mk [(0,D 2 (W 1 eI a_0)),(1,iv dm),(5,iv aX)] []) (fun (o:(Int ⊕ Int)) (p:Ex×St)=>match o with | (.inl dS)=>p.1= .exit 0∧p.2.norm ([1],[])=mk [(1,iv dS)] [] | (.inr r2)=>p.1= .ret∧fin Tryz.prog cfg 18 Tryz.f18 [.im 2 false [W 1 eI a_0],.im 2 false [I k_1]] p.2=some (B0 [(false,[.im 0 (I r2)])])) hl (by kernel_rfl) ?_ ?_ ?_
 ·intro o p hp e
  rcases o with dS | r2<;>exact nomatch (hp.1.symm.trans e)
 ·rintro ⟨dm,aX⟩ o h
  unfold lY at h
  dsimp only at h
  refine gs<|gs<|g0 j j (q (oMv j j)<|q (oMv j j)<|q (gB j j l9 j)<|q (oBi j j j j)<|nl)<|us<|gc h j ah (fun hc5 h=>?_) fun hc5 h=>?_
  ·refine Go.skip<|us<|gs<|Go.block<|gs<|gs<|?_
   obtain ⟨x14,vG,h⟩:=bs h
   refine g0 j j (q (oMv j j)<|q (oMv j j)<|q (gp j vG fO j j)<|q (oLd (cs:=[.im 2 _]) j tF2 j j)<|q (oMv j j)<|q (oBi j j j j)<|nl)<|us<|gc h j iNe (fun hc6 h=>?_) fun hc6 h=>?_
   ·refine gs<|g0 j j (q (ae j j)<|nl)<|us<|Go.ret (Unw.ret ?_)
    cases h
    exact ⟨j,(fo aeP j)⟩
   ·refine Go.skip<|us<|g0 j j (q (oMv j j)<|q (oBi j j j j)<|q (ae j j)<|nl)<|Unw.blk<|us<|g0 j j (q (oMv j j)<|q (oBi j j j j)<|q (ae j j)<|nl)<|Unw.nil<|?_
    cases h
    exact ⟨j,(by kernel_rfl)⟩
  ·refine Go.exit<|ux<|Unw.nil<|?_
   cases h
   exact ⟨j,(by kernel_rfl)⟩
 ·rintro ⟨e,st⟩ hp
  rcases o with dS | r2
  ·dsimp only at h
   obtain ⟨he,hst⟩:=hp
   obtain rfl:e= .exit 0:=he
   refine Unw.iT<|us<|gs<|g2 c18 j j hst (q (oMv j j)<|q (ae j j)<|nl)<|us<|Go.ret (Unw.ret ?_)
   cases h
   exact fr aeP j
  ·dsimp only at h
   obtain ⟨he,hfin⟩:=hp
   obtain rfl:e= .ret:=he
   cases h
   exact Unw.ret (fM hfin)
end
end Go.Proofs.YtnjgcdpleghciaaGreat
