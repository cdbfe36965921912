/- The machine answers, at each function of the program that is reached, what its plain function answers: a further part. Conditions: none. -/
import Derived.Test.YtdibfdcmbjaejaaTrpLa
namespace Go.Proofs.Ytdibfdcmbjaejaa
open Go Go.Sim Go.Pw Go.Proofs
set_option linter.unusedVariables false
set_option linter.unusedSimpArgs false
set_option maxRecDepth 100000
set_option maxHeartbeats 4000000
noncomputable section
theorem yI {aj:(List Int)} {a_1:Int} {m_2:Int} {b_3:Int} {bZ:(List aH)} {r:(List Int)} (h:oP aj a_1 m_2 b_3 (fun b0 b1=>fB b0 b1 bZ)=some r):FX 209 [.ow 1 (List.map eI aj),.im 2 false [I a_1],.im 2 false [I m_2],.im 2 false [I b_3],.im 2 false [.clo 125 [.cp [W 8 ai bZ] 0]]] ([],[.ow 1 (List.map eI r)]):=by
 unfold oP at h
 refine jP (A:=[(0,H 0 0),(1,D 2 (I a_1)),(2,D 2 (I m_2)),(3,D 2 (I b_3)),(4,D 2 (.clo 125 [.cp [W 8 ai bZ] 0]))]) (B:=[(0,Oe [Z (W 1 eI aj)]),(1,none),(2,none),(3,none),(4,none)]) (nt:=58) rfl rfl Try.func209 rfl rfl rfl rfl ?_
 refine gs<|g0 j j (q (oMv j j)<|q (oMv j j)<|q (oBi j j j j)<|q (ae j j)<|nl)<|us<|gs<|g0 j j (q (oMv j j)<|q (oMv j j)<|q (oBi j j j j)<|q (ae j j)<|nl)<|us<|gs<|Go.block<|?_
 obtain ⟨o,hl,h⟩:=bs h
 refine gl aem j _ (fun (s:(Int×Int×(List Int)))=>match s with | (sQ,xu,bV)=>mk [(0,H 0 0),(2,iv m_2),(4,D 2 (.clo 125 [.cp [W 8 ai bZ] 0])),(10,iv sQ),(11,iv xu)] [(0,Oe [Z (W 1 eI bV)])]) (fun (o:(Int×(List Int))) (p:Ex×St)=>match o with | (Bg,kQ)=>p.1= .exit 0∧p.2.norm ([0,2,4,10],[0])=mk [(0,H 0 0),(2,iv m_2),(4,D 2 (.clo 125 [.cp [W 8 ai bZ] 0])),(10,iv Bg)] [(0,Oe [Z (W 1 eI kQ)])]) hl (by kernel_rfl) ?_ ?_ ?_
 ·intro o p hp e
  obtain ⟨Bg,kQ⟩:=o
  exact nomatch (hp.1.symm.trans e)
 ·rintro ⟨sQ,xu,bV⟩ o h
  unfold rP at h
  dsimp only at h
  refine gs<|gs<|g0 j j (q (oMv j j)<|q (oMv j j)<|q (oBi j j j j)<|nl)<|us<|gc h j iNe (fun hc5 h=>?_) fun hc5 h=>?_
  ·refine Go.skip<|us<|Go.block<|gs<|g0 j j (q (oMv j j)<|q (oMv j j)<|q (oBi j j j j)<|nl)<|us<|gc h j af (fun hc6 h=>?_) fun hc6 h=>?_
   ·refine gs<|?_
    obtain ⟨x31,hx31,h⟩:=bs h
    refine g0 j j (q (oMv j j)<|q (oMv j j)<|q (oMv j j)<|q (oBi j j j j)<|q (oMv j j)<|q (oMv j j)<|q (oMv j j)<|q (oCa (xs:=[.v false [.own 0 0 0],.v false [.im 0 _],.v false [.im 0 _],.v false [.im 0 _],.v false [.im 2 _]]) (vs:=[]) (v:=.tup []) (jS hx31) (.inl j) j xK j (ppC j (ppC j (ppC j (ppC j (ppC j pp0))))) j j (pbO j j j j pb0) j j j)<|nl)<|us<|g1 j j (mk [(0,H 0 0),(2,iv m_2),(4,D 2 (.clo 125 [.cp [W 8 ai bZ] 0])),(10,iv sQ),(11,iv xu)] [(0,Oe [Z (W 1 eI x31)])]) (q (oMv j j)<|q (oMv j j)<|q (oBi j j j j)<|q (ae j j)<|nl)<|Unw.blk<|Unw.nil<|?_
    cases h
    exact ⟨j,(by kernel_rfl)⟩
   ·refine gs<|?_
    obtain ⟨x46,Vt,h⟩:=bs h
    refine g0 j j (q (oMv j j)<|q (oMv j j)<|q (oMv j j)<|q (oBi j j j j)<|q (oMv j j)<|q (oMv j j)<|q (oBi j j j j)<|q (oMv j j)<|q (oBi j j j j)<|q (oMv j j)<|q (oMv j j)<|q (oCa (xs:=[.v false [.own 0 0 0],.v false [.im 0 _],.v false [.im 0 _],.v false [.im 0 _],.v false [.im 2 _]]) (vs:=[]) (v:=.tup []) (jS Vt) (.inl j) j xK j (ppC j (ppC j (ppC j (ppC j (ppC j pp0))))) j j (pbO j j j j pb0) j j j)<|nl)<|us<|g1 j j (mk [(0,H 0 0),(2,iv m_2),(4,D 2 (.clo 125 [.cp [W 8 ai bZ] 0])),(10,iv sQ),(11,iv xu)] [(0,Oe [Z (W 1 eI x46)])]) (q (oMv j j)<|q (oMv j j)<|q (oBi j j j j)<|q (ae j j)<|nl)<|Unw.blk<|Unw.nil<|?_
    cases h
    exact ⟨j,(by kernel_rfl)⟩
  ·refine Go.exit<|ux<|Unw.nil<|?_
   cases h
   exact ⟨j,(by kernel_rfl)⟩
 ·rintro ⟨e,st⟩ hp
  obtain ⟨Bg,kQ⟩:=o
  dsimp only at h
  obtain ⟨he,hst⟩:=hp
  obtain rfl:e= .exit 0:=he
  refine Unw.jZ<|us<|?_
  obtain ⟨x57,SI,h⟩:=bs h
  refine g2 aem j j hst (q (oMv j j)<|q (oMv j j)<|q (oMv j j)<|q (oBi j j j j)<|q (oMv j j)<|q (oMv j j)<|q (oMv j j)<|q (oCa (xs:=[.v false [.own 0 0 0],.v false [.im 0 _],.v false [.im 0 _],.v false [.im 0 _],.v false [.im 2 _]]) (vs:=[]) (v:=.tup []) (jS SI) (.inl j) j xK j (ppC j (ppC j (ppC j (ppC j (ppC j pp0))))) j j (pbO j j j j pb0) j j j)<|nl)<|Unw.nil<|?_
  cases h
  exact uU (fo agl j)
theorem wL {self:((List Int)×Int×Int×Int×(Int→Int→Option Int))→Option (List Int)} {bZ:(List aH)} (ih:∀{aj:(List Int)} {a_1:Int} {m_2:Int} {b_3:Int} {r:(List Int)},self (aj,a_1,m_2,b_3,(fun b0 b1=>fB b0 b1 bZ))=some r→FX 199 [.ow 1 (List.map eI aj),.im 2 false [I a_1],.im 2 false [I m_2],.im 2 false [I b_3],.im 2 false [.clo 125 [.cp [W 8 ai bZ] 0]]] ([],[.ow 1 (List.map eI r)])) {aj:(List Int)} {a_1:Int} {m_2:Int} {b_3:Int} {r:(List Int)} (h:lN self aj a_1 m_2 b_3 (fun b0 b1=>fB b0 b1 bZ)=some r):FX 199 [.ow 1 (List.map eI aj),.im 2 false [I a_1],.im 2 false [I m_2],.im 2 false [I b_3],.im 2 false [.clo 125 [.cp [W 8 ai bZ] 0]]] ([],[.ow 1 (List.map eI r)]):=by
 unfold lN at h
 refine jP (A:=[(0,H 0 0),(1,D 2 (I a_1)),(2,D 2 (I m_2)),(3,D 2 (I b_3)),(4,D 2 (.clo 125 [.cp [W 8 ai bZ] 0]))]) (B:=[(0,Oe [Z (W 1 eI aj)]),(1,none),(2,none),(3,none),(4,none)]) (nt:=220) rfl rfl Try.func199 rfl rfl rfl rfl ?_
 refine gs<|gs<|g0 j j (q (oMv j j)<|q (oMv j j)<|q (oBi j j j j)<|q (oBi j j j j)<|nl)<|us<|gc h j iEq (fun hc1 h=>?_) fun hc1 h=>?_
 ·refine gs<|g0 j j (q (oMv j j)<|q (ae j j)<|nl)<|us<|gs<|g0 j j (q (oMv j j)<|q (ae j j)<|nl)<|us<|gs<|Go.block<|?_
  obtain ⟨o,hl,h⟩:=bs h
  refine gl Gm j _ (fun (s:(Int×Int))=>match s with | (pY,Fg)=>mk [(0,H 0 0),(1,iv a_1),(4,D 2 (.clo 125 [.cp [W 8 ai bZ] 0])),(10,iv pY),(11,iv Fg)] [(0,Oe [Z (W 1 eI aj)])]) (fun (fQ:Int) (p:Ex×St)=>p.1= .exit 0∧p.2.norm ([0,1,10],[0])=mk [(0,H 0 0),(1,iv a_1),(10,iv fQ)] [(0,Oe [Z (W 1 eI aj)])]) hl (by kernel_rfl) ?_ ?_ ?_
  ·intro o p hp e
   exact nomatch (hp.1.symm.trans e)
  ·rintro ⟨pY,Fg⟩ o h
   unfold qO at h
   dsimp only at h
   refine gs<|gs<|g0 j j (q (oMv j j)<|q (oMv j j)<|q (oBi j j j j)<|nl)<|us<|gc h j af (fun hc9 h=>?_) fun hc9 h=>?_
   ·refine Go.skip<|us<|Go.block<|gs<|?_
    obtain ⟨x38,hx38,h⟩:=bs h
    refine g0 j j (q (oMv j j)<|q (oMv j j)<|q (oBi j j j j)<|q (Gl j uF3 Ib j)<|q (Q7 j hx38 j j)<|q (Gl j Ib uF3 j)<|q (ae j j)<|nl)<|us<|gs<|?_
    obtain ⟨x43,Gq,h⟩:=bs h
    obtain ⟨x47,FO,h⟩:=bs h
    obtain ⟨x49,MG,h⟩:=bs h
    refine gd Gm j j j j (mk [(0,H 0 0),(1,iv a_1),(4,D 2 (.clo 125 [.cp [W 8 ai bZ] 0])),(10,iv pY),(11,iv Fg),(12,iv (w64 (x38))),(50,bv (decide (x49<0)))] [(0,Oe [Z (W 1 eI aj)])]) (t j j (oMv j j)<|t j j (oMv j j)<|t j j (oMv j j)<|t j j (bK j Gq aU j j j j)<|t j j (fH (cs:=[.im 0 _]) j tF2 j j j j (aA Gq) j j)<|t j j (oMv j j)<|t j j (oMv j j)<|t j j (bK j FO aU j j j j)<|t j j (fH (cs:=[.im 0 _]) j tF2 j j j j (aA FO) j j)<|sS (dN Ve j (oCa (xs:=[.v false [.im 0 _],.v false [.im 0 _],.v false [.im 2 _]]) (vs:=[(false,[.im 0 _])]) (v:=.v false [.im 0 _]) (wC MG) (.inr ⟨_,_,j,j⟩) j DC j (ppC j (ppC j (ppC j pp0))) j j pb0 j j j)) trivial (t j j (oBi j j j j)<|sD (by kernel_rfl)))<|us<|gc h j af (fun Gs h=>?_) fun Gs h=>?_
    ·refine g0 j j (q (oMv j j)<|q (oBi j j j j)<|q (ae j j)<|nl)<|Unw.blk<|Unw.nil<|?_
     cases h
     exact ⟨j,(by kernel_rfl)⟩
    ·refine g0 j j (q (oMv j j)<|q (ae j j)<|nl)<|Unw.blk<|Unw.nil<|?_
     cases h
     exact ⟨j,(by kernel_rfl)⟩
   ·refine Go.exit<|ux<|Unw.nil<|?_
    cases h
    exact ⟨j,(by kernel_rfl)⟩
  ·rintro ⟨e,st⟩ hp
   obtain ⟨fQ,rfl⟩:∃y,y=o:=⟨o,rfl⟩
   obtain ⟨he,hst⟩:=hp
   obtain rfl:e= .exit 0:=he
   refine Unw.jZ<|us<|gs<|gs<|g2 Gm j j hst (q (oMv j j)<|q (ae j j)<|nl)<|us<|Go.block<|?_
   obtain ⟨o,hl,h⟩:=bs h
   refine gl Gm j _ (fun (s:(Int×(List Int)))=>match s with | (sU,jy)=>mk [(0,H 0 0),(10,iv fQ),(13,iv sU)] [(0,Oe [Z (W 1 eI jy)])]) (fun (r2:(List Int)) (p:Ex×St)=>p.1= .exit 2∧fin Try.prog cfg 199 Try.f199 [.ow 1 (List.map eI aj),.im 2 false [I a_1],.im 2 false [I m_2],.im 2 false [I b_3],.im 2 false [.clo 125 [.cp [W 8 ai bZ] 0]]] p.2=some ([],[.ow 1 (List.map eI r2)])) hl (by kernel_rfl) ?_ ?_ ?_
   ·intro o p hp e
    exact nomatch (hp.1.symm.trans e)
   ·rintro ⟨sU,jy⟩ o h
    unfold qN at h
    dsimp only at h
    refine gs<|gs<|g0 j j (q (oMv j j)<|q (oMv j j)<|q (oBi j j j j)<|q (oBi j j j j)<|nl)<|us<|gc h j af (fun hc8 h=>?_) fun hc8 h=>?_
    ·refine Go.skip<|us<|gs<|Go.block<|?_
     obtain ⟨x69,acy,h⟩:=bs h
     obtain ⟨x73,OD,h⟩:=bs h
     obtain ⟨x75,Ut,h⟩:=bs h
     obtain ⟨x76,aar,h⟩:=bs h
     refine gd Gm j j j j (mk [(0,H 0 0),(10,iv fQ),(13,iv sU)] [(0,Oe [Z (W 1 eI ((jy.set sU.toNat x69).set ((w64 (sU+1)).toNat) x73))])]) (t j j (oMv j j)<|t j j (oMv j j)<|t j j (oMv j j)<|t j j (oMv j j)<|t j j (oBi j j j j)<|t j j (oMv j j)<|t j j (oMv j j)<|t j j (oBi j j j j)<|t j j (bK j acy aU j j j j)<|t j j (fH (cs:=[.im 0 _]) j tF2 j j j j (aA acy) j j)<|t j j (oMv j j)<|t j j (oMv j j)<|t j j (bK j OD aU j j j j)<|t j j (fH (cs:=[.im 0 _]) j tF2 j j j j (aA OD) j j)<|t j j (bK j Ut aU j j j j)<|sS (dN Ve j (tN (v':=x69) tF2 j j j (fxI fx0) j j (aA Ut) j)) trivial (t j j (bK j aar aU j j j j)<|sS (dN Ve j (tN (v':=x73) tF2 j j j (fxI fx0) j j (aA aar) j)) trivial (sD (by kernel_rfl))))<|Unw.blk<|us<|g0 j j (q (oMv j j)<|q (oBi j j j j)<|q (ae j j)<|nl)<|Unw.nil<|?_
     cases h
     exact ⟨j,(by kernel_rfl)⟩
    ·refine Go.exit<|ux<|Unw.nil<|?_
     cases h
     exact ⟨j,(fo XE j)⟩
   ·rintro ⟨e,st⟩ hp
    obtain ⟨r2,rfl⟩:∃y,y=o:=⟨o,rfl⟩
    obtain ⟨he,hfin⟩:=hp
    obtain rfl:e= .exit 2:=he
    cases h
    exact Unw.jZ<|us<|Go.ret (Unw.ret (nP hfin))
 ·refine Go.skip<|us<|gs<|gs<|g0 j j (q (oMv j j)<|q (oMv j j)<|q (oBi j j j j)<|q (oBi j j j j)<|nl)<|us<|gc h j iEq (fun qC h=>?_) fun qC h=>?_
  ·refine gs<|g0 j j (q (oMv j j)<|q (ae j j)<|nl)<|us<|gs<|g0 j j (q (oMv j j)<|q (ae j j)<|nl)<|us<|gs<|Go.block<|?_
   obtain ⟨o,hl,h⟩:=bs h
   refine gl Gm j _ (fun (s:(Int×Int))=>match s with | (zM,BM)=>mk [(0,H 0 0),(2,iv m_2),(4,D 2 (.clo 125 [.cp [W 8 ai bZ] 0])),(14,iv zM),(15,iv BM)] [(0,Oe [Z (W 1 eI aj)])]) (fun (vF:Int) (p:Ex×St)=>p.1= .exit 4∧p.2.norm ([0,2,14],[0])=mk [(0,H 0 0),(2,iv m_2),(14,iv vF)] [(0,Oe [Z (W 1 eI aj)])]) hl (by kernel_rfl) ?_ ?_ ?_
   ·intro o p hp e
    exact nomatch (hp.1.symm.trans e)
   ·rintro ⟨zM,BM⟩ o h
    unfold qf at h
    dsimp only at h
    refine gs<|gs<|g0 j j (q (oMv j j)<|q (oMv j j)<|q (oBi j j j j)<|nl)<|us<|gc h j af (fun hc19 h=>?_) fun hc19 h=>?_
    ·refine Go.skip<|us<|Go.block<|gs<|?_
     obtain ⟨x90,hx90,h⟩:=bs h
     refine g0 j j (q (oMv j j)<|q (oMv j j)<|q (oBi j j j j)<|q (Gl j uF3 Ib j)<|q (Q7 j hx90 j j)<|q (Gl j Ib uF3 j)<|q (ae j j)<|nl)<|us<|gs<|?_
     obtain ⟨x95,hx95,h⟩:=bs h
     obtain ⟨x99,hx99,h⟩:=bs h
     obtain ⟨x101,hx101,h⟩:=bs h
     refine gd Gm j j j j (mk [(0,H 0 0),(2,iv m_2),(4,D 2 (.clo 125 [.cp [W 8 ai bZ] 0])),(14,iv zM),(15,iv BM),(16,iv (w64 (x90))),(103,bv (!(decide (x101<0))))] [(0,Oe [Z (W 1 eI aj)])]) (t j j (oMv j j)<|t j j (oMv j j)<|t j j (oMv j j)<|t j j (bK j hx95 aU j j j j)<|t j j (fH (cs:=[.im 0 _]) j tF2 j j j j (aA hx95) j j)<|t j j (oMv j j)<|t j j (oMv j j)<|t j j (bK j hx99 aU j j j j)<|t j j (fH (cs:=[.im 0 _]) j tF2 j j j j (aA hx99) j j)<|sS (dN Ve j (oCa (xs:=[.v false [.im 0 _],.v false [.im 0 _],.v false [.im 2 _]]) (vs:=[(false,[.im 0 _])]) (v:=.v false [.im 0 _]) (wC hx101) (.inr ⟨_,_,j,j⟩) j DC j (ppC j (ppC j (ppC j pp0))) j j pb0 j j j)) trivial (t j j (oBi j j j j)<|t j j (oUn j j j)<|sD (by kernel_rfl)))<|us<|?_
     by_cases wK:x101<0
     ·rw [if_pos wK] at h
      refine gF j (nF (af.2 wK))<|g0 j j (q (oMv j j)<|q (ae j j)<|nl)<|Unw.blk<|Unw.nil<|?_
      cases h
      exact ⟨j,(by kernel_rfl)⟩
     ·rw [if_neg wK] at h
      refine gT j (nT (byF af wK))<|g0 j j (q (oMv j j)<|q (oBi j j j j)<|q (ae j j)<|nl)<|Unw.blk<|Unw.nil<|?_
      cases h
      exact ⟨j,(by kernel_rfl)⟩
    ·refine Go.exit<|ux<|Unw.nil<|?_
     cases h
     exact ⟨j,(by kernel_rfl)⟩
   ·rintro ⟨e,st⟩ hp
    obtain ⟨vF,rfl⟩:∃y,y=o:=⟨o,rfl⟩
    obtain ⟨he,hst⟩:=hp
    obtain rfl:e= .exit 4:=he
    refine Unw.jZ<|us<|gs<|gs<|g2 Gm j j hst (q (oMv j j)<|q (ae j j)<|nl)<|us<|Go.block<|?_
    obtain ⟨o,hl,h⟩:=bs h
    refine gl Gm j _ (fun (s:(Int×(List Int)))=>match s with | (oQ,nZ)=>mk [(0,H 0 0),(14,iv vF),(17,iv oQ)] [(0,Oe [Z (W 1 eI nZ)])]) (fun (r2:(List Int)) (p:Ex×St)=>p.1= .exit 6∧fin Try.prog cfg 199 Try.f199 [.ow 1 (List.map eI aj),.im 2 false [I a_1],.im 2 false [I m_2],.im 2 false [I b_3],.im 2 false [.clo 125 [.cp [W 8 ai bZ] 0]]] p.2=some ([],[.ow 1 (List.map eI r2)])) hl (by kernel_rfl) ?_ ?_ ?_
    ·intro o p hp e
     exact nomatch (hp.1.symm.trans e)
    ·rintro ⟨oQ,nZ⟩ o h
     unfold qc at h
     dsimp only at h
     refine gs<|gs<|g0 j j (q (oMv j j)<|q (oMv j j)<|q (oBi j j j j)<|nl)<|us<|gc h j af (fun hc18 h=>?_) fun hc18 h=>?_
     ·refine Go.skip<|us<|gs<|Go.block<|?_
      obtain ⟨Md,OE,h⟩:=bs h
      obtain ⟨KZ,L8,h⟩:=bs h
      obtain ⟨abu,XF,h⟩:=bs h
      obtain ⟨aho,hx128,h⟩:=bs h
      refine gd Gm j j j j (mk [(0,H 0 0),(14,iv vF),(17,iv oQ)] [(0,Oe [Z (W 1 eI ((nZ.set oQ.toNat Md).set ((w64 (oQ - 1)).toNat) KZ))])]) (t j j (oMv j j)<|t j j (oMv j j)<|t j j (oMv j j)<|t j j (oMv j j)<|t j j (oBi j j j j)<|t j j (oMv j j)<|t j j (oMv j j)<|t j j (oBi j j j j)<|t j j (bK j OE aU j j j j)<|t j j (fH (cs:=[.im 0 _]) j tF2 j j j j (aA OE) j j)<|t j j (oMv j j)<|t j j (oMv j j)<|t j j (bK j L8 aU j j j j)<|t j j (fH (cs:=[.im 0 _]) j tF2 j j j j (aA L8) j j)<|t j j (bK j XF aU j j j j)<|sS (dN Ve j (tN (v':=Md) tF2 j j j (fxI fx0) j j (aA XF) j)) trivial (t j j (bK j hx128 aU j j j j)<|sS (dN Ve j (tN (v':=KZ) tF2 j j j (fxI fx0) j j (aA hx128) j)) trivial (sD (by kernel_rfl))))<|Unw.blk<|us<|g0 j j (q (oMv j j)<|q (oBi j j j j)<|q (ae j j)<|nl)<|Unw.nil<|?_
      cases h
      exact ⟨j,(by kernel_rfl)⟩
     ·refine Go.exit<|ux<|Unw.nil<|?_
      cases h
      exact ⟨j,(fo XE j)⟩
    ·rintro ⟨e,st⟩ hp
     obtain ⟨r2,rfl⟩:∃y,y=o:=⟨o,rfl⟩
     obtain ⟨he,hfin⟩:=hp
     obtain rfl:e= .exit 6:=he
     cases h
     exact Unw.jZ<|us<|Go.ret (Unw.ret (nP hfin))
  ·refine Go.skip<|us<|gs<|?_
   obtain ⟨gU,agz,h⟩:=bs h
   refine g0 j j (q (oMv j j)<|q (oMv j j)<|q (oBi j j j j)<|q (Gl j uF3 Ib j)<|q (Q7 j agz j j)<|q (Gl j Ib uF3 j)<|q (ae j j)<|nl)<|us<|gs<|g0 j j (q (oMv j j)<|q (oMv j j)<|q (oBi j j j j)<|q (ae j j)<|nl)<|us<|gs<|g0 j j (q (ae j j)<|q (ae j j)<|nl)<|us<|gs<|gs<|g0 j j (q (oMv j j)<|q (oMv j j)<|q (oBi j j j j)<|nl)<|us<|Go.join (fun st=>∃yx,∃GZ,iZ self a_1 b_3 (fun b0 b1=>fB b0 b1 bZ) aj m_2 gU yx GZ=some r∧st.norm ([0,1,2,3,4,18,19,20,21],[0])=mk [(0,H 0 0),(1,iv a_1),(2,iv m_2),(3,iv b_3),(4,D 2 (.clo 125 [.cp [W 8 ai bZ] 0])),(18,iv (w64 (gU))),(19,iv (w64 ((w64 (gU))+m_2))),(20,iv yx),(21,iv GZ)] [(0,Oe [Z (W 1 eI aj)])]) ?_ ?_
   ·rintro st ⟨yx,GZ,h,hst⟩
    unfold iZ at h
    refine us<|gs<|g2 Gm j j hst (q (oMv j j)<|q (oBi j j j j)<|q (ae j j)<|nl)<|us<|gs<|Go.block<|?_
    obtain ⟨o,hl,h⟩:=bs h
    refine gl Gm j _ (fun (s:(Int×Int))=>match s with | (qh,BN)=>mk [(0,H 0 0),(1,iv a_1),(2,iv m_2),(3,iv b_3),(4,D 2 (.clo 125 [.cp [W 8 ai bZ] 0])),(18,iv (w64 (gU))),(19,iv (w64 ((w64 (gU))+m_2))),(20,iv qh),(21,iv BN),(22,iv (w64 ((w64 ((w64 (gU))+m_2)) - 1)))] [(0,Oe [Z (W 1 eI aj)])]) (fun (ak:Int) (p:Ex×St)=>p.1= .exit 8∧p.2.norm ([0,1,2,3,4,18,19,20],[0])=mk [(0,H 0 0),(1,iv a_1),(2,iv m_2),(3,iv b_3),(4,D 2 (.clo 125 [.cp [W 8 ai bZ] 0])),(18,iv (w64 (gU))),(19,iv (w64 ((w64 (gU))+m_2))),(20,iv ak)] [(0,Oe [Z (W 1 eI aj)])]) hl (by kernel_rfl) ?_ ?_ ?_
    ·intro o p hp e
     exact nomatch (hp.1.symm.trans e)
    ·rintro ⟨qh,BN⟩ o h
     unfold qg at h
     dsimp only at h
     refine gs<|gs<|g0 j j (q (oMv j j)<|q (oMv j j)<|q (oBi j j j j)<|nl)<|us<|gc h j af (fun ahY h=>?_) fun ahY h=>?_
     ·refine Go.skip<|us<|Go.block<|gs<|?_
      obtain ⟨Yr,agA,h⟩:=bs h
      refine g0 j j (q (oMv j j)<|q (oMv j j)<|q (oBi j j j j)<|q (Gl j uF3 Ib j)<|q (Q7 j agA j j)<|q (Gl j Ib uF3 j)<|q (ae j j)<|nl)<|us<|gs<|?_
      obtain ⟨U7,Uu,h⟩:=bs h
      obtain ⟨x167,hx167,h⟩:=bs h
      obtain ⟨abv,agB,h⟩:=bs h
      refine gd Gm j j j j (mk [(0,H 0 0),(1,iv a_1),(2,iv m_2),(3,iv b_3),(4,D 2 (.clo 125 [.cp [W 8 ai bZ] 0])),(18,iv (w64 (gU))),(19,iv (w64 ((w64 (gU))+m_2))),(20,iv qh),(21,iv BN),(22,iv (w64 ((w64 ((w64 (gU))+m_2)) - 1))),(23,iv (w64 (Yr))),(171,bv (!(decide (abv<0))))] [(0,Oe [Z (W 1 eI aj)])]) (t j j (oMv j j)<|t j j (oMv j j)<|t j j (oMv j j)<|t j j (oMv j j)<|t j j (oBi j j j j)<|t j j (bK j Uu aU j j j j)<|t j j (fH (cs:=[.im 0 _]) j tF2 j j j j (aA Uu) j j)<|t j j (oMv j j)<|t j j (oMv j j)<|t j j (bK j hx167 aU j j j j)<|t j j (fH (cs:=[.im 0 _]) j tF2 j j j j (aA hx167) j j)<|sS (dN Ve j (oCa (xs:=[.v false [.im 0 _],.v false [.im 0 _],.v false [.im 2 _]]) (vs:=[(false,[.im 0 _])]) (v:=.v false [.im 0 _]) (wC agB) (.inr ⟨_,_,j,j⟩) j DC j (ppC j (ppC j (ppC j pp0))) j j pb0 j j j)) trivial (t j j (oBi j j j j)<|t j j (oUn j j j)<|sD (by kernel_rfl)))<|us<|?_
      by_cases yK:abv<0
      ·rw [if_pos yK] at h
       refine gF j (nF (af.2 yK))<|g0 j j (q (oMv j j)<|q (ae j j)<|nl)<|Unw.blk<|Unw.nil<|?_
       cases h
       exact ⟨j,(by kernel_rfl)⟩
      ·rw [if_neg yK] at h
       refine gT j (nT (byF af yK))<|g0 j j (q (oMv j j)<|q (oBi j j j j)<|q (ae j j)<|nl)<|Unw.blk<|Unw.nil<|?_
       cases h
       exact ⟨j,(by kernel_rfl)⟩
     ·refine Go.exit<|ux<|Unw.nil<|?_
      cases h
      exact ⟨j,(by kernel_rfl)⟩
    ·rintro ⟨e,st⟩ hp
     obtain ⟨ak,rfl⟩:∃y,y=o:=⟨o,rfl⟩
     obtain ⟨he,hst⟩:=hp
     obtain rfl:e= .exit 8:=he
     refine Unw.jZ<|us<|gs<|g2 Gm j j hst (q (oMv j j)<|q (oMv j j)<|q (oBi j j j j)<|q (ae j j)<|nl)<|us<|gs<|gs<|gX Gm j j j (mk [(0,H 0 0),(1,iv a_1),(2,iv m_2),(3,iv b_3),(4,D 2 (.clo 125 [.cp [W 8 ai bZ] 0])),(18,iv (w64 (gU))),(20,iv ak),(24,iv (w64 ((w64 ((w64 (gU))+m_2)) - ak))),(185,bv ((decide (ak<m_2))&&(decide (m_2< (w64 ((w64 ((w64 (gU))+m_2)) - ak))))))] [(0,Oe [Z (W 1 eI aj)])]) ?_ ?_
     ·refine xq (oMv j j)<|xq (oMv j j)<|xq (oBi j j j j)<|xq (oMv j j)<|?_
      by_cases MH:ak<m_2
      ·exact xqT rfl rfl (af.2 MH) (oMv rfl rfl)<|xqT rfl rfl (af.2 MH) (oMv rfl rfl)<|xqT rfl rfl (af.2 MH) (oBi rfl rfl rfl rfl)<|xq (bf rfl rfl (af.2 MH) rfl)<|xn (Eq.trans (b:=(fun zf:Bool=>mk [(0,H 0 0),(1,iv a_1),(2,iv m_2),(3,iv b_3),(4,D 2 (.clo 125 [.cp [W 8 ai bZ] 0])),(18,iv (w64 (gU))),(20,iv ak),(24,iv (w64 ((w64 ((w64 (gU))+m_2)) - ak))),(185,bv zf)] [(0,Oe [Z (W 1 eI aj)])]) (decide (m_2< (w64 ((w64 ((w64 (gU))+m_2)) - ak))))) (by kernel_rfl) (congrArg (fun zf:Bool=>mk [(0,H 0 0),(1,iv a_1),(2,iv m_2),(3,iv b_3),(4,D 2 (.clo 125 [.cp [W 8 ai bZ] 0])),(18,iv (w64 (gU))),(20,iv ak),(24,iv (w64 ((w64 ((w64 (gU))+m_2)) - ak))),(185,bv zf)] [(0,Oe [Z (W 1 eI aj)])]) (by first | rfl | (simp [(af.2 MH)];done) | (simp [(af.2 MH)];omega))))
      ·exact ah rfl rfl (byF af MH) rfl<|ah rfl rfl (byF af MH) rfl<|ah rfl rfl (byF af MH) rfl<|xq (bD rfl rfl (byF af MH) rfl)<|xn (Eq.trans (b:=(fun zf:Bool=>mk [(0,H 0 0),(1,iv a_1),(2,iv m_2),(3,iv b_3),(4,D 2 (.clo 125 [.cp [W 8 ai bZ] 0])),(18,iv (w64 (gU))),(20,iv ak),(24,iv (w64 ((w64 ((w64 (gU))+m_2)) - ak))),(185,bv zf)] [(0,Oe [Z (W 1 eI aj)])]) false) (by kernel_rfl) (congrArg (fun zf:Bool=>mk [(0,H 0 0),(1,iv a_1),(2,iv m_2),(3,iv b_3),(4,D 2 (.clo 125 [.cp [W 8 ai bZ] 0])),(18,iv (w64 (gU))),(20,iv ak),(24,iv (w64 ((w64 ((w64 (gU))+m_2)) - ak))),(185,bv zf)] [(0,Oe [Z (W 1 eI aj)])]) (by first | rfl | (simp [(byF af MH)];done) | (simp [(byF af MH)];omega))))
     ·refine us<|Go.join (fun st=>∃lu,iY self a_1 b_3 (fun b0 b1=>fB b0 b1 bZ) m_2 ak gU lu=some r∧st.norm ([0,1,3,4,18,20,24],[0])=mk [(0,H 0 0),(1,iv a_1),(3,iv b_3),(4,D 2 (.clo 125 [.cp [W 8 ai bZ] 0])),(18,iv (w64 (gU))),(20,iv ak),(24,iv (w64 ((w64 ((w64 (gU))+m_2)) - ak)))] [(0,Oe [Z (W 1 eI lu)])]) ?_ ?_
      ·rintro st ⟨lu,h,hst⟩
       unfold iY at h
       refine us<|gs<|gs<|gX Gm j j hst (mk [(0,H 0 0),(1,iv a_1),(3,iv b_3),(4,D 2 (.clo 125 [.cp [W 8 ai bZ] 0])),(18,iv (w64 (gU))),(20,iv ak),(24,iv (w64 ((w64 ((w64 (gU))+m_2)) - ak))),(199,bv ((decide (a_1<ak))&&(decide (ak< (w64 (gU))))))] [(0,Oe [Z (W 1 eI lu)])]) ?_ ?_
       ·refine xq (oMv j j)<|xq (oMv j j)<|xq (oBi j j j j)<|xq (oMv j j)<|?_
        by_cases hc28:a_1<ak
        ·exact xqT rfl rfl (af.2 hc28) (oMv rfl rfl)<|xqT rfl rfl (af.2 hc28) (oMv rfl rfl)<|xqT rfl rfl (af.2 hc28) (oBi rfl rfl rfl rfl)<|xq (bf rfl rfl (af.2 hc28) rfl)<|xn (Eq.trans (b:=(fun zg:Bool=>mk [(0,H 0 0),(1,iv a_1),(3,iv b_3),(4,D 2 (.clo 125 [.cp [W 8 ai bZ] 0])),(18,iv (w64 (gU))),(20,iv ak),(24,iv (w64 ((w64 ((w64 (gU))+m_2)) - ak))),(199,bv zg)] [(0,Oe [Z (W 1 eI lu)])]) (decide (ak< (w64 (gU))))) (by kernel_rfl) (congrArg (fun zg:Bool=>mk [(0,H 0 0),(1,iv a_1),(3,iv b_3),(4,D 2 (.clo 125 [.cp [W 8 ai bZ] 0])),(18,iv (w64 (gU))),(20,iv ak),(24,iv (w64 ((w64 ((w64 (gU))+m_2)) - ak))),(199,bv zg)] [(0,Oe [Z (W 1 eI lu)])]) (by first | rfl | (simp [(af.2 hc28)];done) | (simp [(af.2 hc28)];omega))))
        ·exact ah rfl rfl (byF af hc28) rfl<|ah rfl rfl (byF af hc28) rfl<|ah rfl rfl (byF af hc28) rfl<|xq (bD rfl rfl (byF af hc28) rfl)<|xn (Eq.trans (b:=(fun zg:Bool=>mk [(0,H 0 0),(1,iv a_1),(3,iv b_3),(4,D 2 (.clo 125 [.cp [W 8 ai bZ] 0])),(18,iv (w64 (gU))),(20,iv ak),(24,iv (w64 ((w64 ((w64 (gU))+m_2)) - ak))),(199,bv zg)] [(0,Oe [Z (W 1 eI lu)])]) false) (by kernel_rfl) (congrArg (fun zg:Bool=>mk [(0,H 0 0),(1,iv a_1),(3,iv b_3),(4,D 2 (.clo 125 [.cp [W 8 ai bZ] 0])),(18,iv (w64 (gU))),(20,iv ak),(24,iv (w64 ((w64 ((w64 (gU))+m_2)) - ak))),(199,bv zg)] [(0,Oe [Z (W 1 eI lu)])]) (by first | rfl | (simp [(byF af hc28)];done) | (simp [(byF af hc28)];omega))))
       ·refine us<|Go.join (fun st=>∃mD,iW self b_3 (fun b0 b1=>fB b0 b1 bZ) m_2 ak gU mD=some r∧st.norm ([0,3,4,18,24],[0])=mk [(0,H 0 0),(3,iv b_3),(4,D 2 (.clo 125 [.cp [W 8 ai bZ] 0])),(18,iv (w64 (gU))),(24,iv (w64 ((w64 ((w64 (gU))+m_2)) - ak)))] [(0,Oe [Z (W 1 eI mD)])]) ?_ ?_
        ·rintro st ⟨mD,h,hst⟩
         unfold iW at h
         refine us<|gs<|gX Gm j j hst (mk [(0,H 0 0),(3,iv b_3),(4,D 2 (.clo 125 [.cp [W 8 ai bZ] 0])),(18,iv (w64 (gU))),(24,iv (w64 ((w64 ((w64 (gU))+m_2)) - ak))),(213,bv ((decide ((w64 (gU)) < (w64 ((w64 ((w64 (gU))+m_2)) - ak))))&&(decide ((w64 ((w64 ((w64 (gU))+m_2)) - ak)) <b_3))))] [(0,Oe [Z (W 1 eI mD)])]) ?_ ?_
         ·refine xq (oMv j j)<|xq (oMv j j)<|xq (oBi j j j j)<|xq (oMv j j)<|?_
          by_cases MI:(w64 (gU)) < (w64 ((w64 ((w64 (gU))+m_2)) - ak))
          ·exact xqT rfl rfl (af.2 MI) (oMv rfl rfl)<|xqT rfl rfl (af.2 MI) (oMv rfl rfl)<|xqT rfl rfl (af.2 MI) (oBi rfl rfl rfl rfl)<|xq (bf rfl rfl (af.2 MI) rfl)<|xn (Eq.trans (b:=(fun zh:Bool=>mk [(0,H 0 0),(3,iv b_3),(4,D 2 (.clo 125 [.cp [W 8 ai bZ] 0])),(18,iv (w64 (gU))),(24,iv (w64 ((w64 ((w64 (gU))+m_2)) - ak))),(213,bv zh)] [(0,Oe [Z (W 1 eI mD)])]) (decide ((w64 ((w64 ((w64 (gU))+m_2)) - ak)) <b_3))) (by kernel_rfl) (congrArg (fun zh:Bool=>mk [(0,H 0 0),(3,iv b_3),(4,D 2 (.clo 125 [.cp [W 8 ai bZ] 0])),(18,iv (w64 (gU))),(24,iv (w64 ((w64 ((w64 (gU))+m_2)) - ak))),(213,bv zh)] [(0,Oe [Z (W 1 eI mD)])]) (by first | rfl | (simp [(af.2 MI)];done) | (simp [(af.2 MI)];omega))))
          ·exact ah rfl rfl (byF af MI) rfl<|ah rfl rfl (byF af MI) rfl<|ah rfl rfl (byF af MI) rfl<|xq (bD rfl rfl (byF af MI) rfl)<|xn (Eq.trans (b:=(fun zh:Bool=>mk [(0,H 0 0),(3,iv b_3),(4,D 2 (.clo 125 [.cp [W 8 ai bZ] 0])),(18,iv (w64 (gU))),(24,iv (w64 ((w64 ((w64 (gU))+m_2)) - ak))),(213,bv zh)] [(0,Oe [Z (W 1 eI mD)])]) false) (by kernel_rfl) (congrArg (fun zh:Bool=>mk [(0,H 0 0),(3,iv b_3),(4,D 2 (.clo 125 [.cp [W 8 ai bZ] 0])),(18,iv (w64 (gU))),(24,iv (w64 ((w64 ((w64 (gU))+m_2)) - ak))),(213,bv zh)] [(0,Oe [Z (W 1 eI mD)])]) (by first | rfl | (simp [(byF af MI)];done) | (simp [(byF af MI)];omega))))
         ·refine us<|gc h j (Yq af af) (fun hc31 h=>?_) fun hc31 h=>?_
          ·obtain ⟨afa,agC,h⟩:=bs h
           refine g0 j j (q (oMv j j)<|q (oMv j j)<|q (oMv j j)<|q (oMv j j)<|q (oMv j j)<|q (oCa (xs:=[.v false [.own 0 0 0],.v false [.im 0 _],.v false [.im 0 _],.v false [.im 0 _],.v false [.im 2 _]]) (vs:=[]) (v:=.tup []) (ih agC) (.inl j) j tq j (ppC j (ppC j (ppC j (ppC j (ppC j pp0))))) j j (pbO j j j j pb0) j j j)<|nl)<|Unw.nil<|?_
           cases h
           exact uU (fo XE j)
          ·refine Go.skip<|Unw.nil<|?_
           cases h
           exact uU (fo XE j)
        ·intro K32
         refine gc h j (Yq af af) (fun aex h=>?_) fun aex h=>?_
         ·obtain ⟨aeb,agD,h⟩:=bs h
          exact g0 j j (q (oMv j j)<|q (oMv j j)<|q (oMv j j)<|q (oMv j j)<|q (oMv j j)<|q (oCa (xs:=[.v false [.own 0 0 0],.v false [.im 0 _],.v false [.im 0 _],.v false [.im 0 _],.v false [.im 2 _]]) (vs:=[]) (v:=.tup []) (ih agD) (.inl j) j tq j (ppC j (ppC j (ppC j (ppC j (ppC j pp0))))) j j (pbO j j j j pb0) j j j)<|nl)<|K32 _ ⟨aeb,h,(by kernel_rfl)⟩
         ·exact Go.skip<|K32 _ ⟨lu,h,(by kernel_rfl)⟩
      ·intro K34
       refine gc h j (Yq af af) (fun aas h=>?_) fun aas h=>?_
       ·obtain ⟨aec,agE,h⟩:=bs h
        exact g0 j j (q (oMv j j)<|q (oMv j j)<|q (oMv j j)<|q (oMv j j)<|q (oMv j j)<|q (oCa (xs:=[.v false [.own 0 0 0],.v false [.im 0 _],.v false [.im 0 _],.v false [.im 0 _],.v false [.im 2 _]]) (vs:=[]) (v:=.tup []) (yI agE) (.inl j) j Jm j (ppC j (ppC j (ppC j (ppC j (ppC j pp0))))) j j (pbO j j j j pb0) j j j)<|nl)<|K34 _ ⟨aec,h,(by kernel_rfl)⟩
       ·exact Go.skip<|K34 _ ⟨aj,h,(by kernel_rfl)⟩
   ·intro K38
    refine gc h j af (fun hc39 h=>?_) fun hc39 h=>?_
    ·exact gs<|g0 j j (q (oMv j j)<|q (oMv j j)<|q (oBi j j j j)<|q (ae j j)<|nl)<|us<|g0 j j (q (oMv j j)<|q (ae j j)<|nl)<|K38 _ ⟨(w64 ((w64 ((w64 (gU))+m_2)) - b_3)),(w64 (gU)),h,(by kernel_rfl)⟩
    ·exact gs<|g0 j j (q (oMv j j)<|q (ae j j)<|nl)<|us<|g0 j j (q (oMv j j)<|q (ae j j)<|nl)<|K38 _ ⟨a_1,m_2,h,(by kernel_rfl)⟩
theorem o8 {aj:(List Int)} {a_1:Int} {m_2:Int} {b_3:Int} {bZ:(List aH)} {r:(List Int)} (h:jT aj a_1 m_2 b_3 (fun b0 b1=>fB b0 b1 bZ)=some r):FX 199 [.ow 1 (List.map eI aj),.im 2 false [I a_1],.im 2 false [I m_2],.im 2 false [I b_3],.im 2 false [.clo 125 [.cp [W 8 ai bZ] 0]]] ([],[.ow 1 (List.map eI r)]):=by
 unfold jT at h
 obtain ⟨n,hn⟩:=Be h
 clear h
 induction n generalizing aj a_1 m_2 b_3 r with
 | zero=>cases hn
 | succ n ihn=>exact wL (self:=yQ _ n) (fun h=>ihn h) hn
theorem yJ {aj:(List Int)} {n_1:Int} {xA:(List aH)} {r:(List Int)} (h:kR aj n_1 (fun b0 b1=>fB b0 b1 xA)=some r):FX 169 [.ow 1 (List.map eI aj),.im 2 false [I n_1],.im 2 false [.clo 125 [.cp [W 8 ai xA] 0]]] ([],[.ow 1 (List.map eI r)]):=by
 unfold kR at h
 refine jP (A:=[(0,H 0 0),(1,D 2 (I n_1)),(2,D 2 (.clo 125 [.cp [W 8 ai xA] 0]))]) (B:=[(0,Oe [Z (W 1 eI aj)]),(1,none),(2,none)]) (nt:=63) rfl rfl Try.func169 rfl rfl rfl rfl ?_
 refine gs<|g0 j j (q (ae j j)<|nl)<|us<|gs<|g0 j j (q (oMv j j)<|q (ae j j)<|q (ae j j)<|nl)<|us<|gs<|Go.block<|?_
 obtain ⟨o,hl,h⟩:=bs h
 refine gl Vd j _ (fun (s:(Int×Int×(List Int)))=>match s with | (Om,G6,bV)=>mk [(0,H 0 0),(1,iv n_1),(2,D 2 (.clo 125 [.cp [W 8 ai xA] 0])),(6,iv 20),(7,iv Om),(8,iv G6)] [(0,Oe [Z (W 1 eI bV)])]) (fun (o:(Int×(List Int))) (p:Ex×St)=>match o with | (G7,kQ)=>p.1= .exit 0∧p.2.norm ([0,1,2,6,7],[0])=mk [(0,H 0 0),(1,iv n_1),(2,D 2 (.clo 125 [.cp [W 8 ai xA] 0])),(6,iv 20),(7,iv G7)] [(0,Oe [Z (W 1 eI kQ)])]) hl (by kernel_rfl) ?_ ?_ ?_
 ·intro o p hp e
  obtain ⟨G7,kQ⟩:=o
  exact nomatch (hp.1.symm.trans e)
 ·rintro ⟨Om,G6,bV⟩ o h
  unfold jG at h
  dsimp only at h
  refine gs<|gs<|g0 j j (q (oMv j j)<|q (oMv j j)<|q (oBi j j j j)<|nl)<|us<|gc h j af (fun hc18 h=>?_) fun hc18 h=>?_
  ·refine Go.skip<|us<|Go.block<|gs<|?_
   obtain ⟨x18,Gp,h⟩:=bs h
   refine g0 j j (q (oMv j j)<|q (oMv j j)<|q (oMv j j)<|q (oMv j j)<|q (oCa (xs:=[.v false [.own 0 0 0],.v false [.im 0 _],.v false [.im 0 _],.v false [.im 2 _]]) (vs:=[]) (v:=.tup []) (lZ Gp) (.inl j) j EL j (ppC j (ppC j (ppC j (ppC j pp0)))) j j (pbO j j j j pb0) j j j)<|nl)<|us<|gs<|g1 j j (mk [(0,H 0 0),(1,iv n_1),(2,D 2 (.clo 125 [.cp [W 8 ai xA] 0])),(6,iv 20),(8,iv G6)] [(0,Oe [Z (W 1 eI x18)])]) (q (oMv j j)<|q (ae j j)<|nl)<|us<|g0 j j (q (oMv j j)<|q (oMv j j)<|q (oBi j j j j)<|q (ae j j)<|nl)<|Unw.blk<|Unw.nil<|?_
   cases h
   exact ⟨j,(by kernel_rfl)⟩
  ·refine Go.exit<|ux<|Unw.nil<|?_
   cases h
   exact ⟨j,(by kernel_rfl)⟩
 ·rintro ⟨e,st⟩ hp
  obtain ⟨G7,kQ⟩:=o
  dsimp only at h
  obtain ⟨he,hst⟩:=hp
  obtain rfl:e= .exit 0:=he
  refine Unw.jZ<|us<|gs<|?_
  obtain ⟨x27,hx27,h⟩:=bs h
  refine g2 Vd j j hst (q (oMv j j)<|q (oMv j j)<|q (oMv j j)<|q (oMv j j)<|q (oCa (xs:=[.v false [.own 0 0 0],.v false [.im 0 _],.v false [.im 0 _],.v false [.im 2 _]]) (vs:=[]) (v:=.tup []) (lZ hx27) (.inl j) j EL j (ppC j (ppC j (ppC j (ppC j pp0)))) j j (pbO j j j j pb0) j j j)<|nl)<|us<|Go.block<|?_
  obtain ⟨o,hl,h⟩:=bs h
  refine gl Vd j _ (fun (s:(Int×(List Int)))=>match s with | (dw,BO)=>mk [(0,H 0 0),(1,iv n_1),(2,D 2 (.clo 125 [.cp [W 8 ai xA] 0])),(6,iv dw)] [(0,Oe [Z (W 1 eI BO)])]) (fun (r2:(List Int)) (p:Ex×St)=>p.1= .exit 2∧fin Try.prog cfg 169 Try.f169 [.ow 1 (List.map eI aj),.im 2 false [I n_1],.im 2 false [.clo 125 [.cp [W 8 ai xA] 0]]] p.2=some ([],[.ow 1 (List.map eI r2)])) hl (by kernel_rfl) ?_ ?_ ?_
  ·intro o p hp e
   exact nomatch (hp.1.symm.trans e)
  ·rintro ⟨dw,BO⟩ o h
   unfold jF at h
   dsimp only at h
   refine gs<|gs<|g0 j j (q (oMv j j)<|q (oMv j j)<|q (oBi j j j j)<|nl)<|us<|gc h j af (fun qC h=>?_) fun qC h=>?_
   ·refine Go.skip<|us<|Go.block<|gs<|g0 j j (q (oMv j j)<|q (oBi j j j j)<|q (ae j j)<|q (ae j j)<|nl)<|us<|gs<|Go.block<|?_
    obtain ⟨o,hl,h⟩:=bs h
    refine gl Vd j _ (fun (s:(Int×Int×(List Int)))=>match s with | (La,G5,jy)=>mk [(0,H 0 0),(1,iv n_1),(2,D 2 (.clo 125 [.cp [W 8 ai xA] 0])),(6,iv dw),(7,iv La),(8,iv G5)] [(0,Oe [Z (W 1 eI jy)])]) (fun (o:(Int×(List Int))) (p:Ex×St)=>match o with | (BP,sV)=>p.1= .exit 4∧p.2.norm ([0,1,2,6,7],[0])=mk [(0,H 0 0),(1,iv n_1),(2,D 2 (.clo 125 [.cp [W 8 ai xA] 0])),(6,iv dw),(7,iv BP)] [(0,Oe [Z (W 1 eI sV)])]) hl (by kernel_rfl) ?_ ?_ ?_
    ·intro o p hp e
     obtain ⟨BP,sV⟩:=o
     exact nomatch (hp.1.symm.trans e)
    ·rintro ⟨La,G5,jy⟩ o h
     unfold rQ at h
     dsimp only at h
     refine gs<|gs<|g0 j j (q (oMv j j)<|q (oMv j j)<|q (oBi j j j j)<|nl)<|us<|gc h j af (fun hc17 h=>?_) fun hc17 h=>?_
     ·refine Go.skip<|us<|Go.block<|gs<|?_
      obtain ⟨x43,Gq,h⟩:=bs h
      refine g0 j j (q (oMv j j)<|q (oMv j j)<|q (oMv j j)<|q (oMv j j)<|q (oBi j j j j)<|q (oMv j j)<|q (oMv j j)<|q (oCa (xs:=[.v false [.own 0 0 0],.v false [.im 0 _],.v false [.im 0 _],.v false [.im 0 _],.v false [.im 2 _]]) (vs:=[]) (v:=.tup []) (o8 Gq) (.inl j) j tq j (ppC j (ppC j (ppC j (ppC j (ppC j pp0))))) j j (pbO j j j j pb0) j j j)<|nl)<|us<|gs<|g1 j j (mk [(0,H 0 0),(1,iv n_1),(2,D 2 (.clo 125 [.cp [W 8 ai xA] 0])),(6,iv dw),(8,iv G5)] [(0,Oe [Z (W 1 eI x43)])]) (q (oMv j j)<|q (ae j j)<|nl)<|us<|g0 j j (q (oMv j j)<|q (oMv j j)<|q (oBi j j j j)<|q (oBi j j j j)<|q (ae j j)<|nl)<|Unw.blk<|Unw.nil<|?_
      cases h
      exact ⟨j,(by kernel_rfl)⟩
     ·refine Go.exit<|ux<|Unw.nil<|?_
      cases h
      exact ⟨j,(by kernel_rfl)⟩
    ·rintro ⟨e,st⟩ hp
     obtain ⟨BP,sV⟩:=o
     dsimp only at h
     obtain ⟨he,hst⟩:=hp
     obtain rfl:e= .exit 4:=he
     refine Unw.jZ<|us<|gs<|gs<|g2 Vd j j hst (q (oMv j j)<|q (oMv j j)<|q (oBi j j j j)<|q (ae j j)<|nl)<|us<|gs<|g0 j j (q (oMv j j)<|q (oMv j j)<|q (oBi j j j j)<|nl)<|us<|Go.join (fun st=>∃zN,jq dw zN=some o∧st.norm ([0,1,2,6],[0])=mk [(0,H 0 0),(1,iv n_1),(2,D 2 (.clo 125 [.cp [W 8 ai xA] 0])),(6,iv dw)] [(0,Oe [Z (W 1 eI zN)])]) ?_ ?_
     ·rintro st ⟨zN,h,hst⟩
      unfold jq at h
      refine us<|g2 Vd j j hst (q (oMv j j)<|q (oBi j j j j)<|q (ae j j)<|nl)<|Unw.blk<|Unw.nil<|?_
      cases h
      exact ⟨j,(by kernel_rfl)⟩
     ·intro K15
      refine gc h j af (fun hc16 h=>?_) fun hc16 h=>?_
      ·obtain ⟨x60,ahZ,h⟩:=bs h
       exact g0 j j (q (oMv j j)<|q (oMv j j)<|q (oMv j j)<|q (oMv j j)<|q (oMv j j)<|q (oCa (xs:=[.v false [.own 0 0 0],.v false [.im 0 _],.v false [.im 0 _],.v false [.im 0 _],.v false [.im 2 _]]) (vs:=[]) (v:=.tup []) (o8 ahZ) (.inl j) j tq j (ppC j (ppC j (ppC j (ppC j (ppC j pp0))))) j j (pbO j j j j pb0) j j j)<|nl)<|K15 _ ⟨x60,h,(by kernel_rfl)⟩
      ·exact Go.skip<|K15 _ ⟨sV,h,(by kernel_rfl)⟩
   ·refine Go.exit<|ux<|Unw.nil<|?_
    cases h
    exact ⟨j,(fo afZ j)⟩
  ·rintro ⟨e,st⟩ hp
   obtain ⟨r2,rfl⟩:∃y,y=o:=⟨o,rfl⟩
   obtain ⟨he,hfin⟩:=hp
   obtain rfl:e= .exit 2:=he
   cases h
   exact Unw.jZ<|Unw.nil (uU hfin)
theorem uY {x_0:(List Int)} {nV:(List aH)} {r:(List Int)} (h:fV x_0 (fun b0 b1=>fB b0 b1 nV)=some r):FX 124 [.ow 1 (List.map eI x_0),.im 2 false [.clo 125 [.cp [W 8 ai nV] 0]]] ([],[.ow 1 (List.map eI r)]):=by
 unfold fV at h
 refine jP (A:=[(0,H 0 0),(1,D 2 (.clo 125 [.cp [W 8 ai nV] 0]))]) (B:=[(0,Oe [Z (W 1 eI x_0)]),(1,none)]) (nt:=9) rfl rfl Try.func124 rfl rfl rfl rfl ?_
 obtain ⟨x8,hx8,h⟩:=bs h
 refine g0 j j (q (oMv j j)<|q (oMv j j)<|q (O9 j j EN j j j (fun e=>nomatch e))<|q (oMv j j)<|q (oCa (xs:=[.v false [.own 0 0 0],.v false [.im 0 _],.v false [.im 2 _]]) (vs:=[]) (v:=.tup []) (yJ hx8) (.inl j) j Ot j (ppC j (ppC j (ppC j pp0))) j j (pbO j j j j pb0) j j j)<|nl)<|Unw.nil<|?_
 cases h
 exact uU (fo afH j)
theorem PK {au:(List aH)} {r:(List Int)} (h:zO au=some r):FX 71 [.im 2 false [W 8 ai au]] (B0 [(false,[.ow 0 1 (List.map eI r)])]):=by
 unfold zO at h
 refine gn 20 Try.func71 rfl ?_
 refine gs<|g0 j j (q (oBx j Ur j (tkI tk0))<|q (DI j j Pj)<|nl)<|us<|gs<|g0 j j (q (oBS (es:=List.map eI ([]:List Int)) j aU j pt0 (gY j fun _=>j))<|q (nO j j j j j)<|nl)<|us<|gs<|gs<|g0 j j (q (oLd (cs:=[.im 2 _]) j Ur j j)<|q (xI j j Ko j)<|q (oMv j j)<|nl)<|us<|Go.block<|?_
 obtain ⟨o,hl,h⟩:=bs h
 refine gl c71 j _ (fun (s:(Int×(List Int)))=>match s with | (G8,ku)=>mk [(1,M 1),(3,H 3 0),(7,iv (au.length:Int)),(8,iv G8)] [(1,Ob [Ct 2 (W 8 ai au)]),(3,Oc [Z (W 1 eI ku)])]) (fun (jH:(List Int)) (p:Ex×St)=>p.1= .exit 0∧p.2.norm ([1,3],[1,3])=mk [(1,M 1),(3,H 3 0)] [(1,Ob [Ct 2 (W 8 ai au)]),(3,Oc [Z (W 1 eI jH)])]) hl (by kernel_rfl) ?_ ?_ ?_
 ·intro o p hp e
  exact nomatch (hp.1.symm.trans e)
 ·rintro ⟨G8,ku⟩ o h
  unfold vG at h
  dsimp only at h
  refine gs<|g0 j j (q (oBi j j j j)<|nl)<|us<|gs<|gc h j af (fun hc3 h=>?_) fun hc3 h=>?_
  ·refine Go.skip<|us<|gs<|Go.block<|gs<|g0 j j (q (oMv j j)<|q (ae j j)<|nl)<|us<|?_
   obtain ⟨x14,A8,h⟩:=bs h
   refine g0 j j (q (oMv j j)<|q (oMv j j)<|q (oBS (es:=List.map eI ([G8]:List Int)) j aU j (ptC j (fxI fx0) j pt0) (gY j fun _=>j))<|q (Je (en:=eI) (M:=([G8]:List Int)) j A8 j aU j j EN (.inl ⟨_,j⟩) j j j j (Ai j j) (gY j fun _=>j))<|q (nO j j j j j)<|nl)<|Unw.blk<|us<|g0 j j (q (oBi j j j j)<|q (oMv j j)<|nl)<|Unw.nil<|?_
   cases h
   exact ⟨j,(by kernel_rfl)⟩
  ·refine Go.exit<|ux<|Unw.nil<|?_
   cases h
   exact ⟨j,(by kernel_rfl)⟩
 ·rintro ⟨e,st⟩ hp
  obtain ⟨jH,rfl⟩:∃y,y=o:=⟨o,rfl⟩
  obtain ⟨he,hst⟩:=hp
  obtain rfl:e= .exit 0:=he
  refine Unw.jZ<|us<|gs<|?_
  obtain ⟨x18,Gp,h⟩:=bs h
  refine g2 c71 j j hst (q (oMv j j)<|q (oMF (rs:=[.mp 1 0 0]) j j)<|q (oCa (xs:=[.v false [.own 3 0 0],.fn 125 [.mp 1 0 0]]) (vs:=[]) (v:=.tup []) (uY Gp) (.inl j) j RY j (ppC j (ppC j pp0)) j j (pbO j j j j pb0) j j j)<|nl)<|us<|gs<|g1 j j (mk [(3,H 3 0)] [(3,Oc [Z (W 1 eI x18)])]) (q (oMv j j)<|q (nO j j j j j)<|nl)<|us<|Go.ret (Unw.ret ?_)
  cases h
  exact fr ahQ j
theorem SK {x_0:Int} {r:Int} (h:bits_Len64 x_0=some r):FX 180 [.im 2 false [.sc (.int .u64 x_0)]] (B0 [(false,[.im 0 (I r)])]):=by
 unfold bits_Len64 at h
 refine gn 25 Try.func180 rfl ?_
 refine gs<|g0 j j (q (ae j j)<|nl)<|us<|gs<|gs<|g0 j j (q (oMv j j)<|q (oBi j j j j)<|nl)<|us<|Go.join (fun st=>∃Hf,∃Hg,zA Hf Hg=some r∧st.norm ([0,2],[])=mk [(0,D 0 (.sc (.int .u64 Hf))),(2,iv Hg)] []) ?_ ?_
 ·rintro st ⟨Hf,Hg,h,hst⟩
  unfold zA at h
  refine us<|gs<|gs<|g2 ab8 j j hst (q (oMv j j)<|q (oBi j j j j)<|nl)<|us<|Go.join (fun st=>∃G9,∃He,zy G9 He=some r∧st.norm ([0,2],[])=mk [(0,D 0 (.sc (.int .u64 G9))),(2,iv He)] []) ?_ ?_
  ·rintro st ⟨G9,He,h,hst⟩
   unfold zy at h
   refine us<|gs<|gs<|g2 ab8 j j hst (q (oMv j j)<|q (oBi j j j j)<|nl)<|us<|Go.join (fun st=>∃JU,∃JV,yz JU JV=some r∧st.norm ([0,2],[])=mk [(0,D 0 (.sc (.int .u64 JU))),(2,iv JV)] []) ?_ ?_
   ·rintro st ⟨JU,JV,h,hst⟩
    unfold yz at h
    refine us<|gs<|?_
    obtain ⟨x22,xg,h⟩:=bs h
    refine g2 ab8 j j hst (q (oMv j j)<|q (oMv j j)<|q (Gl j aao uF5 j)<|q (oIx j xg uF9 j j)<|q (Gl j uF5 uF3 j)<|q (oBi j j j j)<|q (ae j j)<|nl)<|us<|Go.ret (Unw.ret ?_)
    cases h
    exact fr af6 j
   ·intro K4
    refine gc h j af (fun hc5 h=>?_) fun hc5 h=>?_
    ·refine gs<|?_
     obtain ⟨x16,hx16,h⟩:=bs h
     exact g0 j j (q (oMv j j)<|q (Q7 j hx16 j j)<|q (ae j j)<|nl)<|us<|g0 j j (q (oMv j j)<|q (oBi j j j j)<|q (ae j j)<|nl)<|K4 _ ⟨x16,(w64 (He+8)),h,(by kernel_rfl)⟩
    ·exact Go.skip<|K4 _ ⟨G9,He,h,(by kernel_rfl)⟩
  ·intro K6
   refine gc h j af (fun hc7 h=>?_) fun hc7 h=>?_
   ·refine gs<|?_
    obtain ⟨x10,CO,h⟩:=bs h
    exact g0 j j (q (oMv j j)<|q (Q7 j CO j j)<|q (ae j j)<|nl)<|us<|g0 j j (q (oMv j j)<|q (oBi j j j j)<|q (ae j j)<|nl)<|K6 _ ⟨x10,(w64 (Hg+16)),h,(by kernel_rfl)⟩
   ·exact Go.skip<|K6 _ ⟨Hf,Hg,h,(by kernel_rfl)⟩
 ·intro K8
  refine gc h j af (fun hc9 h=>?_) fun hc9 h=>?_
  ·refine gs<|?_
   obtain ⟨x6,hx6,h⟩:=bs h
   exact g0 j j (q (oMv j j)<|q (Q7 j hx6 j j)<|q (ae j j)<|nl)<|us<|g0 j j (q (ae j j)<|nl)<|K8 _ ⟨x6,32,h,(by kernel_rfl)⟩
  ·exact Go.skip<|K8 _ ⟨x_0,0,h,(by kernel_rfl)⟩
theorem OG {x_0:Int} {r:Int} (h:bits_Len x_0=some r):FX 127 [.im 2 false [.sc (.int .u64 x_0)]] (B0 [(false,[.im 0 (I r)])]):=by
 unfold bits_Len at h
 refine gn 8 Try.func127 rfl ?_
 refine gs<|g0 j j (q (ae j j)<|nl)<|us<|gs<|gF j j<|Go.skip<|us<|gs<|?_
 obtain ⟨x7,hx7,h⟩:=bs h
 refine g0 j j (q (oMv j j)<|q (oCa (xs:=[.v false [.im 2 _]]) (vs:=[(false,[.im 0 _])]) (v:=.v false [.im 0 _]) (SK hx7) (.inl j) j YC j (ppC j pp0) j j pb0 j j j)<|q (ae j j)<|nl)<|us<|Go.ret (Unw.ret ?_)
 cases h
 exact fr afI j
theorem DD {x_0:Int} {r:Bool} (h:tZ x_0=some r):FX 205 [.im 2 false [I x_0]] (B0 [(false,[.im 0 (V r)])]):=by
 unfold tZ at h
 refine gn 6 Try.func205 rfl ?_
 refine gs<|g0 j j (q (ae j j)<|nl)<|us<|gs<|g0 j j (q (oMv j j)<|q (oMv j j)<|q (oBi j j j j)<|q (ae j j)<|nl)<|us<|Go.ret (Unw.ret ?_)
 cases h
 exact fr agk j
theorem eX {x_0:Int} {y_1:Int} {r:Bool} (h:dL x_0 y_1=some r):FX 176 [.im 2 false [I x_0],.im 2 false [I y_1]] (B0 [(false,[.im 0 (V r)])]):=by
 unfold dL at h
 refine gn 17 Try.func176 rfl ?_
 refine gs<|g0 j j (q (ae j j)<|nl)<|us<|gs<|?_
 obtain ⟨x6,hx6,h⟩:=bs h
 obtain ⟨lQ,hm3,h⟩:=bs h
 refine gX afw j j j (mk [(4,bv lQ)] []) ?_ ?_
 ·refine xq (oMv j j)<|xq (oCa (xs:=[.v false [.im 2 _]]) (vs:=[(false,[.im 0 _])]) (v:=.v false [.im 0 _]) (DD hx6) (.inl j) j Xz j (ppC j pp0) j j pb0 j j j)<|xq (oMv j j)<|?_
  refine ic hm3 (fun hc1 hm3=>?_) fun hc1 hm3=>?_
  ·obtain ⟨x9,hx9,hm3⟩:=bs hm3
   refine xqT j j (iR.2 hc1) (oMv j j)<|xqT j j (iR.2 hc1) (oCa (xs:=[.v false [.im 2 _]]) (vs:=[(false,[.im 0 _])]) (v:=.v false [.im 0 _]) (DD hx9) (.inl j) j Xz j (ppC j pp0) j j pb0 j j j)<|xqT j j (iR.2 hc1) (oUn j j j)<|xq (bf j j (iR.2 hc1) j)<|xq (oMv j j)<|?_
   refine ic hm3 (fun hc2 hm3=>?_) fun hc2 hm3=>?_
   ·cases hm3
    exact xqT j j (nF (iR.2 hc2)) (oMv j j)<|xqT j j (nF (iR.2 hc2)) (oMv j j)<|xqT j j (nF (iR.2 hc2)) (oBi j j j j)<|xq (bD j j (nF (iR.2 hc2)) j)<|xq (ae j j)<|xn
   ·cases hm3
    exact ah j j (nT (byF iR hc2)) j<|ah j j (nT (byF iR hc2)) j<|ah j j (nT (byF iR hc2)) j<|xq (bf j j (nT (byF iR hc2)) j)<|xq (ae j j)<|xn
  ·cases hm3
   exact ah j j (byF iR hc1) j<|ah j j (byF iR hc1) j<|ah j j (byF iR hc1) j<|xq (bD j j (byF iR hc1) j)<|xq (oMv j j)<|xqT j j j (oMv j j)<|xqT j j j (oMv j j)<|xqT j j j (oBi j j j j)<|xq (bD j j j j)<|xq (ae j j)<|xn
 ·refine us<|Go.ret (Unw.ret ?_)
  cases h
  exact fr af4 j
theorem xk {aj:(List Int)} {a_1:Int} {b_2:Int} {r:(List Int)} (h:fZ aj a_1 b_2=some r):FX 170 [.ow 1 (List.map eI aj),.im 2 false [I a_1],.im 2 false [I b_2]] ([],[.ow 1 (List.map eI r)]):=by
 unfold fZ at h
 refine jP (A:=[(0,H 0 0),(1,D 2 (I a_1)),(2,D 2 (I b_2))]) (B:=[(0,Oe [Z (W 1 eI aj)]),(1,none),(2,none)]) (nt:=49) rfl rfl Try.func170 rfl rfl rfl rfl ?_
 refine gs<|g0 j j (q (oMv j j)<|q (oBi j j j j)<|q (ae j j)<|nl)<|us<|Go.block<|?_
 obtain ⟨o,hl,h⟩:=bs h
 refine gl Yu j _ (fun (s:(Int×(List Int)))=>match s with | (DL,aQ)=>mk [(0,H 0 0),(1,iv a_1),(2,iv b_2),(6,iv DL)] [(0,Oe [Z (W 1 eI aQ)])]) (fun (r2:(List Int)) (p:Ex×St)=>p.1= .exit 0∧fin Try.prog cfg 170 Try.f170 [.ow 1 (List.map eI aj),.im 2 false [I a_1],.im 2 false [I b_2]] p.2=some ([],[.ow 1 (List.map eI r2)])) hl (by kernel_rfl) ?_ ?_ ?_
 ·intro o p hp e
  exact nomatch (hp.1.symm.trans e)
 ·rintro ⟨DL,aQ⟩ o h
  unfold bu at h
  dsimp only at h
  refine gs<|gs<|g0 j j (q (oMv j j)<|q (oMv j j)<|q (oBi j j j j)<|nl)<|us<|gc h j af (fun Vu h=>?_) fun Vu h=>?_
  ·refine Go.skip<|us<|gs<|Go.block<|gs<|g0 j j (q (oMv j j)<|q (ae j j)<|nl)<|us<|Go.block<|?_
   obtain ⟨o,hl,h⟩:=bs h
   refine gl Yu j _ (fun (s:(Int×(List Int)))=>match s with | (uP,bP)=>mk [(0,H 0 0),(1,iv a_1),(2,iv b_2),(6,iv DL),(7,iv uP)] [(0,Oe [Z (W 1 eI bP)])]) (fun (nR:(List Int)) (p:Ex×St)=>p.1= .exit 2∧p.2.norm ([0,1,2,6],[0])=mk [(0,H 0 0),(1,iv a_1),(2,iv b_2),(6,iv DL)] [(0,Oe [Z (W 1 eI nR)])]) hl (by kernel_rfl) ?_ ?_ ?_
   ·intro o p hp e
    exact nomatch (hp.1.symm.trans e)
   ·rintro ⟨uP,bP⟩ o h
    unfold bQ at h
    dsimp only at h
    refine gs<|gs<|?_
    obtain ⟨Ro,xM,h⟩:=bs h
    refine gd Yu j j j j (mk [(0,H 0 0),(1,iv a_1),(2,iv b_2),(6,iv DL),(7,iv uP),(30,bv Ro)] [(0,Oe [Z (W 1 eI bP)])]) ?_ ?_
    ·refine t j j (oMv j j)<|t j j (oMv j j)<|t j j (oBi j j j j)<|t j j (oMv j j)<|?_
     refine ic xM (fun hc22 xM=>?_) fun hc22 xM=>?_
     ·obtain ⟨x22,xg,xM⟩:=bs xM
      obtain ⟨x27,hx27,xM⟩:=bs xM
      obtain ⟨x29,hx29,xM⟩:=bs xM
      cases xM
      exact tT j j j j (af.2 hc22) (oMv j j)<|tT j j j j (af.2 hc22) (oMv j j)<|tT j j j j (af.2 hc22) (bK j xg aU j j j j)<|tT j j j j (af.2 hc22) (fH (cs:=[.im 0 _]) j tF2 j j j j (aA xg) j j)<|tT j j j j (af.2 hc22) (oMv j j)<|tT j j j j (af.2 hc22) (oMv j j)<|tT j j j j (af.2 hc22) (oBi j j j j)<|tT j j j j (af.2 hc22) (bK j hx27 aU j j j j)<|tT j j j j (af.2 hc22) (fH (cs:=[.im 0 _]) j tF2 j j j j (aA hx27) j j)<|sS (dT aeh j j j (af.2 hc22) (oCa (xs:=[.v false [.im 0 _],.v false [.im 0 _]]) (vs:=[(false,[.im 0 _])]) (v:=.v false [.im 0 _]) (eX hx29) (.inl j) j ng j (ppC j (ppC j pp0)) j j pb0 j j j)) trivial (t j j (bf j j (af.2 hc22) j)<|sD (by kernel_rfl))
     ·cases xM
      exact tF j j j j (byF af hc22) j<|tF j j j j (byF af hc22) j<|tF j j j j (byF af hc22) j<|tF j j j j (byF af hc22) j<|tF j j j j (byF af hc22) j<|tF j j j j (byF af hc22) j<|tF j j j j (byF af hc22) j<|tF j j j j (byF af hc22) j<|tF j j j j (byF af hc22) j<|sS (dF j j j (byF af hc22) j) trivial (t j j (bD j j (byF af hc22) j)<|sD (by kernel_rfl))
    ·refine us<|gc h j iR (fun FN h=>?_) fun FN h=>?_
     ·refine Go.skip<|us<|gs<|Go.block<|?_
      obtain ⟨x41,PI,h⟩:=bs h
      obtain ⟨x45,OC,h⟩:=bs h
      obtain ⟨x47,FO,h⟩:=bs h
      obtain ⟨x48,YE,h⟩:=bs h
      refine gd Yu j j j j (mk [(0,H 0 0),(1,iv a_1),(2,iv b_2),(6,iv DL),(7,iv uP)] [(0,Oe [Z (W 1 eI ((bP.set uP.toNat x41).set ((w64 (uP - 1)).toNat) x45))])]) (t j j (oMv j j)<|t j j (oMv j j)<|t j j (oMv j j)<|t j j (oMv j j)<|t j j (oBi j j j j)<|t j j (oMv j j)<|t j j (oMv j j)<|t j j (oBi j j j j)<|t j j (bK j PI aU j j j j)<|t j j (fH (cs:=[.im 0 _]) j tF2 j j j j (aA PI) j j)<|t j j (oMv j j)<|t j j (oMv j j)<|t j j (bK j OC aU j j j j)<|t j j (fH (cs:=[.im 0 _]) j tF2 j j j j (aA OC) j j)<|t j j (bK j FO aU j j j j)<|sS (dN aeh j (tN (v':=x41) tF2 j j j (fxI fx0) j j (aA FO) j)) trivial (t j j (bK j YE aU j j j j)<|sS (dN aeh j (tN (v':=x45) tF2 j j j (fxI fx0) j j (aA YE) j)) trivial (sD (by kernel_rfl))))<|Unw.blk<|us<|g0 j j (q (oMv j j)<|q (oBi j j j j)<|q (ae j j)<|nl)<|Unw.nil<|?_
      cases h
      exact ⟨j,(by kernel_rfl)⟩
     ·refine Go.exit<|ux<|Unw.nil<|?_
      cases h
      exact ⟨j,(by kernel_rfl)⟩
   ·rintro ⟨e,st⟩ hp
    obtain ⟨nR,rfl⟩:∃y,y=o:=⟨o,rfl⟩
    obtain ⟨he,hst⟩:=hp
    obtain rfl:e= .exit 2:=he
    refine Unw.jZ<|Unw.blk<|us<|g2 Yu j j hst (q (oMv j j)<|q (oBi j j j j)<|q (ae j j)<|nl)<|Unw.nil<|?_
    cases h
    exact ⟨j,(by kernel_rfl)⟩
  ·refine Go.exit<|ux<|Unw.nil<|?_
   cases h
   exact ⟨j,(fo af0 j)⟩
 ·rintro ⟨e,st⟩ hp
  obtain ⟨r2,rfl⟩:∃y,y=o:=⟨o,rfl⟩
  obtain ⟨he,hfin⟩:=hp
  obtain rfl:e= .exit 0:=he
  cases h
  exact Unw.jZ<|Unw.nil (uU hfin)
theorem rF {aj:(List Int)} {U8:Int} {Jg:Int} {iL:Int} {r:(List Int)} (h:jU aj U8 Jg iL=some r):FX 200 [.ow 1 (List.map eI aj),.im 2 false [I U8],.im 2 false [I Jg],.im 2 false [I iL]] ([],[.ow 1 (List.map eI r)]):=by
 unfold jU at h
 refine jP (A:=[(0,H 0 0),(1,D 2 (I U8)),(2,D 2 (I Jg)),(3,D 2 (I iL))]) (B:=[(0,Oe [Z (W 1 eI aj)]),(1,none),(2,none),(3,none)]) (nt:=76) rfl rfl Try.func200 rfl rfl rfl rfl ?_
 refine gs<|g0 j j (q (oMv j j)<|q (ae j j)<|nl)<|us<|Go.block<|?_
 obtain ⟨o,hl,h⟩:=bs h
 refine gl Z9 j _ (fun (s:(Int×(List Int)))=>match s with | (gu,aQ)=>mk [(0,H 0 0),(2,iv Jg),(3,iv iL),(8,iv gu)] [(0,Oe [Z (W 1 eI aQ)])]) (fun (o:((List Int) ⊕ (List Int))) (p:Ex×St)=>match o with | (.inl r2)=>p.1= .exit 0∧fin Try.prog cfg 200 Try.f200 [.ow 1 (List.map eI aj),.im 2 false [I U8],.im 2 false [I Jg],.im 2 false [I iL]] p.2=some ([],[.ow 1 (List.map eI r2)]) | (.inr r2)=>p.1= .ret∧fin Try.prog cfg 200 Try.f200 [.ow 1 (List.map eI aj),.im 2 false [I U8],.im 2 false [I Jg],.im 2 false [I iL]] p.2=some ([],[.ow 1 (List.map eI r2)])) hl (by kernel_rfl) ?_ ?_ ?_
 ·intro o p hp e
  rcases o with r2 | r2<;>exact nomatch (hp.1.symm.trans e)
 ·rintro ⟨gu,aQ⟩ o h
  unfold qP at h
  dsimp only at h
  refine Go.block<|gs<|g0 j j (q (oMv j j)<|q (oBi j j j j)<|q (oBi j j j j)<|q (ae j j)<|nl)<|us<|gs<|gs<|g0 j j (q (oMv j j)<|q (oMv j j)<|q (oBi j j j j)<|nl)<|us<|gc h j af (fun qC h=>?_) fun qC h=>?_
  ·refine Go.exit<|ux<|Unw.ZN j<|Unw.nil<|?_
   cases h
   exact ⟨j,(fo adl j)⟩
  ·refine Go.skip<|us<|gs<|gs<|?_
   obtain ⟨Rq,OH,h⟩:=bs h
   refine gd Z9 j j j j (mk [(0,H 0 0),(2,iv Jg),(3,iv iL),(8,iv gu),(9,iv (w64 ((w64 (2*gu))+1))),(36,bv Rq)] [(0,Oe [Z (W 1 eI aQ)])]) ?_ ?_
   ·refine t j j (oMv j j)<|t j j (oBi j j j j)<|t j j (oMv j j)<|t j j (oBi j j j j)<|t j j (oMv j j)<|?_
    refine ic OH (fun hc12 OH=>?_) fun hc12 OH=>?_
    ·obtain ⟨x26,Gn,OH⟩:=bs OH
     obtain ⟨x33,FK,OH⟩:=bs OH
     obtain ⟨x35,MF,OH⟩:=bs OH
     cases OH
     exact tT j j j j (af.2 hc12) (oMv j j)<|tT j j j j (af.2 hc12) (oMv j j)<|tT j j j j (af.2 hc12) (oMv j j)<|tT j j j j (af.2 hc12) (oBi j j j j)<|tT j j j j (af.2 hc12) (bK j Gn aU j j j j)<|tT j j j j (af.2 hc12) (fH (cs:=[.im 0 _]) j tF2 j j j j (aA Gn) j j)<|tT j j j j (af.2 hc12) (oMv j j)<|tT j j j j (af.2 hc12) (oMv j j)<|tT j j j j (af.2 hc12) (oMv j j)<|tT j j j j (af.2 hc12) (oBi j j j j)<|tT j j j j (af.2 hc12) (oBi j j j j)<|tT j j j j (af.2 hc12) (bK j FK aU j j j j)<|tT j j j j (af.2 hc12) (fH (cs:=[.im 0 _]) j tF2 j j j j (aA FK) j j)<|sS (dT acd j j j (af.2 hc12) (oCa (xs:=[.v false [.im 0 _],.v false [.im 0 _]]) (vs:=[(false,[.im 0 _])]) (v:=.v false [.im 0 _]) (eX MF) (.inl j) j ng j (ppC j (ppC j pp0)) j j pb0 j j j)) trivial (t j j (bf j j (af.2 hc12) j)<|sD (by kernel_rfl))
    ·cases OH
     exact tF j j j j (byF af hc12) j<|tF j j j j (byF af hc12) j<|tF j j j j (byF af hc12) j<|tF j j j j (byF af hc12) j<|tF j j j j (byF af hc12) j<|tF j j j j (byF af hc12) j<|tF j j j j (byF af hc12) j<|tF j j j j (byF af hc12) j<|tF j j j j (byF af hc12) j<|tF j j j j (byF af hc12) j<|tF j j j j (byF af hc12) j<|tF j j j j (byF af hc12) j<|tF j j j j (byF af hc12) j<|sS (dF j j j (byF af hc12) j) trivial (t j j (bD j j (byF af hc12) j)<|sD (by kernel_rfl))
   ·refine us<|Go.join (fun st=>∃nC,jc aQ iL gu nC=some o∧st.norm ([0,2,3,8,9],[0])=mk [(0,H 0 0),(2,iv Jg),(3,iv iL),(8,iv gu),(9,iv nC)] [(0,Oe [Z (W 1 eI aQ)])]) ?_ ?_
    ·rintro st ⟨nC,h,hst⟩
     unfold jc at h
     refine us<|gs<|gs<|?_
     obtain ⟨x43,Gq,h⟩:=bs h
     obtain ⟨x49,MG,h⟩:=bs h
     obtain ⟨x51,YF,h⟩:=bs h
     refine gd Z9 j j j hst (mk [(0,H 0 0),(2,iv Jg),(3,iv iL),(8,iv gu),(9,iv nC),(52,bv (!x51))] [(0,Oe [Z (W 1 eI aQ)])]) (t j j (oMv j j)<|t j j (oMv j j)<|t j j (oMv j j)<|t j j (oBi j j j j)<|t j j (bK j Gq aU j j j j)<|t j j (fH (cs:=[.im 0 _]) j tF2 j j j j (aA Gq) j j)<|t j j (oMv j j)<|t j j (oMv j j)<|t j j (oMv j j)<|t j j (oBi j j j j)<|t j j (bK j MG aU j j j j)<|t j j (fH (cs:=[.im 0 _]) j tF2 j j j j (aA MG) j j)<|sS (dN acd j (oCa (xs:=[.v false [.im 0 _],.v false [.im 0 _]]) (vs:=[(false,[.im 0 _])]) (v:=.v false [.im 0 _]) (eX YF) (.inl j) j ng j (ppC j (ppC j pp0)) j j pb0 j j j)) trivial (t j j (oUn j j j)<|sD (by kernel_rfl)))<|us<|?_
     by_cases nU:x51=true
     ·rw [if_pos nU] at h
      refine gF j (nF (iR.2 nU))<|Go.skip<|us<|gs<|?_
      obtain ⟨x65,agF,h⟩:=bs h
      obtain ⟨x71,aat,h⟩:=bs h
      obtain ⟨x73,OD,h⟩:=bs h
      obtain ⟨x74,agG,h⟩:=bs h
      refine gd Z9 j j j j (mk [(0,H 0 0),(2,iv Jg),(3,iv iL),(9,iv nC)] [(0,Oe [Z (W 1 eI ((aQ.set ((w64 (iL+gu)).toNat) x65).set ((w64 (iL+nC)).toNat) x71))])]) (t j j (oMv j j)<|t j j (oMv j j)<|t j j (oMv j j)<|t j j (oBi j j j j)<|t j j (oMv j j)<|t j j (oMv j j)<|t j j (oMv j j)<|t j j (oBi j j j j)<|t j j (oMv j j)<|t j j (oMv j j)<|t j j (oMv j j)<|t j j (oBi j j j j)<|t j j (bK j agF aU j j j j)<|t j j (fH (cs:=[.im 0 _]) j tF2 j j j j (aA agF) j j)<|t j j (oMv j j)<|t j j (oMv j j)<|t j j (oMv j j)<|t j j (oBi j j j j)<|t j j (bK j aat aU j j j j)<|t j j (fH (cs:=[.im 0 _]) j tF2 j j j j (aA aat) j j)<|t j j (bK j OD aU j j j j)<|sS (dN acd j (tN (v':=x65) tF2 j j j (fxI fx0) j j (aA OD) j)) trivial (t j j (bK j agG aU j j j j)<|sS (dN acd j (tN (v':=x71) tF2 j j j (fxI fx0) j j (aA agG) j)) trivial (sD (by kernel_rfl))))<|us<|g0 j j (q (oMv j j)<|q (ae j j)<|nl)<|Unw.blk<|Unw.nil<|?_
      cases h
      exact ⟨j,(by kernel_rfl)⟩
     ·rw [if_neg nU] at h
      refine gT j (nT (byF iR nU))<|Go.ret (Unw.ret ?_)
      cases h
      exact ⟨j,(fo adl j)⟩
    ·intro K15
     refine gc h j iR (fun hc16 h=>?_) fun hc16 h=>?_
     ·exact g0 j j (q (oMv j j)<|q (oBi j j j j)<|q (ae j j)<|nl)<|K15 _ ⟨(w64 ((w64 ((w64 (2*gu))+1))+1)),h,(by kernel_rfl)⟩
     ·exact Go.skip<|K15 _ ⟨(w64 ((w64 (2*gu))+1)),h,(by kernel_rfl)⟩
 ·rintro ⟨e,st⟩ hp
  rcases o with r2 | r2
  ·dsimp only at h
   obtain ⟨he,hfin⟩:=hp
   obtain rfl:e= .exit 0:=he
   cases h
   exact Unw.jZ<|Unw.nil (uU hfin)
  ·dsimp only at h
   obtain ⟨he,hfin⟩:=hp
   obtain rfl:e= .ret:=he
   cases h
   exact Unw.ret (nP hfin)
theorem zi {aj:(List Int)} {a_1:Int} {b_2:Int} {r:(List Int)} (h:nD aj a_1 b_2=some r):FX 171 [.ow 1 (List.map eI aj),.im 2 false [I a_1],.im 2 false [I b_2]] ([],[.ow 1 (List.map eI r)]):=by
 unfold nD at h
 refine jP (A:=[(0,H 0 0),(1,D 2 (I a_1)),(2,D 2 (I b_2))]) (B:=[(0,Oe [Z (W 1 eI aj)]),(1,none),(2,none)]) (nt:=56) rfl rfl Try.func171 rfl rfl rfl rfl ?_
 refine gs<|g0 j j (q (oMv j j)<|q (ae j j)<|nl)<|us<|gs<|g0 j j (q (ae j j)<|nl)<|us<|gs<|g0 j j (q (oMv j j)<|q (oMv j j)<|q (oBi j j j j)<|q (ae j j)<|nl)<|us<|gs<|gs<|?_
 obtain ⟨x17,Kr,h⟩:=bs h
 refine g0 j j (q (oMv j j)<|q (oBi j j j j)<|q (Q5 j Kr j j)<|q (ae j j)<|nl)<|us<|Go.block<|?_
 obtain ⟨o,hl,h⟩:=bs h
 refine gl c171 j _ (fun (s:(Int×(List Int)))=>match s with | (Jh,bP)=>mk [(0,H 0 0),(6,iv a_1),(7,iv 0),(8,iv (w64 (b_2 - a_1))),(9,iv Jh)] [(0,Oe [Z (W 1 eI bP)])]) (fun (AU:(List Int)) (p:Ex×St)=>p.1= .exit 0∧p.2.norm ([0,6,7,8],[0])=mk [(0,H 0 0),(6,iv a_1),(7,iv 0),(8,iv (w64 (b_2 - a_1)))] [(0,Oe [Z (W 1 eI AU)])]) hl (by kernel_rfl) ?_ ?_ ?_
 ·intro o p hp e
  exact nomatch (hp.1.symm.trans e)
 ·rintro ⟨Jh,bP⟩ o h
  unfold qR at h
  dsimp only at h
  refine gs<|gs<|g0 j j (q (oMv j j)<|q (oBi j j j j)<|nl)<|us<|gc h j af (fun hc6 h=>?_) fun hc6 h=>?_
  ·refine Go.skip<|us<|gs<|Go.block<|?_
   obtain ⟨x26,Gn,h⟩:=bs h
   refine g0 j j (q (oMv j j)<|q (oMv j j)<|q (oMv j j)<|q (oMv j j)<|q (oCa (xs:=[.v false [.own 0 0 0],.v false [.im 0 _],.v false [.im 0 _],.v false [.im 0 _]]) (vs:=[]) (v:=.tup []) (rF Gn) (.inl j) j H9 j (ppC j (ppC j (ppC j (ppC j pp0)))) j j (pbO j j j j pb0) j j j)<|nl)<|Unw.blk<|us<|g1 j j (mk [(0,H 0 0),(6,iv a_1),(7,iv 0),(8,iv (w64 (b_2 - a_1))),(9,iv Jh)] [(0,Oe [Z (W 1 eI x26)])]) (q (oMv j j)<|q (oBi j j j j)<|q (ae j j)<|nl)<|Unw.nil<|?_
   cases h
   exact ⟨j,(by kernel_rfl)⟩
  ·refine Go.exit<|ux<|Unw.nil<|?_
   cases h
   exact ⟨j,(by kernel_rfl)⟩
 ·rintro ⟨e,st⟩ hp
  obtain ⟨AU,rfl⟩:∃y,y=o:=⟨o,rfl⟩
  obtain ⟨he,hst⟩:=hp
  obtain rfl:e= .exit 0:=he
  refine Unw.jZ<|us<|gs<|g2 c171 j j hst (q (oMv j j)<|q (oBi j j j j)<|q (ae j j)<|nl)<|us<|Go.block<|?_
  obtain ⟨o,hl,h⟩:=bs h
  refine gl c171 j _ (fun (s:(Int×(List Int)))=>match s with | (xx,qJ)=>mk [(0,H 0 0),(6,iv a_1),(7,iv 0),(10,iv xx)] [(0,Oe [Z (W 1 eI qJ)])]) (fun (r2:(List Int)) (p:Ex×St)=>p.1= .exit 2∧fin Try.prog cfg 171 Try.f171 [.ow 1 (List.map eI aj),.im 2 false [I a_1],.im 2 false [I b_2]] p.2=some ([],[.ow 1 (List.map eI r2)])) hl (by kernel_rfl) ?_ ?_ ?_
  ·intro o p hp e
   exact nomatch (hp.1.symm.trans e)
  ·rintro ⟨xx,qJ⟩ o h
   unfold qQ at h
   dsimp only at h
   refine gs<|gs<|g0 j j (q (oMv j j)<|q (oBi j j j j)<|nl)<|us<|gc h j af (fun hc5 h=>?_) fun hc5 h=>?_
   ·refine Go.skip<|us<|gs<|Go.block<|gs<|?_
    obtain ⟨x43,Gq,h⟩:=bs h
    obtain ⟨x47,FO,h⟩:=bs h
    obtain ⟨x49,MG,h⟩:=bs h
    obtain ⟨x50,SC,h⟩:=bs h
    refine gd c171 j j j j (mk [(0,H 0 0),(6,iv a_1),(7,iv 0),(10,iv xx)] [(0,Oe [Z (W 1 eI ((qJ.set a_1.toNat x43).set ((w64 (a_1+xx)).toNat) x47))])]) (t j j (oMv j j)<|t j j (oMv j j)<|t j j (oMv j j)<|t j j (oMv j j)<|t j j (oMv j j)<|t j j (oBi j j j j)<|t j j (oMv j j)<|t j j (oMv j j)<|t j j (oMv j j)<|t j j (oBi j j j j)<|t j j (bK j Gq aU j j j j)<|t j j (fH (cs:=[.im 0 _]) j tF2 j j j j (aA Gq) j j)<|t j j (oMv j j)<|t j j (oMv j j)<|t j j (bK j FO aU j j j j)<|t j j (fH (cs:=[.im 0 _]) j tF2 j j j j (aA FO) j j)<|t j j (bK j MG aU j j j j)<|sS (dN z171 j (tN (v':=x43) tF2 j j j (fxI fx0) j j (aA MG) j)) trivial (t j j (bK j SC aU j j j j)<|sS (dN z171 j (tN (v':=x47) tF2 j j j (fxI fx0) j j (aA SC) j)) trivial (sD (by kernel_rfl))))<|us<|?_
    obtain ⟨x55,ah0,h⟩:=bs h
    refine g0 j j (q (oMv j j)<|q (oMv j j)<|q (oMv j j)<|q (oMv j j)<|q (oCa (xs:=[.v false [.own 0 0 0],.v false [.im 0 _],.v false [.im 0 _],.v false [.im 0 _]]) (vs:=[]) (v:=.tup []) (rF ah0) (.inl j) j H9 j (ppC j (ppC j (ppC j (ppC j pp0)))) j j (pbO j j j j pb0) j j j)<|nl)<|Unw.blk<|us<|g1 j j (mk [(0,H 0 0),(6,iv a_1),(7,iv 0),(10,iv xx)] [(0,Oe [Z (W 1 eI x55)])]) (q (oMv j j)<|q (oBi j j j j)<|q (ae j j)<|nl)<|Unw.nil<|?_
    cases h
    exact ⟨j,(by kernel_rfl)⟩
   ·refine Go.exit<|ux<|Unw.nil<|?_
    cases h
    exact ⟨j,(fo af1 j)⟩
  ·rintro ⟨e,st⟩ hp
   obtain ⟨r2,rfl⟩:∃y,y=o:=⟨o,rfl⟩
   obtain ⟨he,hfin⟩:=hp
   obtain rfl:e= .exit 2:=he
   cases h
   exact Unw.jZ<|Unw.nil (uU hfin)
theorem nI {aj:(List Int)} {a_1:Int} {b_2:Int} {Dq:Int} {r:(Int×Int×Int)} (h:je aj a_1 b_2 Dq=some r):FX 210 [.im 2 false [W 1 eI aj],.im 2 false [I a_1],.im 2 false [I b_2],.ptr false [(.imm,I Dq)]] ([(false,[.im 0 (I r.1)]),(false,[.im 0 (I r.2.1)])],[.ptr false [(.imm,I r.2.2)]]):=by
 unfold je at h
 refine jP (A:=[(0,D 2 (W 1 eI aj)),(1,D 2 (I a_1)),(2,D 2 (I b_2)),(3,M 3)]) (B:=[(0,none),(1,none),(2,none),(3,some ⟨0,0,true,true,false,false,[C (I Dq)]⟩)]) (nt:=28) rfl rfl Try.func210 rfl rfl rfl rfl ?_
 refine gs<|g0 j j (q (ae j j)<|q (ae j j)<|nl)<|us<|gs<|gs<|?_
 obtain ⟨x12,Af,h⟩:=bs h
 obtain ⟨x16,hx16,h⟩:=bs h
 obtain ⟨x18,Gp,h⟩:=bs h
 refine gd c210 j j j j (mk [(1,iv a_1),(2,iv b_2),(3,M 3),(18,bv x18)] [(3,some ⟨0,0,true,true,false,false,[C (I Dq)]⟩)]) (t j j (oMv j j)<|t j j (oMv j j)<|t j j (pK j Af aU j j)<|t j j (oLd (cs:=[.im 2 _]) j tF2 j j)<|t j j (oMv j j)<|t j j (oMv j j)<|t j j (pK j hx16 aU j j)<|t j j (oLd (cs:=[.im 2 _]) j tF2 j j)<|sS (dN z210 j (oCa (xs:=[.v false [.im 2 _],.v false [.im 2 _]]) (vs:=[(false,[.im 0 _])]) (v:=.v false [.im 0 _]) (eX Gp) (.inl j) j ng j (ppC j (ppC j pp0)) j j pb0 j j j)) trivial (sD (by kernel_rfl)))<|us<|gc h j iR (fun hc1 h=>?_) fun hc1 h=>?_
 ·refine gs<|g0 j j (q (oMv j j)<|q (oNl j j j)<|q (oLd (cs:=[.im 0 _]) j tF3 j j)<|q (oBi j j j j)<|q (oNl j j j)<|q (oSt tF3 j j j (tkI tk0) j j j)<|nl)<|us<|gs<|g1 j j (mk [(1,iv a_1),(2,iv b_2)] [(3,some ⟨0,0,true,true,false,false,[C (I (w64 (Dq+1)))]⟩)]) (q (oMv j j)<|q (oMv j j)<|q (ae j j)<|q (ae j j)<|nl)<|us<|Go.ret (Unw.ret ?_)
  cases h
  exact fr adm j
 ·refine Go.skip<|us<|gs<|g0 j j (q (oMv j j)<|q (oMv j j)<|q (ae j j)<|q (ae j j)<|nl)<|us<|Go.ret (Unw.ret ?_)
  cases h
  exact fr adm j
theorem uu {aj:(List Int)} {a_1:Int} {b_2:Int} {c_3:Int} {JW:Int} {r:(Int×Int)} (h:kS aj a_1 b_2 c_3 JW=some r):FX 204 [.im 2 false [W 1 eI aj],.im 2 false [I a_1],.im 2 false [I b_2],.im 2 false [I c_3],.ptr false [(.imm,I JW)]] ([(false,[.im 0 (I r.1)])],[.ptr false [(.imm,I r.2)]]):=by
 unfold kS at h
 refine jP (A:=[(0,D 2 (W 1 eI aj)),(1,D 2 (I a_1)),(2,D 2 (I b_2)),(3,D 2 (I c_3)),(4,M 4)]) (B:=[(0,none),(1,none),(2,none),(3,none),(4,some ⟨0,0,true,true,false,false,[C (I JW)]⟩)]) (nt:=36) rfl rfl Try.func204 rfl rfl rfl rfl ?_
 refine gs<|g0 j j (q (ae j j)<|nl)<|us<|gs<|?_
 obtain ⟨x16,hx16,h⟩:=bs h
 refine g0 j j (q (oMv j j)<|q (oMv j j)<|q (oMv j j)<|q (oMv j j)<|q (oCa (xs:=[.v false [.im 2 _],.v false [.im 2 _],.v false [.im 2 _],.v false [.mp 4 0 0]]) (vs:=[(false,[.im 0 _]),(false,[.im 0 _])]) (v:=.tup [(false,[.im 0 _]),(false,[.im 0 _])]) (nI hx16) (.inl j) j y8 j (ppC j (ppC j (ppC j (ppP j j j pp0)))) j j (pbP j j pb0) j j j)<|q (Gj j j)<|q (oEx j j j)<|q (oEx j j j)<|q (ae j j)<|q (ae j j)<|nl)<|us<|gs<|?_
 obtain ⟨x24,hx24,h⟩:=bs h
 refine g1 j j (mk [(0,D 2 (W 1 eI aj)),(1,iv x16.1),(2,iv x16.2.1),(3,iv c_3),(4,M 4)] [(4,some ⟨0,0,true,true,false,false,[C (I x16.2.2)]⟩)]) (q (oMv j j)<|q (oMv j j)<|q (oMv j j)<|q (oMv j j)<|q (oCa (xs:=[.v false [.im 2 _],.v false [.im 0 _],.v false [.im 0 _],.v false [.mp 4 0 0]]) (vs:=[(false,[.im 0 _]),(false,[.im 0 _])]) (v:=.tup [(false,[.im 0 _]),(false,[.im 0 _])]) (nI hx24) (.inl j) j y8 j (ppC j (ppC j (ppC j (ppP j j j pp0)))) j j (pbP j j pb0) j j j)<|q (Gj j j)<|q (oEx j j j)<|q (oEx j j j)<|q (ae j j)<|q (ae j j)<|nl)<|us<|gs<|?_
 obtain ⟨x32,hx32,h⟩:=bs h
 refine g1 j j (mk [(0,D 2 (W 1 eI aj)),(1,iv x16.1),(2,iv x24.1),(4,M 4)] [(4,some ⟨0,0,true,true,false,false,[C (I x24.2.2)]⟩)]) (q (oMv j j)<|q (oMv j j)<|q (oMv j j)<|q (oMv j j)<|q (oCa (xs:=[.v false [.im 2 _],.v false [.im 0 _],.v false [.im 0 _],.v false [.mp 4 0 0]]) (vs:=[(false,[.im 0 _]),(false,[.im 0 _])]) (v:=.tup [(false,[.im 0 _]),(false,[.im 0 _])]) (nI hx32) (.inl j) j y8 j (ppC j (ppC j (ppC j (ppP j j j pp0)))) j j (pbP j j pb0) j j j)<|q (Gj j j)<|q (oEx j j j)<|q (oEx j j j)<|q (ae j j)<|q (ae j j)<|nl)<|us<|gs<|g1 j j (mk [(2,iv x32.2.1)] [(4,some ⟨0,0,true,true,false,false,[C (I x32.2.2)]⟩)]) (q (oMv j j)<|q (ae j j)<|nl)<|us<|Go.ret (Unw.ret ?_)
 cases h
 exact fr agj j
theorem jE {aj:(List Int)} {a_1:Int} {JX:Int} {r:(Int×Int)} (h:fM aj a_1 JX=some r):FX 203 [.im 2 false [W 1 eI aj],.im 2 false [I a_1],.ptr false [(.imm,I JX)]] ([(false,[.im 0 (I r.1)])],[.ptr false [(.imm,I r.2)]]):=by
 unfold fM at h
 refine jP (A:=[(0,D 2 (W 1 eI aj)),(1,D 2 (I a_1)),(2,M 2)]) (B:=[(0,none),(1,none),(2,some ⟨0,0,true,true,false,false,[C (I JX)]⟩)]) (nt:=15) rfl rfl Try.func203 rfl rfl rfl rfl ?_
 refine gs<|g0 j j (q (ae j j)<|nl)<|us<|gs<|?_
 obtain ⟨x14,A8,h⟩:=bs h
 refine g0 j j (q (oMv j j)<|q (oMv j j)<|q (oBi j j j j)<|q (oMv j j)<|q (oMv j j)<|q (oBi j j j j)<|q (oMv j j)<|q (oCa (xs:=[.v false [.im 2 _],.v false [.im 0 _],.v false [.im 2 _],.v false [.im 0 _],.v false [.mp 2 0 0]]) (vs:=[(false,[.im 0 _])]) (v:=.v false [.im 0 _]) (uu A8) (.inl j) j CB j (ppC j (ppC j (ppC j (ppC j (ppP j j j pp0))))) j j (pbP j j pb0) j j j)<|q (ae j j)<|nl)<|us<|Go.ret (Unw.ret ?_)
 cases h
 exact fr agi j
theorem xY {aj:(List Int)} {a_1:Int} {b_2:Int} {r:(Int×Int)} (h:lD aj a_1 b_2=some r):FX 173 [.im 2 false [W 1 eI aj],.im 2 false [I a_1],.im 2 false [I b_2]] (B0 [(false,[.im 0 (I r.1)]),(false,[.im 0 (I r.2)])]):=by
 unfold lD at h
 refine gn 57 Try.func173 rfl ?_
 refine gs<|g0 j j (q (ae j j)<|q (ae j j)<|nl)<|us<|gs<|g0 j j (q (oMv j j)<|q (oMv j j)<|q (oBi j j j j)<|q (ae j j)<|nl)<|us<|gs<|g0 j j (q (oAl j tF3 (tkI tk0))<|nl)<|us<|gs<|?_
 obtain ⟨x18,Gp,h⟩:=bs h
 refine g0 j j (q (oMv j j)<|q (oMv j j)<|q (Q5 j Gp j j)<|q (oBi j j j j)<|q (oBi j j j j)<|q (ae j j)<|nl)<|us<|gs<|?_
 obtain ⟨x23,Ih,h⟩:=bs h
 refine g0 j j (q (oMv j j)<|q (oMv j j)<|q (Q5 j Ih j j)<|q (oBi j j j j)<|q (oBi j j j j)<|q (ae j j)<|nl)<|us<|gs<|?_
 obtain ⟨x28,hx28,h⟩:=bs h
 refine g0 j j (q (oMv j j)<|q (oMv j j)<|q (Q5 j hx28 j j)<|q (oBi j j j j)<|q (oBi j j j j)<|q (ae j j)<|nl)<|us<|gs<|gs<|g0 j j (q (oMv j j)<|q (oBi j j j j)<|nl)<|us<|Go.join (fun st=>∃BQ,∃vZ,iD BQ vZ=some r∧st.norm ([9,11],[9])=mk [(9,M 9),(11,iv BQ)] [(9,Ob [C (I vZ)])]) ?_ ?_
 ·rintro st ⟨BQ,vZ,h,hst⟩
  unfold iD at h
  refine us<|gs<|g2 c173 j j hst (q (oLd (cs:=[.im 0 _]) j tF3 j j)<|nl)<|us<|Go.block<|gs<|g0 j j (q (oBi j j j j)<|q (ae j j)<|nl)<|us<|gc h j iEq (fun hc3 h=>?_) fun hc3 h=>?_
  ·refine gs<|g0 j j (q (oMv j j)<|q (ae j j)<|q (ae j j)<|nl)<|us<|Go.ret (Unw.ret ?_)
   cases h
   exact fr aal j
  ·refine gs<|g0 j j (q (oBi j j j j)<|q (ae j j)<|nl)<|us<|gc h j iEq (fun hc4 h=>?_) fun hc4 h=>?_
   ·refine gs<|g0 j j (q (oMv j j)<|q (ae j j)<|q (ae j j)<|nl)<|us<|Go.ret (Unw.ret ?_)
    cases h
    exact fr aal j
   ·refine gs<|g0 j j (q (oMv j j)<|q (ae j j)<|q (ae j j)<|nl)<|us<|Go.ret (Unw.ret ?_)
    cases h
    exact fr aal j
 ·intro K5
  refine gc h j af (fun hc6 h=>?_) fun hc6 h=>?_
  ·refine gs<|gs<|g0 j j (q (oMv j j)<|q (oBi j j j j)<|nl)<|us<|Go.join (fun st=>∃Hl,∃Ho,∃Hq,∃yA,iE aj Hl Ho Hq yA=some r∧st.norm ([0,9,10,11,12],[9])=mk [(0,D 2 (W 1 eI aj)),(9,M 9),(10,iv Hl),(11,iv Ho),(12,iv Hq)] [(9,Ob [C (I yA)])]) ?_ ?_
   ·rintro st ⟨Hl,Ho,Hq,yA,h,hst⟩
    unfold iE at h
    refine us<|?_
    obtain ⟨x48,YE,h⟩:=bs h
    exact g2 c173 j j hst (q (oMv j j)<|q (oMv j j)<|q (oMv j j)<|q (oMv j j)<|q (oCa (xs:=[.v false [.im 2 _],.v false [.im 0 _],.v false [.im 0 _],.v false [.im 0 _],.v false [.mp 9 0 0]]) (vs:=[(false,[.im 0 _])]) (v:=.v false [.im 0 _]) (uu YE) (.inl j) j CB j (ppC j (ppC j (ppC j (ppC j (ppP j j j pp0))))) j j (pbP j j pb0) j j j)<|q (ae j j)<|nl)<|K5 _ ⟨x48.1,x48.2,h,(by kernel_rfl)⟩
   ·intro K8
    refine gc h j af (fun hc9 h=>?_) fun hc9 h=>?_
    ·refine gs<|?_
     obtain ⟨x37,Lt,h⟩:=bs h
     refine g0 j j (q (oMv j j)<|q (oMv j j)<|q (oCa (xs:=[.v false [.im 2 _],.v false [.im 0 _],.v false [.mp 9 0 0]]) (vs:=[(false,[.im 0 _])]) (v:=.v false [.im 0 _]) (jE Lt) (.inl j) j Cm j (ppC j (ppC j (ppP j j j pp0))) j j (pbP j j pb0) j j j)<|q (ae j j)<|nl)<|us<|gs<|?_
     obtain ⟨x40,PE,h⟩:=bs h
     refine g1 j j (mk [(0,D 2 (W 1 eI aj)),(9,M 9),(10,iv x37.1),(11,iv (w64 (a_1+(w64 (x23*2))))),(12,iv (w64 (a_1+(w64 (x28*3)))))] [(9,Ob [C (I x37.2)])]) (q (oMv j j)<|q (oMv j j)<|q (oCa (xs:=[.v false [.im 2 _],.v false [.im 0 _],.v false [.mp 9 0 0]]) (vs:=[(false,[.im 0 _])]) (v:=.v false [.im 0 _]) (jE PE) (.inl j) j Cm j (ppC j (ppC j (ppP j j j pp0))) j j (pbP j j pb0) j j j)<|q (ae j j)<|nl)<|us<|?_
     obtain ⟨x43,Gq,h⟩:=bs h
     exact g1 j j (mk [(0,D 2 (W 1 eI aj)),(9,M 9),(10,iv x37.1),(11,iv x40.1),(12,iv (w64 (a_1+(w64 (x28*3)))))] [(9,Ob [C (I x40.2)])]) (q (oMv j j)<|q (oMv j j)<|q (oCa (xs:=[.v false [.im 2 _],.v false [.im 0 _],.v false [.mp 9 0 0]]) (vs:=[(false,[.im 0 _])]) (v:=.v false [.im 0 _]) (jE Gq) (.inl j) j Cm j (ppC j (ppC j (ppP j j j pp0))) j j (pbP j j pb0) j j j)<|q (ae j j)<|nl)<|K8 _ ⟨x37.1,x40.1,x43.1,x43.2,h,(by kernel_rfl)⟩
    ·exact Go.skip<|K8 _ ⟨(w64 (a_1+(w64 (x18*1)))),(w64 (a_1+(w64 (x23*2)))),(w64 (a_1+(w64 (x28*3)))),0,h,(by kernel_rfl)⟩
  ·exact Go.skip<|K5 _ ⟨(w64 (a_1+(w64 (x23*2)))),0,h,(by kernel_rfl)⟩
theorem xN {aj:(List Int)} {a_1:Int} {b_2:Int} {r:(List Int)} (h:kT aj a_1 b_2=some r):FX 174 [.ow 1 (List.map eI aj),.im 2 false [I a_1],.im 2 false [I b_2]] ([],[.ow 1 (List.map eI r)]):=by
 unfold kT at h
 refine jP (A:=[(0,H 0 0),(1,D 2 (I a_1)),(2,D 2 (I b_2))]) (B:=[(0,Oe [Z (W 1 eI aj)]),(1,none),(2,none)]) (nt:=32) rfl rfl Try.func174 rfl rfl rfl rfl ?_
 refine gs<|g0 j j (q (oMv j j)<|q (ae j j)<|nl)<|us<|gs<|g0 j j (q (oMv j j)<|q (oBi j j j j)<|q (ae j j)<|nl)<|us<|Go.block<|?_
 obtain ⟨o,hl,h⟩:=bs h
 refine gl aej j _ (fun (s:(Int×Int×(List Int)))=>match s with | (BR,DN,bV)=>mk [(0,H 0 0),(6,iv BR),(7,iv DN)] [(0,Oe [Z (W 1 eI bV)])]) (fun (r2:(List Int)) (p:Ex×St)=>p.1= .exit 0∧fin Try.prog cfg 174 Try.f174 [.ow 1 (List.map eI aj),.im 2 false [I a_1],.im 2 false [I b_2]] p.2=some ([],[.ow 1 (List.map eI r2)])) hl (by kernel_rfl) ?_ ?_ ?_
 ·intro o p hp e
  exact nomatch (hp.1.symm.trans e)
 ·rintro ⟨BR,DN,bV⟩ o h
  unfold og at h
  dsimp only at h
  refine gs<|gs<|g0 j j (q (oMv j j)<|q (oMv j j)<|q (oBi j j j j)<|nl)<|us<|gc h j af (fun hc3 h=>?_) fun hc3 h=>?_
  ·refine Go.skip<|us<|Go.block<|gs<|?_
   obtain ⟨x20,SE,h⟩:=bs h
   obtain ⟨x24,hx24,h⟩:=bs h
   obtain ⟨x26,Gn,h⟩:=bs h
   obtain ⟨x27,hx27,h⟩:=bs h
   refine gd aej j j j j (mk [(0,H 0 0),(6,iv BR),(7,iv DN)] [(0,Oe [Z (W 1 eI ((bV.set BR.toNat x20).set DN.toNat x24))])]) (t j j (oMv j j)<|t j j (oMv j j)<|t j j (oMv j j)<|t j j (oMv j j)<|t j j (oMv j j)<|t j j (oMv j j)<|t j j (bK j SE aU j j j j)<|t j j (fH (cs:=[.im 0 _]) j tF2 j j j j (aA SE) j j)<|t j j (oMv j j)<|t j j (oMv j j)<|t j j (bK j hx24 aU j j j j)<|t j j (fH (cs:=[.im 0 _]) j tF2 j j j j (aA hx24) j j)<|t j j (bK j Gn aU j j j j)<|sS (dN afv j (tN (v':=x20) tF2 j j j (fxI fx0) j j (aA Gn) j)) trivial (t j j (bK j hx27 aU j j j j)<|sS (dN afv j (tN (v':=x24) tF2 j j j (fxI fx0) j j (aA hx27) j)) trivial (sD (by kernel_rfl))))<|us<|gs<|g0 j j (q (oMv j j)<|q (oBi j j j j)<|q (ae j j)<|nl)<|us<|g0 j j (q (oMv j j)<|q (oBi j j j j)<|q (ae j j)<|nl)<|Unw.blk<|Unw.nil<|?_
   cases h
   exact ⟨j,(by kernel_rfl)⟩
  ·refine Go.exit<|ux<|Unw.nil<|?_
   cases h
   exact ⟨j,(fo af2 j)⟩
 ·rintro ⟨e,st⟩ hp
  obtain ⟨r2,rfl⟩:∃y,y=o:=⟨o,rfl⟩
  obtain ⟨he,hfin⟩:=hp
  obtain rfl:e= .exit 0:=he
  cases h
  exact Unw.jZ<|Unw.nil (uU hfin)
theorem tu {aj:(List Int)} {a_1:Int} {b_2:Int} {r:(Bool×(List Int))} (h:iQ aj a_1 b_2=some r):FX 175 [.ow 1 (List.map eI aj),.im 2 false [I a_1],.im 2 false [I b_2]] ([(false,[.im 0 (V r.1)])],[.ow 1 (List.map eI r.2)]):=by
 unfold iQ at h
 refine jP (A:=[(0,H 0 0),(1,D 2 (I a_1)),(2,D 2 (I b_2))]) (B:=[(0,Oe [Z (W 1 eI aj)]),(1,none),(2,none)]) (nt:=133) rfl rfl Try.func175 rfl rfl rfl rfl ?_
 refine gs<|g0 j j (q (ae j j)<|nl)<|us<|gs<|g0 j j (q (oMv j j)<|q (oBi j j j j)<|q (ae j j)<|nl)<|us<|gs<|gs<|g0 j j (q (ae j j)<|nl)<|us<|Go.block<|?_
 obtain ⟨o,hl,h⟩:=bs h
 refine gl c175 j _ (fun (s:(Int×Int×(List Int)))=>match s with | (Ru,lS,aO)=>mk [(0,H 0 0),(1,iv a_1),(2,iv b_2),(7,iv Ru),(8,iv lS)] [(0,Oe [Z (W 1 eI aO)])]) (fun (o:((List Int) ⊕ (Bool×(List Int)))) (p:Ex×St)=>match o with | (.inl kU)=>p.1= .exit 0∧p.2.norm ([],[0])=mk [] [(0,Oe [Z (W 1 eI kU)])] | (.inr r2)=>p.1= .ret∧fin Try.prog cfg 175 Try.f175 [.ow 1 (List.map eI aj),.im 2 false [I a_1],.im 2 false [I b_2]] p.2=some ([(false,[.im 0 (V r2.1)])],[.ow 1 (List.map eI r2.2)])) hl (by kernel_rfl) ?_ ?_ ?_
 ·intro o p hp e
  rcases o with kU | r2<;>exact nomatch (hp.1.symm.trans e)
 ·rintro ⟨Ru,lS,aO⟩ o h
  unfold kL at h
  dsimp only at h
  refine gs<|gs<|g0 j j (q (oMv j j)<|q (oBi j j j j)<|nl)<|us<|gc h j af (fun hc39 h=>?_) fun hc39 h=>?_
  ·refine Go.skip<|us<|gs<|Go.join (fun st=>∃BU,∃Oo,eY lS BU Oo=some o∧st.norm ([0,1,2,7,8],[0])=mk [(0,H 0 0),(1,iv a_1),(2,iv b_2),(7,iv Oo),(8,iv lS)] [(0,Oe [Z (W 1 eI BU)])]) ?_ ?_
   ·rintro st ⟨BU,Oo,h,hst⟩
    unfold eY at h
    refine us<|g2 c175 j j hst (q (oMv j j)<|q (oBi j j j j)<|q (ae j j)<|nl)<|Unw.nil<|?_
    cases h
    exact ⟨j,(by kernel_rfl)⟩
   ·intro K58
    refine Go.block<|gs<|Go.block<|?_
    obtain ⟨o,hl,h⟩:=bs h
    refine gl c175 j _ (fun (Fh:Int)=>mk [(0,H 0 0),(1,iv a_1),(2,iv b_2),(7,iv Fh),(8,iv lS)] [(0,Oe [Z (W 1 eI aO)])]) (fun (dD:Int) (p:Ex×St)=>p.1= .exit 2∧p.2.norm ([0,1,2,7,8],[0])=mk [(0,H 0 0),(1,iv a_1),(2,iv b_2),(7,iv dD),(8,iv lS)] [(0,Oe [Z (W 1 eI aO)])]) hl (by kernel_rfl) ?_ ?_ ?_
    ·intro o p hp e
     exact nomatch (hp.1.symm.trans e)
    ·rintro Fh o h
     unfold kK at h
     refine gs<|gs<|?_
     obtain ⟨Rt,OI,h⟩:=bs h
     refine gd c175 j j j j (mk [(0,H 0 0),(1,iv a_1),(2,iv b_2),(7,iv Fh),(8,iv lS),(32,bv Rt)] [(0,Oe [Z (W 1 eI aO)])]) ?_ ?_
     ·refine t j j (oMv j j)<|t j j (oMv j j)<|t j j (oBi j j j j)<|t j j (oMv j j)<|?_
      refine ic OI (fun Ar OI=>?_) fun Ar OI=>?_
      ·obtain ⟨x23,Ih,OI⟩:=bs OI
       obtain ⟨x28,hx28,OI⟩:=bs OI
       obtain ⟨x30,PG,OI⟩:=bs OI
       cases OI
       exact tT j j j j (af.2 Ar) (oMv j j)<|tT j j j j (af.2 Ar) (oMv j j)<|tT j j j j (af.2 Ar) (bK j Ih aU j j j j)<|tT j j j j (af.2 Ar) (fH (cs:=[.im 0 _]) j tF2 j j j j (aA Ih) j j)<|tT j j j j (af.2 Ar) (oMv j j)<|tT j j j j (af.2 Ar) (oMv j j)<|tT j j j j (af.2 Ar) (oBi j j j j)<|tT j j j j (af.2 Ar) (bK j hx28 aU j j j j)<|tT j j j j (af.2 Ar) (fH (cs:=[.im 0 _]) j tF2 j j j j (aA hx28) j j)<|sS (dT z175 j j j (af.2 Ar) (oCa (xs:=[.v false [.im 0 _],.v false [.im 0 _]]) (vs:=[(false,[.im 0 _])]) (v:=.v false [.im 0 _]) (eX PG) (.inl j) j ng j (ppC j (ppC j pp0)) j j pb0 j j j)) trivial (tT j j j j (af.2 Ar) (oUn j j j)<|t j j (bf j j (af.2 Ar) j)<|sD (by kernel_rfl))
      ·cases OI
       exact tF j j j j (byF af Ar) j<|tF j j j j (byF af Ar) j<|tF j j j j (byF af Ar) j<|tF j j j j (byF af Ar) j<|tF j j j j (byF af Ar) j<|tF j j j j (byF af Ar) j<|tF j j j j (byF af Ar) j<|tF j j j j (byF af Ar) j<|tF j j j j (byF af Ar) j<|sS (dF j j j (byF af Ar) j) trivial (tF j j j j (byF af Ar) j<|t j j (bD j j (byF af Ar) j)<|sD (by kernel_rfl))
     ·refine us<|gc h j iR (fun ah1 h=>?_) fun ah1 h=>?_
      ·refine Go.skip<|us<|Go.block<|g0 j j (q (oMv j j)<|q (oBi j j j j)<|q (ae j j)<|nl)<|Unw.blk<|Unw.nil<|?_
       cases h
       exact ⟨j,(by kernel_rfl)⟩
      ·refine Go.exit<|ux<|Unw.nil<|?_
       cases h
       exact ⟨j,(by kernel_rfl)⟩
    ·rintro ⟨e,st⟩ hp
     obtain ⟨dD,rfl⟩:∃y,y=o:=⟨o,rfl⟩
     obtain ⟨he,hst⟩:=hp
     obtain rfl:e= .exit 2:=he
     refine Unw.jZ<|us<|gs<|gs<|g2 c175 j j hst (q (oMv j j)<|q (oMv j j)<|q (oBi j j j j)<|nl)<|us<|gc h j iEq (fun ah2 h=>?_) fun ah2 h=>?_
     ·refine gs<|g0 j j (q (ae j j)<|nl)<|us<|Go.ret (Unw.ret ?_)
      cases h
      exact ⟨j,(fo aam j)⟩
     ·refine Go.skip<|us<|gs<|gs<|g0 j j (q (oMv j j)<|q (oMv j j)<|q (oBi j j j j)<|q (oBi j j j j)<|nl)<|us<|gc h j af (fun ah3 h=>?_) fun ah3 h=>?_
      ·refine gs<|g0 j j (q (ae j j)<|nl)<|us<|Go.ret (Unw.ret ?_)
       cases h
       exact ⟨j,(fo aam j)⟩
      ·refine Go.skip<|us<|gs<|?_
       obtain ⟨x50,SC,h⟩:=bs h
       obtain ⟨x54,acz,h⟩:=bs h
       obtain ⟨x56,Kt,h⟩:=bs h
       obtain ⟨x57,SI,h⟩:=bs h
       refine gd c175 j j j j (mk [(0,H 0 0),(1,iv a_1),(2,iv b_2),(7,iv dD),(8,iv lS)] [(0,Oe [Z (W 1 eI ((aO.set dD.toNat x50).set ((w64 (dD - 1)).toNat) x54))])]) (t j j (oMv j j)<|t j j (oMv j j)<|t j j (oMv j j)<|t j j (oMv j j)<|t j j (oBi j j j j)<|t j j (oMv j j)<|t j j (oMv j j)<|t j j (oBi j j j j)<|t j j (bK j SC aU j j j j)<|t j j (fH (cs:=[.im 0 _]) j tF2 j j j j (aA SC) j j)<|t j j (oMv j j)<|t j j (oMv j j)<|t j j (bK j acz aU j j j j)<|t j j (fH (cs:=[.im 0 _]) j tF2 j j j j (aA acz) j j)<|t j j (bK j Kt aU j j j j)<|sS (dN z175 j (tN (v':=x50) tF2 j j j (fxI fx0) j j (aA Kt) j)) trivial (t j j (bK j SI aU j j j j)<|sS (dN z175 j (tN (v':=x54) tF2 j j j (fxI fx0) j j (aA SI) j)) trivial (sD (by kernel_rfl))))<|us<|gs<|gs<|g0 j j (q (oMv j j)<|q (oMv j j)<|q (oBi j j j j)<|q (oBi j j j j)<|nl)<|us<|Go.join (fun st=>∃vH,eH b_2 dD lS vH=some o∧st.norm ([0,1,2,7,8],[0])=mk [(0,H 0 0),(1,iv a_1),(2,iv b_2),(7,iv dD),(8,iv lS)] [(0,Oe [Z (W 1 eI vH)])]) ?_ ?_
       ·rintro st ⟨vH,h,hst⟩
        unfold eH at h
        refine us<|gs<|g2 c175 j j hst (q (oMv j j)<|q (oMv j j)<|q (oBi j j j j)<|q (oBi j j j j)<|nl)<|us<|gc h j af (fun ah4 h=>?_) fun ah4 h=>?_
        ·refine gs<|g0 j j (q (oMv j j)<|q (oBi j j j j)<|q (ae j j)<|nl)<|us<|Go.block<|?_
         obtain ⟨o,hl,h⟩:=bs h
         refine gl c175 j _ (fun (s:(Int×(List Int)))=>match s with | (lH,jI)=>mk [(0,H 0 0),(1,iv a_1),(2,iv b_2),(7,iv dD),(8,iv lS),(10,iv lH)] [(0,Oe [Z (W 1 eI jI)])]) (fun (wU:(List Int)) (p:Ex×St)=>p.1= .exit 6∧p.2.norm ([0,1,2,7,8],[0])=mk [(0,H 0 0),(1,iv a_1),(2,iv b_2),(7,iv dD),(8,iv lS)] [(0,Oe [Z (W 1 eI wU)])]) hl (by kernel_rfl) ?_ ?_ ?_
         ·intro o p hp e
          exact nomatch (hp.1.symm.trans e)
         ·rintro ⟨lH,jI⟩ o h
          unfold kz at h
          dsimp only at h
          refine gs<|gs<|g0 j j (q (oMv j j)<|q (oMv j j)<|q (oBi j j j j)<|nl)<|us<|gc h j af (fun ah5 h=>?_) fun ah5 h=>?_
          ·refine Go.skip<|us<|gs<|Go.block<|gs<|gs<|?_
           obtain ⟨afc,ado,h⟩:=bs h
           obtain ⟨x113,hx113,h⟩:=bs h
           obtain ⟨x115,hx115,h⟩:=bs h
           refine gd c175 j j j j (mk [(0,H 0 0),(1,iv a_1),(2,iv b_2),(7,iv dD),(8,iv lS),(10,iv lH),(116,bv (!x115))] [(0,Oe [Z (W 1 eI jI)])]) (t j j (oMv j j)<|t j j (oMv j j)<|t j j (bK j ado aU j j j j)<|t j j (fH (cs:=[.im 0 _]) j tF2 j j j j (aA ado) j j)<|t j j (oMv j j)<|t j j (oMv j j)<|t j j (oBi j j j j)<|t j j (bK j hx113 aU j j j j)<|t j j (fH (cs:=[.im 0 _]) j tF2 j j j j (aA hx113) j j)<|sS (dN z175 j (oCa (xs:=[.v false [.im 0 _],.v false [.im 0 _]]) (vs:=[(false,[.im 0 _])]) (v:=.v false [.im 0 _]) (eX hx115) (.inl j) j ng j (ppC j (ppC j pp0)) j j pb0 j j j)) trivial (t j j (oUn j j j)<|sD (by kernel_rfl)))<|us<|?_
           by_cases acA:x115=true
           ·rw [if_pos acA] at h
            refine gF j (nF (iR.2 acA))<|Go.skip<|us<|?_
            obtain ⟨KZ,L8,h⟩:=bs h
            obtain ⟨abw,adp,h⟩:=bs h
            obtain ⟨ahp,adq,h⟩:=bs h
            obtain ⟨ZX,XG,h⟩:=bs h
            refine gd c175 j j j j (mk [(0,H 0 0),(1,iv a_1),(2,iv b_2),(7,iv dD),(8,iv lS),(10,iv lH)] [(0,Oe [Z (W 1 eI ((jI.set lH.toNat KZ).set ((w64 (lH - 1)).toNat) abw))])]) (t j j (oMv j j)<|t j j (oMv j j)<|t j j (oMv j j)<|t j j (oMv j j)<|t j j (oBi j j j j)<|t j j (oMv j j)<|t j j (oMv j j)<|t j j (oBi j j j j)<|t j j (bK j L8 aU j j j j)<|t j j (fH (cs:=[.im 0 _]) j tF2 j j j j (aA L8) j j)<|t j j (oMv j j)<|t j j (oMv j j)<|t j j (bK j adp aU j j j j)<|t j j (fH (cs:=[.im 0 _]) j tF2 j j j j (aA adp) j j)<|t j j (bK j adq aU j j j j)<|sS (dN z175 j (tN (v':=KZ) tF2 j j j (fxI fx0) j j (aA adq) j)) trivial (t j j (bK j XG aU j j j j)<|sS (dN z175 j (tN (v':=abw) tF2 j j j (fxI fx0) j j (aA XG) j)) trivial (sD (by kernel_rfl))))<|Unw.blk<|us<|g0 j j (q (oMv j j)<|q (oBi j j j j)<|q (ae j j)<|nl)<|Unw.nil<|?_
            cases h
            exact ⟨j,(by kernel_rfl)⟩
           ·rw [if_neg acA] at h
            refine gT j (nT (byF iR acA))<|Go.exit<|ux<|Unw.ZN j<|ux<|Unw.nil<|?_
            cases h
            exact ⟨j,(by kernel_rfl)⟩
          ·refine Go.exit<|ux<|Unw.nil<|?_
           cases h
           exact ⟨j,(by kernel_rfl)⟩
         ·rintro ⟨e,st⟩ hp
          obtain ⟨wU,rfl⟩:∃y,y=o:=⟨o,rfl⟩
          obtain ⟨he,hst⟩:=hp
          obtain rfl:e= .exit 6:=he
          exact Unw.jZ<|Unw.blk<|K58 _ ⟨wU,dD,h,hst⟩
        ·exact Go.skip<|Unw.blk<|K58 _ ⟨vH,dD,h,(by kernel_rfl)⟩
       ·intro K79
        refine gc h j af (fun ah6 h=>?_) fun ah6 h=>?_
        ·refine gs<|g0 j j (q (oMv j j)<|q (oBi j j j j)<|q (ae j j)<|nl)<|us<|Go.block<|?_
         obtain ⟨o,hl,h⟩:=bs h
         refine gl c175 j _ (fun (s:(Int×(List Int)))=>match s with | (pq,jJ)=>mk [(0,H 0 0),(1,iv a_1),(2,iv b_2),(7,iv dD),(8,iv lS),(9,iv pq)] [(0,Oe [Z (W 1 eI jJ)])]) (fun (wV:(List Int)) (p:Ex×St)=>p.1= .exit 4∧p.2.norm ([0,1,2,7,8],[0])=mk [(0,H 0 0),(1,iv a_1),(2,iv b_2),(7,iv dD),(8,iv lS)] [(0,Oe [Z (W 1 eI wV)])]) hl (by kernel_rfl) ?_ ?_ ?_
         ·intro o p hp e
          exact nomatch (hp.1.symm.trans e)
         ·rintro ⟨pq,jJ⟩ o h
          unfold kC at h
          dsimp only at h
          refine gs<|gs<|g0 j j (q (oMv j j)<|q (oBi j j j j)<|nl)<|us<|gc h j af (fun ah7 h=>?_) fun ah7 h=>?_
          ·refine Go.skip<|us<|gs<|Go.block<|gs<|gs<|?_
           obtain ⟨x70,aau,h⟩:=bs h
           obtain ⟨x75,Ut,h⟩:=bs h
           obtain ⟨x77,Vw,h⟩:=bs h
           refine gd c175 j j j j (mk [(0,H 0 0),(1,iv a_1),(2,iv b_2),(7,iv dD),(8,iv lS),(9,iv pq),(78,bv (!x77))] [(0,Oe [Z (W 1 eI jJ)])]) (t j j (oMv j j)<|t j j (oMv j j)<|t j j (bK j aau aU j j j j)<|t j j (fH (cs:=[.im 0 _]) j tF2 j j j j (aA aau) j j)<|t j j (oMv j j)<|t j j (oMv j j)<|t j j (oBi j j j j)<|t j j (bK j Ut aU j j j j)<|t j j (fH (cs:=[.im 0 _]) j tF2 j j j j (aA Ut) j j)<|sS (dN z175 j (oCa (xs:=[.v false [.im 0 _],.v false [.im 0 _]]) (vs:=[(false,[.im 0 _])]) (v:=.v false [.im 0 _]) (eX Vw) (.inl j) j ng j (ppC j (ppC j pp0)) j j pb0 j j j)) trivial (t j j (oUn j j j)<|sD (by kernel_rfl)))<|us<|?_
           by_cases acB:x77=true
           ·rw [if_pos acB] at h
            refine gF j (nF (iR.2 acB))<|Go.skip<|us<|?_
            obtain ⟨x87,Uw,h⟩:=bs h
            obtain ⟨x91,hx91,h⟩:=bs h
            obtain ⟨x93,hx93,h⟩:=bs h
            obtain ⟨x94,aav,h⟩:=bs h
            refine gd c175 j j j j (mk [(0,H 0 0),(1,iv a_1),(2,iv b_2),(7,iv dD),(8,iv lS),(9,iv pq)] [(0,Oe [Z (W 1 eI ((jJ.set pq.toNat x87).set ((w64 (pq - 1)).toNat) x91))])]) (t j j (oMv j j)<|t j j (oMv j j)<|t j j (oMv j j)<|t j j (oMv j j)<|t j j (oBi j j j j)<|t j j (oMv j j)<|t j j (oMv j j)<|t j j (oBi j j j j)<|t j j (bK j Uw aU j j j j)<|t j j (fH (cs:=[.im 0 _]) j tF2 j j j j (aA Uw) j j)<|t j j (oMv j j)<|t j j (oMv j j)<|t j j (bK j hx91 aU j j j j)<|t j j (fH (cs:=[.im 0 _]) j tF2 j j j j (aA hx91) j j)<|t j j (bK j hx93 aU j j j j)<|sS (dN z175 j (tN (v':=x87) tF2 j j j (fxI fx0) j j (aA hx93) j)) trivial (t j j (bK j aav aU j j j j)<|sS (dN z175 j (tN (v':=x91) tF2 j j j (fxI fx0) j j (aA aav) j)) trivial (sD (by kernel_rfl))))<|Unw.blk<|us<|g0 j j (q (oMv j j)<|q (oBi j j j j)<|q (ae j j)<|nl)<|Unw.nil<|?_
            cases h
            exact ⟨j,(by kernel_rfl)⟩
           ·rw [if_neg acB] at h
            refine gT j (nT (byF iR acB))<|Go.exit<|ux<|Unw.ZN j<|ux<|Unw.nil<|?_
            cases h
            exact ⟨j,(by kernel_rfl)⟩
          ·refine Go.exit<|ux<|Unw.nil<|?_
           cases h
           exact ⟨j,(by kernel_rfl)⟩
         ·rintro ⟨e,st⟩ hp
          obtain ⟨wV,rfl⟩:∃y,y=o:=⟨o,rfl⟩
          obtain ⟨he,hst⟩:=hp
          obtain rfl:e= .exit 4:=he
          exact Unw.jZ<|K79 _ ⟨wV,h,hst⟩
        ·exact Go.skip<|K79 _ ⟨((aO.set dD.toNat x50).set ((w64 (dD - 1)).toNat) x54),h,(by kernel_rfl)⟩
  ·refine Go.exit<|ux<|Unw.nil<|?_
   cases h
   exact ⟨j,(by kernel_rfl)⟩
 ·rintro ⟨e,st⟩ hp
  rcases o with kU | r2
  ·dsimp only at h
   obtain ⟨he,hst⟩:=hp
   obtain rfl:e= .exit 0:=he
   refine Unw.jZ<|us<|gs<|g2 c175 j j hst (q (ae j j)<|nl)<|us<|Go.ret (Unw.ret ?_)
   cases h
   exact fr aam j
  ·dsimp only at h
   obtain ⟨he,hfin⟩:=hp
   obtain rfl:e= .ret:=he
   cases h
   exact Unw.ret (nP hfin)
theorem wM {aj:(List Int)} {a_1:Int} {b_2:Int} {eu:Int} {r:(Int×(List Int))} (h:jX aj a_1 b_2 eu=some r):FX 177 [.ow 1 (List.map eI aj),.im 2 false [I a_1],.im 2 false [I b_2],.im 2 false [I eu]] ([(false,[.im 0 (I r.1)])],[.ow 1 (List.map eI r.2)]):=by
 unfold jX at h
 refine jP (A:=[(0,H 0 0),(1,D 2 (I a_1)),(2,D 2 (I b_2)),(3,D 2 (I eu))]) (B:=[(0,Oe [Z (W 1 eI aj)]),(1,none),(2,none),(3,none)]) (nt:=84) rfl rfl Try.func177 rfl rfl rfl rfl ?_
 refine gs<|g0 j j (q (ae j j)<|nl)<|us<|gs<|?_
 obtain ⟨x17,Kr,h⟩:=bs h
 obtain ⟨x21,Lr,h⟩:=bs h
 obtain ⟨x23,Ih,h⟩:=bs h
 obtain ⟨x24,hx24,h⟩:=bs h
 refine gd Ph j j j j (mk [(0,H 0 0),(1,iv a_1),(2,iv b_2)] [(0,Oe [Z (W 1 eI ((aj.set a_1.toNat x17).set eu.toNat x21))])]) (t j j (oMv j j)<|t j j (oMv j j)<|t j j (oMv j j)<|t j j (oMv j j)<|t j j (oMv j j)<|t j j (oMv j j)<|t j j (bK j Kr aU j j j j)<|t j j (fH (cs:=[.im 0 _]) j tF2 j j j j (aA Kr) j j)<|t j j (oMv j j)<|t j j (oMv j j)<|t j j (bK j Lr aU j j j j)<|t j j (fH (cs:=[.im 0 _]) j tF2 j j j j (aA Lr) j j)<|t j j (bK j Ih aU j j j j)<|sS (dN Yv j (tN (v':=x17) tF2 j j j (fxI fx0) j j (aA Ih) j)) trivial (t j j (bK j hx24 aU j j j j)<|sS (dN Yv j (tN (v':=x21) tF2 j j j (fxI fx0) j j (aA hx24) j)) trivial (sD (by kernel_rfl))))<|us<|gs<|g0 j j (q (oMv j j)<|q (oBi j j j j)<|q (oMv j j)<|q (oBi j j j j)<|q (ae j j)<|q (ae j j)<|nl)<|us<|gs<|Go.block<|?_
 obtain ⟨o,hl,h⟩:=bs h
 refine gl Ph j _ (fun (s:(Int×Int×(List Int)))=>match s with | (yZ,zB,aO)=>mk [(0,H 0 0),(1,iv a_1),(9,iv yZ),(10,iv zB)] [(0,Oe [Z (W 1 eI aO)])]) (fun (o:(Int×(List Int))) (p:Ex×St)=>match o with | (Hr,kU)=>p.1= .exit 0∧p.2.norm ([9],[0])=mk [(9,iv Hr)] [(0,Oe [Z (W 1 eI kU)])]) hl (by kernel_rfl) ?_ ?_ ?_
 ·intro o p hp e
  obtain ⟨Hr,kU⟩:=o
  exact nomatch (hp.1.symm.trans e)
 ·rintro ⟨yZ,zB,aO⟩ o h
  unfold lW at h
  dsimp only at h
  refine Go.block<|gs<|Go.block<|?_
  obtain ⟨o,hl,h⟩:=bs h
  refine gl Ph j _ (fun (yZ:Int)=>mk [(0,H 0 0),(1,iv a_1),(9,iv yZ),(10,iv zB)] [(0,Oe [Z (W 1 eI aO)])]) (fun (lI:Int) (p:Ex×St)=>p.1= .exit 2∧p.2.norm ([0,1,9,10],[0])=mk [(0,H 0 0),(1,iv a_1),(9,iv lI),(10,iv zB)] [(0,Oe [Z (W 1 eI aO)])]) hl (by kernel_rfl) ?_ ?_ ?_
  ·intro o p hp e
   exact nomatch (hp.1.symm.trans e)
  ·rintro yZ o h
   unfold mQ at h
   refine gs<|gs<|?_
   obtain ⟨Fj,OJ,h⟩:=bs h
   refine gd Ph j j j j (mk [(0,H 0 0),(1,iv a_1),(9,iv yZ),(10,iv zB),(43,bv Fj)] [(0,Oe [Z (W 1 eI aO)])]) ?_ ?_
   ·refine t j j (oMv j j)<|t j j (oMv j j)<|t j j (oBi j j j j)<|t j j (oMv j j)<|?_
    refine ic OJ (fun yK OJ=>?_) fun yK OJ=>?_
    ·obtain ⟨x35,MF,OJ⟩:=bs OJ
     obtain ⟨x39,hx39,OJ⟩:=bs OJ
     obtain ⟨x41,PI,OJ⟩:=bs OJ
     cases OJ
     exact tT j j j j (af.2 yK) (oMv j j)<|tT j j j j (af.2 yK) (oMv j j)<|tT j j j j (af.2 yK) (bK j MF aU j j j j)<|tT j j j j (af.2 yK) (fH (cs:=[.im 0 _]) j tF2 j j j j (aA MF) j j)<|tT j j j j (af.2 yK) (oMv j j)<|tT j j j j (af.2 yK) (oMv j j)<|tT j j j j (af.2 yK) (bK j hx39 aU j j j j)<|tT j j j j (af.2 yK) (fH (cs:=[.im 0 _]) j tF2 j j j j (aA hx39) j j)<|sS (dT Yv j j j (af.2 yK) (oCa (xs:=[.v false [.im 0 _],.v false [.im 0 _]]) (vs:=[(false,[.im 0 _])]) (v:=.v false [.im 0 _]) (eX PI) (.inl j) j ng j (ppC j (ppC j pp0)) j j pb0 j j j)) trivial (tT j j j j (af.2 yK) (oUn j j j)<|t j j (bf j j (af.2 yK) j)<|sD (by kernel_rfl))
    ·cases OJ
     exact tF j j j j (byF af yK) j<|tF j j j j (byF af yK) j<|tF j j j j (byF af yK) j<|tF j j j j (byF af yK) j<|tF j j j j (byF af yK) j<|tF j j j j (byF af yK) j<|tF j j j j (byF af yK) j<|tF j j j j (byF af yK) j<|sS (dF j j j (byF af yK) j) trivial (tF j j j j (byF af yK) j<|t j j (bD j j (byF af yK) j)<|sD (by kernel_rfl))
   ·refine us<|gc h j iR (fun hc38 h=>?_) fun hc38 h=>?_
    ·refine Go.skip<|us<|Go.block<|g0 j j (q (oMv j j)<|q (oBi j j j j)<|q (ae j j)<|nl)<|Unw.blk<|Unw.nil<|?_
     cases h
     exact ⟨j,(by kernel_rfl)⟩
    ·refine Go.exit<|ux<|Unw.nil<|?_
     cases h
     exact ⟨j,(by kernel_rfl)⟩
  ·rintro ⟨e,st⟩ hp
   obtain ⟨lI,rfl⟩:∃y,y=o:=⟨o,rfl⟩
   obtain ⟨he,hst⟩:=hp
   obtain rfl:e= .exit 2:=he
   refine Unw.jZ<|us<|gs<|Go.block<|?_
   obtain ⟨o,hl,h⟩:=bs h
   refine gl Ph j _ (fun (Dt:Int)=>mk [(0,H 0 0),(1,iv a_1),(9,iv lI),(10,iv Dt)] [(0,Oe [Z (W 1 eI aO)])]) (fun (uB:Int) (p:Ex×St)=>p.1= .exit 4∧p.2.norm ([0,1,9,10],[0])=mk [(0,H 0 0),(1,iv a_1),(9,iv lI),(10,iv uB)] [(0,Oe [Z (W 1 eI aO)])]) hl hst ?_ ?_ ?_
   ·intro o p hp e
    exact nomatch (hp.1.symm.trans e)
   ·rintro Dt o h
    unfold mP at h
    refine gs<|gs<|?_
    obtain ⟨Rw,OL,h⟩:=bs h
    refine gd Ph j j j j (mk [(0,H 0 0),(1,iv a_1),(9,iv lI),(10,iv Dt),(59,bv Rw)] [(0,Oe [Z (W 1 eI aO)])]) ?_ ?_
    ·refine t j j (oMv j j)<|t j j (oMv j j)<|t j j (oBi j j j j)<|t j j (oMv j j)<|?_
     refine ic OL (fun hc34 OL=>?_) fun hc34 OL=>?_
     ·obtain ⟨x52,Ii,OL⟩:=bs OL
      obtain ⟨x56,Kt,OL⟩:=bs OL
      obtain ⟨x58,aey,OL⟩:=bs OL
      cases OL
      exact tT j j j j (af.2 hc34) (oMv j j)<|tT j j j j (af.2 hc34) (oMv j j)<|tT j j j j (af.2 hc34) (bK j Ii aU j j j j)<|tT j j j j (af.2 hc34) (fH (cs:=[.im 0 _]) j tF2 j j j j (aA Ii) j j)<|tT j j j j (af.2 hc34) (oMv j j)<|tT j j j j (af.2 hc34) (oMv j j)<|tT j j j j (af.2 hc34) (bK j Kt aU j j j j)<|tT j j j j (af.2 hc34) (fH (cs:=[.im 0 _]) j tF2 j j j j (aA Kt) j j)<|sS (dT Yv j j j (af.2 hc34) (oCa (xs:=[.v false [.im 0 _],.v false [.im 0 _]]) (vs:=[(false,[.im 0 _])]) (v:=.v false [.im 0 _]) (eX aey) (.inl j) j ng j (ppC j (ppC j pp0)) j j pb0 j j j)) trivial (t j j (bf j j (af.2 hc34) j)<|sD (by kernel_rfl))
     ·cases OL
      exact tF j j j j (byF af hc34) j<|tF j j j j (byF af hc34) j<|tF j j j j (byF af hc34) j<|tF j j j j (byF af hc34) j<|tF j j j j (byF af hc34) j<|tF j j j j (byF af hc34) j<|tF j j j j (byF af hc34) j<|tF j j j j (byF af hc34) j<|sS (dF j j j (byF af hc34) j) trivial (t j j (bD j j (byF af hc34) j)<|sD (by kernel_rfl))
    ·refine us<|gc h j iR (fun aas h=>?_) fun aas h=>?_
     ·refine Go.skip<|us<|Go.block<|g0 j j (q (oMv j j)<|q (oBi j j j j)<|q (ae j j)<|nl)<|Unw.blk<|Unw.nil<|?_
      cases h
      exact ⟨j,(by kernel_rfl)⟩
     ·refine Go.exit<|ux<|Unw.nil<|?_
      cases h
      exact ⟨j,(by kernel_rfl)⟩
   ·rintro ⟨e,st⟩ hp
    obtain ⟨uB,rfl⟩:∃y,y=o:=⟨o,rfl⟩
    obtain ⟨he,hst⟩:=hp
    obtain rfl:e= .exit 4:=he
    refine Unw.jZ<|us<|gs<|gs<|g2 Ph j j hst (q (oMv j j)<|q (oMv j j)<|q (oBi j j j j)<|nl)<|us<|gc h j af (fun aex h=>?_) fun aex h=>?_
    ·refine Go.exit<|ux<|Unw.ZN j<|Unw.nil<|?_
     cases h
     exact ⟨j,(by kernel_rfl)⟩
    ·refine Go.skip<|us<|gs<|?_
     obtain ⟨x71,aat,h⟩:=bs h
     obtain ⟨x75,Ut,h⟩:=bs h
     obtain ⟨x77,Vw,h⟩:=bs h
     obtain ⟨x78,Vx,h⟩:=bs h
     refine gd Ph j j j j (mk [(0,H 0 0),(1,iv a_1),(9,iv lI),(10,iv uB)] [(0,Oe [Z (W 1 eI ((aO.set lI.toNat x71).set uB.toNat x75))])]) (t j j (oMv j j)<|t j j (oMv j j)<|t j j (oMv j j)<|t j j (oMv j j)<|t j j (oMv j j)<|t j j (oMv j j)<|t j j (bK j aat aU j j j j)<|t j j (fH (cs:=[.im 0 _]) j tF2 j j j j (aA aat) j j)<|t j j (oMv j j)<|t j j (oMv j j)<|t j j (bK j Ut aU j j j j)<|t j j (fH (cs:=[.im 0 _]) j tF2 j j j j (aA Ut) j j)<|t j j (bK j Vw aU j j j j)<|sS (dN Yv j (tN (v':=x71) tF2 j j j (fxI fx0) j j (aA Vw) j)) trivial (t j j (bK j Vx aU j j j j)<|sS (dN Yv j (tN (v':=x75) tF2 j j j (fxI fx0) j j (aA Vx) j)) trivial (sD (by kernel_rfl))))<|us<|gs<|g0 j j (q (oMv j j)<|q (oBi j j j j)<|q (ae j j)<|nl)<|us<|g0 j j (q (oMv j j)<|q (oBi j j j j)<|q (ae j j)<|nl)<|Unw.blk<|Unw.nil<|?_
     cases h
     exact ⟨j,(by kernel_rfl)⟩
 ·rintro ⟨e,st⟩ hp
  obtain ⟨Hr,kU⟩:=o
  dsimp only at h
  obtain ⟨he,hst⟩:=hp
  obtain rfl:e= .exit 0:=he
  refine Unw.jZ<|us<|gs<|g2 Ph j j hst (q (oMv j j)<|q (ae j j)<|nl)<|us<|Go.ret (Unw.ret ?_)
  cases h
  exact fr af5 j
theorem yL {aj:(List Int)} {a_1:Int} {b_2:Int} {eu:Int} {r:(Int×Bool×(List Int))} (h:mF aj a_1 b_2 eu=some r):FX 178 [.ow 1 (List.map eI aj),.im 2 false [I a_1],.im 2 false [I b_2],.im 2 false [I eu]] ([(false,[.im 0 (I r.1)]),(false,[.im 0 (V r.2.1)])],[.ow 1 (List.map eI r.2.2)]):=by
 unfold mF at h
 refine jP (A:=[(0,H 0 0),(1,D 2 (I a_1)),(2,D 2 (I b_2)),(3,D 2 (I eu))]) (B:=[(0,Oe [Z (W 1 eI aj)]),(1,none),(2,none),(3,none)]) (nt:=168) rfl rfl Try.func178 rfl rfl rfl rfl ?_
 refine gs<|g0 j j (q (ae j j)<|q (ae j j)<|nl)<|us<|gs<|?_
 obtain ⟨x18,Gp,h⟩:=bs h
 obtain ⟨x22,xg,h⟩:=bs h
 obtain ⟨x24,hx24,h⟩:=bs h
 obtain ⟨x25,hx25,h⟩:=bs h
 refine gd HY j j j j (mk [(0,H 0 0),(1,iv a_1),(2,iv b_2)] [(0,Oe [Z (W 1 eI ((aj.set a_1.toNat x18).set eu.toNat x22))])]) (t j j (oMv j j)<|t j j (oMv j j)<|t j j (oMv j j)<|t j j (oMv j j)<|t j j (oMv j j)<|t j j (oMv j j)<|t j j (bK j Gp aU j j j j)<|t j j (fH (cs:=[.im 0 _]) j tF2 j j j j (aA Gp) j j)<|t j j (oMv j j)<|t j j (oMv j j)<|t j j (bK j xg aU j j j j)<|t j j (fH (cs:=[.im 0 _]) j tF2 j j j j (aA xg) j j)<|t j j (bK j hx24 aU j j j j)<|sS (dN JZ j (tN (v':=x18) tF2 j j j (fxI fx0) j j (aA hx24) j)) trivial (t j j (bK j hx25 aU j j j j)<|sS (dN JZ j (tN (v':=x22) tF2 j j j (fxI fx0) j j (aA hx25) j)) trivial (sD (by kernel_rfl))))<|us<|gs<|g0 j j (q (oMv j j)<|q (oBi j j j j)<|q (oMv j j)<|q (oBi j j j j)<|q (ae j j)<|q (ae j j)<|nl)<|us<|gs<|Go.block<|?_
 obtain ⟨o,hl,h⟩:=bs h
 refine gl HY j _ (fun (pY:Int)=>mk [(0,H 0 0),(1,iv a_1),(10,iv pY),(11,iv (w64 (b_2 - 1)))] [(0,Oe [Z (W 1 eI ((aj.set a_1.toNat x18).set eu.toNat x22))])]) (fun (fQ:Int) (p:Ex×St)=>p.1= .exit 0∧p.2.norm ([0,1,10,11],[0])=mk [(0,H 0 0),(1,iv a_1),(10,iv fQ),(11,iv (w64 (b_2 - 1)))] [(0,Oe [Z (W 1 eI ((aj.set a_1.toNat x18).set eu.toNat x22))])]) hl (by kernel_rfl) ?_ ?_ ?_
 ·intro o p hp e
  exact nomatch (hp.1.symm.trans e)
 ·rintro pY o h
  unfold qj at h
  refine gs<|gs<|?_
  obtain ⟨Fj,OO,h⟩:=bs h
  refine gd HY j j j j (mk [(0,H 0 0),(1,iv a_1),(10,iv pY),(11,iv (w64 (b_2 - 1))),(43,bv Fj)] [(0,Oe [Z (W 1 eI ((aj.set a_1.toNat x18).set eu.toNat x22))])]) ?_ ?_
  ·refine t j j (oMv j j)<|t j j (oMv j j)<|t j j (oBi j j j j)<|t j j (oMv j j)<|?_
   refine ic OO (fun DV OO=>?_) fun DV OO=>?_
   ·obtain ⟨x36,SH,OO⟩:=bs OO
    obtain ⟨x40,PE,OO⟩:=bs OO
    obtain ⟨x42,YG,OO⟩:=bs OO
    cases OO
    exact tT j j j j (af.2 DV) (oMv j j)<|tT j j j j (af.2 DV) (oMv j j)<|tT j j j j (af.2 DV) (bK j SH aU j j j j)<|tT j j j j (af.2 DV) (fH (cs:=[.im 0 _]) j tF2 j j j j (aA SH) j j)<|tT j j j j (af.2 DV) (oMv j j)<|tT j j j j (af.2 DV) (oMv j j)<|tT j j j j (af.2 DV) (bK j PE aU j j j j)<|tT j j j j (af.2 DV) (fH (cs:=[.im 0 _]) j tF2 j j j j (aA PE) j j)<|sS (dT JZ j j j (af.2 DV) (oCa (xs:=[.v false [.im 0 _],.v false [.im 0 _]]) (vs:=[(false,[.im 0 _])]) (v:=.v false [.im 0 _]) (eX YG) (.inl j) j ng j (ppC j (ppC j pp0)) j j pb0 j j j)) trivial (t j j (bf j j (af.2 DV) j)<|sD (by kernel_rfl))
   ·cases OO
    exact tF j j j j (byF af DV) j<|tF j j j j (byF af DV) j<|tF j j j j (byF af DV) j<|tF j j j j (byF af DV) j<|tF j j j j (byF af DV) j<|tF j j j j (byF af DV) j<|tF j j j j (byF af DV) j<|tF j j j j (byF af DV) j<|sS (dF j j j (byF af DV) j) trivial (t j j (bD j j (byF af DV) j)<|sD (by kernel_rfl))
  ·refine us<|gc h j iR (fun ah8 h=>?_) fun ah8 h=>?_
   ·refine Go.skip<|us<|Go.block<|g0 j j (q (oMv j j)<|q (oBi j j j j)<|q (ae j j)<|nl)<|Unw.blk<|Unw.nil<|?_
    cases h
    exact ⟨j,(by kernel_rfl)⟩
   ·refine Go.exit<|ux<|Unw.nil<|?_
    cases h
    exact ⟨j,(by kernel_rfl)⟩
 ·rintro ⟨e,st⟩ hp
  obtain ⟨fQ,rfl⟩:∃y,y=o:=⟨o,rfl⟩
  obtain ⟨he,hst⟩:=hp
  obtain rfl:e= .exit 0:=he
  refine Unw.jZ<|us<|gs<|Go.block<|?_
  obtain ⟨o,hl,h⟩:=bs h
  refine gl HY j _ (fun (Du:Int)=>mk [(0,H 0 0),(1,iv a_1),(10,iv fQ),(11,iv Du)] [(0,Oe [Z (W 1 eI ((aj.set a_1.toNat x18).set eu.toNat x22))])]) (fun (kD:Int) (p:Ex×St)=>p.1= .exit 2∧p.2.norm ([0,1,10,11],[0])=mk [(0,H 0 0),(1,iv a_1),(10,iv fQ),(11,iv kD)] [(0,Oe [Z (W 1 eI ((aj.set a_1.toNat x18).set eu.toNat x22))])]) hl hst ?_ ?_ ?_
  ·intro o p hp e
   exact nomatch (hp.1.symm.trans e)
  ·rintro Du o h
   unfold qi at h
   refine gs<|gs<|?_
   obtain ⟨Rx,OQ,h⟩:=bs h
   refine gd HY j j j j (mk [(0,H 0 0),(1,iv a_1),(10,iv fQ),(11,iv Du),(60,bv Rx)] [(0,Oe [Z (W 1 eI ((aj.set a_1.toNat x18).set eu.toNat x22))])]) ?_ ?_
   ·refine t j j (oMv j j)<|t j j (oMv j j)<|t j j (oBi j j j j)<|t j j (oMv j j)<|?_
    refine ic OQ (fun CW OQ=>?_) fun CW OQ=>?_
    ·obtain ⟨x52,Ii,OQ⟩:=bs OQ
     obtain ⟨x56,Kt,OQ⟩:=bs OQ
     obtain ⟨x58,aey,OQ⟩:=bs OQ
     cases OQ
     exact tT j j j j (af.2 CW) (oMv j j)<|tT j j j j (af.2 CW) (oMv j j)<|tT j j j j (af.2 CW) (bK j Ii aU j j j j)<|tT j j j j (af.2 CW) (fH (cs:=[.im 0 _]) j tF2 j j j j (aA Ii) j j)<|tT j j j j (af.2 CW) (oMv j j)<|tT j j j j (af.2 CW) (oMv j j)<|tT j j j j (af.2 CW) (bK j Kt aU j j j j)<|tT j j j j (af.2 CW) (fH (cs:=[.im 0 _]) j tF2 j j j j (aA Kt) j j)<|sS (dT JZ j j j (af.2 CW) (oCa (xs:=[.v false [.im 0 _],.v false [.im 0 _]]) (vs:=[(false,[.im 0 _])]) (v:=.v false [.im 0 _]) (eX aey) (.inl j) j ng j (ppC j (ppC j pp0)) j j pb0 j j j)) trivial (tT j j j j (af.2 CW) (oUn j j j)<|t j j (bf j j (af.2 CW) j)<|sD (by kernel_rfl))
    ·cases OQ
     exact tF j j j j (byF af CW) j<|tF j j j j (byF af CW) j<|tF j j j j (byF af CW) j<|tF j j j j (byF af CW) j<|tF j j j j (byF af CW) j<|tF j j j j (byF af CW) j<|tF j j j j (byF af CW) j<|tF j j j j (byF af CW) j<|sS (dF j j j (byF af CW) j) trivial (tF j j j j (byF af CW) j<|t j j (bD j j (byF af CW) j)<|sD (by kernel_rfl))
   ·refine us<|gc h j iR (fun ah9 h=>?_) fun ah9 h=>?_
    ·refine Go.skip<|us<|Go.block<|g0 j j (q (oMv j j)<|q (oBi j j j j)<|q (ae j j)<|nl)<|Unw.blk<|Unw.nil<|?_
     cases h
     exact ⟨j,(by kernel_rfl)⟩
    ·refine Go.exit<|ux<|Unw.nil<|?_
     cases h
     exact ⟨j,(by kernel_rfl)⟩
  ·rintro ⟨e,st⟩ hp
   obtain ⟨kD,rfl⟩:∃y,y=o:=⟨o,rfl⟩
   obtain ⟨he,hst⟩:=hp
   obtain rfl:e= .exit 2:=he
   refine Unw.jZ<|us<|gs<|gs<|g2 HY j j hst (q (oMv j j)<|q (oMv j j)<|q (oBi j j j j)<|nl)<|us<|gc h j af (fun hc13 h=>?_) fun hc13 h=>?_
   ·refine gs<|?_
    obtain ⟨x72,acC,h⟩:=bs h
    obtain ⟨x76,aar,h⟩:=bs h
    obtain ⟨x78,Vx,h⟩:=bs h
    obtain ⟨x79,aaw,h⟩:=bs h
    refine gd HY j j j j (mk [(11,iv kD)] [(0,Oe [Z (W 1 eI ((((aj.set a_1.toNat x18).set eu.toNat x22).set kD.toNat x72).set a_1.toNat x76))])]) (t j j (oMv j j)<|t j j (oMv j j)<|t j j (oMv j j)<|t j j (oMv j j)<|t j j (oMv j j)<|t j j (oMv j j)<|t j j (bK j acC aU j j j j)<|t j j (fH (cs:=[.im 0 _]) j tF2 j j j j (aA acC) j j)<|t j j (oMv j j)<|t j j (oMv j j)<|t j j (bK j aar aU j j j j)<|t j j (fH (cs:=[.im 0 _]) j tF2 j j j j (aA aar) j j)<|t j j (bK j Vx aU j j j j)<|sS (dN JZ j (tN (v':=x72) tF2 j j j (fxI fx0) j j (aA Vx) j)) trivial (t j j (bK j aaw aU j j j j)<|sS (dN JZ j (tN (v':=x76) tF2 j j j (fxI fx0) j j (aA aaw) j)) trivial (sD (by kernel_rfl))))<|us<|gs<|g0 j j (q (oMv j j)<|q (ae j j)<|q (ae j j)<|nl)<|us<|Go.ret (Unw.ret ?_)
    cases h
    exact fr adk j
   ·refine Go.skip<|us<|gs<|?_
    obtain ⟨x87,Uw,h⟩:=bs h
    obtain ⟨x91,hx91,h⟩:=bs h
    obtain ⟨x93,hx93,h⟩:=bs h
    obtain ⟨x94,aav,h⟩:=bs h
    refine gd HY j j j j (mk [(0,H 0 0),(1,iv a_1),(10,iv fQ),(11,iv kD)] [(0,Oe [Z (W 1 eI ((((aj.set a_1.toNat x18).set eu.toNat x22).set fQ.toNat x87).set kD.toNat x91))])]) (t j j (oMv j j)<|t j j (oMv j j)<|t j j (oMv j j)<|t j j (oMv j j)<|t j j (oMv j j)<|t j j (oMv j j)<|t j j (bK j Uw aU j j j j)<|t j j (fH (cs:=[.im 0 _]) j tF2 j j j j (aA Uw) j j)<|t j j (oMv j j)<|t j j (oMv j j)<|t j j (bK j hx91 aU j j j j)<|t j j (fH (cs:=[.im 0 _]) j tF2 j j j j (aA hx91) j j)<|t j j (bK j hx93 aU j j j j)<|sS (dN JZ j (tN (v':=x87) tF2 j j j (fxI fx0) j j (aA hx93) j)) trivial (t j j (bK j aav aU j j j j)<|sS (dN JZ j (tN (v':=x91) tF2 j j j (fxI fx0) j j (aA aav) j)) trivial (sD (by kernel_rfl))))<|us<|gs<|g0 j j (q (oMv j j)<|q (oBi j j j j)<|q (ae j j)<|nl)<|us<|gs<|g0 j j (q (oMv j j)<|q (oBi j j j j)<|q (ae j j)<|nl)<|us<|gs<|Go.block<|?_
    obtain ⟨o,hl,h⟩:=bs h
    refine gl HY j _ (fun (s:(Int×Int×(List Int)))=>match s with | (qZ,wW,dP)=>mk [(0,H 0 0),(1,iv a_1),(10,iv qZ),(11,iv wW)] [(0,Oe [Z (W 1 eI dP)])]) (fun (o:(Int×(List Int))) (p:Ex×St)=>match o with | (oV,kM)=>p.1= .exit 4∧p.2.norm ([0,1,11],[0])=mk [(0,H 0 0),(1,iv a_1),(11,iv oV)] [(0,Oe [Z (W 1 eI kM)])]) hl (by kernel_rfl) ?_ ?_ ?_
    ·intro o p hp e
     obtain ⟨oV,kM⟩:=o
     exact nomatch (hp.1.symm.trans e)
    ·rintro ⟨qZ,wW,dP⟩ o h
     unfold oh at h
     dsimp only at h
     refine Go.block<|gs<|Go.block<|?_
     obtain ⟨o,hl,h⟩:=bs h
     refine gl HY j _ (fun (qZ:Int)=>mk [(0,H 0 0),(1,iv a_1),(10,iv qZ),(11,iv wW)] [(0,Oe [Z (W 1 eI dP)])]) (fun (jf:Int) (p:Ex×St)=>p.1= .exit 6∧p.2.norm ([0,1,10,11],[0])=mk [(0,H 0 0),(1,iv a_1),(10,iv jf),(11,iv wW)] [(0,Oe [Z (W 1 eI dP)])]) hl (by kernel_rfl) ?_ ?_ ?_
     ·intro o p hp e
      exact nomatch (hp.1.symm.trans e)
     ·rintro qZ o h
      unfold pI at h
      refine gs<|gs<|?_
      obtain ⟨Ld,OT,h⟩:=bs h
      refine gd HY j j j j (mk [(0,H 0 0),(1,iv a_1),(10,iv qZ),(11,iv wW),(112,bv Ld)] [(0,Oe [Z (W 1 eI dP)])]) ?_ ?_
      ·refine t j j (oMv j j)<|t j j (oMv j j)<|t j j (oBi j j j j)<|t j j (oMv j j)<|?_
       refine ic OT (fun CX OT=>?_) fun CX OT=>?_
       ·obtain ⟨x105,adr,OT⟩:=bs OT
        obtain ⟨afd,ads,OT⟩:=bs OT
        obtain ⟨afe,agH,OT⟩:=bs OT
        cases OT
        exact tT j j j j (af.2 CX) (oMv j j)<|tT j j j j (af.2 CX) (oMv j j)<|tT j j j j (af.2 CX) (bK j adr aU j j j j)<|tT j j j j (af.2 CX) (fH (cs:=[.im 0 _]) j tF2 j j j j (aA adr) j j)<|tT j j j j (af.2 CX) (oMv j j)<|tT j j j j (af.2 CX) (oMv j j)<|tT j j j j (af.2 CX) (bK j ads aU j j j j)<|tT j j j j (af.2 CX) (fH (cs:=[.im 0 _]) j tF2 j j j j (aA ads) j j)<|sS (dT JZ j j j (af.2 CX) (oCa (xs:=[.v false [.im 0 _],.v false [.im 0 _]]) (vs:=[(false,[.im 0 _])]) (v:=.v false [.im 0 _]) (eX agH) (.inl j) j ng j (ppC j (ppC j pp0)) j j pb0 j j j)) trivial (t j j (bf j j (af.2 CX) j)<|sD (by kernel_rfl))
       ·cases OT
        exact tF j j j j (byF af CX) j<|tF j j j j (byF af CX) j<|tF j j j j (byF af CX) j<|tF j j j j (byF af CX) j<|tF j j j j (byF af CX) j<|tF j j j j (byF af CX) j<|tF j j j j (byF af CX) j<|tF j j j j (byF af CX) j<|sS (dF j j j (byF af CX) j) trivial (t j j (bD j j (byF af CX) j)<|sD (by kernel_rfl))
      ·refine us<|gc h j iR (fun aia h=>?_) fun aia h=>?_
       ·refine Go.skip<|us<|Go.block<|g0 j j (q (oMv j j)<|q (oBi j j j j)<|q (ae j j)<|nl)<|Unw.blk<|Unw.nil<|?_
        cases h
        exact ⟨j,(by kernel_rfl)⟩
       ·refine Go.exit<|ux<|Unw.nil<|?_
        cases h
        exact ⟨j,(by kernel_rfl)⟩
     ·rintro ⟨e,st⟩ hp
      obtain ⟨jf,rfl⟩:∃y,y=o:=⟨o,rfl⟩
      obtain ⟨he,hst⟩:=hp
      obtain rfl:e= .exit 6:=he
      refine Unw.jZ<|us<|gs<|Go.block<|?_
      obtain ⟨o,hl,h⟩:=bs h
      refine gl HY j _ (fun (zQ:Int)=>mk [(0,H 0 0),(1,iv a_1),(10,iv jf),(11,iv zQ)] [(0,Oe [Z (W 1 eI dP)])]) (fun (oU:Int) (p:Ex×St)=>p.1= .exit 8∧p.2.norm ([0,1,10,11],[0])=mk [(0,H 0 0),(1,iv a_1),(10,iv jf),(11,iv oU)] [(0,Oe [Z (W 1 eI dP)])]) hl hst ?_ ?_ ?_
      ·intro o p hp e
       exact nomatch (hp.1.symm.trans e)
      ·rintro zQ o h
       unfold pG at h
       refine gs<|gs<|?_
       obtain ⟨Lc,OU,h⟩:=bs h
       refine gd HY j j j j (mk [(0,H 0 0),(1,iv a_1),(10,iv jf),(11,iv zQ),(129,bv Lc)] [(0,Oe [Z (W 1 eI dP)])]) ?_ ?_
       ·refine t j j (oMv j j)<|t j j (oMv j j)<|t j j (oBi j j j j)<|t j j (oMv j j)<|?_
        refine ic OU (fun hc47 OU=>?_) fun hc47 OU=>?_
        ·obtain ⟨Md,OE,OU⟩:=bs OU
         obtain ⟨KZ,L8,OU⟩:=bs OU
         obtain ⟨abu,XF,OU⟩:=bs OU
         cases OU
         exact tT j j j j (af.2 hc47) (oMv j j)<|tT j j j j (af.2 hc47) (oMv j j)<|tT j j j j (af.2 hc47) (bK j OE aU j j j j)<|tT j j j j (af.2 hc47) (fH (cs:=[.im 0 _]) j tF2 j j j j (aA OE) j j)<|tT j j j j (af.2 hc47) (oMv j j)<|tT j j j j (af.2 hc47) (oMv j j)<|tT j j j j (af.2 hc47) (bK j L8 aU j j j j)<|tT j j j j (af.2 hc47) (fH (cs:=[.im 0 _]) j tF2 j j j j (aA L8) j j)<|sS (dT JZ j j j (af.2 hc47) (oCa (xs:=[.v false [.im 0 _],.v false [.im 0 _]]) (vs:=[(false,[.im 0 _])]) (v:=.v false [.im 0 _]) (eX XF) (.inl j) j ng j (ppC j (ppC j pp0)) j j pb0 j j j)) trivial (tT j j j j (af.2 hc47) (oUn j j j)<|t j j (bf j j (af.2 hc47) j)<|sD (by kernel_rfl))
        ·cases OU
         exact tF j j j j (byF af hc47) j<|tF j j j j (byF af hc47) j<|tF j j j j (byF af hc47) j<|tF j j j j (byF af hc47) j<|tF j j j j (byF af hc47) j<|tF j j j j (byF af hc47) j<|tF j j j j (byF af hc47) j<|tF j j j j (byF af hc47) j<|sS (dF j j j (byF af hc47) j) trivial (tF j j j j (byF af hc47) j<|t j j (bD j j (byF af hc47) j)<|sD (by kernel_rfl))
       ·refine us<|gc h j iR (fun aez h=>?_) fun aez h=>?_
        ·refine Go.skip<|us<|Go.block<|g0 j j (q (oMv j j)<|q (oBi j j j j)<|q (ae j j)<|nl)<|Unw.blk<|Unw.nil<|?_
         cases h
         exact ⟨j,(by kernel_rfl)⟩
        ·refine Go.exit<|ux<|Unw.nil<|?_
         cases h
         exact ⟨j,(by kernel_rfl)⟩
      ·rintro ⟨e,st⟩ hp
       obtain ⟨oU,rfl⟩:∃y,y=o:=⟨o,rfl⟩
       obtain ⟨he,hst⟩:=hp
       obtain rfl:e= .exit 8:=he
       refine Unw.jZ<|us<|gs<|gs<|g2 HY j j hst (q (oMv j j)<|q (oMv j j)<|q (oBi j j j j)<|nl)<|us<|gc h j af (fun aib h=>?_) fun aib h=>?_
       ·refine Go.exit<|ux<|Unw.ZN j<|Unw.nil<|?_
        cases h
        exact ⟨j,(by kernel_rfl)⟩
       ·refine Go.skip<|us<|gs<|?_
        obtain ⟨Ug,Ux,h⟩:=bs h
        obtain ⟨abx,adt,h⟩:=bs h
        obtain ⟨ahq,adu,h⟩:=bs h
        obtain ⟨ahr,adv,h⟩:=bs h
        refine gd HY j j j j (mk [(0,H 0 0),(1,iv a_1),(10,iv jf),(11,iv oU)] [(0,Oe [Z (W 1 eI ((dP.set jf.toNat Ug).set oU.toNat abx))])]) (t j j (oMv j j)<|t j j (oMv j j)<|t j j (oMv j j)<|t j j (oMv j j)<|t j j (oMv j j)<|t j j (oMv j j)<|t j j (bK j Ux aU j j j j)<|t j j (fH (cs:=[.im 0 _]) j tF2 j j j j (aA Ux) j j)<|t j j (oMv j j)<|t j j (oMv j j)<|t j j (bK j adt aU j j j j)<|t j j (fH (cs:=[.im 0 _]) j tF2 j j j j (aA adt) j j)<|t j j (bK j adu aU j j j j)<|sS (dN JZ j (tN (v':=Ug) tF2 j j j (fxI fx0) j j (aA adu) j)) trivial (t j j (bK j adv aU j j j j)<|sS (dN JZ j (tN (v':=abx) tF2 j j j (fxI fx0) j j (aA adv) j)) trivial (sD (by kernel_rfl))))<|us<|gs<|g0 j j (q (oMv j j)<|q (oBi j j j j)<|q (ae j j)<|nl)<|us<|g0 j j (q (oMv j j)<|q (oBi j j j j)<|q (ae j j)<|nl)<|Unw.blk<|Unw.nil<|?_
        cases h
        exact ⟨j,(by kernel_rfl)⟩
    ·rintro ⟨e,st⟩ hp
     obtain ⟨oV,kM⟩:=o
     dsimp only at h
     obtain ⟨he,hst⟩:=hp
     obtain rfl:e= .exit 4:=he
     refine Unw.jZ<|us<|gs<|?_
     obtain ⟨x159,hx159,h⟩:=bs h
     obtain ⟨U7,Uu,h⟩:=bs h
     obtain ⟨ahs,adw,h⟩:=bs h
     obtain ⟨aht,adx,h⟩:=bs h
     refine gd HY j j j hst (mk [(11,iv oV)] [(0,Oe [Z (W 1 eI ((kM.set oV.toNat x159).set a_1.toNat U7))])]) (t j j (oMv j j)<|t j j (oMv j j)<|t j j (oMv j j)<|t j j (oMv j j)<|t j j (oMv j j)<|t j j (oMv j j)<|t j j (bK j hx159 aU j j j j)<|t j j (fH (cs:=[.im 0 _]) j tF2 j j j j (aA hx159) j j)<|t j j (oMv j j)<|t j j (oMv j j)<|t j j (bK j Uu aU j j j j)<|t j j (fH (cs:=[.im 0 _]) j tF2 j j j j (aA Uu) j j)<|t j j (bK j adw aU j j j j)<|sS (dN JZ j (tN (v':=x159) tF2 j j j (fxI fx0) j j (aA adw) j)) trivial (t j j (bK j adx aU j j j j)<|sS (dN JZ j (tN (v':=U7) tF2 j j j (fxI fx0) j j (aA adx) j)) trivial (sD (by kernel_rfl))))<|us<|gs<|g0 j j (q (oMv j j)<|q (ae j j)<|q (ae j j)<|nl)<|us<|Go.ret (Unw.ret ?_)
     cases h
     exact fr adk j
theorem EO {JY:Int} {r:Int} (h:uQ JY=some r):FX 201 [.im 2 false [I JY]] (B0 [(false,[.im 0 (.sc (.int .u64 r))])]):=by
 unfold uQ at h
 refine gn 7 Try.func201 rfl ?_
 refine gs<|g0 j j (q (ae j j)<|nl)<|us<|gs<|?_
 obtain ⟨x5,hx5,h⟩:=bs h
 obtain ⟨x6,hx6,h⟩:=bs h
 refine g0 j j (q (oMv j j)<|q (Gl j uF3 Ib j)<|q (oCa (xs:=[.v false [.im 0 _]]) (vs:=[(false,[.im 0 _])]) (v:=.v false [.im 0 _]) (OG hx5) (.inl j) j Qv j (ppC j pp0) j j pb0 j j j)<|q (ad5 j hx6 j j)<|q (ae j j)<|nl)<|us<|Go.ret (Unw.ret ?_)
 cases h
 exact fr agf j
theorem FP {r_0:Int} {r:(Int×Int)} (h:vI r_0=some r):FX 202 [.ptr false [(.imm,.sc (.int .u64 r_0))]] ([(false,[.im 0 (.sc (.int .u64 r.1))])],[.ptr false [(.imm,.sc (.int .u64 r.2))]]):=by
 unfold vI at h
 refine jP (A:=[(0,M 0)]) (B:=[(0,some ⟨0,0,true,true,false,false,[C (.sc (.int .u64 r_0))]⟩)]) (nt:=33) rfl rfl Try.func202 rfl rfl rfl rfl ?_
 refine gs<|g0 j j (q (ae j j)<|nl)<|us<|gs<|?_
 obtain ⟨x9,hx9,h⟩:=bs h
 refine gd ace j j j j (mk [(0,M 0)] [(0,some ⟨0,0,true,true,false,false,[C (.sc (.int .u64 (sJ .u64 r_0 x9)))]⟩)]) (t j j (oMv j j)<|t j j (oNl j j j)<|t j j (oLd (cs:=[.im 0 _]) j F9 j j)<|t j j (oMv j j)<|t j j (oNl j j j)<|t j j (oLd (cs:=[.im 0 _]) j F9 j j)<|t j j (ad5 j hx9 j j)<|t j j (oBi j j j j)<|t j j (oNl j j j)<|sS (dN ael j (oSt F9 j j j (tkI tk0) j j j)) trivial (sD (by kernel_rfl)))<|us<|gs<|?_
 obtain ⟨x18,Gp,h⟩:=bs h
 refine gd ace j j j j (mk [(0,M 0)] [(0,some ⟨0,0,true,true,false,false,[C (.sc (.int .u64 (sJ .u64 (sJ .u64 r_0 x9) x18)))]⟩)]) (t j j (oMv j j)<|t j j (oNl j j j)<|t j j (oLd (cs:=[.im 0 _]) j F9 j j)<|t j j (oMv j j)<|t j j (oNl j j j)<|t j j (oLd (cs:=[.im 0 _]) j F9 j j)<|t j j (Q7 j Gp j j)<|t j j (oBi j j j j)<|t j j (oNl j j j)<|sS (dN ael j (oSt F9 j j j (tkI tk0) j j j)) trivial (sD (by kernel_rfl)))<|us<|gs<|?_
 obtain ⟨x27,hx27,h⟩:=bs h
 refine gd ace j j j j (mk [(0,M 0)] [(0,some ⟨0,0,true,true,false,false,[C (.sc (.int .u64 (sJ .u64 (sJ .u64 (sJ .u64 r_0 x9) x18) x27)))]⟩)]) (t j j (oMv j j)<|t j j (oNl j j j)<|t j j (oLd (cs:=[.im 0 _]) j F9 j j)<|t j j (oMv j j)<|t j j (oNl j j j)<|t j j (oLd (cs:=[.im 0 _]) j F9 j j)<|t j j (ad5 j hx27 j j)<|t j j (oBi j j j j)<|t j j (oNl j j j)<|sS (dN ael j (oSt F9 j j j (tkI tk0) j j j)) trivial (sD (by kernel_rfl)))<|us<|gs<|g0 j j (q (oMv j j)<|q (oNl j j j)<|q (oLd (cs:=[.im 0 _]) j F9 j j)<|q (ae j j)<|nl)<|us<|Go.ret (Unw.ret ?_)
 cases h
 exact fr agh j
theorem xm {aj:(List Int)} {a_1:Int} {b_2:Int} {r:(List Int)} (h:kH aj a_1 b_2=some r):FX 172 [.ow 1 (List.map eI aj),.im 2 false [I a_1],.im 2 false [I b_2]] ([],[.ow 1 (List.map eI r)]):=by
 unfold kH at h
 refine jP (A:=[(0,H 0 0),(1,D 2 (I a_1)),(2,D 2 (I b_2))]) (B:=[(0,Oe [Z (W 1 eI aj)]),(1,none),(2,none)]) (nt:=65) rfl rfl Try.func172 rfl rfl rfl rfl ?_
 refine gs<|g0 j j (q (oMv j j)<|q (oMv j j)<|q (oBi j j j j)<|q (ae j j)<|nl)<|us<|gs<|g0 j j (q (oMv j j)<|q (oBi j j j j)<|nl)<|us<|gc h j af (fun hc1 h=>?_) fun hc1 h=>?_
 ·refine gs<|g0 j j (q (oMv j j)<|q (Gl j uF3 agy j)<|q (oAl j F9 (tkI tk0))<|q (oSt F9 j j j (tkI tk0) j j j)<|nl)<|us<|gs<|?_
  obtain ⟨x19,Dc,h⟩:=bs h
  refine g1 j j (mk [(0,H 0 0),(1,iv a_1),(6,iv (w64 (b_2 - a_1))),(7,M 7)] [(0,Oe [Z (W 1 eI aj)]),(7,Ob [C (.sc (.int .u64 (IntKind.wrap .u64 ((w64 (b_2 - a_1))))))])]) (q (oMv j j)<|q (oCa (xs:=[.v false [.im 0 _]]) (vs:=[(false,[.im 0 _])]) (v:=.v false [.im 0 _]) (EO Dc) (.inl j) j acj j (ppC j pp0) j j pb0 j j j)<|q (ae j j)<|nl)<|us<|gs<|?_
  obtain ⟨x22,xg,h⟩:=bs h
  refine g0 j j (q (oMv j j)<|q (oMv j j)<|q (Q5 j xg j j)<|q (oBi j j j j)<|q (oBi j j j j)<|q (oBi j j j j)<|q (ae j j)<|nl)<|us<|Go.block<|?_
  obtain ⟨o,hl,h⟩:=bs h
  refine gl aei j _ (fun (s:(Int×(List Int)×Int))=>match s with | (mG,jA,AX)=>mk [(0,H 0 0),(1,iv a_1),(6,iv (w64 (b_2 - a_1))),(7,M 7),(8,D 0 (.sc (.int .u64 x19))),(9,iv mG)] [(0,Oe [Z (W 1 eI jA)]),(7,Ob [C (.sc (.int .u64 AX))])]) (fun (r2:(List Int)) (p:Ex×St)=>p.1= .exit 0∧fin Try.prog cfg 172 Try.f172 [.ow 1 (List.map eI aj),.im 2 false [I a_1],.im 2 false [I b_2]] p.2=some ([],[.ow 1 (List.map eI r2)])) hl (by kernel_rfl) ?_ ?_ ?_
  ·intro o p hp e
   exact nomatch (hp.1.symm.trans e)
  ·rintro ⟨mG,jA,AX⟩ o h
   unfold nJ at h
   dsimp only at h
   refine gs<|gs<|?_
   obtain ⟨x29,hx29,h⟩:=bs h
   refine g0 j j (q (oMv j j)<|q (oMv j j)<|q (oMv j j)<|q (Q5 j hx29 j j)<|q (oBi j j j j)<|q (oBi j j j j)<|q (oBi j j j j)<|q (oBi j j j j)<|nl)<|us<|gc h j af (fun hc6 h=>?_) fun hc6 h=>?_
   ·refine Go.skip<|us<|gs<|Go.block<|gs<|?_
    obtain ⟨x36,SH,h⟩:=bs h
    refine g0 j j (q (oCa (xs:=[.v false [.mp 7 0 0]]) (vs:=[(false,[.im 0 _])]) (v:=.v false [.im 0 _]) (FP SH) (.inl j) j YD j (ppP j j j pp0) j j (pbP j j pb0) j j j)<|q (oMv j j)<|q (oBi j j j j)<|q (oBi j j j j)<|q (Gl j Ib uF3 j)<|q (ae j j)<|nl)<|us<|gs<|gs<|g1 j j (mk [(0,H 0 0),(1,iv a_1),(6,iv (w64 (b_2 - a_1))),(7,M 7),(8,D 0 (.sc (.int .u64 x19))),(9,iv mG),(10,iv (w64 ((zq .u64 x36.1 (IntKind.wrap .u64 (x19 - 1))))))] [(0,Oe [Z (W 1 eI jA)]),(7,Ob [C (.sc (.int .u64 x36.2))])]) (q (oMv j j)<|q (oMv j j)<|q (oBi j j j j)<|nl)<|us<|Go.join (fun st=>∃ql,gI a_1 jA mG x36 ql=some o∧st.norm ([0,1,6,7,8,9,10],[0,7])=mk [(0,H 0 0),(1,iv a_1),(6,iv (w64 (b_2 - a_1))),(7,M 7),(8,D 0 (.sc (.int .u64 x19))),(9,iv mG),(10,iv ql)] [(0,Oe [Z (W 1 eI jA)]),(7,Ob [C (.sc (.int .u64 x36.2))])]) ?_ ?_
    ·rintro st ⟨ql,h,hst⟩
     unfold gI at h
     refine us<|?_
     obtain ⟨x57,SI,h⟩:=bs h
     obtain ⟨x61,agI,h⟩:=bs h
     obtain ⟨x63,agJ,h⟩:=bs h
     obtain ⟨x64,acD,h⟩:=bs h
     refine gd aei j j j hst (mk [(0,H 0 0),(1,iv a_1),(6,iv (w64 (b_2 - a_1))),(7,M 7),(8,D 0 (.sc (.int .u64 x19))),(9,iv mG)] [(0,Oe [Z (W 1 eI ((jA.set mG.toNat x57).set ((w64 (a_1+ql)).toNat) x61))]),(7,Ob [C (.sc (.int .u64 x36.2))])]) (t j j (oMv j j)<|t j j (oMv j j)<|t j j (oMv j j)<|t j j (oMv j j)<|t j j (oMv j j)<|t j j (oBi j j j j)<|t j j (oMv j j)<|t j j (oMv j j)<|t j j (oMv j j)<|t j j (oBi j j j j)<|t j j (bK j SI aU j j j j)<|t j j (fH (cs:=[.im 0 _]) j tF2 j j j j (aA SI) j j)<|t j j (oMv j j)<|t j j (oMv j j)<|t j j (bK j agI aU j j j j)<|t j j (fH (cs:=[.im 0 _]) j tF2 j j j j (aA agI) j j)<|t j j (bK j agJ aU j j j j)<|sS (dN afu j (tN (v':=x57) tF2 j j j (fxI fx0) j j (aA agJ) j)) trivial (t j j (bK j acD aU j j j j)<|sS (dN afu j (tN (v':=x61) tF2 j j j (fxI fx0) j j (aA acD) j)) trivial (sD (by kernel_rfl))))<|Unw.blk<|us<|g0 j j (q (oMv j j)<|q (oBi j j j j)<|q (ae j j)<|nl)<|Unw.nil<|?_
     cases h
     exact ⟨j,(by kernel_rfl)⟩
    ·intro K8
     refine gc h j af (fun hc9 h=>?_) fun hc9 h=>?_
     ·exact g0 j j (q (oMv j j)<|q (oMv j j)<|q (oBi j j j j)<|q (ae j j)<|nl)<|K8 _ ⟨(w64 ((w64 ((zq .u64 x36.1 (IntKind.wrap .u64 (x19 - 1))))) - (w64 (b_2 - a_1)))),h,(by kernel_rfl)⟩
     ·exact Go.skip<|K8 _ ⟨(w64 ((zq .u64 x36.1 (IntKind.wrap .u64 (x19 - 1))))),h,(by kernel_rfl)⟩
   ·refine Go.exit<|ux<|Unw.nil<|?_
    cases h
    exact ⟨j,(fo adi j)⟩
  ·rintro ⟨e,st⟩ hp
   obtain ⟨r2,rfl⟩:∃y,y=o:=⟨o,rfl⟩
   obtain ⟨he,hfin⟩:=hp
   obtain rfl:e= .exit 0:=he
   cases h
   exact Unw.jZ<|Unw.nil (uU hfin)
 ·refine Go.skip<|Unw.nil<|?_
  cases h
  exact uU (fo adi j)
theorem yM {self:((List Int)×Int×Int×Int)→Option (List Int)} (ih:∀{aj:(List Int)} {a_1:Int} {b_2:Int} {qo:Int} {r:(List Int)},self (aj,a_1,b_2,qo)=some r→FX 126 [.ow 1 (List.map eI aj),.im 2 false [I a_1],.im 2 false [I b_2],.im 2 false [I qo]] ([],[.ow 1 (List.map eI r)])) {aj:(List Int)} {a_1:Int} {b_2:Int} {qo:Int} {r:(List Int)} (h:dY self aj a_1 b_2 qo=some r):FX 126 [.ow 1 (List.map eI aj),.im 2 false [I a_1],.im 2 false [I b_2],.im 2 false [I qo]] ([],[.ow 1 (List.map eI r)]):=by
 unfold dY at h
 refine jP (A:=[(0,H 0 0),(1,D 2 (I a_1)),(2,D 2 (I b_2)),(3,D 2 (I qo))]) (B:=[(0,Oe [Z (W 1 eI aj)]),(1,none),(2,none),(3,none)]) (nt:=134) rfl rfl Try.func126 rfl rfl rfl rfl ?_
 refine gs<|g0 j j (q (ae j j)<|nl)<|us<|gs<|g0 j j (q (ae j j)<|nl)<|us<|Go.block<|?_
 obtain ⟨o,hl,h⟩:=bs h
 refine gl Z5 j _ (fun (s:(Int×Int×Int×Bool×Bool×(List Int)))=>match s with | (cZ,dh,sW,aC,az,bV)=>mk [(0,H 0 0),(1,iv cZ),(2,iv dh),(3,iv sW),(8,bv aC),(9,bv az)] [(0,Oe [Z (W 1 eI bV)])]) (fun (r2:(List Int)) (p:Ex×St)=>p.1= .ret∧fin Try.prog cfg 126 Try.f126 [.ow 1 (List.map eI aj),.im 2 false [I a_1],.im 2 false [I b_2],.im 2 false [I qo]] p.2=some ([],[.ow 1 (List.map eI r2)])) hl (by kernel_rfl) ?_ ?_ ?_
 ·intro o p hp e
  exact nomatch (hp.1.symm.trans e)
 ·rintro ⟨cZ,dh,sW,aC,az,bV⟩ o h
  unfold jr at h
  dsimp only at h
  refine Go.block<|gs<|g0 j j (q (oMv j j)<|q (oMv j j)<|q (oBi j j j j)<|q (ae j j)<|nl)<|us<|gs<|gs<|g0 j j (q (oMv j j)<|q (oBi j j j j)<|nl)<|us<|gc h j af (fun hc34 h=>?_) fun hc34 h=>?_
  ·refine gs<|?_
   obtain ⟨x27,hx27,h⟩:=bs h
   refine g0 j j (q (oMv j j)<|q (oMv j j)<|q (oMv j j)<|q (oCa (xs:=[.v false [.own 0 0 0],.v false [.im 0 _],.v false [.im 0 _]]) (vs:=[]) (v:=.tup []) (xk hx27) (.inl j) j RZ j (ppC j (ppC j (ppC j pp0))) j j (pbO j j j j pb0) j j j)<|nl)<|us<|Go.ret (Unw.ret ?_)
   cases h
   exact ⟨j,(fo aaj j)⟩
  ·refine Go.skip<|us<|gs<|gs<|g0 j j (q (oMv j j)<|q (oBi j j j j)<|nl)<|us<|gc h j iEq (fun aas h=>?_) fun aas h=>?_
   ·refine gs<|?_
    obtain ⟨x33,FK,h⟩:=bs h
    refine g0 j j (q (oMv j j)<|q (oMv j j)<|q (oMv j j)<|q (oCa (xs:=[.v false [.own 0 0 0],.v false [.im 0 _],.v false [.im 0 _]]) (vs:=[]) (v:=.tup []) (zi FK) (.inl j) j Si j (ppC j (ppC j (ppC j pp0))) j j (pbO j j j j pb0) j j j)<|nl)<|us<|Go.ret (Unw.ret ?_)
    cases h
    exact ⟨j,(fo aaj j)⟩
   ·refine Go.skip<|us<|gs<|gs<|g0 j j (q (oMv j j)<|q (oUn j j j)<|nl)<|us<|Go.join (fun st=>∃bF,∃rU,fE self cZ dh aC az bF rU=some o∧st.norm ([0,1,2,3,8,9,10],[0])=mk [(0,H 0 0),(1,iv cZ),(2,iv dh),(3,iv bF),(8,bv aC),(9,bv az),(10,iv (w64 (dh - cZ)))] [(0,Oe [Z (W 1 eI rU)])]) ?_ ?_
    ·rintro st ⟨bF,rU,h,hst⟩
     unfold fE at h
     refine us<|gs<|?_
     obtain ⟨x46,Vt,h⟩:=bs h
     refine g2 Z5 j j hst (q (oMv j j)<|q (oMv j j)<|q (oMv j j)<|q (oCa (xs:=[.v false [.own 0 0 0],.v false [.im 0 _],.v false [.im 0 _]]) (vs:=[(false,[.im 0 _]),(false,[.im 0 _])]) (v:=.tup [(false,[.im 0 _]),(false,[.im 0 _])]) (xY Vt) (.inl j) j Sl j (ppC j (ppC j (ppC j pp0))) j j pb0 j j j)<|q (Gj j j)<|q (oEx j j j)<|q (oEx j j j)<|q (ae j j)<|q (ae j j)<|nl)<|us<|gs<|gs<|g0 j j (q (oMv j j)<|q (oBi j j j j)<|nl)<|us<|Go.join (fun st=>∃eP,∃vJ,∃jK,fD self cZ dh bF aC az eP vJ jK=some o∧st.norm ([0,1,2,3,8,9,10,11,12],[0])=mk [(0,H 0 0),(1,iv cZ),(2,iv dh),(3,iv bF),(8,bv aC),(9,bv az),(10,iv (w64 (dh - cZ))),(11,iv eP),(12,iv vJ)] [(0,Oe [Z (W 1 eI jK)])]) ?_ ?_
     ·rintro st ⟨eP,vJ,jK,h,hst⟩
      unfold fD at h
      refine us<|gs<|gs<|gX Z5 j j hst (mk [(0,H 0 0),(1,iv cZ),(2,iv dh),(3,iv bF),(8,bv aC),(9,bv az),(10,iv (w64 (dh - cZ))),(11,iv eP),(68,bv (aC&&(az&&(vJ==1))))] [(0,Oe [Z (W 1 eI jK)])]) ?_ ?_
      ·refine xq (oMv j j)<|xq (oMv j j)<|?_
       by_cases hc38:aC=true
       ·refine xqT j j (iR.2 hc38) (oMv j j)<|xq (bf j j (iR.2 hc38) j)<|xq (oMv j j)<|?_
        by_cases hc39:az=true
        ·exact xqT rfl rfl (iR.2 hc39) (oMv rfl rfl)<|xqT rfl rfl (iR.2 hc39) (oBi rfl rfl rfl rfl)<|xq (bf rfl rfl (iR.2 hc39) rfl)<|xn (Eq.trans (b:=(fun vS:Bool=>mk [(0,H 0 0),(1,iv cZ),(2,iv dh),(3,iv bF),(8,bv aC),(9,bv az),(10,iv (w64 (dh - cZ))),(11,iv eP),(68,bv vS)] [(0,Oe [Z (W 1 eI jK)])]) (vJ==1)) (by kernel_rfl) (congrArg (fun vS:Bool=>mk [(0,H 0 0),(1,iv cZ),(2,iv dh),(3,iv bF),(8,bv aC),(9,bv az),(10,iv (w64 (dh - cZ))),(11,iv eP),(68,bv vS)] [(0,Oe [Z (W 1 eI jK)])]) (by first | rfl | (simp [(iR.2 hc38),(iR.2 hc39)];done) | (simp [(iR.2 hc38),(iR.2 hc39)];omega) | (have q0:=(iR.2 hc38);have q1:=(iR.2 hc39);simp_all))))
        ·exact ah rfl rfl (byF iR hc39) rfl<|ah rfl rfl (byF iR hc39) rfl<|xq (bD rfl rfl (byF iR hc39) rfl)<|xn (Eq.trans (b:=(fun vS:Bool=>mk [(0,H 0 0),(1,iv cZ),(2,iv dh),(3,iv bF),(8,bv aC),(9,bv az),(10,iv (w64 (dh - cZ))),(11,iv eP),(68,bv vS)] [(0,Oe [Z (W 1 eI jK)])]) false) (by kernel_rfl) (congrArg (fun vS:Bool=>mk [(0,H 0 0),(1,iv cZ),(2,iv dh),(3,iv bF),(8,bv aC),(9,bv az),(10,iv (w64 (dh - cZ))),(11,iv eP),(68,bv vS)] [(0,Oe [Z (W 1 eI jK)])]) (by first | rfl | (simp [(iR.2 hc38),(byF iR hc39)];done) | (simp [(iR.2 hc38),(byF iR hc39)];omega) | (have q0:=(iR.2 hc38);have q1:=(byF iR hc39);simp_all))))
       ·exact ah rfl rfl (byF iR hc38) rfl<|xq (bD rfl rfl (byF iR hc38) rfl)<|xq (oMv rfl rfl)<|ah rfl rfl rfl rfl<|ah rfl rfl rfl rfl<|xq (bD rfl rfl rfl rfl)<|xn (Eq.trans (b:=(fun vS:Bool=>mk [(0,H 0 0),(1,iv cZ),(2,iv dh),(3,iv bF),(8,bv aC),(9,bv az),(10,iv (w64 (dh - cZ))),(11,iv eP),(68,bv vS)] [(0,Oe [Z (W 1 eI jK)])]) false) (by kernel_rfl) (congrArg (fun vS:Bool=>mk [(0,H 0 0),(1,iv cZ),(2,iv dh),(3,iv bF),(8,bv aC),(9,bv az),(10,iv (w64 (dh - cZ))),(11,iv eP),(68,bv vS)] [(0,Oe [Z (W 1 eI jK)])]) (by first | rfl | (simp [(byF iR hc38)];done) | (simp [(byF iR hc38)];omega))))
      ·refine us<|Go.join (fun st=>∃qm,fC self cZ dh bF eP aC az qm=some o∧st.norm ([0,1,2,3,8,9,10,11],[0])=mk [(0,H 0 0),(1,iv cZ),(2,iv dh),(3,iv bF),(8,bv aC),(9,bv az),(10,iv (w64 (dh - cZ))),(11,iv eP)] [(0,Oe [Z (W 1 eI qm)])]) ?_ ?_
       ·rintro st ⟨qm,h,hst⟩
        unfold fC at h
        refine us<|gs<|gs<|?_
        obtain ⟨Oq,OV,h⟩:=bs h
        refine gd Z5 j j j hst (mk [(0,H 0 0),(1,iv cZ),(2,iv dh),(3,iv bF),(8,bv aC),(9,bv az),(10,iv (w64 (dh - cZ))),(11,iv eP),(87,bv Oq)] [(0,Oe [Z (W 1 eI qm)])]) ?_ ?_
        ·refine t j j (oMv j j)<|t j j (oBi j j j j)<|t j j (oMv j j)<|?_
         refine ic OV (fun Au OV=>?_) fun Au OV=>?_
         ·obtain ⟨x79,aaw,OV⟩:=bs OV
          obtain ⟨x83,agK,OV⟩:=bs OV
          obtain ⟨x85,aic,OV⟩:=bs OV
          cases OV
          exact tT j j j j (af.2 Au) (oMv j j)<|tT j j j j (af.2 Au) (oMv j j)<|tT j j j j (af.2 Au) (oBi j j j j)<|tT j j j j (af.2 Au) (bK j aaw aU j j j j)<|tT j j j j (af.2 Au) (fH (cs:=[.im 0 _]) j tF2 j j j j (aA aaw) j j)<|tT j j j j (af.2 Au) (oMv j j)<|tT j j j j (af.2 Au) (oMv j j)<|tT j j j j (af.2 Au) (bK j agK aU j j j j)<|tT j j j j (af.2 Au) (fH (cs:=[.im 0 _]) j tF2 j j j j (aA agK) j j)<|sS (dT ahv j j j (af.2 Au) (oCa (xs:=[.v false [.im 0 _],.v false [.im 0 _]]) (vs:=[(false,[.im 0 _])]) (v:=.v false [.im 0 _]) (eX aic) (.inl j) j ng j (ppC j (ppC j pp0)) j j pb0 j j j)) trivial (tT j j j j (af.2 Au) (oUn j j j)<|t j j (bf j j (af.2 Au) j)<|sD (by kernel_rfl))
         ·cases OV
          exact tF j j j j (byF af Au) j<|tF j j j j (byF af Au) j<|tF j j j j (byF af Au) j<|tF j j j j (byF af Au) j<|tF j j j j (byF af Au) j<|tF j j j j (byF af Au) j<|tF j j j j (byF af Au) j<|tF j j j j (byF af Au) j<|tF j j j j (byF af Au) j<|sS (dF j j j (byF af Au) j) trivial (tF j j j j (byF af Au) j<|t j j (bD j j (byF af Au) j)<|sD (by kernel_rfl))
        ·refine us<|gc h j iR (fun aid h=>?_) fun aid h=>?_
         ·refine gs<|?_
          obtain ⟨x92,acE,h⟩:=bs h
          refine g0 j j (q (oMv j j)<|q (oMv j j)<|q (oMv j j)<|q (oMv j j)<|q (oCa (xs:=[.v false [.own 0 0 0],.v false [.im 0 _],.v false [.im 0 _],.v false [.im 0 _]]) (vs:=[(false,[.im 0 _])]) (v:=.v false [.im 0 _]) (wM acE) (.inl j) j Ou j (ppC j (ppC j (ppC j (ppC j pp0)))) j j (pbO j j j j pb0) j j j)<|q (ae j j)<|nl)<|us<|gs<|g1 j j (mk [(0,H 0 0),(2,iv dh),(3,iv bF),(8,bv aC),(9,bv az),(13,iv x92.1)] [(0,Oe [Z (W 1 eI x92.2)])]) (q (oMv j j)<|q (ae j j)<|nl)<|us<|Go.exit<|ux<|Unw.jZ<|Unw.nil<|?_
          cases h
          exact ⟨j,(by kernel_rfl)⟩
         ·refine Go.skip<|us<|gs<|?_
          obtain ⟨x99,hx99,h⟩:=bs h
          refine g0 j j (q (oMv j j)<|q (oMv j j)<|q (oMv j j)<|q (oMv j j)<|q (oCa (xs:=[.v false [.own 0 0 0],.v false [.im 0 _],.v false [.im 0 _],.v false [.im 0 _]]) (vs:=[(false,[.im 0 _]),(false,[.im 0 _])]) (v:=.tup [(false,[.im 0 _]),(false,[.im 0 _])]) (yL hx99) (.inl j) j Ov j (ppC j (ppC j (ppC j (ppC j pp0)))) j j (pbO j j j j pb0) j j j)<|q (Gj j j)<|q (oEx j j j)<|q (oEx j j j)<|q (ae j j)<|q (ae j j)<|nl)<|us<|gs<|g1 j j (mk [(0,H 0 0),(1,iv cZ),(2,iv dh),(3,iv bF),(10,iv (w64 (dh - cZ))),(14,iv x99.1),(15,bv x99.2.1)] [(0,Oe [Z (W 1 eI x99.2.2)])]) (q (oMv j j)<|q (ae j j)<|nl)<|us<|gs<|g0 j j (q (oMv j j)<|q (oMv j j)<|q (oBi j j j j)<|q (oMv j j)<|q (oMv j j)<|q (oBi j j j j)<|q (ae j j)<|q (ae j j)<|nl)<|us<|gs<|?_
          obtain ⟨ZY,agL,h⟩:=bs h
          refine g0 j j (q (oMv j j)<|q (Q5 j agL j j)<|q (ae j j)<|nl)<|us<|gs<|g0 j j (q (oMv j j)<|q (oMv j j)<|q (oBi j j j j)<|nl)<|us<|gc h j af (fun aie h=>?_) fun aie h=>?_
          ·refine gs<|g0 j j (q (oMv j j)<|q (oMv j j)<|q (oBi j j j j)<|q (ae j j)<|nl)<|us<|gs<|?_
           obtain ⟨Md,OE,h⟩:=bs h
           refine g0 j j (q (oMv j j)<|q (oMv j j)<|q (oMv j j)<|q (oMv j j)<|q (oCa (xs:=[.v false [.own 0 0 0],.v false [.im 0 _],.v false [.im 0 _],.v false [.im 0 _]]) (vs:=[]) (v:=.tup []) (ih OE) (.inl j) j Cj j (ppC j (ppC j (ppC j (ppC j pp0)))) j j (pbO j j j j pb0) j j j)<|nl)<|us<|g1 j j (mk [(0,H 0 0),(2,iv dh),(3,iv bF),(8,bv (decide ((w64 (x99.1 - cZ))≥ZY))),(9,bv x99.2.1),(14,iv x99.1)] [(0,Oe [Z (W 1 eI Md)])]) (q (oMv j j)<|q (oBi j j j j)<|q (ae j j)<|nl)<|Unw.blk<|Unw.nil<|?_
           cases h
           exact ⟨j,(by kernel_rfl)⟩
          ·refine gs<|g0 j j (q (oMv j j)<|q (oMv j j)<|q (oBi j j j j)<|q (ae j j)<|nl)<|us<|gs<|?_
           obtain ⟨ZX,XG,h⟩:=bs h
           refine g0 j j (q (oMv j j)<|q (oMv j j)<|q (oBi j j j j)<|q (oMv j j)<|q (oMv j j)<|q (oCa (xs:=[.v false [.own 0 0 0],.v false [.im 0 _],.v false [.im 0 _],.v false [.im 0 _]]) (vs:=[]) (v:=.tup []) (ih XG) (.inl j) j Cj j (ppC j (ppC j (ppC j (ppC j pp0)))) j j (pbO j j j j pb0) j j j)<|nl)<|us<|g1 j j (mk [(0,H 0 0),(1,iv cZ),(3,iv bF),(8,bv (decide ((w64 (dh - x99.1))≥ZY))),(9,bv x99.2.1),(14,iv x99.1)] [(0,Oe [Z (W 1 eI ZX)])]) (q (oMv j j)<|q (ae j j)<|nl)<|Unw.blk<|Unw.nil<|?_
           cases h
           exact ⟨j,(by kernel_rfl)⟩
       ·intro K46
        refine gc h j (Yq iR (Yq iR iEq)) (fun hc47 h=>?_) fun hc47 h=>?_
        ·refine gs<|?_
         obtain ⟨x72,acC,h⟩:=bs h
         refine g0 j j (q (oMv j j)<|q (oMv j j)<|q (oMv j j)<|q (oCa (xs:=[.v false [.own 0 0 0],.v false [.im 0 _],.v false [.im 0 _]]) (vs:=[(false,[.im 0 _])]) (v:=.v false [.im 0 _]) (tu acC) (.inl j) j Su j (ppC j (ppC j (ppC j pp0))) j j (pbO j j j j pb0) j j j)<|nl)<|us<|gc h j iR (fun aez h=>?_) fun aez h=>?_
         ·refine Go.ret (Unw.ret ?_)
          cases h
          exact ⟨j,(fo aaj j)⟩
         ·exact Go.skip<|K46 _ ⟨x72.2,h,(by kernel_rfl)⟩
        ·exact Go.skip<|K46 _ ⟨jK,h,(by kernel_rfl)⟩
     ·intro K49
      refine gc h j iEq (fun CX h=>?_) fun CX h=>?_
      ·refine gs<|?_
       obtain ⟨x54,acz,h⟩:=bs h
       exact g0 j j (q (oMv j j)<|q (oMv j j)<|q (oMv j j)<|q (oCa (xs:=[.v false [.own 0 0 0],.v false [.im 0 _],.v false [.im 0 _]]) (vs:=[]) (v:=.tup []) (xN acz) (.inl j) j Sm j (ppC j (ppC j (ppC j pp0))) j j (pbO j j j j pb0) j j j)<|nl)<|us<|gs<|g1 j j (mk [(0,H 0 0),(1,iv cZ),(2,iv dh),(3,iv bF),(8,bv aC),(9,bv az),(10,iv (w64 (dh - cZ))),(11,iv x46.1)] [(0,Oe [Z (W 1 eI x54)])]) (q (oMv j j)<|q (oBi j j j j)<|q (oMv j j)<|q (oMv j j)<|q (oBi j j j j)<|q (oBi j j j j)<|q (ae j j)<|nl)<|us<|g0 j j (q (ae j j)<|nl)<|K49 _ ⟨(w64 ((w64 (dh - 1)) - (w64 (x46.1 - cZ)))),1,x54,h,(by kernel_rfl)⟩
      ·exact Go.skip<|K49 _ ⟨x46.1,x46.2,rU,h,(by kernel_rfl)⟩
    ·intro K51
     by_cases acF:aC=true
     ·rw [if_pos acF] at h
      exact gF j (nF (iR.2 acF))<|Go.skip<|K51 _ ⟨sW,bV,h,(by kernel_rfl)⟩
     ·rw [if_neg acF] at h
      refine gT j (nT (byF iR acF))<|gs<|?_
      obtain ⟨x39,hx39,h⟩:=bs h
      exact g0 j j (q (oMv j j)<|q (oMv j j)<|q (oMv j j)<|q (oCa (xs:=[.v false [.own 0 0 0],.v false [.im 0 _],.v false [.im 0 _]]) (vs:=[]) (v:=.tup []) (xm hx39) (.inl j) j Sj j (ppC j (ppC j (ppC j pp0))) j j (pbO j j j j pb0) j j j)<|nl)<|us<|g1 j j (mk [(0,H 0 0),(1,iv cZ),(2,iv dh),(3,iv sW),(8,bv aC),(9,bv az),(10,iv (w64 (dh - cZ)))] [(0,Oe [Z (W 1 eI x39)])]) (q (oMv j j)<|q (oBi j j j j)<|q (ae j j)<|nl)<|K51 _ ⟨(w64 (sW - 1)),x39,h,(by kernel_rfl)⟩
 ·rintro ⟨e,st⟩ hp
  obtain ⟨r2,rfl⟩:∃y,y=o:=⟨o,rfl⟩
  obtain ⟨he,hfin⟩:=hp
  obtain rfl:e= .ret:=he
  cases h
  exact Unw.ret (nP hfin)
theorem Ag {aj:(List Int)} {a_1:Int} {b_2:Int} {qo:Int} {r:(List Int)} (h:kF aj a_1 b_2 qo=some r):FX 126 [.ow 1 (List.map eI aj),.im 2 false [I a_1],.im 2 false [I b_2],.im 2 false [I qo]] ([],[.ow 1 (List.map eI r)]):=by
 unfold kF at h
 obtain ⟨n,hn⟩:=Be h
 clear h
 induction n generalizing aj a_1 b_2 qo r with
 | zero=>cases hn
 | succ n ihn=>exact yM (self:=yQ _ n) (fun h=>ihn h) hn
theorem pM {x_0:(List Int)} {r:(List Int)} (h:gZ x_0=some r):FX 72 [.ow 1 (List.map eI x_0)] ([],[.ow 1 (List.map eI r)]):=by
 unfold gZ at h
 refine jP (A:=[(0,H 0 0)]) (B:=[(0,Oe [Z (W 1 eI x_0)])]) (nt:=11) rfl rfl Try.func72 rfl rfl rfl rfl ?_
 refine gs<|g0 j j (q (oMv j j)<|q (O9 j j EN j j j (fun e=>nomatch e))<|q (ae j j)<|nl)<|us<|?_
 obtain ⟨x9,hx9,h⟩:=bs h
 obtain ⟨x10,CO,h⟩:=bs h
 refine g0 j j (q (oMv j j)<|q (oMv j j)<|q (oMv j j)<|q (Gl j uF3 Ib j)<|q (oCa (xs:=[.v false [.im 0 _]]) (vs:=[(false,[.im 0 _])]) (v:=.v false [.im 0 _]) (OG hx9) (.inl j) j Qv j (ppC j pp0) j j pb0 j j j)<|q (oCa (xs:=[.v false [.own 0 0 0],.v false [.im 0 _],.v false [.im 0 _],.v false [.im 0 _]]) (vs:=[]) (v:=.tup []) (Ag CO) (.inl j) j Cj j (ppC j (ppC j (ppC j (ppC j pp0)))) j j (pbO j j j j pb0) j j j)<|nl)<|Unw.nil<|?_
 cases h
 exact uU (fo ahR j)
theorem Ik {au:(List aH)} {qU:Int} {kX:Int} {r:((List Int)×Int)} (h:oW au qU kX=some r):FX 32 [.im 2 false [W 8 ai au],.im 2 false [I qU],.im 2 false [I kX]] (B0 [(false,[.ow 0 1 (List.map eI r.1)]),(false,[.im 0 (I r.2)])]):=by
 unfold oW at h
 refine gn 58 Try.func32 rfl ?_
 refine gs<|g0 j j (q (DI j j Pj)<|q (ae j j)<|nl)<|us<|gs<|gs<|?_
 obtain ⟨x16,hx16,h⟩:=bs h
 refine g0 j j (q (oMv j j)<|q (oMv j j)<|q (oMv j j)<|q (oCa (xs:=[.v false [.im 2 _],.v false [.im 2 _],.v false [.im 2 _],.v false [.im 0 _]]) (vs:=[(false,[.im 0 _])]) (v:=.v false [.im 0 _]) (CU hx16) (.inl j) j IP j (ppC j (ppC j (ppC j (ppC j pp0)))) j j pb0 j j j)<|q (ae j j)<|nl)<|us<|gs<|g0 j j (q (oMv j j)<|q (oBi j j j j)<|nl)<|us<|gc h j iNe (fun hc1 h=>?_) fun hc1 h=>?_
 ·refine gs<|g0 j j (q (oMv j j)<|q (DI j j Pj)<|q (ae j j)<|nl)<|us<|Go.ret (Unw.ret ?_)
  cases h
  exact fr agn j
 ·refine Go.skip<|us<|gs<|g0 j j (q (oBS (es:=List.map eI ([]:List Int)) j aU j pt0 (gY j fun _=>j))<|q (nO j j j j j)<|nl)<|us<|gs<|gs<|?_
  obtain ⟨x22,xg,h⟩:=bs h
  refine g0 j j (q (oMv j j)<|q (oCr (xs:=[.v false [.im 2 _]]) (vs:=[(false,[.own 22 0 0])]) (v:=.v false [.own 22 0 0]) (c:=⟨.sh,0,_⟩) (cs:=[]) (PK xg) (.inl j) j acr j (ppC j pp0) j j pb0 j j j)<|q (O9 j j EN j j j (fun e=>nomatch e))<|q (oMv j j)<|nl)<|us<|Go.block<|?_
  obtain ⟨o,hl,h⟩:=bs h
  refine gl c32 j _ (fun (s:(Int×Int×Int×(List Int)))=>match s with | (jB,gV,qp,oD)=>mk [(0,D 2 (W 8 ai au)),(1,iv jB),(2,iv gV),(9,H 9 0),(22,H 22 0),(23,iv (x22.length:Int)),(24,iv qp)] [(9,Oc [Z (W 1 eI oD)]),(22,Oc [Z (W 1 eI x22)])]) (fun (Dv:(List Int)) (p:Ex×St)=>p.1= .exit 0∧p.2.norm ([9],[9])=mk [(9,H 9 0)] [(9,Oc [Z (W 1 eI Dv)])]) hl (by kernel_rfl) ?_ ?_ ?_
  ·intro o p hp e
   exact nomatch (hp.1.symm.trans e)
  ·rintro ⟨jB,gV,qp,oD⟩ o h
   unfold fO at h
   dsimp only at h
   refine gs<|g0 j j (q (oBi j j j j)<|nl)<|us<|gs<|gc h j af (fun hc8 h=>?_) fun hc8 h=>?_
   ·refine Go.skip<|us<|gs<|Go.join (fun st=>∃zS,∃wX,∃BV,jv qp zS wX BV=some o∧st.norm ([0,1,2,9,22,23,24],[9,22])=mk [(0,D 2 (W 8 ai au)),(1,iv zS),(2,iv wX),(9,H 9 0),(22,H 22 0),(23,iv (x22.length:Int)),(24,iv qp)] [(9,Oc [Z (W 1 eI BV)]),(22,Oc [Z (W 1 eI x22)])]) ?_ ?_
    ·rintro st ⟨zS,wX,BV,h,hst⟩
     unfold jv at h
     refine us<|g2 c32 j j hst (q (oBi j j j j)<|q (oMv j j)<|nl)<|Unw.nil<|?_
     cases h
     exact ⟨j,(by kernel_rfl)⟩
    ·intro K11
     refine Go.block<|gs<|?_
     obtain ⟨x26,Gn,h⟩:=bs h
     refine g0 j j (q (bK j Gn aU j j j j)<|q (fH (cs:=[.im 0 _]) j tF2 j j j j (aA Gn) j j)<|q (ae j j)<|nl)<|us<|gs<|?_
     obtain ⟨x30,PG,h⟩:=bs h
     refine g0 j j (q (oMv j j)<|q (oMv j j)<|q (pK j PG xX j j)<|q (oLd (cs:=[.im 2 _,.im 2 _,.im 2 _,.im 2 _,.im 2 _,.im 2 _,.im 2 _,.im 2 _]) j CE j j)<|q (oAl j CE (tkI (tkI (tkI (tkI (tkI (tkI (tkI (tkI tk0)))))))))<|q (oSt CE j j j (tkI (tkI (tkI (tkI (tkI (tkI (tkI (tkI tk0)))))))) j j j)<|nl)<|us<|gs<|gX c32 j j (st1:=mk [(0,D 2 (W 8 ai au)),(1,iv jB),(2,iv gV),(9,H 9 0),(11,iv x26),(12,M 12),(22,H 22 0),(23,iv (x22.length:Int)),(24,iv qp)] [(9,Oc [Z (W 1 eI oD)]),(12,Oa (G 0 (dB x30))),(22,Oc [Z (W 1 eI x22)])]) (by kernel_rfl) (mk [(0,D 2 (W 8 ai au)),(1,iv jB),(2,iv gV),(9,H 9 0),(11,iv x26),(12,M 12),(22,H 22 0),(23,iv (x22.length:Int)),(24,iv qp),(41,bv ((decide (x30.wH≤jB))&&(decide (x30.iV≤gV))))] [(9,Oc [Z (W 1 eI oD)]),(12,Oa (G 0 (dB x30))),(22,Oc [Z (W 1 eI x22)])]) ?_ ?_
     ·refine xq (oFA (r':=.mp 12 0 6) j Ci j j)<|xq (oLd (cs:=[.im 0 _]) j tF2 j j)<|xq (oMv j j)<|xq (oBi j j j j)<|xq (oMv j j)<|?_
      by_cases hc12:x30.wH≤jB
      ·exact xqT rfl rfl (af.2 hc12) (oFA (r':=.mp 12 0 7) rfl FD rfl rfl)<|xqT rfl rfl (af.2 hc12) (oLd (cs:=[.im 0 _]) rfl tF2 rfl rfl)<|xqT rfl rfl (af.2 hc12) (oMv rfl rfl)<|xqT rfl rfl (af.2 hc12) (oBi rfl rfl rfl rfl)<|xq (bf rfl rfl (af.2 hc12) rfl)<|xn (Eq.trans (b:=(fun FQ:Bool=>mk [(0,D 2 (W 8 ai au)),(1,iv jB),(2,iv gV),(9,H 9 0),(11,iv x26),(12,M 12),(22,H 22 0),(23,iv (x22.length:Int)),(24,iv qp),(41,bv FQ)] [(9,Oc [Z (W 1 eI oD)]),(12,Oa (G 0 (dB x30))),(22,Oc [Z (W 1 eI x22)])]) (decide (x30.iV≤gV))) (by kernel_rfl) (congrArg (fun FQ:Bool=>mk [(0,D 2 (W 8 ai au)),(1,iv jB),(2,iv gV),(9,H 9 0),(11,iv x26),(12,M 12),(22,H 22 0),(23,iv (x22.length:Int)),(24,iv qp),(41,bv FQ)] [(9,Oc [Z (W 1 eI oD)]),(12,Oa (G 0 (dB x30))),(22,Oc [Z (W 1 eI x22)])]) (by first | rfl | (simp [(af.2 hc12)];done) | (simp [(af.2 hc12)];omega))))
      ·exact ah rfl rfl (byF af hc12) rfl<|ah rfl rfl (byF af hc12) rfl<|ah rfl rfl (byF af hc12) rfl<|ah rfl rfl (byF af hc12) rfl<|xq (bD rfl rfl (byF af hc12) rfl)<|xn (Eq.trans (b:=(fun FQ:Bool=>mk [(0,D 2 (W 8 ai au)),(1,iv jB),(2,iv gV),(9,H 9 0),(11,iv x26),(12,M 12),(22,H 22 0),(23,iv (x22.length:Int)),(24,iv qp),(41,bv FQ)] [(9,Oc [Z (W 1 eI oD)]),(12,Oa (G 0 (dB x30))),(22,Oc [Z (W 1 eI x22)])]) false) (by kernel_rfl) (congrArg (fun FQ:Bool=>mk [(0,D 2 (W 8 ai au)),(1,iv jB),(2,iv gV),(9,H 9 0),(11,iv x26),(12,M 12),(22,H 22 0),(23,iv (x22.length:Int)),(24,iv qp),(41,bv FQ)] [(9,Oc [Z (W 1 eI oD)]),(12,Oa (G 0 (dB x30))),(22,Oc [Z (W 1 eI x22)])]) (by first | rfl | (simp [(byF af hc12)];done) | (simp [(byF af hc12)];omega))))
     ·refine us<|gc h j (Yq af af) (fun hc13 h=>?_) fun hc13 h=>?_
      ·refine gs<|?_
       obtain ⟨x45,OC,h⟩:=bs h
       exact g0 j j (q (oMv j j)<|q (oMv j j)<|q (oBS (es:=List.map eI ([x26]:List Int)) j aU j (ptC j (fxI fx0) j pt0) (gY j fun _=>j))<|q (Je (en:=eI) (M:=([x26]:List Int)) j OC j aU j j EN (.inl ⟨_,j⟩) j j j j (Ai j j) (gY j fun _=>j))<|q (nO j j j j j)<|nl)<|us<|gs<|g0 j j (q (oMv j j)<|q (oFA (r':=.mp 12 0 6) j Ci j j)<|q (oLd (cs:=[.im 0 _]) j tF2 j j)<|q (oBi j j j j)<|q (ae j j)<|nl)<|us<|g0 j j (q (oMv j j)<|q (oFA (r':=.mp 12 0 7) j FD j j)<|q (oLd (cs:=[.im 0 _]) j tF2 j j)<|q (oBi j j j j)<|q (ae j j)<|nl)<|Unw.blk<|K11 _ ⟨(w64 (jB - x30.wH)),(w64 (gV - x30.iV)),x45,h,(by kernel_rfl)⟩
      ·exact Go.skip<|Unw.blk<|K11 _ ⟨jB,gV,oD,h,(by kernel_rfl)⟩
   ·refine Go.exit<|ux<|Unw.nil<|?_
    cases h
    exact ⟨j,(by kernel_rfl)⟩
  ·rintro ⟨e,st⟩ hp
   obtain ⟨Dv,rfl⟩:∃y,y=o:=⟨o,rfl⟩
   obtain ⟨he,hst⟩:=hp
   obtain rfl:e= .exit 0:=he
   refine Unw.jZ<|us<|gs<|?_
   obtain ⟨x56,Kt,h⟩:=bs h
   refine g2 c32 j j hst (q (oMv j j)<|q (oCa (xs:=[.v false [.own 9 0 0]]) (vs:=[]) (v:=.tup []) (pM Kt) (.inl j) j Sz j (ppC j pp0) j j (pbO j j j j pb0) j j j)<|nl)<|us<|gs<|g1 j j (mk [(9,H 9 0)] [(9,Oc [Z (W 1 eI x56)])]) (q (oMv j j)<|q (nO j j j j j)<|q (ae j j)<|nl)<|us<|Go.ret (Unw.ret ?_)
   cases h
   exact fr agn j
theorem Df {self:(aJ×(List Int)×Int×Int×Int×Int)→Option (Bool×aJ)} (ih:∀{s_0:aJ} {dI:(List Int)} {oZ:Int} {bz:Int} {fP:Int} {bT:Int} {r:(Bool×aJ)},self (s_0,dI,oZ,bz,fP,bT)=some r→FX 73 [.ptr true [(.imm,W 8 ai s_0.list),(.imm,I s_0.left),(.gone,W 1 eI s_0.best),(.imm,I s_0.most)],.im 0 false [W 1 eI dI],.im 2 false [I oZ],.im 2 false [I bz],.im 2 false [I fP],.im 2 false [I bT]] ([(false,[.im 0 (V r.1)])],[.ptr true [(.imm,W 8 ai r.2.list),(.imm,I r.2.left),(.gone,W 1 eI r.2.best),(.imm,I r.2.most)]])) {s_0:aJ} {dI:(List Int)} {oZ:Int} {bz:Int} {fP:Int} {bT:Int} {r:(Bool×aJ)} (h:ig self s_0 dI oZ bz fP bT=some r):FX 73 [.ptr true [(.imm,W 8 ai s_0.list),(.imm,I s_0.left),(.gone,W 1 eI s_0.best),(.imm,I s_0.most)],.im 0 false [W 1 eI dI],.im 2 false [I oZ],.im 2 false [I bz],.im 2 false [I fP],.im 2 false [I bT]] ([(false,[.im 0 (V r.1)])],[.ptr true [(.imm,W 8 ai r.2.list),(.imm,I r.2.left),(.gone,W 1 eI r.2.best),(.imm,I r.2.most)]]):=by
 unfold ig at h
 refine jP (A:=[(0,M 0),(1,D 0 (W 1 eI dI)),(2,D 2 (I oZ)),(3,D 2 (I bz)),(4,D 2 (I fP)),(5,D 2 (I bT))]) (B:=[(0,Od [Ct 1 (W 8 ai s_0.list),C (I s_0.left),C (W 1 eI s_0.best),C (I s_0.most)]),(1,none),(2,none),(3,none),(4,none),(5,none)]) (nt:=89) rfl rfl Try.func73 rfl rfl rfl rfl ?_
 refine gs<|g0 j j (q (ae j j)<|nl)<|us<|gs<|gs<|g0 j j (q (oMv j j)<|q (oNl j j j)<|q (oFA (r':=.mp 0 0 1) j RQ j j)<|q (oLd (cs:=[.im 0 _]) j tF2 j j)<|q (oBi j j j j)<|nl)<|us<|gc h j iEq (fun hc1 h=>?_) fun hc1 h=>?_
 ·refine gs<|g0 j j (q (ae j j)<|nl)<|us<|Go.ret (Unw.ret ?_)
  cases h
  exact fr aer j
 ·refine Go.skip<|us<|gs<|g0 j j (q (oMv j j)<|q (oNl j j j)<|q (oFA (r':=.mp 0 0 1) j RQ j j)<|q (oLd (cs:=[.im 0 _]) j tF2 j j)<|q (oBi j j j j)<|q (oNl j j j)<|q (oFA (r':=.mp 0 0 1) j RQ j j)<|q (oSt tF2 j j j (tkI tk0) j j j)<|nl)<|us<|gs<|gs<|g1 j j (mk [(0,M 0),(1,D 0 (W 1 eI dI)),(2,iv oZ),(3,iv bz),(4,iv fP),(5,iv bT)] [(0,Od [Ct 1 (W 8 ai s_0.list),C (I (w64 (s_0.left - 1))),C (W 1 eI s_0.best),C (I s_0.most)])]) (q (oMv j j)<|q (oMv j j)<|q (oNl j j j)<|q (oFA (r':=.mp 0 0 3) j bH j j)<|q (oLd (cs:=[.im 0 _]) j tF2 j j)<|q (oBi j j j j)<|nl)<|us<|Go.join (fun st=>∃qY,∃Et,iM self dI oZ bT fP bz s_0 qY Et=some r∧st.norm ([0,1,2,3,4,5],[0])=mk [(0,M 0),(1,D 0 (W 1 eI dI)),(2,iv oZ),(3,iv bz),(4,iv fP),(5,iv bT)] [(0,Od [Ct 1 (W 8 ai s_0.list),C (I (w64 (s_0.left - 1))),C (W 1 eI qY),C (I Et)])]) ?_ ?_
  ·rintro st ⟨qY,Et,h,hst⟩
   unfold iM at h
   refine us<|gs<|gs<|g2 c73 j j hst (q (oMv j j)<|q (ae j j)<|nl)<|us<|Go.block<|?_
   obtain ⟨o,hl,h⟩:=bs h
   refine gl c73 j _ (fun (s:(Int×(List aH)×Int×(List Int)×Int))=>match s with | (kG,lT,oG,oH,oI)=>mk [(0,M 0),(1,D 0 (W 1 eI dI)),(3,iv bz),(4,iv fP),(5,iv bT),(13,iv kG)] [(0,Od [Ct 1 (W 8 ai lT),C (I oG),C (W 1 eI oH),C (I oI)])]) (fun (o:(((List aH)×Int×(List Int)×Int) ⊕ (Bool×aJ))) (p:Ex×St)=>match o with | (.inl (vK,vM,vN,vO))=>p.1= .exit 0∧p.2.norm ([],[0])=mk [] [(0,Od [Ct 1 (W 8 ai vK),C (I vM),C (W 1 eI vN),C (I vO)])] | (.inr r2)=>p.1= .ret∧fin Try.prog cfg 73 Try.f73 [.ptr true [(.imm,W 8 ai s_0.list),(.imm,I s_0.left),(.gone,W 1 eI s_0.best),(.imm,I s_0.most)],.im 0 false [W 1 eI dI],.im 2 false [I oZ],.im 2 false [I bz],.im 2 false [I fP],.im 2 false [I bT]] p.2=some ([(false,[.im 0 (V r2.1)])],[.ptr true [(.imm,W 8 ai r2.2.list),(.imm,I r2.2.left),(.gone,W 1 eI r2.2.best),(.imm,I r2.2.most)]])) hl (by kernel_rfl) ?_ ?_ ?_
   ·intro o p hp e
    rcases o with ⟨vK,vM,vN,vO⟩ | r2<;>exact nomatch (hp.1.symm.trans e)
   ·rintro ⟨kG,lT,oG,oH,oI⟩ o h
    unfold bW at h
    dsimp only at h
    refine gs<|gs<|g0 j j (q (oMv j j)<|q (oMv j j)<|q (oNl j j j)<|q (oFA (r':=.mp 0 0 0) j Xx j j)<|q (oLd (cs:=[.im 1 _]) j Ur j j)<|q (xI j j Ko j)<|q (oBi j j j j)<|nl)<|us<|gc h j af (fun qC h=>?_) fun qC h=>?_
    ·refine Go.skip<|us<|gs<|Go.join (fun st=>∃En,∃Eo,∃Ep,∃Es,gG self kG En Eo Ep Es=some o∧st.norm ([0,1,3,4,5,13],[0])=mk [(0,M 0),(1,D 0 (W 1 eI dI)),(3,iv bz),(4,iv fP),(5,iv bT),(13,iv kG)] [(0,Od [Ct 1 (W 8 ai En),C (I Eo),C (W 1 eI Ep),C (I Es)])]) ?_ ?_
     ·rintro st ⟨En,Eo,Ep,Es,h,hst⟩
      unfold gG at h
      refine us<|g2 c73 j j hst (q (oMv j j)<|q (oBi j j j j)<|q (ae j j)<|nl)<|Unw.nil<|?_
      cases h
      exact ⟨j,(by kernel_rfl)⟩
     ·intro K15
      refine Go.block<|gs<|?_
      obtain ⟨x56,Kt,h⟩:=bs h
      refine g0 j j (q (oMv j j)<|q (oNl j j j)<|q (oFA (r':=.mp 0 0 0) j Xx j j)<|q (oLd (cs:=[.im 1 _]) j Ur j j)<|q (oMv j j)<|q (pK j Kt xX j j)<|q (oLd (cs:=[.im 1 _,.im 1 _,.im 1 _,.im 1 _,.im 1 _,.im 1 _,.im 1 _,.im 1 _]) j CE j j)<|q (oAl j CE (tkI (tkI (tkI (tkI (tkI (tkI (tkI (tkI tk0)))))))))<|q (oSt CE j j j (tkI (tkI (tkI (tkI (tkI (tkI (tkI (tkI tk0)))))))) j j j)<|nl)<|us<|gs<|gs<|gX c73 j j (st1:=mk [(0,M 0),(1,D 0 (W 1 eI dI)),(3,iv bz),(4,iv fP),(5,iv bT),(13,iv kG),(14,M 14)] [(0,Od [Ct 1 (W 8 ai lT),C (I oG),C (W 1 eI oH),C (I oI)]),(14,Oa (G 0 (dB x56)))]) (by kernel_rfl) (mk [(0,M 0),(1,D 0 (W 1 eI dI)),(3,iv bz),(4,iv fP),(5,iv bT),(13,iv kG),(14,M 14),(67,bv ((decide (x56.wH>fP))||(decide (x56.iV>bT))))] [(0,Od [Ct 1 (W 8 ai lT),C (I oG),C (W 1 eI oH),C (I oI)]),(14,Oa (G 0 (dB x56)))]) ?_ ?_
      ·refine xq (oFA (r':=.mp 14 0 6) j Ci j j)<|xq (oLd (cs:=[.im 0 _]) j tF2 j j)<|xq (oMv j j)<|xq (oBi j j j j)<|xq (oMv j j)<|?_
       by_cases hc16:x56.wH>fP
       ·exact ah rfl rfl (af.2 hc16) rfl<|ah rfl rfl (af.2 hc16) rfl<|ah rfl rfl (af.2 hc16) rfl<|ah rfl rfl (af.2 hc16) rfl<|xq (bf rfl rfl (af.2 hc16) rfl)<|xn (Eq.trans (b:=(fun CY:Bool=>mk [(0,M 0),(1,D 0 (W 1 eI dI)),(3,iv bz),(4,iv fP),(5,iv bT),(13,iv kG),(14,M 14),(67,bv CY)] [(0,Od [Ct 1 (W 8 ai lT),C (I oG),C (W 1 eI oH),C (I oI)]),(14,Oa (G 0 (dB x56)))]) true) (by kernel_rfl) (congrArg (fun CY:Bool=>mk [(0,M 0),(1,D 0 (W 1 eI dI)),(3,iv bz),(4,iv fP),(5,iv bT),(13,iv kG),(14,M 14),(67,bv CY)] [(0,Od [Ct 1 (W 8 ai lT),C (I oG),C (W 1 eI oH),C (I oI)]),(14,Oa (G 0 (dB x56)))]) (by first | rfl | (simp [(af.2 hc16)];done) | (simp [(af.2 hc16)];omega))))
       ·exact xqT rfl rfl (byF af hc16) (oFA (r':=.mp 14 0 7) rfl FD rfl rfl)<|xqT rfl rfl (byF af hc16) (oLd (cs:=[.im 0 _]) rfl tF2 rfl rfl)<|xqT rfl rfl (byF af hc16) (oMv rfl rfl)<|xqT rfl rfl (byF af hc16) (oBi rfl rfl rfl rfl)<|xq (bD rfl rfl (byF af hc16) rfl)<|xn (Eq.trans (b:=(fun CY:Bool=>mk [(0,M 0),(1,D 0 (W 1 eI dI)),(3,iv bz),(4,iv fP),(5,iv bT),(13,iv kG),(14,M 14),(67,bv CY)] [(0,Od [Ct 1 (W 8 ai lT),C (I oG),C (W 1 eI oH),C (I oI)]),(14,Oa (G 0 (dB x56)))]) (decide (x56.iV>bT))) (by kernel_rfl) (congrArg (fun CY:Bool=>mk [(0,M 0),(1,D 0 (W 1 eI dI)),(3,iv bz),(4,iv fP),(5,iv bT),(13,iv kG),(14,M 14),(67,bv CY)] [(0,Od [Ct 1 (W 8 ai lT),C (I oG),C (W 1 eI oH),C (I oI)]),(14,Oa (G 0 (dB x56)))]) (by first | rfl | (simp [(byF af hc16)];done) | (simp [(byF af hc16)];omega))))
      ·refine us<|gc h j (iOr af af) (fun hc17 h=>?_) fun hc17 h=>?_
       ·exact Go.exit<|ux<|Unw.jZ<|K15 _ ⟨lT,oG,oH,oI,h,(by kernel_rfl)⟩
       ·refine Go.skip<|us<|gs<|?_
        obtain ⟨x70,aau,h⟩:=bs h
        obtain ⟨x73,OD,h⟩:=bs h
        obtain ⟨x88,agM,h⟩:=bs h
        refine gd c73 j j j j (mk [(0,M 0),(1,D 0 (W 1 eI dI)),(3,iv bz),(4,iv fP),(5,iv bT),(13,iv kG),(88,bv x88.1)] [(0,Od [Ct 1 (W 8 ai x88.2.list),C (I x88.2.left),C (W 1 eI x88.2.best),C (I x88.2.most)])]) (t j j (oMv j j)<|t j j (oMv j j)<|t j j (oMv j j)<|t j j (oMv j j)<|t j j (oBi j j j j)<|t j j (oMv j j)<|t j j (oMv j j)<|t j j (oMv j j)<|sK (O:=[14]) j j j (dN z73 j (oFA (r':=.mp 14 0 5) j H6 j j))<|sK (O:=[14]) j j j (dN z73 j (oLd (cs:=[.im 0 _]) j tF2 j j))<|t j j (oBi j j j j)<|sK (O:=[14]) j j j (dN z73 j (oFA (r':=.mp 14 0 6) j Ci j j))<|sK (O:=[14]) j j j (dN z73 j (oLd (cs:=[.im 0 _]) j tF2 j j))<|t j j (oBi j j j j)<|sK (O:=[14]) j j j (dN z73 j (oFA (r':=.mp 14 0 7) j FD j j))<|sK (O:=[14]) j j j (dN z73 j (oLd (cs:=[.im 0 _]) j tF2 j j))<|t j j (oBi j j j j)<|sF (dN z73 j (oCr (xs:=[.v false [.im 0 _]]) (vs:=[(false,[.own 70 0 0])]) (v:=.v false [.own 70 0 0]) (c:=⟨.sh,0,_⟩) (cs:=[]) (Qs (en:=eI) (L:=dI) j aau (fun _=>j)) (.inl j) j Ui j (ppC j pp0) j j pb0 j j j)) (kY ⟨j,trivial⟩ (kY ⟨j,trivial⟩ (kY ⟨j,trivial⟩ (kY ⟨j,trivial⟩ (kY ⟨j,trivial⟩ (kY ⟨j,trivial⟩ trivial)))))) (sS (dN z73 j (oBS (es:=List.map eI ([kG]:List Int)) j aU j (ptC j (fxI fx0) j pt0) (gY j fun _=>j))) (kY ⟨j,trivial⟩ (kY ⟨j,trivial⟩ (kY ⟨j,trivial⟩ (kY ⟨j,trivial⟩ (kY ⟨j,trivial⟩ (kY ⟨j,trivial⟩ trivial)))))) (sS (dN z73 j (Je (en:=eI) (M:=([kG]:List Int)) j OD j aU j j EN (.inl ⟨_,j⟩) j j j j (Ai j j) (gY j fun _=>j))) (kY ⟨j,trivial⟩ (kY ⟨j,trivial⟩ (kY ⟨j,trivial⟩ (kY ⟨j,trivial⟩ (kY ⟨j,trivial⟩ (kY ⟨j,trivial⟩ trivial)))))) (sS (dN z73 j (oCa (xs:=[.v false [.mp 0 0 0],.v false [.own 73 0 0],.v false [.im 0 _],.v false [.im 0 _],.v false [.im 0 _],.v false [.im 0 _]]) (vs:=[(false,[.im 0 _])]) (v:=.v false [.im 0 _]) (ih agM) (.inl j) j wJ j (ppP j j j (ad8 (fxO j j fx0) j (ppC j (ppC j (ppC j (ppC j pp0)))))) j j (pbP j j pb0) j j j)) (kN j (kN j (kN j (kN j (kN j (kN j trivial)))))) (sD (by kernel_rfl))))) (sS (dN z73 j (oBS (es:=List.map eI ([kG]:List Int)) j aU j (ptC j (fxI fx0) j pt0) (gY j fun _=>j))) (kY ⟨j,trivial⟩ (kY ⟨j,trivial⟩ (kY ⟨j,trivial⟩ (kY ⟨j,trivial⟩ (kY ⟨j,trivial⟩ (kY ⟨j,trivial⟩ trivial)))))) (sS (dN z73 j (oCr (xs:=[.v false [.im 0 _]]) (vs:=[(false,[.own 70 0 0])]) (v:=.v false [.own 70 0 0]) (c:=⟨.sh,0,_⟩) (cs:=[]) (Qs (en:=eI) (L:=dI) j aau (fun _=>j)) (.inl j) j Ui j (ppC j pp0) j j pb0 j j j)) (kY ⟨j,trivial⟩ (kY ⟨j,trivial⟩ (kY ⟨j,trivial⟩ (kY ⟨j,trivial⟩ (kY ⟨j,trivial⟩ (kY ⟨j,trivial⟩ trivial)))))) (sS (dN z73 j (Je (en:=eI) (M:=([kG]:List Int)) j OD j aU j j EN (.inl ⟨_,j⟩) j j j j (Ai j j) (gY j fun _=>j))) (kY ⟨j,trivial⟩ (kY ⟨j,trivial⟩ (kY ⟨j,trivial⟩ (kY ⟨j,trivial⟩ (kY ⟨j,trivial⟩ (kY ⟨j,trivial⟩ trivial)))))) (sS (dN z73 j (oCa (xs:=[.v false [.mp 0 0 0],.v false [.own 73 0 0],.v false [.im 0 _],.v false [.im 0 _],.v false [.im 0 _],.v false [.im 0 _]]) (vs:=[(false,[.im 0 _])]) (v:=.v false [.im 0 _]) (ih agM) (.inl j) j wJ j (ppP j j j (ad8 (fxO j j fx0) j (ppC j (ppC j (ppC j (ppC j pp0)))))) j j (pbP j j pb0) j j j)) (kN j (kN j (kN j (kN j (kN j (kN j trivial)))))) (sD (by kernel_rfl)))))))<|us<|gc h j iR (fun hc18 h=>?_) fun hc18 h=>?_
        ·refine gs<|g0 j j (q (ae j j)<|nl)<|us<|Go.ret (Unw.ret ?_)
         cases h
         exact ⟨j,(fo aer j)⟩
        ·exact Go.skip<|Unw.blk<|K15 _ ⟨x88.2.list,x88.2.left,x88.2.best,x88.2.most,h,(by kernel_rfl)⟩
    ·refine Go.exit<|ux<|Unw.nil<|?_
     cases h
     exact ⟨j,(by kernel_rfl)⟩
   ·rintro ⟨e,st⟩ hp
    rcases o with ⟨vK,vM,vN,vO⟩ | r2
    ·dsimp only at h
     obtain ⟨he,hst⟩:=hp
     obtain rfl:e= .exit 0:=he
     refine Unw.jZ<|us<|gs<|g2 c73 j j hst (q (ae j j)<|nl)<|us<|Go.ret (Unw.ret ?_)
     cases h
     exact fr aer j
    ·dsimp only at h
     obtain ⟨he,hfin⟩:=hp
     obtain rfl:e= .ret:=he
     cases h
     exact Unw.ret (nP hfin)
  ·intro K19
   refine gc h j af (fun wK h=>?_) fun wK h=>?_
   ·exact g0 j j (q (oMv j j)<|q (oMv j j)<|q (oMv j j)<|q (oMv j j)<|q (oNl j j j)<|q (oFA (r':=.mp 0 0 2) j gp j j)<|q (oSt jb j j j (tkI tk0) j j j)<|q (oNl j j j)<|q (oFA (r':=.mp 0 0 3) j bH j j)<|q (oSt tF2 j j j (tkI tk0) j j j)<|nl)<|K19 _ ⟨dI,bz,h,(by kernel_rfl)⟩
   ·exact Go.skip<|K19 _ ⟨s_0.best,s_0.most,h,(by kernel_rfl)⟩
theorem EP {s_0:aJ} {dI:(List Int)} {oZ:Int} {bz:Int} {fP:Int} {bT:Int} {r:(Bool×aJ)} (h:iT s_0 dI oZ bz fP bT=some r):FX 73 [.ptr true [(.imm,W 8 ai s_0.list),(.imm,I s_0.left),(.gone,W 1 eI s_0.best),(.imm,I s_0.most)],.im 0 false [W 1 eI dI],.im 2 false [I oZ],.im 2 false [I bz],.im 2 false [I fP],.im 2 false [I bT]] ([(false,[.im 0 (V r.1)])],[.ptr true [(.imm,W 8 ai r.2.list),(.imm,I r.2.left),(.gone,W 1 eI r.2.best),(.imm,I r.2.most)]]):=by
 unfold iT at h
 obtain ⟨n,hn⟩:=Be h
 clear h
 induction n generalizing s_0 dI oZ bz fP bT r with
 | zero=>cases hn
 | succ n ihn=>exact Df (self:=yQ _ n) (fun h=>ihn h) hn
theorem Jp {au:(List aH)} {qU:Int} {kX:Int} {wS:Int} {r:((List Int)×Int×Int)} (h:rf au qU kX wS=some r):FX 33 [.im 2 false [W 8 ai au],.im 2 false [I qU],.im 2 false [I kX],.im 2 false [I wS]] (B0 [(false,[.im 0 (W 1 eI r.1)]),(false,[.im 0 (I r.2.1)]),(false,[.im 0 (I r.2.2)])]):=by
 unfold rf at h
 refine gn 37 Try.func33 rfl ?_
 refine gs<|g0 j j (sqf z33 j (DI j j Pj) (ad9 j j j)<|sqn z33 j (ae j j)<|sqn z33 j (ae j j)<|nl)<|us<|gs<|gs<|?_
 obtain ⟨x17,Kr,h⟩:=bs h
 refine g0 j j (sqn z33 j (oMv j j)<|sqn z33 j (oMv j j)<|sqn z33 j (oMv j j)<|sqn z33 j (oMv j j)<|sqn z33 j (oCa (xs:=[.v false [.im 2 _],.v false [.im 2 _],.v false [.im 2 _],.v false [.im 2 _]]) (vs:=[(false,[.im 0 _])]) (v:=.v false [.im 0 _]) (CU Kr) (.inl j) j IP j (ppC j (ppC j (ppC j (ppC j pp0)))) j j pb0 j j j)<|sqn z33 j (ae j j)<|nl)<|us<|gs<|g0 j j (sqn z33 j (oMv j j)<|sqn z33 j (oBi j j j j)<|nl)<|us<|gc h j iNe (fun hc1 h=>?_) fun hc1 h=>?_
 ·refine gs<|g0 j j (sqn z33 j (oMv j j)<|sqf z33 j (DI j j Pj) (ad9 j j j)<|sqn z33 j (ae j j)<|sqn z33 j (ae j j)<|nl)<|us<|Go.ret (Unw.ret ?_)
  cases h
  exact fr aen j
 ·refine Go.skip<|us<|gs<|g0 j j (sqn z33 j (oMv j j)<|sqn z33 j (oMv j j)<|sqn z33 j (oBu (cs:=[.im 2 _,.im 2 _,.nil,.im 0 _]) j afz j)<|sqn z33 j (oBx j agw j (tkI (tkI (tkN (tkI tk0)))))<|sqn z33 j (abl j j)<|nl)<|us<|gs<|gs<|?_
  obtain ⟨x28,hx28,h⟩:=bs h
  refine g0 j j (sqn z33 j (oMv j j)<|sqn z33 j (oMv j j)<|sqn z33 j (oMv j j)<|sqn z33 j (oCa (xs:=[.v false [.mp 24 0 0],.v false [.nil],.v false [.im 0 _],.v false [.im 0 _],.v false [.im 2 _],.v false [.im 2 _]]) (vs:=[(false,[.im 0 _])]) (v:=.v false [.im 0 _]) (EP hx28) (.inl j) j wJ j (ppP j j j (ad8 (fxN fx0) j (ppC j (ppC j (ppC j (ppC j pp0)))))) j j (pbP j j pb0) j j j)<|nl)<|us<|gc h j iR (fun hc2 h=>?_) fun hc2 h=>?_
  ·refine gs<|g1 j j (mk [] []) (sqf z33 j (DI j j Pj) (ad9 j j j)<|sqn z33 j (ae j j)<|sqn z33 j (ae j j)<|nl)<|us<|Go.ret (Unw.ret ?_)
   cases h
   exact fr aen j
  ·refine Go.skip<|us<|gs<|gd c33 j j j (st1:=mk [(12,M 24)] [(24,Oa [Ct 2 (W 8 ai x28.2.list),C (I x28.2.left),C (W 1 eI x28.2.best),C (I x28.2.most)])]) (by kernel_rfl) (mk [(8,D 0 (W 1 eI x28.2.best)),(9,iv x28.2.most),(10,iv 0)] []) (sF (dNn z33 j j (oMv j j)) trivial (sF (dNn z33 j j (oNl j j j)) trivial (sF (dNn z33 j j (oFA (r':=.mp 24 0 2) j gp j j)) trivial (sF (dNn z33 j j (oLd (cs:=[.im 0 _]) j jb j j)) trivial (sF (dNn z33 j j (oMv j j)) trivial (sF (dNn z33 j j (oNl j j j)) trivial (sF (dNn z33 j j (oFA (r':=.mp 24 0 3) j bH j j)) trivial (sF (dNn z33 j j (oLd (cs:=[.im 0 _]) j tF2 j j)) trivial (sS (dZ z33 j j (ae j j) (dm j)) trivial (sS (dNn z33 j j (ae j j)) trivial (sS (dNn z33 j j (ae j j)) trivial (sD (by kernel_rfl))))) (sS (dZ z33 j j (ae j j) (dm j)) trivial (sS (dNn z33 j j (oLd (cs:=[.im 0 _]) j tF2 j j)) trivial (sS (dNn z33 j j (ae j j)) trivial (sS (dNn z33 j j (ae j j)) trivial (sD (by kernel_rfl))))))) (sS (dZ z33 j j (ae j j) (dm j)) trivial (sS (dNn z33 j j (oFA (r':=.mp 24 0 3) j bH j j)) trivial (sS (dNn z33 j j (oLd (cs:=[.im 0 _]) j tF2 j j)) trivial (sS (dNn z33 j j (ae j j)) trivial (sS (dNn z33 j j (ae j j)) trivial (sD (by kernel_rfl)))))))) (sS (dZ z33 j j (ae j j) (dm j)) trivial (sS (dNn z33 j j (oNl j j j)) trivial (sS (dNn z33 j j (oFA (r':=.mp 24 0 3) j bH j j)) trivial (sS (dNn z33 j j (oLd (cs:=[.im 0 _]) j tF2 j j)) trivial (sS (dNn z33 j j (ae j j)) trivial (sS (dNn z33 j j (ae j j)) trivial (sD (by kernel_rfl))))))))) (sS (dZ z33 j j (ae j j) (dm j)) trivial (sS (dNn z33 j j (oMv j j)) trivial (sS (dNn z33 j j (oNl j j j)) trivial (sS (dNn z33 j j (oFA (r':=.mp 24 0 3) j bH j j)) trivial (sS (dNn z33 j j (oLd (cs:=[.im 0 _]) j tF2 j j)) trivial (sS (dNn z33 j j (ae j j)) trivial (sS (dNn z33 j j (ae j j)) trivial (sD (by kernel_rfl)))))))))) (sS (dNn z33 j j (oMv j j)) trivial (sF (dNn z33 j j (oLd (cs:=[.im 0 _]) j jb j j)) trivial (sF (dNn z33 j j (oNl j j j)) trivial (sF (dNn z33 j j (oFA (r':=.mp 24 0 3) j bH j j)) trivial (sF (dNn z33 j j (oLd (cs:=[.im 0 _]) j tF2 j j)) trivial (sS (dZ z33 j j (ae j j) (dm j)) trivial (sS (dNn z33 j j (ae j j)) trivial (sS (dNn z33 j j (ae j j)) trivial (sD (by kernel_rfl))))) (sS (dZ z33 j j (ae j j) (dm j)) trivial (sS (dNn z33 j j (oLd (cs:=[.im 0 _]) j tF2 j j)) trivial (sS (dNn z33 j j (ae j j)) trivial (sS (dNn z33 j j (ae j j)) trivial (sD (by kernel_rfl))))))) (sS (dZ z33 j j (ae j j) (dm j)) trivial (sS (dNn z33 j j (oFA (r':=.mp 24 0 3) j bH j j)) trivial (sS (dNn z33 j j (oLd (cs:=[.im 0 _]) j tF2 j j)) trivial (sS (dNn z33 j j (ae j j)) trivial (sS (dNn z33 j j (ae j j)) trivial (sD (by kernel_rfl)))))))) (sS (dZ z33 j j (ae j j) (dm j)) trivial (sS (dNn z33 j j (oNl j j j)) trivial (sS (dNn z33 j j (oFA (r':=.mp 24 0 3) j bH j j)) trivial (sS (dNn z33 j j (oLd (cs:=[.im 0 _]) j tF2 j j)) trivial (sS (dNn z33 j j (ae j j)) trivial (sS (dNn z33 j j (ae j j)) trivial (sD (by kernel_rfl))))))))) (sS (dNn z33 j j (oNl j j j)) trivial (sF (dNn z33 j j (oLd (cs:=[.im 0 _]) j jb j j)) trivial (sF (dNn z33 j j (oFA (r':=.mp 24 0 3) j bH j j)) trivial (sF (dNn z33 j j (oLd (cs:=[.im 0 _]) j tF2 j j)) trivial (sS (dZ z33 j j (ae j j) (dm j)) trivial (sS (dNn z33 j j (ae j j)) trivial (sS (dNn z33 j j (ae j j)) trivial (sD (by kernel_rfl))))) (sS (dZ z33 j j (ae j j) (dm j)) trivial (sS (dNn z33 j j (oLd (cs:=[.im 0 _]) j tF2 j j)) trivial (sS (dNn z33 j j (ae j j)) trivial (sS (dNn z33 j j (ae j j)) trivial (sD (by kernel_rfl))))))) (sS (dZ z33 j j (ae j j) (dm j)) trivial (sS (dNn z33 j j (oFA (r':=.mp 24 0 3) j bH j j)) trivial (sS (dNn z33 j j (oLd (cs:=[.im 0 _]) j tF2 j j)) trivial (sS (dNn z33 j j (ae j j)) trivial (sS (dNn z33 j j (ae j j)) trivial (sD (by kernel_rfl)))))))) (sS (dNn z33 j j (oFA (r':=.mp 24 0 3) j bH j j)) trivial (sF (dNn z33 j j (oLd (cs:=[.im 0 _]) j jb j j)) trivial (sF (dNn z33 j j (oLd (cs:=[.im 0 _]) j tF2 j j)) trivial (sS (dZ z33 j j (ae j j) (dm j)) trivial (sS (dNn z33 j j (ae j j)) trivial (sS (dNn z33 j j (ae j j)) trivial (sD (by kernel_rfl))))) (sS (dZ z33 j j (ae j j) (dm j)) trivial (sS (dNn z33 j j (oLd (cs:=[.im 0 _]) j tF2 j j)) trivial (sS (dNn z33 j j (ae j j)) trivial (sS (dNn z33 j j (ae j j)) trivial (sD (by kernel_rfl))))))) (sS (dNn z33 j j (oLd (cs:=[.im 0 _]) j tF2 j j)) trivial (sS (dNn z33 j j (oLd (cs:=[.im 0 _]) j jb j j)) trivial (sS (dZ z33 j j (ae j j) (dm j)) trivial (sS (dNn z33 j j (ae j j)) trivial (sS (dNn z33 j j (ae j j)) trivial (sD (by kernel_rfl)))))))))))))) (sS (dNn z33 j j (oMv j j)) trivial (sF (dNn z33 j j (oFA (r':=.mp 24 0 2) j gp j j)) trivial (sF (dNn z33 j j (oLd (cs:=[.im 0 _]) j jb j j)) trivial (sF (dNn z33 j j (oNl j j j)) trivial (sF (dNn z33 j j (oFA (r':=.mp 24 0 3) j bH j j)) trivial (sF (dNn z33 j j (oLd (cs:=[.im 0 _]) j tF2 j j)) trivial (sS (dZ z33 j j (ae j j) (dm j)) trivial (sS (dNn z33 j j (ae j j)) trivial (sS (dNn z33 j j (ae j j)) trivial (sD (by kernel_rfl))))) (sS (dZ z33 j j (ae j j) (dm j)) trivial (sS (dNn z33 j j (oLd (cs:=[.im 0 _]) j tF2 j j)) trivial (sS (dNn z33 j j (ae j j)) trivial (sS (dNn z33 j j (ae j j)) trivial (sD (by kernel_rfl))))))) (sS (dZ z33 j j (ae j j) (dm j)) trivial (sS (dNn z33 j j (oFA (r':=.mp 24 0 3) j bH j j)) trivial (sS (dNn z33 j j (oLd (cs:=[.im 0 _]) j tF2 j j)) trivial (sS (dNn z33 j j (ae j j)) trivial (sS (dNn z33 j j (ae j j)) trivial (sD (by kernel_rfl)))))))) (sS (dZ z33 j j (ae j j) (dm j)) trivial (sS (dNn z33 j j (oNl j j j)) trivial (sS (dNn z33 j j (oFA (r':=.mp 24 0 3) j bH j j)) trivial (sS (dNn z33 j j (oLd (cs:=[.im 0 _]) j tF2 j j)) trivial (sS (dNn z33 j j (ae j j)) trivial (sS (dNn z33 j j (ae j j)) trivial (sD (by kernel_rfl))))))))) (sS (dNn z33 j j (oNl j j j)) trivial (sF (dNn z33 j j (oLd (cs:=[.im 0 _]) j jb j j)) trivial (sF (dNn z33 j j (oFA (r':=.mp 24 0 3) j bH j j)) trivial (sF (dNn z33 j j (oLd (cs:=[.im 0 _]) j tF2 j j)) trivial (sS (dZ z33 j j (ae j j) (dm j)) trivial (sS (dNn z33 j j (ae j j)) trivial (sS (dNn z33 j j (ae j j)) trivial (sD (by kernel_rfl))))) (sS (dZ z33 j j (ae j j) (dm j)) trivial (sS (dNn z33 j j (oLd (cs:=[.im 0 _]) j tF2 j j)) trivial (sS (dNn z33 j j (ae j j)) trivial (sS (dNn z33 j j (ae j j)) trivial (sD (by kernel_rfl))))))) (sS (dZ z33 j j (ae j j) (dm j)) trivial (sS (dNn z33 j j (oFA (r':=.mp 24 0 3) j bH j j)) trivial (sS (dNn z33 j j (oLd (cs:=[.im 0 _]) j tF2 j j)) trivial (sS (dNn z33 j j (ae j j)) trivial (sS (dNn z33 j j (ae j j)) trivial (sD (by kernel_rfl)))))))) (sS (dNn z33 j j (oFA (r':=.mp 24 0 3) j bH j j)) trivial (sF (dNn z33 j j (oLd (cs:=[.im 0 _]) j jb j j)) trivial (sF (dNn z33 j j (oLd (cs:=[.im 0 _]) j tF2 j j)) trivial (sS (dZ z33 j j (ae j j) (dm j)) trivial (sS (dNn z33 j j (ae j j)) trivial (sS (dNn z33 j j (ae j j)) trivial (sD (by kernel_rfl))))) (sS (dZ z33 j j (ae j j) (dm j)) trivial (sS (dNn z33 j j (oLd (cs:=[.im 0 _]) j tF2 j j)) trivial (sS (dNn z33 j j (ae j j)) trivial (sS (dNn z33 j j (ae j j)) trivial (sD (by kernel_rfl))))))) (sS (dNn z33 j j (oLd (cs:=[.im 0 _]) j tF2 j j)) trivial (sS (dNn z33 j j (oLd (cs:=[.im 0 _]) j jb j j)) trivial (sS (dZ z33 j j (ae j j) (dm j)) trivial (sS (dNn z33 j j (ae j j)) trivial (sS (dNn z33 j j (ae j j)) trivial (sD (by kernel_rfl)))))))))))) (sS (dNn z33 j j (oNl j j j)) trivial (sF (dNn z33 j j (oFA (r':=.mp 24 0 2) j gp j j)) trivial (sF (dNn z33 j j (oLd (cs:=[.im 0 _]) j jb j j)) trivial (sF (dNn z33 j j (oFA (r':=.mp 24 0 3) j bH j j)) trivial (sF (dNn z33 j j (oLd (cs:=[.im 0 _]) j tF2 j j)) trivial (sS (dZ z33 j j (ae j j) (dm j)) trivial (sS (dNn z33 j j (ae j j)) trivial (sS (dNn z33 j j (ae j j)) trivial (sD (by kernel_rfl))))) (sS (dZ z33 j j (ae j j) (dm j)) trivial (sS (dNn z33 j j (oLd (cs:=[.im 0 _]) j tF2 j j)) trivial (sS (dNn z33 j j (ae j j)) trivial (sS (dNn z33 j j (ae j j)) trivial (sD (by kernel_rfl))))))) (sS (dZ z33 j j (ae j j) (dm j)) trivial (sS (dNn z33 j j (oFA (r':=.mp 24 0 3) j bH j j)) trivial (sS (dNn z33 j j (oLd (cs:=[.im 0 _]) j tF2 j j)) trivial (sS (dNn z33 j j (ae j j)) trivial (sS (dNn z33 j j (ae j j)) trivial (sD (by kernel_rfl)))))))) (sS (dNn z33 j j (oFA (r':=.mp 24 0 3) j bH j j)) trivial (sF (dNn z33 j j (oLd (cs:=[.im 0 _]) j jb j j)) trivial (sF (dNn z33 j j (oLd (cs:=[.im 0 _]) j tF2 j j)) trivial (sS (dZ z33 j j (ae j j) (dm j)) trivial (sS (dNn z33 j j (ae j j)) trivial (sS (dNn z33 j j (ae j j)) trivial (sD (by kernel_rfl))))) (sS (dZ z33 j j (ae j j) (dm j)) trivial (sS (dNn z33 j j (oLd (cs:=[.im 0 _]) j tF2 j j)) trivial (sS (dNn z33 j j (ae j j)) trivial (sS (dNn z33 j j (ae j j)) trivial (sD (by kernel_rfl))))))) (sS (dNn z33 j j (oLd (cs:=[.im 0 _]) j tF2 j j)) trivial (sS (dNn z33 j j (oLd (cs:=[.im 0 _]) j jb j j)) trivial (sS (dZ z33 j j (ae j j) (dm j)) trivial (sS (dNn z33 j j (ae j j)) trivial (sS (dNn z33 j j (ae j j)) trivial (sD (by kernel_rfl)))))))))) (sS (dNn z33 j j (oFA (r':=.mp 24 0 3) j bH j j)) trivial (sF (dNn z33 j j (oFA (r':=.mp 24 0 2) j gp j j)) trivial (sF (dNn z33 j j (oLd (cs:=[.im 0 _]) j jb j j)) trivial (sF (dNn z33 j j (oLd (cs:=[.im 0 _]) j tF2 j j)) trivial (sS (dZ z33 j j (ae j j) (dm j)) trivial (sS (dNn z33 j j (ae j j)) trivial (sS (dNn z33 j j (ae j j)) trivial (sD (by kernel_rfl))))) (sS (dZ z33 j j (ae j j) (dm j)) trivial (sS (dNn z33 j j (oLd (cs:=[.im 0 _]) j tF2 j j)) trivial (sS (dNn z33 j j (ae j j)) trivial (sS (dNn z33 j j (ae j j)) trivial (sD (by kernel_rfl))))))) (sS (dNn z33 j j (oLd (cs:=[.im 0 _]) j tF2 j j)) trivial (sS (dNn z33 j j (oLd (cs:=[.im 0 _]) j jb j j)) trivial (sS (dZ z33 j j (ae j j) (dm j)) trivial (sS (dNn z33 j j (ae j j)) trivial (sS (dNn z33 j j (ae j j)) trivial (sD (by kernel_rfl)))))))) (sS (dNn z33 j j (oLd (cs:=[.im 0 _]) j tF2 j j)) trivial (sS (dNn z33 j j (oFA (r':=.mp 24 0 2) j gp j j)) trivial (sS (dNn z33 j j (oLd (cs:=[.im 0 _]) j jb j j)) trivial (sS (dZ z33 j j (ae j j) (dm j)) trivial (sS (dNn z33 j j (ae j j)) trivial (sS (dNn z33 j j (ae j j)) trivial (sD (by kernel_rfl))))))))))))))) (sS (dNn z33 j j (oMv j j)) trivial (sF (dNn z33 j j (oNl j j j)) trivial (sF (dNn z33 j j (oFA (r':=.mp 24 0 2) j gp j j)) trivial (sF (dNn z33 j j (oLd (cs:=[.im 0 _]) j jb j j)) trivial (sF (dNn z33 j j (oNl j j j)) trivial (sF (dNn z33 j j (oFA (r':=.mp 24 0 3) j bH j j)) trivial (sF (dNn z33 j j (oLd (cs:=[.im 0 _]) j tF2 j j)) trivial (sS (dZ z33 j j (ae j j) (dm j)) trivial (sS (dNn z33 j j (ae j j)) trivial (sS (dNn z33 j j (ae j j)) trivial (sD (by kernel_rfl))))) (sS (dZ z33 j j (ae j j) (dm j)) trivial (sS (dNn z33 j j (oLd (cs:=[.im 0 _]) j tF2 j j)) trivial (sS (dNn z33 j j (ae j j)) trivial (sS (dNn z33 j j (ae j j)) trivial (sD (by kernel_rfl))))))) (sS (dZ z33 j j (ae j j) (dm j)) trivial (sS (dNn z33 j j (oFA (r':=.mp 24 0 3) j bH j j)) trivial (sS (dNn z33 j j (oLd (cs:=[.im 0 _]) j tF2 j j)) trivial (sS (dNn z33 j j (ae j j)) trivial (sS (dNn z33 j j (ae j j)) trivial (sD (by kernel_rfl)))))))) (sS (dZ z33 j j (ae j j) (dm j)) trivial (sS (dNn z33 j j (oNl j j j)) trivial (sS (dNn z33 j j (oFA (r':=.mp 24 0 3) j bH j j)) trivial (sS (dNn z33 j j (oLd (cs:=[.im 0 _]) j tF2 j j)) trivial (sS (dNn z33 j j (ae j j)) trivial (sS (dNn z33 j j (ae j j)) trivial (sD (by kernel_rfl))))))))) (sS (dNn z33 j j (oNl j j j)) trivial (sF (dNn z33 j j (oLd (cs:=[.im 0 _]) j jb j j)) trivial (sF (dNn z33 j j (oFA (r':=.mp 24 0 3) j bH j j)) trivial (sF (dNn z33 j j (oLd (cs:=[.im 0 _]) j tF2 j j)) trivial (sS (dZ z33 j j (ae j j) (dm j)) trivial (sS (dNn z33 j j (ae j j)) trivial (sS (dNn z33 j j (ae j j)) trivial (sD (by kernel_rfl))))) (sS (dZ z33 j j (ae j j) (dm j)) trivial (sS (dNn z33 j j (oLd (cs:=[.im 0 _]) j tF2 j j)) trivial (sS (dNn z33 j j (ae j j)) trivial (sS (dNn z33 j j (ae j j)) trivial (sD (by kernel_rfl))))))) (sS (dZ z33 j j (ae j j) (dm j)) trivial (sS (dNn z33 j j (oFA (r':=.mp 24 0 3) j bH j j)) trivial (sS (dNn z33 j j (oLd (cs:=[.im 0 _]) j tF2 j j)) trivial (sS (dNn z33 j j (ae j j)) trivial (sS (dNn z33 j j (ae j j)) trivial (sD (by kernel_rfl)))))))) (sS (dNn z33 j j (oFA (r':=.mp 24 0 3) j bH j j)) trivial (sF (dNn z33 j j (oLd (cs:=[.im 0 _]) j jb j j)) trivial (sF (dNn z33 j j (oLd (cs:=[.im 0 _]) j tF2 j j)) trivial (sS (dZ z33 j j (ae j j) (dm j)) trivial (sS (dNn z33 j j (ae j j)) trivial (sS (dNn z33 j j (ae j j)) trivial (sD (by kernel_rfl))))) (sS (dZ z33 j j (ae j j) (dm j)) trivial (sS (dNn z33 j j (oLd (cs:=[.im 0 _]) j tF2 j j)) trivial (sS (dNn z33 j j (ae j j)) trivial (sS (dNn z33 j j (ae j j)) trivial (sD (by kernel_rfl))))))) (sS (dNn z33 j j (oLd (cs:=[.im 0 _]) j tF2 j j)) trivial (sS (dNn z33 j j (oLd (cs:=[.im 0 _]) j jb j j)) trivial (sS (dZ z33 j j (ae j j) (dm j)) trivial (sS (dNn z33 j j (ae j j)) trivial (sS (dNn z33 j j (ae j j)) trivial (sD (by kernel_rfl)))))))))))) (sS (dNn z33 j j (oNl j j j)) trivial (sF (dNn z33 j j (oFA (r':=.mp 24 0 2) j gp j j)) trivial (sF (dNn z33 j j (oLd (cs:=[.im 0 _]) j jb j j)) trivial (sF (dNn z33 j j (oFA (r':=.mp 24 0 3) j bH j j)) trivial (sF (dNn z33 j j (oLd (cs:=[.im 0 _]) j tF2 j j)) trivial (sS (dZ z33 j j (ae j j) (dm j)) trivial (sS (dNn z33 j j (ae j j)) trivial (sS (dNn z33 j j (ae j j)) trivial (sD (by kernel_rfl))))) (sS (dZ z33 j j (ae j j) (dm j)) trivial (sS (dNn z33 j j (oLd (cs:=[.im 0 _]) j tF2 j j)) trivial (sS (dNn z33 j j (ae j j)) trivial (sS (dNn z33 j j (ae j j)) trivial (sD (by kernel_rfl))))))) (sS (dZ z33 j j (ae j j) (dm j)) trivial (sS (dNn z33 j j (oFA (r':=.mp 24 0 3) j bH j j)) trivial (sS (dNn z33 j j (oLd (cs:=[.im 0 _]) j tF2 j j)) trivial (sS (dNn z33 j j (ae j j)) trivial (sS (dNn z33 j j (ae j j)) trivial (sD (by kernel_rfl)))))))) (sS (dNn z33 j j (oFA (r':=.mp 24 0 3) j bH j j)) trivial (sF (dNn z33 j j (oLd (cs:=[.im 0 _]) j jb j j)) trivial (sF (dNn z33 j j (oLd (cs:=[.im 0 _]) j tF2 j j)) trivial (sS (dZ z33 j j (ae j j) (dm j)) trivial (sS (dNn z33 j j (ae j j)) trivial (sS (dNn z33 j j (ae j j)) trivial (sD (by kernel_rfl))))) (sS (dZ z33 j j (ae j j) (dm j)) trivial (sS (dNn z33 j j (oLd (cs:=[.im 0 _]) j tF2 j j)) trivial (sS (dNn z33 j j (ae j j)) trivial (sS (dNn z33 j j (ae j j)) trivial (sD (by kernel_rfl))))))) (sS (dNn z33 j j (oLd (cs:=[.im 0 _]) j tF2 j j)) trivial (sS (dNn z33 j j (oLd (cs:=[.im 0 _]) j jb j j)) trivial (sS (dZ z33 j j (ae j j) (dm j)) trivial (sS (dNn z33 j j (ae j j)) trivial (sS (dNn z33 j j (ae j j)) trivial (sD (by kernel_rfl)))))))))) (sS (dNn z33 j j (oFA (r':=.mp 24 0 3) j bH j j)) trivial (sF (dNn z33 j j (oFA (r':=.mp 24 0 2) j gp j j)) trivial (sF (dNn z33 j j (oLd (cs:=[.im 0 _]) j jb j j)) trivial (sF (dNn z33 j j (oLd (cs:=[.im 0 _]) j tF2 j j)) trivial (sS (dZ z33 j j (ae j j) (dm j)) trivial (sS (dNn z33 j j (ae j j)) trivial (sS (dNn z33 j j (ae j j)) trivial (sD (by kernel_rfl))))) (sS (dZ z33 j j (ae j j) (dm j)) trivial (sS (dNn z33 j j (oLd (cs:=[.im 0 _]) j tF2 j j)) trivial (sS (dNn z33 j j (ae j j)) trivial (sS (dNn z33 j j (ae j j)) trivial (sD (by kernel_rfl))))))) (sS (dNn z33 j j (oLd (cs:=[.im 0 _]) j tF2 j j)) trivial (sS (dNn z33 j j (oLd (cs:=[.im 0 _]) j jb j j)) trivial (sS (dZ z33 j j (ae j j) (dm j)) trivial (sS (dNn z33 j j (ae j j)) trivial (sS (dNn z33 j j (ae j j)) trivial (sD (by kernel_rfl)))))))) (sS (dNn z33 j j (oLd (cs:=[.im 0 _]) j tF2 j j)) trivial (sS (dNn z33 j j (oFA (r':=.mp 24 0 2) j gp j j)) trivial (sS (dNn z33 j j (oLd (cs:=[.im 0 _]) j jb j j)) trivial (sS (dZ z33 j j (ae j j) (dm j)) trivial (sS (dNn z33 j j (ae j j)) trivial (sS (dNn z33 j j (ae j j)) trivial (sD (by kernel_rfl))))))))))))) (sS (dNn z33 j j (oNl j j j)) trivial (sF (dNn z33 j j (oNl j j j)) trivial (sF (dNn z33 j j (oFA (r':=.mp 24 0 2) j gp j j)) trivial (sF (dNn z33 j j (oLd (cs:=[.im 0 _]) j jb j j)) trivial (sF (dNn z33 j j (oFA (r':=.mp 24 0 3) j bH j j)) trivial (sF (dNn z33 j j (oLd (cs:=[.im 0 _]) j tF2 j j)) trivial (sS (dZ z33 j j (ae j j) (dm j)) trivial (sS (dNn z33 j j (ae j j)) trivial (sS (dNn z33 j j (ae j j)) trivial (sD (by kernel_rfl))))) (sS (dZ z33 j j (ae j j) (dm j)) trivial (sS (dNn z33 j j (oLd (cs:=[.im 0 _]) j tF2 j j)) trivial (sS (dNn z33 j j (ae j j)) trivial (sS (dNn z33 j j (ae j j)) trivial (sD (by kernel_rfl))))))) (sS (dZ z33 j j (ae j j) (dm j)) trivial (sS (dNn z33 j j (oFA (r':=.mp 24 0 3) j bH j j)) trivial (sS (dNn z33 j j (oLd (cs:=[.im 0 _]) j tF2 j j)) trivial (sS (dNn z33 j j (ae j j)) trivial (sS (dNn z33 j j (ae j j)) trivial (sD (by kernel_rfl)))))))) (sS (dNn z33 j j (oFA (r':=.mp 24 0 3) j bH j j)) trivial (sF (dNn z33 j j (oLd (cs:=[.im 0 _]) j jb j j)) trivial (sF (dNn z33 j j (oLd (cs:=[.im 0 _]) j tF2 j j)) trivial (sS (dZ z33 j j (ae j j) (dm j)) trivial (sS (dNn z33 j j (ae j j)) trivial (sS (dNn z33 j j (ae j j)) trivial (sD (by kernel_rfl))))) (sS (dZ z33 j j (ae j j) (dm j)) trivial (sS (dNn z33 j j (oLd (cs:=[.im 0 _]) j tF2 j j)) trivial (sS (dNn z33 j j (ae j j)) trivial (sS (dNn z33 j j (ae j j)) trivial (sD (by kernel_rfl))))))) (sS (dNn z33 j j (oLd (cs:=[.im 0 _]) j tF2 j j)) trivial (sS (dNn z33 j j (oLd (cs:=[.im 0 _]) j jb j j)) trivial (sS (dZ z33 j j (ae j j) (dm j)) trivial (sS (dNn z33 j j (ae j j)) trivial (sS (dNn z33 j j (ae j j)) trivial (sD (by kernel_rfl)))))))))) (sS (dNn z33 j j (oFA (r':=.mp 24 0 3) j bH j j)) trivial (sF (dNn z33 j j (oFA (r':=.mp 24 0 2) j gp j j)) trivial (sF (dNn z33 j j (oLd (cs:=[.im 0 _]) j jb j j)) trivial (sF (dNn z33 j j (oLd (cs:=[.im 0 _]) j tF2 j j)) trivial (sS (dZ z33 j j (ae j j) (dm j)) trivial (sS (dNn z33 j j (ae j j)) trivial (sS (dNn z33 j j (ae j j)) trivial (sD (by kernel_rfl))))) (sS (dZ z33 j j (ae j j) (dm j)) trivial (sS (dNn z33 j j (oLd (cs:=[.im 0 _]) j tF2 j j)) trivial (sS (dNn z33 j j (ae j j)) trivial (sS (dNn z33 j j (ae j j)) trivial (sD (by kernel_rfl))))))) (sS (dNn z33 j j (oLd (cs:=[.im 0 _]) j tF2 j j)) trivial (sS (dNn z33 j j (oLd (cs:=[.im 0 _]) j jb j j)) trivial (sS (dZ z33 j j (ae j j) (dm j)) trivial (sS (dNn z33 j j (ae j j)) trivial (sS (dNn z33 j j (ae j j)) trivial (sD (by kernel_rfl)))))))) (sS (dNn z33 j j (oLd (cs:=[.im 0 _]) j tF2 j j)) trivial (sS (dNn z33 j j (oFA (r':=.mp 24 0 2) j gp j j)) trivial (sS (dNn z33 j j (oLd (cs:=[.im 0 _]) j jb j j)) trivial (sS (dZ z33 j j (ae j j) (dm j)) trivial (sS (dNn z33 j j (ae j j)) trivial (sS (dNn z33 j j (ae j j)) trivial (sD (by kernel_rfl))))))))))) (sS (dNn z33 j j (oFA (r':=.mp 24 0 3) j bH j j)) trivial (sF (dNn z33 j j (oNl j j j)) trivial (sF (dNn z33 j j (oFA (r':=.mp 24 0 2) j gp j j)) trivial (sF (dNn z33 j j (oLd (cs:=[.im 0 _]) j jb j j)) trivial (sF (dNn z33 j j (oLd (cs:=[.im 0 _]) j tF2 j j)) trivial (sS (dZ z33 j j (ae j j) (dm j)) trivial (sS (dNn z33 j j (ae j j)) trivial (sS (dNn z33 j j (ae j j)) trivial (sD (by kernel_rfl))))) (sS (dZ z33 j j (ae j j) (dm j)) trivial (sS (dNn z33 j j (oLd (cs:=[.im 0 _]) j tF2 j j)) trivial (sS (dNn z33 j j (ae j j)) trivial (sS (dNn z33 j j (ae j j)) trivial (sD (by kernel_rfl))))))) (sS (dNn z33 j j (oLd (cs:=[.im 0 _]) j tF2 j j)) trivial (sS (dNn z33 j j (oLd (cs:=[.im 0 _]) j jb j j)) trivial (sS (dZ z33 j j (ae j j) (dm j)) trivial (sS (dNn z33 j j (ae j j)) trivial (sS (dNn z33 j j (ae j j)) trivial (sD (by kernel_rfl)))))))) (sS (dNn z33 j j (oLd (cs:=[.im 0 _]) j tF2 j j)) trivial (sS (dNn z33 j j (oFA (r':=.mp 24 0 2) j gp j j)) trivial (sS (dNn z33 j j (oLd (cs:=[.im 0 _]) j jb j j)) trivial (sS (dZ z33 j j (ae j j) (dm j)) trivial (sS (dNn z33 j j (ae j j)) trivial (sS (dNn z33 j j (ae j j)) trivial (sD (by kernel_rfl))))))))) (sS (dNn z33 j j (oLd (cs:=[.im 0 _]) j tF2 j j)) trivial (sS (dNn z33 j j (oNl j j j)) trivial (sS (dNn z33 j j (oFA (r':=.mp 24 0 2) j gp j j)) trivial (sS (dNn z33 j j (oLd (cs:=[.im 0 _]) j jb j j)) trivial (sS (dZ z33 j j (ae j j) (dm j)) trivial (sS (dNn z33 j j (ae j j)) trivial (sS (dNn z33 j j (ae j j)) trivial (sD (by kernel_rfl)))))))))))))))) (sS (dNn z33 j j (oMv j j)) trivial (sF (dNn z33 j j (oMv j j)) trivial (sF (dNn z33 j j (oNl j j j)) trivial (sF (dNn z33 j j (oFA (r':=.mp 24 0 2) j gp j j)) trivial (sF (dNn z33 j j (oLd (cs:=[.im 0 _]) j jb j j)) trivial (sF (dNn z33 j j (oNl j j j)) trivial (sF (dNn z33 j j (oFA (r':=.mp 24 0 3) j bH j j)) trivial (sF (dNn z33 j j (oLd (cs:=[.im 0 _]) j tF2 j j)) trivial (sS (dZ z33 j j (ae j j) (dm j)) trivial (sS (dNn z33 j j (ae j j)) trivial (sS (dNn z33 j j (ae j j)) trivial (sD (by kernel_rfl))))) (sS (dZ z33 j j (ae j j) (dm j)) trivial (sS (dNn z33 j j (oLd (cs:=[.im 0 _]) j tF2 j j)) trivial (sS (dNn z33 j j (ae j j)) trivial (sS (dNn z33 j j (ae j j)) trivial (sD (by kernel_rfl))))))) (sS (dZ z33 j j (ae j j) (dm j)) trivial (sS (dNn z33 j j (oFA (r':=.mp 24 0 3) j bH j j)) trivial (sS (dNn z33 j j (oLd (cs:=[.im 0 _]) j tF2 j j)) trivial (sS (dNn z33 j j (ae j j)) trivial (sS (dNn z33 j j (ae j j)) trivial (sD (by kernel_rfl)))))))) (sS (dZ z33 j j (ae j j) (dm j)) trivial (sS (dNn z33 j j (oNl j j j)) trivial (sS (dNn z33 j j (oFA (r':=.mp 24 0 3) j bH j j)) trivial (sS (dNn z33 j j (oLd (cs:=[.im 0 _]) j tF2 j j)) trivial (sS (dNn z33 j j (ae j j)) trivial (sS (dNn z33 j j (ae j j)) trivial (sD (by kernel_rfl))))))))) (sS (dNn z33 j j (oNl j j j)) trivial (sF (dNn z33 j j (oLd (cs:=[.im 0 _]) j jb j j)) trivial (sF (dNn z33 j j (oFA (r':=.mp 24 0 3) j bH j j)) trivial (sF (dNn z33 j j (oLd (cs:=[.im 0 _]) j tF2 j j)) trivial (sS (dZ z33 j j (ae j j) (dm j)) trivial (sS (dNn z33 j j (ae j j)) trivial (sS (dNn z33 j j (ae j j)) trivial (sD (by kernel_rfl))))) (sS (dZ z33 j j (ae j j) (dm j)) trivial (sS (dNn z33 j j (oLd (cs:=[.im 0 _]) j tF2 j j)) trivial (sS (dNn z33 j j (ae j j)) trivial (sS (dNn z33 j j (ae j j)) trivial (sD (by kernel_rfl))))))) (sS (dZ z33 j j (ae j j) (dm j)) trivial (sS (dNn z33 j j (oFA (r':=.mp 24 0 3) j bH j j)) trivial (sS (dNn z33 j j (oLd (cs:=[.im 0 _]) j tF2 j j)) trivial (sS (dNn z33 j j (ae j j)) trivial (sS (dNn z33 j j (ae j j)) trivial (sD (by kernel_rfl)))))))) (sS (dNn z33 j j (oFA (r':=.mp 24 0 3) j bH j j)) trivial (sF (dNn z33 j j (oLd (cs:=[.im 0 _]) j jb j j)) trivial (sF (dNn z33 j j (oLd (cs:=[.im 0 _]) j tF2 j j)) trivial (sS (dZ z33 j j (ae j j) (dm j)) trivial (sS (dNn z33 j j (ae j j)) trivial (sS (dNn z33 j j (ae j j)) trivial (sD (by kernel_rfl))))) (sS (dZ z33 j j (ae j j) (dm j)) trivial (sS (dNn z33 j j (oLd (cs:=[.im 0 _]) j tF2 j j)) trivial (sS (dNn z33 j j (ae j j)) trivial (sS (dNn z33 j j (ae j j)) trivial (sD (by kernel_rfl))))))) (sS (dNn z33 j j (oLd (cs:=[.im 0 _]) j tF2 j j)) trivial (sS (dNn z33 j j (oLd (cs:=[.im 0 _]) j jb j j)) trivial (sS (dZ z33 j j (ae j j) (dm j)) trivial (sS (dNn z33 j j (ae j j)) trivial (sS (dNn z33 j j (ae j j)) trivial (sD (by kernel_rfl)))))))))))) (sS (dNn z33 j j (oNl j j j)) trivial (sF (dNn z33 j j (oFA (r':=.mp 24 0 2) j gp j j)) trivial (sF (dNn z33 j j (oLd (cs:=[.im 0 _]) j jb j j)) trivial (sF (dNn z33 j j (oFA (r':=.mp 24 0 3) j bH j j)) trivial (sF (dNn z33 j j (oLd (cs:=[.im 0 _]) j tF2 j j)) trivial (sS (dZ z33 j j (ae j j) (dm j)) trivial (sS (dNn z33 j j (ae j j)) trivial (sS (dNn z33 j j (ae j j)) trivial (sD (by kernel_rfl))))) (sS (dZ z33 j j (ae j j) (dm j)) trivial (sS (dNn z33 j j (oLd (cs:=[.im 0 _]) j tF2 j j)) trivial (sS (dNn z33 j j (ae j j)) trivial (sS (dNn z33 j j (ae j j)) trivial (sD (by kernel_rfl))))))) (sS (dZ z33 j j (ae j j) (dm j)) trivial (sS (dNn z33 j j (oFA (r':=.mp 24 0 3) j bH j j)) trivial (sS (dNn z33 j j (oLd (cs:=[.im 0 _]) j tF2 j j)) trivial (sS (dNn z33 j j (ae j j)) trivial (sS (dNn z33 j j (ae j j)) trivial (sD (by kernel_rfl)))))))) (sS (dNn z33 j j (oFA (r':=.mp 24 0 3) j bH j j)) trivial (sF (dNn z33 j j (oLd (cs:=[.im 0 _]) j jb j j)) trivial (sF (dNn z33 j j (oLd (cs:=[.im 0 _]) j tF2 j j)) trivial (sS (dZ z33 j j (ae j j) (dm j)) trivial (sS (dNn z33 j j (ae j j)) trivial (sS (dNn z33 j j (ae j j)) trivial (sD (by kernel_rfl))))) (sS (dZ z33 j j (ae j j) (dm j)) trivial (sS (dNn z33 j j (oLd (cs:=[.im 0 _]) j tF2 j j)) trivial (sS (dNn z33 j j (ae j j)) trivial (sS (dNn z33 j j (ae j j)) trivial (sD (by kernel_rfl))))))) (sS (dNn z33 j j (oLd (cs:=[.im 0 _]) j tF2 j j)) trivial (sS (dNn z33 j j (oLd (cs:=[.im 0 _]) j jb j j)) trivial (sS (dZ z33 j j (ae j j) (dm j)) trivial (sS (dNn z33 j j (ae j j)) trivial (sS (dNn z33 j j (ae j j)) trivial (sD (by kernel_rfl)))))))))) (sS (dNn z33 j j (oFA (r':=.mp 24 0 3) j bH j j)) trivial (sF (dNn z33 j j (oFA (r':=.mp 24 0 2) j gp j j)) trivial (sF (dNn z33 j j (oLd (cs:=[.im 0 _]) j jb j j)) trivial (sF (dNn z33 j j (oLd (cs:=[.im 0 _]) j tF2 j j)) trivial (sS (dZ z33 j j (ae j j) (dm j)) trivial (sS (dNn z33 j j (ae j j)) trivial (sS (dNn z33 j j (ae j j)) trivial (sD (by kernel_rfl))))) (sS (dZ z33 j j (ae j j) (dm j)) trivial (sS (dNn z33 j j (oLd (cs:=[.im 0 _]) j tF2 j j)) trivial (sS (dNn z33 j j (ae j j)) trivial (sS (dNn z33 j j (ae j j)) trivial (sD (by kernel_rfl))))))) (sS (dNn z33 j j (oLd (cs:=[.im 0 _]) j tF2 j j)) trivial (sS (dNn z33 j j (oLd (cs:=[.im 0 _]) j jb j j)) trivial (sS (dZ z33 j j (ae j j) (dm j)) trivial (sS (dNn z33 j j (ae j j)) trivial (sS (dNn z33 j j (ae j j)) trivial (sD (by kernel_rfl)))))))) (sS (dNn z33 j j (oLd (cs:=[.im 0 _]) j tF2 j j)) trivial (sS (dNn z33 j j (oFA (r':=.mp 24 0 2) j gp j j)) trivial (sS (dNn z33 j j (oLd (cs:=[.im 0 _]) j jb j j)) trivial (sS (dZ z33 j j (ae j j) (dm j)) trivial (sS (dNn z33 j j (ae j j)) trivial (sS (dNn z33 j j (ae j j)) trivial (sD (by kernel_rfl))))))))))))) (sS (dNn z33 j j (oNl j j j)) trivial (sF (dNn z33 j j (oNl j j j)) trivial (sF (dNn z33 j j (oFA (r':=.mp 24 0 2) j gp j j)) trivial (sF (dNn z33 j j (oLd (cs:=[.im 0 _]) j jb j j)) trivial (sF (dNn z33 j j (oFA (r':=.mp 24 0 3) j bH j j)) trivial (sF (dNn z33 j j (oLd (cs:=[.im 0 _]) j tF2 j j)) trivial (sS (dZ z33 j j (ae j j) (dm j)) trivial (sS (dNn z33 j j (ae j j)) trivial (sS (dNn z33 j j (ae j j)) trivial (sD (by kernel_rfl))))) (sS (dZ z33 j j (ae j j) (dm j)) trivial (sS (dNn z33 j j (oLd (cs:=[.im 0 _]) j tF2 j j)) trivial (sS (dNn z33 j j (ae j j)) trivial (sS (dNn z33 j j (ae j j)) trivial (sD (by kernel_rfl))))))) (sS (dZ z33 j j (ae j j) (dm j)) trivial (sS (dNn z33 j j (oFA (r':=.mp 24 0 3) j bH j j)) trivial (sS (dNn z33 j j (oLd (cs:=[.im 0 _]) j tF2 j j)) trivial (sS (dNn z33 j j (ae j j)) trivial (sS (dNn z33 j j (ae j j)) trivial (sD (by kernel_rfl)))))))) (sS (dNn z33 j j (oFA (r':=.mp 24 0 3) j bH j j)) trivial (sF (dNn z33 j j (oLd (cs:=[.im 0 _]) j jb j j)) trivial (sF (dNn z33 j j (oLd (cs:=[.im 0 _]) j tF2 j j)) trivial (sS (dZ z33 j j (ae j j) (dm j)) trivial (sS (dNn z33 j j (ae j j)) trivial (sS (dNn z33 j j (ae j j)) trivial (sD (by kernel_rfl))))) (sS (dZ z33 j j (ae j j) (dm j)) trivial (sS (dNn z33 j j (oLd (cs:=[.im 0 _]) j tF2 j j)) trivial (sS (dNn z33 j j (ae j j)) trivial (sS (dNn z33 j j (ae j j)) trivial (sD (by kernel_rfl))))))) (sS (dNn z33 j j (oLd (cs:=[.im 0 _]) j tF2 j j)) trivial (sS (dNn z33 j j (oLd (cs:=[.im 0 _]) j jb j j)) trivial (sS (dZ z33 j j (ae j j) (dm j)) trivial (sS (dNn z33 j j (ae j j)) trivial (sS (dNn z33 j j (ae j j)) trivial (sD (by kernel_rfl)))))))))) (sS (dNn z33 j j (oFA (r':=.mp 24 0 3) j bH j j)) trivial (sF (dNn z33 j j (oFA (r':=.mp 24 0 2) j gp j j)) trivial (sF (dNn z33 j j (oLd (cs:=[.im 0 _]) j jb j j)) trivial (sF (dNn z33 j j (oLd (cs:=[.im 0 _]) j tF2 j j)) trivial (sS (dZ z33 j j (ae j j) (dm j)) trivial (sS (dNn z33 j j (ae j j)) trivial (sS (dNn z33 j j (ae j j)) trivial (sD (by kernel_rfl))))) (sS (dZ z33 j j (ae j j) (dm j)) trivial (sS (dNn z33 j j (oLd (cs:=[.im 0 _]) j tF2 j j)) trivial (sS (dNn z33 j j (ae j j)) trivial (sS (dNn z33 j j (ae j j)) trivial (sD (by kernel_rfl))))))) (sS (dNn z33 j j (oLd (cs:=[.im 0 _]) j tF2 j j)) trivial (sS (dNn z33 j j (oLd (cs:=[.im 0 _]) j jb j j)) trivial (sS (dZ z33 j j (ae j j) (dm j)) trivial (sS (dNn z33 j j (ae j j)) trivial (sS (dNn z33 j j (ae j j)) trivial (sD (by kernel_rfl)))))))) (sS (dNn z33 j j (oLd (cs:=[.im 0 _]) j tF2 j j)) trivial (sS (dNn z33 j j (oFA (r':=.mp 24 0 2) j gp j j)) trivial (sS (dNn z33 j j (oLd (cs:=[.im 0 _]) j jb j j)) trivial (sS (dZ z33 j j (ae j j) (dm j)) trivial (sS (dNn z33 j j (ae j j)) trivial (sS (dNn z33 j j (ae j j)) trivial (sD (by kernel_rfl))))))))))) (sS (dNn z33 j j (oFA (r':=.mp 24 0 3) j bH j j)) trivial (sF (dNn z33 j j (oNl j j j)) trivial (sF (dNn z33 j j (oFA (r':=.mp 24 0 2) j gp j j)) trivial (sF (dNn z33 j j (oLd (cs:=[.im 0 _]) j jb j j)) trivial (sF (dNn z33 j j (oLd (cs:=[.im 0 _]) j tF2 j j)) trivial (sS (dZ z33 j j (ae j j) (dm j)) trivial (sS (dNn z33 j j (ae j j)) trivial (sS (dNn z33 j j (ae j j)) trivial (sD (by kernel_rfl))))) (sS (dZ z33 j j (ae j j) (dm j)) trivial (sS (dNn z33 j j (oLd (cs:=[.im 0 _]) j tF2 j j)) trivial (sS (dNn z33 j j (ae j j)) trivial (sS (dNn z33 j j (ae j j)) trivial (sD (by kernel_rfl))))))) (sS (dNn z33 j j (oLd (cs:=[.im 0 _]) j tF2 j j)) trivial (sS (dNn z33 j j (oLd (cs:=[.im 0 _]) j jb j j)) trivial (sS (dZ z33 j j (ae j j) (dm j)) trivial (sS (dNn z33 j j (ae j j)) trivial (sS (dNn z33 j j (ae j j)) trivial (sD (by kernel_rfl)))))))) (sS (dNn z33 j j (oLd (cs:=[.im 0 _]) j tF2 j j)) trivial (sS (dNn z33 j j (oFA (r':=.mp 24 0 2) j gp j j)) trivial (sS (dNn z33 j j (oLd (cs:=[.im 0 _]) j jb j j)) trivial (sS (dZ z33 j j (ae j j) (dm j)) trivial (sS (dNn z33 j j (ae j j)) trivial (sS (dNn z33 j j (ae j j)) trivial (sD (by kernel_rfl))))))))) (sS (dNn z33 j j (oLd (cs:=[.im 0 _]) j tF2 j j)) trivial (sS (dNn z33 j j (oNl j j j)) trivial (sS (dNn z33 j j (oFA (r':=.mp 24 0 2) j gp j j)) trivial (sS (dNn z33 j j (oLd (cs:=[.im 0 _]) j jb j j)) trivial (sS (dZ z33 j j (ae j j) (dm j)) trivial (sS (dNn z33 j j (ae j j)) trivial (sS (dNn z33 j j (ae j j)) trivial (sD (by kernel_rfl)))))))))))))) (sS (dNn z33 j j (oNl j j j)) trivial (sF (dNn z33 j j (oMv j j)) trivial (sF (dNn z33 j j (oNl j j j)) trivial (sF (dNn z33 j j (oFA (r':=.mp 24 0 2) j gp j j)) trivial (sF (dNn z33 j j (oLd (cs:=[.im 0 _]) j jb j j)) trivial (sF (dNn z33 j j (oFA (r':=.mp 24 0 3) j bH j j)) trivial (sF (dNn z33 j j (oLd (cs:=[.im 0 _]) j tF2 j j)) trivial (sS (dZ z33 j j (ae j j) (dm j)) trivial (sS (dNn z33 j j (ae j j)) trivial (sS (dNn z33 j j (ae j j)) trivial (sD (by kernel_rfl))))) (sS (dZ z33 j j (ae j j) (dm j)) trivial (sS (dNn z33 j j (oLd (cs:=[.im 0 _]) j tF2 j j)) trivial (sS (dNn z33 j j (ae j j)) trivial (sS (dNn z33 j j (ae j j)) trivial (sD (by kernel_rfl))))))) (sS (dZ z33 j j (ae j j) (dm j)) trivial (sS (dNn z33 j j (oFA (r':=.mp 24 0 3) j bH j j)) trivial (sS (dNn z33 j j (oLd (cs:=[.im 0 _]) j tF2 j j)) trivial (sS (dNn z33 j j (ae j j)) trivial (sS (dNn z33 j j (ae j j)) trivial (sD (by kernel_rfl)))))))) (sS (dNn z33 j j (oFA (r':=.mp 24 0 3) j bH j j)) trivial (sF (dNn z33 j j (oLd (cs:=[.im 0 _]) j jb j j)) trivial (sF (dNn z33 j j (oLd (cs:=[.im 0 _]) j tF2 j j)) trivial (sS (dZ z33 j j (ae j j) (dm j)) trivial (sS (dNn z33 j j (ae j j)) trivial (sS (dNn z33 j j (ae j j)) trivial (sD (by kernel_rfl))))) (sS (dZ z33 j j (ae j j) (dm j)) trivial (sS (dNn z33 j j (oLd (cs:=[.im 0 _]) j tF2 j j)) trivial (sS (dNn z33 j j (ae j j)) trivial (sS (dNn z33 j j (ae j j)) trivial (sD (by kernel_rfl))))))) (sS (dNn z33 j j (oLd (cs:=[.im 0 _]) j tF2 j j)) trivial (sS (dNn z33 j j (oLd (cs:=[.im 0 _]) j jb j j)) trivial (sS (dZ z33 j j (ae j j) (dm j)) trivial (sS (dNn z33 j j (ae j j)) trivial (sS (dNn z33 j j (ae j j)) trivial (sD (by kernel_rfl)))))))))) (sS (dNn z33 j j (oFA (r':=.mp 24 0 3) j bH j j)) trivial (sF (dNn z33 j j (oFA (r':=.mp 24 0 2) j gp j j)) trivial (sF (dNn z33 j j (oLd (cs:=[.im 0 _]) j jb j j)) trivial (sF (dNn z33 j j (oLd (cs:=[.im 0 _]) j tF2 j j)) trivial (sS (dZ z33 j j (ae j j) (dm j)) trivial (sS (dNn z33 j j (ae j j)) trivial (sS (dNn z33 j j (ae j j)) trivial (sD (by kernel_rfl))))) (sS (dZ z33 j j (ae j j) (dm j)) trivial (sS (dNn z33 j j (oLd (cs:=[.im 0 _]) j tF2 j j)) trivial (sS (dNn z33 j j (ae j j)) trivial (sS (dNn z33 j j (ae j j)) trivial (sD (by kernel_rfl))))))) (sS (dNn z33 j j (oLd (cs:=[.im 0 _]) j tF2 j j)) trivial (sS (dNn z33 j j (oLd (cs:=[.im 0 _]) j jb j j)) trivial (sS (dZ z33 j j (ae j j) (dm j)) trivial (sS (dNn z33 j j (ae j j)) trivial (sS (dNn z33 j j (ae j j)) trivial (sD (by kernel_rfl)))))))) (sS (dNn z33 j j (oLd (cs:=[.im 0 _]) j tF2 j j)) trivial (sS (dNn z33 j j (oFA (r':=.mp 24 0 2) j gp j j)) trivial (sS (dNn z33 j j (oLd (cs:=[.im 0 _]) j jb j j)) trivial (sS (dZ z33 j j (ae j j) (dm j)) trivial (sS (dNn z33 j j (ae j j)) trivial (sS (dNn z33 j j (ae j j)) trivial (sD (by kernel_rfl))))))))))) (sS (dNn z33 j j (oFA (r':=.mp 24 0 3) j bH j j)) trivial (sF (dNn z33 j j (oNl j j j)) trivial (sF (dNn z33 j j (oFA (r':=.mp 24 0 2) j gp j j)) trivial (sF (dNn z33 j j (oLd (cs:=[.im 0 _]) j jb j j)) trivial (sF (dNn z33 j j (oLd (cs:=[.im 0 _]) j tF2 j j)) trivial (sS (dZ z33 j j (ae j j) (dm j)) trivial (sS (dNn z33 j j (ae j j)) trivial (sS (dNn z33 j j (ae j j)) trivial (sD (by kernel_rfl))))) (sS (dZ z33 j j (ae j j) (dm j)) trivial (sS (dNn z33 j j (oLd (cs:=[.im 0 _]) j tF2 j j)) trivial (sS (dNn z33 j j (ae j j)) trivial (sS (dNn z33 j j (ae j j)) trivial (sD (by kernel_rfl))))))) (sS (dNn z33 j j (oLd (cs:=[.im 0 _]) j tF2 j j)) trivial (sS (dNn z33 j j (oLd (cs:=[.im 0 _]) j jb j j)) trivial (sS (dZ z33 j j (ae j j) (dm j)) trivial (sS (dNn z33 j j (ae j j)) trivial (sS (dNn z33 j j (ae j j)) trivial (sD (by kernel_rfl)))))))) (sS (dNn z33 j j (oLd (cs:=[.im 0 _]) j tF2 j j)) trivial (sS (dNn z33 j j (oFA (r':=.mp 24 0 2) j gp j j)) trivial (sS (dNn z33 j j (oLd (cs:=[.im 0 _]) j jb j j)) trivial (sS (dZ z33 j j (ae j j) (dm j)) trivial (sS (dNn z33 j j (ae j j)) trivial (sS (dNn z33 j j (ae j j)) trivial (sD (by kernel_rfl))))))))) (sS (dNn z33 j j (oLd (cs:=[.im 0 _]) j tF2 j j)) trivial (sS (dNn z33 j j (oNl j j j)) trivial (sS (dNn z33 j j (oFA (r':=.mp 24 0 2) j gp j j)) trivial (sS (dNn z33 j j (oLd (cs:=[.im 0 _]) j jb j j)) trivial (sS (dZ z33 j j (ae j j) (dm j)) trivial (sS (dNn z33 j j (ae j j)) trivial (sS (dNn z33 j j (ae j j)) trivial (sD (by kernel_rfl)))))))))))) (sS (dNn z33 j j (oFA (r':=.mp 24 0 3) j bH j j)) trivial (sF (dNn z33 j j (oMv j j)) trivial (sF (dNn z33 j j (oNl j j j)) trivial (sF (dNn z33 j j (oFA (r':=.mp 24 0 2) j gp j j)) trivial (sF (dNn z33 j j (oLd (cs:=[.im 0 _]) j jb j j)) trivial (sF (dNn z33 j j (oLd (cs:=[.im 0 _]) j tF2 j j)) trivial (sS (dZ z33 j j (ae j j) (dm j)) trivial (sS (dNn z33 j j (ae j j)) trivial (sS (dNn z33 j j (ae j j)) trivial (sD (by kernel_rfl))))) (sS (dZ z33 j j (ae j j) (dm j)) trivial (sS (dNn z33 j j (oLd (cs:=[.im 0 _]) j tF2 j j)) trivial (sS (dNn z33 j j (ae j j)) trivial (sS (dNn z33 j j (ae j j)) trivial (sD (by kernel_rfl))))))) (sS (dNn z33 j j (oLd (cs:=[.im 0 _]) j tF2 j j)) trivial (sS (dNn z33 j j (oLd (cs:=[.im 0 _]) j jb j j)) trivial (sS (dZ z33 j j (ae j j) (dm j)) trivial (sS (dNn z33 j j (ae j j)) trivial (sS (dNn z33 j j (ae j j)) trivial (sD (by kernel_rfl)))))))) (sS (dNn z33 j j (oLd (cs:=[.im 0 _]) j tF2 j j)) trivial (sS (dNn z33 j j (oFA (r':=.mp 24 0 2) j gp j j)) trivial (sS (dNn z33 j j (oLd (cs:=[.im 0 _]) j jb j j)) trivial (sS (dZ z33 j j (ae j j) (dm j)) trivial (sS (dNn z33 j j (ae j j)) trivial (sS (dNn z33 j j (ae j j)) trivial (sD (by kernel_rfl))))))))) (sS (dNn z33 j j (oLd (cs:=[.im 0 _]) j tF2 j j)) trivial (sS (dNn z33 j j (oNl j j j)) trivial (sS (dNn z33 j j (oFA (r':=.mp 24 0 2) j gp j j)) trivial (sS (dNn z33 j j (oLd (cs:=[.im 0 _]) j jb j j)) trivial (sS (dZ z33 j j (ae j j) (dm j)) trivial (sS (dNn z33 j j (ae j j)) trivial (sS (dNn z33 j j (ae j j)) trivial (sD (by kernel_rfl)))))))))) (sS (dNn z33 j j (oLd (cs:=[.im 0 _]) j tF2 j j)) trivial (sS (dNn z33 j j (oMv j j)) trivial (sS (dNn z33 j j (oNl j j j)) trivial (sS (dNn z33 j j (oFA (r':=.mp 24 0 2) j gp j j)) trivial (sS (dNn z33 j j (oLd (cs:=[.im 0 _]) j jb j j)) trivial (sS (dZ z33 j j (ae j j) (dm j)) trivial (sS (dNn z33 j j (ae j j)) trivial (sS (dNn z33 j j (ae j j)) trivial (sD (by kernel_rfl)))))))))))))))))<|us<|Go.ret (Unw.ret ?_)
   cases h
   exact fr aen j
theorem Gh {au:(List aH)} {o5:(List Int)} {r:(Int×Int×Int×Int)} (h:uF au o5=some r):FX 34 [.im 2 false [W 8 ai au],.im 2 false [W 1 eI o5]] (B0 [(false,[.im 0 (I r.1)]),(false,[.im 0 (I r.2.1)]),(false,[.im 0 (I r.2.2.1)]),(false,[.im 0 (I r.2.2.2)])]):=by
 unfold uF at h
 refine gn 67 Try.func34 rfl ?_
 refine gs<|g0 j j (q (ae j j)<|q (ae j j)<|q (ae j j)<|q (ae j j)<|nl)<|us<|gs<|gs<|?_
 obtain ⟨x14,A8,h⟩:=bs h
 refine g0 j j (q (oMv j j)<|q (oCa (xs:=[.v false [.im 2 _]]) (vs:=[(false,[.im 0 _])]) (v:=.v false [.im 0 _]) (CS A8) (.inl j) j XB j (ppC j pp0) j j pb0 j j j)<|q (oUn j j j)<|nl)<|us<|?_
 by_cases hc1:x14=true
 ·rw [if_pos hc1] at h
  refine gF j (nF (iR.2 hc1))<|Go.skip<|us<|gs<|g0 j j (q (ae j j)<|q (ae j j)<|q (ae j j)<|nl)<|us<|gs<|gs<|g0 j j (q (oMv j j)<|q (xI j j EN j)<|q (oMv j j)<|nl)<|us<|Go.block<|?_
  obtain ⟨o,hl,h⟩:=bs h
  refine gl c34 j _ (fun (s:(Int×Int×Int×Int))=>match s with | (uC,Bh,uD,AY)=>mk [(0,D 2 (W 8 ai au)),(1,D 2 (W 1 eI o5)),(8,iv uC),(9,iv Bh),(10,iv uD),(16,D 2 (W 1 eI o5)),(17,iv (o5.length:Int)),(18,iv AY)] []) (fun (o:((Int×Int×Int) ⊕ (Int×Int×Int×Int))) (p:Ex×St)=>match o with | (.inl (ug,zT,uh))=>p.1= .exit 0∧p.2.norm ([8,9,10],[])=mk [(8,iv ug),(9,iv zT),(10,iv uh)] [] | (.inr r2)=>p.1= .ret∧fin Try.prog cfg 34 Try.f34 [.im 2 false [W 8 ai au],.im 2 false [W 1 eI o5]] p.2=some (B0 [(false,[.im 0 (I r2.1)]),(false,[.im 0 (I r2.2.1)]),(false,[.im 0 (I r2.2.2.1)]),(false,[.im 0 (I r2.2.2.2)])])) hl (by kernel_rfl) ?_ ?_ ?_
  ·intro o p hp e
   rcases o with ⟨ug,zT,uh⟩ | r2<;>exact nomatch (hp.1.symm.trans e)
  ·rintro ⟨uC,Bh,uD,AY⟩ o h
   unfold rq at h
   dsimp only at h
   refine gs<|g0 j j (q (oBi j j j j)<|nl)<|us<|gs<|gc h j af (fun hc12 h=>?_) fun hc12 h=>?_
   ·refine Go.skip<|us<|gs<|Go.block<|gs<|?_
    obtain ⟨x21,Lr,h⟩:=bs h
    refine g0 j j (q (oMv j j)<|q (pK j Lr aU j j)<|q (oLd (cs:=[.im 2 _]) j tF2 j j)<|q (ae j j)<|q (ae j j)<|nl)<|us<|gs<|gs<|?_
    obtain ⟨x27,hx27,h⟩:=bs h
    obtain ⟨Ry,Aq,h⟩:=bs h
    refine gX c34 j j j (mk [(0,D 2 (W 8 ai au)),(1,D 2 (W 1 eI o5)),(8,iv uC),(9,iv Bh),(10,iv uD),(12,iv x21),(16,D 2 (W 1 eI o5)),(17,iv (o5.length:Int)),(18,iv AY),(41,bv Ry)] []) ?_ ?_
    ·refine xq (oMv j j)<|xq (oMv j j)<|xq (xI j j Ko j)<|xq (oBi j j j j)<|xq (oCa (xs:=[.v false [.im 2 _],.v false [.im 0 _],.v false [.im 0 _]]) (vs:=[(false,[.im 0 _])]) (v:=.v false [.im 0 _]) (dK hx27) (.inl j) j iw j (ppC j (ppC j (ppC j pp0))) j j pb0 j j j)<|xq (oUn j j j)<|xq (oMv j j)<|?_
     refine ic Aq (fun hc13 Aq=>?_) fun hc13 Aq=>?_
     ·refine xqT j j (nF (iR.2 hc13)) (oMv j j)<|xqT j j (nF (iR.2 hc13)) (oBi j j j j)<|xqT j j (nF (iR.2 hc13)) (oMv j j)<|?_
      refine ic Aq (fun nU Aq=>?_) fun nU Aq=>?_
      ·obtain ⟨x36,SH,Aq⟩:=bs Aq
       cases Aq
       exact xqT j j (af.2 nU) (oMv j j)<|xqT j j (af.2 nU) (oMv j j)<|xqT j j (af.2 nU) (oBi j j j j)<|xqT j j (af.2 nU) (pK j SH aU j j)<|xqT j j (af.2 nU) (oLd (cs:=[.im 2 _]) j tF2 j j)<|xqT j j (af.2 nU) (oMv j j)<|xqT j j (af.2 nU) (oBi j j j j)<|xqT j j (nF (iR.2 hc13)) (bf j j (af.2 nU) j)<|xq (bD j j (nF (iR.2 hc13)) j)<|xn
      ·cases Aq
       exact ah j j (byF af nU) j<|ah j j (byF af nU) j<|ah j j (byF af nU) j<|ah j j (byF af nU) j<|ah j j (byF af nU) j<|ah j j (byF af nU) j<|ah j j (byF af nU) j<|xqT j j (nF (iR.2 hc13)) (bD j j (byF af nU) j)<|xq (bD j j (nF (iR.2 hc13)) j)<|xn
     ·cases Aq
      exact ah j j (nT (byF iR hc13)) j<|ah j j (nT (byF iR hc13)) j<|ah j j (nT (byF iR hc13)) j<|Oj j j j<|Oj j j j<|Oj j j j<|Oj j j j<|Oj j j j<|Oj j j j<|Oj j j j<|ah j j (nT (byF iR hc13)) j<|xq (bf j j (nT (byF iR hc13)) j)<|xn
    ·refine us<|gc h j iR (fun Vu h=>?_) fun Vu h=>?_
     ·refine gs<|g0 j j (q (ae j j)<|q (ae j j)<|q (ae j j)<|q (ae j j)<|nl)<|us<|Go.ret (Unw.ret ?_)
      cases h
      exact ⟨j,(fo aeo j)⟩
     ·refine Go.skip<|us<|gs<|?_
      obtain ⟨x45,OC,h⟩:=bs h
      refine g0 j j (q (oMv j j)<|q (oMv j j)<|q (oMv j j)<|q (pK j OC xX j j)<|q (oFA (r':=.im 2 _) j H6 j j)<|q (oLd (cs:=[.im 2 _]) j tF2 j j)<|q (oBi j j j j)<|q (ae j j)<|nl)<|us<|gs<|?_
      obtain ⟨x52,Ii,h⟩:=bs h
      refine g0 j j (q (oMv j j)<|q (oMv j j)<|q (oMv j j)<|q (pK j Ii xX j j)<|q (oFA (r':=.im 2 _) j Ci j j)<|q (oLd (cs:=[.im 2 _]) j tF2 j j)<|q (oBi j j j j)<|q (ae j j)<|nl)<|us<|?_
      obtain ⟨x59,aew,h⟩:=bs h
      refine g0 j j (q (oMv j j)<|q (oMv j j)<|q (oMv j j)<|q (pK j aew xX j j)<|q (oFA (r':=.im 2 _) j FD j j)<|q (oLd (cs:=[.im 2 _]) j tF2 j j)<|q (oBi j j j j)<|q (ae j j)<|nl)<|Unw.blk<|us<|g0 j j (q (oBi j j j j)<|q (oMv j j)<|nl)<|Unw.nil<|?_
      cases h
      exact ⟨j,(by kernel_rfl)⟩
   ·refine Go.exit<|ux<|Unw.nil<|?_
    cases h
    exact ⟨j,(by kernel_rfl)⟩
  ·rintro ⟨e,st⟩ hp
   rcases o with ⟨ug,zT,uh⟩ | r2
   ·dsimp only at h
    obtain ⟨he,hst⟩:=hp
    obtain rfl:e= .exit 0:=he
    refine Unw.jZ<|us<|gs<|g2 c34 j j hst (q (oMv j j)<|q (oMv j j)<|q (oMv j j)<|q (ae j j)<|q (ae j j)<|q (ae j j)<|q (ae j j)<|nl)<|us<|Go.ret (Unw.ret ?_)
    cases h
    exact fr aeo j
   ·dsimp only at h
    obtain ⟨he,hfin⟩:=hp
    obtain rfl:e= .ret:=he
    cases h
    exact Unw.ret (nP hfin)
 ·rw [if_neg hc1] at h
  refine gT j (nT (byF iR hc1))<|gs<|g0 j j (q (ae j j)<|q (ae j j)<|q (ae j j)<|q (ae j j)<|nl)<|us<|Go.ret (Unw.ret ?_)
  cases h
  exact fr aeo j
theorem Ku {s_0:aB} {mV:Int} {jR:Int} {r:(cO×aB)} (h:uj s_0 mV jR=some r):FX 181 [.ptr true [(.imm,W 1 (eK .u8) s_0.code),(.imm,I s_0.at_),(.imm,.sc (.int .u64 s_0.seed))],.im 2 false [I mV],.im 2 false [I jR]] ([(true,J 0 (nS r.1))],[.ptr true [(.imm,W 1 (eK .u8) r.2.code),(.imm,I r.2.at_),(.imm,.sc (.int .u64 r.2.seed))]]):=by
 unfold uj at h
 refine jP (A:=[(0,M 0),(1,D 2 (I mV)),(2,D 2 (I jR))]) (B:=[(0,Od (G 1 (bg s_0))),(1,none),(2,none)]) (nt:=37) rfl rfl Try.func181 rfl rfl rfl rfl ?_
 refine gs<|g0 j j (q (oAl j jW (tkI (tkI (tkI (tkI tk0)))))<|nl)<|us<|gs<|?_
 obtain ⟨x11,Us,h⟩:=bs h
 refine g0 j j (q (oMv j j)<|q (oMv j j)<|q (oBi j j j j)<|q (oCa (xs:=[.v false [.mp 0 0 0],.v false [.im 0 _]]) (vs:=[(false,[.im 0 _])]) (v:=.v false [.im 0 _]) (aY Us) (.inl j) j iq j (ppP j j j (ppC j pp0)) j j (pbP j j pb0) j j j)<|q (oBu (cs:=[.im 0 _,.im 0 _,.im 0 _,.im 0 _]) j Qu j)<|q (oAl j jW (tkI (tkI (tkI (tkI tk0)))))<|q (oSt jW j j j (tkI (tkI (tkI (tkI tk0)))) j j j)<|nl)<|us<|gs<|?_
 obtain ⟨x16,hx16,h⟩:=bs h
 refine g1 j j (mk [(0,M 0),(1,iv mV),(2,iv jR),(6,M 6),(7,M 7)] [(0,Od (G 1 (bg x11.2))),(6,Oa [C (I 0),C (I 0),C (I 0),C (I 0)]),(7,Oa [C (I x11.1),C (I 0),C (I 0),C (I 0)])]) (q (oMv j j)<|q (oMv j j)<|q (oBi j j j j)<|q (oCa (xs:=[.v false [.mp 0 0 0],.v false [.im 0 _]]) (vs:=[(false,[.im 0 _])]) (v:=.v false [.im 0 _]) (aY hx16) (.inl j) j iq j (ppP j j j (ppC j pp0)) j j (pbP j j pb0) j j j)<|q (oFA (r':=.mp 7 0 1) j mZ j j)<|q (oSt tF2 j j j (tkI tk0) j j j)<|nl)<|us<|gs<|?_
 obtain ⟨x23,Ih,h⟩:=bs h
 obtain ⟨x24,hx24,h⟩:=bs h
 refine g1 j j (mk [(0,M 0),(1,iv mV),(2,iv jR),(6,M 6),(7,M 7)] [(0,Od (G 1 (bg x16.2))),(6,Oa [C (I 0),C (I 0),C (I 0),C (I 0)]),(7,Oa [C (I x11.1),C (I x16.1),C (I 0),C (I 0)])]) (q (oMv j j)<|q (oMv j j)<|q (oFA (r':=.mp 7 0 0) j pz j j)<|q (oLd (cs:=[.im 0 _]) j tF2 j j)<|q (oBi j j j j)<|q (oCa (xs:=[.v false [.im 0 _],.v false [.im 0 _]]) (vs:=[(false,[.im 0 _])]) (v:=.v false [.im 0 _]) (qK Ih) (.inl j) j y7 j (ppC j (ppC j pp0)) j j pb0 j j j)<|q (oCa (xs:=[.v false [.mp 0 0 0],.v false [.im 0 _]]) (vs:=[(false,[.im 0 _])]) (v:=.v false [.im 0 _]) (aY hx24) (.inl j) j iq j (ppP j j j (ppC j pp0)) j j (pbP j j pb0) j j j)<|q (oBi j j j j)<|q (oFA (r':=.mp 7 0 2) j wu j j)<|q (oSt tF2 j j j (tkI tk0) j j j)<|nl)<|us<|gs<|?_
 obtain ⟨x32,hx32,h⟩:=bs h
 obtain ⟨x33,FK,h⟩:=bs h
 refine g1 j j (mk [(0,M 0),(2,iv jR),(6,M 6),(7,M 7)] [(0,Od (G 1 (bg x24.2))),(6,Oa [C (I 0),C (I 0),C (I 0),C (I 0)]),(7,Oa [C (I x11.1),C (I x16.1),C (I (w64 (1+x24.1))),C (I 0)])]) (q (oMv j j)<|q (oMv j j)<|q (oFA (r':=.mp 7 0 1) j mZ j j)<|q (oLd (cs:=[.im 0 _]) j tF2 j j)<|q (oBi j j j j)<|q (oCa (xs:=[.v false [.im 0 _],.v false [.im 0 _]]) (vs:=[(false,[.im 0 _])]) (v:=.v false [.im 0 _]) (qK hx32) (.inl j) j y7 j (ppC j (ppC j pp0)) j j pb0 j j j)<|q (oCa (xs:=[.v false [.mp 0 0 0],.v false [.im 0 _]]) (vs:=[(false,[.im 0 _])]) (v:=.v false [.im 0 _]) (aY FK) (.inl j) j iq j (ppP j j j (ppC j pp0)) j j (pbP j j pb0) j j j)<|q (oBi j j j j)<|q (oFA (r':=.mp 7 0 3) j wz j j)<|q (oSt tF2 j j j (tkI tk0) j j j)<|nl)<|us<|gs<|g1 j j (mk [(6,M 6),(7,M 7)] [(0,Od (G 1 (bg x33.2))),(6,Oa [C (I 0),C (I 0),C (I 0),C (I 0)]),(7,Oa [C (I x11.1),C (I x16.1),C (I (w64 (1+x24.1))),C (I (w64 (1+x33.1)))])]) (q (oLd (cs:=[.im 0 _,.im 0 _,.im 0 _,.im 0 _]) j jW j j)<|q (oSt jW j j j (tkI (tkI (tkI (tkI tk0)))) j j j)<|nl)<|us<|Go.ret (Unw.ret ?_)
 cases h
 exact fr af7 j
theorem Kv {s_0:aB} {Lh:ByteArray} {r:(dH×aB)} (h:uk s_0 Lh=some r):FX 128 [.ptr true [(.imm,W 1 (eK .u8) s_0.code),(.imm,I s_0.at_),(.imm,.sc (.int .u64 s_0.seed))],.im 2 false [Y Lh]] ([(true,[.im 0 (Y r.1.Id),.im 0 (Y r.1.Fb),.im 0 (I r.1.Number),.im 0 (Y r.1.dX.gm),.im 0 (I r.1.dX.eF),.im 0 (I r.1.dX.bC),.im 0 (I r.1.Width),.im 0 (I r.1.Length),.ow 0 4 (List.map gJ r.1.aG)])],[.ptr true [(.imm,W 1 (eK .u8) r.2.code),(.imm,I r.2.at_),(.imm,.sc (.int .u64 r.2.seed))]]):=by
 unfold uk at h
 refine jP (A:=[(0,M 0),(1,D 2 (Y Lh))]) (B:=[(0,Od (G 1 (bg s_0))),(1,none)]) (nt:=43) rfl rfl Try.func128 rfl rfl rfl rfl ?_
 refine gs<|g0 j j (q (oAl j EM (tkI (tkI (tkI (tkI (tkI (tkI (tkI (tkI (tkN tk0))))))))))<|nl)<|us<|gs<|?_
 obtain ⟨x10,CO,h⟩:=bs h
 obtain ⟨x12,Af,h⟩:=bs h
 refine g1 j j (mk [(0,M 0),(1,sv Lh),(4,M 4)] [(0,Od (G 1 (bg s_0))),(4,Oa [C (Y (⟨#[]⟩:ByteArray)),C (Y (⟨#[]⟩:ByteArray)),C (I 0),C (Y (⟨#[]⟩:ByteArray)),C (I 0),C (I 0),C (I 0),C (I 0),Z (W 4 gJ ([]:List cO))])]) (q (oMv j j)<|q (oMv j j)<|q (oBS (es:=List.map eS ([(⟨#[102,49]⟩:ByteArray),(⟨#[102,50]⟩:ByteArray)]:List ByteArray)) j J9 j (ptC j (fxI fx0) j (ptC j (fxI fx0) j pt0)) (gY j fun _=>j))<|q (oCa (xs:=[.v false [.mp 0 0 0],.v false [.own 9 0 0]]) (vs:=[(false,[.im 0 _])]) (v:=.v false [.im 0 _]) (CJ CO) (.inl j) j J6 j (ppP j j j (ppC j pp0)) j j (pbP j j pb0) j j j)<|q (oMv j j)<|q (oCa (xs:=[.v false [.mp 0 0 0],.v false [.im 0 _]]) (vs:=[(false,[.im 0 _])]) (v:=.v false [.im 0 _]) (aY Af) (.inl j) j iq j (ppP j j j (ppC j pp0)) j j (pbP j j pb0) j j j)<|q (oBu (cs:=[.im 0 _,.im 0 _,.im 0 _,.im 0 _,.im 0 _,.im 0 _,.im 0 _,.im 0 _,.nil]) j ahG j)<|q (oAl j EM (tkI (tkI (tkI (tkI (tkI (tkI (tkI (tkI (tkN tk0))))))))))<|q (oSt EM j j j (tkI (tkI (tkI (tkI (tkI (tkI (tkI (tkI (tkN tk0))))))))) j j j)<|nl)<|us<|gs<|?_
 obtain ⟨x15,Jn,h⟩:=bs h
 refine g1 j j (mk [(0,M 0),(4,M 4),(5,M 5)] [(0,Od (G 1 (bg x12.2))),(4,Oa [C (Y (⟨#[]⟩:ByteArray)),C (Y (⟨#[]⟩:ByteArray)),C (I 0),C (Y (⟨#[]⟩:ByteArray)),C (I 0),C (I 0),C (I 0),C (I 0),Z (W 4 gJ ([]:List cO))]),(5,Oa [C (Y Lh),C (Y x10.1),C (I x12.1),C (Y (⟨#[]⟩:ByteArray)),C (I 0),C (I 0),C (I 0),C (I 0),Z (W 4 gJ ([]:List cO))])]) (q (oMv j j)<|q (oCa (xs:=[.v false [.mp 0 0 0]]) (vs:=[(true,[.im 0 _,.im 0 _,.im 0 _])]) (v:=.v true [.im 0 _,.im 0 _,.im 0 _]) (Ie Jn) (.inl j) j Uh j (ppP j j j pp0) j j (pbP j j pb0) j j j)<|q (oFA (r':=.mp 5 0 3) j Jl j j)<|q (oSt Am j j j (tkI (tkI (tkI tk0))) j j j)<|nl)<|us<|gs<|?_
 obtain ⟨x18,Gp,h⟩:=bs h
 refine g1 j j (mk [(0,M 0),(4,M 4),(5,M 5)] [(0,Od (G 1 (bg x15.2))),(4,Oa [C (Y (⟨#[]⟩:ByteArray)),C (Y (⟨#[]⟩:ByteArray)),C (I 0),C (Y (⟨#[]⟩:ByteArray)),C (I 0),C (I 0),C (I 0),C (I 0),Z (W 4 gJ ([]:List cO))]),(5,Oa [C (Y Lh),C (Y x10.1),C (I x12.1),C (Y x15.1.gm),C (I x15.1.eF),C (I x15.1.bC),C (I 0),C (I 0),Z (W 4 gJ ([]:List cO))])]) (q (oMv j j)<|q (oCa (xs:=[.v false [.mp 0 0 0],.v false [.im 0 _]]) (vs:=[(false,[.im 0 _])]) (v:=.v false [.im 0 _]) (aY Gp) (.inl j) j iq j (ppP j j j (ppC j pp0)) j j (pbP j j pb0) j j j)<|q (oBi j j j j)<|q (oFA (r':=.mp 5 0 6) j H7 j j)<|q (oSt tF2 j j j (tkI tk0) j j j)<|nl)<|us<|gs<|?_
 obtain ⟨x22,xg,h⟩:=bs h
 refine g1 j j (mk [(0,M 0),(4,M 4),(5,M 5)] [(0,Od (G 1 (bg x18.2))),(4,Oa [C (Y (⟨#[]⟩:ByteArray)),C (Y (⟨#[]⟩:ByteArray)),C (I 0),C (Y (⟨#[]⟩:ByteArray)),C (I 0),C (I 0),C (I 0),C (I 0),Z (W 4 gJ ([]:List cO))]),(5,Oa [C (Y Lh),C (Y x10.1),C (I x12.1),C (Y x15.1.gm),C (I x15.1.eF),C (I x15.1.bC),C (I (w64 (100+x18.1))),C (I 0),Z (W 4 gJ ([]:List cO))])]) (q (oMv j j)<|q (oCa (xs:=[.v false [.mp 0 0 0],.v false [.im 0 _]]) (vs:=[(false,[.im 0 _])]) (v:=.v false [.im 0 _]) (aY xg) (.inl j) j iq j (ppP j j j (ppC j pp0)) j j (pbP j j pb0) j j j)<|q (oBi j j j j)<|q (oFA (r':=.mp 5 0 7) j H8 j j)<|q (oSt tF2 j j j (tkI tk0) j j j)<|nl)<|us<|gs<|gs<|?_
 obtain ⟨x26,Gn,h⟩:=bs h
 refine g1 j j (mk [(0,M 0),(4,M 4),(5,M 5)] [(0,Od (G 1 (bg x22.2))),(4,Oa [C (Y (⟨#[]⟩:ByteArray)),C (Y (⟨#[]⟩:ByteArray)),C (I 0),C (Y (⟨#[]⟩:ByteArray)),C (I 0),C (I 0),C (I 0),C (I 0),Z (W 4 gJ ([]:List cO))]),(5,Oa [C (Y Lh),C (Y x10.1),C (I x12.1),C (Y x15.1.gm),C (I x15.1.eF),C (I x15.1.bC),C (I (w64 (100+x18.1))),C (I (w64 (100+x22.1))),Z (W 4 gJ ([]:List cO))])]) (q (oMv j j)<|q (oCa (xs:=[.v false [.mp 0 0 0],.v false [.im 0 _]]) (vs:=[(false,[.im 0 _])]) (v:=.v false [.im 0 _]) (aY Gn) (.inl j) j iq j (ppP j j j (ppC j pp0)) j j (pbP j j pb0) j j j)<|q (ae j j)<|nl)<|us<|Go.block<|?_
 obtain ⟨o,hl,h⟩:=bs h
 refine gl ab5 j _ (fun (s:(Int×(List Int)×Int×Int×(List cO)))=>match s with | (Le,Eu,Ew,Ey,Ez)=>mk [(0,M 0),(4,M 4),(5,M 5),(6,iv Le)] [(0,Od [Ct 1 (W 1 (eK .u8) Eu),C (I Ew),C (.sc (.int .u64 Ey))]),(4,Oa [C (Y (⟨#[]⟩:ByteArray)),C (Y (⟨#[]⟩:ByteArray)),C (I 0),C (Y (⟨#[]⟩:ByteArray)),C (I 0),C (I 0),C (I 0),C (I 0),Z (W 4 gJ ([]:List cO))]),(5,Oa [C (Y Lh),C (Y x10.1),C (I x12.1),C (Y x15.1.gm),C (I x15.1.eF),C (I x15.1.bC),C (I (w64 (100+x18.1))),C (I (w64 (100+x22.1))),Z (W 4 gJ Ez)])]) (fun (o:((List Int)×Int×Int×(List cO))) (p:Ex×St)=>match o with | (zU,zV,zW,zX)=>p.1= .exit 0∧p.2.norm ([4,5],[0,4,5])=mk [(4,M 4),(5,M 5)] [(0,Od [Ct 1 (W 1 (eK .u8) zU),C (I zV),C (.sc (.int .u64 zW))]),(4,Oa [C (Y (⟨#[]⟩:ByteArray)),C (Y (⟨#[]⟩:ByteArray)),C (I 0),C (Y (⟨#[]⟩:ByteArray)),C (I 0),C (I 0),C (I 0),C (I 0),Z (W 4 gJ ([]:List cO))]),(5,Oa [C (Y Lh),C (Y x10.1),C (I x12.1),C (Y x15.1.gm),C (I x15.1.eF),C (I x15.1.bC),C (I (w64 (100+x18.1))),C (I (w64 (100+x22.1))),Z (W 4 gJ zX)])]) hl (by kernel_rfl) ?_ ?_ ?_
 ·intro o p hp e
  obtain ⟨zU,zV,zW,zX⟩:=o
  exact nomatch (hp.1.symm.trans e)
 ·rintro ⟨Le,Eu,Ew,Ey,Ez⟩ o h
  unfold lU at h
  dsimp only at h
  refine gs<|gs<|g0 j j (q (oMv j j)<|q (oBi j j j j)<|nl)<|us<|gc h j af (fun hc3 h=>?_) fun hc3 h=>?_
  ·refine Go.skip<|us<|gs<|Go.block<|?_
   obtain ⟨x38,hx38,h⟩:=bs h
   obtain ⟨x40,PE,h⟩:=bs h
   refine gd ab5 j j j j (mk [(0,M 0),(4,M 4),(5,M 5),(6,iv Le)] [(0,Od (G 1 (bg x38.2))),(4,Oa [C (Y (⟨#[]⟩:ByteArray)),C (Y (⟨#[]⟩:ByteArray)),C (I 0),C (Y (⟨#[]⟩:ByteArray)),C (I 0),C (I 0),C (I 0),C (I 0),Z (W 4 gJ ([]:List cO))]),(5,Oa [C (Y Lh),C (Y x10.1),C (I x12.1),C (Y x15.1.gm),C (I x15.1.eF),C (I x15.1.bC),C (I (w64 (100+x18.1))),C (I (w64 (100+x22.1))),Z (W 4 gJ x40)])]) (t j j (oMv j j)<|t j j (oFA (r':=.mp 5 0 6) j H7 j j)<|t j j (oLd (cs:=[.im 0 _]) j tF2 j j)<|t j j (oFA (r':=.mp 5 0 7) j H8 j j)<|t j j (oLd (cs:=[.im 0 _]) j tF2 j j)<|sK (O:=[5]) j j j (dN Yt j (oFA (r':=.mp 5 0 8) j sZ j j))<|sK (O:=[5]) j j j (dN Yt j (oLd (cs:=[.own 5 0 8]) j FI j j))<|sS (dN Yt j (oCa (xs:=[.v false [.mp 0 0 0],.v false [.im 0 _],.v false [.im 0 _]]) (vs:=[(true,[.im 0 _,.im 0 _,.im 0 _,.im 0 _])]) (v:=.v true [.im 0 _,.im 0 _,.im 0 _,.im 0 _]) (Ku hx38) (.inl j) j Sv j (ppP j j j (ppC j (ppC j pp0))) j j (pbP j j pb0) j j j)) (kY ⟨j,trivial⟩ (kY ⟨j,trivial⟩ trivial)) (sS (dN Yt j (oBS (es:=List.map gJ ([x38.1]:List cO)) j Lp j (ptC j (fxI (fxI (fxI (fxI fx0)))) j pt0) (gY j fun _=>j))) (kY ⟨j,trivial⟩ (kY ⟨j,trivial⟩ trivial)) (sS (dN Yt j (Je (en:=gJ) (M:=([x38.1]:List cO)) j PE j Lp j j Pz (.inl ⟨_,j⟩) j j j j (Ai j j) (gY j fun _=>j))) (kN j (kN j trivial)) (t j j (oFA (r':=.mp 5 0 8) j sZ j j)<|sS (dN Yt j (oSt FI j j j (tkO j j tk0) j j j)) (kN j (kN j trivial)) (sD (by kernel_rfl))))))<|Unw.blk<|us<|g0 j j (q (oMv j j)<|q (oBi j j j j)<|q (ae j j)<|nl)<|Unw.nil<|?_
   cases h
   exact ⟨j,(by kernel_rfl)⟩
  ·refine Go.exit<|ux<|Unw.nil<|?_
   cases h
   exact ⟨j,(by kernel_rfl)⟩
 ·rintro ⟨e,st⟩ hp
  obtain ⟨zU,zV,zW,zX⟩:=o
  dsimp only at h
  obtain ⟨he,hst⟩:=hp
  obtain rfl:e= .exit 0:=he
  refine Unw.jZ<|us<|gs<|g2 ab5 j j hst (q (oLd (cs:=[.im 0 _,.im 0 _,.im 0 _,.im 0 _,.im 0 _,.im 0 _,.im 0 _,.im 0 _,.own 5 0 8]) j EM j j)<|q (oSt EM j j j (tkI (tkI (tkI (tkI (tkI (tkI (tkI (tkI (tkO j j tk0))))))))) j j j)<|nl)<|us<|Go.ret (Unw.ret ?_)
  cases h
  exact fr afJ j
theorem OW {s_0:aB} {r:((List dH)×aB)} (h:AZ s_0=some r):FX 75 [.ptr true [(.imm,W 1 (eK .u8) s_0.code),(.imm,I s_0.at_),(.imm,.sc (.int .u64 s_0.seed))]] ([(false,[.ow 0 9 (List.map dG r.1)])],[.ptr true [(.imm,W 1 (eK .u8) r.2.code),(.imm,I r.2.at_),(.imm,.sc (.int .u64 r.2.seed))]]):=by
 unfold AZ at h
 refine jP (A:=[(0,M 0)]) (B:=[(0,Od (G 1 (bg s_0)))]) (nt:=26) rfl rfl Try.func75 rfl rfl rfl rfl ?_
 refine gs<|g0 j j (q (DI j j afC)<|nl)<|us<|gs<|g0 j j (q (oBS (es:=List.map eS ([(⟨#[97]⟩:ByteArray),(⟨#[98]⟩:ByteArray),(⟨#[99]⟩:ByteArray),(⟨#[100]⟩:ByteArray)]:List ByteArray)) j J9 j (ptC j (fxI fx0) j (ptC j (fxI fx0) j (ptC j (fxI fx0) j (ptC j (fxI fx0) j pt0)))) (gY j fun _=>j))<|q (nO j j j j j)<|nl)<|us<|gs<|?_
 obtain ⟨x9,hx9,h⟩:=bs h
 refine g0 j j (q (oMv j j)<|q (oCa (xs:=[.v false [.mp 0 0 0],.v false [.im 0 _]]) (vs:=[(false,[.im 0 _])]) (v:=.v false [.im 0 _]) (aY hx9) (.inl j) j iq j (ppP j j j (ppC j pp0)) j j (pbP j j pb0) j j j)<|q (ae j j)<|nl)<|us<|gs<|g1 j j (mk [(0,M 0),(3,H 3 0),(4,iv x9.1)] [(0,Od (G 1 (bg x9.2))),(3,Oc [Z (W 1 eS ([(⟨#[97]⟩:ByteArray),(⟨#[98]⟩:ByteArray),(⟨#[99]⟩:ByteArray),(⟨#[100]⟩:ByteArray)]:List ByteArray))])]) (q (oBS (es:=List.map dG ([]:List dH)) j SB j pt0 (VZ j))<|q (nO j j j j j)<|nl)<|us<|gs<|gs<|g0 j j (q (ae j j)<|nl)<|us<|Go.block<|?_
 obtain ⟨o,hl,h⟩:=bs h
 refine gl c75 j _ (fun (s:(Int×(List Int)×Int×Int×(List dH)))=>match s with | (Ji,EC,ED,EE,EF)=>mk [(0,M 0),(3,H 3 0),(4,iv x9.1),(5,H 5 0),(6,iv Ji)] [(0,Od [Ct 1 (W 1 (eK .u8) EC),C (I ED),C (.sc (.int .u64 EE))]),(3,Oc [Z (W 1 eS ([(⟨#[97]⟩:ByteArray),(⟨#[98]⟩:ByteArray),(⟨#[99]⟩:ByteArray),(⟨#[100]⟩:ByteArray)]:List ByteArray))]),(5,Oc [Z (W 9 dG EF)])]) (fun (o:((List Int)×Int×Int×(List dH))) (p:Ex×St)=>match o with | (zY,zZ,Aa,Ac)=>p.1= .exit 0∧p.2.norm ([5],[0,5])=mk [(5,H 5 0)] [(0,Od [Ct 1 (W 1 (eK .u8) zY),C (I zZ),C (.sc (.int .u64 Aa))]),(5,Oc [Z (W 9 dG Ac)])]) hl (by kernel_rfl) ?_ ?_ ?_
 ·intro o p hp e
  obtain ⟨zY,zZ,Aa,Ac⟩:=o
  exact nomatch (hp.1.symm.trans e)
 ·rintro ⟨Ji,EC,ED,EE,EF⟩ o h
  unfold nG at h
  dsimp only at h
  refine gs<|gs<|g0 j j (q (oMv j j)<|q (oMv j j)<|q (oBi j j j j)<|nl)<|us<|gc h j af (fun hc3 h=>?_) fun hc3 h=>?_
  ·refine Go.skip<|us<|gs<|Go.block<|?_
   obtain ⟨x20,SE,h⟩:=bs h
   obtain ⟨x22,xg,h⟩:=bs h
   obtain ⟨x24,hx24,h⟩:=bs h
   refine g0 j j (q (oMv j j)<|q (oMv j j)<|q (oMv j j)<|q (oMv j j)<|q (bK j SE J9 j j j j)<|q (fH (cs:=[.im 0 _]) j tF9 j j j j (aA SE) j j)<|q (oCr (xs:=[.v false [.mp 0 0 0],.v false [.im 0 _]]) (vs:=[(true,[.im 0 _,.im 0 _,.im 0 _,.im 0 _,.im 0 _,.im 0 _,.im 0 _,.im 0 _,.own 22 0 0])]) (v:=.v true [.im 0 _,.im 0 _,.im 0 _,.im 0 _,.im 0 _,.im 0 _,.im 0 _,.im 0 _,.own 22 0 0]) (c:=⟨.sh,0,_⟩) (cs:=[]) (Kv xg) (.inl j) j Vf j (ppP j j j (ppC j pp0)) j j (pbP j j pb0) j j j)<|q (oBS (es:=List.map dG ([x22.1]:List dH)) j SB j (ptC j (fxI (fxI (fxI (fxI (fxI (fxI (fxI (fxI (fxO j j fx0))))))))) j pt0) (VZ j))<|q (Je (en:=dG) (M:=([x22.1]:List dH)) j hx24 j SB j j aaq (.inl ⟨_,j⟩) j j j j (Ai j j) (VZ j))<|q (nO j j j j j)<|nl)<|Unw.blk<|us<|g1 j j (mk [(0,M 0),(3,H 3 0),(4,iv x9.1),(5,H 5 0),(6,iv Ji)] [(0,Od (G 1 (bg x22.2))),(3,Oc [Z (W 1 eS ([(⟨#[97]⟩:ByteArray),(⟨#[98]⟩:ByteArray),(⟨#[99]⟩:ByteArray),(⟨#[100]⟩:ByteArray)]:List ByteArray))]),(5,Oc [Z (W 9 dG x24)])]) (q (oMv j j)<|q (oBi j j j j)<|q (ae j j)<|nl)<|Unw.nil<|?_
   cases h
   exact ⟨j,(by kernel_rfl)⟩
  ·refine Go.exit<|ux<|Unw.nil<|?_
   cases h
   exact ⟨j,(by kernel_rfl)⟩
 ·rintro ⟨e,st⟩ hp
  obtain ⟨zY,zZ,Aa,Ac⟩:=o
  dsimp only at h
  obtain ⟨he,hst⟩:=hp
  obtain rfl:e= .exit 0:=he
  refine Unw.jZ<|us<|gs<|g2 c75 j j hst (q (oMv j j)<|q (nO j j j j j)<|nl)<|us<|Go.ret (Unw.ret ?_)
  cases h
  exact fr ahS j
theorem MJ {fU:(List Int)} {r:(List dH)} (h:wY fU=some r):FX 35 [.im 2 false [W 1 (eK .u8) fU]] (B0 [(false,[.ow 0 9 (List.map dG r)])]):=by
 unfold wY at h
 refine gn 8 Try.func35 rfl ?_
 refine gs<|g0 j j (q (DI j j afC)<|nl)<|us<|gs<|?_
 obtain ⟨x5,hx5,h⟩:=bs h
 refine g0 j j (q (oMv j j)<|q (oCp (xs:=[.v false [.im 2 _]]) (Ic hx5) (.inl j) j XA j (ppC j pp0) j j pb0 j)<|q (abl j j)<|nl)<|us<|gs<|?_
 obtain ⟨x7,hx7,h⟩:=bs h
 refine g0 j j (q (oMv j j)<|q (oCr (xs:=[.v false [.mp 5 0 0]]) (vs:=[(false,[.own 7 0 0])]) (v:=.v false [.own 7 0 0]) (c:=⟨.sh,0,_⟩) (cs:=[]) (OW hx7) (.inl j) j acs j (ppP j j j pp0) j j (pbP j j pb0) j j j)<|q (nO j j j j j)<|nl)<|us<|Go.ret (Unw.ret ?_)
 cases h
 exact fr ahL j
theorem Lu {b_0:cO} {mV:Int} {jR:Int} {r:Bool} (h:mJ b_0 mV jR=some r):FX 184 [.im 2 true (nS b_0),.im 2 false [I mV],.im 2 false [I jR]] (B0 [(false,[.im 0 (V r)])]):=by
 unfold mJ at h
 refine gn 35 Try.func184 rfl ?_
 refine gs<|g0 j j (q (oBx j jW j (tkI (tkI (tkI (tkI tk0)))))<|q (ae j j)<|nl)<|us<|gs<|?_
 obtain ⟨x10,CO,h⟩:=bs h
 obtain ⟨o6,hm4,h⟩:=bs h
 refine gX afx j j j (mk [(6,bv o6)] []) ?_ ?_
 ·refine xq (oFA (r':=.mp 3 0 0) j pz j j)<|xq (oLd (cs:=[.im 0 _]) j tF2 j j)<|xq (oMv j j)<|xq (oCa (xs:=[.v false [.im 0 _],.v false [.im 0 _],.v false [.im 2 _]]) (vs:=[(false,[.im 0 _])]) (v:=.v false [.im 0 _]) (dK CO) (.inl j) j iw j (ppC j (ppC j (ppC j pp0))) j j pb0 j j j)<|xq (oMv j j)<|?_
  refine ic hm4 (fun hc1 hm4=>?_) fun hc1 hm4=>?_
  ·obtain ⟨x15,Jn,hm4⟩:=bs hm4
   refine xqT j j (iR.2 hc1) (oFA (r':=.mp 3 0 1) j mZ j j)<|xqT j j (iR.2 hc1) (oLd (cs:=[.im 0 _]) j tF2 j j)<|xqT j j (iR.2 hc1) (oMv j j)<|xqT j j (iR.2 hc1) (oCa (xs:=[.v false [.im 0 _],.v false [.im 0 _],.v false [.im 2 _]]) (vs:=[(false,[.im 0 _])]) (v:=.v false [.im 0 _]) (dK Jn) (.inl j) j iw j (ppC j (ppC j (ppC j pp0))) j j pb0 j j j)<|xq (bf j j (iR.2 hc1) j)<|xq (oMv j j)<|?_
   refine ic hm4 (fun hc2 hm4=>?_) fun hc2 hm4=>?_
   ·obtain ⟨x24,hx24,hm4⟩:=bs hm4
    refine xqT j j (iR.2 hc2) (oFA (r':=.mp 3 0 2) j wu j j)<|xqT j j (iR.2 hc2) (oLd (cs:=[.im 0 _]) j tF2 j j)<|xqT j j (iR.2 hc2) (oMv j j)<|xqT j j (iR.2 hc2) (oFA (r':=.mp 3 0 0) j pz j j)<|xqT j j (iR.2 hc2) (oLd (cs:=[.im 0 _]) j tF2 j j)<|xqT j j (iR.2 hc2) (oBi j j j j)<|xqT j j (iR.2 hc2) (oCa (xs:=[.v false [.im 0 _],.v false [.im 0 _],.v false [.im 0 _]]) (vs:=[(false,[.im 0 _])]) (v:=.v false [.im 0 _]) (dK hx24) (.inl j) j iw j (ppC j (ppC j (ppC j pp0))) j j pb0 j j j)<|xq (bf j j (iR.2 hc2) j)<|xq (oMv j j)<|?_
    refine ic hm4 (fun hc3 hm4=>?_) fun hc3 hm4=>?_
    ·obtain ⟨x33,FK,hm4⟩:=bs hm4
     cases hm4
     exact xqT j j (iR.2 hc3) (oFA (r':=.mp 3 0 3) j wz j j)<|xqT j j (iR.2 hc3) (oLd (cs:=[.im 0 _]) j tF2 j j)<|xqT j j (iR.2 hc3) (oMv j j)<|xqT j j (iR.2 hc3) (oFA (r':=.mp 3 0 1) j mZ j j)<|xqT j j (iR.2 hc3) (oLd (cs:=[.im 0 _]) j tF2 j j)<|xqT j j (iR.2 hc3) (oBi j j j j)<|xqT j j (iR.2 hc3) (oCa (xs:=[.v false [.im 0 _],.v false [.im 0 _],.v false [.im 0 _]]) (vs:=[(false,[.im 0 _])]) (v:=.v false [.im 0 _]) (dK FK) (.inl j) j iw j (ppC j (ppC j (ppC j pp0))) j j pb0 j j j)<|xq (bf j j (iR.2 hc3) j)<|xq (ae j j)<|xn
    ·cases hm4
     exact ah j j (byF iR hc3) j<|ah j j (byF iR hc3) j<|ah j j (byF iR hc3) j<|ah j j (byF iR hc3) j<|ah j j (byF iR hc3) j<|ah j j (byF iR hc3) j<|ah j j (byF iR hc3) j<|xq (bD j j (byF iR hc3) j)<|xq (ae j j)<|xn
   ·cases hm4
    exact ah j j (byF iR hc2) j<|ah j j (byF iR hc2) j<|ah j j (byF iR hc2) j<|ah j j (byF iR hc2) j<|ah j j (byF iR hc2) j<|ah j j (byF iR hc2) j<|ah j j (byF iR hc2) j<|xq (bD j j (byF iR hc2) j)<|xq (oMv j j)<|ah j j j j<|ah j j j j<|ah j j j j<|ah j j j j<|ah j j j j<|ah j j j j<|ah j j j j<|xq (bD j j j j)<|xq (ae j j)<|xn
  ·cases hm4
   exact ah j j (byF iR hc1) j<|ah j j (byF iR hc1) j<|ah j j (byF iR hc1) j<|ah j j (byF iR hc1) j<|xq (bD j j (byF iR hc1) j)<|xq (oMv j j)<|ah j j j j<|ah j j j j<|ah j j j j<|ah j j j j<|ah j j j j<|ah j j j j<|ah j j j j<|xq (bD j j j j)<|xq (oMv j j)<|ah j j j j<|ah j j j j<|ah j j j j<|ah j j j j<|ah j j j j<|ah j j j j<|ah j j j j<|xq (bD j j j j)<|xq (ae j j)<|xn
 ·refine us<|Go.ret (Unw.ret ?_)
  cases h
  exact fr aga j
theorem IG {b_0:cO} {vC:ByteArray} {Ht:ByteArray} {Hu:Int} {Hw:ByteArray} {U9:Int} {Va:Int} {Rz:Int} {RD:Int} {Vb:(List cO)} {r:Bool} (h:jL b_0 vC Ht Hu Hw U9 Va Rz RD Vb=some r):FX 183 [.im 2 true (nS b_0),.im 2 false [.cp [Y vC,Y Ht,I Hu,Y Hw,I U9,I Va,I Rz,I RD,W 4 gJ Vb] 0]] (B0 [(false,[.im 0 (V r)])]):=by
 unfold jL at h
 refine gn 11 Try.func183 rfl ?_
 refine gs<|g0 j j (q (oBx j jW j (tkI (tkI (tkI (tkI tk0)))))<|q (ae j j)<|nl)<|us<|gs<|?_
 obtain ⟨x9,hx9,h⟩:=bs h
 refine g0 j j (q (oLd (cs:=[.im 0 _,.im 0 _,.im 0 _,.im 0 _]) j jW j j)<|q (oFA (r':=.im 2 _) j H7 j j)<|q (oLd (cs:=[.im 2 _]) j tF2 j j)<|q (oFA (r':=.im 2 _) j H8 j j)<|q (oLd (cs:=[.im 2 _]) j tF2 j j)<|q (oCa (xs:=[.v true [.im 0 _,.im 0 _,.im 0 _,.im 0 _],.v false [.im 2 _],.v false [.im 2 _]]) (vs:=[(false,[.im 0 _])]) (v:=.v false [.im 0 _]) (Lu hx9) (.inl j) j Pq j (ppC j (ppC j (ppC j pp0))) j j pb0 j j j)<|q (oUn j j j)<|q (ae j j)<|nl)<|us<|Go.ret (Unw.ret ?_)
 cases h
 exact fr af9 j
end
end Go.Proofs.Ytdibfdcmbjaejaa
