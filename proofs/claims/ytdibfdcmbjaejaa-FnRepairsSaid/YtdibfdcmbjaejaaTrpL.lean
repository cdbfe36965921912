/- The machine answers, at each function of the program that is reached, what its plain function answers: a further part. Conditions: none. -/
import Derived.Test.YtdibfdcmbjaejaaTrpLb
namespace Go.Proofs.Ytdibfdcmbjaejaa
open Go Go.Sim Go.Pw Go.Proofs
set_option linter.unusedVariables false
set_option linter.unusedSimpArgs false
set_option maxRecDepth 100000
set_option maxHeartbeats 4000000
noncomputable section
theorem uS {s_0:(List cO)} {nV:ByteArray} {tC:ByteArray} {tH:Int} {tJ:ByteArray} {FT:Int} {FU:Int} {FV:Int} {FW:Int} {FY:(List cO)} {r:Int} (h:di s_0 (fun b0=>jL b0 nV tC tH tJ FT FU FV FW FY)=some r):FX 185 [.im 2 false [W 4 gJ s_0],.im 2 false [.clo 183 [.cp [Y nV,Y tC,I tH,Y tJ,I FT,I FU,I FV,I FW,W 4 gJ FY] 0]]] (B0 [(false,[.im 0 (I r)])]):=by
 unfold di at h
 refine gn 19 Try.func185 rfl ?_
 refine gs<|g0 j j (q (ae j j)<|nl)<|us<|gs<|gs<|g0 j j (q (oMv j j)<|q (xI j j Pz j)<|q (oMv j j)<|nl)<|us<|Go.block<|?_
 obtain ⟨o,hl,h⟩:=bs h
 refine gl Z8 j _ (fun (DR:Int)=>mk [(0,D 2 (W 4 gJ s_0)),(1,D 2 (.clo 183 [.cp [Y nV,Y tC,I tH,Y tJ,I FT,I FU,I FV,I FW,W 4 gJ FY] 0])),(7,iv (s_0.length:Int)),(8,iv DR)] []) (fun (o:(Unit ⊕ Int)) (p:Ex×St)=>match o with | (.inl _)=>p.1= .exit 0∧p.2.norm ([],[])=mk [] [] | (.inr r2)=>p.1= .ret∧fin Try.prog cfg 185 Try.f185 [.im 2 false [W 4 gJ s_0],.im 2 false [.clo 183 [.cp [Y nV,Y tC,I tH,Y tJ,I FT,I FU,I FV,I FW,W 4 gJ FY] 0]]] p.2=some (B0 [(false,[.im 0 (I r2)])])) hl (by kernel_rfl) ?_ ?_ ?_
 ·intro o p hp e
  rcases o with u | r2<;>exact nomatch (hp.1.symm.trans e)
 ·rintro DR o h
  unfold aW at h
  refine gs<|g0 j j (q (oBi j j j j)<|nl)<|us<|gs<|gc h j af (fun hc5 h=>?_) fun hc5 h=>?_
  ·refine Go.skip<|us<|gs<|Go.block<|gs<|g0 j j (q (oMv j j)<|q (ae j j)<|nl)<|us<|gs<|?_
   obtain ⟨x14,A8,h⟩:=bs h
   obtain ⟨x16,hx16,h⟩:=bs h
   refine g0 j j (q (oMv j j)<|q (oMv j j)<|q (oMv j j)<|q (pK j A8 Lp j j)<|q (oLd (cs:=[.im 2 _,.im 2 _,.im 2 _,.im 2 _]) j jW j j)<|q (oCa (xs:=[.v true [.im 2 _,.im 2 _,.im 2 _,.im 2 _],.v false [.im 2 _]]) (vs:=[(false,[.im 0 _])]) (v:=.v false [.im 0 _]) (IG hx16) (.inr ⟨_,_,j,j⟩) j Un j (ppC j (ppC j pp0)) j j pb0 j j j)<|nl)<|us<|gc h j iR (fun hc6 h=>?_) fun hc6 h=>?_
   ·refine gs<|g0 j j (q (oMv j j)<|q (ae j j)<|nl)<|us<|Go.ret (Unw.ret ?_)
    cases h
    exact ⟨j,(fo XD j)⟩
   ·refine Go.skip<|Unw.blk<|us<|g0 j j (q (oBi j j j j)<|q (oMv j j)<|nl)<|Unw.nil<|?_
    cases h
    exact ⟨j,(by kernel_rfl)⟩
  ·refine Go.exit<|ux<|Unw.nil<|?_
   cases h
   exact ⟨j,(by kernel_rfl)⟩
 ·rintro ⟨e,st⟩ hp
  rcases o with u | r2
  ·dsimp only at h
   obtain ⟨he,hst⟩:=hp
   obtain rfl:e= .exit 0:=he
   refine Unw.jZ<|us<|gs<|g2 Z8 j j hst (q (ae j j)<|nl)<|us<|Go.ret (Unw.ret ?_)
   cases h
   exact fr XD j
  ·dsimp only at h
   obtain ⟨he,hfin⟩:=hp
   obtain rfl:e= .ret:=he
   cases h
   exact Unw.ret (nP hfin)
theorem rH {s_0:(List cO)} {nV:ByteArray} {tC:ByteArray} {tH:Int} {tJ:ByteArray} {FT:Int} {FU:Int} {FV:Int} {FW:Int} {FY:(List cO)} {r:Bool} (h:aN s_0 (fun b0=>jL b0 nV tC tH tJ FT FU FV FW FY)=some r):FX 131 [.im 2 false [W 4 gJ s_0],.im 2 false [.clo 183 [.cp [Y nV,Y tC,I tH,Y tJ,I FT,I FU,I FV,I FW,W 4 gJ FY] 0]]] (B0 [(false,[.im 0 (V r)])]):=by
 unfold aN at h
 refine gn 9 Try.func131 rfl ?_
 refine gs<|g0 j j (q (ae j j)<|nl)<|us<|gs<|?_
 obtain ⟨x7,hx7,h⟩:=bs h
 refine g0 j j (q (oMv j j)<|q (oMv j j)<|q (oCa (xs:=[.v false [.im 2 _],.v false [.im 2 _]]) (vs:=[(false,[.im 0 _])]) (v:=.v false [.im 0 _]) (uS hx7) (.inl j) j J7 j (ppC j (ppC j pp0)) j j pb0 j j j)<|q (oBi j j j j)<|q (ae j j)<|nl)<|us<|Go.ret (Unw.ret ?_)
 cases h
 exact fr ac8 j
theorem wE {l_0:dH} {r:Bool} (h:o7 l_0=some r):FX 130 [.im 2 true (bI l_0)] (B0 [(false,[.im 0 (V r)])]):=by
 unfold o7 at h
 refine gn 46 Try.func130 rfl ?_
 refine gs<|g0 j j (q (oBx j EM j (tkI (tkI (tkI (tkI (tkI (tkI (tkI (tkI (tkI tk0))))))))))<|q (ae j j)<|nl)<|us<|gs<|gs<|?_
 obtain ⟨x5,hx5,h⟩:=bs h
 obtain ⟨RF,hm9,h⟩:=bs h
 refine gX c130 j j (st1:=mk [(1,M 1)] [(1,Oa (G 2 (bI l_0)))]) (by kernel_rfl) (mk [(1,M 1),(24,bv RF)] [(1,Oa (G 2 (bI l_0)))]) ?_ ?_
 ·refine xq (oFA (r':=.mp 1 0 0) j RX j j)<|xq (oLd (cs:=[.im 0 _]) j tF9 j j)<|xq (oCa (xs:=[.v false [.im 0 _]]) (vs:=[(false,[.im 0 _])]) (v:=.v false [.im 0 _]) (DU hx5) (.inl j) j Vq j (ppC j pp0) j j pb0 j j j)<|xq (oUn j j j)<|xq (oMv j j)<|?_
  refine ic hm9 (fun hc1 hm9=>?_) fun hc1 hm9=>?_
  ·obtain ⟨x10,CO,hm9⟩:=bs hm9
   refine xqT j j (nF (iR.2 hc1)) (oFA (r':=.mp 1 0 1) j aac j j)<|xqT j j (nF (iR.2 hc1)) (oLd (cs:=[.im 0 _]) j tF9 j j)<|xqT j j (nF (iR.2 hc1)) (oCa (xs:=[.v false [.im 0 _]]) (vs:=[(false,[.im 0 _])]) (v:=.v false [.im 0 _]) (DU CO) (.inl j) j Vq j (ppC j pp0) j j pb0 j j j)<|xqT j j (nF (iR.2 hc1)) (oUn j j j)<|xq (bD j j (nF (iR.2 hc1)) j)<|xq (oMv j j)<|?_
   refine ic hm9 (fun hc2 hm9=>?_) fun hc2 hm9=>?_
   ·obtain ⟨x16,hx16,hm9⟩:=bs hm9
    refine xqT j j (nF (iR.2 hc2)) (oFA (r':=.mp 1 0 2) j aad j j)<|xqT j j (nF (iR.2 hc2)) (oLd (cs:=[.im 0 _]) j tF2 j j)<|xqT j j (nF (iR.2 hc2)) (oCa (xs:=[.v false [.im 0 _],.v false [.im 0 _],.v false [.im 0 _]]) (vs:=[(false,[.im 0 _])]) (v:=.v false [.im 0 _]) (dK hx16) (.inl j) j iw j (ppC j (ppC j (ppC j pp0))) j j pb0 j j j)<|xqT j j (nF (iR.2 hc2)) (oUn j j j)<|xq (bD j j (nF (iR.2 hc2)) j)<|xq (oMv j j)<|?_
    refine ic hm9 (fun hc3 hm9=>?_) fun hc3 hm9=>?_
    ·obtain ⟨x22,xg,hm9⟩:=bs hm9
     cases hm9
     exact xqT j j (nF (iR.2 hc3)) (oFA (r':=.mp 1 0 3) j Jl j j)<|xqT j j (nF (iR.2 hc3)) (oLd (cs:=[.im 0 _,.im 0 _,.im 0 _]) j Am j j)<|xqT j j (nF (iR.2 hc3)) (oCa (xs:=[.v true [.im 0 _,.im 0 _,.im 0 _]]) (vs:=[(false,[.im 0 _])]) (v:=.v false [.im 0 _]) (CQ xg) (.inl j) j Uk j (ppC j pp0) j j pb0 j j j)<|xqT j j (nF (iR.2 hc3)) (oUn j j j)<|xq (bD j j (nF (iR.2 hc3)) j)<|xn
    ·cases hm9
     exact ah j j (nT (byF iR hc3)) j<|ah j j (nT (byF iR hc3)) j<|ah j j (nT (byF iR hc3)) j<|ah j j (nT (byF iR hc3)) j<|xq (bf j j (nT (byF iR hc3)) j)<|xn
   ·cases hm9
    exact ah j j (nT (byF iR hc2)) j<|ah j j (nT (byF iR hc2)) j<|ah j j (nT (byF iR hc2)) j<|ah j j (nT (byF iR hc2)) j<|xq (bf j j (nT (byF iR hc2)) j)<|xq (oMv j j)<|ah j j j j<|ah j j j j<|ah j j j j<|ah j j j j<|xq (bf j j j j)<|xn
  ·cases hm9
   exact ah j j (nT (byF iR hc1)) j<|ah j j (nT (byF iR hc1)) j<|ah j j (nT (byF iR hc1)) j<|ah j j (nT (byF iR hc1)) j<|xq (bf j j (nT (byF iR hc1)) j)<|xq (oMv j j)<|ah j j j j<|ah j j j j<|ah j j j j<|ah j j j j<|xq (bf j j j j)<|xq (oMv j j)<|ah j j j j<|ah j j j j<|ah j j j j<|ah j j j j<|xq (bf j j j j)<|xn
 ·refine us<|gc h j iR (fun hc4 h=>?_) fun hc4 h=>?_
  ·refine gs<|g0 j j (q (ae j j)<|nl)<|us<|Go.ret (Unw.ret ?_)
   cases h
   exact fr aak j
  ·refine Go.skip<|us<|gs<|gs<|?_
   obtain ⟨x27,hx27,h⟩:=bs h
   obtain ⟨RG,hm8,h⟩:=bs h
   refine gX c130 j j j (mk [(1,M 1),(40,bv RG)] [(1,Oa (G 2 (bI l_0)))]) ?_ ?_
   ·refine xq (oFA (r':=.mp 1 0 6) j H7 j j)<|xq (oLd (cs:=[.im 0 _]) j tF2 j j)<|xq (oCa (xs:=[.v false [.im 0 _],.v false [.im 0 _],.v false [.im 0 _]]) (vs:=[(false,[.im 0 _])]) (v:=.v false [.im 0 _]) (dK hx27) (.inl j) j iw j (ppC j (ppC j (ppC j pp0))) j j pb0 j j j)<|xq (oUn j j j)<|xq (oMv j j)<|?_
    refine ic hm8 (fun hc5 hm8=>?_) fun hc5 hm8=>?_
    ·obtain ⟨x32,hx32,hm8⟩:=bs hm8
     refine xqT j j (nF (iR.2 hc5)) (oFA (r':=.mp 1 0 7) j H8 j j)<|xqT j j (nF (iR.2 hc5)) (oLd (cs:=[.im 0 _]) j tF2 j j)<|xqT j j (nF (iR.2 hc5)) (oCa (xs:=[.v false [.im 0 _],.v false [.im 0 _],.v false [.im 0 _]]) (vs:=[(false,[.im 0 _])]) (v:=.v false [.im 0 _]) (dK hx32) (.inl j) j iw j (ppC j (ppC j (ppC j pp0))) j j pb0 j j j)<|xqT j j (nF (iR.2 hc5)) (oUn j j j)<|xq (bD j j (nF (iR.2 hc5)) j)<|xq (oMv j j)<|?_
     refine ic hm8 (fun hc6 hm8=>?_) fun hc6 hm8=>?_
     ·cases hm8
      exact xqT j j (nF (iR.2 hc6)) (oFA (r':=.mp 1 0 8) j sZ j j)<|xqT j j (nF (iR.2 hc6)) (oLd (cs:=[.im 2 _]) j FI j j)<|xqT j j (nF (iR.2 hc6)) (xI j j Pz j)<|xqT j j (nF (iR.2 hc6)) (oBi j j j j)<|xq (bD j j (nF (iR.2 hc6)) j)<|xn
     ·cases hm8
      exact ah j j (nT (byF iR hc6)) j<|ah j j (nT (byF iR hc6)) j<|ah j j (nT (byF iR hc6)) j<|ah j j (nT (byF iR hc6)) j<|xq (bf j j (nT (byF iR hc6)) j)<|xn
    ·cases hm8
     exact ah j j (nT (byF iR hc5)) j<|ah j j (nT (byF iR hc5)) j<|ah j j (nT (byF iR hc5)) j<|ah j j (nT (byF iR hc5)) j<|xq (bf j j (nT (byF iR hc5)) j)<|xq (oMv j j)<|ah j j j j<|ah j j j j<|ah j j j j<|ah j j j j<|xq (bf j j j j)<|xn
   ·refine us<|gc h j iR (fun hc7 h=>?_) fun hc7 h=>?_
    ·refine gs<|g0 j j (q (ae j j)<|nl)<|us<|Go.ret (Unw.ret ?_)
     cases h
     exact fr aak j
    ·refine Go.skip<|us<|gs<|?_
     obtain ⟨x44,Vr,h⟩:=bs h
     refine g0 j j (q (oFA (r':=.mp 1 0 8) j sZ j j)<|q (oLd (cs:=[.im 2 _]) j FI j j)<|q (oMF (rs:=[.mp 1 0 0]) j j)<|q (oCa (xs:=[.v false [.im 2 _],.fn 183 [.mp 1 0 0]]) (vs:=[(false,[.im 0 _])]) (v:=.v false [.im 0 _]) (rH Vr) (.inl j) j J5 j (ppC j (ppC j pp0)) j j pb0 j j j)<|q (oUn j j j)<|q (ae j j)<|nl)<|us<|Go.ret (Unw.ret ?_)
     cases h
     exact fr aak j
theorem Jq {au:(List dH)} {r:Bool} (h:ru au=some r):FX 77 [.im 2 false [W 9 dG au]] (B0 [(false,[.im 0 (V r)])]):=by
 unfold ru at h
 refine gn 34 Try.func77 rfl ?_
 refine gs<|g0 j j (q (ae j j)<|nl)<|us<|gs<|gs<|g0 j j (q (oMv j j)<|q (xI j j aaq j)<|q (oMv j j)<|nl)<|us<|Go.block<|?_
 obtain ⟨o,hl,h⟩:=bs h
 refine gl c77 j _ (fun (oO:Int)=>mk [(0,D 2 (W 9 dG au)),(5,D 2 (W 9 dG au)),(6,iv (au.length:Int)),(7,iv oO)] []) (fun (o:(Unit ⊕ Bool)) (p:Ex×St)=>match o with | (.inl _)=>p.1= .exit 0∧p.2.norm ([0],[])=mk [(0,D 2 (W 9 dG au))] [] | (.inr r2)=>p.1= .ret∧fin Try.prog cfg 77 Try.f77 [.im 2 false [W 9 dG au]] p.2=some (B0 [(false,[.im 0 (V r2)])])) hl (by kernel_rfl) ?_ ?_ ?_
 ·intro o p hp e
  rcases o with u | r2<;>exact nomatch (hp.1.symm.trans e)
 ·rintro oO o h
  unfold kZ at h
  refine gs<|g0 j j (q (oBi j j j j)<|nl)<|us<|gs<|gc h j af (fun qC h=>?_) fun qC h=>?_
  ·refine Go.skip<|us<|gs<|Go.block<|gs<|?_
   obtain ⟨x10,CO,h⟩:=bs h
   refine g0 j j (q (oMv j j)<|q (pK j CO SB j j)<|q (oLd (cs:=[.im 2 _,.im 2 _,.im 2 _,.im 2 _,.im 2 _,.im 2 _,.im 2 _,.im 2 _,.im 2 _]) j EM j j)<|q (oAl j EM (tkI (tkI (tkI (tkI (tkI (tkI (tkI (tkI (tkN tk0))))))))))<|q (ae j j)<|q (oSt EM j j j (tkI (tkI (tkI (tkI (tkI (tkI (tkI (tkI (tkI tk0))))))))) j j j)<|nl)<|us<|gs<|?_
   obtain ⟨x13,Ig,h⟩:=bs h
   obtain ⟨Ff,jD,h⟩:=bs h
   refine gd c77 j j j (st1:=mk [(0,D 2 (W 9 dG au)),(3,iv oO),(4,M 4),(5,D 2 (W 9 dG au)),(6,iv (au.length:Int)),(7,iv oO)] [(4,Oa (G 2 (bI x10)))]) (by kernel_rfl) (mk [(0,D 2 (W 9 dG au)),(5,D 2 (W 9 dG au)),(6,iv (au.length:Int)),(7,iv oO),(29,bv Ff)] []) ?_ ?_
   ·refine ic jD (fun hc12 jD=>?_) fun hc12 jD=>?_
    ·refine ic jD (fun hc13 jD=>?_) fun hc13 jD=>?_
     ·obtain ⟨x22,xg,jD⟩:=bs jD
      cases jD
      exact t j j (oLd (cs:=[.im 0 _,.im 0 _,.im 0 _,.im 0 _,.im 0 _,.im 0 _,.im 0 _,.im 0 _,.im 2 _]) j EM j j)<|sS (dN z77 j (oCa (xs:=[.v true [.im 0 _,.im 0 _,.im 0 _,.im 0 _,.im 0 _,.im 0 _,.im 0 _,.im 0 _,.im 2 _]]) (vs:=[(false,[.im 0 _])]) (v:=.v false [.im 0 _]) (wE Ig) (.inl j) j J4 j (ppC j pp0) j j pb0 j j j)) trivial (t j j (oUn j j j)<|t j j (oMv j j)<|tT j j j j (nF (iR.2 hc12)) (oMv j j)<|tT j j j j (nF (iR.2 hc12)) (oBi j j j j)<|tT j j j j (nF (iR.2 hc12)) (oMv j j)<|tT j j j j (af.2 hc13) (oMv j j)<|tT j j j j (af.2 hc13) (oMv j j)<|tT j j j j (af.2 hc13) (oBi j j j j)<|tT j j j j (af.2 hc13) (pK j xg SB j j)<|tT j j j j (af.2 hc13) (oFA (r':=.im 2 _) j RX j j)<|tT j j j j (af.2 hc13) (oLd (cs:=[.im 2 _]) j tF9 j j)<|tT j j j j (af.2 hc13) (oFA (r':=.mp 4 0 0) j RX j j)<|tT j j j j (af.2 hc13) (oLd (cs:=[.im 0 _]) j tF9 j j)<|tT j j j j (af.2 hc13) (oBi j j j j)<|tT j j j j (nF (iR.2 hc12)) (bf j j (af.2 hc13) j)<|t j j (bD j j (nF (iR.2 hc12)) j)<|sD (by kernel_rfl))
     ·cases jD
      exact t j j (oLd (cs:=[.im 0 _,.im 0 _,.im 0 _,.im 0 _,.im 0 _,.im 0 _,.im 0 _,.im 0 _,.im 2 _]) j EM j j)<|sS (dN z77 j (oCa (xs:=[.v true [.im 0 _,.im 0 _,.im 0 _,.im 0 _,.im 0 _,.im 0 _,.im 0 _,.im 0 _,.im 2 _]]) (vs:=[(false,[.im 0 _])]) (v:=.v false [.im 0 _]) (wE Ig) (.inl j) j J4 j (ppC j pp0) j j pb0 j j j)) trivial (t j j (oUn j j j)<|t j j (oMv j j)<|tT j j j j (nF (iR.2 hc12)) (oMv j j)<|tT j j j j (nF (iR.2 hc12)) (oBi j j j j)<|tT j j j j (nF (iR.2 hc12)) (oMv j j)<|tF j j j j (byF af hc13) j<|tF j j j j (byF af hc13) j<|tF j j j j (byF af hc13) j<|tF j j j j (byF af hc13) j<|tF j j j j (byF af hc13) j<|tF j j j j (byF af hc13) j<|tF j j j j (byF af hc13) j<|tF j j j j (byF af hc13) j<|tF j j j j (byF af hc13) j<|tT j j j j (nF (iR.2 hc12)) (bD j j (byF af hc13) j)<|t j j (bD j j (nF (iR.2 hc12)) j)<|sD (by kernel_rfl))
    ·cases jD
     exact t j j (oLd (cs:=[.im 0 _,.im 0 _,.im 0 _,.im 0 _,.im 0 _,.im 0 _,.im 0 _,.im 0 _,.im 2 _]) j EM j j)<|sS (dN z77 j (oCa (xs:=[.v true [.im 0 _,.im 0 _,.im 0 _,.im 0 _,.im 0 _,.im 0 _,.im 0 _,.im 0 _,.im 2 _]]) (vs:=[(false,[.im 0 _])]) (v:=.v false [.im 0 _]) (wE Ig) (.inl j) j J4 j (ppC j pp0) j j pb0 j j j)) trivial (t j j (oUn j j j)<|t j j (oMv j j)<|tF j j j j (nT (byF iR hc12)) j<|tF j j j j (nT (byF iR hc12)) j<|tF j j j j (nT (byF iR hc12)) j<|sT j (dU j j j j)<|sT j (dU j j j j)<|sT j (dU j j j j)<|sT j (dU j j j j)<|sT j (dU j j j j)<|sT j (dU j j j j)<|sT j (dU j j j j)<|sT j (dU j j j j)<|sT j (dU j j j j)<|tF j j j j (nT (byF iR hc12)) j<|t j j (bf j j (nT (byF iR hc12)) j)<|sD (by kernel_rfl))
   ·refine us<|gc h j iR (fun nU h=>?_) fun nU h=>?_
    ·refine gs<|g0 j j (q (ae j j)<|nl)<|us<|Go.ret (Unw.ret ?_)
     cases h
     exact ⟨j,(fo ags j)⟩
    ·refine Go.skip<|Unw.blk<|us<|g0 j j (q (oBi j j j j)<|q (oMv j j)<|nl)<|Unw.nil<|?_
     cases h
     exact ⟨j,(by kernel_rfl)⟩
  ·refine Go.exit<|ux<|Unw.nil<|?_
   cases h
   exact ⟨j,(by kernel_rfl)⟩
 ·rintro ⟨e,st⟩ hp
  rcases o with u | r2
  ·dsimp only at h
   obtain ⟨he,hst⟩:=hp
   obtain rfl:e= .exit 0:=he
   refine Unw.jZ<|us<|gs<|g2 c77 j j hst (q (oMv j j)<|q (xI j j aaq j)<|q (oBi j j j j)<|q (ae j j)<|nl)<|us<|Go.ret (Unw.ret ?_)
   cases h
   exact fr ags j
  ·dsimp only at h
   obtain ⟨he,hfin⟩:=hp
   obtain rfl:e= .ret:=he
   cases h
   exact Unw.ret (nP hfin)
theorem PL {a_0:cO} {b_1:cO} {r:(cO×Bool)} (h:Dw a_0 b_1=some r):FX 186 [.im 2 true (nS a_0),.im 2 true (nS b_1)] (B0 [(true,J 0 (nS r.1)),(false,[.im 0 (V r.2)])]):=by
 unfold Dw at h
 refine gn 57 Try.func186 rfl ?_
 refine gs<|g0 j j (q (oBx j jW j (tkI (tkI (tkI (tkI tk0)))))<|q (oBx j jW j (tkI (tkI (tkI (tkI tk0)))))<|q (oAl j jW (tkI (tkI (tkI (tkI tk0)))))<|q (ae j j)<|nl)<|us<|gs<|gd aek j j j j (mk [(2,M 2),(3,M 3),(4,M 4),(6,iv (max2 a_0.X b_1.X)),(7,iv (max2 a_0.Y b_1.Y))] [(2,Oa (G 0 (nS a_0))),(3,Oa (G 0 (nS b_1))),(4,Oa [C (I 0),C (I 0),C (I 0),C (I 0)])]) (sK (O:=[2]) j j j (dN wI j (oFA (r':=.mp 2 0 0) j pz j j))<|sK (O:=[2]) j j j (dN wI j (oLd (cs:=[.im 0 _]) j tF2 j j))<|sK (O:=[3]) j j j (dN wI j (oFA (r':=.mp 3 0 0) j pz j j))<|sK (O:=[3]) j j j (dN wI j (oLd (cs:=[.im 0 _]) j tF2 j j))<|sK (O:=[2]) j j j (dN wI j (oFA (r':=.mp 2 0 1) j mZ j j))<|sK (O:=[2]) j j j (dN wI j (oLd (cs:=[.im 0 _]) j tF2 j j))<|sK (O:=[3]) j j j (dN wI j (oFA (r':=.mp 3 0 1) j mZ j j))<|sK (O:=[3]) j j j (dN wI j (oLd (cs:=[.im 0 _]) j tF2 j j))<|sF (dN wI j (U2 j j)) (kY ⟨j,trivial⟩ (kY ⟨j,trivial⟩ (kY ⟨j,trivial⟩ (kY ⟨j,trivial⟩ (kN j (kN j (kN j (kN j trivial)))))))) (sF (dN wI j (U2 j j)) (kN j (kN j (kN j (kN j (kY ⟨j,trivial⟩ (kY ⟨j,trivial⟩ (kY ⟨j,trivial⟩ (kY ⟨j,trivial⟩ trivial)))))))) (sS (dN wI j (ae j j)) (kY ⟨j,trivial⟩ (kY ⟨j,trivial⟩ (kY ⟨j,trivial⟩ (kY ⟨j,trivial⟩ (kN j (kN j (kN j (kN j trivial)))))))) (sS (dN wI j (ae j j)) (kN j (kN j (kN j (kN j (kN j (kN j (kN j (kN j trivial)))))))) (sD (by kernel_rfl)))) (sS (dN wI j (ae j j)) (kY ⟨j,trivial⟩ (kY ⟨j,trivial⟩ (kY ⟨j,trivial⟩ (kY ⟨j,trivial⟩ (kN j (kN j (kN j (kN j trivial)))))))) (sS (dN wI j (U2 j j)) (kN j (kN j (kN j (kN j (kY ⟨j,trivial⟩ (kY ⟨j,trivial⟩ (kY ⟨j,trivial⟩ (kY ⟨j,trivial⟩ trivial)))))))) (sS (dN wI j (ae j j)) (kN j (kN j (kN j (kN j (kN j (kN j (kN j (kN j trivial)))))))) (sD (by kernel_rfl)))))) (sS (dN wI j (U2 j j)) (kN j (kN j (kN j (kN j (kY ⟨j,trivial⟩ (kY ⟨j,trivial⟩ (kY ⟨j,trivial⟩ (kY ⟨j,trivial⟩ trivial)))))))) (sS (dN wI j (U2 j j)) (kY ⟨j,trivial⟩ (kY ⟨j,trivial⟩ (kY ⟨j,trivial⟩ (kY ⟨j,trivial⟩ (kN j (kN j (kN j (kN j trivial)))))))) (sS (dN wI j (ae j j)) (kY ⟨j,trivial⟩ (kY ⟨j,trivial⟩ (kY ⟨j,trivial⟩ (kY ⟨j,trivial⟩ (kN j (kN j (kN j (kN j trivial)))))))) (sS (dN wI j (ae j j)) (kN j (kN j (kN j (kN j (kN j (kN j (kN j (kN j trivial)))))))) (sD (by kernel_rfl)))))))<|us<|gs<|g0 j j (q (oMv j j)<|q (oMv j j)<|q (oFA (r':=.mp 2 0 0) j pz j j)<|q (oLd (cs:=[.im 0 _]) j tF2 j j)<|q (oFA (r':=.mp 2 0 2) j wu j j)<|q (oLd (cs:=[.im 0 _]) j tF2 j j)<|q (oBi j j j j)<|q (oFA (r':=.mp 3 0 0) j pz j j)<|q (oLd (cs:=[.im 0 _]) j tF2 j j)<|q (oFA (r':=.mp 3 0 2) j wu j j)<|q (oLd (cs:=[.im 0 _]) j tF2 j j)<|q (oBi j j j j)<|q (ad6 j j)<|q (oMv j j)<|q (oBi j j j j)<|q (oFA (r':=.mp 2 0 1) j mZ j j)<|q (oLd (cs:=[.im 0 _]) j tF2 j j)<|q (oFA (r':=.mp 2 0 3) j wz j j)<|q (oLd (cs:=[.im 0 _]) j tF2 j j)<|q (oBi j j j j)<|q (oFA (r':=.mp 3 0 1) j mZ j j)<|q (oLd (cs:=[.im 0 _]) j tF2 j j)<|q (oFA (r':=.mp 3 0 3) j wz j j)<|q (oLd (cs:=[.im 0 _]) j tF2 j j)<|q (oBi j j j j)<|q (ad6 j j)<|q (oMv j j)<|q (oBi j j j j)<|q (oBu (cs:=[.im 0 _,.im 0 _,.im 0 _,.im 0 _]) j Qu j)<|q (oAl j jW (tkI (tkI (tkI (tkI tk0)))))<|q (oSt jW j j j (tkI (tkI (tkI (tkI tk0)))) j j j)<|nl)<|us<|gs<|gd aek j j j (st1:=mk [(4,M 4),(8,M 8)] [(4,Oa [C (I 0),C (I 0),C (I 0),C (I 0)]),(8,Oa [C (I (max2 a_0.X b_1.X)),C (I (max2 a_0.Y b_1.Y)),C (I (w64 ((min2 (w64 (a_0.X+a_0.Width)) (w64 (b_1.X+b_1.Width))) - (max2 a_0.X b_1.X)))),C (I (w64 ((min2 (w64 (a_0.Y+a_0.Length)) (w64 (b_1.Y+b_1.Length))) - (max2 a_0.Y b_1.Y))))])]) (by kernel_rfl) (mk [(4,M 4),(5,bv ((decide ((w64 ((min2 (w64 (a_0.X+a_0.Width)) (w64 (b_1.X+b_1.Width))) - (max2 a_0.X b_1.X))) >0))&&(decide ((w64 ((min2 (w64 (a_0.Y+a_0.Length)) (w64 (b_1.Y+b_1.Length))) - (max2 a_0.Y b_1.Y))) >0))))] [(4,Oa [C (I (max2 a_0.X b_1.X)),C (I (max2 a_0.Y b_1.Y)),C (I (w64 ((min2 (w64 (a_0.X+a_0.Width)) (w64 (b_1.X+b_1.Width))) - (max2 a_0.X b_1.X)))),C (I (w64 ((min2 (w64 (a_0.Y+a_0.Length)) (w64 (b_1.Y+b_1.Length))) - (max2 a_0.Y b_1.Y))))])]) ?_ ?_
 ·refine t j j (oLd (cs:=[.im 0 _,.im 0 _,.im 0 _,.im 0 _]) j jW j j)<|t j j (oFA (r':=.mp 8 0 2) j wu j j)<|t j j (oLd (cs:=[.im 0 _]) j tF2 j j)<|t j j (oBi j j j j)<|?_
  by_cases hc1:(w64 ((min2 (w64 (a_0.X+a_0.Width)) (w64 (b_1.X+b_1.Width))) - (max2 a_0.X b_1.X))) >0
  ·exact t rfl rfl (oMv rfl rfl)<|sF (dT wI rfl rfl rfl (af.2 hc1) (oFA (r':=.mp 8 0 3) rfl wz rfl rfl)) trivial (sF (dT wI rfl rfl rfl (af.2 hc1) (oLd (cs:=[.im 0 _]) rfl tF2 rfl rfl)) trivial (tT rfl rfl rfl rfl (af.2 hc1) (oBi rfl rfl rfl rfl)<|t rfl rfl (bf rfl rfl (af.2 hc1) rfl)<|sS (dN wI rfl (oSt jW rfl rfl rfl (tkI (tkI (tkI (tkI tk0)))) rfl rfl rfl)) trivial (sS (dN wI rfl (ae rfl rfl)) trivial (sD (Eq.trans (b:=(fun o9:Bool=>mk [(4,M 4),(5,bv o9)] [(4,Oa [C (I (max2 a_0.X b_1.X)),C (I (max2 a_0.Y b_1.Y)),C (I (w64 ((min2 (w64 (a_0.X+a_0.Width)) (w64 (b_1.X+b_1.Width))) - (max2 a_0.X b_1.X)))),C (I (w64 ((min2 (w64 (a_0.Y+a_0.Length)) (w64 (b_1.Y+b_1.Length))) - (max2 a_0.Y b_1.Y))))])]) (decide ((w64 ((min2 (w64 (a_0.Y+a_0.Length)) (w64 (b_1.Y+b_1.Length))) - (max2 a_0.Y b_1.Y))) >0))) (by kernel_rfl) (congrArg (fun o9:Bool=>mk [(4,M 4),(5,bv o9)] [(4,Oa [C (I (max2 a_0.X b_1.X)),C (I (max2 a_0.Y b_1.Y)),C (I (w64 ((min2 (w64 (a_0.X+a_0.Width)) (w64 (b_1.X+b_1.Width))) - (max2 a_0.X b_1.X)))),C (I (w64 ((min2 (w64 (a_0.Y+a_0.Length)) (w64 (b_1.Y+b_1.Length))) - (max2 a_0.Y b_1.Y))))])]) (by first | rfl | (simp [(af.2 hc1)];done) | (simp [(af.2 hc1)];omega))))))) (sS (dN wI rfl (oSt jW rfl rfl rfl (tkI (tkI (tkI (tkI tk0)))) rfl rfl rfl)) trivial (tT rfl rfl rfl rfl (af.2 hc1) (oLd (cs:=[.im 0 _]) rfl tF2 rfl rfl)<|tT rfl rfl rfl rfl (af.2 hc1) (oBi rfl rfl rfl rfl)<|t rfl rfl (bf rfl rfl (af.2 hc1) rfl)<|sS (dN wI rfl (ae rfl rfl)) trivial (sD (Eq.trans (b:=(fun o9:Bool=>mk [(4,M 4),(5,bv o9)] [(4,Oa [C (I (max2 a_0.X b_1.X)),C (I (max2 a_0.Y b_1.Y)),C (I (w64 ((min2 (w64 (a_0.X+a_0.Width)) (w64 (b_1.X+b_1.Width))) - (max2 a_0.X b_1.X)))),C (I (w64 ((min2 (w64 (a_0.Y+a_0.Length)) (w64 (b_1.Y+b_1.Length))) - (max2 a_0.Y b_1.Y))))])]) (decide ((w64 ((min2 (w64 (a_0.Y+a_0.Length)) (w64 (b_1.Y+b_1.Length))) - (max2 a_0.Y b_1.Y))) >0))) (by kernel_rfl) (congrArg (fun o9:Bool=>mk [(4,M 4),(5,bv o9)] [(4,Oa [C (I (max2 a_0.X b_1.X)),C (I (max2 a_0.Y b_1.Y)),C (I (w64 ((min2 (w64 (a_0.X+a_0.Width)) (w64 (b_1.X+b_1.Width))) - (max2 a_0.X b_1.X)))),C (I (w64 ((min2 (w64 (a_0.Y+a_0.Length)) (w64 (b_1.Y+b_1.Length))) - (max2 a_0.Y b_1.Y))))])]) (by first | rfl | (simp [(af.2 hc1)];done) | (simp [(af.2 hc1)];omega)))))))) (sS (dN wI rfl (oSt jW rfl rfl rfl (tkI (tkI (tkI (tkI tk0)))) rfl rfl rfl)) trivial (tT rfl rfl rfl rfl (af.2 hc1) (oFA (r':=.mp 8 0 3) rfl wz rfl rfl)<|tT rfl rfl rfl rfl (af.2 hc1) (oLd (cs:=[.im 0 _]) rfl tF2 rfl rfl)<|tT rfl rfl rfl rfl (af.2 hc1) (oBi rfl rfl rfl rfl)<|t rfl rfl (bf rfl rfl (af.2 hc1) rfl)<|sS (dN wI rfl (ae rfl rfl)) trivial (sD (Eq.trans (b:=(fun o9:Bool=>mk [(4,M 4),(5,bv o9)] [(4,Oa [C (I (max2 a_0.X b_1.X)),C (I (max2 a_0.Y b_1.Y)),C (I (w64 ((min2 (w64 (a_0.X+a_0.Width)) (w64 (b_1.X+b_1.Width))) - (max2 a_0.X b_1.X)))),C (I (w64 ((min2 (w64 (a_0.Y+a_0.Length)) (w64 (b_1.Y+b_1.Length))) - (max2 a_0.Y b_1.Y))))])]) (decide ((w64 ((min2 (w64 (a_0.Y+a_0.Length)) (w64 (b_1.Y+b_1.Length))) - (max2 a_0.Y b_1.Y))) >0))) (by kernel_rfl) (congrArg (fun o9:Bool=>mk [(4,M 4),(5,bv o9)] [(4,Oa [C (I (max2 a_0.X b_1.X)),C (I (max2 a_0.Y b_1.Y)),C (I (w64 ((min2 (w64 (a_0.X+a_0.Width)) (w64 (b_1.X+b_1.Width))) - (max2 a_0.X b_1.X)))),C (I (w64 ((min2 (w64 (a_0.Y+a_0.Length)) (w64 (b_1.Y+b_1.Length))) - (max2 a_0.Y b_1.Y))))])]) (by first | rfl | (simp [(af.2 hc1)];done) | (simp [(af.2 hc1)];omega)))))))
  ·exact t rfl rfl (oMv rfl rfl)<|sF (dF rfl rfl rfl (byF af hc1) rfl) trivial (sF (dF rfl rfl rfl (byF af hc1) rfl) trivial (tF rfl rfl rfl rfl (byF af hc1) rfl<|t rfl rfl (bD rfl rfl (byF af hc1) rfl)<|sS (dN wI rfl (oSt jW rfl rfl rfl (tkI (tkI (tkI (tkI tk0)))) rfl rfl rfl)) trivial (sS (dN wI rfl (ae rfl rfl)) trivial (sD (Eq.trans (b:=(fun o9:Bool=>mk [(4,M 4),(5,bv o9)] [(4,Oa [C (I (max2 a_0.X b_1.X)),C (I (max2 a_0.Y b_1.Y)),C (I (w64 ((min2 (w64 (a_0.X+a_0.Width)) (w64 (b_1.X+b_1.Width))) - (max2 a_0.X b_1.X)))),C (I (w64 ((min2 (w64 (a_0.Y+a_0.Length)) (w64 (b_1.Y+b_1.Length))) - (max2 a_0.Y b_1.Y))))])]) false) (by kernel_rfl) (congrArg (fun o9:Bool=>mk [(4,M 4),(5,bv o9)] [(4,Oa [C (I (max2 a_0.X b_1.X)),C (I (max2 a_0.Y b_1.Y)),C (I (w64 ((min2 (w64 (a_0.X+a_0.Width)) (w64 (b_1.X+b_1.Width))) - (max2 a_0.X b_1.X)))),C (I (w64 ((min2 (w64 (a_0.Y+a_0.Length)) (w64 (b_1.Y+b_1.Length))) - (max2 a_0.Y b_1.Y))))])]) (by first | rfl | (simp [(byF af hc1)];done) | (simp [(byF af hc1)];omega))))))) (sS (dN wI rfl (oSt jW rfl rfl rfl (tkI (tkI (tkI (tkI tk0)))) rfl rfl rfl)) trivial (tF rfl rfl rfl rfl (byF af hc1) rfl<|tF rfl rfl rfl rfl (byF af hc1) rfl<|t rfl rfl (bD rfl rfl (byF af hc1) rfl)<|sS (dN wI rfl (ae rfl rfl)) trivial (sD (Eq.trans (b:=(fun o9:Bool=>mk [(4,M 4),(5,bv o9)] [(4,Oa [C (I (max2 a_0.X b_1.X)),C (I (max2 a_0.Y b_1.Y)),C (I (w64 ((min2 (w64 (a_0.X+a_0.Width)) (w64 (b_1.X+b_1.Width))) - (max2 a_0.X b_1.X)))),C (I (w64 ((min2 (w64 (a_0.Y+a_0.Length)) (w64 (b_1.Y+b_1.Length))) - (max2 a_0.Y b_1.Y))))])]) false) (by kernel_rfl) (congrArg (fun o9:Bool=>mk [(4,M 4),(5,bv o9)] [(4,Oa [C (I (max2 a_0.X b_1.X)),C (I (max2 a_0.Y b_1.Y)),C (I (w64 ((min2 (w64 (a_0.X+a_0.Width)) (w64 (b_1.X+b_1.Width))) - (max2 a_0.X b_1.X)))),C (I (w64 ((min2 (w64 (a_0.Y+a_0.Length)) (w64 (b_1.Y+b_1.Length))) - (max2 a_0.Y b_1.Y))))])]) (by first | rfl | (simp [(byF af hc1)];done) | (simp [(byF af hc1)];omega)))))))) (sS (dN wI rfl (oSt jW rfl rfl rfl (tkI (tkI (tkI (tkI tk0)))) rfl rfl rfl)) trivial (tF rfl rfl rfl rfl (byF af hc1) rfl<|tF rfl rfl rfl rfl (byF af hc1) rfl<|tF rfl rfl rfl rfl (byF af hc1) rfl<|t rfl rfl (bD rfl rfl (byF af hc1) rfl)<|sS (dN wI rfl (ae rfl rfl)) trivial (sD (Eq.trans (b:=(fun o9:Bool=>mk [(4,M 4),(5,bv o9)] [(4,Oa [C (I (max2 a_0.X b_1.X)),C (I (max2 a_0.Y b_1.Y)),C (I (w64 ((min2 (w64 (a_0.X+a_0.Width)) (w64 (b_1.X+b_1.Width))) - (max2 a_0.X b_1.X)))),C (I (w64 ((min2 (w64 (a_0.Y+a_0.Length)) (w64 (b_1.Y+b_1.Length))) - (max2 a_0.Y b_1.Y))))])]) false) (by kernel_rfl) (congrArg (fun o9:Bool=>mk [(4,M 4),(5,bv o9)] [(4,Oa [C (I (max2 a_0.X b_1.X)),C (I (max2 a_0.Y b_1.Y)),C (I (w64 ((min2 (w64 (a_0.X+a_0.Width)) (w64 (b_1.X+b_1.Width))) - (max2 a_0.X b_1.X)))),C (I (w64 ((min2 (w64 (a_0.Y+a_0.Length)) (w64 (b_1.Y+b_1.Length))) - (max2 a_0.Y b_1.Y))))])]) (by first | rfl | (simp [(byF af hc1)];done) | (simp [(byF af hc1)];omega)))))))
 ·refine us<|Go.ret (Unw.ret ?_)
  cases h
  exact fr agb j
theorem LC {a_0:cO} {b_1:cO} {r:Bool} (h:yB a_0 b_1=some r):FX 133 [.im 2 true (nS a_0),.im 2 true (nS b_1)] (B0 [(false,[.im 0 (V r)])]):=by
 unfold yB at h
 refine gn 14 Try.func133 rfl ?_
 refine gs<|g0 j j (q (oBx j jW j (tkI (tkI (tkI (tkI tk0)))))<|q (oBx j jW j (tkI (tkI (tkI (tkI tk0)))))<|q (ae j j)<|nl)<|us<|gs<|?_
 obtain ⟨x10,CO,h⟩:=bs h
 refine g0 j j (q (oLd (cs:=[.im 0 _,.im 0 _,.im 0 _,.im 0 _]) j jW j j)<|q (oLd (cs:=[.im 0 _,.im 0 _,.im 0 _,.im 0 _]) j jW j j)<|q (oCa (xs:=[.v true [.im 0 _,.im 0 _,.im 0 _,.im 0 _],.v true [.im 0 _,.im 0 _,.im 0 _,.im 0 _]]) (vs:=[(true,[.im 0 _,.im 0 _,.im 0 _,.im 0 _]),(false,[.im 0 _])]) (v:=.tup [(true,[.im 0 _,.im 0 _,.im 0 _,.im 0 _]),(false,[.im 0 _])]) (PL CO) (.inl j) j Pv j (ppC j (ppC j pp0)) j j pb0 j j j)<|q (Gj j j)<|q (oEx j j j)<|q (oEx j j j)<|q (oAl j jW (tkI (tkI (tkI (tkI tk0)))))<|q (oSt jW j j j (tkI (tkI (tkI (tkI tk0)))) j j j)<|q (ae j j)<|nl)<|us<|gs<|g1 j j (mk [(6,bv x10.2)] []) (q (oMv j j)<|q (ae j j)<|nl)<|us<|Go.ret (Unw.ret ?_)
 cases h
 exact fr afM j
theorem Il {b_0:cO} {vC:Int} {Ht:Int} {Hu:Int} {Hw:Int} {r:Bool} (h:jg b_0 vC Ht Hu Hw=some r):FX 132 [.im 2 true (nS b_0),.im 2 false [.cp [I vC,I Ht,I Hu,I Hw] 0]] (B0 [(false,[.im 0 (V r)])]):=by
 unfold jg at h
 refine gn 7 Try.func132 rfl ?_
 refine gs<|g0 j j (q (oBx j jW j (tkI (tkI (tkI (tkI tk0)))))<|q (ae j j)<|nl)<|us<|gs<|?_
 obtain ⟨x6,hx6,h⟩:=bs h
 refine g0 j j (q (oLd (cs:=[.im 0 _,.im 0 _,.im 0 _,.im 0 _]) j jW j j)<|q (oLd (cs:=[.im 2 _,.im 2 _,.im 2 _,.im 2 _]) j jW j j)<|q (oCa (xs:=[.v true [.im 0 _,.im 0 _,.im 0 _,.im 0 _],.v true [.im 2 _,.im 2 _,.im 2 _,.im 2 _]]) (vs:=[(false,[.im 0 _])]) (v:=.v false [.im 0 _]) (LC hx6) (.inl j) j Pm j (ppC j (ppC j pp0)) j j pb0 j j j)<|q (ae j j)<|nl)<|us<|Go.ret (Unw.ret ?_)
 cases h
 exact fr afL j
theorem uT {s_0:(List cO)} {nV:Int} {tC:Int} {tH:Int} {tJ:Int} {r:Int} (h:di s_0 (fun b0=>jg b0 nV tC tH tJ)=some r):FX 185 [.im 2 false [W 4 gJ s_0],.im 2 false [.clo 132 [.cp [I nV,I tC,I tH,I tJ] 0]]] (B0 [(false,[.im 0 (I r)])]):=by
 unfold di at h
 refine gn 19 Try.func185 rfl ?_
 refine gs<|g0 j j (q (ae j j)<|nl)<|us<|gs<|gs<|g0 j j (q (oMv j j)<|q (xI j j Pz j)<|q (oMv j j)<|nl)<|us<|Go.block<|?_
 obtain ⟨o,hl,h⟩:=bs h
 refine gl Z8 j _ (fun (DR:Int)=>mk [(0,D 2 (W 4 gJ s_0)),(1,D 2 (.clo 132 [.cp [I nV,I tC,I tH,I tJ] 0])),(7,iv (s_0.length:Int)),(8,iv DR)] []) (fun (o:(Unit ⊕ Int)) (p:Ex×St)=>match o with | (.inl _)=>p.1= .exit 0∧p.2.norm ([],[])=mk [] [] | (.inr r2)=>p.1= .ret∧fin Try.prog cfg 185 Try.f185 [.im 2 false [W 4 gJ s_0],.im 2 false [.clo 132 [.cp [I nV,I tC,I tH,I tJ] 0]]] p.2=some (B0 [(false,[.im 0 (I r2)])])) hl (by kernel_rfl) ?_ ?_ ?_
 ·intro o p hp e
  rcases o with u | r2<;>exact nomatch (hp.1.symm.trans e)
 ·rintro DR o h
  unfold aW at h
  refine gs<|g0 j j (q (oBi j j j j)<|nl)<|us<|gs<|gc h j af (fun hc5 h=>?_) fun hc5 h=>?_
  ·refine Go.skip<|us<|gs<|Go.block<|gs<|g0 j j (q (oMv j j)<|q (ae j j)<|nl)<|us<|gs<|?_
   obtain ⟨x14,A8,h⟩:=bs h
   obtain ⟨x16,hx16,h⟩:=bs h
   refine g0 j j (q (oMv j j)<|q (oMv j j)<|q (oMv j j)<|q (pK j A8 Lp j j)<|q (oLd (cs:=[.im 2 _,.im 2 _,.im 2 _,.im 2 _]) j jW j j)<|q (oCa (xs:=[.v true [.im 2 _,.im 2 _,.im 2 _,.im 2 _],.v false [.im 2 _]]) (vs:=[(false,[.im 0 _])]) (v:=.v false [.im 0 _]) (Il hx16) (.inr ⟨_,_,j,j⟩) j Ul j (ppC j (ppC j pp0)) j j pb0 j j j)<|nl)<|us<|gc h j iR (fun hc6 h=>?_) fun hc6 h=>?_
   ·refine gs<|g0 j j (q (oMv j j)<|q (ae j j)<|nl)<|us<|Go.ret (Unw.ret ?_)
    cases h
    exact ⟨j,(fo XD j)⟩
   ·refine Go.skip<|Unw.blk<|us<|g0 j j (q (oBi j j j j)<|q (oMv j j)<|nl)<|Unw.nil<|?_
    cases h
    exact ⟨j,(by kernel_rfl)⟩
  ·refine Go.exit<|ux<|Unw.nil<|?_
   cases h
   exact ⟨j,(by kernel_rfl)⟩
 ·rintro ⟨e,st⟩ hp
  rcases o with u | r2
  ·dsimp only at h
   obtain ⟨he,hst⟩:=hp
   obtain rfl:e= .exit 0:=he
   refine Unw.jZ<|us<|gs<|g2 Z8 j j hst (q (ae j j)<|nl)<|us<|Go.ret (Unw.ret ?_)
   cases h
   exact fr XD j
  ·dsimp only at h
   obtain ⟨he,hfin⟩:=hp
   obtain rfl:e= .ret:=he
   cases h
   exact Unw.ret (nP hfin)
theorem rJ {s_0:(List cO)} {nV:Int} {tC:Int} {tH:Int} {tJ:Int} {r:Bool} (h:aN s_0 (fun b0=>jg b0 nV tC tH tJ)=some r):FX 131 [.im 2 false [W 4 gJ s_0],.im 2 false [.clo 132 [.cp [I nV,I tC,I tH,I tJ] 0]]] (B0 [(false,[.im 0 (V r)])]):=by
 unfold aN at h
 refine gn 9 Try.func131 rfl ?_
 refine gs<|g0 j j (q (ae j j)<|nl)<|us<|gs<|?_
 obtain ⟨x7,hx7,h⟩:=bs h
 refine g0 j j (q (oMv j j)<|q (oMv j j)<|q (oCa (xs:=[.v false [.im 2 _],.v false [.im 2 _]]) (vs:=[(false,[.im 0 _])]) (v:=.v false [.im 0 _]) (uT hx7) (.inl j) j J7 j (ppC j (ppC j pp0)) j j pb0 j j j)<|q (oBi j j j j)<|q (ae j j)<|nl)<|us<|Go.ret (Unw.ret ?_)
 cases h
 exact fr ac8 j
theorem Kw {l_0:dH} {r:(Int×Int)} (h:pR l_0=some r):FX 78 [.im 2 true (bI l_0)] (B0 [(false,[.im 0 (I r.1)]),(false,[.im 0 (I r.2)])]):=by
 unfold pR at h
 refine gn 109 Try.func78 rfl ?_
 refine gs<|g0 j j (q (oBx j EM j (tkI (tkI (tkI (tkI (tkI (tkI (tkI (tkI (tkI tk0))))))))))<|q (ae j j)<|q (ae j j)<|nl)<|us<|gs<|gs<|?_
 obtain ⟨x13,Ig,h⟩:=bs h
 refine g1 j j (mk [(1,M 1)] [(1,Oa (G 2 (bI l_0)))]) (q (oLd (cs:=[.im 0 _,.im 0 _,.im 0 _,.im 0 _,.im 0 _,.im 0 _,.im 0 _,.im 0 _,.im 2 _]) j EM j j)<|q (oCa (xs:=[.v true [.im 0 _,.im 0 _,.im 0 _,.im 0 _,.im 0 _,.im 0 _,.im 0 _,.im 0 _,.im 2 _]]) (vs:=[(false,[.im 0 _])]) (v:=.v false [.im 0 _]) (wE Ig) (.inl j) j J4 j (ppC j pp0) j j pb0 j j j)<|q (oUn j j j)<|nl)<|us<|?_
 by_cases hc1:x13=true
 ·rw [if_pos hc1] at h
  refine gF j (nF (iR.2 hc1))<|Go.skip<|us<|gs<|gd c78 j j j j (mk [(1,M 1),(4,H 4 0),(5,H 5 0)] [(1,Oa (G 2 (bI l_0))),(4,Oc [Z (W 1 eI ([0,l_0.Width]:List Int))]),(5,Oc [Z (W 1 eI ([0,l_0.Length]:List Int))])]) (sK (O:=[1]) j j j (dN z78 j (oFA (r':=.mp 1 0 6) j H7 j j))<|sK (O:=[1]) j j j (dN z78 j (oLd (cs:=[.im 0 _]) j tF2 j j))<|sK (O:=[1]) j j j (dN z78 j (oFA (r':=.mp 1 0 7) j H8 j j))<|sK (O:=[1]) j j j (dN z78 j (oLd (cs:=[.im 0 _]) j tF2 j j))<|sF (dN z78 j (oBS (es:=List.map eI ([0,l_0.Width]:List Int)) j aU j (ptC j (fxI fx0) j (ptC j (fxI fx0) j pt0)) (gY j fun _=>j))) (kY ⟨j,trivial⟩ (kY ⟨j,trivial⟩ (kN j (kN j trivial)))) (sF (dN z78 j (oBS (es:=List.map eI ([0,l_0.Length]:List Int)) j aU j (ptC j (fxI fx0) j (ptC j (fxI fx0) j pt0)) (gY j fun _=>j))) (kN j (kN j (kY ⟨j,trivial⟩ (kY ⟨j,trivial⟩ trivial)))) (sS (dN z78 j (nO j j j j j)) (kY ⟨j,trivial⟩ (kY ⟨j,trivial⟩ (kN j (kN j trivial)))) (sS (dN z78 j (nO j j j j j)) (kN j (kN j (kN j (kN j trivial)))) (sD (by kernel_rfl)))) (sS (dN z78 j (nO j j j j j)) (kY ⟨j,trivial⟩ (kY ⟨j,trivial⟩ (kN j (kN j trivial)))) (sS (dN z78 j (oBS (es:=List.map eI ([0,l_0.Length]:List Int)) j aU j (ptC j (fxI fx0) j (ptC j (fxI fx0) j pt0)) (gY j fun _=>j))) (kN j (kN j (kY ⟨j,trivial⟩ (kY ⟨j,trivial⟩ trivial)))) (sS (dN z78 j (nO j j j j j)) (kN j (kN j (kN j (kN j trivial)))) (sD (by kernel_rfl)))))) (sS (dN z78 j (oBS (es:=List.map eI ([0,l_0.Length]:List Int)) j aU j (ptC j (fxI fx0) j (ptC j (fxI fx0) j pt0)) (gY j fun _=>j))) (kN j (kN j (kY ⟨j,trivial⟩ (kY ⟨j,trivial⟩ trivial)))) (sS (dN z78 j (oBS (es:=List.map eI ([0,l_0.Width]:List Int)) j aU j (ptC j (fxI fx0) j (ptC j (fxI fx0) j pt0)) (gY j fun _=>j))) (kY ⟨j,trivial⟩ (kY ⟨j,trivial⟩ (kN j (kN j trivial)))) (sS (dN z78 j (nO j j j j j)) (kY ⟨j,trivial⟩ (kY ⟨j,trivial⟩ (kN j (kN j trivial)))) (sS (dN z78 j (nO j j j j j)) (kN j (kN j (kN j (kN j trivial)))) (sD (by kernel_rfl)))))))<|us<|gs<|gs<|g0 j j (q (oFA (r':=.mp 1 0 8) j sZ j j)<|q (oLd (cs:=[.im 2 _]) j FI j j)<|q (xI j j Pz j)<|q (oMv j j)<|nl)<|us<|Go.block<|?_
  obtain ⟨o,hl,h⟩:=bs h
  refine gl c78 j _ (fun (s:(Int×(List Int)×(List Int)))=>match s with | (dQ,EI,EJ)=>mk [(1,M 1),(4,H 4 0),(5,H 5 0),(22,D 2 (W 4 gJ l_0.aG)),(23,iv (l_0.aG.length:Int)),(24,iv dQ)] [(1,Oa (G 2 (bI l_0))),(4,Oc [Z (W 1 eI EI)]),(5,Oc [Z (W 1 eI EJ)])]) (fun (o:((List Int)×(List Int))) (p:Ex×St)=>match o with | (BX,y5)=>p.1= .exit 0∧p.2.norm ([1,4,5],[1,4,5])=mk [(1,M 1),(4,H 4 0),(5,H 5 0)] [(1,Oa (G 2 (bI l_0))),(4,Oc [Z (W 1 eI BX)]),(5,Oc [Z (W 1 eI y5)])]) hl (by kernel_rfl) ?_ ?_ ?_
  ·intro o p hp e
   obtain ⟨BX,y5⟩:=o
   exact nomatch (hp.1.symm.trans e)
  ·rintro ⟨dQ,EI,EJ⟩ o h
   unfold lV at h
   dsimp only at h
   refine gs<|g0 j j (q (oBi j j j j)<|nl)<|us<|gs<|gc h j af (fun FN h=>?_) fun FN h=>?_
   ·refine Go.skip<|us<|gs<|Go.block<|gs<|?_
    obtain ⟨x26,Gn,h⟩:=bs h
    refine g0 j j (q (pK j Gn Lp j j)<|q (oLd (cs:=[.im 2 _,.im 2 _,.im 2 _,.im 2 _]) j jW j j)<|q (oAl j jW (tkI (tkI (tkI (tkI tk0)))))<|q (oSt jW j j j (tkI (tkI (tkI (tkI tk0)))) j j j)<|nl)<|us<|gs<|?_
    obtain ⟨x37,Lt,h⟩:=bs h
    refine g1 j j (mk [(1,M 1),(4,H 4 0),(5,H 5 0),(7,M 7),(22,D 2 (W 4 gJ l_0.aG)),(23,iv (l_0.aG.length:Int)),(24,iv dQ)] [(1,Oa (G 2 (bI l_0))),(4,Oc [Z (W 1 eI EI)]),(5,Oc [Z (W 1 eI EJ)]),(7,Oa (G 0 (nS x26)))]) (q (oMv j j)<|q (oFA (r':=.mp 7 0 0) j pz j j)<|q (oLd (cs:=[.im 0 _]) j tF2 j j)<|q (oFA (r':=.mp 7 0 0) j pz j j)<|q (oLd (cs:=[.im 0 _]) j tF2 j j)<|q (oFA (r':=.mp 7 0 2) j wu j j)<|q (oLd (cs:=[.im 0 _]) j tF2 j j)<|q (oBi j j j j)<|q (oBS (es:=List.map eI ([x26.X,(w64 (x26.X+x26.Width))]:List Int)) j aU j (ptC j (fxI fx0) j (ptC j (fxI fx0) j pt0)) (gY j fun _=>j))<|q (Je (en:=eI) (M:=([x26.X,(w64 (x26.X+x26.Width))]:List Int)) j Lt j aU j j EN (.inl ⟨_,j⟩) j j j j (Ai j j) (gY j fun _=>j))<|q (nO j j j j j)<|nl)<|us<|?_
    obtain ⟨x47,FO,h⟩:=bs h
    refine g0 j j (q (oMv j j)<|q (oFA (r':=.mp 7 0 1) j mZ j j)<|q (oLd (cs:=[.im 0 _]) j tF2 j j)<|q (oFA (r':=.mp 7 0 1) j mZ j j)<|q (oLd (cs:=[.im 0 _]) j tF2 j j)<|q (oFA (r':=.mp 7 0 3) j wz j j)<|q (oLd (cs:=[.im 0 _]) j tF2 j j)<|q (oBi j j j j)<|q (oBS (es:=List.map eI ([x26.Y,(w64 (x26.Y+x26.Length))]:List Int)) j aU j (ptC j (fxI fx0) j (ptC j (fxI fx0) j pt0)) (gY j fun _=>j))<|q (Je (en:=eI) (M:=([x26.Y,(w64 (x26.Y+x26.Length))]:List Int)) j FO j aU j j EN (.inl ⟨_,j⟩) j j j j (Ai j j) (gY j fun _=>j))<|q (nO j j j j j)<|nl)<|Unw.blk<|us<|g0 j j (q (oBi j j j j)<|q (oMv j j)<|nl)<|Unw.nil<|?_
    cases h
    exact ⟨j,(by kernel_rfl)⟩
   ·refine Go.exit<|ux<|Unw.nil<|?_
    cases h
    exact ⟨j,(by kernel_rfl)⟩
  ·rintro ⟨e,st⟩ hp
   obtain ⟨BX,y5⟩:=o
   dsimp only at h
   obtain ⟨he,hst⟩:=hp
   obtain rfl:e= .exit 0:=he
   refine Unw.jZ<|us<|gs<|?_
   obtain ⟨x50,SC,h⟩:=bs h
   refine g2 c78 j j hst (q (oMv j j)<|q (oCa (xs:=[.v false [.own 4 0 0]]) (vs:=[]) (v:=.tup []) (pM SC) (.inl j) j Sz j (ppC j pp0) j j (pbO j j j j pb0) j j j)<|nl)<|us<|gs<|?_
   obtain ⟨x52,Ii,h⟩:=bs h
   refine g1 j j (mk [(1,M 1),(4,H 4 0),(5,H 5 0)] [(1,Oa (G 2 (bI l_0))),(4,Oc [Z (W 1 eI x50)]),(5,Oc [Z (W 1 eI y5)])]) (q (oMv j j)<|q (oCa (xs:=[.v false [.own 5 0 0]]) (vs:=[]) (v:=.tup []) (pM Ii) (.inl j) j Sz j (ppC j pp0) j j (pbO j j j j pb0) j j j)<|nl)<|us<|gs<|g1 j j (mk [(1,M 1),(4,H 4 0),(5,H 5 0)] [(1,Oa (G 2 (bI l_0))),(4,Oc [Z (W 1 eI x50)]),(5,Oc [Z (W 1 eI x52)])]) (q (ae j j)<|nl)<|us<|gs<|gs<|g0 j j (q (ae j j)<|nl)<|us<|Go.block<|?_
   obtain ⟨o,hl,h⟩:=bs h
   refine gl c78 j _ (fun (s:(Int×Int))=>match s with | (EH,uV)=>mk [(1,M 1),(4,H 4 0),(5,H 5 0),(8,iv EH),(9,iv uV)] [(1,Oa (G 2 (bI l_0))),(4,Oc [Z (W 1 eI x50)]),(5,Oc [Z (W 1 eI x52)])]) (fun (Dy:Int) (p:Ex×St)=>p.1= .exit 2∧p.2.norm ([8],[])=mk [(8,iv Dy)] []) hl (by kernel_rfl) ?_ ?_ ?_
   ·intro o p hp e
    exact nomatch (hp.1.symm.trans e)
   ·rintro ⟨EH,uV⟩ o h
    unfold lg at h
    dsimp only at h
    refine gs<|gs<|g0 j j (q (oMv j j)<|q (oMv j j)<|q (O9 j j EN j j j (fun e=>nomatch e))<|q (oBi j j j j)<|nl)<|us<|gc h j af (fun nU h=>?_) fun nU h=>?_
    ·refine Go.skip<|us<|gs<|Go.block<|gs<|g0 j j (q (ae j j)<|nl)<|us<|Go.block<|?_
     obtain ⟨o,hl,h⟩:=bs h
     refine gl c78 j _ (fun (s:(Int×Int))=>match s with | (wo,qw)=>mk [(1,M 1),(4,H 4 0),(5,H 5 0),(8,iv wo),(9,iv uV),(10,iv qw)] [(1,Oa (G 2 (bI l_0))),(4,Oc [Z (W 1 eI x50)]),(5,Oc [Z (W 1 eI x52)])]) (fun (Dx:Int) (p:Ex×St)=>p.1= .exit 4∧p.2.norm ([1,4,5,8,9],[1,4,5])=mk [(1,M 1),(4,H 4 0),(5,H 5 0),(8,iv Dx),(9,iv uV)] [(1,Oa (G 2 (bI l_0))),(4,Oc [Z (W 1 eI x50)]),(5,Oc [Z (W 1 eI x52)])]) hl (by kernel_rfl) ?_ ?_ ?_
     ·intro o p hp e
      exact nomatch (hp.1.symm.trans e)
     ·rintro ⟨wo,qw⟩ o h
      unfold nM at h
      dsimp only at h
      refine gs<|gs<|g0 j j (q (oMv j j)<|q (oMv j j)<|q (O9 j j EN j j j (fun e=>nomatch e))<|q (oBi j j j j)<|nl)<|us<|gc h j af (fun hc19 h=>?_) fun hc19 h=>?_
      ·refine Go.skip<|us<|gs<|Go.join (fun st=>∃EG,nK qw EG=some o∧st.norm ([1,4,5,8,9,10],[1,4,5])=mk [(1,M 1),(4,H 4 0),(5,H 5 0),(8,iv EG),(9,iv uV),(10,iv qw)] [(1,Oa (G 2 (bI l_0))),(4,Oc [Z (W 1 eI x50)]),(5,Oc [Z (W 1 eI x52)])]) ?_ ?_
       ·rintro st ⟨EG,h,hst⟩
        unfold nK at h
        refine us<|g2 c78 j j hst (q (oMv j j)<|q (oBi j j j j)<|q (ae j j)<|nl)<|Unw.nil<|?_
        cases h
        exact ⟨j,(by kernel_rfl)⟩
       ·intro K21
        refine Go.block<|gs<|?_
        obtain ⟨x68,agN,h⟩:=bs h
        obtain ⟨x73,OD,h⟩:=bs h
        obtain ⟨x77,Vw,h⟩:=bs h
        obtain ⟨x82,agO,h⟩:=bs h
        obtain ⟨x87,Uw,h⟩:=bs h
        obtain ⟨x92,acE,h⟩:=bs h
        refine gd c78 j j j j (mk [(1,M 1),(4,H 4 0),(5,H 5 0),(8,iv wo),(9,iv uV),(10,iv qw),(11,M 11)] [(1,Oa (G 2 (bI l_0))),(4,Oc [Z (W 1 eI x50)]),(5,Oc [Z (W 1 eI x52)]),(11,Oa [C (I x68),C (I x73),C (I (w64 (x77 - x82))),C (I (w64 (x87 - x92)))])]) (t j j (oMv j j)<|t j j (oMv j j)<|t j j (oBi j j j j)<|t j j (bK j agN aU j j j j)<|t j j (fH (cs:=[.im 0 _]) j tF2 j j j j (aA agN) j j)<|t j j (oMv j j)<|t j j (oMv j j)<|t j j (oBi j j j j)<|t j j (bK j OD aU j j j j)<|t j j (fH (cs:=[.im 0 _]) j tF2 j j j j (aA OD) j j)<|t j j (oMv j j)<|t j j (oMv j j)<|t j j (bK j Vw aU j j j j)<|t j j (fH (cs:=[.im 0 _]) j tF2 j j j j (aA Vw) j j)<|t j j (oMv j j)<|t j j (oMv j j)<|t j j (oBi j j j j)<|t j j (bK j agO aU j j j j)<|t j j (fH (cs:=[.im 0 _]) j tF2 j j j j (aA agO) j j)<|t j j (oBi j j j j)<|t j j (oMv j j)<|t j j (oMv j j)<|t j j (bK j Uw aU j j j j)<|t j j (fH (cs:=[.im 0 _]) j tF2 j j j j (aA Uw) j j)<|t j j (oMv j j)<|t j j (oMv j j)<|t j j (oBi j j j j)<|t j j (bK j acE aU j j j j)<|t j j (fH (cs:=[.im 0 _]) j tF2 j j j j (aA acE) j j)<|t j j (oBi j j j j)<|sF (dN z78 j (oBu (cs:=[.im 0 _,.im 0 _,.im 0 _,.im 0 _]) j Qu j)) trivial (sS (dN z78 j (oAl j jW (tkI (tkI (tkI (tkI tk0)))))) trivial (sS (dN z78 j (oSt jW j j j (tkI (tkI (tkI (tkI tk0)))) j j j)) trivial (sD (by kernel_rfl)))) (sS (dN z78 j (oAl j jW (tkI (tkI (tkI (tkI tk0)))))) trivial (sS (dN z78 j (oBu (cs:=[.im 0 _,.im 0 _,.im 0 _,.im 0 _]) j Qu j)) trivial (sS (dN z78 j (oSt jW j j j (tkI (tkI (tkI (tkI tk0)))) j j j)) trivial (sD (by kernel_rfl))))))<|us<|gs<|?_
        obtain ⟨x99,hx99,h⟩:=bs h
        refine g0 j j (q (oFA (r':=.mp 1 0 8) j sZ j j)<|q (oLd (cs:=[.im 2 _]) j FI j j)<|q (oMF (rs:=[.mp 11 0 0]) j j)<|q (oCa (xs:=[.v false [.im 2 _],.fn 132 [.mp 11 0 0]]) (vs:=[(false,[.im 0 _])]) (v:=.v false [.im 0 _]) (rJ hx99) (.inl j) j J5 j (ppC j (ppC j pp0)) j j pb0 j j j)<|q (oUn j j j)<|nl)<|us<|?_
        by_cases hc22:x99=true
        ·rw [if_pos hc22] at h
         exact gF j (nF (iR.2 hc22))<|Go.skip<|Unw.blk<|K21 _ ⟨wo,h,(by kernel_rfl)⟩
        ·rw [if_neg hc22] at h
         exact gT j (nT (byF iR hc22))<|g0 j j (q (oMv j j)<|q (oFA (r':=.mp 11 0 2) j wu j j)<|q (oLd (cs:=[.im 0 _]) j tF2 j j)<|q (oFA (r':=.mp 11 0 3) j wz j j)<|q (oLd (cs:=[.im 0 _]) j tF2 j j)<|q (oBi j j j j)<|q (oBi j j j j)<|q (ae j j)<|nl)<|Unw.blk<|K21 _ ⟨(w64 (wo+(w64 ((w64 (x77 - x82)) * (w64 (x87 - x92)))))),h,(by kernel_rfl)⟩
      ·refine Go.exit<|ux<|Unw.nil<|?_
       cases h
       exact ⟨j,(by kernel_rfl)⟩
     ·rintro ⟨e,st⟩ hp
      obtain ⟨Dx,rfl⟩:∃y,y=o:=⟨o,rfl⟩
      obtain ⟨he,hst⟩:=hp
      obtain rfl:e= .exit 4:=he
      refine Unw.jZ<|Unw.blk<|us<|g2 c78 j j hst (q (oMv j j)<|q (oBi j j j j)<|q (ae j j)<|nl)<|Unw.nil<|?_
      cases h
      exact ⟨j,(by kernel_rfl)⟩
    ·refine Go.exit<|ux<|Unw.nil<|?_
     cases h
     exact ⟨j,(by kernel_rfl)⟩
   ·rintro ⟨e,st⟩ hp
    obtain ⟨Dy,rfl⟩:∃y,y=o:=⟨o,rfl⟩
    obtain ⟨he,hst⟩:=hp
    obtain rfl:e= .exit 2:=he
    refine Unw.jZ<|us<|gs<|g2 c78 j j hst (q (oMv j j)<|q (ae j j)<|q (ae j j)<|nl)<|us<|Go.ret (Unw.ret ?_)
    cases h
    exact fr agt j
 ·rw [if_neg hc1] at h
  refine gT j (nT (byF iR hc1))<|gs<|g0 j j (q (ae j j)<|q (ae j j)<|nl)<|us<|Go.ret (Unw.ret ?_)
  cases h
  exact fr agt j
theorem Ky {a_0:Int} {b_1:Int} {r:(Int×Int)} (h:xy a_0 b_1=some r):FX 121 [.im 2 false [I a_0],.im 2 false [I b_1]] (B0 [(false,[.im 0 (I r.1)]),(false,[.im 0 (I r.2)])]):=by
 unfold xy at h
 refine gn 26 Try.func121 rfl ?_
 refine gs<|g0 j j (q (ae j j)<|q (ae j j)<|nl)<|us<|gs<|gs<|?_
 obtain ⟨x8,hx8,h⟩:=bs h
 obtain ⟨sN,hm3,h⟩:=bs h
 refine gX afm j j j (mk [(0,iv a_0),(1,iv b_1),(14,bv sN)] []) ?_ ?_
 ·refine xq (oMv j j)<|xq (oCa (xs:=[.v false [.im 2 _],.v false [.im 0 _],.v false [.im 0 _]]) (vs:=[(false,[.im 0 _])]) (v:=.v false [.im 0 _]) (dK hx8) (.inl j) j iw j (ppC j (ppC j (ppC j pp0))) j j pb0 j j j)<|xq (oUn j j j)<|xq (oMv j j)<|?_
  refine ic hm3 (fun hc1 hm3=>?_) fun hc1 hm3=>?_
  ·obtain ⟨x12,Af,hm3⟩:=bs hm3
   cases hm3
   exact xqT j j (nF (iR.2 hc1)) (oMv j j)<|xqT j j (nF (iR.2 hc1)) (oCa (xs:=[.v false [.im 2 _],.v false [.im 0 _],.v false [.im 0 _]]) (vs:=[(false,[.im 0 _])]) (v:=.v false [.im 0 _]) (dK Af) (.inl j) j iw j (ppC j (ppC j (ppC j pp0))) j j pb0 j j j)<|xqT j j (nF (iR.2 hc1)) (oUn j j j)<|xq (bD j j (nF (iR.2 hc1)) j)<|xn
  ·cases hm3
   exact ah j j (nT (byF iR hc1)) j<|ah j j (nT (byF iR hc1)) j<|ah j j (nT (byF iR hc1)) j<|xq (bf j j (nT (byF iR hc1)) j)<|xn
 ·refine us<|gc h j iR (fun hc2 h=>?_) fun hc2 h=>?_
  ·refine gs<|g0 j j (q (ae j j)<|q (ae j j)<|nl)<|us<|Go.ret (Unw.ret ?_)
   cases h
   exact fr ac6 j
  ·refine Go.skip<|us<|gs<|g0 j j (q (oMv j j)<|q (oMv j j)<|q (oBi j j j j)<|q (oMv j j)<|q (oMv j j)<|q (oBi j j j j)<|q (U2 j j)<|q (ae j j)<|nl)<|us<|gs<|g0 j j (q (oMv j j)<|q (oMv j j)<|q (oBi j j j j)<|q (ad6 j j)<|q (ae j j)<|q (ae j j)<|nl)<|us<|Go.ret (Unw.ret ?_)
   cases h
   exact fr ac6 j
theorem MK {a_0:dW} {b_1:dW} {r:Int} (h:wZ a_0 b_1=some r):FX 67 [.im 2 true (nH a_0),.im 2 true (nH b_1)] (B0 [(false,[.im 0 (I r)])]):=by
 unfold wZ at h
 refine gn 29 Try.func67 rfl ?_
 refine gs<|g0 j j (q (oBx j Am j (tkI (tkI (tkI tk0))))<|q (oBx j Am j (tkI (tkI (tkI tk0))))<|q (ae j j)<|nl)<|us<|gs<|?_
 obtain ⟨x12,Af,h⟩:=bs h
 refine g0 j j (q (oFA (r':=.mp 2 0 2) j Jk j j)<|q (oLd (cs:=[.im 0 _]) j tF2 j j)<|q (oFA (r':=.mp 3 0 2) j Jk j j)<|q (oLd (cs:=[.im 0 _]) j tF2 j j)<|q (oCa (xs:=[.v false [.im 0 _],.v false [.im 0 _]]) (vs:=[(false,[.im 0 _]),(false,[.im 0 _])]) (v:=.tup [(false,[.im 0 _]),(false,[.im 0 _])]) (Ky Af) (.inl j) j Yy j (ppC j (ppC j pp0)) j j pb0 j j j)<|q (Gj j j)<|q (oEx j j j)<|q (oEx j j j)<|q (ae j j)<|q (ae j j)<|nl)<|us<|gs<|?_
 obtain ⟨x27,hx27,h⟩:=bs h
 refine g0 j j (q (oFA (r':=.mp 2 0 1) j Ak j j)<|q (oLd (cs:=[.im 0 _]) j tF2 j j)<|q (oFA (r':=.mp 3 0 1) j Ak j j)<|q (oLd (cs:=[.im 0 _]) j tF2 j j)<|q (oBi j j j j)<|q (oFA (r':=.mp 3 0 1) j Ak j j)<|q (oLd (cs:=[.im 0 _]) j tF2 j j)<|q (oFA (r':=.mp 2 0 1) j Ak j j)<|q (oLd (cs:=[.im 0 _]) j tF2 j j)<|q (oBi j j j j)<|q (U2 j j)<|q (oMv j j)<|q (Q5 j hx27 j j)<|q (oBi j j j j)<|q (ae j j)<|nl)<|us<|Go.ret (Unw.ret ?_)
 cases h
 exact fr ahO j
theorem Jr {x_0:aH} {dS:(List dH)} {r:(Int×Int×Int)} (h:rC x_0 dS=some r):FX 36 [.im 2 true (dB x_0),.im 2 false [W 9 dG dS]] (B0 [(false,[.im 0 (I r.1)]),(false,[.im 0 (I r.2.1)]),(false,[.im 0 (I r.2.2)])]):=by
 unfold rC at h
 refine gn 66 Try.func36 rfl ?_
 refine gs<|g0 j j (q (oBx j CE j (tkI (tkI (tkI (tkI (tkI (tkI (tkI (tkI tk0)))))))))<|q (ae j j)<|q (ae j j)<|q (ae j j)<|nl)<|us<|gs<|gs<|?_
 obtain ⟨x15,Jn,h⟩:=bs h
 obtain ⟨Fe,xM,h⟩:=bs h
 refine gX c36 j j (st1:=mk [(1,D 2 (W 9 dG dS)),(2,M 2)] [(2,Oa (G 0 (dB x_0)))]) (by kernel_rfl) (mk [(1,D 2 (W 9 dG dS)),(2,M 2),(21,bv Fe)] [(2,Oa (G 0 (dB x_0)))]) ?_ ?_
 ·refine xq (oLd (cs:=[.im 0 _,.im 0 _,.im 0 _,.im 0 _,.im 0 _,.im 0 _,.im 0 _,.im 0 _]) j CE j j)<|xq (oCa (xs:=[.v true [.im 0 _,.im 0 _,.im 0 _,.im 0 _,.im 0 _,.im 0 _,.im 0 _,.im 0 _]]) (vs:=[(false,[.im 0 _])]) (v:=.v false [.im 0 _]) (wB Jn) (.inl j) j MX j (ppC j pp0) j j pb0 j j j)<|xq (oUn j j j)<|xq (oMv j j)<|?_
  refine ic xM (fun hc1 xM=>?_) fun hc1 xM=>?_
  ·obtain ⟨x19,Dc,xM⟩:=bs xM
   cases xM
   exact xqT j j (nF (iR.2 hc1)) (oMv j j)<|xqT j j (nF (iR.2 hc1)) (oCa (xs:=[.v false [.im 2 _]]) (vs:=[(false,[.im 0 _])]) (v:=.v false [.im 0 _]) (Jq Dc) (.inl j) j acu j (ppC j pp0) j j pb0 j j j)<|xqT j j (nF (iR.2 hc1)) (oUn j j j)<|xq (bD j j (nF (iR.2 hc1)) j)<|xn
  ·cases xM
   exact ah j j (nT (byF iR hc1)) j<|ah j j (nT (byF iR hc1)) j<|ah j j (nT (byF iR hc1)) j<|xq (bf j j (nT (byF iR hc1)) j)<|xn
 ·refine us<|gc h j iR (fun hc2 h=>?_) fun hc2 h=>?_
  ·refine gs<|g0 j j (q (ae j j)<|q (ae j j)<|q (ae j j)<|nl)<|us<|Go.ret (Unw.ret ?_)
   cases h
   exact fr aep j
  ·refine Go.skip<|us<|gs<|g0 j j (q (ae j j)<|q (ae j j)<|nl)<|us<|gs<|gs<|g0 j j (q (oMv j j)<|q (xI j j aaq j)<|q (oMv j j)<|nl)<|us<|Go.block<|?_
   obtain ⟨o,hl,h⟩:=bs h
   refine gl c36 j _ (fun (s:(Int×Int×Int))=>match s with | (iH,gq,dQ)=>mk [(2,M 2),(7,iv iH),(8,iv gq),(22,D 2 (W 9 dG dS)),(23,iv (dS.length:Int)),(24,iv dQ)] [(2,Oa (G 0 (dB x_0)))]) (fun (o:(Int×Int)) (p:Ex×St)=>match o with | (xR,yC)=>p.1= .exit 0∧p.2.norm ([7,8],[])=mk [(7,iv xR),(8,iv yC)] []) hl (by kernel_rfl) ?_ ?_ ?_
   ·intro o p hp e
    obtain ⟨xR,yC⟩:=o
    exact nomatch (hp.1.symm.trans e)
   ·rintro ⟨iH,gq,dQ⟩ o h
    unfold jC at h
    dsimp only at h
    refine gs<|g0 j j (q (oBi j j j j)<|nl)<|us<|gs<|gc h j af (fun nU h=>?_) fun nU h=>?_
    ·refine Go.skip<|us<|gs<|Go.join (fun st=>∃BZ,∃Ad,kE dQ BZ Ad=some o∧st.norm ([2,7,8,22,23,24],[2])=mk [(2,M 2),(7,iv BZ),(8,iv Ad),(22,D 2 (W 9 dG dS)),(23,iv (dS.length:Int)),(24,iv dQ)] [(2,Oa (G 0 (dB x_0)))]) ?_ ?_
     ·rintro st ⟨BZ,Ad,h,hst⟩
      unfold kE at h
      refine us<|g2 c36 j j hst (q (oBi j j j j)<|q (oMv j j)<|nl)<|Unw.nil<|?_
      cases h
      exact ⟨j,(by kernel_rfl)⟩
     ·intro K19
      refine Go.block<|gs<|?_
      obtain ⟨x27,hx27,h⟩:=bs h
      refine g0 j j (q (oMv j j)<|q (pK j hx27 SB j j)<|q (oLd (cs:=[.im 2 _,.im 2 _,.im 2 _,.im 2 _,.im 2 _,.im 2 _,.im 2 _,.im 2 _,.im 2 _]) j EM j j)<|q (oAl j EM (tkI (tkI (tkI (tkI (tkI (tkI (tkI (tkI (tkN tk0))))))))))<|q (ae j j)<|q (oSt EM j j j (tkI (tkI (tkI (tkI (tkI (tkI (tkI (tkI (tkI tk0))))))))) j j j)<|nl)<|us<|gs<|?_
      obtain ⟨x31,hx31,h⟩:=bs h
      refine g1 j j (mk [(2,M 2),(7,iv iH),(8,iv gq),(9,iv dQ),(10,M 10),(22,D 2 (W 9 dG dS)),(23,iv (dS.length:Int)),(24,iv dQ)] [(2,Oa (G 0 (dB x_0))),(10,Oa (G 2 (bI x27)))]) (q (oLd (cs:=[.im 0 _,.im 0 _,.im 0 _,.im 0 _,.im 0 _,.im 0 _,.im 0 _,.im 0 _,.im 2 _]) j EM j j)<|q (oCa (xs:=[.v true [.im 0 _,.im 0 _,.im 0 _,.im 0 _,.im 0 _,.im 0 _,.im 0 _,.im 0 _,.im 2 _]]) (vs:=[(false,[.im 0 _]),(false,[.im 0 _])]) (v:=.tup [(false,[.im 0 _]),(false,[.im 0 _])]) (Kw hx31) (.inl j) j acv j (ppC j pp0) j j pb0 j j j)<|q (Gj j j)<|q (oEx j j j)<|q (oEx j j j)<|q (ae j j)<|q (ae j j)<|nl)<|us<|gs<|gs<|gX c36 j j j (mk [(2,M 2),(7,iv iH),(8,iv gq),(9,iv dQ),(10,M 10),(22,D 2 (W 9 dG dS)),(23,iv (dS.length:Int)),(24,iv dQ),(46,bv ((!(x27.dX.gm.toList==x_0.dX.gm.toList))||(decide (x31.1<x_0.Area))))] [(2,Oa (G 0 (dB x_0))),(10,Oa (G 2 (bI x27)))]) ?_ ?_
      ·refine xq (oFA (r':=.mp 10 0 3) j Jl j j)<|xq (oFA (r':=.mp 10 0 3) j Lj j j)<|xq (oLd (cs:=[.im 0 _]) j tF9 j j)<|xq (oFA (r':=.mp 2 0 1) j Ll j j)<|xq (oFA (r':=.mp 2 0 1) j Lj j j)<|xq (oLd (cs:=[.im 0 _]) j tF9 j j)<|xq (oBi j j j j)<|xq (oMv j j)<|?_
       by_cases wK:¬(x27.dX.gm=x_0.dX.gm)
       ·exact ah rfl rfl ((Jf uX).2 wK) rfl<|ah rfl rfl ((Jf uX).2 wK) rfl<|ah rfl rfl ((Jf uX).2 wK) rfl<|ah rfl rfl ((Jf uX).2 wK) rfl<|xq (bf rfl rfl ((Jf uX).2 wK) rfl)<|xn (Eq.trans (b:=(fun FZ:Bool=>mk [(2,M 2),(7,iv iH),(8,iv gq),(9,iv dQ),(10,M 10),(22,D 2 (W 9 dG dS)),(23,iv (dS.length:Int)),(24,iv dQ),(46,bv FZ)] [(2,Oa (G 0 (dB x_0))),(10,Oa (G 2 (bI x27)))]) true) (by kernel_rfl) (congrArg (fun FZ:Bool=>mk [(2,M 2),(7,iv iH),(8,iv gq),(9,iv dQ),(10,M 10),(22,D 2 (W 9 dG dS)),(23,iv (dS.length:Int)),(24,iv dQ),(46,bv FZ)] [(2,Oa (G 0 (dB x_0))),(10,Oa (G 2 (bI x27)))]) (by first | rfl | (simp [((Jf uX).2 wK)];done) | (simp [((Jf uX).2 wK)];omega))))
       ·exact xqT rfl rfl (byF (Jf uX) wK) (oMv rfl rfl)<|xqT rfl rfl (byF (Jf uX) wK) (oFA (r':=.mp 2 0 4) rfl Lm rfl rfl)<|xqT rfl rfl (byF (Jf uX) wK) (oLd (cs:=[.im 0 _]) rfl tF2 rfl rfl)<|xqT rfl rfl (byF (Jf uX) wK) (oBi rfl rfl rfl rfl)<|xq (bD rfl rfl (byF (Jf uX) wK) rfl)<|xn (Eq.trans (b:=(fun FZ:Bool=>mk [(2,M 2),(7,iv iH),(8,iv gq),(9,iv dQ),(10,M 10),(22,D 2 (W 9 dG dS)),(23,iv (dS.length:Int)),(24,iv dQ),(46,bv FZ)] [(2,Oa (G 0 (dB x_0))),(10,Oa (G 2 (bI x27)))]) (decide (x31.1<x_0.Area))) (by kernel_rfl) (congrArg (fun FZ:Bool=>mk [(2,M 2),(7,iv iH),(8,iv gq),(9,iv dQ),(10,M 10),(22,D 2 (W 9 dG dS)),(23,iv (dS.length:Int)),(24,iv dQ),(46,bv FZ)] [(2,Oa (G 0 (dB x_0))),(10,Oa (G 2 (bI x27)))]) (by first | rfl | (simp [(byF (Jf uX) wK)];done) | (simp [(byF (Jf uX) wK)];omega))))
      ·refine us<|gc h j (iOr (Jf uX) af) (fun hc21 h=>?_) fun hc21 h=>?_
       ·exact Go.exit<|ux<|Unw.jZ<|K19 _ ⟨iH,gq,h,(by kernel_rfl)⟩
       ·refine Go.skip<|us<|gs<|?_
        obtain ⟨x51,YF,h⟩:=bs h
        refine g0 j j (q (oFA (r':=.mp 10 0 3) j Jl j j)<|q (oLd (cs:=[.im 0 _,.im 0 _,.im 0 _]) j Am j j)<|q (oFA (r':=.mp 2 0 1) j Ll j j)<|q (oLd (cs:=[.im 0 _,.im 0 _,.im 0 _]) j Am j j)<|q (oCa (xs:=[.v true [.im 0 _,.im 0 _,.im 0 _],.v true [.im 0 _,.im 0 _,.im 0 _]]) (vs:=[(false,[.im 0 _])]) (v:=.v false [.im 0 _]) (MK YF) (.inl j) j Vo j (ppC j (ppC j pp0)) j j pb0 j j j)<|q (ae j j)<|nl)<|us<|gs<|gX c36 j j j (mk [(2,M 2),(7,iv iH),(8,iv gq),(9,iv dQ),(13,iv x51),(22,D 2 (W 9 dG dS)),(23,iv (dS.length:Int)),(24,iv dQ),(58,bv ((decide (iH<0))||(decide (x51<gq))))] [(2,Oa (G 0 (dB x_0)))]) ?_ ?_
        ·refine xq (oMv j j)<|xq (oBi j j j j)<|xq (oMv j j)<|?_
         by_cases hc22:iH<0
         ·exact ah rfl rfl (af.2 hc22) rfl<|ah rfl rfl (af.2 hc22) rfl<|ah rfl rfl (af.2 hc22) rfl<|xq (bf rfl rfl (af.2 hc22) rfl)<|xn (Eq.trans (b:=(fun CZ:Bool=>mk [(2,M 2),(7,iv iH),(8,iv gq),(9,iv dQ),(13,iv x51),(22,D 2 (W 9 dG dS)),(23,iv (dS.length:Int)),(24,iv dQ),(58,bv CZ)] [(2,Oa (G 0 (dB x_0)))]) true) (by kernel_rfl) (congrArg (fun CZ:Bool=>mk [(2,M 2),(7,iv iH),(8,iv gq),(9,iv dQ),(13,iv x51),(22,D 2 (W 9 dG dS)),(23,iv (dS.length:Int)),(24,iv dQ),(58,bv CZ)] [(2,Oa (G 0 (dB x_0)))]) (by first | rfl | (simp [(af.2 hc22)];done) | (simp [(af.2 hc22)];omega))))
         ·exact xqT rfl rfl (byF af hc22) (oMv rfl rfl)<|xqT rfl rfl (byF af hc22) (oMv rfl rfl)<|xqT rfl rfl (byF af hc22) (oBi rfl rfl rfl rfl)<|xq (bD rfl rfl (byF af hc22) rfl)<|xn (Eq.trans (b:=(fun CZ:Bool=>mk [(2,M 2),(7,iv iH),(8,iv gq),(9,iv dQ),(13,iv x51),(22,D 2 (W 9 dG dS)),(23,iv (dS.length:Int)),(24,iv dQ),(58,bv CZ)] [(2,Oa (G 0 (dB x_0)))]) (decide (x51<gq))) (by kernel_rfl) (congrArg (fun CZ:Bool=>mk [(2,M 2),(7,iv iH),(8,iv gq),(9,iv dQ),(13,iv x51),(22,D 2 (W 9 dG dS)),(23,iv (dS.length:Int)),(24,iv dQ),(58,bv CZ)] [(2,Oa (G 0 (dB x_0)))]) (by first | rfl | (simp [(byF af hc22)];done) | (simp [(byF af hc22)];omega))))
        ·refine us<|gc h j (iOr af af) (fun FN h=>?_) fun FN h=>?_
         ·exact g0 j j (q (oMv j j)<|q (oMv j j)<|q (ae j j)<|q (ae j j)<|nl)<|Unw.blk<|K19 _ ⟨dQ,x51,h,(by kernel_rfl)⟩
         ·exact Go.skip<|Unw.blk<|K19 _ ⟨iH,gq,h,(by kernel_rfl)⟩
    ·refine Go.exit<|ux<|Unw.nil<|?_
     cases h
     exact ⟨j,(by kernel_rfl)⟩
   ·rintro ⟨e,st⟩ hp
    obtain ⟨xR,yC⟩:=o
    dsimp only at h
    obtain ⟨he,hst⟩:=hp
    obtain rfl:e= .exit 0:=he
    refine Unw.jZ<|us<|gs<|gs<|g2 c36 j j hst (q (oMv j j)<|q (oBi j j j j)<|nl)<|us<|gc h j af (fun hc13 h=>?_) fun hc13 h=>?_
    ·refine gs<|g0 j j (q (ae j j)<|q (ae j j)<|q (ae j j)<|nl)<|us<|Go.ret (Unw.ret ?_)
     cases h
     exact fr aep j
    ·refine Go.skip<|us<|gs<|g0 j j (q (oMv j j)<|q (oMv j j)<|q (ae j j)<|q (ae j j)<|q (ae j j)<|nl)<|us<|Go.ret (Unw.ret ?_)
     cases h
     exact fr aep j
theorem ML {a_0:Int} {b_1:Int} {r:Int} (h:zC a_0 b_1=some r):FX 138 [.im 2 false [I a_0],.im 2 false [I b_1]] (B0 [(false,[.im 0 (I r)])]):=by
 unfold zC at h
 refine gn 17 Try.func138 rfl ?_
 refine gs<|g0 j j (q (ae j j)<|nl)<|us<|gs<|?_
 obtain ⟨x12,Af,h⟩:=bs h
 refine g0 j j (q (oMv j j)<|q (oMv j j)<|q (oBi j j j j)<|q (oMv j j)<|q (oMv j j)<|q (oBi j j j j)<|q (oCa (xs:=[.v false [.im 0 _],.v false [.im 0 _]]) (vs:=[(false,[.im 0 _])]) (v:=.v false [.im 0 _]) (xh Af) (.inl j) j EK j (ppC j (ppC j pp0)) j j pb0 j j j)<|q (ae j j)<|nl)<|us<|gs<|?_
 obtain ⟨x16,hx16,h⟩:=bs h
 refine g0 j j (q (oMv j j)<|q (oMv j j)<|q (oBi j j j j)<|q (oCa (xs:=[.v false [.im 0 _],.v false [.im 0 _]]) (vs:=[(false,[.im 0 _])]) (v:=.v false [.im 0 _]) (qK hx16) (.inl j) j y7 j (ppC j (ppC j pp0)) j j pb0 j j j)<|q (ae j j)<|nl)<|us<|Go.ret (Unw.ret ?_)
 cases h
 exact fr afP j
theorem Js {a_0:dW} {b_1:dW} {r:Int} (h:rD a_0 b_1=some r):FX 80 [.im 2 false [.cp (nH a_0) 0],.im 2 false [.cp (nH b_1) 0]] (B0 [(false,[.im 0 (I r)])]):=by
 unfold rD at h
 refine gn 35 Try.func80 rfl ?_
 refine gs<|g0 j j (q (ae j j)<|nl)<|us<|gs<|?_
 obtain ⟨x23,Ih,h⟩:=bs h
 obtain ⟨x32,hx32,h⟩:=bs h
 obtain ⟨x33,FK,h⟩:=bs h
 refine gd c80 j j j j (mk [(4,iv (w64 (x23+x33)))] []) (t j j (oMv j j)<|t j j (oNl j j j)<|t j j (oFA (r':=.im 2 _) j Ak j j)<|t j j (oLd (cs:=[.im 2 _]) j tF2 j j)<|t j j (oMv j j)<|t j j (oNl j j j)<|t j j (oFA (r':=.im 2 _) j Ak j j)<|t j j (oLd (cs:=[.im 2 _]) j tF2 j j)<|t j j (oBi j j j j)<|t j j (oMv j j)<|t j j (oNl j j j)<|t j j (oFA (r':=.im 2 _) j Ak j j)<|t j j (oLd (cs:=[.im 2 _]) j tF2 j j)<|t j j (oMv j j)<|t j j (oNl j j j)<|t j j (oFA (r':=.im 2 _) j Ak j j)<|t j j (oLd (cs:=[.im 2 _]) j tF2 j j)<|t j j (oBi j j j j)<|t j j (oMv j j)<|t j j (oNl j j j)<|t j j (oFA (r':=.im 2 _) j Jk j j)<|t j j (oLd (cs:=[.im 2 _]) j tF2 j j)<|t j j (oMv j j)<|t j j (oNl j j j)<|t j j (oFA (r':=.im 2 _) j Jk j j)<|t j j (oLd (cs:=[.im 2 _]) j tF2 j j)<|sS (dN z80 j (oCa (xs:=[.v false [.im 0 _],.v false [.im 0 _]]) (vs:=[(false,[.im 0 _])]) (v:=.v false [.im 0 _]) (xh Ih) (.inl j) j EK j (ppC j (ppC j pp0)) j j pb0 j j j)) trivial (sS (dN z80 j (oCa (xs:=[.v false [.im 2 _],.v false [.im 2 _]]) (vs:=[(false,[.im 0 _])]) (v:=.v false [.im 0 _]) (ML hx32) (.inl j) j Yz j (ppC j (ppC j pp0)) j j pb0 j j j)) trivial (t j j (Q5 j FK j j)<|t j j (oBi j j j j)<|sS (dN z80 j (ae j j)) trivial (sD (by kernel_rfl)))))<|us<|Go.ret (Unw.ret ?_)
 cases h
 exact fr ahU j
theorem Kz {a_0:dW} {b_1:dW} {r:(Int×Int)} (h:um a_0 b_1=some r):FX 37 [.im 2 true (nH a_0),.im 2 true (nH b_1)] (B0 [(false,[.im 0 (I r.1)]),(false,[.im 0 (I r.2)])]):=by
 unfold um at h
 refine gn 13 Try.func37 rfl ?_
 refine gs<|g0 j j (q (oBx j Am j (tkI (tkI (tkI tk0))))<|q (oBx j Am j (tkI (tkI (tkI tk0))))<|q (ae j j)<|q (ae j j)<|nl)<|us<|gs<|gs<|?_
 obtain ⟨x6,hx6,h⟩:=bs h
 obtain ⟨RH,hm3,h⟩:=bs h
 refine gX c37 j j j (mk [(2,M 2),(3,M 3),(11,bv RH)] [(2,Oa (G 0 (nH a_0))),(3,Oa (G 0 (nH b_1)))]) ?_ ?_
 ·refine xq (oCa (xs:=[.v false [.mp 2 0 0]]) (vs:=[(false,[.im 0 _])]) (v:=.v false [.im 0 _]) (Ba hx6) (.inl j) j J8 j (ppC j pp0) j j pb0 j j j)<|xq (oUn j j j)<|xq (oMv j j)<|?_
  refine ic hm3 (fun hc1 hm3=>?_) fun hc1 hm3=>?_
  ·obtain ⟨x9,hx9,hm3⟩:=bs hm3
   cases hm3
   exact xqT j j (nF (iR.2 hc1)) (oCa (xs:=[.v false [.mp 3 0 0]]) (vs:=[(false,[.im 0 _])]) (v:=.v false [.im 0 _]) (Ba hx9) (.inl j) j J8 j (ppC j pp0) j j pb0 j j j)<|xqT j j (nF (iR.2 hc1)) (oUn j j j)<|xq (bD j j (nF (iR.2 hc1)) j)<|xn
  ·cases hm3
   exact ah j j (nT (byF iR hc1)) j<|ah j j (nT (byF iR hc1)) j<|xq (bf j j (nT (byF iR hc1)) j)<|xn
 ·refine us<|gc h j iR (fun hc2 h=>?_) fun hc2 h=>?_
  ·refine gs<|g0 j j (q (ae j j)<|q (ae j j)<|nl)<|us<|Go.ret (Unw.ret ?_)
   cases h
   exact fr agp j
  ·refine Go.skip<|us<|gs<|?_
   obtain ⟨x12,Af,h⟩:=bs h
   refine g0 j j (q (oCa (xs:=[.v false [.mp 2 0 0],.v false [.mp 3 0 0]]) (vs:=[(false,[.im 0 _])]) (v:=.v false [.im 0 _]) (Js Af) (.inl j) j SA j (ppC j (ppC j pp0)) j j pb0 j j j)<|q (ae j j)<|q (ae j j)<|nl)<|us<|Go.ret (Unw.ret ?_)
   cases h
   exact fr agp j
theorem PN {b_0:cO} {mV:Int} {jR:Int} {r:Bool} (h:Dz b_0 mV jR=some r):FX 139 [.im 2 false [.cp (nS b_0) 0],.im 2 false [I mV],.im 2 false [I jR]] (B0 [(false,[.im 0 (V r)])]):=by
 unfold Dz at h
 refine gn 47 Try.func139 rfl ?_
 refine gs<|g0 j j (q (ae j j)<|nl)<|us<|gs<|?_
 obtain ⟨x12,Af,h⟩:=bs h
 obtain ⟨o6,hm4,h⟩:=bs h
 refine gd c139 j j j j (mk [(6,bv o6)] []) ?_ ?_
 ·refine t j j (oMv j j)<|t j j (oNl j j j)<|t j j (oFA (r':=.im 2 _) j pz j j)<|t j j (oLd (cs:=[.im 2 _]) j tF2 j j)<|?_
  refine ic hm4 (fun hc1 hm4=>?_) fun hc1 hm4=>?_
  ·obtain ⟨x19,Dc,hm4⟩:=bs hm4
   refine ic hm4 (fun hc2 hm4=>?_) fun hc2 hm4=>?_
   ·obtain ⟨x32,hx32,hm4⟩:=bs hm4
    refine ic hm4 (fun hc3 hm4=>?_) fun hc3 hm4=>?_
    ·obtain ⟨x45,OC,hm4⟩:=bs hm4
     cases hm4
     exact t j j (oMv j j)<|sS (dN z139 j (oCa (xs:=[.v false [.im 2 _],.v false [.im 0 _],.v false [.im 2 _]]) (vs:=[(false,[.im 0 _])]) (v:=.v false [.im 0 _]) (eU Af) (.inl j) j iy j (ppC j (ppC j (ppC j pp0))) j j pb0 j j j)) trivial (t j j (oMv j j)<|tT j j j j (iR.2 hc1) (oMv j j)<|tT j j j j (iR.2 hc1) (oNl j j j)<|tT j j j j (iR.2 hc1) (oFA (r':=.im 2 _) j mZ j j)<|tT j j j j (iR.2 hc1) (oLd (cs:=[.im 2 _]) j tF2 j j)<|tT j j j j (iR.2 hc1) (oMv j j)<|sS (dT z139 j j j (iR.2 hc1) (oCa (xs:=[.v false [.im 2 _],.v false [.im 0 _],.v false [.im 2 _]]) (vs:=[(false,[.im 0 _])]) (v:=.v false [.im 0 _]) (eU Dc) (.inl j) j iy j (ppC j (ppC j (ppC j pp0))) j j pb0 j j j)) trivial (t j j (bf j j (iR.2 hc1) j)<|t j j (oMv j j)<|tT j j j j (iR.2 hc2) (oMv j j)<|tT j j j j (iR.2 hc2) (oNl j j j)<|tT j j j j (iR.2 hc2) (oFA (r':=.im 2 _) j wu j j)<|tT j j j j (iR.2 hc2) (oLd (cs:=[.im 2 _]) j tF2 j j)<|tT j j j j (iR.2 hc2) (oMv j j)<|tT j j j j (iR.2 hc2) (oMv j j)<|tT j j j j (iR.2 hc2) (oNl j j j)<|tT j j j j (iR.2 hc2) (oFA (r':=.im 2 _) j pz j j)<|tT j j j j (iR.2 hc2) (oLd (cs:=[.im 2 _]) j tF2 j j)<|tT j j j j (iR.2 hc2) (oBi j j j j)<|sS (dT z139 j j j (iR.2 hc2) (oCa (xs:=[.v false [.im 2 _],.v false [.im 0 _],.v false [.im 0 _]]) (vs:=[(false,[.im 0 _])]) (v:=.v false [.im 0 _]) (eU hx32) (.inl j) j iy j (ppC j (ppC j (ppC j pp0))) j j pb0 j j j)) trivial (t j j (bf j j (iR.2 hc2) j)<|t j j (oMv j j)<|tT j j j j (iR.2 hc3) (oMv j j)<|tT j j j j (iR.2 hc3) (oNl j j j)<|tT j j j j (iR.2 hc3) (oFA (r':=.im 2 _) j wz j j)<|tT j j j j (iR.2 hc3) (oLd (cs:=[.im 2 _]) j tF2 j j)<|tT j j j j (iR.2 hc3) (oMv j j)<|tT j j j j (iR.2 hc3) (oMv j j)<|tT j j j j (iR.2 hc3) (oNl j j j)<|tT j j j j (iR.2 hc3) (oFA (r':=.im 2 _) j mZ j j)<|tT j j j j (iR.2 hc3) (oLd (cs:=[.im 2 _]) j tF2 j j)<|tT j j j j (iR.2 hc3) (oBi j j j j)<|sS (dT z139 j j j (iR.2 hc3) (oCa (xs:=[.v false [.im 2 _],.v false [.im 0 _],.v false [.im 0 _]]) (vs:=[(false,[.im 0 _])]) (v:=.v false [.im 0 _]) (eU OC) (.inl j) j iy j (ppC j (ppC j (ppC j pp0))) j j pb0 j j j)) trivial (t j j (bf j j (iR.2 hc3) j)<|sS (dN z139 j (ae j j)) trivial (sD (by kernel_rfl))))))
    ·cases hm4
     exact t j j (oMv j j)<|sS (dN z139 j (oCa (xs:=[.v false [.im 2 _],.v false [.im 0 _],.v false [.im 2 _]]) (vs:=[(false,[.im 0 _])]) (v:=.v false [.im 0 _]) (eU Af) (.inl j) j iy j (ppC j (ppC j (ppC j pp0))) j j pb0 j j j)) trivial (t j j (oMv j j)<|tT j j j j (iR.2 hc1) (oMv j j)<|tT j j j j (iR.2 hc1) (oNl j j j)<|tT j j j j (iR.2 hc1) (oFA (r':=.im 2 _) j mZ j j)<|tT j j j j (iR.2 hc1) (oLd (cs:=[.im 2 _]) j tF2 j j)<|tT j j j j (iR.2 hc1) (oMv j j)<|sS (dT z139 j j j (iR.2 hc1) (oCa (xs:=[.v false [.im 2 _],.v false [.im 0 _],.v false [.im 2 _]]) (vs:=[(false,[.im 0 _])]) (v:=.v false [.im 0 _]) (eU Dc) (.inl j) j iy j (ppC j (ppC j (ppC j pp0))) j j pb0 j j j)) trivial (t j j (bf j j (iR.2 hc1) j)<|t j j (oMv j j)<|tT j j j j (iR.2 hc2) (oMv j j)<|tT j j j j (iR.2 hc2) (oNl j j j)<|tT j j j j (iR.2 hc2) (oFA (r':=.im 2 _) j wu j j)<|tT j j j j (iR.2 hc2) (oLd (cs:=[.im 2 _]) j tF2 j j)<|tT j j j j (iR.2 hc2) (oMv j j)<|tT j j j j (iR.2 hc2) (oMv j j)<|tT j j j j (iR.2 hc2) (oNl j j j)<|tT j j j j (iR.2 hc2) (oFA (r':=.im 2 _) j pz j j)<|tT j j j j (iR.2 hc2) (oLd (cs:=[.im 2 _]) j tF2 j j)<|tT j j j j (iR.2 hc2) (oBi j j j j)<|sS (dT z139 j j j (iR.2 hc2) (oCa (xs:=[.v false [.im 2 _],.v false [.im 0 _],.v false [.im 0 _]]) (vs:=[(false,[.im 0 _])]) (v:=.v false [.im 0 _]) (eU hx32) (.inl j) j iy j (ppC j (ppC j (ppC j pp0))) j j pb0 j j j)) trivial (t j j (bf j j (iR.2 hc2) j)<|t j j (oMv j j)<|tF j j j j (byF iR hc3) j<|tF j j j j (byF iR hc3) j<|tF j j j j (byF iR hc3) j<|tF j j j j (byF iR hc3) j<|tF j j j j (byF iR hc3) j<|tF j j j j (byF iR hc3) j<|tF j j j j (byF iR hc3) j<|tF j j j j (byF iR hc3) j<|tF j j j j (byF iR hc3) j<|tF j j j j (byF iR hc3) j<|sS (dF j j j (byF iR hc3) j) trivial (t j j (bD j j (byF iR hc3) j)<|sS (dN z139 j (ae j j)) trivial (sD (by kernel_rfl))))))
   ·cases hm4
    exact t j j (oMv j j)<|sS (dN z139 j (oCa (xs:=[.v false [.im 2 _],.v false [.im 0 _],.v false [.im 2 _]]) (vs:=[(false,[.im 0 _])]) (v:=.v false [.im 0 _]) (eU Af) (.inl j) j iy j (ppC j (ppC j (ppC j pp0))) j j pb0 j j j)) trivial (t j j (oMv j j)<|tT j j j j (iR.2 hc1) (oMv j j)<|tT j j j j (iR.2 hc1) (oNl j j j)<|tT j j j j (iR.2 hc1) (oFA (r':=.im 2 _) j mZ j j)<|tT j j j j (iR.2 hc1) (oLd (cs:=[.im 2 _]) j tF2 j j)<|tT j j j j (iR.2 hc1) (oMv j j)<|sS (dT z139 j j j (iR.2 hc1) (oCa (xs:=[.v false [.im 2 _],.v false [.im 0 _],.v false [.im 2 _]]) (vs:=[(false,[.im 0 _])]) (v:=.v false [.im 0 _]) (eU Dc) (.inl j) j iy j (ppC j (ppC j (ppC j pp0))) j j pb0 j j j)) trivial (t j j (bf j j (iR.2 hc1) j)<|t j j (oMv j j)<|tF j j j j (byF iR hc2) j<|tF j j j j (byF iR hc2) j<|tF j j j j (byF iR hc2) j<|tF j j j j (byF iR hc2) j<|tF j j j j (byF iR hc2) j<|tF j j j j (byF iR hc2) j<|tF j j j j (byF iR hc2) j<|tF j j j j (byF iR hc2) j<|tF j j j j (byF iR hc2) j<|tF j j j j (byF iR hc2) j<|sS (dF j j j (byF iR hc2) j) trivial (t j j (bD j j (byF iR hc2) j)<|t j j (oMv j j)<|tF j j j j j j<|tF j j j j j j<|tF j j j j j j<|tF j j j j j j<|tF j j j j j j<|tF j j j j j j<|tF j j j j j j<|tF j j j j j j<|tF j j j j j j<|tF j j j j j j<|sS (dF j j j j j) trivial (t j j (bD j j j j)<|sS (dN z139 j (ae j j)) trivial (sD (by kernel_rfl))))))
  ·cases hm4
   exact t j j (oMv j j)<|sS (dN z139 j (oCa (xs:=[.v false [.im 2 _],.v false [.im 0 _],.v false [.im 2 _]]) (vs:=[(false,[.im 0 _])]) (v:=.v false [.im 0 _]) (eU Af) (.inl j) j iy j (ppC j (ppC j (ppC j pp0))) j j pb0 j j j)) trivial (t j j (oMv j j)<|tF j j j j (byF iR hc1) j<|tF j j j j (byF iR hc1) j<|tF j j j j (byF iR hc1) j<|tF j j j j (byF iR hc1) j<|tF j j j j (byF iR hc1) j<|sS (dF j j j (byF iR hc1) j) trivial (t j j (bD j j (byF iR hc1) j)<|t j j (oMv j j)<|tF j j j j j j<|tF j j j j j j<|tF j j j j j j<|tF j j j j j j<|tF j j j j j j<|tF j j j j j j<|tF j j j j j j<|tF j j j j j j<|tF j j j j j j<|tF j j j j j j<|sS (dF j j j j j) trivial (t j j (bD j j j j)<|t j j (oMv j j)<|tF j j j j j j<|tF j j j j j j<|tF j j j j j j<|tF j j j j j j<|tF j j j j j j<|tF j j j j j j<|tF j j j j j j<|tF j j j j j j<|tF j j j j j j<|tF j j j j j j<|sS (dF j j j j j) trivial (t j j (bD j j j j)<|sS (dN z139 j (ae j j)) trivial (sD (by kernel_rfl))))))
 ·refine us<|Go.ret (Unw.ret ?_)
  cases h
  exact fr afQ j
theorem PO {l_0:dH} {r:Bool} (h:rV l_0=some r):FX 81 [.im 2 false [.cp (bI l_0) 0]] (B0 [(false,[.im 0 (V r)])]):=by
 unfold rV at h
 refine gn 80 Try.func81 rfl ?_
 refine gs<|g0 j j (q (ae j j)<|nl)<|us<|gs<|gs<|?_
 obtain ⟨x8,hx8,h⟩:=bs h
 obtain ⟨RI,jD,h⟩:=bs h
 refine gX c81 j j j (mk [(0,D 2 (.cp (bI l_0) 0)),(32,bv RI)] []) ?_ ?_
 ·refine xq (oMv j j)<|xq (oNl j j j)<|xq (oFA (r':=.im 2 _) j RX j j)<|xq (oLd (cs:=[.im 2 _]) j tF9 j j)<|xq (oCa (xs:=[.v false [.im 2 _]]) (vs:=[(false,[.im 0 _])]) (v:=.v false [.im 0 _]) (CP hx8) (.inl j) j Vp j (ppC j pp0) j j pb0 j j j)<|xq (oUn j j j)<|xq (oMv j j)<|?_
  refine ic jD (fun hc1 jD=>?_) fun hc1 jD=>?_
  ·obtain ⟨x15,Jn,jD⟩:=bs jD
   refine xqT j j (nF (iR.2 hc1)) (oMv j j)<|xqT j j (nF (iR.2 hc1)) (oNl j j j)<|xqT j j (nF (iR.2 hc1)) (oFA (r':=.im 2 _) j aac j j)<|xqT j j (nF (iR.2 hc1)) (oLd (cs:=[.im 2 _]) j tF9 j j)<|xqT j j (nF (iR.2 hc1)) (oCa (xs:=[.v false [.im 2 _]]) (vs:=[(false,[.im 0 _])]) (v:=.v false [.im 0 _]) (CP Jn) (.inl j) j Vp j (ppC j pp0) j j pb0 j j j)<|xqT j j (nF (iR.2 hc1)) (oUn j j j)<|xq (bD j j (nF (iR.2 hc1)) j)<|xq (oMv j j)<|?_
   refine ic jD (fun hc2 jD=>?_) fun hc2 jD=>?_
   ·obtain ⟨x23,Ih,jD⟩:=bs jD
    refine xqT j j (nF (iR.2 hc2)) (oMv j j)<|xqT j j (nF (iR.2 hc2)) (oNl j j j)<|xqT j j (nF (iR.2 hc2)) (oFA (r':=.im 2 _) j aad j j)<|xqT j j (nF (iR.2 hc2)) (oLd (cs:=[.im 2 _]) j tF2 j j)<|xqT j j (nF (iR.2 hc2)) (oCa (xs:=[.v false [.im 2 _],.v false [.im 0 _],.v false [.im 0 _]]) (vs:=[(false,[.im 0 _])]) (v:=.v false [.im 0 _]) (eU Ih) (.inl j) j iy j (ppC j (ppC j (ppC j pp0))) j j pb0 j j j)<|xqT j j (nF (iR.2 hc2)) (oUn j j j)<|xq (bD j j (nF (iR.2 hc2)) j)<|xq (oMv j j)<|?_
    refine ic jD (fun hc3 jD=>?_) fun hc3 jD=>?_
    ·obtain ⟨x30,PG,jD⟩:=bs jD
     cases jD
     exact xqT j j (nF (iR.2 hc3)) (oMv j j)<|xqT j j (nF (iR.2 hc3)) (oNl j j j)<|xqT j j (nF (iR.2 hc3)) (oFA (r':=.im 2 _) j Jl j j)<|xqT j j (nF (iR.2 hc3)) (oCa (xs:=[.v false [.im 2 _]]) (vs:=[(false,[.im 0 _])]) (v:=.v false [.im 0 _]) (Ba PG) (.inl j) j J8 j (ppC j pp0) j j pb0 j j j)<|xqT j j (nF (iR.2 hc3)) (oUn j j j)<|xq (bD j j (nF (iR.2 hc3)) j)<|xn
    ·cases jD
     exact ah j j (nT (byF iR hc3)) j<|ah j j (nT (byF iR hc3)) j<|ah j j (nT (byF iR hc3)) j<|ah j j (nT (byF iR hc3)) j<|ah j j (nT (byF iR hc3)) j<|xq (bf j j (nT (byF iR hc3)) j)<|xn
   ·cases jD
    exact ah j j (nT (byF iR hc2)) j<|ah j j (nT (byF iR hc2)) j<|ah j j (nT (byF iR hc2)) j<|ah j j (nT (byF iR hc2)) j<|ah j j (nT (byF iR hc2)) j<|ah j j (nT (byF iR hc2)) j<|xq (bf j j (nT (byF iR hc2)) j)<|xq (oMv j j)<|ah j j j j<|ah j j j j<|ah j j j j<|ah j j j j<|ah j j j j<|xq (bf j j j j)<|xn
  ·cases jD
   exact ah j j (nT (byF iR hc1)) j<|ah j j (nT (byF iR hc1)) j<|ah j j (nT (byF iR hc1)) j<|ah j j (nT (byF iR hc1)) j<|ah j j (nT (byF iR hc1)) j<|ah j j (nT (byF iR hc1)) j<|xq (bf j j (nT (byF iR hc1)) j)<|xq (oMv j j)<|ah j j j j<|ah j j j j<|ah j j j j<|ah j j j j<|ah j j j j<|ah j j j j<|xq (bf j j j j)<|xq (oMv j j)<|ah j j j j<|ah j j j j<|ah j j j j<|ah j j j j<|ah j j j j<|xq (bf j j j j)<|xn
 ·refine us<|gc h j iR (fun hc4 h=>?_) fun hc4 h=>?_
  ·refine gs<|g0 j j (q (ae j j)<|nl)<|us<|Go.ret (Unw.ret ?_)
   cases h
   exact fr acw j
  ·refine Go.skip<|us<|gs<|gs<|?_
   obtain ⟨x37,Lt,h⟩:=bs h
   obtain ⟨RJ,FM,h⟩:=bs h
   refine gX c81 j j j (mk [(0,D 2 (.cp (bI l_0) 0)),(54,bv RJ)] []) ?_ ?_
   ·refine xq (oMv j j)<|xq (oNl j j j)<|xq (oFA (r':=.im 2 _) j H7 j j)<|xq (oLd (cs:=[.im 2 _]) j tF2 j j)<|xq (oCa (xs:=[.v false [.im 2 _],.v false [.im 0 _],.v false [.im 0 _]]) (vs:=[(false,[.im 0 _])]) (v:=.v false [.im 0 _]) (eU Lt) (.inl j) j iy j (ppC j (ppC j (ppC j pp0))) j j pb0 j j j)<|xq (oUn j j j)<|xq (oMv j j)<|?_
    refine ic FM (fun hc5 FM=>?_) fun hc5 FM=>?_
    ·obtain ⟨x44,Vr,FM⟩:=bs FM
     refine xqT j j (nF (iR.2 hc5)) (oMv j j)<|xqT j j (nF (iR.2 hc5)) (oNl j j j)<|xqT j j (nF (iR.2 hc5)) (oFA (r':=.im 2 _) j H8 j j)<|xqT j j (nF (iR.2 hc5)) (oLd (cs:=[.im 2 _]) j tF2 j j)<|xqT j j (nF (iR.2 hc5)) (oCa (xs:=[.v false [.im 2 _],.v false [.im 0 _],.v false [.im 0 _]]) (vs:=[(false,[.im 0 _])]) (v:=.v false [.im 0 _]) (eU Vr) (.inl j) j iy j (ppC j (ppC j (ppC j pp0))) j j pb0 j j j)<|xqT j j (nF (iR.2 hc5)) (oUn j j j)<|xq (bD j j (nF (iR.2 hc5)) j)<|xq (oMv j j)<|?_
     refine ic FM (fun hc6 FM=>?_) fun hc6 FM=>?_
     ·cases FM
      exact xqT j j (nF (iR.2 hc6)) (oMv j j)<|xqT j j (nF (iR.2 hc6)) (oNl j j j)<|xqT j j (nF (iR.2 hc6)) (oFA (r':=.im 2 _) j sZ j j)<|xqT j j (nF (iR.2 hc6)) (oLd (cs:=[.im 2 _]) j FI j j)<|xqT j j (nF (iR.2 hc6)) (xI j j Pz j)<|xqT j j (nF (iR.2 hc6)) (oBi j j j j)<|xq (bD j j (nF (iR.2 hc6)) j)<|xn
     ·cases FM
      exact ah j j (nT (byF iR hc6)) j<|ah j j (nT (byF iR hc6)) j<|ah j j (nT (byF iR hc6)) j<|ah j j (nT (byF iR hc6)) j<|ah j j (nT (byF iR hc6)) j<|ah j j (nT (byF iR hc6)) j<|xq (bf j j (nT (byF iR hc6)) j)<|xn
    ·cases FM
     exact ah j j (nT (byF iR hc5)) j<|ah j j (nT (byF iR hc5)) j<|ah j j (nT (byF iR hc5)) j<|ah j j (nT (byF iR hc5)) j<|ah j j (nT (byF iR hc5)) j<|ah j j (nT (byF iR hc5)) j<|xq (bf j j (nT (byF iR hc5)) j)<|xq (oMv j j)<|ah j j j j<|ah j j j j<|ah j j j j<|ah j j j j<|ah j j j j<|ah j j j j<|xq (bf j j j j)<|xn
   ·refine us<|gc h j iR (fun hc7 h=>?_) fun hc7 h=>?_
    ·refine gs<|g0 j j (q (ae j j)<|nl)<|us<|Go.ret (Unw.ret ?_)
     cases h
     exact fr acw j
    ·refine Go.skip<|us<|gs<|gs<|g0 j j (q (ae j j)<|nl)<|us<|Go.block<|?_
     obtain ⟨o,hl,h⟩:=bs h
     refine gl c81 j _ (fun (Jj:Int)=>mk [(0,D 2 (.cp (bI l_0) 0)),(3,iv Jj)] []) (fun (o:(Unit ⊕ Bool)) (p:Ex×St)=>match o with | (.inl _)=>p.1= .exit 0∧p.2.norm ([],[])=mk [] [] | (.inr r2)=>p.1= .ret∧fin Try.prog cfg 81 Try.f81 [.im 2 false [.cp (bI l_0) 0]] p.2=some (B0 [(false,[.im 0 (V r2)])])) hl (by kernel_rfl) ?_ ?_ ?_
     ·intro o p hp e
      rcases o with u | r2<;>exact nomatch (hp.1.symm.trans e)
     ·rintro Jj o h
      unfold mM at h
      refine gs<|gs<|g0 j j (q (oMv j j)<|q (oMv j j)<|q (oNl j j j)<|q (oFA (r':=.im 2 _) j sZ j j)<|q (oLd (cs:=[.im 2 _]) j FI j j)<|q (xI j j Pz j)<|q (oBi j j j j)<|nl)<|us<|gc h j af (fun hc12 h=>?_) fun hc12 h=>?_
      ·refine Go.skip<|us<|gs<|Go.block<|gs<|?_
       obtain ⟨x69,acy,h⟩:=bs h
       obtain ⟨x78,Vx,h⟩:=bs h
       refine gd c81 j j j j (mk [(0,D 2 (.cp (bI l_0) 0)),(3,iv Jj),(79,bv (!x78))] []) (t j j (oMv j j)<|t j j (oNl j j j)<|t j j (oFA (r':=.im 2 _) j sZ j j)<|t j j (oLd (cs:=[.im 2 _]) j FI j j)<|t j j (oMv j j)<|t j j (pK j acy Lp j j)<|t j j (oMv j j)<|t j j (oNl j j j)<|t j j (oFA (r':=.im 2 _) j H7 j j)<|t j j (oLd (cs:=[.im 2 _]) j tF2 j j)<|t j j (oMv j j)<|t j j (oNl j j j)<|t j j (oFA (r':=.im 2 _) j H8 j j)<|t j j (oLd (cs:=[.im 2 _]) j tF2 j j)<|sS (dN z81 j (oCa (xs:=[.v false [.im 2 _],.v false [.im 2 _],.v false [.im 2 _]]) (vs:=[(false,[.im 0 _])]) (v:=.v false [.im 0 _]) (PN Vx) (.inl j) j Pn j (ppC j (ppC j (ppC j pp0))) j j pb0 j j j)) trivial (t j j (oUn j j j)<|sD (by kernel_rfl)))<|us<|?_
       by_cases hc13:x78=true
       ·rw [if_pos hc13] at h
        refine gF j (nF (iR.2 hc13))<|Go.skip<|Unw.blk<|us<|g0 j j (q (oMv j j)<|q (oBi j j j j)<|q (ae j j)<|nl)<|Unw.nil<|?_
        cases h
        exact ⟨j,(by kernel_rfl)⟩
       ·rw [if_neg hc13] at h
        refine gT j (nT (byF iR hc13))<|gs<|g0 j j (q (ae j j)<|nl)<|us<|Go.ret (Unw.ret ?_)
        cases h
        exact ⟨j,(fo acw j)⟩
      ·refine Go.exit<|ux<|Unw.nil<|?_
       cases h
       exact ⟨j,(by kernel_rfl)⟩
     ·rintro ⟨e,st⟩ hp
      rcases o with u | r2
      ·dsimp only at h
       obtain ⟨he,hst⟩:=hp
       obtain rfl:e= .exit 0:=he
       refine Unw.jZ<|us<|gs<|g2 c81 j j hst (q (ae j j)<|nl)<|us<|Go.ret (Unw.ret ?_)
       cases h
       exact fr acw j
      ·dsimp only at h
       obtain ⟨he,hfin⟩:=hp
       obtain rfl:e= .ret:=he
       cases h
       exact Unw.ret (nP hfin)
theorem zF {au:(List Int)} {n_1:Int} {r:(List Int)} (h:oq au n_1=some r):FX 187 [.im 2 false [W 1 eI au],.im 2 false [I n_1]] (B0 [(false,[.ow 0 1 (List.map eI r)])]):=by
 unfold oq at h
 refine gn 49 Try.func187 rfl ?_
 refine gs<|g0 j j (q (DI j j Pj)<|nl)<|us<|gs<|g0 j j (q (oBS (es:=List.map eI ([]:List Int)) j aU j pt0 (gY j fun _=>j))<|q (nO j j j j j)<|nl)<|us<|gs<|g0 j j (q (ae j j)<|nl)<|us<|gs<|gs<|g0 j j (q (ae j j)<|nl)<|us<|Go.block<|?_
 obtain ⟨o,hl,h⟩:=bs h
 refine gl Yw j _ (fun (s:(Bool×Int×(List Int)))=>match s with | (xU,xJ,uG)=>mk [(0,D 2 (W 1 eI au)),(1,iv n_1),(5,H 5 0),(6,bv xU),(7,iv xJ)] [(5,Oc [Z (W 1 eI uG)])]) (fun (o:(Bool×(List Int))) (p:Ex×St)=>match o with | (xW,vP)=>p.1= .exit 0∧p.2.norm ([1,5,6],[5])=mk [(1,iv n_1),(5,H 5 0),(6,bv xW)] [(5,Oc [Z (W 1 eI vP)])]) hl (by kernel_rfl) ?_ ?_ ?_
 ·intro o p hp e
  obtain ⟨xW,vP⟩:=o
  exact nomatch (hp.1.symm.trans e)
 ·rintro ⟨xU,xJ,uG⟩ o h
  unfold ik at h
  dsimp only at h
  refine gs<|gs<|g0 j j (q (oMv j j)<|q (oMv j j)<|q (xI j j EN j)<|q (oBi j j j j)<|nl)<|us<|gc h j af (fun hc12 h=>?_) fun hc12 h=>?_
  ·refine Go.skip<|us<|gs<|Go.block<|gs<|gs<|?_
   obtain ⟨RN,Vy,h⟩:=bs h
   refine gX Yw j j j (mk [(0,D 2 (W 1 eI au)),(1,iv n_1),(5,H 5 0),(6,bv xU),(7,iv xJ),(24,bv RN)] [(5,Oc [Z (W 1 eI uG)])]) ?_ ?_
   ·refine xq (oMv j j)<|xq (oUn j j j)<|xq (oMv j j)<|?_
    refine ic Vy (fun hc13 Vy=>?_) fun hc13 Vy=>?_
    ·cases Vy
     exact ah j j (nF (iR.2 hc13)) j<|ah j j (nF (iR.2 hc13)) j<|ah j j (nF (iR.2 hc13)) j<|ah j j (nF (iR.2 hc13)) j<|ah j j (nF (iR.2 hc13)) j<|ah j j (nF (iR.2 hc13)) j<|xq (bD j j (nF (iR.2 hc13)) j)<|xn
    ·obtain ⟨x20,SE,Vy⟩:=bs Vy
     cases Vy
     exact xqT j j (nT (byF iR hc13)) (oMv j j)<|xqT j j (nT (byF iR hc13)) (oMv j j)<|xqT j j (nT (byF iR hc13)) (pK j SE aU j j)<|xqT j j (nT (byF iR hc13)) (oLd (cs:=[.im 2 _]) j tF2 j j)<|xqT j j (nT (byF iR hc13)) (oMv j j)<|xqT j j (nT (byF iR hc13)) (oBi j j j j)<|xq (bf j j (nT (byF iR hc13)) j)<|xn
   ·refine us<|Go.join (fun st=>∃Cc,∃Ce,jV xJ au Cc Ce=some o∧st.norm ([0,1,5,6,7],[5])=mk [(0,D 2 (W 1 eI au)),(1,iv n_1),(5,H 5 0),(6,bv Cc),(7,iv xJ)] [(5,Oc [Z (W 1 eI Ce)])]) ?_ ?_
    ·rintro st ⟨Cc,Ce,h,hst⟩
     unfold jV at h
     refine us<|?_
     obtain ⟨x38,hx38,h⟩:=bs h
     obtain ⟨x41,PI,h⟩:=bs h
     refine g2 Yw j j hst (q (oMv j j)<|q (oMv j j)<|q (oMv j j)<|q (pK j hx38 aU j j)<|q (oLd (cs:=[.im 2 _]) j tF2 j j)<|q (oBS (es:=List.map eI ([x38]:List Int)) j aU j (ptC j (fxI fx0) j pt0) (gY j fun _=>j))<|q (Je (en:=eI) (M:=([x38]:List Int)) j PI j aU j j EN (.inl ⟨_,j⟩) j j j j (Ai j j) (gY j fun _=>j))<|q (nO j j j j j)<|nl)<|Unw.blk<|us<|g0 j j (q (oMv j j)<|q (oBi j j j j)<|q (ae j j)<|nl)<|Unw.nil<|?_
     cases h
     exact ⟨j,(by kernel_rfl)⟩
    ·intro K16
     refine gc h j iR (fun hc17 h=>?_) fun hc17 h=>?_
     ·refine gs<|g0 j j (q (ae j j)<|nl)<|us<|gs<|?_
      obtain ⟨x27,hx27,h⟩:=bs h
      refine g0 j j (q (oMv j j)<|q (oMv j j)<|q (pK j hx27 aU j j)<|q (oLd (cs:=[.im 2 _]) j tF2 j j)<|q (oMv j j)<|q (oBi j j j j)<|nl)<|us<|gc h j af (fun hc18 h=>?_) fun hc18 h=>?_
      ·obtain ⟨x34,hx34,h⟩:=bs h
       exact g0 j j (q (oMv j j)<|q (oMv j j)<|q (oBS (es:=List.map eI ([n_1]:List Int)) j aU j (ptC j (fxI fx0) j pt0) (gY j fun _=>j))<|q (Je (en:=eI) (M:=([n_1]:List Int)) j hx34 j aU j j EN (.inl ⟨_,j⟩) j j j j (Ai j j) (gY j fun _=>j))<|q (nO j j j j j)<|nl)<|K16 _ ⟨true,x34,h,(by kernel_rfl)⟩
      ·exact Go.skip<|K16 _ ⟨true,uG,h,(by kernel_rfl)⟩
     ·exact Go.skip<|K16 _ ⟨xU,uG,h,(by kernel_rfl)⟩
  ·refine Go.exit<|ux<|Unw.nil<|?_
   cases h
   exact ⟨j,(by kernel_rfl)⟩
 ·rintro ⟨e,st⟩ hp
  obtain ⟨xW,vP⟩:=o
  dsimp only at h
  obtain ⟨he,hst⟩:=hp
  obtain rfl:e= .exit 0:=he
  refine Unw.jZ<|us<|gs<|gs<|g2 Yw j j hst (q (oMv j j)<|q (oUn j j j)<|nl)<|us<|Go.join (fun st=>∃Cb,uq Cb=some r∧st.norm ([5],[5])=mk [(5,H 5 0)] [(5,Oc [Z (W 1 eI Cb)])]) ?_ ?_
  ·rintro st ⟨Cb,h,hst⟩
   unfold uq at h
   refine us<|gs<|g2 Yw j j hst (q (oMv j j)<|q (nO j j j j j)<|nl)<|us<|Go.ret (Unw.ret ?_)
   cases h
   exact fr agc j
  ·intro K10
   by_cases qC:xW=true
   ·rw [if_pos qC] at h
    exact gF j (nF (iR.2 qC))<|Go.skip<|K10 _ ⟨vP,h,(by kernel_rfl)⟩
   ·rw [if_neg qC] at h
    refine gT j (nT (byF iR qC))<|?_
    obtain ⟨x47,FO,h⟩:=bs h
    exact g0 j j (q (oMv j j)<|q (oMv j j)<|q (oBS (es:=List.map eI ([n_1]:List Int)) j aU j (ptC j (fxI fx0) j pt0) (gY j fun _=>j))<|q (Je (en:=eI) (M:=([n_1]:List Int)) j FO j aU j j EN (.inl ⟨_,j⟩) j j j j (Ai j j) (gY j fun _=>j))<|q (nO j j j j j)<|nl)<|K10 _ ⟨x47,h,(by kernel_rfl)⟩
theorem SL {l_0:dH} {r:(List Int)} (h:Fq l_0=some r):FX 140 [.im 2 false [.cp (bI l_0) 0]] (B0 [(false,[.ow 0 1 (List.map eI r)])]):=by
 unfold Fq at h
 refine gn 49 Try.func140 rfl ?_
 refine gs<|g0 j j (q (DI j j Pj)<|nl)<|us<|gs<|g0 j j (q (oMv j j)<|q (oNl j j j)<|q (oFA (r':=.im 2 _) j H7 j j)<|q (oLd (cs:=[.im 2 _]) j tF2 j j)<|q (oBS (es:=List.map eI ([0,l_0.Width]:List Int)) j aU j (ptC j (fxI fx0) j (ptC j (fxI fx0) j pt0)) (gY j fun _=>j))<|q (nO j j j j j)<|nl)<|us<|gs<|gs<|g0 j j (q (ae j j)<|nl)<|us<|Go.block<|?_
 obtain ⟨o,hl,h⟩:=bs h
 refine gl ab6 j _ (fun (s:(Int×(List Int)))=>match s with | (lM,ku)=>mk [(0,D 2 (.cp (bI l_0) 0)),(3,H 3 0),(4,iv lM)] [(3,Oc [Z (W 1 eI ku)])]) (fun (jH:(List Int)) (p:Ex×St)=>p.1= .exit 0∧p.2.norm ([3],[3])=mk [(3,H 3 0)] [(3,Oc [Z (W 1 eI jH)])]) hl (by kernel_rfl) ?_ ?_ ?_
 ·intro o p hp e
  exact nomatch (hp.1.symm.trans e)
 ·rintro ⟨lM,ku⟩ o h
  unfold uH at h
  dsimp only at h
  refine gs<|gs<|g0 j j (q (oMv j j)<|q (oMv j j)<|q (oNl j j j)<|q (oFA (r':=.im 2 _) j sZ j j)<|q (oLd (cs:=[.im 2 _]) j FI j j)<|q (xI j j Pz j)<|q (oBi j j j j)<|nl)<|us<|gc h j af (fun hc3 h=>?_) fun hc3 h=>?_
  ·refine Go.skip<|us<|gs<|Go.block<|gs<|?_
   obtain ⟨x25,hx25,h⟩:=bs h
   obtain ⟨x28,hx28,h⟩:=bs h
   refine g0 j j (q (oMv j j)<|q (oMv j j)<|q (oNl j j j)<|q (oFA (r':=.im 2 _) j sZ j j)<|q (oLd (cs:=[.im 2 _]) j FI j j)<|q (oMv j j)<|q (pK j hx25 Lp j j)<|q (oFA (r':=.im 2 _) j pz j j)<|q (oLd (cs:=[.im 2 _]) j tF2 j j)<|q (oCr (xs:=[.v false [.own 3 0 0],.v false [.im 2 _]]) (vs:=[(false,[.own 28 0 0])]) (v:=.v false [.own 28 0 0]) (c:=⟨.sh,0,_⟩) (cs:=[]) (zF hx28) (.inl j) j FH j (ppC j (ppC j pp0)) j j pb0 j j j)<|q (nO j j j j j)<|nl)<|us<|?_
   obtain ⟨x35,MF,h⟩:=bs h
   obtain ⟨x43,Gq,h⟩:=bs h
   obtain ⟨x47,FO,h⟩:=bs h
   refine gd ab6 j j j j (mk [(0,D 2 (.cp (bI l_0) 0)),(3,H 3 0),(4,iv lM)] [(3,Oc [Z (W 1 eI x47)])]) (t j j (oMv j j)<|t j j (oMv j j)<|t j j (oNl j j j)<|t j j (oFA (r':=.im 2 _) j sZ j j)<|t j j (oLd (cs:=[.im 2 _]) j FI j j)<|t j j (oMv j j)<|t j j (pK j MF Lp j j)<|t j j (oFA (r':=.im 2 _) j pz j j)<|t j j (oLd (cs:=[.im 2 _]) j tF2 j j)<|t j j (oMv j j)<|t j j (oNl j j j)<|t j j (oFA (r':=.im 2 _) j sZ j j)<|t j j (oLd (cs:=[.im 2 _]) j FI j j)<|t j j (oMv j j)<|t j j (pK j Gq Lp j j)<|t j j (oFA (r':=.im 2 _) j wu j j)<|t j j (oLd (cs:=[.im 2 _]) j tF2 j j)<|t j j (oBi j j j j)<|sS (dN afq j (oCr (xs:=[.v false [.own 3 1 0],.v false [.im 0 _]]) (vs:=[(false,[.own 47 0 0])]) (v:=.v false [.own 47 0 0]) (c:=⟨.sh,0,_⟩) (cs:=[]) (zF FO) (.inl j) j FH j (ppC j (ppC j pp0)) j j pb0 j j j)) trivial (sS (dN afq j (nO j j j j j)) trivial (sD (by kernel_rfl))))<|Unw.blk<|us<|g0 j j (q (oMv j j)<|q (oBi j j j j)<|q (ae j j)<|nl)<|Unw.nil<|?_
   cases h
   exact ⟨j,(by kernel_rfl)⟩
  ·refine Go.exit<|ux<|Unw.nil<|?_
   cases h
   exact ⟨j,(by kernel_rfl)⟩
 ·rintro ⟨e,st⟩ hp
  obtain ⟨jH,rfl⟩:∃y,y=o:=⟨o,rfl⟩
  obtain ⟨he,hst⟩:=hp
  obtain rfl:e= .exit 0:=he
  refine Unw.jZ<|us<|gs<|g2 ab6 j j hst (q (oMv j j)<|q (nO j j j j j)<|nl)<|us<|Go.ret (Unw.ret ?_)
  cases h
  exact fr afR j
theorem SN {l_0:dH} {r:(List Int)} (h:Fv l_0=some r):FX 141 [.im 2 false [.cp (bI l_0) 0]] (B0 [(false,[.ow 0 1 (List.map eI r)])]):=by
 unfold Fv at h
 refine gn 49 Try.func141 rfl ?_
 refine gs<|g0 j j (q (DI j j Pj)<|nl)<|us<|gs<|g0 j j (q (oMv j j)<|q (oNl j j j)<|q (oFA (r':=.im 2 _) j H8 j j)<|q (oLd (cs:=[.im 2 _]) j tF2 j j)<|q (oBS (es:=List.map eI ([0,l_0.Length]:List Int)) j aU j (ptC j (fxI fx0) j (ptC j (fxI fx0) j pt0)) (gY j fun _=>j))<|q (nO j j j j j)<|nl)<|us<|gs<|gs<|g0 j j (q (ae j j)<|nl)<|us<|Go.block<|?_
 obtain ⟨o,hl,h⟩:=bs h
 refine gl c141 j _ (fun (s:(Int×(List Int)))=>match s with | (lM,ku)=>mk [(0,D 2 (.cp (bI l_0) 0)),(3,H 3 0),(4,iv lM)] [(3,Oc [Z (W 1 eI ku)])]) (fun (jH:(List Int)) (p:Ex×St)=>p.1= .exit 0∧p.2.norm ([3],[3])=mk [(3,H 3 0)] [(3,Oc [Z (W 1 eI jH)])]) hl (by kernel_rfl) ?_ ?_ ?_
 ·intro o p hp e
  exact nomatch (hp.1.symm.trans e)
 ·rintro ⟨lM,ku⟩ o h
  unfold uI at h
  dsimp only at h
  refine gs<|gs<|g0 j j (q (oMv j j)<|q (oMv j j)<|q (oNl j j j)<|q (oFA (r':=.im 2 _) j sZ j j)<|q (oLd (cs:=[.im 2 _]) j FI j j)<|q (xI j j Pz j)<|q (oBi j j j j)<|nl)<|us<|gc h j af (fun hc3 h=>?_) fun hc3 h=>?_
  ·refine Go.skip<|us<|gs<|Go.block<|gs<|?_
   obtain ⟨x25,hx25,h⟩:=bs h
   obtain ⟨x28,hx28,h⟩:=bs h
   refine g0 j j (q (oMv j j)<|q (oMv j j)<|q (oNl j j j)<|q (oFA (r':=.im 2 _) j sZ j j)<|q (oLd (cs:=[.im 2 _]) j FI j j)<|q (oMv j j)<|q (pK j hx25 Lp j j)<|q (oFA (r':=.im 2 _) j mZ j j)<|q (oLd (cs:=[.im 2 _]) j tF2 j j)<|q (oCr (xs:=[.v false [.own 3 0 0],.v false [.im 2 _]]) (vs:=[(false,[.own 28 0 0])]) (v:=.v false [.own 28 0 0]) (c:=⟨.sh,0,_⟩) (cs:=[]) (zF hx28) (.inl j) j FH j (ppC j (ppC j pp0)) j j pb0 j j j)<|q (nO j j j j j)<|nl)<|us<|?_
   obtain ⟨x35,MF,h⟩:=bs h
   obtain ⟨x43,Gq,h⟩:=bs h
   obtain ⟨x47,FO,h⟩:=bs h
   refine gd c141 j j j j (mk [(0,D 2 (.cp (bI l_0) 0)),(3,H 3 0),(4,iv lM)] [(3,Oc [Z (W 1 eI x47)])]) (t j j (oMv j j)<|t j j (oMv j j)<|t j j (oNl j j j)<|t j j (oFA (r':=.im 2 _) j sZ j j)<|t j j (oLd (cs:=[.im 2 _]) j FI j j)<|t j j (oMv j j)<|t j j (pK j MF Lp j j)<|t j j (oFA (r':=.im 2 _) j mZ j j)<|t j j (oLd (cs:=[.im 2 _]) j tF2 j j)<|t j j (oMv j j)<|t j j (oNl j j j)<|t j j (oFA (r':=.im 2 _) j sZ j j)<|t j j (oLd (cs:=[.im 2 _]) j FI j j)<|t j j (oMv j j)<|t j j (pK j Gq Lp j j)<|t j j (oFA (r':=.im 2 _) j wz j j)<|t j j (oLd (cs:=[.im 2 _]) j tF2 j j)<|t j j (oBi j j j j)<|sS (dN z141 j (oCr (xs:=[.v false [.own 3 1 0],.v false [.im 0 _]]) (vs:=[(false,[.own 47 0 0])]) (v:=.v false [.own 47 0 0]) (c:=⟨.sh,0,_⟩) (cs:=[]) (zF FO) (.inl j) j FH j (ppC j (ppC j pp0)) j j pb0 j j j)) trivial (sS (dN z141 j (nO j j j j j)) trivial (sD (by kernel_rfl))))<|Unw.blk<|us<|g0 j j (q (oMv j j)<|q (oBi j j j j)<|q (ae j j)<|nl)<|Unw.nil<|?_
   cases h
   exact ⟨j,(by kernel_rfl)⟩
  ·refine Go.exit<|ux<|Unw.nil<|?_
   cases h
   exact ⟨j,(by kernel_rfl)⟩
 ·rintro ⟨e,st⟩ hp
  obtain ⟨jH,rfl⟩:∃y,y=o:=⟨o,rfl⟩
  obtain ⟨he,hst⟩:=hp
  obtain rfl:e= .exit 0:=he
  refine Unw.jZ<|us<|gs<|g2 c141 j j hst (q (oMv j j)<|q (nO j j j j j)<|nl)<|us<|Go.ret (Unw.ret ?_)
  cases h
  exact fr afS j
theorem OX {a_0:cO} {b_1:cO} {r:Bool} (h:A7 a_0 b_1=some r):FX 188 [.im 2 false [.cp (nS a_0) 0],.im 2 false [.cp (nS b_1) 0]] (B0 [(false,[.im 0 (V r)])]):=by
 unfold A7 at h
 refine gn 67 Try.func188 rfl ?_
 refine gs<|g0 j j (q (ae j j)<|nl)<|us<|gs<|gd afy j j j j (mk [(4,bv ((decide (a_0.X< (w64 (b_1.X+b_1.Width))))&&((decide (b_1.X< (w64 (a_0.X+a_0.Width))))&&((decide (a_0.Y< (w64 (b_1.Y+b_1.Length))))&&(decide (b_1.Y< (w64 (a_0.Y+a_0.Length))))))))] []) ?_ ?_
 ·refine t j j (oMv j j)<|t j j (oNl j j j)<|t j j (oFA (r':=.im 2 _) j pz j j)<|t j j (oLd (cs:=[.im 2 _]) j tF2 j j)<|t j j (oMv j j)<|t j j (oNl j j j)<|t j j (oFA (r':=.im 2 _) j pz j j)<|t j j (oLd (cs:=[.im 2 _]) j tF2 j j)<|t j j (oMv j j)<|t j j (oNl j j j)<|t j j (oFA (r':=.im 2 _) j wu j j)<|t j j (oLd (cs:=[.im 2 _]) j tF2 j j)<|t j j (oBi j j j j)<|t j j (oBi j j j j)<|t j j (oMv j j)<|?_
  by_cases hc1:a_0.X< (w64 (b_1.X+b_1.Width))
  ·refine tT j j j j (af.2 hc1) (oMv j j)<|tT j j j j (af.2 hc1) (oNl j j j)<|tT j j j j (af.2 hc1) (oFA (r':=.im 2 _) j pz j j)<|tT j j j j (af.2 hc1) (oLd (cs:=[.im 2 _]) j tF2 j j)<|tT j j j j (af.2 hc1) (oMv j j)<|tT j j j j (af.2 hc1) (oNl j j j)<|tT j j j j (af.2 hc1) (oFA (r':=.im 2 _) j pz j j)<|tT j j j j (af.2 hc1) (oLd (cs:=[.im 2 _]) j tF2 j j)<|tT j j j j (af.2 hc1) (oMv j j)<|tT j j j j (af.2 hc1) (oNl j j j)<|tT j j j j (af.2 hc1) (oFA (r':=.im 2 _) j wu j j)<|tT j j j j (af.2 hc1) (oLd (cs:=[.im 2 _]) j tF2 j j)<|tT j j j j (af.2 hc1) (oBi j j j j)<|tT j j j j (af.2 hc1) (oBi j j j j)<|t j j (bf j j (af.2 hc1) j)<|t j j (oMv j j)<|?_
   by_cases hc2:b_1.X< (w64 (a_0.X+a_0.Width))
   ·refine tT j j j j (af.2 hc2) (oMv j j)<|tT j j j j (af.2 hc2) (oNl j j j)<|tT j j j j (af.2 hc2) (oFA (r':=.im 2 _) j mZ j j)<|tT j j j j (af.2 hc2) (oLd (cs:=[.im 2 _]) j tF2 j j)<|tT j j j j (af.2 hc2) (oMv j j)<|tT j j j j (af.2 hc2) (oNl j j j)<|tT j j j j (af.2 hc2) (oFA (r':=.im 2 _) j mZ j j)<|tT j j j j (af.2 hc2) (oLd (cs:=[.im 2 _]) j tF2 j j)<|tT j j j j (af.2 hc2) (oMv j j)<|tT j j j j (af.2 hc2) (oNl j j j)<|tT j j j j (af.2 hc2) (oFA (r':=.im 2 _) j wz j j)<|tT j j j j (af.2 hc2) (oLd (cs:=[.im 2 _]) j tF2 j j)<|tT j j j j (af.2 hc2) (oBi j j j j)<|tT j j j j (af.2 hc2) (oBi j j j j)<|t j j (bf j j (af.2 hc2) j)<|t j j (oMv j j)<|?_
    by_cases hc3:a_0.Y< (w64 (b_1.Y+b_1.Length))
    ·exact tT rfl rfl rfl rfl (af.2 hc3) (oMv rfl rfl)<|tT rfl rfl rfl rfl (af.2 hc3) (oNl rfl rfl rfl)<|tT rfl rfl rfl rfl (af.2 hc3) (oFA (r':=.im 2 _) rfl mZ rfl rfl)<|tT rfl rfl rfl rfl (af.2 hc3) (oLd (cs:=[.im 2 _]) rfl tF2 rfl rfl)<|tT rfl rfl rfl rfl (af.2 hc3) (oMv rfl rfl)<|tT rfl rfl rfl rfl (af.2 hc3) (oNl rfl rfl rfl)<|tT rfl rfl rfl rfl (af.2 hc3) (oFA (r':=.im 2 _) rfl mZ rfl rfl)<|tT rfl rfl rfl rfl (af.2 hc3) (oLd (cs:=[.im 2 _]) rfl tF2 rfl rfl)<|tT rfl rfl rfl rfl (af.2 hc3) (oMv rfl rfl)<|tT rfl rfl rfl rfl (af.2 hc3) (oNl rfl rfl rfl)<|tT rfl rfl rfl rfl (af.2 hc3) (oFA (r':=.im 2 _) rfl wz rfl rfl)<|tT rfl rfl rfl rfl (af.2 hc3) (oLd (cs:=[.im 2 _]) rfl tF2 rfl rfl)<|tT rfl rfl rfl rfl (af.2 hc3) (oBi rfl rfl rfl rfl)<|tT rfl rfl rfl rfl (af.2 hc3) (oBi rfl rfl rfl rfl)<|t rfl rfl (bf rfl rfl (af.2 hc3) rfl)<|sS (dN ab9 rfl (ae rfl rfl)) trivial (sD (Eq.trans (b:=(fun lQ:Bool=>mk [(4,bv lQ)] []) (decide (b_1.Y< (w64 (a_0.Y+a_0.Length))))) (by kernel_rfl) (congrArg (fun lQ:Bool=>mk [(4,bv lQ)] []) (by first | rfl | (simp [(af.2 hc1),(af.2 hc2),(af.2 hc3)];done) | (simp [(af.2 hc1),(af.2 hc2),(af.2 hc3)];omega) | (have q0:=(af.2 hc1);have q1:=(af.2 hc2);have q2:=(af.2 hc3);simp_all)))))
    ·exact tF rfl rfl rfl rfl (byF af hc3) rfl<|tF rfl rfl rfl rfl (byF af hc3) rfl<|tF rfl rfl rfl rfl (byF af hc3) rfl<|tF rfl rfl rfl rfl (byF af hc3) rfl<|tF rfl rfl rfl rfl (byF af hc3) rfl<|tF rfl rfl rfl rfl (byF af hc3) rfl<|tF rfl rfl rfl rfl (byF af hc3) rfl<|tF rfl rfl rfl rfl (byF af hc3) rfl<|tF rfl rfl rfl rfl (byF af hc3) rfl<|tF rfl rfl rfl rfl (byF af hc3) rfl<|tF rfl rfl rfl rfl (byF af hc3) rfl<|tF rfl rfl rfl rfl (byF af hc3) rfl<|tF rfl rfl rfl rfl (byF af hc3) rfl<|tF rfl rfl rfl rfl (byF af hc3) rfl<|t rfl rfl (bD rfl rfl (byF af hc3) rfl)<|sS (dN ab9 rfl (ae rfl rfl)) trivial (sD (Eq.trans (b:=(fun lQ:Bool=>mk [(4,bv lQ)] []) false) (by kernel_rfl) (congrArg (fun lQ:Bool=>mk [(4,bv lQ)] []) (by first | rfl | (simp [(af.2 hc1),(af.2 hc2),(byF af hc3)];done) | (simp [(af.2 hc1),(af.2 hc2),(byF af hc3)];omega) | (have q0:=(af.2 hc1);have q1:=(af.2 hc2);have q2:=(byF af hc3);simp_all)))))
   ·exact tF rfl rfl rfl rfl (byF af hc2) rfl<|tF rfl rfl rfl rfl (byF af hc2) rfl<|tF rfl rfl rfl rfl (byF af hc2) rfl<|tF rfl rfl rfl rfl (byF af hc2) rfl<|tF rfl rfl rfl rfl (byF af hc2) rfl<|tF rfl rfl rfl rfl (byF af hc2) rfl<|tF rfl rfl rfl rfl (byF af hc2) rfl<|tF rfl rfl rfl rfl (byF af hc2) rfl<|tF rfl rfl rfl rfl (byF af hc2) rfl<|tF rfl rfl rfl rfl (byF af hc2) rfl<|tF rfl rfl rfl rfl (byF af hc2) rfl<|tF rfl rfl rfl rfl (byF af hc2) rfl<|tF rfl rfl rfl rfl (byF af hc2) rfl<|tF rfl rfl rfl rfl (byF af hc2) rfl<|t rfl rfl (bD rfl rfl (byF af hc2) rfl)<|t rfl rfl (oMv rfl rfl)<|tF rfl rfl rfl rfl rfl rfl<|tF rfl rfl rfl rfl rfl rfl<|tF rfl rfl rfl rfl rfl rfl<|tF rfl rfl rfl rfl rfl rfl<|tF rfl rfl rfl rfl rfl rfl<|tF rfl rfl rfl rfl rfl rfl<|tF rfl rfl rfl rfl rfl rfl<|tF rfl rfl rfl rfl rfl rfl<|tF rfl rfl rfl rfl rfl rfl<|tF rfl rfl rfl rfl rfl rfl<|tF rfl rfl rfl rfl rfl rfl<|tF rfl rfl rfl rfl rfl rfl<|tF rfl rfl rfl rfl rfl rfl<|tF rfl rfl rfl rfl rfl rfl<|t rfl rfl (bD rfl rfl rfl rfl)<|sS (dN ab9 rfl (ae rfl rfl)) trivial (sD (Eq.trans (b:=(fun lQ:Bool=>mk [(4,bv lQ)] []) false) (by kernel_rfl) (congrArg (fun lQ:Bool=>mk [(4,bv lQ)] []) (by first | rfl | (simp [(af.2 hc1),(byF af hc2)];done) | (simp [(af.2 hc1),(byF af hc2)];omega) | (have q0:=(af.2 hc1);have q1:=(byF af hc2);simp_all)))))
  ·exact tF rfl rfl rfl rfl (byF af hc1) rfl<|tF rfl rfl rfl rfl (byF af hc1) rfl<|tF rfl rfl rfl rfl (byF af hc1) rfl<|tF rfl rfl rfl rfl (byF af hc1) rfl<|tF rfl rfl rfl rfl (byF af hc1) rfl<|tF rfl rfl rfl rfl (byF af hc1) rfl<|tF rfl rfl rfl rfl (byF af hc1) rfl<|tF rfl rfl rfl rfl (byF af hc1) rfl<|tF rfl rfl rfl rfl (byF af hc1) rfl<|tF rfl rfl rfl rfl (byF af hc1) rfl<|tF rfl rfl rfl rfl (byF af hc1) rfl<|tF rfl rfl rfl rfl (byF af hc1) rfl<|tF rfl rfl rfl rfl (byF af hc1) rfl<|tF rfl rfl rfl rfl (byF af hc1) rfl<|t rfl rfl (bD rfl rfl (byF af hc1) rfl)<|t rfl rfl (oMv rfl rfl)<|tF rfl rfl rfl rfl rfl rfl<|tF rfl rfl rfl rfl rfl rfl<|tF rfl rfl rfl rfl rfl rfl<|tF rfl rfl rfl rfl rfl rfl<|tF rfl rfl rfl rfl rfl rfl<|tF rfl rfl rfl rfl rfl rfl<|tF rfl rfl rfl rfl rfl rfl<|tF rfl rfl rfl rfl rfl rfl<|tF rfl rfl rfl rfl rfl rfl<|tF rfl rfl rfl rfl rfl rfl<|tF rfl rfl rfl rfl rfl rfl<|tF rfl rfl rfl rfl rfl rfl<|tF rfl rfl rfl rfl rfl rfl<|tF rfl rfl rfl rfl rfl rfl<|t rfl rfl (bD rfl rfl rfl rfl)<|t rfl rfl (oMv rfl rfl)<|tF rfl rfl rfl rfl rfl rfl<|tF rfl rfl rfl rfl rfl rfl<|tF rfl rfl rfl rfl rfl rfl<|tF rfl rfl rfl rfl rfl rfl<|tF rfl rfl rfl rfl rfl rfl<|tF rfl rfl rfl rfl rfl rfl<|tF rfl rfl rfl rfl rfl rfl<|tF rfl rfl rfl rfl rfl rfl<|tF rfl rfl rfl rfl rfl rfl<|tF rfl rfl rfl rfl rfl rfl<|tF rfl rfl rfl rfl rfl rfl<|tF rfl rfl rfl rfl rfl rfl<|tF rfl rfl rfl rfl rfl rfl<|tF rfl rfl rfl rfl rfl rfl<|t rfl rfl (bD rfl rfl rfl rfl)<|sS (dN ab9 rfl (ae rfl rfl)) trivial (sD (Eq.trans (b:=(fun lQ:Bool=>mk [(4,bv lQ)] []) false) (by kernel_rfl) (congrArg (fun lQ:Bool=>mk [(4,bv lQ)] []) (by first | rfl | (simp [(byF af hc1)];done) | (simp [(byF af hc1)];omega)))))
 ·refine us<|Go.ret (Unw.ret ?_)
  cases h
  exact fr agd j
theorem MM {l_0:dH} {b_1:cO} {r:Bool} (h:xe l_0 b_1=some r):FX 142 [.im 2 false [.cp (bI l_0) 0],.im 2 false [.cp (nS b_1) 0]] (B0 [(false,[.im 0 (V r)])]):=by
 unfold xe at h
 refine gn 23 Try.func142 rfl ?_
 refine gs<|g0 j j (q (ae j j)<|nl)<|us<|gs<|gs<|g0 j j (q (ae j j)<|nl)<|us<|Go.block<|?_
 obtain ⟨o,hl,h⟩:=bs h
 refine gl aef j _ (fun (yt:Int)=>mk [(0,D 2 (.cp (bI l_0) 0)),(1,D 2 (.cp (nS b_1) 0)),(5,iv yt)] []) (fun (o:(Unit ⊕ Bool)) (p:Ex×St)=>match o with | (.inl _)=>p.1= .exit 0∧p.2.norm ([],[])=mk [] [] | (.inr r2)=>p.1= .ret∧fin Try.prog cfg 142 Try.f142 [.im 2 false [.cp (bI l_0) 0],.im 2 false [.cp (nS b_1) 0]] p.2=some (B0 [(false,[.im 0 (V r2)])])) hl (by kernel_rfl) ?_ ?_ ?_
 ·intro o p hp e
  rcases o with u | r2<;>exact nomatch (hp.1.symm.trans e)
 ·rintro yt o h
  unfold rE at h
  refine gs<|gs<|g0 j j (q (oMv j j)<|q (oMv j j)<|q (oNl j j j)<|q (oFA (r':=.im 2 _) j sZ j j)<|q (oLd (cs:=[.im 2 _]) j FI j j)<|q (xI j j Pz j)<|q (oBi j j j j)<|nl)<|us<|gc h j af (fun hc5 h=>?_) fun hc5 h=>?_
  ·refine Go.skip<|us<|gs<|Go.block<|gs<|?_
   obtain ⟨x21,Lr,h⟩:=bs h
   obtain ⟨x22,xg,h⟩:=bs h
   refine g0 j j (q (oMv j j)<|q (oMv j j)<|q (oNl j j j)<|q (oFA (r':=.im 2 _) j sZ j j)<|q (oLd (cs:=[.im 2 _]) j FI j j)<|q (oMv j j)<|q (pK j Lr Lp j j)<|q (oCa (xs:=[.v false [.im 2 _],.v false [.im 2 _]]) (vs:=[(false,[.im 0 _])]) (v:=.v false [.im 0 _]) (OX xg) (.inl j) j Px j (ppC j (ppC j pp0)) j j pb0 j j j)<|nl)<|us<|gc h j iR (fun hc6 h=>?_) fun hc6 h=>?_
   ·refine gs<|g0 j j (q (ae j j)<|nl)<|us<|Go.ret (Unw.ret ?_)
    cases h
    exact ⟨j,(fo adb j)⟩
   ·refine Go.skip<|Unw.blk<|us<|g0 j j (q (oMv j j)<|q (oBi j j j j)<|q (ae j j)<|nl)<|Unw.nil<|?_
    cases h
    exact ⟨j,(by kernel_rfl)⟩
  ·refine Go.exit<|ux<|Unw.nil<|?_
   cases h
   exact ⟨j,(by kernel_rfl)⟩
 ·rintro ⟨e,st⟩ hp
  rcases o with u | r2
  ·dsimp only at h
   obtain ⟨he,hst⟩:=hp
   obtain rfl:e= .exit 0:=he
   refine Unw.jZ<|us<|gs<|g2 aef j j hst (q (ae j j)<|nl)<|us<|Go.ret (Unw.ret ?_)
   cases h
   exact fr adb j
  ·dsimp only at h
   obtain ⟨he,hfin⟩:=hp
   obtain rfl:e= .ret:=he
   cases h
   exact Unw.ret (nP hfin)
theorem LD {l_0:dH} {r:Int} (h:yG l_0=some r):FX 82 [.im 2 false [.cp (bI l_0) 0]] (B0 [(false,[.im 0 (I r)])]):=by
 unfold yG at h
 refine gn 66 Try.func82 rfl ?_
 refine gs<|g0 j j (q (ae j j)<|nl)<|us<|gs<|?_
 obtain ⟨x10,CO,h⟩:=bs h
 refine g0 j j (q (oMv j j)<|q (oCr (xs:=[.v false [.im 2 _]]) (vs:=[(false,[.own 10 0 0])]) (v:=.v false [.own 10 0 0]) (c:=⟨.sh,0,_⟩) (cs:=[]) (SL CO) (.inl j) j YA j (ppC j pp0) j j pb0 j j j)<|q (nO j j j j j)<|nl)<|us<|gs<|?_
 obtain ⟨x12,Af,h⟩:=bs h
 refine g0 j j (q (oMv j j)<|q (oCr (xs:=[.v false [.im 2 _]]) (vs:=[(false,[.own 12 0 0])]) (v:=.v false [.own 12 0 0]) (c:=⟨.sh,0,_⟩) (cs:=[]) (SN Af) (.inl j) j YB j (ppC j pp0) j j pb0 j j j)<|q (nO j j j j j)<|nl)<|us<|gs<|g0 j j (q (ae j j)<|nl)<|us<|gs<|gs<|g0 j j (q (ae j j)<|nl)<|us<|Go.block<|?_
 obtain ⟨o,hl,h⟩:=bs h
 refine gl c82 j _ (fun (s:(Int×Int))=>match s with | (Hz,yE)=>mk [(0,D 2 (.cp (bI l_0) 0)),(3,H 3 0),(4,H 4 0),(5,iv Hz),(6,iv yE)] [(3,Oc [Z (W 1 eI x10)]),(4,Oc [Z (W 1 eI x12)])]) (fun (FC:Int) (p:Ex×St)=>p.1= .exit 0∧p.2.norm ([5],[])=mk [(5,iv FC)] []) hl (by kernel_rfl) ?_ ?_ ?_
 ·intro o p hp e
  exact nomatch (hp.1.symm.trans e)
 ·rintro ⟨Hz,yE⟩ o h
  unfold mW at h
  dsimp only at h
  refine gs<|gs<|g0 j j (q (oMv j j)<|q (oMv j j)<|q (O9 j j EN j j j (fun e=>nomatch e))<|q (oBi j j j j)<|nl)<|us<|gc h j af (fun qC h=>?_) fun qC h=>?_
  ·refine Go.skip<|us<|gs<|Go.block<|gs<|g0 j j (q (ae j j)<|nl)<|us<|Go.block<|?_
   obtain ⟨o,hl,h⟩:=bs h
   refine gl c82 j _ (fun (s:(Int×Int))=>match s with | (yF,yD)=>mk [(0,D 2 (.cp (bI l_0) 0)),(3,H 3 0),(4,H 4 0),(5,iv yF),(6,iv yE),(7,iv yD)] [(3,Oc [Z (W 1 eI x10)]),(4,Oc [Z (W 1 eI x12)])]) (fun (FB:Int) (p:Ex×St)=>p.1= .exit 2∧p.2.norm ([0,3,4,5,6],[3,4])=mk [(0,D 2 (.cp (bI l_0) 0)),(3,H 3 0),(4,H 4 0),(5,iv FB),(6,iv yE)] [(3,Oc [Z (W 1 eI x10)]),(4,Oc [Z (W 1 eI x12)])]) hl (by kernel_rfl) ?_ ?_ ?_
   ·intro o p hp e
    exact nomatch (hp.1.symm.trans e)
   ·rintro ⟨yF,yD⟩ o h
    unfold qB at h
    dsimp only at h
    refine gs<|gs<|g0 j j (q (oMv j j)<|q (oMv j j)<|q (O9 j j EN j j j (fun e=>nomatch e))<|q (oBi j j j j)<|nl)<|us<|gc h j af (fun hc16 h=>?_) fun hc16 h=>?_
    ·refine Go.skip<|us<|gs<|Go.join (fun st=>∃Hy,qA yD Hy=some o∧st.norm ([0,3,4,5,6,7],[3,4])=mk [(0,D 2 (.cp (bI l_0) 0)),(3,H 3 0),(4,H 4 0),(5,iv Hy),(6,iv yE),(7,iv yD)] [(3,Oc [Z (W 1 eI x10)]),(4,Oc [Z (W 1 eI x12)])]) ?_ ?_
     ·rintro st ⟨Hy,h,hst⟩
      unfold qA at h
      refine us<|g2 c82 j j hst (q (oMv j j)<|q (oBi j j j j)<|q (ae j j)<|nl)<|Unw.nil<|?_
      cases h
      exact ⟨j,(by kernel_rfl)⟩
     ·intro K18
      refine Go.block<|gs<|?_
      obtain ⟨x28,hx28,h⟩:=bs h
      obtain ⟨x33,FK,h⟩:=bs h
      obtain ⟨x37,Lt,h⟩:=bs h
      obtain ⟨x42,YG,h⟩:=bs h
      obtain ⟨x47,FO,h⟩:=bs h
      obtain ⟨x52,Ii,h⟩:=bs h
      refine gd c82 j j j j (mk [(0,D 2 (.cp (bI l_0) 0)),(3,H 3 0),(4,H 4 0),(5,iv yF),(6,iv yE),(7,iv yD),(8,M 8)] [(3,Oc [Z (W 1 eI x10)]),(4,Oc [Z (W 1 eI x12)]),(8,Oa [C (I x28),C (I x33),C (I (w64 (x37 - x42))),C (I (w64 (x47 - x52)))])]) (t j j (oMv j j)<|t j j (oMv j j)<|t j j (oBi j j j j)<|t j j (bK j hx28 aU j j j j)<|t j j (fH (cs:=[.im 0 _]) j tF2 j j j j (aA hx28) j j)<|t j j (oMv j j)<|t j j (oMv j j)<|t j j (oBi j j j j)<|t j j (bK j FK aU j j j j)<|t j j (fH (cs:=[.im 0 _]) j tF2 j j j j (aA FK) j j)<|t j j (oMv j j)<|t j j (oMv j j)<|t j j (bK j Lt aU j j j j)<|t j j (fH (cs:=[.im 0 _]) j tF2 j j j j (aA Lt) j j)<|t j j (oMv j j)<|t j j (oMv j j)<|t j j (oBi j j j j)<|t j j (bK j YG aU j j j j)<|t j j (fH (cs:=[.im 0 _]) j tF2 j j j j (aA YG) j j)<|t j j (oBi j j j j)<|t j j (oMv j j)<|t j j (oMv j j)<|t j j (bK j FO aU j j j j)<|t j j (fH (cs:=[.im 0 _]) j tF2 j j j j (aA FO) j j)<|t j j (oMv j j)<|t j j (oMv j j)<|t j j (oBi j j j j)<|t j j (bK j Ii aU j j j j)<|t j j (fH (cs:=[.im 0 _]) j tF2 j j j j (aA Ii) j j)<|t j j (oBi j j j j)<|sF (dN z82 j (oBu (cs:=[.im 0 _,.im 0 _,.im 0 _,.im 0 _]) j Qu j)) trivial (sS (dN z82 j (oAl j jW (tkI (tkI (tkI (tkI tk0)))))) trivial (sS (dN z82 j (oSt jW j j j (tkI (tkI (tkI (tkI tk0)))) j j j)) trivial (sD (by kernel_rfl)))) (sS (dN z82 j (oAl j jW (tkI (tkI (tkI (tkI tk0)))))) trivial (sS (dN z82 j (oBu (cs:=[.im 0 _,.im 0 _,.im 0 _,.im 0 _]) j Qu j)) trivial (sS (dN z82 j (oSt jW j j j (tkI (tkI (tkI (tkI tk0)))) j j j)) trivial (sD (by kernel_rfl))))))<|us<|gs<|?_
      obtain ⟨x57,SI,h⟩:=bs h
      refine g0 j j (q (oMv j j)<|q (oCa (xs:=[.v false [.im 2 _],.v false [.mp 8 0 0]]) (vs:=[(false,[.im 0 _])]) (v:=.v false [.im 0 _]) (MM SI) (.inl j) j Po j (ppC j (ppC j pp0)) j j pb0 j j j)<|nl)<|us<|gc h j iR (fun hc19 h=>?_) fun hc19 h=>?_
      ·exact g0 j j (q (oMv j j)<|q (oFA (r':=.mp 8 0 2) j wu j j)<|q (oLd (cs:=[.im 0 _]) j tF2 j j)<|q (oFA (r':=.mp 8 0 3) j wz j j)<|q (oLd (cs:=[.im 0 _]) j tF2 j j)<|q (oBi j j j j)<|q (oBi j j j j)<|q (ae j j)<|nl)<|Unw.blk<|K18 _ ⟨(w64 (yF+(w64 ((w64 (x37 - x42)) * (w64 (x47 - x52)))))),h,(by kernel_rfl)⟩
      ·exact Go.skip<|Unw.blk<|K18 _ ⟨yF,h,(by kernel_rfl)⟩
    ·refine Go.exit<|ux<|Unw.nil<|?_
     cases h
     exact ⟨j,(by kernel_rfl)⟩
   ·rintro ⟨e,st⟩ hp
    obtain ⟨FB,rfl⟩:∃y,y=o:=⟨o,rfl⟩
    obtain ⟨he,hst⟩:=hp
    obtain rfl:e= .exit 2:=he
    refine Unw.jZ<|Unw.blk<|us<|g2 c82 j j hst (q (oMv j j)<|q (oBi j j j j)<|q (ae j j)<|nl)<|Unw.nil<|?_
    cases h
    exact ⟨j,(by kernel_rfl)⟩
  ·refine Go.exit<|ux<|Unw.nil<|?_
   cases h
   exact ⟨j,(by kernel_rfl)⟩
 ·rintro ⟨e,st⟩ hp
  obtain ⟨FC,rfl⟩:∃y,y=o:=⟨o,rfl⟩
  obtain ⟨he,hst⟩:=hp
  obtain rfl:e= .exit 0:=he
  refine Unw.jZ<|us<|gs<|g2 c82 j j hst (q (oMv j j)<|q (ae j j)<|nl)<|us<|Go.ret (Unw.ret ?_)
  cases h
  exact fr ahV j
theorem KA {l_0:dH} {r:(Int×Int)} (h:pU l_0=some r):FX 38 [.im 2 true (bI l_0)] (B0 [(false,[.im 0 (I r.1)]),(false,[.im 0 (I r.2)])]):=by
 unfold pU at h
 refine gn 7 Try.func38 rfl ?_
 refine gs<|g0 j j (q (oBx j EM j (tkI (tkI (tkI (tkI (tkI (tkI (tkI (tkI (tkI tk0))))))))))<|q (ae j j)<|q (ae j j)<|nl)<|us<|gs<|gs<|?_
 obtain ⟨x4,hx4,h⟩:=bs h
 refine g1 j j (mk [(1,M 1)] [(1,Oa (G 2 (bI l_0)))]) (q (oCa (xs:=[.v false [.mp 1 0 0]]) (vs:=[(false,[.im 0 _])]) (v:=.v false [.im 0 _]) (PO hx4) (.inl j) j aah j (ppC j pp0) j j pb0 j j j)<|q (oUn j j j)<|nl)<|us<|?_
 by_cases hc1:x4=true
 ·rw [if_pos hc1] at h
  refine gF j (nF (iR.2 hc1))<|Go.skip<|us<|gs<|?_
  obtain ⟨x6,hx6,h⟩:=bs h
  refine g0 j j (q (oCa (xs:=[.v false [.mp 1 0 0]]) (vs:=[(false,[.im 0 _])]) (v:=.v false [.im 0 _]) (LD hx6) (.inl j) j aai j (ppC j pp0) j j pb0 j j j)<|q (ae j j)<|q (ae j j)<|nl)<|us<|Go.ret (Unw.ret ?_)
  cases h
  exact fr agq j
 ·rw [if_neg hc1] at h
  refine gT j (nT (byF iR hc1))<|gs<|g0 j j (q (ae j j)<|q (ae j j)<|nl)<|us<|Go.ret (Unw.ret ?_)
  cases h
  exact fr agq j
theorem LG {fU:(List Int)} {jd:(List Int)} {r:Bool} (h:yH fU jd=some r):FX 6 [.im 2 false [W 1 (eK .u8) fU],.im 2 false [W 1 (eK .u8) jd]] (B0 [(false,[.im 0 (V r)])]):=by
 unfold yH at h
 refine gn 193 Try.func6 rfl ?_
 refine gs<|g0 j j (q (ae j j)<|nl)<|us<|gs<|gs<|?_
 obtain ⟨x31,hx31,h⟩:=bs h
 refine g0 j j (q (oMv j j)<|q (oMv j j)<|q (oCa (xs:=[.v false [.im 2 _],.v false [.im 2 _]]) (vs:=[(false,[.im 0 _])]) (v:=.v false [.im 0 _]) (PD hx31) (.inl j) j Vg j (ppC j (ppC j pp0)) j j pb0 j j j)<|nl)<|us<|gc h j iR (fun hc1 h=>?_) fun hc1 h=>?_
 ·refine gs<|g0 j j (q (ae j j)<|nl)<|us<|Go.ret (Unw.ret ?_)
  cases h
  exact fr rF6 j
 ·refine Go.skip<|us<|gs<|?_
  obtain ⟨x33,FK,h⟩:=bs h
  refine g0 j j (q (oMv j j)<|q (oCr (xs:=[.v false [.im 2 _]]) (vs:=[(false,[.own 33 0 0])]) (v:=.v false [.own 33 0 0]) (c:=⟨.sh,0,_⟩) (cs:=[]) (MC FK) (.inl j) j acm j (ppC j pp0) j j pb0 j j j)<|q (nO j j j j j)<|nl)<|us<|gs<|?_
  obtain ⟨x35,MF,h⟩:=bs h
  refine g0 j j (q (oMv j j)<|q (oCa (xs:=[.v false [.im 2 _],.v false [.im 0 _],.v false [.im 0 _]]) (vs:=[(false,[.im 0 _])]) (v:=.v false [.im 0 _]) (IQ MF) (.inl j) j LZ j (ppC j (ppC j (ppC j pp0))) j j pb0 j j j)<|q (ae j j)<|nl)<|us<|gs<|?_
  obtain ⟨x37,Lt,h⟩:=bs h
  refine g0 j j (q (oMv j j)<|q (oCa (xs:=[.v false [.im 2 _],.v false [.im 0 _],.v false [.im 0 _]]) (vs:=[(false,[.im 0 _])]) (v:=.v false [.im 0 _]) (IQ Lt) (.inl j) j LZ j (ppC j (ppC j (ppC j pp0))) j j pb0 j j j)<|q (ae j j)<|nl)<|us<|gs<|?_
  obtain ⟨x42,YG,h⟩:=bs h
  refine g0 j j (q (oMv j j)<|q (oMv j j)<|q (oMv j j)<|q (oCr (xs:=[.v false [.own 5 0 0],.v false [.im 0 _],.v false [.im 0 _]]) (vs:=[(false,[.own 42 0 0]),(false,[.im 0 _])]) (v:=.tup [(false,[.own 42 0 0]),(false,[.im 0 _])]) (c:=⟨.sh,0,_⟩) (cs:=[]) (Ik YG) (.inl j) j Uo j (ppC j (ppC j (ppC j pp0))) j j pb0 j j j)<|q (Gj j j)<|q (oEx j j j)<|q (oEx j j j)<|q (nO j j j j j)<|q (ae j j)<|nl)<|us<|gs<|?_
  obtain ⟨x49,MG,h⟩:=bs h
  refine g0 j j (q (oMv j j)<|q (oMv j j)<|q (oMv j j)<|q (oCa (xs:=[.v false [.own 5 0 0],.v false [.im 0 _],.v false [.im 0 _],.v false [.im 0 _]]) (vs:=[(false,[.im 0 _]),(false,[.im 0 _]),(false,[.im 0 _])]) (v:=.tup [(false,[.im 0 _]),(false,[.im 0 _]),(false,[.im 0 _])]) (Jp MG) (.inl j) j Py j (ppC j (ppC j (ppC j (ppC j pp0)))) j j pb0 j j j)<|q (Gj j j)<|q (oEx j j j)<|q (oEx j j j)<|q (oEx j j j)<|q (ae j j)<|q (ae j j)<|q (ae j j)<|nl)<|us<|gs<|?_
  obtain ⟨x56,Kt,h⟩:=bs h
  refine g0 j j (q (oMv j j)<|q (oMv j j)<|q (oCa (xs:=[.v false [.own 5 0 0],.v false [.own 8 0 0]]) (vs:=[(false,[.im 0 _]),(false,[.im 0 _]),(false,[.im 0 _]),(false,[.im 0 _])]) (v:=.tup [(false,[.im 0 _]),(false,[.im 0 _]),(false,[.im 0 _]),(false,[.im 0 _])]) (Gh Kt) (.inl j) j Ox j (ppC j (ppC j pp0)) j j pb0 j j j)<|q (Gj j j)<|q (oEx j j j)<|q (oEx j j j)<|q (oEx j j j)<|q (oEx j j j)<|q (ae j j)<|q (ae j j)<|q (ae j j)<|q (ae j j)<|nl)<|us<|gs<|?_
  obtain ⟨x64,acD,h⟩:=bs h
  refine g0 j j (q (oMv j j)<|q (oMv j j)<|q (oCa (xs:=[.v false [.own 5 0 0],.v false [.im 0 _]]) (vs:=[(false,[.im 0 _]),(false,[.im 0 _]),(false,[.im 0 _]),(false,[.im 0 _])]) (v:=.tup [(false,[.im 0 _]),(false,[.im 0 _]),(false,[.im 0 _]),(false,[.im 0 _])]) (Gh acD) (.inl j) j Ox j (ppC j (ppC j pp0)) j j pb0 j j j)<|q (Gj j j)<|q (oEx j j j)<|q (oEx j j j)<|q (oEx j j j)<|q (oEx j j j)<|q (ae j j)<|q (ae j j)<|q (ae j j)<|q (ae j j)<|nl)<|us<|gs<|gs<|gX c6 j j j (mk [(1,D 2 (W 1 (eK .u8) jd)),(5,H 5 0),(112,bv ((x42.2 != 0)||((x49.2.2 != 0)||((x56.2.2.2 != 0)||((x64.2.2.2 != 0)||((decide (x56.2.1>x35))||((decide (x56.2.2.1>x37))||((decide (x64.2.1>x35))||((decide (x64.2.2.1>x37))||((x64.1 != x49.2.1)||(decide (x64.1<x56.1))))))))))))] [(5,Oc [Z (W 8 ai x33)])]) ?_ ?_
  ·refine xq (oMv j j)<|xq (oBi j j j j)<|xq (oMv j j)<|?_
   by_cases hc2:x42.2≠0
   ·exact ah rfl rfl (iNe.2 hc2) rfl<|ah rfl rfl (iNe.2 hc2) rfl<|xq (bf rfl rfl (iNe.2 hc2) rfl)<|xq (oMv rfl rfl)<|ah rfl rfl rfl rfl<|ah rfl rfl rfl rfl<|xq (bf rfl rfl rfl rfl)<|xq (oMv rfl rfl)<|ah rfl rfl rfl rfl<|ah rfl rfl rfl rfl<|xq (bf rfl rfl rfl rfl)<|xq (oMv rfl rfl)<|ah rfl rfl rfl rfl<|ah rfl rfl rfl rfl<|ah rfl rfl rfl rfl<|xq (bf rfl rfl rfl rfl)<|xq (oMv rfl rfl)<|ah rfl rfl rfl rfl<|ah rfl rfl rfl rfl<|ah rfl rfl rfl rfl<|xq (bf rfl rfl rfl rfl)<|xq (oMv rfl rfl)<|ah rfl rfl rfl rfl<|ah rfl rfl rfl rfl<|ah rfl rfl rfl rfl<|xq (bf rfl rfl rfl rfl)<|xq (oMv rfl rfl)<|ah rfl rfl rfl rfl<|ah rfl rfl rfl rfl<|ah rfl rfl rfl rfl<|xq (bf rfl rfl rfl rfl)<|xq (oMv rfl rfl)<|ah rfl rfl rfl rfl<|ah rfl rfl rfl rfl<|ah rfl rfl rfl rfl<|xq (bf rfl rfl rfl rfl)<|xq (oMv rfl rfl)<|ah rfl rfl rfl rfl<|ah rfl rfl rfl rfl<|ah rfl rfl rfl rfl<|xq (bf rfl rfl rfl rfl)<|xn (Eq.trans (b:=(fun bJ:Bool=>mk [(1,D 2 (W 1 (eK .u8) jd)),(5,H 5 0),(112,bv bJ)] [(5,Oc [Z (W 8 ai x33)])]) true) (by kernel_rfl) (congrArg (fun bJ:Bool=>mk [(1,D 2 (W 1 (eK .u8) jd)),(5,H 5 0),(112,bv bJ)] [(5,Oc [Z (W 8 ai x33)])]) (by first | rfl | (simp [(iNe.2 hc2)];done) | (simp [(iNe.2 hc2)];omega))))
   ·refine xqT j j (byF iNe hc2) (oMv j j)<|xqT j j (byF iNe hc2) (oBi j j j j)<|xq (bD j j (byF iNe hc2) j)<|xq (oMv j j)<|?_
    by_cases hc3:x49.2.2≠0
    ·exact ah rfl rfl (iNe.2 hc3) rfl<|ah rfl rfl (iNe.2 hc3) rfl<|xq (bf rfl rfl (iNe.2 hc3) rfl)<|xq (oMv rfl rfl)<|ah rfl rfl rfl rfl<|ah rfl rfl rfl rfl<|xq (bf rfl rfl rfl rfl)<|xq (oMv rfl rfl)<|ah rfl rfl rfl rfl<|ah rfl rfl rfl rfl<|ah rfl rfl rfl rfl<|xq (bf rfl rfl rfl rfl)<|xq (oMv rfl rfl)<|ah rfl rfl rfl rfl<|ah rfl rfl rfl rfl<|ah rfl rfl rfl rfl<|xq (bf rfl rfl rfl rfl)<|xq (oMv rfl rfl)<|ah rfl rfl rfl rfl<|ah rfl rfl rfl rfl<|ah rfl rfl rfl rfl<|xq (bf rfl rfl rfl rfl)<|xq (oMv rfl rfl)<|ah rfl rfl rfl rfl<|ah rfl rfl rfl rfl<|ah rfl rfl rfl rfl<|xq (bf rfl rfl rfl rfl)<|xq (oMv rfl rfl)<|ah rfl rfl rfl rfl<|ah rfl rfl rfl rfl<|ah rfl rfl rfl rfl<|xq (bf rfl rfl rfl rfl)<|xq (oMv rfl rfl)<|ah rfl rfl rfl rfl<|ah rfl rfl rfl rfl<|ah rfl rfl rfl rfl<|xq (bf rfl rfl rfl rfl)<|xn (Eq.trans (b:=(fun bJ:Bool=>mk [(1,D 2 (W 1 (eK .u8) jd)),(5,H 5 0),(112,bv bJ)] [(5,Oc [Z (W 8 ai x33)])]) true) (by kernel_rfl) (congrArg (fun bJ:Bool=>mk [(1,D 2 (W 1 (eK .u8) jd)),(5,H 5 0),(112,bv bJ)] [(5,Oc [Z (W 8 ai x33)])]) (by first | rfl | (simp [(byF iNe hc2),(iNe.2 hc3)];done) | (simp [(byF iNe hc2),(iNe.2 hc3)];omega) | (have q0:=(byF iNe hc2);have q1:=(iNe.2 hc3);simp_all))))
    ·refine xqT j j (byF iNe hc3) (oMv j j)<|xqT j j (byF iNe hc3) (oBi j j j j)<|xq (bD j j (byF iNe hc3) j)<|xq (oMv j j)<|?_
     by_cases hc4:x56.2.2.2≠0
     ·exact ah rfl rfl (iNe.2 hc4) rfl<|ah rfl rfl (iNe.2 hc4) rfl<|xq (bf rfl rfl (iNe.2 hc4) rfl)<|xq (oMv rfl rfl)<|ah rfl rfl rfl rfl<|ah rfl rfl rfl rfl<|ah rfl rfl rfl rfl<|xq (bf rfl rfl rfl rfl)<|xq (oMv rfl rfl)<|ah rfl rfl rfl rfl<|ah rfl rfl rfl rfl<|ah rfl rfl rfl rfl<|xq (bf rfl rfl rfl rfl)<|xq (oMv rfl rfl)<|ah rfl rfl rfl rfl<|ah rfl rfl rfl rfl<|ah rfl rfl rfl rfl<|xq (bf rfl rfl rfl rfl)<|xq (oMv rfl rfl)<|ah rfl rfl rfl rfl<|ah rfl rfl rfl rfl<|ah rfl rfl rfl rfl<|xq (bf rfl rfl rfl rfl)<|xq (oMv rfl rfl)<|ah rfl rfl rfl rfl<|ah rfl rfl rfl rfl<|ah rfl rfl rfl rfl<|xq (bf rfl rfl rfl rfl)<|xq (oMv rfl rfl)<|ah rfl rfl rfl rfl<|ah rfl rfl rfl rfl<|ah rfl rfl rfl rfl<|xq (bf rfl rfl rfl rfl)<|xn (Eq.trans (b:=(fun bJ:Bool=>mk [(1,D 2 (W 1 (eK .u8) jd)),(5,H 5 0),(112,bv bJ)] [(5,Oc [Z (W 8 ai x33)])]) true) (by kernel_rfl) (congrArg (fun bJ:Bool=>mk [(1,D 2 (W 1 (eK .u8) jd)),(5,H 5 0),(112,bv bJ)] [(5,Oc [Z (W 8 ai x33)])]) (by first | rfl | (simp [(byF iNe hc2),(byF iNe hc3),(iNe.2 hc4)];done) | (simp [(byF iNe hc2),(byF iNe hc3),(iNe.2 hc4)];omega) | (have q0:=(byF iNe hc2);have q1:=(byF iNe hc3);have q2:=(iNe.2 hc4);simp_all))))
     ·refine xqT j j (byF iNe hc4) (oMv j j)<|xqT j j (byF iNe hc4) (oBi j j j j)<|xq (bD j j (byF iNe hc4) j)<|xq (oMv j j)<|?_
      by_cases hc5:x64.2.2.2≠0
      ·exact ah rfl rfl (iNe.2 hc5) rfl<|ah rfl rfl (iNe.2 hc5) rfl<|ah rfl rfl (iNe.2 hc5) rfl<|xq (bf rfl rfl (iNe.2 hc5) rfl)<|xq (oMv rfl rfl)<|ah rfl rfl rfl rfl<|ah rfl rfl rfl rfl<|ah rfl rfl rfl rfl<|xq (bf rfl rfl rfl rfl)<|xq (oMv rfl rfl)<|ah rfl rfl rfl rfl<|ah rfl rfl rfl rfl<|ah rfl rfl rfl rfl<|xq (bf rfl rfl rfl rfl)<|xq (oMv rfl rfl)<|ah rfl rfl rfl rfl<|ah rfl rfl rfl rfl<|ah rfl rfl rfl rfl<|xq (bf rfl rfl rfl rfl)<|xq (oMv rfl rfl)<|ah rfl rfl rfl rfl<|ah rfl rfl rfl rfl<|ah rfl rfl rfl rfl<|xq (bf rfl rfl rfl rfl)<|xq (oMv rfl rfl)<|ah rfl rfl rfl rfl<|ah rfl rfl rfl rfl<|ah rfl rfl rfl rfl<|xq (bf rfl rfl rfl rfl)<|xn (Eq.trans (b:=(fun bJ:Bool=>mk [(1,D 2 (W 1 (eK .u8) jd)),(5,H 5 0),(112,bv bJ)] [(5,Oc [Z (W 8 ai x33)])]) true) (by kernel_rfl) (congrArg (fun bJ:Bool=>mk [(1,D 2 (W 1 (eK .u8) jd)),(5,H 5 0),(112,bv bJ)] [(5,Oc [Z (W 8 ai x33)])]) (by first | rfl | (simp [(byF iNe hc2),(byF iNe hc3),(byF iNe hc4),(iNe.2 hc5)];done) | (simp [(byF iNe hc2),(byF iNe hc3),(byF iNe hc4),(iNe.2 hc5)];omega) | (have q0:=(byF iNe hc2);have q1:=(byF iNe hc3);have q2:=(byF iNe hc4);have q3:=(iNe.2 hc5);simp_all))))
      ·refine xqT j j (byF iNe hc5) (oMv j j)<|xqT j j (byF iNe hc5) (oMv j j)<|xqT j j (byF iNe hc5) (oBi j j j j)<|xq (bD j j (byF iNe hc5) j)<|xq (oMv j j)<|?_
       by_cases hc6:x56.2.1>x35
       ·exact ah rfl rfl (af.2 hc6) rfl<|ah rfl rfl (af.2 hc6) rfl<|ah rfl rfl (af.2 hc6) rfl<|xq (bf rfl rfl (af.2 hc6) rfl)<|xq (oMv rfl rfl)<|ah rfl rfl rfl rfl<|ah rfl rfl rfl rfl<|ah rfl rfl rfl rfl<|xq (bf rfl rfl rfl rfl)<|xq (oMv rfl rfl)<|ah rfl rfl rfl rfl<|ah rfl rfl rfl rfl<|ah rfl rfl rfl rfl<|xq (bf rfl rfl rfl rfl)<|xq (oMv rfl rfl)<|ah rfl rfl rfl rfl<|ah rfl rfl rfl rfl<|ah rfl rfl rfl rfl<|xq (bf rfl rfl rfl rfl)<|xq (oMv rfl rfl)<|ah rfl rfl rfl rfl<|ah rfl rfl rfl rfl<|ah rfl rfl rfl rfl<|xq (bf rfl rfl rfl rfl)<|xn (Eq.trans (b:=(fun bJ:Bool=>mk [(1,D 2 (W 1 (eK .u8) jd)),(5,H 5 0),(112,bv bJ)] [(5,Oc [Z (W 8 ai x33)])]) true) (by kernel_rfl) (congrArg (fun bJ:Bool=>mk [(1,D 2 (W 1 (eK .u8) jd)),(5,H 5 0),(112,bv bJ)] [(5,Oc [Z (W 8 ai x33)])]) (by first | rfl | (simp [(byF iNe hc2),(byF iNe hc3),(byF iNe hc4),(byF iNe hc5),(af.2 hc6)];done) | (simp [(byF iNe hc2),(byF iNe hc3),(byF iNe hc4),(byF iNe hc5),(af.2 hc6)];omega) | (have q0:=(byF iNe hc2);have q1:=(byF iNe hc3);have q2:=(byF iNe hc4);have q3:=(byF iNe hc5);have q4:=(af.2 hc6);simp_all))))
       ·refine xqT j j (byF af hc6) (oMv j j)<|xqT j j (byF af hc6) (oMv j j)<|xqT j j (byF af hc6) (oBi j j j j)<|xq (bD j j (byF af hc6) j)<|xq (oMv j j)<|?_
        by_cases hc7:x56.2.2.1>x37
        ·exact ah rfl rfl (af.2 hc7) rfl<|ah rfl rfl (af.2 hc7) rfl<|ah rfl rfl (af.2 hc7) rfl<|xq (bf rfl rfl (af.2 hc7) rfl)<|xq (oMv rfl rfl)<|ah rfl rfl rfl rfl<|ah rfl rfl rfl rfl<|ah rfl rfl rfl rfl<|xq (bf rfl rfl rfl rfl)<|xq (oMv rfl rfl)<|ah rfl rfl rfl rfl<|ah rfl rfl rfl rfl<|ah rfl rfl rfl rfl<|xq (bf rfl rfl rfl rfl)<|xq (oMv rfl rfl)<|ah rfl rfl rfl rfl<|ah rfl rfl rfl rfl<|ah rfl rfl rfl rfl<|xq (bf rfl rfl rfl rfl)<|xn (Eq.trans (b:=(fun bJ:Bool=>mk [(1,D 2 (W 1 (eK .u8) jd)),(5,H 5 0),(112,bv bJ)] [(5,Oc [Z (W 8 ai x33)])]) true) (by kernel_rfl) (congrArg (fun bJ:Bool=>mk [(1,D 2 (W 1 (eK .u8) jd)),(5,H 5 0),(112,bv bJ)] [(5,Oc [Z (W 8 ai x33)])]) (by first | rfl | (simp [(byF iNe hc2),(byF iNe hc3),(byF iNe hc4),(byF iNe hc5),(byF af hc6),(af.2 hc7)];done) | (simp [(byF iNe hc2),(byF iNe hc3),(byF iNe hc4),(byF iNe hc5),(byF af hc6),(af.2 hc7)];omega) | (have q0:=(byF iNe hc2);have q1:=(byF iNe hc3);have q2:=(byF iNe hc4);have q3:=(byF iNe hc5);have q4:=(byF af hc6);have q5:=(af.2 hc7);simp_all))))
        ·refine xqT j j (byF af hc7) (oMv j j)<|xqT j j (byF af hc7) (oMv j j)<|xqT j j (byF af hc7) (oBi j j j j)<|xq (bD j j (byF af hc7) j)<|xq (oMv j j)<|?_
         by_cases hc8:x64.2.1>x35
         ·exact ah rfl rfl (af.2 hc8) rfl<|ah rfl rfl (af.2 hc8) rfl<|ah rfl rfl (af.2 hc8) rfl<|xq (bf rfl rfl (af.2 hc8) rfl)<|xq (oMv rfl rfl)<|ah rfl rfl rfl rfl<|ah rfl rfl rfl rfl<|ah rfl rfl rfl rfl<|xq (bf rfl rfl rfl rfl)<|xq (oMv rfl rfl)<|ah rfl rfl rfl rfl<|ah rfl rfl rfl rfl<|ah rfl rfl rfl rfl<|xq (bf rfl rfl rfl rfl)<|xn (Eq.trans (b:=(fun bJ:Bool=>mk [(1,D 2 (W 1 (eK .u8) jd)),(5,H 5 0),(112,bv bJ)] [(5,Oc [Z (W 8 ai x33)])]) true) (by kernel_rfl) (congrArg (fun bJ:Bool=>mk [(1,D 2 (W 1 (eK .u8) jd)),(5,H 5 0),(112,bv bJ)] [(5,Oc [Z (W 8 ai x33)])]) (by first | rfl | (simp [(byF iNe hc2),(byF iNe hc3),(byF iNe hc4),(byF iNe hc5),(byF af hc6),(byF af hc7),(af.2 hc8)];done) | (simp [(byF iNe hc2),(byF iNe hc3),(byF iNe hc4),(byF iNe hc5),(byF af hc6),(byF af hc7),(af.2 hc8)];omega) | (have q0:=(byF iNe hc2);have q1:=(byF iNe hc3);have q2:=(byF iNe hc4);have q3:=(byF iNe hc5);have q4:=(byF af hc6);have q5:=(byF af hc7);have q6:=(af.2 hc8);simp_all))))
         ·refine xqT j j (byF af hc8) (oMv j j)<|xqT j j (byF af hc8) (oMv j j)<|xqT j j (byF af hc8) (oBi j j j j)<|xq (bD j j (byF af hc8) j)<|xq (oMv j j)<|?_
          by_cases hc9:x64.2.2.1>x37
          ·exact ah rfl rfl (af.2 hc9) rfl<|ah rfl rfl (af.2 hc9) rfl<|ah rfl rfl (af.2 hc9) rfl<|xq (bf rfl rfl (af.2 hc9) rfl)<|xq (oMv rfl rfl)<|ah rfl rfl rfl rfl<|ah rfl rfl rfl rfl<|ah rfl rfl rfl rfl<|xq (bf rfl rfl rfl rfl)<|xn (Eq.trans (b:=(fun bJ:Bool=>mk [(1,D 2 (W 1 (eK .u8) jd)),(5,H 5 0),(112,bv bJ)] [(5,Oc [Z (W 8 ai x33)])]) true) (by kernel_rfl) (congrArg (fun bJ:Bool=>mk [(1,D 2 (W 1 (eK .u8) jd)),(5,H 5 0),(112,bv bJ)] [(5,Oc [Z (W 8 ai x33)])]) (by first | rfl | (simp [(byF iNe hc2),(byF iNe hc3),(byF iNe hc4),(byF iNe hc5),(byF af hc6),(byF af hc7),(byF af hc8),(af.2 hc9)];done) | (simp [(byF iNe hc2),(byF iNe hc3),(byF iNe hc4),(byF iNe hc5),(byF af hc6),(byF af hc7),(byF af hc8),(af.2 hc9)];omega) | (have q0:=(byF iNe hc2);have q1:=(byF iNe hc3);have q2:=(byF iNe hc4);have q3:=(byF iNe hc5);have q4:=(byF af hc6);have q5:=(byF af hc7);have q6:=(byF af hc8);have q7:=(af.2 hc9);simp_all))))
          ·refine xqT j j (byF af hc9) (oMv j j)<|xqT j j (byF af hc9) (oMv j j)<|xqT j j (byF af hc9) (oBi j j j j)<|xq (bD j j (byF af hc9) j)<|xq (oMv j j)<|?_
           by_cases Gs:x64.1≠x49.2.1
           ·exact ah rfl rfl (iNe.2 Gs) rfl<|ah rfl rfl (iNe.2 Gs) rfl<|ah rfl rfl (iNe.2 Gs) rfl<|xq (bf rfl rfl (iNe.2 Gs) rfl)<|xn (Eq.trans (b:=(fun bJ:Bool=>mk [(1,D 2 (W 1 (eK .u8) jd)),(5,H 5 0),(112,bv bJ)] [(5,Oc [Z (W 8 ai x33)])]) true) (by kernel_rfl) (congrArg (fun bJ:Bool=>mk [(1,D 2 (W 1 (eK .u8) jd)),(5,H 5 0),(112,bv bJ)] [(5,Oc [Z (W 8 ai x33)])]) (by first | rfl | (simp [(byF iNe hc2),(byF iNe hc3),(byF iNe hc4),(byF iNe hc5),(byF af hc6),(byF af hc7),(byF af hc8),(byF af hc9),(iNe.2 Gs)];done) | (simp [(byF iNe hc2),(byF iNe hc3),(byF iNe hc4),(byF iNe hc5),(byF af hc6),(byF af hc7),(byF af hc8),(byF af hc9),(iNe.2 Gs)];omega) | (have q0:=(byF iNe hc2);have q1:=(byF iNe hc3);have q2:=(byF iNe hc4);have q3:=(byF iNe hc5);have q4:=(byF af hc6);have q5:=(byF af hc7);have q6:=(byF af hc8);have q7:=(byF af hc9);have q8:=(iNe.2 Gs);simp_all))))
           ·exact xqT rfl rfl (byF iNe Gs) (oMv rfl rfl)<|xqT rfl rfl (byF iNe Gs) (oMv rfl rfl)<|xqT rfl rfl (byF iNe Gs) (oBi rfl rfl rfl rfl)<|xq (bD rfl rfl (byF iNe Gs) rfl)<|xn (Eq.trans (b:=(fun bJ:Bool=>mk [(1,D 2 (W 1 (eK .u8) jd)),(5,H 5 0),(112,bv bJ)] [(5,Oc [Z (W 8 ai x33)])]) (decide (x64.1<x56.1))) (by kernel_rfl) (congrArg (fun bJ:Bool=>mk [(1,D 2 (W 1 (eK .u8) jd)),(5,H 5 0),(112,bv bJ)] [(5,Oc [Z (W 8 ai x33)])]) (by first | rfl | (simp [(byF iNe hc2),(byF iNe hc3),(byF iNe hc4),(byF iNe hc5),(byF af hc6),(byF af hc7),(byF af hc8),(byF af hc9),(byF iNe Gs)];done) | (simp [(byF iNe hc2),(byF iNe hc3),(byF iNe hc4),(byF iNe hc5),(byF af hc6),(byF af hc7),(byF af hc8),(byF af hc9),(byF iNe Gs)];omega) | (have q0:=(byF iNe hc2);have q1:=(byF iNe hc3);have q2:=(byF iNe hc4);have q3:=(byF iNe hc5);have q4:=(byF af hc6);have q5:=(byF af hc7);have q6:=(byF af hc8);have q7:=(byF af hc9);have q8:=(byF iNe Gs);simp_all))))
  ·refine us<|gc h j (iOr iNe (iOr iNe (iOr iNe (iOr iNe (iOr af (iOr af (iOr af (iOr af (iOr iNe af))))))))) (fun qC h=>?_) fun qC h=>?_
   ·refine gs<|g0 j j (q (ae j j)<|nl)<|us<|Go.ret (Unw.ret ?_)
    cases h
    exact fr rF6 j
   ·refine Go.skip<|us<|gs<|?_
    obtain ⟨x114,hx114,h⟩:=bs h
    refine g0 j j (q (oMv j j)<|q (oCr (xs:=[.v false [.im 2 _]]) (vs:=[(false,[.own 114 0 0])]) (v:=.v false [.own 114 0 0]) (c:=⟨.sh,0,_⟩) (cs:=[]) (MJ hx114) (.inl j) j acn j (ppC j pp0) j j pb0 j j j)<|q (nO j j j j j)<|nl)<|us<|gs<|gs<|g0 j j (q (oMv j j)<|q (O9 j j Ko j j j (fun e=>nomatch e))<|q (oBi j j j j)<|nl)<|us<|gc h j iEq (fun hc12 h=>?_) fun hc12 h=>?_
    ·refine gs<|g0 j j (q (ae j j)<|nl)<|us<|Go.ret (Unw.ret ?_)
     cases h
     exact fr rF6 j
    ·refine Go.skip<|us<|gs<|?_
     obtain ⟨aff,ady,h⟩:=bs h
     obtain ⟨Aj,agP,h⟩:=bs h
     refine g0 j j (q (oMv j j)<|q (bK j ady xX j j j j)<|q (fH (cs:=[.im 0 _,.im 0 _,.im 0 _,.im 0 _,.im 0 _,.im 0 _,.im 0 _,.im 0 _]) j CE j j j j (aA ady) j j)<|q (oMv j j)<|q (oCa (xs:=[.v true [.im 0 _,.im 0 _,.im 0 _,.im 0 _,.im 0 _,.im 0 _,.im 0 _,.im 0 _],.v false [.own 21 0 0]]) (vs:=[(false,[.im 0 _]),(false,[.im 0 _]),(false,[.im 0 _])]) (v:=.tup [(false,[.im 0 _]),(false,[.im 0 _]),(false,[.im 0 _])]) (Jr agP) (.inl j) j Vk j (ppC j (ppC j pp0)) j j pb0 j j j)<|q (Gj j j)<|q (oEx j j j)<|q (oEx j j j)<|q (oEx j j j)<|q (ae j j)<|q (ae j j)<|q (ae j j)<|nl)<|us<|gs<|gs<|g0 j j (q (oMv j j)<|q (oBi j j j j)<|nl)<|us<|gc h j iNe (fun hc13 h=>?_) fun hc13 h=>?_
     ·refine gs<|g0 j j (q (oMv j j)<|q (oBi j j j j)<|q (ae j j)<|nl)<|us<|Go.ret (Unw.ret ?_)
      cases h
      exact fr rF6 j
     ·refine Go.skip<|us<|gs<|gs<|gX c6 j j j (mk [(5,H 5 0),(21,H 21 0),(22,iv Aj.1),(23,iv Aj.2.1),(138,bv ((decide (Aj.1<0))||(decide (Aj.1≥(x114.length:Int)))))] [(5,Oc [Z (W 8 ai x33)]),(21,Oc [Z (W 9 dG x114)])]) ?_ ?_
      ·refine xq (oMv j j)<|xq (oBi j j j j)<|xq (oMv j j)<|?_
       by_cases nU:Aj.1<0
       ·exact ah rfl rfl (af.2 nU) rfl<|ah rfl rfl (af.2 nU) rfl<|ah rfl rfl (af.2 nU) rfl<|ah rfl rfl (af.2 nU) rfl<|xq (bf rfl rfl (af.2 nU) rfl)<|xn (Eq.trans (b:=(fun zk:Bool=>mk [(5,H 5 0),(21,H 21 0),(22,iv Aj.1),(23,iv Aj.2.1),(138,bv zk)] [(5,Oc [Z (W 8 ai x33)]),(21,Oc [Z (W 9 dG x114)])]) true) (by kernel_rfl) (congrArg (fun zk:Bool=>mk [(5,H 5 0),(21,H 21 0),(22,iv Aj.1),(23,iv Aj.2.1),(138,bv zk)] [(5,Oc [Z (W 8 ai x33)]),(21,Oc [Z (W 9 dG x114)])]) (by first | rfl | (simp [(af.2 nU)];done) | (simp [(af.2 nU)];omega))))
       ·exact xqT rfl rfl (byF af nU) (oMv rfl rfl)<|xqT rfl rfl (byF af nU) (oMv rfl rfl)<|xqT rfl rfl (byF af nU) (O9 rfl rfl aaq rfl rfl rfl (fun e=>nomatch e))<|xqT rfl rfl (byF af nU) (oBi rfl rfl rfl rfl)<|xq (bD rfl rfl (byF af nU) rfl)<|xn (Eq.trans (b:=(fun zk:Bool=>mk [(5,H 5 0),(21,H 21 0),(22,iv Aj.1),(23,iv Aj.2.1),(138,bv zk)] [(5,Oc [Z (W 8 ai x33)]),(21,Oc [Z (W 9 dG x114)])]) (decide (Aj.1≥(x114.length:Int)))) (by kernel_rfl) (congrArg (fun zk:Bool=>mk [(5,H 5 0),(21,H 21 0),(22,iv Aj.1),(23,iv Aj.2.1),(138,bv zk)] [(5,Oc [Z (W 8 ai x33)]),(21,Oc [Z (W 9 dG x114)])]) (by first | rfl | (simp [(byF af nU)];done) | (simp [(byF af nU)];omega))))
      ·refine us<|gc h j (iOr af af) (fun Vu h=>?_) fun Vu h=>?_
       ·refine gs<|g0 j j (q (ae j j)<|nl)<|us<|Go.ret (Unw.ret ?_)
        cases h
        exact fr rF6 j
       ·refine Go.skip<|us<|gs<|?_
        obtain ⟨Ug,Ux,h⟩:=bs h
        obtain ⟨afg,adz,h⟩:=bs h
        obtain ⟨ZZ,agQ,h⟩:=bs h
        refine gd c6 j j j j (mk [(5,H 5 0),(21,H 21 0),(22,iv Aj.1),(23,iv Aj.2.1),(25,iv ZZ.1),(26,iv ZZ.2)] [(5,Oc [Z (W 8 ai x33)]),(21,Oc [Z (W 9 dG x114)])]) (t j j (oMv j j)<|t j j (bK j Ux xX j j j j)<|t j j (oFA (r':=.mpe 5 0 0 _ 1) j Ll j j)<|t j j (fH (cs:=[.im 0 _,.im 0 _,.im 0 _]) j Am j j j j (aA Ux) j j)<|t j j (oMv j j)<|t j j (oMv j j)<|t j j (bK j adz SB j j j j)<|t j j (oFA (r':=.mpe 21 0 0 _ 3) j Jl j j)<|t j j (fH (cs:=[.im 0 _,.im 0 _,.im 0 _]) j Am j j j j (aA adz) j j)<|sS (dN z6 j (oCa (xs:=[.v true [.im 0 _,.im 0 _,.im 0 _],.v true [.im 0 _,.im 0 _,.im 0 _]]) (vs:=[(false,[.im 0 _]),(false,[.im 0 _])]) (v:=.tup [(false,[.im 0 _]),(false,[.im 0 _])]) (Kz agQ) (.inl j) j Vm j (ppC j (ppC j pp0)) j j pb0 j j j)) trivial (t j j (Gj j j)<|t j j (oEx j j j)<|t j j (oEx j j j)<|sS (dN z6 j (ae j j)) trivial (sS (dN z6 j (ae j j)) trivial (sD (by kernel_rfl)))))<|us<|gs<|?_
        obtain ⟨afh,adA,h⟩:=bs h
        obtain ⟨x157,hx157,h⟩:=bs h
        refine g0 j j (q (oMv j j)<|q (oMv j j)<|q (bK j adA SB j j j j)<|q (fH (cs:=[.im 0 _,.im 0 _,.im 0 _,.im 0 _,.im 0 _,.im 0 _,.im 0 _,.im 0 _,.im 0 _]) j EM j j j j (aA adA) j j)<|q (oCa (xs:=[.v true [.im 0 _,.im 0 _,.im 0 _,.im 0 _,.im 0 _,.im 0 _,.im 0 _,.im 0 _,.im 0 _]]) (vs:=[(false,[.im 0 _]),(false,[.im 0 _])]) (v:=.tup [(false,[.im 0 _]),(false,[.im 0 _])]) (KA hx157) (.inl j) j aco j (ppC j pp0) j j pb0 j j j)<|q (Gj j j)<|q (oEx j j j)<|q (oEx j j j)<|q (ae j j)<|q (ae j j)<|nl)<|us<|gs<|?_
        obtain ⟨RP,C9,h⟩:=bs h
        refine gd c6 j j j j (mk [(4,bv RP)] []) ?_ ?_
        ·refine t j j (oMv j j)<|t j j (oBi j j j j)<|t j j (oMv j j)<|?_
         refine ic C9 (fun hc16 C9=>?_) fun hc16 C9=>?_
         ·refine tT j j j j (iEq.2 hc16) (oMv j j)<|tT j j j j (iEq.2 hc16) (oMv j j)<|tT j j j j (iEq.2 hc16) (oBi j j j j)<|t j j (bf j j (iEq.2 hc16) j)<|t j j (oMv j j)<|?_
          refine ic C9 (fun hc17 C9=>?_) fun hc17 C9=>?_
          ·refine tT j j j j (iEq.2 hc17) (oMv j j)<|tT j j j j (iEq.2 hc17) (oBi j j j j)<|t j j (bf j j (iEq.2 hc17) j)<|t j j (oMv j j)<|?_
           refine ic C9 (fun hc18 C9=>?_) fun hc18 C9=>?_
           ·obtain ⟨afi,adB,C9⟩:=bs C9
            refine tT j j j j (iEq.2 hc18) (oMv j j)<|tT j j j j (iEq.2 hc18) (oMv j j)<|tT j j j j (iEq.2 hc18) (bK j adB xX j j j j)<|tT j j j j (iEq.2 hc18) (oFA (r':=.mpe 5 0 0 _ 4) j Lm j j)<|tT j j j j (iEq.2 hc18) (fH (cs:=[.im 0 _]) j tF2 j j j j (aA adB) j j)<|tT j j j j (iEq.2 hc18) (oBi j j j j)<|t j j (bf j j (iEq.2 hc18) j)<|t j j (oMv j j)<|?_
            refine ic C9 (fun hc19 C9=>?_) fun hc19 C9=>?_
            ·obtain ⟨afj,adC,C9⟩:=bs C9
             obtain ⟨afk,adD,C9⟩:=bs C9
             cases C9
             exact tT j j j j (af.2 hc19) (oMv j j)<|tT j j j j (af.2 hc19) (oMv j j)<|tT j j j j (af.2 hc19) (bK j adC SB j j j j)<|tT j j j j (af.2 hc19) (oFA (r':=.mpe 21 0 0 _ 3) j Jl j j)<|tT j j j j (af.2 hc19) (oFA (r':=.mpe 21 0 0 _ 3) j Lj j j)<|tT j j j j (af.2 hc19) (fH (cs:=[.im 0 _]) j tF9 j j j j (aA adC) j j)<|tT j j j j (af.2 hc19) (oMv j j)<|tT j j j j (af.2 hc19) (bK j adD xX j j j j)<|tT j j j j (af.2 hc19) (oFA (r':=.mpe 5 0 0 _ 1) j Ll j j)<|tT j j j j (af.2 hc19) (oFA (r':=.mpe 5 0 0 _ 1) j Lj j j)<|tT j j j j (af.2 hc19) (fH (cs:=[.im 0 _]) j tF9 j j j j (aA adD) j j)<|tT j j j j (af.2 hc19) (oBi j j j j)<|t j j (bf j j (af.2 hc19) j)<|sS (dN z6 j (ae j j)) trivial (sD (by kernel_rfl))
            ·cases C9
             exact tF j j j j (byF af hc19) j<|tF j j j j (byF af hc19) j<|tF j j j j (byF af hc19) j<|tF j j j j (byF af hc19) j<|tF j j j j (byF af hc19) j<|tF j j j j (byF af hc19) j<|tF j j j j (byF af hc19) j<|tF j j j j (byF af hc19) j<|tF j j j j (byF af hc19) j<|tF j j j j (byF af hc19) j<|tF j j j j (byF af hc19) j<|tF j j j j (byF af hc19) j<|t j j (bD j j (byF af hc19) j)<|sS (dN z6 j (ae j j)) trivial (sD (by kernel_rfl))
           ·cases C9
            exact tF j j j j (byF iEq hc18) j<|tF j j j j (byF iEq hc18) j<|tF j j j j (byF iEq hc18) j<|tF j j j j (byF iEq hc18) j<|tF j j j j (byF iEq hc18) j<|tF j j j j (byF iEq hc18) j<|t j j (bD j j (byF iEq hc18) j)<|t j j (oMv j j)<|tF j j j j j j<|tF j j j j j j<|tF j j j j j j<|tF j j j j j j<|tF j j j j j j<|tF j j j j j j<|tF j j j j j j<|tF j j j j j j<|tF j j j j j j<|tF j j j j j j<|tF j j j j j j<|tF j j j j j j<|t j j (bD j j j j)<|sS (dN z6 j (ae j j)) trivial (sD (by kernel_rfl))
          ·cases C9
           exact tF j j j j (byF iEq hc17) j<|tF j j j j (byF iEq hc17) j<|t j j (bD j j (byF iEq hc17) j)<|t j j (oMv j j)<|tF j j j j j j<|tF j j j j j j<|tF j j j j j j<|tF j j j j j j<|tF j j j j j j<|tF j j j j j j<|t j j (bD j j j j)<|t j j (oMv j j)<|tF j j j j j j<|tF j j j j j j<|tF j j j j j j<|tF j j j j j j<|tF j j j j j j<|tF j j j j j j<|tF j j j j j j<|tF j j j j j j<|tF j j j j j j<|tF j j j j j j<|tF j j j j j j<|tF j j j j j j<|t j j (bD j j j j)<|sS (dN z6 j (ae j j)) trivial (sD (by kernel_rfl))
         ·cases C9
          exact tF j j j j (byF iEq hc16) j<|tF j j j j (byF iEq hc16) j<|tF j j j j (byF iEq hc16) j<|t j j (bD j j (byF iEq hc16) j)<|t j j (oMv j j)<|tF j j j j j j<|tF j j j j j j<|t j j (bD j j j j)<|t j j (oMv j j)<|tF j j j j j j<|tF j j j j j j<|tF j j j j j j<|tF j j j j j j<|tF j j j j j j<|tF j j j j j j<|t j j (bD j j j j)<|t j j (oMv j j)<|tF j j j j j j<|tF j j j j j j<|tF j j j j j j<|tF j j j j j j<|tF j j j j j j<|tF j j j j j j<|tF j j j j j j<|tF j j j j j j<|tF j j j j j j<|tF j j j j j j<|tF j j j j j j<|tF j j j j j j<|t j j (bD j j j j)<|sS (dN z6 j (ae j j)) trivial (sD (by kernel_rfl))
        ·refine us<|Go.ret (Unw.ret ?_)
         cases h
         exact fr rF6 j
end
end Go.Proofs.Ytdibfdcmbjaejaa
