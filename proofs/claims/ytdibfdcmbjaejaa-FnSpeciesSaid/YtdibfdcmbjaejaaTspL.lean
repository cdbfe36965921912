/- The machine answers, at each function of the program that is reached, what its plain function answers: a further part. Conditions: none. -/
import Derived.Test.YtdibfdcmbjaejaaTspLa
namespace Go.Proofs.Ytdibfdcmbjaejaa
open Go Go.Sim Go.Pw Go.Proofs
set_option linter.unusedVariables false
set_option linter.unusedSimpArgs false
set_option maxRecDepth 100000
set_option maxHeartbeats 4000000
noncomputable section
theorem BZ {d_0:aG} {r:Bool} (h:jZ d_0=some r):FX 43 [.im 2 true (bz d_0)] (B0 [(false,[.im 0 (V r)])]):=by
 unfold jZ at h
 refine gn 106 Try.func43 rfl ?_
 refine gs<|g0 j j (q (oBx j iH j (tkI (tkI (tkI (tkI tk0)))))<|q (aj j j)<|nl)<|us<|gs<|gs<|?_
 obtain ⟨x11,Jk,h⟩:=bs h
 obtain ⟨Lh,DC,h⟩:=bs h
 refine gX c43 j j j (mk [(1,M 1),(30,bv Lh)] [(1,Oa (G 2 (bz d_0)))]) ?_ ?_
 ·refine xq (oFA (r':=.mp 1 0 0) j Ip j j)<|xq (oLd (cs:=[.im 0 _]) j tF2 j j)<|xq (oCa (xs:=[.v false [.im 0 _],.v false [.im 0 _],.v false [.im 0 _]]) (vs:=[(false,[.im 0 _])]) (v:=.v false [.im 0 _]) (bW Jk) (.inl j) j fD j (ppC j (ppC j (ppC j pp0))) j j pb0 j j j)<|xq (oUn j j j)<|xq (oMv j j)<|?_
  refine ic DC (fun hc1 DC=>?_) fun hc1 DC=>?_
  ·obtain ⟨x16,hx16,DC⟩:=bs DC
   refine xqT j j (nF (iR.2 hc1)) (oFA (r':=.mp 1 0 1) j LD j j)<|xqT j j (nF (iR.2 hc1)) (oLd (cs:=[.im 0 _]) j tF2 j j)<|xqT j j (nF (iR.2 hc1)) (oCa (xs:=[.v false [.im 0 _],.v false [.im 0 _],.v false [.im 0 _]]) (vs:=[(false,[.im 0 _])]) (v:=.v false [.im 0 _]) (bW hx16) (.inl j) j fD j (ppC j (ppC j (ppC j pp0))) j j pb0 j j j)<|xqT j j (nF (iR.2 hc1)) (oUn j j j)<|xq (dS j j (nF (iR.2 hc1)) j)<|xq (oMv j j)<|?_
   refine ic DC (fun hc2 DC=>?_) fun hc2 DC=>?_
   ·refine xqT j j (nF (iR.2 hc2)) (oFA (r':=.mp 1 0 2) j o6 j j)<|xqT j j (nF (iR.2 hc2)) (oLd (cs:=[.im 2 _]) j AZ j j)<|xqT j j (nF (iR.2 hc2)) (mF j j BU j)<|xqT j j (nF (iR.2 hc2)) (oBi j j j j)<|xq (dS j j (nF (iR.2 hc2)) j)<|xq (oMv j j)<|?_
    refine ic DC (fun hc3 DC=>?_) fun hc3 DC=>?_
    ·cases DC
     exact au j j (aC.2 hc3) j<|au j j (aC.2 hc3) j<|au j j (aC.2 hc3) j<|au j j (aC.2 hc3) j<|xq (dP j j (aC.2 hc3) j)<|xn
    ·cases DC
     exact xqT j j (byF aC hc3) (oFA (r':=.mp 1 0 3) j kF j j)<|xqT j j (byF aC hc3) (oLd (cs:=[.im 2 _]) j uO j j)<|xqT j j (byF aC hc3) (mF j j Ff j)<|xqT j j (byF aC hc3) (oBi j j j j)<|xq (dS j j (byF aC hc3) j)<|xn
   ·cases DC
    exact au j j (nT (byF iR hc2)) j<|au j j (nT (byF iR hc2)) j<|au j j (nT (byF iR hc2)) j<|au j j (nT (byF iR hc2)) j<|xq (dP j j (nT (byF iR hc2)) j)<|xq (oMv j j)<|au j j j j<|au j j j j<|au j j j j<|au j j j j<|xq (dP j j j j)<|xn
  ·cases DC
   exact au j j (nT (byF iR hc1)) j<|au j j (nT (byF iR hc1)) j<|au j j (nT (byF iR hc1)) j<|au j j (nT (byF iR hc1)) j<|xq (dP j j (nT (byF iR hc1)) j)<|xq (oMv j j)<|au j j j j<|au j j j j<|au j j j j<|au j j j j<|xq (dP j j j j)<|xq (oMv j j)<|au j j j j<|au j j j j<|au j j j j<|au j j j j<|xq (dP j j j j)<|xn
 ·refine us<|gc h j iR (fun hc4 h=>?_) fun hc4 h=>?_
  ·refine gs<|g0 j j (q (aj j j)<|nl)<|us<|Go.ret (Unw.ret ?_)
   cases h
   exact fr U6 j
  ·refine Go.skip<|us<|gs<|gs<|g0 j j (q (oFA (r':=.mp 1 0 2) j o6 j j)<|q (oLd (cs:=[.im 2 _]) j AZ j j)<|q (mF j j BU j)<|q (oMv j j)<|nl)<|us<|Go.block<|?_
   obtain ⟨o,hl,h⟩:=bs h
   refine gl c43 j _ (fun (tN:Int)=>mk [(1,M 1),(32,D 2 (W 2 af d_0.aH)),(33,iv (d_0.aH.length:Int)),(34,iv tN)] [(1,Oa (G 2 (bz d_0)))]) (fun (o:(Unit ⊕ Bool)) (p:Ex×St)=>match o with | (.inl _)=>p.1= .exit 0∧p.2.norm ([1],[1])=mk [(1,M 1)] [(1,Oa (G 2 (bz d_0)))] | (.inr r2)=>p.1= .ret∧fin Try.prog cfg 43 Try.f43 [.im 2 true (bz d_0)] p.2=some (B0 [(false,[.im 0 (V r2)])])) hl (by kernel_rfl) ?_ ?_ ?_
   ·intro o p hp e
    rcases o with u | r2<;>exact nomatch (hp.1.symm.trans e)
   ·rintro tN o h
    unfold jY at h
    refine gs<|g0 j j (q (oBi j j j j)<|nl)<|us<|gs<|gc h j aC (fun hc39 h=>?_) fun hc39 h=>?_
    ·refine Go.skip<|us<|gs<|Go.block<|gs<|?_
     obtain ⟨x37,acC,h⟩:=bs h
     refine g0 j j (q (oMv j j)<|q (lF j acC uN j j)<|q (oLd (cs:=[.im 2 _,.im 2 _]) j aU j j)<|q (oAl j aU (tkI (tkI tk0)))<|q (aj j j)<|q (oSt aU j j j (tkI (tkI tk0)) j j j)<|nl)<|us<|gs<|?_
     obtain ⟨x43,II,h⟩:=bs h
     obtain ⟨Le,DD,h⟩:=bs h
     refine gd c43 j j j (st1:=mk [(1,M 1),(3,iv tN),(4,M 4),(32,D 2 (W 2 af d_0.aH)),(33,iv (d_0.aH.length:Int)),(34,iv tN)] [(1,Oa (G 2 (bz d_0))),(4,Oa (G 0 (bK x37)))]) (by kernel_rfl) (mk [(1,M 1),(32,D 2 (W 2 af d_0.aH)),(33,iv (d_0.aH.length:Int)),(34,iv tN),(60,bv Le)] [(1,Oa (G 2 (bz d_0)))]) ?_ ?_
     ·refine t j j (oFA (r':=.mp 4 0 0) j nM j j)<|t j j (oLd (cs:=[.im 0 _]) j tF2 j j)<|t j j (oFA (r':=.mp 1 0 0) j Ip j j)<|?_
      refine ic DD (fun xJ DD=>?_) fun xJ DD=>?_
      ·obtain ⟨x50,aa4,DD⟩:=bs DD
       refine ic DD (fun DF DD=>?_) fun DF DD=>?_
       ·obtain ⟨x57,IB,DD⟩:=bs DD
        obtain ⟨x59,Va,DD⟩:=bs DD
        cases DD
        exact t j j (oLd (cs:=[.im 0 _]) j tF2 j j)<|sS (dN z43 j (oCa (xs:=[.v false [.im 0 _],.v false [.im 0 _],.v false [.im 0 _]]) (vs:=[(false,[.im 0 _])]) (v:=.v false [.im 0 _]) (bW II) (.inl j) j fD j (ppC j (ppC j (ppC j pp0))) j j pb0 j j j)) trivial (t j j (oUn j j j)<|t j j (oMv j j)<|tT j j j j (nF (iR.2 xJ)) (oFA (r':=.mp 4 0 1) j oG j j)<|tT j j j j (nF (iR.2 xJ)) (oLd (cs:=[.im 0 _]) j tF2 j j)<|tT j j j j (nF (iR.2 xJ)) (oFA (r':=.mp 1 0 1) j LD j j)<|tT j j j j (nF (iR.2 xJ)) (oLd (cs:=[.im 0 _]) j tF2 j j)<|sS (dT z43 j j j (nF (iR.2 xJ)) (oCa (xs:=[.v false [.im 0 _],.v false [.im 0 _],.v false [.im 0 _]]) (vs:=[(false,[.im 0 _])]) (v:=.v false [.im 0 _]) (bW aa4) (.inl j) j fD j (ppC j (ppC j (ppC j pp0))) j j pb0 j j j)) trivial (tT j j j j (nF (iR.2 xJ)) (oUn j j j)<|t j j (dS j j (nF (iR.2 xJ)) j)<|t j j (oMv j j)<|tT j j j j (nF (iR.2 DF)) (oFA (r':=.mp 1 0 2) j o6 j j)<|tT j j j j (nF (iR.2 DF)) (oLd (cs:=[.im 2 _]) j AZ j j)<|tT j j j j (nF (iR.2 DF)) (oMv j j)<|sK (O:=[4]) j j j (dT z43 j j j (nF (iR.2 DF)) (oLd (cs:=[.im 0 _,.im 0 _]) j aU j j))<|sS (dT z43 j j j (nF (iR.2 DF)) (Z8 j IB uN j bn0 (bn1 j) j j)) (kY ⟨j,trivial⟩ trivial) (sS (dT z43 j j j (nF (iR.2 DF)) (oCa (xs:=[.v false [.im 2 _],.v true [.im 0 _,.im 0 _]]) (vs:=[(false,[.im 0 _])]) (v:=.v false [.im 0 _]) (oK Va) (.inl j) j NJ j (ppC j (ppC j pp0)) j j pb0 j j j)) (kN j trivial) (t j j (dS j j (nF (iR.2 DF)) j)<|sD (by kernel_rfl)))))
       ·cases DD
        exact t j j (oLd (cs:=[.im 0 _]) j tF2 j j)<|sS (dN z43 j (oCa (xs:=[.v false [.im 0 _],.v false [.im 0 _],.v false [.im 0 _]]) (vs:=[(false,[.im 0 _])]) (v:=.v false [.im 0 _]) (bW II) (.inl j) j fD j (ppC j (ppC j (ppC j pp0))) j j pb0 j j j)) trivial (t j j (oUn j j j)<|t j j (oMv j j)<|tT j j j j (nF (iR.2 xJ)) (oFA (r':=.mp 4 0 1) j oG j j)<|tT j j j j (nF (iR.2 xJ)) (oLd (cs:=[.im 0 _]) j tF2 j j)<|tT j j j j (nF (iR.2 xJ)) (oFA (r':=.mp 1 0 1) j LD j j)<|tT j j j j (nF (iR.2 xJ)) (oLd (cs:=[.im 0 _]) j tF2 j j)<|sS (dT z43 j j j (nF (iR.2 xJ)) (oCa (xs:=[.v false [.im 0 _],.v false [.im 0 _],.v false [.im 0 _]]) (vs:=[(false,[.im 0 _])]) (v:=.v false [.im 0 _]) (bW aa4) (.inl j) j fD j (ppC j (ppC j (ppC j pp0))) j j pb0 j j j)) trivial (tT j j j j (nF (iR.2 xJ)) (oUn j j j)<|t j j (dS j j (nF (iR.2 xJ)) j)<|t j j (oMv j j)<|tF j j j j (nT (byF iR DF)) j<|tF j j j j (nT (byF iR DF)) j<|tF j j j j (nT (byF iR DF)) j<|sK (O:=[4]) j j j (dF j j j (nT (byF iR DF)) j)<|sS (dF j j j (nT (byF iR DF)) j) (kY ⟨j,trivial⟩ trivial) (sS (dF j j j (nT (byF iR DF)) j) (kN j trivial) (t j j (dP j j (nT (byF iR DF)) j)<|sD (by kernel_rfl)))))
      ·cases DD
       exact t j j (oLd (cs:=[.im 0 _]) j tF2 j j)<|sS (dN z43 j (oCa (xs:=[.v false [.im 0 _],.v false [.im 0 _],.v false [.im 0 _]]) (vs:=[(false,[.im 0 _])]) (v:=.v false [.im 0 _]) (bW II) (.inl j) j fD j (ppC j (ppC j (ppC j pp0))) j j pb0 j j j)) trivial (t j j (oUn j j j)<|t j j (oMv j j)<|tF j j j j (nT (byF iR xJ)) j<|tF j j j j (nT (byF iR xJ)) j<|tF j j j j (nT (byF iR xJ)) j<|tF j j j j (nT (byF iR xJ)) j<|sS (dF j j j (nT (byF iR xJ)) j) trivial (tF j j j j (nT (byF iR xJ)) j<|t j j (dP j j (nT (byF iR xJ)) j)<|t j j (oMv j j)<|tF j j j j j j<|tF j j j j j j<|tF j j j j j j<|sK (O:=[4]) j j j (dF j j j j j)<|sS (dF j j j j j) (kY ⟨j,trivial⟩ trivial) (sS (dF j j j j j) (kN j trivial) (t j j (dP j j j j)<|sD (by kernel_rfl)))))
     ·refine us<|gc h j iR (fun Ze h=>?_) fun Ze h=>?_
      ·refine gs<|g0 j j (q (aj j j)<|nl)<|us<|Go.ret (Unw.ret ?_)
       cases h
       exact ⟨j,(fo U6 j)⟩
      ·refine Go.skip<|Unw.blk<|us<|g0 j j (q (oBi j j j j)<|q (oMv j j)<|nl)<|Unw.nil<|?_
       cases h
       exact ⟨j,(by kernel_rfl)⟩
    ·refine Go.exit<|ux<|Unw.nil<|?_
     cases h
     exact ⟨j,(by kernel_rfl)⟩
   ·rintro ⟨e,st⟩ hp
    rcases o with u | r2
    ·dsimp only at h
     obtain ⟨he,hst⟩:=hp
     obtain rfl:e= .exit 0:=he
     refine Unw.ng<|us<|gs<|gs<|g2 c43 j j hst (q (oFA (r':=.mp 1 0 3) j kF j j)<|q (oLd (cs:=[.im 2 _]) j uO j j)<|q (mF j j Ff j)<|q (oMv j j)<|nl)<|us<|Go.block<|?_
     obtain ⟨o,hl,h⟩:=bs h
     refine gl c43 j _ (fun (nP:Int)=>mk [(1,M 1),(63,D 2 (W 2 ah d_0.aA)),(64,iv (d_0.aA.length:Int)),(65,iv nP)] [(1,Oa (G 2 (bz d_0)))]) (fun (o:(Unit ⊕ Bool)) (p:Ex×St)=>match o with | (.inl _)=>p.1= .exit 2∧p.2.norm ([],[])=mk [] [] | (.inr r2)=>p.1= .ret∧fin Try.prog cfg 43 Try.f43 [.im 2 true (bz d_0)] p.2=some (B0 [(false,[.im 0 (V r2)])])) hl (by kernel_rfl) ?_ ?_ ?_
     ·intro o p hp e
      rcases o with u | r2<;>exact nomatch (hp.1.symm.trans e)
     ·rintro nP o h
      unfold jy at h
      refine gs<|g0 j j (q (oBi j j j j)<|nl)<|us<|gs<|gc h j aC (fun hc31 h=>?_) fun hc31 h=>?_
      ·refine Go.skip<|us<|gs<|Go.block<|gs<|?_
       obtain ⟨x68,XE,h⟩:=bs h
       refine g0 j j (q (oMv j j)<|q (lF j XE vF j j)<|q (oLd (cs:=[.im 2 _,.im 2 _]) j CE j j)<|q (oAl j CE (tkI (tkN tk0)))<|q (aj j j)<|q (oSt CE j j j (tkI (tkI tk0)) j j j)<|nl)<|us<|gs<|gs<|?_
       obtain ⟨x72,Zi,h⟩:=bs h
       obtain ⟨Ij,IP,h⟩:=bs h
       refine gd c43 j j j (st1:=mk [(1,M 1),(5,iv nP),(6,M 6),(63,D 2 (W 2 ah d_0.aA)),(64,iv (d_0.aA.length:Int)),(65,iv nP)] [(1,Oa (G 2 (bz d_0))),(6,Oa (G 2 (xm x68)))]) (by kernel_rfl) (mk [(1,M 1),(6,M 6),(63,D 2 (W 2 ah d_0.aA)),(64,iv (d_0.aA.length:Int)),(65,iv nP),(89,bv Ij)] [(1,Oa (G 2 (bz d_0))),(6,Oa (G 2 (xm x68)))]) ?_ ?_
       ·refine t j j (oFA (r':=.mp 6 0 0) j BK j j)<|?_
        refine ic IP (fun hc32 IP=>?_) fun hc32 IP=>?_
        ·refine ic IP (fun uP IP=>?_) fun uP IP=>?_
         ·obtain ⟨x82,SC,IP⟩:=bs IP
          cases IP
          exact t j j (oLd (cs:=[.im 0 _]) j tF9 j j)<|sS (dN z43 j (oCa (xs:=[.v false [.im 0 _]]) (vs:=[(false,[.im 0 _])]) (v:=.v false [.im 0 _]) (yg Zi) (.inl j) j OV j (ppC j pp0) j j pb0 j j j)) trivial (t j j (oUn j j j)<|t j j (oMv j j)<|tT j j j j (nF (iR.2 hc32)) (oMv j j)<|tT j j j j (nF (iR.2 hc32)) (oBi j j j j)<|tT j j j j (nF (iR.2 hc32)) (oMv j j)<|tT j j j j (aC.2 uP) (oFA (r':=.mp 1 0 3) j kF j j)<|tT j j j j (aC.2 uP) (oLd (cs:=[.im 2 _]) j uO j j)<|tT j j j j (aC.2 uP) (oMv j j)<|tT j j j j (aC.2 uP) (oBi j j j j)<|tT j j j j (aC.2 uP) (lF j SC vF j j)<|tT j j j j (aC.2 uP) (oFA (r':=.im 2 _) j BK j j)<|tT j j j j (aC.2 uP) (oLd (cs:=[.im 2 _]) j tF9 j j)<|tT j j j j (aC.2 uP) (oFA (r':=.mp 6 0 0) j BK j j)<|tT j j j j (aC.2 uP) (oLd (cs:=[.im 0 _]) j tF9 j j)<|tT j j j j (aC.2 uP) (oBi j j j j)<|tT j j j j (nF (iR.2 hc32)) (dP j j (aC.2 uP) j)<|t j j (dS j j (nF (iR.2 hc32)) j)<|sD (by kernel_rfl))
         ·cases IP
          exact t j j (oLd (cs:=[.im 0 _]) j tF9 j j)<|sS (dN z43 j (oCa (xs:=[.v false [.im 0 _]]) (vs:=[(false,[.im 0 _])]) (v:=.v false [.im 0 _]) (yg Zi) (.inl j) j OV j (ppC j pp0) j j pb0 j j j)) trivial (t j j (oUn j j j)<|t j j (oMv j j)<|tT j j j j (nF (iR.2 hc32)) (oMv j j)<|tT j j j j (nF (iR.2 hc32)) (oBi j j j j)<|tT j j j j (nF (iR.2 hc32)) (oMv j j)<|tF j j j j (byF aC uP) j<|tF j j j j (byF aC uP) j<|tF j j j j (byF aC uP) j<|tF j j j j (byF aC uP) j<|tF j j j j (byF aC uP) j<|tF j j j j (byF aC uP) j<|tF j j j j (byF aC uP) j<|tF j j j j (byF aC uP) j<|tF j j j j (byF aC uP) j<|tF j j j j (byF aC uP) j<|tT j j j j (nF (iR.2 hc32)) (dS j j (byF aC uP) j)<|t j j (dS j j (nF (iR.2 hc32)) j)<|sD (by kernel_rfl))
        ·cases IP
         exact t j j (oLd (cs:=[.im 0 _]) j tF9 j j)<|sS (dN z43 j (oCa (xs:=[.v false [.im 0 _]]) (vs:=[(false,[.im 0 _])]) (v:=.v false [.im 0 _]) (yg Zi) (.inl j) j OV j (ppC j pp0) j j pb0 j j j)) trivial (t j j (oUn j j j)<|t j j (oMv j j)<|tF j j j j (nT (byF iR hc32)) j<|tF j j j j (nT (byF iR hc32)) j<|tF j j j j (nT (byF iR hc32)) j<|sT j (dU j j j j)<|sT j (dU j j j j)<|sT j (dU j j j j)<|sT j (dU j j j j)<|sT j (dU j j j j)<|sT j (dU j j j j)<|sT j (dU j j j j)<|sT j (dU j j j j)<|sT j (dU j j j j)<|sT j (dU j j j j)<|tF j j j j (nT (byF iR hc32)) j<|t j j (dP j j (nT (byF iR hc32)) j)<|sD (by kernel_rfl))
       ·refine us<|gc h j iR (fun hc34 h=>?_) fun hc34 h=>?_
        ·refine gs<|g0 j j (q (aj j j)<|nl)<|us<|Go.ret (Unw.ret ?_)
         cases h
         exact ⟨j,(fo U6 j)⟩
        ·refine Go.skip<|us<|gs<|?_
         obtain ⟨x95,hx95,h⟩:=bs h
         refine g0 j j (q (oFA (r':=.mp 1 0 2) j o6 j j)<|q (oLd (cs:=[.im 2 _]) j AZ j j)<|q (oFA (r':=.mp 6 0 1) j pW j j)<|q (oLd (cs:=[.im 2 _]) j Ac j j)<|q (oCr (xs:=[.v false [.im 2 _],.v false [.im 2 _]]) (vs:=[(false,[.own 95 0 0]),(false,[.im 0 _])]) (v:=.tup [(false,[.own 95 0 0]),(false,[.im 0 _])]) (c:=⟨.sh,0,_⟩) (cs:=[]) (Dy hx95) (.inl j) j OW j (ppC j (ppC j pp0)) j j pb0 j j j)<|q (EU j j)<|q (oEx j j j)<|q (oEx j j j)<|q (lD j j j j j)<|q (aj j j)<|nl)<|us<|gs<|?_
         obtain ⟨E5,Bf,h⟩:=bs h
         refine gX c43 j j j (mk [(1,M 1),(63,D 2 (W 2 ah d_0.aA)),(64,iv (d_0.aA.length:Int)),(65,iv nP),(104,bv E5)] [(1,Oa (G 2 (bz d_0)))]) ?_ ?_
         ·refine xq (oMv j j)<|xq (oUn j j j)<|xq (oMv j j)<|?_
          refine ic Bf (fun uQ Bf=>?_) fun uQ Bf=>?_
          ·obtain ⟨x102,hx102,Bf⟩:=bs Bf
           cases Bf
           exact xqT j j (nF (iR.2 uQ)) (oMv j j)<|xqT j j (nF (iR.2 uQ)) (oCa (xs:=[.v false [.own 7 0 0]]) (vs:=[(false,[.im 0 _])]) (v:=.v false [.im 0 _]) (BX hx102) (.inl j) j Xv j (ppC j pp0) j j pb0 j j j)<|xqT j j (nF (iR.2 uQ)) (oUn j j j)<|xq (dS j j (nF (iR.2 uQ)) j)<|xn
          ·cases Bf
           exact au j j (nT (byF iR uQ)) j<|au j j (nT (byF iR uQ)) j<|au j j (nT (byF iR uQ)) j<|xq (dP j j (nT (byF iR uQ)) j)<|xn
         ·refine us<|gc h j iR (fun Zj h=>?_) fun Zj h=>?_
          ·refine gs<|g0 j j (q (aj j j)<|nl)<|us<|Go.ret (Unw.ret ?_)
           cases h
           exact ⟨j,(fo U6 j)⟩
          ·refine Go.skip<|Unw.blk<|us<|g0 j j (q (oBi j j j j)<|q (oMv j j)<|nl)<|Unw.nil<|?_
           cases h
           exact ⟨j,(by kernel_rfl)⟩
      ·refine Go.exit<|ux<|Unw.nil<|?_
       cases h
       exact ⟨j,(by kernel_rfl)⟩
     ·rintro ⟨e,st⟩ hp
      rcases o with u | r2
      ·dsimp only at h
       obtain ⟨he,hst⟩:=hp
       obtain rfl:e= .exit 2:=he
       refine Unw.ng<|us<|gs<|g2 c43 j j hst (q (aj j j)<|nl)<|us<|Go.ret (Unw.ret ?_)
       cases h
       exact fr U6 j
      ·dsimp only at h
       obtain ⟨he,hfin⟩:=hp
       obtain rfl:e= .ret:=he
       cases h
       exact Unw.ret (lg hfin)
    ·dsimp only at h
     obtain ⟨he,hfin⟩:=hp
     obtain rfl:e= .ret:=he
     cases h
     exact Unw.ret (lg hfin)
theorem DI {oC:ByteArray} {r:(Int×Int×Int×Int)} (h:kS oC=some r):FX 206 [.im 2 false [Y oC]] (B0 [(false,[.im 0 (I r.1)]),(false,[.im 0 (I r.2.1)]),(false,[.im 0 (I r.2.2.1)]),(false,[.im 0 (I r.2.2.2)])]):=by
 unfold kS at h
 refine gn 27 Try.func206 rfl ?_
 refine gs<|g0 j j (q (aj j j)<|q (aj j j)<|q (aj j j)<|q (aj j j)<|nl)<|us<|gs<|gs<|g0 j j (q (oMv j j)<|nl)<|us<|Go.block<|gs<|g0 j j (q (oBi j j j j)<|q (aj j j)<|nl)<|us<|gc h j Jc (fun hc1 h=>?_) fun hc1 h=>?_
 ·refine gs<|g0 j j (q (aj j j)<|q (aj j j)<|q (aj j j)<|q (aj j j)<|nl)<|us<|Go.ret (Unw.ret ?_)
  cases h
  exact fr AY j
 ·refine gs<|g0 j j (q (oBi j j j j)<|q (aj j j)<|nl)<|us<|gc h j Jc (fun hc2 h=>?_) fun hc2 h=>?_
  ·refine gs<|g0 j j (q (aj j j)<|q (aj j j)<|q (aj j j)<|q (aj j j)<|nl)<|us<|Go.ret (Unw.ret ?_)
   cases h
   exact fr AY j
  ·refine gs<|g0 j j (q (oBi j j j j)<|q (aj j j)<|nl)<|us<|gc h j Jc (fun hc3 h=>?_) fun hc3 h=>?_
   ·refine gs<|g0 j j (q (aj j j)<|q (aj j j)<|q (aj j j)<|q (aj j j)<|nl)<|us<|Go.ret (Unw.ret ?_)
    cases h
    exact fr AY j
   ·refine gs<|g0 j j (q (oBi j j j j)<|q (aj j j)<|nl)<|us<|gc h j Jc (fun hc4 h=>?_) fun hc4 h=>?_
    ·refine gs<|g0 j j (q (aj j j)<|q (aj j j)<|q (aj j j)<|q (aj j j)<|nl)<|us<|Go.ret (Unw.ret ?_)
     cases h
     exact fr AY j
    ·refine gs<|g0 j j (q (oBi j j j j)<|q (aj j j)<|nl)<|us<|gc h j Jc (fun hc5 h=>?_) fun hc5 h=>?_
     ·refine gs<|g0 j j (q (aj j j)<|q (aj j j)<|q (aj j j)<|q (aj j j)<|nl)<|us<|Go.ret (Unw.ret ?_)
      cases h
      exact fr AY j
     ·refine gs<|g0 j j (q (oBi j j j j)<|q (aj j j)<|nl)<|us<|gc h j Jc (fun hc6 h=>?_) fun hc6 h=>?_
      ·refine gs<|g0 j j (q (aj j j)<|q (aj j j)<|q (aj j j)<|q (aj j j)<|nl)<|us<|Go.ret (Unw.ret ?_)
       cases h
       exact fr AY j
      ·refine gs<|g0 j j (q (oBi j j j j)<|q (aj j j)<|nl)<|us<|gc h j Jc (fun hc7 h=>?_) fun hc7 h=>?_
       ·refine gs<|g0 j j (q (aj j j)<|q (aj j j)<|q (aj j j)<|q (aj j j)<|nl)<|us<|Go.ret (Unw.ret ?_)
        cases h
        exact fr AY j
       ·refine gs<|g0 j j (q (oBi j j j j)<|q (aj j j)<|nl)<|us<|gc h j Jc (fun hc8 h=>?_) fun hc8 h=>?_
        ·refine gs<|g0 j j (q (aj j j)<|q (aj j j)<|q (aj j j)<|q (aj j j)<|nl)<|us<|Go.ret (Unw.ret ?_)
         cases h
         exact fr AY j
        ·refine gs<|g0 j j (q (oBi j j j j)<|q (aj j j)<|nl)<|us<|gc h j Jc (fun hc9 h=>?_) fun hc9 h=>?_
         ·refine gs<|g0 j j (q (aj j j)<|q (aj j j)<|q (aj j j)<|q (aj j j)<|nl)<|us<|Go.ret (Unw.ret ?_)
          cases h
          exact fr AY j
         ·refine gs<|g0 j j (q (oBi j j j j)<|q (aj j j)<|nl)<|us<|gc h j Jc (fun zI h=>?_) fun zI h=>?_
          ·refine gs<|g0 j j (q (aj j j)<|q (aj j j)<|q (aj j j)<|q (aj j j)<|nl)<|us<|Go.ret (Unw.ret ?_)
           cases h
           exact fr AY j
          ·refine Go.skip<|Unw.blk<|us<|gs<|g0 j j (q (aj j j)<|q (aj j j)<|q (aj j j)<|q (aj j j)<|nl)<|us<|Go.ret (Unw.ret ?_)
           cases h
           exact fr AY j
theorem Cb {oC:ByteArray} {r:(Int×Bool)} (h:fG oC=some r):FX 182 [.im 2 false [Y oC]] (B0 [(false,[.im 0 (I r.1)]),(false,[.im 0 (V r.2)])]):=by
 unfold fG at h
 refine gn 18 Try.func182 rfl ?_
 refine gs<|g0 j j (q (aj j j)<|q (aj j j)<|nl)<|us<|gs<|?_
 obtain ⟨x10,IE,h⟩:=bs h
 refine g0 j j (q (oMv j j)<|q (oCa (xs:=[.v false [.im 2 _]]) (vs:=[(false,[.im 0 _]),(false,[.im 0 _]),(false,[.im 0 _]),(false,[.im 0 _])]) (v:=.tup [(false,[.im 0 _]),(false,[.im 0 _]),(false,[.im 0 _]),(false,[.im 0 _])]) (DI IE) (.inl j) j Xm j (ppC j pp0) j j pb0 j j j)<|q (EU j j)<|q (oEx j j j)<|q (oEx j j j)<|q (oEx j j j)<|q (oEx j j j)<|q (aj j j)<|q (aj j j)<|q (aj j j)<|q (aj j j)<|nl)<|us<|gs<|g0 j j (q (oMv j j)<|q (oMv j j)<|q (oBi j j j j)<|q (aj j j)<|q (aj j j)<|nl)<|us<|Go.ret (Unw.ret ?_)
 cases h
 exact fr aaM j
theorem DJ {v_0:ak} {r:Bool} (h:gY v_0=some r):FX 129 [.im 2 true (nK v_0)] (B0 [(false,[.im 0 (V r)])]):=by
 unfold gY at h
 refine gn 29 Try.func129 rfl ?_
 refine gs<|g0 j j (q (oBx j rO j (tkI (tkI (tkI tk0))))<|q (aj j j)<|nl)<|us<|gs<|?_
 obtain ⟨x8,hx8,h⟩:=bs h
 refine g0 j j (q (oFA (r':=.mp 1 0 0) j UT j j)<|q (oLd (cs:=[.im 0 _]) j tF9 j j)<|q (oCa (xs:=[.v false [.im 0 _]]) (vs:=[(false,[.im 0 _]),(false,[.im 0 _])]) (v:=.tup [(false,[.im 0 _]),(false,[.im 0 _])]) (Cb hx8) (.inl j) j Xl j (ppC j pp0) j j pb0 j j j)<|q (EU j j)<|q (oEx j j j)<|q (oEx j j j)<|q (aj j j)<|q (aj j j)<|nl)<|us<|gs<|?_
 obtain ⟨OO,hm4,h⟩:=bs h
 refine gX aak j j j (mk [(2,bv OO)] []) ?_ ?_
 ·refine xq (oMv j j)<|xq (oMv j j)<|?_
  refine ic hm4 (fun hc1 hm4=>?_) fun hc1 hm4=>?_
  ·obtain ⟨x15,Iz,hm4⟩:=bs hm4
   refine xqT j j (iR.2 hc1) (oFA (r':=.mp 1 0 1) j Dv j j)<|xqT j j (iR.2 hc1) (oLd (cs:=[.im 0 _]) j tF2 j j)<|xqT j j (iR.2 hc1) (oCa (xs:=[.v false [.im 0 _],.v false [.im 0 _],.v false [.im 0 _]]) (vs:=[(false,[.im 0 _])]) (v:=.v false [.im 0 _]) (bW Iz) (.inl j) j fD j (ppC j (ppC j (ppC j pp0))) j j pb0 j j j)<|xq (dP j j (iR.2 hc1) j)<|xq (oMv j j)<|?_
   refine ic hm4 (fun hc2 hm4=>?_) fun hc2 hm4=>?_
   ·obtain ⟨x22,LQ,hm4⟩:=bs hm4
    refine xqT j j (iR.2 hc2) (oFA (r':=.mp 1 0 1) j Dv j j)<|xqT j j (iR.2 hc2) (oLd (cs:=[.im 0 _]) j tF2 j j)<|xqT j j (iR.2 hc2) (oMv j j)<|xqT j j (iR.2 hc2) (oBi j j j j)<|xqT j j (iR.2 hc2) (oCa (xs:=[.v false [.im 0 _],.v false [.im 0 _],.v false [.im 0 _]]) (vs:=[(false,[.im 0 _])]) (v:=.v false [.im 0 _]) (bW LQ) (.inl j) j fD j (ppC j (ppC j (ppC j pp0))) j j pb0 j j j)<|xq (dP j j (iR.2 hc2) j)<|xq (oMv j j)<|?_
    refine ic hm4 (fun hc3 hm4=>?_) fun hc3 hm4=>?_
    ·obtain ⟨x27,hx27,hm4⟩:=bs hm4
     cases hm4
     exact xqT j j (iR.2 hc3) (oFA (r':=.mp 1 0 2) j Iq j j)<|xqT j j (iR.2 hc3) (oLd (cs:=[.im 0 _]) j tF2 j j)<|xqT j j (iR.2 hc3) (oCa (xs:=[.v false [.im 0 _],.v false [.im 0 _],.v false [.im 0 _]]) (vs:=[(false,[.im 0 _])]) (v:=.v false [.im 0 _]) (bW hx27) (.inl j) j fD j (ppC j (ppC j (ppC j pp0))) j j pb0 j j j)<|xq (dP j j (iR.2 hc3) j)<|xq (aj j j)<|xn
    ·cases hm4
     exact au j j (byF iR hc3) j<|au j j (byF iR hc3) j<|au j j (byF iR hc3) j<|xq (dS j j (byF iR hc3) j)<|xq (aj j j)<|xn
   ·cases hm4
    exact au j j (byF iR hc2) j<|au j j (byF iR hc2) j<|au j j (byF iR hc2) j<|au j j (byF iR hc2) j<|au j j (byF iR hc2) j<|xq (dS j j (byF iR hc2) j)<|xq (oMv j j)<|au j j j j<|au j j j j<|au j j j j<|xq (dS j j j j)<|xq (aj j j)<|xn
  ·cases hm4
   exact au j j (byF iR hc1) j<|au j j (byF iR hc1) j<|au j j (byF iR hc1) j<|xq (dS j j (byF iR hc1) j)<|xq (oMv j j)<|au j j j j<|au j j j j<|au j j j j<|au j j j j<|au j j j j<|xq (dS j j j j)<|xq (oMv j j)<|au j j j j<|au j j j j<|au j j j j<|xq (dS j j j j)<|xq (aj j j)<|xn
 ·refine us<|Go.ret (Unw.ret ?_)
  cases h
  exact fr aaD j
theorem zJ {v_0:ak} {r:Bool} (h:gI v_0=some r):FX 165 [.im 2 true (nK v_0)] (B0 [(false,[.im 0 (V r)])]):=by
 unfold gI at h
 refine gn 6 Try.func165 rfl ?_
 refine gs<|g0 j j (q (oBx j rO j (tkI (tkI (tkI tk0))))<|q (aj j j)<|nl)<|us<|gs<|?_
 obtain ⟨x4,hx4,h⟩:=bs h
 refine g0 j j (q (oLd (cs:=[.im 0 _,.im 0 _,.im 0 _]) j rO j j)<|q (oCa (xs:=[.v true [.im 0 _,.im 0 _,.im 0 _]]) (vs:=[(false,[.im 0 _])]) (v:=.v false [.im 0 _]) (DJ hx4) (.inl j) j UZ j (ppC j pp0) j j pb0 j j j)<|q (oUn j j j)<|q (aj j j)<|nl)<|us<|Go.ret (Unw.ret ?_)
 cases h
 exact fr aaL j
theorem lV {s_0:(List ak)} {r:Int} (h:dM s_0 (fun b0=>gI b0)=some r):FX 197 [.im 2 false [W 3 az s_0],.im 2 false [.clo 165 []]] (B0 [(false,[.im 0 (I r)])]):=by
 unfold dM at h
 refine gn 19 Try.func197 rfl ?_
 refine gs<|g0 j j (q (aj j j)<|nl)<|us<|gs<|gs<|g0 j j (q (oMv j j)<|q (mF j j F7 j)<|q (oMv j j)<|nl)<|us<|Go.block<|?_
 obtain ⟨o,hl,h⟩:=bs h
 refine gl Y2 j _ (fun (dX:Int)=>mk [(0,D 2 (W 3 az s_0)),(1,D 2 (.clo 165 [])),(7,iv (s_0.length:Int)),(8,iv dX)] []) (fun (o:(Unit ⊕ Int)) (p:Ex×St)=>match o with | (.inl _)=>p.1= .exit 0∧p.2.norm ([],[])=mk [] [] | (.inr r2)=>p.1= .ret∧fin Try.prog cfg 197 Try.f197 [.im 2 false [W 3 az s_0],.im 2 false [.clo 165 []]] p.2=some (B0 [(false,[.im 0 (I r2)])])) hl (by kernel_rfl) ?_ ?_ ?_
 ·intro o p hp e
  rcases o with u | r2<;>exact nomatch (hp.1.symm.trans e)
 ·rintro dX o h
  unfold bP at h
  refine gs<|g0 j j (q (oBi j j j j)<|nl)<|us<|gs<|gc h j aC (fun hc5 h=>?_) fun hc5 h=>?_
  ·refine Go.skip<|us<|gs<|Go.block<|gs<|g0 j j (q (oMv j j)<|q (aj j j)<|nl)<|us<|gs<|?_
   obtain ⟨x14,Dx,h⟩:=bs h
   obtain ⟨x16,hx16,h⟩:=bs h
   refine g0 j j (q (oMv j j)<|q (oMv j j)<|q (oMv j j)<|q (lF j Dx Fe j j)<|q (oLd (cs:=[.im 2 _,.im 2 _,.im 2 _]) j rO j j)<|q (oCa (xs:=[.v true [.im 2 _,.im 2 _,.im 2 _]]) (vs:=[(false,[.im 0 _])]) (v:=.v false [.im 0 _]) (zJ hx16) (.inr ⟨_,_,j,j⟩) j U3 j (ppC j pp0) j j pb0 j j j)<|nl)<|us<|gc h j iR (fun hc6 h=>?_) fun hc6 h=>?_
   ·refine gs<|g0 j j (q (oMv j j)<|q (aj j j)<|nl)<|us<|Go.ret (Unw.ret ?_)
    cases h
    exact ⟨j,(fo Yk j)⟩
   ·refine Go.skip<|Unw.blk<|us<|g0 j j (q (oBi j j j j)<|q (oMv j j)<|nl)<|Unw.nil<|?_
    cases h
    exact ⟨j,(by kernel_rfl)⟩
  ·refine Go.exit<|ux<|Unw.nil<|?_
   cases h
   exact ⟨j,(by kernel_rfl)⟩
 ·rintro ⟨e,st⟩ hp
  rcases o with u | r2
  ·dsimp only at h
   obtain ⟨he,hst⟩:=hp
   obtain rfl:e= .exit 0:=he
   refine Unw.ng<|us<|gs<|g2 Y2 j j hst (q (aj j j)<|nl)<|us<|Go.ret (Unw.ret ?_)
   cases h
   exact fr Yk j
  ·dsimp only at h
   obtain ⟨he,hfin⟩:=hp
   obtain rfl:e= .ret:=he
   cases h
   exact Unw.ret (lg hfin)
theorem lu {s_0:(List ak)} {r:Bool} (h:dm s_0 (fun b0=>gI b0)=some r):FX 164 [.im 2 false [W 3 az s_0],.im 2 false [.clo 165 []]] (B0 [(false,[.im 0 (V r)])]):=by
 unfold dm at h
 refine gn 9 Try.func164 rfl ?_
 refine gs<|g0 j j (q (aj j j)<|nl)<|us<|gs<|?_
 obtain ⟨x7,hx7,h⟩:=bs h
 refine g0 j j (q (oMv j j)<|q (oMv j j)<|q (oCa (xs:=[.v false [.im 2 _],.v false [.im 2 _]]) (vs:=[(false,[.im 0 _])]) (v:=.v false [.im 0 _]) (lV hx7) (.inl j) j LJ j (ppC j (ppC j pp0)) j j pb0 j j j)<|q (oBi j j j j)<|q (aj j j)<|nl)<|us<|Go.ret (Unw.ret ?_)
 cases h
 exact fr aaK j
theorem Cc {fO:(List ak)} {r:Bool} (h:lM fO=some r):FX 118 [.im 2 false [W 3 az fO]] (B0 [(false,[.im 0 (V r)])]):=by
 unfold lM at h
 refine gn 6 Try.func118 rfl ?_
 refine gs<|g0 j j (q (aj j j)<|nl)<|us<|gs<|?_
 obtain ⟨x4,hx4,h⟩:=bs h
 refine g0 j j (q (oMv j j)<|q (oCa (xs:=[.v false [.im 2 _],.fn 165 []]) (vs:=[(false,[.im 0 _])]) (v:=.v false [.im 0 _]) (lu hx4) (.inl j) j LH j (ppC j (ppC j pp0)) j j pb0 j j j)<|q (oUn j j j)<|q (aj j j)<|nl)<|us<|Go.ret (Unw.ret ?_)
 cases h
 exact fr aaB j
theorem lX {d_0:aG} {aI:(List ak)} {aP:Int} {jA:Int} {r:Int} (h:fH d_0 aI aP jA=some r):FX 64 [.im 2 true (bz d_0),.im 2 false [W 3 az aI],.im 2 false [I aP],.im 2 false [I jA]] (B0 [(false,[.im 0 (I r)])]):=by
 unfold fH at h
 refine gn 37 Try.func64 rfl ?_
 refine gs<|g0 j j (q (oBx j iH j (tkI (tkI (tkI (tkI tk0)))))<|q (aj j j)<|nl)<|us<|gs<|Go.block<|gs<|?_
 obtain ⟨x11,Jk,h⟩:=bs h
 obtain ⟨OQ,hm8,h⟩:=bs h
 refine gX c64 j j j (mk [(1,D 2 (W 3 az aI)),(2,iv aP),(3,iv jA),(9,bv OQ)] []) ?_ ?_
 ·refine xq (oLd (cs:=[.im 0 _,.im 0 _,.im 2 _,.im 2 _]) j iH j j)<|xq (oCa (xs:=[.v true [.im 0 _,.im 0 _,.im 2 _,.im 2 _]]) (vs:=[(false,[.im 0 _])]) (v:=.v false [.im 0 _]) (BZ Jk) (.inl j) j Xq j (ppC j pp0) j j pb0 j j j)<|xq (oUn j j j)<|xq (oMv j j)<|?_
  refine ic hm8 (fun hc1 hm8=>?_) fun hc1 hm8=>?_
  ·obtain ⟨x15,Iz,hm8⟩:=bs hm8
   cases hm8
   exact xqT j j (nF (iR.2 hc1)) (oMv j j)<|xqT j j (nF (iR.2 hc1)) (oCa (xs:=[.v false [.im 2 _]]) (vs:=[(false,[.im 0 _])]) (v:=.v false [.im 0 _]) (Cc Iz) (.inl j) j UX j (ppC j pp0) j j pb0 j j j)<|xqT j j (nF (iR.2 hc1)) (oUn j j j)<|xq (dS j j (nF (iR.2 hc1)) j)<|xq (aj j j)<|xn
  ·cases hm8
   exact au j j (nT (byF iR hc1)) j<|au j j (nT (byF iR hc1)) j<|au j j (nT (byF iR hc1)) j<|xq (dP j j (nT (byF iR hc1)) j)<|xq (aj j j)<|xn
 ·refine us<|gc h j iR (fun hc2 h=>?_) fun hc2 h=>?_
  ·refine gs<|g0 j j (q (aj j j)<|nl)<|us<|Go.ret (Unw.ret ?_)
   cases h
   exact fr Y6 j
  ·refine gs<|?_
   obtain ⟨Lj,hm7,h⟩:=bs h
   refine gX c64 j j j (mk [(18,bv Lj)] []) ?_ ?_
   ·refine xq (oMv j j)<|xq (mF j j F7 j)<|xq (oBi j j j j)<|xq (oMv j j)<|?_
    refine ic hm7 (fun hc3 hm7=>?_) fun hc3 hm7=>?_
    ·cases hm7
     exact au j j (aC.2 hc3) j<|au j j (aC.2 hc3) j<|au j j (aC.2 hc3) j<|xq (dP j j (aC.2 hc3) j)<|xq (oMv j j)<|au j j j j<|au j j j j<|au j j j j<|xq (dP j j j j)<|xq (oMv j j)<|au j j j j<|au j j j j<|au j j j j<|xq (dP j j j j)<|xq (aj j j)<|xn
    ·refine xqT j j (byF aC hc3) (oMv j j)<|xqT j j (byF aC hc3) (mF j j F7 j)<|xqT j j (byF aC hc3) (oBi j j j j)<|xq (dS j j (byF aC hc3) j)<|xq (oMv j j)<|?_
     refine ic hm7 (fun hc4 hm7=>?_) fun hc4 hm7=>?_
     ·cases hm7
      exact au j j (aC.2 hc4) j<|au j j (aC.2 hc4) j<|au j j (aC.2 hc4) j<|xq (dP j j (aC.2 hc4) j)<|xq (oMv j j)<|au j j j j<|au j j j j<|au j j j j<|xq (dP j j j j)<|xq (aj j j)<|xn
     ·obtain ⟨x29,hx29,hm7⟩:=bs hm7
      refine xqT j j (byF aC hc4) (oMv j j)<|xqT j j (byF aC hc4) (oCa (xs:=[.v false [.im 0 _],.v false [.im 0 _],.v false [.im 0 _]]) (vs:=[(false,[.im 0 _])]) (v:=.v false [.im 0 _]) (bW hx29) (.inl j) j fD j (ppC j (ppC j (ppC j pp0))) j j pb0 j j j)<|xqT j j (byF aC hc4) (oUn j j j)<|xq (dS j j (byF aC hc4) j)<|xq (oMv j j)<|?_
      refine ic hm7 (fun hc5 hm7=>?_) fun hc5 hm7=>?_
      ·obtain ⟨x34,hx34,hm7⟩:=bs hm7
       cases hm7
       exact xqT j j (nF (iR.2 hc5)) (oMv j j)<|xqT j j (nF (iR.2 hc5)) (oCa (xs:=[.v false [.im 0 _],.v false [.im 0 _],.v false [.im 0 _]]) (vs:=[(false,[.im 0 _])]) (v:=.v false [.im 0 _]) (bW hx34) (.inl j) j fD j (ppC j (ppC j (ppC j pp0))) j j pb0 j j j)<|xqT j j (nF (iR.2 hc5)) (oUn j j j)<|xq (dS j j (nF (iR.2 hc5)) j)<|xq (aj j j)<|xn
      ·cases hm7
       exact au j j (nT (byF iR hc5)) j<|au j j (nT (byF iR hc5)) j<|au j j (nT (byF iR hc5)) j<|xq (dP j j (nT (byF iR hc5)) j)<|xq (aj j j)<|xn
   ·refine us<|gc h j iR (fun hc6 h=>?_) fun hc6 h=>?_
    ·refine gs<|g0 j j (q (aj j j)<|nl)<|us<|Go.ret (Unw.ret ?_)
     cases h
     exact fr Y6 j
    ·refine Go.skip<|Unw.blk<|us<|gs<|g0 j j (q (aj j j)<|nl)<|us<|Go.ret (Unw.ret ?_)
     cases h
     exact fr Y6 j
theorem Fq {uM:(List Int)} {r:(List bf)} (h:oZ uM=some r):FX 99 [.im 2 false [W 1 eI uM]] (B0 [(false,[.ow 0 2 (List.map bM r)])]):=by
 unfold oZ at h
 refine gn 35 Try.func99 rfl ?_
 refine gs<|g0 j j (q (uZ j j aaq)<|nl)<|us<|gs<|g0 j j (q (oBS (es:=List.map bM ([]:List bf)) j NL j pt0 (cu j fun _=>j))<|q (lD j j j j j)<|nl)<|us<|gs<|gs<|g0 j j (q (oMv j j)<|q (mF j j xI j)<|q (oMv j j)<|nl)<|us<|Go.block<|?_
 obtain ⟨o,hl,h⟩:=bs h
 refine gl c99 j _ (fun (s:(Int×(List bf)))=>match s with | (zA,mV)=>mk [(0,D 2 (W 1 eI uM)),(3,H 3 0),(8,D 2 (W 1 eI uM)),(9,iv (uM.length:Int)),(10,iv zA)] [(3,Oc [Z (W 2 bM mV)])]) (fun (iw:(List bf)) (p:Ex×St)=>p.1= .exit 0∧p.2.norm ([3],[3])=mk [(3,H 3 0)] [(3,Oc [Z (W 2 bM iw)])]) hl (by kernel_rfl) ?_ ?_ ?_
 ·intro o p hp e
  exact nomatch (hp.1.symm.trans e)
 ·rintro ⟨zA,mV⟩ o h
  unfold lN at h
  dsimp only at h
  refine gs<|g0 j j (q (oBi j j j j)<|nl)<|us<|gs<|gc h j aC (fun hc3 h=>?_) fun hc3 h=>?_
  ·refine Go.skip<|us<|gs<|Go.block<|gs<|?_
   obtain ⟨x13,Fg,h⟩:=bs h
   refine g0 j j (q (oMv j j)<|q (lF j Fg iq j j)<|q (oLd (cs:=[.im 2 _]) j tF2 j j)<|q (aj j j)<|q (aj j j)<|nl)<|us<|gs<|?_
   obtain ⟨x20,IK,h⟩:=bs h
   obtain ⟨x21,NQ,h⟩:=bs h
   refine g0 j j (q (oMv j j)<|q (oMv j j)<|q (oBi j j j j)<|q (oMv j j)<|q (mF j j xI j)<|q (Ny j IK j j)<|q (lF j NQ iq j j)<|q (oLd (cs:=[.im 2 _]) j tF2 j j)<|q (aj j j)<|nl)<|us<|?_
   obtain ⟨x32,hx32,h⟩:=bs h
   refine g0 j j (q (oMv j j)<|q (oMv j j)<|q (oMv j j)<|q (Wq j j)<|q (oMv j j)<|q (oMv j j)<|q (Uy j j)<|q (oBu (cs:=[.im 0 _,.im 0 _]) j aap j)<|q (oBS (es:=List.map bM ([(⟨(min2 x13 x21),(max2 x13 x21)⟩:bf)]:List bf)) j NL j (ptC j (fxI (fxI fx0)) j pt0) (cu j fun _=>j))<|q (vS (en:=bM) (M:=([(⟨(min2 x13 x21),(max2 x13 x21)⟩:bf)]:List bf)) j hx32 j NL j j U9 (.inl ⟨_,j⟩) j j j j (kC j j) (cu j fun _=>j))<|q (lD j j j j j)<|nl)<|Unw.blk<|us<|g0 j j (q (oBi j j j j)<|q (oMv j j)<|nl)<|Unw.nil<|?_
   cases h
   exact ⟨j,(by kernel_rfl)⟩
  ·refine Go.exit<|ux<|Unw.nil<|?_
   cases h
   exact ⟨j,(by kernel_rfl)⟩
 ·rintro ⟨e,st⟩ hp
  obtain ⟨iw,rfl⟩:∃y,y=o:=⟨o,rfl⟩
  obtain ⟨he,hst⟩:=hp
  obtain rfl:e= .exit 0:=he
  refine Unw.ng<|us<|gs<|g2 c99 j j hst (q (oMv j j)<|q (lD j j j j j)<|nl)<|us<|Go.ret (Unw.ret ?_)
  cases h
  exact fr acu j
theorem sW {s_0:(List bf)} {v_1:bf} {r:Int} (h:iE s_0 v_1=some r):FX 156 [.im 2 false [W 2 bM s_0],.im 2 true (sU v_1)] (B0 [(false,[.im 0 (I r)])]):=by
 unfold iE at h
 refine gn 19 Try.func156 rfl ?_
 refine gs<|g0 j j (q (oBx j FW j (tkI (tkI tk0)))<|q (aj j j)<|nl)<|us<|gs<|gs<|g0 j j (q (oMv j j)<|q (mF j j U9 j)<|q (oMv j j)<|nl)<|us<|Go.block<|?_
 obtain ⟨o,hl,h⟩:=bs h
 refine gl c156 j _ (fun (dX:Int)=>mk [(0,D 2 (W 2 bM s_0)),(3,M 3),(7,iv (s_0.length:Int)),(8,iv dX)] [(3,Oa (G 0 (sU v_1)))]) (fun (o:(Unit ⊕ Int)) (p:Ex×St)=>match o with | (.inl _)=>p.1= .exit 0∧p.2.norm ([],[])=mk [] [] | (.inr r2)=>p.1= .ret∧fin Try.prog cfg 156 Try.f156 [.im 2 false [W 2 bM s_0],.im 2 true (sU v_1)] p.2=some (B0 [(false,[.im 0 (I r2)])])) hl (by kernel_rfl) ?_ ?_ ?_
 ·intro o p hp e
  rcases o with u | r2<;>exact nomatch (hp.1.symm.trans e)
 ·rintro dX o h
  unfold eu at h
  refine gs<|g0 j j (q (oBi j j j j)<|nl)<|us<|gs<|gc h j aC (fun hc5 h=>?_) fun hc5 h=>?_
  ·refine Go.skip<|us<|gs<|Go.block<|gs<|g0 j j (q (oMv j j)<|q (aj j j)<|nl)<|us<|gs<|?_
   obtain ⟨x14,Dx,h⟩:=bs h
   refine gd c156 j j j j (mk [(0,D 2 (W 2 bM s_0)),(3,M 3),(5,iv dX),(7,iv (s_0.length:Int)),(8,iv dX),(16,bv ((v_1.e0==x14.e0)&&(v_1.e1==x14.e1)))] [(3,Oa (G 0 (sU v_1)))]) (t j j (oLd (cs:=[.im 0 _,.im 0 _]) j FW j j)<|t j j (oMv j j)<|t j j (oMv j j)<|t j j (lF j Dx NL j j)<|t j j (oLd (cs:=[.im 2 _,.im 2 _]) j FW j j)<|t j j (oBa j (Y5 v_1.e0 v_1.e1 x14.e0 x14.e1) j j j j)<|sD (by kernel_rfl))<|us<|gc h j (FZ iEq iEq) (fun hc6 h=>?_) fun hc6 h=>?_
   ·refine gs<|g0 j j (q (oMv j j)<|q (aj j j)<|nl)<|us<|Go.ret (Unw.ret ?_)
    cases h
    exact ⟨j,(fo Yh j)⟩
   ·refine Go.skip<|Unw.blk<|us<|g0 j j (q (oBi j j j j)<|q (oMv j j)<|nl)<|Unw.nil<|?_
    cases h
    exact ⟨j,(by kernel_rfl)⟩
  ·refine Go.exit<|ux<|Unw.nil<|?_
   cases h
   exact ⟨j,(by kernel_rfl)⟩
 ·rintro ⟨e,st⟩ hp
  rcases o with u | r2
  ·dsimp only at h
   obtain ⟨he,hst⟩:=hp
   obtain rfl:e= .exit 0:=he
   refine Unw.ng<|us<|gs<|g2 c156 j j hst (q (aj j j)<|nl)<|us<|Go.ret (Unw.ret ?_)
   cases h
   exact fr Yh j
  ·dsimp only at h
   obtain ⟨he,hfin⟩:=hp
   obtain rfl:e= .ret:=he
   cases h
   exact Unw.ret (lg hfin)
theorem qR {s_0:(List bf)} {v_1:bf} {r:Bool} (h:eF s_0 v_1=some r):FX 102 [.im 2 false [W 2 bM s_0],.im 2 true (sU v_1)] (B0 [(false,[.im 0 (V r)])]):=by
 unfold eF at h
 refine gn 9 Try.func102 rfl ?_
 refine gs<|g0 j j (q (oBx j FW j (tkI (tkI tk0)))<|q (aj j j)<|nl)<|us<|gs<|?_
 obtain ⟨x7,hx7,h⟩:=bs h
 refine g0 j j (q (oMv j j)<|q (oLd (cs:=[.im 0 _,.im 0 _]) j FW j j)<|q (oCa (xs:=[.v false [.im 2 _],.v true [.im 0 _,.im 0 _]]) (vs:=[(false,[.im 0 _])]) (v:=.v false [.im 0 _]) (sW hx7) (.inl j) j Ji j (ppC j (ppC j pp0)) j j pb0 j j j)<|q (oBi j j j j)<|q (aj j j)<|nl)<|us<|Go.ret (Unw.ret ?_)
 cases h
 exact fr aaw j
theorem Bg {e_0:bf} {Ll:(List (List bf))} {Lm:Int} {r:Bool} (h:iI e_0 Ll Lm=some r):FX 101 [.im 2 true (sU e_0),.im 2 false [.cp [W 1 (eL 2 bM) Ll] 0],.im 2 false [.cp [I Lm] 0]] (B0 [(false,[.im 0 (V r)])]):=by
 unfold iI at h
 refine gn 11 Try.func101 rfl ?_
 refine gs<|g0 j j (q (oBx j FW j (tkI (tkI tk0)))<|q (aj j j)<|nl)<|us<|gs<|?_
 obtain ⟨x7,hx7,h⟩:=bs h
 obtain ⟨x10,IE,h⟩:=bs h
 refine gd aag j j j j (mk [(4,bv x10)] []) (t j j (oLd (cs:=[.im 2 _]) j Es j j)<|t j j (oLd (cs:=[.im 2 _]) j tF3 j j)<|t j j (lF j hx7 NK j j)<|t j j (oLd (cs:=[.im 2 _]) j Yl j j)<|t j j (oLd (cs:=[.im 0 _,.im 0 _]) j FW j j)<|sS (dN aah j (oCa (xs:=[.v false [.im 2 _],.v true [.im 0 _,.im 0 _]]) (vs:=[(false,[.im 0 _])]) (v:=.v false [.im 0 _]) (qR IE) (.inl j) j Jg j (ppC j (ppC j pp0)) j j pb0 j j j)) trivial (sS (dN aah j (aj j j)) trivial (sD (by kernel_rfl))))<|us<|Go.ret (Unw.ret ?_)
 cases h
 exact fr aav j
theorem o8 {s_0:(List bf)} {zK:(List (List bf))} {zL:Int} {r:Int} (h:gp s_0 (fun b0=>iI b0 zK zL)=some r):FX 155 [.im 2 false [W 2 bM s_0],.im 2 false [.clo 101 [.cp [W 1 (eL 2 bM) zK] 0,.cp [I zL] 0]]] (B0 [(false,[.im 0 (I r)])]):=by
 unfold gp at h
 refine gn 19 Try.func155 rfl ?_
 refine gs<|g0 j j (q (aj j j)<|nl)<|us<|gs<|gs<|g0 j j (q (oMv j j)<|q (mF j j U9 j)<|q (oMv j j)<|nl)<|us<|Go.block<|?_
 obtain ⟨o,hl,h⟩:=bs h
 refine gl Y1 j _ (fun (dX:Int)=>mk [(0,D 2 (W 2 bM s_0)),(1,D 2 (.clo 101 [.cp [W 1 (eL 2 bM) zK] 0,.cp [I zL] 0])),(7,iv (s_0.length:Int)),(8,iv dX)] []) (fun (o:(Unit ⊕ Int)) (p:Ex×St)=>match o with | (.inl _)=>p.1= .exit 0∧p.2.norm ([],[])=mk [] [] | (.inr r2)=>p.1= .ret∧fin Try.prog cfg 155 Try.f155 [.im 2 false [W 2 bM s_0],.im 2 false [.clo 101 [.cp [W 1 (eL 2 bM) zK] 0,.cp [I zL] 0]]] p.2=some (B0 [(false,[.im 0 (I r2)])])) hl (by kernel_rfl) ?_ ?_ ?_
 ·intro o p hp e
  rcases o with u | r2<;>exact nomatch (hp.1.symm.trans e)
 ·rintro dX o h
  unfold dD at h
  refine gs<|g0 j j (q (oBi j j j j)<|nl)<|us<|gs<|gc h j aC (fun hc5 h=>?_) fun hc5 h=>?_
  ·refine Go.skip<|us<|gs<|Go.block<|gs<|g0 j j (q (oMv j j)<|q (aj j j)<|nl)<|us<|gs<|?_
   obtain ⟨x14,Dx,h⟩:=bs h
   obtain ⟨x16,hx16,h⟩:=bs h
   refine g0 j j (q (oMv j j)<|q (oMv j j)<|q (oMv j j)<|q (lF j Dx NL j j)<|q (oLd (cs:=[.im 2 _,.im 2 _]) j FW j j)<|q (oCa (xs:=[.v true [.im 2 _,.im 2 _],.v false [.im 2 _],.v false [.im 2 _]]) (vs:=[(false,[.im 0 _])]) (v:=.v false [.im 0 _]) (Bg hx16) (.inr ⟨_,_,j,j⟩) j Jf j (ppC j (ppC j (ppC j pp0))) j j pb0 j j j)<|nl)<|us<|gc h j iR (fun hc6 h=>?_) fun hc6 h=>?_
   ·refine gs<|g0 j j (q (oMv j j)<|q (aj j j)<|nl)<|us<|Go.ret (Unw.ret ?_)
    cases h
    exact ⟨j,(fo Yg j)⟩
   ·refine Go.skip<|Unw.blk<|us<|g0 j j (q (oBi j j j j)<|q (oMv j j)<|nl)<|Unw.nil<|?_
    cases h
    exact ⟨j,(by kernel_rfl)⟩
  ·refine Go.exit<|ux<|Unw.nil<|?_
   cases h
   exact ⟨j,(by kernel_rfl)⟩
 ·rintro ⟨e,st⟩ hp
  rcases o with u | r2
  ·dsimp only at h
   obtain ⟨he,hst⟩:=hp
   obtain rfl:e= .exit 0:=he
   refine Unw.ng<|us<|gs<|g2 Y1 j j hst (q (aj j j)<|nl)<|us<|Go.ret (Unw.ret ?_)
   cases h
   exact fr Yg j
  ·dsimp only at h
   obtain ⟨he,hfin⟩:=hp
   obtain rfl:e= .ret:=he
   cases h
   exact Unw.ret (lg hfin)
theorem nR {s_0:(List bf)} {zK:(List (List bf))} {zL:Int} {r:Bool} (h:dG s_0 (fun b0=>iI b0 zK zL)=some r):FX 100 [.im 2 false [W 2 bM s_0],.im 2 false [.clo 101 [.cp [W 1 (eL 2 bM) zK] 0,.cp [I zL] 0]]] (B0 [(false,[.im 0 (V r)])]):=by
 unfold dG at h
 refine gn 9 Try.func100 rfl ?_
 refine gs<|g0 j j (q (aj j j)<|nl)<|us<|gs<|?_
 obtain ⟨x7,hx7,h⟩:=bs h
 refine g0 j j (q (oMv j j)<|q (oMv j j)<|q (oCa (xs:=[.v false [.im 2 _],.v false [.im 2 _]]) (vs:=[(false,[.im 0 _])]) (v:=.v false [.im 0 _]) (o8 hx7) (.inl j) j Jh j (ppC j (ppC j pp0)) j j pb0 j j j)<|q (oBi j j j j)<|q (aj j j)<|nl)<|us<|Go.ret (Unw.ret ?_)
 cases h
 exact fr aau j
theorem oI {d_0:aG} {r:(List (List Int))} (h:jq d_0=some r):FX 49 [.im 2 true (bz d_0)] (B0 [(false,[.im 0 (W 1 (eL 1 eI) r)])]):=by
 unfold jq at h
 refine gn 61 Try.func49 rfl ?_
 refine gs<|g0 j j (sqn z49 j (oBx j iH j (tkI (tkI (tkI (tkI tk0)))))<|sqf z49 j (uZ j j aat) (abO j j j)<|nl)<|us<|gs<|g0 j j (sqn z49 j (oBS (es:=List.map (eL 2 bM) ([]:List (List bf))) j NK j pt0 (qZ j))<|sqn z49 j (oAl j Es (tkN tk0))<|sq0 (oSt Es j j j (tkO j j tk0) j j j)<|nl)<|us<|gs<|gs<|g1 j j (mk [(1,M 1),(3,M 3)] [(1,Oa (G 2 (bz d_0))),(3,Ob [Z (W 1 (eL 2 bM) ([]:List (List bf)))])]) (sqn z49 j (oFA (r':=.mp 1 0 3) j kF j j)<|sqn z49 j (oLd (cs:=[.im 2 _]) j uO j j)<|sqn z49 j (mF j j Ff j)<|sqn z49 j (oMv j j)<|nl)<|us<|Go.block<|?_
 obtain ⟨o,hl,h⟩:=bs h
 refine gl c49 j _ (fun (s:(Int×(List (List bf))))=>match s with | (xQ,qQ)=>mk [(3,M 3),(11,D 2 (W 2 ah d_0.aA)),(12,iv (d_0.aA.length:Int)),(13,iv xQ)] [(3,Ob [Z (W 1 (eL 2 bM) qQ)])]) (fun (aW:(List (List bf))) (p:Ex×St)=>p.1= .exit 0∧p.2.norm ([3],[3])=mk [(3,M 3)] [(3,Ob [Z (W 1 (eL 2 bM) aW)])]) hl (by kernel_rfl) ?_ ?_ ?_
 ·intro o p hp e
  exact nomatch (hp.1.symm.trans e)
 ·rintro ⟨xQ,qQ⟩ o h
  unfold kX at h
  dsimp only at h
  refine gs<|g0 j j (sqn z49 j (oBi j j j j)<|nl)<|us<|gs<|gc h j aC (fun hc38 h=>?_) fun hc38 h=>?_
  ·refine Go.skip<|us<|gs<|Go.block<|gs<|?_
   obtain ⟨x15,Iz,h⟩:=bs h
   refine g0 j j (sqn z49 j (lF j Iz vF j j)<|sqn z49 j (oLd (cs:=[.im 2 _,.im 2 _]) j CE j j)<|sqn z49 j (oAl j CE (tkI (tkN tk0)))<|sq0 (oSt CE j j j (tkI (tkI tk0)) j j j)<|nl)<|us<|?_
   obtain ⟨x20,IK,h⟩:=bs h
   obtain ⟨x22,LQ,h⟩:=bs h
   refine gd c49 j j j (st1:=mk [(3,M 3),(5,M 5),(11,D 2 (W 2 ah d_0.aA)),(12,iv (d_0.aA.length:Int)),(13,iv xQ)] [(3,Ob [Z (W 1 (eL 2 bM) qQ)]),(5,Oa (G 2 (xm x15)))]) (by kernel_rfl) (mk [(3,M 3),(11,D 2 (W 2 ah d_0.aA)),(12,iv (d_0.aA.length:Int)),(13,iv xQ)] [(3,Ob [Z (W 1 (eL 2 bM) x22)])]) (sT j (dNn z49 j j (oFA (r':=.mp 5 0 1) j pW j j))<|sT j (dNn z49 j j (oLd (cs:=[.im 2 _]) j Ac j j))<|sK (O:=[3]) j j j (dNn z49 j j (oLd (cs:=[.own 3 0 0]) j Es j j))<|sS (dNn z49 j j (oCr (xs:=[.v false [.im 2 _]]) (vs:=[(false,[.own 20 0 0])]) (v:=.v false [.own 20 0 0]) (c:=⟨.sh,0,_⟩) (cs:=[]) (Fq IK) (.inl j) j Xw j (ppC j pp0) j j pb0 j j j)) (kY ⟨j,trivial⟩ trivial) (sS (dNn z49 j j (oBS (es:=List.map (eL 2 bM) ([x20]:List (List bf))) j NK j (ptC j (fxO j j fx0) j pt0) (qZ j))) (kY ⟨j,trivial⟩ trivial) (sS (dNn z49 j j (vS (en:=(eL 2 bM)) (M:=([x20]:List (List bf))) j LQ j NK j j QS (.inl ⟨_,j⟩) j j j j (kC j j) (qZ j))) (kN j trivial) (sS (dN0 j (oSt Es j j j (tkO j j tk0) j j j)) (kN j trivial) (sD (by kernel_rfl))))))<|Unw.blk<|us<|g0 j j (sqn z49 j (oBi j j j j)<|sqn z49 j (oMv j j)<|nl)<|Unw.nil<|?_
   cases h
   exact ⟨j,(by kernel_rfl)⟩
  ·refine Go.exit<|ux<|Unw.nil<|?_
   cases h
   exact ⟨j,(by kernel_rfl)⟩
 ·rintro ⟨e,st⟩ hp
  obtain ⟨aW,rfl⟩:∃y,y=o:=⟨o,rfl⟩
  obtain ⟨he,hst⟩:=hp
  obtain rfl:e= .exit 0:=he
  refine Unw.ng<|us<|gs<|?_
  obtain ⟨x26,Vg,h⟩:=bs h
  refine g2 c49 j j hst (sqn z49 j (oLd (cs:=[.own 3 0 0]) j Es j j)<|sqn z49 j (Dl j j QS j j j (fun e=>nomatch e))<|sqn z49 j (abL (en:=(eL 1 eI)) j Vg j OX j j (fxN fx0) j (qZ j))<|sqn z49 j (Z9 j j j j j)<|nl)<|us<|gs<|gs<|g0 j j (sqn z49 j (oLd (cs:=[.own 3 0 0]) j Es j j)<|sqn z49 j (Dl j j QS j j j (fun e=>nomatch e))<|sqn z49 j (oMv j j)<|nl)<|us<|Go.block<|?_
  obtain ⟨o,hl,h⟩:=bs h
  refine gl c49 j _ (fun (s:(Int×(List (List Int))))=>match s with | (iF,yY)=>mk [(3,M 3),(6,H 6 0),(28,iv (aW.length:Int)),(29,iv iF)] [(3,Ob [Z (W 1 (eL 2 bM) aW)]),(6,Oc [⟨.dp 0,0,0,W 1 (eL 1 eI) yY⟩])]) (fun (xR:(List (List Int))) (p:Ex×St)=>p.1= .exit 2∧p.2.norm ([6],[6])=mk [(6,H 6 0)] [(6,Oc [⟨.dp 0,0,0,W 1 (eL 1 eI) xR⟩])]) hl (by kernel_rfl) ?_ ?_ ?_
  ·intro o p hp e
   exact nomatch (hp.1.symm.trans e)
  ·rintro ⟨iF,yY⟩ o h
   unfold kW at h
   dsimp only at h
   refine gs<|g0 j j (sqn z49 j (oBi j j j j)<|nl)<|us<|gs<|gc h j aC (fun hc21 h=>?_) fun hc21 h=>?_
   ·refine Go.skip<|us<|gs<|Go.block<|gs<|g0 j j (sqn z49 j (oMv j j)<|sqn z49 j (aj j j)<|nl)<|us<|gs<|g0 j j (sqn z49 j (oLd (cs:=[.own 3 0 0]) j Es j j)<|sqn z49 j (Dl j j QS j j j (fun e=>nomatch e))<|sqn z49 j (oMv j j)<|nl)<|us<|Go.block<|?_
    obtain ⟨o,hl,h⟩:=bs h
    refine gl c49 j _ (fun (s:(Int×(List (List Int))))=>match s with | (iP,jJ)=>mk [(3,M 3),(6,H 6 0),(7,iv iF),(28,iv (aW.length:Int)),(29,iv iF),(33,iv (aW.length:Int)),(34,iv iP)] [(3,Ob [Z (W 1 (eL 2 bM) aW)]),(6,Oc [⟨.dp 0,0,0,W 1 (eL 1 eI) jJ⟩])]) (fun (vz:(List (List Int))) (p:Ex×St)=>p.1= .exit 4∧p.2.norm ([3,6,28,29],[3,6])=mk [(3,M 3),(6,H 6 0),(28,iv (aW.length:Int)),(29,iv iF)] [(3,Ob [Z (W 1 (eL 2 bM) aW)]),(6,Oc [⟨.dp 0,0,0,W 1 (eL 1 eI) vz⟩])]) hl (by kernel_rfl) ?_ ?_ ?_
    ·intro o p hp e
     exact nomatch (hp.1.symm.trans e)
    ·rintro ⟨iP,jJ⟩ o h
     unfold kH at h
     dsimp only at h
     refine gs<|g0 j j (sqn z49 j (oBi j j j j)<|nl)<|us<|gs<|gc h j aC (fun O0 h=>?_) fun O0 h=>?_
     ·refine Go.skip<|us<|gs<|Go.join (fun st=>∃wY,kG iP wY=some o∧st.norm ([3,6,7,28,29,33,34],[3,6])=mk [(3,M 3),(6,H 6 0),(7,iv iF),(28,iv (aW.length:Int)),(29,iv iF),(33,iv (aW.length:Int)),(34,iv iP)] [(3,Ob [Z (W 1 (eL 2 bM) aW)]),(6,Oc [⟨.dp 0,0,0,W 1 (eL 1 eI) wY⟩])]) ?_ ?_
      ·rintro st ⟨wY,h,hst⟩
       unfold kG at h
       refine us<|g2 c49 j j hst (sqn z49 j (oBi j j j j)<|sqn z49 j (oMv j j)<|nl)<|Unw.nil<|?_
       cases h
       exact ⟨j,(by kernel_rfl)⟩
      ·intro K34
       refine Go.block<|gs<|g0 j j (sqn z49 j (oMv j j)<|sqn z49 j (oAl j tF3 (tkI tk0))<|sq0 (oSt tF3 j j j (tkI tk0) j j j)<|nl)<|us<|gs<|?_
       obtain ⟨Ik,Bf,h⟩:=bs h
       refine gX c49 j j (st1:=mk [(3,M 3),(6,H 6 0),(7,iv iF),(8,M 8),(28,iv (aW.length:Int)),(29,iv iF),(33,iv (aW.length:Int)),(34,iv iP)] [(3,Ob [Z (W 1 (eL 2 bM) aW)]),(6,Oc [⟨.dp 0,0,0,W 1 (eL 1 eI) jJ⟩]),(8,Ob [C (I iP)])]) (by kernel_rfl) (mk [(3,M 3),(6,H 6 0),(7,iv iF),(8,M 8),(28,iv (aW.length:Int)),(29,iv iF),(33,iv (aW.length:Int)),(34,iv iP),(47,bv Ik)] [(3,Ob [Z (W 1 (eL 2 bM) aW)]),(6,Oc [⟨.dp 0,0,0,W 1 (eL 1 eI) jJ⟩]),(8,Ob [C (I iP)])]) ?_ ?_
       ·refine RU z49 j (oMv j j)<|RU z49 j (oLd (cs:=[.im 0 _]) j tF3 j j)<|RU z49 j (oBi j j j j)<|RU z49 j (oMv j j)<|?_
        refine ic Bf (fun uQ Bf=>?_) fun uQ Bf=>?_
        ·obtain ⟨x43,II,Bf⟩:=bs Bf
         obtain ⟨x46,Vk,Bf⟩:=bs Bf
         cases Bf
         exact JU z49 j j j (iNe.2 uQ) (oLd (cs:=[.own 3 0 0]) j Es j j)<|JU z49 j j j (iNe.2 uQ) (oMv j j)<|JU z49 j j j (iNe.2 uQ) (xH j II NK j j j j)<|JU z49 j j j (iNe.2 uQ) (Dk (cs:=[.im 0 _]) j Yl j j j j (kz II) j j)<|JU z49 j j j (iNe.2 uQ) (oMF (rs:=[.mp 3 0 0,.mp 8 0 0]) j j)<|JU z49 j j j (iNe.2 uQ) (oCa (xs:=[.v false [.im 0 _],.fn 101 [.mp 3 0 0,.mp 8 0 0]]) (vs:=[(false,[.im 0 _])]) (v:=.v false [.im 0 _]) (nR Vk) (.inl j) j Je j (ppC j (ppC j pp0)) j j pb0 j j j)<|RU z49 j (dP j j (iNe.2 uQ) j)<|xn
        ·cases Bf
         exact au j j (byF iNe uQ) j<|au j j (byF iNe uQ) j<|au j j (byF iNe uQ) j<|au j j (byF iNe uQ) j<|au j j (byF iNe uQ) j<|au j j (byF iNe uQ) j<|RU z49 j (dS j j (byF iNe uQ) j)<|xn
       ·refine us<|gc h j iR (fun Zj h=>?_) fun Zj h=>?_
        ·obtain ⟨x52,Vo,h⟩:=bs h
         obtain ⟨x56,acD,h⟩:=bs h
         obtain ⟨x57,IB,h⟩:=bs h
         exact gd c49 j j j j (mk [(3,M 3),(6,H 6 0),(7,iv iF),(28,iv (aW.length:Int)),(29,iv iF),(33,iv (aW.length:Int)),(34,iv iP)] [(3,Ob [Z (W 1 (eL 2 bM) aW)]),(6,Oc [⟨.dp 0,0,0,W 1 (eL 1 eI) (jJ.set iF.toNat x56)⟩])]) (sT j (dNn z49 j j (oMv j j))<|sT j (dNn z49 j j (oMv j j))<|sT j (dNn z49 j j (oMv j j))<|sT j (dNn z49 j j (oMv j j))<|sT j (dNn z49 j j (oLd (cs:=[.im 0 _]) j tF3 j j))<|sK (O:=[6]) j j j (dNn z49 j j (aab j Vo OX j j j j (fun e=>nomatch e)))<|sK (O:=[6]) j j j (dNn z49 j j (abR (cs:=[.inr 6 0 0 _ 0 0]) j Ac j j j (kz Vo) j j))<|sS (dNn z49 j j (oBS (es:=List.map eI ([iP]:List Int)) j iq j (ptC j (fxI fx0) j pt0) (cu j fun _=>j))) (kY ⟨j,trivial⟩ (kY ⟨j,trivial⟩ trivial)) (sS (dNn z49 j j (abS (en:=eI) (M:=([iP]:List Int)) j acD j iq j j xI (.inl ⟨_,j⟩) j j j (kz Vo) j j (kC j j) (cu j fun _=>j))) (kN j (kN j trivial)) (sT j (dNn z49 j j (aab j IB OX j j j j (fun e=>nomatch e)))<|sS (dN0 j (abQ (v':=x56) Ac j j j j (tkO j j tk0) j j (kz IB) j)) (kN j (kN j trivial)) (sD (by kernel_rfl)))))<|Unw.blk<|K34 _ ⟨(jJ.set iF.toNat x56),h,(by kernel_rfl)⟩
        ·exact Go.skip<|Unw.blk<|K34 _ ⟨jJ,h,(by kernel_rfl)⟩
     ·refine Go.exit<|ux<|Unw.nil<|?_
      cases h
      exact ⟨j,(by kernel_rfl)⟩
    ·rintro ⟨e,st⟩ hp
     obtain ⟨vz,rfl⟩:∃y,y=o:=⟨o,rfl⟩
     obtain ⟨he,hst⟩:=hp
     obtain rfl:e= .exit 4:=he
     refine Unw.ng<|Unw.blk<|us<|g2 c49 j j hst (sqn z49 j (oBi j j j j)<|sqn z49 j (oMv j j)<|nl)<|Unw.nil<|?_
     cases h
     exact ⟨j,(by kernel_rfl)⟩
   ·refine Go.exit<|ux<|Unw.nil<|?_
    cases h
    exact ⟨j,(by kernel_rfl)⟩
  ·rintro ⟨e,st⟩ hp
   obtain ⟨xR,rfl⟩:∃y,y=o:=⟨o,rfl⟩
   obtain ⟨he,hst⟩:=hp
   obtain rfl:e= .exit 2:=he
   refine Unw.ng<|us<|gs<|g2 c49 j j hst (sqn z49 j (oMv j j)<|sqf z49 j (Z9 j j j j j) (abP j j j)<|nl)<|us<|Go.ret (Unw.ret ?_)
   cases h
   exact fr aci j
theorem xA {s_0:(List Int)} {v_1:Int} {r:Int} (h:jR s_0 v_1=some r):FX 97 [.im 2 false [W 1 eI s_0],.im 2 false [I v_1]] (B0 [(false,[.im 0 (I r)])]):=by
 unfold jR at h
 refine gn 19 Try.func97 rfl ?_
 refine gs<|g0 j j (q (aj j j)<|nl)<|us<|gs<|gs<|g0 j j (q (oMv j j)<|q (mF j j xI j)<|q (oMv j j)<|nl)<|us<|Go.block<|?_
 obtain ⟨o,hl,h⟩:=bs h
 refine gl c97 j _ (fun (dX:Int)=>mk [(0,D 2 (W 1 eI s_0)),(1,iv v_1),(7,iv (s_0.length:Int)),(8,iv dX)] []) (fun (o:(Unit ⊕ Int)) (p:Ex×St)=>match o with | (.inl _)=>p.1= .exit 0∧p.2.norm ([],[])=mk [] [] | (.inr r2)=>p.1= .ret∧fin Try.prog cfg 97 Try.f97 [.im 2 false [W 1 eI s_0],.im 2 false [I v_1]] p.2=some (B0 [(false,[.im 0 (I r2)])])) hl (by kernel_rfl) ?_ ?_ ?_
 ·intro o p hp e
  rcases o with u | r2<;>exact nomatch (hp.1.symm.trans e)
 ·rintro dX o h
  unfold gq at h
  refine gs<|g0 j j (q (oBi j j j j)<|nl)<|us<|gs<|gc h j aC (fun hc5 h=>?_) fun hc5 h=>?_
  ·refine Go.skip<|us<|gs<|Go.block<|gs<|g0 j j (q (oMv j j)<|q (aj j j)<|nl)<|us<|gs<|?_
   obtain ⟨x14,Dx,h⟩:=bs h
   refine g0 j j (q (oMv j j)<|q (oMv j j)<|q (oMv j j)<|q (lF j Dx iq j j)<|q (oLd (cs:=[.im 2 _]) j tF2 j j)<|q (oBi j j j j)<|nl)<|us<|gc h j iEq (fun hc6 h=>?_) fun hc6 h=>?_
   ·refine gs<|g0 j j (q (oMv j j)<|q (aj j j)<|nl)<|us<|Go.ret (Unw.ret ?_)
    cases h
    exact ⟨j,(fo aaU j)⟩
   ·refine Go.skip<|Unw.blk<|us<|g0 j j (q (oBi j j j j)<|q (oMv j j)<|nl)<|Unw.nil<|?_
    cases h
    exact ⟨j,(by kernel_rfl)⟩
  ·refine Go.exit<|ux<|Unw.nil<|?_
   cases h
   exact ⟨j,(by kernel_rfl)⟩
 ·rintro ⟨e,st⟩ hp
  rcases o with u | r2
  ·dsimp only at h
   obtain ⟨he,hst⟩:=hp
   obtain rfl:e= .exit 0:=he
   refine Unw.ng<|us<|gs<|g2 c97 j j hst (q (aj j j)<|nl)<|us<|Go.ret (Unw.ret ?_)
   cases h
   exact fr aaU j
  ·dsimp only at h
   obtain ⟨he,hfin⟩:=hp
   obtain rfl:e= .ret:=he
   cases h
   exact Unw.ret (lg hfin)
theorem uD {s_0:(List Int)} {v_1:Int} {r:Bool} (h:dZ s_0 v_1=some r):FX 45 [.im 2 false [W 1 eI s_0],.im 2 false [I v_1]] (B0 [(false,[.im 0 (V r)])]):=by
 unfold dZ at h
 refine gn 9 Try.func45 rfl ?_
 refine gs<|g0 j j (q (aj j j)<|nl)<|us<|gs<|?_
 obtain ⟨x7,hx7,h⟩:=bs h
 refine g0 j j (q (oMv j j)<|q (oMv j j)<|q (oCa (xs:=[.v false [.im 2 _],.v false [.im 2 _]]) (vs:=[(false,[.im 0 _])]) (v:=.v false [.im 0 _]) (xA hx7) (.inl j) j Sv j (ppC j (ppC j pp0)) j j pb0 j j j)<|q (oBi j j j j)<|q (aj j j)<|nl)<|us<|Go.ret (Unw.ret ?_)
 cases h
 exact fr ach j
theorem Eu {a_0:Int} {b_1:Int} {r:(Int×Int)} (h:qA a_0 b_1=some r):FX 121 [.im 2 false [I a_0],.im 2 false [I b_1]] (B0 [(false,[.im 0 (I r.1)]),(false,[.im 0 (I r.2)])]):=by
 unfold qA at h
 refine gn 26 Try.func121 rfl ?_
 refine gs<|g0 j j (q (aj j j)<|q (aj j j)<|nl)<|us<|gs<|gs<|?_
 obtain ⟨x8,hx8,h⟩:=bs h
 obtain ⟨Lp,hm3,h⟩:=bs h
 refine gX aaj j j j (mk [(0,iv a_0),(1,iv b_1),(14,bv Lp)] []) ?_ ?_
 ·refine xq (oMv j j)<|xq (oCa (xs:=[.v false [.im 2 _],.v false [.im 0 _],.v false [.im 0 _]]) (vs:=[(false,[.im 0 _])]) (v:=.v false [.im 0 _]) (bW hx8) (.inl j) j fD j (ppC j (ppC j (ppC j pp0))) j j pb0 j j j)<|xq (oUn j j j)<|xq (oMv j j)<|?_
  refine ic hm3 (fun hc1 hm3=>?_) fun hc1 hm3=>?_
  ·obtain ⟨x12,Gg,hm3⟩:=bs hm3
   cases hm3
   exact xqT j j (nF (iR.2 hc1)) (oMv j j)<|xqT j j (nF (iR.2 hc1)) (oCa (xs:=[.v false [.im 2 _],.v false [.im 0 _],.v false [.im 0 _]]) (vs:=[(false,[.im 0 _])]) (v:=.v false [.im 0 _]) (bW Gg) (.inl j) j fD j (ppC j (ppC j (ppC j pp0))) j j pb0 j j j)<|xqT j j (nF (iR.2 hc1)) (oUn j j j)<|xq (dS j j (nF (iR.2 hc1)) j)<|xn
  ·cases hm3
   exact au j j (nT (byF iR hc1)) j<|au j j (nT (byF iR hc1)) j<|au j j (nT (byF iR hc1)) j<|xq (dP j j (nT (byF iR hc1)) j)<|xn
 ·refine us<|gc h j iR (fun hc2 h=>?_) fun hc2 h=>?_
  ·refine gs<|g0 j j (q (aj j j)<|q (aj j j)<|nl)<|us<|Go.ret (Unw.ret ?_)
   cases h
   exact fr Yb j
  ·refine Go.skip<|us<|gs<|g0 j j (q (oMv j j)<|q (oMv j j)<|q (oBi j j j j)<|q (oMv j j)<|q (oMv j j)<|q (oBi j j j j)<|q (Uy j j)<|q (aj j j)<|nl)<|us<|gs<|g0 j j (q (oMv j j)<|q (oMv j j)<|q (oBi j j j j)<|q (Wq j j)<|q (aj j j)<|q (aj j j)<|nl)<|us<|Go.ret (Unw.ret ?_)
   cases h
   exact fr Yb j
theorem zW {a_0:ak} {b_1:ak} {r:Int} (h:nZ a_0 b_1=some r):FX 67 [.im 2 true (nK a_0),.im 2 true (nK b_1)] (B0 [(false,[.im 0 (I r)])]):=by
 unfold nZ at h
 refine gn 29 Try.func67 rfl ?_
 refine gs<|g0 j j (q (oBx j rO j (tkI (tkI (tkI tk0))))<|q (oBx j rO j (tkI (tkI (tkI tk0))))<|q (aj j j)<|nl)<|us<|gs<|?_
 obtain ⟨x12,Gg,h⟩:=bs h
 refine g0 j j (q (oFA (r':=.mp 2 0 2) j Iq j j)<|q (oLd (cs:=[.im 0 _]) j tF2 j j)<|q (oFA (r':=.mp 3 0 2) j Iq j j)<|q (oLd (cs:=[.im 0 _]) j tF2 j j)<|q (oCa (xs:=[.v false [.im 0 _],.v false [.im 0 _]]) (vs:=[(false,[.im 0 _]),(false,[.im 0 _])]) (v:=.tup [(false,[.im 0 _]),(false,[.im 0 _])]) (Eu Gg) (.inl j) j Sj j (ppC j (ppC j pp0)) j j pb0 j j j)<|q (EU j j)<|q (oEx j j j)<|q (oEx j j j)<|q (aj j j)<|q (aj j j)<|nl)<|us<|gs<|?_
 obtain ⟨x27,hx27,h⟩:=bs h
 refine g0 j j (q (oFA (r':=.mp 2 0 1) j Dv j j)<|q (oLd (cs:=[.im 0 _]) j tF2 j j)<|q (oFA (r':=.mp 3 0 1) j Dv j j)<|q (oLd (cs:=[.im 0 _]) j tF2 j j)<|q (oBi j j j j)<|q (oFA (r':=.mp 3 0 1) j Dv j j)<|q (oLd (cs:=[.im 0 _]) j tF2 j j)<|q (oFA (r':=.mp 2 0 1) j Dv j j)<|q (oLd (cs:=[.im 0 _]) j tF2 j j)<|q (oBi j j j j)<|q (Uy j j)<|q (oMv j j)<|q (ZX j hx27 j j)<|q (oBi j j j j)<|q (aj j j)<|nl)<|us<|Go.ret (Unw.ret ?_)
 cases h
 exact fr acn j
theorem yj {self:(aS×(List Int)×Int×Int)→Option ((List Int)×Int×aS)} (ih:∀{s_0:aS} {bn:(List Int)} {aP:Int} {ja:Int} {r:((List Int)×Int×aS)},self (s_0,bn,aP,ja)=some r→FX 65 [.ptr true [(.gone,W 1 (eL 1 eI) s_0.near),(.imm,W 3 az s_0.gB),(.imm,I s_0.left)],.mv 1 (List.map eI bn),.im 2 false [I aP],.im 2 false [I ja]] ([(false,[.ow 0 1 (List.map eI r.1)]),(false,[.im 0 (I r.2.1)])],[.ptr true [(.gone,W 1 (eL 1 eI) r.2.2.near),(.imm,W 3 az r.2.2.gB),(.imm,I r.2.2.left)]])) {s_0:aS} {bn:(List Int)} {aP:Int} {ja:Int} {r:((List Int)×Int×aS)} (h:dW self s_0 bn aP ja=some r):FX 65 [.ptr true [(.gone,W 1 (eL 1 eI) s_0.near),(.imm,W 3 az s_0.gB),(.imm,I s_0.left)],.mv 1 (List.map eI bn),.im 2 false [I aP],.im 2 false [I ja]] ([(false,[.ow 0 1 (List.map eI r.1)]),(false,[.im 0 (I r.2.1)])],[.ptr true [(.gone,W 1 (eL 1 eI) r.2.2.near),(.imm,W 3 az r.2.2.gB),(.imm,I r.2.2.left)]]):=by
 unfold dW at h
 refine oP (A:=[(0,M 0),(1,H 1 0),(2,D 2 (I aP)),(3,D 2 (I ja))]) (B:=[(0,Od [C (W 1 (eL 1 eI) s_0.near),Ct 1 (W 3 az s_0.gB),C (I s_0.left)]),(1,Oc [Z (W 1 eI bn)]),(2,none),(3,none)]) (nt:=124) rfl rfl Try.func65 rfl rfl rfl rfl ?_
 refine gs<|g0 j j (q (uZ j j Em)<|q (aj j j)<|nl)<|us<|gs<|g0 j j (q (oMv j j)<|q (Dl j j xI j j j (fun e=>nomatch e))<|q (aj j j)<|nl)<|us<|gs<|gs<|g0 j j (q (oMv j j)<|q (oMv j j)<|q (oNl j j j)<|q (oFA (r':=.mp 0 0 0) j QI j j)<|q (oLd (cs:=[.im 0 _]) j aaW j j)<|q (mF j j aaY j)<|q (oBi j j j j)<|nl)<|us<|gc h j iEq (fun hc1 h=>?_) fun hc1 h=>?_
 ·refine gs<|g0 j j (q (oMv j j)<|q (lD j j j j j)<|q (aj j j)<|nl)<|us<|Go.ret (Unw.ret ?_)
  cases h
  exact fr XA j
 ·refine Go.skip<|us<|gs<|?_
  obtain ⟨x29,hx29,h⟩:=bs h
  refine g0 j j (q (oMv j j)<|q (oCr (xs:=[.v false [.own 1 0 0]]) (vs:=[(false,[.own 29 0 0])]) (v:=.v false [.own 29 0 0]) (c:=⟨.sh,0,_⟩) (cs:=[]) (JS (en:=eI) (L:=bn) j hx29 (fun _=>j)) (.inl j) j NH j (ppC j pp0) j j pb0 j j j)<|q (lD j j j j j)<|nl)<|us<|gs<|?_
  obtain ⟨x31,hx31,h⟩:=bs h
  refine g0 j j (q (oMv j j)<|q (oCa (xs:=[.v false [.own 11 0 0]]) (vs:=[]) (v:=.tup []) (Wy j hx31) (.inl j) j Xt j (ppC j pp0) j j (pbO j j j j pb0) j j j)<|nl)<|us<|gs<|?_
  obtain ⟨x33,Ve,h⟩:=bs h
  refine g1 j j (mk [(0,M 0),(1,H 1 0),(2,iv aP),(3,iv ja),(10,iv (bn.length:Int)),(11,H 11 0)] [(0,Od [C (W 1 (eL 1 eI) s_0.near),Ct 1 (W 3 az s_0.gB),C (I s_0.left)]),(1,Oc [Z (W 1 eI bn)]),(11,Oc [Z (W 1 eI x31)])]) (q (oMv j j)<|q (oCr (xs:=[.v false [.own 11 0 0]]) (vs:=[(false,[.own 33 0 0])]) (v:=.v false [.own 33 0 0]) (c:=⟨.sh,0,_⟩) (cs:=[]) (OI j Ve) (.inl j) j UY j (ppM (AL j j) pp0) j j pb0 j j j)<|q (lD j j j j j)<|nl)<|us<|gs<|gs<|g0 j j (q (oMv j j)<|q (oNl j j j)<|q (oFA (r':=.mp 0 0 1) j Lr j j)<|q (oLd (cs:=[.im 1 _]) j Y9 j j)<|q (mF j j F7 j)<|q (oMv j j)<|nl)<|us<|Go.block<|?_
  obtain ⟨o,hl,h⟩:=bs h
  refine gl c65 j _ (fun (s:(Int×(List (List Int))×(List ak)×Int))=>match s with | (gu,jh,gZ,ji)=>mk [(0,M 0),(1,H 1 0),(2,iv aP),(3,iv ja),(10,iv (bn.length:Int)),(11,H 11 0),(38,iv (s_0.gB.length:Int)),(39,iv gu)] [(0,Od [C (W 1 (eL 1 eI) jh),Ct 1 (W 3 az gZ),C (I ji)]),(1,Oc [Z (W 1 eI bn)]),(11,Oc [Z (W 1 eI x33)])]) (fun (o:(((List (List Int))×(List ak)×Int) ⊕ ((List Int)×Int×aS))) (p:Ex×St)=>match o with | (.inl (uy,uz,uA))=>p.1= .exit 0∧p.2.norm ([],[0])=mk [] [(0,Od [C (W 1 (eL 1 eI) uy),Ct 1 (W 3 az uz),C (I uA)])] | (.inr r2)=>p.1= .ret∧fin Try.prog cfg 65 Try.f65 [.ptr true [(.gone,W 1 (eL 1 eI) s_0.near),(.imm,W 3 az s_0.gB),(.imm,I s_0.left)],.mv 1 (List.map eI bn),.im 2 false [I aP],.im 2 false [I ja]] p.2=some ([(false,[.ow 0 1 (List.map eI r2.1)]),(false,[.im 0 (I r2.2.1)])],[.ptr true [(.gone,W 1 (eL 1 eI) r2.2.2.near),(.imm,W 3 az r2.2.2.gB),(.imm,I r2.2.2.left)]])) hl (by kernel_rfl) ?_ ?_ ?_
  ·intro o p hp e
   rcases o with ⟨uy,uz,uA⟩ | r2<;>exact nomatch (hp.1.symm.trans e)
  ·rintro ⟨gu,jh,gZ,ji⟩ o h
   unfold bV at h
   dsimp only at h
   refine gs<|g0 j j (q (oBi j j j j)<|nl)<|us<|gs<|gc h j aC (fun O0 h=>?_) fun O0 h=>?_
   ·refine Go.skip<|us<|gs<|Go.join (fun st=>∃wZ,∃xe,∃xg,dH self gu wZ xe xg=some o∧st.norm ([0,1,2,3,10,11,38,39],[0,1,11])=mk [(0,M 0),(1,H 1 0),(2,iv aP),(3,iv ja),(10,iv (bn.length:Int)),(11,H 11 0),(38,iv (s_0.gB.length:Int)),(39,iv gu)] [(0,Od [C (W 1 (eL 1 eI) wZ),Ct 1 (W 3 az xe),C (I xg)]),(1,Oc [Z (W 1 eI bn)]),(11,Oc [Z (W 1 eI x33)])]) ?_ ?_
    ·rintro st ⟨wZ,xe,xg,h,hst⟩
     unfold dH at h
     refine us<|g2 c65 j j hst (q (oBi j j j j)<|q (oMv j j)<|nl)<|Unw.nil<|?_
     cases h
     exact ⟨j,(by kernel_rfl)⟩
    ·intro K44
     refine Go.block<|gs<|g0 j j (q (oMv j j)<|q (aj j j)<|nl)<|us<|gs<|gs<|?_
     obtain ⟨Il,O3,h⟩:=bs h
     refine gX c65 j j j (mk [(0,M 0),(1,H 1 0),(2,iv aP),(3,iv ja),(10,iv (bn.length:Int)),(11,H 11 0),(12,iv gu),(38,iv (s_0.gB.length:Int)),(39,iv gu),(51,bv Il)] [(0,Od [C (W 1 (eL 1 eI) jh),Ct 1 (W 3 az gZ),C (I ji)]),(1,Oc [Z (W 1 eI bn)]),(11,Oc [Z (W 1 eI x33)])]) ?_ ?_
     ·refine xq (oMv j j)<|xq (Dl j j xI j j j (fun e=>nomatch e))<|xq (oMv j j)<|xq (oBi j j j j)<|xq (oMv j j)<|?_
      refine ic O3 (fun IQ O3=>?_) fun IQ O3=>?_
      ·obtain ⟨x49,NP,O3⟩:=bs O3
       cases O3
       exact xqT j j (aC.2 IQ) (oMv j j)<|xqT j j (aC.2 IQ) (oMv j j)<|xqT j j (aC.2 IQ) (oCa (xs:=[.v false [.own 11 0 0],.v false [.im 0 _]]) (vs:=[(false,[.im 0 _])]) (v:=.v false [.im 0 _]) (uD NP) (.inl j) j Sm j (ppC j (ppC j pp0)) j j pb0 j j j)<|xqT j j (aC.2 IQ) (oUn j j j)<|xq (dP j j (aC.2 IQ) j)<|xn
      ·cases O3
       exact au j j (byF aC IQ) j<|au j j (byF aC IQ) j<|au j j (byF aC IQ) j<|au j j (byF aC IQ) j<|xq (dS j j (byF aC IQ) j)<|xn
     ·refine us<|gc h j iR (fun acE h=>?_) fun acE h=>?_
      ·exact Go.exit<|ux<|Unw.ng<|K44 _ ⟨jh,gZ,ji,h,(by kernel_rfl)⟩
      ·refine Go.skip<|us<|gs<|g0 j j (q (aj j j)<|nl)<|us<|gs<|gs<|?_
       obtain ⟨x57,IB,h⟩:=bs h
       refine g0 j j (q (oMv j j)<|q (oNl j j j)<|q (oFA (r':=.mp 0 0 0) j QI j j)<|q (oLd (cs:=[.im 0 _]) j aaW j j)<|q (oMv j j)<|q (lF j IB OX j j)<|q (oLd (cs:=[.im 0 _]) j Ac j j)<|q (mF j j xI j)<|q (oMv j j)<|nl)<|us<|Go.block<|?_
       obtain ⟨o,hl,h⟩:=bs h
       refine gl c65 j _ (fun (s:(Bool×Int))=>match s with | (uw,xh)=>mk [(0,M 0),(1,H 1 0),(2,iv aP),(3,iv ja),(10,iv (bn.length:Int)),(11,H 11 0),(12,iv gu),(13,bv uw),(38,iv (s_0.gB.length:Int)),(39,iv gu),(58,D 0 (W 1 eI x57)),(59,iv (x57.length:Int)),(60,iv xh)] [(0,Od [C (W 1 (eL 1 eI) jh),Ct 1 (W 3 az gZ),C (I ji)]),(1,Oc [Z (W 1 eI bn)]),(11,Oc [Z (W 1 eI x33)])]) (fun (qm:Bool) (p:Ex×St)=>p.1= .exit 2∧p.2.norm ([0,1,2,3,10,11,12,13,38,39],[0,1,11])=mk [(0,M 0),(1,H 1 0),(2,iv aP),(3,iv ja),(10,iv (bn.length:Int)),(11,H 11 0),(12,iv gu),(13,bv qm),(38,iv (s_0.gB.length:Int)),(39,iv gu)] [(0,Od [C (W 1 (eL 1 eI) jh),Ct 1 (W 3 az gZ),C (I ji)]),(1,Oc [Z (W 1 eI bn)]),(11,Oc [Z (W 1 eI x33)])]) hl (by kernel_rfl) ?_ ?_ ?_
       ·intro o p hp e
        exact nomatch (hp.1.symm.trans e)
       ·rintro ⟨uw,xh⟩ o h
        unfold fU at h
        dsimp only at h
        refine gs<|g0 j j (q (oBi j j j j)<|nl)<|us<|gs<|gc h j aC (fun acF h=>?_) fun acF h=>?_
        ·refine Go.skip<|us<|gs<|Go.block<|gs<|?_
         obtain ⟨x62,acG,h⟩:=bs h
         refine g0 j j (q (lF j acG iq j j)<|q (oLd (cs:=[.im 0 _]) j tF2 j j)<|q (aj j j)<|nl)<|us<|?_
         obtain ⟨AU,Bh,h⟩:=bs h
         refine gd c65 j j j j (mk [(0,M 0),(1,H 1 0),(2,iv aP),(3,iv ja),(10,iv (bn.length:Int)),(11,H 11 0),(12,iv gu),(13,bv AU),(38,iv (s_0.gB.length:Int)),(39,iv gu),(58,D 0 (W 1 eI x57)),(59,iv (x57.length:Int)),(60,iv xh)] [(0,Od [C (W 1 (eL 1 eI) jh),Ct 1 (W 3 az gZ),C (I ji)]),(1,Oc [Z (W 1 eI bn)]),(11,Oc [Z (W 1 eI x33)])]) ?_ ?_
         ·refine t j j (oMv j j)<|t j j (oMv j j)<|?_
          refine ic Bh (fun DK Bh=>?_) fun DK Bh=>?_
          ·refine tT j j j j (iR.2 DK) (oMv j j)<|tT j j j j (iR.2 DK) (oMv j j)<|tT j j j j (iR.2 DK) (oBi j j j j)<|tT j j j j (iR.2 DK) (oMv j j)<|?_
           refine ic Bh (fun lW Bh=>?_) fun lW Bh=>?_
           ·cases Bh
            exact tF j j j j (aC.2 lW) j<|tF j j j j (aC.2 lW) j<|tF j j j j (aC.2 lW) j<|tF j j j j (aC.2 lW) j<|tF j j j j (aC.2 lW) j<|tF j j j j (aC.2 lW) j<|tF j j j j (aC.2 lW) j<|tF j j j j (aC.2 lW) j<|tF j j j j (aC.2 lW) j<|tF j j j j (aC.2 lW) j<|tF j j j j (aC.2 lW) j<|tF j j j j (aC.2 lW) j<|tF j j j j (aC.2 lW) j<|tF j j j j (aC.2 lW) j<|tF j j j j (aC.2 lW) j<|tF j j j j (aC.2 lW) j<|tF j j j j (aC.2 lW) j<|tF j j j j (aC.2 lW) j<|sS (dF j j j (aC.2 lW) j) trivial (tF j j j j (aC.2 lW) j<|tT j j j j (iR.2 DK) (dP j j (aC.2 lW) j)<|t j j (dP j j (iR.2 DK) j)<|sS (dN z65 j (aj j j)) trivial (sD (by kernel_rfl)))
           ·obtain ⟨x75,acH,Bh⟩:=bs Bh
            obtain ⟨x83,aa5,Bh⟩:=bs Bh
            obtain ⟨x85,Zg,Bh⟩:=bs Bh
            obtain ⟨x87,Zh,Bh⟩:=bs Bh
            cases Bh
            exact tT j j j j (byF aC lW) (oMv j j)<|tT j j j j (byF aC lW) (oNl j j j)<|tT j j j j (byF aC lW) (oFA (r':=.mp 0 0 1) j Lr j j)<|tT j j j j (byF aC lW) (oLd (cs:=[.im 1 _]) j Y9 j j)<|tT j j j j (byF aC lW) (oMv j j)<|tT j j j j (byF aC lW) (lF j acH Fe j j)<|tT j j j j (byF aC lW) (oLd (cs:=[.im 1 _,.im 1 _,.im 1 _]) j rO j j)<|tT j j j j (byF aC lW) (oMv j j)<|tT j j j j (byF aC lW) (oNl j j j)<|tT j j j j (byF aC lW) (oFA (r':=.mp 0 0 1) j Lr j j)<|tT j j j j (byF aC lW) (oLd (cs:=[.im 1 _]) j Y9 j j)<|tT j j j j (byF aC lW) (oMv j j)<|tT j j j j (byF aC lW) (oMv j j)<|tT j j j j (byF aC lW) (xH j aa5 iq j j j j)<|tT j j j j (byF aC lW) (Dk (cs:=[.im 0 _]) j tF2 j j j j (kz aa5) j j)<|tT j j j j (byF aC lW) (lF j Zg Fe j j)<|tT j j j j (byF aC lW) (oLd (cs:=[.im 1 _,.im 1 _,.im 1 _]) j rO j j)<|tT j j j j (byF aC lW) (oMv j j)<|sS (dT z65 j j j (byF aC lW) (oCa (xs:=[.v true [.im 1 _,.im 1 _,.im 1 _],.v true [.im 1 _,.im 1 _,.im 1 _]]) (vs:=[(false,[.im 0 _])]) (v:=.v false [.im 0 _]) (zW Zh) (.inl j) j Iw j (ppC j (ppC j pp0)) j j pb0 j j j)) trivial (tT j j j j (byF aC lW) (oBi j j j j)<|tT j j j j (iR.2 DK) (dS j j (byF aC lW) j)<|t j j (dP j j (iR.2 DK) j)<|sS (dN z65 j (aj j j)) trivial (sD (by kernel_rfl)))
          ·cases Bh
           exact tF j j j j (byF iR DK) j<|tF j j j j (byF iR DK) j<|tF j j j j (byF iR DK) j<|tF j j j j (byF iR DK) j<|sT j (dU j j j j)<|sT j (dU j j j j)<|sT j (dU j j j j)<|sT j (dU j j j j)<|sT j (dU j j j j)<|sT j (dU j j j j)<|sT j (dU j j j j)<|sT j (dU j j j j)<|sT j (dU j j j j)<|sT j (dU j j j j)<|sT j (dU j j j j)<|sT j (dU j j j j)<|sT j (dU j j j j)<|sT j (dU j j j j)<|sT j (dU j j j j)<|sT j (dU j j j j)<|sT j (dU j j j j)<|sT j (dU j j j j)<|sS (dU j j j j) trivial (sT j (dU j j j j)<|tF j j j j (byF iR DK) j<|t j j (dS j j (byF iR DK) j)<|sS (dN z65 j (aj j j)) trivial (sD (by kernel_rfl)))
         ·refine Unw.blk<|us<|g0 j j (q (oBi j j j j)<|q (oMv j j)<|nl)<|Unw.nil<|?_
          cases h
          exact ⟨j,(by kernel_rfl)⟩
        ·refine Go.exit<|ux<|Unw.nil<|?_
         cases h
         exact ⟨j,(by kernel_rfl)⟩
       ·rintro ⟨e,st⟩ hp
        obtain ⟨qm,rfl⟩:∃y,y=o:=⟨o,rfl⟩
        obtain ⟨he,hst⟩:=hp
        obtain rfl:e= .exit 2:=he
        refine Unw.ng<|us<|gs<|gs<|g2 c65 j j hst (q (oMv j j)<|q (oUn j j j)<|nl)<|us<|?_
        by_cases XG:qm=true
        ·rw [if_pos XG] at h
         refine gF j (nF (iR.2 XG))<|Go.skip<|us<|gs<|gs<|g0 j j (q (oMv j j)<|q (oNl j j j)<|q (oFA (r':=.mp 0 0 2) j Ls j j)<|q (oLd (cs:=[.im 0 _]) j tF2 j j)<|q (oBi j j j j)<|nl)<|us<|gc h j iEq (fun acI h=>?_) fun acI h=>?_
         ·refine gs<|g0 j j (q (uZ j j Em)<|q (aj j j)<|nl)<|us<|Go.ret (Unw.ret ?_)
          cases h
          exact ⟨j,(fo XA j)⟩
         ·refine Go.skip<|us<|gs<|g0 j j (q (oMv j j)<|q (oNl j j j)<|q (oFA (r':=.mp 0 0 2) j Ls j j)<|q (oLd (cs:=[.im 0 _]) j tF2 j j)<|q (oBi j j j j)<|q (oNl j j j)<|q (oFA (r':=.mp 0 0 2) j Ls j j)<|q (oSt tF2 j j j (tkI tk0) j j j)<|nl)<|us<|gs<|?_
          obtain ⟨UM,NM,h⟩:=bs h
          obtain ⟨x113,hx113,h⟩:=bs h
          obtain ⟨vC,aa6,h⟩:=bs h
          refine g1 j j (mk [(0,M 0),(1,H 1 0),(2,iv aP),(3,iv ja),(10,iv (bn.length:Int)),(11,H 11 0),(12,iv gu),(38,iv (s_0.gB.length:Int)),(39,iv gu)] [(0,Od [C (W 1 (eL 1 eI) jh),Ct 1 (W 3 az gZ),C (I (w64 (ji - 1)))]),(1,Oc [Z (W 1 eI bn)]),(11,Oc [Z (W 1 eI x33)])]) (q (oMv j j)<|q (oMv j j)<|q (oCr (xs:=[.v false [.own 1 0 0]]) (vs:=[(false,[.own 110 0 0])]) (v:=.v false [.own 110 0 0]) (c:=⟨.sh,0,_⟩) (cs:=[]) (JS (en:=eI) (L:=bn) j NM (fun _=>j)) (.inl j) j NH j (ppC j pp0) j j pb0 j j j)<|q (oMv j j)<|q (oBS (es:=List.map eI ([gu]:List Int)) j iq j (ptC j (fxI fx0) j pt0) (cu j fun _=>j))<|q (vS (en:=eI) (M:=([gu]:List Int)) j hx113 j iq j j xI (.inl ⟨_,j⟩) j j j j (kC j j) (cu j fun _=>j))<|q (oMv j j)<|q (oMv j j)<|q (oCr (xs:=[.v false [.mp 0 0 0],.v false [.own 113 0 0],.v false [.im 0 _],.v false [.im 0 _]]) (vs:=[(false,[.own 116 0 0]),(false,[.im 0 _])]) (v:=.tup [(false,[.own 116 0 0]),(false,[.im 0 _])]) (c:=⟨.sh,0,_⟩) (cs:=[]) (ih aa6) (.inl j) j qC j (ppP j j j (ppM (AL j j) (ppC j (ppC j pp0)))) j j (pbP j j pb0) j j j)<|q (EU j j)<|q (oEx j j j)<|q (oEx j j j)<|q (lD j j j j j)<|q (aj j j)<|nl)<|us<|gs<|g1 j j (mk [(0,M 0),(1,H 1 0),(2,iv aP),(3,iv ja),(10,iv (bn.length:Int)),(11,H 11 0),(16,H 16 0),(17,iv vC.2.1),(38,iv (s_0.gB.length:Int)),(39,iv gu)] [(0,Od [C (W 1 (eL 1 eI) vC.2.2.near),Ct 1 (W 3 az vC.2.2.gB),C (I vC.2.2.left)]),(1,Oc [Z (W 1 eI bn)]),(11,Oc [Z (W 1 eI x33)]),(16,Oc [Z (W 1 eI vC.1)])]) (q (oMv j j)<|q (oBi j j j j)<|nl)<|us<|gc h j iNe (fun acJ h=>?_) fun acJ h=>?_
          ·refine gs<|g0 j j (q (oMv j j)<|q (oMv j j)<|q (lD j j j j j)<|q (aj j j)<|nl)<|us<|Go.ret (Unw.ret ?_)
           cases h
           exact ⟨j,(fo XA j)⟩
          ·exact Go.skip<|Unw.blk<|K44 _ ⟨vC.2.2.near,vC.2.2.gB,vC.2.2.left,h,(by kernel_rfl)⟩
        ·rw [if_neg XG] at h
         exact gT j (nT (byF iR XG))<|Go.exit<|ux<|Unw.ng<|K44 _ ⟨jh,gZ,ji,h,(by kernel_rfl)⟩
   ·refine Go.exit<|ux<|Unw.nil<|?_
    cases h
    exact ⟨j,(by kernel_rfl)⟩
  ·rintro ⟨e,st⟩ hp
   rcases o with ⟨uy,uz,uA⟩ | r2
   ·dsimp only at h
    obtain ⟨he,hst⟩:=hp
    obtain rfl:e= .exit 0:=he
    refine Unw.ng<|us<|gs<|g2 c65 j j hst (q (uZ j j Em)<|q (aj j j)<|nl)<|us<|Go.ret (Unw.ret ?_)
    cases h
    exact fr XA j
   ·dsimp only at h
    obtain ⟨he,hfin⟩:=hp
    obtain rfl:e= .ret:=he
    cases h
    exact Unw.ret (lg hfin)
theorem nN {s_0:aS} {bn:(List Int)} {aP:Int} {ja:Int} {r:((List Int)×Int×aS)} (h:fJ s_0 bn aP ja=some r):FX 65 [.ptr true [(.gone,W 1 (eL 1 eI) s_0.near),(.imm,W 3 az s_0.gB),(.imm,I s_0.left)],.mv 1 (List.map eI bn),.im 2 false [I aP],.im 2 false [I ja]] ([(false,[.ow 0 1 (List.map eI r.1)]),(false,[.im 0 (I r.2.1)])],[.ptr true [(.gone,W 1 (eL 1 eI) r.2.2.near),(.imm,W 3 az r.2.2.gB),(.imm,I r.2.2.left)]]):=by
 unfold fJ at h
 obtain ⟨n,hn⟩:=BG h
 clear h
 induction n generalizing s_0 bn aP ja r with
 | zero=>cases hn
 | succ n ihn=>exact yj (self:=uT _ n) (fun h=>ihn h) hn
theorem uF {d_0:aG} {aI:(List ak)} {aP:Int} {jA:Int} {r:((List Int)×Int)} (h:fP d_0 aI aP jA=some r):FX 24 [.im 2 true (bz d_0),.im 2 false [W 3 az aI],.im 2 false [I aP],.im 2 false [I jA]] (B0 [(false,[.ow 0 1 (List.map eI r.1)]),(false,[.im 0 (I r.2)])]):=by
 unfold fP at h
 refine gn 33 Try.func24 rfl ?_
 refine gs<|g0 j j (q (oBx j iH j (tkI (tkI (tkI (tkI tk0)))))<|q (uZ j j Em)<|q (aj j j)<|nl)<|us<|gs<|gs<|?_
 obtain ⟨x16,hx16,h⟩:=bs h
 refine g0 j j (q (oLd (cs:=[.im 0 _,.im 0 _,.im 2 _,.im 2 _]) j iH j j)<|q (oMv j j)<|q (oMv j j)<|q (oMv j j)<|q (oCa (xs:=[.v true [.im 0 _,.im 0 _,.im 2 _,.im 2 _],.v false [.im 2 _],.v false [.im 2 _],.v false [.im 2 _]]) (vs:=[(false,[.im 0 _])]) (v:=.v false [.im 0 _]) (lX hx16) (.inl j) j rJ j (ppC j (ppC j (ppC j (ppC j pp0)))) j j pb0 j j j)<|q (aj j j)<|nl)<|us<|gs<|g0 j j (q (oMv j j)<|q (oBi j j j j)<|nl)<|us<|gc h j iNe (fun hc1 h=>?_) fun hc1 h=>?_
 ·refine gs<|g0 j j (q (oMv j j)<|q (uZ j j Em)<|q (aj j j)<|nl)<|us<|Go.ret (Unw.ret ?_)
  cases h
  exact fr aaP j
 ·refine Go.skip<|us<|gs<|?_
  obtain ⟨x21,NQ,h⟩:=bs h
  refine g0 j j (q (oLd (cs:=[.im 0 _,.im 0 _,.im 2 _,.im 2 _]) j iH j j)<|q (oCa (xs:=[.v true [.im 0 _,.im 0 _,.im 2 _,.im 2 _]]) (vs:=[(false,[.im 0 _])]) (v:=.v false [.im 0 _]) (oI NQ) (.inl j) j Gu j (ppC j pp0) j j pb0 j j j)<|q (oMv j j)<|q (oMv j j)<|q (oBu (cs:=[.im 0 _,.im 2 _,.im 2 _]) j UQ j)<|q (oBx j U7 j (tkI (tkI (tkI tk0))))<|q (RQ j j)<|nl)<|us<|gs<|?_
  obtain ⟨x30,O1,h⟩:=bs h
  refine g0 j j (q (oMv j j)<|q (oMv j j)<|q (oMv j j)<|q (mF j j F7 j)<|q (oCr (xs:=[.v false [.mp 25 0 0],.v false [.nil],.v false [.im 2 _],.v false [.im 0 _]]) (vs:=[(false,[.own 30 0 0]),(false,[.im 0 _])]) (v:=.tup [(false,[.own 30 0 0]),(false,[.im 0 _])]) (c:=⟨.sh,0,_⟩) (cs:=[]) (nN O1) (.inl j) j qC j (ppP j j j (ppM take_nil (ppC j (ppC j pp0)))) j j (pbP j j pb0) j j j)<|q (oEx j j j)<|q (oEx j j j)<|q (lD j j j j j)<|q (aj j j)<|nl)<|us<|Go.ret (Unw.ret ?_)
  cases h
  exact fr aaP j
theorem Bi {d_0:aG} {aI:(List ak)} {aP:Int} {jA:Int} {r:((List Int)×Int×Int)} (h:iJ d_0 aI aP jA=some r):FX 25 [.im 2 true (bz d_0),.im 2 false [W 3 az aI],.im 2 false [I aP],.im 2 false [I jA]] (B0 [(false,[.ow 0 1 (List.map eI r.1)]),(false,[.im 0 (I r.2.1)]),(false,[.im 0 (I r.2.2)])]):=by
 unfold iJ at h
 refine gn 50 Try.func25 rfl ?_
 refine gs<|g0 j j (q (oBx j iH j (tkI (tkI (tkI (tkI tk0)))))<|q (uZ j j Em)<|q (aj j j)<|q (aj j j)<|nl)<|us<|gs<|gs<|?_
 obtain ⟨x20,IK,h⟩:=bs h
 refine g0 j j (q (oLd (cs:=[.im 0 _,.im 0 _,.im 2 _,.im 2 _]) j iH j j)<|q (oMv j j)<|q (oMv j j)<|q (oMv j j)<|q (oCa (xs:=[.v true [.im 0 _,.im 0 _,.im 2 _,.im 2 _],.v false [.im 2 _],.v false [.im 2 _],.v false [.im 2 _]]) (vs:=[(false,[.im 0 _])]) (v:=.v false [.im 0 _]) (lX IK) (.inl j) j rJ j (ppC j (ppC j (ppC j (ppC j pp0)))) j j pb0 j j j)<|q (aj j j)<|nl)<|us<|gs<|g0 j j (q (oMv j j)<|q (oBi j j j j)<|nl)<|us<|gc h j iNe (fun hc1 h=>?_) fun hc1 h=>?_
 ·refine gs<|g0 j j (q (oMv j j)<|q (uZ j j Em)<|q (aj j j)<|q (aj j j)<|nl)<|us<|Go.ret (Unw.ret ?_)
  cases h
  exact fr Xx j
 ·refine Go.skip<|us<|gs<|?_
  obtain ⟨x25,hx25,h⟩:=bs h
  refine g0 j j (q (oLd (cs:=[.im 0 _,.im 0 _,.im 2 _,.im 2 _]) j iH j j)<|q (oCa (xs:=[.v true [.im 0 _,.im 0 _,.im 2 _,.im 2 _]]) (vs:=[(false,[.im 0 _])]) (v:=.v false [.im 0 _]) (oI hx25) (.inl j) j Gu j (ppC j pp0) j j pb0 j j j)<|q (oMv j j)<|q (oMv j j)<|q (oBu (cs:=[.im 0 _,.im 2 _,.im 2 _]) j UQ j)<|q (oBx j U7 j (tkI (tkI (tkI tk0))))<|q (RQ j j)<|nl)<|us<|gs<|gs<|g0 j j (q (aj j j)<|nl)<|us<|Go.block<|?_
  obtain ⟨o,hl,h⟩:=bs h
  refine gl c25 j _ (fun (s:(Int×(List (List Int))×(List ak)×Int))=>match s with | (xU,zB,zC,zD)=>mk [(1,D 2 (W 3 az aI)),(2,iv aP),(12,M 29),(13,iv xU)] [(29,Oa [C (W 1 (eL 1 eI) zB),Ct 2 (W 3 az zC),C (I zD)])]) (fun (o:(Unit ⊕ ((List Int)×Int×Int))) (p:Ex×St)=>match o with | (.inl _)=>p.1= .exit 0∧p.2.norm ([],[])=mk [] [] | (.inr r2)=>p.1= .ret∧fin Try.prog cfg 25 Try.f25 [.im 2 true (bz d_0),.im 2 false [W 3 az aI],.im 2 false [I aP],.im 2 false [I jA]] p.2=some (B0 [(false,[.ow 0 1 (List.map eI r2.1)]),(false,[.im 0 (I r2.2.1)]),(false,[.im 0 (I r2.2.2)])])) hl (by kernel_rfl) ?_ ?_ ?_
  ·intro o p hp e
   rcases o with u | r2<;>exact nomatch (hp.1.symm.trans e)
  ·rintro ⟨xU,zB,zC,zD⟩ o h
   unfold bY at h
   dsimp only at h
   refine gs<|gs<|g0 j j (q (oMv j j)<|q (oMv j j)<|q (mF j j F7 j)<|q (oBi j j j j)<|nl)<|us<|gc h j aC (fun hc8 h=>?_) fun hc8 h=>?_
   ·refine Go.skip<|us<|gs<|Go.block<|gs<|?_
    obtain ⟨x40,Vl,h⟩:=bs h
    refine g0 j j (q (oMv j j)<|q (oMv j j)<|q (oMv j j)<|q (oCr (xs:=[.v false [.mp 29 0 0],.v false [.nil],.v false [.im 0 _],.v false [.im 0 _]]) (vs:=[(false,[.own 40 0 0]),(false,[.im 0 _])]) (v:=.tup [(false,[.own 40 0 0]),(false,[.im 0 _])]) (c:=⟨.sh,0,_⟩) (cs:=[]) (nN Vl) (.inl j) j qC j (ppP j j j (ppM take_nil (ppC j (ppC j pp0)))) j j (pbP j j pb0) j j j)<|q (EU j j)<|q (oEx j j j)<|q (oEx j j j)<|q (lD j j j j j)<|q (aj j j)<|nl)<|us<|gs<|gs<|g1 j j (mk [(1,D 2 (W 3 az aI)),(2,iv aP),(12,M 29),(13,iv xU),(14,H 14 0),(15,iv x40.2.1)] [(14,Oc [Z (W 1 eI x40.1)]),(29,Oa [C (W 1 (eL 1 eI) x40.2.2.near),Ct 2 (W 3 az x40.2.2.gB),C (I x40.2.2.left)])]) (q (oMv j j)<|q (oBi j j j j)<|nl)<|us<|gc h j iEq (fun hc9 h=>?_) fun hc9 h=>?_
    ·refine gs<|g0 j j (q (oMv j j)<|q (oMv j j)<|q (lD j j j j j)<|q (aj j j)<|q (aj j j)<|nl)<|us<|Go.ret (Unw.ret ?_)
     cases h
     exact ⟨j,(fo Xx j)⟩
    ·refine Go.skip<|us<|gs<|g0 j j (q (oMv j j)<|q (oBi j j j j)<|nl)<|us<|gc h j iNe (fun zI h=>?_) fun zI h=>?_
     ·refine gs<|g0 j j (q (oMv j j)<|q (uZ j j Em)<|q (aj j j)<|q (aj j j)<|nl)<|us<|Go.ret (Unw.ret ?_)
      cases h
      exact ⟨j,(fo Xx j)⟩
     ·refine Go.skip<|Unw.blk<|us<|g0 j j (q (oMv j j)<|q (oBi j j j j)<|q (aj j j)<|nl)<|Unw.nil<|?_
      cases h
      exact ⟨j,(by kernel_rfl)⟩
   ·refine Go.exit<|ux<|Unw.nil<|?_
    cases h
    exact ⟨j,(by kernel_rfl)⟩
  ·rintro ⟨e,st⟩ hp
   rcases o with u | r2
   ·dsimp only at h
    obtain ⟨he,hst⟩:=hp
    obtain rfl:e= .exit 0:=he
    refine Unw.ng<|us<|gs<|g2 c25 j j hst (q (uZ j j Em)<|q (aj j j)<|q (aj j j)<|nl)<|us<|Go.ret (Unw.ret ?_)
    cases h
    exact fr Xx j
   ·dsimp only at h
    obtain ⟨he,hfin⟩:=hp
    obtain rfl:e= .ret:=he
    cases h
    exact Unw.ret (lg hfin)
theorem oJ {d_0:aG} {aI:(List ak)} {aP:Int} {dI:(List Int)} {r:Bool} (h:iG d_0 aI aP dI=some r):FX 26 [.im 2 true (bz d_0),.im 2 false [W 3 az aI],.im 2 false [I aP],.im 2 false [W 1 eI dI]] (B0 [(false,[.im 0 (V r)])]):=by
 unfold iG at h
 refine gn 74 Try.func26 rfl ?_
 refine gs<|g0 j j (q (oBx j iH j (tkI (tkI (tkI (tkI tk0)))))<|q (aj j j)<|nl)<|us<|gs<|gs<|?_
 obtain ⟨x18,IG,h⟩:=bs h
 refine gX c26 j j j (mk [(1,D 2 (W 3 az aI)),(2,iv aP),(3,D 2 (W 1 eI dI)),(4,M 4),(27,bv ((x18 != 0)||((dI.length:Int) != (d_0.aA.length:Int))))] [(4,Oa (G 2 (bz d_0)))]) ?_ ?_
 ·refine xq (oLd (cs:=[.im 0 _,.im 0 _,.im 2 _,.im 2 _]) j iH j j)<|xq (oMv j j)<|xq (oMv j j)<|xq (oCa (xs:=[.v true [.im 0 _,.im 0 _,.im 2 _,.im 2 _],.v false [.im 2 _],.v false [.im 2 _],.v false [.im 0 _]]) (vs:=[(false,[.im 0 _])]) (v:=.v false [.im 0 _]) (lX IG) (.inl j) j rJ j (ppC j (ppC j (ppC j (ppC j pp0)))) j j pb0 j j j)<|xq (oBi j j j j)<|xq (oMv j j)<|?_
  by_cases hc1:x18≠0
  ·exact au rfl rfl (iNe.2 hc1) rfl<|au rfl rfl (iNe.2 hc1) rfl<|au rfl rfl (iNe.2 hc1) rfl<|au rfl rfl (iNe.2 hc1) rfl<|au rfl rfl (iNe.2 hc1) rfl<|au rfl rfl (iNe.2 hc1) rfl<|xq (dP rfl rfl (iNe.2 hc1) rfl)<|xn (Eq.trans (b:=(fun rH:Bool=>mk [(1,D 2 (W 3 az aI)),(2,iv aP),(3,D 2 (W 1 eI dI)),(4,M 4),(27,bv rH)] [(4,Oa (G 2 (bz d_0)))]) true) (by kernel_rfl) (congrArg (fun rH:Bool=>mk [(1,D 2 (W 3 az aI)),(2,iv aP),(3,D 2 (W 1 eI dI)),(4,M 4),(27,bv rH)] [(4,Oa (G 2 (bz d_0)))]) (by first | rfl | (simp [(iNe.2 hc1)];done) | (simp [(iNe.2 hc1)];omega))))
  ·exact xqT rfl rfl (byF iNe hc1) (oMv rfl rfl)<|xqT rfl rfl (byF iNe hc1) (mF rfl rfl xI rfl)<|xqT rfl rfl (byF iNe hc1) (oFA (r':=.mp 4 0 3) rfl kF rfl rfl)<|xqT rfl rfl (byF iNe hc1) (oLd (cs:=[.im 2 _]) rfl uO rfl rfl)<|xqT rfl rfl (byF iNe hc1) (mF rfl rfl Ff rfl)<|xqT rfl rfl (byF iNe hc1) (oBi rfl rfl rfl rfl)<|xq (dS rfl rfl (byF iNe hc1) rfl)<|xn (Eq.trans (b:=(fun rH:Bool=>mk [(1,D 2 (W 3 az aI)),(2,iv aP),(3,D 2 (W 1 eI dI)),(4,M 4),(27,bv rH)] [(4,Oa (G 2 (bz d_0)))]) ((dI.length:Int) != (d_0.aA.length:Int))) (by kernel_rfl) (congrArg (fun rH:Bool=>mk [(1,D 2 (W 3 az aI)),(2,iv aP),(3,D 2 (W 1 eI dI)),(4,M 4),(27,bv rH)] [(4,Oa (G 2 (bz d_0)))]) (by first | rfl | (simp [(byF iNe hc1)];done) | (simp [(byF iNe hc1)];omega))))
 ·refine us<|gc h j (iOr iNe iNe) (fun hc2 h=>?_) fun hc2 h=>?_
  ·refine gs<|g0 j j (q (aj j j)<|nl)<|us<|Go.ret (Unw.ret ?_)
   cases h
   exact fr Xy j
  ·refine Go.skip<|us<|gs<|gs<|g0 j j (q (oMv j j)<|q (mF j j xI j)<|q (oMv j j)<|nl)<|us<|Go.block<|?_
   obtain ⟨o,hl,h⟩:=bs h
   refine gl c26 j _ (fun (BJ:Int)=>mk [(1,D 2 (W 3 az aI)),(2,iv aP),(3,D 2 (W 1 eI dI)),(4,M 4),(28,D 2 (W 1 eI dI)),(29,iv (dI.length:Int)),(30,iv BJ)] [(4,Oa (G 2 (bz d_0)))]) (fun (o:(Unit ⊕ Bool)) (p:Ex×St)=>match o with | (.inl _)=>p.1= .exit 0∧p.2.norm ([1,2,3,4],[4])=mk [(1,D 2 (W 3 az aI)),(2,iv aP),(3,D 2 (W 1 eI dI)),(4,M 4)] [(4,Oa (G 2 (bz d_0)))] | (.inr r2)=>p.1= .ret∧fin Try.prog cfg 26 Try.f26 [.im 2 true (bz d_0),.im 2 false [W 3 az aI],.im 2 false [I aP],.im 2 false [W 1 eI dI]] p.2=some (B0 [(false,[.im 0 (V r2)])])) hl (by kernel_rfl) ?_ ?_ ?_
   ·intro o p hp e
    rcases o with u | r2<;>exact nomatch (hp.1.symm.trans e)
   ·rintro BJ o h
    unfold jK at h
    refine gs<|g0 j j (q (oBi j j j j)<|nl)<|us<|gs<|gc h j aC (fun hc24 h=>?_) fun hc24 h=>?_
    ·refine Go.skip<|us<|gs<|Go.block<|gs<|?_
     obtain ⟨x32,hx32,h⟩:=bs h
     refine g0 j j (q (lF j hx32 iq j j)<|q (oLd (cs:=[.im 2 _]) j tF2 j j)<|q (aj j j)<|nl)<|us<|gs<|?_
     obtain ⟨x38,hx38,h⟩:=bs h
     refine g0 j j (q (oMv j j)<|q (oMv j j)<|q (mF j j F7 j)<|q (oBi j j j j)<|q (oCa (xs:=[.v false [.im 2 _],.v false [.im 0 _],.v false [.im 0 _]]) (vs:=[(false,[.im 0 _])]) (v:=.v false [.im 0 _]) (bW hx38) (.inl j) j fD j (ppC j (ppC j (ppC j pp0))) j j pb0 j j j)<|q (oUn j j j)<|nl)<|us<|?_
     by_cases hc25:x38=true
     ·rw [if_pos hc25] at h
      refine gF j (nF (iR.2 hc25))<|Go.skip<|Unw.blk<|us<|g0 j j (q (oBi j j j j)<|q (oMv j j)<|nl)<|Unw.nil<|?_
      cases h
      exact ⟨j,(by kernel_rfl)⟩
     ·rw [if_neg hc25] at h
      refine gT j (nT (byF iR hc25))<|gs<|g0 j j (q (aj j j)<|nl)<|us<|Go.ret (Unw.ret ?_)
      cases h
      exact ⟨j,(fo Xy j)⟩
    ·refine Go.exit<|ux<|Unw.nil<|?_
     cases h
     exact ⟨j,(by kernel_rfl)⟩
   ·rintro ⟨e,st⟩ hp
    rcases o with u | r2
    ·dsimp only at h
     obtain ⟨he,hst⟩:=hp
     obtain rfl:e= .exit 0:=he
     refine Unw.ng<|us<|gs<|gs<|?_
     obtain ⟨x42,Vj,h⟩:=bs h
     refine g2 c26 j j hst (q (oLd (cs:=[.im 0 _,.im 0 _,.im 2 _,.im 2 _]) j iH j j)<|q (oCa (xs:=[.v true [.im 0 _,.im 0 _,.im 2 _,.im 2 _]]) (vs:=[(false,[.im 0 _])]) (v:=.v false [.im 0 _]) (oI Vj) (.inl j) j Gu j (ppC j pp0) j j pb0 j j j)<|q (mF j j aaY j)<|q (oMv j j)<|nl)<|us<|Go.block<|?_
     obtain ⟨o,hl,h⟩:=bs h
     refine gl c26 j _ (fun (lQ:Int)=>mk [(1,D 2 (W 3 az aI)),(2,iv aP),(3,D 2 (W 1 eI dI)),(42,D 0 (W 1 (eL 1 eI) x42)),(43,iv (x42.length:Int)),(44,iv lQ)] []) (fun (o:(Unit ⊕ Bool)) (p:Ex×St)=>match o with | (.inl _)=>p.1= .exit 2∧p.2.norm ([],[])=mk [] [] | (.inr r2)=>p.1= .ret∧fin Try.prog cfg 26 Try.f26 [.im 2 true (bz d_0),.im 2 false [W 3 az aI],.im 2 false [I aP],.im 2 false [W 1 eI dI]] p.2=some (B0 [(false,[.im 0 (V r2)])])) hl (by kernel_rfl) ?_ ?_ ?_
     ·intro o p hp e
      rcases o with u | r2<;>exact nomatch (hp.1.symm.trans e)
     ·rintro lQ o h
      unfold jl at h
      refine gs<|g0 j j (q (oBi j j j j)<|nl)<|us<|gs<|gc h j aC (fun hc17 h=>?_) fun hc17 h=>?_
      ·refine Go.skip<|us<|gs<|Go.block<|gs<|?_
       obtain ⟨x47,Sz,h⟩:=bs h
       refine g0 j j (q (oMv j j)<|q (lF j Sz OX j j)<|q (oLd (cs:=[.im 0 _]) j Ac j j)<|q (aj j j)<|q (aj j j)<|nl)<|us<|gs<|g0 j j (q (oMv j j)<|q (mF j j xI j)<|q (oMv j j)<|nl)<|us<|Go.block<|?_
       obtain ⟨o,hl,h⟩:=bs h
       refine gl c26 j _ (fun (xk:Int)=>mk [(1,D 2 (W 3 az aI)),(2,iv aP),(3,D 2 (W 1 eI dI)),(11,iv lQ),(42,D 0 (W 1 (eL 1 eI) x42)),(43,iv (x42.length:Int)),(44,iv lQ),(49,D 0 (W 1 eI x47)),(50,iv (x47.length:Int)),(51,iv xk)] []) (fun (o:(Unit ⊕ Bool)) (p:Ex×St)=>match o with | (.inl _)=>p.1= .exit 4∧p.2.norm ([1,2,3,42,43,44],[])=mk [(1,D 2 (W 3 az aI)),(2,iv aP),(3,D 2 (W 1 eI dI)),(42,D 0 (W 1 (eL 1 eI) x42)),(43,iv (x42.length:Int)),(44,iv lQ)] [] | (.inr r2)=>p.1= .ret∧fin Try.prog cfg 26 Try.f26 [.im 2 true (bz d_0),.im 2 false [W 3 az aI],.im 2 false [I aP],.im 2 false [W 1 eI dI]] p.2=some (B0 [(false,[.im 0 (V r2)])])) hl (by kernel_rfl) ?_ ?_ ?_
       ·intro o p hp e
        rcases o with u | r2<;>exact nomatch (hp.1.symm.trans e)
       ·rintro xk o h
        unfold jk at h
        refine gs<|g0 j j (q (oBi j j j j)<|nl)<|us<|gs<|gc h j aC (fun hc22 h=>?_) fun hc22 h=>?_
        ·refine Go.skip<|us<|gs<|Go.block<|gs<|?_
         obtain ⟨x53,acK,h⟩:=bs h
         refine g0 j j (q (lF j acK iq j j)<|q (oLd (cs:=[.im 0 _]) j tF2 j j)<|q (aj j j)<|nl)<|us<|gs<|?_
         obtain ⟨x58,Zd,h⟩:=bs h
         obtain ⟨x60,SE,h⟩:=bs h
         obtain ⟨x65,acL,h⟩:=bs h
         obtain ⟨x67,Zb,h⟩:=bs h
         obtain ⟨x69,acM,h⟩:=bs h
         refine gd c26 j j j j (mk [(1,D 2 (W 3 az aI)),(2,iv aP),(3,D 2 (W 1 eI dI)),(11,iv lQ),(42,D 0 (W 1 (eL 1 eI) x42)),(43,iv (x42.length:Int)),(44,iv lQ),(49,D 0 (W 1 eI x47)),(50,iv (x47.length:Int)),(51,iv xk),(71,bv (decide (x69<aP)))] []) (t j j (oMv j j)<|t j j (oMv j j)<|t j j (oMv j j)<|t j j (lF j Zd iq j j)<|t j j (oLd (cs:=[.im 2 _]) j tF2 j j)<|t j j (lF j SE Fe j j)<|t j j (oLd (cs:=[.im 2 _,.im 2 _,.im 2 _]) j rO j j)<|t j j (oMv j j)<|t j j (oMv j j)<|t j j (oMv j j)<|t j j (lF j acL iq j j)<|t j j (oLd (cs:=[.im 2 _]) j tF2 j j)<|t j j (lF j Zb Fe j j)<|t j j (oLd (cs:=[.im 2 _,.im 2 _,.im 2 _]) j rO j j)<|t j j (oMv j j)<|sS (dN z26 j (oCa (xs:=[.v true [.im 2 _,.im 2 _,.im 2 _],.v true [.im 2 _,.im 2 _,.im 2 _]]) (vs:=[(false,[.im 0 _])]) (v:=.v false [.im 0 _]) (zW acM) (.inl j) j Iw j (ppC j (ppC j pp0)) j j pb0 j j j)) trivial (t j j (oBi j j j j)<|sD (by kernel_rfl)))<|us<|gc h j aC (fun yh h=>?_) fun yh h=>?_
         ·refine gs<|g0 j j (q (aj j j)<|nl)<|us<|Go.ret (Unw.ret ?_)
          cases h
          exact ⟨j,(fo Xy j)⟩
         ·refine Go.skip<|Unw.blk<|us<|g0 j j (q (oBi j j j j)<|q (oMv j j)<|nl)<|Unw.nil<|?_
          cases h
          exact ⟨j,(by kernel_rfl)⟩
        ·refine Go.exit<|ux<|Unw.nil<|?_
         cases h
         exact ⟨j,(by kernel_rfl)⟩
       ·rintro ⟨e,st⟩ hp
        rcases o with u | r2
        ·dsimp only at h
         obtain ⟨he,hst⟩:=hp
         obtain rfl:e= .exit 4:=he
         refine Unw.ng<|Unw.blk<|us<|g2 c26 j j hst (q (oBi j j j j)<|q (oMv j j)<|nl)<|Unw.nil<|?_
         cases h
         exact ⟨j,(by kernel_rfl)⟩
        ·dsimp only at h
         obtain ⟨he,hfin⟩:=hp
         obtain rfl:e= .ret:=he
         cases h
         exact Unw.ret ⟨j,hfin⟩
      ·refine Go.exit<|ux<|Unw.nil<|?_
       cases h
       exact ⟨j,(by kernel_rfl)⟩
     ·rintro ⟨e,st⟩ hp
      rcases o with u | r2
      ·dsimp only at h
       obtain ⟨he,hst⟩:=hp
       obtain rfl:e= .exit 2:=he
       refine Unw.ng<|us<|gs<|g2 c26 j j hst (q (aj j j)<|nl)<|us<|Go.ret (Unw.ret ?_)
       cases h
       exact fr Xy j
      ·dsimp only at h
       obtain ⟨he,hfin⟩:=hp
       obtain rfl:e= .ret:=he
       cases h
       exact Unw.ret (lg hfin)
    ·dsimp only at h
     obtain ⟨he,hfin⟩:=hp
     obtain rfl:e= .ret:=he
     cases h
     exact Unw.ret (lg hfin)
theorem Jl {fO:(List Int)} {x_1:Int} {r:Bool} (h:uB fO x_1=some r):FX 68 [.im 2 false [W 1 eI fO],.im 2 false [I x_1]] (B0 [(false,[.im 0 (V r)])]):=by
 unfold uB at h
 refine gn 18 Try.func68 rfl ?_
 refine gs<|g0 j j (q (aj j j)<|nl)<|us<|gs<|gs<|g0 j j (q (aj j j)<|nl)<|us<|Go.block<|?_
 obtain ⟨o,hl,h⟩:=bs h
 refine gl c68 j _ (fun (E8:Int)=>mk [(0,D 2 (W 1 eI fO)),(1,iv x_1),(5,iv E8)] []) (fun (o:(Unit ⊕ Bool)) (p:Ex×St)=>match o with | (.inl _)=>p.1= .exit 0∧p.2.norm ([],[])=mk [] [] | (.inr r2)=>p.1= .ret∧fin Try.prog cfg 68 Try.f68 [.im 2 false [W 1 eI fO],.im 2 false [I x_1]] p.2=some (B0 [(false,[.im 0 (V r2)])])) hl (by kernel_rfl) ?_ ?_ ?_
 ·intro o p hp e
  rcases o with u | r2<;>exact nomatch (hp.1.symm.trans e)
 ·rintro E8 o h
  unfold o5 at h
  refine gs<|gs<|g0 j j (q (oMv j j)<|q (oMv j j)<|q (mF j j xI j)<|q (oBi j j j j)<|nl)<|us<|gc h j aC (fun hc5 h=>?_) fun hc5 h=>?_
  ·refine Go.skip<|us<|gs<|Go.block<|gs<|?_
   obtain ⟨x14,Dx,h⟩:=bs h
   refine g0 j j (q (oMv j j)<|q (oMv j j)<|q (lF j Dx iq j j)<|q (oLd (cs:=[.im 2 _]) j tF2 j j)<|q (oMv j j)<|q (oBi j j j j)<|nl)<|us<|gc h j iEq (fun hc6 h=>?_) fun hc6 h=>?_
   ·refine gs<|g0 j j (q (aj j j)<|nl)<|us<|Go.ret (Unw.ret ?_)
    cases h
    exact ⟨j,(fo aaS j)⟩
   ·refine Go.skip<|Unw.blk<|us<|g0 j j (q (oMv j j)<|q (oBi j j j j)<|q (aj j j)<|nl)<|Unw.nil<|?_
    cases h
    exact ⟨j,(by kernel_rfl)⟩
  ·refine Go.exit<|ux<|Unw.nil<|?_
   cases h
   exact ⟨j,(by kernel_rfl)⟩
 ·rintro ⟨e,st⟩ hp
  rcases o with u | r2
  ·dsimp only at h
   obtain ⟨he,hst⟩:=hp
   obtain rfl:e= .exit 0:=he
   refine Unw.ng<|us<|gs<|g2 c68 j j hst (q (aj j j)<|nl)<|us<|Go.ret (Unw.ret ?_)
   cases h
   exact fr aaS j
  ·dsimp only at h
   obtain ⟨he,hfin⟩:=hp
   obtain rfl:e= .ret:=he
   cases h
   exact Unw.ret (lg hfin)
theorem zX {fO:(List Int)} {r:Int} (h:og fO=some r):FX 27 [.im 2 false [W 1 eI fO]] (B0 [(false,[.im 0 (I r)])]):=by
 unfold og at h
 refine gn 23 Try.func27 rfl ?_
 refine gs<|g0 j j (q (aj j j)<|nl)<|us<|gs<|g0 j j (q (aj j j)<|nl)<|us<|gs<|gs<|g0 j j (q (aj j j)<|nl)<|us<|Go.block<|?_
 obtain ⟨o,hl,h⟩:=bs h
 refine gl c27 j _ (fun (s:(Int×Int))=>match s with | (pV,sQ)=>mk [(0,D 2 (W 1 eI fO)),(3,iv pV),(4,iv sQ)] []) (fun (xW:Int) (p:Ex×St)=>p.1= .exit 0∧p.2.norm ([3],[])=mk [(3,iv xW)] []) hl (by kernel_rfl) ?_ ?_ ?_
 ·intro o p hp e
  exact nomatch (hp.1.symm.trans e)
 ·rintro ⟨pV,sQ⟩ o h
  unfold mY at h
  dsimp only at h
  refine gs<|gs<|g0 j j (q (oMv j j)<|q (oMv j j)<|q (mF j j xI j)<|q (oBi j j j j)<|nl)<|us<|gc h j aC (fun hc5 h=>?_) fun hc5 h=>?_
  ·refine Go.skip<|us<|gs<|Go.join (fun st=>∃yZ,mX sQ yZ=some o∧st.norm ([0,3,4],[])=mk [(0,D 2 (W 1 eI fO)),(3,iv yZ),(4,iv sQ)] []) ?_ ?_
   ·rintro st ⟨yZ,h,hst⟩
    unfold mX at h
    refine us<|g2 c27 j j hst (q (oMv j j)<|q (oBi j j j j)<|q (aj j j)<|nl)<|Unw.nil<|?_
    cases h
    exact ⟨j,(by kernel_rfl)⟩
   ·intro K7
    refine Go.block<|gs<|?_
    obtain ⟨x16,hx16,h⟩:=bs h
    obtain ⟨x13,Fg,h⟩:=bs h
    obtain ⟨x18,IG,h⟩:=bs h
    refine gd c27 j j j j (mk [(0,D 2 (W 1 eI fO)),(3,iv pV),(4,iv sQ),(19,bv (!x18))] []) (t j j (oMv j j)<|t j j (oMv j j)<|t j j (oMv j j)<|t j j (oMv j j)<|t j j (lF j hx16 iq j j)<|t j j (oLd (cs:=[.im 2 _]) j tF2 j j)<|sS (dN z27 j (Z8 j Fg iq j bn0 (bn1 j) j j)) trivial (sS (dN z27 j (oCa (xs:=[.v false [.im 2 _],.v false [.im 2 _]]) (vs:=[(false,[.im 0 _])]) (v:=.v false [.im 0 _]) (Jl IG) (.inl j) j Su j (ppC j (ppC j pp0)) j j pb0 j j j)) trivial (t j j (oUn j j j)<|sD (by kernel_rfl))))<|us<|?_
    by_cases hc8:x18=true
    ·rw [if_pos hc8] at h
     exact gF j (nF (iR.2 hc8))<|Go.skip<|Unw.blk<|K7 _ ⟨pV,h,(by kernel_rfl)⟩
    ·rw [if_neg hc8] at h
     exact gT j (nT (byF iR hc8))<|g0 j j (q (oMv j j)<|q (oBi j j j j)<|q (aj j j)<|nl)<|Unw.blk<|K7 _ ⟨(w64 (pV+1)),h,(by kernel_rfl)⟩
  ·refine Go.exit<|ux<|Unw.nil<|?_
   cases h
   exact ⟨j,(by kernel_rfl)⟩
 ·rintro ⟨e,st⟩ hp
  obtain ⟨xW,rfl⟩:∃y,y=o:=⟨o,rfl⟩
  obtain ⟨he,hst⟩:=hp
  obtain rfl:e= .exit 0:=he
  refine Unw.ng<|us<|gs<|g2 c27 j j hst (q (oMv j j)<|q (aj j j)<|nl)<|us<|Go.ret (Unw.ret ?_)
  cases h
  exact fr acd j
theorem y8 {jT:(List Int)} {r:(aG×(List ak)×Int)} (h:fZ jT=some r):FX 28 [.im 2 false [W 1 (eK .u8) jT]] (B0 [(true,[.im 0 (I r.1.Width),.im 0 (I r.1.Height),.ow 0 2 (List.map af r.1.aH),.ow 0 2 (List.map ah r.1.aA)]),(false,[.ow 0 3 (List.map az r.2.1)]),(false,[.im 0 (I r.2.2)])]):=by
 unfold fZ at h
 refine gn 18 Try.func28 rfl ?_
 refine gs<|g0 j j (q (oAl j iH (tkI (tkI (tkN (tkN tk0)))))<|q (uZ j j Y3)<|q (aj j j)<|nl)<|us<|gs<|?_
 obtain ⟨x9,hx9,h⟩:=bs h
 refine g0 j j (q (oMv j j)<|q (oCp (xs:=[.v false [.im 2 _]]) (A8 hx9) (.inl j) j QL j (ppC j pp0) j j pb0 j)<|q (RQ j j)<|nl)<|us<|gs<|?_
 obtain ⟨x11,Jk,h⟩:=bs h
 refine g0 j j (q (oMv j j)<|q (oCr (xs:=[.v false [.mp 9 0 0]]) (vs:=[(true,[.im 0 _,.im 0 _,.own 11 0 0,.own 11 0 1])]) (v:=.v true [.im 0 _,.im 0 _,.own 11 0 0,.own 11 0 1]) (c:=⟨.sh,0,_⟩) (cs:=[⟨.sh,0,_⟩]) (Bd Jk) (.inl j) j QM j (ppP j j j pp0) j j (pbP j j pb0) j j j)<|q (oAl j iH (tkI (tkI (tkN (tkN tk0)))))<|q (oSt iH j j j (tkI (tkI (tkO j j (tkO j j tk0)))) j j j)<|nl)<|us<|gs<|?_
 obtain ⟨x13,Fg,h⟩:=bs h
 refine g1 j j (mk [(2,M 2),(5,M 9),(6,M 6)] [(2,Oa [C (I 0),C (I 0),Z (W 2 af ([]:List ae)),Z (W 2 ah ([]:List aB))]),(6,Oa [C (I x11.1.Width),C (I x11.1.Height),Z (W 2 af x11.1.aH),Z (W 2 ah x11.1.aA)]),(9,Oa (G 2 (aJ x11.2)))]) (q (oMv j j)<|q (oCr (xs:=[.v false [.mp 9 0 0]]) (vs:=[(false,[.own 13 0 0])]) (v:=.v false [.own 13 0 0]) (c:=⟨.sh,0,_⟩) (cs:=[]) (rW Fg) (.inl j) j QN j (ppP j j j pp0) j j (pbP j j pb0) j j j)<|q (lD j j j j j)<|nl)<|us<|gs<|?_
 obtain ⟨x17,OY,h⟩:=bs h
 refine gd c28 j j j (st1:=mk [(2,M 2),(5,M 9),(6,M 6),(7,H 7 0)] [(2,Oa [C (I 0),C (I 0),Z (W 2 af ([]:List ae)),Z (W 2 ah ([]:List aB))]),(6,Oa [C (I x11.1.Width),C (I x11.1.Height),Z (W 2 af x11.1.aH),Z (W 2 ah x11.1.aA)]),(7,Oc [Z (W 3 az x13.1)]),(9,Oa (G 2 (aJ x13.2)))]) (by kernel_rfl) (mk [(2,M 2),(3,H 3 0),(4,iv x17.1)] [(2,Oa [C (I x11.1.Width),C (I x11.1.Height),Z (W 2 af x11.1.aH),Z (W 2 ah x11.1.aA)]),(3,Oc [Z (W 3 az x13.1)])]) (t j j (oMv j j)<|t j j (oMv j j)<|sK (O:=[6]) j j j (dN z28 j (oLd (cs:=[.im 0 _,.im 0 _,.own 6 0 2,.own 6 0 3]) j iH j j))<|sS (dN z28 j (oCa (xs:=[.v false [.mp 9 0 0]]) (vs:=[(false,[.im 0 _])]) (v:=.v false [.im 0 _]) (uC OY) (.inl j) j QO j (ppP j j j pp0) j j (pbP j j pb0) j j j)) (kY ⟨j,trivial⟩ trivial) (sS (dN z28 j (oSt iH j j j (tkI (tkI (tkO j j (tkO j j tk0)))) j j j)) (kN j trivial) (sS (dN z28 j (lD j j j j j)) (kN j trivial) (sS (dN z28 j (aj j j)) (kN j trivial) (sD (by kernel_rfl))))))<|us<|Go.ret (Unw.ret ?_)
 cases h
 exact fr ace j
theorem Ce {d_0:aG} {aI:(List ak)} {y5:Int} {r:((List Int)×Int×Int)} (h:jb d_0 aI y5=some r):FX 29 [.im 2 true (bz d_0),.im 2 false [W 3 az aI],.im 2 false [I y5]] (B0 [(false,[.ow 0 1 (List.map eI r.1)]),(false,[.im 0 (I r.2.1)]),(false,[.im 0 (I r.2.2)])]):=by
 unfold jb at h
 refine gn 46 Try.func29 rfl ?_
 refine gs<|g0 j j (q (oBx j iH j (tkI (tkI (tkI (tkI tk0)))))<|q (uZ j j Em)<|q (aj j j)<|q (aj j j)<|nl)<|us<|gs<|gs<|?_
 obtain ⟨x17,OY,h⟩:=bs h
 refine g0 j j (q (oLd (cs:=[.im 0 _,.im 0 _,.im 2 _,.im 2 _]) j iH j j)<|q (oMv j j)<|q (oMv j j)<|q (oCa (xs:=[.v true [.im 0 _,.im 0 _,.im 2 _,.im 2 _],.v false [.im 2 _],.v false [.im 0 _],.v false [.im 2 _]]) (vs:=[(false,[.im 0 _])]) (v:=.v false [.im 0 _]) (lX OY) (.inl j) j rJ j (ppC j (ppC j (ppC j (ppC j pp0)))) j j pb0 j j j)<|q (aj j j)<|nl)<|us<|gs<|g0 j j (q (oMv j j)<|q (oBi j j j j)<|nl)<|us<|gc h j iNe (fun hc1 h=>?_) fun hc1 h=>?_
 ·refine gs<|g0 j j (q (oMv j j)<|q (uZ j j Em)<|q (aj j j)<|q (aj j j)<|nl)<|us<|Go.ret (Unw.ret ?_)
  cases h
  exact fr Xz j
 ·refine Go.skip<|us<|gs<|?_
  obtain ⟨x22,LQ,h⟩:=bs h
  refine g0 j j (q (oLd (cs:=[.im 0 _,.im 0 _,.im 2 _,.im 2 _]) j iH j j)<|q (oCa (xs:=[.v true [.im 0 _,.im 0 _,.im 2 _,.im 2 _]]) (vs:=[(false,[.im 0 _])]) (v:=.v false [.im 0 _]) (oI LQ) (.inl j) j Gu j (ppC j pp0) j j pb0 j j j)<|q (oMv j j)<|q (oMv j j)<|q (oBu (cs:=[.im 0 _,.im 2 _,.im 2 _]) j UQ j)<|q (oBx j U7 j (tkI (tkI (tkI tk0))))<|q (RQ j j)<|nl)<|us<|gs<|gs<|g0 j j (q (aj j j)<|nl)<|us<|Go.block<|?_
  obtain ⟨o,hl,h⟩:=bs h
  refine gl c29 j _ (fun (s:(Int×(List (List Int))×(List ak)×Int))=>match s with | (nC,zF,zG,zH)=>mk [(1,D 2 (W 3 az aI)),(10,M 26),(11,iv nC)] [(26,Oa [C (W 1 (eL 1 eI) zF),Ct 2 (W 3 az zG),C (I zH)])]) (fun (o:(Unit ⊕ ((List Int)×Int×Int))) (p:Ex×St)=>match o with | (.inl _)=>p.1= .exit 0∧p.2.norm ([],[])=mk [] [] | (.inr r2)=>p.1= .ret∧fin Try.prog cfg 29 Try.f29 [.im 2 true (bz d_0),.im 2 false [W 3 az aI],.im 2 false [I y5]] p.2=some (B0 [(false,[.ow 0 1 (List.map eI r2.1)]),(false,[.im 0 (I r2.2.1)]),(false,[.im 0 (I r2.2.2)])])) hl (by kernel_rfl) ?_ ?_ ?_
  ·intro o p hp e
   rcases o with u | r2<;>exact nomatch (hp.1.symm.trans e)
  ·rintro ⟨nC,zF,zG,zH⟩ o h
   unfold cO at h
   dsimp only at h
   refine gs<|gs<|g0 j j (q (oMv j j)<|q (oBi j j j j)<|nl)<|us<|gc h j aC (fun hc8 h=>?_) fun hc8 h=>?_
   ·refine Go.skip<|us<|gs<|Go.block<|gs<|?_
    obtain ⟨x36,Vm,h⟩:=bs h
    refine g0 j j (q (oMv j j)<|q (oMv j j)<|q (oMv j j)<|q (mF j j F7 j)<|q (oCr (xs:=[.v false [.mp 26 0 0],.v false [.nil],.v false [.im 0 _],.v false [.im 0 _]]) (vs:=[(false,[.own 36 0 0]),(false,[.im 0 _])]) (v:=.tup [(false,[.own 36 0 0]),(false,[.im 0 _])]) (c:=⟨.sh,0,_⟩) (cs:=[]) (nN Vm) (.inl j) j qC j (ppP j j j (ppM take_nil (ppC j (ppC j pp0)))) j j (pbP j j pb0) j j j)<|q (EU j j)<|q (oEx j j j)<|q (oEx j j j)<|q (lD j j j j j)<|q (aj j j)<|nl)<|us<|gs<|gs<|g1 j j (mk [(1,D 2 (W 3 az aI)),(10,M 26),(11,iv nC),(12,H 12 0),(13,iv x36.2.1)] [(12,Oc [Z (W 1 eI x36.1)]),(26,Oa [C (W 1 (eL 1 eI) x36.2.2.near),Ct 2 (W 3 az x36.2.2.gB),C (I x36.2.2.left)])]) (q (oMv j j)<|q (oBi j j j j)<|nl)<|us<|gc h j iEq (fun hc9 h=>?_) fun hc9 h=>?_
    ·refine gs<|g0 j j (q (oMv j j)<|q (oMv j j)<|q (lD j j j j j)<|q (aj j j)<|q (aj j j)<|nl)<|us<|Go.ret (Unw.ret ?_)
     cases h
     exact ⟨j,(fo Xz j)⟩
    ·refine Go.skip<|us<|gs<|g0 j j (q (oMv j j)<|q (oBi j j j j)<|nl)<|us<|gc h j iNe (fun zI h=>?_) fun zI h=>?_
     ·refine gs<|g0 j j (q (oMv j j)<|q (uZ j j Em)<|q (aj j j)<|q (aj j j)<|nl)<|us<|Go.ret (Unw.ret ?_)
      cases h
      exact ⟨j,(fo Xz j)⟩
     ·refine Go.skip<|Unw.blk<|us<|g0 j j (q (oMv j j)<|q (oBi j j j j)<|q (aj j j)<|nl)<|Unw.nil<|?_
      cases h
      exact ⟨j,(by kernel_rfl)⟩
   ·refine Go.exit<|ux<|Unw.nil<|?_
    cases h
    exact ⟨j,(by kernel_rfl)⟩
  ·rintro ⟨e,st⟩ hp
   rcases o with u | r2
   ·dsimp only at h
    obtain ⟨he,hst⟩:=hp
    obtain rfl:e= .exit 0:=he
    refine Unw.ng<|us<|gs<|g2 c29 j j hst (q (uZ j j Em)<|q (aj j j)<|q (aj j j)<|nl)<|us<|Go.ret (Unw.ret ?_)
    cases h
    exact fr Xz j
   ·dsimp only at h
    obtain ⟨he,hfin⟩:=hp
    obtain rfl:e= .ret:=he
    cases h
    exact Unw.ret (lg hfin)
theorem Fv {jT:(List Int)} {rG:(List Int)} {r:Bool} (h:rF jT rG=some r):FX 5 [.im 2 false [W 1 (eK .u8) jT],.im 2 false [W 1 (eK .u8) rG]] (B0 [(false,[.im 0 (V r)])]):=by
 unfold rF at h
 refine gn 173 Try.func5 rfl ?_
 refine gs<|g0 j j (q (aj j j)<|nl)<|us<|gs<|gs<|?_
 obtain ⟨x23,Zc,h⟩:=bs h
 obtain ⟨rH,O4,h⟩:=bs h
 refine gX c5 j j j (mk [(0,D 2 (W 1 (eK .u8) jT)),(1,D 2 (W 1 (eK .u8) rG)),(27,bv rH)] []) ?_ ?_
 ·refine xq (oMv j j)<|xq (oCa (xs:=[.v false [.im 2 _]]) (vs:=[(false,[.im 0 _])]) (v:=.v false [.im 0 _]) (A7 Zc) (.inl j) j QJ j (ppC j pp0) j j pb0 j j j)<|xq (oMv j j)<|?_
  refine ic O4 (fun hc1 O4=>?_) fun hc1 O4=>?_
  ·cases O4
   exact au j j (iR.2 hc1) j<|au j j (iR.2 hc1) j<|xq (dP j j (iR.2 hc1) j)<|xn
  ·obtain ⟨x26,Vg,O4⟩:=bs O4
   cases O4
   exact xqT j j (byF iR hc1) (oMv j j)<|xqT j j (byF iR hc1) (oCa (xs:=[.v false [.im 2 _]]) (vs:=[(false,[.im 0 _])]) (v:=.v false [.im 0 _]) (A7 Vg) (.inl j) j QJ j (ppC j pp0) j j pb0 j j j)<|xq (dS j j (byF iR hc1) j)<|xn
 ·refine us<|gc h j iR (fun hc2 h=>?_) fun hc2 h=>?_
  ·refine gs<|g0 j j (q (aj j j)<|nl)<|us<|Go.ret (Unw.ret ?_)
   cases h
   exact fr rF5 j
  ·refine Go.skip<|us<|gs<|?_
   obtain ⟨x30,O1,h⟩:=bs h
   refine g0 j j (q (oMv j j)<|q (oCr (xs:=[.v false [.im 2 _]]) (vs:=[(true,[.im 0 _,.im 0 _,.own 30 0 0,.own 30 0 1]),(false,[.own 30 0 2]),(false,[.im 0 _]),(false,[.im 0 _])]) (v:=.tup [(true,[.im 0 _,.im 0 _,.own 30 0 0,.own 30 0 1]),(false,[.own 30 0 2]),(false,[.im 0 _]),(false,[.im 0 _])]) (c:=⟨.sh,0,_⟩) (cs:=[⟨.sh,0,_⟩,⟨.sh,0,_⟩]) (yf O1) (.inl j) j Xn j (ppC j pp0) j j pb0 j j j)<|q (EU j j)<|q (oEx j j j)<|q (oEx j j j)<|q (oEx j j j)<|q (oEx j j j)<|q (oAl j iH (tkI (tkI (tkN (tkN tk0)))))<|q (oSt iH j j j (tkI (tkI (tkO j j (tkO j j tk0)))) j j j)<|q (lD j j j j j)<|q (aj j j)<|q (aj j j)<|nl)<|us<|gs<|?_
   obtain ⟨x40,Vl,h⟩:=bs h
   refine g1 j j (mk [(1,D 2 (W 1 (eK .u8) rG)),(5,M 5),(6,H 6 0),(7,iv x30.2.2.1),(8,iv x30.2.2.2)] [(5,Oa [C (I x30.1.Width),C (I x30.1.Height),Z (W 2 af x30.1.aH),Z (W 2 ah x30.1.aA)]),(6,Oc [Z (W 3 az x30.2.1)])]) (q (oLd (cs:=[.im 0 _,.im 0 _,.own 5 0 2,.own 5 0 3]) j iH j j)<|q (oMv j j)<|q (oMv j j)<|q (oMv j j)<|q (oCr (xs:=[.v true [.im 0 _,.im 0 _,.own 5 0 2,.own 5 0 3],.v false [.own 6 0 0],.v false [.im 0 _],.v false [.im 0 _]]) (vs:=[(false,[.own 40 0 0]),(false,[.im 0 _])]) (v:=.tup [(false,[.own 40 0 0]),(false,[.im 0 _])]) (c:=⟨.sh,0,_⟩) (cs:=[]) (uF Vl) (.inl j) j AX j (ppC j (ppC j (ppC j (ppC j pp0)))) j j pb0 j j j)<|q (EU j j)<|q (oEx j j j)<|q (oEx j j j)<|q (lD j j j j j)<|q (aj j j)<|nl)<|us<|gs<|?_
   obtain ⟨x48,acN,h⟩:=bs h
   refine g0 j j (q (oLd (cs:=[.im 0 _,.im 0 _,.own 5 0 2,.own 5 0 3]) j iH j j)<|q (oMv j j)<|q (oMv j j)<|q (oMv j j)<|q (oCr (xs:=[.v true [.im 0 _,.im 0 _,.own 5 0 2,.own 5 0 3],.v false [.own 6 0 0],.v false [.im 0 _],.v false [.im 0 _]]) (vs:=[(false,[.own 48 0 0]),(false,[.im 0 _]),(false,[.im 0 _])]) (v:=.tup [(false,[.own 48 0 0]),(false,[.im 0 _]),(false,[.im 0 _])]) (c:=⟨.sh,0,_⟩) (cs:=[]) (Bi acN) (.inl j) j Iu j (ppC j (ppC j (ppC j (ppC j pp0)))) j j pb0 j j j)<|q (EU j j)<|q (oEx j j j)<|q (oEx j j j)<|q (oEx j j j)<|q (lD j j j j j)<|q (aj j j)<|q (aj j j)<|nl)<|us<|gs<|gs<|gX c5 j j j (mk [(1,D 2 (W 1 (eK .u8) rG)),(5,M 5),(6,H 6 0),(7,iv x30.2.2.1),(9,H 9 0),(10,iv x40.2),(11,H 11 0),(12,iv x48.2.1),(13,iv x48.2.2),(57,bv ((x40.2==1)||(x40.2==2)))] [(5,Oa [C (I x30.1.Width),C (I x30.1.Height),Z (W 2 af x30.1.aH),Z (W 2 ah x30.1.aA)]),(6,Oc [Z (W 3 az x30.2.1)]),(9,Oc [Z (W 1 eI x40.1)]),(11,Oc [Z (W 1 eI x48.1)])]) ?_ ?_
   ·refine xq (oMv j j)<|xq (oBi j j j j)<|xq (oMv j j)<|?_
    by_cases hc3:x40.2=1
    ·exact au rfl rfl (iEq.2 hc3) rfl<|au rfl rfl (iEq.2 hc3) rfl<|xq (dP rfl rfl (iEq.2 hc3) rfl)<|xn (Eq.trans (b:=(fun zM:Bool=>mk [(1,D 2 (W 1 (eK .u8) rG)),(5,M 5),(6,H 6 0),(7,iv x30.2.2.1),(9,H 9 0),(10,iv x40.2),(11,H 11 0),(12,iv x48.2.1),(13,iv x48.2.2),(57,bv zM)] [(5,Oa [C (I x30.1.Width),C (I x30.1.Height),Z (W 2 af x30.1.aH),Z (W 2 ah x30.1.aA)]),(6,Oc [Z (W 3 az x30.2.1)]),(9,Oc [Z (W 1 eI x40.1)]),(11,Oc [Z (W 1 eI x48.1)])]) true) (by kernel_rfl) (congrArg (fun zM:Bool=>mk [(1,D 2 (W 1 (eK .u8) rG)),(5,M 5),(6,H 6 0),(7,iv x30.2.2.1),(9,H 9 0),(10,iv x40.2),(11,H 11 0),(12,iv x48.2.1),(13,iv x48.2.2),(57,bv zM)] [(5,Oa [C (I x30.1.Width),C (I x30.1.Height),Z (W 2 af x30.1.aH),Z (W 2 ah x30.1.aA)]),(6,Oc [Z (W 3 az x30.2.1)]),(9,Oc [Z (W 1 eI x40.1)]),(11,Oc [Z (W 1 eI x48.1)])]) (by first | rfl | (simp [(iEq.2 hc3)];done) | (simp [(iEq.2 hc3)];omega))))
    ·exact xqT rfl rfl (byF iEq hc3) (oMv rfl rfl)<|xqT rfl rfl (byF iEq hc3) (oBi rfl rfl rfl rfl)<|xq (dS rfl rfl (byF iEq hc3) rfl)<|xn (Eq.trans (b:=(fun zM:Bool=>mk [(1,D 2 (W 1 (eK .u8) rG)),(5,M 5),(6,H 6 0),(7,iv x30.2.2.1),(9,H 9 0),(10,iv x40.2),(11,H 11 0),(12,iv x48.2.1),(13,iv x48.2.2),(57,bv zM)] [(5,Oa [C (I x30.1.Width),C (I x30.1.Height),Z (W 2 af x30.1.aH),Z (W 2 ah x30.1.aA)]),(6,Oc [Z (W 3 az x30.2.1)]),(9,Oc [Z (W 1 eI x40.1)]),(11,Oc [Z (W 1 eI x48.1)])]) (x40.2==2)) (by kernel_rfl) (congrArg (fun zM:Bool=>mk [(1,D 2 (W 1 (eK .u8) rG)),(5,M 5),(6,H 6 0),(7,iv x30.2.2.1),(9,H 9 0),(10,iv x40.2),(11,H 11 0),(12,iv x48.2.1),(13,iv x48.2.2),(57,bv zM)] [(5,Oa [C (I x30.1.Width),C (I x30.1.Height),Z (W 2 af x30.1.aH),Z (W 2 ah x30.1.aA)]),(6,Oc [Z (W 3 az x30.2.1)]),(9,Oc [Z (W 1 eI x40.1)]),(11,Oc [Z (W 1 eI x48.1)])]) (by first | rfl | (simp [(byF iEq hc3)];done) | (simp [(byF iEq hc3)];omega))))
   ·refine us<|gc h j (iOr iEq iEq) (fun hc4 h=>?_) fun hc4 h=>?_
    ·refine gs<|gX c5 j j j (mk [(4,bv ((x48.2.2==x40.2)&&(((x40.1.length:Int)==0)&&((x48.1.length:Int)==0))))] []) ?_ ?_
     ·refine xq (oMv j j)<|xq (oMv j j)<|xq (oBi j j j j)<|xq (oMv j j)<|?_
      by_cases hc5:x48.2.2=x40.2
      ·refine xqT j j (iEq.2 hc5) (oMv j j)<|xqT j j (iEq.2 hc5) (Dl j j xI j j j (fun e=>nomatch e))<|xqT j j (iEq.2 hc5) (oBi j j j j)<|xq (dP j j (iEq.2 hc5) j)<|xq (oMv j j)<|?_
       by_cases hc6:(x40.1.length:Int)=0
       ·exact xqT rfl rfl (iEq.2 hc6) (oMv rfl rfl)<|xqT rfl rfl (iEq.2 hc6) (Dl rfl rfl xI rfl rfl rfl (fun e=>nomatch e))<|xqT rfl rfl (iEq.2 hc6) (oBi rfl rfl rfl rfl)<|xq (dP rfl rfl (iEq.2 hc6) rfl)<|xq (aj rfl rfl)<|xn (Eq.trans (b:=(fun xB:Bool=>mk [(4,bv xB)] []) ((x48.1.length:Int)==0)) (by kernel_rfl) (congrArg (fun xB:Bool=>mk [(4,bv xB)] []) (by first | rfl | (simp [(iEq.2 hc5),(iEq.2 hc6)];done) | (simp [(iEq.2 hc5),(iEq.2 hc6)];omega) | (have q0:=(iEq.2 hc5);have q1:=(iEq.2 hc6);simp_all))))
       ·exact au rfl rfl (byF iEq hc6) rfl<|au rfl rfl (byF iEq hc6) rfl<|au rfl rfl (byF iEq hc6) rfl<|xq (dS rfl rfl (byF iEq hc6) rfl)<|xq (aj rfl rfl)<|xn (Eq.trans (b:=(fun xB:Bool=>mk [(4,bv xB)] []) false) (by kernel_rfl) (congrArg (fun xB:Bool=>mk [(4,bv xB)] []) (by first | rfl | (simp [(iEq.2 hc5),(byF iEq hc6)];done) | (simp [(iEq.2 hc5),(byF iEq hc6)];omega) | (have q0:=(iEq.2 hc5);have q1:=(byF iEq hc6);simp_all))))
      ·exact au rfl rfl (byF iEq hc5) rfl<|au rfl rfl (byF iEq hc5) rfl<|au rfl rfl (byF iEq hc5) rfl<|xq (dS rfl rfl (byF iEq hc5) rfl)<|xq (oMv rfl rfl)<|au rfl rfl rfl rfl<|au rfl rfl rfl rfl<|au rfl rfl rfl rfl<|xq (dS rfl rfl rfl rfl)<|xq (aj rfl rfl)<|xn (Eq.trans (b:=(fun xB:Bool=>mk [(4,bv xB)] []) false) (by kernel_rfl) (congrArg (fun xB:Bool=>mk [(4,bv xB)] []) (by first | rfl | (simp [(byF iEq hc5)];done) | (simp [(byF iEq hc5)];omega))))
     ·refine us<|Go.ret (Unw.ret ?_)
      cases h
      exact fr rF5 j
    ·refine Go.skip<|us<|gs<|gs<|?_
     obtain ⟨Io,jL,h⟩:=bs h
     refine gX c5 j j j (mk [(1,D 2 (W 1 (eK .u8) rG)),(9,H 9 0),(10,iv x40.2),(11,H 11 0),(12,iv x48.2.1),(13,iv x48.2.2),(108,bv Io)] [(9,Oc [Z (W 1 eI x40.1)]),(11,Oc [Z (W 1 eI x48.1)])]) ?_ ?_
     ·refine xq (oMv j j)<|xq (oBi j j j j)<|xq (oMv j j)<|?_
      refine ic jL (fun hc7 jL=>?_) fun hc7 jL=>?_
      ·obtain ⟨x78,SA,jL⟩:=bs jL
       refine xqT j j (iEq.2 hc7) (oLd (cs:=[.im 0 _,.im 0 _,.own 5 0 2,.own 5 0 3]) j iH j j)<|xqT j j (iEq.2 hc7) (oMv j j)<|xqT j j (iEq.2 hc7) (oMv j j)<|xqT j j (iEq.2 hc7) (oMv j j)<|xqT j j (iEq.2 hc7) (oCa (xs:=[.v true [.im 0 _,.im 0 _,.own 5 0 2,.own 5 0 3],.v false [.own 6 0 0],.v false [.im 0 _],.v false [.own 9 0 0]]) (vs:=[(false,[.im 0 _])]) (v:=.v false [.im 0 _]) (oJ SA) (.inl j) j qB j (ppC j (ppC j (ppC j (ppC j pp0)))) j j pb0 j j j)<|xqT j j (iEq.2 hc7) (oUn j j j)<|xq (dP j j (iEq.2 hc7) j)<|xq (oMv j j)<|?_
       refine ic jL (fun hc8 jL=>?_) fun hc8 jL=>?_
       ·refine xqT j j (nF (iR.2 hc8)) (oMv j j)<|xqT j j (nF (iR.2 hc8)) (oBi j j j j)<|xqT j j (nF (iR.2 hc8)) (oMv j j)<|?_
        refine ic jL (fun hc9 jL=>?_) fun hc9 jL=>?_
        ·obtain ⟨x89,Zk,jL⟩:=bs jL
         refine xqT j j (iEq.2 hc9) (oLd (cs:=[.im 0 _,.im 0 _,.own 5 0 2,.own 5 0 3]) j iH j j)<|xqT j j (iEq.2 hc9) (oMv j j)<|xqT j j (iEq.2 hc9) (oMv j j)<|xqT j j (iEq.2 hc9) (oMv j j)<|xqT j j (iEq.2 hc9) (oCa (xs:=[.v true [.im 0 _,.im 0 _,.own 5 0 2,.own 5 0 3],.v false [.own 6 0 0],.v false [.im 0 _],.v false [.own 11 0 0]]) (vs:=[(false,[.im 0 _])]) (v:=.v false [.im 0 _]) (oJ Zk) (.inl j) j qB j (ppC j (ppC j (ppC j (ppC j pp0)))) j j pb0 j j j)<|xqT j j (iEq.2 hc9) (oUn j j j)<|xqT j j (nF (iR.2 hc8)) (dP j j (iEq.2 hc9) j)<|xq (dS j j (nF (iR.2 hc8)) j)<|xq (oMv j j)<|?_
         refine ic jL (fun zI jL=>?_) fun zI jL=>?_
         ·refine xqT j j (nF (iR.2 zI)) (oMv j j)<|xqT j j (nF (iR.2 zI)) (oBi j j j j)<|xqT j j (nF (iR.2 zI)) (oMv j j)<|xqT j j (iEq.2 hc7) (oMv j j)<|xqT j j (iEq.2 hc7) (oBi j j j j)<|xqT j j (nF (iR.2 zI)) (dP j j (iEq.2 hc7) j)<|xq (dS j j (nF (iR.2 zI)) j)<|xq (oMv j j)<|?_
          refine ic jL (fun Ba jL=>?_) fun Ba jL=>?_
          ·cases jL
           exact au j j (iEq.2 Ba) j<|au j j (iEq.2 Ba) j<|au j j (iEq.2 Ba) j<|qj j j j<|qj j j j<|au j j (iEq.2 Ba) j<|xq (dP j j (iEq.2 Ba) j)<|xn
          ·refine xqT j j (byF iEq Ba) (oMv j j)<|xqT j j (byF iEq Ba) (oBi j j j j)<|xqT j j (byF iEq Ba) (oMv j j)<|?_
           refine ic jL (fun hc12 jL=>?_) fun hc12 jL=>?_
           ·cases jL
            exact xqT j j (iEq.2 hc12) (oMv j j)<|xqT j j (iEq.2 hc12) (oBi j j j j)<|xqT j j (byF iEq Ba) (dP j j (iEq.2 hc12) j)<|xq (dS j j (byF iEq Ba) j)<|xn
           ·cases jL
            exact au j j (byF iEq hc12) j<|au j j (byF iEq hc12) j<|xqT j j (byF iEq Ba) (dS j j (byF iEq hc12) j)<|xq (dS j j (byF iEq Ba) j)<|xn
         ·cases jL
          exact au j j (nT (byF iR zI)) j<|au j j (nT (byF iR zI)) j<|au j j (nT (byF iR zI)) j<|qj j j j<|qj j j j<|au j j (nT (byF iR zI)) j<|xq (dP j j (nT (byF iR zI)) j)<|xq (oMv j j)<|au j j j j<|au j j j j<|au j j j j<|qj j j j<|qj j j j<|au j j j j<|xq (dP j j j j)<|xn
        ·refine au j j (byF iEq hc9) j<|au j j (byF iEq hc9) j<|au j j (byF iEq hc9) j<|au j j (byF iEq hc9) j<|au j j (byF iEq hc9) j<|au j j (byF iEq hc9) j<|xqT j j (nF (iR.2 hc8)) (dS j j (byF iEq hc9) j)<|xq (dS j j (nF (iR.2 hc8)) j)<|xq (oMv j j)<|xqT j j j (oMv j j)<|xqT j j j (oBi j j j j)<|xqT j j j (oMv j j)<|xqT j j (iEq.2 hc7) (oMv j j)<|xqT j j (iEq.2 hc7) (oBi j j j j)<|xqT j j j (dP j j (iEq.2 hc7) j)<|xq (dS j j j j)<|xq (oMv j j)<|?_
         refine ic jL (fun hc13 jL=>?_) fun hc13 jL=>?_
         ·cases jL
          exact au j j (iEq.2 hc13) j<|au j j (iEq.2 hc13) j<|au j j (iEq.2 hc13) j<|qj j j j<|qj j j j<|au j j (iEq.2 hc13) j<|xq (dP j j (iEq.2 hc13) j)<|xn
         ·refine xqT j j (byF iEq hc13) (oMv j j)<|xqT j j (byF iEq hc13) (oBi j j j j)<|xqT j j (byF iEq hc13) (oMv j j)<|?_
          refine ic jL (fun Bc jL=>?_) fun Bc jL=>?_
          ·cases jL
           exact xqT j j (iEq.2 Bc) (oMv j j)<|xqT j j (iEq.2 Bc) (oBi j j j j)<|xqT j j (byF iEq hc13) (dP j j (iEq.2 Bc) j)<|xq (dS j j (byF iEq hc13) j)<|xn
          ·cases jL
           exact au j j (byF iEq Bc) j<|au j j (byF iEq Bc) j<|xqT j j (byF iEq hc13) (dS j j (byF iEq Bc) j)<|xq (dS j j (byF iEq hc13) j)<|xn
       ·cases jL
        exact au j j (nT (byF iR hc8)) j<|au j j (nT (byF iR hc8)) j<|au j j (nT (byF iR hc8)) j<|qj j j j<|qj j j j<|qj j j j<|qj j j j<|qj j j j<|qj j j j<|au j j (nT (byF iR hc8)) j<|xq (dP j j (nT (byF iR hc8)) j)<|xq (oMv j j)<|au j j j j<|au j j j j<|au j j j j<|qj j j j<|qj j j j<|au j j j j<|xq (dP j j j j)<|xq (oMv j j)<|au j j j j<|au j j j j<|au j j j j<|qj j j j<|qj j j j<|au j j j j<|xq (dP j j j j)<|xn
      ·refine au j j (byF iEq hc7) j<|au j j (byF iEq hc7) j<|au j j (byF iEq hc7) j<|au j j (byF iEq hc7) j<|au j j (byF iEq hc7) j<|au j j (byF iEq hc7) j<|xq (dS j j (byF iEq hc7) j)<|xq (oMv j j)<|xqT j j j (oMv j j)<|xqT j j j (oBi j j j j)<|xqT j j j (oMv j j)<|?_
       refine ic jL (fun xw jL=>?_) fun xw jL=>?_
       ·obtain ⟨x89,Zk,jL⟩:=bs jL
        refine xqT j j (iEq.2 xw) (oLd (cs:=[.im 0 _,.im 0 _,.own 5 0 2,.own 5 0 3]) j iH j j)<|xqT j j (iEq.2 xw) (oMv j j)<|xqT j j (iEq.2 xw) (oMv j j)<|xqT j j (iEq.2 xw) (oMv j j)<|xqT j j (iEq.2 xw) (oCa (xs:=[.v true [.im 0 _,.im 0 _,.own 5 0 2,.own 5 0 3],.v false [.own 6 0 0],.v false [.im 0 _],.v false [.own 11 0 0]]) (vs:=[(false,[.im 0 _])]) (v:=.v false [.im 0 _]) (oJ Zk) (.inl j) j qB j (ppC j (ppC j (ppC j (ppC j pp0)))) j j pb0 j j j)<|xqT j j (iEq.2 xw) (oUn j j j)<|xqT j j j (dP j j (iEq.2 xw) j)<|xq (dS j j j j)<|xq (oMv j j)<|?_
        refine ic jL (fun hc16 jL=>?_) fun hc16 jL=>?_
        ·refine xqT j j (nF (iR.2 hc16)) (oMv j j)<|xqT j j (nF (iR.2 hc16)) (oBi j j j j)<|xqT j j (nF (iR.2 hc16)) (oMv j j)<|au j j (byF iEq hc7) j<|au j j (byF iEq hc7) j<|xqT j j (nF (iR.2 hc16)) (dS j j (byF iEq hc7) j)<|xq (dS j j (nF (iR.2 hc16)) j)<|xq (oMv j j)<|xqT j j j (oMv j j)<|xqT j j j (oBi j j j j)<|xqT j j j (oMv j j)<|?_
         refine ic jL (fun hc17 jL=>?_) fun hc17 jL=>?_
         ·cases jL
          exact xqT j j (iEq.2 hc17) (oMv j j)<|xqT j j (iEq.2 hc17) (oBi j j j j)<|xqT j j j (dP j j (iEq.2 hc17) j)<|xq (dS j j j j)<|xn
         ·cases jL
          exact au j j (byF iEq hc17) j<|au j j (byF iEq hc17) j<|xqT j j j (dS j j (byF iEq hc17) j)<|xq (dS j j j j)<|xn
        ·cases jL
         exact au j j (nT (byF iR hc16)) j<|au j j (nT (byF iR hc16)) j<|au j j (nT (byF iR hc16)) j<|qj j j j<|qj j j j<|au j j (nT (byF iR hc16)) j<|xq (dP j j (nT (byF iR hc16)) j)<|xq (oMv j j)<|au j j j j<|au j j j j<|au j j j j<|qj j j j<|qj j j j<|au j j j j<|xq (dP j j j j)<|xn
       ·refine au j j (byF iEq xw) j<|au j j (byF iEq xw) j<|au j j (byF iEq xw) j<|au j j (byF iEq xw) j<|au j j (byF iEq xw) j<|au j j (byF iEq xw) j<|xqT j j j (dS j j (byF iEq xw) j)<|xq (dS j j j j)<|xq (oMv j j)<|xqT j j j (oMv j j)<|xqT j j j (oBi j j j j)<|xqT j j j (oMv j j)<|au j j (byF iEq hc7) j<|au j j (byF iEq hc7) j<|xqT j j j (dS j j (byF iEq hc7) j)<|xq (dS j j j j)<|xq (oMv j j)<|xqT j j j (oMv j j)<|xqT j j j (oBi j j j j)<|xqT j j j (oMv j j)<|?_
        refine ic jL (fun hc18 jL=>?_) fun hc18 jL=>?_
        ·cases jL
         exact xqT j j (iEq.2 hc18) (oMv j j)<|xqT j j (iEq.2 hc18) (oBi j j j j)<|xqT j j j (dP j j (iEq.2 hc18) j)<|xq (dS j j j j)<|xn
        ·cases jL
         exact au j j (byF iEq hc18) j<|au j j (byF iEq hc18) j<|xqT j j j (dS j j (byF iEq hc18) j)<|xq (dS j j j j)<|xn
     ·refine us<|gc h j iR (fun hc19 h=>?_) fun hc19 h=>?_
      ·refine gs<|g0 j j (q (aj j j)<|nl)<|us<|Go.ret (Unw.ret ?_)
       cases h
       exact fr rF5 j
      ·refine Go.skip<|us<|gs<|gs<|?_
       obtain ⟨Fa,yl,h⟩:=bs h
       refine gX c5 j j j (mk [(1,D 2 (W 1 (eK .u8) rG)),(130,bv Fa)] []) ?_ ?_
       ·refine xq (oMv j j)<|xq (oBi j j j j)<|xq (oMv j j)<|?_
        refine ic yl (fun oD yl=>?_) fun oD yl=>?_
        ·obtain ⟨x114,hx114,yl⟩:=bs yl
         refine xqT j j (iEq.2 oD) (oMv j j)<|xqT j j (iEq.2 oD) (oMv j j)<|xqT j j (iEq.2 oD) (oCa (xs:=[.v false [.own 11 0 0]]) (vs:=[(false,[.im 0 _])]) (v:=.v false [.im 0 _]) (zX hx114) (.inl j) j QK j (ppC j pp0) j j pb0 j j j)<|xqT j j (iEq.2 oD) (oBi j j j j)<|xq (dP j j (iEq.2 oD) j)<|xq (oMv j j)<|?_
         refine ic yl (fun hc21 yl=>?_) fun hc21 yl=>?_
         ·cases yl
          exact au j j (iNe.2 hc21) j<|au j j (iNe.2 hc21) j<|au j j (iNe.2 hc21) j<|qj j j j<|qj j j j<|au j j (iNe.2 hc21) j<|au j j (iNe.2 hc21) j<|qj j j j<|qj j j j<|qj j j j<|qj j j j<|au j j (iNe.2 hc21) j<|xq (dP j j (iNe.2 hc21) j)<|xn
         ·refine xqT j j (byF iNe hc21) (oMv j j)<|xqT j j (byF iNe hc21) (oBi j j j j)<|xqT j j (byF iNe hc21) (oMv j j)<|?_
          refine ic yl (fun hc22 yl=>?_) fun hc22 yl=>?_
          ·obtain ⟨aaf,aa7,yl⟩:=bs yl
           cases yl
           exact xqT j j (iEq.2 hc22) (oMv j j)<|xqT j j (iEq.2 hc22) (oBi j j j j)<|xqT j j (byF iNe hc21) (dP j j (iEq.2 hc22) j)<|xqT j j (byF iNe hc21) (oMv j j)<|xqT j j (iEq.2 oD) (oMv j j)<|xqT j j (iEq.2 oD) (oMv j j)<|xqT j j (iEq.2 oD) (oCa (xs:=[.v false [.own 9 0 0]]) (vs:=[(false,[.im 0 _])]) (v:=.v false [.im 0 _]) (zX aa7) (.inl j) j QK j (ppC j pp0) j j pb0 j j j)<|xqT j j (iEq.2 oD) (oBi j j j j)<|xqT j j (byF iNe hc21) (dP j j (iEq.2 oD) j)<|xq (dS j j (byF iNe hc21) j)<|xn
          ·cases yl
           exact au j j (byF iEq hc22) j<|au j j (byF iEq hc22) j<|xqT j j (byF iNe hc21) (dS j j (byF iEq hc22) j)<|xqT j j (byF iNe hc21) (oMv j j)<|au j j j j<|au j j j j<|au j j j j<|au j j j j<|xqT j j (byF iNe hc21) (dS j j j j)<|xq (dS j j (byF iNe hc21) j)<|xn
        ·refine au j j (byF iEq oD) j<|au j j (byF iEq oD) j<|au j j (byF iEq oD) j<|au j j (byF iEq oD) j<|xq (dS j j (byF iEq oD) j)<|xq (oMv j j)<|xqT j j j (oMv j j)<|xqT j j j (oBi j j j j)<|xqT j j j (oMv j j)<|?_
         refine ic yl (fun yh yl=>?_) fun yh yl=>?_
         ·cases yl
          exact xqT j j (iEq.2 yh) (oMv j j)<|xqT j j (iEq.2 yh) (oBi j j j j)<|xqT j j j (dP j j (iEq.2 yh) j)<|xqT j j j (oMv j j)<|au j j (byF iEq oD) j<|au j j (byF iEq oD) j<|au j j (byF iEq oD) j<|au j j (byF iEq oD) j<|xqT j j j (dS j j (byF iEq oD) j)<|xq (dS j j j j)<|xn
         ·cases yl
          exact au j j (byF iEq yh) j<|au j j (byF iEq yh) j<|xqT j j j (dS j j (byF iEq yh) j)<|xqT j j j (oMv j j)<|au j j j j<|au j j j j<|au j j j j<|au j j j j<|xqT j j j (dS j j j j)<|xq (dS j j j j)<|xn
       ·refine us<|gc h j iR (fun hc24 h=>?_) fun hc24 h=>?_
        ·refine gs<|g0 j j (q (aj j j)<|nl)<|us<|Go.ret (Unw.ret ?_)
         cases h
         exact fr rF5 j
        ·refine Go.skip<|us<|gs<|?_
         obtain ⟨rM,Vh,h⟩:=bs h
         refine g0 j j (q (oMv j j)<|q (oCr (xs:=[.v false [.im 2 _]]) (vs:=[(true,[.im 0 _,.im 0 _,.own 133 0 0,.own 133 0 1]),(false,[.own 133 0 2]),(false,[.im 0 _])]) (v:=.tup [(true,[.im 0 _,.im 0 _,.own 133 0 0,.own 133 0 1]),(false,[.own 133 0 2]),(false,[.im 0 _])]) (c:=⟨.sh,0,_⟩) (cs:=[⟨.sh,0,_⟩,⟨.sh,0,_⟩]) (y8 Vh) (.inl j) j Xo j (ppC j pp0) j j pb0 j j j)<|q (EU j j)<|q (oEx j j j)<|q (oEx j j j)<|q (oEx j j j)<|q (oAl j iH (tkI (tkI (tkN (tkN tk0)))))<|q (oSt iH j j j (tkI (tkI (tkO j j (tkO j j tk0)))) j j j)<|q (lD j j j j j)<|q (aj j j)<|nl)<|us<|gs<|?_
         obtain ⟨y7,aa8,h⟩:=bs h
         refine g1 j j (mk [(14,M 14),(15,H 15 0),(16,iv rM.2.2)] [(14,Oa [C (I rM.1.Width),C (I rM.1.Height),Z (W 2 af rM.1.aH),Z (W 2 ah rM.1.aA)]),(15,Oc [Z (W 3 az rM.2.1)])]) (q (oLd (cs:=[.im 0 _,.im 0 _,.own 14 0 2,.own 14 0 3]) j iH j j)<|q (oMv j j)<|q (oMv j j)<|q (oCr (xs:=[.v true [.im 0 _,.im 0 _,.own 14 0 2,.own 14 0 3],.v false [.own 15 0 0],.v false [.im 0 _]]) (vs:=[(false,[.own 141 0 0]),(false,[.im 0 _]),(false,[.im 0 _])]) (v:=.tup [(false,[.own 141 0 0]),(false,[.im 0 _]),(false,[.im 0 _])]) (c:=⟨.sh,0,_⟩) (cs:=[]) (Ce aa8) (.inl j) j LM j (ppC j (ppC j (ppC j pp0))) j j pb0 j j j)<|q (EU j j)<|q (oEx j j j)<|q (oEx j j j)<|q (oEx j j j)<|q (lD j j j j j)<|q (aj j j)<|q (aj j j)<|nl)<|us<|gs<|gs<|g0 j j (q (oMv j j)<|q (oBi j j j j)<|nl)<|us<|gc h j iNe (fun hc25 h=>?_) fun hc25 h=>?_
         ·refine gs<|gX c5 j j j (mk [(4,bv (((y7.1.length:Int)==0)&&(y7.2.1==0)))] []) ?_ ?_
          ·refine xq (oMv j j)<|xq (Dl j j xI j j j (fun e=>nomatch e))<|xq (oBi j j j j)<|xq (oMv j j)<|?_
           by_cases F9:(y7.1.length:Int)=0
           ·exact xqT rfl rfl (iEq.2 F9) (oMv rfl rfl)<|xqT rfl rfl (iEq.2 F9) (oBi rfl rfl rfl rfl)<|xq (dP rfl rfl (iEq.2 F9) rfl)<|xq (aj rfl rfl)<|xn (Eq.trans (b:=(fun zN:Bool=>mk [(4,bv zN)] []) (y7.2.1==0)) (by kernel_rfl) (congrArg (fun zN:Bool=>mk [(4,bv zN)] []) (by first | rfl | (simp [(iEq.2 F9)];done) | (simp [(iEq.2 F9)];omega))))
           ·exact au rfl rfl (byF iEq F9) rfl<|au rfl rfl (byF iEq F9) rfl<|xq (dS rfl rfl (byF iEq F9) rfl)<|xq (aj rfl rfl)<|xn (Eq.trans (b:=(fun zN:Bool=>mk [(4,bv zN)] []) false) (by kernel_rfl) (congrArg (fun zN:Bool=>mk [(4,bv zN)] []) (by first | rfl | (simp [(byF iEq F9)];done) | (simp [(byF iEq F9)];omega))))
          ·refine us<|Go.ret (Unw.ret ?_)
           cases h
           exact fr rF5 j
         ·refine Go.skip<|us<|gs<|gs<|?_
          obtain ⟨x158,hx158,h⟩:=bs h
          refine g0 j j (q (oLd (cs:=[.im 0 _,.im 0 _,.own 14 0 2,.own 14 0 3]) j iH j j)<|q (oMv j j)<|q (oMv j j)<|q (oMv j j)<|q (oCa (xs:=[.v true [.im 0 _,.im 0 _,.own 14 0 2,.own 14 0 3],.v false [.own 15 0 0],.v false [.im 0 _],.v false [.own 17 0 0]]) (vs:=[(false,[.im 0 _])]) (v:=.v false [.im 0 _]) (oJ hx158) (.inl j) j qB j (ppC j (ppC j (ppC j (ppC j pp0)))) j j pb0 j j j)<|q (oUn j j j)<|nl)<|us<|?_
          by_cases hc27:x158=true
          ·rw [if_pos hc27] at h
           refine gF j (nF (iR.2 hc27))<|Go.skip<|us<|gs<|gs<|g0 j j (q (oMv j j)<|q (oBi j j j j)<|nl)<|us<|gc h j iEq (fun hc28 h=>?_) fun hc28 h=>?_
           ·refine gs<|g0 j j (q (aj j j)<|nl)<|us<|Go.ret (Unw.ret ?_)
            cases h
            exact fr rF5 j
           ·refine Go.skip<|us<|gs<|?_
            obtain ⟨x168,hx168,h⟩:=bs h
            refine g0 j j (q (oLd (cs:=[.im 0 _,.im 0 _,.own 14 0 2,.own 14 0 3]) j iH j j)<|q (oMv j j)<|q (oMv j j)<|q (oBi j j j j)<|q (oMv j j)<|q (oCr (xs:=[.v true [.im 0 _,.im 0 _,.own 14 0 2,.own 14 0 3],.v false [.own 15 0 0],.v false [.im 0 _],.v false [.im 0 _]]) (vs:=[(false,[.own 168 0 0]),(false,[.im 0 _])]) (v:=.tup [(false,[.own 168 0 0]),(false,[.im 0 _])]) (c:=⟨.sh,0,_⟩) (cs:=[]) (uF hx168) (.inl j) j AX j (ppC j (ppC j (ppC j (ppC j pp0)))) j j pb0 j j j)<|q (EU j j)<|q (oEx j j j)<|q (oEx j j j)<|q (lD j j j j j)<|q (aj j j)<|nl)<|us<|gs<|g0 j j (q (oMv j j)<|q (oBi j j j j)<|q (aj j j)<|nl)<|us<|Go.ret (Unw.ret ?_)
            cases h
            exact fr rF5 j
          ·rw [if_neg hc27] at h
           refine gT j (nT (byF iR hc27))<|gs<|g0 j j (q (aj j j)<|nl)<|us<|Go.ret (Unw.ret ?_)
           cases h
           exact fr rF5 j
end
end Go.Proofs.Ytdibfdcmbjaejaa
