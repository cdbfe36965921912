/- The machine answers, at each function of the program that is reached, what its plain function answers: a further part. Conditions: none. -/
import Derived.Test.YtnjgcdpleghciaaGreatTfvLb
namespace Go.Proofs.YtnjgcdpleghciaaGreat
open Go Go.Sim Go.Pw Go.Proofs
set_option linter.unusedVariables false
set_option linter.unusedSimpArgs false
set_option maxRecDepth 100000
set_option maxHeartbeats 4000000
noncomputable section
theorem yE {zM:aA} {fC:(List ai)} {jo:Int} {iK:Int} {r:Bool} (h:jD zM fC jo iK=some r):FX 5 [.im 2 true (au zM),.im 2 false [W 3 ak fC],.im 2 false [I jo],.im 2 false [I iK]] (B0 [(false,[.im 0 (V r)])]):=by
 unfold jD at h
 refine gn 150 Tryz.func5 rfl ?_
 refine gs<|g0 j j (q (oBx j QU j (tkI (tkI (tkI (tkI tk0)))))<|q (ae j j)<|nl)<|us<|gs<|g0 j j (q (ae j j)<|nl)<|us<|gs<|?_
 obtain ⟨x26,O6,h⟩:=bs h
 refine g0 j j (q (oLd (cs:=[.im 0 _,.im 0 _,.im 2 _,.im 2 _]) j QU j j)<|q (oMv j j)<|q (oCa (xs:=[.v true [.im 0 _,.im 0 _,.im 2 _,.im 2 _],.v false [.im 0 _]]) (vs:=[(false,[.im 0 _])]) (v:=.v false [.im 0 _]) (Ib O6) (.inl j) j XH j (ppC j (ppC j pp0)) j j pb0 j j j)<|q (ae j j)<|nl)<|us<|gs<|gs<|g0 j j (q (oMv j j)<|q (oBi j j j j)<|nl)<|us<|gc h j ah (fun hc1 h=>?_) fun hc1 h=>?_
 ·refine gs<|g0 j j (q (ae j j)<|nl)<|us<|Go.ret (Unw.ret ?_)
  cases h
  exact fr rF5 j
 ·refine Go.skip<|us<|gs<|?_
  obtain ⟨x31,hx31,h⟩:=bs h
  refine g0 j j (q (oMv j j)<|q (oMv j j)<|q (oCa (xs:=[.v false [.im 2 _],.v false [.im 0 _]]) (vs:=[(false,[.im 0 _])]) (v:=.v false [.im 0 _]) (Ic hx31) (.inl j) j XJ j (ppC j (ppC j pp0)) j j pb0 j j j)<|q (ae j j)<|nl)<|us<|gs<|gs<|g0 j j (q (oMv j j)<|q (oBi j j j j)<|nl)<|us<|gc h j ah (fun hc2 h=>?_) fun hc2 h=>?_
  ·refine gs<|g0 j j (q (ae j j)<|nl)<|us<|Go.ret (Unw.ret ?_)
   cases h
   exact fr rF5 j
  ·refine Go.skip<|us<|gs<|?_
   obtain ⟨x36,Ce,h⟩:=bs h
   obtain ⟨x38,hx38,h⟩:=bs h
   obtain ⟨x41,Lm,h⟩:=bs h
   refine g0 j j (q (oLd (cs:=[.im 0 _,.im 0 _,.im 2 _,.im 2 _]) j QU j j)<|q (oCr (xs:=[.v true [.im 0 _,.im 0 _,.im 2 _,.im 2 _]]) (vs:=[(true,[.im 0 _,.im 0 _,.own 36 0 0,.own 36 0 1])]) (v:=.v true [.im 0 _,.im 0 _,.own 36 0 0,.own 36 0 1]) (c:=⟨.sh,0,_⟩) (cs:=[⟨.sh,0,_⟩]) (rf Ce) (.inl j) j O3 j (ppC j pp0) j j pb0 j j j)<|q (oMv j j)<|q (oCr (xs:=[.v false [.im 2 _]]) (vs:=[(false,[.own 38 0 0])]) (v:=.v false [.own 38 0 0]) (c:=⟨.sh,0,_⟩) (cs:=[]) (rq hx38) (.inl j) j Jv j (ppC j pp0) j j pb0 j j j)<|q (oMv j j)<|q (oMv j j)<|q (oCr (xs:=[.v true [.im 0 _,.im 0 _,.own 36 0 0,.own 36 0 1],.v false [.own 38 0 0],.v false [.im 2 _],.v false [.im 2 _]]) (vs:=[(false,[.own 41 0 0]),(false,[.im 0 _]),(false,[.im 0 _])]) (v:=.tup [(false,[.own 41 0 0]),(false,[.im 0 _]),(false,[.im 0 _])]) (c:=⟨.sh,0,_⟩) (cs:=[]) (DI Lm) (.inl j) j KT j (ppC j (ppC j (ppC j (ppC j pp0)))) j j pb0 j j j)<|q (LY j j)<|q (oEx j j j)<|q (oEx j j j)<|q (oEx j j j)<|q (jZ j j j j j)<|q (ae j j)<|q (ae j j)<|nl)<|us<|gs<|?_
   obtain ⟨x46,Pm,h⟩:=bs h
   refine g0 j j (q (oLd (cs:=[.im 0 _,.im 0 _,.im 2 _,.im 2 _]) j QU j j)<|q (oCF (xs:=[.v true [.im 0 _,.im 0 _,.im 2 _,.im 2 _]]) (vs:=[(true,[.im 0 _,.im 0 _,.fr _,.fr _])]) (v:=.v true [.im 0 _,.im 0 _,.fr _,.fr _]) (rf Pm) (.inl j) j O3 j (ppC j pp0) j j j j)<|q (oAl j AX (tkI (tkI (tkN (tkN tk0)))))<|q (oSt AX j j j (tkI (tkI (tkF (tkF tk0)))) j j j)<|nl)<|us<|gs<|?_
   obtain ⟨x48,ahF,h⟩:=bs h
   refine g1 j j (mk [(1,D 2 (W 3 ak fC)),(2,iv jo),(3,iv iK),(4,M 4),(10,H 10 0),(11,iv x41.2.1),(12,iv x41.2.2),(13,M 13)] [(4,Oa (G 2 (au zM))),(10,Oc [Z (W 1 eI x41.1)]),(13,Oa (K (au x46)))]) (q (oMv j j)<|q (oCr (xs:=[.v false [.im 2 _]]) (vs:=[(false,[.own 48 0 0])]) (v:=.v false [.own 48 0 0]) (c:=⟨.sh,0,_⟩) (cs:=[]) (rq ahF) (.inl j) j Jv j (ppC j pp0) j j pb0 j j j)<|q (jZ j j j j j)<|nl)<|us<|gs<|?_
   obtain ⟨x54,ads,h⟩:=bs h
   refine g0 j j (q (oLd (cs:=[.im 0 _,.im 0 _,.fr _,.fr _]) j AX j j)<|q (oMv j j)<|q (oMv j j)<|q (oMv j j)<|q (oCr (xs:=[.v true [.im 0 _,.im 0 _,.fr _,.fr _],.v false [.own 14 0 0],.v false [.im 0 _],.v false [.im 0 _]]) (vs:=[(false,[.own 54 0 0]),(false,[.im 0 _]),(false,[.im 0 _])]) (v:=.tup [(false,[.own 54 0 0]),(false,[.im 0 _]),(false,[.im 0 _])]) (c:=⟨.sh,0,_⟩) (cs:=[]) (xO ads) (.inl j) j Du j (ppC j (ppC j (ppC j (ppC j pp0)))) j j pb0 j j j)<|q (LY j j)<|q (oEx j j j)<|q (oEx j j j)<|q (oEx j j j)<|q (jZ j j j j j)<|q (ae j j)<|q (ae j j)<|nl)<|us<|gs<|gs<|?_
   obtain ⟨x60,adl,h⟩:=bs h
   refine gX c5 j j j (mk [(1,D 2 (W 3 ak fC)),(2,iv jo),(3,iv iK),(4,M 4),(10,H 10 0),(11,iv x41.2.1),(12,iv x41.2.2),(13,M 13),(14,H 14 0),(15,H 15 0),(16,iv x54.2.1),(17,iv x54.2.2),(71,bv ((!x60)||((x54.2.1 != x41.2.1)||(x54.2.2 != x41.2.2))))] [(4,Oa (G 2 (au zM))),(10,Oc [Z (W 1 eI x41.1)]),(13,Oa (K (au x46))),(14,Oc [Z (W 3 ak x48)]),(15,Oc [Z (W 1 eI x54.1)])]) ?_ ?_
   ·refine xq (oMv j j)<|xq (oMv j j)<|xq (oCa (xs:=[.v false [.own 15 0 0],.v false [.own 10 0 0]]) (vs:=[(false,[.im 0 _])]) (v:=.v false [.im 0 _]) (tJ adl) (.inl j) j BJ j (ppC j (ppC j pp0)) j j pb0 j j j)<|xq (oUn j j j)<|xq (oMv j j)<|?_
    by_cases hc3:x60=true
    ·refine xqT j j (nF (iR.2 hc3)) (oMv j j)<|xqT j j (nF (iR.2 hc3)) (oMv j j)<|xqT j j (nF (iR.2 hc3)) (oBi j j j j)<|xq (dK j j (nF (iR.2 hc3)) j)<|xq (oMv j j)<|?_
     by_cases hc4:x54.2.1≠x41.2.1
     ·exact aj rfl rfl (iNe.2 hc4) rfl<|aj rfl rfl (iNe.2 hc4) rfl<|aj rfl rfl (iNe.2 hc4) rfl<|xq (bF rfl rfl (iNe.2 hc4) rfl)<|xn (Eq.trans (b:=(fun qL:Bool=>mk [(1,D 2 (W 3 ak fC)),(2,iv jo),(3,iv iK),(4,M 4),(10,H 10 0),(11,iv x41.2.1),(12,iv x41.2.2),(13,M 13),(14,H 14 0),(15,H 15 0),(16,iv x54.2.1),(17,iv x54.2.2),(71,bv qL)] [(4,Oa (G 2 (au zM))),(10,Oc [Z (W 1 eI x41.1)]),(13,Oa (K (au x46))),(14,Oc [Z (W 3 ak x48)]),(15,Oc [Z (W 1 eI x54.1)])]) true) (by kernel_rfl) (congrArg (fun qL:Bool=>mk [(1,D 2 (W 3 ak fC)),(2,iv jo),(3,iv iK),(4,M 4),(10,H 10 0),(11,iv x41.2.1),(12,iv x41.2.2),(13,M 13),(14,H 14 0),(15,H 15 0),(16,iv x54.2.1),(17,iv x54.2.2),(71,bv qL)] [(4,Oa (G 2 (au zM))),(10,Oc [Z (W 1 eI x41.1)]),(13,Oa (K (au x46))),(14,Oc [Z (W 3 ak x48)]),(15,Oc [Z (W 1 eI x54.1)])]) (by first | rfl | (simp [(iR.2 hc3),(iNe.2 hc4)];done) | (simp [(iR.2 hc3),(iNe.2 hc4)];omega) | (have q0:=(iR.2 hc3);have q1:=(iNe.2 hc4);simp_all))))
     ·exact xqT rfl rfl (byF iNe hc4) (oMv rfl rfl)<|xqT rfl rfl (byF iNe hc4) (oMv rfl rfl)<|xqT rfl rfl (byF iNe hc4) (oBi rfl rfl rfl rfl)<|xq (dK rfl rfl (byF iNe hc4) rfl)<|xn (Eq.trans (b:=(fun qL:Bool=>mk [(1,D 2 (W 3 ak fC)),(2,iv jo),(3,iv iK),(4,M 4),(10,H 10 0),(11,iv x41.2.1),(12,iv x41.2.2),(13,M 13),(14,H 14 0),(15,H 15 0),(16,iv x54.2.1),(17,iv x54.2.2),(71,bv qL)] [(4,Oa (G 2 (au zM))),(10,Oc [Z (W 1 eI x41.1)]),(13,Oa (K (au x46))),(14,Oc [Z (W 3 ak x48)]),(15,Oc [Z (W 1 eI x54.1)])]) (x54.2.2 != x41.2.2)) (by kernel_rfl) (congrArg (fun qL:Bool=>mk [(1,D 2 (W 3 ak fC)),(2,iv jo),(3,iv iK),(4,M 4),(10,H 10 0),(11,iv x41.2.1),(12,iv x41.2.2),(13,M 13),(14,H 14 0),(15,H 15 0),(16,iv x54.2.1),(17,iv x54.2.2),(71,bv qL)] [(4,Oa (G 2 (au zM))),(10,Oc [Z (W 1 eI x41.1)]),(13,Oa (K (au x46))),(14,Oc [Z (W 3 ak x48)]),(15,Oc [Z (W 1 eI x54.1)])]) (by first | rfl | (simp [(iR.2 hc3),(byF iNe hc4)];done) | (simp [(iR.2 hc3),(byF iNe hc4)];omega) | (have q0:=(iR.2 hc3);have q1:=(byF iNe hc4);simp_all))))
    ·exact aj rfl rfl (nT (byF iR hc3)) rfl<|aj rfl rfl (nT (byF iR hc3)) rfl<|aj rfl rfl (nT (byF iR hc3)) rfl<|xq (bF rfl rfl (nT (byF iR hc3)) rfl)<|xq (oMv rfl rfl)<|aj rfl rfl rfl rfl<|aj rfl rfl rfl rfl<|aj rfl rfl rfl rfl<|xq (bF rfl rfl rfl rfl)<|xn (Eq.trans (b:=(fun qL:Bool=>mk [(1,D 2 (W 3 ak fC)),(2,iv jo),(3,iv iK),(4,M 4),(10,H 10 0),(11,iv x41.2.1),(12,iv x41.2.2),(13,M 13),(14,H 14 0),(15,H 15 0),(16,iv x54.2.1),(17,iv x54.2.2),(71,bv qL)] [(4,Oa (G 2 (au zM))),(10,Oc [Z (W 1 eI x41.1)]),(13,Oa (K (au x46))),(14,Oc [Z (W 3 ak x48)]),(15,Oc [Z (W 1 eI x54.1)])]) true) (by kernel_rfl) (congrArg (fun qL:Bool=>mk [(1,D 2 (W 3 ak fC)),(2,iv jo),(3,iv iK),(4,M 4),(10,H 10 0),(11,iv x41.2.1),(12,iv x41.2.2),(13,M 13),(14,H 14 0),(15,H 15 0),(16,iv x54.2.1),(17,iv x54.2.2),(71,bv qL)] [(4,Oa (G 2 (au zM))),(10,Oc [Z (W 1 eI x41.1)]),(13,Oa (K (au x46))),(14,Oc [Z (W 3 ak x48)]),(15,Oc [Z (W 1 eI x54.1)])]) (by first | rfl | (simp [(byF iR hc3)];done) | (simp [(byF iR hc3)];omega))))
   ·refine us<|gc h j (iOr (YY iR) (iOr iNe iNe)) (fun hc5 h=>?_) fun hc5 h=>?_
    ·refine gs<|g0 j j (q (ae j j)<|nl)<|us<|Go.ret (Unw.ret ?_)
     cases h
     exact fr rF5 j
    ·refine Go.skip<|us<|gs<|gs<|?_
     obtain ⟨x74,ahG,h⟩:=bs h
     obtain ⟨x75,adz,h⟩:=bs h
     refine gd c5 j j j j (mk [(1,D 2 (W 3 ak fC)),(2,iv jo),(3,iv iK),(4,M 4),(10,H 10 0),(11,iv x41.2.1),(12,iv x41.2.2),(13,M 13),(14,H 14 0),(15,H 15 0),(16,iv x54.2.1),(17,iv x54.2.2),(76,bv (!x75))] [(4,Oa (G 2 (au zM))),(10,Oc [Z (W 1 eI x41.1)]),(13,Oa (K (au x46))),(14,Oc [Z (W 3 ak x48)]),(15,Oc [Z (W 1 eI x54.1)])]) (t j j (oLd (cs:=[.im 0 _,.im 0 _,.fr _,.fr _]) j AX j j)<|t j j (oLd (cs:=[.im 0 _,.im 0 _,.im 2 _,.im 2 _]) j QU j j)<|sS (dN z5 j (oCr (xs:=[.v true [.im 0 _,.im 0 _,.im 2 _,.im 2 _]]) (vs:=[(true,[.im 0 _,.im 0 _,.own 74 0 0,.own 74 0 1])]) (v:=.v true [.im 0 _,.im 0 _,.own 74 0 0,.own 74 0 1]) (c:=⟨.sh,0,_⟩) (cs:=[⟨.sh,0,_⟩]) (rf ahG) (.inl j) j O3 j (ppC j pp0) j j pb0 j j j)) trivial (sS (dN z5 j (oCa (xs:=[.v true [.im 0 _,.im 0 _,.fr _,.fr _],.v true [.im 0 _,.im 0 _,.own 74 0 0,.own 74 0 1]]) (vs:=[(false,[.im 0 _])]) (v:=.v false [.im 0 _]) (Iu adz) (.inl j) j SN j (ppC j (ppC j pp0)) j j pb0 j j j)) trivial (t j j (oUn j j j)<|sD (by kernel_rfl))))<|us<|?_
     by_cases hc6:x75=true
     ·rw [if_pos hc6] at h
      refine gF j (nF (iR.2 hc6))<|Go.skip<|us<|gs<|gs<|?_
      obtain ⟨x79,ahH,h⟩:=bs h
      obtain ⟨x80,ahI,h⟩:=bs h
      refine g0 j j (q (oMv j j)<|q (oMv j j)<|q (oCr (xs:=[.v false [.im 2 _]]) (vs:=[(false,[.own 79 0 0])]) (v:=.v false [.own 79 0 0]) (c:=⟨.sh,0,_⟩) (cs:=[]) (rq ahH) (.inl j) j Jv j (ppC j pp0) j j pb0 j j j)<|q (oCa (xs:=[.v false [.own 14 0 0],.v false [.own 79 0 0]]) (vs:=[(false,[.im 0 _])]) (v:=.v false [.im 0 _]) (Iw ahI) (.inl j) j SQ j (ppC j (ppC j pp0)) j j pb0 j j j)<|q (oUn j j j)<|nl)<|us<|?_
      by_cases hc7:x80=true
      ·rw [if_pos hc7] at h
       refine gF j (nF (iR.2 hc7))<|Go.skip<|us<|gs<|g0 j j (q (ae j j)<|nl)<|us<|gs<|?_
       obtain ⟨x84,adx,h⟩:=bs h
       refine gS j j (mk [(1,D 2 (W 3 ak fC)),(2,iv jo),(3,iv iK),(4,M 4),(10,H 10 0),(11,iv x41.2.1),(12,iv x41.2.2),(13,M 13),(14,H 14 0),(15,H 15 0),(16,iv x54.2.1),(17,iv x54.2.2),(18,iv 1)] [(4,Oa (G 2 (au zM))),(10,Oc [Z (W 1 eI x41.1)]),(13,Oa (Kw (au x46))),(14,Oc [Z (W 3 ak x48)]),(15,Oc [Z (W 1 eI x54.1)])]) (q (oLd (cs:=[.im 0 _,.im 0 _,.ws _,.ws _]) j AX j j)<|q (oMv j j)<|q (oCa (xs:=[.v true [.im 0 _,.im 0 _,.ws _,.ws _],.v false [.im 0 _]]) (vs:=[(false,[.im 0 _])]) (v:=.v false [.im 0 _]) (FK adx) (.inl j) j Vk j (ppC j (ppC j pp0)) j j pb0 j j j)<|q (ae j j)<|nl)<|us<|gs<|?_
       obtain ⟨x87,X0,h⟩:=bs h
       refine g0 j j (q (oMv j j)<|q (oMv j j)<|q (oCa (xs:=[.v false [.own 14 0 0],.v false [.im 0 _]]) (vs:=[(false,[.im 0 _])]) (v:=.v false [.im 0 _]) (FM X0) (.inl j) j Vl j (ppC j (ppC j pp0)) j j (pbO j j j j pb0) j j j)<|q (ae j j)<|nl)<|us<|gs<|gs<|?_
       obtain ⟨H7,y9,h⟩:=bs h
       refine gX c5 j j (st1:=mk [(1,D 2 (W 3 ak fC)),(2,iv jo),(3,iv iK),(4,M 4),(10,H 10 0),(11,iv x41.2.1),(12,iv x41.2.2),(15,H 15 0),(16,iv x54.2.1),(17,iv x54.2.2),(18,iv x87.1)] [(4,Oa (G 2 (au zM))),(10,Oc [Z (W 1 eI x41.1)]),(15,Oc [Z (W 1 eI x54.1)])]) (by kernel_rfl) (mk [(1,D 2 (W 3 ak fC)),(2,iv jo),(3,iv iK),(4,M 4),(10,H 10 0),(11,iv x41.2.1),(12,iv x41.2.2),(15,H 15 0),(105,bv H7)] [(4,Oa (G 2 (au zM))),(10,Oc [Z (W 1 eI x41.1)]),(15,Oc [Z (W 1 eI x54.1)])]) ?_ ?_
       ·refine xq (oMv j j)<|xq (oBi j j j j)<|xq (oMv j j)<|?_
        refine ic y9 (fun hc8 y9=>?_) fun hc8 y9=>?_
        ·cases y9
         exact aj j j (ah.2 hc8) j<|aj j j (ah.2 hc8) j<|aj j j (ah.2 hc8) j<|aj j j (ah.2 hc8) j<|xq (bF j j (ah.2 hc8) j)<|xq (oMv j j)<|aj j j j j<|aj j j j j<|aj j j j j<|xq (bF j j j j)<|xq (oMv j j)<|aj j j j j<|aj j j j j<|aj j j j j<|xq (bF j j j j)<|xn
        ·obtain ⟨x93,hx93,y9⟩:=bs y9
         refine xqT j j (byF ah hc8) (oMv j j)<|xqT j j (byF ah hc8) (oMv j j)<|xqT j j (byF ah hc8) (oCa (xs:=[.v false [.own 15 0 0],.v false [.own 10 0 0]]) (vs:=[(false,[.im 0 _])]) (v:=.v false [.im 0 _]) (tJ hx93) (.inl j) j BJ j (ppC j (ppC j pp0)) j j pb0 j j j)<|xqT j j (byF ah hc8) (oUn j j j)<|xq (dK j j (byF ah hc8) j)<|xq (oMv j j)<|?_
         refine ic y9 (fun hc9 y9=>?_) fun hc9 y9=>?_
         ·refine xqT j j (nF (iR.2 hc9)) (oMv j j)<|xqT j j (nF (iR.2 hc9)) (oMv j j)<|xqT j j (nF (iR.2 hc9)) (oBi j j j j)<|xq (dK j j (nF (iR.2 hc9)) j)<|xq (oMv j j)<|?_
          refine ic y9 (fun Fq y9=>?_) fun Fq y9=>?_
          ·cases y9
           exact aj j j (iNe.2 Fq) j<|aj j j (iNe.2 Fq) j<|aj j j (iNe.2 Fq) j<|xq (bF j j (iNe.2 Fq) j)<|xn
          ·cases y9
           exact xqT j j (byF iNe Fq) (oMv j j)<|xqT j j (byF iNe Fq) (oMv j j)<|xqT j j (byF iNe Fq) (oBi j j j j)<|xq (dK j j (byF iNe Fq) j)<|xn
         ·cases y9
          exact aj j j (nT (byF iR hc9)) j<|aj j j (nT (byF iR hc9)) j<|aj j j (nT (byF iR hc9)) j<|xq (bF j j (nT (byF iR hc9)) j)<|xq (oMv j j)<|aj j j j j<|aj j j j j<|aj j j j j<|xq (bF j j j j)<|xn
       ·refine us<|gc h j iR (fun MB h=>?_) fun MB h=>?_
        ·refine gs<|g0 j j (q (ae j j)<|nl)<|us<|Go.ret (Unw.ret ?_)
         cases h
         exact fr rF5 j
        ·refine Go.skip<|us<|gs<|g0 j j (q (ae j j)<|nl)<|us<|gs<|?_
         obtain ⟨yc,XY,h⟩:=bs h
         refine g0 j j (q (oMv j j)<|q (oMv j j)<|q (oCa (xs:=[.v false [.own 15 0 0],.v false [.im 0 _]]) (vs:=[(false,[.im 0 _])]) (v:=.v false [.im 0 _]) (GH XY) (.inl j) j NI j (ppC j (ppC j pp0)) j j (pbO j j j j pb0) j j j)<|q (ae j j)<|nl)<|us<|gs<|g1 j j (mk [(1,D 2 (W 3 ak fC)),(2,iv jo),(3,iv iK),(4,M 4),(10,H 10 0),(11,iv x41.2.1),(12,iv x41.2.2),(15,H 15 0),(19,iv yc.1)] [(4,Oa (G 2 (au zM))),(10,Oc [Z (W 1 eI x41.1)]),(15,Oc [Z (W 1 eI yc.2)])]) (q (ae j j)<|nl)<|us<|gs<|?_
         obtain ⟨acL,afn,h⟩:=bs h
         refine g0 j j (q (oMv j j)<|q (oMv j j)<|q (oCa (xs:=[.v false [.own 15 0 0],.v false [.im 0 _]]) (vs:=[(false,[.im 0 _])]) (v:=.v false [.im 0 _]) (zH afn) (.inl j) j NJ j (ppC j (ppC j pp0)) j j pb0 j j j)<|q (ae j j)<|nl)<|us<|gs<|gs<|g0 j j (q (oMv j j)<|q (oBi j j j j)<|nl)<|us<|gc h j ah (fun hc12 h=>?_) fun hc12 h=>?_
         ·refine gs<|g0 j j (q (ae j j)<|nl)<|us<|Go.ret (Unw.ret ?_)
          cases h
          exact fr rF5 j
         ·refine Go.skip<|us<|gs<|gs<|g0 j j (q (oMv j j)<|q (oMv j j)<|q (oBi j j j j)<|nl)<|us<|gc h j iNe (fun hc13 h=>?_) fun hc13 h=>?_
          ·refine gs<|g0 j j (q (ae j j)<|nl)<|us<|Go.ret (Unw.ret ?_)
           cases h
           exact fr rF5 j
          ·refine Go.skip<|us<|gs<|?_
           obtain ⟨aew,afo,h⟩:=bs h
           obtain ⟨aex,afp,h⟩:=bs h
           obtain ⟨QH,afq,h⟩:=bs h
           refine g0 j j (q (oLd (cs:=[.im 0 _,.im 0 _,.im 2 _,.im 2 _]) j QU j j)<|q (oCr (xs:=[.v true [.im 0 _,.im 0 _,.im 2 _,.im 2 _]]) (vs:=[(true,[.im 0 _,.im 0 _,.own 119 0 0,.own 119 0 1])]) (v:=.v true [.im 0 _,.im 0 _,.own 119 0 0,.own 119 0 1]) (c:=⟨.sh,0,_⟩) (cs:=[⟨.sh,0,_⟩]) (rf afo) (.inl j) j O3 j (ppC j pp0) j j pb0 j j j)<|q (oMv j j)<|q (oCr (xs:=[.v false [.im 2 _]]) (vs:=[(false,[.own 121 0 0])]) (v:=.v false [.own 121 0 0]) (c:=⟨.sh,0,_⟩) (cs:=[]) (rq afp) (.inl j) j Jv j (ppC j pp0) j j pb0 j j j)<|q (oMv j j)<|q (oMv j j)<|q (oCr (xs:=[.v true [.im 0 _,.im 0 _,.own 119 0 0,.own 119 0 1],.v false [.own 121 0 0],.v false [.im 0 _],.v false [.im 0 _]]) (vs:=[(false,[.own 124 0 0]),(false,[.im 0 _]),(false,[.im 0 _])]) (v:=.tup [(false,[.own 124 0 0]),(false,[.im 0 _]),(false,[.im 0 _])]) (c:=⟨.sh,0,_⟩) (cs:=[]) (xO afq) (.inl j) j Du j (ppC j (ppC j (ppC j (ppC j pp0)))) j j pb0 j j j)<|q (LY j j)<|q (oEx j j j)<|q (oEx j j j)<|q (oEx j j j)<|q (jZ j j j j j)<|q (ae j j)<|q (ae j j)<|nl)<|us<|gs<|gs<|?_
           obtain ⟨Y4,afr,h⟩:=bs h
           refine gX c5 j j j (mk [(15,H 15 0),(19,iv yc.1),(141,bv ((!Y4)||((QH.2.1 != x41.2.1)||(QH.2.2 != x41.2.2))))] [(15,Oc [Z (W 1 eI yc.2)])]) ?_ ?_
           ·refine xq (oMv j j)<|xq (oMv j j)<|xq (oCa (xs:=[.v false [.own 21 0 0],.v false [.own 10 0 0]]) (vs:=[(false,[.im 0 _])]) (v:=.v false [.im 0 _]) (tJ afr) (.inl j) j BJ j (ppC j (ppC j pp0)) j j pb0 j j j)<|xq (oUn j j j)<|xq (oMv j j)<|?_
            by_cases AZ:Y4=true
            ·refine xqT j j (nF (iR.2 AZ)) (oMv j j)<|xqT j j (nF (iR.2 AZ)) (oMv j j)<|xqT j j (nF (iR.2 AZ)) (oBi j j j j)<|xq (dK j j (nF (iR.2 AZ)) j)<|xq (oMv j j)<|?_
             by_cases A7:QH.2.1≠x41.2.1
             ·exact aj rfl rfl (iNe.2 A7) rfl<|aj rfl rfl (iNe.2 A7) rfl<|aj rfl rfl (iNe.2 A7) rfl<|xq (bF rfl rfl (iNe.2 A7) rfl)<|xn (Eq.trans (b:=(fun oz:Bool=>mk [(15,H 15 0),(19,iv yc.1),(141,bv oz)] [(15,Oc [Z (W 1 eI yc.2)])]) true) (by kernel_rfl) (congrArg (fun oz:Bool=>mk [(15,H 15 0),(19,iv yc.1),(141,bv oz)] [(15,Oc [Z (W 1 eI yc.2)])]) (by first | rfl | (simp [(iR.2 AZ),(iNe.2 A7)];done) | (simp [(iR.2 AZ),(iNe.2 A7)];omega) | (have q0:=(iR.2 AZ);have q1:=(iNe.2 A7);simp_all))))
             ·exact xqT rfl rfl (byF iNe A7) (oMv rfl rfl)<|xqT rfl rfl (byF iNe A7) (oMv rfl rfl)<|xqT rfl rfl (byF iNe A7) (oBi rfl rfl rfl rfl)<|xq (dK rfl rfl (byF iNe A7) rfl)<|xn (Eq.trans (b:=(fun oz:Bool=>mk [(15,H 15 0),(19,iv yc.1),(141,bv oz)] [(15,Oc [Z (W 1 eI yc.2)])]) (QH.2.2 != x41.2.2)) (by kernel_rfl) (congrArg (fun oz:Bool=>mk [(15,H 15 0),(19,iv yc.1),(141,bv oz)] [(15,Oc [Z (W 1 eI yc.2)])]) (by first | rfl | (simp [(iR.2 AZ),(byF iNe A7)];done) | (simp [(iR.2 AZ),(byF iNe A7)];omega) | (have q0:=(iR.2 AZ);have q1:=(byF iNe A7);simp_all))))
            ·exact aj rfl rfl (nT (byF iR AZ)) rfl<|aj rfl rfl (nT (byF iR AZ)) rfl<|aj rfl rfl (nT (byF iR AZ)) rfl<|xq (bF rfl rfl (nT (byF iR AZ)) rfl)<|xq (oMv rfl rfl)<|aj rfl rfl rfl rfl<|aj rfl rfl rfl rfl<|aj rfl rfl rfl rfl<|xq (bF rfl rfl rfl rfl)<|xn (Eq.trans (b:=(fun oz:Bool=>mk [(15,H 15 0),(19,iv yc.1),(141,bv oz)] [(15,Oc [Z (W 1 eI yc.2)])]) true) (by kernel_rfl) (congrArg (fun oz:Bool=>mk [(15,H 15 0),(19,iv yc.1),(141,bv oz)] [(15,Oc [Z (W 1 eI yc.2)])]) (by first | rfl | (simp [(byF iR AZ)];done) | (simp [(byF iR AZ)];omega))))
           ·refine us<|gc h j (iOr (YY iR) (iOr iNe iNe)) (fun hc16 h=>?_) fun hc16 h=>?_
            ·refine gs<|g0 j j (q (ae j j)<|nl)<|us<|Go.ret (Unw.ret ?_)
             cases h
             exact fr rF5 j
            ·refine Go.skip<|us<|gs<|g0 j j (q (ae j j)<|nl)<|us<|gs<|?_
             obtain ⟨acM,afs,h⟩:=bs h
             refine g0 j j (q (oMv j j)<|q (oMv j j)<|q (oCa (xs:=[.v false [.own 15 0 0],.v false [.im 0 _]]) (vs:=[(false,[.im 0 _])]) (v:=.v false [.im 0 _]) (zH afs) (.inl j) j NJ j (ppC j (ppC j pp0)) j j pb0 j j j)<|q (ae j j)<|nl)<|us<|gs<|gs<|g0 j j (q (oMv j j)<|q (oBi j j j j)<|nl)<|us<|gc h j ah (fun hc17 h=>?_) fun hc17 h=>?_
             ·refine gs<|g0 j j (q (ae j j)<|nl)<|us<|Go.ret (Unw.ret ?_)
              cases h
              exact fr rF5 j
             ·refine Go.skip<|us<|gs<|gs<|g0 j j (q (oMv j j)<|q (oMv j j)<|q (oBi j j j j)<|nl)<|us<|gc h j iNe (fun hc18 h=>?_) fun hc18 h=>?_
              ·refine gs<|g0 j j (q (ae j j)<|nl)<|us<|Go.ret (Unw.ret ?_)
               cases h
               exact fr rF5 j
              ·refine Go.skip<|us<|gs<|g0 j j (q (ae j j)<|nl)<|us<|Go.ret (Unw.ret ?_)
               cases h
               exact fr rF5 j
      ·rw [if_neg hc7] at h
       refine gT j (nT (byF iR hc7))<|gs<|g0 j j (q (ae j j)<|nl)<|us<|Go.ret (Unw.ret ?_)
       cases h
       exact fr rF5 j
     ·rw [if_neg hc6] at h
      refine gT j (nT (byF iR hc6))<|gs<|g0 j j (q (ae j j)<|nl)<|us<|Go.ret (Unw.ret ?_)
      cases h
      exact fr rF5 j
end
end Go.Proofs.YtnjgcdpleghciaaGreat
