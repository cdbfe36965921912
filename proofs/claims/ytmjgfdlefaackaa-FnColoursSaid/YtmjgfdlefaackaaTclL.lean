/- The machine answers, at each function of the program that is reached, what its plain function answers: a further part. Conditions: none. -/
import Derived.Test.YtmjgfdlefaackaaTclLa
namespace Go.Proofs.Ytmjgfdlefaackaa
open Go Go.Sim Go.Pw Go.Proofs
set_option linter.unusedVariables false
set_option linter.unusedSimpArgs false
set_option maxRecDepth 100000
set_option maxHeartbeats 4000000
noncomputable section
theorem A7 {dB:(List Int)} {mQ:(List Int)} {r:Bool} (h:oV dB mQ=some r):FX 3 [.im 2 false [W 1 (eK .u8) dB],.im 2 false [W 1 (eK .u8) mQ]] (B0 [(false,[.im 0 (V r)])]):=by
 unfold oV at h
 refine gn 199 Try.func3 rfl ?_
 refine gs<|g0 j j (q (ai j j)<|nl)<|us<|gs<|gs<|?_
 obtain ⟨x27,hx27,h⟩:=bs h
 refine g0 j j (q (oMv j j)<|q (oMv j j)<|q (oCa (xs:=[.v false [.im 2 _],.v false [.im 2 _]]) (vs:=[(false,[.im 0 _])]) (v:=.v false [.im 0 _]) (Es hx27) (.inl j) j MH j (ppC j (ppC j pp0)) j j pb0 j j j)<|nl)<|us<|gc h j iR (fun hc1 h=>?_) fun hc1 h=>?_
 ·refine gs<|g0 j j (q (ai j j)<|nl)<|us<|Go.ret (Unw.ret ?_)
  cases h
  exact fr rF3 j
 ·refine Go.skip<|us<|gs<|?_
  obtain ⟨x29,hx29,h⟩:=bs h
  refine g0 j j (q (oMv j j)<|q (oCr (xs:=[.v false [.im 2 _]]) (vs:=[(true,[.im 0 _,.im 0 _,.own 29 0 0])]) (v:=.v true [.im 0 _,.im 0 _,.own 29 0 0]) (c:=⟨.sh,0,_⟩) (cs:=[]) (BM hx29) (.inl j) j TT j (ppC j pp0) j j pb0 j j j)<|q (oAl j dS (tkI (tkI (tkN tk0))))<|q (oSt dS j j j (tkI (tkI (tkO j j tk0))) j j j)<|nl)<|us<|gs<|?_
  obtain ⟨x32,hx32,h⟩:=bs h
  refine g1 j j (mk [(1,D 2 (W 1 (eK .u8) mQ)),(5,M 5)] [(5,Oa [C (I x29.aB),C (I x29.High),Z (W 1 eI x29.Cells)])]) (q (oLd (cs:=[.im 0 _,.im 0 _,.own 5 0 2]) j dS j j)<|q (oCr (xs:=[.v true [.im 0 _,.im 0 _,.own 5 0 2],.v false [.im 0 _]]) (vs:=[(false,[.own 32 0 0]),(false,[.im 0 _]),(false,[.im 0 _])]) (v:=.tup [(false,[.own 32 0 0]),(false,[.im 0 _]),(false,[.im 0 _])]) (c:=⟨.sh,0,_⟩) (cs:=[]) (xN hx32) (.inl j) j OH j (ppC j (ppC j pp0)) j j pb0 j j j)<|q (uY j j)<|q (oEx j j j)<|q (oEx j j j)<|q (oEx j j j)<|q (qO j j j j j)<|q (ai j j)<|q (ai j j)<|nl)<|us<|gs<|?_
  obtain ⟨x39,hx39,h⟩:=bs h
  obtain ⟨x41,OU,h⟩:=bs h
  obtain ⟨x42,MJ,h⟩:=bs h
  refine gd c3 j j j j (mk [(5,M 5),(6,H 6 0),(7,iv x32.2.1),(8,iv x32.2.2),(9,M 9)] [(5,Oa [C (I x29.aB),C (I x29.High),Z (W 1 eI x29.Cells)]),(6,Oc [Z (W 1 eI x32.1)]),(9,Oa [C (I x42.1.aB),C (I x42.1.High),Z (W 1 eI x42.1.Cells)])]) (t j j (oLd (cs:=[.im 0 _,.im 0 _,.own 5 0 2]) j dS j j)<|t j j (oMv j j)<|t j j (oMv j j)<|sF (dN z3 j (oCa (xs:=[.v false [.im 2 _],.v false [.im 0 _],.v false [.im 0 _]]) (vs:=[(false,[.im 0 _])]) (v:=.v false [.im 0 _]) (ru hx39) (.inl j) j tN j (ppC j (ppC j (ppC j pp0))) j j pb0 j j j)) trivial (sF (dN z3 j (oCa (xs:=[.v false [.im 2 _],.v false [.im 0 _],.v false [.im 0 _]]) (vs:=[(false,[.im 0 _])]) (v:=.v false [.im 0 _]) (ru OU) (.inl j) j tN j (ppC j (ppC j (ppC j pp0))) j j pb0 j j j)) trivial (sF (dN z3 j (oCr (xs:=[.v true [.im 0 _,.im 0 _,.own 5 0 2],.v false [.im 0 _],.v false [.im 0 _]]) (vs:=[(true,[.im 0 _,.im 0 _,.own 42 0 0]),(false,[.im 0 _])]) (v:=.tup [(true,[.im 0 _,.im 0 _,.own 42 0 0]),(false,[.im 0 _])]) (c:=⟨.sh,0,_⟩) (cs:=[]) (kH MJ) (.inl j) j wG j (ppC j (ppC j (ppC j pp0))) j j pb0 j j j)) trivial (t j j (uY j j)<|t j j (oEx j j j)<|t j j (oEx j j j)<|sS (dN z3 j (oAl j dS (tkI (tkI (tkN tk0))))) trivial (sS (dN z3 j (oSt dS j j j (tkI (tkI (tkO j j tk0))) j j j)) trivial (sS (dN z3 j (ai j j)) trivial (sD (by kernel_rfl))))) (sS (dN z3 j (oAl j dS (tkI (tkI (tkN tk0))))) trivial (sS (dN z3 j (oCr (xs:=[.v true [.im 0 _,.im 0 _,.own 5 0 2],.v false [.im 0 _],.v false [.im 0 _]]) (vs:=[(true,[.im 0 _,.im 0 _,.own 42 0 0]),(false,[.im 0 _])]) (v:=.tup [(true,[.im 0 _,.im 0 _,.own 42 0 0]),(false,[.im 0 _])]) (c:=⟨.sh,0,_⟩) (cs:=[]) (kH MJ) (.inl j) j wG j (ppC j (ppC j (ppC j pp0))) j j pb0 j j j)) trivial (t j j (uY j j)<|t j j (oEx j j j)<|t j j (oEx j j j)<|sS (dN z3 j (oSt dS j j j (tkI (tkI (tkO j j tk0))) j j j)) trivial (sS (dN z3 j (ai j j)) trivial (sD (by kernel_rfl))))))) (sS (dN z3 j (oAl j dS (tkI (tkI (tkN tk0))))) trivial (sS (dN z3 j (oCa (xs:=[.v false [.im 2 _],.v false [.im 0 _],.v false [.im 0 _]]) (vs:=[(false,[.im 0 _])]) (v:=.v false [.im 0 _]) (ru OU) (.inl j) j tN j (ppC j (ppC j (ppC j pp0))) j j pb0 j j j)) trivial (sS (dN z3 j (oCr (xs:=[.v true [.im 0 _,.im 0 _,.own 5 0 2],.v false [.im 0 _],.v false [.im 0 _]]) (vs:=[(true,[.im 0 _,.im 0 _,.own 42 0 0]),(false,[.im 0 _])]) (v:=.tup [(true,[.im 0 _,.im 0 _,.own 42 0 0]),(false,[.im 0 _])]) (c:=⟨.sh,0,_⟩) (cs:=[]) (kH MJ) (.inl j) j wG j (ppC j (ppC j (ppC j pp0))) j j pb0 j j j)) trivial (t j j (uY j j)<|t j j (oEx j j j)<|t j j (oEx j j j)<|sS (dN z3 j (oSt dS j j j (tkI (tkI (tkO j j tk0))) j j j)) trivial (sS (dN z3 j (ai j j)) trivial (sD (by kernel_rfl)))))))) (sS (dN z3 j (oAl j dS (tkI (tkI (tkN tk0))))) trivial (sS (dN z3 j (oCa (xs:=[.v false [.im 2 _],.v false [.im 0 _],.v false [.im 0 _]]) (vs:=[(false,[.im 0 _])]) (v:=.v false [.im 0 _]) (ru hx39) (.inl j) j tN j (ppC j (ppC j (ppC j pp0))) j j pb0 j j j)) trivial (sS (dN z3 j (oCa (xs:=[.v false [.im 2 _],.v false [.im 0 _],.v false [.im 0 _]]) (vs:=[(false,[.im 0 _])]) (v:=.v false [.im 0 _]) (ru OU) (.inl j) j tN j (ppC j (ppC j (ppC j pp0))) j j pb0 j j j)) trivial (sS (dN z3 j (oCr (xs:=[.v true [.im 0 _,.im 0 _,.own 5 0 2],.v false [.im 0 _],.v false [.im 0 _]]) (vs:=[(true,[.im 0 _,.im 0 _,.own 42 0 0]),(false,[.im 0 _])]) (v:=.tup [(true,[.im 0 _,.im 0 _,.own 42 0 0]),(false,[.im 0 _])]) (c:=⟨.sh,0,_⟩) (cs:=[]) (kH MJ) (.inl j) j wG j (ppC j (ppC j (ppC j pp0))) j j pb0 j j j)) trivial (t j j (uY j j)<|t j j (oEx j j j)<|t j j (oEx j j j)<|sS (dN z3 j (oSt dS j j j (tkI (tkI (tkO j j tk0))) j j j)) trivial (sS (dN z3 j (ai j j)) trivial (sD (by kernel_rfl)))))))))<|us<|gs<|?_
  obtain ⟨x47,Ua,h⟩:=bs h
  refine g0 j j (q (oLd (cs:=[.im 0 _,.im 0 _,.own 5 0 2]) j dS j j)<|q (oCa (xs:=[.v true [.im 0 _,.im 0 _,.own 5 0 2]]) (vs:=[(false,[.im 0 _]),(false,[.im 0 _])]) (v:=.tup [(false,[.im 0 _]),(false,[.im 0 _])]) (tY Ua) (.inl j) j OI j (ppC j pp0) j j pb0 j j j)<|q (uY j j)<|q (oEx j j j)<|q (oEx j j j)<|q (ai j j)<|q (ai j j)<|nl)<|us<|gs<|?_
  obtain ⟨x52,Ud,h⟩:=bs h
  refine g0 j j (q (oLd (cs:=[.im 0 _,.im 0 _,.own 9 0 2]) j dS j j)<|q (oCa (xs:=[.v true [.im 0 _,.im 0 _,.own 9 0 2]]) (vs:=[(false,[.im 0 _]),(false,[.im 0 _])]) (v:=.tup [(false,[.im 0 _]),(false,[.im 0 _])]) (tY Ud) (.inl j) j OI j (ppC j pp0) j j pb0 j j j)<|q (uY j j)<|q (oEx j j j)<|q (oEx j j j)<|q (ai j j)<|q (ai j j)<|nl)<|us<|gs<|?_
  obtain ⟨x57,XJ,h⟩:=bs h
  refine g0 j j (q (oLd (cs:=[.im 0 _,.im 0 _,.own 5 0 2]) j dS j j)<|q (oCa (xs:=[.v true [.im 0 _,.im 0 _,.own 5 0 2]]) (vs:=[(false,[.im 0 _]),(false,[.im 0 _])]) (v:=.tup [(false,[.im 0 _]),(false,[.im 0 _])]) (tZ XJ) (.inl j) j KG j (ppC j pp0) j j pb0 j j j)<|q (uY j j)<|q (oEx j j j)<|q (oEx j j j)<|q (ai j j)<|q (ai j j)<|nl)<|us<|gs<|?_
  obtain ⟨x62,Uf,h⟩:=bs h
  refine g0 j j (q (oLd (cs:=[.im 0 _,.im 0 _,.own 9 0 2]) j dS j j)<|q (oCa (xs:=[.v true [.im 0 _,.im 0 _,.own 9 0 2]]) (vs:=[(false,[.im 0 _]),(false,[.im 0 _])]) (v:=.tup [(false,[.im 0 _]),(false,[.im 0 _])]) (tZ Uf) (.inl j) j KG j (ppC j pp0) j j pb0 j j j)<|q (uY j j)<|q (oEx j j j)<|q (oEx j j j)<|q (ai j j)<|q (ai j j)<|nl)<|us<|gs<|gs<|gX c3 j j j (mk [(5,M 5),(6,H 6 0),(7,iv x32.2.1),(8,iv x32.2.2),(96,bv ((x47.2 != 0)||((x52.2 != 0)||((x47.1 != x52.1)||((decide (x47.1<0))||((x57.2 != 0)||((x62.2 != 0)||((x57.1 != x62.1)||(decide (x57.1<0))))))))))] [(5,Oa [C (I x29.aB),C (I x29.High),Z (W 1 eI x29.Cells)]),(6,Oc [Z (W 1 eI x32.1)])]) ?_ ?_
  ·refine xq (oMv j j)<|xq (oBi j j j j)<|xq (oMv j j)<|?_
   by_cases hc2:x47.2≠0
   ·exact aC rfl rfl (iNe.2 hc2) rfl<|aC rfl rfl (iNe.2 hc2) rfl<|xq (dZ rfl rfl (iNe.2 hc2) rfl)<|xq (oMv rfl rfl)<|aC rfl rfl rfl rfl<|aC rfl rfl rfl rfl<|aC rfl rfl rfl rfl<|xq (dZ rfl rfl rfl rfl)<|xq (oMv rfl rfl)<|aC rfl rfl rfl rfl<|aC rfl rfl rfl rfl<|xq (dZ rfl rfl rfl rfl)<|xq (oMv rfl rfl)<|aC rfl rfl rfl rfl<|aC rfl rfl rfl rfl<|xq (dZ rfl rfl rfl rfl)<|xq (oMv rfl rfl)<|aC rfl rfl rfl rfl<|aC rfl rfl rfl rfl<|xq (dZ rfl rfl rfl rfl)<|xq (oMv rfl rfl)<|aC rfl rfl rfl rfl<|aC rfl rfl rfl rfl<|aC rfl rfl rfl rfl<|xq (dZ rfl rfl rfl rfl)<|xq (oMv rfl rfl)<|aC rfl rfl rfl rfl<|aC rfl rfl rfl rfl<|xq (dZ rfl rfl rfl rfl)<|xn (Eq.trans (b:=(fun bg:Bool=>mk [(5,M 5),(6,H 6 0),(7,iv x32.2.1),(8,iv x32.2.2),(96,bv bg)] [(5,Oa [C (I x29.aB),C (I x29.High),Z (W 1 eI x29.Cells)]),(6,Oc [Z (W 1 eI x32.1)])]) true) (by kernel_rfl) (congrArg (fun bg:Bool=>mk [(5,M 5),(6,H 6 0),(7,iv x32.2.1),(8,iv x32.2.2),(96,bv bg)] [(5,Oa [C (I x29.aB),C (I x29.High),Z (W 1 eI x29.Cells)]),(6,Oc [Z (W 1 eI x32.1)])]) (by first | rfl | (simp [(iNe.2 hc2)];done) | (simp [(iNe.2 hc2)];omega))))
   ·refine xqT j j (byF iNe hc2) (oMv j j)<|xqT j j (byF iNe hc2) (oBi j j j j)<|xq (kM j j (byF iNe hc2) j)<|xq (oMv j j)<|?_
    by_cases hc3:x52.2≠0
    ·exact aC rfl rfl (iNe.2 hc3) rfl<|aC rfl rfl (iNe.2 hc3) rfl<|aC rfl rfl (iNe.2 hc3) rfl<|xq (dZ rfl rfl (iNe.2 hc3) rfl)<|xq (oMv rfl rfl)<|aC rfl rfl rfl rfl<|aC rfl rfl rfl rfl<|xq (dZ rfl rfl rfl rfl)<|xq (oMv rfl rfl)<|aC rfl rfl rfl rfl<|aC rfl rfl rfl rfl<|xq (dZ rfl rfl rfl rfl)<|xq (oMv rfl rfl)<|aC rfl rfl rfl rfl<|aC rfl rfl rfl rfl<|xq (dZ rfl rfl rfl rfl)<|xq (oMv rfl rfl)<|aC rfl rfl rfl rfl<|aC rfl rfl rfl rfl<|aC rfl rfl rfl rfl<|xq (dZ rfl rfl rfl rfl)<|xq (oMv rfl rfl)<|aC rfl rfl rfl rfl<|aC rfl rfl rfl rfl<|xq (dZ rfl rfl rfl rfl)<|xn (Eq.trans (b:=(fun bg:Bool=>mk [(5,M 5),(6,H 6 0),(7,iv x32.2.1),(8,iv x32.2.2),(96,bv bg)] [(5,Oa [C (I x29.aB),C (I x29.High),Z (W 1 eI x29.Cells)]),(6,Oc [Z (W 1 eI x32.1)])]) true) (by kernel_rfl) (congrArg (fun bg:Bool=>mk [(5,M 5),(6,H 6 0),(7,iv x32.2.1),(8,iv x32.2.2),(96,bv bg)] [(5,Oa [C (I x29.aB),C (I x29.High),Z (W 1 eI x29.Cells)]),(6,Oc [Z (W 1 eI x32.1)])]) (by first | rfl | (simp [(byF iNe hc2),(iNe.2 hc3)];done) | (simp [(byF iNe hc2),(iNe.2 hc3)];omega) | (have q0:=(byF iNe hc2);have q1:=(iNe.2 hc3);simp_all))))
    ·refine xqT j j (byF iNe hc3) (oMv j j)<|xqT j j (byF iNe hc3) (oMv j j)<|xqT j j (byF iNe hc3) (oBi j j j j)<|xq (kM j j (byF iNe hc3) j)<|xq (oMv j j)<|?_
     by_cases hc4:x47.1≠x52.1
     ·exact aC rfl rfl (iNe.2 hc4) rfl<|aC rfl rfl (iNe.2 hc4) rfl<|xq (dZ rfl rfl (iNe.2 hc4) rfl)<|xq (oMv rfl rfl)<|aC rfl rfl rfl rfl<|aC rfl rfl rfl rfl<|xq (dZ rfl rfl rfl rfl)<|xq (oMv rfl rfl)<|aC rfl rfl rfl rfl<|aC rfl rfl rfl rfl<|xq (dZ rfl rfl rfl rfl)<|xq (oMv rfl rfl)<|aC rfl rfl rfl rfl<|aC rfl rfl rfl rfl<|aC rfl rfl rfl rfl<|xq (dZ rfl rfl rfl rfl)<|xq (oMv rfl rfl)<|aC rfl rfl rfl rfl<|aC rfl rfl rfl rfl<|xq (dZ rfl rfl rfl rfl)<|xn (Eq.trans (b:=(fun bg:Bool=>mk [(5,M 5),(6,H 6 0),(7,iv x32.2.1),(8,iv x32.2.2),(96,bv bg)] [(5,Oa [C (I x29.aB),C (I x29.High),Z (W 1 eI x29.Cells)]),(6,Oc [Z (W 1 eI x32.1)])]) true) (by kernel_rfl) (congrArg (fun bg:Bool=>mk [(5,M 5),(6,H 6 0),(7,iv x32.2.1),(8,iv x32.2.2),(96,bv bg)] [(5,Oa [C (I x29.aB),C (I x29.High),Z (W 1 eI x29.Cells)]),(6,Oc [Z (W 1 eI x32.1)])]) (by first | rfl | (simp [(byF iNe hc2),(byF iNe hc3),(iNe.2 hc4)];done) | (simp [(byF iNe hc2),(byF iNe hc3),(iNe.2 hc4)];omega) | (have q0:=(byF iNe hc2);have q1:=(byF iNe hc3);have q2:=(iNe.2 hc4);simp_all))))
     ·refine xqT j j (byF iNe hc4) (oMv j j)<|xqT j j (byF iNe hc4) (oBi j j j j)<|xq (kM j j (byF iNe hc4) j)<|xq (oMv j j)<|?_
      by_cases hc5:x47.1<0
      ·exact aC rfl rfl (aj.2 hc5) rfl<|aC rfl rfl (aj.2 hc5) rfl<|xq (dZ rfl rfl (aj.2 hc5) rfl)<|xq (oMv rfl rfl)<|aC rfl rfl rfl rfl<|aC rfl rfl rfl rfl<|xq (dZ rfl rfl rfl rfl)<|xq (oMv rfl rfl)<|aC rfl rfl rfl rfl<|aC rfl rfl rfl rfl<|aC rfl rfl rfl rfl<|xq (dZ rfl rfl rfl rfl)<|xq (oMv rfl rfl)<|aC rfl rfl rfl rfl<|aC rfl rfl rfl rfl<|xq (dZ rfl rfl rfl rfl)<|xn (Eq.trans (b:=(fun bg:Bool=>mk [(5,M 5),(6,H 6 0),(7,iv x32.2.1),(8,iv x32.2.2),(96,bv bg)] [(5,Oa [C (I x29.aB),C (I x29.High),Z (W 1 eI x29.Cells)]),(6,Oc [Z (W 1 eI x32.1)])]) true) (by kernel_rfl) (congrArg (fun bg:Bool=>mk [(5,M 5),(6,H 6 0),(7,iv x32.2.1),(8,iv x32.2.2),(96,bv bg)] [(5,Oa [C (I x29.aB),C (I x29.High),Z (W 1 eI x29.Cells)]),(6,Oc [Z (W 1 eI x32.1)])]) (by first | rfl | (simp [(byF iNe hc2),(byF iNe hc3),(byF iNe hc4),(aj.2 hc5)];done) | (simp [(byF iNe hc2),(byF iNe hc3),(byF iNe hc4),(aj.2 hc5)];omega) | (have q0:=(byF iNe hc2);have q1:=(byF iNe hc3);have q2:=(byF iNe hc4);have q3:=(aj.2 hc5);simp_all))))
      ·refine xqT j j (byF aj hc5) (oMv j j)<|xqT j j (byF aj hc5) (oBi j j j j)<|xq (kM j j (byF aj hc5) j)<|xq (oMv j j)<|?_
       by_cases hc6:x57.2≠0
       ·exact aC rfl rfl (iNe.2 hc6) rfl<|aC rfl rfl (iNe.2 hc6) rfl<|xq (dZ rfl rfl (iNe.2 hc6) rfl)<|xq (oMv rfl rfl)<|aC rfl rfl rfl rfl<|aC rfl rfl rfl rfl<|aC rfl rfl rfl rfl<|xq (dZ rfl rfl rfl rfl)<|xq (oMv rfl rfl)<|aC rfl rfl rfl rfl<|aC rfl rfl rfl rfl<|xq (dZ rfl rfl rfl rfl)<|xn (Eq.trans (b:=(fun bg:Bool=>mk [(5,M 5),(6,H 6 0),(7,iv x32.2.1),(8,iv x32.2.2),(96,bv bg)] [(5,Oa [C (I x29.aB),C (I x29.High),Z (W 1 eI x29.Cells)]),(6,Oc [Z (W 1 eI x32.1)])]) true) (by kernel_rfl) (congrArg (fun bg:Bool=>mk [(5,M 5),(6,H 6 0),(7,iv x32.2.1),(8,iv x32.2.2),(96,bv bg)] [(5,Oa [C (I x29.aB),C (I x29.High),Z (W 1 eI x29.Cells)]),(6,Oc [Z (W 1 eI x32.1)])]) (by first | rfl | (simp [(byF iNe hc2),(byF iNe hc3),(byF iNe hc4),(byF aj hc5),(iNe.2 hc6)];done) | (simp [(byF iNe hc2),(byF iNe hc3),(byF iNe hc4),(byF aj hc5),(iNe.2 hc6)];omega) | (have q0:=(byF iNe hc2);have q1:=(byF iNe hc3);have q2:=(byF iNe hc4);have q3:=(byF aj hc5);have q4:=(iNe.2 hc6);simp_all))))
       ·refine xqT j j (byF iNe hc6) (oMv j j)<|xqT j j (byF iNe hc6) (oBi j j j j)<|xq (kM j j (byF iNe hc6) j)<|xq (oMv j j)<|?_
        by_cases hc7:x62.2≠0
        ·exact aC rfl rfl (iNe.2 hc7) rfl<|aC rfl rfl (iNe.2 hc7) rfl<|aC rfl rfl (iNe.2 hc7) rfl<|xq (dZ rfl rfl (iNe.2 hc7) rfl)<|xq (oMv rfl rfl)<|aC rfl rfl rfl rfl<|aC rfl rfl rfl rfl<|xq (dZ rfl rfl rfl rfl)<|xn (Eq.trans (b:=(fun bg:Bool=>mk [(5,M 5),(6,H 6 0),(7,iv x32.2.1),(8,iv x32.2.2),(96,bv bg)] [(5,Oa [C (I x29.aB),C (I x29.High),Z (W 1 eI x29.Cells)]),(6,Oc [Z (W 1 eI x32.1)])]) true) (by kernel_rfl) (congrArg (fun bg:Bool=>mk [(5,M 5),(6,H 6 0),(7,iv x32.2.1),(8,iv x32.2.2),(96,bv bg)] [(5,Oa [C (I x29.aB),C (I x29.High),Z (W 1 eI x29.Cells)]),(6,Oc [Z (W 1 eI x32.1)])]) (by first | rfl | (simp [(byF iNe hc2),(byF iNe hc3),(byF iNe hc4),(byF aj hc5),(byF iNe hc6),(iNe.2 hc7)];done) | (simp [(byF iNe hc2),(byF iNe hc3),(byF iNe hc4),(byF aj hc5),(byF iNe hc6),(iNe.2 hc7)];omega) | (have q0:=(byF iNe hc2);have q1:=(byF iNe hc3);have q2:=(byF iNe hc4);have q3:=(byF aj hc5);have q4:=(byF iNe hc6);have q5:=(iNe.2 hc7);simp_all))))
        ·refine xqT j j (byF iNe hc7) (oMv j j)<|xqT j j (byF iNe hc7) (oMv j j)<|xqT j j (byF iNe hc7) (oBi j j j j)<|xq (kM j j (byF iNe hc7) j)<|xq (oMv j j)<|?_
         by_cases hc8:x57.1≠x62.1
         ·exact aC rfl rfl (iNe.2 hc8) rfl<|aC rfl rfl (iNe.2 hc8) rfl<|xq (dZ rfl rfl (iNe.2 hc8) rfl)<|xn (Eq.trans (b:=(fun bg:Bool=>mk [(5,M 5),(6,H 6 0),(7,iv x32.2.1),(8,iv x32.2.2),(96,bv bg)] [(5,Oa [C (I x29.aB),C (I x29.High),Z (W 1 eI x29.Cells)]),(6,Oc [Z (W 1 eI x32.1)])]) true) (by kernel_rfl) (congrArg (fun bg:Bool=>mk [(5,M 5),(6,H 6 0),(7,iv x32.2.1),(8,iv x32.2.2),(96,bv bg)] [(5,Oa [C (I x29.aB),C (I x29.High),Z (W 1 eI x29.Cells)]),(6,Oc [Z (W 1 eI x32.1)])]) (by first | rfl | (simp [(byF iNe hc2),(byF iNe hc3),(byF iNe hc4),(byF aj hc5),(byF iNe hc6),(byF iNe hc7),(iNe.2 hc8)];done) | (simp [(byF iNe hc2),(byF iNe hc3),(byF iNe hc4),(byF aj hc5),(byF iNe hc6),(byF iNe hc7),(iNe.2 hc8)];omega) | (have q0:=(byF iNe hc2);have q1:=(byF iNe hc3);have q2:=(byF iNe hc4);have q3:=(byF aj hc5);have q4:=(byF iNe hc6);have q5:=(byF iNe hc7);have q6:=(iNe.2 hc8);simp_all))))
         ·exact xqT rfl rfl (byF iNe hc8) (oMv rfl rfl)<|xqT rfl rfl (byF iNe hc8) (oBi rfl rfl rfl rfl)<|xq (kM rfl rfl (byF iNe hc8) rfl)<|xn (Eq.trans (b:=(fun bg:Bool=>mk [(5,M 5),(6,H 6 0),(7,iv x32.2.1),(8,iv x32.2.2),(96,bv bg)] [(5,Oa [C (I x29.aB),C (I x29.High),Z (W 1 eI x29.Cells)]),(6,Oc [Z (W 1 eI x32.1)])]) (decide (x57.1<0))) (by kernel_rfl) (congrArg (fun bg:Bool=>mk [(5,M 5),(6,H 6 0),(7,iv x32.2.1),(8,iv x32.2.2),(96,bv bg)] [(5,Oa [C (I x29.aB),C (I x29.High),Z (W 1 eI x29.Cells)]),(6,Oc [Z (W 1 eI x32.1)])]) (by first | rfl | (simp [(byF iNe hc2),(byF iNe hc3),(byF iNe hc4),(byF aj hc5),(byF iNe hc6),(byF iNe hc7),(byF iNe hc8)];done) | (simp [(byF iNe hc2),(byF iNe hc3),(byF iNe hc4),(byF aj hc5),(byF iNe hc6),(byF iNe hc7),(byF iNe hc8)];omega) | (have q0:=(byF iNe hc2);have q1:=(byF iNe hc3);have q2:=(byF iNe hc4);have q3:=(byF aj hc5);have q4:=(byF iNe hc6);have q5:=(byF iNe hc7);have q6:=(byF iNe hc8);simp_all))))
  ·refine us<|gc h j (iOr iNe (iOr iNe (iOr iNe (iOr aj (iOr iNe (iOr iNe (iOr iNe aj))))))) (fun hc9 h=>?_) fun hc9 h=>?_
   ·refine gs<|g0 j j (q (ai j j)<|nl)<|us<|Go.ret (Unw.ret ?_)
    cases h
    exact fr rF3 j
   ·refine Go.skip<|us<|gs<|gs<|g0 j j (q (oMv j j)<|q (oBi j j j j)<|nl)<|us<|gc h j iNe (fun IJ h=>?_) fun IJ h=>?_
    ·refine gs<|g0 j j (q (oMv j j)<|q (oBi j j j j)<|q (ai j j)<|nl)<|us<|Go.ret (Unw.ret ?_)
     cases h
     exact fr rF3 j
    ·refine Go.skip<|us<|gs<|?_
     obtain ⟨x103,O0,h⟩:=bs h
     refine g0 j j (q (oLd (cs:=[.im 0 _,.im 0 _,.own 5 0 2]) j dS j j)<|q (oCa (xs:=[.v true [.im 0 _,.im 0 _,.own 5 0 2]]) (vs:=[(false,[.im 0 _]),(false,[.im 0 _])]) (v:=.tup [(false,[.im 0 _]),(false,[.im 0 _])]) (zQ O0) (.inl j) j Q5 j (ppC j pp0) j j pb0 j j j)<|q (uY j j)<|q (oEx j j j)<|q (oEx j j j)<|q (ai j j)<|q (ai j j)<|nl)<|us<|gs<|gs<|gX c3 j j j (mk [(5,M 5),(6,H 6 0),(7,iv x32.2.1),(19,iv x103.1),(125,bv (((x32.1.length:Int) != x103.1)||((decide (x32.2.1<1))||((decide (x32.2.1>x103.1))||(!((x32.2.1==1)==(x103.1==1)))))))] [(5,Oa [C (I x29.aB),C (I x29.High),Z (W 1 eI x29.Cells)]),(6,Oc [Z (W 1 eI x32.1)])]) ?_ ?_
     ·refine xq (oMv j j)<|xq (Gn j j jH j j j (fun e=>nomatch e))<|xq (oMv j j)<|xq (oBi j j j j)<|xq (oMv j j)<|?_
      by_cases nC:(x32.1.length:Int)≠x103.1
      ·exact aC rfl rfl (iNe.2 nC) rfl<|aC rfl rfl (iNe.2 nC) rfl<|xq (dZ rfl rfl (iNe.2 nC) rfl)<|xq (oMv rfl rfl)<|aC rfl rfl rfl rfl<|aC rfl rfl rfl rfl<|aC rfl rfl rfl rfl<|xq (dZ rfl rfl rfl rfl)<|xq (oMv rfl rfl)<|aC rfl rfl rfl rfl<|aC rfl rfl rfl rfl<|aC rfl rfl rfl rfl<|aC rfl rfl rfl rfl<|aC rfl rfl rfl rfl<|xq (dZ rfl rfl rfl rfl)<|xn (Eq.trans (b:=(fun gI:Bool=>mk [(5,M 5),(6,H 6 0),(7,iv x32.2.1),(19,iv x103.1),(125,bv gI)] [(5,Oa [C (I x29.aB),C (I x29.High),Z (W 1 eI x29.Cells)]),(6,Oc [Z (W 1 eI x32.1)])]) true) (by kernel_rfl) (congrArg (fun gI:Bool=>mk [(5,M 5),(6,H 6 0),(7,iv x32.2.1),(19,iv x103.1),(125,bv gI)] [(5,Oa [C (I x29.aB),C (I x29.High),Z (W 1 eI x29.Cells)]),(6,Oc [Z (W 1 eI x32.1)])]) (by first | rfl | (simp [(iNe.2 nC)];done) | (simp [(iNe.2 nC)];omega))))
      ·refine xqT j j (byF iNe nC) (oMv j j)<|xqT j j (byF iNe nC) (oBi j j j j)<|xq (kM j j (byF iNe nC) j)<|xq (oMv j j)<|?_
       by_cases hc12:x32.2.1<1
       ·exact aC rfl rfl (aj.2 hc12) rfl<|aC rfl rfl (aj.2 hc12) rfl<|aC rfl rfl (aj.2 hc12) rfl<|xq (dZ rfl rfl (aj.2 hc12) rfl)<|xq (oMv rfl rfl)<|aC rfl rfl rfl rfl<|aC rfl rfl rfl rfl<|aC rfl rfl rfl rfl<|aC rfl rfl rfl rfl<|aC rfl rfl rfl rfl<|xq (dZ rfl rfl rfl rfl)<|xn (Eq.trans (b:=(fun gI:Bool=>mk [(5,M 5),(6,H 6 0),(7,iv x32.2.1),(19,iv x103.1),(125,bv gI)] [(5,Oa [C (I x29.aB),C (I x29.High),Z (W 1 eI x29.Cells)]),(6,Oc [Z (W 1 eI x32.1)])]) true) (by kernel_rfl) (congrArg (fun gI:Bool=>mk [(5,M 5),(6,H 6 0),(7,iv x32.2.1),(19,iv x103.1),(125,bv gI)] [(5,Oa [C (I x29.aB),C (I x29.High),Z (W 1 eI x29.Cells)]),(6,Oc [Z (W 1 eI x32.1)])]) (by first | rfl | (simp [(byF iNe nC),(aj.2 hc12)];done) | (simp [(byF iNe nC),(aj.2 hc12)];omega) | (have q0:=(byF iNe nC);have q1:=(aj.2 hc12);simp_all))))
       ·refine xqT j j (byF aj hc12) (oMv j j)<|xqT j j (byF aj hc12) (oMv j j)<|xqT j j (byF aj hc12) (oBi j j j j)<|xq (kM j j (byF aj hc12) j)<|xq (oMv j j)<|?_
        by_cases hc13:x32.2.1>x103.1
        ·exact aC rfl rfl (aj.2 hc13) rfl<|aC rfl rfl (aj.2 hc13) rfl<|aC rfl rfl (aj.2 hc13) rfl<|aC rfl rfl (aj.2 hc13) rfl<|aC rfl rfl (aj.2 hc13) rfl<|xq (dZ rfl rfl (aj.2 hc13) rfl)<|xn (Eq.trans (b:=(fun gI:Bool=>mk [(5,M 5),(6,H 6 0),(7,iv x32.2.1),(19,iv x103.1),(125,bv gI)] [(5,Oa [C (I x29.aB),C (I x29.High),Z (W 1 eI x29.Cells)]),(6,Oc [Z (W 1 eI x32.1)])]) true) (by kernel_rfl) (congrArg (fun gI:Bool=>mk [(5,M 5),(6,H 6 0),(7,iv x32.2.1),(19,iv x103.1),(125,bv gI)] [(5,Oa [C (I x29.aB),C (I x29.High),Z (W 1 eI x29.Cells)]),(6,Oc [Z (W 1 eI x32.1)])]) (by first | rfl | (simp [(byF iNe nC),(byF aj hc12),(aj.2 hc13)];done) | (simp [(byF iNe nC),(byF aj hc12),(aj.2 hc13)];omega) | (have q0:=(byF iNe nC);have q1:=(byF aj hc12);have q2:=(aj.2 hc13);simp_all))))
        ·exact xqT rfl rfl (byF aj hc13) (oMv rfl rfl)<|xqT rfl rfl (byF aj hc13) (oBi rfl rfl rfl rfl)<|xqT rfl rfl (byF aj hc13) (oMv rfl rfl)<|xqT rfl rfl (byF aj hc13) (oBi rfl rfl rfl rfl)<|xqT rfl rfl (byF aj hc13) (Ws rfl uF4 rfl rfl rfl)<|xq (kM rfl rfl (byF aj hc13) rfl)<|xn (Eq.trans (b:=(fun gI:Bool=>mk [(5,M 5),(6,H 6 0),(7,iv x32.2.1),(19,iv x103.1),(125,bv gI)] [(5,Oa [C (I x29.aB),C (I x29.High),Z (W 1 eI x29.Cells)]),(6,Oc [Z (W 1 eI x32.1)])]) (!((x32.2.1==1)==(x103.1==1)))) (by kernel_rfl) (congrArg (fun gI:Bool=>mk [(5,M 5),(6,H 6 0),(7,iv x32.2.1),(19,iv x103.1),(125,bv gI)] [(5,Oa [C (I x29.aB),C (I x29.High),Z (W 1 eI x29.Cells)]),(6,Oc [Z (W 1 eI x32.1)])]) (by first | rfl | (simp [(byF iNe nC),(byF aj hc12),(byF aj hc13)];done) | (simp [(byF iNe nC),(byF aj hc12),(byF aj hc13)];omega) | (have q0:=(byF iNe nC);have q1:=(byF aj hc12);have q2:=(byF aj hc13);simp_all))))
     ·refine us<|gc h j (iOr iNe (iOr aj (iOr aj (WH iBe)))) (fun Uj h=>?_) fun Uj h=>?_
      ·refine gs<|g0 j j (q (ai j j)<|nl)<|us<|Go.ret (Unw.ret ?_)
       cases h
       exact fr rF3 j
      ·refine Go.skip<|us<|gs<|gs<|g0 j j (q (ai j j)<|nl)<|us<|Go.block<|?_
       obtain ⟨o,hl,h⟩:=bs h
       refine gl c3 j _ (fun (iP:Int)=>mk [(5,M 5),(6,H 6 0),(7,iv x32.2.1),(19,iv x103.1),(21,iv iP)] [(5,Oa [C (I x29.aB),C (I x29.High),Z (W 1 eI x29.Cells)]),(6,Oc [Z (W 1 eI x32.1)])]) (fun (o:(Unit ⊕ Bool)) (p:Ex×St)=>match o with | (.inl _)=>p.1= .exit 0∧p.2.norm ([6,7],[6])=mk [(6,H 6 0),(7,iv x32.2.1)] [(6,Oc [Z (W 1 eI x32.1)])] | (.inr r2)=>p.1= .ret∧fin Try.prog cfg 3 Try.f3 [.im 2 false [W 1 (eK .u8) dB],.im 2 false [W 1 (eK .u8) mQ]] p.2=some (B0 [(false,[.im 0 (V r2)])])) hl (by kernel_rfl) ?_ ?_ ?_
       ·intro o p hp e
        rcases o with u | r2<;>exact nomatch (hp.1.symm.trans e)
       ·rintro iP o h
        unfold jm at h
        refine gs<|gs<|g0 j j (q (oMv j j)<|q (oMv j j)<|q (oBi j j j j)<|nl)<|us<|gc h j aj (fun Ug h=>?_) fun Ug h=>?_
        ·refine Go.skip<|us<|gs<|Go.block<|gs<|?_
         obtain ⟨BL,VB,h⟩:=bs h
         refine g0 j j (q (oLd (cs:=[.im 0 _,.im 0 _,.own 5 0 2]) j dS j j)<|q (oMv j j)<|q (oCa (xs:=[.v true [.im 0 _,.im 0 _,.own 5 0 2],.v false [.im 0 _]]) (vs:=[(false,[.im 0 _]),(false,[.im 0 _])]) (v:=.tup [(false,[.im 0 _]),(false,[.im 0 _])]) (wW VB) (.inl j) j Me j (ppC j (ppC j pp0)) j j pb0 j j j)<|q (uY j j)<|q (oEx j j j)<|q (oEx j j j)<|q (ai j j)<|q (ai j j)<|nl)<|us<|gs<|gs<|?_
         obtain ⟨AO,A8,h⟩:=bs h
         refine gX c3 j j j (mk [(5,M 5),(6,H 6 0),(7,iv x32.2.1),(19,iv x103.1),(21,iv iP),(22,D 0 (W 1 eI BL.1)),(153,bv AO)] [(5,Oa [C (I x29.aB),C (I x29.High),Z (W 1 eI x29.Cells)]),(6,Oc [Z (W 1 eI x32.1)])]) ?_ ?_
         ·refine xq (oMv j j)<|xq (oBi j j j j)<|xq (oMv j j)<|?_
          refine ic A8 (fun Ba A8=>?_) fun Ba A8=>?_
          ·cases A8
           exact aC j j (iNe.2 Ba) j<|aC j j (iNe.2 Ba) j<|aC j j (iNe.2 Ba) j<|aC j j (iNe.2 Ba) j<|aC j j (iNe.2 Ba) j<|xq (dZ j j (iNe.2 Ba) j)<|xq (oMv j j)<|aC j j j j<|aC j j j j<|aC j j j j<|aC j j j j<|aC j j j j<|aC j j j j<|xq (dZ j j j j)<|xn
          ·obtain ⟨U8,Su,A8⟩:=bs A8
           refine xqT j j (byF iNe Ba) (oMv j j)<|xqT j j (byF iNe Ba) (oMv j j)<|xqT j j (byF iNe Ba) (yj j Su cu j j j j)<|xqT j j (byF iNe Ba) (zJ (cs:=[.im 0 _]) j tF2 j j j j (iQ Su) j j)<|xqT j j (byF iNe Ba) (oBi j j j j)<|xq (kM j j (byF iNe Ba) j)<|xq (oMv j j)<|?_
           refine ic A8 (fun yZ A8=>?_) fun yZ A8=>?_
           ·cases A8
            exact aC j j (aj.2 yZ) j<|aC j j (aj.2 yZ) j<|aC j j (aj.2 yZ) j<|aC j j (aj.2 yZ) j<|aC j j (aj.2 yZ) j<|aC j j (aj.2 yZ) j<|xq (dZ j j (aj.2 yZ) j)<|xn
           ·obtain ⟨U9,Sv,A8⟩:=bs A8
            cases A8
            exact xqT j j (byF aj yZ) (oMv j j)<|xqT j j (byF aj yZ) (oMv j j)<|xqT j j (byF aj yZ) (yj j Sv cu j j j j)<|xqT j j (byF aj yZ) (zJ (cs:=[.im 0 _]) j tF2 j j j j (iQ Sv) j j)<|xqT j j (byF aj yZ) (oMv j j)<|xqT j j (byF aj yZ) (oBi j j j j)<|xq (kM j j (byF aj yZ) j)<|xn
         ·refine us<|gc h j iR (fun XK h=>?_) fun XK h=>?_
          ·refine gs<|g0 j j (q (ai j j)<|nl)<|us<|Go.ret (Unw.ret ?_)
           cases h
           exact ⟨j,(fo rF3 j)⟩
          ·refine Go.skip<|us<|gs<|g0 j j (q (ai j j)<|nl)<|us<|Go.block<|?_
           obtain ⟨o,hl,h⟩:=bs h
           refine gl c3 j _ (fun (ny:Int)=>mk [(5,M 5),(6,H 6 0),(7,iv x32.2.1),(19,iv x103.1),(21,iv iP),(22,D 0 (W 1 eI BL.1)),(24,iv ny)] [(5,Oa [C (I x29.aB),C (I x29.High),Z (W 1 eI x29.Cells)]),(6,Oc [Z (W 1 eI x32.1)])]) (fun (o:(Unit ⊕ Bool)) (p:Ex×St)=>match o with | (.inl _)=>p.1= .exit 2∧p.2.norm ([5,6,7,19,21],[5,6])=mk [(5,M 5),(6,H 6 0),(7,iv x32.2.1),(19,iv x103.1),(21,iv iP)] [(5,Oa [C (I x29.aB),C (I x29.High),Z (W 1 eI x29.Cells)]),(6,Oc [Z (W 1 eI x32.1)])] | (.inr r2)=>p.1= .ret∧fin Try.prog cfg 3 Try.f3 [.im 2 false [W 1 (eK .u8) dB],.im 2 false [W 1 (eK .u8) mQ]] p.2=some (B0 [(false,[.im 0 (V r2)])])) hl (by kernel_rfl) ?_ ?_ ?_
           ·intro o p hp e
            rcases o with u | r2<;>exact nomatch (hp.1.symm.trans e)
           ·rintro ny o h
            unfold jl at h
            refine gs<|gs<|g0 j j (q (oMv j j)<|q (oMv j j)<|q (rE j j jH j)<|q (oBi j j j j)<|nl)<|us<|gc h j aj (fun XL h=>?_) fun XL h=>?_
            ·refine Go.skip<|us<|gs<|Go.block<|gs<|?_
             obtain ⟨U3,VC,h⟩:=bs h
             obtain ⟨AL,ug,h⟩:=bs h
             refine gd c3 j j j j (mk [(5,M 5),(6,H 6 0),(7,iv x32.2.1),(19,iv x103.1),(21,iv iP),(22,D 0 (W 1 eI BL.1)),(24,iv ny),(194,bv AL)] [(5,Oa [C (I x29.aB),C (I x29.High),Z (W 1 eI x29.Cells)]),(6,Oc [Z (W 1 eI x32.1)])]) ?_ ?_
             ·refine t j j (oMv j j)<|t j j (oMv j j)<|t j j (mZ j VC cu j j)<|t j j (oLd (cs:=[.im 0 _]) j tF2 j j)<|t j j (oBi j j j j)<|t j j (oMv j j)<|?_
              refine ic ug (fun y5 ug=>?_) fun y5 ug=>?_
              ·cases ug
               exact tF j j j j (aj.2 y5) j<|tF j j j j (aj.2 y5) j<|tF j j j j (aj.2 y5) j<|tF j j j j (aj.2 y5) j<|tF j j j j (aj.2 y5) j<|tF j j j j (aj.2 y5) j<|t j j (dZ j j (aj.2 y5) j)<|t j j (oMv j j)<|tF j j j j j j<|tF j j j j j j<|tF j j j j j j<|tF j j j j j j<|tF j j j j j j<|tF j j j j j j<|t j j (dZ j j j j)<|t j j (oMv j j)<|tF j j j j j j<|tF j j j j j j<|tF j j j j j j<|tF j j j j j j<|tF j j j j j j<|tF j j j j j j<|tF j j j j j j<|tF j j j j j j<|tF j j j j j j<|tF j j j j j j<|tF j j j j j j<|tF j j j j j j<|t j j (dZ j j j j)<|sD (by kernel_rfl)
              ·obtain ⟨x168,hx168,ug⟩:=bs ug
               refine tT j j j j (byF aj y5) (oMv j j)<|tT j j j j (byF aj y5) (oMv j j)<|tT j j j j (byF aj y5) (mZ j hx168 cu j j)<|tT j j j j (byF aj y5) (oLd (cs:=[.im 0 _]) j tF2 j j)<|tT j j j j (byF aj y5) (oMv j j)<|tT j j j j (byF aj y5) (oBi j j j j)<|t j j (kM j j (byF aj y5) j)<|t j j (oMv j j)<|?_
               refine ic ug (fun y7 ug=>?_) fun y7 ug=>?_
               ·cases ug
                exact tF j j j j (aj.2 y7) j<|tF j j j j (aj.2 y7) j<|tF j j j j (aj.2 y7) j<|tF j j j j (aj.2 y7) j<|tF j j j j (aj.2 y7) j<|tF j j j j (aj.2 y7) j<|t j j (dZ j j (aj.2 y7) j)<|t j j (oMv j j)<|tF j j j j j j<|tF j j j j j j<|tF j j j j j j<|tF j j j j j j<|tF j j j j j j<|tF j j j j j j<|tF j j j j j j<|tF j j j j j j<|tF j j j j j j<|tF j j j j j j<|tF j j j j j j<|tF j j j j j j<|t j j (dZ j j j j)<|sD (by kernel_rfl)
               ·obtain ⟨U4,VD,ug⟩:=bs ug
                refine tT j j j j (byF aj y7) (oMv j j)<|tT j j j j (byF aj y7) (oMv j j)<|tT j j j j (byF aj y7) (mZ j VD cu j j)<|tT j j j j (byF aj y7) (oLd (cs:=[.im 0 _]) j tF2 j j)<|tT j j j j (byF aj y7) (oMv j j)<|tT j j j j (byF aj y7) (oBi j j j j)<|t j j (kM j j (byF aj y7) j)<|t j j (oMv j j)<|?_
                refine ic ug (fun qm ug=>?_) fun qm ug=>?_
                ·cases ug
                 exact tF j j j j (iEq.2 qm) j<|tF j j j j (iEq.2 qm) j<|tF j j j j (iEq.2 qm) j<|tF j j j j (iEq.2 qm) j<|tF j j j j (iEq.2 qm) j<|tF j j j j (iEq.2 qm) j<|tF j j j j (iEq.2 qm) j<|tF j j j j (iEq.2 qm) j<|tF j j j j (iEq.2 qm) j<|tF j j j j (iEq.2 qm) j<|tF j j j j (iEq.2 qm) j<|tF j j j j (iEq.2 qm) j<|t j j (dZ j j (iEq.2 qm) j)<|sD (by kernel_rfl)
                ·obtain ⟨U5,VE,ug⟩:=bs ug
                 obtain ⟨U6,Sz,ug⟩:=bs ug
                 obtain ⟨U7,SA,ug⟩:=bs ug
                 cases ug
                 exact tT j j j j (byF iEq qm) (oMv j j)<|tT j j j j (byF iEq qm) (oMv j j)<|tT j j j j (byF iEq qm) (oMv j j)<|tT j j j j (byF iEq qm) (mZ j VE cu j j)<|tT j j j j (byF iEq qm) (oLd (cs:=[.im 0 _]) j tF2 j j)<|tT j j j j (byF iEq qm) (yj j Sz cu j j j j)<|tT j j j j (byF iEq qm) (zJ (cs:=[.im 0 _]) j tF2 j j j j (iQ Sz) j j)<|tT j j j j (byF iEq qm) (oMv j j)<|tT j j j j (byF iEq qm) (oMv j j)<|tT j j j j (byF iEq qm) (yj j SA cu j j j j)<|tT j j j j (byF iEq qm) (zJ (cs:=[.im 0 _]) j tF2 j j j j (iQ SA) j j)<|tT j j j j (byF iEq qm) (oBi j j j j)<|t j j (kM j j (byF iEq qm) j)<|sD (by kernel_rfl)
             ·refine us<|gc h j iR (fun XM h=>?_) fun XM h=>?_
              ·refine gs<|g0 j j (q (ai j j)<|nl)<|us<|Go.ret (Unw.ret ?_)
               cases h
               exact ⟨j,(fo rF3 j)⟩
              ·refine Go.skip<|Unw.blk<|us<|g0 j j (q (oMv j j)<|q (oBi j j j j)<|q (ai j j)<|nl)<|Unw.nil<|?_
               cases h
               exact ⟨j,(by kernel_rfl)⟩
            ·refine Go.exit<|ux<|Unw.nil<|?_
             cases h
             exact ⟨j,(by kernel_rfl)⟩
           ·rintro ⟨e,st⟩ hp
            rcases o with u | r2
            ·dsimp only at h
             obtain ⟨he,hst⟩:=hp
             obtain rfl:e= .exit 2:=he
             refine Unw.nN<|Unw.blk<|us<|g2 c3 j j hst (q (oMv j j)<|q (oBi j j j j)<|q (ai j j)<|nl)<|Unw.nil<|?_
             cases h
             exact ⟨j,(by kernel_rfl)⟩
            ·dsimp only at h
             obtain ⟨he,hfin⟩:=hp
             obtain rfl:e= .ret:=he
             cases h
             exact Unw.ret ⟨j,hfin⟩
        ·refine Go.exit<|ux<|Unw.nil<|?_
         cases h
         exact ⟨j,(by kernel_rfl)⟩
       ·rintro ⟨e,st⟩ hp
        rcases o with u | r2
        ·dsimp only at h
         obtain ⟨he,hst⟩:=hp
         obtain rfl:e= .exit 0:=he
         refine Unw.nN<|us<|gs<|?_
         obtain ⟨Va,VF,h⟩:=bs h
         refine g2 c3 j j hst (q (oMv j j)<|q (oMv j j)<|q (oBi j j j j)<|q (oCa (xs:=[.v false [.own 6 0 0],.v false [.im 0 _]]) (vs:=[(false,[.im 0 _])]) (v:=.v false [.im 0 _]) (GL VF) (.inl j) j MB j (ppC j (ppC j pp0)) j j pb0 j j j)<|q (ai j j)<|nl)<|us<|Go.ret (Unw.ret ?_)
         cases h
         exact fr rF3 j
        ·dsimp only at h
         obtain ⟨he,hfin⟩:=hp
         obtain rfl:e= .ret:=he
         cases h
         exact Unw.ret (nH hfin)
end
end Go.Proofs.Ytmjgfdlefaackaa
