/- The machine answers, at each function of the program that is reached, what its plain function answers: a further part. Conditions: none. -/
import Derived.Test.YtdibfdcmbjaejaaTctLa
namespace Go.Proofs.Ytdibfdcmbjaejaa
open Go Go.Sim Go.Pw Go.Proofs
set_option linter.unusedVariables false
set_option linter.unusedSimpArgs false
set_option maxRecDepth 100000
set_option maxHeartbeats 4000000
noncomputable section
theorem uy {a_0:ae} {b_1:ae} {p_2:ae} {r:Bool} (h:o6 a_0 b_1 p_2=some r):FX 146 [.im 2 true (aQ a_0),.im 2 true (aQ b_1),.im 2 true (aQ p_2)] (B0 [(false,[.im 0 (V r)])]):=by
 unfold o6 at h
 refine gn 42 Try.func146 rfl ?_
 refine gs<|g0 j j (q (oBx j aH j (tkI (tkI tk0)))<|q (oBx j aH j (tkI (tkI tk0)))<|q (oBx j aH j (tkI (tkI tk0)))<|q (ah j j)<|nl)<|us<|gs<|?_
 obtain ⟨x10,FV,h⟩:=bs h
 obtain ⟨nV,hm3,h⟩:=bs h
 refine gd c146 j j j j (mk [(6,bv nV)] []) ?_ ?_
 ·refine t j j (oLd (cs:=[.im 0 _,.im 0 _]) j aH j j)<|t j j (oLd (cs:=[.im 0 _,.im 0 _]) j aH j j)<|?_
  refine ic hm3 (fun hc1 hm3=>?_) fun hc1 hm3=>?_
  ·obtain ⟨x19,Cm,hm3⟩:=bs hm3
   obtain ⟨x24,hx24,hm3⟩:=bs hm3
   obtain ⟨x25,hx25,hm3⟩:=bs hm3
   refine ic hm3 (fun hc2 hm3=>?_) fun hc2 hm3=>?_
   ·obtain ⟨x34,hx34,hm3⟩:=bs hm3
    obtain ⟨x39,hx39,hm3⟩:=bs hm3
    obtain ⟨x40,Rh,hm3⟩:=bs hm3
    cases hm3
    exact t j j (oLd (cs:=[.im 0 _,.im 0 _]) j aH j j)<|sS (dN z146 j (oCa (xs:=[.v true [.im 0 _,.im 0 _],.v true [.im 0 _,.im 0 _],.v true [.im 0 _,.im 0 _]]) (vs:=[(false,[.im 0 _])]) (v:=.v false [.im 0 _]) (jY FV) (.inl j) j iL j (ppC j (ppC j (ppC j pp0))) j j pb0 j j j)) trivial (t j j (oBi j j j j)<|t j j (oMv j j)<|tT j j j j (iEq.2 hc1) (oFA (r':=.mp 5 0 0) j gG j j)<|tT j j j j (iEq.2 hc1) (oLd (cs:=[.im 0 _]) j tF2 j j)<|tT j j j j (iEq.2 hc1) (oFA (r':=.mp 3 0 0) j gG j j)<|tT j j j j (iEq.2 hc1) (oLd (cs:=[.im 0 _]) j tF2 j j)<|tT j j j j (iEq.2 hc1) (oFA (r':=.mp 4 0 0) j gG j j)<|tT j j j j (iEq.2 hc1) (oLd (cs:=[.im 0 _]) j tF2 j j)<|tT j j j j (iEq.2 hc1) (oFA (r':=.mp 3 0 0) j gG j j)<|tT j j j j (iEq.2 hc1) (oLd (cs:=[.im 0 _]) j tF2 j j)<|tT j j j j (iEq.2 hc1) (oFA (r':=.mp 4 0 0) j gG j j)<|tT j j j j (iEq.2 hc1) (oLd (cs:=[.im 0 _]) j tF2 j j)<|sS (dT z146 j j j (iEq.2 hc1) (oCa (xs:=[.v false [.im 0 _],.v false [.im 0 _]]) (vs:=[(false,[.im 0 _])]) (v:=.v false [.im 0 _]) (ng Cm) (.inl j) j vT j (ppC j (ppC j pp0)) j j pb0 j j j)) trivial (sS (dT z146 j j j (iEq.2 hc1) (oCa (xs:=[.v false [.im 0 _],.v false [.im 0 _]]) (vs:=[(false,[.im 0 _])]) (v:=.v false [.im 0 _]) (ni hx24) (.inl j) j vS j (ppC j (ppC j pp0)) j j pb0 j j j)) trivial (sS (dT z146 j j j (iEq.2 hc1) (oCa (xs:=[.v false [.im 0 _],.v false [.im 0 _],.v false [.im 0 _]]) (vs:=[(false,[.im 0 _])]) (v:=.v false [.im 0 _]) (fH hx25) (.inl j) j iU j (ppC j (ppC j (ppC j pp0))) j j pb0 j j j)) trivial (t j j (bQ j j (iEq.2 hc1) j)<|t j j (oMv j j)<|tT j j j j (iR.2 hc2) (oFA (r':=.mp 5 0 1) j jb j j)<|tT j j j j (iR.2 hc2) (oLd (cs:=[.im 0 _]) j tF2 j j)<|tT j j j j (iR.2 hc2) (oFA (r':=.mp 3 0 1) j jb j j)<|tT j j j j (iR.2 hc2) (oLd (cs:=[.im 0 _]) j tF2 j j)<|tT j j j j (iR.2 hc2) (oFA (r':=.mp 4 0 1) j jb j j)<|tT j j j j (iR.2 hc2) (oLd (cs:=[.im 0 _]) j tF2 j j)<|tT j j j j (iR.2 hc2) (oFA (r':=.mp 3 0 1) j jb j j)<|tT j j j j (iR.2 hc2) (oLd (cs:=[.im 0 _]) j tF2 j j)<|tT j j j j (iR.2 hc2) (oFA (r':=.mp 4 0 1) j jb j j)<|tT j j j j (iR.2 hc2) (oLd (cs:=[.im 0 _]) j tF2 j j)<|sS (dT z146 j j j (iR.2 hc2) (oCa (xs:=[.v false [.im 0 _],.v false [.im 0 _]]) (vs:=[(false,[.im 0 _])]) (v:=.v false [.im 0 _]) (ng hx34) (.inl j) j vT j (ppC j (ppC j pp0)) j j pb0 j j j)) trivial (sS (dT z146 j j j (iR.2 hc2) (oCa (xs:=[.v false [.im 0 _],.v false [.im 0 _]]) (vs:=[(false,[.im 0 _])]) (v:=.v false [.im 0 _]) (ni hx39) (.inl j) j vS j (ppC j (ppC j pp0)) j j pb0 j j j)) trivial (sS (dT z146 j j j (iR.2 hc2) (oCa (xs:=[.v false [.im 0 _],.v false [.im 0 _],.v false [.im 0 _]]) (vs:=[(false,[.im 0 _])]) (v:=.v false [.im 0 _]) (fH Rh) (.inl j) j iU j (ppC j (ppC j (ppC j pp0))) j j pb0 j j j)) trivial (t j j (bQ j j (iR.2 hc2) j)<|sS (dN z146 j (ah j j)) trivial (sD (by kernel_rfl)))))))))
   ·cases hm3
    exact t j j (oLd (cs:=[.im 0 _,.im 0 _]) j aH j j)<|sS (dN z146 j (oCa (xs:=[.v true [.im 0 _,.im 0 _],.v true [.im 0 _,.im 0 _],.v true [.im 0 _,.im 0 _]]) (vs:=[(false,[.im 0 _])]) (v:=.v false [.im 0 _]) (jY FV) (.inl j) j iL j (ppC j (ppC j (ppC j pp0))) j j pb0 j j j)) trivial (t j j (oBi j j j j)<|t j j (oMv j j)<|tT j j j j (iEq.2 hc1) (oFA (r':=.mp 5 0 0) j gG j j)<|tT j j j j (iEq.2 hc1) (oLd (cs:=[.im 0 _]) j tF2 j j)<|tT j j j j (iEq.2 hc1) (oFA (r':=.mp 3 0 0) j gG j j)<|tT j j j j (iEq.2 hc1) (oLd (cs:=[.im 0 _]) j tF2 j j)<|tT j j j j (iEq.2 hc1) (oFA (r':=.mp 4 0 0) j gG j j)<|tT j j j j (iEq.2 hc1) (oLd (cs:=[.im 0 _]) j tF2 j j)<|tT j j j j (iEq.2 hc1) (oFA (r':=.mp 3 0 0) j gG j j)<|tT j j j j (iEq.2 hc1) (oLd (cs:=[.im 0 _]) j tF2 j j)<|tT j j j j (iEq.2 hc1) (oFA (r':=.mp 4 0 0) j gG j j)<|tT j j j j (iEq.2 hc1) (oLd (cs:=[.im 0 _]) j tF2 j j)<|sS (dT z146 j j j (iEq.2 hc1) (oCa (xs:=[.v false [.im 0 _],.v false [.im 0 _]]) (vs:=[(false,[.im 0 _])]) (v:=.v false [.im 0 _]) (ng Cm) (.inl j) j vT j (ppC j (ppC j pp0)) j j pb0 j j j)) trivial (sS (dT z146 j j j (iEq.2 hc1) (oCa (xs:=[.v false [.im 0 _],.v false [.im 0 _]]) (vs:=[(false,[.im 0 _])]) (v:=.v false [.im 0 _]) (ni hx24) (.inl j) j vS j (ppC j (ppC j pp0)) j j pb0 j j j)) trivial (sS (dT z146 j j j (iEq.2 hc1) (oCa (xs:=[.v false [.im 0 _],.v false [.im 0 _],.v false [.im 0 _]]) (vs:=[(false,[.im 0 _])]) (v:=.v false [.im 0 _]) (fH hx25) (.inl j) j iU j (ppC j (ppC j (ppC j pp0))) j j pb0 j j j)) trivial (t j j (bQ j j (iEq.2 hc1) j)<|t j j (oMv j j)<|tF j j j j (byF iR hc2) j<|tF j j j j (byF iR hc2) j<|tF j j j j (byF iR hc2) j<|tF j j j j (byF iR hc2) j<|tF j j j j (byF iR hc2) j<|tF j j j j (byF iR hc2) j<|tF j j j j (byF iR hc2) j<|tF j j j j (byF iR hc2) j<|tF j j j j (byF iR hc2) j<|tF j j j j (byF iR hc2) j<|sS (dF j j j (byF iR hc2) j) trivial (sS (dF j j j (byF iR hc2) j) trivial (sS (dF j j j (byF iR hc2) j) trivial (t j j (bV j j (byF iR hc2) j)<|sS (dN z146 j (ah j j)) trivial (sD (by kernel_rfl)))))))))
  ·cases hm3
   exact t j j (oLd (cs:=[.im 0 _,.im 0 _]) j aH j j)<|sS (dN z146 j (oCa (xs:=[.v true [.im 0 _,.im 0 _],.v true [.im 0 _,.im 0 _],.v true [.im 0 _,.im 0 _]]) (vs:=[(false,[.im 0 _])]) (v:=.v false [.im 0 _]) (jY FV) (.inl j) j iL j (ppC j (ppC j (ppC j pp0))) j j pb0 j j j)) trivial (t j j (oBi j j j j)<|t j j (oMv j j)<|tF j j j j (byF iEq hc1) j<|tF j j j j (byF iEq hc1) j<|tF j j j j (byF iEq hc1) j<|tF j j j j (byF iEq hc1) j<|tF j j j j (byF iEq hc1) j<|tF j j j j (byF iEq hc1) j<|tF j j j j (byF iEq hc1) j<|tF j j j j (byF iEq hc1) j<|tF j j j j (byF iEq hc1) j<|tF j j j j (byF iEq hc1) j<|sS (dF j j j (byF iEq hc1) j) trivial (sS (dF j j j (byF iEq hc1) j) trivial (sS (dF j j j (byF iEq hc1) j) trivial (t j j (bV j j (byF iEq hc1) j)<|t j j (oMv j j)<|tF j j j j j j<|tF j j j j j j<|tF j j j j j j<|tF j j j j j j<|tF j j j j j j<|tF j j j j j j<|tF j j j j j j<|tF j j j j j j<|tF j j j j j j<|tF j j j j j j<|sS (dF j j j j j) trivial (sS (dF j j j j j) trivial (sS (dF j j j j j) trivial (t j j (bV j j j j)<|sS (dN z146 j (ah j j)) trivial (sD (by kernel_rfl)))))))))
 ·refine us<|Go.ret (Unw.ret ?_)
  cases h
  exact fr afP j
theorem Jk {a_0:ae} {b_1:ae} {c_2:ae} {d_3:ae} {r:Bool} (h:qZ a_0 b_1 c_2 d_3=some r):FX 190 [.im 2 true (aQ a_0),.im 2 true (aQ b_1),.im 2 true (aQ c_2),.im 2 true (aQ d_3)] (B0 [(false,[.im 0 (V r)])]):=by
 unfold qZ at h
 refine gn 31 Try.func190 rfl ?_
 refine gs<|g0 j j (q (oBx j aH j (tkI (tkI tk0)))<|q (oBx j aH j (tkI (tkI tk0)))<|q (oBx j aH j (tkI (tkI tk0)))<|q (oBx j aH j (tkI (tkI tk0)))<|q (ah j j)<|nl)<|us<|gs<|?_
 obtain ⟨x12,Es,h⟩:=bs h
 obtain ⟨x16,hx16,h⟩:=bs h
 obtain ⟨vz,hm2,h⟩:=bs h
 refine gd afo j j j j (mk [(8,bv vz)] []) ?_ ?_
 ·refine t j j (oLd (cs:=[.im 0 _,.im 0 _]) j aH j j)<|t j j (oLd (cs:=[.im 0 _,.im 0 _]) j aH j j)<|t j j (oLd (cs:=[.im 0 _,.im 0 _]) j aH j j)<|t j j (oLd (cs:=[.im 0 _,.im 0 _]) j aH j j)<|t j j (oLd (cs:=[.im 0 _,.im 0 _]) j aH j j)<|?_
  refine ic hm2 (fun hc1 hm2=>?_) fun hc1 hm2=>?_
  ·obtain ⟨x23,NM,hm2⟩:=bs hm2
   obtain ⟨x27,hx27,hm2⟩:=bs hm2
   cases hm2
   exact t j j (oLd (cs:=[.im 0 _,.im 0 _]) j aH j j)<|sS (dN Tn j (oCa (xs:=[.v true [.im 0 _,.im 0 _],.v true [.im 0 _,.im 0 _],.v true [.im 0 _,.im 0 _]]) (vs:=[(false,[.im 0 _])]) (v:=.v false [.im 0 _]) (jY Es) (.inl j) j iL j (ppC j (ppC j (ppC j pp0))) j j pb0 j j j)) trivial (sS (dN Tn j (oCa (xs:=[.v true [.im 0 _,.im 0 _],.v true [.im 0 _,.im 0 _],.v true [.im 0 _,.im 0 _]]) (vs:=[(false,[.im 0 _])]) (v:=.v false [.im 0 _]) (jY hx16) (.inl j) j iL j (ppC j (ppC j (ppC j pp0))) j j pb0 j j j)) trivial (t j j (oBi j j j j)<|t j j (oBi j j j j)<|t j j (oMv j j)<|tT j j j j (ak.2 hc1) (oLd (cs:=[.im 0 _,.im 0 _]) j aH j j)<|tT j j j j (ak.2 hc1) (oLd (cs:=[.im 0 _,.im 0 _]) j aH j j)<|tT j j j j (ak.2 hc1) (oLd (cs:=[.im 0 _,.im 0 _]) j aH j j)<|tT j j j j (ak.2 hc1) (oLd (cs:=[.im 0 _,.im 0 _]) j aH j j)<|tT j j j j (ak.2 hc1) (oLd (cs:=[.im 0 _,.im 0 _]) j aH j j)<|tT j j j j (ak.2 hc1) (oLd (cs:=[.im 0 _,.im 0 _]) j aH j j)<|sS (dT Tn j j j (ak.2 hc1) (oCa (xs:=[.v true [.im 0 _,.im 0 _],.v true [.im 0 _,.im 0 _],.v true [.im 0 _,.im 0 _]]) (vs:=[(false,[.im 0 _])]) (v:=.v false [.im 0 _]) (jY NM) (.inl j) j iL j (ppC j (ppC j (ppC j pp0))) j j pb0 j j j)) trivial (sS (dT Tn j j j (ak.2 hc1) (oCa (xs:=[.v true [.im 0 _,.im 0 _],.v true [.im 0 _,.im 0 _],.v true [.im 0 _,.im 0 _]]) (vs:=[(false,[.im 0 _])]) (v:=.v false [.im 0 _]) (jY hx27) (.inl j) j iL j (ppC j (ppC j (ppC j pp0))) j j pb0 j j j)) trivial (tT j j j j (ak.2 hc1) (oBi j j j j)<|tT j j j j (ak.2 hc1) (oBi j j j j)<|t j j (bQ j j (ak.2 hc1) j)<|sS (dN Tn j (ah j j)) trivial (sD (by kernel_rfl))))))
  ·cases hm2
   exact t j j (oLd (cs:=[.im 0 _,.im 0 _]) j aH j j)<|sS (dN Tn j (oCa (xs:=[.v true [.im 0 _,.im 0 _],.v true [.im 0 _,.im 0 _],.v true [.im 0 _,.im 0 _]]) (vs:=[(false,[.im 0 _])]) (v:=.v false [.im 0 _]) (jY Es) (.inl j) j iL j (ppC j (ppC j (ppC j pp0))) j j pb0 j j j)) trivial (sS (dN Tn j (oCa (xs:=[.v true [.im 0 _,.im 0 _],.v true [.im 0 _,.im 0 _],.v true [.im 0 _,.im 0 _]]) (vs:=[(false,[.im 0 _])]) (v:=.v false [.im 0 _]) (jY hx16) (.inl j) j iL j (ppC j (ppC j (ppC j pp0))) j j pb0 j j j)) trivial (t j j (oBi j j j j)<|t j j (oBi j j j j)<|t j j (oMv j j)<|tF j j j j (byF ak hc1) j<|tF j j j j (byF ak hc1) j<|tF j j j j (byF ak hc1) j<|tF j j j j (byF ak hc1) j<|tF j j j j (byF ak hc1) j<|tF j j j j (byF ak hc1) j<|sS (dF j j j (byF ak hc1) j) trivial (sS (dF j j j (byF ak hc1) j) trivial (tF j j j j (byF ak hc1) j<|tF j j j j (byF ak hc1) j<|t j j (bV j j (byF ak hc1) j)<|sS (dN Tn j (ah j j)) trivial (sD (by kernel_rfl))))))
 ·refine us<|Go.ret (Unw.ret ?_)
  cases h
  exact fr af5 j
theorem NP {a_0:ae} {b_1:ae} {c_2:ae} {d_3:ae} {r:Bool} (h:wG a_0 b_1 c_2 d_3=some r):FX 147 [.im 2 true (aQ a_0),.im 2 true (aQ b_1),.im 2 true (aQ c_2),.im 2 true (aQ d_3)] (B0 [(false,[.im 0 (V r)])]):=by
 unfold wG at h
 refine gn 38 Try.func147 rfl ?_
 refine gs<|g0 j j (q (oBx j aH j (tkI (tkI tk0)))<|q (oBx j aH j (tkI (tkI tk0)))<|q (oBx j aH j (tkI (tkI tk0)))<|q (oBx j aH j (tkI (tkI tk0)))<|q (ah j j)<|nl)<|us<|gs<|?_
 obtain ⟨x13,Ia,h⟩:=bs h
 obtain ⟨vz,hm5,h⟩:=bs h
 refine gX afl j j j (mk [(8,bv vz)] []) ?_ ?_
 ·refine xq (oLd (cs:=[.im 0 _,.im 0 _]) j aH j j)<|xq (oLd (cs:=[.im 0 _,.im 0 _]) j aH j j)<|xq (oLd (cs:=[.im 0 _,.im 0 _]) j aH j j)<|xq (oLd (cs:=[.im 0 _,.im 0 _]) j aH j j)<|xq (oCa (xs:=[.v true [.im 0 _,.im 0 _],.v true [.im 0 _,.im 0 _],.v true [.im 0 _,.im 0 _],.v true [.im 0 _,.im 0 _]]) (vs:=[(false,[.im 0 _])]) (v:=.v false [.im 0 _]) (Jk Ia) (.inl j) j ET j (ppC j (ppC j (ppC j (ppC j pp0)))) j j pb0 j j j)<|xq (oMv j j)<|?_
  refine ic hm5 (fun hc1 hm5=>?_) fun hc1 hm5=>?_
  ·cases hm5
   exact au j j (iR.2 hc1) j<|au j j (iR.2 hc1) j<|au j j (iR.2 hc1) j<|au j j (iR.2 hc1) j<|xq (bQ j j (iR.2 hc1) j)<|xq (oMv j j)<|au j j j j<|au j j j j<|au j j j j<|au j j j j<|xq (bQ j j j j)<|xq (oMv j j)<|au j j j j<|au j j j j<|au j j j j<|au j j j j<|xq (bQ j j j j)<|xq (oMv j j)<|au j j j j<|au j j j j<|au j j j j<|au j j j j<|xq (bQ j j j j)<|xq (ah j j)<|xn
  ·obtain ⟨x18,FQ,hm5⟩:=bs hm5
   refine xqT j j (byF iR hc1) (oLd (cs:=[.im 0 _,.im 0 _]) j aH j j)<|xqT j j (byF iR hc1) (oLd (cs:=[.im 0 _,.im 0 _]) j aH j j)<|xqT j j (byF iR hc1) (oLd (cs:=[.im 0 _,.im 0 _]) j aH j j)<|xqT j j (byF iR hc1) (oCa (xs:=[.v true [.im 0 _,.im 0 _],.v true [.im 0 _,.im 0 _],.v true [.im 0 _,.im 0 _]]) (vs:=[(false,[.im 0 _])]) (v:=.v false [.im 0 _]) (uy FQ) (.inl j) j lW j (ppC j (ppC j (ppC j pp0))) j j pb0 j j j)<|xq (bV j j (byF iR hc1) j)<|xq (oMv j j)<|?_
   refine ic hm5 (fun hc2 hm5=>?_) fun hc2 hm5=>?_
   ·cases hm5
    exact au j j (iR.2 hc2) j<|au j j (iR.2 hc2) j<|au j j (iR.2 hc2) j<|au j j (iR.2 hc2) j<|xq (bQ j j (iR.2 hc2) j)<|xq (oMv j j)<|au j j j j<|au j j j j<|au j j j j<|au j j j j<|xq (bQ j j j j)<|xq (oMv j j)<|au j j j j<|au j j j j<|au j j j j<|au j j j j<|xq (bQ j j j j)<|xq (ah j j)<|xn
   ·obtain ⟨x24,hx24,hm5⟩:=bs hm5
    refine xqT j j (byF iR hc2) (oLd (cs:=[.im 0 _,.im 0 _]) j aH j j)<|xqT j j (byF iR hc2) (oLd (cs:=[.im 0 _,.im 0 _]) j aH j j)<|xqT j j (byF iR hc2) (oLd (cs:=[.im 0 _,.im 0 _]) j aH j j)<|xqT j j (byF iR hc2) (oCa (xs:=[.v true [.im 0 _,.im 0 _],.v true [.im 0 _,.im 0 _],.v true [.im 0 _,.im 0 _]]) (vs:=[(false,[.im 0 _])]) (v:=.v false [.im 0 _]) (uy hx24) (.inl j) j lW j (ppC j (ppC j (ppC j pp0))) j j pb0 j j j)<|xq (bV j j (byF iR hc2) j)<|xq (oMv j j)<|?_
    refine ic hm5 (fun hc3 hm5=>?_) fun hc3 hm5=>?_
    ·cases hm5
     exact au j j (iR.2 hc3) j<|au j j (iR.2 hc3) j<|au j j (iR.2 hc3) j<|au j j (iR.2 hc3) j<|xq (bQ j j (iR.2 hc3) j)<|xq (oMv j j)<|au j j j j<|au j j j j<|au j j j j<|au j j j j<|xq (bQ j j j j)<|xq (ah j j)<|xn
    ·obtain ⟨x30,JS,hm5⟩:=bs hm5
     refine xqT j j (byF iR hc3) (oLd (cs:=[.im 0 _,.im 0 _]) j aH j j)<|xqT j j (byF iR hc3) (oLd (cs:=[.im 0 _,.im 0 _]) j aH j j)<|xqT j j (byF iR hc3) (oLd (cs:=[.im 0 _,.im 0 _]) j aH j j)<|xqT j j (byF iR hc3) (oCa (xs:=[.v true [.im 0 _,.im 0 _],.v true [.im 0 _,.im 0 _],.v true [.im 0 _,.im 0 _]]) (vs:=[(false,[.im 0 _])]) (v:=.v false [.im 0 _]) (uy JS) (.inl j) j lW j (ppC j (ppC j (ppC j pp0))) j j pb0 j j j)<|xq (bV j j (byF iR hc3) j)<|xq (oMv j j)<|?_
     refine ic hm5 (fun hc4 hm5=>?_) fun hc4 hm5=>?_
     ·cases hm5
      exact au j j (iR.2 hc4) j<|au j j (iR.2 hc4) j<|au j j (iR.2 hc4) j<|au j j (iR.2 hc4) j<|xq (bQ j j (iR.2 hc4) j)<|xq (ah j j)<|xn
     ·obtain ⟨x36,KW,hm5⟩:=bs hm5
      cases hm5
      exact xqT j j (byF iR hc4) (oLd (cs:=[.im 0 _,.im 0 _]) j aH j j)<|xqT j j (byF iR hc4) (oLd (cs:=[.im 0 _,.im 0 _]) j aH j j)<|xqT j j (byF iR hc4) (oLd (cs:=[.im 0 _,.im 0 _]) j aH j j)<|xqT j j (byF iR hc4) (oCa (xs:=[.v true [.im 0 _,.im 0 _],.v true [.im 0 _,.im 0 _],.v true [.im 0 _,.im 0 _]]) (vs:=[(false,[.im 0 _])]) (v:=.v false [.im 0 _]) (uy KW) (.inl j) j lW j (ppC j (ppC j (ppC j pp0))) j j pb0 j j j)<|xq (bV j j (byF iR hc4) j)<|xq (ah j j)<|xn
 ·refine us<|Go.ret (Unw.ret ?_)
  cases h
  exact fr afQ j
theorem NQ {p_0:(List ae)} {r:Int} (h:wH p_0=some r):FX 148 [.im 2 false [W 2 af p_0]] (B0 [(false,[.im 0 (I r)])]):=by
 unfold wH at h
 refine gn 40 Try.func148 rfl ?_
 refine gs<|g0 j j (q (ah j j)<|nl)<|us<|gs<|g0 j j (q (ah j j)<|nl)<|us<|gs<|gs<|g0 j j (q (ah j j)<|nl)<|us<|Go.block<|?_
 obtain ⟨o,hl,h⟩:=bs h
 refine gl c148 j _ (fun (s:(Int×Int))=>match s with | (nX,fD)=>mk [(0,D 2 (W 2 af p_0)),(3,iv nX),(4,iv fD)] []) (fun (qJ:Int) (p:Ex×St)=>p.1= .exit 0∧p.2.norm ([3],[])=mk [(3,iv qJ)] []) hl (by kernel_rfl) ?_ ?_ ?_
 ·intro o p hp e
  exact nomatch (hp.1.symm.trans e)
 ·rintro ⟨nX,fD⟩ o h
  unfold yZ at h
  dsimp only at h
  refine gs<|gs<|g0 j j (q (oMv j j)<|q (oMv j j)<|q (jd j j Bh j)<|q (oBi j j j j)<|nl)<|us<|gc h j ak (fun hc3 h=>?_) fun hc3 h=>?_
  ·refine Go.skip<|us<|gs<|Go.block<|gs<|?_
   obtain ⟨x17,FT,h⟩:=bs h
   obtain ⟨x18,FQ,h⟩:=bs h
   refine g0 j j (q (oMv j j)<|q (oMv j j)<|q (oBi j j j j)<|q (oMv j j)<|q (jd j j Bh j)<|q (Ce j FT j j)<|q (gZ j FQ pG j j)<|q (oLd (cs:=[.im 2 _,.im 2 _]) j aH j j)<|q (oAl j aH (tkI (tkI tk0)))<|q (oSt aH j j j (tkI (tkI tk0)) j j j)<|nl)<|us<|?_
   obtain ⟨x23,NM,h⟩:=bs h
   obtain ⟨x31,hx31,h⟩:=bs h
   refine gd c148 j j j (st1:=mk [(0,D 2 (W 2 af p_0)),(3,iv nX),(4,iv fD),(5,M 5)] [(5,Oa (G 0 (aQ x18)))]) (by kernel_rfl) (mk [(0,D 2 (W 2 af p_0)),(3,iv (w64 (nX+(w64 ((w64 (x23.X*x18.Y)) - (w64 (x31.Y*x18.X))))))),(4,iv fD)] []) (t j j (oMv j j)<|t j j (oMv j j)<|t j j (oMv j j)<|t j j (gZ j NM pG j j)<|t j j (oFA (r':=.im 2 _) j gG j j)<|t j j (oLd (cs:=[.im 2 _]) j tF2 j j)<|t j j (oFA (r':=.mp 5 0 1) j jb j j)<|t j j (oLd (cs:=[.im 0 _]) j tF2 j j)<|t j j (oBi j j j j)<|t j j (oMv j j)<|t j j (oMv j j)<|t j j (gZ j hx31 pG j j)<|t j j (oFA (r':=.im 2 _) j jb j j)<|t j j (oLd (cs:=[.im 2 _]) j tF2 j j)<|t j j (oFA (r':=.mp 5 0 0) j gG j j)<|t j j (oLd (cs:=[.im 0 _]) j tF2 j j)<|t j j (oBi j j j j)<|t j j (oBi j j j j)<|t j j (oBi j j j j)<|sS (dN z148 j (ah j j)) trivial (sD (by kernel_rfl)))<|Unw.blk<|us<|g0 j j (q (oMv j j)<|q (oBi j j j j)<|q (ah j j)<|nl)<|Unw.nil<|?_
   cases h
   exact ⟨j,(by kernel_rfl)⟩
  ·refine Go.exit<|ux<|Unw.nil<|?_
   cases h
   exact ⟨j,(by kernel_rfl)⟩
 ·rintro ⟨e,st⟩ hp
  obtain ⟨qJ,rfl⟩:∃y,y=o:=⟨o,rfl⟩
  obtain ⟨he,hst⟩:=hp
  obtain rfl:e= .exit 0:=he
  refine Unw.lq<|us<|gs<|g2 c148 j j hst (q (oMv j j)<|q (ah j j)<|nl)<|us<|Go.ret (Unw.ret ?_)
  cases h
  exact fr afR j
theorem Rk {p_0:(List ae)} {r:Bool} (h:Az p_0=some r):FX 89 [.im 2 false [W 2 af p_0]] (B0 [(false,[.im 0 (V r)])]):=by
 unfold Az at h
 refine gn 99 Try.func89 rfl ?_
 refine gs<|g0 j j (q (ah j j)<|nl)<|us<|gs<|g0 j j (q (oMv j j)<|q (jd j j Bh j)<|q (ah j j)<|nl)<|us<|gs<|gs<|gX c89 j j j (mk [(0,D 2 (W 2 af p_0)),(3,iv (p_0.length:Int)),(17,bv ((decide ((p_0.length:Int) <3))||(decide ((p_0.length:Int) >24))))] []) ?_ ?_
 ·refine xq (oMv j j)<|xq (oBi j j j j)<|xq (oMv j j)<|?_
  by_cases hc1:(p_0.length:Int) <3
  ·exact au rfl rfl (ak.2 hc1) rfl<|au rfl rfl (ak.2 hc1) rfl<|xq (bQ rfl rfl (ak.2 hc1) rfl)<|xn (Eq.trans (b:=(fun Et:Bool=>mk [(0,D 2 (W 2 af p_0)),(3,iv (p_0.length:Int)),(17,bv Et)] []) true) (by kernel_rfl) (congrArg (fun Et:Bool=>mk [(0,D 2 (W 2 af p_0)),(3,iv (p_0.length:Int)),(17,bv Et)] []) (by first | rfl | (simp [(ak.2 hc1)];done) | (simp [(ak.2 hc1)];omega))))
  ·exact xqT rfl rfl (byF ak hc1) (oMv rfl rfl)<|xqT rfl rfl (byF ak hc1) (oBi rfl rfl rfl rfl)<|xq (bV rfl rfl (byF ak hc1) rfl)<|xn (Eq.trans (b:=(fun Et:Bool=>mk [(0,D 2 (W 2 af p_0)),(3,iv (p_0.length:Int)),(17,bv Et)] []) (decide ((p_0.length:Int) >24))) (by kernel_rfl) (congrArg (fun Et:Bool=>mk [(0,D 2 (W 2 af p_0)),(3,iv (p_0.length:Int)),(17,bv Et)] []) (by first | rfl | (simp [(byF ak hc1)];done) | (simp [(byF ak hc1)];omega))))
 ·refine us<|gc h j (iOr ak ak) (fun hc2 h=>?_) fun hc2 h=>?_
  ·refine gs<|g0 j j (q (ah j j)<|nl)<|us<|Go.ret (Unw.ret ?_)
   cases h
   exact fr ZK j
  ·refine Go.skip<|us<|gs<|gs<|g0 j j (q (ah j j)<|nl)<|us<|Go.block<|?_
   obtain ⟨o,hl,h⟩:=bs h
   refine gl c89 j _ (fun (JG:Int)=>mk [(0,D 2 (W 2 af p_0)),(3,iv (p_0.length:Int)),(4,iv JG)] []) (fun (o:(Unit ⊕ Bool)) (p:Ex×St)=>match o with | (.inl _)=>p.1= .exit 0∧p.2.norm ([0,3],[])=mk [(0,D 2 (W 2 af p_0)),(3,iv (p_0.length:Int))] [] | (.inr r2)=>p.1= .ret∧fin Try.prog cfg 89 Try.f89 [.im 2 false [W 2 af p_0]] p.2=some (B0 [(false,[.im 0 (V r2)])])) hl (by kernel_rfl) ?_ ?_ ?_
   ·intro o p hp e
    rcases o with u | r2<;>exact nomatch (hp.1.symm.trans e)
   ·rintro JG o h
    unfold Ci at h
    refine gs<|gs<|g0 j j (q (oMv j j)<|q (oMv j j)<|q (oBi j j j j)<|nl)<|us<|gc h j ak (fun ahR h=>?_) fun ahR h=>?_
    ·refine Go.skip<|us<|gs<|Go.block<|gs<|?_
     obtain ⟨x25,hx25,h⟩:=bs h
     obtain ⟨x27,hx27,h⟩:=bs h
     refine g0 j j (q (oMv j j)<|q (oMv j j)<|q (gZ j hx25 pG j j)<|q (oLd (cs:=[.im 2 _,.im 2 _]) j aH j j)<|q (oCa (xs:=[.v true [.im 2 _,.im 2 _]]) (vs:=[(false,[.im 0 _])]) (v:=.v false [.im 0 _]) (Rj hx27) (.inl j) j XP j (ppC j pp0) j j pb0 j j j)<|q (oUn j j j)<|nl)<|us<|?_
     by_cases acz:x27=true
     ·rw [if_pos acz] at h
      refine gF j (nF (iR.2 acz))<|Go.skip<|Unw.blk<|us<|g0 j j (q (oMv j j)<|q (oBi j j j j)<|q (ah j j)<|nl)<|Unw.nil<|?_
      cases h
      exact ⟨j,(by kernel_rfl)⟩
     ·rw [if_neg acz] at h
      refine gT j (nT (byF iR acz))<|gs<|g0 j j (q (ah j j)<|nl)<|us<|Go.ret (Unw.ret ?_)
      cases h
      exact ⟨j,(fo ZK j)⟩
    ·refine Go.exit<|ux<|Unw.nil<|?_
     cases h
     exact ⟨j,(by kernel_rfl)⟩
   ·rintro ⟨e,st⟩ hp
    rcases o with u | r2
    ·dsimp only at h
     obtain ⟨he,hst⟩:=hp
     obtain rfl:e= .exit 0:=he
     refine Unw.lq<|us<|gs<|gs<|g2 c89 j j hst (q (ah j j)<|nl)<|us<|Go.block<|?_
     obtain ⟨o,hl,h⟩:=bs h
     refine gl c89 j _ (fun (mW:Int)=>mk [(0,D 2 (W 2 af p_0)),(3,iv (p_0.length:Int)),(5,iv mW)] []) (fun (o:(Unit ⊕ Bool)) (p:Ex×St)=>match o with | (.inl _)=>p.1= .exit 2∧p.2.norm ([0],[])=mk [(0,D 2 (W 2 af p_0))] [] | (.inr r2)=>p.1= .ret∧fin Try.prog cfg 89 Try.f89 [.im 2 false [W 2 af p_0]] p.2=some (B0 [(false,[.im 0 (V r2)])])) hl (by kernel_rfl) ?_ ?_ ?_
     ·intro o p hp e
      rcases o with u | r2<;>exact nomatch (hp.1.symm.trans e)
     ·rintro mW o h
      unfold wJ at h
      refine gs<|gs<|g0 j j (q (oMv j j)<|q (oMv j j)<|q (oBi j j j j)<|nl)<|us<|gc h j ak (fun yf h=>?_) fun yf h=>?_
      ·refine Go.skip<|us<|gs<|Go.block<|gs<|?_
       obtain ⟨x36,KW,h⟩:=bs h
       refine g0 j j (q (oMv j j)<|q (oMv j j)<|q (gZ j KW pG j j)<|q (oLd (cs:=[.im 2 _,.im 2 _]) j aH j j)<|q (oAl j aH (tkI (tkI tk0)))<|q (oSt aH j j j (tkI (tkI tk0)) j j j)<|nl)<|us<|gs<|?_
       obtain ⟨x42,aek,h⟩:=bs h
       obtain ⟨x43,FW,h⟩:=bs h
       refine g1 j j (mk [(0,D 2 (W 2 af p_0)),(3,iv (p_0.length:Int)),(5,iv mW),(6,M 6)] [(6,Oa (G 0 (aQ x36)))]) (q (oMv j j)<|q (oMv j j)<|q (oBi j j j j)<|q (oMv j j)<|q (Ce j aek j j)<|q (gZ j FW pG j j)<|q (oLd (cs:=[.im 2 _,.im 2 _]) j aH j j)<|q (oAl j aH (tkI (tkI tk0)))<|q (oSt aH j j j (tkI (tkI tk0)) j j j)<|nl)<|us<|gs<|?_
       obtain ⟨x49,KT,h⟩:=bs h
       obtain ⟨x50,TG,h⟩:=bs h
       refine g1 j j (mk [(0,D 2 (W 2 af p_0)),(3,iv (p_0.length:Int)),(5,iv mW),(6,M 6),(7,M 7)] [(6,Oa (G 0 (aQ x36))),(7,Oa (G 0 (aQ x43)))]) (q (oMv j j)<|q (oMv j j)<|q (oBi j j j j)<|q (oMv j j)<|q (Ce j KT j j)<|q (gZ j TG pG j j)<|q (oLd (cs:=[.im 2 _,.im 2 _]) j aH j j)<|q (oAl j aH (tkI (tkI tk0)))<|q (oSt aH j j j (tkI (tkI tk0)) j j j)<|nl)<|us<|gs<|gs<|?_
       obtain ⟨Np,JU,h⟩:=bs h
       refine gX c89 j j (st1:=mk [(0,D 2 (W 2 af p_0)),(3,iv (p_0.length:Int)),(5,iv mW),(6,M 6),(7,M 7),(8,M 8)] [(6,Oa (G 0 (aQ x36))),(7,Oa (G 0 (aQ x43))),(8,Oa (G 0 (aQ x50)))]) (by kernel_rfl) (mk [(0,D 2 (W 2 af p_0)),(3,iv (p_0.length:Int)),(5,iv mW),(6,M 6),(7,M 7),(66,bv Np)] [(6,Oa (G 0 (aQ x36))),(7,Oa (G 0 (aQ x43)))]) ?_ ?_
       ·refine xq (oLd (cs:=[.im 0 _,.im 0 _]) j aH j j)<|xq (oLd (cs:=[.im 0 _,.im 0 _]) j aH j j)<|xq (oBa j (Q4 x36.X x36.Y x43.X x43.Y) j j j j)<|xq (oMv j j)<|?_
        refine ic JU (fun hc34 JU=>?_) fun hc34 JU=>?_
        ·cases JU
         exact au j j ((zq iEq iEq).2 hc34) j<|au j j ((zq iEq iEq).2 hc34) j<|au j j ((zq iEq iEq).2 hc34) j<|au j j ((zq iEq iEq).2 hc34) j<|xq (bQ j j ((zq iEq iEq).2 hc34) j)<|xq (oMv j j)<|au j j j j<|au j j j j<|au j j j j<|au j j j j<|xq (bQ j j j j)<|xn
        ·obtain ⟨x59,UN,JU⟩:=bs JU
         refine xqT j j (byF (zq iEq iEq) hc34) (oLd (cs:=[.im 0 _,.im 0 _]) j aH j j)<|xqT j j (byF (zq iEq iEq) hc34) (oLd (cs:=[.im 0 _,.im 0 _]) j aH j j)<|xqT j j (byF (zq iEq iEq) hc34) (oLd (cs:=[.im 0 _,.im 0 _]) j aH j j)<|xqT j j (byF (zq iEq iEq) hc34) (oCa (xs:=[.v true [.im 0 _,.im 0 _],.v true [.im 0 _,.im 0 _],.v true [.im 0 _,.im 0 _]]) (vs:=[(false,[.im 0 _])]) (v:=.v false [.im 0 _]) (uy UN) (.inl j) j lW j (ppC j (ppC j (ppC j pp0))) j j pb0 j j j)<|xq (bV j j (byF (zq iEq iEq) hc34) j)<|xq (oMv j j)<|?_
         refine ic JU (fun rZ JU=>?_) fun rZ JU=>?_
         ·cases JU
          exact au j j (iR.2 rZ) j<|au j j (iR.2 rZ) j<|au j j (iR.2 rZ) j<|au j j (iR.2 rZ) j<|xq (bQ j j (iR.2 rZ) j)<|xn
         ·obtain ⟨x65,ahS,JU⟩:=bs JU
          cases JU
          exact xqT j j (byF iR rZ) (oLd (cs:=[.im 0 _,.im 0 _]) j aH j j)<|xqT j j (byF iR rZ) (oLd (cs:=[.im 0 _,.im 0 _]) j aH j j)<|xqT j j (byF iR rZ) (oLd (cs:=[.im 0 _,.im 0 _]) j aH j j)<|xqT j j (byF iR rZ) (oCa (xs:=[.v true [.im 0 _,.im 0 _],.v true [.im 0 _,.im 0 _],.v true [.im 0 _,.im 0 _]]) (vs:=[(false,[.im 0 _])]) (v:=.v false [.im 0 _]) (uy ahS) (.inl j) j lW j (ppC j (ppC j (ppC j pp0))) j j pb0 j j j)<|xq (bV j j (byF iR rZ) j)<|xn
       ·refine us<|gc h j iR (fun Bl h=>?_) fun Bl h=>?_
        ·refine gs<|g0 j j (q (ah j j)<|nl)<|us<|Go.ret (Unw.ret ?_)
         cases h
         exact ⟨j,(fo ZK j)⟩
        ·refine Go.skip<|us<|gs<|g0 j j (q (oMv j j)<|q (oBi j j j j)<|q (ah j j)<|nl)<|us<|Go.block<|?_
         obtain ⟨o,hl,h⟩:=bs h
         refine gl c89 j _ (fun (zy:Int)=>mk [(0,D 2 (W 2 af p_0)),(3,iv (p_0.length:Int)),(5,iv mW),(6,M 6),(7,M 7),(9,iv zy)] [(6,Oa (G 0 (aQ x36))),(7,Oa (G 0 (aQ x43)))]) (fun (o:(Unit ⊕ Bool)) (p:Ex×St)=>match o with | (.inl _)=>p.1= .exit 4∧p.2.norm ([0,3,5],[])=mk [(0,D 2 (W 2 af p_0)),(3,iv (p_0.length:Int)),(5,iv mW)] [] | (.inr r2)=>p.1= .ret∧fin Try.prog cfg 89 Try.f89 [.im 2 false [W 2 af p_0]] p.2=some (B0 [(false,[.im 0 (V r2)])])) hl (by kernel_rfl) ?_ ?_ ?_
         ·intro o p hp e
          rcases o with u | r2<;>exact nomatch (hp.1.symm.trans e)
         ·rintro zy o h
          unfold wI at h
          refine gs<|gs<|g0 j j (q (oMv j j)<|q (oMv j j)<|q (oBi j j j j)<|nl)<|us<|gc h j ak (fun ahT h=>?_) fun ahT h=>?_
          ·refine Go.skip<|us<|gs<|Go.block<|gs<|?_
           obtain ⟨x77,ahU,h⟩:=bs h
           obtain ⟨Nl,JV,h⟩:=bs h
           refine gd c89 j j j j (mk [(0,D 2 (W 2 af p_0)),(3,iv (p_0.length:Int)),(5,iv mW),(6,M 6),(7,M 7),(9,iv zy),(95,bv Nl)] [(6,Oa (G 0 (aQ x36))),(7,Oa (G 0 (aQ x43)))]) ?_ ?_
           ·refine t j j (oMv j j)<|t j j (oBi j j j j)<|t j j (oMv j j)<|t j j (Ce j ahU j j)<|t j j (oMv j j)<|t j j (oBi j j j j)<|t j j (oMv j j)<|?_
            refine ic JV (fun vF JV=>?_) fun vF JV=>?_
            ·obtain ⟨x85,ael,JV⟩:=bs JV
             obtain ⟨x91,hx91,JV⟩:=bs JV
             obtain ⟨x92,aem,JV⟩:=bs JV
             obtain ⟨x94,ahV,JV⟩:=bs JV
             cases JV
             exact tT j j j j (iNe.2 vF) (oLd (cs:=[.im 0 _,.im 0 _]) j aH j j)<|tT j j j j (iNe.2 vF) (oLd (cs:=[.im 0 _,.im 0 _]) j aH j j)<|tT j j j j (iNe.2 vF) (oMv j j)<|tT j j j j (iNe.2 vF) (oMv j j)<|tT j j j j (iNe.2 vF) (gZ j ael pG j j)<|tT j j j j (iNe.2 vF) (oLd (cs:=[.im 2 _,.im 2 _]) j aH j j)<|tT j j j j (iNe.2 vF) (oMv j j)<|tT j j j j (iNe.2 vF) (oMv j j)<|tT j j j j (iNe.2 vF) (oBi j j j j)<|tT j j j j (iNe.2 vF) (oMv j j)<|tT j j j j (iNe.2 vF) (Ce j hx91 j j)<|tT j j j j (iNe.2 vF) (gZ j aem pG j j)<|tT j j j j (iNe.2 vF) (oLd (cs:=[.im 2 _,.im 2 _]) j aH j j)<|sS (dT z89 j j j (iNe.2 vF) (oCa (xs:=[.v true [.im 0 _,.im 0 _],.v true [.im 0 _,.im 0 _],.v true [.im 2 _,.im 2 _],.v true [.im 2 _,.im 2 _]]) (vs:=[(false,[.im 0 _])]) (v:=.v false [.im 0 _]) (NP ahV) (.inl j) j ER j (ppC j (ppC j (ppC j (ppC j pp0)))) j j pb0 j j j)) trivial (t j j (bQ j j (iNe.2 vF) j)<|sD (by kernel_rfl))
            ·cases JV
             exact tF j j j j (byF iNe vF) j<|tF j j j j (byF iNe vF) j<|tF j j j j (byF iNe vF) j<|tF j j j j (byF iNe vF) j<|tF j j j j (byF iNe vF) j<|tF j j j j (byF iNe vF) j<|tF j j j j (byF iNe vF) j<|tF j j j j (byF iNe vF) j<|tF j j j j (byF iNe vF) j<|tF j j j j (byF iNe vF) j<|tF j j j j (byF iNe vF) j<|tF j j j j (byF iNe vF) j<|tF j j j j (byF iNe vF) j<|sS (dF j j j (byF iNe vF) j) trivial (t j j (bV j j (byF iNe vF) j)<|sD (by kernel_rfl))
           ·refine us<|gc h j iR (fun hc47 h=>?_) fun hc47 h=>?_
            ·refine gs<|g0 j j (q (ah j j)<|nl)<|us<|Go.ret (Unw.ret ?_)
             cases h
             exact ⟨j,(fo ZK j)⟩
            ·refine Go.skip<|Unw.blk<|us<|g0 j j (q (oMv j j)<|q (oBi j j j j)<|q (ah j j)<|nl)<|Unw.nil<|?_
             cases h
             exact ⟨j,(by kernel_rfl)⟩
          ·refine Go.exit<|ux<|Unw.nil<|?_
           cases h
           exact ⟨j,(by kernel_rfl)⟩
         ·rintro ⟨e,st⟩ hp
          rcases o with u | r2
          ·dsimp only at h
           obtain ⟨he,hst⟩:=hp
           obtain rfl:e= .exit 4:=he
           refine Unw.lq<|Unw.blk<|us<|g2 c89 j j hst (q (oMv j j)<|q (oBi j j j j)<|q (ah j j)<|nl)<|Unw.nil<|?_
           cases h
           exact ⟨j,(by kernel_rfl)⟩
          ·dsimp only at h
           obtain ⟨he,hfin⟩:=hp
           obtain rfl:e= .ret:=he
           cases h
           exact Unw.ret ⟨j,hfin⟩
      ·refine Go.exit<|ux<|Unw.nil<|?_
       cases h
       exact ⟨j,(by kernel_rfl)⟩
     ·rintro ⟨e,st⟩ hp
      rcases o with u | r2
      ·dsimp only at h
       obtain ⟨he,hst⟩:=hp
       obtain rfl:e= .exit 2:=he
       refine Unw.lq<|us<|gs<|?_
       obtain ⟨x97,aen,h⟩:=bs h
       refine g2 c89 j j hst (q (oMv j j)<|q (oCa (xs:=[.v false [.im 2 _]]) (vs:=[(false,[.im 0 _])]) (v:=.v false [.im 0 _]) (NQ aen) (.inl j) j ZA j (ppC j pp0) j j pb0 j j j)<|q (oBi j j j j)<|q (ah j j)<|nl)<|us<|Go.ret (Unw.ret ?_)
       cases h
       exact fr ZK j
      ·dsimp only at h
       obtain ⟨he,hfin⟩:=hp
       obtain rfl:e= .ret:=he
       cases h
       exact Unw.ret (jl hfin)
    ·dsimp only at h
     obtain ⟨he,hfin⟩:=hp
     obtain rfl:e= .ret:=he
     cases h
     exact Unw.ret (jl hfin)
theorem Jl {d_0:aB} {r:Bool} (h:tH d_0=some r):FX 41 [.im 2 false [.cp (aJ d_0) 0]] (B0 [(false,[.im 0 (V r)])]):=by
 unfold tH at h
 refine gn 96 Try.func41 rfl ?_
 refine gs<|g0 j j (q (ah j j)<|nl)<|us<|gs<|gs<|?_
 obtain ⟨x10,FV,h⟩:=bs h
 obtain ⟨Qv,FZ,h⟩:=bs h
 refine gX c41 j j j (mk [(0,D 2 (.cp (aJ d_0) 0)),(32,bv Qv)] []) ?_ ?_
 ·refine xq (oMv j j)<|xq (oNl j j j)<|xq (oFA (r':=.im 2 _) j H7 j j)<|xq (oLd (cs:=[.im 2 _]) j tF2 j j)<|xq (oCa (xs:=[.v false [.im 2 _],.v false [.im 0 _],.v false [.im 0 _]]) (vs:=[(false,[.im 0 _])]) (v:=.v false [.im 0 _]) (fH FV) (.inl j) j iU j (ppC j (ppC j (ppC j pp0))) j j pb0 j j j)<|xq (oUn j j j)<|xq (oMv j j)<|?_
  refine ic FZ (fun hc1 FZ=>?_) fun hc1 FZ=>?_
  ·obtain ⟨x17,FT,FZ⟩:=bs FZ
   refine xqT j j (nF (iR.2 hc1)) (oMv j j)<|xqT j j (nF (iR.2 hc1)) (oNl j j j)<|xqT j j (nF (iR.2 hc1)) (oFA (r':=.im 2 _) j JL j j)<|xqT j j (nF (iR.2 hc1)) (oLd (cs:=[.im 2 _]) j tF2 j j)<|xqT j j (nF (iR.2 hc1)) (oCa (xs:=[.v false [.im 2 _],.v false [.im 0 _],.v false [.im 0 _]]) (vs:=[(false,[.im 0 _])]) (v:=.v false [.im 0 _]) (fH FT) (.inl j) j iU j (ppC j (ppC j (ppC j pp0))) j j pb0 j j j)<|xqT j j (nF (iR.2 hc1)) (oUn j j j)<|xq (bV j j (nF (iR.2 hc1)) j)<|xq (oMv j j)<|?_
   refine ic FZ (fun hc2 FZ=>?_) fun hc2 FZ=>?_
   ·obtain ⟨x22,KQ,FZ⟩:=bs FZ
    refine xqT j j (nF (iR.2 hc2)) (oMv j j)<|xqT j j (nF (iR.2 hc2)) (oCa (xs:=[.v false [.im 2 _]]) (vs:=[(false,[.im 0 _])]) (v:=.v false [.im 0 _]) (JR KQ) (.inl j) j acg j (ppC j pp0) j j pb0 j j j)<|xqT j j (nF (iR.2 hc2)) (oUn j j j)<|xq (bV j j (nF (iR.2 hc2)) j)<|xq (oMv j j)<|?_
    refine ic FZ (fun hc3 FZ=>?_) fun hc3 FZ=>?_
    ·cases FZ
     exact xqT j j (nF (iR.2 hc3)) (oMv j j)<|xqT j j (nF (iR.2 hc3)) (oNl j j j)<|xqT j j (nF (iR.2 hc3)) (oFA (r':=.im 2 _) j gU j j)<|xqT j j (nF (iR.2 hc3)) (oLd (cs:=[.im 2 _]) j qw j j)<|xqT j j (nF (iR.2 hc3)) (jd j j Eo j)<|xqT j j (nF (iR.2 hc3)) (oBi j j j j)<|xq (bV j j (nF (iR.2 hc3)) j)<|xn
    ·cases FZ
     exact au j j (nT (byF iR hc3)) j<|au j j (nT (byF iR hc3)) j<|au j j (nT (byF iR hc3)) j<|au j j (nT (byF iR hc3)) j<|au j j (nT (byF iR hc3)) j<|au j j (nT (byF iR hc3)) j<|xq (bQ j j (nT (byF iR hc3)) j)<|xn
   ·cases FZ
    exact au j j (nT (byF iR hc2)) j<|au j j (nT (byF iR hc2)) j<|au j j (nT (byF iR hc2)) j<|xq (bQ j j (nT (byF iR hc2)) j)<|xq (oMv j j)<|au j j j j<|au j j j j<|au j j j j<|au j j j j<|au j j j j<|au j j j j<|xq (bQ j j j j)<|xn
  ·cases FZ
   exact au j j (nT (byF iR hc1)) j<|au j j (nT (byF iR hc1)) j<|au j j (nT (byF iR hc1)) j<|au j j (nT (byF iR hc1)) j<|au j j (nT (byF iR hc1)) j<|au j j (nT (byF iR hc1)) j<|xq (bQ j j (nT (byF iR hc1)) j)<|xq (oMv j j)<|au j j j j<|au j j j j<|au j j j j<|xq (bQ j j j j)<|xq (oMv j j)<|au j j j j<|au j j j j<|au j j j j<|au j j j j<|au j j j j<|au j j j j<|xq (bQ j j j j)<|xn
 ·refine us<|gc h j iR (fun hc4 h=>?_) fun hc4 h=>?_
  ·refine gs<|g0 j j (q (ah j j)<|nl)<|us<|Go.ret (Unw.ret ?_)
   cases h
   exact fr acn j
  ·refine Go.skip<|us<|gs<|gs<|g0 j j (q (ah j j)<|nl)<|us<|Go.block<|?_
   obtain ⟨o,hl,h⟩:=bs h
   refine gl c41 j _ (fun (dQ:Int)=>mk [(0,D 2 (.cp (aJ d_0) 0)),(3,iv dQ)] []) (fun (o:(Unit ⊕ Bool)) (p:Ex×St)=>match o with | (.inl _)=>p.1= .exit 0∧p.2.norm ([],[])=mk [] [] | (.inr r2)=>p.1= .ret∧fin Try.prog cfg 41 Try.f41 [.im 2 false [.cp (aJ d_0) 0]] p.2=some (B0 [(false,[.im 0 (V r2)])])) hl (by kernel_rfl) ?_ ?_ ?_
   ·intro o p hp e
    rcases o with u | r2<;>exact nomatch (hp.1.symm.trans e)
   ·rintro dQ o h
    unfold rP at h
    refine gs<|gs<|g0 j j (q (oMv j j)<|q (oMv j j)<|q (oNl j j j)<|q (oFA (r':=.im 2 _) j gU j j)<|q (oLd (cs:=[.im 2 _]) j qw j j)<|q (jd j j Eo j)<|q (oBi j j j j)<|nl)<|us<|gc h j ak (fun hc21 h=>?_) fun hc21 h=>?_
    ·refine Go.skip<|us<|gs<|Go.block<|gs<|gs<|?_
     obtain ⟨x47,KR,h⟩:=bs h
     obtain ⟨x50,TG,h⟩:=bs h
     obtain ⟨Qu,JW,h⟩:=bs h
     refine gd c41 j j j j (mk [(0,D 2 (.cp (aJ d_0) 0)),(3,iv dQ),(75,bv Qu)] []) ?_ ?_
     ·refine t j j (oMv j j)<|t j j (oNl j j j)<|t j j (oFA (r':=.im 2 _) j gU j j)<|t j j (oLd (cs:=[.im 2 _]) j qw j j)<|t j j (oMv j j)<|t j j (gZ j KR uF j j)<|t j j (oFA (r':=.im 2 _) j zF j j)<|?_
      refine ic JW (fun hc22 JW=>?_) fun hc22 JW=>?_
      ·refine ic JW (fun mF JW=>?_) fun mF JW=>?_
       ·obtain ⟨x62,ahW,JW⟩:=bs JW
        obtain ⟨x70,aeo,JW⟩:=bs JW
        cases JW
        exact t j j (oLd (cs:=[.im 2 _]) j tF9 j j)<|sS (dN z41 j (oCa (xs:=[.v false [.im 2 _]]) (vs:=[(false,[.im 0 _])]) (v:=.v false [.im 0 _]) (Bj TG) (.inl j) j UH j (ppC j pp0) j j pb0 j j j)) trivial (t j j (oUn j j j)<|t j j (oMv j j)<|tT j j j j (nF (iR.2 hc22)) (oMv j j)<|tT j j j j (nF (iR.2 hc22)) (oBi j j j j)<|tT j j j j (nF (iR.2 hc22)) (oMv j j)<|tT j j j j (ak.2 mF) (oMv j j)<|tT j j j j (ak.2 mF) (oNl j j j)<|tT j j j j (ak.2 mF) (oFA (r':=.im 2 _) j gU j j)<|tT j j j j (ak.2 mF) (oLd (cs:=[.im 2 _]) j qw j j)<|tT j j j j (ak.2 mF) (oMv j j)<|tT j j j j (ak.2 mF) (oBi j j j j)<|tT j j j j (ak.2 mF) (gZ j ahW uF j j)<|tT j j j j (ak.2 mF) (oFA (r':=.im 2 _) j zF j j)<|tT j j j j (ak.2 mF) (oLd (cs:=[.im 2 _]) j tF9 j j)<|tT j j j j (ak.2 mF) (oMv j j)<|tT j j j j (ak.2 mF) (oNl j j j)<|tT j j j j (ak.2 mF) (oFA (r':=.im 2 _) j gU j j)<|tT j j j j (ak.2 mF) (oLd (cs:=[.im 2 _]) j qw j j)<|tT j j j j (ak.2 mF) (oMv j j)<|tT j j j j (ak.2 mF) (gZ j aeo uF j j)<|tT j j j j (ak.2 mF) (oFA (r':=.im 2 _) j zF j j)<|tT j j j j (ak.2 mF) (oLd (cs:=[.im 2 _]) j tF9 j j)<|tT j j j j (ak.2 mF) (oBi j j j j)<|tT j j j j (nF (iR.2 hc22)) (bQ j j (ak.2 mF) j)<|t j j (bV j j (nF (iR.2 hc22)) j)<|sD (by kernel_rfl))
       ·cases JW
        exact t j j (oLd (cs:=[.im 2 _]) j tF9 j j)<|sS (dN z41 j (oCa (xs:=[.v false [.im 2 _]]) (vs:=[(false,[.im 0 _])]) (v:=.v false [.im 0 _]) (Bj TG) (.inl j) j UH j (ppC j pp0) j j pb0 j j j)) trivial (t j j (oUn j j j)<|t j j (oMv j j)<|tT j j j j (nF (iR.2 hc22)) (oMv j j)<|tT j j j j (nF (iR.2 hc22)) (oBi j j j j)<|tT j j j j (nF (iR.2 hc22)) (oMv j j)<|tF j j j j (byF ak mF) j<|tF j j j j (byF ak mF) j<|tF j j j j (byF ak mF) j<|tF j j j j (byF ak mF) j<|tF j j j j (byF ak mF) j<|tF j j j j (byF ak mF) j<|tF j j j j (byF ak mF) j<|tF j j j j (byF ak mF) j<|tF j j j j (byF ak mF) j<|tF j j j j (byF ak mF) j<|tF j j j j (byF ak mF) j<|tF j j j j (byF ak mF) j<|tF j j j j (byF ak mF) j<|tF j j j j (byF ak mF) j<|tF j j j j (byF ak mF) j<|tF j j j j (byF ak mF) j<|tF j j j j (byF ak mF) j<|tF j j j j (byF ak mF) j<|tT j j j j (nF (iR.2 hc22)) (bV j j (byF ak mF) j)<|t j j (bV j j (nF (iR.2 hc22)) j)<|sD (by kernel_rfl))
      ·cases JW
       exact t j j (oLd (cs:=[.im 2 _]) j tF9 j j)<|sS (dN z41 j (oCa (xs:=[.v false [.im 2 _]]) (vs:=[(false,[.im 0 _])]) (v:=.v false [.im 0 _]) (Bj TG) (.inl j) j UH j (ppC j pp0) j j pb0 j j j)) trivial (t j j (oUn j j j)<|t j j (oMv j j)<|tF j j j j (nT (byF iR hc22)) j<|tF j j j j (nT (byF iR hc22)) j<|tF j j j j (nT (byF iR hc22)) j<|sT j (dU j j j j)<|sT j (dU j j j j)<|sT j (dU j j j j)<|sT j (dU j j j j)<|sT j (dU j j j j)<|sT j (dU j j j j)<|sT j (dU j j j j)<|sT j (dU j j j j)<|sT j (dU j j j j)<|sT j (dU j j j j)<|sT j (dU j j j j)<|sT j (dU j j j j)<|sT j (dU j j j j)<|sT j (dU j j j j)<|sT j (dU j j j j)<|sT j (dU j j j j)<|sT j (dU j j j j)<|sT j (dU j j j j)<|tF j j j j (nT (byF iR hc22)) j<|t j j (bQ j j (nT (byF iR hc22)) j)<|sD (by kernel_rfl))
     ·refine us<|gc h j iR (fun hc24 h=>?_) fun hc24 h=>?_
      ·refine gs<|g0 j j (q (ah j j)<|nl)<|us<|Go.ret (Unw.ret ?_)
       cases h
       exact ⟨j,(fo acn j)⟩
      ·refine Go.skip<|us<|gs<|?_
       obtain ⟨x83,ahX,h⟩:=bs h
       obtain ⟨x86,Q8,h⟩:=bs h
       refine g0 j j (q (oMv j j)<|q (oMv j j)<|q (oNl j j j)<|q (oFA (r':=.im 2 _) j gU j j)<|q (oLd (cs:=[.im 2 _]) j qw j j)<|q (oMv j j)<|q (gZ j ahX uF j j)<|q (oFA (r':=.im 2 _) j pJ j j)<|q (oLd (cs:=[.im 2 _]) j oz j j)<|q (oCr (xs:=[.v false [.im 2 _],.v false [.im 2 _]]) (vs:=[(false,[.own 86 0 0]),(false,[.im 0 _])]) (v:=.tup [(false,[.own 86 0 0]),(false,[.im 0 _])]) (c:=⟨.sh,0,_⟩) (cs:=[]) (NL Q8) (.inl j) j UI j (ppC j (ppC j pp0)) j j pb0 j j j)<|q (KL j j)<|q (oEx j j j)<|q (oEx j j j)<|q (oZ j j j j j)<|q (ah j j)<|nl)<|us<|gs<|?_
       obtain ⟨Je,FY,h⟩:=bs h
       refine gX c41 j j j (mk [(0,D 2 (.cp (aJ d_0) 0)),(3,iv dQ),(95,bv Je)] []) ?_ ?_
       ·refine xq (oMv j j)<|xq (oUn j j j)<|xq (oMv j j)<|?_
        refine ic FY (fun hc25 FY=>?_) fun hc25 FY=>?_
        ·obtain ⟨x93,hx93,FY⟩:=bs FY
         cases FY
         exact xqT j j (nF (iR.2 hc25)) (oMv j j)<|xqT j j (nF (iR.2 hc25)) (oCa (xs:=[.v false [.own 4 0 0]]) (vs:=[(false,[.im 0 _])]) (v:=.v false [.im 0 _]) (Rk hx93) (.inl j) j ach j (ppC j pp0) j j pb0 j j j)<|xqT j j (nF (iR.2 hc25)) (oUn j j j)<|xq (bV j j (nF (iR.2 hc25)) j)<|xn
        ·cases FY
         exact au j j (nT (byF iR hc25)) j<|au j j (nT (byF iR hc25)) j<|au j j (nT (byF iR hc25)) j<|xq (bQ j j (nT (byF iR hc25)) j)<|xn
       ·refine us<|gc h j iR (fun DJ h=>?_) fun DJ h=>?_
        ·refine gs<|g0 j j (q (ah j j)<|nl)<|us<|Go.ret (Unw.ret ?_)
         cases h
         exact ⟨j,(fo acn j)⟩
        ·refine Go.skip<|Unw.blk<|us<|g0 j j (q (oMv j j)<|q (oBi j j j j)<|q (ah j j)<|nl)<|Unw.nil<|?_
         cases h
         exact ⟨j,(by kernel_rfl)⟩
    ·refine Go.exit<|ux<|Unw.nil<|?_
     cases h
     exact ⟨j,(by kernel_rfl)⟩
   ·rintro ⟨e,st⟩ hp
    rcases o with u | r2
    ·dsimp only at h
     obtain ⟨he,hst⟩:=hp
     obtain rfl:e= .exit 0:=he
     refine Unw.lq<|us<|gs<|g2 c41 j j hst (q (ah j j)<|nl)<|us<|Go.ret (Unw.ret ?_)
     cases h
     exact fr acn j
    ·dsimp only at h
     obtain ⟨he,hfin⟩:=hp
     obtain rfl:e= .ret:=he
     cases h
     exact Unw.ret (jl hfin)
theorem NR {gW:(List Int)} {r:aB} (h:wK gW=some r):FX 7 [.im 2 false [W 1 (eK .u8) gW]] (B0 [(true,[.im 0 (I r.Width),.im 0 (I r.Height),.ow 0 2 (List.map af r.aI),.ow 0 2 (List.map az r.ai)])]):=by
 unfold wK at h
 refine gn 14 Try.func7 rfl ?_
 refine gs<|g0 j j (q (oAl j jX (tkI (tkI (tkN (tkN tk0)))))<|nl)<|us<|gs<|?_
 obtain ⟨x6,hx6,h⟩:=bs h
 refine g0 j j (q (oMv j j)<|q (oCp (xs:=[.v false [.im 2 _]]) (FP hx6) (.inl j) j WH j (ppC j pp0) j j pb0 j)<|q (Um j j)<|nl)<|us<|gs<|?_
 obtain ⟨x8,hx8,h⟩:=bs h
 refine g0 j j (q (oMv j j)<|q (oCr (xs:=[.v false [.mp 6 0 0]]) (vs:=[(true,[.im 0 _,.im 0 _,.own 8 0 0,.own 8 0 1])]) (v:=.v true [.im 0 _,.im 0 _,.own 8 0 0,.own 8 0 1]) (c:=⟨.sh,0,_⟩) (cs:=[⟨.sh,0,_⟩]) (NK hx8) (.inl j) j ab8 j (ppP j j j pp0) j j (pbP j j pb0) j j j)<|q (oAl j jX (tkI (tkI (tkN (tkN tk0)))))<|q (oSt jX j j j (tkI (tkI (tkO j j (tkO j j tk0)))) j j j)<|nl)<|us<|gs<|gs<|?_
 obtain ⟨x9,hx9,h⟩:=bs h
 refine g1 j j (mk [(2,M 2),(3,M 6),(4,M 4)] [(2,Oa [C (I 0),C (I 0),Z (W 2 af ([]:List ae)),Z (W 2 az ([]:List aj))]),(4,Oa [C (I x8.1.Width),C (I x8.1.Height),Z (W 2 af x8.1.aI),Z (W 2 az x8.1.ai)]),(6,Oa (G 2 (aS x8.2)))]) (q (oCa (xs:=[.v false [.mp 4 0 0]]) (vs:=[(false,[.im 0 _])]) (v:=.v false [.im 0 _]) (Jl hx9) (.inl j) j WI j (ppC j pp0) j j pb0 j j j)<|q (oUn j j j)<|nl)<|us<|?_
 by_cases hc1:x9=true
 ·rw [if_pos hc1] at h
  refine gF j (nF (iR.2 hc1))<|Go.skip<|us<|gs<|g0 j j (q (oLd (cs:=[.im 0 _,.im 0 _,.own 4 0 2,.own 4 0 3]) j jX j j)<|q (oSt jX j j j (tkI (tkI (tkO j j (tkO j j tk0)))) j j j)<|nl)<|us<|Go.ret (Unw.ret ?_)
  cases h
  exact fr rF7 j
 ·rw [if_neg hc1] at h
  refine gT j (nT (byF iR hc1))<|gs<|?_
  obtain ⟨x12,Es,h⟩:=bs h
  refine g0 j j (q (oMv j j)<|q (oCr (xs:=[.v false [.mp 6 0 0]]) (vs:=[(true,[.im 0 _,.im 0 _,.own 12 0 0,.own 12 0 1])]) (v:=.v true [.im 0 _,.im 0 _,.own 12 0 0,.own 12 0 1]) (c:=⟨.sh,0,_⟩) (cs:=[⟨.sh,0,_⟩]) (FU Es) (.inl j) j WJ j (ppP j j j pp0) j j (pbP j j pb0) j j j)<|q (oSt jX j j j (tkI (tkI (tkO j j (tkO j j tk0)))) j j j)<|nl)<|us<|Go.ret (Unw.ret ?_)
  cases h
  exact fr rF7 j
theorem EO {r:(List (List Int))} (h:mY=some r):FX 135 [] (B0 [(false,[.ow 0 1 (List.map (eL 1 eI) r)])]):=by
 unfold mY at h
 refine gn 12 Try.func135 rfl ?_
 refine gs<|g0 j j (q (Cc j j ad9)<|nl)<|us<|gs<|g0 j j (q (oBS (es:=List.map eI ([20,40,310]:List Int)) j eX j (ptC j (fxI fx0) j (ptC j (fxI fx0) j (ptC j (fxI fx0) j pt0))) (dn j fun _=>j))<|q (oBS (es:=List.map eI ([35,45,410]:List Int)) j eX j (ptC j (fxI fx0) j (ptC j (fxI fx0) j (ptC j (fxI fx0) j pt0))) (dn j fun _=>j))<|q (oBS (es:=List.map eI ([15,33,280]:List Int)) j eX j (ptC j (fxI fx0) j (ptC j (fxI fx0) j (ptC j (fxI fx0) j pt0))) (dn j fun _=>j))<|q (oBS (es:=List.map eI ([50,36,240]:List Int)) j eX j (ptC j (fxI fx0) j (ptC j (fxI fx0) j (ptC j (fxI fx0) j pt0))) (dn j fun _=>j))<|q (oBS (es:=List.map eI ([95,85,270]:List Int)) j eX j (ptC j (fxI fx0) j (ptC j (fxI fx0) j (ptC j (fxI fx0) j pt0))) (dn j fun _=>j))<|q (oBS (es:=List.map eI ([5,35,370]:List Int)) j eX j (ptC j (fxI fx0) j (ptC j (fxI fx0) j (ptC j (fxI fx0) j pt0))) (dn j fun _=>j))<|q (oBS (es:=List.map eI ([10,42,290]:List Int)) j eX j (ptC j (fxI fx0) j (ptC j (fxI fx0) j (ptC j (fxI fx0) j pt0))) (dn j fun _=>j))<|q (oBS (es:=List.map eI ([40,40,330]:List Int)) j eX j (ptC j (fxI fx0) j (ptC j (fxI fx0) j (ptC j (fxI fx0) j pt0))) (dn j fun _=>j))<|q (oBS (es:=List.map eI ([80,60,220]:List Int)) j eX j (ptC j (fxI fx0) j (ptC j (fxI fx0) j (ptC j (fxI fx0) j pt0))) (dn j fun _=>j))<|q (oBS (es:=List.map eI ([70,38,260]:List Int)) j eX j (ptC j (fxI fx0) j (ptC j (fxI fx0) j (ptC j (fxI fx0) j pt0))) (dn j fun _=>j))<|q (oBS (es:=List.map (eL 1 eI) ([([20,40,310]:List Int),([35,45,410]:List Int),([15,33,280]:List Int),([50,36,240]:List Int),([95,85,270]:List Int),([5,35,370]:List Int),([10,42,290]:List Int),([40,40,330]:List Int),([80,60,220]:List Int),([70,38,260]:List Int)]:List (List Int))) j JQ j (ptC j (fxO j j fx0) j (ptC j (fxO j j fx0) j (ptC j (fxO j j fx0) j (ptC j (fxO j j fx0) j (ptC j (fxO j j fx0) j (ptC j (fxO j j fx0) j (ptC j (fxO j j fx0) j (ptC j (fxO j j fx0) j (ptC j (fxO j j fx0) j (ptC j (fxO j j fx0) j pt0)))))))))) (su j))<|q (oZ j j j j j)<|nl)<|us<|Go.ret (Unw.ret ?_)
 cases h
 exact fr afJ j
theorem y9 {r:(List ByteArray)} (h:rQ=some r):FX 159 [] (B0 [(false,[.ow 0 1 (List.map eS r)])]):=by
 unfold rQ at h
 refine gn 2 Try.func159 rfl ?_
 refine gs<|g0 j j (q (Cc j j afv)<|nl)<|us<|gs<|g0 j j (q (oBS (es:=List.map eS ([(⟨#[97,115,104]⟩:ByteArray),(⟨#[98,101,101,99,104]⟩:ByteArray),(⟨#[98,105,114,99,104]⟩:ByteArray),(⟨#[99,104,101,114,114,121]⟩:ByteArray),(⟨#[101,98,111,110,121]⟩:ByteArray),(⟨#[104,111,108,108,121]⟩:ByteArray),(⟨#[109,97,112,108,101]⟩:ByteArray),(⟨#[111,97,107]⟩:ByteArray),(⟨#[114,111,115,101,119,111,111,100]⟩:ByteArray),(⟨#[119,97,108,110,117,116]⟩:ByteArray)]:List ByteArray)) j Pz j (ptC j (fxI fx0) j (ptC j (fxI fx0) j (ptC j (fxI fx0) j (ptC j (fxI fx0) j (ptC j (fxI fx0) j (ptC j (fxI fx0) j (ptC j (fxI fx0) j (ptC j (fxI fx0) j (ptC j (fxI fx0) j (ptC j (fxI fx0) j pt0)))))))))) (dn j fun _=>j))<|q (oZ j j j j j)<|nl)<|us<|Go.ret (Unw.ret ?_)
 cases h
 exact fr afV j
theorem NS {s_0:aC} {r:(aF×aC)} (h:wL s_0=some r):FX 107 [.ptr true [(.imm,W 1 (eK .u8) s_0.code),(.imm,I s_0.at_),(.imm,.sc (.int .u64 s_0.seed))]] ([(true,J 0 (ou r.1))],[.ptr true [(.imm,W 1 (eK .u8) r.2.code),(.imm,I r.2.at_),(.imm,.sc (.int .u64 r.2.seed))]]):=by
 unfold wL at h
 refine sV (A:=[(0,M 0)]) (B:=[(0,Od (G 1 (aS s_0)))]) (nt:=36) rfl rfl Try.func107 rfl rfl rfl rfl ?_
 refine gs<|g0 j j (q (oAl j zG (tkI (tkI (tkI tk0))))<|nl)<|us<|gs<|?_
 obtain ⟨x8,hx8,h⟩:=bs h
 refine g0 j j (q (oMv j j)<|q (oCa (xs:=[.v false [.mp 0 0 0],.v false [.im 0 _]]) (vs:=[(false,[.im 0 _])]) (v:=.v false [.im 0 _]) (aW hx8) (.inl j) j eF j (ppP j j j (ppC j pp0)) j j (pbP j j pb0) j j j)<|q (ah j j)<|nl)<|us<|gs<|?_
 obtain ⟨x9,hx9,h⟩:=bs h
 obtain ⟨x11,XU,h⟩:=bs h
 obtain ⟨x13,Ia,h⟩:=bs h
 obtain ⟨x16,hx16,h⟩:=bs h
 refine gd c107 j j j (st1:=mk [(0,M 0),(2,M 2),(3,iv x8.1)] [(0,Od (G 1 (aS x8.2))),(2,Oa [C (Y (⟨#[]⟩:ByteArray)),C (I 0),C (I 0)])]) (by kernel_rfl) (mk [(0,M 0),(2,M 2),(3,iv x8.1),(4,iv (w64 ((w64 (x13+x16.1)) - 10)))] [(0,Od (G 1 (aS x16.2))),(2,Oa [C (Y (⟨#[]⟩:ByteArray)),C (I 0),C (I 0)])]) (t j j (oMv j j)<|t j j (oMv j j)<|sS (dN z107 j (oCr (xs:=[]) (vs:=[(false,[.own 9 0 0])]) (v:=.v false [.own 9 0 0]) (c:=⟨.sh,0,_⟩) (cs:=[]) (EO hx9) (.inl j) j Zz j pp0 j j pb0 j j j)) trivial (sK (O:=[9]) j j j (dN z107 j (xN j XU JQ j j j j))<|sK (O:=[9]) j j j (dN z107 j (C9 (cs:=[.im 0 _]) j oz j j j j (jH XU) j j))<|t j j (gZ j Ia eX j j)<|t j j (oLd (cs:=[.im 0 _]) j tF2 j j)<|sS (dN z107 j (oCa (xs:=[.v false [.mp 0 0 0],.v false [.im 0 _]]) (vs:=[(false,[.im 0 _])]) (v:=.v false [.im 0 _]) (aW hx16) (.inl j) j eF j (ppP j j j (ppC j pp0)) j j (pbP j j pb0) j j j)) (kY ⟨j,trivial⟩ (kY ⟨j,trivial⟩ trivial)) (t j j (oBi j j j j)<|t j j (oBi j j j j)<|sS (dN z107 j (ah j j)) (kN j (kN j trivial)) (sD (by kernel_rfl)))))<|us<|gs<|?_
 obtain ⟨x19,Cm,h⟩:=bs h
 obtain ⟨x21,OC,h⟩:=bs h
 obtain ⟨x24,hx24,h⟩:=bs h
 obtain ⟨x25,hx25,h⟩:=bs h
 refine gd c107 j j j j (mk [(0,M 0),(2,M 2),(5,M 5)] [(0,Od (G 1 (aS x16.2))),(2,Oa [C (Y (⟨#[]⟩:ByteArray)),C (I 0),C (I 0)]),(5,Oa [C (Y x21),C (I x25),C (I 0)])]) (t j j (oMv j j)<|t j j (oMv j j)<|sF (dN z107 j (oCr (xs:=[]) (vs:=[(false,[.own 19 0 0])]) (v:=.v false [.own 19 0 0]) (c:=⟨.sh,0,_⟩) (cs:=[]) (y9 Cm) (.inl j) j UC j pp0 j j pb0 j j j)) trivial (t j j (xN j OC Pz j j j j)<|t j j (C9 (cs:=[.im 0 _]) j tF9 j j j j (jH OC) j j)<|sF (dN z107 j (oCa (xs:=[.v false [.im 0 _],.v false [.im 0 _]]) (vs:=[(false,[.im 0 _])]) (v:=.v false [.im 0 _]) (ni hx24) (.inl j) j vS j (ppC j (ppC j pp0)) j j pb0 j j j)) trivial (sF (dN z107 j (oCa (xs:=[.v false [.im 0 _],.v false [.im 0 _]]) (vs:=[(false,[.im 0 _])]) (v:=.v false [.im 0 _]) (ng hx25) (.inl j) j vT j (ppC j (ppC j pp0)) j j pb0 j j j)) trivial (sF (dN z107 j (oBu (cs:=[.im 0 _,.im 0 _,.im 0 _]) j Zn j)) trivial (sS (dN z107 j (oAl j zG (tkI (tkI (tkI tk0))))) trivial (sS (dN z107 j (oSt zG j j j (tkI (tkI (tkI tk0))) j j j)) trivial (sD (by kernel_rfl)))) (sS (dN z107 j (oAl j zG (tkI (tkI (tkI tk0))))) trivial (sS (dN z107 j (oBu (cs:=[.im 0 _,.im 0 _,.im 0 _]) j Zn j)) trivial (sS (dN z107 j (oSt zG j j j (tkI (tkI (tkI tk0))) j j j)) trivial (sD (by kernel_rfl)))))) (sS (dN z107 j (oAl j zG (tkI (tkI (tkI tk0))))) trivial (sS (dN z107 j (oCa (xs:=[.v false [.im 0 _],.v false [.im 0 _]]) (vs:=[(false,[.im 0 _])]) (v:=.v false [.im 0 _]) (ng hx25) (.inl j) j vT j (ppC j (ppC j pp0)) j j pb0 j j j)) trivial (sS (dN z107 j (oBu (cs:=[.im 0 _,.im 0 _,.im 0 _]) j Zn j)) trivial (sS (dN z107 j (oSt zG j j j (tkI (tkI (tkI tk0))) j j j)) trivial (sD (by kernel_rfl))))))) (sS (dN z107 j (oAl j zG (tkI (tkI (tkI tk0))))) trivial (sS (dN z107 j (oCa (xs:=[.v false [.im 0 _],.v false [.im 0 _]]) (vs:=[(false,[.im 0 _])]) (v:=.v false [.im 0 _]) (ni hx24) (.inl j) j vS j (ppC j (ppC j pp0)) j j pb0 j j j)) trivial (sS (dN z107 j (oCa (xs:=[.v false [.im 0 _],.v false [.im 0 _]]) (vs:=[(false,[.im 0 _])]) (v:=.v false [.im 0 _]) (ng hx25) (.inl j) j vT j (ppC j (ppC j pp0)) j j pb0 j j j)) trivial (sS (dN z107 j (oBu (cs:=[.im 0 _,.im 0 _,.im 0 _]) j Zn j)) trivial (sS (dN z107 j (oSt zG j j j (tkI (tkI (tkI tk0))) j j j)) trivial (sD (by kernel_rfl)))))))) (sS (dN z107 j (oAl j zG (tkI (tkI (tkI tk0))))) trivial (sS (dN z107 j (oCr (xs:=[]) (vs:=[(false,[.own 19 0 0])]) (v:=.v false [.own 19 0 0]) (c:=⟨.sh,0,_⟩) (cs:=[]) (y9 Cm) (.inl j) j UC j pp0 j j pb0 j j j)) trivial (t j j (xN j OC Pz j j j j)<|t j j (C9 (cs:=[.im 0 _]) j tF9 j j j j (jH OC) j j)<|sS (dN z107 j (oCa (xs:=[.v false [.im 0 _],.v false [.im 0 _]]) (vs:=[(false,[.im 0 _])]) (v:=.v false [.im 0 _]) (ni hx24) (.inl j) j vS j (ppC j (ppC j pp0)) j j pb0 j j j)) trivial (sS (dN z107 j (oCa (xs:=[.v false [.im 0 _],.v false [.im 0 _]]) (vs:=[(false,[.im 0 _])]) (v:=.v false [.im 0 _]) (ng hx25) (.inl j) j vT j (ppC j (ppC j pp0)) j j pb0 j j j)) trivial (sS (dN z107 j (oBu (cs:=[.im 0 _,.im 0 _,.im 0 _]) j Zn j)) trivial (sS (dN z107 j (oSt zG j j j (tkI (tkI (tkI tk0))) j j j)) trivial (sD (by kernel_rfl)))))))))<|us<|gs<|?_
 obtain ⟨x28,hx28,h⟩:=bs h
 refine g0 j j (q (oMv j j)<|q (oCa (xs:=[.v false [.mp 0 0 0],.v false [.im 0 _]]) (vs:=[(false,[.im 0 _])]) (v:=.v false [.im 0 _]) (aW hx28) (.inl j) j eF j (ppP j j j (ppC j pp0)) j j (pbP j j pb0) j j j)<|q (ah j j)<|nl)<|us<|gs<|?_
 obtain ⟨x33,UQ,h⟩:=bs h
 refine g1 j j (mk [(0,M 0),(2,M 2),(5,M 5),(6,iv x28.1)] [(0,Od (G 1 (aS x28.2))),(2,Oa [C (Y (⟨#[]⟩:ByteArray)),C (I 0),C (I 0)]),(5,Oa [C (Y x21),C (I x25),C (I 0)])]) (q (oMv j j)<|q (oMv j j)<|q (oMv j j)<|q (oBS (es:=List.map eI ([x28.1,x28.1,0,90,45]:List Int)) j eX j (ptC j (fxI fx0) j (ptC j (fxI fx0) j (ptC j (fxI fx0) j (ptC j (fxI fx0) j (ptC j (fxI fx0) j pt0))))) (dn j fun _=>j))<|q (oCa (xs:=[.v false [.mp 0 0 0],.v false [.own 32 0 0]]) (vs:=[(false,[.im 0 _])]) (v:=.v false [.im 0 _]) (pK UQ) (.inl j) j BV j (ppP j j j (ppC j pp0)) j j (pbP j j pb0) j j j)<|q (oFA (r':=.mp 5 0 2) j H8 j j)<|q (oSt tF2 j j j (tkI tk0) j j j)<|nl)<|us<|gs<|g1 j j (mk [(2,M 2),(5,M 5)] [(0,Od (G 1 (aS x33.2))),(2,Oa [C (Y (⟨#[]⟩:ByteArray)),C (I 0),C (I 0)]),(5,Oa [C (Y x21),C (I x25),C (I x33.1)])]) (q (oLd (cs:=[.im 0 _,.im 0 _,.im 0 _]) j zG j j)<|q (oSt zG j j j (tkI (tkI (tkI tk0))) j j j)<|nl)<|us<|Go.ret (Unw.ret ?_)
 cases h
 exact fr afA j
theorem F5 {s_0:aC} {r:((List aF)×aC)} (h:qK s_0=some r):FX 53 [.ptr true [(.imm,W 1 (eK .u8) s_0.code),(.imm,I s_0.at_),(.imm,.sc (.int .u64 s_0.seed))]] ([(false,[.ow 0 3 (List.map aA r.1)])],[.ptr true [(.imm,W 1 (eK .u8) r.2.code),(.imm,I r.2.at_),(.imm,.sc (.int .u64 r.2.seed))]]):=by
 unfold qK at h
 refine sV (A:=[(0,M 0)]) (B:=[(0,Od (G 1 (aS s_0)))]) (nt:=19) rfl rfl Try.func53 rfl rfl rfl rfl ?_
 refine gs<|g0 j j (q (Cc j j afw)<|nl)<|us<|gs<|g0 j j (q (oBS (es:=List.map aA ([]:List aF)) j Q5 j pt0 (dn j fun _=>j))<|q (oZ j j j j j)<|nl)<|us<|gs<|gs<|?_
 obtain ⟨x7,hx7,h⟩:=bs h
 refine g0 j j (q (oMv j j)<|q (oCa (xs:=[.v false [.mp 0 0 0],.v false [.im 0 _]]) (vs:=[(false,[.im 0 _])]) (v:=.v false [.im 0 _]) (aW hx7) (.inl j) j eF j (ppP j j j (ppC j pp0)) j j (pbP j j pb0) j j j)<|q (oBi j j j j)<|q (ah j j)<|nl)<|us<|Go.block<|?_
 obtain ⟨o,hl,h⟩:=bs h
 refine gl c53 j _ (fun (s:(Int×(List Int)×Int×Int×(List aF)))=>match s with | (JH,nD,nG,nH,dG)=>mk [(0,M 0),(3,H 3 0),(4,iv JH)] [(0,Od [Ct 1 (W 1 (eK .u8) nD),C (I nG),C (.sc (.int .u64 nH))]),(3,Oc [Z (W 3 aA dG)])]) (fun (o:((List Int)×Int×Int×(List aF))) (p:Ex×St)=>match o with | (lH,lI,lJ,eP)=>p.1= .exit 0∧p.2.norm ([3],[0,3])=mk [(3,H 3 0)] [(0,Od [Ct 1 (W 1 (eK .u8) lH),C (I lI),C (.sc (.int .u64 lJ))]),(3,Oc [Z (W 3 aA eP)])]) hl (by kernel_rfl) ?_ ?_ ?_
 ·intro o p hp e
  obtain ⟨lH,lI,lJ,eP⟩:=o
  exact nomatch (hp.1.symm.trans e)
 ·rintro ⟨JH,nD,nG,nH,dG⟩ o h
  unfold jh at h
  dsimp only at h
  refine gs<|gs<|g0 j j (q (oMv j j)<|q (oBi j j j j)<|nl)<|us<|gc h j ak (fun hc3 h=>?_) fun hc3 h=>?_
  ·refine Go.skip<|us<|gs<|Go.block<|?_
   obtain ⟨x15,NF,h⟩:=bs h
   obtain ⟨x17,FT,h⟩:=bs h
   refine g0 j j (q (oMv j j)<|q (oMv j j)<|q (oCa (xs:=[.v false [.mp 0 0 0]]) (vs:=[(true,[.im 0 _,.im 0 _,.im 0 _])]) (v:=.v true [.im 0 _,.im 0 _,.im 0 _]) (NS NF) (.inl j) j Zt j (ppP j j j pp0) j j (pbP j j pb0) j j j)<|q (oBS (es:=List.map aA ([x15.1]:List aF)) j Q5 j (ptC j (fxI (fxI (fxI fx0))) j pt0) (dn j fun _=>j))<|q (xO (en:=aA) (M:=([x15.1]:List aF)) j FT j Q5 j j Jj (.inl ⟨_,j⟩) j j j j (kG j j) (dn j fun _=>j))<|q (oZ j j j j j)<|nl)<|Unw.blk<|us<|g1 j j (mk [(0,M 0),(3,H 3 0),(4,iv JH)] [(0,Od (G 1 (aS x15.2))),(3,Oc [Z (W 3 aA x17)])]) (q (oMv j j)<|q (oBi j j j j)<|q (ah j j)<|nl)<|Unw.nil<|?_
   cases h
   exact ⟨j,(by kernel_rfl)⟩
  ·refine Go.exit<|ux<|Unw.nil<|?_
   cases h
   exact ⟨j,(by kernel_rfl)⟩
 ·rintro ⟨e,st⟩ hp
  obtain ⟨lH,lI,lJ,eP⟩:=o
  dsimp only at h
  obtain ⟨he,hst⟩:=hp
  obtain rfl:e= .exit 0:=he
  refine Unw.lq<|us<|gs<|g2 c53 j j hst (q (oMv j j)<|q (oZ j j j j j)<|nl)<|us<|Go.ret (Unw.ret ?_)
  cases h
  exact fr ahA j
theorem KY {gW:(List Int)} {r:(List aF)} (h:uN gW=some r):FX 15 [.im 2 false [W 1 (eK .u8) gW]] (B0 [(false,[.ow 0 3 (List.map aA r)])]):=by
 unfold uN at h
 refine gn 8 Try.func15 rfl ?_
 refine gs<|g0 j j (q (Cc j j afw)<|nl)<|us<|gs<|?_
 obtain ⟨x5,hx5,h⟩:=bs h
 refine g0 j j (q (oMv j j)<|q (oCp (xs:=[.v false [.im 2 _]]) (FP hx5) (.inl j) j WH j (ppC j pp0) j j pb0 j)<|q (Um j j)<|nl)<|us<|gs<|?_
 obtain ⟨x7,hx7,h⟩:=bs h
 refine g0 j j (q (oMv j j)<|q (oCr (xs:=[.v false [.mp 5 0 0]]) (vs:=[(false,[.own 7 0 0])]) (v:=.v false [.own 7 0 0]) (c:=⟨.sh,0,_⟩) (cs:=[]) (F5 hx7) (.inl j) j ab9 j (ppP j j j pp0) j j (pbP j j pb0) j j j)<|q (oZ j j j j j)<|nl)<|us<|Go.ret (Unw.ret ?_)
 cases h
 exact fr ahu j
theorem TI {gW:(List Int)} {k_1:Int} {n_2:Int} {r:Int} (h:Dw gW k_1 n_2=some r):FX 16 [.im 2 false [W 1 (eK .u8) gW],.im 2 false [I k_1],.im 2 false [I n_2]] (B0 [(false,[.im 0 (I r)])]):=by
 unfold Dw at h
 refine gn 22 Try.func16 rfl ?_
 refine gs<|g0 j j (q (ah j j)<|nl)<|us<|gs<|gs<|gX c16 j j j (mk [(0,D 2 (W 1 (eK .u8) gW)),(1,iv k_1),(2,iv n_2),(14,bv ((decide (n_2≤1))||(decide (k_1≥(gW.length:Int)))))] []) ?_ ?_
 ·refine xq (oMv j j)<|xq (oBi j j j j)<|xq (oMv j j)<|?_
  by_cases hc1:n_2≤1
  ·exact au rfl rfl (ak.2 hc1) rfl<|au rfl rfl (ak.2 hc1) rfl<|au rfl rfl (ak.2 hc1) rfl<|au rfl rfl (ak.2 hc1) rfl<|xq (bQ rfl rfl (ak.2 hc1) rfl)<|xn (Eq.trans (b:=(fun qL:Bool=>mk [(0,D 2 (W 1 (eK .u8) gW)),(1,iv k_1),(2,iv n_2),(14,bv qL)] []) true) (by kernel_rfl) (congrArg (fun qL:Bool=>mk [(0,D 2 (W 1 (eK .u8) gW)),(1,iv k_1),(2,iv n_2),(14,bv qL)] []) (by first | rfl | (simp [(ak.2 hc1)];done) | (simp [(ak.2 hc1)];omega))))
  ·exact xqT rfl rfl (byF ak hc1) (oMv rfl rfl)<|xqT rfl rfl (byF ak hc1) (oMv rfl rfl)<|xqT rfl rfl (byF ak hc1) (jd rfl rfl ND rfl)<|xqT rfl rfl (byF ak hc1) (oBi rfl rfl rfl rfl)<|xq (bV rfl rfl (byF ak hc1) rfl)<|xn (Eq.trans (b:=(fun qL:Bool=>mk [(0,D 2 (W 1 (eK .u8) gW)),(1,iv k_1),(2,iv n_2),(14,bv qL)] []) (decide (k_1≥(gW.length:Int)))) (by kernel_rfl) (congrArg (fun qL:Bool=>mk [(0,D 2 (W 1 (eK .u8) gW)),(1,iv k_1),(2,iv n_2),(14,bv qL)] []) (by first | rfl | (simp [(byF ak hc1)];done) | (simp [(byF ak hc1)];omega))))
 ·refine us<|gc h j (iOr ak ak) (fun hc2 h=>?_) fun hc2 h=>?_
  ·refine gs<|g0 j j (q (ah j j)<|nl)<|us<|Go.ret (Unw.ret ?_)
   cases h
   exact fr afW j
  ·refine Go.skip<|us<|gs<|?_
   obtain ⟨x17,FT,h⟩:=bs h
   obtain ⟨x21,OC,h⟩:=bs h
   refine g0 j j (q (oMv j j)<|q (oMv j j)<|q (gZ j FT KP j j)<|q (oLd (cs:=[.im 2 _]) j tF5 j j)<|q (XI j uF5 uF2 j)<|q (oMv j j)<|q (Ce j OC j j)<|q (ah j j)<|nl)<|us<|Go.ret (Unw.ret ?_)
   cases h
   exact fr afW j
theorem dD {n_0:Int} {Dv:Int} {xW:Int} {r:Bool} (h:bW n_0 Dv xW=some r):FX 66 [.im 2 false [I n_0],.im 2 false [I Dv],.im 2 false [I xW]] (B0 [(false,[.im 0 (V r)])]):=by
 unfold bW at h
 refine gn 15 Try.func66 rfl ?_
 refine gs<|g0 j j (q (ah j j)<|nl)<|us<|gs<|gX c66 j j j (mk [(6,bv ((decide (n_0≥Dv))&&(decide (n_0≤xW))))] []) ?_ ?_
 ·refine xq (oMv j j)<|xq (oMv j j)<|xq (oBi j j j j)<|xq (oMv j j)<|?_
  by_cases hc1:n_0≥Dv
  ·exact xqT rfl rfl (ak.2 hc1) (oMv rfl rfl)<|xqT rfl rfl (ak.2 hc1) (oMv rfl rfl)<|xqT rfl rfl (ak.2 hc1) (oBi rfl rfl rfl rfl)<|xq (bQ rfl rfl (ak.2 hc1) rfl)<|xq (ah rfl rfl)<|xn (Eq.trans (b:=(fun nV:Bool=>mk [(6,bv nV)] []) (decide (n_0≤xW))) (by kernel_rfl) (congrArg (fun nV:Bool=>mk [(6,bv nV)] []) (by first | rfl | (simp [(ak.2 hc1)];done) | (simp [(ak.2 hc1)];omega))))
  ·exact au rfl rfl (byF ak hc1) rfl<|au rfl rfl (byF ak hc1) rfl<|au rfl rfl (byF ak hc1) rfl<|xq (bV rfl rfl (byF ak hc1) rfl)<|xq (ah rfl rfl)<|xn (Eq.trans (b:=(fun nV:Bool=>mk [(6,bv nV)] []) false) (by kernel_rfl) (congrArg (fun nV:Bool=>mk [(6,bv nV)] []) (by first | rfl | (simp [(byF ak hc1)];done) | (simp [(byF ak hc1)];omega))))
 ·refine us<|Go.ret (Unw.ret ?_)
  cases h
  exact fr ahF j
theorem uH {s_0:(List ae)} {v_1:ae} {r:Int} (h:eu s_0 v_1=some r):FX 150 [.im 2 false [W 2 af s_0],.im 2 true (aQ v_1)] (B0 [(false,[.im 0 (I r)])]):=by
 unfold eu at h
 refine gn 19 Try.func150 rfl ?_
 refine gs<|g0 j j (q (oBx j aH j (tkI (tkI tk0)))<|q (ah j j)<|nl)<|us<|gs<|gs<|g0 j j (q (oMv j j)<|q (jd j j Bh j)<|q (oMv j j)<|nl)<|us<|Go.block<|?_
 obtain ⟨o,hl,h⟩:=bs h
 refine gl abT j _ (fun (fK:Int)=>mk [(0,D 2 (W 2 af s_0)),(3,M 3),(7,iv (s_0.length:Int)),(8,iv fK)] [(3,Oa (G 0 (aQ v_1)))]) (fun (o:(Unit ⊕ Int)) (p:Ex×St)=>match o with | (.inl _)=>p.1= .exit 0∧p.2.norm ([],[])=mk [] [] | (.inr r2)=>p.1= .ret∧fin Try.prog cfg 150 Try.f150 [.im 2 false [W 2 af s_0],.im 2 true (aQ v_1)] p.2=some (B0 [(false,[.im 0 (I r2)])])) hl (by kernel_rfl) ?_ ?_ ?_
 ·intro o p hp e
  rcases o with u | r2<;>exact nomatch (hp.1.symm.trans e)
 ·rintro fK o h
  unfold bF at h
  refine gs<|g0 j j (q (oBi j j j j)<|nl)<|us<|gs<|gc h j ak (fun hc5 h=>?_) fun hc5 h=>?_
  ·refine Go.skip<|us<|gs<|Go.block<|gs<|g0 j j (q (oMv j j)<|q (ah j j)<|nl)<|us<|gs<|?_
   obtain ⟨x14,BH,h⟩:=bs h
   refine gd abT j j j j (mk [(0,D 2 (W 2 af s_0)),(3,M 3),(5,iv fK),(7,iv (s_0.length:Int)),(8,iv fK),(16,bv ((v_1.X==x14.X)&&(v_1.Y==x14.Y)))] [(3,Oa (G 0 (aQ v_1)))]) (t j j (oLd (cs:=[.im 0 _,.im 0 _]) j aH j j)<|t j j (oMv j j)<|t j j (oMv j j)<|t j j (gZ j BH pG j j)<|t j j (oLd (cs:=[.im 2 _,.im 2 _]) j aH j j)<|t j j (oBa j (Q4 v_1.X v_1.Y x14.X x14.Y) j j j j)<|sD (by kernel_rfl))<|us<|gc h j (zq iEq iEq) (fun hc6 h=>?_) fun hc6 h=>?_
   ·refine gs<|g0 j j (q (oMv j j)<|q (ah j j)<|nl)<|us<|Go.ret (Unw.ret ?_)
    cases h
    exact ⟨j,(fo ada j)⟩
   ·refine Go.skip<|Unw.blk<|us<|g0 j j (q (oBi j j j j)<|q (oMv j j)<|nl)<|Unw.nil<|?_
    cases h
    exact ⟨j,(by kernel_rfl)⟩
  ·refine Go.exit<|ux<|Unw.nil<|?_
   cases h
   exact ⟨j,(by kernel_rfl)⟩
 ·rintro ⟨e,st⟩ hp
  rcases o with u | r2
  ·dsimp only at h
   obtain ⟨he,hst⟩:=hp
   obtain rfl:e= .exit 0:=he
   refine Unw.lq<|us<|gs<|g2 abT j j hst (q (ah j j)<|nl)<|us<|Go.ret (Unw.ret ?_)
   cases h
   exact fr ada j
  ·dsimp only at h
   obtain ⟨he,hfin⟩:=hp
   obtain rfl:e= .ret:=he
   cases h
   exact Unw.ret (jl hfin)
theorem sJ {s_0:(List ae)} {v_1:ae} {r:Bool} (h:bG s_0 v_1=some r):FX 92 [.im 2 false [W 2 af s_0],.im 2 true (aQ v_1)] (B0 [(false,[.im 0 (V r)])]):=by
 unfold bG at h
 refine gn 9 Try.func92 rfl ?_
 refine gs<|g0 j j (q (oBx j aH j (tkI (tkI tk0)))<|q (ah j j)<|nl)<|us<|gs<|?_
 obtain ⟨x7,hx7,h⟩:=bs h
 refine g0 j j (q (oMv j j)<|q (oLd (cs:=[.im 0 _,.im 0 _]) j aH j j)<|q (oCa (xs:=[.v false [.im 2 _],.v true [.im 0 _,.im 0 _]]) (vs:=[(false,[.im 0 _])]) (v:=.v false [.im 0 _]) (uH hx7) (.inl j) j QU j (ppC j (ppC j pp0)) j j pb0 j j j)<|q (oBi j j j j)<|q (ah j j)<|nl)<|us<|Go.ret (Unw.ret ?_)
 cases h
 exact fr ahN j
theorem CE {s_0:ByteArray} {r:Bool} (h:kE s_0=some r):FX 93 [.im 2 false [Y s_0]] (B0 [(false,[.im 0 (V r)])]):=by
 unfold kE at h
 refine gn 50 Try.func93 rfl ?_
 refine gs<|g0 j j (q (ah j j)<|nl)<|us<|gs<|gs<|?_
 obtain ⟨Qw,F6,h⟩:=bs h
 refine gX c93 j j j (mk [(0,sv s_0),(21,bv Qw)] []) ?_ ?_
 ·refine xq (oMv j j)<|xq (Zb j j uF9 j)<|xq (oBi j j j j)<|xq (oMv j j)<|?_
  refine ic F6 (fun hc1 F6=>?_) fun hc1 F6=>?_
  ·cases F6
   exact au j j (ak.2 hc1) j<|au j j (ak.2 hc1) j<|au j j (ak.2 hc1) j<|xq (bQ j j (ak.2 hc1) j)<|xq (oMv j j)<|au j j j j<|au j j j j<|au j j j j<|xq (bQ j j j j)<|xq (oMv j j)<|au j j j j<|au j j j j<|au j j j j<|xq (bQ j j j j)<|xn
  ·refine xqT j j (byF ak hc1) (oMv j j)<|xqT j j (byF ak hc1) (Zb j j uF9 j)<|xqT j j (byF ak hc1) (oBi j j j j)<|xq (bV j j (byF ak hc1) j)<|xq (oMv j j)<|?_
   refine ic F6 (fun hc2 F6=>?_) fun hc2 F6=>?_
   ·cases F6
    exact au j j (ak.2 hc2) j<|au j j (ak.2 hc2) j<|au j j (ak.2 hc2) j<|xq (bQ j j (ak.2 hc2) j)<|xq (oMv j j)<|au j j j j<|au j j j j<|au j j j j<|xq (bQ j j j j)<|xn
   ·obtain ⟨x14,BH,F6⟩:=bs F6
    refine xqT j j (byF ak hc2) (oMv j j)<|xqT j j (byF ak hc2) (oIx j BH uF9 j j)<|xqT j j (byF ak hc2) (oBi j j j j)<|xq (bV j j (byF ak hc2) j)<|xq (oMv j j)<|?_
    refine ic F6 (fun hc3 F6=>?_) fun hc3 F6=>?_
    ·cases F6
     exact au j j (ak.2 hc3) j<|au j j (ak.2 hc3) j<|au j j (ak.2 hc3) j<|xq (bQ j j (ak.2 hc3) j)<|xn
    ·obtain ⟨x19,Cm,F6⟩:=bs F6
     cases F6
     exact xqT j j (byF ak hc3) (oMv j j)<|xqT j j (byF ak hc3) (oIx j Cm uF9 j j)<|xqT j j (byF ak hc3) (oBi j j j j)<|xq (bV j j (byF ak hc3) j)<|xn
 ·refine us<|gc h j iR (fun hc4 h=>?_) fun hc4 h=>?_
  ·refine gs<|g0 j j (q (ah j j)<|nl)<|us<|Go.ret (Unw.ret ?_)
   cases h
   exact fr aeg j
  ·refine Go.skip<|us<|gs<|gs<|g0 j j (q (ah j j)<|nl)<|us<|Go.block<|?_
   obtain ⟨o,hl,h⟩:=bs h
   refine gl c93 j _ (fun (dQ:Int)=>mk [(0,sv s_0),(3,iv dQ)] []) (fun (o:(Unit ⊕ Bool)) (p:Ex×St)=>match o with | (.inl _)=>p.1= .exit 0∧p.2.norm ([],[])=mk [] [] | (.inr r2)=>p.1= .ret∧fin Try.prog cfg 93 Try.f93 [.im 2 false [Y s_0]] p.2=some (B0 [(false,[.im 0 (V r2)])])) hl (by kernel_rfl) ?_ ?_ ?_
   ·intro o p hp e
    rcases o with u | r2<;>exact nomatch (hp.1.symm.trans e)
   ·rintro dQ o h
    unfold jQ at h
    refine gs<|gs<|g0 j j (q (oMv j j)<|q (oMv j j)<|q (Zb j j uF9 j)<|q (oBi j j j j)<|nl)<|us<|gc h j ak (fun hc19 h=>?_) fun hc19 h=>?_
    ·refine Go.skip<|us<|gs<|Go.block<|gs<|?_
     obtain ⟨x30,JS,h⟩:=bs h
     obtain ⟨Ea,yg,h⟩:=bs h
     refine gX c93 j j j (mk [(0,sv s_0),(3,iv dQ),(49,bv Ea)] []) ?_ ?_
     ·refine xq (oMv j j)<|xq (oMv j j)<|xq (oIx j JS uF9 j j)<|xq (oBi j j j j)<|xq (oMv j j)<|?_
      refine ic yg (fun qA yg=>?_) fun qA yg=>?_
      ·obtain ⟨x41,Q9,yg⟩:=bs yg
       refine au j j (ak.2 qA) j<|au j j (ak.2 qA) j<|au j j (ak.2 qA) j<|au j j (ak.2 qA) j<|xq (bQ j j (ak.2 qA) j)<|xq (oMv j j)<|xqT j j j (oMv j j)<|xqT j j j (oMv j j)<|xqT j j j (oIx j Q9 uF9 j j)<|xqT j j j (oBi j j j j)<|xqT j j j (oMv j j)<|?_
       refine ic yg (fun hc21 yg=>?_) fun hc21 yg=>?_
       ·cases yg
        exact au j j (ak.2 hc21) j<|au j j (ak.2 hc21) j<|au j j (ak.2 hc21) j<|au j j (ak.2 hc21) j<|xqT j j j (bQ j j (ak.2 hc21) j)<|xq (bQ j j j j)<|xn
       ·obtain ⟨x46,UR,yg⟩:=bs yg
        cases yg
        exact xqT j j (byF ak hc21) (oMv j j)<|xqT j j (byF ak hc21) (oMv j j)<|xqT j j (byF ak hc21) (oIx j UR uF9 j j)<|xqT j j (byF ak hc21) (oBi j j j j)<|xqT j j j (bV j j (byF ak hc21) j)<|xq (bQ j j j j)<|xn
      ·obtain ⟨x35,UO,yg⟩:=bs yg
       refine xqT j j (byF ak qA) (oMv j j)<|xqT j j (byF ak qA) (oMv j j)<|xqT j j (byF ak qA) (oIx j UO uF9 j j)<|xqT j j (byF ak qA) (oBi j j j j)<|xq (bV j j (byF ak qA) j)<|xq (oMv j j)<|?_
       refine ic yg (fun hc22 yg=>?_) fun hc22 yg=>?_
       ·obtain ⟨x41,Q9,yg⟩:=bs yg
        refine xqT j j (ak.2 hc22) (oMv j j)<|xqT j j (ak.2 hc22) (oMv j j)<|xqT j j (ak.2 hc22) (oIx j Q9 uF9 j j)<|xqT j j (ak.2 hc22) (oBi j j j j)<|xqT j j (ak.2 hc22) (oMv j j)<|?_
        refine ic yg (fun mF yg=>?_) fun mF yg=>?_
        ·cases yg
         exact au j j (ak.2 mF) j<|au j j (ak.2 mF) j<|au j j (ak.2 mF) j<|au j j (ak.2 mF) j<|xqT j j (ak.2 hc22) (bQ j j (ak.2 mF) j)<|xq (bQ j j (ak.2 hc22) j)<|xn
        ·obtain ⟨x46,UR,yg⟩:=bs yg
         cases yg
         exact xqT j j (byF ak mF) (oMv j j)<|xqT j j (byF ak mF) (oMv j j)<|xqT j j (byF ak mF) (oIx j UR uF9 j j)<|xqT j j (byF ak mF) (oBi j j j j)<|xqT j j (ak.2 hc22) (bV j j (byF ak mF) j)<|xq (bQ j j (ak.2 hc22) j)<|xn
       ·cases yg
        exact au j j (byF ak hc22) j<|au j j (byF ak hc22) j<|au j j (byF ak hc22) j<|au j j (byF ak hc22) j<|au j j (byF ak hc22) j<|BG j j j<|BG j j j<|BG j j j<|BG j j j<|au j j (byF ak hc22) j<|xq (bV j j (byF ak hc22) j)<|xn
     ·refine us<|gc h j iR (fun hc24 h=>?_) fun hc24 h=>?_
      ·refine gs<|g0 j j (q (ah j j)<|nl)<|us<|Go.ret (Unw.ret ?_)
       cases h
       exact ⟨j,(fo aeg j)⟩
      ·refine Go.skip<|Unw.blk<|us<|g0 j j (q (oMv j j)<|q (oBi j j j j)<|q (ah j j)<|nl)<|Unw.nil<|?_
       cases h
       exact ⟨j,(by kernel_rfl)⟩
    ·refine Go.exit<|ux<|Unw.nil<|?_
     cases h
     exact ⟨j,(by kernel_rfl)⟩
   ·rintro ⟨e,st⟩ hp
    rcases o with u | r2
    ·dsimp only at h
     obtain ⟨he,hst⟩:=hp
     obtain rfl:e= .exit 0:=he
     refine Unw.lq<|us<|gs<|g2 c93 j j hst (q (ah j j)<|nl)<|us<|Go.ret (Unw.ret ?_)
     cases h
     exact fr aeg j
    ·dsimp only at h
     obtain ⟨he,hfin⟩:=hp
     obtain rfl:e= .ret:=he
     cases h
     exact Unw.ret (jl hfin)
theorem Ie {wM:(List ae)} {nU:(List Int)} {r:((List ae)×Bool)} (h:gJ wM nU=some r):FX 94 [.im 2 false [W 2 af wM],.im 2 false [W 1 eI nU]] (B0 [(false,[.ow 0 2 (List.map af r.1)]),(false,[.im 0 (V r.2)])]):=by
 unfold gJ at h
 refine gn 31 Try.func94 rfl ?_
 refine gs<|g0 j j (q (Cc j j abV)<|q (ah j j)<|nl)<|us<|gs<|g0 j j (q (oBS (es:=List.map af ([]:List ae)) j pG j pt0 (dn j fun _=>j))<|q (oZ j j j j j)<|nl)<|us<|gs<|gs<|g0 j j (q (oMv j j)<|q (jd j j uG j)<|q (oMv j j)<|nl)<|us<|Go.block<|?_
 obtain ⟨o,hl,h⟩:=bs h
 refine gl c94 j _ (fun (s:(Int×(List ae)))=>match s with | (fQ,oI)=>mk [(0,D 2 (W 2 af wM)),(6,H 6 0),(10,D 2 (W 1 eI nU)),(11,iv (nU.length:Int)),(12,iv fQ)] [(6,Oc [Z (W 2 af oI)])]) (fun (o:((List ae) ⊕ ((List ae)×Bool))) (p:Ex×St)=>match o with | (.inl lK)=>p.1= .exit 0∧p.2.norm ([6],[6])=mk [(6,H 6 0)] [(6,Oc [Z (W 2 af lK)])] | (.inr r2)=>p.1= .ret∧fin Try.prog cfg 94 Try.f94 [.im 2 false [W 2 af wM],.im 2 false [W 1 eI nU]] p.2=some (B0 [(false,[.ow 0 2 (List.map af r2.1)]),(false,[.im 0 (V r2.2)])])) hl (by kernel_rfl) ?_ ?_ ?_
 ·intro o p hp e
  rcases o with lK | r2<;>exact nomatch (hp.1.symm.trans e)
 ·rintro ⟨fQ,oI⟩ o h
  unfold iD at h
  dsimp only at h
  refine gs<|g0 j j (q (oBi j j j j)<|nl)<|us<|gs<|gc h j ak (fun hc5 h=>?_) fun hc5 h=>?_
  ·refine Go.skip<|us<|gs<|Go.block<|gs<|?_
   obtain ⟨x14,BH,h⟩:=bs h
   refine g0 j j (q (gZ j BH eX j j)<|q (oLd (cs:=[.im 2 _]) j tF2 j j)<|q (ah j j)<|nl)<|us<|gs<|gs<|?_
   obtain ⟨x20,JX,h⟩:=bs h
   refine g0 j j (q (oMv j j)<|q (oMv j j)<|q (jd j j Bh j)<|q (oBi j j j j)<|q (oCa (xs:=[.v false [.im 2 _],.v false [.im 0 _],.v false [.im 0 _]]) (vs:=[(false,[.im 0 _])]) (v:=.v false [.im 0 _]) (dD JX) (.inl j) j fO j (ppC j (ppC j (ppC j pp0))) j j pb0 j j j)<|q (oUn j j j)<|nl)<|us<|?_
   by_cases hc6:x20=true
   ·rw [if_pos hc6] at h
    refine gF j (nF (iR.2 hc6))<|Go.skip<|us<|?_
    obtain ⟨x25,hx25,h⟩:=bs h
    obtain ⟨x28,hx28,h⟩:=bs h
    refine g0 j j (q (oMv j j)<|q (oMv j j)<|q (oMv j j)<|q (gZ j hx25 pG j j)<|q (oLd (cs:=[.im 2 _,.im 2 _]) j aH j j)<|q (oBS (es:=List.map af ([x25]:List ae)) j pG j (ptC j (fxI (fxI fx0)) j pt0) (dn j fun _=>j))<|q (xO (en:=af) (M:=([x25]:List ae)) j hx28 j pG j j Bh (.inl ⟨_,j⟩) j j j j (kG j j) (dn j fun _=>j))<|q (oZ j j j j j)<|nl)<|Unw.blk<|us<|g0 j j (q (oBi j j j j)<|q (oMv j j)<|nl)<|Unw.nil<|?_
    cases h
    exact ⟨j,(by kernel_rfl)⟩
   ·rw [if_neg hc6] at h
    refine gT j (nT (byF iR hc6))<|gs<|g0 j j (q (Cc j j abV)<|q (ah j j)<|nl)<|us<|Go.ret (Unw.ret ?_)
    cases h
    exact ⟨j,(fo age j)⟩
  ·refine Go.exit<|ux<|Unw.nil<|?_
   cases h
   exact ⟨j,(by kernel_rfl)⟩
 ·rintro ⟨e,st⟩ hp
  rcases o with lK | r2
  ·dsimp only at h
   obtain ⟨he,hst⟩:=hp
   obtain rfl:e= .exit 0:=he
   refine Unw.lq<|us<|gs<|g2 c94 j j hst (q (oMv j j)<|q (oZ j j j j j)<|q (ah j j)<|nl)<|us<|Go.ret (Unw.ret ?_)
   cases h
   exact fr age j
  ·dsimp only at h
   obtain ⟨he,hfin⟩:=hp
   obtain rfl:e= .ret:=he
   cases h
   exact Unw.ret (jl hfin)
theorem Jm {p_0:ae} {r:Bool} (h:l9 p_0=some r):FX 191 [.im 2 true (aQ p_0)] (B0 [(false,[.im 0 (V r)])]):=by
 unfold l9 at h
 refine gn 11 Try.func191 rfl ?_
 refine gs<|g0 j j (q (oBx j aH j (tkI (tkI tk0)))<|q (ah j j)<|nl)<|us<|gs<|?_
 obtain ⟨x5,hx5,h⟩:=bs h
 obtain ⟨jw,hm2,h⟩:=bs h
 refine gX afp j j j (mk [(2,bv jw)] []) ?_ ?_
 ·refine xq (oFA (r':=.mp 1 0 0) j gG j j)<|xq (oLd (cs:=[.im 0 _]) j tF2 j j)<|xq (oCa (xs:=[.v false [.im 0 _],.v false [.im 0 _],.v false [.im 0 _]]) (vs:=[(false,[.im 0 _])]) (v:=.v false [.im 0 _]) (dD hx5) (.inl j) j fO j (ppC j (ppC j (ppC j pp0))) j j pb0 j j j)<|xq (oMv j j)<|?_
  refine ic hm2 (fun hc1 hm2=>?_) fun hc1 hm2=>?_
  ·obtain ⟨x9,hx9,hm2⟩:=bs hm2
   cases hm2
   exact xqT j j (iR.2 hc1) (oFA (r':=.mp 1 0 1) j jb j j)<|xqT j j (iR.2 hc1) (oLd (cs:=[.im 0 _]) j tF2 j j)<|xqT j j (iR.2 hc1) (oCa (xs:=[.v false [.im 0 _],.v false [.im 0 _],.v false [.im 0 _]]) (vs:=[(false,[.im 0 _])]) (v:=.v false [.im 0 _]) (dD hx9) (.inl j) j fO j (ppC j (ppC j (ppC j pp0))) j j pb0 j j j)<|xq (bQ j j (iR.2 hc1) j)<|xq (ah j j)<|xn
  ·cases hm2
   exact au j j (byF iR hc1) j<|au j j (byF iR hc1) j<|au j j (byF iR hc1) j<|xq (bV j j (byF iR hc1) j)<|xq (ah j j)<|xn
 ·refine us<|Go.ret (Unw.ret ?_)
  cases h
  exact fr af6 j
theorem Ig {dM:(List ae)} {r:Bool} (h:nI dM=some r):FX 151 [.im 2 false [W 2 af dM]] (B0 [(false,[.im 0 (V r)])]):=by
 unfold nI at h
 refine gn 15 Try.func151 rfl ?_
 refine gs<|g0 j j (q (ah j j)<|nl)<|us<|gs<|gs<|g0 j j (q (oMv j j)<|q (jd j j Bh j)<|q (oMv j j)<|nl)<|us<|Go.block<|?_
 obtain ⟨o,hl,h⟩:=bs h
 refine gl ad5 j _ (fun (HY:Int)=>mk [(5,D 2 (W 2 af dM)),(6,iv (dM.length:Int)),(7,iv HY)] []) (fun (o:(Unit ⊕ Bool)) (p:Ex×St)=>match o with | (.inl _)=>p.1= .exit 0∧p.2.norm ([],[])=mk [] [] | (.inr r2)=>p.1= .ret∧fin Try.prog cfg 151 Try.f151 [.im 2 false [W 2 af dM]] p.2=some (B0 [(false,[.im 0 (V r2)])])) hl (by kernel_rfl) ?_ ?_ ?_
 ·intro o p hp e
  rcases o with u | r2<;>exact nomatch (hp.1.symm.trans e)
 ·rintro HY o h
  unfold dK at h
  refine gs<|g0 j j (q (oBi j j j j)<|nl)<|us<|gs<|gc h j ak (fun hc5 h=>?_) fun hc5 h=>?_
  ·refine Go.skip<|us<|gs<|Go.block<|gs<|?_
   obtain ⟨x9,hx9,h⟩:=bs h
   refine g0 j j (q (gZ j hx9 pG j j)<|q (oLd (cs:=[.im 2 _,.im 2 _]) j aH j j)<|q (oAl j aH (tkI (tkI tk0)))<|q (oSt aH j j j (tkI (tkI tk0)) j j j)<|nl)<|us<|gs<|?_
   obtain ⟨x12,Es,h⟩:=bs h
   refine g1 j j (mk [(4,M 4),(5,D 2 (W 2 af dM)),(6,iv (dM.length:Int)),(7,iv HY)] [(4,Oa (G 0 (aQ x9)))]) (q (oLd (cs:=[.im 0 _,.im 0 _]) j aH j j)<|q (oCa (xs:=[.v true [.im 0 _,.im 0 _]]) (vs:=[(false,[.im 0 _])]) (v:=.v false [.im 0 _]) (Jm Es) (.inl j) j XR j (ppC j pp0) j j pb0 j j j)<|q (oUn j j j)<|nl)<|us<|?_
   by_cases hc6:x12=true
   ·rw [if_pos hc6] at h
    refine gF j (nF (iR.2 hc6))<|Go.skip<|Unw.blk<|us<|g0 j j (q (oBi j j j j)<|q (oMv j j)<|nl)<|Unw.nil<|?_
    cases h
    exact ⟨j,(by kernel_rfl)⟩
   ·rw [if_neg hc6] at h
    refine gT j (nT (byF iR hc6))<|gs<|g0 j j (q (ah j j)<|nl)<|us<|Go.ret (Unw.ret ?_)
    cases h
    exact ⟨j,(fo adb j)⟩
  ·refine Go.exit<|ux<|Unw.nil<|?_
   cases h
   exact ⟨j,(by kernel_rfl)⟩
 ·rintro ⟨e,st⟩ hp
  rcases o with u | r2
  ·dsimp only at h
   obtain ⟨he,hst⟩:=hp
   obtain rfl:e= .exit 0:=he
   refine Unw.lq<|us<|gs<|g2 ad5 j j hst (q (ah j j)<|nl)<|us<|Go.ret (Unw.ret ?_)
   cases h
   exact fr adb j
  ·dsimp only at h
   obtain ⟨he,hfin⟩:=hp
   obtain rfl:e= .ret:=he
   cases h
   exact Unw.ret (jl hfin)
theorem tK {a_0:ae} {b_1:ae} {c_2:ae} {r:Int} (h:nJ a_0 b_1 c_2=some r):FX 192 [.im 2 true (aQ a_0),.im 2 true (aQ b_1),.im 2 true (aQ c_2)] (B0 [(false,[.im 0 (I r)])]):=by
 unfold nJ at h
 refine gn 37 Try.func192 rfl ?_
 refine gs<|g0 j j (q (oBx j aH j (tkI (tkI tk0)))<|q (oBx j aH j (tkI (tkI tk0)))<|q (oBx j aH j (tkI (tkI tk0)))<|q (ah j j)<|nl)<|us<|gs<|g0 j j (q (oFA (r':=.mp 4 0 0) j gG j j)<|q (oLd (cs:=[.im 0 _]) j tF2 j j)<|q (oFA (r':=.mp 3 0 0) j gG j j)<|q (oLd (cs:=[.im 0 _]) j tF2 j j)<|q (oBi j j j j)<|q (oFA (r':=.mp 5 0 1) j jb j j)<|q (oLd (cs:=[.im 0 _]) j tF2 j j)<|q (oFA (r':=.mp 3 0 1) j jb j j)<|q (oLd (cs:=[.im 0 _]) j tF2 j j)<|q (oBi j j j j)<|q (oBi j j j j)<|q (oFA (r':=.mp 4 0 1) j jb j j)<|q (oLd (cs:=[.im 0 _]) j tF2 j j)<|q (oFA (r':=.mp 3 0 1) j jb j j)<|q (oLd (cs:=[.im 0 _]) j tF2 j j)<|q (oBi j j j j)<|q (oFA (r':=.mp 5 0 0) j gG j j)<|q (oLd (cs:=[.im 0 _]) j tF2 j j)<|q (oFA (r':=.mp 3 0 0) j gG j j)<|q (oLd (cs:=[.im 0 _]) j tF2 j j)<|q (oBi j j j j)<|q (oBi j j j j)<|q (oBi j j j j)<|q (ah j j)<|nl)<|us<|gs<|Go.block<|gs<|g0 j j (q (oMv j j)<|q (oBi j j j j)<|q (ah j j)<|nl)<|us<|gc h j ak (fun hc1 h=>?_) fun hc1 h=>?_
 ·refine gs<|g0 j j (q (ah j j)<|nl)<|us<|Go.ret (Unw.ret ?_)
  cases h
  exact fr ZI j
 ·refine gs<|g0 j j (q (oMv j j)<|q (oBi j j j j)<|q (ah j j)<|nl)<|us<|gc h j ak (fun hc2 h=>?_) fun hc2 h=>?_
  ·refine gs<|g0 j j (q (ah j j)<|nl)<|us<|Go.ret (Unw.ret ?_)
   cases h
   exact fr ZI j
  ·refine Go.skip<|Unw.blk<|us<|gs<|g0 j j (q (ah j j)<|nl)<|us<|Go.ret (Unw.ret ?_)
   cases h
   exact fr ZI j
theorem zK {a_0:ae} {b_1:ae} {p_2:ae} {r:Bool} (h:sG a_0 b_1 p_2=some r):FX 152 [.im 2 true (aQ a_0),.im 2 true (aQ b_1),.im 2 true (aQ p_2)] (B0 [(false,[.im 0 (V r)])]):=by
 unfold sG at h
 refine gn 42 Try.func152 rfl ?_
 refine gs<|g0 j j (q (oBx j aH j (tkI (tkI tk0)))<|q (oBx j aH j (tkI (tkI tk0)))<|q (oBx j aH j (tkI (tkI tk0)))<|q (ah j j)<|nl)<|us<|gs<|?_
 obtain ⟨x10,FV,h⟩:=bs h
 obtain ⟨nV,hm3,h⟩:=bs h
 refine gX c152 j j j (mk [(6,bv nV)] []) ?_ ?_
 ·refine xq (oLd (cs:=[.im 0 _,.im 0 _]) j aH j j)<|xq (oLd (cs:=[.im 0 _,.im 0 _]) j aH j j)<|xq (oLd (cs:=[.im 0 _,.im 0 _]) j aH j j)<|xq (oCa (xs:=[.v true [.im 0 _,.im 0 _],.v true [.im 0 _,.im 0 _],.v true [.im 0 _,.im 0 _]]) (vs:=[(false,[.im 0 _])]) (v:=.v false [.im 0 _]) (tK FV) (.inl j) j jW j (ppC j (ppC j (ppC j pp0))) j j pb0 j j j)<|xq (oBi j j j j)<|xq (oMv j j)<|?_
  refine ic hm3 (fun hc1 hm3=>?_) fun hc1 hm3=>?_
  ·obtain ⟨x25,hx25,hm3⟩:=bs hm3
   refine xqT j j (iEq.2 hc1) (oFA (r':=.mp 5 0 0) j gG j j)<|xqT j j (iEq.2 hc1) (oLd (cs:=[.im 0 _]) j tF2 j j)<|xqT j j (iEq.2 hc1) (oFA (r':=.mp 3 0 0) j gG j j)<|xqT j j (iEq.2 hc1) (oLd (cs:=[.im 0 _]) j tF2 j j)<|xqT j j (iEq.2 hc1) (oFA (r':=.mp 4 0 0) j gG j j)<|xqT j j (iEq.2 hc1) (oLd (cs:=[.im 0 _]) j tF2 j j)<|xqT j j (iEq.2 hc1) (aa0 j j)<|xqT j j (iEq.2 hc1) (oFA (r':=.mp 3 0 0) j gG j j)<|xqT j j (iEq.2 hc1) (oLd (cs:=[.im 0 _]) j tF2 j j)<|xqT j j (iEq.2 hc1) (oFA (r':=.mp 4 0 0) j gG j j)<|xqT j j (iEq.2 hc1) (oLd (cs:=[.im 0 _]) j tF2 j j)<|xqT j j (iEq.2 hc1) (Zc j j)<|xqT j j (iEq.2 hc1) (oCa (xs:=[.v false [.im 0 _],.v false [.im 0 _],.v false [.im 0 _]]) (vs:=[(false,[.im 0 _])]) (v:=.v false [.im 0 _]) (dD hx25) (.inl j) j fO j (ppC j (ppC j (ppC j pp0))) j j pb0 j j j)<|xq (bQ j j (iEq.2 hc1) j)<|xq (oMv j j)<|?_
   refine ic hm3 (fun hc2 hm3=>?_) fun hc2 hm3=>?_
   ·obtain ⟨x40,Rh,hm3⟩:=bs hm3
    cases hm3
    exact xqT j j (iR.2 hc2) (oFA (r':=.mp 5 0 1) j jb j j)<|xqT j j (iR.2 hc2) (oLd (cs:=[.im 0 _]) j tF2 j j)<|xqT j j (iR.2 hc2) (oFA (r':=.mp 3 0 1) j jb j j)<|xqT j j (iR.2 hc2) (oLd (cs:=[.im 0 _]) j tF2 j j)<|xqT j j (iR.2 hc2) (oFA (r':=.mp 4 0 1) j jb j j)<|xqT j j (iR.2 hc2) (oLd (cs:=[.im 0 _]) j tF2 j j)<|xqT j j (iR.2 hc2) (aa0 j j)<|xqT j j (iR.2 hc2) (oFA (r':=.mp 3 0 1) j jb j j)<|xqT j j (iR.2 hc2) (oLd (cs:=[.im 0 _]) j tF2 j j)<|xqT j j (iR.2 hc2) (oFA (r':=.mp 4 0 1) j jb j j)<|xqT j j (iR.2 hc2) (oLd (cs:=[.im 0 _]) j tF2 j j)<|xqT j j (iR.2 hc2) (Zc j j)<|xqT j j (iR.2 hc2) (oCa (xs:=[.v false [.im 0 _],.v false [.im 0 _],.v false [.im 0 _]]) (vs:=[(false,[.im 0 _])]) (v:=.v false [.im 0 _]) (dD Rh) (.inl j) j fO j (ppC j (ppC j (ppC j pp0))) j j pb0 j j j)<|xq (bQ j j (iR.2 hc2) j)<|xq (ah j j)<|xn
   ·cases hm3
    exact au j j (byF iR hc2) j<|au j j (byF iR hc2) j<|au j j (byF iR hc2) j<|au j j (byF iR hc2) j<|au j j (byF iR hc2) j<|au j j (byF iR hc2) j<|au j j (byF iR hc2) j<|au j j (byF iR hc2) j<|au j j (byF iR hc2) j<|au j j (byF iR hc2) j<|au j j (byF iR hc2) j<|au j j (byF iR hc2) j<|au j j (byF iR hc2) j<|xq (bV j j (byF iR hc2) j)<|xq (ah j j)<|xn
  ·cases hm3
   exact au j j (byF iEq hc1) j<|au j j (byF iEq hc1) j<|au j j (byF iEq hc1) j<|au j j (byF iEq hc1) j<|au j j (byF iEq hc1) j<|au j j (byF iEq hc1) j<|au j j (byF iEq hc1) j<|au j j (byF iEq hc1) j<|au j j (byF iEq hc1) j<|au j j (byF iEq hc1) j<|au j j (byF iEq hc1) j<|au j j (byF iEq hc1) j<|au j j (byF iEq hc1) j<|xq (bV j j (byF iEq hc1) j)<|xq (oMv j j)<|au j j j j<|au j j j j<|au j j j j<|au j j j j<|au j j j j<|au j j j j<|au j j j j<|au j j j j<|au j j j j<|au j j j j<|au j j j j<|au j j j j<|au j j j j<|xq (bV j j j j)<|xq (ah j j)<|xn
 ·refine us<|Go.ret (Unw.ret ?_)
  cases h
  exact fr afS j
theorem KZ {a_0:ae} {b_1:ae} {c_2:ae} {d_3:ae} {r:Bool} (h:mZ a_0 b_1 c_2 d_3=some r):FX 193 [.im 2 true (aQ a_0),.im 2 true (aQ b_1),.im 2 true (aQ c_2),.im 2 true (aQ d_3)] (B0 [(false,[.im 0 (V r)])]):=by
 unfold mZ at h
 refine gn 31 Try.func193 rfl ?_
 refine gs<|g0 j j (q (oBx j aH j (tkI (tkI tk0)))<|q (oBx j aH j (tkI (tkI tk0)))<|q (oBx j aH j (tkI (tkI tk0)))<|q (oBx j aH j (tkI (tkI tk0)))<|q (ah j j)<|nl)<|us<|gs<|?_
 obtain ⟨x12,Es,h⟩:=bs h
 obtain ⟨x16,hx16,h⟩:=bs h
 obtain ⟨vz,hm2,h⟩:=bs h
 refine gd c193 j j j j (mk [(8,bv vz)] []) ?_ ?_
 ·refine t j j (oLd (cs:=[.im 0 _,.im 0 _]) j aH j j)<|t j j (oLd (cs:=[.im 0 _,.im 0 _]) j aH j j)<|t j j (oLd (cs:=[.im 0 _,.im 0 _]) j aH j j)<|t j j (oLd (cs:=[.im 0 _,.im 0 _]) j aH j j)<|t j j (oLd (cs:=[.im 0 _,.im 0 _]) j aH j j)<|?_
  refine ic hm2 (fun hc1 hm2=>?_) fun hc1 hm2=>?_
  ·obtain ⟨x23,NM,hm2⟩:=bs hm2
   obtain ⟨x27,hx27,hm2⟩:=bs hm2
   cases hm2
   exact t j j (oLd (cs:=[.im 0 _,.im 0 _]) j aH j j)<|sS (dN z193 j (oCa (xs:=[.v true [.im 0 _,.im 0 _],.v true [.im 0 _,.im 0 _],.v true [.im 0 _,.im 0 _]]) (vs:=[(false,[.im 0 _])]) (v:=.v false [.im 0 _]) (tK Es) (.inl j) j jW j (ppC j (ppC j (ppC j pp0))) j j pb0 j j j)) trivial (sS (dN z193 j (oCa (xs:=[.v true [.im 0 _,.im 0 _],.v true [.im 0 _,.im 0 _],.v true [.im 0 _,.im 0 _]]) (vs:=[(false,[.im 0 _])]) (v:=.v false [.im 0 _]) (tK hx16) (.inl j) j jW j (ppC j (ppC j (ppC j pp0))) j j pb0 j j j)) trivial (t j j (oBi j j j j)<|t j j (oBi j j j j)<|t j j (oMv j j)<|tT j j j j (ak.2 hc1) (oLd (cs:=[.im 0 _,.im 0 _]) j aH j j)<|tT j j j j (ak.2 hc1) (oLd (cs:=[.im 0 _,.im 0 _]) j aH j j)<|tT j j j j (ak.2 hc1) (oLd (cs:=[.im 0 _,.im 0 _]) j aH j j)<|tT j j j j (ak.2 hc1) (oLd (cs:=[.im 0 _,.im 0 _]) j aH j j)<|tT j j j j (ak.2 hc1) (oLd (cs:=[.im 0 _,.im 0 _]) j aH j j)<|tT j j j j (ak.2 hc1) (oLd (cs:=[.im 0 _,.im 0 _]) j aH j j)<|sS (dT z193 j j j (ak.2 hc1) (oCa (xs:=[.v true [.im 0 _,.im 0 _],.v true [.im 0 _,.im 0 _],.v true [.im 0 _,.im 0 _]]) (vs:=[(false,[.im 0 _])]) (v:=.v false [.im 0 _]) (tK NM) (.inl j) j jW j (ppC j (ppC j (ppC j pp0))) j j pb0 j j j)) trivial (sS (dT z193 j j j (ak.2 hc1) (oCa (xs:=[.v true [.im 0 _,.im 0 _],.v true [.im 0 _,.im 0 _],.v true [.im 0 _,.im 0 _]]) (vs:=[(false,[.im 0 _])]) (v:=.v false [.im 0 _]) (tK hx27) (.inl j) j jW j (ppC j (ppC j (ppC j pp0))) j j pb0 j j j)) trivial (tT j j j j (ak.2 hc1) (oBi j j j j)<|tT j j j j (ak.2 hc1) (oBi j j j j)<|t j j (bQ j j (ak.2 hc1) j)<|sS (dN z193 j (ah j j)) trivial (sD (by kernel_rfl))))))
  ·cases hm2
   exact t j j (oLd (cs:=[.im 0 _,.im 0 _]) j aH j j)<|sS (dN z193 j (oCa (xs:=[.v true [.im 0 _,.im 0 _],.v true [.im 0 _,.im 0 _],.v true [.im 0 _,.im 0 _]]) (vs:=[(false,[.im 0 _])]) (v:=.v false [.im 0 _]) (tK Es) (.inl j) j jW j (ppC j (ppC j (ppC j pp0))) j j pb0 j j j)) trivial (sS (dN z193 j (oCa (xs:=[.v true [.im 0 _,.im 0 _],.v true [.im 0 _,.im 0 _],.v true [.im 0 _,.im 0 _]]) (vs:=[(false,[.im 0 _])]) (v:=.v false [.im 0 _]) (tK hx16) (.inl j) j jW j (ppC j (ppC j (ppC j pp0))) j j pb0 j j j)) trivial (t j j (oBi j j j j)<|t j j (oBi j j j j)<|t j j (oMv j j)<|tF j j j j (byF ak hc1) j<|tF j j j j (byF ak hc1) j<|tF j j j j (byF ak hc1) j<|tF j j j j (byF ak hc1) j<|tF j j j j (byF ak hc1) j<|tF j j j j (byF ak hc1) j<|sS (dF j j j (byF ak hc1) j) trivial (sS (dF j j j (byF ak hc1) j) trivial (tF j j j j (byF ak hc1) j<|tF j j j j (byF ak hc1) j<|t j j (bV j j (byF ak hc1) j)<|sS (dN z193 j (ah j j)) trivial (sD (by kernel_rfl))))))
 ·refine us<|Go.ret (Unw.ret ?_)
  cases h
  exact fr af7 j
theorem La {a_0:ae} {b_1:ae} {c_2:ae} {d_3:ae} {r:Bool} (h:iY a_0 b_1 c_2 d_3=some r):FX 153 [.im 2 true (aQ a_0),.im 2 true (aQ b_1),.im 2 true (aQ c_2),.im 2 true (aQ d_3)] (B0 [(false,[.im 0 (V r)])]):=by
 unfold iY at h
 refine gn 38 Try.func153 rfl ?_
 refine gs<|g0 j j (q (oBx j aH j (tkI (tkI tk0)))<|q (oBx j aH j (tkI (tkI tk0)))<|q (oBx j aH j (tkI (tkI tk0)))<|q (oBx j aH j (tkI (tkI tk0)))<|q (ah j j)<|nl)<|us<|gs<|?_
 obtain ⟨x13,Ia,h⟩:=bs h
 obtain ⟨vz,hm5,h⟩:=bs h
 refine gX afm j j j (mk [(8,bv vz)] []) ?_ ?_
 ·refine xq (oLd (cs:=[.im 0 _,.im 0 _]) j aH j j)<|xq (oLd (cs:=[.im 0 _,.im 0 _]) j aH j j)<|xq (oLd (cs:=[.im 0 _,.im 0 _]) j aH j j)<|xq (oLd (cs:=[.im 0 _,.im 0 _]) j aH j j)<|xq (oCa (xs:=[.v true [.im 0 _,.im 0 _],.v true [.im 0 _,.im 0 _],.v true [.im 0 _,.im 0 _],.v true [.im 0 _,.im 0 _]]) (vs:=[(false,[.im 0 _])]) (v:=.v false [.im 0 _]) (KZ Ia) (.inl j) j EU j (ppC j (ppC j (ppC j (ppC j pp0)))) j j pb0 j j j)<|xq (oMv j j)<|?_
  refine ic hm5 (fun hc1 hm5=>?_) fun hc1 hm5=>?_
  ·cases hm5
   exact au j j (iR.2 hc1) j<|au j j (iR.2 hc1) j<|au j j (iR.2 hc1) j<|au j j (iR.2 hc1) j<|xq (bQ j j (iR.2 hc1) j)<|xq (oMv j j)<|au j j j j<|au j j j j<|au j j j j<|au j j j j<|xq (bQ j j j j)<|xq (oMv j j)<|au j j j j<|au j j j j<|au j j j j<|au j j j j<|xq (bQ j j j j)<|xq (oMv j j)<|au j j j j<|au j j j j<|au j j j j<|au j j j j<|xq (bQ j j j j)<|xq (ah j j)<|xn
  ·obtain ⟨x18,FQ,hm5⟩:=bs hm5
   refine xqT j j (byF iR hc1) (oLd (cs:=[.im 0 _,.im 0 _]) j aH j j)<|xqT j j (byF iR hc1) (oLd (cs:=[.im 0 _,.im 0 _]) j aH j j)<|xqT j j (byF iR hc1) (oLd (cs:=[.im 0 _,.im 0 _]) j aH j j)<|xqT j j (byF iR hc1) (oCa (xs:=[.v true [.im 0 _,.im 0 _],.v true [.im 0 _,.im 0 _],.v true [.im 0 _,.im 0 _]]) (vs:=[(false,[.im 0 _])]) (v:=.v false [.im 0 _]) (zK FQ) (.inl j) j lX j (ppC j (ppC j (ppC j pp0))) j j pb0 j j j)<|xq (bV j j (byF iR hc1) j)<|xq (oMv j j)<|?_
   refine ic hm5 (fun hc2 hm5=>?_) fun hc2 hm5=>?_
   ·cases hm5
    exact au j j (iR.2 hc2) j<|au j j (iR.2 hc2) j<|au j j (iR.2 hc2) j<|au j j (iR.2 hc2) j<|xq (bQ j j (iR.2 hc2) j)<|xq (oMv j j)<|au j j j j<|au j j j j<|au j j j j<|au j j j j<|xq (bQ j j j j)<|xq (oMv j j)<|au j j j j<|au j j j j<|au j j j j<|au j j j j<|xq (bQ j j j j)<|xq (ah j j)<|xn
   ·obtain ⟨x24,hx24,hm5⟩:=bs hm5
    refine xqT j j (byF iR hc2) (oLd (cs:=[.im 0 _,.im 0 _]) j aH j j)<|xqT j j (byF iR hc2) (oLd (cs:=[.im 0 _,.im 0 _]) j aH j j)<|xqT j j (byF iR hc2) (oLd (cs:=[.im 0 _,.im 0 _]) j aH j j)<|xqT j j (byF iR hc2) (oCa (xs:=[.v true [.im 0 _,.im 0 _],.v true [.im 0 _,.im 0 _],.v true [.im 0 _,.im 0 _]]) (vs:=[(false,[.im 0 _])]) (v:=.v false [.im 0 _]) (zK hx24) (.inl j) j lX j (ppC j (ppC j (ppC j pp0))) j j pb0 j j j)<|xq (bV j j (byF iR hc2) j)<|xq (oMv j j)<|?_
    refine ic hm5 (fun hc3 hm5=>?_) fun hc3 hm5=>?_
    ·cases hm5
     exact au j j (iR.2 hc3) j<|au j j (iR.2 hc3) j<|au j j (iR.2 hc3) j<|au j j (iR.2 hc3) j<|xq (bQ j j (iR.2 hc3) j)<|xq (oMv j j)<|au j j j j<|au j j j j<|au j j j j<|au j j j j<|xq (bQ j j j j)<|xq (ah j j)<|xn
    ·obtain ⟨x30,JS,hm5⟩:=bs hm5
     refine xqT j j (byF iR hc3) (oLd (cs:=[.im 0 _,.im 0 _]) j aH j j)<|xqT j j (byF iR hc3) (oLd (cs:=[.im 0 _,.im 0 _]) j aH j j)<|xqT j j (byF iR hc3) (oLd (cs:=[.im 0 _,.im 0 _]) j aH j j)<|xqT j j (byF iR hc3) (oCa (xs:=[.v true [.im 0 _,.im 0 _],.v true [.im 0 _,.im 0 _],.v true [.im 0 _,.im 0 _]]) (vs:=[(false,[.im 0 _])]) (v:=.v false [.im 0 _]) (zK JS) (.inl j) j lX j (ppC j (ppC j (ppC j pp0))) j j pb0 j j j)<|xq (bV j j (byF iR hc3) j)<|xq (oMv j j)<|?_
     refine ic hm5 (fun hc4 hm5=>?_) fun hc4 hm5=>?_
     ·cases hm5
      exact au j j (iR.2 hc4) j<|au j j (iR.2 hc4) j<|au j j (iR.2 hc4) j<|au j j (iR.2 hc4) j<|xq (bQ j j (iR.2 hc4) j)<|xq (ah j j)<|xn
     ·obtain ⟨x36,KW,hm5⟩:=bs hm5
      cases hm5
      exact xqT j j (byF iR hc4) (oLd (cs:=[.im 0 _,.im 0 _]) j aH j j)<|xqT j j (byF iR hc4) (oLd (cs:=[.im 0 _,.im 0 _]) j aH j j)<|xqT j j (byF iR hc4) (oLd (cs:=[.im 0 _,.im 0 _]) j aH j j)<|xqT j j (byF iR hc4) (oCa (xs:=[.v true [.im 0 _,.im 0 _],.v true [.im 0 _,.im 0 _],.v true [.im 0 _,.im 0 _]]) (vs:=[(false,[.im 0 _])]) (v:=.v false [.im 0 _]) (zK KW) (.inl j) j lX j (ppC j (ppC j (ppC j pp0))) j j pb0 j j j)<|xq (bV j j (byF iR hc4) j)<|xq (ah j j)<|xn
 ·refine us<|Go.ret (Unw.ret ?_)
  cases h
  exact fr afT j
theorem NT {p_0:(List ae)} {r:Int} (h:jR p_0=some r):FX 154 [.im 2 false [W 2 af p_0]] (B0 [(false,[.im 0 (I r)])]):=by
 unfold jR at h
 refine gn 37 Try.func154 rfl ?_
 refine gs<|g0 j j (q (ah j j)<|nl)<|us<|gs<|g0 j j (q (ah j j)<|nl)<|us<|gs<|gs<|g0 j j (q (oMv j j)<|q (jd j j Bh j)<|q (oMv j j)<|nl)<|us<|Go.block<|?_
 obtain ⟨o,hl,h⟩:=bs h
 refine gl c154 j _ (fun (s:(Int×Int))=>match s with | (nX,Cj)=>mk [(0,D 2 (W 2 af p_0)),(3,iv nX),(7,D 2 (W 2 af p_0)),(8,iv (p_0.length:Int)),(9,iv Cj)] []) (fun (qJ:Int) (p:Ex×St)=>p.1= .exit 0∧p.2.norm ([3],[])=mk [(3,iv qJ)] []) hl (by kernel_rfl) ?_ ?_ ?_
 ·intro o p hp e
  exact nomatch (hp.1.symm.trans e)
 ·rintro ⟨nX,Cj⟩ o h
  unfold fB at h
  dsimp only at h
  refine gs<|g0 j j (q (oBi j j j j)<|nl)<|us<|gs<|gc h j ak (fun hc3 h=>?_) fun hc3 h=>?_
  ·refine Go.skip<|us<|gs<|Go.block<|gs<|?_
   obtain ⟨x12,Es,h⟩:=bs h
   refine g0 j j (q (oMv j j)<|q (gZ j Es pG j j)<|q (oLd (cs:=[.im 2 _,.im 2 _]) j aH j j)<|q (oAl j aH (tkI (tkI tk0)))<|q (ah j j)<|q (oSt aH j j j (tkI (tkI tk0)) j j j)<|nl)<|us<|gs<|?_
   obtain ⟨x19,Cm,h⟩:=bs h
   obtain ⟨x20,JX,h⟩:=bs h
   refine g1 j j (mk [(0,D 2 (W 2 af p_0)),(3,iv nX),(4,iv Cj),(5,M 5),(7,D 2 (W 2 af p_0)),(8,iv (p_0.length:Int)),(9,iv Cj)] [(5,Oa (G 0 (aQ x12)))]) (q (oMv j j)<|q (oMv j j)<|q (oBi j j j j)<|q (oMv j j)<|q (jd j j Bh j)<|q (Ce j Cm j j)<|q (gZ j JX pG j j)<|q (oLd (cs:=[.im 2 _,.im 2 _]) j aH j j)<|q (oAl j aH (tkI (tkI tk0)))<|q (oSt aH j j j (tkI (tkI tk0)) j j j)<|nl)<|us<|g1 j j (mk [(0,D 2 (W 2 af p_0)),(3,iv nX),(5,M 5),(6,M 6),(7,D 2 (W 2 af p_0)),(8,iv (p_0.length:Int)),(9,iv Cj)] [(5,Oa (G 0 (aQ x12))),(6,Oa (G 0 (aQ x20)))]) (q (oMv j j)<|q (oFA (r':=.mp 5 0 0) j gG j j)<|q (oLd (cs:=[.im 0 _]) j tF2 j j)<|q (oFA (r':=.mp 6 0 1) j jb j j)<|q (oLd (cs:=[.im 0 _]) j tF2 j j)<|q (oBi j j j j)<|q (oFA (r':=.mp 5 0 1) j jb j j)<|q (oLd (cs:=[.im 0 _]) j tF2 j j)<|q (oFA (r':=.mp 6 0 0) j gG j j)<|q (oLd (cs:=[.im 0 _]) j tF2 j j)<|q (oBi j j j j)<|q (oBi j j j j)<|q (oBi j j j j)<|q (ah j j)<|nl)<|Unw.blk<|us<|g0 j j (q (oBi j j j j)<|q (oMv j j)<|nl)<|Unw.nil<|?_
   cases h
   exact ⟨j,(by kernel_rfl)⟩
  ·refine Go.exit<|ux<|Unw.nil<|?_
   cases h
   exact ⟨j,(by kernel_rfl)⟩
 ·rintro ⟨e,st⟩ hp
  obtain ⟨qJ,rfl⟩:∃y,y=o:=⟨o,rfl⟩
  obtain ⟨he,hst⟩:=hp
  obtain rfl:e= .exit 0:=he
  refine Unw.lq<|us<|gs<|g2 c154 j j hst (q (oMv j j)<|q (ah j j)<|nl)<|us<|Go.ret (Unw.ret ?_)
  cases h
  exact fr afU j
theorem Gz {p_0:(List ae)} {r:Bool} (h:fE p_0=some r):FX 95 [.im 2 false [W 2 af p_0]] (B0 [(false,[.im 0 (V r)])]):=by
 unfold fE at h
 refine gn 93 Try.func95 rfl ?_
 refine gs<|g0 j j (q (ah j j)<|nl)<|us<|gs<|g0 j j (q (oMv j j)<|q (jd j j Bh j)<|q (ah j j)<|nl)<|us<|gs<|gs<|?_
 obtain ⟨Qy,NU,h⟩:=bs h
 refine gX c95 j j j (mk [(0,D 2 (W 2 af p_0)),(3,iv (p_0.length:Int)),(21,bv Qy)] []) ?_ ?_
 ·refine xq (oMv j j)<|xq (oBi j j j j)<|xq (oMv j j)<|?_
  refine ic NU (fun hc1 NU=>?_) fun hc1 NU=>?_
  ·cases NU
   exact au j j (ak.2 hc1) j<|au j j (ak.2 hc1) j<|xq (bQ j j (ak.2 hc1) j)<|xq (oMv j j)<|au j j j j<|au j j j j<|au j j j j<|xq (bQ j j j j)<|xn
  ·refine xqT j j (byF ak hc1) (oMv j j)<|xqT j j (byF ak hc1) (oBi j j j j)<|xq (bV j j (byF ak hc1) j)<|xq (oMv j j)<|?_
   refine ic NU (fun hc2 NU=>?_) fun hc2 NU=>?_
   ·cases NU
    exact au j j (ak.2 hc2) j<|au j j (ak.2 hc2) j<|au j j (ak.2 hc2) j<|xq (bQ j j (ak.2 hc2) j)<|xn
   ·obtain ⟨x19,Cm,NU⟩:=bs NU
    cases NU
    exact xqT j j (byF ak hc2) (oMv j j)<|xqT j j (byF ak hc2) (oCa (xs:=[.v false [.im 2 _]]) (vs:=[(false,[.im 0 _])]) (v:=.v false [.im 0 _]) (Ig Cm) (.inl j) j ZB j (ppC j pp0) j j pb0 j j j)<|xqT j j (byF ak hc2) (oUn j j j)<|xq (bV j j (byF ak hc2) j)<|xn
 ·refine us<|gc h j iR (fun hc3 h=>?_) fun hc3 h=>?_
  ·refine gs<|g0 j j (q (ah j j)<|nl)<|us<|Go.ret (Unw.ret ?_)
   cases h
   exact fr acs j
  ·refine Go.skip<|us<|gs<|gs<|g0 j j (q (oMv j j)<|q (jd j j Bh j)<|q (oMv j j)<|nl)<|us<|Go.block<|?_
   obtain ⟨o,hl,h⟩:=bs h
   refine gl c95 j _ (fun (lD:Int)=>mk [(0,D 2 (W 2 af p_0)),(3,iv (p_0.length:Int)),(23,iv (p_0.length:Int)),(24,iv lD)] []) (fun (o:(Unit ⊕ Bool)) (p:Ex×St)=>match o with | (.inl _)=>p.1= .exit 0∧p.2.norm ([0],[])=mk [(0,D 2 (W 2 af p_0))] [] | (.inr r2)=>p.1= .ret∧fin Try.prog cfg 95 Try.f95 [.im 2 false [W 2 af p_0]] p.2=some (B0 [(false,[.im 0 (V r2)])])) hl (by kernel_rfl) ?_ ?_ ?_
   ·intro o p hp e
    rcases o with u | r2<;>exact nomatch (hp.1.symm.trans e)
   ·rintro lD o h
    unfold bM at h
    refine gs<|g0 j j (q (oBi j j j j)<|nl)<|us<|gs<|gc h j ak (fun jv h=>?_) fun jv h=>?_
    ·refine Go.skip<|us<|gs<|Go.block<|gs<|g0 j j (q (oMv j j)<|q (ah j j)<|nl)<|us<|gs<|?_
     obtain ⟨x29,hx29,h⟩:=bs h
     obtain ⟨x35,UO,h⟩:=bs h
     obtain ⟨x36,KW,h⟩:=bs h
     obtain ⟨x42,aek,h⟩:=bs h
     obtain ⟨x43,FW,h⟩:=bs h
     refine gd c95 j j j j (mk [(0,D 2 (W 2 af p_0)),(3,iv (p_0.length:Int)),(4,iv lD),(5,M 5),(6,M 6),(7,M 7),(23,iv (p_0.length:Int)),(24,iv lD)] [(5,Oa (G 0 (aQ x29))),(6,Oa (G 0 (aQ x36))),(7,Oa (G 0 (aQ x43)))]) (t j j (oMv j j)<|t j j (oMv j j)<|t j j (gZ j hx29 pG j j)<|t j j (oLd (cs:=[.im 2 _,.im 2 _]) j aH j j)<|t j j (oMv j j)<|t j j (oMv j j)<|t j j (oBi j j j j)<|t j j (oMv j j)<|t j j (Ce j UO j j)<|t j j (gZ j KW pG j j)<|t j j (oLd (cs:=[.im 2 _,.im 2 _]) j aH j j)<|t j j (oMv j j)<|t j j (oMv j j)<|t j j (oBi j j j j)<|t j j (oMv j j)<|t j j (Ce j aek j j)<|t j j (gZ j FW pG j j)<|t j j (oLd (cs:=[.im 2 _,.im 2 _]) j aH j j)<|sF (dN z95 j (oAl j aH (tkI (tkI tk0)))) trivial (sF (dN z95 j (oAl j aH (tkI (tkI tk0)))) trivial (sS (dN z95 j (oAl j aH (tkI (tkI tk0)))) trivial (sS (dN z95 j (oSt aH j j j (tkI (tkI tk0)) j j j)) trivial (sS (dN z95 j (oSt aH j j j (tkI (tkI tk0)) j j j)) trivial (sS (dN z95 j (oSt aH j j j (tkI (tkI tk0)) j j j)) trivial (sD (by kernel_rfl)))))) (sS (dN z95 j (oAl j aH (tkI (tkI tk0)))) trivial (sS (dN z95 j (oAl j aH (tkI (tkI tk0)))) trivial (sS (dN z95 j (oSt aH j j j (tkI (tkI tk0)) j j j)) trivial (sS (dN z95 j (oSt aH j j j (tkI (tkI tk0)) j j j)) trivial (sS (dN z95 j (oSt aH j j j (tkI (tkI tk0)) j j j)) trivial (sD (by kernel_rfl)))))))) (sF (dN z95 j (oAl j aH (tkI (tkI tk0)))) trivial (sF (dN z95 j (oAl j aH (tkI (tkI tk0)))) trivial (sS (dN z95 j (oAl j aH (tkI (tkI tk0)))) trivial (sS (dN z95 j (oSt aH j j j (tkI (tkI tk0)) j j j)) trivial (sS (dN z95 j (oSt aH j j j (tkI (tkI tk0)) j j j)) trivial (sS (dN z95 j (oSt aH j j j (tkI (tkI tk0)) j j j)) trivial (sD (by kernel_rfl)))))) (sS (dN z95 j (oAl j aH (tkI (tkI tk0)))) trivial (sS (dN z95 j (oAl j aH (tkI (tkI tk0)))) trivial (sS (dN z95 j (oSt aH j j j (tkI (tkI tk0)) j j j)) trivial (sS (dN z95 j (oSt aH j j j (tkI (tkI tk0)) j j j)) trivial (sS (dN z95 j (oSt aH j j j (tkI (tkI tk0)) j j j)) trivial (sD (by kernel_rfl)))))))) (sS (dN z95 j (oAl j aH (tkI (tkI tk0)))) trivial (sF (dN z95 j (oAl j aH (tkI (tkI tk0)))) trivial (sS (dN z95 j (oAl j aH (tkI (tkI tk0)))) trivial (sS (dN z95 j (oSt aH j j j (tkI (tkI tk0)) j j j)) trivial (sS (dN z95 j (oSt aH j j j (tkI (tkI tk0)) j j j)) trivial (sS (dN z95 j (oSt aH j j j (tkI (tkI tk0)) j j j)) trivial (sD (by kernel_rfl)))))) (sS (dN z95 j (oAl j aH (tkI (tkI tk0)))) trivial (sS (dN z95 j (oAl j aH (tkI (tkI tk0)))) trivial (sS (dN z95 j (oSt aH j j j (tkI (tkI tk0)) j j j)) trivial (sS (dN z95 j (oSt aH j j j (tkI (tkI tk0)) j j j)) trivial (sS (dN z95 j (oSt aH j j j (tkI (tkI tk0)) j j j)) trivial (sD (by kernel_rfl)))))))))))<|us<|gs<|gs<|?_
     obtain ⟨Qx,JY,h⟩:=bs h
     refine gX c95 j j j (mk [(0,D 2 (W 2 af p_0)),(3,iv (p_0.length:Int)),(4,iv lD),(5,M 5),(6,M 6),(23,iv (p_0.length:Int)),(24,iv lD),(59,bv Qx)] [(5,Oa (G 0 (aQ x29))),(6,Oa (G 0 (aQ x36)))]) ?_ ?_
     ·refine xq (oLd (cs:=[.im 0 _,.im 0 _]) j aH j j)<|xq (oLd (cs:=[.im 0 _,.im 0 _]) j aH j j)<|xq (oBa j (Q4 x29.X x29.Y x36.X x36.Y) j j j j)<|xq (oMv j j)<|?_
      refine ic JY (fun hc31 JY=>?_) fun hc31 JY=>?_
      ·cases JY
       exact au j j ((zq iEq iEq).2 hc31) j<|au j j ((zq iEq iEq).2 hc31) j<|au j j ((zq iEq iEq).2 hc31) j<|au j j ((zq iEq iEq).2 hc31) j<|xq (bQ j j ((zq iEq iEq).2 hc31) j)<|xq (oMv j j)<|au j j j j<|au j j j j<|au j j j j<|au j j j j<|xq (bQ j j j j)<|xn
      ·obtain ⟨x52,ZR,JY⟩:=bs JY
       refine xqT j j (byF (zq iEq iEq) hc31) (oLd (cs:=[.im 0 _,.im 0 _]) j aH j j)<|xqT j j (byF (zq iEq iEq) hc31) (oLd (cs:=[.im 0 _,.im 0 _]) j aH j j)<|xqT j j (byF (zq iEq iEq) hc31) (oLd (cs:=[.im 0 _,.im 0 _]) j aH j j)<|xqT j j (byF (zq iEq iEq) hc31) (oCa (xs:=[.v true [.im 0 _,.im 0 _],.v true [.im 0 _,.im 0 _],.v true [.im 0 _,.im 0 _]]) (vs:=[(false,[.im 0 _])]) (v:=.v false [.im 0 _]) (zK ZR) (.inl j) j lX j (ppC j (ppC j (ppC j pp0))) j j pb0 j j j)<|xq (bV j j (byF (zq iEq iEq) hc31) j)<|xq (oMv j j)<|?_
       refine ic JY (fun hc32 JY=>?_) fun hc32 JY=>?_
       ·cases JY
        exact au j j (iR.2 hc32) j<|au j j (iR.2 hc32) j<|au j j (iR.2 hc32) j<|au j j (iR.2 hc32) j<|xq (bQ j j (iR.2 hc32) j)<|xn
       ·obtain ⟨x58,aep,JY⟩:=bs JY
        cases JY
        exact xqT j j (byF iR hc32) (oLd (cs:=[.im 0 _,.im 0 _]) j aH j j)<|xqT j j (byF iR hc32) (oLd (cs:=[.im 0 _,.im 0 _]) j aH j j)<|xqT j j (byF iR hc32) (oLd (cs:=[.im 0 _,.im 0 _]) j aH j j)<|xqT j j (byF iR hc32) (oCa (xs:=[.v true [.im 0 _,.im 0 _],.v true [.im 0 _,.im 0 _],.v true [.im 0 _,.im 0 _]]) (vs:=[(false,[.im 0 _])]) (v:=.v false [.im 0 _]) (zK aep) (.inl j) j lX j (ppC j (ppC j (ppC j pp0))) j j pb0 j j j)<|xq (bV j j (byF iR hc32) j)<|xn
     ·refine us<|gc h j iR (fun yf h=>?_) fun yf h=>?_
      ·refine gs<|g0 j j (q (ah j j)<|nl)<|us<|Go.ret (Unw.ret ?_)
       cases h
       exact ⟨j,(fo acs j)⟩
      ·refine Go.skip<|us<|gs<|g0 j j (q (oMv j j)<|q (oBi j j j j)<|q (ah j j)<|nl)<|us<|Go.block<|?_
       obtain ⟨o,hl,h⟩:=bs h
       refine gl c95 j _ (fun (zA:Int)=>mk [(0,D 2 (W 2 af p_0)),(3,iv (p_0.length:Int)),(4,iv lD),(5,M 5),(6,M 6),(8,iv zA),(23,iv (p_0.length:Int)),(24,iv lD)] [(5,Oa (G 0 (aQ x29))),(6,Oa (G 0 (aQ x36)))]) (fun (o:(Unit ⊕ Bool)) (p:Ex×St)=>match o with | (.inl _)=>p.1= .exit 2∧p.2.norm ([0,3,23,24],[])=mk [(0,D 2 (W 2 af p_0)),(3,iv (p_0.length:Int)),(23,iv (p_0.length:Int)),(24,iv lD)] [] | (.inr r2)=>p.1= .ret∧fin Try.prog cfg 95 Try.f95 [.im 2 false [W 2 af p_0]] p.2=some (B0 [(false,[.im 0 (V r2)])])) hl (by kernel_rfl) ?_ ?_ ?_
       ·intro o p hp e
        rcases o with u | r2<;>exact nomatch (hp.1.symm.trans e)
       ·rintro zA o h
        unfold aX at h
        refine gs<|gs<|g0 j j (q (oMv j j)<|q (oMv j j)<|q (oBi j j j j)<|nl)<|us<|gc h j ak (fun aeq h=>?_) fun aeq h=>?_
        ·refine Go.skip<|us<|gs<|Go.block<|gs<|?_
         obtain ⟨x70,aeo,h⟩:=bs h
         obtain ⟨Nq,JZ,h⟩:=bs h
         refine gd c95 j j j j (mk [(0,D 2 (W 2 af p_0)),(3,iv (p_0.length:Int)),(4,iv lD),(5,M 5),(6,M 6),(8,iv zA),(23,iv (p_0.length:Int)),(24,iv lD),(88,bv Nq)] [(5,Oa (G 0 (aQ x29))),(6,Oa (G 0 (aQ x36)))]) ?_ ?_
         ·refine t j j (oMv j j)<|t j j (oBi j j j j)<|t j j (oMv j j)<|t j j (Ce j aeo j j)<|t j j (oMv j j)<|t j j (oBi j j j j)<|t j j (oMv j j)<|?_
          refine ic JZ (fun vG JZ=>?_) fun vG JZ=>?_
          ·obtain ⟨x78,acv,JZ⟩:=bs JZ
           obtain ⟨x84,acy,JZ⟩:=bs JZ
           obtain ⟨x85,ael,JZ⟩:=bs JZ
           obtain ⟨x87,ahY,JZ⟩:=bs JZ
           cases JZ
           exact tT j j j j (iNe.2 vG) (oLd (cs:=[.im 0 _,.im 0 _]) j aH j j)<|tT j j j j (iNe.2 vG) (oLd (cs:=[.im 0 _,.im 0 _]) j aH j j)<|tT j j j j (iNe.2 vG) (oMv j j)<|tT j j j j (iNe.2 vG) (oMv j j)<|tT j j j j (iNe.2 vG) (gZ j acv pG j j)<|tT j j j j (iNe.2 vG) (oLd (cs:=[.im 2 _,.im 2 _]) j aH j j)<|tT j j j j (iNe.2 vG) (oMv j j)<|tT j j j j (iNe.2 vG) (oMv j j)<|tT j j j j (iNe.2 vG) (oBi j j j j)<|tT j j j j (iNe.2 vG) (oMv j j)<|tT j j j j (iNe.2 vG) (Ce j acy j j)<|tT j j j j (iNe.2 vG) (gZ j ael pG j j)<|tT j j j j (iNe.2 vG) (oLd (cs:=[.im 2 _,.im 2 _]) j aH j j)<|sS (dT z95 j j j (iNe.2 vG) (oCa (xs:=[.v true [.im 0 _,.im 0 _],.v true [.im 0 _,.im 0 _],.v true [.im 2 _,.im 2 _],.v true [.im 2 _,.im 2 _]]) (vs:=[(false,[.im 0 _])]) (v:=.v false [.im 0 _]) (La ahY) (.inl j) j ES j (ppC j (ppC j (ppC j (ppC j pp0)))) j j pb0 j j j)) trivial (t j j (bQ j j (iNe.2 vG) j)<|sD (by kernel_rfl))
          ·cases JZ
           exact tF j j j j (byF iNe vG) j<|tF j j j j (byF iNe vG) j<|tF j j j j (byF iNe vG) j<|tF j j j j (byF iNe vG) j<|tF j j j j (byF iNe vG) j<|tF j j j j (byF iNe vG) j<|tF j j j j (byF iNe vG) j<|tF j j j j (byF iNe vG) j<|tF j j j j (byF iNe vG) j<|tF j j j j (byF iNe vG) j<|tF j j j j (byF iNe vG) j<|tF j j j j (byF iNe vG) j<|tF j j j j (byF iNe vG) j<|sS (dF j j j (byF iNe vG) j) trivial (t j j (bV j j (byF iNe vG) j)<|sD (by kernel_rfl))
         ·refine us<|gc h j iR (fun ahZ h=>?_) fun ahZ h=>?_
          ·refine gs<|g0 j j (q (ah j j)<|nl)<|us<|Go.ret (Unw.ret ?_)
           cases h
           exact ⟨j,(fo acs j)⟩
          ·refine Go.skip<|Unw.blk<|us<|g0 j j (q (oMv j j)<|q (oBi j j j j)<|q (ah j j)<|nl)<|Unw.nil<|?_
           cases h
           exact ⟨j,(by kernel_rfl)⟩
        ·refine Go.exit<|ux<|Unw.nil<|?_
         cases h
         exact ⟨j,(by kernel_rfl)⟩
       ·rintro ⟨e,st⟩ hp
        rcases o with u | r2
        ·dsimp only at h
         obtain ⟨he,hst⟩:=hp
         obtain rfl:e= .exit 2:=he
         refine Unw.lq<|Unw.blk<|us<|g2 c95 j j hst (q (oBi j j j j)<|q (oMv j j)<|nl)<|Unw.nil<|?_
         cases h
         exact ⟨j,(by kernel_rfl)⟩
        ·dsimp only at h
         obtain ⟨he,hfin⟩:=hp
         obtain rfl:e= .ret:=he
         cases h
         exact Unw.ret ⟨j,hfin⟩
    ·refine Go.exit<|ux<|Unw.nil<|?_
     cases h
     exact ⟨j,(by kernel_rfl)⟩
   ·rintro ⟨e,st⟩ hp
    rcases o with u | r2
    ·dsimp only at h
     obtain ⟨he,hst⟩:=hp
     obtain rfl:e= .exit 0:=he
     refine Unw.lq<|us<|gs<|?_
     obtain ⟨x91,hx91,h⟩:=bs h
     refine g2 c95 j j hst (q (oMv j j)<|q (oCa (xs:=[.v false [.im 2 _]]) (vs:=[(false,[.im 0 _])]) (v:=.v false [.im 0 _]) (NT hx91) (.inl j) j ZC j (ppC j pp0) j j pb0 j j j)<|q (oBi j j j j)<|q (ah j j)<|nl)<|us<|Go.ret (Unw.ret ?_)
     cases h
     exact fr acs j
    ·dsimp only at h
     obtain ⟨he,hfin⟩:=hp
     obtain rfl:e= .ret:=he
     cases h
     exact Unw.ret (jl hfin)
theorem zh {d_0:aB} {r:Bool} (h:iJ d_0=some r):FX 43 [.im 2 true (aJ d_0)] (B0 [(false,[.im 0 (V r)])]):=by
 unfold iJ at h
 refine gn 106 Try.func43 rfl ?_
 refine gs<|g0 j j (q (oBx j jX j (tkI (tkI (tkI (tkI tk0)))))<|q (ah j j)<|nl)<|us<|gs<|gs<|?_
 obtain ⟨x11,XU,h⟩:=bs h
 obtain ⟨QA,Ih,h⟩:=bs h
 refine gX c43 j j j (mk [(1,M 1),(30,bv QA)] [(1,Oa (G 2 (aJ d_0)))]) ?_ ?_
 ·refine xq (oFA (r':=.mp 1 0 0) j H7 j j)<|xq (oLd (cs:=[.im 0 _]) j tF2 j j)<|xq (oCa (xs:=[.v false [.im 0 _],.v false [.im 0 _],.v false [.im 0 _]]) (vs:=[(false,[.im 0 _])]) (v:=.v false [.im 0 _]) (dD XU) (.inl j) j fO j (ppC j (ppC j (ppC j pp0))) j j pb0 j j j)<|xq (oUn j j j)<|xq (oMv j j)<|?_
  refine ic Ih (fun hc1 Ih=>?_) fun hc1 Ih=>?_
  ·obtain ⟨x16,hx16,Ih⟩:=bs Ih
   refine xqT j j (nF (iR.2 hc1)) (oFA (r':=.mp 1 0 1) j JL j j)<|xqT j j (nF (iR.2 hc1)) (oLd (cs:=[.im 0 _]) j tF2 j j)<|xqT j j (nF (iR.2 hc1)) (oCa (xs:=[.v false [.im 0 _],.v false [.im 0 _],.v false [.im 0 _]]) (vs:=[(false,[.im 0 _])]) (v:=.v false [.im 0 _]) (dD hx16) (.inl j) j fO j (ppC j (ppC j (ppC j pp0))) j j pb0 j j j)<|xqT j j (nF (iR.2 hc1)) (oUn j j j)<|xq (bV j j (nF (iR.2 hc1)) j)<|xq (oMv j j)<|?_
   refine ic Ih (fun hc2 Ih=>?_) fun hc2 Ih=>?_
   ·refine xqT j j (nF (iR.2 hc2)) (oFA (r':=.mp 1 0 2) j mD j j)<|xqT j j (nF (iR.2 hc2)) (oLd (cs:=[.im 2 _]) j y8 j j)<|xqT j j (nF (iR.2 hc2)) (jd j j Bh j)<|xqT j j (nF (iR.2 hc2)) (oBi j j j j)<|xq (bV j j (nF (iR.2 hc2)) j)<|xq (oMv j j)<|?_
    refine ic Ih (fun hc3 Ih=>?_) fun hc3 Ih=>?_
    ·cases Ih
     exact au j j (ak.2 hc3) j<|au j j (ak.2 hc3) j<|au j j (ak.2 hc3) j<|au j j (ak.2 hc3) j<|xq (bQ j j (ak.2 hc3) j)<|xn
    ·cases Ih
     exact xqT j j (byF ak hc3) (oFA (r':=.mp 1 0 3) j gU j j)<|xqT j j (byF ak hc3) (oLd (cs:=[.im 2 _]) j qw j j)<|xqT j j (byF ak hc3) (jd j j Eo j)<|xqT j j (byF ak hc3) (oBi j j j j)<|xq (bV j j (byF ak hc3) j)<|xn
   ·cases Ih
    exact au j j (nT (byF iR hc2)) j<|au j j (nT (byF iR hc2)) j<|au j j (nT (byF iR hc2)) j<|au j j (nT (byF iR hc2)) j<|xq (bQ j j (nT (byF iR hc2)) j)<|xq (oMv j j)<|au j j j j<|au j j j j<|au j j j j<|au j j j j<|xq (bQ j j j j)<|xn
  ·cases Ih
   exact au j j (nT (byF iR hc1)) j<|au j j (nT (byF iR hc1)) j<|au j j (nT (byF iR hc1)) j<|au j j (nT (byF iR hc1)) j<|xq (bQ j j (nT (byF iR hc1)) j)<|xq (oMv j j)<|au j j j j<|au j j j j<|au j j j j<|au j j j j<|xq (bQ j j j j)<|xq (oMv j j)<|au j j j j<|au j j j j<|au j j j j<|au j j j j<|xq (bQ j j j j)<|xn
 ·refine us<|gc h j iR (fun hc4 h=>?_) fun hc4 h=>?_
  ·refine gs<|g0 j j (q (ah j j)<|nl)<|us<|Go.ret (Unw.ret ?_)
   cases h
   exact fr ZJ j
  ·refine Go.skip<|us<|gs<|gs<|g0 j j (q (oFA (r':=.mp 1 0 2) j mD j j)<|q (oLd (cs:=[.im 2 _]) j y8 j j)<|q (jd j j Bh j)<|q (oMv j j)<|nl)<|us<|Go.block<|?_
   obtain ⟨o,hl,h⟩:=bs h
   refine gl c43 j _ (fun (yC:Int)=>mk [(1,M 1),(32,D 2 (W 2 af d_0.aI)),(33,iv (d_0.aI.length:Int)),(34,iv yC)] [(1,Oa (G 2 (aJ d_0)))]) (fun (o:(Unit ⊕ Bool)) (p:Ex×St)=>match o with | (.inl _)=>p.1= .exit 0∧p.2.norm ([1],[1])=mk [(1,M 1)] [(1,Oa (G 2 (aJ d_0)))] | (.inr r2)=>p.1= .ret∧fin Try.prog cfg 43 Try.f43 [.im 2 true (aJ d_0)] p.2=some (B0 [(false,[.im 0 (V r2)])])) hl (by kernel_rfl) ?_ ?_ ?_
   ·intro o p hp e
    rcases o with u | r2<;>exact nomatch (hp.1.symm.trans e)
   ·rintro yC o h
    unfold dS at h
    refine gs<|g0 j j (q (oBi j j j j)<|nl)<|us<|gs<|gc h j ak (fun hc39 h=>?_) fun hc39 h=>?_
    ·refine Go.skip<|us<|gs<|Go.block<|gs<|?_
     obtain ⟨x37,aer,h⟩:=bs h
     refine g0 j j (q (oMv j j)<|q (gZ j aer pG j j)<|q (oLd (cs:=[.im 2 _,.im 2 _]) j aH j j)<|q (oAl j aH (tkI (tkI tk0)))<|q (ah j j)<|q (oSt aH j j j (tkI (tkI tk0)) j j j)<|nl)<|us<|gs<|?_
     obtain ⟨x43,FW,h⟩:=bs h
     obtain ⟨Qz,Ii,h⟩:=bs h
     refine gd c43 j j j (st1:=mk [(1,M 1),(3,iv yC),(4,M 4),(32,D 2 (W 2 af d_0.aI)),(33,iv (d_0.aI.length:Int)),(34,iv yC)] [(1,Oa (G 2 (aJ d_0))),(4,Oa (G 0 (aQ x37)))]) (by kernel_rfl) (mk [(1,M 1),(32,D 2 (W 2 af d_0.aI)),(33,iv (d_0.aI.length:Int)),(34,iv yC),(60,bv Qz)] [(1,Oa (G 2 (aJ d_0)))]) ?_ ?_
     ·refine t j j (oFA (r':=.mp 4 0 0) j gG j j)<|t j j (oLd (cs:=[.im 0 _]) j tF2 j j)<|t j j (oFA (r':=.mp 1 0 0) j H7 j j)<|?_
      refine ic Ii (fun rG Ii=>?_) fun rG Ii=>?_
      ·obtain ⟨x50,TG,Ii⟩:=bs Ii
       refine ic Ii (fun jI Ii=>?_) fun jI Ii=>?_
       ·obtain ⟨x57,NH,Ii⟩:=bs Ii
        obtain ⟨x59,UN,Ii⟩:=bs Ii
        cases Ii
        exact t j j (oLd (cs:=[.im 0 _]) j tF2 j j)<|sS (dN z43 j (oCa (xs:=[.v false [.im 0 _],.v false [.im 0 _],.v false [.im 0 _]]) (vs:=[(false,[.im 0 _])]) (v:=.v false [.im 0 _]) (dD FW) (.inl j) j fO j (ppC j (ppC j (ppC j pp0))) j j pb0 j j j)) trivial (t j j (oUn j j j)<|t j j (oMv j j)<|tT j j j j (nF (iR.2 rG)) (oFA (r':=.mp 4 0 1) j jb j j)<|tT j j j j (nF (iR.2 rG)) (oLd (cs:=[.im 0 _]) j tF2 j j)<|tT j j j j (nF (iR.2 rG)) (oFA (r':=.mp 1 0 1) j JL j j)<|tT j j j j (nF (iR.2 rG)) (oLd (cs:=[.im 0 _]) j tF2 j j)<|sS (dT z43 j j j (nF (iR.2 rG)) (oCa (xs:=[.v false [.im 0 _],.v false [.im 0 _],.v false [.im 0 _]]) (vs:=[(false,[.im 0 _])]) (v:=.v false [.im 0 _]) (dD TG) (.inl j) j fO j (ppC j (ppC j (ppC j pp0))) j j pb0 j j j)) trivial (tT j j j j (nF (iR.2 rG)) (oUn j j j)<|t j j (bV j j (nF (iR.2 rG)) j)<|t j j (oMv j j)<|tT j j j j (nF (iR.2 jI)) (oFA (r':=.mp 1 0 2) j mD j j)<|tT j j j j (nF (iR.2 jI)) (oLd (cs:=[.im 2 _]) j y8 j j)<|tT j j j j (nF (iR.2 jI)) (oMv j j)<|sK (O:=[4]) j j j (dT z43 j j j (nF (iR.2 jI)) (oLd (cs:=[.im 0 _,.im 0 _]) j aH j j))<|sS (dT z43 j j j (nF (iR.2 jI)) (ag2 j NH pG j bn0 (bn1 j) j j)) (kY ⟨j,trivial⟩ trivial) (sS (dT z43 j j j (nF (iR.2 jI)) (oCa (xs:=[.v false [.im 2 _],.v true [.im 0 _,.im 0 _]]) (vs:=[(false,[.im 0 _])]) (v:=.v false [.im 0 _]) (sJ UN) (.inl j) j Tv j (ppC j (ppC j pp0)) j j pb0 j j j)) (kN j trivial) (t j j (bV j j (nF (iR.2 jI)) j)<|sD (by kernel_rfl)))))
       ·cases Ii
        exact t j j (oLd (cs:=[.im 0 _]) j tF2 j j)<|sS (dN z43 j (oCa (xs:=[.v false [.im 0 _],.v false [.im 0 _],.v false [.im 0 _]]) (vs:=[(false,[.im 0 _])]) (v:=.v false [.im 0 _]) (dD FW) (.inl j) j fO j (ppC j (ppC j (ppC j pp0))) j j pb0 j j j)) trivial (t j j (oUn j j j)<|t j j (oMv j j)<|tT j j j j (nF (iR.2 rG)) (oFA (r':=.mp 4 0 1) j jb j j)<|tT j j j j (nF (iR.2 rG)) (oLd (cs:=[.im 0 _]) j tF2 j j)<|tT j j j j (nF (iR.2 rG)) (oFA (r':=.mp 1 0 1) j JL j j)<|tT j j j j (nF (iR.2 rG)) (oLd (cs:=[.im 0 _]) j tF2 j j)<|sS (dT z43 j j j (nF (iR.2 rG)) (oCa (xs:=[.v false [.im 0 _],.v false [.im 0 _],.v false [.im 0 _]]) (vs:=[(false,[.im 0 _])]) (v:=.v false [.im 0 _]) (dD TG) (.inl j) j fO j (ppC j (ppC j (ppC j pp0))) j j pb0 j j j)) trivial (tT j j j j (nF (iR.2 rG)) (oUn j j j)<|t j j (bV j j (nF (iR.2 rG)) j)<|t j j (oMv j j)<|tF j j j j (nT (byF iR jI)) j<|tF j j j j (nT (byF iR jI)) j<|tF j j j j (nT (byF iR jI)) j<|sK (O:=[4]) j j j (dF j j j (nT (byF iR jI)) j)<|sS (dF j j j (nT (byF iR jI)) j) (kY ⟨j,trivial⟩ trivial) (sS (dF j j j (nT (byF iR jI)) j) (kN j trivial) (t j j (bQ j j (nT (byF iR jI)) j)<|sD (by kernel_rfl)))))
      ·cases Ii
       exact t j j (oLd (cs:=[.im 0 _]) j tF2 j j)<|sS (dN z43 j (oCa (xs:=[.v false [.im 0 _],.v false [.im 0 _],.v false [.im 0 _]]) (vs:=[(false,[.im 0 _])]) (v:=.v false [.im 0 _]) (dD FW) (.inl j) j fO j (ppC j (ppC j (ppC j pp0))) j j pb0 j j j)) trivial (t j j (oUn j j j)<|t j j (oMv j j)<|tF j j j j (nT (byF iR rG)) j<|tF j j j j (nT (byF iR rG)) j<|tF j j j j (nT (byF iR rG)) j<|tF j j j j (nT (byF iR rG)) j<|sS (dF j j j (nT (byF iR rG)) j) trivial (tF j j j j (nT (byF iR rG)) j<|t j j (bQ j j (nT (byF iR rG)) j)<|t j j (oMv j j)<|tF j j j j j j<|tF j j j j j j<|tF j j j j j j<|sK (O:=[4]) j j j (dF j j j j j)<|sS (dF j j j j j) (kY ⟨j,trivial⟩ trivial) (sS (dF j j j j j) (kN j trivial) (t j j (bQ j j j j)<|sD (by kernel_rfl)))))
     ·refine us<|gc h j iR (fun aeq h=>?_) fun aeq h=>?_
      ·refine gs<|g0 j j (q (ah j j)<|nl)<|us<|Go.ret (Unw.ret ?_)
       cases h
       exact ⟨j,(fo ZJ j)⟩
      ·refine Go.skip<|Unw.blk<|us<|g0 j j (q (oBi j j j j)<|q (oMv j j)<|nl)<|Unw.nil<|?_
       cases h
       exact ⟨j,(by kernel_rfl)⟩
    ·refine Go.exit<|ux<|Unw.nil<|?_
     cases h
     exact ⟨j,(by kernel_rfl)⟩
   ·rintro ⟨e,st⟩ hp
    rcases o with u | r2
    ·dsimp only at h
     obtain ⟨he,hst⟩:=hp
     obtain rfl:e= .exit 0:=he
     refine Unw.lq<|us<|gs<|gs<|g2 c43 j j hst (q (oFA (r':=.mp 1 0 3) j gU j j)<|q (oLd (cs:=[.im 2 _]) j qw j j)<|q (jd j j Eo j)<|q (oMv j j)<|nl)<|us<|Go.block<|?_
     obtain ⟨o,hl,h⟩:=bs h
     refine gl c43 j _ (fun (rf:Int)=>mk [(1,M 1),(63,D 2 (W 2 az d_0.ai)),(64,iv (d_0.ai.length:Int)),(65,iv rf)] [(1,Oa (G 2 (aJ d_0)))]) (fun (o:(Unit ⊕ Bool)) (p:Ex×St)=>match o with | (.inl _)=>p.1= .exit 2∧p.2.norm ([],[])=mk [] [] | (.inr r2)=>p.1= .ret∧fin Try.prog cfg 43 Try.f43 [.im 2 true (aJ d_0)] p.2=some (B0 [(false,[.im 0 (V r2)])])) hl (by kernel_rfl) ?_ ?_ ?_
     ·intro o p hp e
      rcases o with u | r2<;>exact nomatch (hp.1.symm.trans e)
     ·rintro rf o h
      unfold dO at h
      refine gs<|g0 j j (q (oBi j j j j)<|nl)<|us<|gs<|gc h j ak (fun hc31 h=>?_) fun hc31 h=>?_
      ·refine Go.skip<|us<|gs<|Go.block<|gs<|?_
       obtain ⟨x68,acw,h⟩:=bs h
       refine g0 j j (q (oMv j j)<|q (gZ j acw uF j j)<|q (oLd (cs:=[.im 2 _,.im 2 _]) j GN j j)<|q (oAl j GN (tkI (tkN tk0)))<|q (ah j j)<|q (oSt GN j j j (tkI (tkI tk0)) j j j)<|nl)<|us<|gs<|gs<|?_
       obtain ⟨x72,ZT,h⟩:=bs h
       obtain ⟨Nr,Bo,h⟩:=bs h
       refine gd c43 j j j (st1:=mk [(1,M 1),(5,iv rf),(6,M 6),(63,D 2 (W 2 az d_0.ai)),(64,iv (d_0.ai.length:Int)),(65,iv rf)] [(1,Oa (G 2 (aJ d_0))),(6,Oa (G 2 (Bg x68)))]) (by kernel_rfl) (mk [(1,M 1),(6,M 6),(63,D 2 (W 2 az d_0.ai)),(64,iv (d_0.ai.length:Int)),(65,iv rf),(89,bv Nr)] [(1,Oa (G 2 (aJ d_0))),(6,Oa (G 2 (Bg x68)))]) ?_ ?_
       ·refine t j j (oFA (r':=.mp 6 0 0) j zF j j)<|?_
        refine ic Bo (fun hc32 Bo=>?_) fun hc32 Bo=>?_
        ·refine ic Bo (fun yf Bo=>?_) fun yf Bo=>?_
         ·obtain ⟨x82,XT,Bo⟩:=bs Bo
          cases Bo
          exact t j j (oLd (cs:=[.im 0 _]) j tF9 j j)<|sS (dN z43 j (oCa (xs:=[.v false [.im 0 _]]) (vs:=[(false,[.im 0 _])]) (v:=.v false [.im 0 _]) (CE ZT) (.inl j) j UK j (ppC j pp0) j j pb0 j j j)) trivial (t j j (oUn j j j)<|t j j (oMv j j)<|tT j j j j (nF (iR.2 hc32)) (oMv j j)<|tT j j j j (nF (iR.2 hc32)) (oBi j j j j)<|tT j j j j (nF (iR.2 hc32)) (oMv j j)<|tT j j j j (ak.2 yf) (oFA (r':=.mp 1 0 3) j gU j j)<|tT j j j j (ak.2 yf) (oLd (cs:=[.im 2 _]) j qw j j)<|tT j j j j (ak.2 yf) (oMv j j)<|tT j j j j (ak.2 yf) (oBi j j j j)<|tT j j j j (ak.2 yf) (gZ j XT uF j j)<|tT j j j j (ak.2 yf) (oFA (r':=.im 2 _) j zF j j)<|tT j j j j (ak.2 yf) (oLd (cs:=[.im 2 _]) j tF9 j j)<|tT j j j j (ak.2 yf) (oFA (r':=.mp 6 0 0) j zF j j)<|tT j j j j (ak.2 yf) (oLd (cs:=[.im 0 _]) j tF9 j j)<|tT j j j j (ak.2 yf) (oBi j j j j)<|tT j j j j (nF (iR.2 hc32)) (bQ j j (ak.2 yf) j)<|t j j (bV j j (nF (iR.2 hc32)) j)<|sD (by kernel_rfl))
         ·cases Bo
          exact t j j (oLd (cs:=[.im 0 _]) j tF9 j j)<|sS (dN z43 j (oCa (xs:=[.v false [.im 0 _]]) (vs:=[(false,[.im 0 _])]) (v:=.v false [.im 0 _]) (CE ZT) (.inl j) j UK j (ppC j pp0) j j pb0 j j j)) trivial (t j j (oUn j j j)<|t j j (oMv j j)<|tT j j j j (nF (iR.2 hc32)) (oMv j j)<|tT j j j j (nF (iR.2 hc32)) (oBi j j j j)<|tT j j j j (nF (iR.2 hc32)) (oMv j j)<|tF j j j j (byF ak yf) j<|tF j j j j (byF ak yf) j<|tF j j j j (byF ak yf) j<|tF j j j j (byF ak yf) j<|tF j j j j (byF ak yf) j<|tF j j j j (byF ak yf) j<|tF j j j j (byF ak yf) j<|tF j j j j (byF ak yf) j<|tF j j j j (byF ak yf) j<|tF j j j j (byF ak yf) j<|tT j j j j (nF (iR.2 hc32)) (bV j j (byF ak yf) j)<|t j j (bV j j (nF (iR.2 hc32)) j)<|sD (by kernel_rfl))
        ·cases Bo
         exact t j j (oLd (cs:=[.im 0 _]) j tF9 j j)<|sS (dN z43 j (oCa (xs:=[.v false [.im 0 _]]) (vs:=[(false,[.im 0 _])]) (v:=.v false [.im 0 _]) (CE ZT) (.inl j) j UK j (ppC j pp0) j j pb0 j j j)) trivial (t j j (oUn j j j)<|t j j (oMv j j)<|tF j j j j (nT (byF iR hc32)) j<|tF j j j j (nT (byF iR hc32)) j<|tF j j j j (nT (byF iR hc32)) j<|sT j (dU j j j j)<|sT j (dU j j j j)<|sT j (dU j j j j)<|sT j (dU j j j j)<|sT j (dU j j j j)<|sT j (dU j j j j)<|sT j (dU j j j j)<|sT j (dU j j j j)<|sT j (dU j j j j)<|sT j (dU j j j j)<|tF j j j j (nT (byF iR hc32)) j<|t j j (bQ j j (nT (byF iR hc32)) j)<|sD (by kernel_rfl))
       ·refine us<|gc h j iR (fun hc34 h=>?_) fun hc34 h=>?_
        ·refine gs<|g0 j j (q (ah j j)<|nl)<|us<|Go.ret (Unw.ret ?_)
         cases h
         exact ⟨j,(fo ZJ j)⟩
        ·refine Go.skip<|us<|gs<|?_
         obtain ⟨x95,hx95,h⟩:=bs h
         refine g0 j j (q (oFA (r':=.mp 1 0 2) j mD j j)<|q (oLd (cs:=[.im 2 _]) j y8 j j)<|q (oFA (r':=.mp 6 0 1) j pJ j j)<|q (oLd (cs:=[.im 2 _]) j oz j j)<|q (oCr (xs:=[.v false [.im 2 _],.v false [.im 2 _]]) (vs:=[(false,[.own 95 0 0]),(false,[.im 0 _])]) (v:=.tup [(false,[.own 95 0 0]),(false,[.im 0 _])]) (c:=⟨.sh,0,_⟩) (cs:=[]) (Ie hx95) (.inl j) j UL j (ppC j (ppC j pp0)) j j pb0 j j j)<|q (KL j j)<|q (oEx j j j)<|q (oEx j j j)<|q (oZ j j j j j)<|q (ah j j)<|nl)<|us<|gs<|?_
         obtain ⟨Dx,F7,h⟩:=bs h
         refine gX c43 j j j (mk [(1,M 1),(63,D 2 (W 2 az d_0.ai)),(64,iv (d_0.ai.length:Int)),(65,iv rf),(104,bv Dx)] [(1,Oa (G 2 (aJ d_0)))]) ?_ ?_
         ·refine xq (oMv j j)<|xq (oUn j j j)<|xq (oMv j j)<|?_
          refine ic F7 (fun rZ F7=>?_) fun rZ F7=>?_
          ·obtain ⟨x102,hx102,F7⟩:=bs F7
           cases F7
           exact xqT j j (nF (iR.2 rZ)) (oMv j j)<|xqT j j (nF (iR.2 rZ)) (oCa (xs:=[.v false [.own 7 0 0]]) (vs:=[(false,[.im 0 _])]) (v:=.v false [.im 0 _]) (Gz hx102) (.inl j) j acj j (ppC j pp0) j j pb0 j j j)<|xqT j j (nF (iR.2 rZ)) (oUn j j j)<|xq (bV j j (nF (iR.2 rZ)) j)<|xn
          ·cases F7
           exact au j j (nT (byF iR rZ)) j<|au j j (nT (byF iR rZ)) j<|au j j (nT (byF iR rZ)) j<|xq (bQ j j (nT (byF iR rZ)) j)<|xn
         ·refine us<|gc h j iR (fun Bl h=>?_) fun Bl h=>?_
          ·refine gs<|g0 j j (q (ah j j)<|nl)<|us<|Go.ret (Unw.ret ?_)
           cases h
           exact ⟨j,(fo ZJ j)⟩
          ·refine Go.skip<|Unw.blk<|us<|g0 j j (q (oBi j j j j)<|q (oMv j j)<|nl)<|Unw.nil<|?_
           cases h
           exact ⟨j,(by kernel_rfl)⟩
      ·refine Go.exit<|ux<|Unw.nil<|?_
       cases h
       exact ⟨j,(by kernel_rfl)⟩
     ·rintro ⟨e,st⟩ hp
      rcases o with u | r2
      ·dsimp only at h
       obtain ⟨he,hst⟩:=hp
       obtain rfl:e= .exit 2:=he
       refine Unw.lq<|us<|gs<|g2 c43 j j hst (q (ah j j)<|nl)<|us<|Go.ret (Unw.ret ?_)
       cases h
       exact fr ZJ j
      ·dsimp only at h
       obtain ⟨he,hfin⟩:=hp
       obtain rfl:e= .ret:=he
       cases h
       exact Unw.ret (jl hfin)
    ·dsimp only at h
     obtain ⟨he,hfin⟩:=hp
     obtain rfl:e= .ret:=he
     cases h
     exact Unw.ret (jl hfin)
theorem Ij {kS:ByteArray} {r:(Int×Int×Int×Int)} (h:nK kS=some r):FX 206 [.im 2 false [Y kS]] (B0 [(false,[.im 0 (I r.1)]),(false,[.im 0 (I r.2.1)]),(false,[.im 0 (I r.2.2.1)]),(false,[.im 0 (I r.2.2.2)])]):=by
 unfold nK at h
 refine gn 27 Try.func206 rfl ?_
 refine gs<|g0 j j (q (ah j j)<|q (ah j j)<|q (ah j j)<|q (ah j j)<|nl)<|us<|gs<|gs<|g0 j j (q (oMv j j)<|nl)<|us<|Go.block<|gs<|g0 j j (q (oBi j j j j)<|q (ah j j)<|nl)<|us<|gc h j D6 (fun hc1 h=>?_) fun hc1 h=>?_
 ·refine gs<|g0 j j (q (ah j j)<|q (ah j j)<|q (ah j j)<|q (ah j j)<|nl)<|us<|Go.ret (Unw.ret ?_)
  cases h
  exact fr FO j
 ·refine gs<|g0 j j (q (oBi j j j j)<|q (ah j j)<|nl)<|us<|gc h j D6 (fun hc2 h=>?_) fun hc2 h=>?_
  ·refine gs<|g0 j j (q (ah j j)<|q (ah j j)<|q (ah j j)<|q (ah j j)<|nl)<|us<|Go.ret (Unw.ret ?_)
   cases h
   exact fr FO j
  ·refine gs<|g0 j j (q (oBi j j j j)<|q (ah j j)<|nl)<|us<|gc h j D6 (fun hc3 h=>?_) fun hc3 h=>?_
   ·refine gs<|g0 j j (q (ah j j)<|q (ah j j)<|q (ah j j)<|q (ah j j)<|nl)<|us<|Go.ret (Unw.ret ?_)
    cases h
    exact fr FO j
   ·refine gs<|g0 j j (q (oBi j j j j)<|q (ah j j)<|nl)<|us<|gc h j D6 (fun hc4 h=>?_) fun hc4 h=>?_
    ·refine gs<|g0 j j (q (ah j j)<|q (ah j j)<|q (ah j j)<|q (ah j j)<|nl)<|us<|Go.ret (Unw.ret ?_)
     cases h
     exact fr FO j
    ·refine gs<|g0 j j (q (oBi j j j j)<|q (ah j j)<|nl)<|us<|gc h j D6 (fun hc5 h=>?_) fun hc5 h=>?_
     ·refine gs<|g0 j j (q (ah j j)<|q (ah j j)<|q (ah j j)<|q (ah j j)<|nl)<|us<|Go.ret (Unw.ret ?_)
      cases h
      exact fr FO j
     ·refine gs<|g0 j j (q (oBi j j j j)<|q (ah j j)<|nl)<|us<|gc h j D6 (fun hc6 h=>?_) fun hc6 h=>?_
      ·refine gs<|g0 j j (q (ah j j)<|q (ah j j)<|q (ah j j)<|q (ah j j)<|nl)<|us<|Go.ret (Unw.ret ?_)
       cases h
       exact fr FO j
      ·refine gs<|g0 j j (q (oBi j j j j)<|q (ah j j)<|nl)<|us<|gc h j D6 (fun hc7 h=>?_) fun hc7 h=>?_
       ·refine gs<|g0 j j (q (ah j j)<|q (ah j j)<|q (ah j j)<|q (ah j j)<|nl)<|us<|Go.ret (Unw.ret ?_)
        cases h
        exact fr FO j
       ·refine gs<|g0 j j (q (oBi j j j j)<|q (ah j j)<|nl)<|us<|gc h j D6 (fun hc8 h=>?_) fun hc8 h=>?_
        ·refine gs<|g0 j j (q (ah j j)<|q (ah j j)<|q (ah j j)<|q (ah j j)<|nl)<|us<|Go.ret (Unw.ret ?_)
         cases h
         exact fr FO j
        ·refine gs<|g0 j j (q (oBi j j j j)<|q (ah j j)<|nl)<|us<|gc h j D6 (fun hc9 h=>?_) fun hc9 h=>?_
         ·refine gs<|g0 j j (q (ah j j)<|q (ah j j)<|q (ah j j)<|q (ah j j)<|nl)<|us<|Go.ret (Unw.ret ?_)
          cases h
          exact fr FO j
         ·refine gs<|g0 j j (q (oBi j j j j)<|q (ah j j)<|nl)<|us<|gc h j D6 (fun NV h=>?_) fun NV h=>?_
          ·refine gs<|g0 j j (q (ah j j)<|q (ah j j)<|q (ah j j)<|q (ah j j)<|nl)<|us<|Go.ret (Unw.ret ?_)
           cases h
           exact fr FO j
          ·refine Go.skip<|Unw.blk<|us<|gs<|g0 j j (q (ah j j)<|q (ah j j)<|q (ah j j)<|q (ah j j)<|nl)<|us<|Go.ret (Unw.ret ?_)
           cases h
           exact fr FO j
theorem GG {kS:ByteArray} {r:(Int×Bool)} (h:dZ kS=some r):FX 182 [.im 2 false [Y kS]] (B0 [(false,[.im 0 (I r.1)]),(false,[.im 0 (V r.2)])]):=by
 unfold dZ at h
 refine gn 18 Try.func182 rfl ?_
 refine gs<|g0 j j (q (ah j j)<|q (ah j j)<|nl)<|us<|gs<|?_
 obtain ⟨x10,FV,h⟩:=bs h
 refine g0 j j (q (oMv j j)<|q (oCa (xs:=[.v false [.im 2 _]]) (vs:=[(false,[.im 0 _]),(false,[.im 0 _]),(false,[.im 0 _]),(false,[.im 0 _])]) (v:=.tup [(false,[.im 0 _]),(false,[.im 0 _]),(false,[.im 0 _]),(false,[.im 0 _])]) (Ij FV) (.inl j) j ab6 j (ppC j pp0) j j pb0 j j j)<|q (KL j j)<|q (oEx j j j)<|q (oEx j j j)<|q (oEx j j j)<|q (oEx j j j)<|q (ah j j)<|q (ah j j)<|q (ah j j)<|q (ah j j)<|nl)<|us<|gs<|g0 j j (q (oMv j j)<|q (oMv j j)<|q (oBi j j j j)<|q (ah j j)<|q (ah j j)<|nl)<|us<|Go.ret (Unw.ret ?_)
 cases h
 exact fr af2 j
theorem Ik {v_0:aF} {r:Bool} (h:jC v_0=some r):FX 129 [.im 2 true (ou v_0)] (B0 [(false,[.im 0 (V r)])]):=by
 unfold jC at h
 refine gn 29 Try.func129 rfl ?_
 refine gs<|g0 j j (q (oBx j zG j (tkI (tkI (tkI tk0))))<|q (ah j j)<|nl)<|us<|gs<|?_
 obtain ⟨x8,hx8,h⟩:=bs h
 refine g0 j j (q (oFA (r':=.mp 1 0 0) j Zo j j)<|q (oLd (cs:=[.im 0 _]) j tF9 j j)<|q (oCa (xs:=[.v false [.im 0 _]]) (vs:=[(false,[.im 0 _]),(false,[.im 0 _])]) (v:=.tup [(false,[.im 0 _]),(false,[.im 0 _])]) (GG hx8) (.inl j) j ab5 j (ppC j pp0) j j pb0 j j j)<|q (KL j j)<|q (oEx j j j)<|q (oEx j j j)<|q (ah j j)<|q (ah j j)<|nl)<|us<|gs<|?_
 obtain ⟨Uu,hm4,h⟩:=bs h
 refine gX afj j j j (mk [(2,bv Uu)] []) ?_ ?_
 ·refine xq (oMv j j)<|xq (oMv j j)<|?_
  refine ic hm4 (fun hc1 hm4=>?_) fun hc1 hm4=>?_
  ·obtain ⟨x15,NF,hm4⟩:=bs hm4
   refine xqT j j (iR.2 hc1) (oFA (r':=.mp 1 0 1) j y7 j j)<|xqT j j (iR.2 hc1) (oLd (cs:=[.im 0 _]) j tF2 j j)<|xqT j j (iR.2 hc1) (oCa (xs:=[.v false [.im 0 _],.v false [.im 0 _],.v false [.im 0 _]]) (vs:=[(false,[.im 0 _])]) (v:=.v false [.im 0 _]) (dD NF) (.inl j) j fO j (ppC j (ppC j (ppC j pp0))) j j pb0 j j j)<|xq (bQ j j (iR.2 hc1) j)<|xq (oMv j j)<|?_
   refine ic hm4 (fun hc2 hm4=>?_) fun hc2 hm4=>?_
   ·obtain ⟨x22,KQ,hm4⟩:=bs hm4
    refine xqT j j (iR.2 hc2) (oFA (r':=.mp 1 0 1) j y7 j j)<|xqT j j (iR.2 hc2) (oLd (cs:=[.im 0 _]) j tF2 j j)<|xqT j j (iR.2 hc2) (oMv j j)<|xqT j j (iR.2 hc2) (oBi j j j j)<|xqT j j (iR.2 hc2) (oCa (xs:=[.v false [.im 0 _],.v false [.im 0 _],.v false [.im 0 _]]) (vs:=[(false,[.im 0 _])]) (v:=.v false [.im 0 _]) (dD KQ) (.inl j) j fO j (ppC j (ppC j (ppC j pp0))) j j pb0 j j j)<|xq (bQ j j (iR.2 hc2) j)<|xq (oMv j j)<|?_
    refine ic hm4 (fun hc3 hm4=>?_) fun hc3 hm4=>?_
    ·obtain ⟨x27,hx27,hm4⟩:=bs hm4
     cases hm4
     exact xqT j j (iR.2 hc3) (oFA (r':=.mp 1 0 2) j H8 j j)<|xqT j j (iR.2 hc3) (oLd (cs:=[.im 0 _]) j tF2 j j)<|xqT j j (iR.2 hc3) (oCa (xs:=[.v false [.im 0 _],.v false [.im 0 _],.v false [.im 0 _]]) (vs:=[(false,[.im 0 _])]) (v:=.v false [.im 0 _]) (dD hx27) (.inl j) j fO j (ppC j (ppC j (ppC j pp0))) j j pb0 j j j)<|xq (bQ j j (iR.2 hc3) j)<|xq (ah j j)<|xn
    ·cases hm4
     exact au j j (byF iR hc3) j<|au j j (byF iR hc3) j<|au j j (byF iR hc3) j<|xq (bV j j (byF iR hc3) j)<|xq (ah j j)<|xn
   ·cases hm4
    exact au j j (byF iR hc2) j<|au j j (byF iR hc2) j<|au j j (byF iR hc2) j<|au j j (byF iR hc2) j<|au j j (byF iR hc2) j<|xq (bV j j (byF iR hc2) j)<|xq (oMv j j)<|au j j j j<|au j j j j<|au j j j j<|xq (bV j j j j)<|xq (ah j j)<|xn
  ·cases hm4
   exact au j j (byF iR hc1) j<|au j j (byF iR hc1) j<|au j j (byF iR hc1) j<|xq (bV j j (byF iR hc1) j)<|xq (oMv j j)<|au j j j j<|au j j j j<|au j j j j<|au j j j j<|au j j j j<|xq (bV j j j j)<|xq (oMv j j)<|au j j j j<|au j j j j<|au j j j j<|xq (bV j j j j)<|xq (ah j j)<|xn
 ·refine us<|Go.ret (Unw.ret ?_)
  cases h
  exact fr afI j
theorem Eu {v_0:aF} {r:Bool} (h:iT v_0=some r):FX 165 [.im 2 true (ou v_0)] (B0 [(false,[.im 0 (V r)])]):=by
 unfold iT at h
 refine gn 6 Try.func165 rfl ?_
 refine gs<|g0 j j (q (oBx j zG j (tkI (tkI (tkI tk0))))<|q (ah j j)<|nl)<|us<|gs<|?_
 obtain ⟨x4,hx4,h⟩:=bs h
 refine g0 j j (q (oLd (cs:=[.im 0 _,.im 0 _,.im 0 _]) j zG j j)<|q (oCa (xs:=[.v true [.im 0 _,.im 0 _,.im 0 _]]) (vs:=[(false,[.im 0 _])]) (v:=.v false [.im 0 _]) (Ik hx4) (.inl j) j Zy j (ppC j pp0) j j pb0 j j j)<|q (oUn j j j)<|q (ah j j)<|nl)<|us<|Go.ret (Unw.ret ?_)
 cases h
 exact fr af0 j
theorem pI {s_0:(List aF)} {r:Int} (h:eH s_0 (fun b0=>iT b0)=some r):FX 197 [.im 2 false [W 3 aA s_0],.im 2 false [.clo 165 []]] (B0 [(false,[.im 0 (I r)])]):=by
 unfold eH at h
 refine gn 19 Try.func197 rfl ?_
 refine gs<|g0 j j (q (ah j j)<|nl)<|us<|gs<|gs<|g0 j j (q (oMv j j)<|q (jd j j Jj j)<|q (oMv j j)<|nl)<|us<|Go.block<|?_
 obtain ⟨o,hl,h⟩:=bs h
 refine gl ad8 j _ (fun (fK:Int)=>mk [(0,D 2 (W 3 aA s_0)),(1,D 2 (.clo 165 [])),(7,iv (s_0.length:Int)),(8,iv fK)] []) (fun (o:(Unit ⊕ Int)) (p:Ex×St)=>match o with | (.inl _)=>p.1= .exit 0∧p.2.norm ([],[])=mk [] [] | (.inr r2)=>p.1= .ret∧fin Try.prog cfg 197 Try.f197 [.im 2 false [W 3 aA s_0],.im 2 false [.clo 165 []]] p.2=some (B0 [(false,[.im 0 (I r2)])])) hl (by kernel_rfl) ?_ ?_ ?_
 ·intro o p hp e
  rcases o with u | r2<;>exact nomatch (hp.1.symm.trans e)
 ·rintro fK o h
  unfold dA at h
  refine gs<|g0 j j (q (oBi j j j j)<|nl)<|us<|gs<|gc h j ak (fun hc5 h=>?_) fun hc5 h=>?_
  ·refine Go.skip<|us<|gs<|Go.block<|gs<|g0 j j (q (oMv j j)<|q (ah j j)<|nl)<|us<|gs<|?_
   obtain ⟨x14,BH,h⟩:=bs h
   obtain ⟨x16,hx16,h⟩:=bs h
   refine g0 j j (q (oMv j j)<|q (oMv j j)<|q (oMv j j)<|q (gZ j BH Q5 j j)<|q (oLd (cs:=[.im 2 _,.im 2 _,.im 2 _]) j zG j j)<|q (oCa (xs:=[.v true [.im 2 _,.im 2 _,.im 2 _]]) (vs:=[(false,[.im 0 _])]) (v:=.v false [.im 0 _]) (Eu hx16) (.inr ⟨_,_,j,j⟩) j ZE j (ppC j pp0) j j pb0 j j j)<|nl)<|us<|gc h j iR (fun hc6 h=>?_) fun hc6 h=>?_
   ·refine gs<|g0 j j (q (oMv j j)<|q (ah j j)<|nl)<|us<|Go.ret (Unw.ret ?_)
    cases h
    exact ⟨j,(fo adl j)⟩
   ·refine Go.skip<|Unw.blk<|us<|g0 j j (q (oBi j j j j)<|q (oMv j j)<|nl)<|Unw.nil<|?_
    cases h
    exact ⟨j,(by kernel_rfl)⟩
  ·refine Go.exit<|ux<|Unw.nil<|?_
   cases h
   exact ⟨j,(by kernel_rfl)⟩
 ·rintro ⟨e,st⟩ hp
  rcases o with u | r2
  ·dsimp only at h
   obtain ⟨he,hst⟩:=hp
   obtain rfl:e= .exit 0:=he
   refine Unw.lq<|us<|gs<|g2 ad8 j j hst (q (ah j j)<|nl)<|us<|Go.ret (Unw.ret ?_)
   cases h
   exact fr adl j
  ·dsimp only at h
   obtain ⟨he,hfin⟩:=hp
   obtain rfl:e= .ret:=he
   cases h
   exact Unw.ret (jl hfin)
theorem oC {s_0:(List aF)} {r:Bool} (h:dP s_0 (fun b0=>iT b0)=some r):FX 164 [.im 2 false [W 3 aA s_0],.im 2 false [.clo 165 []]] (B0 [(false,[.im 0 (V r)])]):=by
 unfold dP at h
 refine gn 9 Try.func164 rfl ?_
 refine gs<|g0 j j (q (ah j j)<|nl)<|us<|gs<|?_
 obtain ⟨x7,hx7,h⟩:=bs h
 refine g0 j j (q (oMv j j)<|q (oMv j j)<|q (oCa (xs:=[.v false [.im 2 _],.v false [.im 2 _]]) (vs:=[(false,[.im 0 _])]) (v:=.v false [.im 0 _]) (pI hx7) (.inl j) j QZ j (ppC j (ppC j pp0)) j j pb0 j j j)<|q (oBi j j j j)<|q (ah j j)<|nl)<|us<|Go.ret (Unw.ret ?_)
 cases h
 exact fr afZ j
theorem GH {dM:(List aF)} {r:Bool} (h:oN dM=some r):FX 118 [.im 2 false [W 3 aA dM]] (B0 [(false,[.im 0 (V r)])]):=by
 unfold oN at h
 refine gn 6 Try.func118 rfl ?_
 refine gs<|g0 j j (q (ah j j)<|nl)<|us<|gs<|?_
 obtain ⟨x4,hx4,h⟩:=bs h
 refine g0 j j (q (oMv j j)<|q (oCa (xs:=[.v false [.im 2 _],.fn 165 []]) (vs:=[(false,[.im 0 _])]) (v:=.v false [.im 0 _]) (oC hx4) (.inl j) j QW j (ppC j (ppC j pp0)) j j pb0 j j j)<|q (oUn j j j)<|q (ah j j)<|nl)<|us<|Go.ret (Unw.ret ?_)
 cases h
 exact fr afG j
theorem Bq {aO:(List aF)} {r:Bool} (h:iw aO=some r):FX 108 [.im 2 false [W 3 aA aO]] (B0 [(false,[.im 0 (V r)])]):=by
 unfold iw at h
 refine gn 10 Try.func108 rfl ?_
 refine gs<|g0 j j (q (ah j j)<|nl)<|us<|gs<|?_
 obtain ⟨x5,hx5,h⟩:=bs h
 obtain ⟨jw,hm2,h⟩:=bs h
 refine gX afg j j j (mk [(2,bv jw)] []) ?_ ?_
 ·refine xq (oMv j j)<|xq (jd j j Jj j)<|xq (oCa (xs:=[.v false [.im 0 _],.v false [.im 0 _],.v false [.im 0 _]]) (vs:=[(false,[.im 0 _])]) (v:=.v false [.im 0 _]) (dD hx5) (.inl j) j fO j (ppC j (ppC j (ppC j pp0))) j j pb0 j j j)<|xq (oMv j j)<|?_
  refine ic hm2 (fun hc1 hm2=>?_) fun hc1 hm2=>?_
  ·obtain ⟨x8,hx8,hm2⟩:=bs hm2
   cases hm2
   exact xqT j j (iR.2 hc1) (oMv j j)<|xqT j j (iR.2 hc1) (oCa (xs:=[.v false [.im 2 _]]) (vs:=[(false,[.im 0 _])]) (v:=.v false [.im 0 _]) (GH hx8) (.inl j) j Zw j (ppC j pp0) j j pb0 j j j)<|xq (bQ j j (iR.2 hc1) j)<|xq (ah j j)<|xn
  ·cases hm2
   exact au j j (byF iR hc1) j<|au j j (byF iR hc1) j<|xq (bV j j (byF iR hc1) j)<|xq (ah j j)<|xn
 ·refine us<|Go.ret (Unw.ret ?_)
  cases h
  exact fr afB j
theorem J3 {mg:(List Int)} {r:(List bJ)} (h:tJ mg=some r):FX 99 [.im 2 false [W 1 eI mg]] (B0 [(false,[.ow 0 2 (List.map di r)])]):=by
 unfold tJ at h
 refine gn 35 Try.func99 rfl ?_
 refine gs<|g0 j j (q (Cc j j afu)<|nl)<|us<|gs<|g0 j j (q (oBS (es:=List.map di ([]:List bJ)) j TA j pt0 (dn j fun _=>j))<|q (oZ j j j j j)<|nl)<|us<|gs<|gs<|g0 j j (q (oMv j j)<|q (jd j j uG j)<|q (oMv j j)<|nl)<|us<|Go.block<|?_
 obtain ⟨o,hl,h⟩:=bs h
 refine gl c99 j _ (fun (s:(Int×(List bJ)))=>match s with | (Ec,dG)=>mk [(0,D 2 (W 1 eI mg)),(3,H 3 0),(8,D 2 (W 1 eI mg)),(9,iv (mg.length:Int)),(10,iv Ec)] [(3,Oc [Z (W 2 di dG)])]) (fun (eP:(List bJ)) (p:Ex×St)=>p.1= .exit 0∧p.2.norm ([3],[3])=mk [(3,H 3 0)] [(3,Oc [Z (W 2 di eP)])]) hl (by kernel_rfl) ?_ ?_ ?_
 ·intro o p hp e
  exact nomatch (hp.1.symm.trans e)
 ·rintro ⟨Ec,dG⟩ o h
  unfold oO at h
  dsimp only at h
  refine gs<|g0 j j (q (oBi j j j j)<|nl)<|us<|gs<|gc h j ak (fun hc3 h=>?_) fun hc3 h=>?_
  ·refine Go.skip<|us<|gs<|Go.block<|gs<|?_
   obtain ⟨x13,Ia,h⟩:=bs h
   refine g0 j j (q (oMv j j)<|q (gZ j Ia eX j j)<|q (oLd (cs:=[.im 2 _]) j tF2 j j)<|q (ah j j)<|q (ah j j)<|nl)<|us<|gs<|?_
   obtain ⟨x20,JX,h⟩:=bs h
   obtain ⟨x21,OC,h⟩:=bs h
   refine g0 j j (q (oMv j j)<|q (oMv j j)<|q (oBi j j j j)<|q (oMv j j)<|q (jd j j uG j)<|q (Ce j JX j j)<|q (gZ j OC eX j j)<|q (oLd (cs:=[.im 2 _]) j tF2 j j)<|q (ah j j)<|nl)<|us<|?_
   obtain ⟨x32,hx32,h⟩:=bs h
   refine g0 j j (q (oMv j j)<|q (oMv j j)<|q (oMv j j)<|q (aa0 j j)<|q (oMv j j)<|q (oMv j j)<|q (Zc j j)<|q (oBu (cs:=[.im 0 _,.im 0 _]) j afs j)<|q (oBS (es:=List.map di ([(⟨(min2 x13 x21),(max2 x13 x21)⟩:bJ)]:List bJ)) j TA j (ptC j (fxI (fxI fx0)) j pt0) (dn j fun _=>j))<|q (xO (en:=di) (M:=([(⟨(min2 x13 x21),(max2 x13 x21)⟩:bJ)]:List bJ)) j hx32 j TA j j ZN (.inl ⟨_,j⟩) j j j j (kG j j) (dn j fun _=>j))<|q (oZ j j j j j)<|nl)<|Unw.blk<|us<|g0 j j (q (oBi j j j j)<|q (oMv j j)<|nl)<|Unw.nil<|?_
   cases h
   exact ⟨j,(by kernel_rfl)⟩
  ·refine Go.exit<|ux<|Unw.nil<|?_
   cases h
   exact ⟨j,(by kernel_rfl)⟩
 ·rintro ⟨e,st⟩ hp
  obtain ⟨eP,rfl⟩:∃y,y=o:=⟨o,rfl⟩
  obtain ⟨he,hst⟩:=hp
  obtain rfl:e= .exit 0:=he
  refine Unw.lq<|us<|gs<|g2 c99 j j hst (q (oMv j j)<|q (oZ j j j j j)<|nl)<|us<|Go.ret (Unw.ret ?_)
  cases h
  exact fr ahO j
theorem yh {s_0:(List bJ)} {v_1:bJ} {r:Int} (h:jo s_0 v_1=some r):FX 156 [.im 2 false [W 2 di s_0],.im 2 true (xZ v_1)] (B0 [(false,[.im 0 (I r)])]):=by
 unfold jo at h
 refine gn 19 Try.func156 rfl ?_
 refine gs<|g0 j j (q (oBx j KH j (tkI (tkI tk0)))<|q (ah j j)<|nl)<|us<|gs<|gs<|g0 j j (q (oMv j j)<|q (jd j j ZN j)<|q (oMv j j)<|nl)<|us<|Go.block<|?_
 obtain ⟨o,hl,h⟩:=bs h
 refine gl c156 j _ (fun (fK:Int)=>mk [(0,D 2 (W 2 di s_0)),(3,M 3),(7,iv (s_0.length:Int)),(8,iv fK)] [(3,Oa (G 0 (xZ v_1)))]) (fun (o:(Unit ⊕ Int)) (p:Ex×St)=>match o with | (.inl _)=>p.1= .exit 0∧p.2.norm ([],[])=mk [] [] | (.inr r2)=>p.1= .ret∧fin Try.prog cfg 156 Try.f156 [.im 2 false [W 2 di s_0],.im 2 true (xZ v_1)] p.2=some (B0 [(false,[.im 0 (I r2)])])) hl (by kernel_rfl) ?_ ?_ ?_
 ·intro o p hp e
  rcases o with u | r2<;>exact nomatch (hp.1.symm.trans e)
 ·rintro fK o h
  unfold fU at h
  refine gs<|g0 j j (q (oBi j j j j)<|nl)<|us<|gs<|gc h j ak (fun hc5 h=>?_) fun hc5 h=>?_
  ·refine Go.skip<|us<|gs<|Go.block<|gs<|g0 j j (q (oMv j j)<|q (ah j j)<|nl)<|us<|gs<|?_
   obtain ⟨x14,BH,h⟩:=bs h
   refine gd c156 j j j j (mk [(0,D 2 (W 2 di s_0)),(3,M 3),(5,iv fK),(7,iv (s_0.length:Int)),(8,iv fK),(16,bv ((v_1.e0==x14.e0)&&(v_1.e1==x14.e1)))] [(3,Oa (G 0 (xZ v_1)))]) (t j j (oLd (cs:=[.im 0 _,.im 0 _]) j KH j j)<|t j j (oMv j j)<|t j j (oMv j j)<|t j j (gZ j BH TA j j)<|t j j (oLd (cs:=[.im 2 _,.im 2 _]) j KH j j)<|t j j (oBa j (aed v_1.e0 v_1.e1 x14.e0 x14.e1) j j j j)<|sD (by kernel_rfl))<|us<|gc h j (zq iEq iEq) (fun hc6 h=>?_) fun hc6 h=>?_
   ·refine gs<|g0 j j (q (oMv j j)<|q (ah j j)<|nl)<|us<|Go.ret (Unw.ret ?_)
    cases h
    exact ⟨j,(fo adf j)⟩
   ·refine Go.skip<|Unw.blk<|us<|g0 j j (q (oBi j j j j)<|q (oMv j j)<|nl)<|Unw.nil<|?_
    cases h
    exact ⟨j,(by kernel_rfl)⟩
  ·refine Go.exit<|ux<|Unw.nil<|?_
   cases h
   exact ⟨j,(by kernel_rfl)⟩
 ·rintro ⟨e,st⟩ hp
  rcases o with u | r2
  ·dsimp only at h
   obtain ⟨he,hst⟩:=hp
   obtain rfl:e= .exit 0:=he
   refine Unw.lq<|us<|gs<|g2 c156 j j hst (q (ah j j)<|nl)<|us<|Go.ret (Unw.ret ?_)
   cases h
   exact fr adf j
  ·dsimp only at h
   obtain ⟨he,hfin⟩:=hp
   obtain rfl:e= .ret:=he
   cases h
   exact Unw.ret (jl hfin)
theorem vU {s_0:(List bJ)} {v_1:bJ} {r:Bool} (h:fV s_0 v_1=some r):FX 102 [.im 2 false [W 2 di s_0],.im 2 true (xZ v_1)] (B0 [(false,[.im 0 (V r)])]):=by
 unfold fV at h
 refine gn 9 Try.func102 rfl ?_
 refine gs<|g0 j j (q (oBx j KH j (tkI (tkI tk0)))<|q (ah j j)<|nl)<|us<|gs<|?_
 obtain ⟨x7,hx7,h⟩:=bs h
 refine g0 j j (q (oMv j j)<|q (oLd (cs:=[.im 0 _,.im 0 _]) j KH j j)<|q (oCa (xs:=[.v false [.im 2 _],.v true [.im 0 _,.im 0 _]]) (vs:=[(false,[.im 0 _])]) (v:=.v false [.im 0 _]) (yh hx7) (.inl j) j Oy j (ppC j (ppC j pp0)) j j pb0 j j j)<|q (oBi j j j j)<|q (ah j j)<|nl)<|us<|Go.ret (Unw.ret ?_)
 cases h
 exact fr afz j
theorem F8 {e_0:bJ} {Ed:(List (List bJ))} {QB:Int} {r:Bool} (h:jy e_0 Ed QB=some r):FX 101 [.im 2 true (xZ e_0),.im 2 false [.cp [W 1 (eL 2 di) Ed] 0],.im 2 false [.cp [I QB] 0]] (B0 [(false,[.im 0 (V r)])]):=by
 unfold jy at h
 refine gn 11 Try.func101 rfl ?_
 refine gs<|g0 j j (q (oBx j KH j (tkI (tkI tk0)))<|q (ah j j)<|nl)<|us<|gs<|?_
 obtain ⟨x7,hx7,h⟩:=bs h
 obtain ⟨x10,FV,h⟩:=bs h
 refine gd afd j j j j (mk [(4,bv x10)] []) (t j j (oLd (cs:=[.im 2 _]) j Ji j j)<|t j j (oLd (cs:=[.im 2 _]) j tF3 j j)<|t j j (gZ j hx7 Tz j j)<|t j j (oLd (cs:=[.im 2 _]) j adm j j)<|t j j (oLd (cs:=[.im 0 _,.im 0 _]) j KH j j)<|sS (dN afe j (oCa (xs:=[.v false [.im 2 _],.v true [.im 0 _,.im 0 _]]) (vs:=[(false,[.im 0 _])]) (v:=.v false [.im 0 _]) (vU FV) (.inl j) j Ov j (ppC j (ppC j pp0)) j j pb0 j j j)) trivial (sS (dN afe j (ah j j)) trivial (sD (by kernel_rfl))))<|us<|Go.ret (Unw.ret ?_)
 cases h
 exact fr afy j
theorem tN {s_0:(List bJ)} {qW:(List (List bJ))} {Ew:Int} {r:Int} (h:iK s_0 (fun b0=>jy b0 qW Ew)=some r):FX 155 [.im 2 false [W 2 di s_0],.im 2 false [.clo 101 [.cp [W 1 (eL 2 di) qW] 0,.cp [I Ew] 0]]] (B0 [(false,[.im 0 (I r)])]):=by
 unfold iK at h
 refine gn 19 Try.func155 rfl ?_
 refine gs<|g0 j j (q (ah j j)<|nl)<|us<|gs<|gs<|g0 j j (q (oMv j j)<|q (jd j j ZN j)<|q (oMv j j)<|nl)<|us<|Go.block<|?_
 obtain ⟨o,hl,h⟩:=bs h
 refine gl ad6 j _ (fun (fK:Int)=>mk [(0,D 2 (W 2 di s_0)),(1,D 2 (.clo 101 [.cp [W 1 (eL 2 di) qW] 0,.cp [I Ew] 0])),(7,iv (s_0.length:Int)),(8,iv fK)] []) (fun (o:(Unit ⊕ Int)) (p:Ex×St)=>match o with | (.inl _)=>p.1= .exit 0∧p.2.norm ([],[])=mk [] [] | (.inr r2)=>p.1= .ret∧fin Try.prog cfg 155 Try.f155 [.im 2 false [W 2 di s_0],.im 2 false [.clo 101 [.cp [W 1 (eL 2 di) qW] 0,.cp [I Ew] 0]]] p.2=some (B0 [(false,[.im 0 (I r2)])])) hl (by kernel_rfl) ?_ ?_ ?_
 ·intro o p hp e
  rcases o with u | r2<;>exact nomatch (hp.1.symm.trans e)
 ·rintro fK o h
  unfold dV at h
  refine gs<|g0 j j (q (oBi j j j j)<|nl)<|us<|gs<|gc h j ak (fun hc5 h=>?_) fun hc5 h=>?_
  ·refine Go.skip<|us<|gs<|Go.block<|gs<|g0 j j (q (oMv j j)<|q (ah j j)<|nl)<|us<|gs<|?_
   obtain ⟨x14,BH,h⟩:=bs h
   obtain ⟨x16,hx16,h⟩:=bs h
   refine g0 j j (q (oMv j j)<|q (oMv j j)<|q (oMv j j)<|q (gZ j BH TA j j)<|q (oLd (cs:=[.im 2 _,.im 2 _]) j KH j j)<|q (oCa (xs:=[.v true [.im 2 _,.im 2 _],.v false [.im 2 _],.v false [.im 2 _]]) (vs:=[(false,[.im 0 _])]) (v:=.v false [.im 0 _]) (F8 hx16) (.inr ⟨_,_,j,j⟩) j Ou j (ppC j (ppC j (ppC j pp0))) j j pb0 j j j)<|nl)<|us<|gc h j iR (fun hc6 h=>?_) fun hc6 h=>?_
   ·refine gs<|g0 j j (q (oMv j j)<|q (ah j j)<|nl)<|us<|Go.ret (Unw.ret ?_)
    cases h
    exact ⟨j,(fo ade j)⟩
   ·refine Go.skip<|Unw.blk<|us<|g0 j j (q (oBi j j j j)<|q (oMv j j)<|nl)<|Unw.nil<|?_
    cases h
    exact ⟨j,(by kernel_rfl)⟩
  ·refine Go.exit<|ux<|Unw.nil<|?_
   cases h
   exact ⟨j,(by kernel_rfl)⟩
 ·rintro ⟨e,st⟩ hp
  rcases o with u | r2
  ·dsimp only at h
   obtain ⟨he,hst⟩:=hp
   obtain rfl:e= .exit 0:=he
   refine Unw.lq<|us<|gs<|g2 ad6 j j hst (q (ah j j)<|nl)<|us<|Go.ret (Unw.ret ?_)
   cases h
   exact fr ade j
  ·dsimp only at h
   obtain ⟨he,hfin⟩:=hp
   obtain rfl:e= .ret:=he
   cases h
   exact Unw.ret (jl hfin)
theorem rH {s_0:(List bJ)} {qW:(List (List bJ))} {Ew:Int} {r:Bool} (h:dW s_0 (fun b0=>jy b0 qW Ew)=some r):FX 100 [.im 2 false [W 2 di s_0],.im 2 false [.clo 101 [.cp [W 1 (eL 2 di) qW] 0,.cp [I Ew] 0]]] (B0 [(false,[.im 0 (V r)])]):=by
 unfold dW at h
 refine gn 9 Try.func100 rfl ?_
 refine gs<|g0 j j (q (ah j j)<|nl)<|us<|gs<|?_
 obtain ⟨x7,hx7,h⟩:=bs h
 refine g0 j j (q (oMv j j)<|q (oMv j j)<|q (oCa (xs:=[.v false [.im 2 _],.v false [.im 2 _]]) (vs:=[(false,[.im 0 _])]) (v:=.v false [.im 0 _]) (tN hx7) (.inl j) j Ox j (ppC j (ppC j pp0)) j j pb0 j j j)<|q (oBi j j j j)<|q (ah j j)<|nl)<|us<|Go.ret (Unw.ret ?_)
 cases h
 exact fr afx j
theorem BX {d_0:aB} {r:(List (List Int))} (h:oJ d_0=some r):FX 49 [.im 2 true (aJ d_0)] (B0 [(false,[.im 0 (W 1 (eL 1 eI) r)])]):=by
 unfold oJ at h
 refine gn 61 Try.func49 rfl ?_
 refine gs<|g0 j j (sqn z49 j (oBx j jX j (tkI (tkI (tkI (tkI tk0)))))<|sqf z49 j (Cc j j ad9) (adX j j j)<|nl)<|us<|gs<|g0 j j (sqn z49 j (oBS (es:=List.map (eL 2 di) ([]:List (List bJ))) j Tz j pt0 (su j))<|sqn z49 j (oAl j Ji (tkN tk0))<|sq0 (oSt Ji j j j (tkO j j tk0) j j j)<|nl)<|us<|gs<|gs<|g1 j j (mk [(1,M 1),(3,M 3)] [(1,Oa (G 2 (aJ d_0))),(3,Ob [Z (W 1 (eL 2 di) ([]:List (List bJ)))])]) (sqn z49 j (oFA (r':=.mp 1 0 3) j gU j j)<|sqn z49 j (oLd (cs:=[.im 2 _]) j qw j j)<|sqn z49 j (jd j j Eo j)<|sqn z49 j (oMv j j)<|nl)<|us<|Go.block<|?_
 obtain ⟨o,hl,h⟩:=bs h
 refine gl c49 j _ (fun (s:(Int×(List (List bJ))))=>match s with | (BO,vO)=>mk [(3,M 3),(11,D 2 (W 2 az d_0.ai)),(12,iv (d_0.ai.length:Int)),(13,iv BO)] [(3,Ob [Z (W 1 (eL 2 di) vO)])]) (fun (bu:(List (List bJ))) (p:Ex×St)=>p.1= .exit 0∧p.2.norm ([3],[3])=mk [(3,M 3)] [(3,Ob [Z (W 1 (eL 2 di) bu)])]) hl (by kernel_rfl) ?_ ?_ ?_
 ·intro o p hp e
  exact nomatch (hp.1.symm.trans e)
 ·rintro ⟨BO,vO⟩ o h
  unfold nZ at h
  dsimp only at h
  refine gs<|g0 j j (sqn z49 j (oBi j j j j)<|nl)<|us<|gs<|gc h j ak (fun hc38 h=>?_) fun hc38 h=>?_
  ·refine Go.skip<|us<|gs<|Go.block<|gs<|?_
   obtain ⟨x15,NF,h⟩:=bs h
   refine g0 j j (sqn z49 j (gZ j NF uF j j)<|sqn z49 j (oLd (cs:=[.im 2 _,.im 2 _]) j GN j j)<|sqn z49 j (oAl j GN (tkI (tkN tk0)))<|sq0 (oSt GN j j j (tkI (tkI tk0)) j j j)<|nl)<|us<|?_
   obtain ⟨x20,JX,h⟩:=bs h
   obtain ⟨x22,KQ,h⟩:=bs h
   refine gd c49 j j j (st1:=mk [(3,M 3),(5,M 5),(11,D 2 (W 2 az d_0.ai)),(12,iv (d_0.ai.length:Int)),(13,iv BO)] [(3,Ob [Z (W 1 (eL 2 di) vO)]),(5,Oa (G 2 (Bg x15)))]) (by kernel_rfl) (mk [(3,M 3),(11,D 2 (W 2 az d_0.ai)),(12,iv (d_0.ai.length:Int)),(13,iv BO)] [(3,Ob [Z (W 1 (eL 2 di) x22)])]) (sT j (dNn z49 j j (oFA (r':=.mp 5 0 1) j pJ j j))<|sT j (dNn z49 j j (oLd (cs:=[.im 2 _]) j oz j j))<|sK (O:=[3]) j j j (dNn z49 j j (oLd (cs:=[.own 3 0 0]) j Ji j j))<|sS (dNn z49 j j (oCr (xs:=[.v false [.im 2 _]]) (vs:=[(false,[.own 20 0 0])]) (v:=.v false [.own 20 0 0]) (c:=⟨.sh,0,_⟩) (cs:=[]) (J3 JX) (.inl j) j ack j (ppC j pp0) j j pb0 j j j)) (kY ⟨j,trivial⟩ trivial) (sS (dNn z49 j j (oBS (es:=List.map (eL 2 di) ([x20]:List (List bJ))) j Tz j (ptC j (fxO j j fx0) j pt0) (su j))) (kY ⟨j,trivial⟩ trivial) (sS (dNn z49 j j (xO (en:=(eL 2 di)) (M:=([x20]:List (List bJ))) j KQ j Tz j j WS (.inl ⟨_,j⟩) j j j j (kG j j) (su j))) (kN j trivial) (sS (dN0 j (oSt Ji j j j (tkO j j tk0) j j j)) (kN j trivial) (sD (by kernel_rfl))))))<|Unw.blk<|us<|g0 j j (sqn z49 j (oBi j j j j)<|sqn z49 j (oMv j j)<|nl)<|Unw.nil<|?_
   cases h
   exact ⟨j,(by kernel_rfl)⟩
  ·refine Go.exit<|ux<|Unw.nil<|?_
   cases h
   exact ⟨j,(by kernel_rfl)⟩
 ·rintro ⟨e,st⟩ hp
  obtain ⟨bu,rfl⟩:∃y,y=o:=⟨o,rfl⟩
  obtain ⟨he,hst⟩:=hp
  obtain rfl:e= .exit 0:=he
  refine Unw.lq<|us<|gs<|?_
  obtain ⟨x26,Rf,h⟩:=bs h
  refine g2 c49 j j hst (sqn z49 j (oLd (cs:=[.own 3 0 0]) j Ji j j)<|sqn z49 j (Hu j j WS j j j (fun e=>nomatch e))<|sqn z49 j (ag1 (en:=(eL 1 eI)) j Rf j JQ j j (fxN fx0) j (su j))<|sqn z49 j (ae9 j j j j j)<|nl)<|us<|gs<|gs<|g0 j j (sqn z49 j (oLd (cs:=[.own 3 0 0]) j Ji j j)<|sqn z49 j (Hu j j WS j j j (fun e=>nomatch e))<|sqn z49 j (oMv j j)<|nl)<|us<|Go.block<|?_
  obtain ⟨o,hl,h⟩:=bs h
  refine gl c49 j _ (fun (s:(Int×(List (List Int))))=>match s with | (jq,Dy)=>mk [(3,M 3),(6,H 6 0),(28,iv (bu.length:Int)),(29,iv jq)] [(3,Ob [Z (W 1 (eL 2 di) bu)]),(6,Oc [⟨.dp 0,0,0,W 1 (eL 1 eI) Dy⟩])]) (fun (BP:(List (List Int))) (p:Ex×St)=>p.1= .exit 2∧p.2.norm ([6],[6])=mk [(6,H 6 0)] [(6,Oc [⟨.dp 0,0,0,W 1 (eL 1 eI) BP⟩])]) hl (by kernel_rfl) ?_ ?_ ?_
  ·intro o p hp e
   exact nomatch (hp.1.symm.trans e)
  ·rintro ⟨jq,Dy⟩ o h
   unfold nY at h
   dsimp only at h
   refine gs<|g0 j j (sqn z49 j (oBi j j j j)<|nl)<|us<|gs<|gc h j ak (fun hc21 h=>?_) fun hc21 h=>?_
   ·refine Go.skip<|us<|gs<|Go.block<|gs<|g0 j j (sqn z49 j (oMv j j)<|sqn z49 j (ah j j)<|nl)<|us<|gs<|g0 j j (sqn z49 j (oLd (cs:=[.own 3 0 0]) j Ji j j)<|sqn z49 j (Hu j j WS j j j (fun e=>nomatch e))<|sqn z49 j (oMv j j)<|nl)<|us<|Go.block<|?_
    obtain ⟨o,hl,h⟩:=bs h
    refine gl c49 j _ (fun (s:(Int×(List (List Int))))=>match s with | (jD,kT)=>mk [(3,M 3),(6,H 6 0),(7,iv jq),(28,iv (bu.length:Int)),(29,iv jq),(33,iv (bu.length:Int)),(34,iv jD)] [(3,Ob [Z (W 1 (eL 2 di) bu)]),(6,Oc [⟨.dp 0,0,0,W 1 (eL 1 eI) kT⟩])]) (fun (zB:(List (List Int))) (p:Ex×St)=>p.1= .exit 4∧p.2.norm ([3,6,28,29],[3,6])=mk [(3,M 3),(6,H 6 0),(28,iv (bu.length:Int)),(29,iv jq)] [(3,Ob [Z (W 1 (eL 2 di) bu)]),(6,Oc [⟨.dp 0,0,0,W 1 (eL 1 eI) zB⟩])]) hl (by kernel_rfl) ?_ ?_ ?_
    ·intro o p hp e
     exact nomatch (hp.1.symm.trans e)
    ·rintro ⟨jD,kT⟩ o h
     unfold mJ at h
     dsimp only at h
     refine gs<|g0 j j (sqn z49 j (oBi j j j j)<|nl)<|us<|gs<|gc h j ak (fun jv h=>?_) fun jv h=>?_
     ·refine Go.skip<|us<|gs<|Go.join (fun st=>∃AA,mG jD AA=some o∧st.norm ([3,6,7,28,29,33,34],[3,6])=mk [(3,M 3),(6,H 6 0),(7,iv jq),(28,iv (bu.length:Int)),(29,iv jq),(33,iv (bu.length:Int)),(34,iv jD)] [(3,Ob [Z (W 1 (eL 2 di) bu)]),(6,Oc [⟨.dp 0,0,0,W 1 (eL 1 eI) AA⟩])]) ?_ ?_
      ·rintro st ⟨AA,h,hst⟩
       unfold mG at h
       refine us<|g2 c49 j j hst (sqn z49 j (oBi j j j j)<|sqn z49 j (oMv j j)<|nl)<|Unw.nil<|?_
       cases h
       exact ⟨j,(by kernel_rfl)⟩
      ·intro K34
       refine Go.block<|gs<|g0 j j (sqn z49 j (oMv j j)<|sqn z49 j (oAl j tF3 (tkI tk0))<|sq0 (oSt tF3 j j j (tkI tk0) j j j)<|nl)<|us<|gs<|?_
       obtain ⟨Ns,F7,h⟩:=bs h
       refine gX c49 j j (st1:=mk [(3,M 3),(6,H 6 0),(7,iv jq),(8,M 8),(28,iv (bu.length:Int)),(29,iv jq),(33,iv (bu.length:Int)),(34,iv jD)] [(3,Ob [Z (W 1 (eL 2 di) bu)]),(6,Oc [⟨.dp 0,0,0,W 1 (eL 1 eI) kT⟩]),(8,Ob [C (I jD)])]) (by kernel_rfl) (mk [(3,M 3),(6,H 6 0),(7,iv jq),(8,M 8),(28,iv (bu.length:Int)),(29,iv jq),(33,iv (bu.length:Int)),(34,iv jD),(47,bv Ns)] [(3,Ob [Z (W 1 (eL 2 di) bu)]),(6,Oc [⟨.dp 0,0,0,W 1 (eL 1 eI) kT⟩]),(8,Ob [C (I jD)])]) ?_ ?_
       ·refine Jc z49 j (oMv j j)<|Jc z49 j (oLd (cs:=[.im 0 _]) j tF3 j j)<|Jc z49 j (oBi j j j j)<|Jc z49 j (oMv j j)<|?_
        refine ic F7 (fun rZ F7=>?_) fun rZ F7=>?_
        ·obtain ⟨x43,FW,F7⟩:=bs F7
         obtain ⟨x46,UR,F7⟩:=bs F7
         cases F7
         exact FI z49 j j j (iNe.2 rZ) (oLd (cs:=[.own 3 0 0]) j Ji j j)<|FI z49 j j j (iNe.2 rZ) (oMv j j)<|FI z49 j j j (iNe.2 rZ) (xN j FW Tz j j j j)<|FI z49 j j j (iNe.2 rZ) (C9 (cs:=[.im 0 _]) j adm j j j j (jH FW) j j)<|FI z49 j j j (iNe.2 rZ) (oMF (rs:=[.mp 3 0 0,.mp 8 0 0]) j j)<|FI z49 j j j (iNe.2 rZ) (oCa (xs:=[.v false [.im 0 _],.fn 101 [.mp 3 0 0,.mp 8 0 0]]) (vs:=[(false,[.im 0 _])]) (v:=.v false [.im 0 _]) (rH UR) (.inl j) j Ot j (ppC j (ppC j pp0)) j j pb0 j j j)<|Jc z49 j (bQ j j (iNe.2 rZ) j)<|xn
        ·cases F7
         exact au j j (byF iNe rZ) j<|au j j (byF iNe rZ) j<|au j j (byF iNe rZ) j<|au j j (byF iNe rZ) j<|au j j (byF iNe rZ) j<|au j j (byF iNe rZ) j<|Jc z49 j (bV j j (byF iNe rZ) j)<|xn
       ·refine us<|gc h j iR (fun Bl h=>?_) fun Bl h=>?_
        ·obtain ⟨x52,ZR,h⟩:=bs h
         obtain ⟨x56,ZU,h⟩:=bs h
         obtain ⟨x57,NH,h⟩:=bs h
         exact gd c49 j j j j (mk [(3,M 3),(6,H 6 0),(7,iv jq),(28,iv (bu.length:Int)),(29,iv jq),(33,iv (bu.length:Int)),(34,iv jD)] [(3,Ob [Z (W 1 (eL 2 di) bu)]),(6,Oc [⟨.dp 0,0,0,W 1 (eL 1 eI) (kT.set jq.toNat x56)⟩])]) (sT j (dNn z49 j j (oMv j j))<|sT j (dNn z49 j j (oMv j j))<|sT j (dNn z49 j j (oMv j j))<|sT j (dNn z49 j j (oMv j j))<|sT j (dNn z49 j j (oLd (cs:=[.im 0 _]) j tF3 j j))<|sK (O:=[6]) j j j (dNn z49 j j (afa j ZR JQ j j j j (fun e=>nomatch e)))<|sK (O:=[6]) j j j (dNn z49 j j (ag8 (cs:=[.inr 6 0 0 _ 0 0]) j oz j j j (jH ZR) j j))<|sS (dNn z49 j j (oBS (es:=List.map eI ([jD]:List Int)) j eX j (ptC j (fxI fx0) j pt0) (dn j fun _=>j))) (kY ⟨j,trivial⟩ (kY ⟨j,trivial⟩ trivial)) (sS (dNn z49 j j (ag9 (en:=eI) (M:=([jD]:List Int)) j ZU j eX j j uG (.inl ⟨_,j⟩) j j j (jH ZR) j j (kG j j) (dn j fun _=>j))) (kN j (kN j trivial)) (sT j (dNn z49 j j (afa j NH JQ j j j j (fun e=>nomatch e)))<|sS (dN0 j (ag7 (v':=x56) oz j j j j (tkO j j tk0) j j (jH NH) j)) (kN j (kN j trivial)) (sD (by kernel_rfl)))))<|Unw.blk<|K34 _ ⟨(kT.set jq.toNat x56),h,(by kernel_rfl)⟩
        ·exact Go.skip<|Unw.blk<|K34 _ ⟨kT,h,(by kernel_rfl)⟩
     ·refine Go.exit<|ux<|Unw.nil<|?_
      cases h
      exact ⟨j,(by kernel_rfl)⟩
    ·rintro ⟨e,st⟩ hp
     obtain ⟨zB,rfl⟩:∃y,y=o:=⟨o,rfl⟩
     obtain ⟨he,hst⟩:=hp
     obtain rfl:e= .exit 4:=he
     refine Unw.lq<|Unw.blk<|us<|g2 c49 j j hst (sqn z49 j (oBi j j j j)<|sqn z49 j (oMv j j)<|nl)<|Unw.nil<|?_
     cases h
     exact ⟨j,(by kernel_rfl)⟩
   ·refine Go.exit<|ux<|Unw.nil<|?_
    cases h
    exact ⟨j,(by kernel_rfl)⟩
  ·rintro ⟨e,st⟩ hp
   obtain ⟨BP,rfl⟩:∃y,y=o:=⟨o,rfl⟩
   obtain ⟨he,hst⟩:=hp
   obtain rfl:e= .exit 2:=he
   refine Unw.lq<|us<|gs<|g2 c49 j j hst (sqn z49 j (oMv j j)<|sqf z49 j (ae9 j j j j j) (ag6 j j j)<|nl)<|us<|Go.ret (Unw.ret ?_)
   cases h
   exact fr ahz j
theorem Jn {a_0:Int} {b_1:Int} {r:(Int×Int)} (h:uV a_0 b_1=some r):FX 121 [.im 2 false [I a_0],.im 2 false [I b_1]] (B0 [(false,[.im 0 (I r.1)]),(false,[.im 0 (I r.2)])]):=by
 unfold uV at h
 refine gn 26 Try.func121 rfl ?_
 refine gs<|g0 j j (q (ah j j)<|q (ah j j)<|nl)<|us<|gs<|gs<|?_
 obtain ⟨x8,hx8,h⟩:=bs h
 obtain ⟨qL,hm3,h⟩:=bs h
 refine gX afi j j j (mk [(0,iv a_0),(1,iv b_1),(14,bv qL)] []) ?_ ?_
 ·refine xq (oMv j j)<|xq (oCa (xs:=[.v false [.im 2 _],.v false [.im 0 _],.v false [.im 0 _]]) (vs:=[(false,[.im 0 _])]) (v:=.v false [.im 0 _]) (dD hx8) (.inl j) j fO j (ppC j (ppC j (ppC j pp0))) j j pb0 j j j)<|xq (oUn j j j)<|xq (oMv j j)<|?_
  refine ic hm3 (fun hc1 hm3=>?_) fun hc1 hm3=>?_
  ·obtain ⟨x12,Es,hm3⟩:=bs hm3
   cases hm3
   exact xqT j j (nF (iR.2 hc1)) (oMv j j)<|xqT j j (nF (iR.2 hc1)) (oCa (xs:=[.v false [.im 2 _],.v false [.im 0 _],.v false [.im 0 _]]) (vs:=[(false,[.im 0 _])]) (v:=.v false [.im 0 _]) (dD Es) (.inl j) j fO j (ppC j (ppC j (ppC j pp0))) j j pb0 j j j)<|xqT j j (nF (iR.2 hc1)) (oUn j j j)<|xq (bV j j (nF (iR.2 hc1)) j)<|xn
  ·cases hm3
   exact au j j (nT (byF iR hc1)) j<|au j j (nT (byF iR hc1)) j<|au j j (nT (byF iR hc1)) j<|xq (bQ j j (nT (byF iR hc1)) j)<|xn
 ·refine us<|gc h j iR (fun hc2 h=>?_) fun hc2 h=>?_
  ·refine gs<|g0 j j (q (ah j j)<|q (ah j j)<|nl)<|us<|Go.ret (Unw.ret ?_)
   cases h
   exact fr ac6 j
  ·refine Go.skip<|us<|gs<|g0 j j (q (oMv j j)<|q (oMv j j)<|q (oBi j j j j)<|q (oMv j j)<|q (oMv j j)<|q (oBi j j j j)<|q (Zc j j)<|q (ah j j)<|nl)<|us<|gs<|g0 j j (q (oMv j j)<|q (oMv j j)<|q (oBi j j j j)<|q (aa0 j j)<|q (ah j j)<|q (ah j j)<|nl)<|us<|Go.ret (Unw.ret ?_)
   cases h
   exact fr ac6 j
theorem Lc {a_0:aF} {b_1:aF} {r:Int} (h:uO a_0 b_1=some r):FX 67 [.im 2 true (ou a_0),.im 2 true (ou b_1)] (B0 [(false,[.im 0 (I r)])]):=by
 unfold uO at h
 refine gn 29 Try.func67 rfl ?_
 refine gs<|g0 j j (q (oBx j zG j (tkI (tkI (tkI tk0))))<|q (oBx j zG j (tkI (tkI (tkI tk0))))<|q (ah j j)<|nl)<|us<|gs<|?_
 obtain ⟨x12,Es,h⟩:=bs h
 refine g0 j j (q (oFA (r':=.mp 2 0 2) j H8 j j)<|q (oLd (cs:=[.im 0 _]) j tF2 j j)<|q (oFA (r':=.mp 3 0 2) j H8 j j)<|q (oLd (cs:=[.im 0 _]) j tF2 j j)<|q (oCa (xs:=[.v false [.im 0 _],.v false [.im 0 _]]) (vs:=[(false,[.im 0 _]),(false,[.im 0 _])]) (v:=.tup [(false,[.im 0 _]),(false,[.im 0 _])]) (Jn Es) (.inl j) j XN j (ppC j (ppC j pp0)) j j pb0 j j j)<|q (KL j j)<|q (oEx j j j)<|q (oEx j j j)<|q (ah j j)<|q (ah j j)<|nl)<|us<|gs<|?_
 obtain ⟨x27,hx27,h⟩:=bs h
 refine g0 j j (q (oFA (r':=.mp 2 0 1) j y7 j j)<|q (oLd (cs:=[.im 0 _]) j tF2 j j)<|q (oFA (r':=.mp 3 0 1) j y7 j j)<|q (oLd (cs:=[.im 0 _]) j tF2 j j)<|q (oBi j j j j)<|q (oFA (r':=.mp 3 0 1) j y7 j j)<|q (oLd (cs:=[.im 0 _]) j tF2 j j)<|q (oFA (r':=.mp 2 0 1) j y7 j j)<|q (oLd (cs:=[.im 0 _]) j tF2 j j)<|q (oBi j j j j)<|q (Zc j j)<|q (oMv j j)<|q (adT j hx27 j j)<|q (oBi j j j j)<|q (ah j j)<|nl)<|us<|Go.ret (Unw.ret ?_)
 cases h
 exact fr ahG j
theorem xH {aO:(List aF)} {r:(List Int)} (h:kz aO=some r):FX 58 [.im 2 false [W 3 aA aO]] (B0 [(false,[.ow 0 1 (List.map eI r)])]):=by
 unfold kz at h
 refine gn 48 Try.func58 rfl ?_
 refine gs<|g0 j j (q (Cc j j QM)<|nl)<|us<|gs<|g0 j j (q (oBS (es:=List.map eI ([]:List Int)) j eX j pt0 (dn j fun _=>j))<|q (oZ j j j j j)<|nl)<|us<|gs<|gs<|g0 j j (q (oMv j j)<|q (jd j j Jj j)<|q (oMv j j)<|nl)<|us<|Go.block<|?_
 obtain ⟨o,hl,h⟩:=bs h
 refine gl c58 j _ (fun (s:(Int×(List Int)))=>match s with | (fQ,dG)=>mk [(0,D 2 (W 3 aA aO)),(3,H 3 0),(11,iv (aO.length:Int)),(12,iv fQ)] [(3,Oc [Z (W 1 eI dG)])]) (fun (eP:(List Int)) (p:Ex×St)=>p.1= .exit 0∧p.2.norm ([3],[3])=mk [(3,H 3 0)] [(3,Oc [Z (W 1 eI eP)])]) hl (by kernel_rfl) ?_ ?_ ?_
 ·intro o p hp e
  exact nomatch (hp.1.symm.trans e)
 ·rintro ⟨fQ,dG⟩ o h
  unfold jT at h
  dsimp only at h
  refine gs<|g0 j j (q (oBi j j j j)<|nl)<|us<|gs<|gc h j ak (fun yc h=>?_) fun yc h=>?_
  ·refine Go.skip<|us<|gs<|Go.block<|gs<|g0 j j (q (oMv j j)<|q (ah j j)<|nl)<|us<|gs<|g0 j j (q (ah j j)<|nl)<|us<|gs<|gs<|g0 j j (q (oMv j j)<|q (jd j j Jj j)<|q (oMv j j)<|nl)<|us<|Go.block<|?_
   obtain ⟨o,hl,h⟩:=bs h
   refine gl c58 j _ (fun (s:(Int×Int))=>match s with | (ig,lV)=>mk [(0,D 2 (W 3 aA aO)),(3,H 3 0),(4,iv fQ),(5,iv ig),(11,iv (aO.length:Int)),(12,iv fQ),(15,D 2 (W 3 aA aO)),(16,iv (aO.length:Int)),(17,iv lV)] [(3,Oc [Z (W 1 eI dG)])]) (fun (uq:Int) (p:Ex×St)=>p.1= .exit 2∧p.2.norm ([0,3,5,11,12],[3])=mk [(0,D 2 (W 3 aA aO)),(3,H 3 0),(5,iv uq),(11,iv (aO.length:Int)),(12,iv fQ)] [(3,Oc [Z (W 1 eI dG)])]) hl (by kernel_rfl) ?_ ?_ ?_
   ·intro o p hp e
    exact nomatch (hp.1.symm.trans e)
   ·rintro ⟨ig,lV⟩ o h
    unfold jS at h
    dsimp only at h
    refine gs<|g0 j j (q (oBi j j j j)<|nl)<|us<|gs<|gc h j ak (fun hc22 h=>?_) fun hc22 h=>?_
    ·refine Go.skip<|us<|gs<|Go.join (fun st=>∃yP,jE lV yP=some o∧st.norm ([0,3,4,5,11,12,15,16,17],[3])=mk [(0,D 2 (W 3 aA aO)),(3,H 3 0),(4,iv fQ),(5,iv yP),(11,iv (aO.length:Int)),(12,iv fQ),(15,D 2 (W 3 aA aO)),(16,iv (aO.length:Int)),(17,iv lV)] [(3,Oc [Z (W 1 eI dG)])]) ?_ ?_
     ·rintro st ⟨yP,h,hst⟩
      unfold jE at h
      refine us<|g2 c58 j j hst (q (oBi j j j j)<|q (oMv j j)<|nl)<|Unw.nil<|?_
      cases h
      exact ⟨j,(by kernel_rfl)⟩
     ·intro K25
      refine Go.block<|gs<|?_
      obtain ⟨x20,JX,h⟩:=bs h
      refine g0 j j (q (oMv j j)<|q (gZ j JX Q5 j j)<|q (oLd (cs:=[.im 2 _,.im 2 _,.im 2 _]) j zG j j)<|q (oAl j zG (tkI (tkI (tkI tk0))))<|q (ah j j)<|q (oSt zG j j j (tkI (tkI (tkI tk0))) j j j)<|nl)<|us<|gs<|?_
      obtain ⟨x29,hx29,h⟩:=bs h
      obtain ⟨x30,JS,h⟩:=bs h
      obtain ⟨x32,hx32,h⟩:=bs h
      refine gd c58 j j j (st1:=mk [(0,D 2 (W 3 aA aO)),(3,H 3 0),(4,iv fQ),(5,iv ig),(6,iv lV),(7,M 7),(11,iv (aO.length:Int)),(12,iv fQ),(15,D 2 (W 3 aA aO)),(16,iv (aO.length:Int)),(17,iv lV)] [(3,Oc [Z (W 1 eI dG)]),(7,Oa (G 0 (ou x20)))]) (by kernel_rfl) (mk [(0,D 2 (W 3 aA aO)),(3,H 3 0),(4,iv fQ),(5,iv ig),(8,iv x32),(11,iv (aO.length:Int)),(12,iv fQ),(15,D 2 (W 3 aA aO)),(16,iv (aO.length:Int)),(17,iv lV)] [(3,Oc [Z (W 1 eI dG)])]) (t j j (oLd (cs:=[.im 0 _,.im 0 _,.im 0 _]) j zG j j)<|t j j (oMv j j)<|t j j (oMv j j)<|t j j (oMv j j)<|t j j (oBi j j j j)<|t j j (oMv j j)<|t j j (jd j j Jj j)<|t j j (Ce j hx29 j j)<|t j j (gZ j JS Q5 j j)<|t j j (oLd (cs:=[.im 2 _,.im 2 _,.im 2 _]) j zG j j)<|sS (dN z58 j (oCa (xs:=[.v true [.im 0 _,.im 0 _,.im 0 _],.v true [.im 2 _,.im 2 _,.im 2 _]]) (vs:=[(false,[.im 0 _])]) (v:=.v false [.im 0 _]) (Lc hx32) (.inl j) j UG j (ppC j (ppC j pp0)) j j pb0 j j j)) trivial (sS (dN z58 j (ah j j)) trivial (sD (by kernel_rfl))))<|us<|gs<|gX c58 j j j (mk [(0,D 2 (W 3 aA aO)),(3,H 3 0),(4,iv fQ),(5,iv ig),(8,iv x32),(11,iv (aO.length:Int)),(12,iv fQ),(15,D 2 (W 3 aA aO)),(16,iv (aO.length:Int)),(17,iv lV),(39,bv ((decide (ig<0))||(decide (x32<ig))))] [(3,Oc [Z (W 1 eI dG)])]) ?_ ?_
      ·refine xq (oMv j j)<|xq (oBi j j j j)<|xq (oMv j j)<|?_
       by_cases DJ:ig<0
       ·exact au rfl rfl (ak.2 DJ) rfl<|au rfl rfl (ak.2 DJ) rfl<|au rfl rfl (ak.2 DJ) rfl<|xq (bQ rfl rfl (ak.2 DJ) rfl)<|xn (Eq.trans (b:=(fun Bv:Bool=>mk [(0,D 2 (W 3 aA aO)),(3,H 3 0),(4,iv fQ),(5,iv ig),(8,iv x32),(11,iv (aO.length:Int)),(12,iv fQ),(15,D 2 (W 3 aA aO)),(16,iv (aO.length:Int)),(17,iv lV),(39,bv Bv)] [(3,Oc [Z (W 1 eI dG)])]) true) (by kernel_rfl) (congrArg (fun Bv:Bool=>mk [(0,D 2 (W 3 aA aO)),(3,H 3 0),(4,iv fQ),(5,iv ig),(8,iv x32),(11,iv (aO.length:Int)),(12,iv fQ),(15,D 2 (W 3 aA aO)),(16,iv (aO.length:Int)),(17,iv lV),(39,bv Bv)] [(3,Oc [Z (W 1 eI dG)])]) (by first | rfl | (simp [(ak.2 DJ)];done) | (simp [(ak.2 DJ)];omega))))
       ·exact xqT rfl rfl (byF ak DJ) (oMv rfl rfl)<|xqT rfl rfl (byF ak DJ) (oMv rfl rfl)<|xqT rfl rfl (byF ak DJ) (oBi rfl rfl rfl rfl)<|xq (bV rfl rfl (byF ak DJ) rfl)<|xn (Eq.trans (b:=(fun Bv:Bool=>mk [(0,D 2 (W 3 aA aO)),(3,H 3 0),(4,iv fQ),(5,iv ig),(8,iv x32),(11,iv (aO.length:Int)),(12,iv fQ),(15,D 2 (W 3 aA aO)),(16,iv (aO.length:Int)),(17,iv lV),(39,bv Bv)] [(3,Oc [Z (W 1 eI dG)])]) (decide (x32<ig))) (by kernel_rfl) (congrArg (fun Bv:Bool=>mk [(0,D 2 (W 3 aA aO)),(3,H 3 0),(4,iv fQ),(5,iv ig),(8,iv x32),(11,iv (aO.length:Int)),(12,iv fQ),(15,D 2 (W 3 aA aO)),(16,iv (aO.length:Int)),(17,iv lV),(39,bv Bv)] [(3,Oc [Z (W 1 eI dG)])]) (by first | rfl | (simp [(byF ak DJ)];done) | (simp [(byF ak DJ)];omega))))
      ·refine us<|gc h j (iOr ak ak) (fun hc27 h=>?_) fun hc27 h=>?_
       ·exact g0 j j (q (oMv j j)<|q (ah j j)<|nl)<|Unw.blk<|K25 _ ⟨x32,h,(by kernel_rfl)⟩
       ·exact Go.skip<|Unw.blk<|K25 _ ⟨ig,h,(by kernel_rfl)⟩
    ·refine Go.exit<|ux<|Unw.nil<|?_
     cases h
     exact ⟨j,(by kernel_rfl)⟩
   ·rintro ⟨e,st⟩ hp
    obtain ⟨uq,rfl⟩:∃y,y=o:=⟨o,rfl⟩
    obtain ⟨he,hst⟩:=hp
    obtain rfl:e= .exit 2:=he
    refine Unw.lq<|us<|?_
    obtain ⟨x45,ZQ,h⟩:=bs h
    refine g2 c58 j j hst (q (oMv j j)<|q (oMv j j)<|q (oBS (es:=List.map eI ([uq]:List Int)) j eX j (ptC j (fxI fx0) j pt0) (dn j fun _=>j))<|q (xO (en:=eI) (M:=([uq]:List Int)) j ZQ j eX j j uG (.inl ⟨_,j⟩) j j j j (kG j j) (dn j fun _=>j))<|q (oZ j j j j j)<|nl)<|Unw.blk<|us<|g0 j j (q (oBi j j j j)<|q (oMv j j)<|nl)<|Unw.nil<|?_
    cases h
    exact ⟨j,(by kernel_rfl)⟩
  ·refine Go.exit<|ux<|Unw.nil<|?_
   cases h
   exact ⟨j,(by kernel_rfl)⟩
 ·rintro ⟨e,st⟩ hp
  obtain ⟨eP,rfl⟩:∃y,y=o:=⟨o,rfl⟩
  obtain ⟨he,hst⟩:=hp
  obtain rfl:e= .exit 0:=he
  refine Unw.lq<|us<|gs<|g2 c58 j j hst (q (oMv j j)<|q (oZ j j j j j)<|nl)<|us<|Go.ret (Unw.ret ?_)
  cases h
  exact fr ahC j
theorem CG {self:(aK×(List Int))→Option (Bool×aK)} (ih:∀{s_0:aK} {dh:(List Int)} {r:(Bool×aK)},self (s_0,dh)=some r→FX 109 [.ptr true [(.imm,W 1 (eL 1 eI) s_0.near),(.imm,W 1 eI s_0.bT),(.imm,I s_0.least),(.imm,I s_0.left),(.imm,I s_0.found),(.sh,W 1 eI s_0.first),(.imm,V s_0.one)],.mv 1 (List.map eI dh)] ([(false,[.im 0 (V r.1)])],[.ptr true [(.imm,W 1 (eL 1 eI) r.2.near),(.imm,W 1 eI r.2.bT),(.imm,I r.2.least),(.imm,I r.2.left),(.imm,I r.2.found),(.sh,W 1 eI r.2.first),(.imm,V r.2.one)]])) {s_0:aK} {dh:(List Int)} {r:(Bool×aK)} (h:bZ self s_0 dh=some r):FX 109 [.ptr true [(.imm,W 1 (eL 1 eI) s_0.near),(.imm,W 1 eI s_0.bT),(.imm,I s_0.least),(.imm,I s_0.left),(.imm,I s_0.found),(.sh,W 1 eI s_0.first),(.imm,V s_0.one)],.mv 1 (List.map eI dh)] ([(false,[.im 0 (V r.1)])],[.ptr true [(.imm,W 1 (eL 1 eI) r.2.near),(.imm,W 1 eI r.2.bT),(.imm,I r.2.least),(.imm,I r.2.left),(.imm,I r.2.found),(.sh,W 1 eI r.2.first),(.imm,V r.2.one)]]):=by
 unfold bZ at h
 refine sV (A:=[(0,M 0),(1,H 1 0)]) (B:=[(0,Od [Ct 1 (W 1 (eL 1 eI) s_0.near),Ct 1 (W 1 eI s_0.bT),C (I s_0.least),C (I s_0.left),C (I s_0.found),Z (W 1 eI s_0.first),C (V s_0.one)]),(1,Oc [Z (W 1 eI dh)])]) (nt:=114) rfl rfl Try.func109 rfl rfl rfl rfl ?_
 refine gs<|g0 j j (q (ah j j)<|nl)<|us<|gs<|g0 j j (q (oMv j j)<|q (oNl j j j)<|q (oFA (r':=.mp 0 0 3) j QT j j)<|q (oLd (cs:=[.im 0 _]) j tF2 j j)<|q (oBi j j j j)<|q (oNl j j j)<|q (oFA (r':=.mp 0 0 3) j QT j j)<|q (oSt tF2 j j j (tkI tk0) j j j)<|nl)<|us<|gs<|gs<|g1 j j (mk [(0,M 0),(1,H 1 0)] [(0,Od [Ct 1 (W 1 (eL 1 eI) s_0.near),Ct 1 (W 1 eI s_0.bT),C (I s_0.least),C (I (w64 (s_0.left - 1))),C (I s_0.found),Z (W 1 eI s_0.first),C (V s_0.one)]),(1,Oc [Z (W 1 eI dh)])]) (q (oMv j j)<|q (oNl j j j)<|q (oFA (r':=.mp 0 0 3) j QT j j)<|q (oLd (cs:=[.im 0 _]) j tF2 j j)<|q (oBi j j j j)<|nl)<|us<|gc h j ak (fun hc1 h=>?_) fun hc1 h=>?_
 ·refine gs<|g0 j j (q (ah j j)<|nl)<|us<|Go.ret (Unw.ret ?_)
  cases h
  exact fr WQ j
 ·refine Go.skip<|us<|gs<|gd c109 j j j j (mk [(0,M 0),(1,H 1 0),(5,iv (dh.length:Int)),(6,iv (s_0.bT.length:Int))] [(0,Od [Ct 1 (W 1 (eL 1 eI) s_0.near),Ct 1 (W 1 eI s_0.bT),C (I s_0.least),C (I (w64 (s_0.left - 1))),C (I s_0.found),Z (W 1 eI s_0.first),C (V s_0.one)]),(1,Oc [Z (W 1 eI dh)])]) (t j j (oMv j j)<|t j j (Hu j j uG j j j (fun e=>nomatch e))<|t j j (oMv j j)<|sK (O:=[0]) j j j (dN z109 j (oNl j j j))<|sK (O:=[0]) j j j (dN z109 j (oFA (r':=.mp 0 0 1) j Zq j j))<|sK (O:=[0]) j j j (dN z109 j (oLd (cs:=[.im 1 _]) j oz j j))<|t j j (jd j j uG j)<|sS (dN z109 j (ah j j)) (kY ⟨j,trivial⟩ (kY ⟨j,trivial⟩ (kY ⟨j,trivial⟩ trivial))) (sS (dN z109 j (ah j j)) (kN j (kN j (kN j trivial))) (sD (by kernel_rfl))))<|us<|gs<|gs<|g0 j j (q (oMv j j)<|q (oMv j j)<|q (oNl j j j)<|q (oFA (r':=.mp 0 0 0) j Zp j j)<|q (oLd (cs:=[.im 1 _]) j ZM j j)<|q (jd j j acu j)<|q (oBi j j j j)<|nl)<|us<|gc h j iEq (fun hc2 h=>?_) fun hc2 h=>?_
  ·refine gs<|gs<|g0 j j (q (oMv j j)<|q (oNl j j j)<|q (oFA (r':=.mp 0 0 4) j Nv j j)<|q (oLd (cs:=[.im 0 _]) j tF2 j j)<|q (oBi j j j j)<|nl)<|us<|Go.join (fun st=>∃zJ,eU self s_0 zJ=some r∧st.norm ([0],[0])=mk [(0,M 0)] [(0,Od [Ct 1 (W 1 (eL 1 eI) s_0.near),Ct 1 (W 1 eI s_0.bT),C (I s_0.least),C (I (w64 (s_0.left - 1))),C (I s_0.found),Z (W 1 eI zJ),C (V s_0.one)])]) ?_ ?_
   ·rintro st ⟨zJ,h,hst⟩
    unfold eU at h
    refine us<|gs<|g2 c109 j j hst (q (oMv j j)<|q (oNl j j j)<|q (oFA (r':=.mp 0 0 4) j Nv j j)<|q (oLd (cs:=[.im 0 _]) j tF2 j j)<|q (oBi j j j j)<|q (oNl j j j)<|q (oFA (r':=.mp 0 0 4) j Nv j j)<|q (oSt tF2 j j j (tkI tk0) j j j)<|nl)<|us<|gs<|g1 j j (mk [(0,M 0)] [(0,Od [Ct 1 (W 1 (eL 1 eI) s_0.near),Ct 1 (W 1 eI s_0.bT),C (I s_0.least),C (I (w64 (s_0.left - 1))),C (I (w64 (s_0.found+1))),Z (W 1 eI zJ),C (V s_0.one)])]) (q (oMv j j)<|q (oNl j j j)<|q (oFA (r':=.mp 0 0 6) j aeb j j)<|q (oLd (cs:=[.im 0 _]) j tF4 j j)<|q (ah j j)<|nl)<|us<|Go.ret (Unw.ret ?_)
    cases h
    exact fr WQ j
   ·intro K4
    refine gc h j iEq (fun hc5 h=>?_) fun hc5 h=>?_
    ·exact g0 j j (q (oMv j j)<|q (oMv j j)<|q (oNl j j j)<|q (oFA (r':=.mp 0 0 5) j Zr j j)<|q (oSt oz j j j (tkO j j tk0) j j j)<|nl)<|K4 _ ⟨dh,h,(by kernel_rfl)⟩
    ·exact Go.skip<|K4 _ ⟨s_0.first,h,(by kernel_rfl)⟩
  ·refine Go.skip<|us<|gs<|gs<|g0 j j (q (oMv j j)<|q (oMv j j)<|nl)<|us<|Go.block<|?_
   obtain ⟨o,hl,h⟩:=bs h
   refine gl c109 j _ (fun (s:(Int×(List (List Int))×(List Int)×Int×Int×Int×(List Int)×Bool))=>match s with | (kJ,og,kU,kV,o7,o8,o9,pg)=>mk [(0,M 0),(1,H 1 0),(5,iv (dh.length:Int)),(6,iv (s_0.bT.length:Int)),(57,iv (s_0.bT.length:Int)),(58,iv kJ)] [(0,Od [Ct 1 (W 1 (eL 1 eI) og),Ct 1 (W 1 eI kU),C (I kV),C (I o7),C (I o8),Z (W 1 eI o9),C (V pg)]),(1,Oc [Z (W 1 eI dh)])]) (fun (o:(((List (List Int))×(List Int)×Int×Int×Int×(List Int)×Bool) ⊕ (Bool×aK))) (p:Ex×St)=>match o with | (.inl (wO,wP,wQ,wR,wS,wU,wV))=>p.1= .exit 0∧p.2.norm ([],[0])=mk [] [(0,Od [Ct 1 (W 1 (eL 1 eI) wO),Ct 1 (W 1 eI wP),C (I wQ),C (I wR),C (I wS),Z (W 1 eI wU),C (V wV)])] | (.inr r2)=>p.1= .ret∧fin Try.prog cfg 109 Try.f109 [.ptr true [(.imm,W 1 (eL 1 eI) s_0.near),(.imm,W 1 eI s_0.bT),(.imm,I s_0.least),(.imm,I s_0.left),(.imm,I s_0.found),(.sh,W 1 eI s_0.first),(.imm,V s_0.one)],.mv 1 (List.map eI dh)] p.2=some ([(false,[.im 0 (V r2.1)])],[.ptr true [(.imm,W 1 (eL 1 eI) r2.2.near),(.imm,W 1 eI r2.2.bT),(.imm,I r2.2.least),(.imm,I r2.2.left),(.imm,I r2.2.found),(.sh,W 1 eI r2.2.first),(.imm,V r2.2.one)]])) hl (by kernel_rfl) ?_ ?_ ?_
   ·intro o p hp e
    rcases o with ⟨wO,wP,wQ,wR,wS,wU,wV⟩ | r2<;>exact nomatch (hp.1.symm.trans e)
   ·rintro ⟨kJ,og,kU,kV,o7,o8,o9,pg⟩ o h
    unfold aG at h
    dsimp only at h
    refine gs<|g0 j j (q (oBi j j j j)<|nl)<|us<|gs<|gc h j ak (fun hc28 h=>?_) fun hc28 h=>?_
    ·refine Go.skip<|us<|gs<|Go.block<|gs<|g0 j j (q (oMv j j)<|q (ah j j)<|nl)<|us<|gs<|g0 j j (q (ah j j)<|nl)<|us<|gs<|gs<|?_
     obtain ⟨x66,aes,h⟩:=bs h
     refine g0 j j (q (oMv j j)<|q (oNl j j j)<|q (oFA (r':=.mp 0 0 0) j Zp j j)<|q (oLd (cs:=[.im 1 _]) j ZM j j)<|q (oMv j j)<|q (gZ j aes JQ j j)<|q (oLd (cs:=[.im 1 _]) j oz j j)<|q (jd j j uG j)<|q (oMv j j)<|nl)<|us<|Go.block<|?_
     obtain ⟨o,hl,h⟩:=bs h
     refine gl c109 j _ (fun (s:(Bool×Int))=>match s with | (AB,AL)=>mk [(0,M 0),(1,H 1 0),(5,iv (dh.length:Int)),(6,iv (s_0.bT.length:Int)),(7,iv kJ),(8,bv AB),(57,iv (s_0.bT.length:Int)),(58,iv kJ),(67,D 1 (W 1 eI x66)),(68,iv (x66.length:Int)),(69,iv AL)] [(0,Od [Ct 1 (W 1 (eL 1 eI) og),Ct 1 (W 1 eI kU),C (I kV),C (I o7),C (I o8),Z (W 1 eI o9),C (V pg)]),(1,Oc [Z (W 1 eI dh)])]) (fun (zC:Bool) (p:Ex×St)=>p.1= .exit 2∧p.2.norm ([0,1,5,6,7,8,57,58],[0,1])=mk [(0,M 0),(1,H 1 0),(5,iv (dh.length:Int)),(6,iv (s_0.bT.length:Int)),(7,iv kJ),(8,bv zC),(57,iv (s_0.bT.length:Int)),(58,iv kJ)] [(0,Od [Ct 1 (W 1 (eL 1 eI) og),Ct 1 (W 1 eI kU),C (I kV),C (I o7),C (I o8),Z (W 1 eI o9),C (V pg)]),(1,Oc [Z (W 1 eI dh)])]) hl (by kernel_rfl) ?_ ?_ ?_
     ·intro o p hp e
      exact nomatch (hp.1.symm.trans e)
     ·rintro ⟨AB,AL⟩ o h
      unfold iy at h
      dsimp only at h
      refine gs<|g0 j j (q (oBi j j j j)<|nl)<|us<|gs<|gc h j ak (fun hc39 h=>?_) fun hc39 h=>?_
      ·refine Go.skip<|us<|gs<|Go.block<|gs<|?_
       obtain ⟨x71,aej,h⟩:=bs h
       refine g0 j j (q (gZ j aej eX j j)<|q (oLd (cs:=[.im 1 _]) j tF2 j j)<|q (ah j j)<|nl)<|us<|?_
       obtain ⟨H6,Il,h⟩:=bs h
       refine gd c109 j j j j (mk [(0,M 0),(1,H 1 0),(5,iv (dh.length:Int)),(6,iv (s_0.bT.length:Int)),(7,iv kJ),(8,bv H6),(57,iv (s_0.bT.length:Int)),(58,iv kJ),(67,D 1 (W 1 eI x66)),(68,iv (x66.length:Int)),(69,iv AL)] [(0,Od [Ct 1 (W 1 (eL 1 eI) og),Ct 1 (W 1 eI kU),C (I kV),C (I o7),C (I o8),Z (W 1 eI o9),C (V pg)]),(1,Oc [Z (W 1 eI dh)])]) ?_ ?_
       ·refine t j j (oMv j j)<|t j j (oMv j j)<|?_
        refine ic Il (fun rG Il=>?_) fun rG Il=>?_
        ·refine tT j j j j (iR.2 rG) (oMv j j)<|tT j j j j (iR.2 rG) (oMv j j)<|tT j j j j (iR.2 rG) (oBi j j j j)<|tT j j j j (iR.2 rG) (oMv j j)<|?_
         refine ic Il (fun jI Il=>?_) fun jI Il=>?_
         ·cases Il
          exact tF j j j j (ak.2 jI) j<|tF j j j j (ak.2 jI) j<|tF j j j j (ak.2 jI) j<|tF j j j j (ak.2 jI) j<|tF j j j j (ak.2 jI) j<|tF j j j j (ak.2 jI) j<|tF j j j j (ak.2 jI) j<|tF j j j j (ak.2 jI) j<|tF j j j j (ak.2 jI) j<|tF j j j j (ak.2 jI) j<|tF j j j j (ak.2 jI) j<|tF j j j j (ak.2 jI) j<|tF j j j j (ak.2 jI) j<|tF j j j j (ak.2 jI) j<|tF j j j j (ak.2 jI) j<|tF j j j j (ak.2 jI) j<|tF j j j j (ak.2 jI) j<|tF j j j j (ak.2 jI) j<|tF j j j j (ak.2 jI) j<|tF j j j j (ak.2 jI) j<|tF j j j j (ak.2 jI) j<|tT j j j j (iR.2 rG) (bQ j j (ak.2 jI) j)<|t j j (bQ j j (iR.2 rG) j)<|sS (dN z109 j (ah j j)) trivial (sD (by kernel_rfl))
         ·obtain ⟨x86,Q8,Il⟩:=bs Il
          obtain ⟨x92,aem,Il⟩:=bs Il
          obtain ⟨x93,hx93,Il⟩:=bs Il
          cases Il
          exact tT j j j j (byF ak jI) (oMv j j)<|tT j j j j (byF ak jI) (oNl j j j)<|tT j j j j (byF ak jI) (oFA (r':=.mp 0 0 1) j Zq j j)<|tT j j j j (byF ak jI) (oLd (cs:=[.im 1 _]) j oz j j)<|tT j j j j (byF ak jI) (oMv j j)<|tT j j j j (byF ak jI) (oMv j j)<|tT j j j j (byF ak jI) (oMv j j)<|tT j j j j (byF ak jI) (xN j Q8 eX j j j j)<|tT j j j j (byF ak jI) (C9 (cs:=[.im 0 _]) j tF2 j j j j (jH Q8) j j)<|tT j j j j (byF ak jI) (oBi j j j j)<|tT j j j j (byF ak jI) (oMv j j)<|tT j j j j (byF ak jI) (oBi j j j j)<|tT j j j j (byF ak jI) (oMv j j)<|tT j j j j (byF ak jI) (Ce j aem j j)<|tT j j j j (byF ak jI) (gZ j hx93 eX j j)<|tT j j j j (byF ak jI) (oLd (cs:=[.im 1 _]) j tF2 j j)<|tT j j j j (byF ak jI) (oMv j j)<|tT j j j j (byF ak jI) (oNl j j j)<|tT j j j j (byF ak jI) (oFA (r':=.mp 0 0 2) j aea j j)<|tT j j j j (byF ak jI) (oLd (cs:=[.im 0 _]) j tF2 j j)<|tT j j j j (byF ak jI) (oBi j j j j)<|tT j j j j (iR.2 rG) (bV j j (byF ak jI) j)<|t j j (bQ j j (iR.2 rG) j)<|sS (dN z109 j (ah j j)) trivial (sD (by kernel_rfl))
        ·cases Il
         exact tF j j j j (byF iR rG) j<|tF j j j j (byF iR rG) j<|tF j j j j (byF iR rG) j<|tF j j j j (byF iR rG) j<|sT j (dU j j j j)<|sT j (dU j j j j)<|sT j (dU j j j j)<|sT j (dU j j j j)<|sT j (dU j j j j)<|sT j (dU j j j j)<|sT j (dU j j j j)<|sT j (dU j j j j)<|sT j (dU j j j j)<|sT j (dU j j j j)<|sT j (dU j j j j)<|sT j (dU j j j j)<|sT j (dU j j j j)<|sT j (dU j j j j)<|sT j (dU j j j j)<|sT j (dU j j j j)<|sT j (dU j j j j)<|sT j (dU j j j j)<|sT j (dU j j j j)<|sT j (dU j j j j)<|sT j (dU j j j j)<|tF j j j j (byF iR rG) j<|t j j (bV j j (byF iR rG) j)<|sS (dN z109 j (ah j j)) trivial (sD (by kernel_rfl))
       ·refine Unw.blk<|us<|g0 j j (q (oBi j j j j)<|q (oMv j j)<|nl)<|Unw.nil<|?_
        cases h
        exact ⟨j,(by kernel_rfl)⟩
      ·refine Go.exit<|ux<|Unw.nil<|?_
       cases h
       exact ⟨j,(by kernel_rfl)⟩
     ·rintro ⟨e,st⟩ hp
      obtain ⟨zC,rfl⟩:∃y,y=o:=⟨o,rfl⟩
      obtain ⟨he,hst⟩:=hp
      obtain rfl:e= .exit 2:=he
      refine Unw.lq<|us<|gs<|?_
      obtain ⟨⟨JI,Ee,Ef,Eg,Eh,Ei,Ej,Em⟩,Bo,h⟩:=bs h
      dsimp only at h
      refine gX c109 j j hst (mk [(0,M 0),(1,H 1 0),(5,iv (dh.length:Int)),(6,iv (s_0.bT.length:Int)),(57,iv (s_0.bT.length:Int)),(58,iv kJ),(112,bv JI)] [(0,Od [Ct 1 (W 1 (eL 1 eI) Ee),Ct 1 (W 1 eI Ef),C (I Eg),C (I Eh),C (I Ei),Z (W 1 eI Ej),C (V Em)]),(1,Oc [Z (W 1 eI dh)])]) ?_ ?_
      ·refine xq (oMv j j)<|xq (oMv j j)<|?_
       refine ic Bo (fun Bl Bo=>?_) fun Bl Bo=>?_
       ·obtain ⟨x107,PD,Bo⟩:=bs Bo
        obtain ⟨Zj,TC,Bo⟩:=bs Bo
        obtain ⟨yX,TD,Bo⟩:=bs Bo
        cases Bo
        exact xqT j j (iR.2 Bl) (oMv j j)<|xqT j j (iR.2 Bl) (oMv j j)<|xqT j j (iR.2 Bl) (oCr (xs:=[.v false [.own 1 0 0]]) (vs:=[(false,[.own 107 0 0])]) (v:=.v false [.own 107 0 0]) (c:=⟨.sh,0,_⟩) (cs:=[]) (XK (en:=eI) (L:=dh) j PD (fun _=>j)) (.inl j) j Zx j (ppC j pp0) j j pb0 j j j)<|xqT j j (iR.2 Bl) (oMv j j)<|xqT j j (iR.2 Bl) (oBS (es:=List.map eI ([kJ]:List Int)) j eX j (ptC j (fxI fx0) j pt0) (dn j fun _=>j))<|xqT j j (iR.2 Bl) (xO (en:=eI) (M:=([kJ]:List Int)) j TC j eX j j uG (.inl ⟨_,j⟩) j j j j (kG j j) (dn j fun _=>j))<|xqT j j (iR.2 Bl) (oCa (xs:=[.v false [.mp 0 0 0],.v false [.own 110 0 0]]) (vs:=[(false,[.im 0 _])]) (v:=.v false [.im 0 _]) (ih TD) (.inl j) j KG j (aa4 (ob':=⟨0,0,true,true,false,true,[Ct 1 (W 1 (eL 1 eI) og),Ct 1 (W 1 eI kU),C (I kV),C (I o7),C (I o8),Z (W 1 eI o9),C (V pg)]⟩) j j j (by kernel_rfl) (ppM (Ja j j) pp0)) j j (aa5 (ob':=⟨0,1,true,true,false,true,[⟨.imm,1,1,W 1 (eL 1 eI) yX.2.near⟩,⟨.imm,1,1,W 1 eI yX.2.bT⟩,⟨.imm,1,0,I yX.2.least⟩,⟨.imm,1,0,I yX.2.left⟩,⟨.imm,1,0,I yX.2.found⟩,⟨.sh,1,0,W 1 eI yX.2.first⟩,⟨.imm,1,0,V yX.2.one⟩]⟩) j j (by kernel_rfl) pb0) j j j)<|xq (bQ j j (iR.2 Bl) j)<|xn
       ·cases Bo
        exact au j j (byF iR Bl) j<|au j j (byF iR Bl) j<|au j j (byF iR Bl) j<|au j j (byF iR Bl) j<|au j j (byF iR Bl) j<|au j j (byF iR Bl) j<|au j j (byF iR Bl) j<|xq (bV j j (byF iR Bl) j)<|xn
      ·refine us<|gc h j iR (fun ah0 h=>?_) fun ah0 h=>?_
       ·refine gs<|g0 j j (q (ah j j)<|nl)<|us<|Go.ret (Unw.ret ?_)
        cases h
        exact ⟨j,(fo WQ j)⟩
       ·refine Go.skip<|Unw.blk<|us<|g0 j j (q (oBi j j j j)<|q (oMv j j)<|nl)<|Unw.nil<|?_
        cases h
        exact ⟨j,(by kernel_rfl)⟩
    ·refine Go.exit<|ux<|Unw.nil<|?_
     cases h
     exact ⟨j,(by kernel_rfl)⟩
   ·rintro ⟨e,st⟩ hp
    rcases o with ⟨wO,wP,wQ,wR,wS,wU,wV⟩ | r2
    ·dsimp only at h
     obtain ⟨he,hst⟩:=hp
     obtain rfl:e= .exit 0:=he
     refine Unw.lq<|us<|gs<|g2 c109 j j hst (q (ah j j)<|nl)<|us<|Go.ret (Unw.ret ?_)
     cases h
     exact fr WQ j
    ·dsimp only at h
     obtain ⟨he,hfin⟩:=hp
     obtain rfl:e= .ret:=he
     cases h
     exact Unw.ret (jl hfin)
theorem Ey {s_0:aK} {dh:(List Int)} {r:(Bool×aK)} (h:bC s_0 dh=some r):FX 109 [.ptr true [(.imm,W 1 (eL 1 eI) s_0.near),(.imm,W 1 eI s_0.bT),(.imm,I s_0.least),(.imm,I s_0.left),(.imm,I s_0.found),(.sh,W 1 eI s_0.first),(.imm,V s_0.one)],.mv 1 (List.map eI dh)] ([(false,[.im 0 (V r.1)])],[.ptr true [(.imm,W 1 (eL 1 eI) r.2.near),(.imm,W 1 eI r.2.bT),(.imm,I r.2.least),(.imm,I r.2.left),(.imm,I r.2.found),(.sh,W 1 eI r.2.first),(.imm,V r.2.one)]]):=by
 unfold bC at h
 obtain ⟨n,hn⟩:=CZ h
 clear h
 induction n generalizing s_0 dh r with
 | zero=>cases hn
 | succ n ihn=>exact CG (self:=yK _ n) (fun h=>ihn h) hn
theorem zi {d_0:aB} {cO:(List aF)} {fF:Int} {dI:Int} {KF:Bool} {r:((Option aK)×Int)} (h:je d_0 cO fF dI KF=some r):FX 54 [.im 2 true (aJ d_0),.im 2 false [W 3 aA cO],.im 2 false [I fF],.im 2 false [I dI],.im 2 false [V KF]] (B0 [(false,[.im 0 (eO rF r.1)]),(false,[.im 0 (I r.2)])]):=by
 unfold je at h
 refine gn 48 Try.func54 rfl ?_
 refine gs<|g0 j j (q (oBx j jX j (tkI (tkI (tkI (tkI tk0)))))<|q (ah j j)<|q (ah j j)<|nl)<|us<|gs<|Go.block<|gs<|?_
 obtain ⟨x15,NF,h⟩:=bs h
 obtain ⟨QC,hm7,h⟩:=bs h
 refine gX c54 j j j (mk [(1,D 2 (W 3 aA cO)),(2,iv fF),(3,iv dI),(4,bv KF),(5,M 5),(13,bv QC)] [(5,Oa (G 2 (aJ d_0)))]) ?_ ?_
 ·refine xq (oLd (cs:=[.im 0 _,.im 0 _,.im 2 _,.im 2 _]) j jX j j)<|xq (oCa (xs:=[.v true [.im 0 _,.im 0 _,.im 2 _,.im 2 _]]) (vs:=[(false,[.im 0 _])]) (v:=.v false [.im 0 _]) (zh NF) (.inl j) j WL j (ppC j pp0) j j pb0 j j j)<|xq (oUn j j j)<|xq (oMv j j)<|?_
  refine ic hm7 (fun hc1 hm7=>?_) fun hc1 hm7=>?_
  ·obtain ⟨x19,Cm,hm7⟩:=bs hm7
   cases hm7
   exact xqT j j (nF (iR.2 hc1)) (oMv j j)<|xqT j j (nF (iR.2 hc1)) (oCa (xs:=[.v false [.im 2 _]]) (vs:=[(false,[.im 0 _])]) (v:=.v false [.im 0 _]) (Bq Cm) (.inl j) j Tq j (ppC j pp0) j j pb0 j j j)<|xqT j j (nF (iR.2 hc1)) (oUn j j j)<|xq (bV j j (nF (iR.2 hc1)) j)<|xq (ah j j)<|xn
  ·cases hm7
   exact au j j (nT (byF iR hc1)) j<|au j j (nT (byF iR hc1)) j<|au j j (nT (byF iR hc1)) j<|xq (bQ j j (nT (byF iR hc1)) j)<|xq (ah j j)<|xn
 ·refine us<|gc h j iR (fun hc2 h=>?_) fun hc2 h=>?_
  ·refine gs<|g0 j j (q (ah j j)<|q (ah j j)<|nl)<|us<|Go.ret (Unw.ret ?_)
   cases h
   exact fr aco j
  ·refine gs<|?_
   obtain ⟨x24,hx24,h⟩:=bs h
   obtain ⟨QD,hm6,h⟩:=bs h
   refine gX c54 j j j (mk [(1,D 2 (W 3 aA cO)),(2,iv fF),(3,iv dI),(4,bv KF),(5,M 5),(22,bv QD)] [(5,Oa (G 2 (aJ d_0)))]) ?_ ?_
   ·refine xq (oMv j j)<|xq (oCa (xs:=[.v false [.im 0 _],.v false [.im 0 _],.v false [.im 0 _]]) (vs:=[(false,[.im 0 _])]) (v:=.v false [.im 0 _]) (dD hx24) (.inl j) j fO j (ppC j (ppC j (ppC j pp0))) j j pb0 j j j)<|xq (oUn j j j)<|xq (oMv j j)<|?_
    refine ic hm6 (fun hc3 hm6=>?_) fun hc3 hm6=>?_
    ·obtain ⟨x28,hx28,hm6⟩:=bs hm6
     cases hm6
     exact xqT j j (nF (iR.2 hc3)) (oMv j j)<|xqT j j (nF (iR.2 hc3)) (oCa (xs:=[.v false [.im 0 _],.v false [.im 0 _],.v false [.im 0 _]]) (vs:=[(false,[.im 0 _])]) (v:=.v false [.im 0 _]) (dD hx28) (.inl j) j fO j (ppC j (ppC j (ppC j pp0))) j j pb0 j j j)<|xqT j j (nF (iR.2 hc3)) (oUn j j j)<|xq (bV j j (nF (iR.2 hc3)) j)<|xq (ah j j)<|xn
    ·cases hm6
     exact au j j (nT (byF iR hc3)) j<|au j j (nT (byF iR hc3)) j<|au j j (nT (byF iR hc3)) j<|xq (bQ j j (nT (byF iR hc3)) j)<|xq (ah j j)<|xn
   ·refine us<|gc h j iR (fun hc4 h=>?_) fun hc4 h=>?_
    ·refine gs<|g0 j j (q (ah j j)<|q (ah j j)<|nl)<|us<|Go.ret (Unw.ret ?_)
     cases h
     exact fr aco j
    ·refine Go.skip<|Unw.blk<|us<|gs<|?_
     obtain ⟨x32,hx32,h⟩:=bs h
     obtain ⟨x34,hx34,h⟩:=bs h
     refine g0 j j (q (oLd (cs:=[.im 0 _,.im 0 _,.im 2 _,.im 2 _]) j jX j j)<|q (oCa (xs:=[.v true [.im 0 _,.im 0 _,.im 2 _,.im 2 _]]) (vs:=[(false,[.im 0 _])]) (v:=.v false [.im 0 _]) (BX hx32) (.inl j) j WM j (ppC j pp0) j j pb0 j j j)<|q (oMv j j)<|q (oCr (xs:=[.v false [.im 2 _]]) (vs:=[(false,[.own 34 0 0])]) (v:=.v false [.own 34 0 0]) (c:=⟨.sh,0,_⟩) (cs:=[]) (xH hx34) (.inl j) j WO j (ppC j pp0) j j pb0 j j j)<|q (oMv j j)<|q (oMv j j)<|q (oMv j j)<|q (oBu (cs:=[.im 0 _,.own 34 0 0,.im 0 _,.im 0 _,.im 0 _,.nil,.im 0 _]) j ahs j)<|q (oBx j ahP j (tkI (tkO j j (tkI (tkI (tkI (tkN (tkI tk0))))))))<|q (Um j j)<|nl)<|us<|gs<|?_
     obtain ⟨x41,Q9,h⟩:=bs h
     refine g1 j j (mk [(12,M 39)] [(39,Oa [C (W 1 (eL 1 eI) x32),Z (W 1 eI x34),C (I fF),C (I dI),C (I 0),Z (W 1 eI ([]:List Int)),C (V KF)])]) (q (oMv j j)<|q (oCa (xs:=[.v false [.mp 39 0 0],.v false [.nil]]) (vs:=[(false,[.im 0 _])]) (v:=.v false [.im 0 _]) (Ey Q9) (.inl j) j KG j (aa4 (ob':=⟨0,0,false,true,false,true,[C (W 1 (eL 1 eI) x32),C (W 1 eI x34),C (I fF),C (I dI),C (I 0),Z (W 1 eI ([]:List Int)),C (V KF)]⟩) j j j (by kernel_rfl) (ppM take_nil pp0)) j j (aa5 (ob':=⟨0,1,false,true,false,true,[⟨.imm,1,0,W 1 (eL 1 eI) x41.2.near⟩,⟨.imm,1,0,W 1 eI x41.2.bT⟩,⟨.imm,1,0,I x41.2.least⟩,⟨.imm,1,0,I x41.2.left⟩,⟨.imm,1,0,I x41.2.found⟩,⟨.sh,1,0,W 1 eI x41.2.first⟩,⟨.imm,1,0,V x41.2.one⟩]⟩) j j (by kernel_rfl) pb0) j j j)<|nl)<|us<|gs<|gs<|g1 j j (mk [(12,M 39)] [(39,Oa [C (W 1 (eL 1 eI) x41.2.near),C (W 1 eI x41.2.bT),C (I x41.2.least),C (I x41.2.left),C (I x41.2.found),Z (W 1 eI x41.2.first),C (V x41.2.one)])]) (q (oMv j j)<|q (oNl j j j)<|q (oFA (r':=.mp 39 0 3) j QT j j)<|q (oLd (cs:=[.im 0 _]) j tF2 j j)<|q (oBi j j j j)<|nl)<|us<|gc h j ak (fun hc5 h=>?_) fun hc5 h=>?_
     ·refine gs<|g0 j j (q (ah j j)<|q (ah j j)<|nl)<|us<|Go.ret (Unw.ret ?_)
      cases h
      exact fr aco j
     ·refine Go.skip<|us<|gs<|g0 j j (q (oMv j j)<|q (Um j j)<|q (ah j j)<|nl)<|us<|Go.ret (Unw.ret ?_)
      cases h
      exact fr aco j
theorem Io {d_0:aB} {cO:(List aF)} {fF:Int} {dI:Int} {r:((List Int)×Int)} (h:gK d_0 cO fF dI=some r):FX 17 [.im 2 true (aJ d_0),.im 2 false [W 3 aA cO],.im 2 false [I fF],.im 2 false [I dI]] (B0 [(false,[.im 0 (W 1 eI r.1)]),(false,[.im 0 (I r.2)])]):=by
 unfold gK at h
 refine gn 36 Try.func17 rfl ?_
 refine gs<|g0 j j (sqn z17 j (oBx j jX j (tkI (tkI (tkI (tkI tk0)))))<|sqf z17 j (Cc j j QM) (adX j j j)<|sqn z17 j (ah j j)<|nl)<|us<|gs<|?_
 obtain ⟨x17,FT,h⟩:=bs h
 refine g0 j j (sqn z17 j (oLd (cs:=[.im 0 _,.im 0 _,.im 2 _,.im 2 _]) j jX j j)<|sqn z17 j (oMv j j)<|sqn z17 j (oMv j j)<|sqn z17 j (oMv j j)<|sqn z17 j (oCa (xs:=[.v true [.im 0 _,.im 0 _,.im 2 _,.im 2 _],.v false [.im 2 _],.v false [.im 2 _],.v false [.im 2 _],.v false [.im 0 _]]) (vs:=[(false,[.im 0 (eO rF x17.1)]),(false,[.im 0 (I x17.2)])]) (v:=.tup [(false,[.im 0 _]),(false,[.im 0 _])]) (zi FT) (.inl j) j DF j (ppC j (ppC j (ppC j (ppC j (ppC j pp0))))) j j pb0 j (by cases x17.1<;>kernel_rfl) j)<|sqn z17 j (KL j j)<|sqn z17 j (oEx j j j)<|sqn z17 j (oEx j j j)<|sqn z17 j (ah j j)<|sqn z17 j (ah j j)<|nl)<|us<|gs<|gs<|?_
 obtain ⟨QF,hm8,h⟩:=bs h
 refine gX c17 j j j (mk [(10,D 0 (eO rF x17.1)),(11,iv x17.2),(28,bv QF)] []) ?_ ?_
 ·refine ic hm8 (fun hc1 hm8=>?_) fun hc1 hm8=>?_
  ·revert hm8
   cases x17.1 with
   | none=>
    intro hm8
    cases hm8
   | some QE=>
    intro hm8
    cases hm8
    exact Jc z17 rfl (oMv rfl rfl)<|Jc z17 rfl (oBi rfl rfl rfl rfl)<|Jc z17 rfl (oMv rfl rfl)<|FI z17 rfl rfl rfl (iEq.2 hc1) (oMv rfl rfl)<|FI z17 rfl rfl rfl (iEq.2 hc1) (oNl rfl rfl rfl)<|FI z17 rfl rfl rfl (iEq.2 hc1) (oFA (r':=.im 0 _) rfl Nv rfl rfl)<|FI z17 rfl rfl rfl (iEq.2 hc1) (oLd (cs:=[.im 0 _]) rfl tF2 rfl rfl)<|FI z17 rfl rfl rfl (iEq.2 hc1) (oBi rfl rfl rfl rfl)<|Jc z17 rfl (bQ rfl rfl (iEq.2 hc1) rfl)<|xn (by first | (cases x17.1<;>kernel_rfl) | kernel_rfl)
  ·cases hm8
   exact Jc z17 rfl (oMv rfl rfl)<|Jc z17 rfl (oBi rfl rfl rfl rfl)<|Jc z17 rfl (oMv rfl rfl)<|au rfl rfl (byF iEq hc1) rfl<|au rfl rfl (byF iEq hc1) rfl<|au rfl rfl (byF iEq hc1) rfl<|au rfl rfl (byF iEq hc1) rfl<|au rfl rfl (byF iEq hc1) rfl<|Jc z17 rfl (bV rfl rfl (byF iEq hc1) rfl)<|xn (by first | (cases x17.1<;>kernel_rfl) | kernel_rfl)
 ·refine us<|Go.join (fun st=>∃xX,iE x17 xX=some r∧st.norm ([10,11],[])=mk [(10,D 0 (eO rF x17.1)),(11,iv xX)] []) ?_ ?_
  ·rintro st ⟨xX,h,hst⟩
   unfold iE at h
   refine us<|gs<|gs<|g2 c17 j j hst (sqn z17 j (oMv j j)<|sqn z17 j (oBi j j j j)<|nl)<|us<|gc h j iNe (fun hc4 h=>?_) fun hc4 h=>?_
   ·refine gs<|g0 j j (sqn z17 j (oMv j j)<|sqf z17 j (Cc j j QM) (adX j j j)<|sqn z17 j (ah j j)<|nl)<|us<|Go.ret (Unw.ret ?_)
    cases h
    exact fr af1 j
   ·refine Go.skip<|us<|gs<|?_
    revert h
    cases x17.1 with
    | none=>
     intro h
     cases h
    | some afc=>
     intro h
     refine g0 j j (sqn z17 j (oMv j j)<|sqn z17 j (oNl j j j)<|sqn z17 j (oFA (r':=.im 0 _) j Zr j j)<|sqn z17 j (oLd (cs:=[.im 0 _]) j oz j j)<|sqf z17 j (ah j j) (ag4 j)<|sqn z17 j (ah j j)<|nl)<|us<|Go.ret (Unw.ret ?_)
     cases h
     exact fr af1 j
  ·intro K6
   refine gc h j iR (fun hc7 h=>?_) fun hc7 h=>?_
   ·exact g0 j j (sqn z17 j (ah j j)<|nl)<|K6 _ ⟨3,h,(by first | (cases x17.1<;>kernel_rfl) | kernel_rfl)⟩
   ·exact Go.skip<|K6 _ ⟨x17.2,h,(by first | (cases x17.1<;>kernel_rfl) | kernel_rfl)⟩
theorem NW {kS:ByteArray} {r:Int} (h:uu kS=some r):FX 134 [.im 2 false [Y kS]] (B0 [(false,[.im 0 (I r)])]):=by
 unfold uu at h
 refine gn 19 Try.func134 rfl ?_
 refine gs<|g0 j j (q (ah j j)<|nl)<|us<|gs<|?_
 obtain ⟨x5,hx5,h⟩:=bs h
 refine g0 j j (q (oCr (xs:=[]) (vs:=[(false,[.own 5 0 0])]) (v:=.v false [.own 5 0 0]) (c:=⟨.sh,0,_⟩) (cs:=[]) (y9 hx5) (.inl j) j UC j pp0 j j pb0 j j j)<|q (oZ j j j j j)<|nl)<|us<|gs<|gs<|g0 j j (q (ah j j)<|nl)<|us<|Go.block<|?_
 obtain ⟨o,hl,h⟩:=bs h
 refine gl ad4 j _ (fun (fD:Int)=>mk [(0,sv kS),(3,H 3 0),(4,iv fD)] [(3,Oc [Z (W 1 eS x5)])]) (fun (o:(Unit ⊕ Int)) (p:Ex×St)=>match o with | (.inl _)=>p.1= .exit 0∧p.2.norm ([],[])=mk [] [] | (.inr r2)=>p.1= .ret∧fin Try.prog cfg 134 Try.f134 [.im 2 false [Y kS]] p.2=some (B0 [(false,[.im 0 (I r2)])])) hl (by kernel_rfl) ?_ ?_ ?_
 ·intro o p hp e
  rcases o with u | r2<;>exact nomatch (hp.1.symm.trans e)
 ·rintro fD o h
  unfold rq at h
  refine gs<|gs<|g0 j j (q (oMv j j)<|q (oMv j j)<|q (Hu j j ado j j j (fun e=>nomatch e))<|q (oBi j j j j)<|nl)<|us<|gc h j ak (fun hc5 h=>?_) fun hc5 h=>?_
  ·refine Go.skip<|us<|gs<|Go.block<|gs<|?_
   obtain ⟨x14,BH,h⟩:=bs h
   refine g0 j j (q (oMv j j)<|q (oMv j j)<|q (xN j BH Pz j j j j)<|q (C9 (cs:=[.im 0 _]) j tF9 j j j j (jH BH) j j)<|q (oMv j j)<|q (oBi j j j j)<|nl)<|us<|gc h j D6 (fun hc6 h=>?_) fun hc6 h=>?_
   ·refine gs<|g0 j j (q (oMv j j)<|q (ah j j)<|nl)<|us<|Go.ret (Unw.ret ?_)
    cases h
    exact ⟨j,(fo ac7 j)⟩
   ·refine Go.skip<|Unw.blk<|us<|g0 j j (q (oMv j j)<|q (oBi j j j j)<|q (ah j j)<|nl)<|Unw.nil<|?_
    cases h
    exact ⟨j,(by kernel_rfl)⟩
  ·refine Go.exit<|ux<|Unw.nil<|?_
   cases h
   exact ⟨j,(by kernel_rfl)⟩
 ·rintro ⟨e,st⟩ hp
  rcases o with u | r2
  ·dsimp only at h
   obtain ⟨he,hst⟩:=hp
   obtain rfl:e= .exit 0:=he
   refine Unw.lq<|us<|gs<|g2 ad4 j j hst (q (ah j j)<|nl)<|us<|Go.ret (Unw.ret ?_)
   cases h
   exact fr ac7 j
  ·dsimp only at h
   obtain ⟨he,hfin⟩:=hp
   obtain rfl:e= .ret:=he
   cases h
   exact Unw.ret (jl hfin)
theorem Ld {g_0:Int} {r:Bool} (h:yD g_0=some r):FX 136 [.im 2 false [I g_0]] (B0 [(false,[.im 0 (V r)])]):=by
 unfold yD at h
 refine gn 5 Try.func136 rfl ?_
 refine gs<|g0 j j (q (ah j j)<|nl)<|us<|gs<|?_
 obtain ⟨x4,hx4,h⟩:=bs h
 refine g0 j j (q (oMv j j)<|q (oCa (xs:=[.v false [.im 2 _],.v false [.im 0 _],.v false [.im 0 _]]) (vs:=[(false,[.im 0 _])]) (v:=.v false [.im 0 _]) (fH hx4) (.inl j) j iU j (ppC j (ppC j (ppC j pp0))) j j pb0 j j j)<|q (ah j j)<|nl)<|us<|Go.ret (Unw.ret ?_)
 cases h
 exact fr afK j
theorem Rl {v_0:aF} {r:Bool} (h:vC v_0=some r):FX 79 [.im 2 false [.cp (ou v_0) 0]] (B0 [(false,[.im 0 (V r)])]):=by
 unfold vC at h
 refine gn 42 Try.func79 rfl ?_
 refine gs<|g0 j j (q (ah j j)<|nl)<|us<|gs<|?_
 obtain ⟨x9,hx9,h⟩:=bs h
 refine g0 j j (q (oMv j j)<|q (oNl j j j)<|q (oFA (r':=.im 2 _) j Zo j j)<|q (oLd (cs:=[.im 2 _]) j tF9 j j)<|q (oCa (xs:=[.v false [.im 2 _]]) (vs:=[(false,[.im 0 _])]) (v:=.v false [.im 0 _]) (NW hx9) (.inl j) j ab1 j (ppC j pp0) j j pb0 j j j)<|q (ah j j)<|nl)<|us<|gs<|gs<|?_
 obtain ⟨QG,hm5,h⟩:=bs h
 refine gX c79 j j j (mk [(0,D 2 (.cp (ou v_0) 0)),(3,iv x9),(19,bv QG)] []) ?_ ?_
 ·refine xq (oMv j j)<|xq (oBi j j j j)<|xq (oMv j j)<|?_
  refine ic hm5 (fun hc1 hm5=>?_) fun hc1 hm5=>?_
  ·cases hm5
   exact au j j (ak.2 hc1) j<|au j j (ak.2 hc1) j<|au j j (ak.2 hc1) j<|au j j (ak.2 hc1) j<|au j j (ak.2 hc1) j<|au j j (ak.2 hc1) j<|xq (bQ j j (ak.2 hc1) j)<|xn
  ·obtain ⟨x17,FT,hm5⟩:=bs hm5
   cases hm5
   exact xqT j j (byF ak hc1) (oMv j j)<|xqT j j (byF ak hc1) (oNl j j j)<|xqT j j (byF ak hc1) (oFA (r':=.im 2 _) j y7 j j)<|xqT j j (byF ak hc1) (oLd (cs:=[.im 2 _]) j tF2 j j)<|xqT j j (byF ak hc1) (oCa (xs:=[.v false [.im 2 _],.v false [.im 0 _],.v false [.im 0 _]]) (vs:=[(false,[.im 0 _])]) (v:=.v false [.im 0 _]) (fH FT) (.inl j) j iU j (ppC j (ppC j (ppC j pp0))) j j pb0 j j j)<|xqT j j (byF ak hc1) (oUn j j j)<|xq (bV j j (byF ak hc1) j)<|xn
 ·refine us<|gc h j iR (fun hc2 h=>?_) fun hc2 h=>?_
  ·refine gs<|g0 j j (q (ah j j)<|nl)<|us<|Go.ret (Unw.ret ?_)
   cases h
   exact fr agc j
  ·refine Go.skip<|us<|gs<|?_
   obtain ⟨x20,JX,h⟩:=bs h
   obtain ⟨x22,KQ,h⟩:=bs h
   obtain ⟨x24,hx24,h⟩:=bs h
   refine g0 j j (q (oCr (xs:=[]) (vs:=[(false,[.own 20 0 0])]) (v:=.v false [.own 20 0 0]) (c:=⟨.sh,0,_⟩) (cs:=[]) (EO JX) (.inl j) j Zz j pp0 j j pb0 j j j)<|q (oMv j j)<|q (xN j KQ JQ j j j j)<|q (C9 (cs:=[.im 0 _]) j oz j j j j (jH KQ) j j)<|q (gZ j hx24 eX j j)<|q (oLd (cs:=[.im 0 _]) j tF2 j j)<|q (ah j j)<|nl)<|us<|gs<|?_
   obtain ⟨x34,hx34,h⟩:=bs h
   obtain ⟨Uw,hm4,h⟩:=bs h
   refine gX c79 j j j (mk [(2,bv Uw)] []) ?_ ?_
   ·refine xq (oMv j j)<|xq (oNl j j j)<|xq (oFA (r':=.im 2 _) j y7 j j)<|xq (oLd (cs:=[.im 2 _]) j tF2 j j)<|xq (oMv j j)<|xq (oBi j j j j)<|xq (oMv j j)<|xq (oBi j j j j)<|xq (oCa (xs:=[.v false [.im 2 _],.v false [.im 0 _],.v false [.im 0 _]]) (vs:=[(false,[.im 0 _])]) (v:=.v false [.im 0 _]) (fH hx34) (.inl j) j iU j (ppC j (ppC j (ppC j pp0))) j j pb0 j j j)<|xq (oMv j j)<|?_
    refine ic hm4 (fun hc3 hm4=>?_) fun hc3 hm4=>?_
    ·obtain ⟨x40,Rh,hm4⟩:=bs hm4
     cases hm4
     exact xqT j j (iR.2 hc3) (oMv j j)<|xqT j j (iR.2 hc3) (oNl j j j)<|xqT j j (iR.2 hc3) (oFA (r':=.im 2 _) j H8 j j)<|xqT j j (iR.2 hc3) (oLd (cs:=[.im 2 _]) j tF2 j j)<|xqT j j (iR.2 hc3) (oCa (xs:=[.v false [.im 2 _]]) (vs:=[(false,[.im 0 _])]) (v:=.v false [.im 0 _]) (Ld Rh) (.inl j) j ab2 j (ppC j pp0) j j pb0 j j j)<|xq (bQ j j (iR.2 hc3) j)<|xq (ah j j)<|xn
    ·cases hm4
     exact au j j (byF iR hc3) j<|au j j (byF iR hc3) j<|au j j (byF iR hc3) j<|au j j (byF iR hc3) j<|au j j (byF iR hc3) j<|xq (bV j j (byF iR hc3) j)<|xq (ah j j)<|xn
   ·refine us<|Go.ret (Unw.ret ?_)
    cases h
    exact fr agc j
theorem yj {dM:(List aF)} {r:Bool} (h:lN dM=some r):FX 110 [.im 2 false [W 3 aA dM]] (B0 [(false,[.im 0 (V r)])]):=by
 unfold lN at h
 refine gn 23 Try.func110 rfl ?_
 refine gs<|g0 j j (q (ah j j)<|nl)<|us<|gs<|gs<|g0 j j (q (ah j j)<|nl)<|us<|Go.block<|?_
 obtain ⟨o,hl,h⟩:=bs h
 refine gl ad2 j _ (fun (JJ:Int)=>mk [(0,D 2 (W 3 aA dM)),(3,iv JJ)] []) (fun (o:(Unit ⊕ Bool)) (p:Ex×St)=>match o with | (.inl _)=>p.1= .exit 0∧p.2.norm ([0],[])=mk [(0,D 2 (W 3 aA dM))] [] | (.inr r2)=>p.1= .ret∧fin Try.prog cfg 110 Try.f110 [.im 2 false [W 3 aA dM]] p.2=some (B0 [(false,[.im 0 (V r2)])])) hl (by kernel_rfl) ?_ ?_ ?_
 ·intro o p hp e
  rcases o with u | r2<;>exact nomatch (hp.1.symm.trans e)
 ·rintro JJ o h
  unfold oP at h
  refine gs<|gs<|g0 j j (q (oMv j j)<|q (oMv j j)<|q (jd j j Jj j)<|q (oBi j j j j)<|nl)<|us<|gc h j ak (fun hc6 h=>?_) fun hc6 h=>?_
  ·refine Go.skip<|us<|gs<|Go.block<|gs<|?_
   obtain ⟨x12,Es,h⟩:=bs h
   obtain ⟨x13,Ia,h⟩:=bs h
   refine g0 j j (q (oMv j j)<|q (oMv j j)<|q (gZ j Es Q5 j j)<|q (oCa (xs:=[.v false [.im 2 _]]) (vs:=[(false,[.im 0 _])]) (v:=.v false [.im 0 _]) (Rl Ia) (.inl j) j ZG j (ppC j pp0) j j pb0 j j j)<|q (oUn j j j)<|nl)<|us<|?_
   by_cases hc7:x13=true
   ·rw [if_pos hc7] at h
    refine gF j (nF (iR.2 hc7))<|Go.skip<|Unw.blk<|us<|g0 j j (q (oMv j j)<|q (oBi j j j j)<|q (ah j j)<|nl)<|Unw.nil<|?_
    cases h
    exact ⟨j,(by kernel_rfl)⟩
   ·rw [if_neg hc7] at h
    refine gT j (nT (byF iR hc7))<|gs<|g0 j j (q (ah j j)<|nl)<|us<|Go.ret (Unw.ret ?_)
    cases h
    exact ⟨j,(fo ac4 j)⟩
  ·refine Go.exit<|ux<|Unw.nil<|?_
   cases h
   exact ⟨j,(by kernel_rfl)⟩
 ·rintro ⟨e,st⟩ hp
  rcases o with u | r2
  ·dsimp only at h
   obtain ⟨he,hst⟩:=hp
   obtain rfl:e= .exit 0:=he
   refine Unw.lq<|us<|gs<|gX ad2 j j hst (mk [(2,bv ((decide ((dM.length:Int)≥1))&&(decide ((dM.length:Int)≤8))))] []) ?_ ?_
   ·refine xq (oMv j j)<|xq (jd j j Jj j)<|xq (oBi j j j j)<|xq (oMv j j)<|?_
    by_cases hc5:(dM.length:Int)≥1
    ·exact xqT rfl rfl (ak.2 hc5) (oMv rfl rfl)<|xqT rfl rfl (ak.2 hc5) (jd rfl rfl Jj rfl)<|xqT rfl rfl (ak.2 hc5) (oBi rfl rfl rfl rfl)<|xq (bQ rfl rfl (ak.2 hc5) rfl)<|xq (ah rfl rfl)<|xn (Eq.trans (b:=(fun Ip:Bool=>mk [(2,bv Ip)] []) (decide ((dM.length:Int)≤8))) (by kernel_rfl) (congrArg (fun Ip:Bool=>mk [(2,bv Ip)] []) (by first | rfl | (simp [(ak.2 hc5)];done) | (simp [(ak.2 hc5)];omega))))
    ·exact au rfl rfl (byF ak hc5) rfl<|au rfl rfl (byF ak hc5) rfl<|au rfl rfl (byF ak hc5) rfl<|xq (bV rfl rfl (byF ak hc5) rfl)<|xq (ah rfl rfl)<|xn (Eq.trans (b:=(fun Ip:Bool=>mk [(2,bv Ip)] []) false) (by kernel_rfl) (congrArg (fun Ip:Bool=>mk [(2,bv Ip)] []) (by first | rfl | (simp [(byF ak hc5)];done) | (simp [(byF ak hc5)];omega))))
   ·refine us<|Go.ret (Unw.ret ?_)
    cases h
    exact fr ac4 j
  ·dsimp only at h
   obtain ⟨he,hfin⟩:=hp
   obtain rfl:e= .ret:=he
   cases h
   exact Unw.ret (jl hfin)
theorem Jo {mg:(List Int)} {i_1:Int} {k_2:Int} {r:Bool} (h:ru mg i_1 k_2=some r):FX 195 [.im 2 false [W 1 eI mg],.im 2 false [I i_1],.im 2 false [I k_2]] (B0 [(false,[.im 0 (V r)])]):=by
 unfold ru at h
 refine gn 46 Try.func195 rfl ?_
 refine gs<|g0 j j (q (ah j j)<|nl)<|us<|gs<|gs<|g0 j j (q (ah j j)<|nl)<|us<|Go.block<|?_
 obtain ⟨o,hl,h⟩:=bs h
 refine gl abU j _ (fun (FK:Int)=>mk [(0,D 2 (W 1 eI mg)),(1,iv i_1),(2,iv k_2),(7,iv FK)] []) (fun (o:(Unit ⊕ Bool)) (p:Ex×St)=>match o with | (.inl _)=>p.1= .exit 0∧p.2.norm ([],[])=mk [] [] | (.inr r2)=>p.1= .ret∧fin Try.prog cfg 195 Try.f195 [.im 2 false [W 1 eI mg],.im 2 false [I i_1],.im 2 false [I k_2]] p.2=some (B0 [(false,[.im 0 (V r2)])])) hl (by kernel_rfl) ?_ ?_ ?_
 ·intro o p hp e
  rcases o with u | r2<;>exact nomatch (hp.1.symm.trans e)
 ·rintro FK o h
  unfold oh at h
  refine gs<|gs<|g0 j j (q (oMv j j)<|q (oMv j j)<|q (jd j j uG j)<|q (oBi j j j j)<|nl)<|us<|gc h j ak (fun yc h=>?_) fun yc h=>?_
  ·refine Go.skip<|us<|gs<|Go.block<|gs<|?_
   obtain ⟨x18,FQ,h⟩:=bs h
   refine g0 j j (q (oMv j j)<|q (oMv j j)<|q (gZ j FQ eX j j)<|q (oLd (cs:=[.im 2 _]) j tF2 j j)<|q (ah j j)<|nl)<|us<|gs<|?_
   obtain ⟨x25,hx25,h⟩:=bs h
   obtain ⟨x26,Rf,h⟩:=bs h
   refine g0 j j (q (oMv j j)<|q (oMv j j)<|q (oBi j j j j)<|q (oMv j j)<|q (jd j j uG j)<|q (Ce j hx25 j j)<|q (gZ j Rf eX j j)<|q (oLd (cs:=[.im 2 _]) j tF2 j j)<|q (ah j j)<|nl)<|us<|gs<|?_
   obtain ⟨QH,F9,h⟩:=bs h
   refine gX abU j j j (mk [(0,D 2 (W 1 eI mg)),(1,iv i_1),(2,iv k_2),(7,iv FK),(45,bv QH)] []) ?_ ?_
   ·refine xq (oMv j j)<|xq (oMv j j)<|xq (oBi j j j j)<|xq (oMv j j)<|?_
    refine ic F9 (fun hc16 F9=>?_) fun hc16 F9=>?_
    ·refine xqT j j (iEq.2 hc16) (oMv j j)<|xqT j j (iEq.2 hc16) (oMv j j)<|xqT j j (iEq.2 hc16) (oBi j j j j)<|xq (bQ j j (iEq.2 hc16) j)<|xq (oMv j j)<|?_
     refine ic F9 (fun hc17 F9=>?_) fun hc17 F9=>?_
     ·cases F9
      exact au j j (iEq.2 hc17) j<|au j j (iEq.2 hc17) j<|au j j (iEq.2 hc17) j<|au j j (iEq.2 hc17) j<|BG j j j<|BG j j j<|BG j j j<|au j j (iEq.2 hc17) j<|xq (bQ j j (iEq.2 hc17) j)<|xn
     ·refine xqT j j (byF iEq hc17) (oMv j j)<|xqT j j (byF iEq hc17) (oMv j j)<|xqT j j (byF iEq hc17) (oBi j j j j)<|xqT j j (byF iEq hc17) (oMv j j)<|?_
      refine ic F9 (fun hc18 F9=>?_) fun hc18 F9=>?_
      ·cases F9
       exact xqT j j (iEq.2 hc18) (oMv j j)<|xqT j j (iEq.2 hc18) (oMv j j)<|xqT j j (iEq.2 hc18) (oBi j j j j)<|xqT j j (byF iEq hc17) (bQ j j (iEq.2 hc18) j)<|xq (bV j j (byF iEq hc17) j)<|xn
      ·cases F9
       exact au j j (byF iEq hc18) j<|au j j (byF iEq hc18) j<|au j j (byF iEq hc18) j<|xqT j j (byF iEq hc17) (bV j j (byF iEq hc18) j)<|xq (bV j j (byF iEq hc17) j)<|xn
    ·refine au j j (byF iEq hc16) j<|au j j (byF iEq hc16) j<|au j j (byF iEq hc16) j<|xq (bV j j (byF iEq hc16) j)<|xq (oMv j j)<|xqT j j j (oMv j j)<|xqT j j j (oMv j j)<|xqT j j j (oBi j j j j)<|xqT j j j (oMv j j)<|?_
     refine ic F9 (fun hc19 F9=>?_) fun hc19 F9=>?_
     ·cases F9
      exact xqT j j (iEq.2 hc19) (oMv j j)<|xqT j j (iEq.2 hc19) (oMv j j)<|xqT j j (iEq.2 hc19) (oBi j j j j)<|xqT j j j (bQ j j (iEq.2 hc19) j)<|xq (bV j j j j)<|xn
     ·cases F9
      exact au j j (byF iEq hc19) j<|au j j (byF iEq hc19) j<|au j j (byF iEq hc19) j<|xqT j j j (bV j j (byF iEq hc19) j)<|xq (bV j j j j)<|xn
   ·refine us<|gc h j iR (fun qA h=>?_) fun qA h=>?_
    ·refine gs<|g0 j j (q (ah j j)<|nl)<|us<|Go.ret (Unw.ret ?_)
     cases h
     exact ⟨j,(fo adk j)⟩
    ·refine Go.skip<|Unw.blk<|us<|g0 j j (q (oMv j j)<|q (oBi j j j j)<|q (ah j j)<|nl)<|Unw.nil<|?_
     cases h
     exact ⟨j,(by kernel_rfl)⟩
  ·refine Go.exit<|ux<|Unw.nil<|?_
   cases h
   exact ⟨j,(by kernel_rfl)⟩
 ·rintro ⟨e,st⟩ hp
  rcases o with u | r2
  ·dsimp only at h
   obtain ⟨he,hst⟩:=hp
   obtain rfl:e= .exit 0:=he
   refine Unw.lq<|us<|gs<|g2 abU j j hst (q (ah j j)<|nl)<|us<|Go.ret (Unw.ret ?_)
   cases h
   exact fr adk j
  ·dsimp only at h
   obtain ⟨he,hfin⟩:=hp
   obtain rfl:e= .ret:=he
   cases h
   exact Unw.ret (jl hfin)
theorem NY {d_0:aB} {k_1:Int} {r:(List Int)} (h:wW d_0 k_1=some r):FX 161 [.im 2 false [.cp (aJ d_0) 0],.im 2 false [I k_1]] (B0 [(false,[.ow 0 1 (List.map eI r)])]):=by
 unfold wW at h
 refine gn 69 Try.func161 rfl ?_
 refine gs<|g0 j j (q (Cc j j QM)<|nl)<|us<|gs<|g0 j j (q (oBS (es:=List.map eI ([]:List Int)) j eX j pt0 (dn j fun _=>j))<|q (oZ j j j j j)<|nl)<|us<|gs<|?_
 obtain ⟨x16,hx16,h⟩:=bs h
 refine g0 j j (q (oMv j j)<|q (oNl j j j)<|q (oFA (r':=.im 2 _) j gU j j)<|q (oLd (cs:=[.im 2 _]) j qw j j)<|q (oMv j j)<|q (gZ j hx16 uF j j)<|q (oFA (r':=.im 2 _) j pJ j j)<|q (oLd (cs:=[.im 2 _]) j oz j j)<|q (ah j j)<|nl)<|us<|gs<|gs<|g0 j j (q (ah j j)<|nl)<|us<|Go.block<|?_
 obtain ⟨o,hl,h⟩:=bs h
 refine gl Uz j _ (fun (s:(Int×(List Int)))=>match s with | (kW,kX)=>mk [(0,D 2 (.cp (aJ d_0) 0)),(1,iv k_1),(5,H 5 0),(6,D 2 (W 1 eI x16.Ring)),(7,iv kW)] [(5,Oc [Z (W 1 eI kX)])]) (fun (BQ:(List Int)) (p:Ex×St)=>p.1= .exit 0∧p.2.norm ([5],[5])=mk [(5,H 5 0)] [(5,Oc [Z (W 1 eI BQ)])]) hl (by kernel_rfl) ?_ ?_ ?_
 ·intro o p hp e
  exact nomatch (hp.1.symm.trans e)
 ·rintro ⟨kW,kX⟩ o h
  unfold rE at h
  dsimp only at h
  refine gs<|gs<|g0 j j (q (oMv j j)<|q (oMv j j)<|q (oNl j j j)<|q (oFA (r':=.im 2 _) j gU j j)<|q (oLd (cs:=[.im 2 _]) j qw j j)<|q (jd j j Eo j)<|q (oBi j j j j)<|nl)<|us<|gc h j ak (fun yc h=>?_) fun yc h=>?_
  ·refine Go.skip<|us<|gs<|Go.join (fun st=>∃Dz,rC kW Dz=some o∧st.norm ([0,1,5,6,7],[5])=mk [(0,D 2 (.cp (aJ d_0) 0)),(1,iv k_1),(5,H 5 0),(6,D 2 (W 1 eI x16.Ring)),(7,iv kW)] [(5,Oc [Z (W 1 eI Dz)])]) ?_ ?_
   ·rintro st ⟨Dz,h,hst⟩
    unfold rC at h
    refine us<|g2 Uz j j hst (q (oMv j j)<|q (oBi j j j j)<|q (ah j j)<|nl)<|Unw.nil<|?_
    cases h
    exact ⟨j,(by kernel_rfl)⟩
   ·intro K22
    refine Go.block<|gs<|g0 j j (q (ah j j)<|nl)<|us<|gs<|gs<|g0 j j (q (ah j j)<|nl)<|us<|Go.block<|?_
    obtain ⟨o,hl,h⟩:=bs h
    refine gl Uz j _ (fun (s:(Bool×Int))=>match s with | (AO,FM)=>mk [(0,D 2 (.cp (aJ d_0) 0)),(1,iv k_1),(5,H 5 0),(6,D 2 (W 1 eI x16.Ring)),(7,iv kW),(8,bv AO),(9,iv FM)] [(5,Oc [Z (W 1 eI kX)])]) (fun (uw:Bool) (p:Ex×St)=>p.1= .exit 2∧p.2.norm ([0,1,5,6,7,8],[5])=mk [(0,D 2 (.cp (aJ d_0) 0)),(1,iv k_1),(5,H 5 0),(6,D 2 (W 1 eI x16.Ring)),(7,iv kW),(8,bv uw)] [(5,Oc [Z (W 1 eI kX)])]) hl (by kernel_rfl) ?_ ?_ ?_
    ·intro o p hp e
     exact nomatch (hp.1.symm.trans e)
    ·rintro ⟨AO,FM⟩ o h
     unfold rD at h
     dsimp only at h
     refine gs<|gs<|g0 j j (q (oMv j j)<|q (oMv j j)<|q (jd j j uG j)<|q (oBi j j j j)<|nl)<|us<|gc h j ak (fun hc29 h=>?_) fun hc29 h=>?_
     ·refine Go.skip<|us<|gs<|Go.block<|?_
      obtain ⟨FN,Iq,h⟩:=bs h
      refine gd Uz j j j j (mk [(0,D 2 (.cp (aJ d_0) 0)),(1,iv k_1),(5,H 5 0),(6,D 2 (W 1 eI x16.Ring)),(7,iv kW),(8,bv FN),(9,iv FM)] [(5,Oc [Z (W 1 eI kX)])]) ?_ ?_
      ·refine t j j (oMv j j)<|t j j (oMv j j)<|?_
       refine ic Iq (fun jv Iq=>?_) fun jv Iq=>?_
       ·cases Iq
        exact tF j j j j (iR.2 jv) j<|tF j j j j (iR.2 jv) j<|tF j j j j (iR.2 jv) j<|tF j j j j (iR.2 jv) j<|tF j j j j (iR.2 jv) j<|tF j j j j (iR.2 jv) j<|tF j j j j (iR.2 jv) j<|tF j j j j (iR.2 jv) j<|tF j j j j (iR.2 jv) j<|tF j j j j (iR.2 jv) j<|tF j j j j (iR.2 jv) j<|tF j j j j (iR.2 jv) j<|tF j j j j (iR.2 jv) j<|tF j j j j (iR.2 jv) j<|tF j j j j (iR.2 jv) j<|tF j j j j (iR.2 jv) j<|tF j j j j (iR.2 jv) j<|tF j j j j (iR.2 jv) j<|tF j j j j (iR.2 jv) j<|tF j j j j (iR.2 jv) j<|sS (dF j j j (iR.2 jv) j) trivial (t j j (bQ j j (iR.2 jv) j)<|sS (dN ad7 j (ah j j)) trivial (sD (by kernel_rfl)))
       ·obtain ⟨x41,Q9,Iq⟩:=bs Iq
        obtain ⟨x46,UR,Iq⟩:=bs Iq
        obtain ⟨x53,ah1,Iq⟩:=bs Iq
        obtain ⟨x54,ZO,Iq⟩:=bs Iq
        obtain ⟨x56,ZU,Iq⟩:=bs Iq
        cases Iq
        exact tT j j j j (byF iR jv) (oMv j j)<|tT j j j j (byF iR jv) (oNl j j j)<|tT j j j j (byF iR jv) (oFA (r':=.im 2 _) j gU j j)<|tT j j j j (byF iR jv) (oLd (cs:=[.im 2 _]) j qw j j)<|tT j j j j (byF iR jv) (oMv j j)<|tT j j j j (byF iR jv) (gZ j Q9 uF j j)<|tT j j j j (byF iR jv) (oFA (r':=.im 2 _) j pJ j j)<|tT j j j j (byF iR jv) (oLd (cs:=[.im 2 _]) j oz j j)<|tT j j j j (byF iR jv) (oMv j j)<|tT j j j j (byF iR jv) (oMv j j)<|tT j j j j (byF iR jv) (gZ j UR eX j j)<|tT j j j j (byF iR jv) (oLd (cs:=[.im 2 _]) j tF2 j j)<|tT j j j j (byF iR jv) (oMv j j)<|tT j j j j (byF iR jv) (oMv j j)<|tT j j j j (byF iR jv) (oBi j j j j)<|tT j j j j (byF iR jv) (oMv j j)<|tT j j j j (byF iR jv) (jd j j uG j)<|tT j j j j (byF iR jv) (Ce j ah1 j j)<|tT j j j j (byF iR jv) (gZ j ZO eX j j)<|tT j j j j (byF iR jv) (oLd (cs:=[.im 2 _]) j tF2 j j)<|sS (dT ad7 j j j (byF iR jv) (oCa (xs:=[.v false [.im 2 _],.v false [.im 2 _],.v false [.im 2 _]]) (vs:=[(false,[.im 0 _])]) (v:=.v false [.im 0 _]) (Jo ZU) (.inl j) j QX j (ppC j (ppC j (ppC j pp0))) j j pb0 j j j)) trivial (t j j (bV j j (byF iR jv) j)<|sS (dN ad7 j (ah j j)) trivial (sD (by kernel_rfl)))
      ·refine Unw.blk<|us<|g0 j j (q (oMv j j)<|q (oBi j j j j)<|q (ah j j)<|nl)<|Unw.nil<|?_
       cases h
       exact ⟨j,(by kernel_rfl)⟩
     ·refine Go.exit<|ux<|Unw.nil<|?_
      cases h
      exact ⟨j,(by kernel_rfl)⟩
    ·rintro ⟨e,st⟩ hp
     obtain ⟨uw,rfl⟩:∃y,y=o:=⟨o,rfl⟩
     obtain ⟨he,hst⟩:=hp
     obtain rfl:e= .exit 2:=he
     refine Unw.lq<|us<|gs<|gX Uz j j hst (mk [(0,D 2 (.cp (aJ d_0) 0)),(1,iv k_1),(5,H 5 0),(6,D 2 (W 1 eI x16.Ring)),(7,iv kW),(63,bv ((kW != k_1)&&uw))] [(5,Oc [Z (W 1 eI kX)])]) ?_ ?_
     ·refine xq (oMv j j)<|xq (oMv j j)<|xq (oBi j j j j)<|xq (oMv j j)<|?_
      by_cases hc27:kW≠k_1
      ·exact xqT rfl rfl (iNe.2 hc27) (oMv rfl rfl)<|xq (bQ rfl rfl (iNe.2 hc27) rfl)<|xn (Eq.trans (b:=(fun Bz:Bool=>mk [(0,D 2 (.cp (aJ d_0) 0)),(1,iv k_1),(5,H 5 0),(6,D 2 (W 1 eI x16.Ring)),(7,iv kW),(63,bv Bz)] [(5,Oc [Z (W 1 eI kX)])]) uw) (by kernel_rfl) (congrArg (fun Bz:Bool=>mk [(0,D 2 (.cp (aJ d_0) 0)),(1,iv k_1),(5,H 5 0),(6,D 2 (W 1 eI x16.Ring)),(7,iv kW),(63,bv Bz)] [(5,Oc [Z (W 1 eI kX)])]) (by first | rfl | (simp [(iNe.2 hc27)];done) | (simp [(iNe.2 hc27)];omega))))
      ·exact au rfl rfl (byF iNe hc27) rfl<|xq (bV rfl rfl (byF iNe hc27) rfl)<|xn (Eq.trans (b:=(fun Bz:Bool=>mk [(0,D 2 (.cp (aJ d_0) 0)),(1,iv k_1),(5,H 5 0),(6,D 2 (W 1 eI x16.Ring)),(7,iv kW),(63,bv Bz)] [(5,Oc [Z (W 1 eI kX)])]) false) (by kernel_rfl) (congrArg (fun Bz:Bool=>mk [(0,D 2 (.cp (aJ d_0) 0)),(1,iv k_1),(5,H 5 0),(6,D 2 (W 1 eI x16.Ring)),(7,iv kW),(63,bv Bz)] [(5,Oc [Z (W 1 eI kX)])]) (by first | rfl | (simp [(byF iNe hc27)];done) | (simp [(byF iNe hc27)];omega))))
     ·refine us<|gc h j (zq iNe iR) (fun hc28 h=>?_) fun hc28 h=>?_
      ·obtain ⟨x67,TE,h⟩:=bs h
       exact g0 j j (q (oMv j j)<|q (oMv j j)<|q (oBS (es:=List.map eI ([kW]:List Int)) j eX j (ptC j (fxI fx0) j pt0) (dn j fun _=>j))<|q (xO (en:=eI) (M:=([kW]:List Int)) j TE j eX j j uG (.inl ⟨_,j⟩) j j j j (kG j j) (dn j fun _=>j))<|q (oZ j j j j j)<|nl)<|Unw.blk<|K22 _ ⟨x67,h,(by kernel_rfl)⟩
      ·exact Go.skip<|Unw.blk<|K22 _ ⟨kX,h,(by kernel_rfl)⟩
  ·refine Go.exit<|ux<|Unw.nil<|?_
   cases h
   exact ⟨j,(by kernel_rfl)⟩
 ·rintro ⟨e,st⟩ hp
  obtain ⟨BQ,rfl⟩:∃y,y=o:=⟨o,rfl⟩
  obtain ⟨he,hst⟩:=hp
  obtain rfl:e= .exit 0:=he
  refine Unw.lq<|us<|gs<|g2 Uz j j hst (q (oMv j j)<|q (oZ j j j j j)<|nl)<|us<|Go.ret (Unw.ret ?_)
  cases h
  exact fr afX j
theorem Le {d_0:aB} {r:(List (List Int))} (h:uP d_0=some r):FX 111 [.im 2 false [.cp (aJ d_0) 0]] (B0 [(false,[.ow 0 1 (List.map (eL 1 eI) r)])]):=by
 unfold uP at h
 refine gn 42 Try.func111 rfl ?_
 refine gs<|g0 j j (q (Cc j j ad9)<|nl)<|us<|gs<|g0 j j (q (oBS (es:=List.map (eL 1 eI) ([]:List (List Int))) j JQ j pt0 (su j))<|q (oZ j j j j j)<|nl)<|us<|gs<|gs<|g0 j j (q (ah j j)<|nl)<|us<|Go.block<|?_
 obtain ⟨o,hl,h⟩:=bs h
 refine gl XL j _ (fun (s:(Int×(List (List Int))))=>match s with | (fD,dG)=>mk [(0,D 2 (.cp (aJ d_0) 0)),(3,H 3 0),(4,iv fD)] [(3,Oc [Z (W 1 (eL 1 eI) dG)])]) (fun (eP:(List (List Int))) (p:Ex×St)=>p.1= .exit 0∧p.2.norm ([3],[3])=mk [(3,H 3 0)] [(3,Oc [Z (W 1 (eL 1 eI) eP)])]) hl (by kernel_rfl) ?_ ?_ ?_
 ·intro o p hp e
  exact nomatch (hp.1.symm.trans e)
 ·rintro ⟨fD,dG⟩ o h
  unfold qi at h
  dsimp only at h
  refine gs<|gs<|g0 j j (q (oMv j j)<|q (oMv j j)<|q (oNl j j j)<|q (oFA (r':=.im 2 _) j gU j j)<|q (oLd (cs:=[.im 2 _]) j qw j j)<|q (jd j j Eo j)<|q (oBi j j j j)<|nl)<|us<|gc h j ak (fun eY h=>?_) fun eY h=>?_
  ·refine Go.skip<|us<|gs<|Go.block<|gs<|?_
   obtain ⟨x19,Cm,h⟩:=bs h
   refine g0 j j (q (oMv j j)<|q (oMv j j)<|q (oCr (xs:=[.v false [.im 2 _],.v false [.im 0 _]]) (vs:=[(false,[.own 19 0 0])]) (v:=.v false [.own 19 0 0]) (c:=⟨.sh,0,_⟩) (cs:=[]) (NY Cm) (.inl j) j UD j (ppC j (ppC j pp0)) j j pb0 j j j)<|q (oZ j j j j j)<|nl)<|us<|gs<|g0 j j (q (ah j j)<|nl)<|us<|Go.block<|?_
   obtain ⟨o,hl,h⟩:=bs h
   refine gl XL j _ (fun (s:(Int×(List (List Int))))=>match s with | (y5,xY)=>mk [(0,D 2 (.cp (aJ d_0) 0)),(3,H 3 0),(4,iv fD),(5,H 5 0),(6,iv y5)] [(3,Oc [Z (W 1 (eL 1 eI) xY)]),(5,Oc [Z (W 1 eI x19)])]) (fun (BR:(List (List Int))) (p:Ex×St)=>p.1= .exit 2∧p.2.norm ([0,3,4],[3])=mk [(0,D 2 (.cp (aJ d_0) 0)),(3,H 3 0),(4,iv fD)] [(3,Oc [Z (W 1 (eL 1 eI) BR)])]) hl (by kernel_rfl) ?_ ?_ ?_
   ·intro o p hp e
    exact nomatch (hp.1.symm.trans e)
   ·rintro ⟨y5,xY⟩ o h
    unfold nM at h
    dsimp only at h
    refine gs<|gs<|g0 j j (q (oMv j j)<|q (oMv j j)<|q (Hu j j uG j j j (fun e=>nomatch e))<|q (oBi j j j j)<|nl)<|us<|gc h j ak (fun hc16 h=>?_) fun hc16 h=>?_
    ·refine Go.skip<|us<|gs<|Go.join (fun st=>∃DC,qh y5 DC=some o∧st.norm ([0,3,4,5,6],[3,5])=mk [(0,D 2 (.cp (aJ d_0) 0)),(3,H 3 0),(4,iv fD),(5,H 5 0),(6,iv y5)] [(3,Oc [Z (W 1 (eL 1 eI) DC)]),(5,Oc [Z (W 1 eI x19)])]) ?_ ?_
     ·rintro st ⟨DC,h,hst⟩
      unfold qh at h
      refine us<|g2 XL j j hst (q (oMv j j)<|q (oBi j j j j)<|q (ah j j)<|nl)<|Unw.nil<|?_
      cases h
      exact ⟨j,(by kernel_rfl)⟩
     ·intro K18
      refine Go.block<|gs<|?_
      obtain ⟨x28,hx28,h⟩:=bs h
      refine g0 j j (q (oMv j j)<|q (oMv j j)<|q (xN j hx28 eX j j j j)<|q (C9 (cs:=[.im 0 _]) j tF2 j j j j (jH hx28) j j)<|q (oMv j j)<|q (oBi j j j j)<|nl)<|us<|gc h j ak (fun hc19 h=>?_) fun hc19 h=>?_
      ·obtain ⟨x36,KW,h⟩:=bs h
       obtain ⟨x40,Rh,h⟩:=bs h
       exact g0 j j (q (oMv j j)<|q (oMv j j)<|q (oMv j j)<|q (oMv j j)<|q (xN j KW eX j j j j)<|q (C9 (cs:=[.im 0 _]) j tF2 j j j j (jH KW) j j)<|q (oBS (es:=List.map eI ([fD,x36]:List Int)) j eX j (ptC j (fxI fx0) j (ptC j (fxI fx0) j pt0)) (dn j fun _=>j))<|q (oBS (es:=List.map (eL 1 eI) ([([fD,x36]:List Int)]:List (List Int))) j JQ j (ptC j (fxO j j fx0) j pt0) (su j))<|q (xO (en:=(eL 1 eI)) (M:=([([fD,x36]:List Int)]:List (List Int))) j Rh j JQ j j acu (.inl ⟨_,j⟩) j j j j (kG j j) (su j))<|q (oZ j j j j j)<|nl)<|Unw.blk<|K18 _ ⟨x40,h,(by kernel_rfl)⟩
      ·exact Go.skip<|Unw.blk<|K18 _ ⟨xY,h,(by kernel_rfl)⟩
    ·refine Go.exit<|ux<|Unw.nil<|?_
     cases h
     exact ⟨j,(by kernel_rfl)⟩
   ·rintro ⟨e,st⟩ hp
    obtain ⟨BR,rfl⟩:∃y,y=o:=⟨o,rfl⟩
    obtain ⟨he,hst⟩:=hp
    obtain rfl:e= .exit 2:=he
    refine Unw.lq<|Unw.blk<|us<|g2 XL j j hst (q (oMv j j)<|q (oBi j j j j)<|q (ah j j)<|nl)<|Unw.nil<|?_
    cases h
    exact ⟨j,(by kernel_rfl)⟩
  ·refine Go.exit<|ux<|Unw.nil<|?_
   cases h
   exact ⟨j,(by kernel_rfl)⟩
 ·rintro ⟨e,st⟩ hp
  obtain ⟨eP,rfl⟩:∃y,y=o:=⟨o,rfl⟩
  obtain ⟨he,hst⟩:=hp
  obtain rfl:e= .exit 0:=he
  refine Unw.lq<|us<|gs<|g2 XL j j hst (q (oMv j j)<|q (oZ j j j j j)<|nl)<|us<|Go.ret (Unw.ret ?_)
  cases h
  exact fr afC j
theorem GR {dM:(List Int)} {r:(List Int)} (h:vP dM=some r):FX 56 [.im 2 false [W 1 eI dM]] (B0 [(false,[.ow 0 1 (List.map eI r)])]):=by
 unfold vP at h
 refine gn 6 Try.func56 rfl ?_
 refine gs<|g0 j j (q (Cc j j QM)<|nl)<|us<|gs<|?_
 obtain ⟨x5,hx5,h⟩:=bs h
 refine g0 j j (q (oBS (es:=List.map eI ([]:List Int)) j eX j pt0 (dn j fun _=>j))<|q (oMv j j)<|q (xO (en:=eI) (M:=dM) j hx5 j eX j j uG (.inl ⟨_,j⟩) j j j j ac2 (dn j fun _=>j))<|q (oZ j j j j j)<|nl)<|us<|Go.ret (Unw.ret ?_)
 cases h
 exact fr ahB j
theorem Lh {a_0:Int} {b_1:Int} {r:Int} (h:yE a_0 b_1=some r):FX 138 [.im 2 false [I a_0],.im 2 false [I b_1]] (B0 [(false,[.im 0 (I r)])]):=by
 unfold yE at h
 refine gn 17 Try.func138 rfl ?_
 refine gs<|g0 j j (q (ah j j)<|nl)<|us<|gs<|?_
 obtain ⟨x12,Es,h⟩:=bs h
 refine g0 j j (q (oMv j j)<|q (oMv j j)<|q (oBi j j j j)<|q (oMv j j)<|q (oMv j j)<|q (oBi j j j j)<|q (oCa (xs:=[.v false [.im 0 _],.v false [.im 0 _]]) (vs:=[(false,[.im 0 _])]) (v:=.v false [.im 0 _]) (ni Es) (.inl j) j vS j (ppC j (ppC j pp0)) j j pb0 j j j)<|q (ah j j)<|nl)<|us<|gs<|?_
 obtain ⟨x16,hx16,h⟩:=bs h
 refine g0 j j (q (oMv j j)<|q (oMv j j)<|q (oBi j j j j)<|q (oCa (xs:=[.v false [.im 0 _],.v false [.im 0 _]]) (vs:=[(false,[.im 0 _])]) (v:=.v false [.im 0 _]) (ng hx16) (.inl j) j vT j (ppC j (ppC j pp0)) j j pb0 j j j)<|q (ah j j)<|nl)<|us<|Go.ret (Unw.ret ?_)
 cases h
 exact fr afL j
theorem Ir {a_0:aF} {b_1:aF} {r:Int} (h:qj a_0 b_1=some r):FX 80 [.im 2 false [.cp (ou a_0) 0],.im 2 false [.cp (ou b_1) 0]] (B0 [(false,[.im 0 (I r)])]):=by
 unfold qj at h
 refine gn 35 Try.func80 rfl ?_
 refine gs<|g0 j j (q (ah j j)<|nl)<|us<|gs<|?_
 obtain ⟨x23,NM,h⟩:=bs h
 obtain ⟨x32,hx32,h⟩:=bs h
 obtain ⟨x33,UQ,h⟩:=bs h
 refine gd c80 j j j j (mk [(4,iv (w64 (x23+x33)))] []) (t j j (oMv j j)<|t j j (oNl j j j)<|t j j (oFA (r':=.im 2 _) j y7 j j)<|t j j (oLd (cs:=[.im 2 _]) j tF2 j j)<|t j j (oMv j j)<|t j j (oNl j j j)<|t j j (oFA (r':=.im 2 _) j y7 j j)<|t j j (oLd (cs:=[.im 2 _]) j tF2 j j)<|t j j (oBi j j j j)<|t j j (oMv j j)<|t j j (oNl j j j)<|t j j (oFA (r':=.im 2 _) j y7 j j)<|t j j (oLd (cs:=[.im 2 _]) j tF2 j j)<|t j j (oMv j j)<|t j j (oNl j j j)<|t j j (oFA (r':=.im 2 _) j y7 j j)<|t j j (oLd (cs:=[.im 2 _]) j tF2 j j)<|t j j (oBi j j j j)<|t j j (oMv j j)<|t j j (oNl j j j)<|t j j (oFA (r':=.im 2 _) j H8 j j)<|t j j (oLd (cs:=[.im 2 _]) j tF2 j j)<|t j j (oMv j j)<|t j j (oNl j j j)<|t j j (oFA (r':=.im 2 _) j H8 j j)<|t j j (oLd (cs:=[.im 2 _]) j tF2 j j)<|sS (dN z80 j (oCa (xs:=[.v false [.im 0 _],.v false [.im 0 _]]) (vs:=[(false,[.im 0 _])]) (v:=.v false [.im 0 _]) (ni NM) (.inl j) j vS j (ppC j (ppC j pp0)) j j pb0 j j j)) trivial (sS (dN z80 j (oCa (xs:=[.v false [.im 2 _],.v false [.im 2 _]]) (vs:=[(false,[.im 0 _])]) (v:=.v false [.im 0 _]) (Lh hx32) (.inl j) j XO j (ppC j (ppC j pp0)) j j pb0 j j j)) trivial (t j j (adT j UQ j j)<|t j j (oBi j j j j)<|sS (dN z80 j (ah j j)) trivial (sD (by kernel_rfl)))))<|us<|Go.ret (Unw.ret ?_)
 cases h
 exact fr ahH j
theorem Iu {aO:(List aF)} {a_1:Int} {b_2:Int} {r:Int} (h:ql aO a_1 b_2=some r):FX 196 [.im 2 false [W 3 aA aO],.im 2 false [I a_1],.im 2 false [I b_2]] (B0 [(false,[.im 0 (I r)])]):=by
 unfold ql at h
 refine gn 42 Try.func196 rfl ?_
 refine gs<|g0 j j (q (ah j j)<|nl)<|us<|gs<|g0 j j (q (oMv j j)<|q (jd j j Jj j)<|q (ah j j)<|nl)<|us<|gs<|g0 j j (q (ah j j)<|nl)<|us<|gs<|gs<|g0 j j (q (ah j j)<|nl)<|us<|Go.block<|?_
 obtain ⟨o,hl,h⟩:=bs h
 refine gl c196 j _ (fun (s:(Int×Int))=>match s with | (jA,pq)=>mk [(0,D 2 (W 3 aA aO)),(1,iv a_1),(2,iv b_2),(7,iv (aO.length:Int)),(8,iv jA),(9,iv pq)] []) (fun (zD:Int) (p:Ex×St)=>p.1= .exit 0∧p.2.norm ([8],[])=mk [(8,iv zD)] []) hl (by kernel_rfl) ?_ ?_ ?_
 ·intro o p hp e
  exact nomatch (hp.1.symm.trans e)
 ·rintro ⟨jA,pq⟩ o h
  unfold mO at h
  dsimp only at h
  refine gs<|gs<|g0 j j (q (oMv j j)<|q (oMv j j)<|q (oBi j j j j)<|nl)<|us<|gc h j ak (fun hc7 h=>?_) fun hc7 h=>?_
  ·refine Go.skip<|us<|gs<|Go.join (fun st=>∃AP,mM pq AP=some o∧st.norm ([0,1,2,7,8,9],[])=mk [(0,D 2 (W 3 aA aO)),(1,iv a_1),(2,iv b_2),(7,iv (aO.length:Int)),(8,iv AP),(9,iv pq)] []) ?_ ?_
   ·rintro st ⟨AP,h,hst⟩
    unfold mM at h
    refine us<|g2 c196 j j hst (q (oMv j j)<|q (oBi j j j j)<|q (ah j j)<|nl)<|Unw.nil<|?_
    cases h
    exact ⟨j,(by kernel_rfl)⟩
   ·intro K10
    refine Go.block<|gs<|?_
    obtain ⟨x23,NM,h⟩:=bs h
    obtain ⟨x24,hx24,h⟩:=bs h
    obtain ⟨x30,JS,h⟩:=bs h
    obtain ⟨x31,hx31,h⟩:=bs h
    obtain ⟨x32,hx32,h⟩:=bs h
    refine gd c196 j j j j (mk [(0,D 2 (W 3 aA aO)),(1,iv a_1),(2,iv b_2),(7,iv (aO.length:Int)),(8,iv jA),(9,iv pq),(10,iv x32)] []) (t j j (oMv j j)<|t j j (oMv j j)<|t j j (oMv j j)<|t j j (oBi j j j j)<|t j j (oMv j j)<|t j j (Ce j NM j j)<|t j j (gZ j hx24 Q5 j j)<|t j j (oMv j j)<|t j j (oMv j j)<|t j j (oMv j j)<|t j j (oBi j j j j)<|t j j (oMv j j)<|t j j (Ce j JS j j)<|t j j (gZ j hx31 Q5 j j)<|sS (dN z196 j (oCa (xs:=[.v false [.im 2 _],.v false [.im 2 _]]) (vs:=[(false,[.im 0 _])]) (v:=.v false [.im 0 _]) (Ir hx32) (.inl j) j Q3 j (ppC j (ppC j pp0)) j j pb0 j j j)) trivial (sS (dN z196 j (ah j j)) trivial (sD (by kernel_rfl))))<|us<|gs<|gX c196 j j j (mk [(0,D 2 (W 3 aA aO)),(1,iv a_1),(2,iv b_2),(7,iv (aO.length:Int)),(8,iv jA),(9,iv pq),(10,iv x32),(39,bv ((pq==0)||(decide (x32<jA))))] []) ?_ ?_
    ·refine xq (oMv j j)<|xq (oBi j j j j)<|xq (oMv j j)<|?_
     by_cases eY:pq=0
     ·exact au rfl rfl (iEq.2 eY) rfl<|au rfl rfl (iEq.2 eY) rfl<|au rfl rfl (iEq.2 eY) rfl<|xq (bQ rfl rfl (iEq.2 eY) rfl)<|xn (Eq.trans (b:=(fun Ez:Bool=>mk [(0,D 2 (W 3 aA aO)),(1,iv a_1),(2,iv b_2),(7,iv (aO.length:Int)),(8,iv jA),(9,iv pq),(10,iv x32),(39,bv Ez)] []) true) (by kernel_rfl) (congrArg (fun Ez:Bool=>mk [(0,D 2 (W 3 aA aO)),(1,iv a_1),(2,iv b_2),(7,iv (aO.length:Int)),(8,iv jA),(9,iv pq),(10,iv x32),(39,bv Ez)] []) (by first | rfl | (simp [(iEq.2 eY)];done) | (simp [(iEq.2 eY)];omega))))
     ·exact xqT rfl rfl (byF iEq eY) (oMv rfl rfl)<|xqT rfl rfl (byF iEq eY) (oMv rfl rfl)<|xqT rfl rfl (byF iEq eY) (oBi rfl rfl rfl rfl)<|xq (bV rfl rfl (byF iEq eY) rfl)<|xn (Eq.trans (b:=(fun Ez:Bool=>mk [(0,D 2 (W 3 aA aO)),(1,iv a_1),(2,iv b_2),(7,iv (aO.length:Int)),(8,iv jA),(9,iv pq),(10,iv x32),(39,bv Ez)] []) (decide (x32<jA))) (by kernel_rfl) (congrArg (fun Ez:Bool=>mk [(0,D 2 (W 3 aA aO)),(1,iv a_1),(2,iv b_2),(7,iv (aO.length:Int)),(8,iv jA),(9,iv pq),(10,iv x32),(39,bv Ez)] []) (by first | rfl | (simp [(byF iEq eY)];done) | (simp [(byF iEq eY)];omega))))
    ·refine us<|gc h j (iOr iEq ak) (fun hc12 h=>?_) fun hc12 h=>?_
     ·exact g0 j j (q (oMv j j)<|q (ah j j)<|nl)<|Unw.blk<|K10 _ ⟨x32,h,(by kernel_rfl)⟩
     ·exact Go.skip<|Unw.blk<|K10 _ ⟨jA,h,(by kernel_rfl)⟩
  ·refine Go.exit<|ux<|Unw.nil<|?_
   cases h
   exact ⟨j,(by kernel_rfl)⟩
 ·rintro ⟨e,st⟩ hp
  obtain ⟨zD,rfl⟩:∃y,y=o:=⟨o,rfl⟩
  obtain ⟨he,hst⟩:=hp
  obtain rfl:e= .exit 0:=he
  refine Unw.lq<|us<|gs<|g2 c196 j j hst (q (oMv j j)<|q (ah j j)<|nl)<|us<|Go.ret (Unw.ret ?_)
  cases h
  exact fr af8 j
end
end Go.Proofs.Ytdibfdcmbjaejaa
