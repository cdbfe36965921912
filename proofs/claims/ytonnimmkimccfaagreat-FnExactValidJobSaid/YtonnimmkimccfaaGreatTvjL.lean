/- The machine answers, at each function of the program that is reached, what its plain function answers: a further part. Conditions: none. -/
import Derived.Test.YtonnimmkimccfaaGreatTvjLb
namespace Go.Proofs.YtonnimmkimccfaaGreat
open Go Go.Sim Go.Pw Go.Proofs
set_option linter.unusedVariables false
set_option linter.unusedSimpArgs false
set_option maxRecDepth 100000
set_option maxHeartbeats 4000000
noncomputable section
theorem L_laws_eqFaceS {a_0:(List S_Face)} {b_1:(List S_Face)} {r:Bool} (h:laws_eqFaceS a_0 b_1=some r):FX 69 [.im 2 false [W 2 e_S_Face a_0],.im 2 false [W 2 e_S_Face b_1]] (B0 [(false,[.im 0 (V r)])]):=by
 unfold laws_eqFaceS at h
 refine gn 27 Tryz.func69 rfl ?_
 refine gs<|g0 j j (q (oAsI j j)<|nl)<|us<|gs<|gs<|g0 j j (q (oMv j j)<|q (oLnI j j uF39 j)<|q (oMv j j)<|q (oLnI j j uF39 j)<|q (oBi j j j j)<|nl)<|us<|gc h j iNe (fun hc1 h=>?_) fun hc1 h=>?_
 ·refine gs<|g0 j j (q (oAsI j j)<|nl)<|us<|Go.ret (Unw.ret ?_)
  cases h
  exact fr rF69 j
 ·refine Go.skip<|us<|gs<|gs<|g0 j j (q (oAsI j j)<|nl)<|us<|Go.block<|?_
  obtain ⟨o,hl,h⟩:=bs h
  refine gl c69 j _ (fun (i_5_l4:Int)=>mk [(0,D 2 (W 2 e_S_Face a_0)),(1,D 2 (W 2 e_S_Face b_1)),(5,iv i_5_l4)] []) (fun (o:(Unit ⊕ Bool)) (p:Ex×St)=>match o with | (.inl _)=>p.1= .exit 0∧p.2.norm ([],[])=mk [] [] | (.inr r2)=>p.1= .ret∧fin Tryz.prog cfg 69 Tryz.f69 [.im 2 false [W 2 e_S_Face a_0],.im 2 false [W 2 e_S_Face b_1]] p.2=some (B0 [(false,[.im 0 (V r2)])])) hl (by kernel_rfl) ?_ ?_ ?_
  ·intro o p hp e
   rcases o with u | r2<;>exact nomatch (hp.1.symm.trans e)
  ·rintro i_5_l4 o h
   unfold laws_eqFaceS_l4 at h
   refine gs<|gs<|g0 j j (q (oMv j j)<|q (oMv j j)<|q (oLnI j j uF39 j)<|q (oBi j j j j)<|nl)<|us<|gc h j iDec (fun hc6 h=>?_) fun hc6 h=>?_
   ·refine Go.skip<|us<|gs<|Go.block<|gs<|?_
    obtain ⟨x19,hx19,h⟩:=bs h
    obtain ⟨x23,hx23,h⟩:=bs h
    obtain ⟨x25,hx25,h⟩:=bs h
    refine gd c69 j j j j (mk [(0,D 2 (W 2 e_S_Face a_0)),(1,D 2 (W 2 e_S_Face b_1)),(5,iv i_5_l4),(26,bv (!x25))] []) (t j j (oMv j j)<|t j j (oMv j j)<|t j j (oIAI j hx19 sF39 j j)<|t j j (oLd (cs:=[.im 2 _,.im 2 _]) j tF187 j j)<|t j j (oMv j j)<|t j j (oMv j j)<|t j j (oIAI j hx23 sF39 j j)<|t j j (oLd (cs:=[.im 2 _,.im 2 _]) j tF187 j j)<|sS (dN z69 j (oCa (xs:=[.v true [.im 2 _,.im 2 _],.v true [.im 2 _,.im 2 _]]) (vs:=[(false,[.im 0 _])]) (v:=.v false [.im 0 _]) (L_laws_eqFace hx25) (.inl j) j kF124_187_187 j (ppC j (ppC j pp0)) j j pb0 j j j)) trivial (t j j (oUn j j j)<|sD (by kernel_rfl)))<|us<|?_
    by_cases hc7:x25=true
    ·rw [if_pos hc7] at h
     refine gF j (nF (iR.2 hc7))<|Go.skip<|Unw.blk<|us<|g0 j j (q (oMv j j)<|q (oBi j j j j)<|q (oAsI j j)<|nl)<|Unw.nil<|?_
     cases h
     exact ⟨j,(by kernel_rfl)⟩
    ·rw [if_neg hc7] at h
     refine gT j (nT (byF iR hc7))<|gs<|g0 j j (q (oAsI j j)<|nl)<|us<|Go.ret (Unw.ret ?_)
     cases h
     exact ⟨j,(fo rF69 j)⟩
   ·refine Go.exit<|ux<|Unw.nil<|?_
    cases h
    exact ⟨j,(by kernel_rfl)⟩
  ·rintro ⟨e,st⟩ hp
   rcases o with u | r2
   ·dsimp only at h
    obtain ⟨he,hst⟩:=hp
    obtain rfl:e= .exit 0:=he
    refine Unw.blkx<|us<|gs<|g2 c69 j j hst (q (oAsI j j)<|nl)<|us<|Go.ret (Unw.ret ?_)
    cases h
    exact fr rF69 j
   ·dsimp only at h
    obtain ⟨he,hfin⟩:=hp
    obtain rfl:e= .ret:=he
    cases h
    exact Unw.ret (Fin_ret hfin)
theorem L_laws_eqDrawing {a_0:S_Drawing} {b_1:S_Drawing} {r:Bool} (h:laws_eqDrawing a_0 b_1=some r):FX 20 [.im 2 true (u_S_Drawing a_0),.im 2 true (u_S_Drawing b_1)] (B0 [(false,[.im 0 (V r)])]):=by
 unfold laws_eqDrawing at h
 refine gn 27 Tryz.func20 rfl ?_
 refine gs<|g0 j j (q (oBx j tF41 j (tkI (tkI (tkI (tkI tk0)))))<|q (oBx j tF41 j (tkI (tkI (tkI (tkI tk0)))))<|q (oAsI j j)<|nl)<|us<|gs<|gs<|g0 j j (q (oFA (r':=.mp 2 0 0) j fF41_0 j j)<|q (oLd (cs:=[.im 0 _]) j tF2 j j)<|q (oFA (r':=.mp 3 0 0) j fF41_0 j j)<|q (oLd (cs:=[.im 0 _]) j tF2 j j)<|q (oBi j j j j)<|nl)<|us<|gc h j iNe (fun hc1 h=>?_) fun hc1 h=>?_
 ·refine gs<|g0 j j (q (oAsI j j)<|nl)<|us<|Go.ret (Unw.ret ?_)
  cases h
  exact fr rF20 j
 ·refine Go.skip<|us<|gs<|gs<|g0 j j (q (oFA (r':=.mp 2 0 1) j fF41_1 j j)<|q (oLd (cs:=[.im 0 _]) j tF2 j j)<|q (oFA (r':=.mp 3 0 1) j fF41_1 j j)<|q (oLd (cs:=[.im 0 _]) j tF2 j j)<|q (oBi j j j j)<|nl)<|us<|gc h j iNe (fun hc2 h=>?_) fun hc2 h=>?_
  ·refine gs<|g0 j j (q (oAsI j j)<|nl)<|us<|Go.ret (Unw.ret ?_)
   cases h
   exact fr rF20 j
  ·refine Go.skip<|us<|gs<|gs<|?_
   obtain ⟨x19,hx19,h⟩:=bs h
   refine g0 j j (q (oFA (r':=.mp 2 0 2) j fF41_2 j j)<|q (oLd (cs:=[.im 2 _]) j tF38 j j)<|q (oFA (r':=.mp 3 0 2) j fF41_2 j j)<|q (oLd (cs:=[.im 2 _]) j tF38 j j)<|q (oCa (xs:=[.v false [.im 2 _],.v false [.im 2 _]]) (vs:=[(false,[.im 0 _])]) (v:=.v false [.im 0 _]) (L_laws_eqPointS hx19) (.inl j) j kF68_38_38 j (ppC j (ppC j pp0)) j j pb0 j j j)<|q (oUn j j j)<|nl)<|us<|?_
   by_cases hc3:x19=true
   ·rw [if_pos hc3] at h
    refine gF j (nF (iR.2 hc3))<|Go.skip<|us<|gs<|gs<|?_
    obtain ⟨x25,hx25,h⟩:=bs h
    refine g0 j j (q (oFA (r':=.mp 2 0 3) j fF41_3 j j)<|q (oLd (cs:=[.im 2 _]) j tF39 j j)<|q (oFA (r':=.mp 3 0 3) j fF41_3 j j)<|q (oLd (cs:=[.im 2 _]) j tF39 j j)<|q (oCa (xs:=[.v false [.im 2 _],.v false [.im 2 _]]) (vs:=[(false,[.im 0 _])]) (v:=.v false [.im 0 _]) (L_laws_eqFaceS hx25) (.inl j) j kF69_39_39 j (ppC j (ppC j pp0)) j j pb0 j j j)<|q (oUn j j j)<|nl)<|us<|?_
    by_cases hc4:x25=true
    ·rw [if_pos hc4] at h
     refine gF j (nF (iR.2 hc4))<|Go.skip<|us<|gs<|g0 j j (q (oAsI j j)<|nl)<|us<|Go.ret (Unw.ret ?_)
     cases h
     exact fr rF20 j
    ·rw [if_neg hc4] at h
     refine gT j (nT (byF iR hc4))<|gs<|g0 j j (q (oAsI j j)<|nl)<|us<|Go.ret (Unw.ret ?_)
     cases h
     exact fr rF20 j
   ·rw [if_neg hc3] at h
    refine gT j (nT (byF iR hc3))<|gs<|g0 j j (q (oAsI j j)<|nl)<|us<|Go.ret (Unw.ret ?_)
    cases h
    exact fr rF20 j
theorem L_laws_eqVeneer {a_0:S_Veneer} {b_1:S_Veneer} {r:Bool} (h:laws_eqVeneer a_0 b_1=some r):FX 70 [.im 2 true (u_S_Veneer a_0),.im 2 true (u_S_Veneer b_1)] (B0 [(false,[.im 0 (V r)])]):=by
 unfold laws_eqVeneer at h
 refine gn 20 Tryz.func70 rfl ?_
 refine gs<|g0 j j (q (oBx j tF123 j (tkI (tkI (tkI tk0))))<|q (oBx j tF123 j (tkI (tkI (tkI tk0))))<|q (oAsI j j)<|nl)<|us<|gs<|gs<|g0 j j (q (oFA (r':=.mp 2 0 0) j fF123_0 j j)<|q (oLd (cs:=[.im 0 _]) j tF9 j j)<|q (oFA (r':=.mp 3 0 0) j fF123_0 j j)<|q (oLd (cs:=[.im 0 _]) j tF9 j j)<|q (oBi j j j j)<|nl)<|us<|gc h j (iNot iStr) (fun hc1 h=>?_) fun hc1 h=>?_
 ·refine gs<|g0 j j (q (oAsI j j)<|nl)<|us<|Go.ret (Unw.ret ?_)
  cases h
  exact fr rF70 j
 ·refine Go.skip<|us<|gs<|gs<|g0 j j (q (oFA (r':=.mp 2 0 1) j fF123_1 j j)<|q (oLd (cs:=[.im 0 _]) j tF2 j j)<|q (oFA (r':=.mp 3 0 1) j fF123_1 j j)<|q (oLd (cs:=[.im 0 _]) j tF2 j j)<|q (oBi j j j j)<|nl)<|us<|gc h j iNe (fun hc2 h=>?_) fun hc2 h=>?_
  ·refine gs<|g0 j j (q (oAsI j j)<|nl)<|us<|Go.ret (Unw.ret ?_)
   cases h
   exact fr rF70 j
  ·refine Go.skip<|us<|gs<|gs<|g0 j j (q (oFA (r':=.mp 2 0 2) j fF123_2 j j)<|q (oLd (cs:=[.im 0 _]) j tF2 j j)<|q (oFA (r':=.mp 3 0 2) j fF123_2 j j)<|q (oLd (cs:=[.im 0 _]) j tF2 j j)<|q (oBi j j j j)<|nl)<|us<|gc h j iNe (fun hc3 h=>?_) fun hc3 h=>?_
   ·refine gs<|g0 j j (q (oAsI j j)<|nl)<|us<|Go.ret (Unw.ret ?_)
    cases h
    exact fr rF70 j
   ·refine Go.skip<|us<|gs<|g0 j j (q (oAsI j j)<|nl)<|us<|Go.ret (Unw.ret ?_)
    cases h
    exact fr rF70 j
theorem L_laws_eqVeneerS {a_0:(List S_Veneer)} {b_1:(List S_Veneer)} {r:Bool} (h:laws_eqVeneerS a_0 b_1=some r):FX 21 [.im 2 false [W 3 e_S_Veneer a_0],.im 2 false [W 3 e_S_Veneer b_1]] (B0 [(false,[.im 0 (V r)])]):=by
 unfold laws_eqVeneerS at h
 refine gn 27 Tryz.func21 rfl ?_
 refine gs<|g0 j j (q (oAsI j j)<|nl)<|us<|gs<|gs<|g0 j j (q (oMv j j)<|q (oLnI j j uF42 j)<|q (oMv j j)<|q (oLnI j j uF42 j)<|q (oBi j j j j)<|nl)<|us<|gc h j iNe (fun hc1 h=>?_) fun hc1 h=>?_
 ·refine gs<|g0 j j (q (oAsI j j)<|nl)<|us<|Go.ret (Unw.ret ?_)
  cases h
  exact fr rF21 j
 ·refine Go.skip<|us<|gs<|gs<|g0 j j (q (oAsI j j)<|nl)<|us<|Go.block<|?_
  obtain ⟨o,hl,h⟩:=bs h
  refine gl c21 j _ (fun (i_5_l4:Int)=>mk [(0,D 2 (W 3 e_S_Veneer a_0)),(1,D 2 (W 3 e_S_Veneer b_1)),(5,iv i_5_l4)] []) (fun (o:(Unit ⊕ Bool)) (p:Ex×St)=>match o with | (.inl _)=>p.1= .exit 0∧p.2.norm ([],[])=mk [] [] | (.inr r2)=>p.1= .ret∧fin Tryz.prog cfg 21 Tryz.f21 [.im 2 false [W 3 e_S_Veneer a_0],.im 2 false [W 3 e_S_Veneer b_1]] p.2=some (B0 [(false,[.im 0 (V r2)])])) hl (by kernel_rfl) ?_ ?_ ?_
  ·intro o p hp e
   rcases o with u | r2<;>exact nomatch (hp.1.symm.trans e)
  ·rintro i_5_l4 o h
   unfold laws_eqVeneerS_l4 at h
   refine gs<|gs<|g0 j j (q (oMv j j)<|q (oMv j j)<|q (oLnI j j uF42 j)<|q (oBi j j j j)<|nl)<|us<|gc h j iDec (fun hc6 h=>?_) fun hc6 h=>?_
   ·refine Go.skip<|us<|gs<|Go.block<|gs<|?_
    obtain ⟨x19,hx19,h⟩:=bs h
    obtain ⟨x23,hx23,h⟩:=bs h
    obtain ⟨x25,hx25,h⟩:=bs h
    refine gd c21 j j j j (mk [(0,D 2 (W 3 e_S_Veneer a_0)),(1,D 2 (W 3 e_S_Veneer b_1)),(5,iv i_5_l4),(26,bv (!x25))] []) (t j j (oMv j j)<|t j j (oMv j j)<|t j j (oIAI j hx19 sF42 j j)<|t j j (oLd (cs:=[.im 2 _,.im 2 _,.im 2 _]) j tF123 j j)<|t j j (oMv j j)<|t j j (oMv j j)<|t j j (oIAI j hx23 sF42 j j)<|t j j (oLd (cs:=[.im 2 _,.im 2 _,.im 2 _]) j tF123 j j)<|sS (dN z21 j (oCa (xs:=[.v true [.im 2 _,.im 2 _,.im 2 _],.v true [.im 2 _,.im 2 _,.im 2 _]]) (vs:=[(false,[.im 0 _])]) (v:=.v false [.im 0 _]) (L_laws_eqVeneer hx25) (.inl j) j kF70_123_123 j (ppC j (ppC j pp0)) j j pb0 j j j)) trivial (t j j (oUn j j j)<|sD (by kernel_rfl)))<|us<|?_
    by_cases hc7:x25=true
    ·rw [if_pos hc7] at h
     refine gF j (nF (iR.2 hc7))<|Go.skip<|Unw.blk<|us<|g0 j j (q (oMv j j)<|q (oBi j j j j)<|q (oAsI j j)<|nl)<|Unw.nil<|?_
     cases h
     exact ⟨j,(by kernel_rfl)⟩
    ·rw [if_neg hc7] at h
     refine gT j (nT (byF iR hc7))<|gs<|g0 j j (q (oAsI j j)<|nl)<|us<|Go.ret (Unw.ret ?_)
     cases h
     exact ⟨j,(fo rF21 j)⟩
   ·refine Go.exit<|ux<|Unw.nil<|?_
    cases h
    exact ⟨j,(by kernel_rfl)⟩
  ·rintro ⟨e,st⟩ hp
   rcases o with u | r2
   ·dsimp only at h
    obtain ⟨he,hst⟩:=hp
    obtain rfl:e= .exit 0:=he
    refine Unw.blkx<|us<|gs<|g2 c21 j j hst (q (oAsI j j)<|nl)<|us<|Go.ret (Unw.ret ?_)
    cases h
    exact fr rF21 j
   ·dsimp only at h
    obtain ⟨he,hfin⟩:=hp
    obtain rfl:e= .ret:=he
    cases h
    exact Unw.ret (Fin_ret hfin)
theorem L_laws_eqPicture {a_0:S_Picture} {b_1:S_Picture} {r:Bool} (h:laws_eqPicture a_0 b_1=some r):FX 51 [.im 2 true (u_S_Picture a_0),.im 2 true (u_S_Picture b_1)] (B0 [(false,[.im 0 (V r)])]):=by
 unfold laws_eqPicture at h
 refine gn 17 Tryz.func51 rfl ?_
 refine gs<|g0 j j (q (oBx j tF44 j (tkI (tkI (tkI (tkI (tkI tk0))))))<|q (oBx j tF44 j (tkI (tkI (tkI (tkI (tkI tk0))))))<|q (oAsI j j)<|nl)<|us<|gs<|gs<|?_
 obtain ⟨x9,hx9,h⟩:=bs h
 refine g1 j j (mk [(2,M 2),(3,M 3)] [(2,Oa (G 2 (u_S_Picture a_0))),(3,Oa (G 2 (u_S_Picture b_1)))]) (q (oFA (r':=.mp 2 0 0) j fF44_0 j j)<|q (oLd (cs:=[.im 0 _,.im 0 _,.im 2 _,.im 2 _]) j tF41 j j)<|q (oFA (r':=.mp 3 0 0) j fF44_0 j j)<|q (oLd (cs:=[.im 0 _,.im 0 _,.im 2 _,.im 2 _]) j tF41 j j)<|q (oCa (xs:=[.v true [.im 0 _,.im 0 _,.im 2 _,.im 2 _],.v true [.im 0 _,.im 0 _,.im 2 _,.im 2 _]]) (vs:=[(false,[.im 0 _])]) (v:=.v false [.im 0 _]) (L_laws_eqDrawing hx9) (.inl j) j kF20_41_41 j (ppC j (ppC j pp0)) j j pb0 j j j)<|q (oUn j j j)<|nl)<|us<|?_
 by_cases hc1:x9=true
 ·rw [if_pos hc1] at h
  refine gF j (nF (iR.2 hc1))<|Go.skip<|us<|gs<|gs<|?_
  obtain ⟨x15,hx15,h⟩:=bs h
  refine g0 j j (q (oFA (r':=.mp 2 0 4) j fF44_1 j j)<|q (oLd (cs:=[.im 2 _]) j tF42 j j)<|q (oFA (r':=.mp 3 0 4) j fF44_1 j j)<|q (oLd (cs:=[.im 2 _]) j tF42 j j)<|q (oCa (xs:=[.v false [.im 2 _],.v false [.im 2 _]]) (vs:=[(false,[.im 0 _])]) (v:=.v false [.im 0 _]) (L_laws_eqVeneerS hx15) (.inl j) j kF21_42_42 j (ppC j (ppC j pp0)) j j pb0 j j j)<|q (oUn j j j)<|nl)<|us<|?_
  by_cases hc2:x15=true
  ·rw [if_pos hc2] at h
   refine gF j (nF (iR.2 hc2))<|Go.skip<|us<|gs<|g0 j j (q (oAsI j j)<|nl)<|us<|Go.ret (Unw.ret ?_)
   cases h
   exact fr rF51 j
  ·rw [if_neg hc2] at h
   refine gT j (nT (byF iR hc2))<|gs<|g0 j j (q (oAsI j j)<|nl)<|us<|Go.ret (Unw.ret ?_)
   cases h
   exact fr rF51 j
 ·rw [if_neg hc1] at h
  refine gT j (nT (byF iR hc1))<|gs<|g0 j j (q (oAsI j j)<|nl)<|us<|Go.ret (Unw.ret ?_)
  cases h
  exact fr rF51 j
theorem L_laws_eqBox {a_0:S_Box} {b_1:S_Box} {r:Bool} (h:laws_eqBox a_0 b_1=some r):FX 182 [.im 2 true (u_S_Box a_0),.im 2 true (u_S_Box b_1)] (B0 [(false,[.im 0 (V r)])]):=by
 unfold laws_eqBox at h
 refine gn 25 Tryz.func182 rfl ?_
 refine gs<|g0 j j (q (oBx j tF234 j (tkI (tkI (tkI (tkI tk0)))))<|q (oBx j tF234 j (tkI (tkI (tkI (tkI tk0)))))<|q (oAsI j j)<|nl)<|us<|gs<|gs<|g0 j j (q (oFA (r':=.mp 2 0 0) j fF234_0 j j)<|q (oLd (cs:=[.im 0 _]) j tF2 j j)<|q (oFA (r':=.mp 3 0 0) j fF234_0 j j)<|q (oLd (cs:=[.im 0 _]) j tF2 j j)<|q (oBi j j j j)<|nl)<|us<|gc h j iNe (fun hc1 h=>?_) fun hc1 h=>?_
 ·refine gs<|g0 j j (q (oAsI j j)<|nl)<|us<|Go.ret (Unw.ret ?_)
  cases h
  exact fr rF182 j
 ·refine Go.skip<|us<|gs<|gs<|g0 j j (q (oFA (r':=.mp 2 0 1) j fF234_1 j j)<|q (oLd (cs:=[.im 0 _]) j tF2 j j)<|q (oFA (r':=.mp 3 0 1) j fF234_1 j j)<|q (oLd (cs:=[.im 0 _]) j tF2 j j)<|q (oBi j j j j)<|nl)<|us<|gc h j iNe (fun hc2 h=>?_) fun hc2 h=>?_
  ·refine gs<|g0 j j (q (oAsI j j)<|nl)<|us<|Go.ret (Unw.ret ?_)
   cases h
   exact fr rF182 j
  ·refine Go.skip<|us<|gs<|gs<|g0 j j (q (oFA (r':=.mp 2 0 2) j fF234_2 j j)<|q (oLd (cs:=[.im 0 _]) j tF2 j j)<|q (oFA (r':=.mp 3 0 2) j fF234_2 j j)<|q (oLd (cs:=[.im 0 _]) j tF2 j j)<|q (oBi j j j j)<|nl)<|us<|gc h j iNe (fun hc3 h=>?_) fun hc3 h=>?_
   ·refine gs<|g0 j j (q (oAsI j j)<|nl)<|us<|Go.ret (Unw.ret ?_)
    cases h
    exact fr rF182 j
   ·refine Go.skip<|us<|gs<|gs<|g0 j j (q (oFA (r':=.mp 2 0 3) j fF234_3 j j)<|q (oLd (cs:=[.im 0 _]) j tF2 j j)<|q (oFA (r':=.mp 3 0 3) j fF234_3 j j)<|q (oLd (cs:=[.im 0 _]) j tF2 j j)<|q (oBi j j j j)<|nl)<|us<|gc h j iNe (fun hc4 h=>?_) fun hc4 h=>?_
    ·refine gs<|g0 j j (q (oAsI j j)<|nl)<|us<|Go.ret (Unw.ret ?_)
     cases h
     exact fr rF182 j
    ·refine Go.skip<|us<|gs<|g0 j j (q (oAsI j j)<|nl)<|us<|Go.ret (Unw.ret ?_)
     cases h
     exact fr rF182 j
theorem L_laws_eqBoxS {a_0:(List S_Box)} {b_1:(List S_Box)} {r:Bool} (h:laws_eqBoxS a_0 b_1=some r):FX 154 [.im 2 false [W 4 e_S_Box a_0],.im 2 false [W 4 e_S_Box b_1]] (B0 [(false,[.im 0 (V r)])]):=by
 unfold laws_eqBoxS at h
 refine gn 27 Tryz.func154 rfl ?_
 refine gs<|g0 j j (q (oAsI j j)<|nl)<|us<|gs<|gs<|g0 j j (q (oMv j j)<|q (oLnI j j uF162 j)<|q (oMv j j)<|q (oLnI j j uF162 j)<|q (oBi j j j j)<|nl)<|us<|gc h j iNe (fun hc1 h=>?_) fun hc1 h=>?_
 ·refine gs<|g0 j j (q (oAsI j j)<|nl)<|us<|Go.ret (Unw.ret ?_)
  cases h
  exact fr rF154 j
 ·refine Go.skip<|us<|gs<|gs<|g0 j j (q (oAsI j j)<|nl)<|us<|Go.block<|?_
  obtain ⟨o,hl,h⟩:=bs h
  refine gl c154 j _ (fun (i_5_l4:Int)=>mk [(0,D 2 (W 4 e_S_Box a_0)),(1,D 2 (W 4 e_S_Box b_1)),(5,iv i_5_l4)] []) (fun (o:(Unit ⊕ Bool)) (p:Ex×St)=>match o with | (.inl _)=>p.1= .exit 0∧p.2.norm ([],[])=mk [] [] | (.inr r2)=>p.1= .ret∧fin Tryz.prog cfg 154 Tryz.f154 [.im 2 false [W 4 e_S_Box a_0],.im 2 false [W 4 e_S_Box b_1]] p.2=some (B0 [(false,[.im 0 (V r2)])])) hl (by kernel_rfl) ?_ ?_ ?_
  ·intro o p hp e
   rcases o with u | r2<;>exact nomatch (hp.1.symm.trans e)
  ·rintro i_5_l4 o h
   unfold laws_eqBoxS_l4 at h
   refine gs<|gs<|g0 j j (q (oMv j j)<|q (oMv j j)<|q (oLnI j j uF162 j)<|q (oBi j j j j)<|nl)<|us<|gc h j iDec (fun hc6 h=>?_) fun hc6 h=>?_
   ·refine Go.skip<|us<|gs<|Go.block<|gs<|?_
    obtain ⟨x19,hx19,h⟩:=bs h
    obtain ⟨x23,hx23,h⟩:=bs h
    obtain ⟨x25,hx25,h⟩:=bs h
    refine gd c154 j j j j (mk [(0,D 2 (W 4 e_S_Box a_0)),(1,D 2 (W 4 e_S_Box b_1)),(5,iv i_5_l4),(26,bv (!x25))] []) (t j j (oMv j j)<|t j j (oMv j j)<|t j j (oIAI j hx19 sF162 j j)<|t j j (oLd (cs:=[.im 2 _,.im 2 _,.im 2 _,.im 2 _]) j tF234 j j)<|t j j (oMv j j)<|t j j (oMv j j)<|t j j (oIAI j hx23 sF162 j j)<|t j j (oLd (cs:=[.im 2 _,.im 2 _,.im 2 _,.im 2 _]) j tF234 j j)<|sS (dN z154 j (oCa (xs:=[.v true [.im 2 _,.im 2 _,.im 2 _,.im 2 _],.v true [.im 2 _,.im 2 _,.im 2 _,.im 2 _]]) (vs:=[(false,[.im 0 _])]) (v:=.v false [.im 0 _]) (L_laws_eqBox hx25) (.inl j) j kF182_234_234 j (ppC j (ppC j pp0)) j j pb0 j j j)) trivial (t j j (oUn j j j)<|sD (by kernel_rfl)))<|us<|?_
    by_cases hc7:x25=true
    ·rw [if_pos hc7] at h
     refine gF j (nF (iR.2 hc7))<|Go.skip<|Unw.blk<|us<|g0 j j (q (oMv j j)<|q (oBi j j j j)<|q (oAsI j j)<|nl)<|Unw.nil<|?_
     cases h
     exact ⟨j,(by kernel_rfl)⟩
    ·rw [if_neg hc7] at h
     refine gT j (nT (byF iR hc7))<|gs<|g0 j j (q (oAsI j j)<|nl)<|us<|Go.ret (Unw.ret ?_)
     cases h
     exact ⟨j,(fo rF154 j)⟩
   ·refine Go.exit<|ux<|Unw.nil<|?_
    cases h
    exact ⟨j,(by kernel_rfl)⟩
  ·rintro ⟨e,st⟩ hp
   rcases o with u | r2
   ·dsimp only at h
    obtain ⟨he,hst⟩:=hp
    obtain rfl:e= .exit 0:=he
    refine Unw.blkx<|us<|gs<|g2 c154 j j hst (q (oAsI j j)<|nl)<|us<|Go.ret (Unw.ret ?_)
    cases h
    exact fr rF154 j
   ·dsimp only at h
    obtain ⟨he,hfin⟩:=hp
    obtain rfl:e= .ret:=he
    cases h
    exact Unw.ret (Fin_ret hfin)
theorem L_laws_eqLeaf {a_0:S_Leaf} {b_1:S_Leaf} {r:Bool} (h:laws_eqLeaf a_0 b_1=some r):FX 103 [.im 2 true (u_S_Leaf a_0),.im 2 true (u_S_Leaf b_1)] (B0 [(false,[.im 0 (V r)])]):=by
 unfold laws_eqLeaf at h
 refine gn 42 Tryz.func103 rfl ?_
 refine gs<|g0 j j (q (oBx j tF164 j (tkI (tkI (tkI (tkI (tkI (tkI (tkI (tkI (tkI tk0))))))))))<|q (oBx j tF164 j (tkI (tkI (tkI (tkI (tkI (tkI (tkI (tkI (tkI tk0))))))))))<|q (oAsI j j)<|nl)<|us<|gs<|gs<|g1 j j (mk [(2,M 2),(3,M 3)] [(2,Oa (G 2 (u_S_Leaf a_0))),(3,Oa (G 2 (u_S_Leaf b_1)))]) (q (oFA (r':=.mp 2 0 0) j fF164_0 j j)<|q (oLd (cs:=[.im 0 _]) j tF9 j j)<|q (oFA (r':=.mp 3 0 0) j fF164_0 j j)<|q (oLd (cs:=[.im 0 _]) j tF9 j j)<|q (oBi j j j j)<|nl)<|us<|gc h j (iNot iStr) (fun hc1 h=>?_) fun hc1 h=>?_
 ·refine gs<|g0 j j (q (oAsI j j)<|nl)<|us<|Go.ret (Unw.ret ?_)
  cases h
  exact fr rF103 j
 ·refine Go.skip<|us<|gs<|gs<|g0 j j (q (oFA (r':=.mp 2 0 1) j fF164_1 j j)<|q (oLd (cs:=[.im 0 _]) j tF9 j j)<|q (oFA (r':=.mp 3 0 1) j fF164_1 j j)<|q (oLd (cs:=[.im 0 _]) j tF9 j j)<|q (oBi j j j j)<|nl)<|us<|gc h j (iNot iStr) (fun hc2 h=>?_) fun hc2 h=>?_
  ·refine gs<|g0 j j (q (oAsI j j)<|nl)<|us<|Go.ret (Unw.ret ?_)
   cases h
   exact fr rF103 j
  ·refine Go.skip<|us<|gs<|gs<|g0 j j (q (oFA (r':=.mp 2 0 2) j fF164_2 j j)<|q (oLd (cs:=[.im 0 _]) j tF2 j j)<|q (oFA (r':=.mp 3 0 2) j fF164_2 j j)<|q (oLd (cs:=[.im 0 _]) j tF2 j j)<|q (oBi j j j j)<|nl)<|us<|gc h j iNe (fun hc3 h=>?_) fun hc3 h=>?_
   ·refine gs<|g0 j j (q (oAsI j j)<|nl)<|us<|Go.ret (Unw.ret ?_)
    cases h
    exact fr rF103 j
   ·refine Go.skip<|us<|gs<|gs<|?_
    obtain ⟨x24,hx24,h⟩:=bs h
    refine g0 j j (q (oFA (r':=.mp 2 0 3) j fF164_3 j j)<|q (oLd (cs:=[.im 0 _,.im 0 _,.im 0 _]) j tF123 j j)<|q (oFA (r':=.mp 3 0 3) j fF164_3 j j)<|q (oLd (cs:=[.im 0 _,.im 0 _,.im 0 _]) j tF123 j j)<|q (oCa (xs:=[.v true [.im 0 _,.im 0 _,.im 0 _],.v true [.im 0 _,.im 0 _,.im 0 _]]) (vs:=[(false,[.im 0 _])]) (v:=.v false [.im 0 _]) (L_laws_eqVeneer hx24) (.inl j) j kF70_123_123 j (ppC j (ppC j pp0)) j j pb0 j j j)<|q (oUn j j j)<|nl)<|us<|?_
    by_cases hc4:x24=true
    ·rw [if_pos hc4] at h
     refine gF j (nF (iR.2 hc4))<|Go.skip<|us<|gs<|gs<|g0 j j (q (oFA (r':=.mp 2 0 6) j fF164_4 j j)<|q (oLd (cs:=[.im 0 _]) j tF2 j j)<|q (oFA (r':=.mp 3 0 6) j fF164_4 j j)<|q (oLd (cs:=[.im 0 _]) j tF2 j j)<|q (oBi j j j j)<|nl)<|us<|gc h j iNe (fun hc5 h=>?_) fun hc5 h=>?_
     ·refine gs<|g0 j j (q (oAsI j j)<|nl)<|us<|Go.ret (Unw.ret ?_)
      cases h
      exact fr rF103 j
     ·refine Go.skip<|us<|gs<|gs<|g0 j j (q (oFA (r':=.mp 2 0 7) j fF164_5 j j)<|q (oLd (cs:=[.im 0 _]) j tF2 j j)<|q (oFA (r':=.mp 3 0 7) j fF164_5 j j)<|q (oLd (cs:=[.im 0 _]) j tF2 j j)<|q (oBi j j j j)<|nl)<|us<|gc h j iNe (fun hc6 h=>?_) fun hc6 h=>?_
      ·refine gs<|g0 j j (q (oAsI j j)<|nl)<|us<|Go.ret (Unw.ret ?_)
       cases h
       exact fr rF103 j
      ·refine Go.skip<|us<|gs<|gs<|?_
       obtain ⟨x40,hx40,h⟩:=bs h
       refine g0 j j (q (oFA (r':=.mp 2 0 8) j fF164_6 j j)<|q (oLd (cs:=[.im 2 _]) j tF162 j j)<|q (oFA (r':=.mp 3 0 8) j fF164_6 j j)<|q (oLd (cs:=[.im 2 _]) j tF162 j j)<|q (oCa (xs:=[.v false [.im 2 _],.v false [.im 2 _]]) (vs:=[(false,[.im 0 _])]) (v:=.v false [.im 0 _]) (L_laws_eqBoxS hx40) (.inl j) j kF154_162_162 j (ppC j (ppC j pp0)) j j pb0 j j j)<|q (oUn j j j)<|nl)<|us<|?_
       by_cases hc7:x40=true
       ·rw [if_pos hc7] at h
        refine gF j (nF (iR.2 hc7))<|Go.skip<|us<|gs<|g0 j j (q (oAsI j j)<|nl)<|us<|Go.ret (Unw.ret ?_)
        cases h
        exact fr rF103 j
       ·rw [if_neg hc7] at h
        refine gT j (nT (byF iR hc7))<|gs<|g0 j j (q (oAsI j j)<|nl)<|us<|Go.ret (Unw.ret ?_)
        cases h
        exact fr rF103 j
    ·rw [if_neg hc4] at h
     refine gT j (nT (byF iR hc4))<|gs<|g0 j j (q (oAsI j j)<|nl)<|us<|Go.ret (Unw.ret ?_)
     cases h
     exact fr rF103 j
theorem L_laws_eqLeafS {a_0:(List S_Leaf)} {b_1:(List S_Leaf)} {r:Bool} (h:laws_eqLeafS a_0 b_1=some r):FX 52 [.im 2 false [W 9 e_S_Leaf a_0],.im 2 false [W 9 e_S_Leaf b_1]] (B0 [(false,[.im 0 (V r)])]):=by
 unfold laws_eqLeafS at h
 refine gn 27 Tryz.func52 rfl ?_
 refine gs<|g0 j j (q (oAsI j j)<|nl)<|us<|gs<|gs<|g0 j j (q (oMv j j)<|q (oLnI j j uF45 j)<|q (oMv j j)<|q (oLnI j j uF45 j)<|q (oBi j j j j)<|nl)<|us<|gc h j iNe (fun hc1 h=>?_) fun hc1 h=>?_
 ·refine gs<|g0 j j (q (oAsI j j)<|nl)<|us<|Go.ret (Unw.ret ?_)
  cases h
  exact fr rF52 j
 ·refine Go.skip<|us<|gs<|gs<|g0 j j (q (oAsI j j)<|nl)<|us<|Go.block<|?_
  obtain ⟨o,hl,h⟩:=bs h
  refine gl c52 j _ (fun (i_5_l4:Int)=>mk [(0,D 2 (W 9 e_S_Leaf a_0)),(1,D 2 (W 9 e_S_Leaf b_1)),(5,iv i_5_l4)] []) (fun (o:(Unit ⊕ Bool)) (p:Ex×St)=>match o with | (.inl _)=>p.1= .exit 0∧p.2.norm ([],[])=mk [] [] | (.inr r2)=>p.1= .ret∧fin Tryz.prog cfg 52 Tryz.f52 [.im 2 false [W 9 e_S_Leaf a_0],.im 2 false [W 9 e_S_Leaf b_1]] p.2=some (B0 [(false,[.im 0 (V r2)])])) hl (by kernel_rfl) ?_ ?_ ?_
  ·intro o p hp e
   rcases o with u | r2<;>exact nomatch (hp.1.symm.trans e)
  ·rintro i_5_l4 o h
   unfold laws_eqLeafS_l4 at h
   refine gs<|gs<|g0 j j (q (oMv j j)<|q (oMv j j)<|q (oLnI j j uF45 j)<|q (oBi j j j j)<|nl)<|us<|gc h j iDec (fun hc6 h=>?_) fun hc6 h=>?_
   ·refine Go.skip<|us<|gs<|Go.block<|gs<|?_
    obtain ⟨x19,hx19,h⟩:=bs h
    obtain ⟨x23,hx23,h⟩:=bs h
    obtain ⟨x25,hx25,h⟩:=bs h
    refine gd c52 j j j j (mk [(0,D 2 (W 9 e_S_Leaf a_0)),(1,D 2 (W 9 e_S_Leaf b_1)),(5,iv i_5_l4),(26,bv (!x25))] []) (t j j (oMv j j)<|t j j (oMv j j)<|t j j (oIAI j hx19 sF45 j j)<|t j j (oLd (cs:=[.im 2 _,.im 2 _,.im 2 _,.im 2 _,.im 2 _,.im 2 _,.im 2 _,.im 2 _,.im 2 _]) j tF164 j j)<|t j j (oMv j j)<|t j j (oMv j j)<|t j j (oIAI j hx23 sF45 j j)<|t j j (oLd (cs:=[.im 2 _,.im 2 _,.im 2 _,.im 2 _,.im 2 _,.im 2 _,.im 2 _,.im 2 _,.im 2 _]) j tF164 j j)<|sS (dN z52 j (oCa (xs:=[.v true [.im 2 _,.im 2 _,.im 2 _,.im 2 _,.im 2 _,.im 2 _,.im 2 _,.im 2 _,.im 2 _],.v true [.im 2 _,.im 2 _,.im 2 _,.im 2 _,.im 2 _,.im 2 _,.im 2 _,.im 2 _,.im 2 _]]) (vs:=[(false,[.im 0 _])]) (v:=.v false [.im 0 _]) (L_laws_eqLeaf hx25) (.inl j) j kF103_164_164 j (ppC j (ppC j pp0)) j j pb0 j j j)) trivial (t j j (oUn j j j)<|sD (by kernel_rfl)))<|us<|?_
    by_cases hc7:x25=true
    ·rw [if_pos hc7] at h
     refine gF j (nF (iR.2 hc7))<|Go.skip<|Unw.blk<|us<|g0 j j (q (oMv j j)<|q (oBi j j j j)<|q (oAsI j j)<|nl)<|Unw.nil<|?_
     cases h
     exact ⟨j,(by kernel_rfl)⟩
    ·rw [if_neg hc7] at h
     refine gT j (nT (byF iR hc7))<|gs<|g0 j j (q (oAsI j j)<|nl)<|us<|Go.ret (Unw.ret ?_)
     cases h
     exact ⟨j,(fo rF52 j)⟩
   ·refine Go.exit<|ux<|Unw.nil<|?_
    cases h
    exact ⟨j,(by kernel_rfl)⟩
  ·rintro ⟨e,st⟩ hp
   rcases o with u | r2
   ·dsimp only at h
    obtain ⟨he,hst⟩:=hp
    obtain rfl:e= .exit 0:=he
    refine Unw.blkx<|us<|gs<|g2 c52 j j hst (q (oAsI j j)<|nl)<|us<|Go.ret (Unw.ret ?_)
    cases h
    exact fr rF52 j
   ·dsimp only at h
    obtain ⟨he,hfin⟩:=hp
    obtain rfl:e= .ret:=he
    cases h
    exact Unw.ret (Fin_ret hfin)
theorem L_laws_eqPlacement {a_0:S_Placement} {b_1:S_Placement} {r:Bool} (h:laws_eqPlacement a_0 b_1=some r):FX 104 [.im 2 true (u_S_Placement a_0),.im 2 true (u_S_Placement b_1)] (B0 [(false,[.im 0 (V r)])]):=by
 unfold laws_eqPlacement at h
 refine gn 30 Tryz.func104 rfl ?_
 refine gs<|g0 j j (q (oBx j tF101 j (tkI (tkI (tkI (tkI (tkI tk0))))))<|q (oBx j tF101 j (tkI (tkI (tkI (tkI (tkI tk0))))))<|q (oAsI j j)<|nl)<|us<|gs<|gs<|g1 j j (mk [(2,M 2),(3,M 3)] [(2,Oa (G 0 (u_S_Placement a_0))),(3,Oa (G 0 (u_S_Placement b_1)))]) (q (oFA (r':=.mp 2 0 0) j fF101_0 j j)<|q (oLd (cs:=[.im 0 _]) j tF2 j j)<|q (oFA (r':=.mp 3 0 0) j fF101_0 j j)<|q (oLd (cs:=[.im 0 _]) j tF2 j j)<|q (oBi j j j j)<|nl)<|us<|gc h j iNe (fun hc1 h=>?_) fun hc1 h=>?_
 ·refine gs<|g0 j j (q (oAsI j j)<|nl)<|us<|Go.ret (Unw.ret ?_)
  cases h
  exact fr rF104 j
 ·refine Go.skip<|us<|gs<|gs<|g0 j j (q (oFA (r':=.mp 2 0 1) j fF101_1 j j)<|q (oLd (cs:=[.im 0 _]) j tF2 j j)<|q (oFA (r':=.mp 3 0 1) j fF101_1 j j)<|q (oLd (cs:=[.im 0 _]) j tF2 j j)<|q (oBi j j j j)<|nl)<|us<|gc h j iNe (fun hc2 h=>?_) fun hc2 h=>?_
  ·refine gs<|g0 j j (q (oAsI j j)<|nl)<|us<|Go.ret (Unw.ret ?_)
   cases h
   exact fr rF104 j
  ·refine Go.skip<|us<|gs<|gs<|g0 j j (q (oFA (r':=.mp 2 0 2) j fF101_2 j j)<|q (oLd (cs:=[.im 0 _]) j tF2 j j)<|q (oFA (r':=.mp 3 0 2) j fF101_2 j j)<|q (oLd (cs:=[.im 0 _]) j tF2 j j)<|q (oBi j j j j)<|nl)<|us<|gc h j iNe (fun hc3 h=>?_) fun hc3 h=>?_
   ·refine gs<|g0 j j (q (oAsI j j)<|nl)<|us<|Go.ret (Unw.ret ?_)
    cases h
    exact fr rF104 j
   ·refine Go.skip<|us<|gs<|gs<|g0 j j (q (oFA (r':=.mp 2 0 3) j fF101_3 j j)<|q (oLd (cs:=[.im 0 _]) j tF2 j j)<|q (oFA (r':=.mp 3 0 3) j fF101_3 j j)<|q (oLd (cs:=[.im 0 _]) j tF2 j j)<|q (oBi j j j j)<|nl)<|us<|gc h j iNe (fun hc4 h=>?_) fun hc4 h=>?_
    ·refine gs<|g0 j j (q (oAsI j j)<|nl)<|us<|Go.ret (Unw.ret ?_)
     cases h
     exact fr rF104 j
    ·refine Go.skip<|us<|gs<|gs<|g0 j j (q (oFA (r':=.mp 2 0 4) j fF101_4 j j)<|q (oLd (cs:=[.im 0 _]) j tF2 j j)<|q (oFA (r':=.mp 3 0 4) j fF101_4 j j)<|q (oLd (cs:=[.im 0 _]) j tF2 j j)<|q (oBi j j j j)<|nl)<|us<|gc h j iNe (fun hc5 h=>?_) fun hc5 h=>?_
     ·refine gs<|g0 j j (q (oAsI j j)<|nl)<|us<|Go.ret (Unw.ret ?_)
      cases h
      exact fr rF104 j
     ·refine Go.skip<|us<|gs<|g0 j j (q (oAsI j j)<|nl)<|us<|Go.ret (Unw.ret ?_)
      cases h
      exact fr rF104 j
theorem L_laws_eqPlacementS {a_0:(List S_Placement)} {b_1:(List S_Placement)} {r:Bool} (h:laws_eqPlacementS a_0 b_1=some r):FX 53 [.im 2 false [W 5 e_S_Placement a_0],.im 2 false [W 5 e_S_Placement b_1]] (B0 [(false,[.im 0 (V r)])]):=by
 unfold laws_eqPlacementS at h
 refine gn 27 Tryz.func53 rfl ?_
 refine gs<|g0 j j (q (oAsI j j)<|nl)<|us<|gs<|gs<|g0 j j (q (oMv j j)<|q (oLnI j j uF46 j)<|q (oMv j j)<|q (oLnI j j uF46 j)<|q (oBi j j j j)<|nl)<|us<|gc h j iNe (fun hc1 h=>?_) fun hc1 h=>?_
 ·refine gs<|g0 j j (q (oAsI j j)<|nl)<|us<|Go.ret (Unw.ret ?_)
  cases h
  exact fr rF53 j
 ·refine Go.skip<|us<|gs<|gs<|g0 j j (q (oAsI j j)<|nl)<|us<|Go.block<|?_
  obtain ⟨o,hl,h⟩:=bs h
  refine gl c53 j _ (fun (i_5_l4:Int)=>mk [(0,D 2 (W 5 e_S_Placement a_0)),(1,D 2 (W 5 e_S_Placement b_1)),(5,iv i_5_l4)] []) (fun (o:(Unit ⊕ Bool)) (p:Ex×St)=>match o with | (.inl _)=>p.1= .exit 0∧p.2.norm ([],[])=mk [] [] | (.inr r2)=>p.1= .ret∧fin Tryz.prog cfg 53 Tryz.f53 [.im 2 false [W 5 e_S_Placement a_0],.im 2 false [W 5 e_S_Placement b_1]] p.2=some (B0 [(false,[.im 0 (V r2)])])) hl (by kernel_rfl) ?_ ?_ ?_
  ·intro o p hp e
   rcases o with u | r2<;>exact nomatch (hp.1.symm.trans e)
  ·rintro i_5_l4 o h
   unfold laws_eqPlacementS_l4 at h
   refine gs<|gs<|g0 j j (q (oMv j j)<|q (oMv j j)<|q (oLnI j j uF46 j)<|q (oBi j j j j)<|nl)<|us<|gc h j iDec (fun hc6 h=>?_) fun hc6 h=>?_
   ·refine Go.skip<|us<|gs<|Go.block<|gs<|?_
    obtain ⟨x19,hx19,h⟩:=bs h
    obtain ⟨x23,hx23,h⟩:=bs h
    obtain ⟨x25,hx25,h⟩:=bs h
    refine gd c53 j j j j (mk [(0,D 2 (W 5 e_S_Placement a_0)),(1,D 2 (W 5 e_S_Placement b_1)),(5,iv i_5_l4),(26,bv (!x25))] []) (t j j (oMv j j)<|t j j (oMv j j)<|t j j (oIAI j hx19 sF46 j j)<|t j j (oLd (cs:=[.im 2 _,.im 2 _,.im 2 _,.im 2 _,.im 2 _]) j tF101 j j)<|t j j (oMv j j)<|t j j (oMv j j)<|t j j (oIAI j hx23 sF46 j j)<|t j j (oLd (cs:=[.im 2 _,.im 2 _,.im 2 _,.im 2 _,.im 2 _]) j tF101 j j)<|sS (dN z53 j (oCa (xs:=[.v true [.im 2 _,.im 2 _,.im 2 _,.im 2 _,.im 2 _],.v true [.im 2 _,.im 2 _,.im 2 _,.im 2 _,.im 2 _]]) (vs:=[(false,[.im 0 _])]) (v:=.v false [.im 0 _]) (L_laws_eqPlacement hx25) (.inl j) j kF104_101_101 j (ppC j (ppC j pp0)) j j pb0 j j j)) trivial (t j j (oUn j j j)<|sD (by kernel_rfl)))<|us<|?_
    by_cases hc7:x25=true
    ·rw [if_pos hc7] at h
     refine gF j (nF (iR.2 hc7))<|Go.skip<|Unw.blk<|us<|g0 j j (q (oMv j j)<|q (oBi j j j j)<|q (oAsI j j)<|nl)<|Unw.nil<|?_
     cases h
     exact ⟨j,(by kernel_rfl)⟩
    ·rw [if_neg hc7] at h
     refine gT j (nT (byF iR hc7))<|gs<|g0 j j (q (oAsI j j)<|nl)<|us<|Go.ret (Unw.ret ?_)
     cases h
     exact ⟨j,(fo rF53 j)⟩
   ·refine Go.exit<|ux<|Unw.nil<|?_
    cases h
    exact ⟨j,(by kernel_rfl)⟩
  ·rintro ⟨e,st⟩ hp
   rcases o with u | r2
   ·dsimp only at h
    obtain ⟨he,hst⟩:=hp
    obtain rfl:e= .exit 0:=he
    refine Unw.blkx<|us<|gs<|g2 c53 j j hst (q (oAsI j j)<|nl)<|us<|Go.ret (Unw.ret ?_)
    cases h
    exact fr rF53 j
   ·dsimp only at h
    obtain ⟨he,hfin⟩:=hp
    obtain rfl:e= .ret:=he
    cases h
    exact Unw.ret (Fin_ret hfin)
theorem L_laws_eqRules {a_0:S_Rules} {b_1:S_Rules} {r:Bool} (h:laws_eqRules a_0 b_1=some r):FX 54 [.im 2 true (u_S_Rules a_0),.im 2 true (u_S_Rules b_1)] (B0 [(false,[.im 0 (V r)])]):=by
 unfold laws_eqRules at h
 refine gn 25 Tryz.func54 rfl ?_
 refine gs<|g0 j j (q (oBx j tF47 j (tkI (tkI (tkI (tkI tk0)))))<|q (oBx j tF47 j (tkI (tkI (tkI (tkI tk0)))))<|q (oAsI j j)<|nl)<|us<|gs<|gs<|g0 j j (q (oFA (r':=.mp 2 0 0) j fF47_0 j j)<|q (oLd (cs:=[.im 0 _]) j tF2 j j)<|q (oFA (r':=.mp 3 0 0) j fF47_0 j j)<|q (oLd (cs:=[.im 0 _]) j tF2 j j)<|q (oBi j j j j)<|nl)<|us<|gc h j iNe (fun hc1 h=>?_) fun hc1 h=>?_
 ·refine gs<|g0 j j (q (oAsI j j)<|nl)<|us<|Go.ret (Unw.ret ?_)
  cases h
  exact fr rF54 j
 ·refine Go.skip<|us<|gs<|gs<|g0 j j (q (oFA (r':=.mp 2 0 1) j fF47_1 j j)<|q (oLd (cs:=[.im 0 _]) j tF2 j j)<|q (oFA (r':=.mp 3 0 1) j fF47_1 j j)<|q (oLd (cs:=[.im 0 _]) j tF2 j j)<|q (oBi j j j j)<|nl)<|us<|gc h j iNe (fun hc2 h=>?_) fun hc2 h=>?_
  ·refine gs<|g0 j j (q (oAsI j j)<|nl)<|us<|Go.ret (Unw.ret ?_)
   cases h
   exact fr rF54 j
  ·refine Go.skip<|us<|gs<|gs<|g0 j j (q (oFA (r':=.mp 2 0 2) j fF47_2 j j)<|q (oLd (cs:=[.im 0 _]) j tF2 j j)<|q (oFA (r':=.mp 3 0 2) j fF47_2 j j)<|q (oLd (cs:=[.im 0 _]) j tF2 j j)<|q (oBi j j j j)<|nl)<|us<|gc h j iNe (fun hc3 h=>?_) fun hc3 h=>?_
   ·refine gs<|g0 j j (q (oAsI j j)<|nl)<|us<|Go.ret (Unw.ret ?_)
    cases h
    exact fr rF54 j
   ·refine Go.skip<|us<|gs<|gs<|g0 j j (q (oFA (r':=.mp 2 0 3) j fF47_3 j j)<|q (oLd (cs:=[.im 0 _]) j tF2 j j)<|q (oFA (r':=.mp 3 0 3) j fF47_3 j j)<|q (oLd (cs:=[.im 0 _]) j tF2 j j)<|q (oBi j j j j)<|nl)<|us<|gc h j iNe (fun hc4 h=>?_) fun hc4 h=>?_
    ·refine gs<|g0 j j (q (oAsI j j)<|nl)<|us<|Go.ret (Unw.ret ?_)
     cases h
     exact fr rF54 j
    ·refine Go.skip<|us<|gs<|g0 j j (q (oAsI j j)<|nl)<|us<|Go.ret (Unw.ret ?_)
     cases h
     exact fr rF54 j
theorem L_laws_eqJob {a_0:S_Job} {b_1:S_Job} {r:Bool} (h:laws_eqJob a_0 b_1=some r):FX 12 [.im 2 true (u_S_Job a_0),.im 2 true (u_S_Job b_1)] (B0 [(false,[.im 0 (V r)])]):=by
 unfold laws_eqJob at h
 refine gn 61 Tryz.func12 rfl ?_
 refine gs<|g0 j j (q (oBx j tF49 j (tkI (tkI (tkI (tkI (tkI (tkI (tkI (tkI (tkI (tkI (tkI (tkI (tkI (tkI (tkI (tkI (tkI tk0))))))))))))))))))<|q (oBx j tF49 j (tkI (tkI (tkI (tkI (tkI (tkI (tkI (tkI (tkI (tkI (tkI (tkI (tkI (tkI (tkI (tkI (tkI tk0))))))))))))))))))<|q (oAsI j j)<|nl)<|us<|gs<|gs<|?_
 obtain ⟨x9,hx9,h⟩:=bs h
 refine g1 j j (mk [(2,M 2),(3,M 3)] [(2,Oa (G 2 (u_S_Job a_0))),(3,Oa (G 2 (u_S_Job b_1)))]) (q (oFA (r':=.mp 2 0 0) j fF49_0 j j)<|q (oLd (cs:=[.im 0 _,.im 0 _,.im 2 _,.im 2 _,.im 2 _]) j tF44 j j)<|q (oFA (r':=.mp 3 0 0) j fF49_0 j j)<|q (oLd (cs:=[.im 0 _,.im 0 _,.im 2 _,.im 2 _,.im 2 _]) j tF44 j j)<|q (oCa (xs:=[.v true [.im 0 _,.im 0 _,.im 2 _,.im 2 _,.im 2 _],.v true [.im 0 _,.im 0 _,.im 2 _,.im 2 _,.im 2 _]]) (vs:=[(false,[.im 0 _])]) (v:=.v false [.im 0 _]) (L_laws_eqPicture hx9) (.inl j) j kF51_44_44 j (ppC j (ppC j pp0)) j j pb0 j j j)<|q (oUn j j j)<|nl)<|us<|?_
 by_cases hc1:x9=true
 ·rw [if_pos hc1] at h
  refine gF j (nF (iR.2 hc1))<|Go.skip<|us<|gs<|gs<|?_
  obtain ⟨x15,hx15,h⟩:=bs h
  refine g0 j j (q (oFA (r':=.mp 2 0 5) j fF49_1 j j)<|q (oLd (cs:=[.im 2 _]) j tF45 j j)<|q (oFA (r':=.mp 3 0 5) j fF49_1 j j)<|q (oLd (cs:=[.im 2 _]) j tF45 j j)<|q (oCa (xs:=[.v false [.im 2 _],.v false [.im 2 _]]) (vs:=[(false,[.im 0 _])]) (v:=.v false [.im 0 _]) (L_laws_eqLeafS hx15) (.inl j) j kF52_45_45 j (ppC j (ppC j pp0)) j j pb0 j j j)<|q (oUn j j j)<|nl)<|us<|?_
  by_cases hc2:x15=true
  ·rw [if_pos hc2] at h
   refine gF j (nF (iR.2 hc2))<|Go.skip<|us<|gs<|gs<|?_
   obtain ⟨x21,hx21,h⟩:=bs h
   refine g0 j j (q (oFA (r':=.mp 2 0 6) j fF49_2 j j)<|q (oLd (cs:=[.im 2 _]) j tF46 j j)<|q (oFA (r':=.mp 3 0 6) j fF49_2 j j)<|q (oLd (cs:=[.im 2 _]) j tF46 j j)<|q (oCa (xs:=[.v false [.im 2 _],.v false [.im 2 _]]) (vs:=[(false,[.im 0 _])]) (v:=.v false [.im 0 _]) (L_laws_eqPlacementS hx21) (.inl j) j kF53_46_46 j (ppC j (ppC j pp0)) j j pb0 j j j)<|q (oUn j j j)<|nl)<|us<|?_
   by_cases hc3:x21=true
   ·rw [if_pos hc3] at h
    refine gF j (nF (iR.2 hc3))<|Go.skip<|us<|gs<|gs<|?_
    obtain ⟨x27,hx27,h⟩:=bs h
    refine g0 j j (q (oFA (r':=.mp 2 0 7) j fF49_3 j j)<|q (oLd (cs:=[.im 0 _,.im 0 _,.im 0 _,.im 0 _]) j tF47 j j)<|q (oFA (r':=.mp 3 0 7) j fF49_3 j j)<|q (oLd (cs:=[.im 0 _,.im 0 _,.im 0 _,.im 0 _]) j tF47 j j)<|q (oCa (xs:=[.v true [.im 0 _,.im 0 _,.im 0 _,.im 0 _],.v true [.im 0 _,.im 0 _,.im 0 _,.im 0 _]]) (vs:=[(false,[.im 0 _])]) (v:=.v false [.im 0 _]) (L_laws_eqRules hx27) (.inl j) j kF54_47_47 j (ppC j (ppC j pp0)) j j pb0 j j j)<|q (oUn j j j)<|nl)<|us<|?_
    by_cases hc4:x27=true
    ·rw [if_pos hc4] at h
     refine gF j (nF (iR.2 hc4))<|Go.skip<|us<|gs<|gs<|g0 j j (q (oFA (r':=.mp 2 0 11) j fF49_4 j j)<|q (oLd (cs:=[.im 0 _]) j tF2 j j)<|q (oFA (r':=.mp 3 0 11) j fF49_4 j j)<|q (oLd (cs:=[.im 0 _]) j tF2 j j)<|q (oBi j j j j)<|nl)<|us<|gc h j iNe (fun hc5 h=>?_) fun hc5 h=>?_
     ·refine gs<|g0 j j (q (oAsI j j)<|nl)<|us<|Go.ret (Unw.ret ?_)
      cases h
      exact fr rF12 j
     ·refine Go.skip<|us<|gs<|gs<|g0 j j (q (oFA (r':=.mp 2 0 12) j fF49_5 j j)<|q (oLd (cs:=[.im 0 _]) j tF2 j j)<|q (oFA (r':=.mp 3 0 12) j fF49_5 j j)<|q (oLd (cs:=[.im 0 _]) j tF2 j j)<|q (oBi j j j j)<|nl)<|us<|gc h j iNe (fun hc6 h=>?_) fun hc6 h=>?_
      ·refine gs<|g0 j j (q (oAsI j j)<|nl)<|us<|Go.ret (Unw.ret ?_)
       cases h
       exact fr rF12 j
      ·refine Go.skip<|us<|gs<|gs<|g0 j j (q (oFA (r':=.mp 2 0 13) j fF49_6 j j)<|q (oLd (cs:=[.im 0 _]) j tF2 j j)<|q (oFA (r':=.mp 3 0 13) j fF49_6 j j)<|q (oLd (cs:=[.im 0 _]) j tF2 j j)<|q (oBi j j j j)<|nl)<|us<|gc h j iNe (fun hc7 h=>?_) fun hc7 h=>?_
       ·refine gs<|g0 j j (q (oAsI j j)<|nl)<|us<|Go.ret (Unw.ret ?_)
        cases h
        exact fr rF12 j
       ·refine Go.skip<|us<|gs<|gs<|g0 j j (q (oFA (r':=.mp 2 0 14) j fF49_7 j j)<|q (oLd (cs:=[.im 0 _]) j tF2 j j)<|q (oFA (r':=.mp 3 0 14) j fF49_7 j j)<|q (oLd (cs:=[.im 0 _]) j tF2 j j)<|q (oBi j j j j)<|nl)<|us<|gc h j iNe (fun hc8 h=>?_) fun hc8 h=>?_
        ·refine gs<|g0 j j (q (oAsI j j)<|nl)<|us<|Go.ret (Unw.ret ?_)
         cases h
         exact fr rF12 j
        ·refine Go.skip<|us<|gs<|gs<|?_
         obtain ⟨x53,hx53,h⟩:=bs h
         refine g0 j j (q (oFA (r':=.mp 2 0 15) j fF49_8 j j)<|q (oLd (cs:=[.im 2 _]) j tF33 j j)<|q (oFA (r':=.mp 3 0 15) j fF49_8 j j)<|q (oLd (cs:=[.im 2 _]) j tF33 j j)<|q (oCa (xs:=[.v false [.im 2 _],.v false [.im 2 _]]) (vs:=[(false,[.im 0 _])]) (v:=.v false [.im 0 _]) (L_laws_eqInt64S hx53) (.inl j) j kF19_33_33 j (ppC j (ppC j pp0)) j j pb0 j j j)<|q (oUn j j j)<|nl)<|us<|?_
         by_cases hc9:x53=true
         ·rw [if_pos hc9] at h
          refine gF j (nF (iR.2 hc9))<|Go.skip<|us<|gs<|gs<|?_
          obtain ⟨x59,hx59,h⟩:=bs h
          refine g0 j j (q (oFA (r':=.mp 2 0 16) j fF49_9 j j)<|q (oLd (cs:=[.im 2 _]) j tF33 j j)<|q (oFA (r':=.mp 3 0 16) j fF49_9 j j)<|q (oLd (cs:=[.im 2 _]) j tF33 j j)<|q (oCa (xs:=[.v false [.im 2 _],.v false [.im 2 _]]) (vs:=[(false,[.im 0 _])]) (v:=.v false [.im 0 _]) (L_laws_eqInt64S hx59) (.inl j) j kF19_33_33 j (ppC j (ppC j pp0)) j j pb0 j j j)<|q (oUn j j j)<|nl)<|us<|?_
          by_cases hc10:x59=true
          ·rw [if_pos hc10] at h
           refine gF j (nF (iR.2 hc10))<|Go.skip<|us<|gs<|g0 j j (q (oAsI j j)<|nl)<|us<|Go.ret (Unw.ret ?_)
           cases h
           exact fr rF12 j
          ·rw [if_neg hc10] at h
           refine gT j (nT (byF iR hc10))<|gs<|g0 j j (q (oAsI j j)<|nl)<|us<|Go.ret (Unw.ret ?_)
           cases h
           exact fr rF12 j
         ·rw [if_neg hc9] at h
          refine gT j (nT (byF iR hc9))<|gs<|g0 j j (q (oAsI j j)<|nl)<|us<|Go.ret (Unw.ret ?_)
          cases h
          exact fr rF12 j
    ·rw [if_neg hc4] at h
     refine gT j (nT (byF iR hc4))<|gs<|g0 j j (q (oAsI j j)<|nl)<|us<|Go.ret (Unw.ret ?_)
     cases h
     exact fr rF12 j
   ·rw [if_neg hc3] at h
    refine gT j (nT (byF iR hc3))<|gs<|g0 j j (q (oAsI j j)<|nl)<|us<|Go.ret (Unw.ret ?_)
    cases h
    exact fr rF12 j
  ·rw [if_neg hc2] at h
   refine gT j (nT (byF iR hc2))<|gs<|g0 j j (q (oAsI j j)<|nl)<|us<|Go.ret (Unw.ret ?_)
   cases h
   exact fr rF12 j
 ·rw [if_neg hc1] at h
  refine gT j (nT (byF iR hc1))<|gs<|g0 j j (q (oAsI j j)<|nl)<|us<|Go.ret (Unw.ret ?_)
  cases h
  exact fr rF12 j
theorem L_laws_FnExactValidJob {aJ_0:S_Job} {r:Bool} (h:laws_FnExactValidJob aJ_0=some r):FX 3 [.im 2 true (u_S_Job aJ_0)] (B0 [(false,[.im 0 (V r)])]):=by
 unfold laws_FnExactValidJob at h
 refine gn 27 Tryz.func3 rfl ?_
 refine gs<|g0 j j (q (oBx j tF35 j (tkI (tkI (tkI (tkI (tkI (tkI (tkI (tkI (tkI (tkI (tkI (tkI (tkI (tkI (tkI (tkI (tkI tk0))))))))))))))))))<|q (oAsI j j)<|nl)<|us<|gs<|g1 j j (mk [(1,M 1)] [(1,Oa (G 2 (u_S_Job aJ_0)))]) (q (oAsI j j)<|nl)<|us<|gs<|?_
 obtain ⟨x9,hx9,h⟩:=bs h
 refine g0 j j (q (oLd (cs:=[.im 0 _,.im 0 _,.im 2 _,.im 2 _,.im 2 _,.im 2 _,.im 2 _,.im 0 _,.im 0 _,.im 0 _,.im 0 _,.im 0 _,.im 0 _,.im 0 _,.im 0 _,.im 2 _,.im 2 _]) j tF35 j j)<|q (oMv j j)<|q (oCa (xs:=[.v true [.im 0 _,.im 0 _,.im 2 _,.im 2 _,.im 2 _,.im 2 _,.im 2 _,.im 0 _,.im 0 _,.im 0 _,.im 0 _,.im 0 _,.im 0 _,.im 0 _,.im 0 _,.im 2 _,.im 2 _],.v false [.im 0 _]]) (vs:=[(false,[.im 0 _])]) (v:=.v false [.im 0 _]) (L_laws_szJob hx9) (.inl j) j kF8_35_3 j (ppC j (ppC j pp0)) j j pb0 j j j)<|q (oAsI j j)<|nl)<|us<|gs<|gs<|g0 j j (q (oMv j j)<|q (oBi j j j j)<|nl)<|us<|gc h j iDec (fun hc1 h=>?_) fun hc1 h=>?_
 ·refine gs<|g0 j j (q (oAsI j j)<|nl)<|us<|Go.ret (Unw.ret ?_)
  cases h
  exact fr rF3 j
 ·refine Go.skip<|us<|gs<|?_
  obtain ⟨x13,hx13,h⟩:=bs h
  obtain ⟨x14,hx14,h⟩:=bs h
  refine g0 j j (q (oLd (cs:=[.im 0 _,.im 0 _,.im 2 _,.im 2 _,.im 2 _,.im 2 _,.im 2 _,.im 0 _,.im 0 _,.im 0 _,.im 0 _,.im 0 _,.im 0 _,.im 0 _,.im 0 _,.im 2 _,.im 2 _]) j tF35 j j)<|q (oCr (xs:=[.v true [.im 0 _,.im 0 _,.im 2 _,.im 2 _,.im 2 _,.im 2 _,.im 2 _,.im 0 _,.im 0 _,.im 0 _,.im 0 _,.im 0 _,.im 0 _,.im 0 _,.im 0 _,.im 2 _,.im 2 _]]) (vs:=[(true,[.im 0 _,.im 0 _,.own 13 0 0,.own 13 0 1,.own 13 0 2,.own 13 0 3,.own 13 0 4,.im 0 _,.im 0 _,.im 0 _,.im 0 _,.im 0 _,.im 0 _,.im 0 _,.im 0 _,.own 13 0 5,.own 13 0 6])]) (v:=.v true [.im 0 _,.im 0 _,.own 13 0 0,.own 13 0 1,.own 13 0 2,.own 13 0 3,.own 13 0 4,.im 0 _,.im 0 _,.im 0 _,.im 0 _,.im 0 _,.im 0 _,.im 0 _,.im 0 _,.own 13 0 5,.own 13 0 6]) (c:=⟨.sh,0,_⟩) (cs:=[⟨.sh,0,_⟩,⟨.sh,0,_⟩,⟨.sh,0,_⟩,⟨.sh,0,_⟩,⟨.sh,0,_⟩,⟨.sh,0,_⟩]) (L_laws_toJob hx13) (.inl j) j kF10_35 j (ppC j pp0) j j pb0 j j j)<|q (oCa (xs:=[.v true [.im 0 _,.im 0 _,.own 13 0 0,.own 13 0 1,.own 13 0 2,.own 13 0 3,.own 13 0 4,.im 0 _,.im 0 _,.im 0 _,.im 0 _,.im 0 _,.im 0 _,.im 0 _,.im 0 _,.own 13 0 5,.own 13 0 6]]) (vs:=[(false,[.im 0 _])]) (v:=.v false [.im 0 _]) (L_spec_ValidJob hx14) (.inl j) j kF9_49 j (ppC j pp0) j j pb0 j j j)<|q (oAsI j j)<|nl)<|us<|gs<|?_
  obtain ⟨x16,hx16,h⟩:=bs h
  refine g0 j j (q (oLd (cs:=[.im 0 _,.im 0 _,.im 2 _,.im 2 _,.im 2 _,.im 2 _,.im 2 _,.im 0 _,.im 0 _,.im 0 _,.im 0 _,.im 0 _,.im 0 _,.im 0 _,.im 0 _,.im 2 _,.im 2 _]) j tF35 j j)<|q (oCr (xs:=[.v true [.im 0 _,.im 0 _,.im 2 _,.im 2 _,.im 2 _,.im 2 _,.im 2 _,.im 0 _,.im 0 _,.im 0 _,.im 0 _,.im 0 _,.im 0 _,.im 0 _,.im 0 _,.im 2 _,.im 2 _]]) (vs:=[(true,[.im 0 _,.im 0 _,.own 16 0 0,.own 16 0 1,.own 16 0 2,.own 16 0 3,.own 16 0 4,.im 0 _,.im 0 _,.im 0 _,.im 0 _,.im 0 _,.im 0 _,.im 0 _,.im 0 _,.own 16 0 5,.own 16 0 6])]) (v:=.v true [.im 0 _,.im 0 _,.own 16 0 0,.own 16 0 1,.own 16 0 2,.own 16 0 3,.own 16 0 4,.im 0 _,.im 0 _,.im 0 _,.im 0 _,.im 0 _,.im 0 _,.im 0 _,.im 0 _,.own 16 0 5,.own 16 0 6]) (c:=⟨.sh,0,_⟩) (cs:=[⟨.sh,0,_⟩,⟨.sh,0,_⟩,⟨.sh,0,_⟩,⟨.sh,0,_⟩,⟨.sh,0,_⟩,⟨.sh,0,_⟩]) (L_laws_toJob hx16) (.inl j) j kF10_35 j (ppC j pp0) j j pb0 j j j)<|q (oAl j tF49 (tkI (tkI (tkN (tkN (tkN (tkN (tkN (tkI (tkI (tkI (tkI (tkI (tkI (tkI (tkI (tkN (tkN tk0))))))))))))))))))<|q (oSt tF49 j j j (tkI (tkI (tkO j j (tkO j j (tkO j j (tkO j j (tkO j j (tkI (tkI (tkI (tkI (tkI (tkI (tkI (tkI (tkO j j (tkO j j tk0))))))))))))))))) j j j)<|nl)<|us<|gs<|?_
  obtain ⟨x18,hx18,h⟩:=bs h
  refine g1 j j (mk [(1,M 1),(4,bv x14),(5,M 5)] [(1,Oa (G 2 (u_S_Job aJ_0))),(5,Oa [C (I x16.Picture.Drawing.Width),C (I x16.Picture.Drawing.Height),Z (W 2 e_S_Point x16.Picture.Drawing.Points),Z (W 2 e_S_Face x16.Picture.Drawing.Faces),Z (W 3 e_S_Veneer x16.Picture.Veneers),Z (W 9 e_S_Leaf x16.Leaves),Z (W 5 e_S_Placement x16.Placements),C (I x16.Rules.Spacing),C (I x16.Rules.Margin),C (I x16.Rules.Angle),C (I x16.Rules.Shade),C (I x16.Thickness),C (I x16.Kerf),C (I x16.Bevel),C (I x16.Gap),Z (W 1 eI x16.Order),Z (W 1 eI x16.Cuts)])]) (q (oLd (cs:=[.im 0 _,.im 0 _,.own 5 0 2,.own 5 0 3,.own 5 0 4,.own 5 0 5,.own 5 0 6,.im 0 _,.im 0 _,.im 0 _,.im 0 _,.im 0 _,.im 0 _,.im 0 _,.im 0 _,.own 5 0 15,.own 5 0 16]) j tF49 j j)<|q (oCa (xs:=[.v true [.im 0 _,.im 0 _,.own 5 0 2,.own 5 0 3,.own 5 0 4,.own 5 0 5,.own 5 0 6,.im 0 _,.im 0 _,.im 0 _,.im 0 _,.im 0 _,.im 0 _,.im 0 _,.im 0 _,.own 5 0 15,.own 5 0 16]]) (vs:=[(false,[.im 0 _])]) (v:=.v false [.im 0 _]) (L_impl_ValidJob hx18) (.inl j) j kF11_49 j (ppC j pp0) j j pb0 j j j)<|q (oAsI j j)<|nl)<|us<|gs<|gs<|g0 j j (q (oMv j j)<|q (oMv j j)<|q (oBiU j uF4 j j j)<|nl)<|us<|?_
  by_cases hc2:x18=x14
  ·rw [if_pos hc2] at h
   refine gF j (nF (iBe.2 hc2))<|Go.skip<|us<|gs<|gs<|?_
   obtain ⟨x24,hx24,h⟩:=bs h
   obtain ⟨x25,hx25,h⟩:=bs h
   refine gd c3 j j j j (mk [(26,bv (!x25))] []) (t j j (oLd (cs:=[.im 0 _,.im 0 _,.own 5 0 2,.own 5 0 3,.own 5 0 4,.own 5 0 5,.own 5 0 6,.im 0 _,.im 0 _,.im 0 _,.im 0 _,.im 0 _,.im 0 _,.im 0 _,.im 0 _,.own 5 0 15,.own 5 0 16]) j tF49 j j)<|t j j (oLd (cs:=[.im 0 _,.im 0 _,.im 2 _,.im 2 _,.im 2 _,.im 2 _,.im 2 _,.im 0 _,.im 0 _,.im 0 _,.im 0 _,.im 0 _,.im 0 _,.im 0 _,.im 0 _,.im 2 _,.im 2 _]) j tF35 j j)<|sS (dN z3 j (oCr (xs:=[.v true [.im 0 _,.im 0 _,.im 2 _,.im 2 _,.im 2 _,.im 2 _,.im 2 _,.im 0 _,.im 0 _,.im 0 _,.im 0 _,.im 0 _,.im 0 _,.im 0 _,.im 0 _,.im 2 _,.im 2 _]]) (vs:=[(true,[.im 0 _,.im 0 _,.own 24 0 0,.own 24 0 1,.own 24 0 2,.own 24 0 3,.own 24 0 4,.im 0 _,.im 0 _,.im 0 _,.im 0 _,.im 0 _,.im 0 _,.im 0 _,.im 0 _,.own 24 0 5,.own 24 0 6])]) (v:=.v true [.im 0 _,.im 0 _,.own 24 0 0,.own 24 0 1,.own 24 0 2,.own 24 0 3,.own 24 0 4,.im 0 _,.im 0 _,.im 0 _,.im 0 _,.im 0 _,.im 0 _,.im 0 _,.im 0 _,.own 24 0 5,.own 24 0 6]) (c:=⟨.sh,0,_⟩) (cs:=[⟨.sh,0,_⟩,⟨.sh,0,_⟩,⟨.sh,0,_⟩,⟨.sh,0,_⟩,⟨.sh,0,_⟩,⟨.sh,0,_⟩]) (L_laws_toJob hx24) (.inl j) j kF10_35 j (ppC j pp0) j j pb0 j j j)) trivial (sS (dN z3 j (oCa (xs:=[.v true [.im 0 _,.im 0 _,.own 5 0 2,.own 5 0 3,.own 5 0 4,.own 5 0 5,.own 5 0 6,.im 0 _,.im 0 _,.im 0 _,.im 0 _,.im 0 _,.im 0 _,.im 0 _,.im 0 _,.own 5 0 15,.own 5 0 16],.v true [.im 0 _,.im 0 _,.own 24 0 0,.own 24 0 1,.own 24 0 2,.own 24 0 3,.own 24 0 4,.im 0 _,.im 0 _,.im 0 _,.im 0 _,.im 0 _,.im 0 _,.im 0 _,.im 0 _,.own 24 0 5,.own 24 0 6]]) (vs:=[(false,[.im 0 _])]) (v:=.v false [.im 0 _]) (L_laws_eqJob hx25) (.inl j) j kF12_49_49 j (ppC j (ppC j pp0)) j j pb0 j j j)) trivial (t j j (oUn j j j)<|sD (by kernel_rfl))))<|us<|?_
   by_cases hc3:x25=true
   ·rw [if_pos hc3] at h
    refine gF j (nF (iR.2 hc3))<|Go.skip<|us<|gs<|g0 j j (q (oAsI j j)<|nl)<|us<|Go.ret (Unw.ret ?_)
    cases h
    exact fr rF3 j
   ·rw [if_neg hc3] at h
    refine gT j (nT (byF iR hc3))<|gs<|g0 j j (q (oAsI j j)<|nl)<|us<|Go.ret (Unw.ret ?_)
    cases h
    exact fr rF3 j
  ·rw [if_neg hc2] at h
   refine gT j (nT (byF iBe hc2))<|gs<|g0 j j (q (oAsI j j)<|nl)<|us<|Go.ret (Unw.ret ?_)
   cases h
   exact fr rF3 j
end
end Go.Proofs.YtonnimmkimccfaaGreat
