/- The machine answers, at each function of the program that is reached, what its plain function answers: a further part. Conditions: none. -/
import Derived.Test.YtonnimmkimccfaaGreatTvdLb
namespace Go.Proofs.YtonnimmkimccfaaGreat
open Go Go.Sim Go.Pw Go.Proofs
set_option linter.unusedVariables false
set_option linter.unusedSimpArgs false
set_option maxRecDepth 100000
set_option maxHeartbeats 4000000
noncomputable section
theorem L_impl_ValidDrawing {d_0:S_Drawing} {r:Bool} (h:impl_ValidDrawing d_0=some r):FX 98 [.im 2 true (u_S_Drawing d_0)] (B0 [(false,[.im 0 (V r)])]):=by
 unfold impl_ValidDrawing at h
 refine gn 106 Tryz.func98 rfl ?_
 refine gs<|g0 j j (q (oBx j tF41 j (tkI (tkI (tkI (tkI tk0)))))<|q (oAsI j j)<|nl)<|us<|gs<|gs<|?_
 obtain ⟨x11,hx11,h⟩:=bs h
 obtain ⟨t_30_m1,hm44,h⟩:=bs h
 refine gX c98 j j j (mk [(1,M 1),(30,bv t_30_m1)] [(1,Oa (G 2 (u_S_Drawing d_0)))]) ?_ ?_
 ·refine xq (oFA (r':=.mp 1 0 0) j fF41_0 j j)<|xq (oLd (cs:=[.im 0 _]) j tF2 j j)<|xq (oCa (xs:=[.v false [.im 0 _],.v false [.im 0 _],.v false [.im 0 _]]) (vs:=[(false,[.im 0 _])]) (v:=.v false [.im 0 _]) (L_impl_within hx11) (.inl j) j kF49_2_2_2 j (ppC j (ppC j (ppC j pp0))) j j pb0 j j j)<|xq (oUn j j j)<|xq (oMv j j)<|?_
  refine ic hm44 (fun hc1 hm44=>?_) fun hc1 hm44=>?_
  ·obtain ⟨x16,hx16,hm44⟩:=bs hm44
   refine xqT j j (nF (iR.2 hc1)) (oFA (r':=.mp 1 0 1) j fF41_1 j j)<|xqT j j (nF (iR.2 hc1)) (oLd (cs:=[.im 0 _]) j tF2 j j)<|xqT j j (nF (iR.2 hc1)) (oCa (xs:=[.v false [.im 0 _],.v false [.im 0 _],.v false [.im 0 _]]) (vs:=[(false,[.im 0 _])]) (v:=.v false [.im 0 _]) (L_impl_within hx16) (.inl j) j kF49_2_2_2 j (ppC j (ppC j (ppC j pp0))) j j pb0 j j j)<|xqT j j (nF (iR.2 hc1)) (oUn j j j)<|xq (oPkF j j (nF (iR.2 hc1)) j)<|xq (oMv j j)<|?_
   refine ic hm44 (fun hc2 hm44=>?_) fun hc2 hm44=>?_
   ·refine xqT j j (nF (iR.2 hc2)) (oFA (r':=.mp 1 0 2) j fF41_2 j j)<|xqT j j (nF (iR.2 hc2)) (oLd (cs:=[.im 2 _]) j tF38 j j)<|xqT j j (nF (iR.2 hc2)) (oLnI j j uF38 j)<|xqT j j (nF (iR.2 hc2)) (oBi j j j j)<|xq (oPkF j j (nF (iR.2 hc2)) j)<|xq (oMv j j)<|?_
    refine ic hm44 (fun hc3 hm44=>?_) fun hc3 hm44=>?_
    ·cases hm44
     exact xsgF j j (iDec.2 hc3) j<|xsgF j j (iDec.2 hc3) j<|xsgF j j (iDec.2 hc3) j<|xsgF j j (iDec.2 hc3) j<|xq (oPkT j j (iDec.2 hc3) j)<|xn
    ·cases hm44
     exact xqT j j (byF iDec hc3) (oFA (r':=.mp 1 0 3) j fF41_3 j j)<|xqT j j (byF iDec hc3) (oLd (cs:=[.im 2 _]) j tF39 j j)<|xqT j j (byF iDec hc3) (oLnI j j uF39 j)<|xqT j j (byF iDec hc3) (oBi j j j j)<|xq (oPkF j j (byF iDec hc3) j)<|xn
   ·cases hm44
    exact xsgF j j (nT (byF iR hc2)) j<|xsgF j j (nT (byF iR hc2)) j<|xsgF j j (nT (byF iR hc2)) j<|xsgF j j (nT (byF iR hc2)) j<|xq (oPkT j j (nT (byF iR hc2)) j)<|xq (oMv j j)<|xsgF j j j j<|xsgF j j j j<|xsgF j j j j<|xsgF j j j j<|xq (oPkT j j j j)<|xn
  ·cases hm44
   exact xsgF j j (nT (byF iR hc1)) j<|xsgF j j (nT (byF iR hc1)) j<|xsgF j j (nT (byF iR hc1)) j<|xsgF j j (nT (byF iR hc1)) j<|xq (oPkT j j (nT (byF iR hc1)) j)<|xq (oMv j j)<|xsgF j j j j<|xsgF j j j j<|xsgF j j j j<|xsgF j j j j<|xq (oPkT j j j j)<|xq (oMv j j)<|xsgF j j j j<|xsgF j j j j<|xsgF j j j j<|xsgF j j j j<|xq (oPkT j j j j)<|xn
 ·refine us<|gc h j iR (fun hc4 h=>?_) fun hc4 h=>?_
  ·refine gs<|g0 j j (q (oAsI j j)<|nl)<|us<|Go.ret (Unw.ret ?_)
   cases h
   exact fr rF98 j
  ·refine Go.skip<|us<|gs<|gs<|g0 j j (q (oFA (r':=.mp 1 0 2) j fF41_2 j j)<|q (oLd (cs:=[.im 2 _]) j tF38 j j)<|q (oLnI j j uF38 j)<|q (oMv j j)<|nl)<|us<|Go.block<|?_
   obtain ⟨o,hl,h⟩:=bs h
   refine gl c98 j _ (fun (t_34_l4:Int)=>mk [(1,M 1),(32,D 2 (W 2 e_S_Point d_0.Points)),(33,iv (d_0.Points.length:Int)),(34,iv t_34_l4)] [(1,Oa (G 2 (u_S_Drawing d_0)))]) (fun (o:(Unit ⊕ Bool)) (p:Ex×St)=>match o with | (.inl _)=>p.1= .exit 0∧p.2.norm ([1],[1])=mk [(1,M 1)] [(1,Oa (G 2 (u_S_Drawing d_0)))] | (.inr r2)=>p.1= .ret∧fin Tryz.prog cfg 98 Tryz.f98 [.im 2 true (u_S_Drawing d_0)] p.2=some (B0 [(false,[.im 0 (V r2)])])) hl (by kernel_rfl) ?_ ?_ ?_
   ·intro o p hp e
    rcases o with u | r2<;>exact nomatch (hp.1.symm.trans e)
   ·rintro t_34_l4 o h
    unfold impl_ValidDrawing_l4 at h
    refine gs<|g0 j j (q (oBi j j j j)<|nl)<|us<|gs<|gc h j iDec (fun hc39 h=>?_) fun hc39 h=>?_
    ·refine Go.skip<|us<|gs<|Go.block<|gs<|?_
     obtain ⟨x37,hx37,h⟩:=bs h
     refine g0 j j (q (oMv j j)<|q (oIAI j hx37 sF38 j j)<|q (oLd (cs:=[.im 2 _,.im 2 _]) j tF184 j j)<|q (oAl j tF184 (tkI (tkI tk0)))<|q (oAsI j j)<|q (oSt tF184 j j j (tkI (tkI tk0)) j j j)<|nl)<|us<|gs<|?_
     obtain ⟨x43,hx43,h⟩:=bs h
     obtain ⟨t_60_m6,hm43,h⟩:=bs h
     refine gd c98 j j j (st1:=mk [(1,M 1),(3,iv t_34_l4),(4,M 4),(32,D 2 (W 2 e_S_Point d_0.Points)),(33,iv (d_0.Points.length:Int)),(34,iv t_34_l4)] [(1,Oa (G 2 (u_S_Drawing d_0))),(4,Oa (G 0 (u_S_Point x37)))]) (by kernel_rfl) (mk [(1,M 1),(32,D 2 (W 2 e_S_Point d_0.Points)),(33,iv (d_0.Points.length:Int)),(34,iv t_34_l4),(60,bv t_60_m6)] [(1,Oa (G 2 (u_S_Drawing d_0)))]) ?_ ?_
     ·refine t j j (oFA (r':=.mp 4 0 0) j fF184_0 j j)<|t j j (oLd (cs:=[.im 0 _]) j tF2 j j)<|t j j (oFA (r':=.mp 1 0 0) j fF41_0 j j)<|?_
      refine ic hm43 (fun hc40 hm43=>?_) fun hc40 hm43=>?_
      ·obtain ⟨x50,hx50,hm43⟩:=bs hm43
       refine ic hm43 (fun hc41 hm43=>?_) fun hc41 hm43=>?_
       ·obtain ⟨x57,hx57,hm43⟩:=bs hm43
        obtain ⟨x59,hx59,hm43⟩:=bs hm43
        cases hm43
        exact t j j (oLd (cs:=[.im 0 _]) j tF2 j j)<|sS (dN z98 j (oCa (xs:=[.v false [.im 0 _],.v false [.im 0 _],.v false [.im 0 _]]) (vs:=[(false,[.im 0 _])]) (v:=.v false [.im 0 _]) (L_impl_within hx43) (.inl j) j kF49_2_2_2 j (ppC j (ppC j (ppC j pp0))) j j pb0 j j j)) trivial (t j j (oUn j j j)<|t j j (oMv j j)<|tT j j j j (nF (iR.2 hc40)) (oFA (r':=.mp 4 0 1) j fF184_1 j j)<|tT j j j j (nF (iR.2 hc40)) (oLd (cs:=[.im 0 _]) j tF2 j j)<|tT j j j j (nF (iR.2 hc40)) (oFA (r':=.mp 1 0 1) j fF41_1 j j)<|tT j j j j (nF (iR.2 hc40)) (oLd (cs:=[.im 0 _]) j tF2 j j)<|sS (dT z98 j j j (nF (iR.2 hc40)) (oCa (xs:=[.v false [.im 0 _],.v false [.im 0 _],.v false [.im 0 _]]) (vs:=[(false,[.im 0 _])]) (v:=.v false [.im 0 _]) (L_impl_within hx50) (.inl j) j kF49_2_2_2 j (ppC j (ppC j (ppC j pp0))) j j pb0 j j j)) trivial (tT j j j j (nF (iR.2 hc40)) (oUn j j j)<|t j j (oPkF j j (nF (iR.2 hc40)) j)<|t j j (oMv j j)<|tT j j j j (nF (iR.2 hc41)) (oFA (r':=.mp 1 0 2) j fF41_2 j j)<|tT j j j j (nF (iR.2 hc41)) (oLd (cs:=[.im 2 _]) j tF38 j j)<|tT j j j j (nF (iR.2 hc41)) (oMv j j)<|sK (O:=[4]) j j j (dT z98 j j j (nF (iR.2 hc41)) (oLd (cs:=[.im 0 _,.im 0 _]) j tF184 j j))<|sS (dT z98 j j j (nF (iR.2 hc41)) (oSlI j hx57 sF38 j bn0 (bn1 j) j j)) (kY ⟨j,trivial⟩ trivial) (sS (dT z98 j j j (nF (iR.2 hc41)) (oCa (xs:=[.v false [.im 2 _],.v true [.im 0 _,.im 0 _]]) (vs:=[(false,[.im 0 _])]) (v:=.v false [.im 0 _]) (L_slices_Contains_impl_Point_impl_Point hx59) (.inl j) j kF143_38_184 j (ppC j (ppC j pp0)) j j pb0 j j j)) (kN j trivial) (t j j (oPkF j j (nF (iR.2 hc41)) j)<|sD (by kernel_rfl)))))
       ·cases hm43
        exact t j j (oLd (cs:=[.im 0 _]) j tF2 j j)<|sS (dN z98 j (oCa (xs:=[.v false [.im 0 _],.v false [.im 0 _],.v false [.im 0 _]]) (vs:=[(false,[.im 0 _])]) (v:=.v false [.im 0 _]) (L_impl_within hx43) (.inl j) j kF49_2_2_2 j (ppC j (ppC j (ppC j pp0))) j j pb0 j j j)) trivial (t j j (oUn j j j)<|t j j (oMv j j)<|tT j j j j (nF (iR.2 hc40)) (oFA (r':=.mp 4 0 1) j fF184_1 j j)<|tT j j j j (nF (iR.2 hc40)) (oLd (cs:=[.im 0 _]) j tF2 j j)<|tT j j j j (nF (iR.2 hc40)) (oFA (r':=.mp 1 0 1) j fF41_1 j j)<|tT j j j j (nF (iR.2 hc40)) (oLd (cs:=[.im 0 _]) j tF2 j j)<|sS (dT z98 j j j (nF (iR.2 hc40)) (oCa (xs:=[.v false [.im 0 _],.v false [.im 0 _],.v false [.im 0 _]]) (vs:=[(false,[.im 0 _])]) (v:=.v false [.im 0 _]) (L_impl_within hx50) (.inl j) j kF49_2_2_2 j (ppC j (ppC j (ppC j pp0))) j j pb0 j j j)) trivial (tT j j j j (nF (iR.2 hc40)) (oUn j j j)<|t j j (oPkF j j (nF (iR.2 hc40)) j)<|t j j (oMv j j)<|tF j j j j (nT (byF iR hc41)) j<|tF j j j j (nT (byF iR hc41)) j<|tF j j j j (nT (byF iR hc41)) j<|sK (O:=[4]) j j j (dF j j j (nT (byF iR hc41)) j)<|sS (dF j j j (nT (byF iR hc41)) j) (kY ⟨j,trivial⟩ trivial) (sS (dF j j j (nT (byF iR hc41)) j) (kN j trivial) (t j j (oPkT j j (nT (byF iR hc41)) j)<|sD (by kernel_rfl)))))
      ·cases hm43
       exact t j j (oLd (cs:=[.im 0 _]) j tF2 j j)<|sS (dN z98 j (oCa (xs:=[.v false [.im 0 _],.v false [.im 0 _],.v false [.im 0 _]]) (vs:=[(false,[.im 0 _])]) (v:=.v false [.im 0 _]) (L_impl_within hx43) (.inl j) j kF49_2_2_2 j (ppC j (ppC j (ppC j pp0))) j j pb0 j j j)) trivial (t j j (oUn j j j)<|t j j (oMv j j)<|tF j j j j (nT (byF iR hc40)) j<|tF j j j j (nT (byF iR hc40)) j<|tF j j j j (nT (byF iR hc40)) j<|tF j j j j (nT (byF iR hc40)) j<|sS (dF j j j (nT (byF iR hc40)) j) trivial (tF j j j j (nT (byF iR hc40)) j<|t j j (oPkT j j (nT (byF iR hc40)) j)<|t j j (oMv j j)<|tF j j j j j j<|tF j j j j j j<|tF j j j j j j<|sK (O:=[4]) j j j (dF j j j j j)<|sS (dF j j j j j) (kY ⟨j,trivial⟩ trivial) (sS (dF j j j j j) (kN j trivial) (t j j (oPkT j j j j)<|sD (by kernel_rfl)))))
     ·refine us<|gc h j iR (fun hc42 h=>?_) fun hc42 h=>?_
      ·refine gs<|g0 j j (q (oAsI j j)<|nl)<|us<|Go.ret (Unw.ret ?_)
       cases h
       exact ⟨j,(fo rF98 j)⟩
      ·refine Go.skip<|Unw.blk<|us<|g0 j j (q (oBi j j j j)<|q (oMv j j)<|nl)<|Unw.nil<|?_
       cases h
       exact ⟨j,(by kernel_rfl)⟩
    ·refine Go.exit<|ux<|Unw.nil<|?_
     cases h
     exact ⟨j,(by kernel_rfl)⟩
   ·rintro ⟨e,st⟩ hp
    rcases o with u | r2
    ·dsimp only at h
     obtain ⟨he,hst⟩:=hp
     obtain rfl:e= .exit 0:=he
     refine Unw.blkx<|us<|gs<|gs<|g2 c98 j j hst (q (oFA (r':=.mp 1 0 3) j fF41_3 j j)<|q (oLd (cs:=[.im 2 _]) j tF39 j j)<|q (oLnI j j uF39 j)<|q (oMv j j)<|nl)<|us<|Go.block<|?_
     obtain ⟨o,hl,h⟩:=bs h
     refine gl c98 j _ (fun (t_65_l10:Int)=>mk [(1,M 1),(63,D 2 (W 2 e_S_Face d_0.Faces)),(64,iv (d_0.Faces.length:Int)),(65,iv t_65_l10)] [(1,Oa (G 2 (u_S_Drawing d_0)))]) (fun (o:(Unit ⊕ Bool)) (p:Ex×St)=>match o with | (.inl _)=>p.1= .exit 2∧p.2.norm ([],[])=mk [] [] | (.inr r2)=>p.1= .ret∧fin Tryz.prog cfg 98 Tryz.f98 [.im 2 true (u_S_Drawing d_0)] p.2=some (B0 [(false,[.im 0 (V r2)])])) hl (by kernel_rfl) ?_ ?_ ?_
     ·intro o p hp e
      rcases o with u | r2<;>exact nomatch (hp.1.symm.trans e)
     ·rintro t_65_l10 o h
      unfold impl_ValidDrawing_l10 at h
      refine gs<|g0 j j (q (oBi j j j j)<|nl)<|us<|gs<|gc h j iDec (fun hc31 h=>?_) fun hc31 h=>?_
      ·refine Go.skip<|us<|gs<|Go.block<|gs<|?_
       obtain ⟨x68,hx68,h⟩:=bs h
       refine g0 j j (q (oMv j j)<|q (oIAI j hx68 sF39 j j)<|q (oLd (cs:=[.im 2 _,.im 2 _]) j tF187 j j)<|q (oAl j tF187 (tkI (tkN tk0)))<|q (oAsI j j)<|q (oSt tF187 j j j (tkI (tkI tk0)) j j j)<|nl)<|us<|gs<|gs<|?_
       obtain ⟨x72,hx72,h⟩:=bs h
       obtain ⟨t_89_m12,hm38,h⟩:=bs h
       refine gd c98 j j j (st1:=mk [(1,M 1),(5,iv t_65_l10),(6,M 6),(63,D 2 (W 2 e_S_Face d_0.Faces)),(64,iv (d_0.Faces.length:Int)),(65,iv t_65_l10)] [(1,Oa (G 2 (u_S_Drawing d_0))),(6,Oa (G 2 (u_S_Face x68)))]) (by kernel_rfl) (mk [(1,M 1),(6,M 6),(63,D 2 (W 2 e_S_Face d_0.Faces)),(64,iv (d_0.Faces.length:Int)),(65,iv t_65_l10),(89,bv t_89_m12)] [(1,Oa (G 2 (u_S_Drawing d_0))),(6,Oa (G 2 (u_S_Face x68)))]) ?_ ?_
       ·refine t j j (oFA (r':=.mp 6 0 0) j fF187_0 j j)<|?_
        refine ic hm38 (fun hc32 hm38=>?_) fun hc32 hm38=>?_
        ·refine ic hm38 (fun hc33 hm38=>?_) fun hc33 hm38=>?_
         ·obtain ⟨x82,hx82,hm38⟩:=bs hm38
          cases hm38
          exact t j j (oLd (cs:=[.im 0 _]) j tF9 j j)<|sS (dN z98 j (oCa (xs:=[.v false [.im 0 _]]) (vs:=[(false,[.im 0 _])]) (v:=.v false [.im 0 _]) (L_impl_IsName hx72) (.inl j) j kF144_9 j (ppC j pp0) j j pb0 j j j)) trivial (t j j (oUn j j j)<|t j j (oMv j j)<|tT j j j j (nF (iR.2 hc32)) (oMv j j)<|tT j j j j (nF (iR.2 hc32)) (oBi j j j j)<|tT j j j j (nF (iR.2 hc32)) (oMv j j)<|tT j j j j (iDec.2 hc33) (oFA (r':=.mp 1 0 3) j fF41_3 j j)<|tT j j j j (iDec.2 hc33) (oLd (cs:=[.im 2 _]) j tF39 j j)<|tT j j j j (iDec.2 hc33) (oMv j j)<|tT j j j j (iDec.2 hc33) (oBi j j j j)<|tT j j j j (iDec.2 hc33) (oIAI j hx82 sF39 j j)<|tT j j j j (iDec.2 hc33) (oFA (r':=.im 2 _) j fF187_0 j j)<|tT j j j j (iDec.2 hc33) (oLd (cs:=[.im 2 _]) j tF9 j j)<|tT j j j j (iDec.2 hc33) (oFA (r':=.mp 6 0 0) j fF187_0 j j)<|tT j j j j (iDec.2 hc33) (oLd (cs:=[.im 0 _]) j tF9 j j)<|tT j j j j (iDec.2 hc33) (oBi j j j j)<|tT j j j j (nF (iR.2 hc32)) (oPkT j j (iDec.2 hc33) j)<|t j j (oPkF j j (nF (iR.2 hc32)) j)<|sD (by kernel_rfl))
         ·cases hm38
          exact t j j (oLd (cs:=[.im 0 _]) j tF9 j j)<|sS (dN z98 j (oCa (xs:=[.v false [.im 0 _]]) (vs:=[(false,[.im 0 _])]) (v:=.v false [.im 0 _]) (L_impl_IsName hx72) (.inl j) j kF144_9 j (ppC j pp0) j j pb0 j j j)) trivial (t j j (oUn j j j)<|t j j (oMv j j)<|tT j j j j (nF (iR.2 hc32)) (oMv j j)<|tT j j j j (nF (iR.2 hc32)) (oBi j j j j)<|tT j j j j (nF (iR.2 hc32)) (oMv j j)<|tF j j j j (byF iDec hc33) j<|tF j j j j (byF iDec hc33) j<|tF j j j j (byF iDec hc33) j<|tF j j j j (byF iDec hc33) j<|tF j j j j (byF iDec hc33) j<|tF j j j j (byF iDec hc33) j<|tF j j j j (byF iDec hc33) j<|tF j j j j (byF iDec hc33) j<|tF j j j j (byF iDec hc33) j<|tF j j j j (byF iDec hc33) j<|tT j j j j (nF (iR.2 hc32)) (oPkF j j (byF iDec hc33) j)<|t j j (oPkF j j (nF (iR.2 hc32)) j)<|sD (by kernel_rfl))
        ·cases hm38
         exact t j j (oLd (cs:=[.im 0 _]) j tF9 j j)<|sS (dN z98 j (oCa (xs:=[.v false [.im 0 _]]) (vs:=[(false,[.im 0 _])]) (v:=.v false [.im 0 _]) (L_impl_IsName hx72) (.inl j) j kF144_9 j (ppC j pp0) j j pb0 j j j)) trivial (t j j (oUn j j j)<|t j j (oMv j j)<|tF j j j j (nT (byF iR hc32)) j<|tF j j j j (nT (byF iR hc32)) j<|tF j j j j (nT (byF iR hc32)) j<|sT j (dU j j j j)<|sT j (dU j j j j)<|sT j (dU j j j j)<|sT j (dU j j j j)<|sT j (dU j j j j)<|sT j (dU j j j j)<|sT j (dU j j j j)<|sT j (dU j j j j)<|sT j (dU j j j j)<|sT j (dU j j j j)<|tF j j j j (nT (byF iR hc32)) j<|t j j (oPkT j j (nT (byF iR hc32)) j)<|sD (by kernel_rfl))
       ·refine us<|gc h j iR (fun hc34 h=>?_) fun hc34 h=>?_
        ·refine gs<|g0 j j (q (oAsI j j)<|nl)<|us<|Go.ret (Unw.ret ?_)
         cases h
         exact ⟨j,(fo rF98 j)⟩
        ·refine Go.skip<|us<|gs<|?_
         obtain ⟨x95,hx95,h⟩:=bs h
         refine g0 j j (q (oFA (r':=.mp 1 0 2) j fF41_2 j j)<|q (oLd (cs:=[.im 2 _]) j tF38 j j)<|q (oFA (r':=.mp 6 0 1) j fF187_1 j j)<|q (oLd (cs:=[.im 2 _]) j tF33 j j)<|q (oCr (xs:=[.v false [.im 2 _],.v false [.im 2 _]]) (vs:=[(false,[.own 95 0 0]),(false,[.im 0 _])]) (v:=.tup [(false,[.own 95 0 0]),(false,[.im 0 _])]) (c:=⟨.sh,0,_⟩) (cs:=[]) (L_impl_ringPolygon hx95) (.inl j) j kF145_38_33 j (ppC j (ppC j pp0)) j j pb0 j j j)<|q (oMvT j j)<|q (oEx j j j)<|q (oEx j j j)<|q (oAsO j j j j j)<|q (oAsI j j)<|nl)<|us<|gs<|?_
         obtain ⟨t_104_m15,hm37,h⟩:=bs h
         refine gX c98 j j j (mk [(1,M 1),(63,D 2 (W 2 e_S_Face d_0.Faces)),(64,iv (d_0.Faces.length:Int)),(65,iv t_65_l10),(104,bv t_104_m15)] [(1,Oa (G 2 (u_S_Drawing d_0)))]) ?_ ?_
         ·refine xq (oMv j j)<|xq (oUn j j j)<|xq (oMv j j)<|?_
          refine ic hm37 (fun hc35 hm37=>?_) fun hc35 hm37=>?_
          ·obtain ⟨x102,hx102,hm37⟩:=bs hm37
           cases hm37
           exact xqT j j (nF (iR.2 hc35)) (oMv j j)<|xqT j j (nF (iR.2 hc35)) (oCa (xs:=[.v false [.own 7 0 0]]) (vs:=[(false,[.im 0 _])]) (v:=.v false [.im 0 _]) (L_impl_ValidPolygon hx102) (.inl j) j kF146_38 j (ppC j pp0) j j pb0 j j j)<|xqT j j (nF (iR.2 hc35)) (oUn j j j)<|xq (oPkF j j (nF (iR.2 hc35)) j)<|xn
          ·cases hm37
           exact xsgF j j (nT (byF iR hc35)) j<|xsgF j j (nT (byF iR hc35)) j<|xsgF j j (nT (byF iR hc35)) j<|xq (oPkT j j (nT (byF iR hc35)) j)<|xn
         ·refine us<|gc h j iR (fun hc36 h=>?_) fun hc36 h=>?_
          ·refine gs<|g0 j j (q (oAsI j j)<|nl)<|us<|Go.ret (Unw.ret ?_)
           cases h
           exact ⟨j,(fo rF98 j)⟩
          ·refine Go.skip<|Unw.blk<|us<|g0 j j (q (oBi j j j j)<|q (oMv j j)<|nl)<|Unw.nil<|?_
           cases h
           exact ⟨j,(by kernel_rfl)⟩
      ·refine Go.exit<|ux<|Unw.nil<|?_
       cases h
       exact ⟨j,(by kernel_rfl)⟩
     ·rintro ⟨e,st⟩ hp
      rcases o with u | r2
      ·dsimp only at h
       obtain ⟨he,hst⟩:=hp
       obtain rfl:e= .exit 2:=he
       refine Unw.blkx<|us<|gs<|g2 c98 j j hst (q (oAsI j j)<|nl)<|us<|Go.ret (Unw.ret ?_)
       cases h
       exact fr rF98 j
      ·dsimp only at h
       obtain ⟨he,hfin⟩:=hp
       obtain rfl:e= .ret:=he
       cases h
       exact Unw.ret (Fin_ret hfin)
    ·dsimp only at h
     obtain ⟨he,hfin⟩:=hp
     obtain rfl:e= .ret:=he
     cases h
     exact Unw.ret (Fin_ret hfin)
theorem L_impl_SpeciesData {name_0:ByteArray} {r:(Int×Int×Int×Int)} (h:impl_SpeciesData name_0=some r):FX 208 [.im 2 false [Y name_0]] (B0 [(false,[.im 0 (I r.1)]),(false,[.im 0 (I r.2.1)]),(false,[.im 0 (I r.2.2.1)]),(false,[.im 0 (I r.2.2.2)])]):=by
 unfold impl_SpeciesData at h
 refine gn 27 Tryz.func208 rfl ?_
 refine gs<|g0 j j (q (oAsI j j)<|q (oAsI j j)<|q (oAsI j j)<|q (oAsI j j)<|nl)<|us<|gs<|gs<|g0 j j (q (oMv j j)<|nl)<|us<|Go.block<|gs<|g0 j j (q (oBi j j j j)<|q (oAsI j j)<|nl)<|us<|gc h j iStr (fun hc1 h=>?_) fun hc1 h=>?_
 ·refine gs<|g0 j j (q (oAsI j j)<|q (oAsI j j)<|q (oAsI j j)<|q (oAsI j j)<|nl)<|us<|Go.ret (Unw.ret ?_)
  cases h
  exact fr rF208 j
 ·refine gs<|g0 j j (q (oBi j j j j)<|q (oAsI j j)<|nl)<|us<|gc h j iStr (fun hc2 h=>?_) fun hc2 h=>?_
  ·refine gs<|g0 j j (q (oAsI j j)<|q (oAsI j j)<|q (oAsI j j)<|q (oAsI j j)<|nl)<|us<|Go.ret (Unw.ret ?_)
   cases h
   exact fr rF208 j
  ·refine gs<|g0 j j (q (oBi j j j j)<|q (oAsI j j)<|nl)<|us<|gc h j iStr (fun hc3 h=>?_) fun hc3 h=>?_
   ·refine gs<|g0 j j (q (oAsI j j)<|q (oAsI j j)<|q (oAsI j j)<|q (oAsI j j)<|nl)<|us<|Go.ret (Unw.ret ?_)
    cases h
    exact fr rF208 j
   ·refine gs<|g0 j j (q (oBi j j j j)<|q (oAsI j j)<|nl)<|us<|gc h j iStr (fun hc4 h=>?_) fun hc4 h=>?_
    ·refine gs<|g0 j j (q (oAsI j j)<|q (oAsI j j)<|q (oAsI j j)<|q (oAsI j j)<|nl)<|us<|Go.ret (Unw.ret ?_)
     cases h
     exact fr rF208 j
    ·refine gs<|g0 j j (q (oBi j j j j)<|q (oAsI j j)<|nl)<|us<|gc h j iStr (fun hc5 h=>?_) fun hc5 h=>?_
     ·refine gs<|g0 j j (q (oAsI j j)<|q (oAsI j j)<|q (oAsI j j)<|q (oAsI j j)<|nl)<|us<|Go.ret (Unw.ret ?_)
      cases h
      exact fr rF208 j
     ·refine gs<|g0 j j (q (oBi j j j j)<|q (oAsI j j)<|nl)<|us<|gc h j iStr (fun hc6 h=>?_) fun hc6 h=>?_
      ·refine gs<|g0 j j (q (oAsI j j)<|q (oAsI j j)<|q (oAsI j j)<|q (oAsI j j)<|nl)<|us<|Go.ret (Unw.ret ?_)
       cases h
       exact fr rF208 j
      ·refine gs<|g0 j j (q (oBi j j j j)<|q (oAsI j j)<|nl)<|us<|gc h j iStr (fun hc7 h=>?_) fun hc7 h=>?_
       ·refine gs<|g0 j j (q (oAsI j j)<|q (oAsI j j)<|q (oAsI j j)<|q (oAsI j j)<|nl)<|us<|Go.ret (Unw.ret ?_)
        cases h
        exact fr rF208 j
       ·refine gs<|g0 j j (q (oBi j j j j)<|q (oAsI j j)<|nl)<|us<|gc h j iStr (fun hc8 h=>?_) fun hc8 h=>?_
        ·refine gs<|g0 j j (q (oAsI j j)<|q (oAsI j j)<|q (oAsI j j)<|q (oAsI j j)<|nl)<|us<|Go.ret (Unw.ret ?_)
         cases h
         exact fr rF208 j
        ·refine gs<|g0 j j (q (oBi j j j j)<|q (oAsI j j)<|nl)<|us<|gc h j iStr (fun hc9 h=>?_) fun hc9 h=>?_
         ·refine gs<|g0 j j (q (oAsI j j)<|q (oAsI j j)<|q (oAsI j j)<|q (oAsI j j)<|nl)<|us<|Go.ret (Unw.ret ?_)
          cases h
          exact fr rF208 j
         ·refine gs<|g0 j j (q (oBi j j j j)<|q (oAsI j j)<|nl)<|us<|gc h j iStr (fun hc10 h=>?_) fun hc10 h=>?_
          ·refine gs<|g0 j j (q (oAsI j j)<|q (oAsI j j)<|q (oAsI j j)<|q (oAsI j j)<|nl)<|us<|Go.ret (Unw.ret ?_)
           cases h
           exact fr rF208 j
          ·refine Go.skip<|Unw.blk<|us<|gs<|g0 j j (q (oAsI j j)<|q (oAsI j j)<|q (oAsI j j)<|q (oAsI j j)<|nl)<|us<|Go.ret (Unw.ret ?_)
           cases h
           exact fr rF208 j
theorem L_impl_speciesShade {name_0:ByteArray} {r:(Int×Bool)} (h:impl_speciesShade name_0=some r):FX 180 [.im 2 false [Y name_0]] (B0 [(false,[.im 0 (I r.1)]),(false,[.im 0 (V r.2)])]):=by
 unfold impl_speciesShade at h
 refine gn 18 Tryz.func180 rfl ?_
 refine gs<|g0 j j (q (oAsI j j)<|q (oAsI j j)<|nl)<|us<|gs<|?_
 obtain ⟨x10,hx10,h⟩:=bs h
 refine g0 j j (q (oMv j j)<|q (oCa (xs:=[.v false [.im 2 _]]) (vs:=[(false,[.im 0 _]),(false,[.im 0 _]),(false,[.im 0 _]),(false,[.im 0 _])]) (v:=.tup [(false,[.im 0 _]),(false,[.im 0 _]),(false,[.im 0 _]),(false,[.im 0 _])]) (L_impl_SpeciesData hx10) (.inl j) j kF208_9 j (ppC j pp0) j j pb0 j j j)<|q (oMvT j j)<|q (oEx j j j)<|q (oEx j j j)<|q (oEx j j j)<|q (oEx j j j)<|q (oAsI j j)<|q (oAsI j j)<|q (oAsI j j)<|q (oAsI j j)<|nl)<|us<|gs<|g0 j j (q (oMv j j)<|q (oMv j j)<|q (oBi j j j j)<|q (oAsI j j)<|q (oAsI j j)<|nl)<|us<|Go.ret (Unw.ret ?_)
 cases h
 exact fr rF180 j
theorem L_impl_ValidVeneer {v_0:S_Veneer} {r:Bool} (h:impl_ValidVeneer v_0=some r):FX 149 [.im 2 true (u_S_Veneer v_0)] (B0 [(false,[.im 0 (V r)])]):=by
 unfold impl_ValidVeneer at h
 refine gn 29 Tryz.func149 rfl ?_
 refine gs<|g0 j j (q (oBx j tF123 j (tkI (tkI (tkI tk0))))<|q (oAsI j j)<|nl)<|us<|gs<|?_
 obtain ⟨x8,hx8,h⟩:=bs h
 refine g0 j j (q (oFA (r':=.mp 1 0 0) j fF123_0 j j)<|q (oLd (cs:=[.im 0 _]) j tF9 j j)<|q (oCa (xs:=[.v false [.im 0 _]]) (vs:=[(false,[.im 0 _]),(false,[.im 0 _])]) (v:=.tup [(false,[.im 0 _]),(false,[.im 0 _])]) (L_impl_speciesShade hx8) (.inl j) j kF180_9 j (ppC j pp0) j j pb0 j j j)<|q (oMvT j j)<|q (oEx j j j)<|q (oEx j j j)<|q (oAsI j j)<|q (oAsI j j)<|nl)<|us<|gs<|?_
 obtain ⟨t_2_m2,hm4,h⟩:=bs h
 refine gX c149 j j j (mk [(2,bv t_2_m2)] []) ?_ ?_
 ·refine xq (oMv j j)<|xq (oMv j j)<|?_
  refine ic hm4 (fun hc1 hm4=>?_) fun hc1 hm4=>?_
  ·obtain ⟨x15,hx15,hm4⟩:=bs hm4
   refine xqT j j (iR.2 hc1) (oFA (r':=.mp 1 0 1) j fF123_1 j j)<|xqT j j (iR.2 hc1) (oLd (cs:=[.im 0 _]) j tF2 j j)<|xqT j j (iR.2 hc1) (oCa (xs:=[.v false [.im 0 _],.v false [.im 0 _],.v false [.im 0 _]]) (vs:=[(false,[.im 0 _])]) (v:=.v false [.im 0 _]) (L_impl_within hx15) (.inl j) j kF49_2_2_2 j (ppC j (ppC j (ppC j pp0))) j j pb0 j j j)<|xq (oPkT j j (iR.2 hc1) j)<|xq (oMv j j)<|?_
   refine ic hm4 (fun hc2 hm4=>?_) fun hc2 hm4=>?_
   ·obtain ⟨x22,hx22,hm4⟩:=bs hm4
    refine xqT j j (iR.2 hc2) (oFA (r':=.mp 1 0 1) j fF123_1 j j)<|xqT j j (iR.2 hc2) (oLd (cs:=[.im 0 _]) j tF2 j j)<|xqT j j (iR.2 hc2) (oMv j j)<|xqT j j (iR.2 hc2) (oBi j j j j)<|xqT j j (iR.2 hc2) (oCa (xs:=[.v false [.im 0 _],.v false [.im 0 _],.v false [.im 0 _]]) (vs:=[(false,[.im 0 _])]) (v:=.v false [.im 0 _]) (L_impl_within hx22) (.inl j) j kF49_2_2_2 j (ppC j (ppC j (ppC j pp0))) j j pb0 j j j)<|xq (oPkT j j (iR.2 hc2) j)<|xq (oMv j j)<|?_
    refine ic hm4 (fun hc3 hm4=>?_) fun hc3 hm4=>?_
    ·obtain ⟨x27,hx27,hm4⟩:=bs hm4
     cases hm4
     exact xqT j j (iR.2 hc3) (oFA (r':=.mp 1 0 2) j fF123_2 j j)<|xqT j j (iR.2 hc3) (oLd (cs:=[.im 0 _]) j tF2 j j)<|xqT j j (iR.2 hc3) (oCa (xs:=[.v false [.im 0 _],.v false [.im 0 _],.v false [.im 0 _]]) (vs:=[(false,[.im 0 _])]) (v:=.v false [.im 0 _]) (L_impl_within hx27) (.inl j) j kF49_2_2_2 j (ppC j (ppC j (ppC j pp0))) j j pb0 j j j)<|xq (oPkT j j (iR.2 hc3) j)<|xq (oAsI j j)<|xn
    ·cases hm4
     exact xsgF j j (byF iR hc3) j<|xsgF j j (byF iR hc3) j<|xsgF j j (byF iR hc3) j<|xq (oPkF j j (byF iR hc3) j)<|xq (oAsI j j)<|xn
   ·cases hm4
    exact xsgF j j (byF iR hc2) j<|xsgF j j (byF iR hc2) j<|xsgF j j (byF iR hc2) j<|xsgF j j (byF iR hc2) j<|xsgF j j (byF iR hc2) j<|xq (oPkF j j (byF iR hc2) j)<|xq (oMv j j)<|xsgF j j j j<|xsgF j j j j<|xsgF j j j j<|xq (oPkF j j j j)<|xq (oAsI j j)<|xn
  ·cases hm4
   exact xsgF j j (byF iR hc1) j<|xsgF j j (byF iR hc1) j<|xsgF j j (byF iR hc1) j<|xq (oPkF j j (byF iR hc1) j)<|xq (oMv j j)<|xsgF j j j j<|xsgF j j j j<|xsgF j j j j<|xsgF j j j j<|xsgF j j j j<|xq (oPkF j j j j)<|xq (oMv j j)<|xsgF j j j j<|xsgF j j j j<|xsgF j j j j<|xq (oPkF j j j j)<|xq (oAsI j j)<|xn
 ·refine us<|Go.ret (Unw.ret ?_)
  cases h
  exact fr rF149 j
theorem L_impl_validVeneers_c1 {v_0:S_Veneer} {r:Bool} (h:impl_validVeneers_c1 v_0=some r):FX 148 [.im 2 true (u_S_Veneer v_0)] (B0 [(false,[.im 0 (V r)])]):=by
 unfold impl_validVeneers_c1 at h
 refine gn 6 Tryz.func148 rfl ?_
 refine gs<|g0 j j (q (oBx j tF123 j (tkI (tkI (tkI tk0))))<|q (oAsI j j)<|nl)<|us<|gs<|?_
 obtain ⟨x4,hx4,h⟩:=bs h
 refine g0 j j (q (oLd (cs:=[.im 0 _,.im 0 _,.im 0 _]) j tF123 j j)<|q (oCa (xs:=[.v true [.im 0 _,.im 0 _,.im 0 _]]) (vs:=[(false,[.im 0 _])]) (v:=.v false [.im 0 _]) (L_impl_ValidVeneer hx4) (.inl j) j kF149_123 j (ppC j pp0) j j pb0 j j j)<|q (oUn j j j)<|q (oAsI j j)<|nl)<|us<|Go.ret (Unw.ret ?_)
 cases h
 exact fr rF148 j
theorem L_slices_IndexFunc_impl_Veneer_impl_Veneer_148 {s_0:(List S_Veneer)} {r:Int} (h:slices_IndexFunc_impl_Veneer_impl_Veneer s_0 (fun b0=>impl_validVeneers_c1 b0)=some r):FX 179 [.im 2 false [W 3 e_S_Veneer s_0],.im 2 false [.clo 148 []]] (B0 [(false,[.im 0 (I r)])]):=by
 unfold slices_IndexFunc_impl_Veneer_impl_Veneer at h
 refine gn 19 Tryz.func179 rfl ?_
 refine gs<|g0 j j (q (oAsI j j)<|nl)<|us<|gs<|gs<|g0 j j (q (oMv j j)<|q (oLnI j j uF42 j)<|q (oMv j j)<|nl)<|us<|Go.block<|?_
 obtain ⟨o,hl,h⟩:=bs h
 refine gl c179 j _ (fun (t_8_l2:Int)=>mk [(0,D 2 (W 3 e_S_Veneer s_0)),(1,D 2 (.clo 148 [])),(7,iv (s_0.length:Int)),(8,iv t_8_l2)] []) (fun (o:(Unit ⊕ Int)) (p:Ex×St)=>match o with | (.inl _)=>p.1= .exit 0∧p.2.norm ([],[])=mk [] [] | (.inr r2)=>p.1= .ret∧fin Tryz.prog cfg 179 Tryz.f179 [.im 2 false [W 3 e_S_Veneer s_0],.im 2 false [.clo 148 []]] p.2=some (B0 [(false,[.im 0 (I r2)])])) hl (by kernel_rfl) ?_ ?_ ?_
 ·intro o p hp e
  rcases o with u | r2<;>exact nomatch (hp.1.symm.trans e)
 ·rintro t_8_l2 o h
  unfold slices_IndexFunc_impl_Veneer_impl_Veneer_l2 at h
  refine gs<|g0 j j (q (oBi j j j j)<|nl)<|us<|gs<|gc h j iDec (fun hc5 h=>?_) fun hc5 h=>?_
  ·refine Go.skip<|us<|gs<|Go.block<|gs<|g0 j j (q (oMv j j)<|q (oAsI j j)<|nl)<|us<|gs<|?_
   obtain ⟨x14,hx14,h⟩:=bs h
   obtain ⟨x16,hx16,h⟩:=bs h
   refine g0 j j (q (oMv j j)<|q (oMv j j)<|q (oMv j j)<|q (oIAI j hx14 sF42 j j)<|q (oLd (cs:=[.im 2 _,.im 2 _,.im 2 _]) j tF123 j j)<|q (oCa (xs:=[.v true [.im 2 _,.im 2 _,.im 2 _]]) (vs:=[(false,[.im 0 _])]) (v:=.v false [.im 0 _]) (L_impl_validVeneers_c1 hx16) (.inr ⟨_,_,j,j⟩) j kF148_123 j (ppC j pp0) j j pb0 j j j)<|nl)<|us<|gc h j iR (fun hc6 h=>?_) fun hc6 h=>?_
   ·refine gs<|g0 j j (q (oMv j j)<|q (oAsI j j)<|nl)<|us<|Go.ret (Unw.ret ?_)
    cases h
    exact ⟨j,(fo rF179 j)⟩
   ·refine Go.skip<|Unw.blk<|us<|g0 j j (q (oBi j j j j)<|q (oMv j j)<|nl)<|Unw.nil<|?_
    cases h
    exact ⟨j,(by kernel_rfl)⟩
  ·refine Go.exit<|ux<|Unw.nil<|?_
   cases h
   exact ⟨j,(by kernel_rfl)⟩
 ·rintro ⟨e,st⟩ hp
  rcases o with u | r2
  ·dsimp only at h
   obtain ⟨he,hst⟩:=hp
   obtain rfl:e= .exit 0:=he
   refine Unw.blkx<|us<|gs<|g2 c179 j j hst (q (oAsI j j)<|nl)<|us<|Go.ret (Unw.ret ?_)
   cases h
   exact fr rF179 j
  ·dsimp only at h
   obtain ⟨he,hfin⟩:=hp
   obtain rfl:e= .ret:=he
   cases h
   exact Unw.ret (Fin_ret hfin)
theorem L_slices_ContainsFunc_impl_Veneer_impl_Veneer_148 {s_0:(List S_Veneer)} {r:Bool} (h:slices_ContainsFunc_impl_Veneer_impl_Veneer s_0 (fun b0=>impl_validVeneers_c1 b0)=some r):FX 147 [.im 2 false [W 3 e_S_Veneer s_0],.im 2 false [.clo 148 []]] (B0 [(false,[.im 0 (V r)])]):=by
 unfold slices_ContainsFunc_impl_Veneer_impl_Veneer at h
 refine gn 9 Tryz.func147 rfl ?_
 refine gs<|g0 j j (q (oAsI j j)<|nl)<|us<|gs<|?_
 obtain ⟨x7,hx7,h⟩:=bs h
 refine g0 j j (q (oMv j j)<|q (oMv j j)<|q (oCa (xs:=[.v false [.im 2 _],.v false [.im 2 _]]) (vs:=[(false,[.im 0 _])]) (v:=.v false [.im 0 _]) (L_slices_IndexFunc_impl_Veneer_impl_Veneer_148 hx7) (.inl j) j kF179_42_231 j (ppC j (ppC j pp0)) j j pb0 j j j)<|q (oBi j j j j)<|q (oAsI j j)<|nl)<|us<|Go.ret (Unw.ret ?_)
 cases h
 exact fr rF147 j
theorem L_impl_validVeneers {list_0:(List S_Veneer)} {r:Bool} (h:impl_validVeneers list_0=some r):FX 99 [.im 2 false [W 3 e_S_Veneer list_0]] (B0 [(false,[.im 0 (V r)])]):=by
 unfold impl_validVeneers at h
 refine gn 6 Tryz.func99 rfl ?_
 refine gs<|g0 j j (q (oAsI j j)<|nl)<|us<|gs<|?_
 obtain ⟨x4,hx4,h⟩:=bs h
 refine g0 j j (q (oMv j j)<|q (oCa (xs:=[.v false [.im 2 _],.fn 148 []]) (vs:=[(false,[.im 0 _])]) (v:=.v false [.im 0 _]) (L_slices_ContainsFunc_impl_Veneer_impl_Veneer_148 hx4) (.inl j) j kF147_42_231 j (ppC j (ppC j pp0)) j j pb0 j j j)<|q (oUn j j j)<|q (oAsI j j)<|nl)<|us<|Go.ret (Unw.ret ?_)
 cases h
 exact fr rF99 j
theorem L_impl_ValidPicture {p_0:S_Picture} {r:Bool} (h:impl_ValidPicture p_0=some r):FX 45 [.im 2 true (u_S_Picture p_0)] (B0 [(false,[.im 0 (V r)])]):=by
 unfold impl_ValidPicture at h
 refine gn 21 Tryz.func45 rfl ?_
 refine gs<|g0 j j (q (oBx j tF44 j (tkI (tkI (tkI (tkI (tkI tk0))))))<|q (oAsI j j)<|nl)<|us<|gs<|?_
 obtain ⟨x5,hx5,h⟩:=bs h
 obtain ⟨t_2_m1,hm3,h⟩:=bs h
 refine gX c45 j j (st1:=mk [(1,M 1)] [(1,Oa (G 2 (u_S_Picture p_0)))]) (by kernel_rfl) (mk [(2,bv t_2_m1)] []) ?_ ?_
 ·refine xq (oFA (r':=.mp 1 0 0) j fF44_0 j j)<|xq (oLd (cs:=[.im 0 _,.im 0 _,.im 2 _,.im 2 _]) j tF41 j j)<|xq (oCa (xs:=[.v true [.im 0 _,.im 0 _,.im 2 _,.im 2 _]]) (vs:=[(false,[.im 0 _])]) (v:=.v false [.im 0 _]) (L_impl_ValidDrawing hx5) (.inl j) j kF98_41 j (ppC j pp0) j j pb0 j j j)<|xq (oMv j j)<|?_
  refine ic hm3 (fun hc1 hm3=>?_) fun hc1 hm3=>?_
  ·refine xqT j j (iR.2 hc1) (oFA (r':=.mp 1 0 4) j fF44_1 j j)<|xqT j j (iR.2 hc1) (oLd (cs:=[.im 2 _]) j tF42 j j)<|xqT j j (iR.2 hc1) (oLnI j j uF42 j)<|xqT j j (iR.2 hc1) (oFA (r':=.mp 1 0 0) j fF44_0 j j)<|xqT j j (iR.2 hc1) (oFA (r':=.mp 1 0 3) j fF41_3 j j)<|xqT j j (iR.2 hc1) (oLd (cs:=[.im 2 _]) j tF39 j j)<|xqT j j (iR.2 hc1) (oLnI j j uF39 j)<|xqT j j (iR.2 hc1) (oBi j j j j)<|xq (oPkT j j (iR.2 hc1) j)<|xq (oMv j j)<|?_
   refine ic hm3 (fun hc2 hm3=>?_) fun hc2 hm3=>?_
   ·obtain ⟨x19,hx19,hm3⟩:=bs hm3
    cases hm3
    exact xqT j j (iEq.2 hc2) (oFA (r':=.mp 1 0 4) j fF44_1 j j)<|xqT j j (iEq.2 hc2) (oLd (cs:=[.im 2 _]) j tF42 j j)<|xqT j j (iEq.2 hc2) (oCa (xs:=[.v false [.im 2 _]]) (vs:=[(false,[.im 0 _])]) (v:=.v false [.im 0 _]) (L_impl_validVeneers hx19) (.inl j) j kF99_42 j (ppC j pp0) j j pb0 j j j)<|xq (oPkT j j (iEq.2 hc2) j)<|xq (oAsI j j)<|xn
   ·cases hm3
    exact xsgF j j (byF iEq hc2) j<|xsgF j j (byF iEq hc2) j<|xsgF j j (byF iEq hc2) j<|xq (oPkF j j (byF iEq hc2) j)<|xq (oAsI j j)<|xn
  ·cases hm3
   exact xsgF j j (byF iR hc1) j<|xsgF j j (byF iR hc1) j<|xsgF j j (byF iR hc1) j<|xsgF j j (byF iR hc1) j<|xsgF j j (byF iR hc1) j<|xsgF j j (byF iR hc1) j<|xsgF j j (byF iR hc1) j<|xsgF j j (byF iR hc1) j<|xq (oPkF j j (byF iR hc1) j)<|xq (oMv j j)<|xsgF j j j j<|xsgF j j j j<|xsgF j j j j<|xq (oPkF j j j j)<|xq (oAsI j j)<|xn
 ·refine us<|Go.ret (Unw.ret ?_)
  cases h
  exact fr rF45 j
theorem L_impl_boxWithin {b_0:S_Box} {width_1:Int} {length_2:Int} {r:Bool} (h:impl_boxWithin b_0 width_1 length_2=some r):FX 152 [.im 2 true (u_S_Box b_0),.im 2 false [I width_1],.im 2 false [I length_2]] (B0 [(false,[.im 0 (V r)])]):=by
 unfold impl_boxWithin at h
 refine gn 35 Tryz.func152 rfl ?_
 refine gs<|g0 j j (q (oBx j tF234 j (tkI (tkI (tkI (tkI tk0)))))<|q (oAsI j j)<|nl)<|us<|gs<|?_
 obtain ⟨x10,hx10,h⟩:=bs h
 obtain ⟨t_6_m1,hm4,h⟩:=bs h
 refine gX c152 j j j (mk [(6,bv t_6_m1)] []) ?_ ?_
 ·refine xq (oFA (r':=.mp 3 0 0) j fF234_0 j j)<|xq (oLd (cs:=[.im 0 _]) j tF2 j j)<|xq (oMv j j)<|xq (oCa (xs:=[.v false [.im 0 _],.v false [.im 0 _],.v false [.im 2 _]]) (vs:=[(false,[.im 0 _])]) (v:=.v false [.im 0 _]) (L_impl_within hx10) (.inl j) j kF49_2_2_2 j (ppC j (ppC j (ppC j pp0))) j j pb0 j j j)<|xq (oMv j j)<|?_
  refine ic hm4 (fun hc1 hm4=>?_) fun hc1 hm4=>?_
  ·obtain ⟨x15,hx15,hm4⟩:=bs hm4
   refine xqT j j (iR.2 hc1) (oFA (r':=.mp 3 0 1) j fF234_1 j j)<|xqT j j (iR.2 hc1) (oLd (cs:=[.im 0 _]) j tF2 j j)<|xqT j j (iR.2 hc1) (oMv j j)<|xqT j j (iR.2 hc1) (oCa (xs:=[.v false [.im 0 _],.v false [.im 0 _],.v false [.im 2 _]]) (vs:=[(false,[.im 0 _])]) (v:=.v false [.im 0 _]) (L_impl_within hx15) (.inl j) j kF49_2_2_2 j (ppC j (ppC j (ppC j pp0))) j j pb0 j j j)<|xq (oPkT j j (iR.2 hc1) j)<|xq (oMv j j)<|?_
   refine ic hm4 (fun hc2 hm4=>?_) fun hc2 hm4=>?_
   ·obtain ⟨x24,hx24,hm4⟩:=bs hm4
    refine xqT j j (iR.2 hc2) (oFA (r':=.mp 3 0 2) j fF234_2 j j)<|xqT j j (iR.2 hc2) (oLd (cs:=[.im 0 _]) j tF2 j j)<|xqT j j (iR.2 hc2) (oMv j j)<|xqT j j (iR.2 hc2) (oFA (r':=.mp 3 0 0) j fF234_0 j j)<|xqT j j (iR.2 hc2) (oLd (cs:=[.im 0 _]) j tF2 j j)<|xqT j j (iR.2 hc2) (oBi j j j j)<|xqT j j (iR.2 hc2) (oCa (xs:=[.v false [.im 0 _],.v false [.im 0 _],.v false [.im 0 _]]) (vs:=[(false,[.im 0 _])]) (v:=.v false [.im 0 _]) (L_impl_within hx24) (.inl j) j kF49_2_2_2 j (ppC j (ppC j (ppC j pp0))) j j pb0 j j j)<|xq (oPkT j j (iR.2 hc2) j)<|xq (oMv j j)<|?_
    refine ic hm4 (fun hc3 hm4=>?_) fun hc3 hm4=>?_
    ·obtain ⟨x33,hx33,hm4⟩:=bs hm4
     cases hm4
     exact xqT j j (iR.2 hc3) (oFA (r':=.mp 3 0 3) j fF234_3 j j)<|xqT j j (iR.2 hc3) (oLd (cs:=[.im 0 _]) j tF2 j j)<|xqT j j (iR.2 hc3) (oMv j j)<|xqT j j (iR.2 hc3) (oFA (r':=.mp 3 0 1) j fF234_1 j j)<|xqT j j (iR.2 hc3) (oLd (cs:=[.im 0 _]) j tF2 j j)<|xqT j j (iR.2 hc3) (oBi j j j j)<|xqT j j (iR.2 hc3) (oCa (xs:=[.v false [.im 0 _],.v false [.im 0 _],.v false [.im 0 _]]) (vs:=[(false,[.im 0 _])]) (v:=.v false [.im 0 _]) (L_impl_within hx33) (.inl j) j kF49_2_2_2 j (ppC j (ppC j (ppC j pp0))) j j pb0 j j j)<|xq (oPkT j j (iR.2 hc3) j)<|xq (oAsI j j)<|xn
    ·cases hm4
     exact xsgF j j (byF iR hc3) j<|xsgF j j (byF iR hc3) j<|xsgF j j (byF iR hc3) j<|xsgF j j (byF iR hc3) j<|xsgF j j (byF iR hc3) j<|xsgF j j (byF iR hc3) j<|xsgF j j (byF iR hc3) j<|xq (oPkF j j (byF iR hc3) j)<|xq (oAsI j j)<|xn
   ·cases hm4
    exact xsgF j j (byF iR hc2) j<|xsgF j j (byF iR hc2) j<|xsgF j j (byF iR hc2) j<|xsgF j j (byF iR hc2) j<|xsgF j j (byF iR hc2) j<|xsgF j j (byF iR hc2) j<|xsgF j j (byF iR hc2) j<|xq (oPkF j j (byF iR hc2) j)<|xq (oMv j j)<|xsgF j j j j<|xsgF j j j j<|xsgF j j j j<|xsgF j j j j<|xsgF j j j j<|xsgF j j j j<|xsgF j j j j<|xq (oPkF j j j j)<|xq (oAsI j j)<|xn
  ·cases hm4
   exact xsgF j j (byF iR hc1) j<|xsgF j j (byF iR hc1) j<|xsgF j j (byF iR hc1) j<|xsgF j j (byF iR hc1) j<|xq (oPkF j j (byF iR hc1) j)<|xq (oMv j j)<|xsgF j j j j<|xsgF j j j j<|xsgF j j j j<|xsgF j j j j<|xsgF j j j j<|xsgF j j j j<|xsgF j j j j<|xq (oPkF j j j j)<|xq (oMv j j)<|xsgF j j j j<|xsgF j j j j<|xsgF j j j j<|xsgF j j j j<|xsgF j j j j<|xsgF j j j j<|xsgF j j j j<|xq (oPkF j j j j)<|xq (oAsI j j)<|xn
 ·refine us<|Go.ret (Unw.ret ?_)
  cases h
  exact fr rF152 j
theorem L_impl_ValidLeaf_c1 {b_0:S_Box} {cap0_0:ByteArray} {cap0_1:ByteArray} {cap0_2:Int} {cap0_3:ByteArray} {cap0_4:Int} {cap0_5:Int} {cap0_6:Int} {cap0_7:Int} {cap0_8:(List S_Box)} {r:Bool} (h:impl_ValidLeaf_c1 b_0 cap0_0 cap0_1 cap0_2 cap0_3 cap0_4 cap0_5 cap0_6 cap0_7 cap0_8=some r):FX 151 [.im 2 true (u_S_Box b_0),.im 2 false [.cp [Y cap0_0,Y cap0_1,I cap0_2,Y cap0_3,I cap0_4,I cap0_5,I cap0_6,I cap0_7,W 4 e_S_Box cap0_8] 0]] (B0 [(false,[.im 0 (V r)])]):=by
 unfold impl_ValidLeaf_c1 at h
 refine gn 11 Tryz.func151 rfl ?_
 refine gs<|g0 j j (q (oBx j tF234 j (tkI (tkI (tkI (tkI tk0)))))<|q (oAsI j j)<|nl)<|us<|gs<|?_
 obtain ⟨x9,hx9,h⟩:=bs h
 refine g0 j j (q (oLd (cs:=[.im 0 _,.im 0 _,.im 0 _,.im 0 _]) j tF234 j j)<|q (oFA (r':=.im 2 _) j fF164_4 j j)<|q (oLd (cs:=[.im 2 _]) j tF2 j j)<|q (oFA (r':=.im 2 _) j fF164_5 j j)<|q (oLd (cs:=[.im 2 _]) j tF2 j j)<|q (oCa (xs:=[.v true [.im 0 _,.im 0 _,.im 0 _,.im 0 _],.v false [.im 2 _],.v false [.im 2 _]]) (vs:=[(false,[.im 0 _])]) (v:=.v false [.im 0 _]) (L_impl_boxWithin hx9) (.inl j) j kF152_234_2_2 j (ppC j (ppC j (ppC j pp0))) j j pb0 j j j)<|q (oUn j j j)<|q (oAsI j j)<|nl)<|us<|Go.ret (Unw.ret ?_)
 cases h
 exact fr rF151 j
theorem L_slices_IndexFunc_impl_Box_impl_Box_151 {s_0:(List S_Box)} {fc1_0_0:ByteArray} {fc1_0_1:ByteArray} {fc1_0_2:Int} {fc1_0_3:ByteArray} {fc1_0_4:Int} {fc1_0_5:Int} {fc1_0_6:Int} {fc1_0_7:Int} {fc1_0_8:(List S_Box)} {r:Int} (h:slices_IndexFunc_impl_Box_impl_Box s_0 (fun b0=>impl_ValidLeaf_c1 b0 fc1_0_0 fc1_0_1 fc1_0_2 fc1_0_3 fc1_0_4 fc1_0_5 fc1_0_6 fc1_0_7 fc1_0_8)=some r):FX 181 [.im 2 false [W 4 e_S_Box s_0],.im 2 false [.clo 151 [.cp [Y fc1_0_0,Y fc1_0_1,I fc1_0_2,Y fc1_0_3,I fc1_0_4,I fc1_0_5,I fc1_0_6,I fc1_0_7,W 4 e_S_Box fc1_0_8] 0]]] (B0 [(false,[.im 0 (I r)])]):=by
 unfold slices_IndexFunc_impl_Box_impl_Box at h
 refine gn 19 Tryz.func181 rfl ?_
 refine gs<|g0 j j (q (oAsI j j)<|nl)<|us<|gs<|gs<|g0 j j (q (oMv j j)<|q (oLnI j j uF162 j)<|q (oMv j j)<|nl)<|us<|Go.block<|?_
 obtain ⟨o,hl,h⟩:=bs h
 refine gl c181 j _ (fun (t_8_l2:Int)=>mk [(0,D 2 (W 4 e_S_Box s_0)),(1,D 2 (.clo 151 [.cp [Y fc1_0_0,Y fc1_0_1,I fc1_0_2,Y fc1_0_3,I fc1_0_4,I fc1_0_5,I fc1_0_6,I fc1_0_7,W 4 e_S_Box fc1_0_8] 0])),(7,iv (s_0.length:Int)),(8,iv t_8_l2)] []) (fun (o:(Unit ⊕ Int)) (p:Ex×St)=>match o with | (.inl _)=>p.1= .exit 0∧p.2.norm ([],[])=mk [] [] | (.inr r2)=>p.1= .ret∧fin Tryz.prog cfg 181 Tryz.f181 [.im 2 false [W 4 e_S_Box s_0],.im 2 false [.clo 151 [.cp [Y fc1_0_0,Y fc1_0_1,I fc1_0_2,Y fc1_0_3,I fc1_0_4,I fc1_0_5,I fc1_0_6,I fc1_0_7,W 4 e_S_Box fc1_0_8] 0]]] p.2=some (B0 [(false,[.im 0 (I r2)])])) hl (by kernel_rfl) ?_ ?_ ?_
 ·intro o p hp e
  rcases o with u | r2<;>exact nomatch (hp.1.symm.trans e)
 ·rintro t_8_l2 o h
  unfold slices_IndexFunc_impl_Box_impl_Box_l2 at h
  refine gs<|g0 j j (q (oBi j j j j)<|nl)<|us<|gs<|gc h j iDec (fun hc5 h=>?_) fun hc5 h=>?_
  ·refine Go.skip<|us<|gs<|Go.block<|gs<|g0 j j (q (oMv j j)<|q (oAsI j j)<|nl)<|us<|gs<|?_
   obtain ⟨x14,hx14,h⟩:=bs h
   obtain ⟨x16,hx16,h⟩:=bs h
   refine g0 j j (q (oMv j j)<|q (oMv j j)<|q (oMv j j)<|q (oIAI j hx14 sF162 j j)<|q (oLd (cs:=[.im 2 _,.im 2 _,.im 2 _,.im 2 _]) j tF234 j j)<|q (oCa (xs:=[.v true [.im 2 _,.im 2 _,.im 2 _,.im 2 _],.v false [.im 2 _]]) (vs:=[(false,[.im 0 _])]) (v:=.v false [.im 0 _]) (L_impl_ValidLeaf_c1 hx16) (.inr ⟨_,_,j,j⟩) j kF151_234_0 j (ppC j (ppC j pp0)) j j pb0 j j j)<|nl)<|us<|gc h j iR (fun hc6 h=>?_) fun hc6 h=>?_
   ·refine gs<|g0 j j (q (oMv j j)<|q (oAsI j j)<|nl)<|us<|Go.ret (Unw.ret ?_)
    cases h
    exact ⟨j,(fo rF181 j)⟩
   ·refine Go.skip<|Unw.blk<|us<|g0 j j (q (oBi j j j j)<|q (oMv j j)<|nl)<|Unw.nil<|?_
    cases h
    exact ⟨j,(by kernel_rfl)⟩
  ·refine Go.exit<|ux<|Unw.nil<|?_
   cases h
   exact ⟨j,(by kernel_rfl)⟩
 ·rintro ⟨e,st⟩ hp
  rcases o with u | r2
  ·dsimp only at h
   obtain ⟨he,hst⟩:=hp
   obtain rfl:e= .exit 0:=he
   refine Unw.blkx<|us<|gs<|g2 c181 j j hst (q (oAsI j j)<|nl)<|us<|Go.ret (Unw.ret ?_)
   cases h
   exact fr rF181 j
  ·dsimp only at h
   obtain ⟨he,hfin⟩:=hp
   obtain rfl:e= .ret:=he
   cases h
   exact Unw.ret (Fin_ret hfin)
theorem L_slices_ContainsFunc_impl_Box_impl_Box_151 {s_0:(List S_Box)} {fc1_0_0:ByteArray} {fc1_0_1:ByteArray} {fc1_0_2:Int} {fc1_0_3:ByteArray} {fc1_0_4:Int} {fc1_0_5:Int} {fc1_0_6:Int} {fc1_0_7:Int} {fc1_0_8:(List S_Box)} {r:Bool} (h:slices_ContainsFunc_impl_Box_impl_Box s_0 (fun b0=>impl_ValidLeaf_c1 b0 fc1_0_0 fc1_0_1 fc1_0_2 fc1_0_3 fc1_0_4 fc1_0_5 fc1_0_6 fc1_0_7 fc1_0_8)=some r):FX 150 [.im 2 false [W 4 e_S_Box s_0],.im 2 false [.clo 151 [.cp [Y fc1_0_0,Y fc1_0_1,I fc1_0_2,Y fc1_0_3,I fc1_0_4,I fc1_0_5,I fc1_0_6,I fc1_0_7,W 4 e_S_Box fc1_0_8] 0]]] (B0 [(false,[.im 0 (V r)])]):=by
 unfold slices_ContainsFunc_impl_Box_impl_Box at h
 refine gn 9 Tryz.func150 rfl ?_
 refine gs<|g0 j j (q (oAsI j j)<|nl)<|us<|gs<|?_
 obtain ⟨x7,hx7,h⟩:=bs h
 refine g0 j j (q (oMv j j)<|q (oMv j j)<|q (oCa (xs:=[.v false [.im 2 _],.v false [.im 2 _]]) (vs:=[(false,[.im 0 _])]) (v:=.v false [.im 0 _]) (L_slices_IndexFunc_impl_Box_impl_Box_151 hx7) (.inl j) j kF181_162_236 j (ppC j (ppC j pp0)) j j pb0 j j j)<|q (oBi j j j j)<|q (oAsI j j)<|nl)<|us<|Go.ret (Unw.ret ?_)
 cases h
 exact fr rF150 j
theorem L_impl_ValidLeaf {l_0:S_Leaf} {r:Bool} (h:impl_ValidLeaf l_0=some r):FX 100 [.im 2 true (u_S_Leaf l_0)] (B0 [(false,[.im 0 (V r)])]):=by
 unfold impl_ValidLeaf at h
 refine gn 46 Tryz.func100 rfl ?_
 refine gs<|g0 j j (q (oBx j tF164 j (tkI (tkI (tkI (tkI (tkI (tkI (tkI (tkI (tkI tk0))))))))))<|q (oAsI j j)<|nl)<|us<|gs<|gs<|?_
 obtain ⟨x5,hx5,h⟩:=bs h
 obtain ⟨t_24_m1,hm9,h⟩:=bs h
 refine gX c100 j j (st1:=mk [(1,M 1)] [(1,Oa (G 2 (u_S_Leaf l_0)))]) (by kernel_rfl) (mk [(1,M 1),(24,bv t_24_m1)] [(1,Oa (G 2 (u_S_Leaf l_0)))]) ?_ ?_
 ·refine xq (oFA (r':=.mp 1 0 0) j fF164_0 j j)<|xq (oLd (cs:=[.im 0 _]) j tF9 j j)<|xq (oCa (xs:=[.v false [.im 0 _]]) (vs:=[(false,[.im 0 _])]) (v:=.v false [.im 0 _]) (L_impl_IsName hx5) (.inl j) j kF144_9 j (ppC j pp0) j j pb0 j j j)<|xq (oUn j j j)<|xq (oMv j j)<|?_
  refine ic hm9 (fun hc1 hm9=>?_) fun hc1 hm9=>?_
  ·obtain ⟨x10,hx10,hm9⟩:=bs hm9
   refine xqT j j (nF (iR.2 hc1)) (oFA (r':=.mp 1 0 1) j fF164_1 j j)<|xqT j j (nF (iR.2 hc1)) (oLd (cs:=[.im 0 _]) j tF9 j j)<|xqT j j (nF (iR.2 hc1)) (oCa (xs:=[.v false [.im 0 _]]) (vs:=[(false,[.im 0 _])]) (v:=.v false [.im 0 _]) (L_impl_IsName hx10) (.inl j) j kF144_9 j (ppC j pp0) j j pb0 j j j)<|xqT j j (nF (iR.2 hc1)) (oUn j j j)<|xq (oPkF j j (nF (iR.2 hc1)) j)<|xq (oMv j j)<|?_
   refine ic hm9 (fun hc2 hm9=>?_) fun hc2 hm9=>?_
   ·obtain ⟨x16,hx16,hm9⟩:=bs hm9
    refine xqT j j (nF (iR.2 hc2)) (oFA (r':=.mp 1 0 2) j fF164_2 j j)<|xqT j j (nF (iR.2 hc2)) (oLd (cs:=[.im 0 _]) j tF2 j j)<|xqT j j (nF (iR.2 hc2)) (oCa (xs:=[.v false [.im 0 _],.v false [.im 0 _],.v false [.im 0 _]]) (vs:=[(false,[.im 0 _])]) (v:=.v false [.im 0 _]) (L_impl_within hx16) (.inl j) j kF49_2_2_2 j (ppC j (ppC j (ppC j pp0))) j j pb0 j j j)<|xqT j j (nF (iR.2 hc2)) (oUn j j j)<|xq (oPkF j j (nF (iR.2 hc2)) j)<|xq (oMv j j)<|?_
    refine ic hm9 (fun hc3 hm9=>?_) fun hc3 hm9=>?_
    ·obtain ⟨x22,hx22,hm9⟩:=bs hm9
     cases hm9
     exact xqT j j (nF (iR.2 hc3)) (oFA (r':=.mp 1 0 3) j fF164_3 j j)<|xqT j j (nF (iR.2 hc3)) (oLd (cs:=[.im 0 _,.im 0 _,.im 0 _]) j tF123 j j)<|xqT j j (nF (iR.2 hc3)) (oCa (xs:=[.v true [.im 0 _,.im 0 _,.im 0 _]]) (vs:=[(false,[.im 0 _])]) (v:=.v false [.im 0 _]) (L_impl_ValidVeneer hx22) (.inl j) j kF149_123 j (ppC j pp0) j j pb0 j j j)<|xqT j j (nF (iR.2 hc3)) (oUn j j j)<|xq (oPkF j j (nF (iR.2 hc3)) j)<|xn
    ·cases hm9
     exact xsgF j j (nT (byF iR hc3)) j<|xsgF j j (nT (byF iR hc3)) j<|xsgF j j (nT (byF iR hc3)) j<|xsgF j j (nT (byF iR hc3)) j<|xq (oPkT j j (nT (byF iR hc3)) j)<|xn
   ·cases hm9
    exact xsgF j j (nT (byF iR hc2)) j<|xsgF j j (nT (byF iR hc2)) j<|xsgF j j (nT (byF iR hc2)) j<|xsgF j j (nT (byF iR hc2)) j<|xq (oPkT j j (nT (byF iR hc2)) j)<|xq (oMv j j)<|xsgF j j j j<|xsgF j j j j<|xsgF j j j j<|xsgF j j j j<|xq (oPkT j j j j)<|xn
  ·cases hm9
   exact xsgF j j (nT (byF iR hc1)) j<|xsgF j j (nT (byF iR hc1)) j<|xsgF j j (nT (byF iR hc1)) j<|xsgF j j (nT (byF iR hc1)) j<|xq (oPkT j j (nT (byF iR hc1)) j)<|xq (oMv j j)<|xsgF j j j j<|xsgF j j j j<|xsgF j j j j<|xsgF j j j j<|xq (oPkT j j j j)<|xq (oMv j j)<|xsgF j j j j<|xsgF j j j j<|xsgF j j j j<|xsgF j j j j<|xq (oPkT j j j j)<|xn
 ·refine us<|gc h j iR (fun hc4 h=>?_) fun hc4 h=>?_
  ·refine gs<|g0 j j (q (oAsI j j)<|nl)<|us<|Go.ret (Unw.ret ?_)
   cases h
   exact fr rF100 j
  ·refine Go.skip<|us<|gs<|gs<|?_
   obtain ⟨x27,hx27,h⟩:=bs h
   obtain ⟨t_40_m3,hm8,h⟩:=bs h
   refine gX c100 j j j (mk [(1,M 1),(40,bv t_40_m3)] [(1,Oa (G 2 (u_S_Leaf l_0)))]) ?_ ?_
   ·refine xq (oFA (r':=.mp 1 0 6) j fF164_4 j j)<|xq (oLd (cs:=[.im 0 _]) j tF2 j j)<|xq (oCa (xs:=[.v false [.im 0 _],.v false [.im 0 _],.v false [.im 0 _]]) (vs:=[(false,[.im 0 _])]) (v:=.v false [.im 0 _]) (L_impl_within hx27) (.inl j) j kF49_2_2_2 j (ppC j (ppC j (ppC j pp0))) j j pb0 j j j)<|xq (oUn j j j)<|xq (oMv j j)<|?_
    refine ic hm8 (fun hc5 hm8=>?_) fun hc5 hm8=>?_
    ·obtain ⟨x32,hx32,hm8⟩:=bs hm8
     refine xqT j j (nF (iR.2 hc5)) (oFA (r':=.mp 1 0 7) j fF164_5 j j)<|xqT j j (nF (iR.2 hc5)) (oLd (cs:=[.im 0 _]) j tF2 j j)<|xqT j j (nF (iR.2 hc5)) (oCa (xs:=[.v false [.im 0 _],.v false [.im 0 _],.v false [.im 0 _]]) (vs:=[(false,[.im 0 _])]) (v:=.v false [.im 0 _]) (L_impl_within hx32) (.inl j) j kF49_2_2_2 j (ppC j (ppC j (ppC j pp0))) j j pb0 j j j)<|xqT j j (nF (iR.2 hc5)) (oUn j j j)<|xq (oPkF j j (nF (iR.2 hc5)) j)<|xq (oMv j j)<|?_
     refine ic hm8 (fun hc6 hm8=>?_) fun hc6 hm8=>?_
     ·cases hm8
      exact xqT j j (nF (iR.2 hc6)) (oFA (r':=.mp 1 0 8) j fF164_6 j j)<|xqT j j (nF (iR.2 hc6)) (oLd (cs:=[.im 2 _]) j tF162 j j)<|xqT j j (nF (iR.2 hc6)) (oLnI j j uF162 j)<|xqT j j (nF (iR.2 hc6)) (oBi j j j j)<|xq (oPkF j j (nF (iR.2 hc6)) j)<|xn
     ·cases hm8
      exact xsgF j j (nT (byF iR hc6)) j<|xsgF j j (nT (byF iR hc6)) j<|xsgF j j (nT (byF iR hc6)) j<|xsgF j j (nT (byF iR hc6)) j<|xq (oPkT j j (nT (byF iR hc6)) j)<|xn
    ·cases hm8
     exact xsgF j j (nT (byF iR hc5)) j<|xsgF j j (nT (byF iR hc5)) j<|xsgF j j (nT (byF iR hc5)) j<|xsgF j j (nT (byF iR hc5)) j<|xq (oPkT j j (nT (byF iR hc5)) j)<|xq (oMv j j)<|xsgF j j j j<|xsgF j j j j<|xsgF j j j j<|xsgF j j j j<|xq (oPkT j j j j)<|xn
   ·refine us<|gc h j iR (fun hc7 h=>?_) fun hc7 h=>?_
    ·refine gs<|g0 j j (q (oAsI j j)<|nl)<|us<|Go.ret (Unw.ret ?_)
     cases h
     exact fr rF100 j
    ·refine Go.skip<|us<|gs<|?_
     obtain ⟨x44,hx44,h⟩:=bs h
     refine g0 j j (q (oFA (r':=.mp 1 0 8) j fF164_6 j j)<|q (oLd (cs:=[.im 2 _]) j tF162 j j)<|q (oMF (rs:=[.mp 1 0 0]) j j)<|q (oCa (xs:=[.v false [.im 2 _],.fn 151 [.mp 1 0 0]]) (vs:=[(false,[.im 0 _])]) (v:=.v false [.im 0 _]) (L_slices_ContainsFunc_impl_Box_impl_Box_151 hx44) (.inl j) j kF150_162_236 j (ppC j (ppC j pp0)) j j pb0 j j j)<|q (oUn j j j)<|q (oAsI j j)<|nl)<|us<|Go.ret (Unw.ret ?_)
     cases h
     exact fr rF100 j
theorem L_impl_ValidLeaves {list_0:(List S_Leaf)} {r:Bool} (h:impl_ValidLeaves list_0=some r):FX 46 [.im 2 false [W 9 e_S_Leaf list_0]] (B0 [(false,[.im 0 (V r)])]):=by
 unfold impl_ValidLeaves at h
 refine gn 34 Tryz.func46 rfl ?_
 refine gs<|g0 j j (q (oAsI j j)<|nl)<|us<|gs<|gs<|g0 j j (q (oMv j j)<|q (oLnI j j uF45 j)<|q (oMv j j)<|nl)<|us<|Go.block<|?_
 obtain ⟨o,hl,h⟩:=bs h
 refine gl c46 j _ (fun (t_7_l2:Int)=>mk [(0,D 2 (W 9 e_S_Leaf list_0)),(5,D 2 (W 9 e_S_Leaf list_0)),(6,iv (list_0.length:Int)),(7,iv t_7_l2)] []) (fun (o:(Unit ⊕ Bool)) (p:Ex×St)=>match o with | (.inl _)=>p.1= .exit 0∧p.2.norm ([0],[])=mk [(0,D 2 (W 9 e_S_Leaf list_0))] [] | (.inr r2)=>p.1= .ret∧fin Tryz.prog cfg 46 Tryz.f46 [.im 2 false [W 9 e_S_Leaf list_0]] p.2=some (B0 [(false,[.im 0 (V r2)])])) hl (by kernel_rfl) ?_ ?_ ?_
 ·intro o p hp e
  rcases o with u | r2<;>exact nomatch (hp.1.symm.trans e)
 ·rintro t_7_l2 o h
  unfold impl_ValidLeaves_l2 at h
  refine gs<|g0 j j (q (oBi j j j j)<|nl)<|us<|gs<|gc h j iDec (fun hc11 h=>?_) fun hc11 h=>?_
  ·refine Go.skip<|us<|gs<|Go.block<|gs<|?_
   obtain ⟨x10,hx10,h⟩:=bs h
   refine g0 j j (q (oMv j j)<|q (oIAI j hx10 sF45 j j)<|q (oLd (cs:=[.im 2 _,.im 2 _,.im 2 _,.im 2 _,.im 2 _,.im 2 _,.im 2 _,.im 2 _,.im 2 _]) j tF164 j j)<|q (oAl j tF164 (tkI (tkI (tkI (tkI (tkI (tkI (tkI (tkI (tkN tk0))))))))))<|q (oAsI j j)<|q (oSt tF164 j j j (tkI (tkI (tkI (tkI (tkI (tkI (tkI (tkI (tkI tk0))))))))) j j j)<|nl)<|us<|gs<|?_
   obtain ⟨x13,hx13,h⟩:=bs h
   obtain ⟨t_29_m4,hm15,h⟩:=bs h
   refine gd c46 j j j (st1:=mk [(0,D 2 (W 9 e_S_Leaf list_0)),(3,iv t_7_l2),(4,M 4),(5,D 2 (W 9 e_S_Leaf list_0)),(6,iv (list_0.length:Int)),(7,iv t_7_l2)] [(4,Oa (G 2 (u_S_Leaf x10)))]) (by kernel_rfl) (mk [(0,D 2 (W 9 e_S_Leaf list_0)),(5,D 2 (W 9 e_S_Leaf list_0)),(6,iv (list_0.length:Int)),(7,iv t_7_l2),(29,bv t_29_m4)] []) ?_ ?_
   ·refine ic hm15 (fun hc12 hm15=>?_) fun hc12 hm15=>?_
    ·refine ic hm15 (fun hc13 hm15=>?_) fun hc13 hm15=>?_
     ·obtain ⟨x22,hx22,hm15⟩:=bs hm15
      cases hm15
      exact t j j (oLd (cs:=[.im 0 _,.im 0 _,.im 0 _,.im 0 _,.im 0 _,.im 0 _,.im 0 _,.im 0 _,.im 2 _]) j tF164 j j)<|sS (dN z46 j (oCa (xs:=[.v true [.im 0 _,.im 0 _,.im 0 _,.im 0 _,.im 0 _,.im 0 _,.im 0 _,.im 0 _,.im 2 _]]) (vs:=[(false,[.im 0 _])]) (v:=.v false [.im 0 _]) (L_impl_ValidLeaf hx13) (.inl j) j kF100_164 j (ppC j pp0) j j pb0 j j j)) trivial (t j j (oUn j j j)<|t j j (oMv j j)<|tT j j j j (nF (iR.2 hc12)) (oMv j j)<|tT j j j j (nF (iR.2 hc12)) (oBi j j j j)<|tT j j j j (nF (iR.2 hc12)) (oMv j j)<|tT j j j j (iDec.2 hc13) (oMv j j)<|tT j j j j (iDec.2 hc13) (oMv j j)<|tT j j j j (iDec.2 hc13) (oBi j j j j)<|tT j j j j (iDec.2 hc13) (oIAI j hx22 sF45 j j)<|tT j j j j (iDec.2 hc13) (oFA (r':=.im 2 _) j fF164_0 j j)<|tT j j j j (iDec.2 hc13) (oLd (cs:=[.im 2 _]) j tF9 j j)<|tT j j j j (iDec.2 hc13) (oFA (r':=.mp 4 0 0) j fF164_0 j j)<|tT j j j j (iDec.2 hc13) (oLd (cs:=[.im 0 _]) j tF9 j j)<|tT j j j j (iDec.2 hc13) (oBi j j j j)<|tT j j j j (nF (iR.2 hc12)) (oPkT j j (iDec.2 hc13) j)<|t j j (oPkF j j (nF (iR.2 hc12)) j)<|sD (by kernel_rfl))
     ·cases hm15
      exact t j j (oLd (cs:=[.im 0 _,.im 0 _,.im 0 _,.im 0 _,.im 0 _,.im 0 _,.im 0 _,.im 0 _,.im 2 _]) j tF164 j j)<|sS (dN z46 j (oCa (xs:=[.v true [.im 0 _,.im 0 _,.im 0 _,.im 0 _,.im 0 _,.im 0 _,.im 0 _,.im 0 _,.im 2 _]]) (vs:=[(false,[.im 0 _])]) (v:=.v false [.im 0 _]) (L_impl_ValidLeaf hx13) (.inl j) j kF100_164 j (ppC j pp0) j j pb0 j j j)) trivial (t j j (oUn j j j)<|t j j (oMv j j)<|tT j j j j (nF (iR.2 hc12)) (oMv j j)<|tT j j j j (nF (iR.2 hc12)) (oBi j j j j)<|tT j j j j (nF (iR.2 hc12)) (oMv j j)<|tF j j j j (byF iDec hc13) j<|tF j j j j (byF iDec hc13) j<|tF j j j j (byF iDec hc13) j<|tF j j j j (byF iDec hc13) j<|tF j j j j (byF iDec hc13) j<|tF j j j j (byF iDec hc13) j<|tF j j j j (byF iDec hc13) j<|tF j j j j (byF iDec hc13) j<|tF j j j j (byF iDec hc13) j<|tT j j j j (nF (iR.2 hc12)) (oPkF j j (byF iDec hc13) j)<|t j j (oPkF j j (nF (iR.2 hc12)) j)<|sD (by kernel_rfl))
    ·cases hm15
     exact t j j (oLd (cs:=[.im 0 _,.im 0 _,.im 0 _,.im 0 _,.im 0 _,.im 0 _,.im 0 _,.im 0 _,.im 2 _]) j tF164 j j)<|sS (dN z46 j (oCa (xs:=[.v true [.im 0 _,.im 0 _,.im 0 _,.im 0 _,.im 0 _,.im 0 _,.im 0 _,.im 0 _,.im 2 _]]) (vs:=[(false,[.im 0 _])]) (v:=.v false [.im 0 _]) (L_impl_ValidLeaf hx13) (.inl j) j kF100_164 j (ppC j pp0) j j pb0 j j j)) trivial (t j j (oUn j j j)<|t j j (oMv j j)<|tF j j j j (nT (byF iR hc12)) j<|tF j j j j (nT (byF iR hc12)) j<|tF j j j j (nT (byF iR hc12)) j<|sT j (dU j j j j)<|sT j (dU j j j j)<|sT j (dU j j j j)<|sT j (dU j j j j)<|sT j (dU j j j j)<|sT j (dU j j j j)<|sT j (dU j j j j)<|sT j (dU j j j j)<|sT j (dU j j j j)<|tF j j j j (nT (byF iR hc12)) j<|t j j (oPkT j j (nT (byF iR hc12)) j)<|sD (by kernel_rfl))
   ·refine us<|gc h j iR (fun hc14 h=>?_) fun hc14 h=>?_
    ·refine gs<|g0 j j (q (oAsI j j)<|nl)<|us<|Go.ret (Unw.ret ?_)
     cases h
     exact ⟨j,(fo rF46 j)⟩
    ·refine Go.skip<|Unw.blk<|us<|g0 j j (q (oBi j j j j)<|q (oMv j j)<|nl)<|Unw.nil<|?_
     cases h
     exact ⟨j,(by kernel_rfl)⟩
  ·refine Go.exit<|ux<|Unw.nil<|?_
   cases h
   exact ⟨j,(by kernel_rfl)⟩
 ·rintro ⟨e,st⟩ hp
  rcases o with u | r2
  ·dsimp only at h
   obtain ⟨he,hst⟩:=hp
   obtain rfl:e= .exit 0:=he
   refine Unw.blkx<|us<|gs<|g2 c46 j j hst (q (oMv j j)<|q (oLnI j j uF45 j)<|q (oBi j j j j)<|q (oAsI j j)<|nl)<|us<|Go.ret (Unw.ret ?_)
   cases h
   exact fr rF46 j
  ·dsimp only at h
   obtain ⟨he,hfin⟩:=hp
   obtain rfl:e= .ret:=he
   cases h
   exact Unw.ret (Fin_ret hfin)
theorem L_impl_validPlacement {p_0:S_Placement} {r:Bool} (h:impl_validPlacement p_0=some r):FX 101 [.im 2 true (u_S_Placement p_0)] (B0 [(false,[.im 0 (V r)])]):=by
 unfold impl_validPlacement at h
 refine gn 26 Tryz.func101 rfl ?_
 refine gs<|g0 j j (q (oBx j tF101 j (tkI (tkI (tkI (tkI (tkI tk0))))))<|q (oAsI j j)<|nl)<|us<|gs<|?_
 obtain ⟨x5,hx5,h⟩:=bs h
 obtain ⟨t_2_m1,hm5,h⟩:=bs h
 refine gX c101 j j (st1:=mk [(1,M 1)] [(1,Oa (G 0 (u_S_Placement p_0)))]) (by kernel_rfl) (mk [(2,bv t_2_m1)] []) ?_ ?_
 ·refine xq (oFA (r':=.mp 1 0 0) j fF101_0 j j)<|xq (oLd (cs:=[.im 0 _]) j tF2 j j)<|xq (oCa (xs:=[.v false [.im 0 _],.v false [.im 0 _],.v false [.im 0 _]]) (vs:=[(false,[.im 0 _])]) (v:=.v false [.im 0 _]) (L_impl_within hx5) (.inl j) j kF49_2_2_2 j (ppC j (ppC j (ppC j pp0))) j j pb0 j j j)<|xq (oMv j j)<|?_
  refine ic hm5 (fun hc1 hm5=>?_) fun hc1 hm5=>?_
  ·obtain ⟨x9,hx9,hm5⟩:=bs hm5
   refine xqT j j (iR.2 hc1) (oFA (r':=.mp 1 0 1) j fF101_1 j j)<|xqT j j (iR.2 hc1) (oLd (cs:=[.im 0 _]) j tF2 j j)<|xqT j j (iR.2 hc1) (oCa (xs:=[.v false [.im 0 _],.v false [.im 0 _],.v false [.im 0 _]]) (vs:=[(false,[.im 0 _])]) (v:=.v false [.im 0 _]) (L_impl_within hx9) (.inl j) j kF49_2_2_2 j (ppC j (ppC j (ppC j pp0))) j j pb0 j j j)<|xq (oPkT j j (iR.2 hc1) j)<|xq (oMv j j)<|?_
   refine ic hm5 (fun hc2 hm5=>?_) fun hc2 hm5=>?_
   ·obtain ⟨x14,hx14,hm5⟩:=bs hm5
    refine xqT j j (iR.2 hc2) (oFA (r':=.mp 1 0 2) j fF101_2 j j)<|xqT j j (iR.2 hc2) (oLd (cs:=[.im 0 _]) j tF2 j j)<|xqT j j (iR.2 hc2) (oCa (xs:=[.v false [.im 0 _],.v false [.im 0 _],.v false [.im 0 _]]) (vs:=[(false,[.im 0 _])]) (v:=.v false [.im 0 _]) (L_impl_within hx14) (.inl j) j kF49_2_2_2 j (ppC j (ppC j (ppC j pp0))) j j pb0 j j j)<|xq (oPkT j j (iR.2 hc2) j)<|xq (oMv j j)<|?_
    refine ic hm5 (fun hc3 hm5=>?_) fun hc3 hm5=>?_
    ·obtain ⟨x19,hx19,hm5⟩:=bs hm5
     refine xqT j j (iR.2 hc3) (oFA (r':=.mp 1 0 3) j fF101_3 j j)<|xqT j j (iR.2 hc3) (oLd (cs:=[.im 0 _]) j tF2 j j)<|xqT j j (iR.2 hc3) (oCa (xs:=[.v false [.im 0 _],.v false [.im 0 _],.v false [.im 0 _]]) (vs:=[(false,[.im 0 _])]) (v:=.v false [.im 0 _]) (L_impl_within hx19) (.inl j) j kF49_2_2_2 j (ppC j (ppC j (ppC j pp0))) j j pb0 j j j)<|xq (oPkT j j (iR.2 hc3) j)<|xq (oMv j j)<|?_
     refine ic hm5 (fun hc4 hm5=>?_) fun hc4 hm5=>?_
     ·obtain ⟨x24,hx24,hm5⟩:=bs hm5
      cases hm5
      exact xqT j j (iR.2 hc4) (oFA (r':=.mp 1 0 4) j fF101_4 j j)<|xqT j j (iR.2 hc4) (oLd (cs:=[.im 0 _]) j tF2 j j)<|xqT j j (iR.2 hc4) (oCa (xs:=[.v false [.im 0 _],.v false [.im 0 _],.v false [.im 0 _]]) (vs:=[(false,[.im 0 _])]) (v:=.v false [.im 0 _]) (L_impl_within hx24) (.inl j) j kF49_2_2_2 j (ppC j (ppC j (ppC j pp0))) j j pb0 j j j)<|xq (oPkT j j (iR.2 hc4) j)<|xq (oAsI j j)<|xn
     ·cases hm5
      exact xsgF j j (byF iR hc4) j<|xsgF j j (byF iR hc4) j<|xsgF j j (byF iR hc4) j<|xq (oPkF j j (byF iR hc4) j)<|xq (oAsI j j)<|xn
    ·cases hm5
     exact xsgF j j (byF iR hc3) j<|xsgF j j (byF iR hc3) j<|xsgF j j (byF iR hc3) j<|xq (oPkF j j (byF iR hc3) j)<|xq (oMv j j)<|xsgF j j j j<|xsgF j j j j<|xsgF j j j j<|xq (oPkF j j j j)<|xq (oAsI j j)<|xn
   ·cases hm5
    exact xsgF j j (byF iR hc2) j<|xsgF j j (byF iR hc2) j<|xsgF j j (byF iR hc2) j<|xq (oPkF j j (byF iR hc2) j)<|xq (oMv j j)<|xsgF j j j j<|xsgF j j j j<|xsgF j j j j<|xq (oPkF j j j j)<|xq (oMv j j)<|xsgF j j j j<|xsgF j j j j<|xsgF j j j j<|xq (oPkF j j j j)<|xq (oAsI j j)<|xn
  ·cases hm5
   exact xsgF j j (byF iR hc1) j<|xsgF j j (byF iR hc1) j<|xsgF j j (byF iR hc1) j<|xq (oPkF j j (byF iR hc1) j)<|xq (oMv j j)<|xsgF j j j j<|xsgF j j j j<|xsgF j j j j<|xq (oPkF j j j j)<|xq (oMv j j)<|xsgF j j j j<|xsgF j j j j<|xsgF j j j j<|xq (oPkF j j j j)<|xq (oMv j j)<|xsgF j j j j<|xsgF j j j j<|xsgF j j j j<|xq (oPkF j j j j)<|xq (oAsI j j)<|xn
 ·refine us<|Go.ret (Unw.ret ?_)
  cases h
  exact fr rF101 j
theorem L_impl_ValidPlacements {list_0:(List S_Placement)} {r:Bool} (h:impl_ValidPlacements list_0=some r):FX 47 [.im 2 false [W 5 e_S_Placement list_0]] (B0 [(false,[.im 0 (V r)])]):=by
 unfold impl_ValidPlacements at h
 refine gn 34 Tryz.func47 rfl ?_
 refine gs<|g0 j j (q (oAsI j j)<|nl)<|us<|gs<|gs<|g0 j j (q (oMv j j)<|q (oLnI j j uF46 j)<|q (oMv j j)<|nl)<|us<|Go.block<|?_
 obtain ⟨o,hl,h⟩:=bs h
 refine gl c47 j _ (fun (t_7_l2:Int)=>mk [(0,D 2 (W 5 e_S_Placement list_0)),(5,D 2 (W 5 e_S_Placement list_0)),(6,iv (list_0.length:Int)),(7,iv t_7_l2)] []) (fun (o:(Unit ⊕ Bool)) (p:Ex×St)=>match o with | (.inl _)=>p.1= .exit 0∧p.2.norm ([0],[])=mk [(0,D 2 (W 5 e_S_Placement list_0))] [] | (.inr r2)=>p.1= .ret∧fin Tryz.prog cfg 47 Tryz.f47 [.im 2 false [W 5 e_S_Placement list_0]] p.2=some (B0 [(false,[.im 0 (V r2)])])) hl (by kernel_rfl) ?_ ?_ ?_
 ·intro o p hp e
  rcases o with u | r2<;>exact nomatch (hp.1.symm.trans e)
 ·rintro t_7_l2 o h
  unfold impl_ValidPlacements_l2 at h
  refine gs<|g0 j j (q (oBi j j j j)<|nl)<|us<|gs<|gc h j iDec (fun hc11 h=>?_) fun hc11 h=>?_
  ·refine Go.skip<|us<|gs<|Go.block<|gs<|?_
   obtain ⟨x10,hx10,h⟩:=bs h
   refine g0 j j (q (oMv j j)<|q (oIAI j hx10 sF46 j j)<|q (oLd (cs:=[.im 2 _,.im 2 _,.im 2 _,.im 2 _,.im 2 _]) j tF101 j j)<|q (oAl j tF101 (tkI (tkI (tkI (tkI (tkI tk0))))))<|q (oAsI j j)<|q (oSt tF101 j j j (tkI (tkI (tkI (tkI (tkI tk0))))) j j j)<|nl)<|us<|gs<|?_
   obtain ⟨x13,hx13,h⟩:=bs h
   obtain ⟨t_29_m4,hm15,h⟩:=bs h
   refine gd c47 j j j (st1:=mk [(0,D 2 (W 5 e_S_Placement list_0)),(3,iv t_7_l2),(4,M 4),(5,D 2 (W 5 e_S_Placement list_0)),(6,iv (list_0.length:Int)),(7,iv t_7_l2)] [(4,Oa (G 0 (u_S_Placement x10)))]) (by kernel_rfl) (mk [(0,D 2 (W 5 e_S_Placement list_0)),(5,D 2 (W 5 e_S_Placement list_0)),(6,iv (list_0.length:Int)),(7,iv t_7_l2),(29,bv t_29_m4)] []) ?_ ?_
   ·refine ic hm15 (fun hc12 hm15=>?_) fun hc12 hm15=>?_
    ·refine ic hm15 (fun hc13 hm15=>?_) fun hc13 hm15=>?_
     ·obtain ⟨x22,hx22,hm15⟩:=bs hm15
      cases hm15
      exact t j j (oLd (cs:=[.im 0 _,.im 0 _,.im 0 _,.im 0 _,.im 0 _]) j tF101 j j)<|sS (dN z47 j (oCa (xs:=[.v true [.im 0 _,.im 0 _,.im 0 _,.im 0 _,.im 0 _]]) (vs:=[(false,[.im 0 _])]) (v:=.v false [.im 0 _]) (L_impl_validPlacement hx13) (.inl j) j kF101_101 j (ppC j pp0) j j pb0 j j j)) trivial (t j j (oUn j j j)<|t j j (oMv j j)<|tT j j j j (nF (iR.2 hc12)) (oMv j j)<|tT j j j j (nF (iR.2 hc12)) (oBi j j j j)<|tT j j j j (nF (iR.2 hc12)) (oMv j j)<|tT j j j j (iDec.2 hc13) (oMv j j)<|tT j j j j (iDec.2 hc13) (oMv j j)<|tT j j j j (iDec.2 hc13) (oBi j j j j)<|tT j j j j (iDec.2 hc13) (oIAI j hx22 sF46 j j)<|tT j j j j (iDec.2 hc13) (oFA (r':=.im 2 _) j fF101_0 j j)<|tT j j j j (iDec.2 hc13) (oLd (cs:=[.im 2 _]) j tF2 j j)<|tT j j j j (iDec.2 hc13) (oFA (r':=.mp 4 0 0) j fF101_0 j j)<|tT j j j j (iDec.2 hc13) (oLd (cs:=[.im 0 _]) j tF2 j j)<|tT j j j j (iDec.2 hc13) (oBi j j j j)<|tT j j j j (nF (iR.2 hc12)) (oPkT j j (iDec.2 hc13) j)<|t j j (oPkF j j (nF (iR.2 hc12)) j)<|sD (by kernel_rfl))
     ·cases hm15
      exact t j j (oLd (cs:=[.im 0 _,.im 0 _,.im 0 _,.im 0 _,.im 0 _]) j tF101 j j)<|sS (dN z47 j (oCa (xs:=[.v true [.im 0 _,.im 0 _,.im 0 _,.im 0 _,.im 0 _]]) (vs:=[(false,[.im 0 _])]) (v:=.v false [.im 0 _]) (L_impl_validPlacement hx13) (.inl j) j kF101_101 j (ppC j pp0) j j pb0 j j j)) trivial (t j j (oUn j j j)<|t j j (oMv j j)<|tT j j j j (nF (iR.2 hc12)) (oMv j j)<|tT j j j j (nF (iR.2 hc12)) (oBi j j j j)<|tT j j j j (nF (iR.2 hc12)) (oMv j j)<|tF j j j j (byF iDec hc13) j<|tF j j j j (byF iDec hc13) j<|tF j j j j (byF iDec hc13) j<|tF j j j j (byF iDec hc13) j<|tF j j j j (byF iDec hc13) j<|tF j j j j (byF iDec hc13) j<|tF j j j j (byF iDec hc13) j<|tF j j j j (byF iDec hc13) j<|tF j j j j (byF iDec hc13) j<|tT j j j j (nF (iR.2 hc12)) (oPkF j j (byF iDec hc13) j)<|t j j (oPkF j j (nF (iR.2 hc12)) j)<|sD (by kernel_rfl))
    ·cases hm15
     exact t j j (oLd (cs:=[.im 0 _,.im 0 _,.im 0 _,.im 0 _,.im 0 _]) j tF101 j j)<|sS (dN z47 j (oCa (xs:=[.v true [.im 0 _,.im 0 _,.im 0 _,.im 0 _,.im 0 _]]) (vs:=[(false,[.im 0 _])]) (v:=.v false [.im 0 _]) (L_impl_validPlacement hx13) (.inl j) j kF101_101 j (ppC j pp0) j j pb0 j j j)) trivial (t j j (oUn j j j)<|t j j (oMv j j)<|tF j j j j (nT (byF iR hc12)) j<|tF j j j j (nT (byF iR hc12)) j<|tF j j j j (nT (byF iR hc12)) j<|sT j (dU j j j j)<|sT j (dU j j j j)<|sT j (dU j j j j)<|sT j (dU j j j j)<|sT j (dU j j j j)<|sT j (dU j j j j)<|sT j (dU j j j j)<|sT j (dU j j j j)<|sT j (dU j j j j)<|tF j j j j (nT (byF iR hc12)) j<|t j j (oPkT j j (nT (byF iR hc12)) j)<|sD (by kernel_rfl))
   ·refine us<|gc h j iR (fun hc14 h=>?_) fun hc14 h=>?_
    ·refine gs<|g0 j j (q (oAsI j j)<|nl)<|us<|Go.ret (Unw.ret ?_)
     cases h
     exact ⟨j,(fo rF47 j)⟩
    ·refine Go.skip<|Unw.blk<|us<|g0 j j (q (oBi j j j j)<|q (oMv j j)<|nl)<|Unw.nil<|?_
     cases h
     exact ⟨j,(by kernel_rfl)⟩
  ·refine Go.exit<|ux<|Unw.nil<|?_
   cases h
   exact ⟨j,(by kernel_rfl)⟩
 ·rintro ⟨e,st⟩ hp
  rcases o with u | r2
  ·dsimp only at h
   obtain ⟨he,hst⟩:=hp
   obtain rfl:e= .exit 0:=he
   refine Unw.blkx<|us<|gs<|g2 c47 j j hst (q (oMv j j)<|q (oLnI j j uF46 j)<|q (oBi j j j j)<|q (oAsI j j)<|nl)<|us<|Go.ret (Unw.ret ?_)
   cases h
   exact fr rF47 j
  ·dsimp only at h
   obtain ⟨he,hfin⟩:=hp
   obtain rfl:e= .ret:=he
   cases h
   exact Unw.ret (Fin_ret hfin)
theorem L_impl_ValidRules {r_0:S_Rules} {r:Bool} (h:impl_ValidRules r_0=some r):FX 48 [.im 2 true (u_S_Rules r_0)] (B0 [(false,[.im 0 (V r)])]):=by
 unfold impl_ValidRules at h
 refine gn 21 Tryz.func48 rfl ?_
 refine gs<|g0 j j (q (oBx j tF47 j (tkI (tkI (tkI (tkI tk0)))))<|q (oAsI j j)<|nl)<|us<|gs<|?_
 obtain ⟨x5,hx5,h⟩:=bs h
 obtain ⟨t_2_m1,hm4,h⟩:=bs h
 refine gX c48 j j j (mk [(2,bv t_2_m1)] []) ?_ ?_
 ·refine xq (oFA (r':=.mp 1 0 0) j fF47_0 j j)<|xq (oLd (cs:=[.im 0 _]) j tF2 j j)<|xq (oCa (xs:=[.v false [.im 0 _],.v false [.im 0 _],.v false [.im 0 _]]) (vs:=[(false,[.im 0 _])]) (v:=.v false [.im 0 _]) (L_impl_within hx5) (.inl j) j kF49_2_2_2 j (ppC j (ppC j (ppC j pp0))) j j pb0 j j j)<|xq (oMv j j)<|?_
  refine ic hm4 (fun hc1 hm4=>?_) fun hc1 hm4=>?_
  ·obtain ⟨x9,hx9,hm4⟩:=bs hm4
   refine xqT j j (iR.2 hc1) (oFA (r':=.mp 1 0 1) j fF47_1 j j)<|xqT j j (iR.2 hc1) (oLd (cs:=[.im 0 _]) j tF2 j j)<|xqT j j (iR.2 hc1) (oCa (xs:=[.v false [.im 0 _],.v false [.im 0 _],.v false [.im 0 _]]) (vs:=[(false,[.im 0 _])]) (v:=.v false [.im 0 _]) (L_impl_within hx9) (.inl j) j kF49_2_2_2 j (ppC j (ppC j (ppC j pp0))) j j pb0 j j j)<|xq (oPkT j j (iR.2 hc1) j)<|xq (oMv j j)<|?_
   refine ic hm4 (fun hc2 hm4=>?_) fun hc2 hm4=>?_
   ·obtain ⟨x14,hx14,hm4⟩:=bs hm4
    refine xqT j j (iR.2 hc2) (oFA (r':=.mp 1 0 2) j fF47_2 j j)<|xqT j j (iR.2 hc2) (oLd (cs:=[.im 0 _]) j tF2 j j)<|xqT j j (iR.2 hc2) (oCa (xs:=[.v false [.im 0 _],.v false [.im 0 _],.v false [.im 0 _]]) (vs:=[(false,[.im 0 _])]) (v:=.v false [.im 0 _]) (L_impl_within hx14) (.inl j) j kF49_2_2_2 j (ppC j (ppC j (ppC j pp0))) j j pb0 j j j)<|xq (oPkT j j (iR.2 hc2) j)<|xq (oMv j j)<|?_
    refine ic hm4 (fun hc3 hm4=>?_) fun hc3 hm4=>?_
    ·obtain ⟨x19,hx19,hm4⟩:=bs hm4
     cases hm4
     exact xqT j j (iR.2 hc3) (oFA (r':=.mp 1 0 3) j fF47_3 j j)<|xqT j j (iR.2 hc3) (oLd (cs:=[.im 0 _]) j tF2 j j)<|xqT j j (iR.2 hc3) (oCa (xs:=[.v false [.im 0 _],.v false [.im 0 _],.v false [.im 0 _]]) (vs:=[(false,[.im 0 _])]) (v:=.v false [.im 0 _]) (L_impl_within hx19) (.inl j) j kF49_2_2_2 j (ppC j (ppC j (ppC j pp0))) j j pb0 j j j)<|xq (oPkT j j (iR.2 hc3) j)<|xq (oAsI j j)<|xn
    ·cases hm4
     exact xsgF j j (byF iR hc3) j<|xsgF j j (byF iR hc3) j<|xsgF j j (byF iR hc3) j<|xq (oPkF j j (byF iR hc3) j)<|xq (oAsI j j)<|xn
   ·cases hm4
    exact xsgF j j (byF iR hc2) j<|xsgF j j (byF iR hc2) j<|xsgF j j (byF iR hc2) j<|xq (oPkF j j (byF iR hc2) j)<|xq (oMv j j)<|xsgF j j j j<|xsgF j j j j<|xsgF j j j j<|xq (oPkF j j j j)<|xq (oAsI j j)<|xn
  ·cases hm4
   exact xsgF j j (byF iR hc1) j<|xsgF j j (byF iR hc1) j<|xsgF j j (byF iR hc1) j<|xq (oPkF j j (byF iR hc1) j)<|xq (oMv j j)<|xsgF j j j j<|xsgF j j j j<|xsgF j j j j<|xq (oPkF j j j j)<|xq (oMv j j)<|xsgF j j j j<|xsgF j j j j<|xsgF j j j j<|xq (oPkF j j j j)<|xq (oAsI j j)<|xn
 ·refine us<|Go.ret (Unw.ret ?_)
  cases h
  exact fr rF48 j
theorem L_slices_Index_int64_int64 {s_0:(List Int)} {v_1:Int} {r:Int} (h:slices_Index_int64_int64 s_0 v_1=some r):FX 153 [.im 2 false [W 1 eI s_0],.im 2 false [I v_1]] (B0 [(false,[.im 0 (I r)])]):=by
 unfold slices_Index_int64_int64 at h
 refine gn 19 Tryz.func153 rfl ?_
 refine gs<|g0 j j (q (oAsI j j)<|nl)<|us<|gs<|gs<|g0 j j (q (oMv j j)<|q (oLnI j j uF33 j)<|q (oMv j j)<|nl)<|us<|Go.block<|?_
 obtain ⟨o,hl,h⟩:=bs h
 refine gl c153 j _ (fun (t_8_l2:Int)=>mk [(0,D 2 (W 1 eI s_0)),(1,iv v_1),(7,iv (s_0.length:Int)),(8,iv t_8_l2)] []) (fun (o:(Unit ⊕ Int)) (p:Ex×St)=>match o with | (.inl _)=>p.1= .exit 0∧p.2.norm ([],[])=mk [] [] | (.inr r2)=>p.1= .ret∧fin Tryz.prog cfg 153 Tryz.f153 [.im 2 false [W 1 eI s_0],.im 2 false [I v_1]] p.2=some (B0 [(false,[.im 0 (I r2)])])) hl (by kernel_rfl) ?_ ?_ ?_
 ·intro o p hp e
  rcases o with u | r2<;>exact nomatch (hp.1.symm.trans e)
 ·rintro t_8_l2 o h
  unfold slices_Index_int64_int64_l2 at h
  refine gs<|g0 j j (q (oBi j j j j)<|nl)<|us<|gs<|gc h j iDec (fun hc5 h=>?_) fun hc5 h=>?_
  ·refine Go.skip<|us<|gs<|Go.block<|gs<|g0 j j (q (oMv j j)<|q (oAsI j j)<|nl)<|us<|gs<|?_
   obtain ⟨x14,hx14,h⟩:=bs h
   refine g0 j j (q (oMv j j)<|q (oMv j j)<|q (oMv j j)<|q (oIAI j hx14 sF33 j j)<|q (oLd (cs:=[.im 2 _]) j tF2 j j)<|q (oBi j j j j)<|nl)<|us<|gc h j iEq (fun hc6 h=>?_) fun hc6 h=>?_
   ·refine gs<|g0 j j (q (oMv j j)<|q (oAsI j j)<|nl)<|us<|Go.ret (Unw.ret ?_)
    cases h
    exact ⟨j,(fo rF153 j)⟩
   ·refine Go.skip<|Unw.blk<|us<|g0 j j (q (oBi j j j j)<|q (oMv j j)<|nl)<|Unw.nil<|?_
    cases h
    exact ⟨j,(by kernel_rfl)⟩
  ·refine Go.exit<|ux<|Unw.nil<|?_
   cases h
   exact ⟨j,(by kernel_rfl)⟩
 ·rintro ⟨e,st⟩ hp
  rcases o with u | r2
  ·dsimp only at h
   obtain ⟨he,hst⟩:=hp
   obtain rfl:e= .exit 0:=he
   refine Unw.blkx<|us<|gs<|g2 c153 j j hst (q (oAsI j j)<|nl)<|us<|Go.ret (Unw.ret ?_)
   cases h
   exact fr rF153 j
  ·dsimp only at h
   obtain ⟨he,hfin⟩:=hp
   obtain rfl:e= .ret:=he
   cases h
   exact Unw.ret (Fin_ret hfin)
theorem L_slices_Contains_int64_int64 {s_0:(List Int)} {v_1:Int} {r:Bool} (h:slices_Contains_int64_int64 s_0 v_1=some r):FX 102 [.im 2 false [W 1 eI s_0],.im 2 false [I v_1]] (B0 [(false,[.im 0 (V r)])]):=by
 unfold slices_Contains_int64_int64 at h
 refine gn 9 Tryz.func102 rfl ?_
 refine gs<|g0 j j (q (oAsI j j)<|nl)<|us<|gs<|?_
 obtain ⟨x7,hx7,h⟩:=bs h
 refine g0 j j (q (oMv j j)<|q (oMv j j)<|q (oCa (xs:=[.v false [.im 2 _],.v false [.im 2 _]]) (vs:=[(false,[.im 0 _])]) (v:=.v false [.im 0 _]) (L_slices_Index_int64_int64 hx7) (.inl j) j kF153_33_2 j (ppC j (ppC j pp0)) j j pb0 j j j)<|q (oBi j j j j)<|q (oAsI j j)<|nl)<|us<|Go.ret (Unw.ret ?_)
 cases h
 exact fr rF102 j
theorem L_impl_isFaceOrder {list_0:(List Int)} {n_1:Int} {r:Bool} (h:impl_isFaceOrder list_0 n_1=some r):FX 50 [.im 2 false [W 1 eI list_0],.im 2 false [I n_1]] (B0 [(false,[.im 0 (V r)])]):=by
 unfold impl_isFaceOrder at h
 refine gn 27 Tryz.func50 rfl ?_
 refine gs<|g0 j j (q (oAsI j j)<|nl)<|us<|gs<|gs<|g0 j j (q (oMv j j)<|q (oLnI j j uF33 j)<|q (oMv j j)<|nl)<|us<|Go.block<|?_
 obtain ⟨o,hl,h⟩:=bs h
 refine gl c50 j _ (fun (t_9_l2:Int)=>mk [(0,D 2 (W 1 eI list_0)),(1,iv n_1),(7,D 2 (W 1 eI list_0)),(8,iv (list_0.length:Int)),(9,iv t_9_l2)] []) (fun (o:(Unit ⊕ Bool)) (p:Ex×St)=>match o with | (.inl _)=>p.1= .exit 0∧p.2.norm ([],[])=mk [] [] | (.inr r2)=>p.1= .ret∧fin Tryz.prog cfg 50 Tryz.f50 [.im 2 false [W 1 eI list_0],.im 2 false [I n_1]] p.2=some (B0 [(false,[.im 0 (V r2)])])) hl (by kernel_rfl) ?_ ?_ ?_
 ·intro o p hp e
  rcases o with u | r2<;>exact nomatch (hp.1.symm.trans e)
 ·rintro t_9_l2 o h
  unfold impl_isFaceOrder_l2 at h
  refine gs<|g0 j j (q (oBi j j j j)<|nl)<|us<|gs<|gc h j iDec (fun hc9 h=>?_) fun hc9 h=>?_
  ·refine Go.skip<|us<|gs<|Go.block<|gs<|?_
   obtain ⟨x12,hx12,h⟩:=bs h
   refine g0 j j (q (oMv j j)<|q (oIAI j hx12 sF33 j j)<|q (oLd (cs:=[.im 2 _]) j tF2 j j)<|q (oAsI j j)<|q (oAsI j j)<|nl)<|us<|gs<|?_
   obtain ⟨x17,hx17,h⟩:=bs h
   obtain ⟨t_25_m4,hm12,h⟩:=bs h
   refine gX c50 j j j (mk [(0,D 2 (W 1 eI list_0)),(1,iv n_1),(7,D 2 (W 1 eI list_0)),(8,iv (list_0.length:Int)),(9,iv t_9_l2),(25,bv t_25_m4)] []) ?_ ?_
   ·refine xq (oMv j j)<|xq (oMv j j)<|xq (oBi j j j j)<|xq (oCa (xs:=[.v false [.im 2 _],.v false [.im 0 _],.v false [.im 0 _]]) (vs:=[(false,[.im 0 _])]) (v:=.v false [.im 0 _]) (L_impl_within hx17) (.inl j) j kF49_2_2_2 j (ppC j (ppC j (ppC j pp0))) j j pb0 j j j)<|xq (oUn j j j)<|xq (oMv j j)<|?_
    refine ic hm12 (fun hc10 hm12=>?_) fun hc10 hm12=>?_
    ·obtain ⟨x22,hx22,hm12⟩:=bs hm12
     obtain ⟨x24,hx24,hm12⟩:=bs hm12
     cases hm12
     exact xqT j j (nF (iR.2 hc10)) (oMv j j)<|xqT j j (nF (iR.2 hc10)) (oMv j j)<|xqT j j (nF (iR.2 hc10)) (oSlI j hx22 sF33 j bn0 (bn1 j) j j)<|xqT j j (nF (iR.2 hc10)) (oMv j j)<|xqT j j (nF (iR.2 hc10)) (oCa (xs:=[.v false [.im 2 _],.v false [.im 2 _]]) (vs:=[(false,[.im 0 _])]) (v:=.v false [.im 0 _]) (L_slices_Contains_int64_int64 hx24) (.inl j) j kF102_33_2 j (ppC j (ppC j pp0)) j j pb0 j j j)<|xq (oPkF j j (nF (iR.2 hc10)) j)<|xn
    ·cases hm12
     exact xsgF j j (nT (byF iR hc10)) j<|xsgF j j (nT (byF iR hc10)) j<|xsgF j j (nT (byF iR hc10)) j<|xsgF j j (nT (byF iR hc10)) j<|xsgF j j (nT (byF iR hc10)) j<|xq (oPkT j j (nT (byF iR hc10)) j)<|xn
   ·refine us<|gc h j iR (fun hc11 h=>?_) fun hc11 h=>?_
    ·refine gs<|g0 j j (q (oAsI j j)<|nl)<|us<|Go.ret (Unw.ret ?_)
     cases h
     exact ⟨j,(fo rF50 j)⟩
    ·refine Go.skip<|Unw.blk<|us<|g0 j j (q (oBi j j j j)<|q (oMv j j)<|nl)<|Unw.nil<|?_
     cases h
     exact ⟨j,(by kernel_rfl)⟩
  ·refine Go.exit<|ux<|Unw.nil<|?_
   cases h
   exact ⟨j,(by kernel_rfl)⟩
 ·rintro ⟨e,st⟩ hp
  rcases o with u | r2
  ·dsimp only at h
   obtain ⟨he,hst⟩:=hp
   obtain rfl:e= .exit 0:=he
   refine Unw.blkx<|us<|gs<|g2 c50 j j hst (q (oAsI j j)<|nl)<|us<|Go.ret (Unw.ret ?_)
   cases h
   exact fr rF50 j
  ·dsimp only at h
   obtain ⟨he,hfin⟩:=hp
   obtain rfl:e= .ret:=he
   cases h
   exact Unw.ret (Fin_ret hfin)
theorem L_impl_ValidJob {j_0:S_Job} {r:Bool} (h:impl_ValidJob j_0=some r):FX 11 [.im 2 true (u_S_Job j_0)] (B0 [(false,[.im 0 (V r)])]):=by
 unfold impl_ValidJob at h
 refine gn 71 Tryz.func11 rfl ?_
 refine gs<|g0 j j (q (oBx j tF49 j (tkI (tkI (tkI (tkI (tkI (tkI (tkI (tkI (tkI (tkI (tkI (tkI (tkI (tkI (tkI (tkI (tkI tk0))))))))))))))))))<|q (oAsI j j)<|nl)<|us<|gs<|gs<|?_
 obtain ⟨x7,hx7,h⟩:=bs h
 obtain ⟨t_26_m1,hm13,h⟩:=bs h
 refine gX c11 j j (st1:=mk [(1,M 1)] [(1,Oa (G 2 (u_S_Job j_0)))]) (by kernel_rfl) (mk [(1,M 1),(26,bv t_26_m1)] [(1,Oa (G 2 (u_S_Job j_0)))]) ?_ ?_
 ·refine xq (oFA (r':=.mp 1 0 0) j fF49_0 j j)<|xq (oLd (cs:=[.im 0 _,.im 0 _,.im 2 _,.im 2 _,.im 2 _]) j tF44 j j)<|xq (oCa (xs:=[.v true [.im 0 _,.im 0 _,.im 2 _,.im 2 _,.im 2 _]]) (vs:=[(false,[.im 0 _])]) (v:=.v false [.im 0 _]) (L_impl_ValidPicture hx7) (.inl j) j kF45_44 j (ppC j pp0) j j pb0 j j j)<|xq (oUn j j j)<|xq (oMv j j)<|?_
  refine ic hm13 (fun hc1 hm13=>?_) fun hc1 hm13=>?_
  ·obtain ⟨x12,hx12,hm13⟩:=bs hm13
   refine xqT j j (nF (iR.2 hc1)) (oFA (r':=.mp 1 0 5) j fF49_1 j j)<|xqT j j (nF (iR.2 hc1)) (oLd (cs:=[.im 2 _]) j tF45 j j)<|xqT j j (nF (iR.2 hc1)) (oCa (xs:=[.v false [.im 2 _]]) (vs:=[(false,[.im 0 _])]) (v:=.v false [.im 0 _]) (L_impl_ValidLeaves hx12) (.inl j) j kF46_45 j (ppC j pp0) j j pb0 j j j)<|xqT j j (nF (iR.2 hc1)) (oUn j j j)<|xq (oPkF j j (nF (iR.2 hc1)) j)<|xq (oMv j j)<|?_
   refine ic hm13 (fun hc2 hm13=>?_) fun hc2 hm13=>?_
   ·obtain ⟨x18,hx18,hm13⟩:=bs hm13
    refine xqT j j (nF (iR.2 hc2)) (oFA (r':=.mp 1 0 6) j fF49_2 j j)<|xqT j j (nF (iR.2 hc2)) (oLd (cs:=[.im 2 _]) j tF46 j j)<|xqT j j (nF (iR.2 hc2)) (oCa (xs:=[.v false [.im 2 _]]) (vs:=[(false,[.im 0 _])]) (v:=.v false [.im 0 _]) (L_impl_ValidPlacements hx18) (.inl j) j kF47_46 j (ppC j pp0) j j pb0 j j j)<|xqT j j (nF (iR.2 hc2)) (oUn j j j)<|xq (oPkF j j (nF (iR.2 hc2)) j)<|xq (oMv j j)<|?_
    refine ic hm13 (fun hc3 hm13=>?_) fun hc3 hm13=>?_
    ·obtain ⟨x24,hx24,hm13⟩:=bs hm13
     cases hm13
     exact xqT j j (nF (iR.2 hc3)) (oFA (r':=.mp 1 0 7) j fF49_3 j j)<|xqT j j (nF (iR.2 hc3)) (oLd (cs:=[.im 0 _,.im 0 _,.im 0 _,.im 0 _]) j tF47 j j)<|xqT j j (nF (iR.2 hc3)) (oCa (xs:=[.v true [.im 0 _,.im 0 _,.im 0 _,.im 0 _]]) (vs:=[(false,[.im 0 _])]) (v:=.v false [.im 0 _]) (L_impl_ValidRules hx24) (.inl j) j kF48_47 j (ppC j pp0) j j pb0 j j j)<|xqT j j (nF (iR.2 hc3)) (oUn j j j)<|xq (oPkF j j (nF (iR.2 hc3)) j)<|xn
    ·cases hm13
     exact xsgF j j (nT (byF iR hc3)) j<|xsgF j j (nT (byF iR hc3)) j<|xsgF j j (nT (byF iR hc3)) j<|xsgF j j (nT (byF iR hc3)) j<|xq (oPkT j j (nT (byF iR hc3)) j)<|xn
   ·cases hm13
    exact xsgF j j (nT (byF iR hc2)) j<|xsgF j j (nT (byF iR hc2)) j<|xsgF j j (nT (byF iR hc2)) j<|xsgF j j (nT (byF iR hc2)) j<|xq (oPkT j j (nT (byF iR hc2)) j)<|xq (oMv j j)<|xsgF j j j j<|xsgF j j j j<|xsgF j j j j<|xsgF j j j j<|xq (oPkT j j j j)<|xn
  ·cases hm13
   exact xsgF j j (nT (byF iR hc1)) j<|xsgF j j (nT (byF iR hc1)) j<|xsgF j j (nT (byF iR hc1)) j<|xsgF j j (nT (byF iR hc1)) j<|xq (oPkT j j (nT (byF iR hc1)) j)<|xq (oMv j j)<|xsgF j j j j<|xsgF j j j j<|xsgF j j j j<|xsgF j j j j<|xq (oPkT j j j j)<|xq (oMv j j)<|xsgF j j j j<|xsgF j j j j<|xsgF j j j j<|xsgF j j j j<|xq (oPkT j j j j)<|xn
 ·refine us<|gc h j iR (fun hc4 h=>?_) fun hc4 h=>?_
  ·refine gs<|g0 j j (q (oAsI j j)<|nl)<|us<|Go.ret (Unw.ret ?_)
   cases h
   exact fr rF11 j
  ·refine Go.skip<|us<|gs<|g0 j j (q (oFA (r':=.mp 1 0 0) j fF49_0 j j)<|q (oFA (r':=.mp 1 0 4) j fF44_1 j j)<|q (oLd (cs:=[.im 2 _]) j tF42 j j)<|q (oLnI j j uF42 j)<|q (oAsI j j)<|nl)<|us<|gs<|gs<|g0 j j (q (oFA (r':=.mp 1 0 6) j fF49_2 j j)<|q (oLd (cs:=[.im 2 _]) j tF46 j j)<|q (oLnI j j uF46 j)<|q (oAsI j j)<|nl)<|us<|gs<|?_
   obtain ⟨t_46_m5,hm12,h⟩:=bs h
   refine gX c11 j j j (mk [(1,M 1),(3,iv (j_0.Picture.Veneers.length:Int)),(46,bv t_46_m5)] [(1,Oa (G 2 (u_S_Job j_0)))]) ?_ ?_
   ·refine xq (oMv j j)<|xq (oBi j j j j)<|xq (oMv j j)<|?_
    refine ic hm12 (fun hc5 hm12=>?_) fun hc5 hm12=>?_
    ·obtain ⟨x41,hx41,hm12⟩:=bs hm12
     cases hm12
     exact xqT j j (iDec.2 hc5) (oFA (r':=.mp 1 0 6) j fF49_2 j j)<|xqT j j (iDec.2 hc5) (oLd (cs:=[.im 2 _]) j tF46 j j)<|xqT j j (iDec.2 hc5) (oMv j j)<|xqT j j (iDec.2 hc5) (oBi j j j j)<|xqT j j (iDec.2 hc5) (oIAI j hx41 sF46 j j)<|xqT j j (iDec.2 hc5) (oFA (r':=.im 2 _) j fF101_0 j j)<|xqT j j (iDec.2 hc5) (oLd (cs:=[.im 2 _]) j tF2 j j)<|xqT j j (iDec.2 hc5) (oMv j j)<|xqT j j (iDec.2 hc5) (oBi j j j j)<|xq (oPkT j j (iDec.2 hc5) j)<|xn
    ·cases hm12
     exact xsgF j j (byF iDec hc5) j<|xsgF j j (byF iDec hc5) j<|xsgF j j (byF iDec hc5) j<|xsgF j j (byF iDec hc5) j<|xsgF j j (byF iDec hc5) j<|xsgF j j (byF iDec hc5) j<|xsgF j j (byF iDec hc5) j<|xsgF j j (byF iDec hc5) j<|xsgF j j (byF iDec hc5) j<|xq (oPkF j j (byF iDec hc5) j)<|xn
   ·refine us<|gc h j iR (fun hc6 h=>?_) fun hc6 h=>?_
    ·refine gs<|g0 j j (q (oAsI j j)<|nl)<|us<|Go.ret (Unw.ret ?_)
     cases h
     exact fr rF11 j
    ·refine Go.skip<|us<|gs<|?_
     obtain ⟨x49,hx49,h⟩:=bs h
     obtain ⟨t_2_m7,hm11,h⟩:=bs h
     refine gX c11 j j j (mk [(2,bv t_2_m7)] []) ?_ ?_
     ·refine xq (oFA (r':=.mp 1 0 11) j fF49_4 j j)<|xq (oLd (cs:=[.im 0 _]) j tF2 j j)<|xq (oCa (xs:=[.v false [.im 0 _],.v false [.im 0 _],.v false [.im 0 _]]) (vs:=[(false,[.im 0 _])]) (v:=.v false [.im 0 _]) (L_impl_within hx49) (.inl j) j kF49_2_2_2 j (ppC j (ppC j (ppC j pp0))) j j pb0 j j j)<|xq (oMv j j)<|?_
      refine ic hm11 (fun hc7 hm11=>?_) fun hc7 hm11=>?_
      ·obtain ⟨x53,hx53,hm11⟩:=bs hm11
       refine xqT j j (iR.2 hc7) (oFA (r':=.mp 1 0 12) j fF49_5 j j)<|xqT j j (iR.2 hc7) (oLd (cs:=[.im 0 _]) j tF2 j j)<|xqT j j (iR.2 hc7) (oCa (xs:=[.v false [.im 0 _],.v false [.im 0 _],.v false [.im 0 _]]) (vs:=[(false,[.im 0 _])]) (v:=.v false [.im 0 _]) (L_impl_within hx53) (.inl j) j kF49_2_2_2 j (ppC j (ppC j (ppC j pp0))) j j pb0 j j j)<|xq (oPkT j j (iR.2 hc7) j)<|xq (oMv j j)<|?_
       refine ic hm11 (fun hc8 hm11=>?_) fun hc8 hm11=>?_
       ·obtain ⟨x58,hx58,hm11⟩:=bs hm11
        refine xqT j j (iR.2 hc8) (oFA (r':=.mp 1 0 13) j fF49_6 j j)<|xqT j j (iR.2 hc8) (oLd (cs:=[.im 0 _]) j tF2 j j)<|xqT j j (iR.2 hc8) (oCa (xs:=[.v false [.im 0 _],.v false [.im 0 _],.v false [.im 0 _]]) (vs:=[(false,[.im 0 _])]) (v:=.v false [.im 0 _]) (L_impl_within hx58) (.inl j) j kF49_2_2_2 j (ppC j (ppC j (ppC j pp0))) j j pb0 j j j)<|xq (oPkT j j (iR.2 hc8) j)<|xq (oMv j j)<|?_
        refine ic hm11 (fun hc9 hm11=>?_) fun hc9 hm11=>?_
        ·obtain ⟨x63,hx63,hm11⟩:=bs hm11
         refine xqT j j (iR.2 hc9) (oFA (r':=.mp 1 0 14) j fF49_7 j j)<|xqT j j (iR.2 hc9) (oLd (cs:=[.im 0 _]) j tF2 j j)<|xqT j j (iR.2 hc9) (oCa (xs:=[.v false [.im 0 _],.v false [.im 0 _],.v false [.im 0 _]]) (vs:=[(false,[.im 0 _])]) (v:=.v false [.im 0 _]) (L_impl_within hx63) (.inl j) j kF49_2_2_2 j (ppC j (ppC j (ppC j pp0))) j j pb0 j j j)<|xq (oPkT j j (iR.2 hc9) j)<|xq (oMv j j)<|?_
         refine ic hm11 (fun hc10 hm11=>?_) fun hc10 hm11=>?_
         ·obtain ⟨x69,hx69,hm11⟩:=bs hm11
          cases hm11
          exact xqT j j (iR.2 hc10) (oFA (r':=.mp 1 0 15) j fF49_8 j j)<|xqT j j (iR.2 hc10) (oLd (cs:=[.im 2 _]) j tF33 j j)<|xqT j j (iR.2 hc10) (oMv j j)<|xqT j j (iR.2 hc10) (oCa (xs:=[.v false [.im 2 _],.v false [.im 0 _]]) (vs:=[(false,[.im 0 _])]) (v:=.v false [.im 0 _]) (L_impl_isFaceOrder hx69) (.inl j) j kF50_33_3 j (ppC j (ppC j pp0)) j j pb0 j j j)<|xq (oPkT j j (iR.2 hc10) j)<|xq (oAsI j j)<|xn
         ·cases hm11
          exact xsgF j j (byF iR hc10) j<|xsgF j j (byF iR hc10) j<|xsgF j j (byF iR hc10) j<|xsgF j j (byF iR hc10) j<|xq (oPkF j j (byF iR hc10) j)<|xq (oAsI j j)<|xn
        ·cases hm11
         exact xsgF j j (byF iR hc9) j<|xsgF j j (byF iR hc9) j<|xsgF j j (byF iR hc9) j<|xq (oPkF j j (byF iR hc9) j)<|xq (oMv j j)<|xsgF j j j j<|xsgF j j j j<|xsgF j j j j<|xsgF j j j j<|xq (oPkF j j j j)<|xq (oAsI j j)<|xn
       ·cases hm11
        exact xsgF j j (byF iR hc8) j<|xsgF j j (byF iR hc8) j<|xsgF j j (byF iR hc8) j<|xq (oPkF j j (byF iR hc8) j)<|xq (oMv j j)<|xsgF j j j j<|xsgF j j j j<|xsgF j j j j<|xq (oPkF j j j j)<|xq (oMv j j)<|xsgF j j j j<|xsgF j j j j<|xsgF j j j j<|xsgF j j j j<|xq (oPkF j j j j)<|xq (oAsI j j)<|xn
      ·cases hm11
       exact xsgF j j (byF iR hc7) j<|xsgF j j (byF iR hc7) j<|xsgF j j (byF iR hc7) j<|xq (oPkF j j (byF iR hc7) j)<|xq (oMv j j)<|xsgF j j j j<|xsgF j j j j<|xsgF j j j j<|xq (oPkF j j j j)<|xq (oMv j j)<|xsgF j j j j<|xsgF j j j j<|xsgF j j j j<|xq (oPkF j j j j)<|xq (oMv j j)<|xsgF j j j j<|xsgF j j j j<|xsgF j j j j<|xsgF j j j j<|xq (oPkF j j j j)<|xq (oAsI j j)<|xn
     ·refine us<|Go.ret (Unw.ret ?_)
      cases h
      exact fr rF11 j
theorem L_impl_ValidBond {b_0:S_Bond} {r:Bool} (h:impl_ValidBond b_0=some r):FX 132 [.im 2 true (u_S_Bond b_0)] (B0 [(false,[.im 0 (V r)])]):=by
 unfold impl_ValidBond at h
 refine gn 23 Tryz.func132 rfl ?_
 refine gs<|g0 j j (q (oBx j tF209 j (tkI (tkI (tkI (tkI tk0)))))<|q (oAsI j j)<|nl)<|us<|gs<|?_
 obtain ⟨x5,hx5,h⟩:=bs h
 obtain ⟨t_2_m1,hm4,h⟩:=bs h
 refine gX c132 j j j (mk [(2,bv t_2_m1)] []) ?_ ?_
 ·refine xq (oFA (r':=.mp 1 0 0) j fF209_0 j j)<|xq (oLd (cs:=[.im 0 _]) j tF9 j j)<|xq (oCa (xs:=[.v false [.im 0 _]]) (vs:=[(false,[.im 0 _])]) (v:=.v false [.im 0 _]) (L_impl_IsName hx5) (.inl j) j kF144_9 j (ppC j pp0) j j pb0 j j j)<|xq (oMv j j)<|?_
  refine ic hm4 (fun hc1 hm4=>?_) fun hc1 hm4=>?_
  ·obtain ⟨x9,hx9,hm4⟩:=bs hm4
   refine xqT j j (iR.2 hc1) (oFA (r':=.mp 1 0 1) j fF209_1 j j)<|xqT j j (iR.2 hc1) (oLd (cs:=[.im 0 _]) j tF2 j j)<|xqT j j (iR.2 hc1) (oCa (xs:=[.v false [.im 0 _],.v false [.im 0 _],.v false [.im 0 _]]) (vs:=[(false,[.im 0 _])]) (v:=.v false [.im 0 _]) (L_impl_within hx9) (.inl j) j kF49_2_2_2 j (ppC j (ppC j (ppC j pp0))) j j pb0 j j j)<|xq (oPkT j j (iR.2 hc1) j)<|xq (oMv j j)<|?_
   refine ic hm4 (fun hc2 hm4=>?_) fun hc2 hm4=>?_
   ·obtain ⟨x16,hx16,hm4⟩:=bs hm4
    refine xqT j j (iR.2 hc2) (oFA (r':=.mp 1 0 2) j fF209_2 j j)<|xqT j j (iR.2 hc2) (oLd (cs:=[.im 0 _]) j tF2 j j)<|xqT j j (iR.2 hc2) (oFA (r':=.mp 1 0 1) j fF209_1 j j)<|xqT j j (iR.2 hc2) (oLd (cs:=[.im 0 _]) j tF2 j j)<|xqT j j (iR.2 hc2) (oCa (xs:=[.v false [.im 0 _],.v false [.im 0 _],.v false [.im 0 _]]) (vs:=[(false,[.im 0 _])]) (v:=.v false [.im 0 _]) (L_impl_within hx16) (.inl j) j kF49_2_2_2 j (ppC j (ppC j (ppC j pp0))) j j pb0 j j j)<|xq (oPkT j j (iR.2 hc2) j)<|xq (oMv j j)<|?_
    refine ic hm4 (fun hc3 hm4=>?_) fun hc3 hm4=>?_
    ·obtain ⟨x21,hx21,hm4⟩:=bs hm4
     cases hm4
     exact xqT j j (iR.2 hc3) (oFA (r':=.mp 1 0 3) j fF209_3 j j)<|xqT j j (iR.2 hc3) (oLd (cs:=[.im 0 _]) j tF2 j j)<|xqT j j (iR.2 hc3) (oCa (xs:=[.v false [.im 0 _],.v false [.im 0 _],.v false [.im 0 _]]) (vs:=[(false,[.im 0 _])]) (v:=.v false [.im 0 _]) (L_impl_within hx21) (.inl j) j kF49_2_2_2 j (ppC j (ppC j (ppC j pp0))) j j pb0 j j j)<|xq (oPkT j j (iR.2 hc3) j)<|xq (oAsI j j)<|xn
    ·cases hm4
     exact xsgF j j (byF iR hc3) j<|xsgF j j (byF iR hc3) j<|xsgF j j (byF iR hc3) j<|xq (oPkF j j (byF iR hc3) j)<|xq (oAsI j j)<|xn
   ·cases hm4
    exact xsgF j j (byF iR hc2) j<|xsgF j j (byF iR hc2) j<|xsgF j j (byF iR hc2) j<|xsgF j j (byF iR hc2) j<|xsgF j j (byF iR hc2) j<|xq (oPkF j j (byF iR hc2) j)<|xq (oMv j j)<|xsgF j j j j<|xsgF j j j j<|xsgF j j j j<|xq (oPkF j j j j)<|xq (oAsI j j)<|xn
  ·cases hm4
   exact xsgF j j (byF iR hc1) j<|xsgF j j (byF iR hc1) j<|xsgF j j (byF iR hc1) j<|xq (oPkF j j (byF iR hc1) j)<|xq (oMv j j)<|xsgF j j j j<|xsgF j j j j<|xsgF j j j j<|xsgF j j j j<|xsgF j j j j<|xq (oPkF j j j j)<|xq (oMv j j)<|xsgF j j j j<|xsgF j j j j<|xsgF j j j j<|xq (oPkF j j j j)<|xq (oAsI j j)<|xn
 ·refine us<|Go.ret (Unw.ret ?_)
  cases h
  exact fr rF132 j
theorem L_impl_ValidBonds {list_0:(List S_Bond)} {r:Bool} (h:impl_ValidBonds list_0=some r):FX 80 [.im 2 false [W 4 e_S_Bond list_0]] (B0 [(false,[.im 0 (V r)])]):=by
 unfold impl_ValidBonds at h
 refine gn 34 Tryz.func80 rfl ?_
 refine gs<|g0 j j (q (oAsI j j)<|nl)<|us<|gs<|gs<|g0 j j (q (oMv j j)<|q (oLnI j j uF78 j)<|q (oMv j j)<|nl)<|us<|Go.block<|?_
 obtain ⟨o,hl,h⟩:=bs h
 refine gl c80 j _ (fun (t_7_l2:Int)=>mk [(0,D 2 (W 4 e_S_Bond list_0)),(5,D 2 (W 4 e_S_Bond list_0)),(6,iv (list_0.length:Int)),(7,iv t_7_l2)] []) (fun (o:(Unit ⊕ Bool)) (p:Ex×St)=>match o with | (.inl _)=>p.1= .exit 0∧p.2.norm ([0],[])=mk [(0,D 2 (W 4 e_S_Bond list_0))] [] | (.inr r2)=>p.1= .ret∧fin Tryz.prog cfg 80 Tryz.f80 [.im 2 false [W 4 e_S_Bond list_0]] p.2=some (B0 [(false,[.im 0 (V r2)])])) hl (by kernel_rfl) ?_ ?_ ?_
 ·intro o p hp e
  rcases o with u | r2<;>exact nomatch (hp.1.symm.trans e)
 ·rintro t_7_l2 o h
  unfold impl_ValidBonds_l2 at h
  refine gs<|g0 j j (q (oBi j j j j)<|nl)<|us<|gs<|gc h j iDec (fun hc11 h=>?_) fun hc11 h=>?_
  ·refine Go.skip<|us<|gs<|Go.block<|gs<|?_
   obtain ⟨x10,hx10,h⟩:=bs h
   refine g0 j j (q (oMv j j)<|q (oIAI j hx10 sF78 j j)<|q (oLd (cs:=[.im 2 _,.im 2 _,.im 2 _,.im 2 _]) j tF209 j j)<|q (oAl j tF209 (tkI (tkI (tkI (tkI tk0)))))<|q (oAsI j j)<|q (oSt tF209 j j j (tkI (tkI (tkI (tkI tk0)))) j j j)<|nl)<|us<|gs<|?_
   obtain ⟨x13,hx13,h⟩:=bs h
   obtain ⟨t_29_m4,hm15,h⟩:=bs h
   refine gd c80 j j j (st1:=mk [(0,D 2 (W 4 e_S_Bond list_0)),(3,iv t_7_l2),(4,M 4),(5,D 2 (W 4 e_S_Bond list_0)),(6,iv (list_0.length:Int)),(7,iv t_7_l2)] [(4,Oa (G 0 (u_S_Bond x10)))]) (by kernel_rfl) (mk [(0,D 2 (W 4 e_S_Bond list_0)),(5,D 2 (W 4 e_S_Bond list_0)),(6,iv (list_0.length:Int)),(7,iv t_7_l2),(29,bv t_29_m4)] []) ?_ ?_
   ·refine ic hm15 (fun hc12 hm15=>?_) fun hc12 hm15=>?_
    ·refine ic hm15 (fun hc13 hm15=>?_) fun hc13 hm15=>?_
     ·obtain ⟨x22,hx22,hm15⟩:=bs hm15
      cases hm15
      exact t j j (oLd (cs:=[.im 0 _,.im 0 _,.im 0 _,.im 0 _]) j tF209 j j)<|sS (dN z80 j (oCa (xs:=[.v true [.im 0 _,.im 0 _,.im 0 _,.im 0 _]]) (vs:=[(false,[.im 0 _])]) (v:=.v false [.im 0 _]) (L_impl_ValidBond hx13) (.inl j) j kF132_209 j (ppC j pp0) j j pb0 j j j)) trivial (t j j (oUn j j j)<|t j j (oMv j j)<|tT j j j j (nF (iR.2 hc12)) (oMv j j)<|tT j j j j (nF (iR.2 hc12)) (oBi j j j j)<|tT j j j j (nF (iR.2 hc12)) (oMv j j)<|tT j j j j (iDec.2 hc13) (oMv j j)<|tT j j j j (iDec.2 hc13) (oMv j j)<|tT j j j j (iDec.2 hc13) (oBi j j j j)<|tT j j j j (iDec.2 hc13) (oIAI j hx22 sF78 j j)<|tT j j j j (iDec.2 hc13) (oFA (r':=.im 2 _) j fF209_0 j j)<|tT j j j j (iDec.2 hc13) (oLd (cs:=[.im 2 _]) j tF9 j j)<|tT j j j j (iDec.2 hc13) (oFA (r':=.mp 4 0 0) j fF209_0 j j)<|tT j j j j (iDec.2 hc13) (oLd (cs:=[.im 0 _]) j tF9 j j)<|tT j j j j (iDec.2 hc13) (oBi j j j j)<|tT j j j j (nF (iR.2 hc12)) (oPkT j j (iDec.2 hc13) j)<|t j j (oPkF j j (nF (iR.2 hc12)) j)<|sD (by kernel_rfl))
     ·cases hm15
      exact t j j (oLd (cs:=[.im 0 _,.im 0 _,.im 0 _,.im 0 _]) j tF209 j j)<|sS (dN z80 j (oCa (xs:=[.v true [.im 0 _,.im 0 _,.im 0 _,.im 0 _]]) (vs:=[(false,[.im 0 _])]) (v:=.v false [.im 0 _]) (L_impl_ValidBond hx13) (.inl j) j kF132_209 j (ppC j pp0) j j pb0 j j j)) trivial (t j j (oUn j j j)<|t j j (oMv j j)<|tT j j j j (nF (iR.2 hc12)) (oMv j j)<|tT j j j j (nF (iR.2 hc12)) (oBi j j j j)<|tT j j j j (nF (iR.2 hc12)) (oMv j j)<|tF j j j j (byF iDec hc13) j<|tF j j j j (byF iDec hc13) j<|tF j j j j (byF iDec hc13) j<|tF j j j j (byF iDec hc13) j<|tF j j j j (byF iDec hc13) j<|tF j j j j (byF iDec hc13) j<|tF j j j j (byF iDec hc13) j<|tF j j j j (byF iDec hc13) j<|tF j j j j (byF iDec hc13) j<|tT j j j j (nF (iR.2 hc12)) (oPkF j j (byF iDec hc13) j)<|t j j (oPkF j j (nF (iR.2 hc12)) j)<|sD (by kernel_rfl))
    ·cases hm15
     exact t j j (oLd (cs:=[.im 0 _,.im 0 _,.im 0 _,.im 0 _]) j tF209 j j)<|sS (dN z80 j (oCa (xs:=[.v true [.im 0 _,.im 0 _,.im 0 _,.im 0 _]]) (vs:=[(false,[.im 0 _])]) (v:=.v false [.im 0 _]) (L_impl_ValidBond hx13) (.inl j) j kF132_209 j (ppC j pp0) j j pb0 j j j)) trivial (t j j (oUn j j j)<|t j j (oMv j j)<|tF j j j j (nT (byF iR hc12)) j<|tF j j j j (nT (byF iR hc12)) j<|tF j j j j (nT (byF iR hc12)) j<|sT j (dU j j j j)<|sT j (dU j j j j)<|sT j (dU j j j j)<|sT j (dU j j j j)<|sT j (dU j j j j)<|sT j (dU j j j j)<|sT j (dU j j j j)<|sT j (dU j j j j)<|sT j (dU j j j j)<|tF j j j j (nT (byF iR hc12)) j<|t j j (oPkT j j (nT (byF iR hc12)) j)<|sD (by kernel_rfl))
   ·refine us<|gc h j iR (fun hc14 h=>?_) fun hc14 h=>?_
    ·refine gs<|g0 j j (q (oAsI j j)<|nl)<|us<|Go.ret (Unw.ret ?_)
     cases h
     exact ⟨j,(fo rF80 j)⟩
    ·refine Go.skip<|Unw.blk<|us<|g0 j j (q (oBi j j j j)<|q (oMv j j)<|nl)<|Unw.nil<|?_
     cases h
     exact ⟨j,(by kernel_rfl)⟩
  ·refine Go.exit<|ux<|Unw.nil<|?_
   cases h
   exact ⟨j,(by kernel_rfl)⟩
 ·rintro ⟨e,st⟩ hp
  rcases o with u | r2
  ·dsimp only at h
   obtain ⟨he,hst⟩:=hp
   obtain rfl:e= .exit 0:=he
   refine Unw.blkx<|us<|gs<|g2 c80 j j hst (q (oMv j j)<|q (oLnI j j uF78 j)<|q (oBi j j j j)<|q (oAsI j j)<|nl)<|us<|Go.ret (Unw.ret ?_)
   cases h
   exact fr rF80 j
  ·dsimp only at h
   obtain ⟨he,hfin⟩:=hp
   obtain rfl:e= .ret:=he
   cases h
   exact Unw.ret (Fin_ret hfin)
theorem L_impl_ValidCoat {c_0:S_Coat} {r:Bool} (h:impl_ValidCoat c_0=some r):FX 135 [.im 2 true (u_S_Coat c_0)] (B0 [(false,[.im 0 (V r)])]):=by
 unfold impl_ValidCoat at h
 refine gn 23 Tryz.func135 rfl ?_
 refine gs<|g0 j j (q (oBx j tF211 j (tkI (tkI (tkI (tkI tk0)))))<|q (oAsI j j)<|nl)<|us<|gs<|?_
 obtain ⟨x5,hx5,h⟩:=bs h
 obtain ⟨t_2_m1,hm4,h⟩:=bs h
 refine gX c135 j j j (mk [(2,bv t_2_m1)] []) ?_ ?_
 ·refine xq (oFA (r':=.mp 1 0 0) j fF211_0 j j)<|xq (oLd (cs:=[.im 0 _]) j tF9 j j)<|xq (oCa (xs:=[.v false [.im 0 _]]) (vs:=[(false,[.im 0 _])]) (v:=.v false [.im 0 _]) (L_impl_IsName hx5) (.inl j) j kF144_9 j (ppC j pp0) j j pb0 j j j)<|xq (oMv j j)<|?_
  refine ic hm4 (fun hc1 hm4=>?_) fun hc1 hm4=>?_
  ·obtain ⟨x9,hx9,hm4⟩:=bs hm4
   refine xqT j j (iR.2 hc1) (oFA (r':=.mp 1 0 1) j fF211_1 j j)<|xqT j j (iR.2 hc1) (oLd (cs:=[.im 0 _]) j tF2 j j)<|xqT j j (iR.2 hc1) (oCa (xs:=[.v false [.im 0 _],.v false [.im 0 _],.v false [.im 0 _]]) (vs:=[(false,[.im 0 _])]) (v:=.v false [.im 0 _]) (L_impl_within hx9) (.inl j) j kF49_2_2_2 j (ppC j (ppC j (ppC j pp0))) j j pb0 j j j)<|xq (oPkT j j (iR.2 hc1) j)<|xq (oMv j j)<|?_
   refine ic hm4 (fun hc2 hm4=>?_) fun hc2 hm4=>?_
   ·obtain ⟨x14,hx14,hm4⟩:=bs hm4
    refine xqT j j (iR.2 hc2) (oFA (r':=.mp 1 0 2) j fF211_2 j j)<|xqT j j (iR.2 hc2) (oLd (cs:=[.im 0 _]) j tF2 j j)<|xqT j j (iR.2 hc2) (oCa (xs:=[.v false [.im 0 _],.v false [.im 0 _],.v false [.im 0 _]]) (vs:=[(false,[.im 0 _])]) (v:=.v false [.im 0 _]) (L_impl_within hx14) (.inl j) j kF49_2_2_2 j (ppC j (ppC j (ppC j pp0))) j j pb0 j j j)<|xq (oPkT j j (iR.2 hc2) j)<|xq (oMv j j)<|?_
    refine ic hm4 (fun hc3 hm4=>?_) fun hc3 hm4=>?_
    ·obtain ⟨x21,hx21,hm4⟩:=bs hm4
     cases hm4
     exact xqT j j (iR.2 hc3) (oFA (r':=.mp 1 0 3) j fF211_3 j j)<|xqT j j (iR.2 hc3) (oLd (cs:=[.im 0 _]) j tF2 j j)<|xqT j j (iR.2 hc3) (oFA (r':=.mp 1 0 2) j fF211_2 j j)<|xqT j j (iR.2 hc3) (oLd (cs:=[.im 0 _]) j tF2 j j)<|xqT j j (iR.2 hc3) (oCa (xs:=[.v false [.im 0 _],.v false [.im 0 _],.v false [.im 0 _]]) (vs:=[(false,[.im 0 _])]) (v:=.v false [.im 0 _]) (L_impl_within hx21) (.inl j) j kF49_2_2_2 j (ppC j (ppC j (ppC j pp0))) j j pb0 j j j)<|xq (oPkT j j (iR.2 hc3) j)<|xq (oAsI j j)<|xn
    ·cases hm4
     exact xsgF j j (byF iR hc3) j<|xsgF j j (byF iR hc3) j<|xsgF j j (byF iR hc3) j<|xsgF j j (byF iR hc3) j<|xsgF j j (byF iR hc3) j<|xq (oPkF j j (byF iR hc3) j)<|xq (oAsI j j)<|xn
   ·cases hm4
    exact xsgF j j (byF iR hc2) j<|xsgF j j (byF iR hc2) j<|xsgF j j (byF iR hc2) j<|xq (oPkF j j (byF iR hc2) j)<|xq (oMv j j)<|xsgF j j j j<|xsgF j j j j<|xsgF j j j j<|xsgF j j j j<|xsgF j j j j<|xq (oPkF j j j j)<|xq (oAsI j j)<|xn
  ·cases hm4
   exact xsgF j j (byF iR hc1) j<|xsgF j j (byF iR hc1) j<|xsgF j j (byF iR hc1) j<|xq (oPkF j j (byF iR hc1) j)<|xq (oMv j j)<|xsgF j j j j<|xsgF j j j j<|xsgF j j j j<|xq (oPkF j j j j)<|xq (oMv j j)<|xsgF j j j j<|xsgF j j j j<|xsgF j j j j<|xsgF j j j j<|xsgF j j j j<|xq (oPkF j j j j)<|xq (oAsI j j)<|xn
 ·refine us<|Go.ret (Unw.ret ?_)
  cases h
  exact fr rF135 j
theorem L_impl_ValidCoats_c1 {c_0:S_Coat} {r:Bool} (h:impl_ValidCoats_c1 c_0=some r):FX 134 [.im 2 true (u_S_Coat c_0)] (B0 [(false,[.im 0 (V r)])]):=by
 unfold impl_ValidCoats_c1 at h
 refine gn 6 Tryz.func134 rfl ?_
 refine gs<|g0 j j (q (oBx j tF211 j (tkI (tkI (tkI (tkI tk0)))))<|q (oAsI j j)<|nl)<|us<|gs<|?_
 obtain ⟨x4,hx4,h⟩:=bs h
 refine g0 j j (q (oLd (cs:=[.im 0 _,.im 0 _,.im 0 _,.im 0 _]) j tF211 j j)<|q (oCa (xs:=[.v true [.im 0 _,.im 0 _,.im 0 _,.im 0 _]]) (vs:=[(false,[.im 0 _])]) (v:=.v false [.im 0 _]) (L_impl_ValidCoat hx4) (.inl j) j kF135_211 j (ppC j pp0) j j pb0 j j j)<|q (oUn j j j)<|q (oAsI j j)<|nl)<|us<|Go.ret (Unw.ret ?_)
 cases h
 exact fr rF134 j
theorem L_slices_IndexFunc_impl_Coat_impl_Coat_134 {s_0:(List S_Coat)} {r:Int} (h:slices_IndexFunc_impl_Coat_impl_Coat s_0 (fun b0=>impl_ValidCoats_c1 b0)=some r):FX 170 [.im 2 false [W 4 e_S_Coat s_0],.im 2 false [.clo 134 []]] (B0 [(false,[.im 0 (I r)])]):=by
 unfold slices_IndexFunc_impl_Coat_impl_Coat at h
 refine gn 19 Tryz.func170 rfl ?_
 refine gs<|g0 j j (q (oAsI j j)<|nl)<|us<|gs<|gs<|g0 j j (q (oMv j j)<|q (oLnI j j uF79 j)<|q (oMv j j)<|nl)<|us<|Go.block<|?_
 obtain ⟨o,hl,h⟩:=bs h
 refine gl c170 j _ (fun (t_8_l2:Int)=>mk [(0,D 2 (W 4 e_S_Coat s_0)),(1,D 2 (.clo 134 [])),(7,iv (s_0.length:Int)),(8,iv t_8_l2)] []) (fun (o:(Unit ⊕ Int)) (p:Ex×St)=>match o with | (.inl _)=>p.1= .exit 0∧p.2.norm ([],[])=mk [] [] | (.inr r2)=>p.1= .ret∧fin Tryz.prog cfg 170 Tryz.f170 [.im 2 false [W 4 e_S_Coat s_0],.im 2 false [.clo 134 []]] p.2=some (B0 [(false,[.im 0 (I r2)])])) hl (by kernel_rfl) ?_ ?_ ?_
 ·intro o p hp e
  rcases o with u | r2<;>exact nomatch (hp.1.symm.trans e)
 ·rintro t_8_l2 o h
  unfold slices_IndexFunc_impl_Coat_impl_Coat_l2 at h
  refine gs<|g0 j j (q (oBi j j j j)<|nl)<|us<|gs<|gc h j iDec (fun hc5 h=>?_) fun hc5 h=>?_
  ·refine Go.skip<|us<|gs<|Go.block<|gs<|g0 j j (q (oMv j j)<|q (oAsI j j)<|nl)<|us<|gs<|?_
   obtain ⟨x14,hx14,h⟩:=bs h
   obtain ⟨x16,hx16,h⟩:=bs h
   refine g0 j j (q (oMv j j)<|q (oMv j j)<|q (oMv j j)<|q (oIAI j hx14 sF79 j j)<|q (oLd (cs:=[.im 2 _,.im 2 _,.im 2 _,.im 2 _]) j tF211 j j)<|q (oCa (xs:=[.v true [.im 2 _,.im 2 _,.im 2 _,.im 2 _]]) (vs:=[(false,[.im 0 _])]) (v:=.v false [.im 0 _]) (L_impl_ValidCoats_c1 hx16) (.inr ⟨_,_,j,j⟩) j kF134_211 j (ppC j pp0) j j pb0 j j j)<|nl)<|us<|gc h j iR (fun hc6 h=>?_) fun hc6 h=>?_
   ·refine gs<|g0 j j (q (oMv j j)<|q (oAsI j j)<|nl)<|us<|Go.ret (Unw.ret ?_)
    cases h
    exact ⟨j,(fo rF170 j)⟩
   ·refine Go.skip<|Unw.blk<|us<|g0 j j (q (oBi j j j j)<|q (oMv j j)<|nl)<|Unw.nil<|?_
    cases h
    exact ⟨j,(by kernel_rfl)⟩
  ·refine Go.exit<|ux<|Unw.nil<|?_
   cases h
   exact ⟨j,(by kernel_rfl)⟩
 ·rintro ⟨e,st⟩ hp
  rcases o with u | r2
  ·dsimp only at h
   obtain ⟨he,hst⟩:=hp
   obtain rfl:e= .exit 0:=he
   refine Unw.blkx<|us<|gs<|g2 c170 j j hst (q (oAsI j j)<|nl)<|us<|Go.ret (Unw.ret ?_)
   cases h
   exact fr rF170 j
  ·dsimp only at h
   obtain ⟨he,hfin⟩:=hp
   obtain rfl:e= .ret:=he
   cases h
   exact Unw.ret (Fin_ret hfin)
theorem L_slices_ContainsFunc_impl_Coat_impl_Coat_134 {s_0:(List S_Coat)} {r:Bool} (h:slices_ContainsFunc_impl_Coat_impl_Coat s_0 (fun b0=>impl_ValidCoats_c1 b0)=some r):FX 133 [.im 2 false [W 4 e_S_Coat s_0],.im 2 false [.clo 134 []]] (B0 [(false,[.im 0 (V r)])]):=by
 unfold slices_ContainsFunc_impl_Coat_impl_Coat at h
 refine gn 9 Tryz.func133 rfl ?_
 refine gs<|g0 j j (q (oAsI j j)<|nl)<|us<|gs<|?_
 obtain ⟨x7,hx7,h⟩:=bs h
 refine g0 j j (q (oMv j j)<|q (oMv j j)<|q (oCa (xs:=[.v false [.im 2 _],.v false [.im 2 _]]) (vs:=[(false,[.im 0 _])]) (v:=.v false [.im 0 _]) (L_slices_IndexFunc_impl_Coat_impl_Coat_134 hx7) (.inl j) j kF170_79_215 j (ppC j (ppC j pp0)) j j pb0 j j j)<|q (oBi j j j j)<|q (oAsI j j)<|nl)<|us<|Go.ret (Unw.ret ?_)
 cases h
 exact fr rF133 j
theorem L_impl_ValidCoats {list_0:(List S_Coat)} {r:Bool} (h:impl_ValidCoats list_0=some r):FX 81 [.im 2 false [W 4 e_S_Coat list_0]] (B0 [(false,[.im 0 (V r)])]):=by
 unfold impl_ValidCoats at h
 refine gn 11 Tryz.func81 rfl ?_
 refine gs<|g0 j j (q (oAsI j j)<|nl)<|us<|gs<|?_
 obtain ⟨t_2_m1,hm2,h⟩:=bs h
 refine gX c81 j j j (mk [(2,bv t_2_m1)] []) ?_ ?_
 ·refine xq (oMv j j)<|xq (oLnI j j uF79 j)<|xq (oBi j j j j)<|xq (oMv j j)<|?_
  refine ic hm2 (fun hc1 hm2=>?_) fun hc1 hm2=>?_
  ·obtain ⟨x8,hx8,hm2⟩:=bs hm2
   cases hm2
   exact xqT j j (iDec.2 hc1) (oMv j j)<|xqT j j (iDec.2 hc1) (oCa (xs:=[.v false [.im 2 _],.fn 134 []]) (vs:=[(false,[.im 0 _])]) (v:=.v false [.im 0 _]) (L_slices_ContainsFunc_impl_Coat_impl_Coat_134 hx8) (.inl j) j kF133_79_215 j (ppC j (ppC j pp0)) j j pb0 j j j)<|xqT j j (iDec.2 hc1) (oUn j j j)<|xq (oPkT j j (iDec.2 hc1) j)<|xq (oAsI j j)<|xn
  ·cases hm2
   exact xsgF j j (byF iDec hc1) j<|xsgF j j (byF iDec hc1) j<|xsgF j j (byF iDec hc1) j<|xq (oPkF j j (byF iDec hc1) j)<|xq (oAsI j j)<|xn
 ·refine us<|Go.ret (Unw.ret ?_)
  cases h
  exact fr rF81 j
theorem L_impl_ValidRates {r_0:S_Rates} {r:Bool} (h:impl_ValidRates r_0=some r):FX 82 [.im 2 true (u_S_Rates r_0)] (B0 [(false,[.im 0 (V r)])]):=by
 unfold impl_ValidRates at h
 refine gn 26 Tryz.func82 rfl ?_
 refine gs<|g0 j j (q (oBx j tF80 j (tkI (tkI (tkI (tkI (tkI tk0))))))<|q (oAsI j j)<|nl)<|us<|gs<|?_
 obtain ⟨x5,hx5,h⟩:=bs h
 obtain ⟨t_2_m1,hm5,h⟩:=bs h
 refine gX c82 j j (st1:=mk [(1,M 1)] [(1,Oa (G 0 (u_S_Rates r_0)))]) (by kernel_rfl) (mk [(2,bv t_2_m1)] []) ?_ ?_
 ·refine xq (oFA (r':=.mp 1 0 0) j fF80_0 j j)<|xq (oLd (cs:=[.im 0 _]) j tF2 j j)<|xq (oCa (xs:=[.v false [.im 0 _],.v false [.im 0 _],.v false [.im 0 _]]) (vs:=[(false,[.im 0 _])]) (v:=.v false [.im 0 _]) (L_impl_within hx5) (.inl j) j kF49_2_2_2 j (ppC j (ppC j (ppC j pp0))) j j pb0 j j j)<|xq (oMv j j)<|?_
  refine ic hm5 (fun hc1 hm5=>?_) fun hc1 hm5=>?_
  ·obtain ⟨x9,hx9,hm5⟩:=bs hm5
   refine xqT j j (iR.2 hc1) (oFA (r':=.mp 1 0 1) j fF80_1 j j)<|xqT j j (iR.2 hc1) (oLd (cs:=[.im 0 _]) j tF2 j j)<|xqT j j (iR.2 hc1) (oCa (xs:=[.v false [.im 0 _],.v false [.im 0 _],.v false [.im 0 _]]) (vs:=[(false,[.im 0 _])]) (v:=.v false [.im 0 _]) (L_impl_within hx9) (.inl j) j kF49_2_2_2 j (ppC j (ppC j (ppC j pp0))) j j pb0 j j j)<|xq (oPkT j j (iR.2 hc1) j)<|xq (oMv j j)<|?_
   refine ic hm5 (fun hc2 hm5=>?_) fun hc2 hm5=>?_
   ·obtain ⟨x14,hx14,hm5⟩:=bs hm5
    refine xqT j j (iR.2 hc2) (oFA (r':=.mp 1 0 2) j fF80_2 j j)<|xqT j j (iR.2 hc2) (oLd (cs:=[.im 0 _]) j tF2 j j)<|xqT j j (iR.2 hc2) (oCa (xs:=[.v false [.im 0 _],.v false [.im 0 _],.v false [.im 0 _]]) (vs:=[(false,[.im 0 _])]) (v:=.v false [.im 0 _]) (L_impl_within hx14) (.inl j) j kF49_2_2_2 j (ppC j (ppC j (ppC j pp0))) j j pb0 j j j)<|xq (oPkT j j (iR.2 hc2) j)<|xq (oMv j j)<|?_
    refine ic hm5 (fun hc3 hm5=>?_) fun hc3 hm5=>?_
    ·obtain ⟨x19,hx19,hm5⟩:=bs hm5
     refine xqT j j (iR.2 hc3) (oFA (r':=.mp 1 0 3) j fF80_3 j j)<|xqT j j (iR.2 hc3) (oLd (cs:=[.im 0 _]) j tF2 j j)<|xqT j j (iR.2 hc3) (oCa (xs:=[.v false [.im 0 _],.v false [.im 0 _],.v false [.im 0 _]]) (vs:=[(false,[.im 0 _])]) (v:=.v false [.im 0 _]) (L_impl_within hx19) (.inl j) j kF49_2_2_2 j (ppC j (ppC j (ppC j pp0))) j j pb0 j j j)<|xq (oPkT j j (iR.2 hc3) j)<|xq (oMv j j)<|?_
     refine ic hm5 (fun hc4 hm5=>?_) fun hc4 hm5=>?_
     ·obtain ⟨x24,hx24,hm5⟩:=bs hm5
      cases hm5
      exact xqT j j (iR.2 hc4) (oFA (r':=.mp 1 0 4) j fF80_4 j j)<|xqT j j (iR.2 hc4) (oLd (cs:=[.im 0 _]) j tF2 j j)<|xqT j j (iR.2 hc4) (oCa (xs:=[.v false [.im 0 _],.v false [.im 0 _],.v false [.im 0 _]]) (vs:=[(false,[.im 0 _])]) (v:=.v false [.im 0 _]) (L_impl_within hx24) (.inl j) j kF49_2_2_2 j (ppC j (ppC j (ppC j pp0))) j j pb0 j j j)<|xq (oPkT j j (iR.2 hc4) j)<|xq (oAsI j j)<|xn
     ·cases hm5
      exact xsgF j j (byF iR hc4) j<|xsgF j j (byF iR hc4) j<|xsgF j j (byF iR hc4) j<|xq (oPkF j j (byF iR hc4) j)<|xq (oAsI j j)<|xn
    ·cases hm5
     exact xsgF j j (byF iR hc3) j<|xsgF j j (byF iR hc3) j<|xsgF j j (byF iR hc3) j<|xq (oPkF j j (byF iR hc3) j)<|xq (oMv j j)<|xsgF j j j j<|xsgF j j j j<|xsgF j j j j<|xq (oPkF j j j j)<|xq (oAsI j j)<|xn
   ·cases hm5
    exact xsgF j j (byF iR hc2) j<|xsgF j j (byF iR hc2) j<|xsgF j j (byF iR hc2) j<|xq (oPkF j j (byF iR hc2) j)<|xq (oMv j j)<|xsgF j j j j<|xsgF j j j j<|xsgF j j j j<|xq (oPkF j j j j)<|xq (oMv j j)<|xsgF j j j j<|xsgF j j j j<|xsgF j j j j<|xq (oPkF j j j j)<|xq (oAsI j j)<|xn
  ·cases hm5
   exact xsgF j j (byF iR hc1) j<|xsgF j j (byF iR hc1) j<|xsgF j j (byF iR hc1) j<|xq (oPkF j j (byF iR hc1) j)<|xq (oMv j j)<|xsgF j j j j<|xsgF j j j j<|xsgF j j j j<|xq (oPkF j j j j)<|xq (oMv j j)<|xsgF j j j j<|xsgF j j j j<|xsgF j j j j<|xq (oPkF j j j j)<|xq (oMv j j)<|xsgF j j j j<|xsgF j j j j<|xsgF j j j j<|xq (oPkF j j j j)<|xq (oAsI j j)<|xn
 ·refine us<|Go.ret (Unw.ret ?_)
  cases h
  exact fr rF82 j
theorem L_impl_ValidDesk {d_0:S_Desk} {r:Bool} (h:impl_ValidDesk d_0=some r):FX 33 [.im 2 true (u_S_Desk d_0)] (B0 [(false,[.im 0 (V r)])]):=by
 unfold impl_ValidDesk at h
 refine gn 21 Tryz.func33 rfl ?_
 refine gs<|g0 j j (q (oBx j tF82 j (tkI (tkI (tkI (tkI (tkI (tkI (tkI (tkI (tkI (tkI (tkI (tkI (tkI (tkI (tkI (tkI (tkI (tkI (tkI (tkI (tkI (tkI (tkI (tkI tk0)))))))))))))))))))))))))<|q (oAsI j j)<|nl)<|us<|gs<|?_
 obtain ⟨x5,hx5,h⟩:=bs h
 obtain ⟨t_2_m1,hm4,h⟩:=bs h
 refine gX c33 j j (st1:=mk [(1,M 1)] [(1,Oa (G 2 (u_S_Desk d_0)))]) (by kernel_rfl) (mk [(2,bv t_2_m1)] []) ?_ ?_
 ·refine xq (oFA (r':=.mp 1 0 0) j fF82_0 j j)<|xq (oLd (cs:=[.im 0 _,.im 0 _,.im 2 _,.im 2 _,.im 2 _,.im 2 _,.im 2 _,.im 0 _,.im 0 _,.im 0 _,.im 0 _,.im 0 _,.im 0 _,.im 0 _,.im 0 _,.im 2 _,.im 2 _]) j tF49 j j)<|xq (oCa (xs:=[.v true [.im 0 _,.im 0 _,.im 2 _,.im 2 _,.im 2 _,.im 2 _,.im 2 _,.im 0 _,.im 0 _,.im 0 _,.im 0 _,.im 0 _,.im 0 _,.im 0 _,.im 0 _,.im 2 _,.im 2 _]]) (vs:=[(false,[.im 0 _])]) (v:=.v false [.im 0 _]) (L_impl_ValidJob hx5) (.inl j) j kF11_49 j (ppC j pp0) j j pb0 j j j)<|xq (oMv j j)<|?_
  refine ic hm4 (fun hc1 hm4=>?_) fun hc1 hm4=>?_
  ·obtain ⟨x9,hx9,hm4⟩:=bs hm4
   refine xqT j j (iR.2 hc1) (oFA (r':=.mp 1 0 17) j fF82_1 j j)<|xqT j j (iR.2 hc1) (oLd (cs:=[.im 2 _]) j tF78 j j)<|xqT j j (iR.2 hc1) (oCa (xs:=[.v false [.im 2 _]]) (vs:=[(false,[.im 0 _])]) (v:=.v false [.im 0 _]) (L_impl_ValidBonds hx9) (.inl j) j kF80_78 j (ppC j pp0) j j pb0 j j j)<|xq (oPkT j j (iR.2 hc1) j)<|xq (oMv j j)<|?_
   refine ic hm4 (fun hc2 hm4=>?_) fun hc2 hm4=>?_
   ·obtain ⟨x14,hx14,hm4⟩:=bs hm4
    refine xqT j j (iR.2 hc2) (oFA (r':=.mp 1 0 18) j fF82_2 j j)<|xqT j j (iR.2 hc2) (oLd (cs:=[.im 2 _]) j tF79 j j)<|xqT j j (iR.2 hc2) (oCa (xs:=[.v false [.im 2 _]]) (vs:=[(false,[.im 0 _])]) (v:=.v false [.im 0 _]) (L_impl_ValidCoats hx14) (.inl j) j kF81_79 j (ppC j pp0) j j pb0 j j j)<|xq (oPkT j j (iR.2 hc2) j)<|xq (oMv j j)<|?_
    refine ic hm4 (fun hc3 hm4=>?_) fun hc3 hm4=>?_
    ·obtain ⟨x19,hx19,hm4⟩:=bs hm4
     cases hm4
     exact xqT j j (iR.2 hc3) (oFA (r':=.mp 1 0 19) j fF82_3 j j)<|xqT j j (iR.2 hc3) (oLd (cs:=[.im 0 _,.im 0 _,.im 0 _,.im 0 _,.im 0 _]) j tF80 j j)<|xqT j j (iR.2 hc3) (oCa (xs:=[.v true [.im 0 _,.im 0 _,.im 0 _,.im 0 _,.im 0 _]]) (vs:=[(false,[.im 0 _])]) (v:=.v false [.im 0 _]) (L_impl_ValidRates hx19) (.inl j) j kF82_80 j (ppC j pp0) j j pb0 j j j)<|xq (oPkT j j (iR.2 hc3) j)<|xq (oAsI j j)<|xn
    ·cases hm4
     exact xsgF j j (byF iR hc3) j<|xsgF j j (byF iR hc3) j<|xsgF j j (byF iR hc3) j<|xq (oPkF j j (byF iR hc3) j)<|xq (oAsI j j)<|xn
   ·cases hm4
    exact xsgF j j (byF iR hc2) j<|xsgF j j (byF iR hc2) j<|xsgF j j (byF iR hc2) j<|xq (oPkF j j (byF iR hc2) j)<|xq (oMv j j)<|xsgF j j j j<|xsgF j j j j<|xsgF j j j j<|xq (oPkF j j j j)<|xq (oAsI j j)<|xn
  ·cases hm4
   exact xsgF j j (byF iR hc1) j<|xsgF j j (byF iR hc1) j<|xsgF j j (byF iR hc1) j<|xq (oPkF j j (byF iR hc1) j)<|xq (oMv j j)<|xsgF j j j j<|xsgF j j j j<|xsgF j j j j<|xq (oPkF j j j j)<|xq (oMv j j)<|xsgF j j j j<|xsgF j j j j<|xsgF j j j j<|xq (oPkF j j j j)<|xq (oAsI j j)<|xn
 ·refine us<|Go.ret (Unw.ret ?_)
  cases h
  exact fr rF33 j
theorem L_laws_eqPoint {a_0:S_Point} {b_1:S_Point} {r:Bool} (h:laws_eqPoint a_0 b_1=some r):FX 123 [.im 2 true (u_S_Point a_0),.im 2 true (u_S_Point b_1)] (B0 [(false,[.im 0 (V r)])]):=by
 unfold laws_eqPoint at h
 refine gn 15 Tryz.func123 rfl ?_
 refine gs<|g0 j j (q (oBx j tF184 j (tkI (tkI tk0)))<|q (oBx j tF184 j (tkI (tkI tk0)))<|q (oAsI j j)<|nl)<|us<|gs<|gs<|g0 j j (q (oFA (r':=.mp 2 0 0) j fF184_0 j j)<|q (oLd (cs:=[.im 0 _]) j tF2 j j)<|q (oFA (r':=.mp 3 0 0) j fF184_0 j j)<|q (oLd (cs:=[.im 0 _]) j tF2 j j)<|q (oBi j j j j)<|nl)<|us<|gc h j iNe (fun hc1 h=>?_) fun hc1 h=>?_
 ·refine gs<|g0 j j (q (oAsI j j)<|nl)<|us<|Go.ret (Unw.ret ?_)
  cases h
  exact fr rF123 j
 ·refine Go.skip<|us<|gs<|gs<|g0 j j (q (oFA (r':=.mp 2 0 1) j fF184_1 j j)<|q (oLd (cs:=[.im 0 _]) j tF2 j j)<|q (oFA (r':=.mp 3 0 1) j fF184_1 j j)<|q (oLd (cs:=[.im 0 _]) j tF2 j j)<|q (oBi j j j j)<|nl)<|us<|gc h j iNe (fun hc2 h=>?_) fun hc2 h=>?_
  ·refine gs<|g0 j j (q (oAsI j j)<|nl)<|us<|Go.ret (Unw.ret ?_)
   cases h
   exact fr rF123 j
  ·refine Go.skip<|us<|gs<|g0 j j (q (oAsI j j)<|nl)<|us<|Go.ret (Unw.ret ?_)
   cases h
   exact fr rF123 j
theorem L_laws_eqPointS {a_0:(List S_Point)} {b_1:(List S_Point)} {r:Bool} (h:laws_eqPointS a_0 b_1=some r):FX 68 [.im 2 false [W 2 e_S_Point a_0],.im 2 false [W 2 e_S_Point b_1]] (B0 [(false,[.im 0 (V r)])]):=by
 unfold laws_eqPointS at h
 refine gn 27 Tryz.func68 rfl ?_
 refine gs<|g0 j j (q (oAsI j j)<|nl)<|us<|gs<|gs<|g0 j j (q (oMv j j)<|q (oLnI j j uF38 j)<|q (oMv j j)<|q (oLnI j j uF38 j)<|q (oBi j j j j)<|nl)<|us<|gc h j iNe (fun hc1 h=>?_) fun hc1 h=>?_
 ·refine gs<|g0 j j (q (oAsI j j)<|nl)<|us<|Go.ret (Unw.ret ?_)
  cases h
  exact fr rF68 j
 ·refine Go.skip<|us<|gs<|gs<|g0 j j (q (oAsI j j)<|nl)<|us<|Go.block<|?_
  obtain ⟨o,hl,h⟩:=bs h
  refine gl c68 j _ (fun (i_5_l4:Int)=>mk [(0,D 2 (W 2 e_S_Point a_0)),(1,D 2 (W 2 e_S_Point b_1)),(5,iv i_5_l4)] []) (fun (o:(Unit ⊕ Bool)) (p:Ex×St)=>match o with | (.inl _)=>p.1= .exit 0∧p.2.norm ([],[])=mk [] [] | (.inr r2)=>p.1= .ret∧fin Tryz.prog cfg 68 Tryz.f68 [.im 2 false [W 2 e_S_Point a_0],.im 2 false [W 2 e_S_Point b_1]] p.2=some (B0 [(false,[.im 0 (V r2)])])) hl (by kernel_rfl) ?_ ?_ ?_
  ·intro o p hp e
   rcases o with u | r2<;>exact nomatch (hp.1.symm.trans e)
  ·rintro i_5_l4 o h
   unfold laws_eqPointS_l4 at h
   refine gs<|gs<|g0 j j (q (oMv j j)<|q (oMv j j)<|q (oLnI j j uF38 j)<|q (oBi j j j j)<|nl)<|us<|gc h j iDec (fun hc6 h=>?_) fun hc6 h=>?_
   ·refine Go.skip<|us<|gs<|Go.block<|gs<|?_
    obtain ⟨x19,hx19,h⟩:=bs h
    obtain ⟨x23,hx23,h⟩:=bs h
    obtain ⟨x25,hx25,h⟩:=bs h
    refine gd c68 j j j j (mk [(0,D 2 (W 2 e_S_Point a_0)),(1,D 2 (W 2 e_S_Point b_1)),(5,iv i_5_l4),(26,bv (!x25))] []) (t j j (oMv j j)<|t j j (oMv j j)<|t j j (oIAI j hx19 sF38 j j)<|t j j (oLd (cs:=[.im 2 _,.im 2 _]) j tF184 j j)<|t j j (oMv j j)<|t j j (oMv j j)<|t j j (oIAI j hx23 sF38 j j)<|t j j (oLd (cs:=[.im 2 _,.im 2 _]) j tF184 j j)<|sS (dN z68 j (oCa (xs:=[.v true [.im 2 _,.im 2 _],.v true [.im 2 _,.im 2 _]]) (vs:=[(false,[.im 0 _])]) (v:=.v false [.im 0 _]) (L_laws_eqPoint hx25) (.inl j) j kF123_184_184 j (ppC j (ppC j pp0)) j j pb0 j j j)) trivial (t j j (oUn j j j)<|sD (by kernel_rfl)))<|us<|?_
    by_cases hc7:x25=true
    ·rw [if_pos hc7] at h
     refine gF j (nF (iR.2 hc7))<|Go.skip<|Unw.blk<|us<|g0 j j (q (oMv j j)<|q (oBi j j j j)<|q (oAsI j j)<|nl)<|Unw.nil<|?_
     cases h
     exact ⟨j,(by kernel_rfl)⟩
    ·rw [if_neg hc7] at h
     refine gT j (nT (byF iR hc7))<|gs<|g0 j j (q (oAsI j j)<|nl)<|us<|Go.ret (Unw.ret ?_)
     cases h
     exact ⟨j,(fo rF68 j)⟩
   ·refine Go.exit<|ux<|Unw.nil<|?_
    cases h
    exact ⟨j,(by kernel_rfl)⟩
  ·rintro ⟨e,st⟩ hp
   rcases o with u | r2
   ·dsimp only at h
    obtain ⟨he,hst⟩:=hp
    obtain rfl:e= .exit 0:=he
    refine Unw.blkx<|us<|gs<|g2 c68 j j hst (q (oAsI j j)<|nl)<|us<|Go.ret (Unw.ret ?_)
    cases h
    exact fr rF68 j
   ·dsimp only at h
    obtain ⟨he,hfin⟩:=hp
    obtain rfl:e= .ret:=he
    cases h
    exact Unw.ret (Fin_ret hfin)
theorem L_laws_eqInt64S {a_0:(List Int)} {b_1:(List Int)} {r:Bool} (h:laws_eqInt64S a_0 b_1=some r):FX 19 [.im 2 false [W 1 eI a_0],.im 2 false [W 1 eI b_1]] (B0 [(false,[.im 0 (V r)])]):=by
 unfold laws_eqInt64S at h
 refine gn 26 Tryz.func19 rfl ?_
 refine gs<|g0 j j (q (oAsI j j)<|nl)<|us<|gs<|gs<|g0 j j (q (oMv j j)<|q (oLnI j j uF33 j)<|q (oMv j j)<|q (oLnI j j uF33 j)<|q (oBi j j j j)<|nl)<|us<|gc h j iNe (fun hc1 h=>?_) fun hc1 h=>?_
 ·refine gs<|g0 j j (q (oAsI j j)<|nl)<|us<|Go.ret (Unw.ret ?_)
  cases h
  exact fr rF19 j
 ·refine Go.skip<|us<|gs<|gs<|g0 j j (q (oAsI j j)<|nl)<|us<|Go.block<|?_
  obtain ⟨o,hl,h⟩:=bs h
  refine gl c19 j _ (fun (i_5_l4:Int)=>mk [(0,D 2 (W 1 eI a_0)),(1,D 2 (W 1 eI b_1)),(5,iv i_5_l4)] []) (fun (o:(Unit ⊕ Bool)) (p:Ex×St)=>match o with | (.inl _)=>p.1= .exit 0∧p.2.norm ([],[])=mk [] [] | (.inr r2)=>p.1= .ret∧fin Tryz.prog cfg 19 Tryz.f19 [.im 2 false [W 1 eI a_0],.im 2 false [W 1 eI b_1]] p.2=some (B0 [(false,[.im 0 (V r2)])])) hl (by kernel_rfl) ?_ ?_ ?_
  ·intro o p hp e
   rcases o with u | r2<;>exact nomatch (hp.1.symm.trans e)
  ·rintro i_5_l4 o h
   unfold laws_eqInt64S_l4 at h
   refine gs<|gs<|g0 j j (q (oMv j j)<|q (oMv j j)<|q (oLnI j j uF33 j)<|q (oBi j j j j)<|nl)<|us<|gc h j iDec (fun hc6 h=>?_) fun hc6 h=>?_
   ·refine Go.skip<|us<|gs<|Go.block<|gs<|?_
    obtain ⟨x19,hx19,h⟩:=bs h
    obtain ⟨x23,hx23,h⟩:=bs h
    refine gd c19 j j j j (mk [(0,D 2 (W 1 eI a_0)),(1,D 2 (W 1 eI b_1)),(5,iv i_5_l4),(25,bv (x19 != x23))] []) (t j j (oMv j j)<|t j j (oMv j j)<|t j j (oIAI j hx19 sF33 j j)<|t j j (oLd (cs:=[.im 2 _]) j tF2 j j)<|t j j (oMv j j)<|t j j (oMv j j)<|t j j (oIAI j hx23 sF33 j j)<|t j j (oLd (cs:=[.im 2 _]) j tF2 j j)<|t j j (oBi j j j j)<|sD (by kernel_rfl))<|us<|gc h j iNe (fun hc7 h=>?_) fun hc7 h=>?_
    ·refine gs<|g0 j j (q (oAsI j j)<|nl)<|us<|Go.ret (Unw.ret ?_)
     cases h
     exact ⟨j,(fo rF19 j)⟩
    ·refine Go.skip<|Unw.blk<|us<|g0 j j (q (oMv j j)<|q (oBi j j j j)<|q (oAsI j j)<|nl)<|Unw.nil<|?_
     cases h
     exact ⟨j,(by kernel_rfl)⟩
   ·refine Go.exit<|ux<|Unw.nil<|?_
    cases h
    exact ⟨j,(by kernel_rfl)⟩
  ·rintro ⟨e,st⟩ hp
   rcases o with u | r2
   ·dsimp only at h
    obtain ⟨he,hst⟩:=hp
    obtain rfl:e= .exit 0:=he
    refine Unw.blkx<|us<|gs<|g2 c19 j j hst (q (oAsI j j)<|nl)<|us<|Go.ret (Unw.ret ?_)
    cases h
    exact fr rF19 j
   ·dsimp only at h
    obtain ⟨he,hfin⟩:=hp
    obtain rfl:e= .ret:=he
    cases h
    exact Unw.ret (Fin_ret hfin)
theorem L_laws_eqFace {a_0:S_Face} {b_1:S_Face} {r:Bool} (h:laws_eqFace a_0 b_1=some r):FX 124 [.im 2 true (u_S_Face a_0),.im 2 true (u_S_Face b_1)] (B0 [(false,[.im 0 (V r)])]):=by
 unfold laws_eqFace at h
 refine gn 16 Tryz.func124 rfl ?_
 refine gs<|g0 j j (q (oBx j tF187 j (tkI (tkI tk0)))<|q (oBx j tF187 j (tkI (tkI tk0)))<|q (oAsI j j)<|nl)<|us<|gs<|gs<|g0 j j (q (oFA (r':=.mp 2 0 0) j fF187_0 j j)<|q (oLd (cs:=[.im 0 _]) j tF9 j j)<|q (oFA (r':=.mp 3 0 0) j fF187_0 j j)<|q (oLd (cs:=[.im 0 _]) j tF9 j j)<|q (oBi j j j j)<|nl)<|us<|gc h j (iNot iStr) (fun hc1 h=>?_) fun hc1 h=>?_
 ·refine gs<|g0 j j (q (oAsI j j)<|nl)<|us<|Go.ret (Unw.ret ?_)
  cases h
  exact fr rF124 j
 ·refine Go.skip<|us<|gs<|gs<|?_
  obtain ⟨x14,hx14,h⟩:=bs h
  refine g0 j j (q (oFA (r':=.mp 2 0 1) j fF187_1 j j)<|q (oLd (cs:=[.im 2 _]) j tF33 j j)<|q (oFA (r':=.mp 3 0 1) j fF187_1 j j)<|q (oLd (cs:=[.im 2 _]) j tF33 j j)<|q (oCa (xs:=[.v false [.im 2 _],.v false [.im 2 _]]) (vs:=[(false,[.im 0 _])]) (v:=.v false [.im 0 _]) (L_laws_eqInt64S hx14) (.inl j) j kF19_33_33 j (ppC j (ppC j pp0)) j j pb0 j j j)<|q (oUn j j j)<|nl)<|us<|?_
  by_cases hc2:x14=true
  ·rw [if_pos hc2] at h
   refine gF j (nF (iR.2 hc2))<|Go.skip<|us<|gs<|g0 j j (q (oAsI j j)<|nl)<|us<|Go.ret (Unw.ret ?_)
   cases h
   exact fr rF124 j
  ·rw [if_neg hc2] at h
   refine gT j (nT (byF iR hc2))<|gs<|g0 j j (q (oAsI j j)<|nl)<|us<|Go.ret (Unw.ret ?_)
   cases h
   exact fr rF124 j
theorem L_laws_eqFaceS {a_0:(List S_Face)} {b_1:(List S_Face)} {r:Bool} (h:laws_eqFaceS a_0 b_1=some r):FX 69 [.im 2 false [W 2 e_S_Face a_0],.im 2 false [W 2 e_S_Face b_1]] (B0 [(false,[.im 0 (V r)])]):=by
 unfold laws_eqFaceS at h
 refine gn 27 Tryz.func69 rfl ?_
 refine gs<|g0 j j (q (oAsI j j)<|nl)<|us<|gs<|gs<|g0 j j (q (oMv j j)<|q (oLnI j j uF39 j)<|q (oMv j j)<|q (oLnI j j uF39 j)<|q (oBi j j j j)<|nl)<|us<|gc h j iNe (fun hc1 h=>?_) fun hc1 h=>?_
 ·refine gs<|g0 j j (q (oAsI j j)<|nl)<|us<|Go.ret (Unw.ret ?_)
  cases h
  exact fr rF69 j
 ·refine Go.skip<|us<|gs<|gs<|g0 j j (q (oAsI j j)<|nl)<|us<|Go.block<|?_
  obtain ⟨o,hl,h⟩:=bs h
  refine gl c69 j _ (fun (i_5_l4:Int)=>mk [(0,D 2 (W 2 e_S_Face a_0)),(1,D 2 (W 2 e_S_Face b_1)),(5,iv i_5_l4)] []) (fun (o:(Unit ⊕ Bool)) (p:Ex×St)=>match o with | (.inl _)=>p.1= .exit 0∧p.2.norm ([],[])=mk [] [] | (.inr r2)=>p.1= .ret∧fin Tryz.prog cfg 69 Tryz.f69 [.im 2 false [W 2 e_S_Face a_0],.im 2 false [W 2 e_S_Face b_1]] p.2=some (B0 [(false,[.im 0 (V r2)])])) hl (by kernel_rfl) ?_ ?_ ?_
  ·intro o p hp e
   rcases o with u | r2<;>exact nomatch (hp.1.symm.trans e)
  ·rintro i_5_l4 o h
   unfold laws_eqFaceS_l4 at h
   refine gs<|gs<|g0 j j (q (oMv j j)<|q (oMv j j)<|q (oLnI j j uF39 j)<|q (oBi j j j j)<|nl)<|us<|gc h j iDec (fun hc6 h=>?_) fun hc6 h=>?_
   ·refine Go.skip<|us<|gs<|Go.block<|gs<|?_
    obtain ⟨x19,hx19,h⟩:=bs h
    obtain ⟨x23,hx23,h⟩:=bs h
    obtain ⟨x25,hx25,h⟩:=bs h
    refine gd c69 j j j j (mk [(0,D 2 (W 2 e_S_Face a_0)),(1,D 2 (W 2 e_S_Face b_1)),(5,iv i_5_l4),(26,bv (!x25))] []) (t j j (oMv j j)<|t j j (oMv j j)<|t j j (oIAI j hx19 sF39 j j)<|t j j (oLd (cs:=[.im 2 _,.im 2 _]) j tF187 j j)<|t j j (oMv j j)<|t j j (oMv j j)<|t j j (oIAI j hx23 sF39 j j)<|t j j (oLd (cs:=[.im 2 _,.im 2 _]) j tF187 j j)<|sS (dN z69 j (oCa (xs:=[.v true [.im 2 _,.im 2 _],.v true [.im 2 _,.im 2 _]]) (vs:=[(false,[.im 0 _])]) (v:=.v false [.im 0 _]) (L_laws_eqFace hx25) (.inl j) j kF124_187_187 j (ppC j (ppC j pp0)) j j pb0 j j j)) trivial (t j j (oUn j j j)<|sD (by kernel_rfl)))<|us<|?_
    by_cases hc7:x25=true
    ·rw [if_pos hc7] at h
     refine gF j (nF (iR.2 hc7))<|Go.skip<|Unw.blk<|us<|g0 j j (q (oMv j j)<|q (oBi j j j j)<|q (oAsI j j)<|nl)<|Unw.nil<|?_
     cases h
     exact ⟨j,(by kernel_rfl)⟩
    ·rw [if_neg hc7] at h
     refine gT j (nT (byF iR hc7))<|gs<|g0 j j (q (oAsI j j)<|nl)<|us<|Go.ret (Unw.ret ?_)
     cases h
     exact ⟨j,(fo rF69 j)⟩
   ·refine Go.exit<|ux<|Unw.nil<|?_
    cases h
    exact ⟨j,(by kernel_rfl)⟩
  ·rintro ⟨e,st⟩ hp
   rcases o with u | r2
   ·dsimp only at h
    obtain ⟨he,hst⟩:=hp
    obtain rfl:e= .exit 0:=he
    refine Unw.blkx<|us<|gs<|g2 c69 j j hst (q (oAsI j j)<|nl)<|us<|Go.ret (Unw.ret ?_)
    cases h
    exact fr rF69 j
   ·dsimp only at h
    obtain ⟨he,hfin⟩:=hp
    obtain rfl:e= .ret:=he
    cases h
    exact Unw.ret (Fin_ret hfin)
theorem L_laws_eqDrawing {a_0:S_Drawing} {b_1:S_Drawing} {r:Bool} (h:laws_eqDrawing a_0 b_1=some r):FX 20 [.im 2 true (u_S_Drawing a_0),.im 2 true (u_S_Drawing b_1)] (B0 [(false,[.im 0 (V r)])]):=by
 unfold laws_eqDrawing at h
 refine gn 27 Tryz.func20 rfl ?_
 refine gs<|g0 j j (q (oBx j tF41 j (tkI (tkI (tkI (tkI tk0)))))<|q (oBx j tF41 j (tkI (tkI (tkI (tkI tk0)))))<|q (oAsI j j)<|nl)<|us<|gs<|gs<|g0 j j (q (oFA (r':=.mp 2 0 0) j fF41_0 j j)<|q (oLd (cs:=[.im 0 _]) j tF2 j j)<|q (oFA (r':=.mp 3 0 0) j fF41_0 j j)<|q (oLd (cs:=[.im 0 _]) j tF2 j j)<|q (oBi j j j j)<|nl)<|us<|gc h j iNe (fun hc1 h=>?_) fun hc1 h=>?_
 ·refine gs<|g0 j j (q (oAsI j j)<|nl)<|us<|Go.ret (Unw.ret ?_)
  cases h
  exact fr rF20 j
 ·refine Go.skip<|us<|gs<|gs<|g0 j j (q (oFA (r':=.mp 2 0 1) j fF41_1 j j)<|q (oLd (cs:=[.im 0 _]) j tF2 j j)<|q (oFA (r':=.mp 3 0 1) j fF41_1 j j)<|q (oLd (cs:=[.im 0 _]) j tF2 j j)<|q (oBi j j j j)<|nl)<|us<|gc h j iNe (fun hc2 h=>?_) fun hc2 h=>?_
  ·refine gs<|g0 j j (q (oAsI j j)<|nl)<|us<|Go.ret (Unw.ret ?_)
   cases h
   exact fr rF20 j
  ·refine Go.skip<|us<|gs<|gs<|?_
   obtain ⟨x19,hx19,h⟩:=bs h
   refine g0 j j (q (oFA (r':=.mp 2 0 2) j fF41_2 j j)<|q (oLd (cs:=[.im 2 _]) j tF38 j j)<|q (oFA (r':=.mp 3 0 2) j fF41_2 j j)<|q (oLd (cs:=[.im 2 _]) j tF38 j j)<|q (oCa (xs:=[.v false [.im 2 _],.v false [.im 2 _]]) (vs:=[(false,[.im 0 _])]) (v:=.v false [.im 0 _]) (L_laws_eqPointS hx19) (.inl j) j kF68_38_38 j (ppC j (ppC j pp0)) j j pb0 j j j)<|q (oUn j j j)<|nl)<|us<|?_
   by_cases hc3:x19=true
   ·rw [if_pos hc3] at h
    refine gF j (nF (iR.2 hc3))<|Go.skip<|us<|gs<|gs<|?_
    obtain ⟨x25,hx25,h⟩:=bs h
    refine g0 j j (q (oFA (r':=.mp 2 0 3) j fF41_3 j j)<|q (oLd (cs:=[.im 2 _]) j tF39 j j)<|q (oFA (r':=.mp 3 0 3) j fF41_3 j j)<|q (oLd (cs:=[.im 2 _]) j tF39 j j)<|q (oCa (xs:=[.v false [.im 2 _],.v false [.im 2 _]]) (vs:=[(false,[.im 0 _])]) (v:=.v false [.im 0 _]) (L_laws_eqFaceS hx25) (.inl j) j kF69_39_39 j (ppC j (ppC j pp0)) j j pb0 j j j)<|q (oUn j j j)<|nl)<|us<|?_
    by_cases hc4:x25=true
    ·rw [if_pos hc4] at h
     refine gF j (nF (iR.2 hc4))<|Go.skip<|us<|gs<|g0 j j (q (oAsI j j)<|nl)<|us<|Go.ret (Unw.ret ?_)
     cases h
     exact fr rF20 j
    ·rw [if_neg hc4] at h
     refine gT j (nT (byF iR hc4))<|gs<|g0 j j (q (oAsI j j)<|nl)<|us<|Go.ret (Unw.ret ?_)
     cases h
     exact fr rF20 j
   ·rw [if_neg hc3] at h
    refine gT j (nT (byF iR hc3))<|gs<|g0 j j (q (oAsI j j)<|nl)<|us<|Go.ret (Unw.ret ?_)
    cases h
    exact fr rF20 j
theorem L_laws_eqVeneer {a_0:S_Veneer} {b_1:S_Veneer} {r:Bool} (h:laws_eqVeneer a_0 b_1=some r):FX 70 [.im 2 true (u_S_Veneer a_0),.im 2 true (u_S_Veneer b_1)] (B0 [(false,[.im 0 (V r)])]):=by
 unfold laws_eqVeneer at h
 refine gn 20 Tryz.func70 rfl ?_
 refine gs<|g0 j j (q (oBx j tF123 j (tkI (tkI (tkI tk0))))<|q (oBx j tF123 j (tkI (tkI (tkI tk0))))<|q (oAsI j j)<|nl)<|us<|gs<|gs<|g0 j j (q (oFA (r':=.mp 2 0 0) j fF123_0 j j)<|q (oLd (cs:=[.im 0 _]) j tF9 j j)<|q (oFA (r':=.mp 3 0 0) j fF123_0 j j)<|q (oLd (cs:=[.im 0 _]) j tF9 j j)<|q (oBi j j j j)<|nl)<|us<|gc h j (iNot iStr) (fun hc1 h=>?_) fun hc1 h=>?_
 ·refine gs<|g0 j j (q (oAsI j j)<|nl)<|us<|Go.ret (Unw.ret ?_)
  cases h
  exact fr rF70 j
 ·refine Go.skip<|us<|gs<|gs<|g0 j j (q (oFA (r':=.mp 2 0 1) j fF123_1 j j)<|q (oLd (cs:=[.im 0 _]) j tF2 j j)<|q (oFA (r':=.mp 3 0 1) j fF123_1 j j)<|q (oLd (cs:=[.im 0 _]) j tF2 j j)<|q (oBi j j j j)<|nl)<|us<|gc h j iNe (fun hc2 h=>?_) fun hc2 h=>?_
  ·refine gs<|g0 j j (q (oAsI j j)<|nl)<|us<|Go.ret (Unw.ret ?_)
   cases h
   exact fr rF70 j
  ·refine Go.skip<|us<|gs<|gs<|g0 j j (q (oFA (r':=.mp 2 0 2) j fF123_2 j j)<|q (oLd (cs:=[.im 0 _]) j tF2 j j)<|q (oFA (r':=.mp 3 0 2) j fF123_2 j j)<|q (oLd (cs:=[.im 0 _]) j tF2 j j)<|q (oBi j j j j)<|nl)<|us<|gc h j iNe (fun hc3 h=>?_) fun hc3 h=>?_
   ·refine gs<|g0 j j (q (oAsI j j)<|nl)<|us<|Go.ret (Unw.ret ?_)
    cases h
    exact fr rF70 j
   ·refine Go.skip<|us<|gs<|g0 j j (q (oAsI j j)<|nl)<|us<|Go.ret (Unw.ret ?_)
    cases h
    exact fr rF70 j
theorem L_laws_eqVeneerS {a_0:(List S_Veneer)} {b_1:(List S_Veneer)} {r:Bool} (h:laws_eqVeneerS a_0 b_1=some r):FX 21 [.im 2 false [W 3 e_S_Veneer a_0],.im 2 false [W 3 e_S_Veneer b_1]] (B0 [(false,[.im 0 (V r)])]):=by
 unfold laws_eqVeneerS at h
 refine gn 27 Tryz.func21 rfl ?_
 refine gs<|g0 j j (q (oAsI j j)<|nl)<|us<|gs<|gs<|g0 j j (q (oMv j j)<|q (oLnI j j uF42 j)<|q (oMv j j)<|q (oLnI j j uF42 j)<|q (oBi j j j j)<|nl)<|us<|gc h j iNe (fun hc1 h=>?_) fun hc1 h=>?_
 ·refine gs<|g0 j j (q (oAsI j j)<|nl)<|us<|Go.ret (Unw.ret ?_)
  cases h
  exact fr rF21 j
 ·refine Go.skip<|us<|gs<|gs<|g0 j j (q (oAsI j j)<|nl)<|us<|Go.block<|?_
  obtain ⟨o,hl,h⟩:=bs h
  refine gl c21 j _ (fun (i_5_l4:Int)=>mk [(0,D 2 (W 3 e_S_Veneer a_0)),(1,D 2 (W 3 e_S_Veneer b_1)),(5,iv i_5_l4)] []) (fun (o:(Unit ⊕ Bool)) (p:Ex×St)=>match o with | (.inl _)=>p.1= .exit 0∧p.2.norm ([],[])=mk [] [] | (.inr r2)=>p.1= .ret∧fin Tryz.prog cfg 21 Tryz.f21 [.im 2 false [W 3 e_S_Veneer a_0],.im 2 false [W 3 e_S_Veneer b_1]] p.2=some (B0 [(false,[.im 0 (V r2)])])) hl (by kernel_rfl) ?_ ?_ ?_
  ·intro o p hp e
   rcases o with u | r2<;>exact nomatch (hp.1.symm.trans e)
  ·rintro i_5_l4 o h
   unfold laws_eqVeneerS_l4 at h
   refine gs<|gs<|g0 j j (q (oMv j j)<|q (oMv j j)<|q (oLnI j j uF42 j)<|q (oBi j j j j)<|nl)<|us<|gc h j iDec (fun hc6 h=>?_) fun hc6 h=>?_
   ·refine Go.skip<|us<|gs<|Go.block<|gs<|?_
    obtain ⟨x19,hx19,h⟩:=bs h
    obtain ⟨x23,hx23,h⟩:=bs h
    obtain ⟨x25,hx25,h⟩:=bs h
    refine gd c21 j j j j (mk [(0,D 2 (W 3 e_S_Veneer a_0)),(1,D 2 (W 3 e_S_Veneer b_1)),(5,iv i_5_l4),(26,bv (!x25))] []) (t j j (oMv j j)<|t j j (oMv j j)<|t j j (oIAI j hx19 sF42 j j)<|t j j (oLd (cs:=[.im 2 _,.im 2 _,.im 2 _]) j tF123 j j)<|t j j (oMv j j)<|t j j (oMv j j)<|t j j (oIAI j hx23 sF42 j j)<|t j j (oLd (cs:=[.im 2 _,.im 2 _,.im 2 _]) j tF123 j j)<|sS (dN z21 j (oCa (xs:=[.v true [.im 2 _,.im 2 _,.im 2 _],.v true [.im 2 _,.im 2 _,.im 2 _]]) (vs:=[(false,[.im 0 _])]) (v:=.v false [.im 0 _]) (L_laws_eqVeneer hx25) (.inl j) j kF70_123_123 j (ppC j (ppC j pp0)) j j pb0 j j j)) trivial (t j j (oUn j j j)<|sD (by kernel_rfl)))<|us<|?_
    by_cases hc7:x25=true
    ·rw [if_pos hc7] at h
     refine gF j (nF (iR.2 hc7))<|Go.skip<|Unw.blk<|us<|g0 j j (q (oMv j j)<|q (oBi j j j j)<|q (oAsI j j)<|nl)<|Unw.nil<|?_
     cases h
     exact ⟨j,(by kernel_rfl)⟩
    ·rw [if_neg hc7] at h
     refine gT j (nT (byF iR hc7))<|gs<|g0 j j (q (oAsI j j)<|nl)<|us<|Go.ret (Unw.ret ?_)
     cases h
     exact ⟨j,(fo rF21 j)⟩
   ·refine Go.exit<|ux<|Unw.nil<|?_
    cases h
    exact ⟨j,(by kernel_rfl)⟩
  ·rintro ⟨e,st⟩ hp
   rcases o with u | r2
   ·dsimp only at h
    obtain ⟨he,hst⟩:=hp
    obtain rfl:e= .exit 0:=he
    refine Unw.blkx<|us<|gs<|g2 c21 j j hst (q (oAsI j j)<|nl)<|us<|Go.ret (Unw.ret ?_)
    cases h
    exact fr rF21 j
   ·dsimp only at h
    obtain ⟨he,hfin⟩:=hp
    obtain rfl:e= .ret:=he
    cases h
    exact Unw.ret (Fin_ret hfin)
theorem L_laws_eqPicture {a_0:S_Picture} {b_1:S_Picture} {r:Bool} (h:laws_eqPicture a_0 b_1=some r):FX 51 [.im 2 true (u_S_Picture a_0),.im 2 true (u_S_Picture b_1)] (B0 [(false,[.im 0 (V r)])]):=by
 unfold laws_eqPicture at h
 refine gn 17 Tryz.func51 rfl ?_
 refine gs<|g0 j j (q (oBx j tF44 j (tkI (tkI (tkI (tkI (tkI tk0))))))<|q (oBx j tF44 j (tkI (tkI (tkI (tkI (tkI tk0))))))<|q (oAsI j j)<|nl)<|us<|gs<|gs<|?_
 obtain ⟨x9,hx9,h⟩:=bs h
 refine g1 j j (mk [(2,M 2),(3,M 3)] [(2,Oa (G 2 (u_S_Picture a_0))),(3,Oa (G 2 (u_S_Picture b_1)))]) (q (oFA (r':=.mp 2 0 0) j fF44_0 j j)<|q (oLd (cs:=[.im 0 _,.im 0 _,.im 2 _,.im 2 _]) j tF41 j j)<|q (oFA (r':=.mp 3 0 0) j fF44_0 j j)<|q (oLd (cs:=[.im 0 _,.im 0 _,.im 2 _,.im 2 _]) j tF41 j j)<|q (oCa (xs:=[.v true [.im 0 _,.im 0 _,.im 2 _,.im 2 _],.v true [.im 0 _,.im 0 _,.im 2 _,.im 2 _]]) (vs:=[(false,[.im 0 _])]) (v:=.v false [.im 0 _]) (L_laws_eqDrawing hx9) (.inl j) j kF20_41_41 j (ppC j (ppC j pp0)) j j pb0 j j j)<|q (oUn j j j)<|nl)<|us<|?_
 by_cases hc1:x9=true
 ·rw [if_pos hc1] at h
  refine gF j (nF (iR.2 hc1))<|Go.skip<|us<|gs<|gs<|?_
  obtain ⟨x15,hx15,h⟩:=bs h
  refine g0 j j (q (oFA (r':=.mp 2 0 4) j fF44_1 j j)<|q (oLd (cs:=[.im 2 _]) j tF42 j j)<|q (oFA (r':=.mp 3 0 4) j fF44_1 j j)<|q (oLd (cs:=[.im 2 _]) j tF42 j j)<|q (oCa (xs:=[.v false [.im 2 _],.v false [.im 2 _]]) (vs:=[(false,[.im 0 _])]) (v:=.v false [.im 0 _]) (L_laws_eqVeneerS hx15) (.inl j) j kF21_42_42 j (ppC j (ppC j pp0)) j j pb0 j j j)<|q (oUn j j j)<|nl)<|us<|?_
  by_cases hc2:x15=true
  ·rw [if_pos hc2] at h
   refine gF j (nF (iR.2 hc2))<|Go.skip<|us<|gs<|g0 j j (q (oAsI j j)<|nl)<|us<|Go.ret (Unw.ret ?_)
   cases h
   exact fr rF51 j
  ·rw [if_neg hc2] at h
   refine gT j (nT (byF iR hc2))<|gs<|g0 j j (q (oAsI j j)<|nl)<|us<|Go.ret (Unw.ret ?_)
   cases h
   exact fr rF51 j
 ·rw [if_neg hc1] at h
  refine gT j (nT (byF iR hc1))<|gs<|g0 j j (q (oAsI j j)<|nl)<|us<|Go.ret (Unw.ret ?_)
  cases h
  exact fr rF51 j
theorem L_laws_eqBox {a_0:S_Box} {b_1:S_Box} {r:Bool} (h:laws_eqBox a_0 b_1=some r):FX 182 [.im 2 true (u_S_Box a_0),.im 2 true (u_S_Box b_1)] (B0 [(false,[.im 0 (V r)])]):=by
 unfold laws_eqBox at h
 refine gn 25 Tryz.func182 rfl ?_
 refine gs<|g0 j j (q (oBx j tF234 j (tkI (tkI (tkI (tkI tk0)))))<|q (oBx j tF234 j (tkI (tkI (tkI (tkI tk0)))))<|q (oAsI j j)<|nl)<|us<|gs<|gs<|g0 j j (q (oFA (r':=.mp 2 0 0) j fF234_0 j j)<|q (oLd (cs:=[.im 0 _]) j tF2 j j)<|q (oFA (r':=.mp 3 0 0) j fF234_0 j j)<|q (oLd (cs:=[.im 0 _]) j tF2 j j)<|q (oBi j j j j)<|nl)<|us<|gc h j iNe (fun hc1 h=>?_) fun hc1 h=>?_
 ·refine gs<|g0 j j (q (oAsI j j)<|nl)<|us<|Go.ret (Unw.ret ?_)
  cases h
  exact fr rF182 j
 ·refine Go.skip<|us<|gs<|gs<|g0 j j (q (oFA (r':=.mp 2 0 1) j fF234_1 j j)<|q (oLd (cs:=[.im 0 _]) j tF2 j j)<|q (oFA (r':=.mp 3 0 1) j fF234_1 j j)<|q (oLd (cs:=[.im 0 _]) j tF2 j j)<|q (oBi j j j j)<|nl)<|us<|gc h j iNe (fun hc2 h=>?_) fun hc2 h=>?_
  ·refine gs<|g0 j j (q (oAsI j j)<|nl)<|us<|Go.ret (Unw.ret ?_)
   cases h
   exact fr rF182 j
  ·refine Go.skip<|us<|gs<|gs<|g0 j j (q (oFA (r':=.mp 2 0 2) j fF234_2 j j)<|q (oLd (cs:=[.im 0 _]) j tF2 j j)<|q (oFA (r':=.mp 3 0 2) j fF234_2 j j)<|q (oLd (cs:=[.im 0 _]) j tF2 j j)<|q (oBi j j j j)<|nl)<|us<|gc h j iNe (fun hc3 h=>?_) fun hc3 h=>?_
   ·refine gs<|g0 j j (q (oAsI j j)<|nl)<|us<|Go.ret (Unw.ret ?_)
    cases h
    exact fr rF182 j
   ·refine Go.skip<|us<|gs<|gs<|g0 j j (q (oFA (r':=.mp 2 0 3) j fF234_3 j j)<|q (oLd (cs:=[.im 0 _]) j tF2 j j)<|q (oFA (r':=.mp 3 0 3) j fF234_3 j j)<|q (oLd (cs:=[.im 0 _]) j tF2 j j)<|q (oBi j j j j)<|nl)<|us<|gc h j iNe (fun hc4 h=>?_) fun hc4 h=>?_
    ·refine gs<|g0 j j (q (oAsI j j)<|nl)<|us<|Go.ret (Unw.ret ?_)
     cases h
     exact fr rF182 j
    ·refine Go.skip<|us<|gs<|g0 j j (q (oAsI j j)<|nl)<|us<|Go.ret (Unw.ret ?_)
     cases h
     exact fr rF182 j
theorem L_laws_eqBoxS {a_0:(List S_Box)} {b_1:(List S_Box)} {r:Bool} (h:laws_eqBoxS a_0 b_1=some r):FX 154 [.im 2 false [W 4 e_S_Box a_0],.im 2 false [W 4 e_S_Box b_1]] (B0 [(false,[.im 0 (V r)])]):=by
 unfold laws_eqBoxS at h
 refine gn 27 Tryz.func154 rfl ?_
 refine gs<|g0 j j (q (oAsI j j)<|nl)<|us<|gs<|gs<|g0 j j (q (oMv j j)<|q (oLnI j j uF162 j)<|q (oMv j j)<|q (oLnI j j uF162 j)<|q (oBi j j j j)<|nl)<|us<|gc h j iNe (fun hc1 h=>?_) fun hc1 h=>?_
 ·refine gs<|g0 j j (q (oAsI j j)<|nl)<|us<|Go.ret (Unw.ret ?_)
  cases h
  exact fr rF154 j
 ·refine Go.skip<|us<|gs<|gs<|g0 j j (q (oAsI j j)<|nl)<|us<|Go.block<|?_
  obtain ⟨o,hl,h⟩:=bs h
  refine gl c154 j _ (fun (i_5_l4:Int)=>mk [(0,D 2 (W 4 e_S_Box a_0)),(1,D 2 (W 4 e_S_Box b_1)),(5,iv i_5_l4)] []) (fun (o:(Unit ⊕ Bool)) (p:Ex×St)=>match o with | (.inl _)=>p.1= .exit 0∧p.2.norm ([],[])=mk [] [] | (.inr r2)=>p.1= .ret∧fin Tryz.prog cfg 154 Tryz.f154 [.im 2 false [W 4 e_S_Box a_0],.im 2 false [W 4 e_S_Box b_1]] p.2=some (B0 [(false,[.im 0 (V r2)])])) hl (by kernel_rfl) ?_ ?_ ?_
  ·intro o p hp e
   rcases o with u | r2<;>exact nomatch (hp.1.symm.trans e)
  ·rintro i_5_l4 o h
   unfold laws_eqBoxS_l4 at h
   refine gs<|gs<|g0 j j (q (oMv j j)<|q (oMv j j)<|q (oLnI j j uF162 j)<|q (oBi j j j j)<|nl)<|us<|gc h j iDec (fun hc6 h=>?_) fun hc6 h=>?_
   ·refine Go.skip<|us<|gs<|Go.block<|gs<|?_
    obtain ⟨x19,hx19,h⟩:=bs h
    obtain ⟨x23,hx23,h⟩:=bs h
    obtain ⟨x25,hx25,h⟩:=bs h
    refine gd c154 j j j j (mk [(0,D 2 (W 4 e_S_Box a_0)),(1,D 2 (W 4 e_S_Box b_1)),(5,iv i_5_l4),(26,bv (!x25))] []) (t j j (oMv j j)<|t j j (oMv j j)<|t j j (oIAI j hx19 sF162 j j)<|t j j (oLd (cs:=[.im 2 _,.im 2 _,.im 2 _,.im 2 _]) j tF234 j j)<|t j j (oMv j j)<|t j j (oMv j j)<|t j j (oIAI j hx23 sF162 j j)<|t j j (oLd (cs:=[.im 2 _,.im 2 _,.im 2 _,.im 2 _]) j tF234 j j)<|sS (dN z154 j (oCa (xs:=[.v true [.im 2 _,.im 2 _,.im 2 _,.im 2 _],.v true [.im 2 _,.im 2 _,.im 2 _,.im 2 _]]) (vs:=[(false,[.im 0 _])]) (v:=.v false [.im 0 _]) (L_laws_eqBox hx25) (.inl j) j kF182_234_234 j (ppC j (ppC j pp0)) j j pb0 j j j)) trivial (t j j (oUn j j j)<|sD (by kernel_rfl)))<|us<|?_
    by_cases hc7:x25=true
    ·rw [if_pos hc7] at h
     refine gF j (nF (iR.2 hc7))<|Go.skip<|Unw.blk<|us<|g0 j j (q (oMv j j)<|q (oBi j j j j)<|q (oAsI j j)<|nl)<|Unw.nil<|?_
     cases h
     exact ⟨j,(by kernel_rfl)⟩
    ·rw [if_neg hc7] at h
     refine gT j (nT (byF iR hc7))<|gs<|g0 j j (q (oAsI j j)<|nl)<|us<|Go.ret (Unw.ret ?_)
     cases h
     exact ⟨j,(fo rF154 j)⟩
   ·refine Go.exit<|ux<|Unw.nil<|?_
    cases h
    exact ⟨j,(by kernel_rfl)⟩
  ·rintro ⟨e,st⟩ hp
   rcases o with u | r2
   ·dsimp only at h
    obtain ⟨he,hst⟩:=hp
    obtain rfl:e= .exit 0:=he
    refine Unw.blkx<|us<|gs<|g2 c154 j j hst (q (oAsI j j)<|nl)<|us<|Go.ret (Unw.ret ?_)
    cases h
    exact fr rF154 j
   ·dsimp only at h
    obtain ⟨he,hfin⟩:=hp
    obtain rfl:e= .ret:=he
    cases h
    exact Unw.ret (Fin_ret hfin)
theorem L_laws_eqLeaf {a_0:S_Leaf} {b_1:S_Leaf} {r:Bool} (h:laws_eqLeaf a_0 b_1=some r):FX 103 [.im 2 true (u_S_Leaf a_0),.im 2 true (u_S_Leaf b_1)] (B0 [(false,[.im 0 (V r)])]):=by
 unfold laws_eqLeaf at h
 refine gn 42 Tryz.func103 rfl ?_
 refine gs<|g0 j j (q (oBx j tF164 j (tkI (tkI (tkI (tkI (tkI (tkI (tkI (tkI (tkI tk0))))))))))<|q (oBx j tF164 j (tkI (tkI (tkI (tkI (tkI (tkI (tkI (tkI (tkI tk0))))))))))<|q (oAsI j j)<|nl)<|us<|gs<|gs<|g1 j j (mk [(2,M 2),(3,M 3)] [(2,Oa (G 2 (u_S_Leaf a_0))),(3,Oa (G 2 (u_S_Leaf b_1)))]) (q (oFA (r':=.mp 2 0 0) j fF164_0 j j)<|q (oLd (cs:=[.im 0 _]) j tF9 j j)<|q (oFA (r':=.mp 3 0 0) j fF164_0 j j)<|q (oLd (cs:=[.im 0 _]) j tF9 j j)<|q (oBi j j j j)<|nl)<|us<|gc h j (iNot iStr) (fun hc1 h=>?_) fun hc1 h=>?_
 ·refine gs<|g0 j j (q (oAsI j j)<|nl)<|us<|Go.ret (Unw.ret ?_)
  cases h
  exact fr rF103 j
 ·refine Go.skip<|us<|gs<|gs<|g0 j j (q (oFA (r':=.mp 2 0 1) j fF164_1 j j)<|q (oLd (cs:=[.im 0 _]) j tF9 j j)<|q (oFA (r':=.mp 3 0 1) j fF164_1 j j)<|q (oLd (cs:=[.im 0 _]) j tF9 j j)<|q (oBi j j j j)<|nl)<|us<|gc h j (iNot iStr) (fun hc2 h=>?_) fun hc2 h=>?_
  ·refine gs<|g0 j j (q (oAsI j j)<|nl)<|us<|Go.ret (Unw.ret ?_)
   cases h
   exact fr rF103 j
  ·refine Go.skip<|us<|gs<|gs<|g0 j j (q (oFA (r':=.mp 2 0 2) j fF164_2 j j)<|q (oLd (cs:=[.im 0 _]) j tF2 j j)<|q (oFA (r':=.mp 3 0 2) j fF164_2 j j)<|q (oLd (cs:=[.im 0 _]) j tF2 j j)<|q (oBi j j j j)<|nl)<|us<|gc h j iNe (fun hc3 h=>?_) fun hc3 h=>?_
   ·refine gs<|g0 j j (q (oAsI j j)<|nl)<|us<|Go.ret (Unw.ret ?_)
    cases h
    exact fr rF103 j
   ·refine Go.skip<|us<|gs<|gs<|?_
    obtain ⟨x24,hx24,h⟩:=bs h
    refine g0 j j (q (oFA (r':=.mp 2 0 3) j fF164_3 j j)<|q (oLd (cs:=[.im 0 _,.im 0 _,.im 0 _]) j tF123 j j)<|q (oFA (r':=.mp 3 0 3) j fF164_3 j j)<|q (oLd (cs:=[.im 0 _,.im 0 _,.im 0 _]) j tF123 j j)<|q (oCa (xs:=[.v true [.im 0 _,.im 0 _,.im 0 _],.v true [.im 0 _,.im 0 _,.im 0 _]]) (vs:=[(false,[.im 0 _])]) (v:=.v false [.im 0 _]) (L_laws_eqVeneer hx24) (.inl j) j kF70_123_123 j (ppC j (ppC j pp0)) j j pb0 j j j)<|q (oUn j j j)<|nl)<|us<|?_
    by_cases hc4:x24=true
    ·rw [if_pos hc4] at h
     refine gF j (nF (iR.2 hc4))<|Go.skip<|us<|gs<|gs<|g0 j j (q (oFA (r':=.mp 2 0 6) j fF164_4 j j)<|q (oLd (cs:=[.im 0 _]) j tF2 j j)<|q (oFA (r':=.mp 3 0 6) j fF164_4 j j)<|q (oLd (cs:=[.im 0 _]) j tF2 j j)<|q (oBi j j j j)<|nl)<|us<|gc h j iNe (fun hc5 h=>?_) fun hc5 h=>?_
     ·refine gs<|g0 j j (q (oAsI j j)<|nl)<|us<|Go.ret (Unw.ret ?_)
      cases h
      exact fr rF103 j
     ·refine Go.skip<|us<|gs<|gs<|g0 j j (q (oFA (r':=.mp 2 0 7) j fF164_5 j j)<|q (oLd (cs:=[.im 0 _]) j tF2 j j)<|q (oFA (r':=.mp 3 0 7) j fF164_5 j j)<|q (oLd (cs:=[.im 0 _]) j tF2 j j)<|q (oBi j j j j)<|nl)<|us<|gc h j iNe (fun hc6 h=>?_) fun hc6 h=>?_
      ·refine gs<|g0 j j (q (oAsI j j)<|nl)<|us<|Go.ret (Unw.ret ?_)
       cases h
       exact fr rF103 j
      ·refine Go.skip<|us<|gs<|gs<|?_
       obtain ⟨x40,hx40,h⟩:=bs h
       refine g0 j j (q (oFA (r':=.mp 2 0 8) j fF164_6 j j)<|q (oLd (cs:=[.im 2 _]) j tF162 j j)<|q (oFA (r':=.mp 3 0 8) j fF164_6 j j)<|q (oLd (cs:=[.im 2 _]) j tF162 j j)<|q (oCa (xs:=[.v false [.im 2 _],.v false [.im 2 _]]) (vs:=[(false,[.im 0 _])]) (v:=.v false [.im 0 _]) (L_laws_eqBoxS hx40) (.inl j) j kF154_162_162 j (ppC j (ppC j pp0)) j j pb0 j j j)<|q (oUn j j j)<|nl)<|us<|?_
       by_cases hc7:x40=true
       ·rw [if_pos hc7] at h
        refine gF j (nF (iR.2 hc7))<|Go.skip<|us<|gs<|g0 j j (q (oAsI j j)<|nl)<|us<|Go.ret (Unw.ret ?_)
        cases h
        exact fr rF103 j
       ·rw [if_neg hc7] at h
        refine gT j (nT (byF iR hc7))<|gs<|g0 j j (q (oAsI j j)<|nl)<|us<|Go.ret (Unw.ret ?_)
        cases h
        exact fr rF103 j
    ·rw [if_neg hc4] at h
     refine gT j (nT (byF iR hc4))<|gs<|g0 j j (q (oAsI j j)<|nl)<|us<|Go.ret (Unw.ret ?_)
     cases h
     exact fr rF103 j
theorem L_laws_eqLeafS {a_0:(List S_Leaf)} {b_1:(List S_Leaf)} {r:Bool} (h:laws_eqLeafS a_0 b_1=some r):FX 52 [.im 2 false [W 9 e_S_Leaf a_0],.im 2 false [W 9 e_S_Leaf b_1]] (B0 [(false,[.im 0 (V r)])]):=by
 unfold laws_eqLeafS at h
 refine gn 27 Tryz.func52 rfl ?_
 refine gs<|g0 j j (q (oAsI j j)<|nl)<|us<|gs<|gs<|g0 j j (q (oMv j j)<|q (oLnI j j uF45 j)<|q (oMv j j)<|q (oLnI j j uF45 j)<|q (oBi j j j j)<|nl)<|us<|gc h j iNe (fun hc1 h=>?_) fun hc1 h=>?_
 ·refine gs<|g0 j j (q (oAsI j j)<|nl)<|us<|Go.ret (Unw.ret ?_)
  cases h
  exact fr rF52 j
 ·refine Go.skip<|us<|gs<|gs<|g0 j j (q (oAsI j j)<|nl)<|us<|Go.block<|?_
  obtain ⟨o,hl,h⟩:=bs h
  refine gl c52 j _ (fun (i_5_l4:Int)=>mk [(0,D 2 (W 9 e_S_Leaf a_0)),(1,D 2 (W 9 e_S_Leaf b_1)),(5,iv i_5_l4)] []) (fun (o:(Unit ⊕ Bool)) (p:Ex×St)=>match o with | (.inl _)=>p.1= .exit 0∧p.2.norm ([],[])=mk [] [] | (.inr r2)=>p.1= .ret∧fin Tryz.prog cfg 52 Tryz.f52 [.im 2 false [W 9 e_S_Leaf a_0],.im 2 false [W 9 e_S_Leaf b_1]] p.2=some (B0 [(false,[.im 0 (V r2)])])) hl (by kernel_rfl) ?_ ?_ ?_
  ·intro o p hp e
   rcases o with u | r2<;>exact nomatch (hp.1.symm.trans e)
  ·rintro i_5_l4 o h
   unfold laws_eqLeafS_l4 at h
   refine gs<|gs<|g0 j j (q (oMv j j)<|q (oMv j j)<|q (oLnI j j uF45 j)<|q (oBi j j j j)<|nl)<|us<|gc h j iDec (fun hc6 h=>?_) fun hc6 h=>?_
   ·refine Go.skip<|us<|gs<|Go.block<|gs<|?_
    obtain ⟨x19,hx19,h⟩:=bs h
    obtain ⟨x23,hx23,h⟩:=bs h
    obtain ⟨x25,hx25,h⟩:=bs h
    refine gd c52 j j j j (mk [(0,D 2 (W 9 e_S_Leaf a_0)),(1,D 2 (W 9 e_S_Leaf b_1)),(5,iv i_5_l4),(26,bv (!x25))] []) (t j j (oMv j j)<|t j j (oMv j j)<|t j j (oIAI j hx19 sF45 j j)<|t j j (oLd (cs:=[.im 2 _,.im 2 _,.im 2 _,.im 2 _,.im 2 _,.im 2 _,.im 2 _,.im 2 _,.im 2 _]) j tF164 j j)<|t j j (oMv j j)<|t j j (oMv j j)<|t j j (oIAI j hx23 sF45 j j)<|t j j (oLd (cs:=[.im 2 _,.im 2 _,.im 2 _,.im 2 _,.im 2 _,.im 2 _,.im 2 _,.im 2 _,.im 2 _]) j tF164 j j)<|sS (dN z52 j (oCa (xs:=[.v true [.im 2 _,.im 2 _,.im 2 _,.im 2 _,.im 2 _,.im 2 _,.im 2 _,.im 2 _,.im 2 _],.v true [.im 2 _,.im 2 _,.im 2 _,.im 2 _,.im 2 _,.im 2 _,.im 2 _,.im 2 _,.im 2 _]]) (vs:=[(false,[.im 0 _])]) (v:=.v false [.im 0 _]) (L_laws_eqLeaf hx25) (.inl j) j kF103_164_164 j (ppC j (ppC j pp0)) j j pb0 j j j)) trivial (t j j (oUn j j j)<|sD (by kernel_rfl)))<|us<|?_
    by_cases hc7:x25=true
    ·rw [if_pos hc7] at h
     refine gF j (nF (iR.2 hc7))<|Go.skip<|Unw.blk<|us<|g0 j j (q (oMv j j)<|q (oBi j j j j)<|q (oAsI j j)<|nl)<|Unw.nil<|?_
     cases h
     exact ⟨j,(by kernel_rfl)⟩
    ·rw [if_neg hc7] at h
     refine gT j (nT (byF iR hc7))<|gs<|g0 j j (q (oAsI j j)<|nl)<|us<|Go.ret (Unw.ret ?_)
     cases h
     exact ⟨j,(fo rF52 j)⟩
   ·refine Go.exit<|ux<|Unw.nil<|?_
    cases h
    exact ⟨j,(by kernel_rfl)⟩
  ·rintro ⟨e,st⟩ hp
   rcases o with u | r2
   ·dsimp only at h
    obtain ⟨he,hst⟩:=hp
    obtain rfl:e= .exit 0:=he
    refine Unw.blkx<|us<|gs<|g2 c52 j j hst (q (oAsI j j)<|nl)<|us<|Go.ret (Unw.ret ?_)
    cases h
    exact fr rF52 j
   ·dsimp only at h
    obtain ⟨he,hfin⟩:=hp
    obtain rfl:e= .ret:=he
    cases h
    exact Unw.ret (Fin_ret hfin)
theorem L_laws_eqPlacement {a_0:S_Placement} {b_1:S_Placement} {r:Bool} (h:laws_eqPlacement a_0 b_1=some r):FX 104 [.im 2 true (u_S_Placement a_0),.im 2 true (u_S_Placement b_1)] (B0 [(false,[.im 0 (V r)])]):=by
 unfold laws_eqPlacement at h
 refine gn 30 Tryz.func104 rfl ?_
 refine gs<|g0 j j (q (oBx j tF101 j (tkI (tkI (tkI (tkI (tkI tk0))))))<|q (oBx j tF101 j (tkI (tkI (tkI (tkI (tkI tk0))))))<|q (oAsI j j)<|nl)<|us<|gs<|gs<|g1 j j (mk [(2,M 2),(3,M 3)] [(2,Oa (G 0 (u_S_Placement a_0))),(3,Oa (G 0 (u_S_Placement b_1)))]) (q (oFA (r':=.mp 2 0 0) j fF101_0 j j)<|q (oLd (cs:=[.im 0 _]) j tF2 j j)<|q (oFA (r':=.mp 3 0 0) j fF101_0 j j)<|q (oLd (cs:=[.im 0 _]) j tF2 j j)<|q (oBi j j j j)<|nl)<|us<|gc h j iNe (fun hc1 h=>?_) fun hc1 h=>?_
 ·refine gs<|g0 j j (q (oAsI j j)<|nl)<|us<|Go.ret (Unw.ret ?_)
  cases h
  exact fr rF104 j
 ·refine Go.skip<|us<|gs<|gs<|g0 j j (q (oFA (r':=.mp 2 0 1) j fF101_1 j j)<|q (oLd (cs:=[.im 0 _]) j tF2 j j)<|q (oFA (r':=.mp 3 0 1) j fF101_1 j j)<|q (oLd (cs:=[.im 0 _]) j tF2 j j)<|q (oBi j j j j)<|nl)<|us<|gc h j iNe (fun hc2 h=>?_) fun hc2 h=>?_
  ·refine gs<|g0 j j (q (oAsI j j)<|nl)<|us<|Go.ret (Unw.ret ?_)
   cases h
   exact fr rF104 j
  ·refine Go.skip<|us<|gs<|gs<|g0 j j (q (oFA (r':=.mp 2 0 2) j fF101_2 j j)<|q (oLd (cs:=[.im 0 _]) j tF2 j j)<|q (oFA (r':=.mp 3 0 2) j fF101_2 j j)<|q (oLd (cs:=[.im 0 _]) j tF2 j j)<|q (oBi j j j j)<|nl)<|us<|gc h j iNe (fun hc3 h=>?_) fun hc3 h=>?_
   ·refine gs<|g0 j j (q (oAsI j j)<|nl)<|us<|Go.ret (Unw.ret ?_)
    cases h
    exact fr rF104 j
   ·refine Go.skip<|us<|gs<|gs<|g0 j j (q (oFA (r':=.mp 2 0 3) j fF101_3 j j)<|q (oLd (cs:=[.im 0 _]) j tF2 j j)<|q (oFA (r':=.mp 3 0 3) j fF101_3 j j)<|q (oLd (cs:=[.im 0 _]) j tF2 j j)<|q (oBi j j j j)<|nl)<|us<|gc h j iNe (fun hc4 h=>?_) fun hc4 h=>?_
    ·refine gs<|g0 j j (q (oAsI j j)<|nl)<|us<|Go.ret (Unw.ret ?_)
     cases h
     exact fr rF104 j
    ·refine Go.skip<|us<|gs<|gs<|g0 j j (q (oFA (r':=.mp 2 0 4) j fF101_4 j j)<|q (oLd (cs:=[.im 0 _]) j tF2 j j)<|q (oFA (r':=.mp 3 0 4) j fF101_4 j j)<|q (oLd (cs:=[.im 0 _]) j tF2 j j)<|q (oBi j j j j)<|nl)<|us<|gc h j iNe (fun hc5 h=>?_) fun hc5 h=>?_
     ·refine gs<|g0 j j (q (oAsI j j)<|nl)<|us<|Go.ret (Unw.ret ?_)
      cases h
      exact fr rF104 j
     ·refine Go.skip<|us<|gs<|g0 j j (q (oAsI j j)<|nl)<|us<|Go.ret (Unw.ret ?_)
      cases h
      exact fr rF104 j
theorem L_laws_eqPlacementS {a_0:(List S_Placement)} {b_1:(List S_Placement)} {r:Bool} (h:laws_eqPlacementS a_0 b_1=some r):FX 53 [.im 2 false [W 5 e_S_Placement a_0],.im 2 false [W 5 e_S_Placement b_1]] (B0 [(false,[.im 0 (V r)])]):=by
 unfold laws_eqPlacementS at h
 refine gn 27 Tryz.func53 rfl ?_
 refine gs<|g0 j j (q (oAsI j j)<|nl)<|us<|gs<|gs<|g0 j j (q (oMv j j)<|q (oLnI j j uF46 j)<|q (oMv j j)<|q (oLnI j j uF46 j)<|q (oBi j j j j)<|nl)<|us<|gc h j iNe (fun hc1 h=>?_) fun hc1 h=>?_
 ·refine gs<|g0 j j (q (oAsI j j)<|nl)<|us<|Go.ret (Unw.ret ?_)
  cases h
  exact fr rF53 j
 ·refine Go.skip<|us<|gs<|gs<|g0 j j (q (oAsI j j)<|nl)<|us<|Go.block<|?_
  obtain ⟨o,hl,h⟩:=bs h
  refine gl c53 j _ (fun (i_5_l4:Int)=>mk [(0,D 2 (W 5 e_S_Placement a_0)),(1,D 2 (W 5 e_S_Placement b_1)),(5,iv i_5_l4)] []) (fun (o:(Unit ⊕ Bool)) (p:Ex×St)=>match o with | (.inl _)=>p.1= .exit 0∧p.2.norm ([],[])=mk [] [] | (.inr r2)=>p.1= .ret∧fin Tryz.prog cfg 53 Tryz.f53 [.im 2 false [W 5 e_S_Placement a_0],.im 2 false [W 5 e_S_Placement b_1]] p.2=some (B0 [(false,[.im 0 (V r2)])])) hl (by kernel_rfl) ?_ ?_ ?_
  ·intro o p hp e
   rcases o with u | r2<;>exact nomatch (hp.1.symm.trans e)
  ·rintro i_5_l4 o h
   unfold laws_eqPlacementS_l4 at h
   refine gs<|gs<|g0 j j (q (oMv j j)<|q (oMv j j)<|q (oLnI j j uF46 j)<|q (oBi j j j j)<|nl)<|us<|gc h j iDec (fun hc6 h=>?_) fun hc6 h=>?_
   ·refine Go.skip<|us<|gs<|Go.block<|gs<|?_
    obtain ⟨x19,hx19,h⟩:=bs h
    obtain ⟨x23,hx23,h⟩:=bs h
    obtain ⟨x25,hx25,h⟩:=bs h
    refine gd c53 j j j j (mk [(0,D 2 (W 5 e_S_Placement a_0)),(1,D 2 (W 5 e_S_Placement b_1)),(5,iv i_5_l4),(26,bv (!x25))] []) (t j j (oMv j j)<|t j j (oMv j j)<|t j j (oIAI j hx19 sF46 j j)<|t j j (oLd (cs:=[.im 2 _,.im 2 _,.im 2 _,.im 2 _,.im 2 _]) j tF101 j j)<|t j j (oMv j j)<|t j j (oMv j j)<|t j j (oIAI j hx23 sF46 j j)<|t j j (oLd (cs:=[.im 2 _,.im 2 _,.im 2 _,.im 2 _,.im 2 _]) j tF101 j j)<|sS (dN z53 j (oCa (xs:=[.v true [.im 2 _,.im 2 _,.im 2 _,.im 2 _,.im 2 _],.v true [.im 2 _,.im 2 _,.im 2 _,.im 2 _,.im 2 _]]) (vs:=[(false,[.im 0 _])]) (v:=.v false [.im 0 _]) (L_laws_eqPlacement hx25) (.inl j) j kF104_101_101 j (ppC j (ppC j pp0)) j j pb0 j j j)) trivial (t j j (oUn j j j)<|sD (by kernel_rfl)))<|us<|?_
    by_cases hc7:x25=true
    ·rw [if_pos hc7] at h
     refine gF j (nF (iR.2 hc7))<|Go.skip<|Unw.blk<|us<|g0 j j (q (oMv j j)<|q (oBi j j j j)<|q (oAsI j j)<|nl)<|Unw.nil<|?_
     cases h
     exact ⟨j,(by kernel_rfl)⟩
    ·rw [if_neg hc7] at h
     refine gT j (nT (byF iR hc7))<|gs<|g0 j j (q (oAsI j j)<|nl)<|us<|Go.ret (Unw.ret ?_)
     cases h
     exact ⟨j,(fo rF53 j)⟩
   ·refine Go.exit<|ux<|Unw.nil<|?_
    cases h
    exact ⟨j,(by kernel_rfl)⟩
  ·rintro ⟨e,st⟩ hp
   rcases o with u | r2
   ·dsimp only at h
    obtain ⟨he,hst⟩:=hp
    obtain rfl:e= .exit 0:=he
    refine Unw.blkx<|us<|gs<|g2 c53 j j hst (q (oAsI j j)<|nl)<|us<|Go.ret (Unw.ret ?_)
    cases h
    exact fr rF53 j
   ·dsimp only at h
    obtain ⟨he,hfin⟩:=hp
    obtain rfl:e= .ret:=he
    cases h
    exact Unw.ret (Fin_ret hfin)
theorem L_laws_eqRules {a_0:S_Rules} {b_1:S_Rules} {r:Bool} (h:laws_eqRules a_0 b_1=some r):FX 54 [.im 2 true (u_S_Rules a_0),.im 2 true (u_S_Rules b_1)] (B0 [(false,[.im 0 (V r)])]):=by
 unfold laws_eqRules at h
 refine gn 25 Tryz.func54 rfl ?_
 refine gs<|g0 j j (q (oBx j tF47 j (tkI (tkI (tkI (tkI tk0)))))<|q (oBx j tF47 j (tkI (tkI (tkI (tkI tk0)))))<|q (oAsI j j)<|nl)<|us<|gs<|gs<|g0 j j (q (oFA (r':=.mp 2 0 0) j fF47_0 j j)<|q (oLd (cs:=[.im 0 _]) j tF2 j j)<|q (oFA (r':=.mp 3 0 0) j fF47_0 j j)<|q (oLd (cs:=[.im 0 _]) j tF2 j j)<|q (oBi j j j j)<|nl)<|us<|gc h j iNe (fun hc1 h=>?_) fun hc1 h=>?_
 ·refine gs<|g0 j j (q (oAsI j j)<|nl)<|us<|Go.ret (Unw.ret ?_)
  cases h
  exact fr rF54 j
 ·refine Go.skip<|us<|gs<|gs<|g0 j j (q (oFA (r':=.mp 2 0 1) j fF47_1 j j)<|q (oLd (cs:=[.im 0 _]) j tF2 j j)<|q (oFA (r':=.mp 3 0 1) j fF47_1 j j)<|q (oLd (cs:=[.im 0 _]) j tF2 j j)<|q (oBi j j j j)<|nl)<|us<|gc h j iNe (fun hc2 h=>?_) fun hc2 h=>?_
  ·refine gs<|g0 j j (q (oAsI j j)<|nl)<|us<|Go.ret (Unw.ret ?_)
   cases h
   exact fr rF54 j
  ·refine Go.skip<|us<|gs<|gs<|g0 j j (q (oFA (r':=.mp 2 0 2) j fF47_2 j j)<|q (oLd (cs:=[.im 0 _]) j tF2 j j)<|q (oFA (r':=.mp 3 0 2) j fF47_2 j j)<|q (oLd (cs:=[.im 0 _]) j tF2 j j)<|q (oBi j j j j)<|nl)<|us<|gc h j iNe (fun hc3 h=>?_) fun hc3 h=>?_
   ·refine gs<|g0 j j (q (oAsI j j)<|nl)<|us<|Go.ret (Unw.ret ?_)
    cases h
    exact fr rF54 j
   ·refine Go.skip<|us<|gs<|gs<|g0 j j (q (oFA (r':=.mp 2 0 3) j fF47_3 j j)<|q (oLd (cs:=[.im 0 _]) j tF2 j j)<|q (oFA (r':=.mp 3 0 3) j fF47_3 j j)<|q (oLd (cs:=[.im 0 _]) j tF2 j j)<|q (oBi j j j j)<|nl)<|us<|gc h j iNe (fun hc4 h=>?_) fun hc4 h=>?_
    ·refine gs<|g0 j j (q (oAsI j j)<|nl)<|us<|Go.ret (Unw.ret ?_)
     cases h
     exact fr rF54 j
    ·refine Go.skip<|us<|gs<|g0 j j (q (oAsI j j)<|nl)<|us<|Go.ret (Unw.ret ?_)
     cases h
     exact fr rF54 j
theorem L_laws_eqJob {a_0:S_Job} {b_1:S_Job} {r:Bool} (h:laws_eqJob a_0 b_1=some r):FX 12 [.im 2 true (u_S_Job a_0),.im 2 true (u_S_Job b_1)] (B0 [(false,[.im 0 (V r)])]):=by
 unfold laws_eqJob at h
 refine gn 61 Tryz.func12 rfl ?_
 refine gs<|g0 j j (q (oBx j tF49 j (tkI (tkI (tkI (tkI (tkI (tkI (tkI (tkI (tkI (tkI (tkI (tkI (tkI (tkI (tkI (tkI (tkI tk0))))))))))))))))))<|q (oBx j tF49 j (tkI (tkI (tkI (tkI (tkI (tkI (tkI (tkI (tkI (tkI (tkI (tkI (tkI (tkI (tkI (tkI (tkI tk0))))))))))))))))))<|q (oAsI j j)<|nl)<|us<|gs<|gs<|?_
 obtain ⟨x9,hx9,h⟩:=bs h
 refine g1 j j (mk [(2,M 2),(3,M 3)] [(2,Oa (G 2 (u_S_Job a_0))),(3,Oa (G 2 (u_S_Job b_1)))]) (q (oFA (r':=.mp 2 0 0) j fF49_0 j j)<|q (oLd (cs:=[.im 0 _,.im 0 _,.im 2 _,.im 2 _,.im 2 _]) j tF44 j j)<|q (oFA (r':=.mp 3 0 0) j fF49_0 j j)<|q (oLd (cs:=[.im 0 _,.im 0 _,.im 2 _,.im 2 _,.im 2 _]) j tF44 j j)<|q (oCa (xs:=[.v true [.im 0 _,.im 0 _,.im 2 _,.im 2 _,.im 2 _],.v true [.im 0 _,.im 0 _,.im 2 _,.im 2 _,.im 2 _]]) (vs:=[(false,[.im 0 _])]) (v:=.v false [.im 0 _]) (L_laws_eqPicture hx9) (.inl j) j kF51_44_44 j (ppC j (ppC j pp0)) j j pb0 j j j)<|q (oUn j j j)<|nl)<|us<|?_
 by_cases hc1:x9=true
 ·rw [if_pos hc1] at h
  refine gF j (nF (iR.2 hc1))<|Go.skip<|us<|gs<|gs<|?_
  obtain ⟨x15,hx15,h⟩:=bs h
  refine g0 j j (q (oFA (r':=.mp 2 0 5) j fF49_1 j j)<|q (oLd (cs:=[.im 2 _]) j tF45 j j)<|q (oFA (r':=.mp 3 0 5) j fF49_1 j j)<|q (oLd (cs:=[.im 2 _]) j tF45 j j)<|q (oCa (xs:=[.v false [.im 2 _],.v false [.im 2 _]]) (vs:=[(false,[.im 0 _])]) (v:=.v false [.im 0 _]) (L_laws_eqLeafS hx15) (.inl j) j kF52_45_45 j (ppC j (ppC j pp0)) j j pb0 j j j)<|q (oUn j j j)<|nl)<|us<|?_
  by_cases hc2:x15=true
  ·rw [if_pos hc2] at h
   refine gF j (nF (iR.2 hc2))<|Go.skip<|us<|gs<|gs<|?_
   obtain ⟨x21,hx21,h⟩:=bs h
   refine g0 j j (q (oFA (r':=.mp 2 0 6) j fF49_2 j j)<|q (oLd (cs:=[.im 2 _]) j tF46 j j)<|q (oFA (r':=.mp 3 0 6) j fF49_2 j j)<|q (oLd (cs:=[.im 2 _]) j tF46 j j)<|q (oCa (xs:=[.v false [.im 2 _],.v false [.im 2 _]]) (vs:=[(false,[.im 0 _])]) (v:=.v false [.im 0 _]) (L_laws_eqPlacementS hx21) (.inl j) j kF53_46_46 j (ppC j (ppC j pp0)) j j pb0 j j j)<|q (oUn j j j)<|nl)<|us<|?_
   by_cases hc3:x21=true
   ·rw [if_pos hc3] at h
    refine gF j (nF (iR.2 hc3))<|Go.skip<|us<|gs<|gs<|?_
    obtain ⟨x27,hx27,h⟩:=bs h
    refine g0 j j (q (oFA (r':=.mp 2 0 7) j fF49_3 j j)<|q (oLd (cs:=[.im 0 _,.im 0 _,.im 0 _,.im 0 _]) j tF47 j j)<|q (oFA (r':=.mp 3 0 7) j fF49_3 j j)<|q (oLd (cs:=[.im 0 _,.im 0 _,.im 0 _,.im 0 _]) j tF47 j j)<|q (oCa (xs:=[.v true [.im 0 _,.im 0 _,.im 0 _,.im 0 _],.v true [.im 0 _,.im 0 _,.im 0 _,.im 0 _]]) (vs:=[(false,[.im 0 _])]) (v:=.v false [.im 0 _]) (L_laws_eqRules hx27) (.inl j) j kF54_47_47 j (ppC j (ppC j pp0)) j j pb0 j j j)<|q (oUn j j j)<|nl)<|us<|?_
    by_cases hc4:x27=true
    ·rw [if_pos hc4] at h
     refine gF j (nF (iR.2 hc4))<|Go.skip<|us<|gs<|gs<|g0 j j (q (oFA (r':=.mp 2 0 11) j fF49_4 j j)<|q (oLd (cs:=[.im 0 _]) j tF2 j j)<|q (oFA (r':=.mp 3 0 11) j fF49_4 j j)<|q (oLd (cs:=[.im 0 _]) j tF2 j j)<|q (oBi j j j j)<|nl)<|us<|gc h j iNe (fun hc5 h=>?_) fun hc5 h=>?_
     ·refine gs<|g0 j j (q (oAsI j j)<|nl)<|us<|Go.ret (Unw.ret ?_)
      cases h
      exact fr rF12 j
     ·refine Go.skip<|us<|gs<|gs<|g0 j j (q (oFA (r':=.mp 2 0 12) j fF49_5 j j)<|q (oLd (cs:=[.im 0 _]) j tF2 j j)<|q (oFA (r':=.mp 3 0 12) j fF49_5 j j)<|q (oLd (cs:=[.im 0 _]) j tF2 j j)<|q (oBi j j j j)<|nl)<|us<|gc h j iNe (fun hc6 h=>?_) fun hc6 h=>?_
      ·refine gs<|g0 j j (q (oAsI j j)<|nl)<|us<|Go.ret (Unw.ret ?_)
       cases h
       exact fr rF12 j
      ·refine Go.skip<|us<|gs<|gs<|g0 j j (q (oFA (r':=.mp 2 0 13) j fF49_6 j j)<|q (oLd (cs:=[.im 0 _]) j tF2 j j)<|q (oFA (r':=.mp 3 0 13) j fF49_6 j j)<|q (oLd (cs:=[.im 0 _]) j tF2 j j)<|q (oBi j j j j)<|nl)<|us<|gc h j iNe (fun hc7 h=>?_) fun hc7 h=>?_
       ·refine gs<|g0 j j (q (oAsI j j)<|nl)<|us<|Go.ret (Unw.ret ?_)
        cases h
        exact fr rF12 j
       ·refine Go.skip<|us<|gs<|gs<|g0 j j (q (oFA (r':=.mp 2 0 14) j fF49_7 j j)<|q (oLd (cs:=[.im 0 _]) j tF2 j j)<|q (oFA (r':=.mp 3 0 14) j fF49_7 j j)<|q (oLd (cs:=[.im 0 _]) j tF2 j j)<|q (oBi j j j j)<|nl)<|us<|gc h j iNe (fun hc8 h=>?_) fun hc8 h=>?_
        ·refine gs<|g0 j j (q (oAsI j j)<|nl)<|us<|Go.ret (Unw.ret ?_)
         cases h
         exact fr rF12 j
        ·refine Go.skip<|us<|gs<|gs<|?_
         obtain ⟨x53,hx53,h⟩:=bs h
         refine g0 j j (q (oFA (r':=.mp 2 0 15) j fF49_8 j j)<|q (oLd (cs:=[.im 2 _]) j tF33 j j)<|q (oFA (r':=.mp 3 0 15) j fF49_8 j j)<|q (oLd (cs:=[.im 2 _]) j tF33 j j)<|q (oCa (xs:=[.v false [.im 2 _],.v false [.im 2 _]]) (vs:=[(false,[.im 0 _])]) (v:=.v false [.im 0 _]) (L_laws_eqInt64S hx53) (.inl j) j kF19_33_33 j (ppC j (ppC j pp0)) j j pb0 j j j)<|q (oUn j j j)<|nl)<|us<|?_
         by_cases hc9:x53=true
         ·rw [if_pos hc9] at h
          refine gF j (nF (iR.2 hc9))<|Go.skip<|us<|gs<|gs<|?_
          obtain ⟨x59,hx59,h⟩:=bs h
          refine g0 j j (q (oFA (r':=.mp 2 0 16) j fF49_9 j j)<|q (oLd (cs:=[.im 2 _]) j tF33 j j)<|q (oFA (r':=.mp 3 0 16) j fF49_9 j j)<|q (oLd (cs:=[.im 2 _]) j tF33 j j)<|q (oCa (xs:=[.v false [.im 2 _],.v false [.im 2 _]]) (vs:=[(false,[.im 0 _])]) (v:=.v false [.im 0 _]) (L_laws_eqInt64S hx59) (.inl j) j kF19_33_33 j (ppC j (ppC j pp0)) j j pb0 j j j)<|q (oUn j j j)<|nl)<|us<|?_
          by_cases hc10:x59=true
          ·rw [if_pos hc10] at h
           refine gF j (nF (iR.2 hc10))<|Go.skip<|us<|gs<|g0 j j (q (oAsI j j)<|nl)<|us<|Go.ret (Unw.ret ?_)
           cases h
           exact fr rF12 j
          ·rw [if_neg hc10] at h
           refine gT j (nT (byF iR hc10))<|gs<|g0 j j (q (oAsI j j)<|nl)<|us<|Go.ret (Unw.ret ?_)
           cases h
           exact fr rF12 j
         ·rw [if_neg hc9] at h
          refine gT j (nT (byF iR hc9))<|gs<|g0 j j (q (oAsI j j)<|nl)<|us<|Go.ret (Unw.ret ?_)
          cases h
          exact fr rF12 j
    ·rw [if_neg hc4] at h
     refine gT j (nT (byF iR hc4))<|gs<|g0 j j (q (oAsI j j)<|nl)<|us<|Go.ret (Unw.ret ?_)
     cases h
     exact fr rF12 j
   ·rw [if_neg hc3] at h
    refine gT j (nT (byF iR hc3))<|gs<|g0 j j (q (oAsI j j)<|nl)<|us<|Go.ret (Unw.ret ?_)
    cases h
    exact fr rF12 j
  ·rw [if_neg hc2] at h
   refine gT j (nT (byF iR hc2))<|gs<|g0 j j (q (oAsI j j)<|nl)<|us<|Go.ret (Unw.ret ?_)
   cases h
   exact fr rF12 j
 ·rw [if_neg hc1] at h
  refine gT j (nT (byF iR hc1))<|gs<|g0 j j (q (oAsI j j)<|nl)<|us<|Go.ret (Unw.ret ?_)
  cases h
  exact fr rF12 j
theorem L_laws_eqBond {a_0:S_Bond} {b_1:S_Bond} {r:Bool} (h:laws_eqBond a_0 b_1=some r):FX 136 [.im 2 true (u_S_Bond a_0),.im 2 true (u_S_Bond b_1)] (B0 [(false,[.im 0 (V r)])]):=by
 unfold laws_eqBond at h
 refine gn 25 Tryz.func136 rfl ?_
 refine gs<|g0 j j (q (oBx j tF209 j (tkI (tkI (tkI (tkI tk0)))))<|q (oBx j tF209 j (tkI (tkI (tkI (tkI tk0)))))<|q (oAsI j j)<|nl)<|us<|gs<|gs<|g0 j j (q (oFA (r':=.mp 2 0 0) j fF209_0 j j)<|q (oLd (cs:=[.im 0 _]) j tF9 j j)<|q (oFA (r':=.mp 3 0 0) j fF209_0 j j)<|q (oLd (cs:=[.im 0 _]) j tF9 j j)<|q (oBi j j j j)<|nl)<|us<|gc h j (iNot iStr) (fun hc1 h=>?_) fun hc1 h=>?_
 ·refine gs<|g0 j j (q (oAsI j j)<|nl)<|us<|Go.ret (Unw.ret ?_)
  cases h
  exact fr rF136 j
 ·refine Go.skip<|us<|gs<|gs<|g0 j j (q (oFA (r':=.mp 2 0 1) j fF209_1 j j)<|q (oLd (cs:=[.im 0 _]) j tF2 j j)<|q (oFA (r':=.mp 3 0 1) j fF209_1 j j)<|q (oLd (cs:=[.im 0 _]) j tF2 j j)<|q (oBi j j j j)<|nl)<|us<|gc h j iNe (fun hc2 h=>?_) fun hc2 h=>?_
  ·refine gs<|g0 j j (q (oAsI j j)<|nl)<|us<|Go.ret (Unw.ret ?_)
   cases h
   exact fr rF136 j
  ·refine Go.skip<|us<|gs<|gs<|g0 j j (q (oFA (r':=.mp 2 0 2) j fF209_2 j j)<|q (oLd (cs:=[.im 0 _]) j tF2 j j)<|q (oFA (r':=.mp 3 0 2) j fF209_2 j j)<|q (oLd (cs:=[.im 0 _]) j tF2 j j)<|q (oBi j j j j)<|nl)<|us<|gc h j iNe (fun hc3 h=>?_) fun hc3 h=>?_
   ·refine gs<|g0 j j (q (oAsI j j)<|nl)<|us<|Go.ret (Unw.ret ?_)
    cases h
    exact fr rF136 j
   ·refine Go.skip<|us<|gs<|gs<|g0 j j (q (oFA (r':=.mp 2 0 3) j fF209_3 j j)<|q (oLd (cs:=[.im 0 _]) j tF2 j j)<|q (oFA (r':=.mp 3 0 3) j fF209_3 j j)<|q (oLd (cs:=[.im 0 _]) j tF2 j j)<|q (oBi j j j j)<|nl)<|us<|gc h j iNe (fun hc4 h=>?_) fun hc4 h=>?_
    ·refine gs<|g0 j j (q (oAsI j j)<|nl)<|us<|Go.ret (Unw.ret ?_)
     cases h
     exact fr rF136 j
    ·refine Go.skip<|us<|gs<|g0 j j (q (oAsI j j)<|nl)<|us<|Go.ret (Unw.ret ?_)
     cases h
     exact fr rF136 j
theorem L_laws_eqBondS {a_0:(List S_Bond)} {b_1:(List S_Bond)} {r:Bool} (h:laws_eqBondS a_0 b_1=some r):FX 83 [.im 2 false [W 4 e_S_Bond a_0],.im 2 false [W 4 e_S_Bond b_1]] (B0 [(false,[.im 0 (V r)])]):=by
 unfold laws_eqBondS at h
 refine gn 27 Tryz.func83 rfl ?_
 refine gs<|g0 j j (q (oAsI j j)<|nl)<|us<|gs<|gs<|g0 j j (q (oMv j j)<|q (oLnI j j uF78 j)<|q (oMv j j)<|q (oLnI j j uF78 j)<|q (oBi j j j j)<|nl)<|us<|gc h j iNe (fun hc1 h=>?_) fun hc1 h=>?_
 ·refine gs<|g0 j j (q (oAsI j j)<|nl)<|us<|Go.ret (Unw.ret ?_)
  cases h
  exact fr rF83 j
 ·refine Go.skip<|us<|gs<|gs<|g0 j j (q (oAsI j j)<|nl)<|us<|Go.block<|?_
  obtain ⟨o,hl,h⟩:=bs h
  refine gl c83 j _ (fun (i_5_l4:Int)=>mk [(0,D 2 (W 4 e_S_Bond a_0)),(1,D 2 (W 4 e_S_Bond b_1)),(5,iv i_5_l4)] []) (fun (o:(Unit ⊕ Bool)) (p:Ex×St)=>match o with | (.inl _)=>p.1= .exit 0∧p.2.norm ([],[])=mk [] [] | (.inr r2)=>p.1= .ret∧fin Tryz.prog cfg 83 Tryz.f83 [.im 2 false [W 4 e_S_Bond a_0],.im 2 false [W 4 e_S_Bond b_1]] p.2=some (B0 [(false,[.im 0 (V r2)])])) hl (by kernel_rfl) ?_ ?_ ?_
  ·intro o p hp e
   rcases o with u | r2<;>exact nomatch (hp.1.symm.trans e)
  ·rintro i_5_l4 o h
   unfold laws_eqBondS_l4 at h
   refine gs<|gs<|g0 j j (q (oMv j j)<|q (oMv j j)<|q (oLnI j j uF78 j)<|q (oBi j j j j)<|nl)<|us<|gc h j iDec (fun hc6 h=>?_) fun hc6 h=>?_
   ·refine Go.skip<|us<|gs<|Go.block<|gs<|?_
    obtain ⟨x19,hx19,h⟩:=bs h
    obtain ⟨x23,hx23,h⟩:=bs h
    obtain ⟨x25,hx25,h⟩:=bs h
    refine gd c83 j j j j (mk [(0,D 2 (W 4 e_S_Bond a_0)),(1,D 2 (W 4 e_S_Bond b_1)),(5,iv i_5_l4),(26,bv (!x25))] []) (t j j (oMv j j)<|t j j (oMv j j)<|t j j (oIAI j hx19 sF78 j j)<|t j j (oLd (cs:=[.im 2 _,.im 2 _,.im 2 _,.im 2 _]) j tF209 j j)<|t j j (oMv j j)<|t j j (oMv j j)<|t j j (oIAI j hx23 sF78 j j)<|t j j (oLd (cs:=[.im 2 _,.im 2 _,.im 2 _,.im 2 _]) j tF209 j j)<|sS (dN z83 j (oCa (xs:=[.v true [.im 2 _,.im 2 _,.im 2 _,.im 2 _],.v true [.im 2 _,.im 2 _,.im 2 _,.im 2 _]]) (vs:=[(false,[.im 0 _])]) (v:=.v false [.im 0 _]) (L_laws_eqBond hx25) (.inl j) j kF136_209_209 j (ppC j (ppC j pp0)) j j pb0 j j j)) trivial (t j j (oUn j j j)<|sD (by kernel_rfl)))<|us<|?_
    by_cases hc7:x25=true
    ·rw [if_pos hc7] at h
     refine gF j (nF (iR.2 hc7))<|Go.skip<|Unw.blk<|us<|g0 j j (q (oMv j j)<|q (oBi j j j j)<|q (oAsI j j)<|nl)<|Unw.nil<|?_
     cases h
     exact ⟨j,(by kernel_rfl)⟩
    ·rw [if_neg hc7] at h
     refine gT j (nT (byF iR hc7))<|gs<|g0 j j (q (oAsI j j)<|nl)<|us<|Go.ret (Unw.ret ?_)
     cases h
     exact ⟨j,(fo rF83 j)⟩
   ·refine Go.exit<|ux<|Unw.nil<|?_
    cases h
    exact ⟨j,(by kernel_rfl)⟩
  ·rintro ⟨e,st⟩ hp
   rcases o with u | r2
   ·dsimp only at h
    obtain ⟨he,hst⟩:=hp
    obtain rfl:e= .exit 0:=he
    refine Unw.blkx<|us<|gs<|g2 c83 j j hst (q (oAsI j j)<|nl)<|us<|Go.ret (Unw.ret ?_)
    cases h
    exact fr rF83 j
   ·dsimp only at h
    obtain ⟨he,hfin⟩:=hp
    obtain rfl:e= .ret:=he
    cases h
    exact Unw.ret (Fin_ret hfin)
theorem L_laws_eqCoat {a_0:S_Coat} {b_1:S_Coat} {r:Bool} (h:laws_eqCoat a_0 b_1=some r):FX 137 [.im 2 true (u_S_Coat a_0),.im 2 true (u_S_Coat b_1)] (B0 [(false,[.im 0 (V r)])]):=by
 unfold laws_eqCoat at h
 refine gn 25 Tryz.func137 rfl ?_
 refine gs<|g0 j j (q (oBx j tF211 j (tkI (tkI (tkI (tkI tk0)))))<|q (oBx j tF211 j (tkI (tkI (tkI (tkI tk0)))))<|q (oAsI j j)<|nl)<|us<|gs<|gs<|g0 j j (q (oFA (r':=.mp 2 0 0) j fF211_0 j j)<|q (oLd (cs:=[.im 0 _]) j tF9 j j)<|q (oFA (r':=.mp 3 0 0) j fF211_0 j j)<|q (oLd (cs:=[.im 0 _]) j tF9 j j)<|q (oBi j j j j)<|nl)<|us<|gc h j (iNot iStr) (fun hc1 h=>?_) fun hc1 h=>?_
 ·refine gs<|g0 j j (q (oAsI j j)<|nl)<|us<|Go.ret (Unw.ret ?_)
  cases h
  exact fr rF137 j
 ·refine Go.skip<|us<|gs<|gs<|g0 j j (q (oFA (r':=.mp 2 0 1) j fF211_1 j j)<|q (oLd (cs:=[.im 0 _]) j tF2 j j)<|q (oFA (r':=.mp 3 0 1) j fF211_1 j j)<|q (oLd (cs:=[.im 0 _]) j tF2 j j)<|q (oBi j j j j)<|nl)<|us<|gc h j iNe (fun hc2 h=>?_) fun hc2 h=>?_
  ·refine gs<|g0 j j (q (oAsI j j)<|nl)<|us<|Go.ret (Unw.ret ?_)
   cases h
   exact fr rF137 j
  ·refine Go.skip<|us<|gs<|gs<|g0 j j (q (oFA (r':=.mp 2 0 2) j fF211_2 j j)<|q (oLd (cs:=[.im 0 _]) j tF2 j j)<|q (oFA (r':=.mp 3 0 2) j fF211_2 j j)<|q (oLd (cs:=[.im 0 _]) j tF2 j j)<|q (oBi j j j j)<|nl)<|us<|gc h j iNe (fun hc3 h=>?_) fun hc3 h=>?_
   ·refine gs<|g0 j j (q (oAsI j j)<|nl)<|us<|Go.ret (Unw.ret ?_)
    cases h
    exact fr rF137 j
   ·refine Go.skip<|us<|gs<|gs<|g0 j j (q (oFA (r':=.mp 2 0 3) j fF211_3 j j)<|q (oLd (cs:=[.im 0 _]) j tF2 j j)<|q (oFA (r':=.mp 3 0 3) j fF211_3 j j)<|q (oLd (cs:=[.im 0 _]) j tF2 j j)<|q (oBi j j j j)<|nl)<|us<|gc h j iNe (fun hc4 h=>?_) fun hc4 h=>?_
    ·refine gs<|g0 j j (q (oAsI j j)<|nl)<|us<|Go.ret (Unw.ret ?_)
     cases h
     exact fr rF137 j
    ·refine Go.skip<|us<|gs<|g0 j j (q (oAsI j j)<|nl)<|us<|Go.ret (Unw.ret ?_)
     cases h
     exact fr rF137 j
theorem L_laws_eqCoatS {a_0:(List S_Coat)} {b_1:(List S_Coat)} {r:Bool} (h:laws_eqCoatS a_0 b_1=some r):FX 84 [.im 2 false [W 4 e_S_Coat a_0],.im 2 false [W 4 e_S_Coat b_1]] (B0 [(false,[.im 0 (V r)])]):=by
 unfold laws_eqCoatS at h
 refine gn 27 Tryz.func84 rfl ?_
 refine gs<|g0 j j (q (oAsI j j)<|nl)<|us<|gs<|gs<|g0 j j (q (oMv j j)<|q (oLnI j j uF79 j)<|q (oMv j j)<|q (oLnI j j uF79 j)<|q (oBi j j j j)<|nl)<|us<|gc h j iNe (fun hc1 h=>?_) fun hc1 h=>?_
 ·refine gs<|g0 j j (q (oAsI j j)<|nl)<|us<|Go.ret (Unw.ret ?_)
  cases h
  exact fr rF84 j
 ·refine Go.skip<|us<|gs<|gs<|g0 j j (q (oAsI j j)<|nl)<|us<|Go.block<|?_
  obtain ⟨o,hl,h⟩:=bs h
  refine gl c84 j _ (fun (i_5_l4:Int)=>mk [(0,D 2 (W 4 e_S_Coat a_0)),(1,D 2 (W 4 e_S_Coat b_1)),(5,iv i_5_l4)] []) (fun (o:(Unit ⊕ Bool)) (p:Ex×St)=>match o with | (.inl _)=>p.1= .exit 0∧p.2.norm ([],[])=mk [] [] | (.inr r2)=>p.1= .ret∧fin Tryz.prog cfg 84 Tryz.f84 [.im 2 false [W 4 e_S_Coat a_0],.im 2 false [W 4 e_S_Coat b_1]] p.2=some (B0 [(false,[.im 0 (V r2)])])) hl (by kernel_rfl) ?_ ?_ ?_
  ·intro o p hp e
   rcases o with u | r2<;>exact nomatch (hp.1.symm.trans e)
  ·rintro i_5_l4 o h
   unfold laws_eqCoatS_l4 at h
   refine gs<|gs<|g0 j j (q (oMv j j)<|q (oMv j j)<|q (oLnI j j uF79 j)<|q (oBi j j j j)<|nl)<|us<|gc h j iDec (fun hc6 h=>?_) fun hc6 h=>?_
   ·refine Go.skip<|us<|gs<|Go.block<|gs<|?_
    obtain ⟨x19,hx19,h⟩:=bs h
    obtain ⟨x23,hx23,h⟩:=bs h
    obtain ⟨x25,hx25,h⟩:=bs h
    refine gd c84 j j j j (mk [(0,D 2 (W 4 e_S_Coat a_0)),(1,D 2 (W 4 e_S_Coat b_1)),(5,iv i_5_l4),(26,bv (!x25))] []) (t j j (oMv j j)<|t j j (oMv j j)<|t j j (oIAI j hx19 sF79 j j)<|t j j (oLd (cs:=[.im 2 _,.im 2 _,.im 2 _,.im 2 _]) j tF211 j j)<|t j j (oMv j j)<|t j j (oMv j j)<|t j j (oIAI j hx23 sF79 j j)<|t j j (oLd (cs:=[.im 2 _,.im 2 _,.im 2 _,.im 2 _]) j tF211 j j)<|sS (dN z84 j (oCa (xs:=[.v true [.im 2 _,.im 2 _,.im 2 _,.im 2 _],.v true [.im 2 _,.im 2 _,.im 2 _,.im 2 _]]) (vs:=[(false,[.im 0 _])]) (v:=.v false [.im 0 _]) (L_laws_eqCoat hx25) (.inl j) j kF137_211_211 j (ppC j (ppC j pp0)) j j pb0 j j j)) trivial (t j j (oUn j j j)<|sD (by kernel_rfl)))<|us<|?_
    by_cases hc7:x25=true
    ·rw [if_pos hc7] at h
     refine gF j (nF (iR.2 hc7))<|Go.skip<|Unw.blk<|us<|g0 j j (q (oMv j j)<|q (oBi j j j j)<|q (oAsI j j)<|nl)<|Unw.nil<|?_
     cases h
     exact ⟨j,(by kernel_rfl)⟩
    ·rw [if_neg hc7] at h
     refine gT j (nT (byF iR hc7))<|gs<|g0 j j (q (oAsI j j)<|nl)<|us<|Go.ret (Unw.ret ?_)
     cases h
     exact ⟨j,(fo rF84 j)⟩
   ·refine Go.exit<|ux<|Unw.nil<|?_
    cases h
    exact ⟨j,(by kernel_rfl)⟩
  ·rintro ⟨e,st⟩ hp
   rcases o with u | r2
   ·dsimp only at h
    obtain ⟨he,hst⟩:=hp
    obtain rfl:e= .exit 0:=he
    refine Unw.blkx<|us<|gs<|g2 c84 j j hst (q (oAsI j j)<|nl)<|us<|Go.ret (Unw.ret ?_)
    cases h
    exact fr rF84 j
   ·dsimp only at h
    obtain ⟨he,hfin⟩:=hp
    obtain rfl:e= .ret:=he
    cases h
    exact Unw.ret (Fin_ret hfin)
theorem L_laws_eqRates {a_0:S_Rates} {b_1:S_Rates} {r:Bool} (h:laws_eqRates a_0 b_1=some r):FX 85 [.im 2 true (u_S_Rates a_0),.im 2 true (u_S_Rates b_1)] (B0 [(false,[.im 0 (V r)])]):=by
 unfold laws_eqRates at h
 refine gn 30 Tryz.func85 rfl ?_
 refine gs<|g0 j j (q (oBx j tF80 j (tkI (tkI (tkI (tkI (tkI tk0))))))<|q (oBx j tF80 j (tkI (tkI (tkI (tkI (tkI tk0))))))<|q (oAsI j j)<|nl)<|us<|gs<|gs<|g1 j j (mk [(2,M 2),(3,M 3)] [(2,Oa (G 0 (u_S_Rates a_0))),(3,Oa (G 0 (u_S_Rates b_1)))]) (q (oFA (r':=.mp 2 0 0) j fF80_0 j j)<|q (oLd (cs:=[.im 0 _]) j tF2 j j)<|q (oFA (r':=.mp 3 0 0) j fF80_0 j j)<|q (oLd (cs:=[.im 0 _]) j tF2 j j)<|q (oBi j j j j)<|nl)<|us<|gc h j iNe (fun hc1 h=>?_) fun hc1 h=>?_
 ·refine gs<|g0 j j (q (oAsI j j)<|nl)<|us<|Go.ret (Unw.ret ?_)
  cases h
  exact fr rF85 j
 ·refine Go.skip<|us<|gs<|gs<|g0 j j (q (oFA (r':=.mp 2 0 1) j fF80_1 j j)<|q (oLd (cs:=[.im 0 _]) j tF2 j j)<|q (oFA (r':=.mp 3 0 1) j fF80_1 j j)<|q (oLd (cs:=[.im 0 _]) j tF2 j j)<|q (oBi j j j j)<|nl)<|us<|gc h j iNe (fun hc2 h=>?_) fun hc2 h=>?_
  ·refine gs<|g0 j j (q (oAsI j j)<|nl)<|us<|Go.ret (Unw.ret ?_)
   cases h
   exact fr rF85 j
  ·refine Go.skip<|us<|gs<|gs<|g0 j j (q (oFA (r':=.mp 2 0 2) j fF80_2 j j)<|q (oLd (cs:=[.im 0 _]) j tF2 j j)<|q (oFA (r':=.mp 3 0 2) j fF80_2 j j)<|q (oLd (cs:=[.im 0 _]) j tF2 j j)<|q (oBi j j j j)<|nl)<|us<|gc h j iNe (fun hc3 h=>?_) fun hc3 h=>?_
   ·refine gs<|g0 j j (q (oAsI j j)<|nl)<|us<|Go.ret (Unw.ret ?_)
    cases h
    exact fr rF85 j
   ·refine Go.skip<|us<|gs<|gs<|g0 j j (q (oFA (r':=.mp 2 0 3) j fF80_3 j j)<|q (oLd (cs:=[.im 0 _]) j tF2 j j)<|q (oFA (r':=.mp 3 0 3) j fF80_3 j j)<|q (oLd (cs:=[.im 0 _]) j tF2 j j)<|q (oBi j j j j)<|nl)<|us<|gc h j iNe (fun hc4 h=>?_) fun hc4 h=>?_
    ·refine gs<|g0 j j (q (oAsI j j)<|nl)<|us<|Go.ret (Unw.ret ?_)
     cases h
     exact fr rF85 j
    ·refine Go.skip<|us<|gs<|gs<|g0 j j (q (oFA (r':=.mp 2 0 4) j fF80_4 j j)<|q (oLd (cs:=[.im 0 _]) j tF2 j j)<|q (oFA (r':=.mp 3 0 4) j fF80_4 j j)<|q (oLd (cs:=[.im 0 _]) j tF2 j j)<|q (oBi j j j j)<|nl)<|us<|gc h j iNe (fun hc5 h=>?_) fun hc5 h=>?_
     ·refine gs<|g0 j j (q (oAsI j j)<|nl)<|us<|Go.ret (Unw.ret ?_)
      cases h
      exact fr rF85 j
     ·refine Go.skip<|us<|gs<|g0 j j (q (oAsI j j)<|nl)<|us<|Go.ret (Unw.ret ?_)
      cases h
      exact fr rF85 j
theorem L_laws_eqDesk {a_0:S_Desk} {b_1:S_Desk} {r:Bool} (h:laws_eqDesk a_0 b_1=some r):FX 34 [.im 2 true (u_S_Desk a_0),.im 2 true (u_S_Desk b_1)] (B0 [(false,[.im 0 (V r)])]):=by
 unfold laws_eqDesk at h
 refine gn 29 Tryz.func34 rfl ?_
 refine gs<|g0 j j (q (oBx j tF82 j (tkI (tkI (tkI (tkI (tkI (tkI (tkI (tkI (tkI (tkI (tkI (tkI (tkI (tkI (tkI (tkI (tkI (tkI (tkI (tkI (tkI (tkI (tkI (tkI tk0)))))))))))))))))))))))))<|q (oBx j tF82 j (tkI (tkI (tkI (tkI (tkI (tkI (tkI (tkI (tkI (tkI (tkI (tkI (tkI (tkI (tkI (tkI (tkI (tkI (tkI (tkI (tkI (tkI (tkI (tkI tk0)))))))))))))))))))))))))<|q (oAsI j j)<|nl)<|us<|gs<|gs<|?_
 obtain ⟨x9,hx9,h⟩:=bs h
 refine g1 j j (mk [(2,M 2),(3,M 3)] [(2,Oa (G 2 (u_S_Desk a_0))),(3,Oa (G 2 (u_S_Desk b_1)))]) (q (oFA (r':=.mp 2 0 0) j fF82_0 j j)<|q (oLd (cs:=[.im 0 _,.im 0 _,.im 2 _,.im 2 _,.im 2 _,.im 2 _,.im 2 _,.im 0 _,.im 0 _,.im 0 _,.im 0 _,.im 0 _,.im 0 _,.im 0 _,.im 0 _,.im 2 _,.im 2 _]) j tF49 j j)<|q (oFA (r':=.mp 3 0 0) j fF82_0 j j)<|q (oLd (cs:=[.im 0 _,.im 0 _,.im 2 _,.im 2 _,.im 2 _,.im 2 _,.im 2 _,.im 0 _,.im 0 _,.im 0 _,.im 0 _,.im 0 _,.im 0 _,.im 0 _,.im 0 _,.im 2 _,.im 2 _]) j tF49 j j)<|q (oCa (xs:=[.v true [.im 0 _,.im 0 _,.im 2 _,.im 2 _,.im 2 _,.im 2 _,.im 2 _,.im 0 _,.im 0 _,.im 0 _,.im 0 _,.im 0 _,.im 0 _,.im 0 _,.im 0 _,.im 2 _,.im 2 _],.v true [.im 0 _,.im 0 _,.im 2 _,.im 2 _,.im 2 _,.im 2 _,.im 2 _,.im 0 _,.im 0 _,.im 0 _,.im 0 _,.im 0 _,.im 0 _,.im 0 _,.im 0 _,.im 2 _,.im 2 _]]) (vs:=[(false,[.im 0 _])]) (v:=.v false [.im 0 _]) (L_laws_eqJob hx9) (.inl j) j kF12_49_49 j (ppC j (ppC j pp0)) j j pb0 j j j)<|q (oUn j j j)<|nl)<|us<|?_
 by_cases hc1:x9=true
 ·rw [if_pos hc1] at h
  refine gF j (nF (iR.2 hc1))<|Go.skip<|us<|gs<|gs<|?_
  obtain ⟨x15,hx15,h⟩:=bs h
  refine g0 j j (q (oFA (r':=.mp 2 0 17) j fF82_1 j j)<|q (oLd (cs:=[.im 2 _]) j tF78 j j)<|q (oFA (r':=.mp 3 0 17) j fF82_1 j j)<|q (oLd (cs:=[.im 2 _]) j tF78 j j)<|q (oCa (xs:=[.v false [.im 2 _],.v false [.im 2 _]]) (vs:=[(false,[.im 0 _])]) (v:=.v false [.im 0 _]) (L_laws_eqBondS hx15) (.inl j) j kF83_78_78 j (ppC j (ppC j pp0)) j j pb0 j j j)<|q (oUn j j j)<|nl)<|us<|?_
  by_cases hc2:x15=true
  ·rw [if_pos hc2] at h
   refine gF j (nF (iR.2 hc2))<|Go.skip<|us<|gs<|gs<|?_
   obtain ⟨x21,hx21,h⟩:=bs h
   refine g0 j j (q (oFA (r':=.mp 2 0 18) j fF82_2 j j)<|q (oLd (cs:=[.im 2 _]) j tF79 j j)<|q (oFA (r':=.mp 3 0 18) j fF82_2 j j)<|q (oLd (cs:=[.im 2 _]) j tF79 j j)<|q (oCa (xs:=[.v false [.im 2 _],.v false [.im 2 _]]) (vs:=[(false,[.im 0 _])]) (v:=.v false [.im 0 _]) (L_laws_eqCoatS hx21) (.inl j) j kF84_79_79 j (ppC j (ppC j pp0)) j j pb0 j j j)<|q (oUn j j j)<|nl)<|us<|?_
   by_cases hc3:x21=true
   ·rw [if_pos hc3] at h
    refine gF j (nF (iR.2 hc3))<|Go.skip<|us<|gs<|gs<|?_
    obtain ⟨x27,hx27,h⟩:=bs h
    refine g0 j j (q (oFA (r':=.mp 2 0 19) j fF82_3 j j)<|q (oLd (cs:=[.im 0 _,.im 0 _,.im 0 _,.im 0 _,.im 0 _]) j tF80 j j)<|q (oFA (r':=.mp 3 0 19) j fF82_3 j j)<|q (oLd (cs:=[.im 0 _,.im 0 _,.im 0 _,.im 0 _,.im 0 _]) j tF80 j j)<|q (oCa (xs:=[.v true [.im 0 _,.im 0 _,.im 0 _,.im 0 _,.im 0 _],.v true [.im 0 _,.im 0 _,.im 0 _,.im 0 _,.im 0 _]]) (vs:=[(false,[.im 0 _])]) (v:=.v false [.im 0 _]) (L_laws_eqRates hx27) (.inl j) j kF85_80_80 j (ppC j (ppC j pp0)) j j pb0 j j j)<|q (oUn j j j)<|nl)<|us<|?_
    by_cases hc4:x27=true
    ·rw [if_pos hc4] at h
     refine gF j (nF (iR.2 hc4))<|Go.skip<|us<|gs<|g0 j j (q (oAsI j j)<|nl)<|us<|Go.ret (Unw.ret ?_)
     cases h
     exact fr rF34 j
    ·rw [if_neg hc4] at h
     refine gT j (nT (byF iR hc4))<|gs<|g0 j j (q (oAsI j j)<|nl)<|us<|Go.ret (Unw.ret ?_)
     cases h
     exact fr rF34 j
   ·rw [if_neg hc3] at h
    refine gT j (nT (byF iR hc3))<|gs<|g0 j j (q (oAsI j j)<|nl)<|us<|Go.ret (Unw.ret ?_)
    cases h
    exact fr rF34 j
  ·rw [if_neg hc2] at h
   refine gT j (nT (byF iR hc2))<|gs<|g0 j j (q (oAsI j j)<|nl)<|us<|Go.ret (Unw.ret ?_)
   cases h
   exact fr rF34 j
 ·rw [if_neg hc1] at h
  refine gT j (nT (byF iR hc1))<|gs<|g0 j j (q (oAsI j j)<|nl)<|us<|Go.ret (Unw.ret ?_)
  cases h
  exact fr rF34 j
theorem L_laws_FnExactValidDesk {aD_0:S_Desk} {r:Bool} (h:laws_FnExactValidDesk aD_0=some r):FX 7 [.im 2 true (u_S_Desk aD_0)] (B0 [(false,[.im 0 (V r)])]):=by
 unfold laws_FnExactValidDesk at h
 refine gn 27 Tryz.func7 rfl ?_
 refine gs<|g0 j j (q (oBx j tF75 j (tkI (tkI (tkI (tkI (tkI (tkI (tkI (tkI (tkI (tkI (tkI (tkI (tkI (tkI (tkI (tkI (tkI (tkI (tkI (tkI (tkI (tkI (tkI (tkI tk0)))))))))))))))))))))))))<|q (oAsI j j)<|nl)<|us<|gs<|g1 j j (mk [(1,M 1)] [(1,Oa (G 2 (u_S_Desk aD_0)))]) (q (oAsI j j)<|nl)<|us<|gs<|?_
 obtain ⟨x9,hx9,h⟩:=bs h
 refine g0 j j (q (oLd (cs:=[.im 0 _,.im 0 _,.im 2 _,.im 2 _,.im 2 _,.im 2 _,.im 2 _,.im 0 _,.im 0 _,.im 0 _,.im 0 _,.im 0 _,.im 0 _,.im 0 _,.im 0 _,.im 2 _,.im 2 _,.im 2 _,.im 2 _,.im 0 _,.im 0 _,.im 0 _,.im 0 _,.im 0 _]) j tF75 j j)<|q (oMv j j)<|q (oCa (xs:=[.v true [.im 0 _,.im 0 _,.im 2 _,.im 2 _,.im 2 _,.im 2 _,.im 2 _,.im 0 _,.im 0 _,.im 0 _,.im 0 _,.im 0 _,.im 0 _,.im 0 _,.im 0 _,.im 2 _,.im 2 _,.im 2 _,.im 2 _,.im 0 _,.im 0 _,.im 0 _,.im 0 _,.im 0 _],.v false [.im 0 _]]) (vs:=[(false,[.im 0 _])]) (v:=.v false [.im 0 _]) (L_laws_szDesk hx9) (.inl j) j kF30_75_3 j (ppC j (ppC j pp0)) j j pb0 j j j)<|q (oAsI j j)<|nl)<|us<|gs<|gs<|g0 j j (q (oMv j j)<|q (oBi j j j j)<|nl)<|us<|gc h j iDec (fun hc1 h=>?_) fun hc1 h=>?_
 ·refine gs<|g0 j j (q (oAsI j j)<|nl)<|us<|Go.ret (Unw.ret ?_)
  cases h
  exact fr rF7 j
 ·refine Go.skip<|us<|gs<|?_
  obtain ⟨x13,hx13,h⟩:=bs h
  obtain ⟨x14,hx14,h⟩:=bs h
  refine g0 j j (q (oLd (cs:=[.im 0 _,.im 0 _,.im 2 _,.im 2 _,.im 2 _,.im 2 _,.im 2 _,.im 0 _,.im 0 _,.im 0 _,.im 0 _,.im 0 _,.im 0 _,.im 0 _,.im 0 _,.im 2 _,.im 2 _,.im 2 _,.im 2 _,.im 0 _,.im 0 _,.im 0 _,.im 0 _,.im 0 _]) j tF75 j j)<|q (oCr (xs:=[.v true [.im 0 _,.im 0 _,.im 2 _,.im 2 _,.im 2 _,.im 2 _,.im 2 _,.im 0 _,.im 0 _,.im 0 _,.im 0 _,.im 0 _,.im 0 _,.im 0 _,.im 0 _,.im 2 _,.im 2 _,.im 2 _,.im 2 _,.im 0 _,.im 0 _,.im 0 _,.im 0 _,.im 0 _]]) (vs:=[(true,[.im 0 _,.im 0 _,.own 13 0 0,.own 13 0 1,.own 13 0 2,.own 13 0 3,.own 13 0 4,.im 0 _,.im 0 _,.im 0 _,.im 0 _,.im 0 _,.im 0 _,.im 0 _,.im 0 _,.own 13 0 5,.own 13 0 6,.own 13 0 7,.own 13 0 8,.im 0 _,.im 0 _,.im 0 _,.im 0 _,.im 0 _])]) (v:=.v true [.im 0 _,.im 0 _,.own 13 0 0,.own 13 0 1,.own 13 0 2,.own 13 0 3,.own 13 0 4,.im 0 _,.im 0 _,.im 0 _,.im 0 _,.im 0 _,.im 0 _,.im 0 _,.im 0 _,.own 13 0 5,.own 13 0 6,.own 13 0 7,.own 13 0 8,.im 0 _,.im 0 _,.im 0 _,.im 0 _,.im 0 _]) (c:=⟨.sh,0,_⟩) (cs:=[⟨.sh,0,_⟩,⟨.sh,0,_⟩,⟨.sh,0,_⟩,⟨.sh,0,_⟩,⟨.sh,0,_⟩,⟨.sh,0,_⟩,⟨.sh,0,_⟩,⟨.sh,0,_⟩]) (L_laws_toDesk hx13) (.inl j) j kF32_75 j (ppC j pp0) j j pb0 j j j)<|q (oCa (xs:=[.v true [.im 0 _,.im 0 _,.own 13 0 0,.own 13 0 1,.own 13 0 2,.own 13 0 3,.own 13 0 4,.im 0 _,.im 0 _,.im 0 _,.im 0 _,.im 0 _,.im 0 _,.im 0 _,.im 0 _,.own 13 0 5,.own 13 0 6,.own 13 0 7,.own 13 0 8,.im 0 _,.im 0 _,.im 0 _,.im 0 _,.im 0 _]]) (vs:=[(false,[.im 0 _])]) (v:=.v false [.im 0 _]) (L_spec_ValidDesk hx14) (.inl j) j kF31_82 j (ppC j pp0) j j pb0 j j j)<|q (oAsI j j)<|nl)<|us<|gs<|?_
  obtain ⟨x16,hx16,h⟩:=bs h
  refine g0 j j (q (oLd (cs:=[.im 0 _,.im 0 _,.im 2 _,.im 2 _,.im 2 _,.im 2 _,.im 2 _,.im 0 _,.im 0 _,.im 0 _,.im 0 _,.im 0 _,.im 0 _,.im 0 _,.im 0 _,.im 2 _,.im 2 _,.im 2 _,.im 2 _,.im 0 _,.im 0 _,.im 0 _,.im 0 _,.im 0 _]) j tF75 j j)<|q (oCr (xs:=[.v true [.im 0 _,.im 0 _,.im 2 _,.im 2 _,.im 2 _,.im 2 _,.im 2 _,.im 0 _,.im 0 _,.im 0 _,.im 0 _,.im 0 _,.im 0 _,.im 0 _,.im 0 _,.im 2 _,.im 2 _,.im 2 _,.im 2 _,.im 0 _,.im 0 _,.im 0 _,.im 0 _,.im 0 _]]) (vs:=[(true,[.im 0 _,.im 0 _,.own 16 0 0,.own 16 0 1,.own 16 0 2,.own 16 0 3,.own 16 0 4,.im 0 _,.im 0 _,.im 0 _,.im 0 _,.im 0 _,.im 0 _,.im 0 _,.im 0 _,.own 16 0 5,.own 16 0 6,.own 16 0 7,.own 16 0 8,.im 0 _,.im 0 _,.im 0 _,.im 0 _,.im 0 _])]) (v:=.v true [.im 0 _,.im 0 _,.own 16 0 0,.own 16 0 1,.own 16 0 2,.own 16 0 3,.own 16 0 4,.im 0 _,.im 0 _,.im 0 _,.im 0 _,.im 0 _,.im 0 _,.im 0 _,.im 0 _,.own 16 0 5,.own 16 0 6,.own 16 0 7,.own 16 0 8,.im 0 _,.im 0 _,.im 0 _,.im 0 _,.im 0 _]) (c:=⟨.sh,0,_⟩) (cs:=[⟨.sh,0,_⟩,⟨.sh,0,_⟩,⟨.sh,0,_⟩,⟨.sh,0,_⟩,⟨.sh,0,_⟩,⟨.sh,0,_⟩,⟨.sh,0,_⟩,⟨.sh,0,_⟩]) (L_laws_toDesk hx16) (.inl j) j kF32_75 j (ppC j pp0) j j pb0 j j j)<|q (oAl j tF82 (tkI (tkI (tkN (tkN (tkN (tkN (tkN (tkI (tkI (tkI (tkI (tkI (tkI (tkI (tkI (tkN (tkN (tkN (tkN (tkI (tkI (tkI (tkI (tkI tk0)))))))))))))))))))))))))<|q (oSt tF82 j j j (tkI (tkI (tkO j j (tkO j j (tkO j j (tkO j j (tkO j j (tkI (tkI (tkI (tkI (tkI (tkI (tkI (tkI (tkO j j (tkO j j (tkO j j (tkO j j (tkI (tkI (tkI (tkI (tkI tk0)))))))))))))))))))))))) j j j)<|nl)<|us<|gs<|?_
  obtain ⟨x18,hx18,h⟩:=bs h
  refine g1 j j (mk [(1,M 1),(4,bv x14),(5,M 5)] [(1,Oa (G 2 (u_S_Desk aD_0))),(5,Oa [C (I x16.Job.Picture.Drawing.Width),C (I x16.Job.Picture.Drawing.Height),Z (W 2 e_S_Point x16.Job.Picture.Drawing.Points),Z (W 2 e_S_Face x16.Job.Picture.Drawing.Faces),Z (W 3 e_S_Veneer x16.Job.Picture.Veneers),Z (W 9 e_S_Leaf x16.Job.Leaves),Z (W 5 e_S_Placement x16.Job.Placements),C (I x16.Job.Rules.Spacing),C (I x16.Job.Rules.Margin),C (I x16.Job.Rules.Angle),C (I x16.Job.Rules.Shade),C (I x16.Job.Thickness),C (I x16.Job.Kerf),C (I x16.Job.Bevel),C (I x16.Job.Gap),Z (W 1 eI x16.Job.Order),Z (W 1 eI x16.Job.Cuts),Z (W 4 e_S_Bond x16.Bonds),Z (W 4 e_S_Coat x16.Coats),C (I x16.Rates.Hour),C (I x16.Rates.Edge),C (I x16.Rates.Face),C (I x16.Rates.Waste),C (I x16.Rates.Margin)])]) (q (oLd (cs:=[.im 0 _,.im 0 _,.own 5 0 2,.own 5 0 3,.own 5 0 4,.own 5 0 5,.own 5 0 6,.im 0 _,.im 0 _,.im 0 _,.im 0 _,.im 0 _,.im 0 _,.im 0 _,.im 0 _,.own 5 0 15,.own 5 0 16,.own 5 0 17,.own 5 0 18,.im 0 _,.im 0 _,.im 0 _,.im 0 _,.im 0 _]) j tF82 j j)<|q (oCa (xs:=[.v true [.im 0 _,.im 0 _,.own 5 0 2,.own 5 0 3,.own 5 0 4,.own 5 0 5,.own 5 0 6,.im 0 _,.im 0 _,.im 0 _,.im 0 _,.im 0 _,.im 0 _,.im 0 _,.im 0 _,.own 5 0 15,.own 5 0 16,.own 5 0 17,.own 5 0 18,.im 0 _,.im 0 _,.im 0 _,.im 0 _,.im 0 _]]) (vs:=[(false,[.im 0 _])]) (v:=.v false [.im 0 _]) (L_impl_ValidDesk hx18) (.inl j) j kF33_82 j (ppC j pp0) j j pb0 j j j)<|q (oAsI j j)<|nl)<|us<|gs<|gs<|g0 j j (q (oMv j j)<|q (oMv j j)<|q (oBiU j uF4 j j j)<|nl)<|us<|?_
  by_cases hc2:x18=x14
  ·rw [if_pos hc2] at h
   refine gF j (nF (iBe.2 hc2))<|Go.skip<|us<|gs<|gs<|?_
   obtain ⟨x24,hx24,h⟩:=bs h
   obtain ⟨x25,hx25,h⟩:=bs h
   refine gd c7 j j j j (mk [(26,bv (!x25))] []) (t j j (oLd (cs:=[.im 0 _,.im 0 _,.own 5 0 2,.own 5 0 3,.own 5 0 4,.own 5 0 5,.own 5 0 6,.im 0 _,.im 0 _,.im 0 _,.im 0 _,.im 0 _,.im 0 _,.im 0 _,.im 0 _,.own 5 0 15,.own 5 0 16,.own 5 0 17,.own 5 0 18,.im 0 _,.im 0 _,.im 0 _,.im 0 _,.im 0 _]) j tF82 j j)<|t j j (oLd (cs:=[.im 0 _,.im 0 _,.im 2 _,.im 2 _,.im 2 _,.im 2 _,.im 2 _,.im 0 _,.im 0 _,.im 0 _,.im 0 _,.im 0 _,.im 0 _,.im 0 _,.im 0 _,.im 2 _,.im 2 _,.im 2 _,.im 2 _,.im 0 _,.im 0 _,.im 0 _,.im 0 _,.im 0 _]) j tF75 j j)<|sS (dN z7 j (oCr (xs:=[.v true [.im 0 _,.im 0 _,.im 2 _,.im 2 _,.im 2 _,.im 2 _,.im 2 _,.im 0 _,.im 0 _,.im 0 _,.im 0 _,.im 0 _,.im 0 _,.im 0 _,.im 0 _,.im 2 _,.im 2 _,.im 2 _,.im 2 _,.im 0 _,.im 0 _,.im 0 _,.im 0 _,.im 0 _]]) (vs:=[(true,[.im 0 _,.im 0 _,.own 24 0 0,.own 24 0 1,.own 24 0 2,.own 24 0 3,.own 24 0 4,.im 0 _,.im 0 _,.im 0 _,.im 0 _,.im 0 _,.im 0 _,.im 0 _,.im 0 _,.own 24 0 5,.own 24 0 6,.own 24 0 7,.own 24 0 8,.im 0 _,.im 0 _,.im 0 _,.im 0 _,.im 0 _])]) (v:=.v true [.im 0 _,.im 0 _,.own 24 0 0,.own 24 0 1,.own 24 0 2,.own 24 0 3,.own 24 0 4,.im 0 _,.im 0 _,.im 0 _,.im 0 _,.im 0 _,.im 0 _,.im 0 _,.im 0 _,.own 24 0 5,.own 24 0 6,.own 24 0 7,.own 24 0 8,.im 0 _,.im 0 _,.im 0 _,.im 0 _,.im 0 _]) (c:=⟨.sh,0,_⟩) (cs:=[⟨.sh,0,_⟩,⟨.sh,0,_⟩,⟨.sh,0,_⟩,⟨.sh,0,_⟩,⟨.sh,0,_⟩,⟨.sh,0,_⟩,⟨.sh,0,_⟩,⟨.sh,0,_⟩]) (L_laws_toDesk hx24) (.inl j) j kF32_75 j (ppC j pp0) j j pb0 j j j)) trivial (sS (dN z7 j (oCa (xs:=[.v true [.im 0 _,.im 0 _,.own 5 0 2,.own 5 0 3,.own 5 0 4,.own 5 0 5,.own 5 0 6,.im 0 _,.im 0 _,.im 0 _,.im 0 _,.im 0 _,.im 0 _,.im 0 _,.im 0 _,.own 5 0 15,.own 5 0 16,.own 5 0 17,.own 5 0 18,.im 0 _,.im 0 _,.im 0 _,.im 0 _,.im 0 _],.v true [.im 0 _,.im 0 _,.own 24 0 0,.own 24 0 1,.own 24 0 2,.own 24 0 3,.own 24 0 4,.im 0 _,.im 0 _,.im 0 _,.im 0 _,.im 0 _,.im 0 _,.im 0 _,.im 0 _,.own 24 0 5,.own 24 0 6,.own 24 0 7,.own 24 0 8,.im 0 _,.im 0 _,.im 0 _,.im 0 _,.im 0 _]]) (vs:=[(false,[.im 0 _])]) (v:=.v false [.im 0 _]) (L_laws_eqDesk hx25) (.inl j) j kF34_82_82 j (ppC j (ppC j pp0)) j j pb0 j j j)) trivial (t j j (oUn j j j)<|sD (by kernel_rfl))))<|us<|?_
   by_cases hc3:x25=true
   ·rw [if_pos hc3] at h
    refine gF j (nF (iR.2 hc3))<|Go.skip<|us<|gs<|g0 j j (q (oAsI j j)<|nl)<|us<|Go.ret (Unw.ret ?_)
    cases h
    exact fr rF7 j
   ·rw [if_neg hc3] at h
    refine gT j (nT (byF iR hc3))<|gs<|g0 j j (q (oAsI j j)<|nl)<|us<|Go.ret (Unw.ret ?_)
    cases h
    exact fr rF7 j
  ·rw [if_neg hc2] at h
   refine gT j (nT (byF iBe hc2))<|gs<|g0 j j (q (oAsI j j)<|nl)<|us<|Go.ret (Unw.ret ?_)
   cases h
   exact fr rF7 j
end
end Go.Proofs.YtonnimmkimccfaaGreat
