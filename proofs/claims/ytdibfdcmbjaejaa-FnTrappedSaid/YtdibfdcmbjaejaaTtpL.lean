/- The machine answers, at each function of the program that is reached, what its plain function answers: a further part. Conditions: none. -/
import Derived.Test.YtdibfdcmbjaejaaTtpLa
namespace Go.Proofs.Ytdibfdcmbjaejaa
open Go Go.Sim Go.Pw Go.Proofs
set_option linter.unusedVariables false
set_option linter.unusedSimpArgs false
set_option maxRecDepth 100000
set_option maxHeartbeats 4000000
noncomputable section
theorem L_spec_l03Ok {p_0:(List S_Point)} {r:Bool} (h:spec_l03Ok p_0=some r):FX 89 [.im 2 false [W 2 e_S_Point p_0]] (B0 [(false,[.im 0 (V r)])]):=by
 unfold spec_l03Ok at h
 refine gn 99 Try.func89 rfl ?_
 refine gs<|g0 j j (q (oAsI j j)<|nl)<|us<|gs<|g0 j j (q (oMv j j)<|q (oLnI j j uF23 j)<|q (oAsI j j)<|nl)<|us<|gs<|gs<|gX c89 j j j (mk [(0,D 2 (W 2 e_S_Point p_0)),(3,iv (p_0.length:Int)),(17,bv ((decide ((p_0.length:Int) <3))||(decide ((p_0.length:Int) >24))))] []) ?_ ?_
 ·refine xq (oMv j j)<|xq (oBi j j j j)<|xq (oMv j j)<|?_
  by_cases hc1:(p_0.length:Int) <3
  ·exact xsgF rfl rfl (iDec.2 hc1) rfl<|xsgF rfl rfl (iDec.2 hc1) rfl<|xq (oPkT rfl rfl (iDec.2 hc1) rfl)<|xn (Eq.trans (b:=(fun t_17_m2:Bool=>mk [(0,D 2 (W 2 e_S_Point p_0)),(3,iv (p_0.length:Int)),(17,bv t_17_m2)] []) true) (by kernel_rfl) (congrArg (fun t_17_m2:Bool=>mk [(0,D 2 (W 2 e_S_Point p_0)),(3,iv (p_0.length:Int)),(17,bv t_17_m2)] []) (by first | rfl | (simp [(iDec.2 hc1)];done) | (simp [(iDec.2 hc1)];omega))))
  ·exact xqT rfl rfl (byF iDec hc1) (oMv rfl rfl)<|xqT rfl rfl (byF iDec hc1) (oBi rfl rfl rfl rfl)<|xq (oPkF rfl rfl (byF iDec hc1) rfl)<|xn (Eq.trans (b:=(fun t_17_m2:Bool=>mk [(0,D 2 (W 2 e_S_Point p_0)),(3,iv (p_0.length:Int)),(17,bv t_17_m2)] []) (decide ((p_0.length:Int) >24))) (by kernel_rfl) (congrArg (fun t_17_m2:Bool=>mk [(0,D 2 (W 2 e_S_Point p_0)),(3,iv (p_0.length:Int)),(17,bv t_17_m2)] []) (by first | rfl | (simp [(byF iDec hc1)];done) | (simp [(byF iDec hc1)];omega))))
 ·refine us<|gc h j (iOr iDec iDec) (fun hc2 h=>?_) fun hc2 h=>?_
  ·refine gs<|g0 j j (q (oAsI j j)<|nl)<|us<|Go.ret (Unw.ret ?_)
   cases h
   exact fr rF89 j
  ·refine Go.skip<|us<|gs<|gs<|g0 j j (q (oAsI j j)<|nl)<|us<|Go.block<|?_
   obtain ⟨o,hl,h⟩:=bs h
   refine gl c89 j _ (fun (i_4_l5:Int)=>mk [(0,D 2 (W 2 e_S_Point p_0)),(3,iv (p_0.length:Int)),(4,iv i_4_l5)] []) (fun (o:(Unit ⊕ Bool)) (p:Ex×St)=>match o with | (.inl _)=>p.1= .exit 0∧p.2.norm ([0,3],[])=mk [(0,D 2 (W 2 e_S_Point p_0)),(3,iv (p_0.length:Int))] [] | (.inr r2)=>p.1= .ret∧fin Try.prog cfg 89 Try.f89 [.im 2 false [W 2 e_S_Point p_0]] p.2=some (B0 [(false,[.im 0 (V r2)])])) hl (by kernel_rfl) ?_ ?_ ?_
   ·intro o p hp e
    rcases o with u | r2<;>exact nomatch (hp.1.symm.trans e)
   ·rintro i_4_l5 o h
    unfold spec_l03Ok_l5 at h
    refine gs<|gs<|g0 j j (q (oMv j j)<|q (oMv j j)<|q (oBi j j j j)<|nl)<|us<|gc h j iDec (fun hc50 h=>?_) fun hc50 h=>?_
    ·refine Go.skip<|us<|gs<|Go.block<|gs<|?_
     obtain ⟨x25,hx25,h⟩:=bs h
     obtain ⟨x27,hx27,h⟩:=bs h
     refine g0 j j (q (oMv j j)<|q (oMv j j)<|q (oIAI j hx25 sF23 j j)<|q (oLd (cs:=[.im 2 _,.im 2 _]) j tF145 j j)<|q (oCa (xs:=[.v true [.im 2 _,.im 2 _]]) (vs:=[(false,[.im 0 _])]) (v:=.v false [.im 0 _]) (L_spec_l02Ok hx27) (.inl j) j kF145_145 j (ppC j pp0) j j pb0 j j j)<|q (oUn j j j)<|nl)<|us<|?_
     by_cases hc51:x27=true
     ·rw [if_pos hc51] at h
      refine gF j (nF (iR.2 hc51))<|Go.skip<|Unw.blk<|us<|g0 j j (q (oMv j j)<|q (oBi j j j j)<|q (oAsI j j)<|nl)<|Unw.nil<|?_
      cases h
      exact ⟨j,(by kernel_rfl)⟩
     ·rw [if_neg hc51] at h
      refine gT j (nT (byF iR hc51))<|gs<|g0 j j (q (oAsI j j)<|nl)<|us<|Go.ret (Unw.ret ?_)
      cases h
      exact ⟨j,(fo rF89 j)⟩
    ·refine Go.exit<|ux<|Unw.nil<|?_
     cases h
     exact ⟨j,(by kernel_rfl)⟩
   ·rintro ⟨e,st⟩ hp
    rcases o with u | r2
    ·dsimp only at h
     obtain ⟨he,hst⟩:=hp
     obtain rfl:e= .exit 0:=he
     refine Unw.blkx<|us<|gs<|gs<|g2 c89 j j hst (q (oAsI j j)<|nl)<|us<|Go.block<|?_
     obtain ⟨o,hl,h⟩:=bs h
     refine gl c89 j _ (fun (i_5_l10:Int)=>mk [(0,D 2 (W 2 e_S_Point p_0)),(3,iv (p_0.length:Int)),(5,iv i_5_l10)] []) (fun (o:(Unit ⊕ Bool)) (p:Ex×St)=>match o with | (.inl _)=>p.1= .exit 2∧p.2.norm ([0],[])=mk [(0,D 2 (W 2 e_S_Point p_0))] [] | (.inr r2)=>p.1= .ret∧fin Try.prog cfg 89 Try.f89 [.im 2 false [W 2 e_S_Point p_0]] p.2=some (B0 [(false,[.im 0 (V r2)])])) hl (by kernel_rfl) ?_ ?_ ?_
     ·intro o p hp e
      rcases o with u | r2<;>exact nomatch (hp.1.symm.trans e)
     ·rintro i_5_l10 o h
      unfold spec_l03Ok_l10 at h
      refine gs<|gs<|g0 j j (q (oMv j j)<|q (oMv j j)<|q (oBi j j j j)<|nl)<|us<|gc h j iDec (fun hc33 h=>?_) fun hc33 h=>?_
      ·refine Go.skip<|us<|gs<|Go.block<|gs<|?_
       obtain ⟨x36,hx36,h⟩:=bs h
       refine g0 j j (q (oMv j j)<|q (oMv j j)<|q (oIAI j hx36 sF23 j j)<|q (oLd (cs:=[.im 2 _,.im 2 _]) j tF145 j j)<|q (oAl j tF145 (tkI (tkI tk0)))<|q (oSt tF145 j j j (tkI (tkI tk0)) j j j)<|nl)<|us<|gs<|?_
       obtain ⟨x42,hx42,h⟩:=bs h
       obtain ⟨x43,hx43,h⟩:=bs h
       refine g1 j j (mk [(0,D 2 (W 2 e_S_Point p_0)),(3,iv (p_0.length:Int)),(5,iv i_5_l10),(6,M 6)] [(6,Oa (G 0 (u_S_Point x36)))]) (q (oMv j j)<|q (oMv j j)<|q (oBi j j j j)<|q (oMv j j)<|q (oRem j hx42 j j)<|q (oIAI j hx43 sF23 j j)<|q (oLd (cs:=[.im 2 _,.im 2 _]) j tF145 j j)<|q (oAl j tF145 (tkI (tkI tk0)))<|q (oSt tF145 j j j (tkI (tkI tk0)) j j j)<|nl)<|us<|gs<|?_
       obtain ⟨x49,hx49,h⟩:=bs h
       obtain ⟨x50,hx50,h⟩:=bs h
       refine g1 j j (mk [(0,D 2 (W 2 e_S_Point p_0)),(3,iv (p_0.length:Int)),(5,iv i_5_l10),(6,M 6),(7,M 7)] [(6,Oa (G 0 (u_S_Point x36))),(7,Oa (G 0 (u_S_Point x43)))]) (q (oMv j j)<|q (oMv j j)<|q (oBi j j j j)<|q (oMv j j)<|q (oRem j hx49 j j)<|q (oIAI j hx50 sF23 j j)<|q (oLd (cs:=[.im 2 _,.im 2 _]) j tF145 j j)<|q (oAl j tF145 (tkI (tkI tk0)))<|q (oSt tF145 j j j (tkI (tkI tk0)) j j j)<|nl)<|us<|gs<|gs<|?_
       obtain ⟨t_66_m15,hm49,h⟩:=bs h
       refine gX c89 j j (st1:=mk [(0,D 2 (W 2 e_S_Point p_0)),(3,iv (p_0.length:Int)),(5,iv i_5_l10),(6,M 6),(7,M 7),(8,M 8)] [(6,Oa (G 0 (u_S_Point x36))),(7,Oa (G 0 (u_S_Point x43))),(8,Oa (G 0 (u_S_Point x50)))]) (by kernel_rfl) (mk [(0,D 2 (W 2 e_S_Point p_0)),(3,iv (p_0.length:Int)),(5,iv i_5_l10),(6,M 6),(7,M 7),(66,bv t_66_m15)] [(6,Oa (G 0 (u_S_Point x36))),(7,Oa (G 0 (u_S_Point x43)))]) ?_ ?_
       ·refine xq (oLd (cs:=[.im 0 _,.im 0 _]) j tF145 j j)<|xq (oLd (cs:=[.im 0 _,.im 0 _]) j tF145 j j)<|xq (oBa j (qEF145 x36.X x36.Y x43.X x43.Y) j j j j)<|xq (oMv j j)<|?_
        refine ic hm49 (fun hc34 hm49=>?_) fun hc34 hm49=>?_
        ·cases hm49
         exact xsgF j j ((iAnd iEq iEq).2 hc34) j<|xsgF j j ((iAnd iEq iEq).2 hc34) j<|xsgF j j ((iAnd iEq iEq).2 hc34) j<|xsgF j j ((iAnd iEq iEq).2 hc34) j<|xq (oPkT j j ((iAnd iEq iEq).2 hc34) j)<|xq (oMv j j)<|xsgF j j j j<|xsgF j j j j<|xsgF j j j j<|xsgF j j j j<|xq (oPkT j j j j)<|xn
        ·obtain ⟨x59,hx59,hm49⟩:=bs hm49
         refine xqT j j (byF (iAnd iEq iEq) hc34) (oLd (cs:=[.im 0 _,.im 0 _]) j tF145 j j)<|xqT j j (byF (iAnd iEq iEq) hc34) (oLd (cs:=[.im 0 _,.im 0 _]) j tF145 j j)<|xqT j j (byF (iAnd iEq iEq) hc34) (oLd (cs:=[.im 0 _,.im 0 _]) j tF145 j j)<|xqT j j (byF (iAnd iEq iEq) hc34) (oCa (xs:=[.v true [.im 0 _,.im 0 _],.v true [.im 0 _,.im 0 _],.v true [.im 0 _,.im 0 _]]) (vs:=[(false,[.im 0 _])]) (v:=.v false [.im 0 _]) (L_spec_l02On hx59) (.inl j) j kF146_145_145_145 j (ppC j (ppC j (ppC j pp0))) j j pb0 j j j)<|xq (oPkF j j (byF (iAnd iEq iEq) hc34) j)<|xq (oMv j j)<|?_
         refine ic hm49 (fun hc35 hm49=>?_) fun hc35 hm49=>?_
         ·cases hm49
          exact xsgF j j (iR.2 hc35) j<|xsgF j j (iR.2 hc35) j<|xsgF j j (iR.2 hc35) j<|xsgF j j (iR.2 hc35) j<|xq (oPkT j j (iR.2 hc35) j)<|xn
         ·obtain ⟨x65,hx65,hm49⟩:=bs hm49
          cases hm49
          exact xqT j j (byF iR hc35) (oLd (cs:=[.im 0 _,.im 0 _]) j tF145 j j)<|xqT j j (byF iR hc35) (oLd (cs:=[.im 0 _,.im 0 _]) j tF145 j j)<|xqT j j (byF iR hc35) (oLd (cs:=[.im 0 _,.im 0 _]) j tF145 j j)<|xqT j j (byF iR hc35) (oCa (xs:=[.v true [.im 0 _,.im 0 _],.v true [.im 0 _,.im 0 _],.v true [.im 0 _,.im 0 _]]) (vs:=[(false,[.im 0 _])]) (v:=.v false [.im 0 _]) (L_spec_l02On hx65) (.inl j) j kF146_145_145_145 j (ppC j (ppC j (ppC j pp0))) j j pb0 j j j)<|xq (oPkF j j (byF iR hc35) j)<|xn
       ·refine us<|gc h j iR (fun hc36 h=>?_) fun hc36 h=>?_
        ·refine gs<|g0 j j (q (oAsI j j)<|nl)<|us<|Go.ret (Unw.ret ?_)
         cases h
         exact ⟨j,(fo rF89 j)⟩
        ·refine Go.skip<|us<|gs<|g0 j j (q (oMv j j)<|q (oBi j j j j)<|q (oAsI j j)<|nl)<|us<|Go.block<|?_
         obtain ⟨o,hl,h⟩:=bs h
         refine gl c89 j _ (fun (k_9_l18:Int)=>mk [(0,D 2 (W 2 e_S_Point p_0)),(3,iv (p_0.length:Int)),(5,iv i_5_l10),(6,M 6),(7,M 7),(9,iv k_9_l18)] [(6,Oa (G 0 (u_S_Point x36))),(7,Oa (G 0 (u_S_Point x43)))]) (fun (o:(Unit ⊕ Bool)) (p:Ex×St)=>match o with | (.inl _)=>p.1= .exit 4∧p.2.norm ([0,3,5],[])=mk [(0,D 2 (W 2 e_S_Point p_0)),(3,iv (p_0.length:Int)),(5,iv i_5_l10)] [] | (.inr r2)=>p.1= .ret∧fin Try.prog cfg 89 Try.f89 [.im 2 false [W 2 e_S_Point p_0]] p.2=some (B0 [(false,[.im 0 (V r2)])])) hl (by kernel_rfl) ?_ ?_ ?_
         ·intro o p hp e
          rcases o with u | r2<;>exact nomatch (hp.1.symm.trans e)
         ·rintro k_9_l18 o h
          unfold spec_l03Ok_l18 at h
          refine gs<|gs<|g0 j j (q (oMv j j)<|q (oMv j j)<|q (oBi j j j j)<|nl)<|us<|gc h j iDec (fun hc45 h=>?_) fun hc45 h=>?_
          ·refine Go.skip<|us<|gs<|Go.block<|gs<|?_
           obtain ⟨x77,hx77,h⟩:=bs h
           obtain ⟨t_95_m20,hm48,h⟩:=bs h
           refine gd c89 j j j j (mk [(0,D 2 (W 2 e_S_Point p_0)),(3,iv (p_0.length:Int)),(5,iv i_5_l10),(6,M 6),(7,M 7),(9,iv k_9_l18),(95,bv t_95_m20)] [(6,Oa (G 0 (u_S_Point x36))),(7,Oa (G 0 (u_S_Point x43)))]) ?_ ?_
           ·refine t j j (oMv j j)<|t j j (oBi j j j j)<|t j j (oMv j j)<|t j j (oRem j hx77 j j)<|t j j (oMv j j)<|t j j (oBi j j j j)<|t j j (oMv j j)<|?_
            refine ic hm48 (fun hc46 hm48=>?_) fun hc46 hm48=>?_
            ·obtain ⟨x85,hx85,hm48⟩:=bs hm48
             obtain ⟨x91,hx91,hm48⟩:=bs hm48
             obtain ⟨x92,hx92,hm48⟩:=bs hm48
             obtain ⟨x94,hx94,hm48⟩:=bs hm48
             cases hm48
             exact tT j j j j (iNe.2 hc46) (oLd (cs:=[.im 0 _,.im 0 _]) j tF145 j j)<|tT j j j j (iNe.2 hc46) (oLd (cs:=[.im 0 _,.im 0 _]) j tF145 j j)<|tT j j j j (iNe.2 hc46) (oMv j j)<|tT j j j j (iNe.2 hc46) (oMv j j)<|tT j j j j (iNe.2 hc46) (oIAI j hx85 sF23 j j)<|tT j j j j (iNe.2 hc46) (oLd (cs:=[.im 2 _,.im 2 _]) j tF145 j j)<|tT j j j j (iNe.2 hc46) (oMv j j)<|tT j j j j (iNe.2 hc46) (oMv j j)<|tT j j j j (iNe.2 hc46) (oBi j j j j)<|tT j j j j (iNe.2 hc46) (oMv j j)<|tT j j j j (iNe.2 hc46) (oRem j hx91 j j)<|tT j j j j (iNe.2 hc46) (oIAI j hx92 sF23 j j)<|tT j j j j (iNe.2 hc46) (oLd (cs:=[.im 2 _,.im 2 _]) j tF145 j j)<|sS (dT z89 j j j (iNe.2 hc46) (oCa (xs:=[.v true [.im 0 _,.im 0 _],.v true [.im 0 _,.im 0 _],.v true [.im 2 _,.im 2 _],.v true [.im 2 _,.im 2 _]]) (vs:=[(false,[.im 0 _])]) (v:=.v false [.im 0 _]) (L_spec_l03Meet hx94) (.inl j) j kF147_145_145_145_145 j (ppC j (ppC j (ppC j (ppC j pp0)))) j j pb0 j j j)) trivial (t j j (oPkT j j (iNe.2 hc46) j)<|sD (by kernel_rfl))
            ·cases hm48
             exact tF j j j j (byF iNe hc46) j<|tF j j j j (byF iNe hc46) j<|tF j j j j (byF iNe hc46) j<|tF j j j j (byF iNe hc46) j<|tF j j j j (byF iNe hc46) j<|tF j j j j (byF iNe hc46) j<|tF j j j j (byF iNe hc46) j<|tF j j j j (byF iNe hc46) j<|tF j j j j (byF iNe hc46) j<|tF j j j j (byF iNe hc46) j<|tF j j j j (byF iNe hc46) j<|tF j j j j (byF iNe hc46) j<|tF j j j j (byF iNe hc46) j<|sS (dF j j j (byF iNe hc46) j) trivial (t j j (oPkF j j (byF iNe hc46) j)<|sD (by kernel_rfl))
           ·refine us<|gc h j iR (fun hc47 h=>?_) fun hc47 h=>?_
            ·refine gs<|g0 j j (q (oAsI j j)<|nl)<|us<|Go.ret (Unw.ret ?_)
             cases h
             exact ⟨j,(fo rF89 j)⟩
            ·refine Go.skip<|Unw.blk<|us<|g0 j j (q (oMv j j)<|q (oBi j j j j)<|q (oAsI j j)<|nl)<|Unw.nil<|?_
             cases h
             exact ⟨j,(by kernel_rfl)⟩
          ·refine Go.exit<|ux<|Unw.nil<|?_
           cases h
           exact ⟨j,(by kernel_rfl)⟩
         ·rintro ⟨e,st⟩ hp
          rcases o with u | r2
          ·dsimp only at h
           obtain ⟨he,hst⟩:=hp
           obtain rfl:e= .exit 4:=he
           refine Unw.blkx<|Unw.blk<|us<|g2 c89 j j hst (q (oMv j j)<|q (oBi j j j j)<|q (oAsI j j)<|nl)<|Unw.nil<|?_
           cases h
           exact ⟨j,(by kernel_rfl)⟩
          ·dsimp only at h
           obtain ⟨he,hfin⟩:=hp
           obtain rfl:e= .ret:=he
           cases h
           exact Unw.ret ⟨j,hfin⟩
      ·refine Go.exit<|ux<|Unw.nil<|?_
       cases h
       exact ⟨j,(by kernel_rfl)⟩
     ·rintro ⟨e,st⟩ hp
      rcases o with u | r2
      ·dsimp only at h
       obtain ⟨he,hst⟩:=hp
       obtain rfl:e= .exit 2:=he
       refine Unw.blkx<|us<|gs<|?_
       obtain ⟨x97,hx97,h⟩:=bs h
       refine g2 c89 j j hst (q (oMv j j)<|q (oCa (xs:=[.v false [.im 2 _]]) (vs:=[(false,[.im 0 _])]) (v:=.v false [.im 0 _]) (L_spec_l03Area hx97) (.inl j) j kF148_23 j (ppC j pp0) j j pb0 j j j)<|q (oBi j j j j)<|q (oAsI j j)<|nl)<|us<|Go.ret (Unw.ret ?_)
       cases h
       exact fr rF89 j
      ·dsimp only at h
       obtain ⟨he,hfin⟩:=hp
       obtain rfl:e= .ret:=he
       cases h
       exact Unw.ret (Fin_ret hfin)
    ·dsimp only at h
     obtain ⟨he,hfin⟩:=hp
     obtain rfl:e= .ret:=he
     cases h
     exact Unw.ret (Fin_ret hfin)
theorem L_spec_l05Ok {d_0:S_Drawing} {r:Bool} (h:spec_l05Ok d_0=some r):FX 41 [.im 2 false [.cp (u_S_Drawing d_0) 0]] (B0 [(false,[.im 0 (V r)])]):=by
 unfold spec_l05Ok at h
 refine gn 96 Try.func41 rfl ?_
 refine gs<|g0 j j (q (oAsI j j)<|nl)<|us<|gs<|gs<|?_
 obtain ⟨x10,hx10,h⟩:=bs h
 obtain ⟨t_32_m1,hm29,h⟩:=bs h
 refine gX c41 j j j (mk [(0,D 2 (.cp (u_S_Drawing d_0) 0)),(32,bv t_32_m1)] []) ?_ ?_
 ·refine xq (oMv j j)<|xq (oNl j j j)<|xq (oFA (r':=.im 2 _) j fF26_0 j j)<|xq (oLd (cs:=[.im 2 _]) j tF2 j j)<|xq (oCa (xs:=[.v false [.im 2 _],.v false [.im 0 _],.v false [.im 0 _]]) (vs:=[(false,[.im 0 _])]) (v:=.v false [.im 0 _]) (L_spec_l00In hx10) (.inl j) j kF85_2_2_2 j (ppC j (ppC j (ppC j pp0))) j j pb0 j j j)<|xq (oUn j j j)<|xq (oMv j j)<|?_
  refine ic hm29 (fun hc1 hm29=>?_) fun hc1 hm29=>?_
  ·obtain ⟨x17,hx17,hm29⟩:=bs hm29
   refine xqT j j (nF (iR.2 hc1)) (oMv j j)<|xqT j j (nF (iR.2 hc1)) (oNl j j j)<|xqT j j (nF (iR.2 hc1)) (oFA (r':=.im 2 _) j fF26_1 j j)<|xqT j j (nF (iR.2 hc1)) (oLd (cs:=[.im 2 _]) j tF2 j j)<|xqT j j (nF (iR.2 hc1)) (oCa (xs:=[.v false [.im 2 _],.v false [.im 0 _],.v false [.im 0 _]]) (vs:=[(false,[.im 0 _])]) (v:=.v false [.im 0 _]) (L_spec_l00In hx17) (.inl j) j kF85_2_2_2 j (ppC j (ppC j (ppC j pp0))) j j pb0 j j j)<|xqT j j (nF (iR.2 hc1)) (oUn j j j)<|xq (oPkF j j (nF (iR.2 hc1)) j)<|xq (oMv j j)<|?_
   refine ic hm29 (fun hc2 hm29=>?_) fun hc2 hm29=>?_
   ·obtain ⟨x22,hx22,hm29⟩:=bs hm29
    refine xqT j j (nF (iR.2 hc2)) (oMv j j)<|xqT j j (nF (iR.2 hc2)) (oCa (xs:=[.v false [.im 2 _]]) (vs:=[(false,[.im 0 _])]) (v:=.v false [.im 0 _]) (L_spec_l05Points hx22) (.inl j) j kF86_78 j (ppC j pp0) j j pb0 j j j)<|xqT j j (nF (iR.2 hc2)) (oUn j j j)<|xq (oPkF j j (nF (iR.2 hc2)) j)<|xq (oMv j j)<|?_
    refine ic hm29 (fun hc3 hm29=>?_) fun hc3 hm29=>?_
    ·cases hm29
     exact xqT j j (nF (iR.2 hc3)) (oMv j j)<|xqT j j (nF (iR.2 hc3)) (oNl j j j)<|xqT j j (nF (iR.2 hc3)) (oFA (r':=.im 2 _) j fF26_3 j j)<|xqT j j (nF (iR.2 hc3)) (oLd (cs:=[.im 2 _]) j tF24 j j)<|xqT j j (nF (iR.2 hc3)) (oLnI j j uF24 j)<|xqT j j (nF (iR.2 hc3)) (oBi j j j j)<|xq (oPkF j j (nF (iR.2 hc3)) j)<|xn
    ·cases hm29
     exact xsgF j j (nT (byF iR hc3)) j<|xsgF j j (nT (byF iR hc3)) j<|xsgF j j (nT (byF iR hc3)) j<|xsgF j j (nT (byF iR hc3)) j<|xsgF j j (nT (byF iR hc3)) j<|xsgF j j (nT (byF iR hc3)) j<|xq (oPkT j j (nT (byF iR hc3)) j)<|xn
   ·cases hm29
    exact xsgF j j (nT (byF iR hc2)) j<|xsgF j j (nT (byF iR hc2)) j<|xsgF j j (nT (byF iR hc2)) j<|xq (oPkT j j (nT (byF iR hc2)) j)<|xq (oMv j j)<|xsgF j j j j<|xsgF j j j j<|xsgF j j j j<|xsgF j j j j<|xsgF j j j j<|xsgF j j j j<|xq (oPkT j j j j)<|xn
  ·cases hm29
   exact xsgF j j (nT (byF iR hc1)) j<|xsgF j j (nT (byF iR hc1)) j<|xsgF j j (nT (byF iR hc1)) j<|xsgF j j (nT (byF iR hc1)) j<|xsgF j j (nT (byF iR hc1)) j<|xsgF j j (nT (byF iR hc1)) j<|xq (oPkT j j (nT (byF iR hc1)) j)<|xq (oMv j j)<|xsgF j j j j<|xsgF j j j j<|xsgF j j j j<|xq (oPkT j j j j)<|xq (oMv j j)<|xsgF j j j j<|xsgF j j j j<|xsgF j j j j<|xsgF j j j j<|xsgF j j j j<|xsgF j j j j<|xq (oPkT j j j j)<|xn
 ·refine us<|gc h j iR (fun hc4 h=>?_) fun hc4 h=>?_
  ·refine gs<|g0 j j (q (oAsI j j)<|nl)<|us<|Go.ret (Unw.ret ?_)
   cases h
   exact fr rF41 j
  ·refine Go.skip<|us<|gs<|gs<|g0 j j (q (oAsI j j)<|nl)<|us<|Go.block<|?_
   obtain ⟨o,hl,h⟩:=bs h
   refine gl c41 j _ (fun (i_3_l4:Int)=>mk [(0,D 2 (.cp (u_S_Drawing d_0) 0)),(3,iv i_3_l4)] []) (fun (o:(Unit ⊕ Bool)) (p:Ex×St)=>match o with | (.inl _)=>p.1= .exit 0∧p.2.norm ([],[])=mk [] [] | (.inr r2)=>p.1= .ret∧fin Try.prog cfg 41 Try.f41 [.im 2 false [.cp (u_S_Drawing d_0) 0]] p.2=some (B0 [(false,[.im 0 (V r2)])])) hl (by kernel_rfl) ?_ ?_ ?_
   ·intro o p hp e
    rcases o with u | r2<;>exact nomatch (hp.1.symm.trans e)
   ·rintro i_3_l4 o h
    unfold spec_l05Ok_l4 at h
    refine gs<|gs<|g0 j j (q (oMv j j)<|q (oMv j j)<|q (oNl j j j)<|q (oFA (r':=.im 2 _) j fF26_3 j j)<|q (oLd (cs:=[.im 2 _]) j tF24 j j)<|q (oLnI j j uF24 j)<|q (oBi j j j j)<|nl)<|us<|gc h j iDec (fun hc21 h=>?_) fun hc21 h=>?_
    ·refine Go.skip<|us<|gs<|Go.block<|gs<|gs<|?_
     obtain ⟨x47,hx47,h⟩:=bs h
     obtain ⟨x50,hx50,h⟩:=bs h
     obtain ⟨t_75_m6,hm28,h⟩:=bs h
     refine gd c41 j j j j (mk [(0,D 2 (.cp (u_S_Drawing d_0) 0)),(3,iv i_3_l4),(75,bv t_75_m6)] []) ?_ ?_
     ·refine t j j (oMv j j)<|t j j (oNl j j j)<|t j j (oFA (r':=.im 2 _) j fF26_3 j j)<|t j j (oLd (cs:=[.im 2 _]) j tF24 j j)<|t j j (oMv j j)<|t j j (oIAI j hx47 sF24 j j)<|t j j (oFA (r':=.im 2 _) j fF139_0 j j)<|?_
      refine ic hm28 (fun hc22 hm28=>?_) fun hc22 hm28=>?_
      ·refine ic hm28 (fun hc23 hm28=>?_) fun hc23 hm28=>?_
       ·obtain ⟨x62,hx62,hm28⟩:=bs hm28
        obtain ⟨x70,hx70,hm28⟩:=bs hm28
        cases hm28
        exact t j j (oLd (cs:=[.im 2 _]) j tF9 j j)<|sS (dN z41 j (oCa (xs:=[.v false [.im 2 _]]) (vs:=[(false,[.im 0 _])]) (v:=.v false [.im 0 _]) (L_spec_l01Name hx50) (.inl j) j kF87_9 j (ppC j pp0) j j pb0 j j j)) trivial (t j j (oUn j j j)<|t j j (oMv j j)<|tT j j j j (nF (iR.2 hc22)) (oMv j j)<|tT j j j j (nF (iR.2 hc22)) (oBi j j j j)<|tT j j j j (nF (iR.2 hc22)) (oMv j j)<|tT j j j j (iDec.2 hc23) (oMv j j)<|tT j j j j (iDec.2 hc23) (oNl j j j)<|tT j j j j (iDec.2 hc23) (oFA (r':=.im 2 _) j fF26_3 j j)<|tT j j j j (iDec.2 hc23) (oLd (cs:=[.im 2 _]) j tF24 j j)<|tT j j j j (iDec.2 hc23) (oMv j j)<|tT j j j j (iDec.2 hc23) (oBi j j j j)<|tT j j j j (iDec.2 hc23) (oIAI j hx62 sF24 j j)<|tT j j j j (iDec.2 hc23) (oFA (r':=.im 2 _) j fF139_0 j j)<|tT j j j j (iDec.2 hc23) (oLd (cs:=[.im 2 _]) j tF9 j j)<|tT j j j j (iDec.2 hc23) (oMv j j)<|tT j j j j (iDec.2 hc23) (oNl j j j)<|tT j j j j (iDec.2 hc23) (oFA (r':=.im 2 _) j fF26_3 j j)<|tT j j j j (iDec.2 hc23) (oLd (cs:=[.im 2 _]) j tF24 j j)<|tT j j j j (iDec.2 hc23) (oMv j j)<|tT j j j j (iDec.2 hc23) (oIAI j hx70 sF24 j j)<|tT j j j j (iDec.2 hc23) (oFA (r':=.im 2 _) j fF139_0 j j)<|tT j j j j (iDec.2 hc23) (oLd (cs:=[.im 2 _]) j tF9 j j)<|tT j j j j (iDec.2 hc23) (oBi j j j j)<|tT j j j j (nF (iR.2 hc22)) (oPkT j j (iDec.2 hc23) j)<|t j j (oPkF j j (nF (iR.2 hc22)) j)<|sD (by kernel_rfl))
       ·cases hm28
        exact t j j (oLd (cs:=[.im 2 _]) j tF9 j j)<|sS (dN z41 j (oCa (xs:=[.v false [.im 2 _]]) (vs:=[(false,[.im 0 _])]) (v:=.v false [.im 0 _]) (L_spec_l01Name hx50) (.inl j) j kF87_9 j (ppC j pp0) j j pb0 j j j)) trivial (t j j (oUn j j j)<|t j j (oMv j j)<|tT j j j j (nF (iR.2 hc22)) (oMv j j)<|tT j j j j (nF (iR.2 hc22)) (oBi j j j j)<|tT j j j j (nF (iR.2 hc22)) (oMv j j)<|tF j j j j (byF iDec hc23) j<|tF j j j j (byF iDec hc23) j<|tF j j j j (byF iDec hc23) j<|tF j j j j (byF iDec hc23) j<|tF j j j j (byF iDec hc23) j<|tF j j j j (byF iDec hc23) j<|tF j j j j (byF iDec hc23) j<|tF j j j j (byF iDec hc23) j<|tF j j j j (byF iDec hc23) j<|tF j j j j (byF iDec hc23) j<|tF j j j j (byF iDec hc23) j<|tF j j j j (byF iDec hc23) j<|tF j j j j (byF iDec hc23) j<|tF j j j j (byF iDec hc23) j<|tF j j j j (byF iDec hc23) j<|tF j j j j (byF iDec hc23) j<|tF j j j j (byF iDec hc23) j<|tF j j j j (byF iDec hc23) j<|tT j j j j (nF (iR.2 hc22)) (oPkF j j (byF iDec hc23) j)<|t j j (oPkF j j (nF (iR.2 hc22)) j)<|sD (by kernel_rfl))
      ·cases hm28
       exact t j j (oLd (cs:=[.im 2 _]) j tF9 j j)<|sS (dN z41 j (oCa (xs:=[.v false [.im 2 _]]) (vs:=[(false,[.im 0 _])]) (v:=.v false [.im 0 _]) (L_spec_l01Name hx50) (.inl j) j kF87_9 j (ppC j pp0) j j pb0 j j j)) trivial (t j j (oUn j j j)<|t j j (oMv j j)<|tF j j j j (nT (byF iR hc22)) j<|tF j j j j (nT (byF iR hc22)) j<|tF j j j j (nT (byF iR hc22)) j<|sT j (dU j j j j)<|sT j (dU j j j j)<|sT j (dU j j j j)<|sT j (dU j j j j)<|sT j (dU j j j j)<|sT j (dU j j j j)<|sT j (dU j j j j)<|sT j (dU j j j j)<|sT j (dU j j j j)<|sT j (dU j j j j)<|sT j (dU j j j j)<|sT j (dU j j j j)<|sT j (dU j j j j)<|sT j (dU j j j j)<|sT j (dU j j j j)<|sT j (dU j j j j)<|sT j (dU j j j j)<|sT j (dU j j j j)<|tF j j j j (nT (byF iR hc22)) j<|t j j (oPkT j j (nT (byF iR hc22)) j)<|sD (by kernel_rfl))
     ·refine us<|gc h j iR (fun hc24 h=>?_) fun hc24 h=>?_
      ·refine gs<|g0 j j (q (oAsI j j)<|nl)<|us<|Go.ret (Unw.ret ?_)
       cases h
       exact ⟨j,(fo rF41 j)⟩
      ·refine Go.skip<|us<|gs<|?_
       obtain ⟨x83,hx83,h⟩:=bs h
       obtain ⟨x86,hx86,h⟩:=bs h
       refine g0 j j (q (oMv j j)<|q (oMv j j)<|q (oNl j j j)<|q (oFA (r':=.im 2 _) j fF26_3 j j)<|q (oLd (cs:=[.im 2 _]) j tF24 j j)<|q (oMv j j)<|q (oIAI j hx83 sF24 j j)<|q (oFA (r':=.im 2 _) j fF139_1 j j)<|q (oLd (cs:=[.im 2 _]) j tF28 j j)<|q (oCr (xs:=[.v false [.im 2 _],.v false [.im 2 _]]) (vs:=[(false,[.own 86 0 0]),(false,[.im 0 _])]) (v:=.tup [(false,[.own 86 0 0]),(false,[.im 0 _])]) (c:=⟨.sh,0,_⟩) (cs:=[]) (L_spec_l05Ring hx86) (.inl j) j kF88_78_28 j (ppC j (ppC j pp0)) j j pb0 j j j)<|q (oMvT j j)<|q (oEx j j j)<|q (oEx j j j)<|q (oAsO j j j j j)<|q (oAsI j j)<|nl)<|us<|gs<|?_
       obtain ⟨t_95_m9,hm27,h⟩:=bs h
       refine gX c41 j j j (mk [(0,D 2 (.cp (u_S_Drawing d_0) 0)),(3,iv i_3_l4),(95,bv t_95_m9)] []) ?_ ?_
       ·refine xq (oMv j j)<|xq (oUn j j j)<|xq (oMv j j)<|?_
        refine ic hm27 (fun hc25 hm27=>?_) fun hc25 hm27=>?_
        ·obtain ⟨x93,hx93,hm27⟩:=bs hm27
         cases hm27
         exact xqT j j (nF (iR.2 hc25)) (oMv j j)<|xqT j j (nF (iR.2 hc25)) (oCa (xs:=[.v false [.own 4 0 0]]) (vs:=[(false,[.im 0 _])]) (v:=.v false [.im 0 _]) (L_spec_l03Ok hx93) (.inl j) j kF89_23 j (ppC j pp0) j j pb0 j j j)<|xqT j j (nF (iR.2 hc25)) (oUn j j j)<|xq (oPkF j j (nF (iR.2 hc25)) j)<|xn
        ·cases hm27
         exact xsgF j j (nT (byF iR hc25)) j<|xsgF j j (nT (byF iR hc25)) j<|xsgF j j (nT (byF iR hc25)) j<|xq (oPkT j j (nT (byF iR hc25)) j)<|xn
       ·refine us<|gc h j iR (fun hc26 h=>?_) fun hc26 h=>?_
        ·refine gs<|g0 j j (q (oAsI j j)<|nl)<|us<|Go.ret (Unw.ret ?_)
         cases h
         exact ⟨j,(fo rF41 j)⟩
        ·refine Go.skip<|Unw.blk<|us<|g0 j j (q (oMv j j)<|q (oBi j j j j)<|q (oAsI j j)<|nl)<|Unw.nil<|?_
         cases h
         exact ⟨j,(by kernel_rfl)⟩
    ·refine Go.exit<|ux<|Unw.nil<|?_
     cases h
     exact ⟨j,(by kernel_rfl)⟩
   ·rintro ⟨e,st⟩ hp
    rcases o with u | r2
    ·dsimp only at h
     obtain ⟨he,hst⟩:=hp
     obtain rfl:e= .exit 0:=he
     refine Unw.blkx<|us<|gs<|g2 c41 j j hst (q (oAsI j j)<|nl)<|us<|Go.ret (Unw.ret ?_)
     cases h
     exact fr rF41 j
    ·dsimp only at h
     obtain ⟨he,hfin⟩:=hp
     obtain rfl:e= .ret:=he
     cases h
     exact Unw.ret (Fin_ret hfin)
theorem L_spec_R8Panel {code_0:(List Int)} {r:S_Drawing} (h:spec_R8Panel code_0=some r):FX 7 [.im 2 false [W 1 (eK .u8) code_0]] (B0 [(true,[.im 0 (I r.Width),.im 0 (I r.Height),.ow 0 2 (List.map e_S_Point r.Points),.ow 0 2 (List.map e_S_Face r.Faces)])]):=by
 unfold spec_R8Panel at h
 refine gn 14 Try.func7 rfl ?_
 refine gs<|g0 j j (q (oAl j tF26 (tkI (tkI (tkN (tkN tk0)))))<|nl)<|us<|gs<|?_
 obtain ⟨x6,hx6,h⟩:=bs h
 refine g0 j j (q (oMv j j)<|q (oCp (xs:=[.v false [.im 2 _]]) (L_spec_l00From hx6) (.inl j) j kF39_22 j (ppC j pp0) j j pb0 j)<|q (oAsP j j)<|nl)<|us<|gs<|?_
 obtain ⟨x8,hx8,h⟩:=bs h
 refine g0 j j (q (oMv j j)<|q (oCr (xs:=[.v false [.mp 6 0 0]]) (vs:=[(true,[.im 0 _,.im 0 _,.own 8 0 0,.own 8 0 1])]) (v:=.v true [.im 0 _,.im 0 _,.own 8 0 0,.own 8 0 1]) (c:=⟨.sh,0,_⟩) (cs:=[⟨.sh,0,_⟩]) (L_spec_l23Draw hx8) (.inl j) j kF40_74 j (ppP j j j pp0) j j (pbP j j pb0) j j j)<|q (oAl j tF26 (tkI (tkI (tkN (tkN tk0)))))<|q (oSt tF26 j j j (tkI (tkI (tkO j j (tkO j j tk0)))) j j j)<|nl)<|us<|gs<|gs<|?_
 obtain ⟨x9,hx9,h⟩:=bs h
 refine g1 j j (mk [(2,M 2),(3,M 6),(4,M 4)] [(2,Oa [C (I 0),C (I 0),Z (W 2 e_S_Point ([]:List S_Point)),Z (W 2 e_S_Face ([]:List S_Face))]),(4,Oa [C (I x8.1.Width),C (I x8.1.Height),Z (W 2 e_S_Point x8.1.Points),Z (W 2 e_S_Face x8.1.Faces)]),(6,Oa (G 2 (u_S_l00Src x8.2)))]) (q (oCa (xs:=[.v false [.mp 4 0 0]]) (vs:=[(false,[.im 0 _])]) (v:=.v false [.im 0 _]) (L_spec_l05Ok hx9) (.inl j) j kF41_78 j (ppC j pp0) j j pb0 j j j)<|q (oUn j j j)<|nl)<|us<|?_
 by_cases hc1:x9=true
 ·rw [if_pos hc1] at h
  refine gF j (nF (iR.2 hc1))<|Go.skip<|us<|gs<|g0 j j (q (oLd (cs:=[.im 0 _,.im 0 _,.own 4 0 2,.own 4 0 3]) j tF26 j j)<|q (oSt tF26 j j j (tkI (tkI (tkO j j (tkO j j tk0)))) j j j)<|nl)<|us<|Go.ret (Unw.ret ?_)
  cases h
  exact fr rF7 j
 ·rw [if_neg hc1] at h
  refine gT j (nT (byF iR hc1))<|gs<|?_
  obtain ⟨x12,hx12,h⟩:=bs h
  refine g0 j j (q (oMv j j)<|q (oCr (xs:=[.v false [.mp 6 0 0]]) (vs:=[(true,[.im 0 _,.im 0 _,.own 12 0 0,.own 12 0 1])]) (v:=.v true [.im 0 _,.im 0 _,.own 12 0 0,.own 12 0 1]) (c:=⟨.sh,0,_⟩) (cs:=[⟨.sh,0,_⟩]) (L_spec_l05Draw hx12) (.inl j) j kF42_74 j (ppP j j j pp0) j j (pbP j j pb0) j j j)<|q (oSt tF26 j j j (tkI (tkI (tkO j j (tkO j j tk0)))) j j j)<|nl)<|us<|Go.ret (Unw.ret ?_)
  cases h
  exact fr rF7 j
theorem L_impl_within {n_0:Int} {low_1:Int} {high_2:Int} {r:Bool} (h:impl_within n_0 low_1 high_2=some r):FX 66 [.im 2 false [I n_0],.im 2 false [I low_1],.im 2 false [I high_2]] (B0 [(false,[.im 0 (V r)])]):=by
 unfold impl_within at h
 refine gn 15 Try.func66 rfl ?_
 refine gs<|g0 j j (q (oAsI j j)<|nl)<|us<|gs<|gX c66 j j j (mk [(6,bv ((decide (n_0≥low_1))&&(decide (n_0≤high_2))))] []) ?_ ?_
 ·refine xq (oMv j j)<|xq (oMv j j)<|xq (oBi j j j j)<|xq (oMv j j)<|?_
  by_cases hc1:n_0≥low_1
  ·exact xqT rfl rfl (iDec.2 hc1) (oMv rfl rfl)<|xqT rfl rfl (iDec.2 hc1) (oMv rfl rfl)<|xqT rfl rfl (iDec.2 hc1) (oBi rfl rfl rfl rfl)<|xq (oPkT rfl rfl (iDec.2 hc1) rfl)<|xq (oAsI rfl rfl)<|xn (Eq.trans (b:=(fun t_6_m1:Bool=>mk [(6,bv t_6_m1)] []) (decide (n_0≤high_2))) (by kernel_rfl) (congrArg (fun t_6_m1:Bool=>mk [(6,bv t_6_m1)] []) (by first | rfl | (simp [(iDec.2 hc1)];done) | (simp [(iDec.2 hc1)];omega))))
  ·exact xsgF rfl rfl (byF iDec hc1) rfl<|xsgF rfl rfl (byF iDec hc1) rfl<|xsgF rfl rfl (byF iDec hc1) rfl<|xq (oPkF rfl rfl (byF iDec hc1) rfl)<|xq (oAsI rfl rfl)<|xn (Eq.trans (b:=(fun t_6_m1:Bool=>mk [(6,bv t_6_m1)] []) false) (by kernel_rfl) (congrArg (fun t_6_m1:Bool=>mk [(6,bv t_6_m1)] []) (by first | rfl | (simp [(byF iDec hc1)];done) | (simp [(byF iDec hc1)];omega))))
 ·refine us<|Go.ret (Unw.ret ?_)
  cases h
  exact fr rF66 j
theorem L_slices_Index_impl_Point_impl_Point {s_0:(List S_Point)} {v_1:S_Point} {r:Int} (h:slices_Index_impl_Point_impl_Point s_0 v_1=some r):FX 150 [.im 2 false [W 2 e_S_Point s_0],.im 2 true (u_S_Point v_1)] (B0 [(false,[.im 0 (I r)])]):=by
 unfold slices_Index_impl_Point_impl_Point at h
 refine gn 19 Try.func150 rfl ?_
 refine gs<|g0 j j (q (oBx j tF145 j (tkI (tkI tk0)))<|q (oAsI j j)<|nl)<|us<|gs<|gs<|g0 j j (q (oMv j j)<|q (oLnI j j uF23 j)<|q (oMv j j)<|nl)<|us<|Go.block<|?_
 obtain ⟨o,hl,h⟩:=bs h
 refine gl c150 j _ (fun (t_8_l2:Int)=>mk [(0,D 2 (W 2 e_S_Point s_0)),(3,M 3),(7,iv (s_0.length:Int)),(8,iv t_8_l2)] [(3,Oa (G 0 (u_S_Point v_1)))]) (fun (o:(Unit ⊕ Int)) (p:Ex×St)=>match o with | (.inl _)=>p.1= .exit 0∧p.2.norm ([],[])=mk [] [] | (.inr r2)=>p.1= .ret∧fin Try.prog cfg 150 Try.f150 [.im 2 false [W 2 e_S_Point s_0],.im 2 true (u_S_Point v_1)] p.2=some (B0 [(false,[.im 0 (I r2)])])) hl (by kernel_rfl) ?_ ?_ ?_
 ·intro o p hp e
  rcases o with u | r2<;>exact nomatch (hp.1.symm.trans e)
 ·rintro t_8_l2 o h
  unfold slices_Index_impl_Point_impl_Point_l2 at h
  refine gs<|g0 j j (q (oBi j j j j)<|nl)<|us<|gs<|gc h j iDec (fun hc5 h=>?_) fun hc5 h=>?_
  ·refine Go.skip<|us<|gs<|Go.block<|gs<|g0 j j (q (oMv j j)<|q (oAsI j j)<|nl)<|us<|gs<|?_
   obtain ⟨x14,hx14,h⟩:=bs h
   refine gd c150 j j j j (mk [(0,D 2 (W 2 e_S_Point s_0)),(3,M 3),(5,iv t_8_l2),(7,iv (s_0.length:Int)),(8,iv t_8_l2),(16,bv ((v_1.X==x14.X)&&(v_1.Y==x14.Y)))] [(3,Oa (G 0 (u_S_Point v_1)))]) (t j j (oLd (cs:=[.im 0 _,.im 0 _]) j tF145 j j)<|t j j (oMv j j)<|t j j (oMv j j)<|t j j (oIAI j hx14 sF23 j j)<|t j j (oLd (cs:=[.im 2 _,.im 2 _]) j tF145 j j)<|t j j (oBa j (qEF145 v_1.X v_1.Y x14.X x14.Y) j j j j)<|sD (by kernel_rfl))<|us<|gc h j (iAnd iEq iEq) (fun hc6 h=>?_) fun hc6 h=>?_
   ·refine gs<|g0 j j (q (oMv j j)<|q (oAsI j j)<|nl)<|us<|Go.ret (Unw.ret ?_)
    cases h
    exact ⟨j,(fo rF150 j)⟩
   ·refine Go.skip<|Unw.blk<|us<|g0 j j (q (oBi j j j j)<|q (oMv j j)<|nl)<|Unw.nil<|?_
    cases h
    exact ⟨j,(by kernel_rfl)⟩
  ·refine Go.exit<|ux<|Unw.nil<|?_
   cases h
   exact ⟨j,(by kernel_rfl)⟩
 ·rintro ⟨e,st⟩ hp
  rcases o with u | r2
  ·dsimp only at h
   obtain ⟨he,hst⟩:=hp
   obtain rfl:e= .exit 0:=he
   refine Unw.blkx<|us<|gs<|g2 c150 j j hst (q (oAsI j j)<|nl)<|us<|Go.ret (Unw.ret ?_)
   cases h
   exact fr rF150 j
  ·dsimp only at h
   obtain ⟨he,hfin⟩:=hp
   obtain rfl:e= .ret:=he
   cases h
   exact Unw.ret (Fin_ret hfin)
theorem L_slices_Contains_impl_Point_impl_Point {s_0:(List S_Point)} {v_1:S_Point} {r:Bool} (h:slices_Contains_impl_Point_impl_Point s_0 v_1=some r):FX 92 [.im 2 false [W 2 e_S_Point s_0],.im 2 true (u_S_Point v_1)] (B0 [(false,[.im 0 (V r)])]):=by
 unfold slices_Contains_impl_Point_impl_Point at h
 refine gn 9 Try.func92 rfl ?_
 refine gs<|g0 j j (q (oBx j tF145 j (tkI (tkI tk0)))<|q (oAsI j j)<|nl)<|us<|gs<|?_
 obtain ⟨x7,hx7,h⟩:=bs h
 refine g0 j j (q (oMv j j)<|q (oLd (cs:=[.im 0 _,.im 0 _]) j tF145 j j)<|q (oCa (xs:=[.v false [.im 2 _],.v true [.im 0 _,.im 0 _]]) (vs:=[(false,[.im 0 _])]) (v:=.v false [.im 0 _]) (L_slices_Index_impl_Point_impl_Point hx7) (.inl j) j kF150_23_145 j (ppC j (ppC j pp0)) j j pb0 j j j)<|q (oBi j j j j)<|q (oAsI j j)<|nl)<|us<|Go.ret (Unw.ret ?_)
 cases h
 exact fr rF92 j
theorem L_impl_IsName {s_0:ByteArray} {r:Bool} (h:impl_IsName s_0=some r):FX 93 [.im 2 false [Y s_0]] (B0 [(false,[.im 0 (V r)])]):=by
 unfold impl_IsName at h
 refine gn 50 Try.func93 rfl ?_
 refine gs<|g0 j j (q (oAsI j j)<|nl)<|us<|gs<|gs<|?_
 obtain ⟨t_21_m1,hm26,h⟩:=bs h
 refine gX c93 j j j (mk [(0,sv s_0),(21,bv t_21_m1)] []) ?_ ?_
 ·refine xq (oMv j j)<|xq (oLnS j j uF9 j)<|xq (oBi j j j j)<|xq (oMv j j)<|?_
  refine ic hm26 (fun hc1 hm26=>?_) fun hc1 hm26=>?_
  ·cases hm26
   exact xsgF j j (iDec.2 hc1) j<|xsgF j j (iDec.2 hc1) j<|xsgF j j (iDec.2 hc1) j<|xq (oPkT j j (iDec.2 hc1) j)<|xq (oMv j j)<|xsgF j j j j<|xsgF j j j j<|xsgF j j j j<|xq (oPkT j j j j)<|xq (oMv j j)<|xsgF j j j j<|xsgF j j j j<|xsgF j j j j<|xq (oPkT j j j j)<|xn
  ·refine xqT j j (byF iDec hc1) (oMv j j)<|xqT j j (byF iDec hc1) (oLnS j j uF9 j)<|xqT j j (byF iDec hc1) (oBi j j j j)<|xq (oPkF j j (byF iDec hc1) j)<|xq (oMv j j)<|?_
   refine ic hm26 (fun hc2 hm26=>?_) fun hc2 hm26=>?_
   ·cases hm26
    exact xsgF j j (iDec.2 hc2) j<|xsgF j j (iDec.2 hc2) j<|xsgF j j (iDec.2 hc2) j<|xq (oPkT j j (iDec.2 hc2) j)<|xq (oMv j j)<|xsgF j j j j<|xsgF j j j j<|xsgF j j j j<|xq (oPkT j j j j)<|xn
   ·obtain ⟨x14,hx14,hm26⟩:=bs hm26
    refine xqT j j (byF iDec hc2) (oMv j j)<|xqT j j (byF iDec hc2) (oIx j hx14 uF9 j j)<|xqT j j (byF iDec hc2) (oBi j j j j)<|xq (oPkF j j (byF iDec hc2) j)<|xq (oMv j j)<|?_
    refine ic hm26 (fun hc3 hm26=>?_) fun hc3 hm26=>?_
    ·cases hm26
     exact xsgF j j (iDec.2 hc3) j<|xsgF j j (iDec.2 hc3) j<|xsgF j j (iDec.2 hc3) j<|xq (oPkT j j (iDec.2 hc3) j)<|xn
    ·obtain ⟨x19,hx19,hm26⟩:=bs hm26
     cases hm26
     exact xqT j j (byF iDec hc3) (oMv j j)<|xqT j j (byF iDec hc3) (oIx j hx19 uF9 j j)<|xqT j j (byF iDec hc3) (oBi j j j j)<|xq (oPkF j j (byF iDec hc3) j)<|xn
 ·refine us<|gc h j iR (fun hc4 h=>?_) fun hc4 h=>?_
  ·refine gs<|g0 j j (q (oAsI j j)<|nl)<|us<|Go.ret (Unw.ret ?_)
   cases h
   exact fr rF93 j
  ·refine Go.skip<|us<|gs<|gs<|g0 j j (q (oAsI j j)<|nl)<|us<|Go.block<|?_
   obtain ⟨o,hl,h⟩:=bs h
   refine gl c93 j _ (fun (i_3_l4:Int)=>mk [(0,sv s_0),(3,iv i_3_l4)] []) (fun (o:(Unit ⊕ Bool)) (p:Ex×St)=>match o with | (.inl _)=>p.1= .exit 0∧p.2.norm ([],[])=mk [] [] | (.inr r2)=>p.1= .ret∧fin Try.prog cfg 93 Try.f93 [.im 2 false [Y s_0]] p.2=some (B0 [(false,[.im 0 (V r2)])])) hl (by kernel_rfl) ?_ ?_ ?_
   ·intro o p hp e
    rcases o with u | r2<;>exact nomatch (hp.1.symm.trans e)
   ·rintro i_3_l4 o h
    unfold impl_IsName_l4 at h
    refine gs<|gs<|g0 j j (q (oMv j j)<|q (oMv j j)<|q (oLnS j j uF9 j)<|q (oBi j j j j)<|nl)<|us<|gc h j iDec (fun hc19 h=>?_) fun hc19 h=>?_
    ·refine Go.skip<|us<|gs<|Go.block<|gs<|?_
     obtain ⟨x30,hx30,h⟩:=bs h
     obtain ⟨t_49_m6,hm25,h⟩:=bs h
     refine gX c93 j j j (mk [(0,sv s_0),(3,iv i_3_l4),(49,bv t_49_m6)] []) ?_ ?_
     ·refine xq (oMv j j)<|xq (oMv j j)<|xq (oIx j hx30 uF9 j j)<|xq (oBi j j j j)<|xq (oMv j j)<|?_
      refine ic hm25 (fun hc20 hm25=>?_) fun hc20 hm25=>?_
      ·obtain ⟨x41,hx41,hm25⟩:=bs hm25
       refine xsgF j j (iDec.2 hc20) j<|xsgF j j (iDec.2 hc20) j<|xsgF j j (iDec.2 hc20) j<|xsgF j j (iDec.2 hc20) j<|xq (oPkT j j (iDec.2 hc20) j)<|xq (oMv j j)<|xqT j j j (oMv j j)<|xqT j j j (oMv j j)<|xqT j j j (oIx j hx41 uF9 j j)<|xqT j j j (oBi j j j j)<|xqT j j j (oMv j j)<|?_
       refine ic hm25 (fun hc21 hm25=>?_) fun hc21 hm25=>?_
       ·cases hm25
        exact xsgF j j (iDec.2 hc21) j<|xsgF j j (iDec.2 hc21) j<|xsgF j j (iDec.2 hc21) j<|xsgF j j (iDec.2 hc21) j<|xqT j j j (oPkT j j (iDec.2 hc21) j)<|xq (oPkT j j j j)<|xn
       ·obtain ⟨x46,hx46,hm25⟩:=bs hm25
        cases hm25
        exact xqT j j (byF iDec hc21) (oMv j j)<|xqT j j (byF iDec hc21) (oMv j j)<|xqT j j (byF iDec hc21) (oIx j hx46 uF9 j j)<|xqT j j (byF iDec hc21) (oBi j j j j)<|xqT j j j (oPkF j j (byF iDec hc21) j)<|xq (oPkT j j j j)<|xn
      ·obtain ⟨x35,hx35,hm25⟩:=bs hm25
       refine xqT j j (byF iDec hc20) (oMv j j)<|xqT j j (byF iDec hc20) (oMv j j)<|xqT j j (byF iDec hc20) (oIx j hx35 uF9 j j)<|xqT j j (byF iDec hc20) (oBi j j j j)<|xq (oPkF j j (byF iDec hc20) j)<|xq (oMv j j)<|?_
       refine ic hm25 (fun hc22 hm25=>?_) fun hc22 hm25=>?_
       ·obtain ⟨x41,hx41,hm25⟩:=bs hm25
        refine xqT j j (iDec.2 hc22) (oMv j j)<|xqT j j (iDec.2 hc22) (oMv j j)<|xqT j j (iDec.2 hc22) (oIx j hx41 uF9 j j)<|xqT j j (iDec.2 hc22) (oBi j j j j)<|xqT j j (iDec.2 hc22) (oMv j j)<|?_
        refine ic hm25 (fun hc23 hm25=>?_) fun hc23 hm25=>?_
        ·cases hm25
         exact xsgF j j (iDec.2 hc23) j<|xsgF j j (iDec.2 hc23) j<|xsgF j j (iDec.2 hc23) j<|xsgF j j (iDec.2 hc23) j<|xqT j j (iDec.2 hc22) (oPkT j j (iDec.2 hc23) j)<|xq (oPkT j j (iDec.2 hc22) j)<|xn
        ·obtain ⟨x46,hx46,hm25⟩:=bs hm25
         cases hm25
         exact xqT j j (byF iDec hc23) (oMv j j)<|xqT j j (byF iDec hc23) (oMv j j)<|xqT j j (byF iDec hc23) (oIx j hx46 uF9 j j)<|xqT j j (byF iDec hc23) (oBi j j j j)<|xqT j j (iDec.2 hc22) (oPkF j j (byF iDec hc23) j)<|xq (oPkT j j (iDec.2 hc22) j)<|xn
       ·cases hm25
        exact xsgF j j (byF iDec hc22) j<|xsgF j j (byF iDec hc22) j<|xsgF j j (byF iDec hc22) j<|xsgF j j (byF iDec hc22) j<|xsgF j j (byF iDec hc22) j<|xsgU j j j<|xsgU j j j<|xsgU j j j<|xsgU j j j<|xsgF j j (byF iDec hc22) j<|xq (oPkF j j (byF iDec hc22) j)<|xn
     ·refine us<|gc h j iR (fun hc24 h=>?_) fun hc24 h=>?_
      ·refine gs<|g0 j j (q (oAsI j j)<|nl)<|us<|Go.ret (Unw.ret ?_)
       cases h
       exact ⟨j,(fo rF93 j)⟩
      ·refine Go.skip<|Unw.blk<|us<|g0 j j (q (oMv j j)<|q (oBi j j j j)<|q (oAsI j j)<|nl)<|Unw.nil<|?_
       cases h
       exact ⟨j,(by kernel_rfl)⟩
    ·refine Go.exit<|ux<|Unw.nil<|?_
     cases h
     exact ⟨j,(by kernel_rfl)⟩
   ·rintro ⟨e,st⟩ hp
    rcases o with u | r2
    ·dsimp only at h
     obtain ⟨he,hst⟩:=hp
     obtain rfl:e= .exit 0:=he
     refine Unw.blkx<|us<|gs<|g2 c93 j j hst (q (oAsI j j)<|nl)<|us<|Go.ret (Unw.ret ?_)
     cases h
     exact fr rF93 j
    ·dsimp only at h
     obtain ⟨he,hfin⟩:=hp
     obtain rfl:e= .ret:=he
     cases h
     exact Unw.ret (Fin_ret hfin)
theorem L_impl_ringPolygon {points_0:(List S_Point)} {ring_1:(List Int)} {r:((List S_Point)×Bool)} (h:impl_ringPolygon points_0 ring_1=some r):FX 94 [.im 2 false [W 2 e_S_Point points_0],.im 2 false [W 1 eI ring_1]] (B0 [(false,[.ow 0 2 (List.map e_S_Point r.1)]),(false,[.im 0 (V r.2)])]):=by
 unfold impl_ringPolygon at h
 refine gn 31 Try.func94 rfl ?_
 refine gs<|g0 j j (q (oAsN j j eF23)<|q (oAsI j j)<|nl)<|us<|gs<|g0 j j (q (oBS (es:=List.map e_S_Point ([]:List S_Point)) j sF23 j pt0 (flat0 j fun _=>j))<|q (oAsO j j j j j)<|nl)<|us<|gs<|gs<|g0 j j (q (oMv j j)<|q (oLnI j j uF28 j)<|q (oMv j j)<|nl)<|us<|Go.block<|?_
 obtain ⟨o,hl,h⟩:=bs h
 refine gl c94 j _ (fun (s:(Int×(List S_Point)))=>match s with | (t_12_l3,out_o6_l3)=>mk [(0,D 2 (W 2 e_S_Point points_0)),(6,H 6 0),(10,D 2 (W 1 eI ring_1)),(11,iv (ring_1.length:Int)),(12,iv t_12_l3)] [(6,Oc [Z (W 2 e_S_Point out_o6_l3)])]) (fun (o:((List S_Point) ⊕ ((List S_Point)×Bool))) (p:Ex×St)=>match o with | (.inl out_o6_e0_3)=>p.1= .exit 0∧p.2.norm ([6],[6])=mk [(6,H 6 0)] [(6,Oc [Z (W 2 e_S_Point out_o6_e0_3)])] | (.inr r2)=>p.1= .ret∧fin Try.prog cfg 94 Try.f94 [.im 2 false [W 2 e_S_Point points_0],.im 2 false [W 1 eI ring_1]] p.2=some (B0 [(false,[.ow 0 2 (List.map e_S_Point r2.1)]),(false,[.im 0 (V r2.2)])])) hl (by kernel_rfl) ?_ ?_ ?_
 ·intro o p hp e
  rcases o with out_o6_e0_3 | r2<;>exact nomatch (hp.1.symm.trans e)
 ·rintro ⟨t_12_l3,out_o6_l3⟩ o h
  unfold impl_ringPolygon_l3 at h
  dsimp only at h
  refine gs<|g0 j j (q (oBi j j j j)<|nl)<|us<|gs<|gc h j iDec (fun hc5 h=>?_) fun hc5 h=>?_
  ·refine Go.skip<|us<|gs<|Go.block<|gs<|?_
   obtain ⟨x14,hx14,h⟩:=bs h
   refine g0 j j (q (oIAI j hx14 sF28 j j)<|q (oLd (cs:=[.im 2 _]) j tF2 j j)<|q (oAsI j j)<|nl)<|us<|gs<|gs<|?_
   obtain ⟨x20,hx20,h⟩:=bs h
   refine g0 j j (q (oMv j j)<|q (oMv j j)<|q (oLnI j j uF23 j)<|q (oBi j j j j)<|q (oCa (xs:=[.v false [.im 2 _],.v false [.im 0 _],.v false [.im 0 _]]) (vs:=[(false,[.im 0 _])]) (v:=.v false [.im 0 _]) (L_impl_within hx20) (.inl j) j kF66_2_2_2 j (ppC j (ppC j (ppC j pp0))) j j pb0 j j j)<|q (oUn j j j)<|nl)<|us<|?_
   by_cases hc6:x20=true
   ·rw [if_pos hc6] at h
    refine gF j (nF (iR.2 hc6))<|Go.skip<|us<|?_
    obtain ⟨x25,hx25,h⟩:=bs h
    obtain ⟨x28,hx28,h⟩:=bs h
    refine g0 j j (q (oMv j j)<|q (oMv j j)<|q (oMv j j)<|q (oIAI j hx25 sF23 j j)<|q (oLd (cs:=[.im 2 _,.im 2 _]) j tF145 j j)<|q (oBS (es:=List.map e_S_Point ([x25]:List S_Point)) j sF23 j (ptC j (fxI (fxI fx0)) j pt0) (flat0 j fun _=>j))<|q (oApO (en:=e_S_Point) (M:=([x25]:List S_Point)) j hx28 j sF23 j j uF23 (.inl ⟨_,j⟩) j j j j (el_own j j) (flat0 j fun _=>j))<|q (oAsO j j j j j)<|nl)<|Unw.blk<|us<|g0 j j (q (oBi j j j j)<|q (oMv j j)<|nl)<|Unw.nil<|?_
    cases h
    exact ⟨j,(by kernel_rfl)⟩
   ·rw [if_neg hc6] at h
    refine gT j (nT (byF iR hc6))<|gs<|g0 j j (q (oAsN j j eF23)<|q (oAsI j j)<|nl)<|us<|Go.ret (Unw.ret ?_)
    cases h
    exact ⟨j,(fo rF94 j)⟩
  ·refine Go.exit<|ux<|Unw.nil<|?_
   cases h
   exact ⟨j,(by kernel_rfl)⟩
 ·rintro ⟨e,st⟩ hp
  rcases o with out_o6_e0_3 | r2
  ·dsimp only at h
   obtain ⟨he,hst⟩:=hp
   obtain rfl:e= .exit 0:=he
   refine Unw.blkx<|us<|gs<|g2 c94 j j hst (q (oMv j j)<|q (oAsO j j j j j)<|q (oAsI j j)<|nl)<|us<|Go.ret (Unw.ret ?_)
   cases h
   exact fr rF94 j
  ·dsimp only at h
   obtain ⟨he,hfin⟩:=hp
   obtain rfl:e= .ret:=he
   cases h
   exact Unw.ret (Fin_ret hfin)
theorem L_impl_ValidPoint {p_0:S_Point} {r:Bool} (h:impl_ValidPoint p_0=some r):FX 191 [.im 2 true (u_S_Point p_0)] (B0 [(false,[.im 0 (V r)])]):=by
 unfold impl_ValidPoint at h
 refine gn 11 Try.func191 rfl ?_
 refine gs<|g0 j j (q (oBx j tF145 j (tkI (tkI tk0)))<|q (oAsI j j)<|nl)<|us<|gs<|?_
 obtain ⟨x5,hx5,h⟩:=bs h
 obtain ⟨t_2_m1,hm2,h⟩:=bs h
 refine gX c191 j j j (mk [(2,bv t_2_m1)] []) ?_ ?_
 ·refine xq (oFA (r':=.mp 1 0 0) j fF145_0 j j)<|xq (oLd (cs:=[.im 0 _]) j tF2 j j)<|xq (oCa (xs:=[.v false [.im 0 _],.v false [.im 0 _],.v false [.im 0 _]]) (vs:=[(false,[.im 0 _])]) (v:=.v false [.im 0 _]) (L_impl_within hx5) (.inl j) j kF66_2_2_2 j (ppC j (ppC j (ppC j pp0))) j j pb0 j j j)<|xq (oMv j j)<|?_
  refine ic hm2 (fun hc1 hm2=>?_) fun hc1 hm2=>?_
  ·obtain ⟨x9,hx9,hm2⟩:=bs hm2
   cases hm2
   exact xqT j j (iR.2 hc1) (oFA (r':=.mp 1 0 1) j fF145_1 j j)<|xqT j j (iR.2 hc1) (oLd (cs:=[.im 0 _]) j tF2 j j)<|xqT j j (iR.2 hc1) (oCa (xs:=[.v false [.im 0 _],.v false [.im 0 _],.v false [.im 0 _]]) (vs:=[(false,[.im 0 _])]) (v:=.v false [.im 0 _]) (L_impl_within hx9) (.inl j) j kF66_2_2_2 j (ppC j (ppC j (ppC j pp0))) j j pb0 j j j)<|xq (oPkT j j (iR.2 hc1) j)<|xq (oAsI j j)<|xn
  ·cases hm2
   exact xsgF j j (byF iR hc1) j<|xsgF j j (byF iR hc1) j<|xsgF j j (byF iR hc1) j<|xq (oPkF j j (byF iR hc1) j)<|xq (oAsI j j)<|xn
 ·refine us<|Go.ret (Unw.ret ?_)
  cases h
  exact fr rF191 j
theorem L_impl_validPoints {list_0:(List S_Point)} {r:Bool} (h:impl_validPoints list_0=some r):FX 151 [.im 2 false [W 2 e_S_Point list_0]] (B0 [(false,[.im 0 (V r)])]):=by
 unfold impl_validPoints at h
 refine gn 15 Try.func151 rfl ?_
 refine gs<|g0 j j (q (oAsI j j)<|nl)<|us<|gs<|gs<|g0 j j (q (oMv j j)<|q (oLnI j j uF23 j)<|q (oMv j j)<|nl)<|us<|Go.block<|?_
 obtain ⟨o,hl,h⟩:=bs h
 refine gl c151 j _ (fun (t_7_l2:Int)=>mk [(5,D 2 (W 2 e_S_Point list_0)),(6,iv (list_0.length:Int)),(7,iv t_7_l2)] []) (fun (o:(Unit ⊕ Bool)) (p:Ex×St)=>match o with | (.inl _)=>p.1= .exit 0∧p.2.norm ([],[])=mk [] [] | (.inr r2)=>p.1= .ret∧fin Try.prog cfg 151 Try.f151 [.im 2 false [W 2 e_S_Point list_0]] p.2=some (B0 [(false,[.im 0 (V r2)])])) hl (by kernel_rfl) ?_ ?_ ?_
 ·intro o p hp e
  rcases o with u | r2<;>exact nomatch (hp.1.symm.trans e)
 ·rintro t_7_l2 o h
  unfold impl_validPoints_l2 at h
  refine gs<|g0 j j (q (oBi j j j j)<|nl)<|us<|gs<|gc h j iDec (fun hc5 h=>?_) fun hc5 h=>?_
  ·refine Go.skip<|us<|gs<|Go.block<|gs<|?_
   obtain ⟨x9,hx9,h⟩:=bs h
   refine g0 j j (q (oIAI j hx9 sF23 j j)<|q (oLd (cs:=[.im 2 _,.im 2 _]) j tF145 j j)<|q (oAl j tF145 (tkI (tkI tk0)))<|q (oSt tF145 j j j (tkI (tkI tk0)) j j j)<|nl)<|us<|gs<|?_
   obtain ⟨x12,hx12,h⟩:=bs h
   refine g1 j j (mk [(4,M 4),(5,D 2 (W 2 e_S_Point list_0)),(6,iv (list_0.length:Int)),(7,iv t_7_l2)] [(4,Oa (G 0 (u_S_Point x9)))]) (q (oLd (cs:=[.im 0 _,.im 0 _]) j tF145 j j)<|q (oCa (xs:=[.v true [.im 0 _,.im 0 _]]) (vs:=[(false,[.im 0 _])]) (v:=.v false [.im 0 _]) (L_impl_ValidPoint hx12) (.inl j) j kF191_145 j (ppC j pp0) j j pb0 j j j)<|q (oUn j j j)<|nl)<|us<|?_
   by_cases hc6:x12=true
   ·rw [if_pos hc6] at h
    refine gF j (nF (iR.2 hc6))<|Go.skip<|Unw.blk<|us<|g0 j j (q (oBi j j j j)<|q (oMv j j)<|nl)<|Unw.nil<|?_
    cases h
    exact ⟨j,(by kernel_rfl)⟩
   ·rw [if_neg hc6] at h
    refine gT j (nT (byF iR hc6))<|gs<|g0 j j (q (oAsI j j)<|nl)<|us<|Go.ret (Unw.ret ?_)
    cases h
    exact ⟨j,(fo rF151 j)⟩
  ·refine Go.exit<|ux<|Unw.nil<|?_
   cases h
   exact ⟨j,(by kernel_rfl)⟩
 ·rintro ⟨e,st⟩ hp
  rcases o with u | r2
  ·dsimp only at h
   obtain ⟨he,hst⟩:=hp
   obtain rfl:e= .exit 0:=he
   refine Unw.blkx<|us<|gs<|g2 c151 j j hst (q (oAsI j j)<|nl)<|us<|Go.ret (Unw.ret ?_)
   cases h
   exact fr rF151 j
  ·dsimp only at h
   obtain ⟨he,hfin⟩:=hp
   obtain rfl:e= .ret:=he
   cases h
   exact Unw.ret (Fin_ret hfin)
theorem L_impl_side {a_0:S_Point} {b_1:S_Point} {c_2:S_Point} {r:Int} (h:impl_side a_0 b_1 c_2=some r):FX 192 [.im 2 true (u_S_Point a_0),.im 2 true (u_S_Point b_1),.im 2 true (u_S_Point c_2)] (B0 [(false,[.im 0 (I r)])]):=by
 unfold impl_side at h
 refine gn 37 Try.func192 rfl ?_
 refine gs<|g0 j j (q (oBx j tF145 j (tkI (tkI tk0)))<|q (oBx j tF145 j (tkI (tkI tk0)))<|q (oBx j tF145 j (tkI (tkI tk0)))<|q (oAsI j j)<|nl)<|us<|gs<|g0 j j (q (oFA (r':=.mp 4 0 0) j fF145_0 j j)<|q (oLd (cs:=[.im 0 _]) j tF2 j j)<|q (oFA (r':=.mp 3 0 0) j fF145_0 j j)<|q (oLd (cs:=[.im 0 _]) j tF2 j j)<|q (oBi j j j j)<|q (oFA (r':=.mp 5 0 1) j fF145_1 j j)<|q (oLd (cs:=[.im 0 _]) j tF2 j j)<|q (oFA (r':=.mp 3 0 1) j fF145_1 j j)<|q (oLd (cs:=[.im 0 _]) j tF2 j j)<|q (oBi j j j j)<|q (oBi j j j j)<|q (oFA (r':=.mp 4 0 1) j fF145_1 j j)<|q (oLd (cs:=[.im 0 _]) j tF2 j j)<|q (oFA (r':=.mp 3 0 1) j fF145_1 j j)<|q (oLd (cs:=[.im 0 _]) j tF2 j j)<|q (oBi j j j j)<|q (oFA (r':=.mp 5 0 0) j fF145_0 j j)<|q (oLd (cs:=[.im 0 _]) j tF2 j j)<|q (oFA (r':=.mp 3 0 0) j fF145_0 j j)<|q (oLd (cs:=[.im 0 _]) j tF2 j j)<|q (oBi j j j j)<|q (oBi j j j j)<|q (oBi j j j j)<|q (oAsI j j)<|nl)<|us<|gs<|Go.block<|gs<|g0 j j (q (oMv j j)<|q (oBi j j j j)<|q (oAsI j j)<|nl)<|us<|gc h j iDec (fun hc1 h=>?_) fun hc1 h=>?_
 ·refine gs<|g0 j j (q (oAsI j j)<|nl)<|us<|Go.ret (Unw.ret ?_)
  cases h
  exact fr rF192 j
 ·refine gs<|g0 j j (q (oMv j j)<|q (oBi j j j j)<|q (oAsI j j)<|nl)<|us<|gc h j iDec (fun hc2 h=>?_) fun hc2 h=>?_
  ·refine gs<|g0 j j (q (oAsI j j)<|nl)<|us<|Go.ret (Unw.ret ?_)
   cases h
   exact fr rF192 j
  ·refine Go.skip<|Unw.blk<|us<|gs<|g0 j j (q (oAsI j j)<|nl)<|us<|Go.ret (Unw.ret ?_)
   cases h
   exact fr rF192 j
theorem L_impl_on {a_0:S_Point} {b_1:S_Point} {p_2:S_Point} {r:Bool} (h:impl_on a_0 b_1 p_2=some r):FX 152 [.im 2 true (u_S_Point a_0),.im 2 true (u_S_Point b_1),.im 2 true (u_S_Point p_2)] (B0 [(false,[.im 0 (V r)])]):=by
 unfold impl_on at h
 refine gn 42 Try.func152 rfl ?_
 refine gs<|g0 j j (q (oBx j tF145 j (tkI (tkI tk0)))<|q (oBx j tF145 j (tkI (tkI tk0)))<|q (oBx j tF145 j (tkI (tkI tk0)))<|q (oAsI j j)<|nl)<|us<|gs<|?_
 obtain ⟨x10,hx10,h⟩:=bs h
 obtain ⟨t_6_m1,hm3,h⟩:=bs h
 refine gX c152 j j j (mk [(6,bv t_6_m1)] []) ?_ ?_
 ·refine xq (oLd (cs:=[.im 0 _,.im 0 _]) j tF145 j j)<|xq (oLd (cs:=[.im 0 _,.im 0 _]) j tF145 j j)<|xq (oLd (cs:=[.im 0 _,.im 0 _]) j tF145 j j)<|xq (oCa (xs:=[.v true [.im 0 _,.im 0 _],.v true [.im 0 _,.im 0 _],.v true [.im 0 _,.im 0 _]]) (vs:=[(false,[.im 0 _])]) (v:=.v false [.im 0 _]) (L_impl_side hx10) (.inl j) j kF192_145_145_145 j (ppC j (ppC j (ppC j pp0))) j j pb0 j j j)<|xq (oBi j j j j)<|xq (oMv j j)<|?_
  refine ic hm3 (fun hc1 hm3=>?_) fun hc1 hm3=>?_
  ·obtain ⟨x25,hx25,hm3⟩:=bs hm3
   refine xqT j j (iEq.2 hc1) (oFA (r':=.mp 5 0 0) j fF145_0 j j)<|xqT j j (iEq.2 hc1) (oLd (cs:=[.im 0 _]) j tF2 j j)<|xqT j j (iEq.2 hc1) (oFA (r':=.mp 3 0 0) j fF145_0 j j)<|xqT j j (iEq.2 hc1) (oLd (cs:=[.im 0 _]) j tF2 j j)<|xqT j j (iEq.2 hc1) (oFA (r':=.mp 4 0 0) j fF145_0 j j)<|xqT j j (iEq.2 hc1) (oLd (cs:=[.im 0 _]) j tF2 j j)<|xqT j j (iEq.2 hc1) (oMin j j)<|xqT j j (iEq.2 hc1) (oFA (r':=.mp 3 0 0) j fF145_0 j j)<|xqT j j (iEq.2 hc1) (oLd (cs:=[.im 0 _]) j tF2 j j)<|xqT j j (iEq.2 hc1) (oFA (r':=.mp 4 0 0) j fF145_0 j j)<|xqT j j (iEq.2 hc1) (oLd (cs:=[.im 0 _]) j tF2 j j)<|xqT j j (iEq.2 hc1) (oMax j j)<|xqT j j (iEq.2 hc1) (oCa (xs:=[.v false [.im 0 _],.v false [.im 0 _],.v false [.im 0 _]]) (vs:=[(false,[.im 0 _])]) (v:=.v false [.im 0 _]) (L_impl_within hx25) (.inl j) j kF66_2_2_2 j (ppC j (ppC j (ppC j pp0))) j j pb0 j j j)<|xq (oPkT j j (iEq.2 hc1) j)<|xq (oMv j j)<|?_
   refine ic hm3 (fun hc2 hm3=>?_) fun hc2 hm3=>?_
   ·obtain ⟨x40,hx40,hm3⟩:=bs hm3
    cases hm3
    exact xqT j j (iR.2 hc2) (oFA (r':=.mp 5 0 1) j fF145_1 j j)<|xqT j j (iR.2 hc2) (oLd (cs:=[.im 0 _]) j tF2 j j)<|xqT j j (iR.2 hc2) (oFA (r':=.mp 3 0 1) j fF145_1 j j)<|xqT j j (iR.2 hc2) (oLd (cs:=[.im 0 _]) j tF2 j j)<|xqT j j (iR.2 hc2) (oFA (r':=.mp 4 0 1) j fF145_1 j j)<|xqT j j (iR.2 hc2) (oLd (cs:=[.im 0 _]) j tF2 j j)<|xqT j j (iR.2 hc2) (oMin j j)<|xqT j j (iR.2 hc2) (oFA (r':=.mp 3 0 1) j fF145_1 j j)<|xqT j j (iR.2 hc2) (oLd (cs:=[.im 0 _]) j tF2 j j)<|xqT j j (iR.2 hc2) (oFA (r':=.mp 4 0 1) j fF145_1 j j)<|xqT j j (iR.2 hc2) (oLd (cs:=[.im 0 _]) j tF2 j j)<|xqT j j (iR.2 hc2) (oMax j j)<|xqT j j (iR.2 hc2) (oCa (xs:=[.v false [.im 0 _],.v false [.im 0 _],.v false [.im 0 _]]) (vs:=[(false,[.im 0 _])]) (v:=.v false [.im 0 _]) (L_impl_within hx40) (.inl j) j kF66_2_2_2 j (ppC j (ppC j (ppC j pp0))) j j pb0 j j j)<|xq (oPkT j j (iR.2 hc2) j)<|xq (oAsI j j)<|xn
   ·cases hm3
    exact xsgF j j (byF iR hc2) j<|xsgF j j (byF iR hc2) j<|xsgF j j (byF iR hc2) j<|xsgF j j (byF iR hc2) j<|xsgF j j (byF iR hc2) j<|xsgF j j (byF iR hc2) j<|xsgF j j (byF iR hc2) j<|xsgF j j (byF iR hc2) j<|xsgF j j (byF iR hc2) j<|xsgF j j (byF iR hc2) j<|xsgF j j (byF iR hc2) j<|xsgF j j (byF iR hc2) j<|xsgF j j (byF iR hc2) j<|xq (oPkF j j (byF iR hc2) j)<|xq (oAsI j j)<|xn
  ·cases hm3
   exact xsgF j j (byF iEq hc1) j<|xsgF j j (byF iEq hc1) j<|xsgF j j (byF iEq hc1) j<|xsgF j j (byF iEq hc1) j<|xsgF j j (byF iEq hc1) j<|xsgF j j (byF iEq hc1) j<|xsgF j j (byF iEq hc1) j<|xsgF j j (byF iEq hc1) j<|xsgF j j (byF iEq hc1) j<|xsgF j j (byF iEq hc1) j<|xsgF j j (byF iEq hc1) j<|xsgF j j (byF iEq hc1) j<|xsgF j j (byF iEq hc1) j<|xq (oPkF j j (byF iEq hc1) j)<|xq (oMv j j)<|xsgF j j j j<|xsgF j j j j<|xsgF j j j j<|xsgF j j j j<|xsgF j j j j<|xsgF j j j j<|xsgF j j j j<|xsgF j j j j<|xsgF j j j j<|xsgF j j j j<|xsgF j j j j<|xsgF j j j j<|xsgF j j j j<|xq (oPkF j j j j)<|xq (oAsI j j)<|xn
 ·refine us<|Go.ret (Unw.ret ?_)
  cases h
  exact fr rF152 j
theorem L_impl_crossing {a_0:S_Point} {b_1:S_Point} {c_2:S_Point} {d_3:S_Point} {r:Bool} (h:impl_crossing a_0 b_1 c_2 d_3=some r):FX 193 [.im 2 true (u_S_Point a_0),.im 2 true (u_S_Point b_1),.im 2 true (u_S_Point c_2),.im 2 true (u_S_Point d_3)] (B0 [(false,[.im 0 (V r)])]):=by
 unfold impl_crossing at h
 refine gn 31 Try.func193 rfl ?_
 refine gs<|g0 j j (q (oBx j tF145 j (tkI (tkI tk0)))<|q (oBx j tF145 j (tkI (tkI tk0)))<|q (oBx j tF145 j (tkI (tkI tk0)))<|q (oBx j tF145 j (tkI (tkI tk0)))<|q (oAsI j j)<|nl)<|us<|gs<|?_
 obtain ⟨x12,hx12,h⟩:=bs h
 obtain ⟨x16,hx16,h⟩:=bs h
 obtain ⟨t_8_m1,hm2,h⟩:=bs h
 refine gd c193 j j j j (mk [(8,bv t_8_m1)] []) ?_ ?_
 ·refine t j j (oLd (cs:=[.im 0 _,.im 0 _]) j tF145 j j)<|t j j (oLd (cs:=[.im 0 _,.im 0 _]) j tF145 j j)<|t j j (oLd (cs:=[.im 0 _,.im 0 _]) j tF145 j j)<|t j j (oLd (cs:=[.im 0 _,.im 0 _]) j tF145 j j)<|t j j (oLd (cs:=[.im 0 _,.im 0 _]) j tF145 j j)<|?_
  refine ic hm2 (fun hc1 hm2=>?_) fun hc1 hm2=>?_
  ·obtain ⟨x23,hx23,hm2⟩:=bs hm2
   obtain ⟨x27,hx27,hm2⟩:=bs hm2
   cases hm2
   exact t j j (oLd (cs:=[.im 0 _,.im 0 _]) j tF145 j j)<|sS (dN z193 j (oCa (xs:=[.v true [.im 0 _,.im 0 _],.v true [.im 0 _,.im 0 _],.v true [.im 0 _,.im 0 _]]) (vs:=[(false,[.im 0 _])]) (v:=.v false [.im 0 _]) (L_impl_side hx12) (.inl j) j kF192_145_145_145 j (ppC j (ppC j (ppC j pp0))) j j pb0 j j j)) trivial (sS (dN z193 j (oCa (xs:=[.v true [.im 0 _,.im 0 _],.v true [.im 0 _,.im 0 _],.v true [.im 0 _,.im 0 _]]) (vs:=[(false,[.im 0 _])]) (v:=.v false [.im 0 _]) (L_impl_side hx16) (.inl j) j kF192_145_145_145 j (ppC j (ppC j (ppC j pp0))) j j pb0 j j j)) trivial (t j j (oBi j j j j)<|t j j (oBi j j j j)<|t j j (oMv j j)<|tT j j j j (iDec.2 hc1) (oLd (cs:=[.im 0 _,.im 0 _]) j tF145 j j)<|tT j j j j (iDec.2 hc1) (oLd (cs:=[.im 0 _,.im 0 _]) j tF145 j j)<|tT j j j j (iDec.2 hc1) (oLd (cs:=[.im 0 _,.im 0 _]) j tF145 j j)<|tT j j j j (iDec.2 hc1) (oLd (cs:=[.im 0 _,.im 0 _]) j tF145 j j)<|tT j j j j (iDec.2 hc1) (oLd (cs:=[.im 0 _,.im 0 _]) j tF145 j j)<|tT j j j j (iDec.2 hc1) (oLd (cs:=[.im 0 _,.im 0 _]) j tF145 j j)<|sS (dT z193 j j j (iDec.2 hc1) (oCa (xs:=[.v true [.im 0 _,.im 0 _],.v true [.im 0 _,.im 0 _],.v true [.im 0 _,.im 0 _]]) (vs:=[(false,[.im 0 _])]) (v:=.v false [.im 0 _]) (L_impl_side hx23) (.inl j) j kF192_145_145_145 j (ppC j (ppC j (ppC j pp0))) j j pb0 j j j)) trivial (sS (dT z193 j j j (iDec.2 hc1) (oCa (xs:=[.v true [.im 0 _,.im 0 _],.v true [.im 0 _,.im 0 _],.v true [.im 0 _,.im 0 _]]) (vs:=[(false,[.im 0 _])]) (v:=.v false [.im 0 _]) (L_impl_side hx27) (.inl j) j kF192_145_145_145 j (ppC j (ppC j (ppC j pp0))) j j pb0 j j j)) trivial (tT j j j j (iDec.2 hc1) (oBi j j j j)<|tT j j j j (iDec.2 hc1) (oBi j j j j)<|t j j (oPkT j j (iDec.2 hc1) j)<|sS (dN z193 j (oAsI j j)) trivial (sD (by kernel_rfl))))))
  ·cases hm2
   exact t j j (oLd (cs:=[.im 0 _,.im 0 _]) j tF145 j j)<|sS (dN z193 j (oCa (xs:=[.v true [.im 0 _,.im 0 _],.v true [.im 0 _,.im 0 _],.v true [.im 0 _,.im 0 _]]) (vs:=[(false,[.im 0 _])]) (v:=.v false [.im 0 _]) (L_impl_side hx12) (.inl j) j kF192_145_145_145 j (ppC j (ppC j (ppC j pp0))) j j pb0 j j j)) trivial (sS (dN z193 j (oCa (xs:=[.v true [.im 0 _,.im 0 _],.v true [.im 0 _,.im 0 _],.v true [.im 0 _,.im 0 _]]) (vs:=[(false,[.im 0 _])]) (v:=.v false [.im 0 _]) (L_impl_side hx16) (.inl j) j kF192_145_145_145 j (ppC j (ppC j (ppC j pp0))) j j pb0 j j j)) trivial (t j j (oBi j j j j)<|t j j (oBi j j j j)<|t j j (oMv j j)<|tF j j j j (byF iDec hc1) j<|tF j j j j (byF iDec hc1) j<|tF j j j j (byF iDec hc1) j<|tF j j j j (byF iDec hc1) j<|tF j j j j (byF iDec hc1) j<|tF j j j j (byF iDec hc1) j<|sS (dF j j j (byF iDec hc1) j) trivial (sS (dF j j j (byF iDec hc1) j) trivial (tF j j j j (byF iDec hc1) j<|tF j j j j (byF iDec hc1) j<|t j j (oPkF j j (byF iDec hc1) j)<|sS (dN z193 j (oAsI j j)) trivial (sD (by kernel_rfl))))))
 ·refine us<|Go.ret (Unw.ret ?_)
  cases h
  exact fr rF193 j
theorem L_impl_touching {a_0:S_Point} {b_1:S_Point} {c_2:S_Point} {d_3:S_Point} {r:Bool} (h:impl_touching a_0 b_1 c_2 d_3=some r):FX 153 [.im 2 true (u_S_Point a_0),.im 2 true (u_S_Point b_1),.im 2 true (u_S_Point c_2),.im 2 true (u_S_Point d_3)] (B0 [(false,[.im 0 (V r)])]):=by
 unfold impl_touching at h
 refine gn 38 Try.func153 rfl ?_
 refine gs<|g0 j j (q (oBx j tF145 j (tkI (tkI tk0)))<|q (oBx j tF145 j (tkI (tkI tk0)))<|q (oBx j tF145 j (tkI (tkI tk0)))<|q (oBx j tF145 j (tkI (tkI tk0)))<|q (oAsI j j)<|nl)<|us<|gs<|?_
 obtain ⟨x13,hx13,h⟩:=bs h
 obtain ⟨t_8_m1,hm5,h⟩:=bs h
 refine gX c153 j j j (mk [(8,bv t_8_m1)] []) ?_ ?_
 ·refine xq (oLd (cs:=[.im 0 _,.im 0 _]) j tF145 j j)<|xq (oLd (cs:=[.im 0 _,.im 0 _]) j tF145 j j)<|xq (oLd (cs:=[.im 0 _,.im 0 _]) j tF145 j j)<|xq (oLd (cs:=[.im 0 _,.im 0 _]) j tF145 j j)<|xq (oCa (xs:=[.v true [.im 0 _,.im 0 _],.v true [.im 0 _,.im 0 _],.v true [.im 0 _,.im 0 _],.v true [.im 0 _,.im 0 _]]) (vs:=[(false,[.im 0 _])]) (v:=.v false [.im 0 _]) (L_impl_crossing hx13) (.inl j) j kF193_145_145_145_145 j (ppC j (ppC j (ppC j (ppC j pp0)))) j j pb0 j j j)<|xq (oMv j j)<|?_
  refine ic hm5 (fun hc1 hm5=>?_) fun hc1 hm5=>?_
  ·cases hm5
   exact xsgF j j (iR.2 hc1) j<|xsgF j j (iR.2 hc1) j<|xsgF j j (iR.2 hc1) j<|xsgF j j (iR.2 hc1) j<|xq (oPkT j j (iR.2 hc1) j)<|xq (oMv j j)<|xsgF j j j j<|xsgF j j j j<|xsgF j j j j<|xsgF j j j j<|xq (oPkT j j j j)<|xq (oMv j j)<|xsgF j j j j<|xsgF j j j j<|xsgF j j j j<|xsgF j j j j<|xq (oPkT j j j j)<|xq (oMv j j)<|xsgF j j j j<|xsgF j j j j<|xsgF j j j j<|xsgF j j j j<|xq (oPkT j j j j)<|xq (oAsI j j)<|xn
  ·obtain ⟨x18,hx18,hm5⟩:=bs hm5
   refine xqT j j (byF iR hc1) (oLd (cs:=[.im 0 _,.im 0 _]) j tF145 j j)<|xqT j j (byF iR hc1) (oLd (cs:=[.im 0 _,.im 0 _]) j tF145 j j)<|xqT j j (byF iR hc1) (oLd (cs:=[.im 0 _,.im 0 _]) j tF145 j j)<|xqT j j (byF iR hc1) (oCa (xs:=[.v true [.im 0 _,.im 0 _],.v true [.im 0 _,.im 0 _],.v true [.im 0 _,.im 0 _]]) (vs:=[(false,[.im 0 _])]) (v:=.v false [.im 0 _]) (L_impl_on hx18) (.inl j) j kF152_145_145_145 j (ppC j (ppC j (ppC j pp0))) j j pb0 j j j)<|xq (oPkF j j (byF iR hc1) j)<|xq (oMv j j)<|?_
   refine ic hm5 (fun hc2 hm5=>?_) fun hc2 hm5=>?_
   ·cases hm5
    exact xsgF j j (iR.2 hc2) j<|xsgF j j (iR.2 hc2) j<|xsgF j j (iR.2 hc2) j<|xsgF j j (iR.2 hc2) j<|xq (oPkT j j (iR.2 hc2) j)<|xq (oMv j j)<|xsgF j j j j<|xsgF j j j j<|xsgF j j j j<|xsgF j j j j<|xq (oPkT j j j j)<|xq (oMv j j)<|xsgF j j j j<|xsgF j j j j<|xsgF j j j j<|xsgF j j j j<|xq (oPkT j j j j)<|xq (oAsI j j)<|xn
   ·obtain ⟨x24,hx24,hm5⟩:=bs hm5
    refine xqT j j (byF iR hc2) (oLd (cs:=[.im 0 _,.im 0 _]) j tF145 j j)<|xqT j j (byF iR hc2) (oLd (cs:=[.im 0 _,.im 0 _]) j tF145 j j)<|xqT j j (byF iR hc2) (oLd (cs:=[.im 0 _,.im 0 _]) j tF145 j j)<|xqT j j (byF iR hc2) (oCa (xs:=[.v true [.im 0 _,.im 0 _],.v true [.im 0 _,.im 0 _],.v true [.im 0 _,.im 0 _]]) (vs:=[(false,[.im 0 _])]) (v:=.v false [.im 0 _]) (L_impl_on hx24) (.inl j) j kF152_145_145_145 j (ppC j (ppC j (ppC j pp0))) j j pb0 j j j)<|xq (oPkF j j (byF iR hc2) j)<|xq (oMv j j)<|?_
    refine ic hm5 (fun hc3 hm5=>?_) fun hc3 hm5=>?_
    ·cases hm5
     exact xsgF j j (iR.2 hc3) j<|xsgF j j (iR.2 hc3) j<|xsgF j j (iR.2 hc3) j<|xsgF j j (iR.2 hc3) j<|xq (oPkT j j (iR.2 hc3) j)<|xq (oMv j j)<|xsgF j j j j<|xsgF j j j j<|xsgF j j j j<|xsgF j j j j<|xq (oPkT j j j j)<|xq (oAsI j j)<|xn
    ·obtain ⟨x30,hx30,hm5⟩:=bs hm5
     refine xqT j j (byF iR hc3) (oLd (cs:=[.im 0 _,.im 0 _]) j tF145 j j)<|xqT j j (byF iR hc3) (oLd (cs:=[.im 0 _,.im 0 _]) j tF145 j j)<|xqT j j (byF iR hc3) (oLd (cs:=[.im 0 _,.im 0 _]) j tF145 j j)<|xqT j j (byF iR hc3) (oCa (xs:=[.v true [.im 0 _,.im 0 _],.v true [.im 0 _,.im 0 _],.v true [.im 0 _,.im 0 _]]) (vs:=[(false,[.im 0 _])]) (v:=.v false [.im 0 _]) (L_impl_on hx30) (.inl j) j kF152_145_145_145 j (ppC j (ppC j (ppC j pp0))) j j pb0 j j j)<|xq (oPkF j j (byF iR hc3) j)<|xq (oMv j j)<|?_
     refine ic hm5 (fun hc4 hm5=>?_) fun hc4 hm5=>?_
     ·cases hm5
      exact xsgF j j (iR.2 hc4) j<|xsgF j j (iR.2 hc4) j<|xsgF j j (iR.2 hc4) j<|xsgF j j (iR.2 hc4) j<|xq (oPkT j j (iR.2 hc4) j)<|xq (oAsI j j)<|xn
     ·obtain ⟨x36,hx36,hm5⟩:=bs hm5
      cases hm5
      exact xqT j j (byF iR hc4) (oLd (cs:=[.im 0 _,.im 0 _]) j tF145 j j)<|xqT j j (byF iR hc4) (oLd (cs:=[.im 0 _,.im 0 _]) j tF145 j j)<|xqT j j (byF iR hc4) (oLd (cs:=[.im 0 _,.im 0 _]) j tF145 j j)<|xqT j j (byF iR hc4) (oCa (xs:=[.v true [.im 0 _,.im 0 _],.v true [.im 0 _,.im 0 _],.v true [.im 0 _,.im 0 _]]) (vs:=[(false,[.im 0 _])]) (v:=.v false [.im 0 _]) (L_impl_on hx36) (.inl j) j kF152_145_145_145 j (ppC j (ppC j (ppC j pp0))) j j pb0 j j j)<|xq (oPkF j j (byF iR hc4) j)<|xq (oAsI j j)<|xn
 ·refine us<|Go.ret (Unw.ret ?_)
  cases h
  exact fr rF153 j
theorem L_impl_doubled {p_0:(List S_Point)} {r:Int} (h:impl_doubled p_0=some r):FX 154 [.im 2 false [W 2 e_S_Point p_0]] (B0 [(false,[.im 0 (I r)])]):=by
 unfold impl_doubled at h
 refine gn 37 Try.func154 rfl ?_
 refine gs<|g0 j j (q (oAsI j j)<|nl)<|us<|gs<|g0 j j (q (oAsI j j)<|nl)<|us<|gs<|gs<|g0 j j (q (oMv j j)<|q (oLnI j j uF23 j)<|q (oMv j j)<|nl)<|us<|Go.block<|?_
 obtain ⟨o,hl,h⟩:=bs h
 refine gl c154 j _ (fun (s:(Int×Int))=>match s with | (sum_3_l3,t_9_l3)=>mk [(0,D 2 (W 2 e_S_Point p_0)),(3,iv sum_3_l3),(7,D 2 (W 2 e_S_Point p_0)),(8,iv (p_0.length:Int)),(9,iv t_9_l3)] []) (fun (sum_3_e0_3:Int) (p:Ex×St)=>p.1= .exit 0∧p.2.norm ([3],[])=mk [(3,iv sum_3_e0_3)] []) hl (by kernel_rfl) ?_ ?_ ?_
 ·intro o p hp e
  exact nomatch (hp.1.symm.trans e)
 ·rintro ⟨sum_3_l3,t_9_l3⟩ o h
  unfold impl_doubled_l3 at h
  dsimp only at h
  refine gs<|g0 j j (q (oBi j j j j)<|nl)<|us<|gs<|gc h j iDec (fun hc3 h=>?_) fun hc3 h=>?_
  ·refine Go.skip<|us<|gs<|Go.block<|gs<|?_
   obtain ⟨x12,hx12,h⟩:=bs h
   refine g0 j j (q (oMv j j)<|q (oIAI j hx12 sF23 j j)<|q (oLd (cs:=[.im 2 _,.im 2 _]) j tF145 j j)<|q (oAl j tF145 (tkI (tkI tk0)))<|q (oAsI j j)<|q (oSt tF145 j j j (tkI (tkI tk0)) j j j)<|nl)<|us<|gs<|?_
   obtain ⟨x19,hx19,h⟩:=bs h
   obtain ⟨x20,hx20,h⟩:=bs h
   refine g1 j j (mk [(0,D 2 (W 2 e_S_Point p_0)),(3,iv sum_3_l3),(4,iv t_9_l3),(5,M 5),(7,D 2 (W 2 e_S_Point p_0)),(8,iv (p_0.length:Int)),(9,iv t_9_l3)] [(5,Oa (G 0 (u_S_Point x12)))]) (q (oMv j j)<|q (oMv j j)<|q (oBi j j j j)<|q (oMv j j)<|q (oLnI j j uF23 j)<|q (oRem j hx19 j j)<|q (oIAI j hx20 sF23 j j)<|q (oLd (cs:=[.im 2 _,.im 2 _]) j tF145 j j)<|q (oAl j tF145 (tkI (tkI tk0)))<|q (oSt tF145 j j j (tkI (tkI tk0)) j j j)<|nl)<|us<|g1 j j (mk [(0,D 2 (W 2 e_S_Point p_0)),(3,iv sum_3_l3),(5,M 5),(6,M 6),(7,D 2 (W 2 e_S_Point p_0)),(8,iv (p_0.length:Int)),(9,iv t_9_l3)] [(5,Oa (G 0 (u_S_Point x12))),(6,Oa (G 0 (u_S_Point x20)))]) (q (oMv j j)<|q (oFA (r':=.mp 5 0 0) j fF145_0 j j)<|q (oLd (cs:=[.im 0 _]) j tF2 j j)<|q (oFA (r':=.mp 6 0 1) j fF145_1 j j)<|q (oLd (cs:=[.im 0 _]) j tF2 j j)<|q (oBi j j j j)<|q (oFA (r':=.mp 5 0 1) j fF145_1 j j)<|q (oLd (cs:=[.im 0 _]) j tF2 j j)<|q (oFA (r':=.mp 6 0 0) j fF145_0 j j)<|q (oLd (cs:=[.im 0 _]) j tF2 j j)<|q (oBi j j j j)<|q (oBi j j j j)<|q (oBi j j j j)<|q (oAsI j j)<|nl)<|Unw.blk<|us<|g0 j j (q (oBi j j j j)<|q (oMv j j)<|nl)<|Unw.nil<|?_
   cases h
   exact ⟨j,(by kernel_rfl)⟩
  ·refine Go.exit<|ux<|Unw.nil<|?_
   cases h
   exact ⟨j,(by kernel_rfl)⟩
 ·rintro ⟨e,st⟩ hp
  obtain ⟨sum_3_e0_3,rfl⟩:∃y,y=o:=⟨o,rfl⟩
  obtain ⟨he,hst⟩:=hp
  obtain rfl:e= .exit 0:=he
  refine Unw.blkx<|us<|gs<|g2 c154 j j hst (q (oMv j j)<|q (oAsI j j)<|nl)<|us<|Go.ret (Unw.ret ?_)
  cases h
  exact fr rF154 j
theorem L_impl_ValidPolygon {p_0:(List S_Point)} {r:Bool} (h:impl_ValidPolygon p_0=some r):FX 95 [.im 2 false [W 2 e_S_Point p_0]] (B0 [(false,[.im 0 (V r)])]):=by
 unfold impl_ValidPolygon at h
 refine gn 93 Try.func95 rfl ?_
 refine gs<|g0 j j (q (oAsI j j)<|nl)<|us<|gs<|g0 j j (q (oMv j j)<|q (oLnI j j uF23 j)<|q (oAsI j j)<|nl)<|us<|gs<|gs<|?_
 obtain ⟨t_21_m2,hm47,h⟩:=bs h
 refine gX c95 j j j (mk [(0,D 2 (W 2 e_S_Point p_0)),(3,iv (p_0.length:Int)),(21,bv t_21_m2)] []) ?_ ?_
 ·refine xq (oMv j j)<|xq (oBi j j j j)<|xq (oMv j j)<|?_
  refine ic hm47 (fun hc1 hm47=>?_) fun hc1 hm47=>?_
  ·cases hm47
   exact xsgF j j (iDec.2 hc1) j<|xsgF j j (iDec.2 hc1) j<|xq (oPkT j j (iDec.2 hc1) j)<|xq (oMv j j)<|xsgF j j j j<|xsgF j j j j<|xsgF j j j j<|xq (oPkT j j j j)<|xn
  ·refine xqT j j (byF iDec hc1) (oMv j j)<|xqT j j (byF iDec hc1) (oBi j j j j)<|xq (oPkF j j (byF iDec hc1) j)<|xq (oMv j j)<|?_
   refine ic hm47 (fun hc2 hm47=>?_) fun hc2 hm47=>?_
   ·cases hm47
    exact xsgF j j (iDec.2 hc2) j<|xsgF j j (iDec.2 hc2) j<|xsgF j j (iDec.2 hc2) j<|xq (oPkT j j (iDec.2 hc2) j)<|xn
   ·obtain ⟨x19,hx19,hm47⟩:=bs hm47
    cases hm47
    exact xqT j j (byF iDec hc2) (oMv j j)<|xqT j j (byF iDec hc2) (oCa (xs:=[.v false [.im 2 _]]) (vs:=[(false,[.im 0 _])]) (v:=.v false [.im 0 _]) (L_impl_validPoints hx19) (.inl j) j kF151_23 j (ppC j pp0) j j pb0 j j j)<|xqT j j (byF iDec hc2) (oUn j j j)<|xq (oPkF j j (byF iDec hc2) j)<|xn
 ·refine us<|gc h j iR (fun hc3 h=>?_) fun hc3 h=>?_
  ·refine gs<|g0 j j (q (oAsI j j)<|nl)<|us<|Go.ret (Unw.ret ?_)
   cases h
   exact fr rF95 j
  ·refine Go.skip<|us<|gs<|gs<|g0 j j (q (oMv j j)<|q (oLnI j j uF23 j)<|q (oMv j j)<|nl)<|us<|Go.block<|?_
   obtain ⟨o,hl,h⟩:=bs h
   refine gl c95 j _ (fun (t_24_l5:Int)=>mk [(0,D 2 (W 2 e_S_Point p_0)),(3,iv (p_0.length:Int)),(23,iv (p_0.length:Int)),(24,iv t_24_l5)] []) (fun (o:(Unit ⊕ Bool)) (p:Ex×St)=>match o with | (.inl _)=>p.1= .exit 0∧p.2.norm ([0],[])=mk [(0,D 2 (W 2 e_S_Point p_0))] [] | (.inr r2)=>p.1= .ret∧fin Try.prog cfg 95 Try.f95 [.im 2 false [W 2 e_S_Point p_0]] p.2=some (B0 [(false,[.im 0 (V r2)])])) hl (by kernel_rfl) ?_ ?_ ?_
   ·intro o p hp e
    rcases o with u | r2<;>exact nomatch (hp.1.symm.trans e)
   ·rintro t_24_l5 o h
    unfold impl_ValidPolygon_l5 at h
    refine gs<|g0 j j (q (oBi j j j j)<|nl)<|us<|gs<|gc h j iDec (fun hc30 h=>?_) fun hc30 h=>?_
    ·refine Go.skip<|us<|gs<|Go.block<|gs<|g0 j j (q (oMv j j)<|q (oAsI j j)<|nl)<|us<|gs<|?_
     obtain ⟨x29,hx29,h⟩:=bs h
     obtain ⟨x35,hx35,h⟩:=bs h
     obtain ⟨x36,hx36,h⟩:=bs h
     obtain ⟨x42,hx42,h⟩:=bs h
     obtain ⟨x43,hx43,h⟩:=bs h
     refine gd c95 j j j j (mk [(0,D 2 (W 2 e_S_Point p_0)),(3,iv (p_0.length:Int)),(4,iv t_24_l5),(5,M 5),(6,M 6),(7,M 7),(23,iv (p_0.length:Int)),(24,iv t_24_l5)] [(5,Oa (G 0 (u_S_Point x29))),(6,Oa (G 0 (u_S_Point x36))),(7,Oa (G 0 (u_S_Point x43)))]) (t j j (oMv j j)<|t j j (oMv j j)<|t j j (oIAI j hx29 sF23 j j)<|t j j (oLd (cs:=[.im 2 _,.im 2 _]) j tF145 j j)<|t j j (oMv j j)<|t j j (oMv j j)<|t j j (oBi j j j j)<|t j j (oMv j j)<|t j j (oRem j hx35 j j)<|t j j (oIAI j hx36 sF23 j j)<|t j j (oLd (cs:=[.im 2 _,.im 2 _]) j tF145 j j)<|t j j (oMv j j)<|t j j (oMv j j)<|t j j (oBi j j j j)<|t j j (oMv j j)<|t j j (oRem j hx42 j j)<|t j j (oIAI j hx43 sF23 j j)<|t j j (oLd (cs:=[.im 2 _,.im 2 _]) j tF145 j j)<|sF (dN z95 j (oAl j tF145 (tkI (tkI tk0)))) trivial (sF (dN z95 j (oAl j tF145 (tkI (tkI tk0)))) trivial (sS (dN z95 j (oAl j tF145 (tkI (tkI tk0)))) trivial (sS (dN z95 j (oSt tF145 j j j (tkI (tkI tk0)) j j j)) trivial (sS (dN z95 j (oSt tF145 j j j (tkI (tkI tk0)) j j j)) trivial (sS (dN z95 j (oSt tF145 j j j (tkI (tkI tk0)) j j j)) trivial (sD (by kernel_rfl)))))) (sS (dN z95 j (oAl j tF145 (tkI (tkI tk0)))) trivial (sS (dN z95 j (oAl j tF145 (tkI (tkI tk0)))) trivial (sS (dN z95 j (oSt tF145 j j j (tkI (tkI tk0)) j j j)) trivial (sS (dN z95 j (oSt tF145 j j j (tkI (tkI tk0)) j j j)) trivial (sS (dN z95 j (oSt tF145 j j j (tkI (tkI tk0)) j j j)) trivial (sD (by kernel_rfl)))))))) (sF (dN z95 j (oAl j tF145 (tkI (tkI tk0)))) trivial (sF (dN z95 j (oAl j tF145 (tkI (tkI tk0)))) trivial (sS (dN z95 j (oAl j tF145 (tkI (tkI tk0)))) trivial (sS (dN z95 j (oSt tF145 j j j (tkI (tkI tk0)) j j j)) trivial (sS (dN z95 j (oSt tF145 j j j (tkI (tkI tk0)) j j j)) trivial (sS (dN z95 j (oSt tF145 j j j (tkI (tkI tk0)) j j j)) trivial (sD (by kernel_rfl)))))) (sS (dN z95 j (oAl j tF145 (tkI (tkI tk0)))) trivial (sS (dN z95 j (oAl j tF145 (tkI (tkI tk0)))) trivial (sS (dN z95 j (oSt tF145 j j j (tkI (tkI tk0)) j j j)) trivial (sS (dN z95 j (oSt tF145 j j j (tkI (tkI tk0)) j j j)) trivial (sS (dN z95 j (oSt tF145 j j j (tkI (tkI tk0)) j j j)) trivial (sD (by kernel_rfl)))))))) (sS (dN z95 j (oAl j tF145 (tkI (tkI tk0)))) trivial (sF (dN z95 j (oAl j tF145 (tkI (tkI tk0)))) trivial (sS (dN z95 j (oAl j tF145 (tkI (tkI tk0)))) trivial (sS (dN z95 j (oSt tF145 j j j (tkI (tkI tk0)) j j j)) trivial (sS (dN z95 j (oSt tF145 j j j (tkI (tkI tk0)) j j j)) trivial (sS (dN z95 j (oSt tF145 j j j (tkI (tkI tk0)) j j j)) trivial (sD (by kernel_rfl)))))) (sS (dN z95 j (oAl j tF145 (tkI (tkI tk0)))) trivial (sS (dN z95 j (oAl j tF145 (tkI (tkI tk0)))) trivial (sS (dN z95 j (oSt tF145 j j j (tkI (tkI tk0)) j j j)) trivial (sS (dN z95 j (oSt tF145 j j j (tkI (tkI tk0)) j j j)) trivial (sS (dN z95 j (oSt tF145 j j j (tkI (tkI tk0)) j j j)) trivial (sD (by kernel_rfl)))))))))))<|us<|gs<|gs<|?_
     obtain ⟨t_59_m8,hm46,h⟩:=bs h
     refine gX c95 j j j (mk [(0,D 2 (W 2 e_S_Point p_0)),(3,iv (p_0.length:Int)),(4,iv t_24_l5),(5,M 5),(6,M 6),(23,iv (p_0.length:Int)),(24,iv t_24_l5),(59,bv t_59_m8)] [(5,Oa (G 0 (u_S_Point x29))),(6,Oa (G 0 (u_S_Point x36)))]) ?_ ?_
     ·refine xq (oLd (cs:=[.im 0 _,.im 0 _]) j tF145 j j)<|xq (oLd (cs:=[.im 0 _,.im 0 _]) j tF145 j j)<|xq (oBa j (qEF145 x29.X x29.Y x36.X x36.Y) j j j j)<|xq (oMv j j)<|?_
      refine ic hm46 (fun hc31 hm46=>?_) fun hc31 hm46=>?_
      ·cases hm46
       exact xsgF j j ((iAnd iEq iEq).2 hc31) j<|xsgF j j ((iAnd iEq iEq).2 hc31) j<|xsgF j j ((iAnd iEq iEq).2 hc31) j<|xsgF j j ((iAnd iEq iEq).2 hc31) j<|xq (oPkT j j ((iAnd iEq iEq).2 hc31) j)<|xq (oMv j j)<|xsgF j j j j<|xsgF j j j j<|xsgF j j j j<|xsgF j j j j<|xq (oPkT j j j j)<|xn
      ·obtain ⟨x52,hx52,hm46⟩:=bs hm46
       refine xqT j j (byF (iAnd iEq iEq) hc31) (oLd (cs:=[.im 0 _,.im 0 _]) j tF145 j j)<|xqT j j (byF (iAnd iEq iEq) hc31) (oLd (cs:=[.im 0 _,.im 0 _]) j tF145 j j)<|xqT j j (byF (iAnd iEq iEq) hc31) (oLd (cs:=[.im 0 _,.im 0 _]) j tF145 j j)<|xqT j j (byF (iAnd iEq iEq) hc31) (oCa (xs:=[.v true [.im 0 _,.im 0 _],.v true [.im 0 _,.im 0 _],.v true [.im 0 _,.im 0 _]]) (vs:=[(false,[.im 0 _])]) (v:=.v false [.im 0 _]) (L_impl_on hx52) (.inl j) j kF152_145_145_145 j (ppC j (ppC j (ppC j pp0))) j j pb0 j j j)<|xq (oPkF j j (byF (iAnd iEq iEq) hc31) j)<|xq (oMv j j)<|?_
       refine ic hm46 (fun hc32 hm46=>?_) fun hc32 hm46=>?_
       ·cases hm46
        exact xsgF j j (iR.2 hc32) j<|xsgF j j (iR.2 hc32) j<|xsgF j j (iR.2 hc32) j<|xsgF j j (iR.2 hc32) j<|xq (oPkT j j (iR.2 hc32) j)<|xn
       ·obtain ⟨x58,hx58,hm46⟩:=bs hm46
        cases hm46
        exact xqT j j (byF iR hc32) (oLd (cs:=[.im 0 _,.im 0 _]) j tF145 j j)<|xqT j j (byF iR hc32) (oLd (cs:=[.im 0 _,.im 0 _]) j tF145 j j)<|xqT j j (byF iR hc32) (oLd (cs:=[.im 0 _,.im 0 _]) j tF145 j j)<|xqT j j (byF iR hc32) (oCa (xs:=[.v true [.im 0 _,.im 0 _],.v true [.im 0 _,.im 0 _],.v true [.im 0 _,.im 0 _]]) (vs:=[(false,[.im 0 _])]) (v:=.v false [.im 0 _]) (L_impl_on hx58) (.inl j) j kF152_145_145_145 j (ppC j (ppC j (ppC j pp0))) j j pb0 j j j)<|xq (oPkF j j (byF iR hc32) j)<|xn
     ·refine us<|gc h j iR (fun hc33 h=>?_) fun hc33 h=>?_
      ·refine gs<|g0 j j (q (oAsI j j)<|nl)<|us<|Go.ret (Unw.ret ?_)
       cases h
       exact ⟨j,(fo rF95 j)⟩
      ·refine Go.skip<|us<|gs<|g0 j j (q (oMv j j)<|q (oBi j j j j)<|q (oAsI j j)<|nl)<|us<|Go.block<|?_
       obtain ⟨o,hl,h⟩:=bs h
       refine gl c95 j _ (fun (k_8_l11:Int)=>mk [(0,D 2 (W 2 e_S_Point p_0)),(3,iv (p_0.length:Int)),(4,iv t_24_l5),(5,M 5),(6,M 6),(8,iv k_8_l11),(23,iv (p_0.length:Int)),(24,iv t_24_l5)] [(5,Oa (G 0 (u_S_Point x29))),(6,Oa (G 0 (u_S_Point x36)))]) (fun (o:(Unit ⊕ Bool)) (p:Ex×St)=>match o with | (.inl _)=>p.1= .exit 2∧p.2.norm ([0,3,23,24],[])=mk [(0,D 2 (W 2 e_S_Point p_0)),(3,iv (p_0.length:Int)),(23,iv (p_0.length:Int)),(24,iv t_24_l5)] [] | (.inr r2)=>p.1= .ret∧fin Try.prog cfg 95 Try.f95 [.im 2 false [W 2 e_S_Point p_0]] p.2=some (B0 [(false,[.im 0 (V r2)])])) hl (by kernel_rfl) ?_ ?_ ?_
       ·intro o p hp e
        rcases o with u | r2<;>exact nomatch (hp.1.symm.trans e)
       ·rintro k_8_l11 o h
        unfold impl_ValidPolygon_l11 at h
        refine gs<|gs<|g0 j j (q (oMv j j)<|q (oMv j j)<|q (oBi j j j j)<|nl)<|us<|gc h j iDec (fun hc42 h=>?_) fun hc42 h=>?_
        ·refine Go.skip<|us<|gs<|Go.block<|gs<|?_
         obtain ⟨x70,hx70,h⟩:=bs h
         obtain ⟨t_88_m13,hm45,h⟩:=bs h
         refine gd c95 j j j j (mk [(0,D 2 (W 2 e_S_Point p_0)),(3,iv (p_0.length:Int)),(4,iv t_24_l5),(5,M 5),(6,M 6),(8,iv k_8_l11),(23,iv (p_0.length:Int)),(24,iv t_24_l5),(88,bv t_88_m13)] [(5,Oa (G 0 (u_S_Point x29))),(6,Oa (G 0 (u_S_Point x36)))]) ?_ ?_
         ·refine t j j (oMv j j)<|t j j (oBi j j j j)<|t j j (oMv j j)<|t j j (oRem j hx70 j j)<|t j j (oMv j j)<|t j j (oBi j j j j)<|t j j (oMv j j)<|?_
          refine ic hm45 (fun hc43 hm45=>?_) fun hc43 hm45=>?_
          ·obtain ⟨x78,hx78,hm45⟩:=bs hm45
           obtain ⟨x84,hx84,hm45⟩:=bs hm45
           obtain ⟨x85,hx85,hm45⟩:=bs hm45
           obtain ⟨x87,hx87,hm45⟩:=bs hm45
           cases hm45
           exact tT j j j j (iNe.2 hc43) (oLd (cs:=[.im 0 _,.im 0 _]) j tF145 j j)<|tT j j j j (iNe.2 hc43) (oLd (cs:=[.im 0 _,.im 0 _]) j tF145 j j)<|tT j j j j (iNe.2 hc43) (oMv j j)<|tT j j j j (iNe.2 hc43) (oMv j j)<|tT j j j j (iNe.2 hc43) (oIAI j hx78 sF23 j j)<|tT j j j j (iNe.2 hc43) (oLd (cs:=[.im 2 _,.im 2 _]) j tF145 j j)<|tT j j j j (iNe.2 hc43) (oMv j j)<|tT j j j j (iNe.2 hc43) (oMv j j)<|tT j j j j (iNe.2 hc43) (oBi j j j j)<|tT j j j j (iNe.2 hc43) (oMv j j)<|tT j j j j (iNe.2 hc43) (oRem j hx84 j j)<|tT j j j j (iNe.2 hc43) (oIAI j hx85 sF23 j j)<|tT j j j j (iNe.2 hc43) (oLd (cs:=[.im 2 _,.im 2 _]) j tF145 j j)<|sS (dT z95 j j j (iNe.2 hc43) (oCa (xs:=[.v true [.im 0 _,.im 0 _],.v true [.im 0 _,.im 0 _],.v true [.im 2 _,.im 2 _],.v true [.im 2 _,.im 2 _]]) (vs:=[(false,[.im 0 _])]) (v:=.v false [.im 0 _]) (L_impl_touching hx87) (.inl j) j kF153_145_145_145_145 j (ppC j (ppC j (ppC j (ppC j pp0)))) j j pb0 j j j)) trivial (t j j (oPkT j j (iNe.2 hc43) j)<|sD (by kernel_rfl))
          ·cases hm45
           exact tF j j j j (byF iNe hc43) j<|tF j j j j (byF iNe hc43) j<|tF j j j j (byF iNe hc43) j<|tF j j j j (byF iNe hc43) j<|tF j j j j (byF iNe hc43) j<|tF j j j j (byF iNe hc43) j<|tF j j j j (byF iNe hc43) j<|tF j j j j (byF iNe hc43) j<|tF j j j j (byF iNe hc43) j<|tF j j j j (byF iNe hc43) j<|tF j j j j (byF iNe hc43) j<|tF j j j j (byF iNe hc43) j<|tF j j j j (byF iNe hc43) j<|sS (dF j j j (byF iNe hc43) j) trivial (t j j (oPkF j j (byF iNe hc43) j)<|sD (by kernel_rfl))
         ·refine us<|gc h j iR (fun hc44 h=>?_) fun hc44 h=>?_
          ·refine gs<|g0 j j (q (oAsI j j)<|nl)<|us<|Go.ret (Unw.ret ?_)
           cases h
           exact ⟨j,(fo rF95 j)⟩
          ·refine Go.skip<|Unw.blk<|us<|g0 j j (q (oMv j j)<|q (oBi j j j j)<|q (oAsI j j)<|nl)<|Unw.nil<|?_
           cases h
           exact ⟨j,(by kernel_rfl)⟩
        ·refine Go.exit<|ux<|Unw.nil<|?_
         cases h
         exact ⟨j,(by kernel_rfl)⟩
       ·rintro ⟨e,st⟩ hp
        rcases o with u | r2
        ·dsimp only at h
         obtain ⟨he,hst⟩:=hp
         obtain rfl:e= .exit 2:=he
         refine Unw.blkx<|Unw.blk<|us<|g2 c95 j j hst (q (oBi j j j j)<|q (oMv j j)<|nl)<|Unw.nil<|?_
         cases h
         exact ⟨j,(by kernel_rfl)⟩
        ·dsimp only at h
         obtain ⟨he,hfin⟩:=hp
         obtain rfl:e= .ret:=he
         cases h
         exact Unw.ret ⟨j,hfin⟩
    ·refine Go.exit<|ux<|Unw.nil<|?_
     cases h
     exact ⟨j,(by kernel_rfl)⟩
   ·rintro ⟨e,st⟩ hp
    rcases o with u | r2
    ·dsimp only at h
     obtain ⟨he,hst⟩:=hp
     obtain rfl:e= .exit 0:=he
     refine Unw.blkx<|us<|gs<|?_
     obtain ⟨x91,hx91,h⟩:=bs h
     refine g2 c95 j j hst (q (oMv j j)<|q (oCa (xs:=[.v false [.im 2 _]]) (vs:=[(false,[.im 0 _])]) (v:=.v false [.im 0 _]) (L_impl_doubled hx91) (.inl j) j kF154_23 j (ppC j pp0) j j pb0 j j j)<|q (oBi j j j j)<|q (oAsI j j)<|nl)<|us<|Go.ret (Unw.ret ?_)
     cases h
     exact fr rF95 j
    ·dsimp only at h
     obtain ⟨he,hfin⟩:=hp
     obtain rfl:e= .ret:=he
     cases h
     exact Unw.ret (Fin_ret hfin)
theorem L_impl_ValidDrawing {d_0:S_Drawing} {r:Bool} (h:impl_ValidDrawing d_0=some r):FX 43 [.im 2 true (u_S_Drawing d_0)] (B0 [(false,[.im 0 (V r)])]):=by
 unfold impl_ValidDrawing at h
 refine gn 106 Try.func43 rfl ?_
 refine gs<|g0 j j (q (oBx j tF26 j (tkI (tkI (tkI (tkI tk0)))))<|q (oAsI j j)<|nl)<|us<|gs<|gs<|?_
 obtain ⟨x11,hx11,h⟩:=bs h
 obtain ⟨t_30_m1,hm44,h⟩:=bs h
 refine gX c43 j j j (mk [(1,M 1),(30,bv t_30_m1)] [(1,Oa (G 2 (u_S_Drawing d_0)))]) ?_ ?_
 ·refine xq (oFA (r':=.mp 1 0 0) j fF26_0 j j)<|xq (oLd (cs:=[.im 0 _]) j tF2 j j)<|xq (oCa (xs:=[.v false [.im 0 _],.v false [.im 0 _],.v false [.im 0 _]]) (vs:=[(false,[.im 0 _])]) (v:=.v false [.im 0 _]) (L_impl_within hx11) (.inl j) j kF66_2_2_2 j (ppC j (ppC j (ppC j pp0))) j j pb0 j j j)<|xq (oUn j j j)<|xq (oMv j j)<|?_
  refine ic hm44 (fun hc1 hm44=>?_) fun hc1 hm44=>?_
  ·obtain ⟨x16,hx16,hm44⟩:=bs hm44
   refine xqT j j (nF (iR.2 hc1)) (oFA (r':=.mp 1 0 1) j fF26_1 j j)<|xqT j j (nF (iR.2 hc1)) (oLd (cs:=[.im 0 _]) j tF2 j j)<|xqT j j (nF (iR.2 hc1)) (oCa (xs:=[.v false [.im 0 _],.v false [.im 0 _],.v false [.im 0 _]]) (vs:=[(false,[.im 0 _])]) (v:=.v false [.im 0 _]) (L_impl_within hx16) (.inl j) j kF66_2_2_2 j (ppC j (ppC j (ppC j pp0))) j j pb0 j j j)<|xqT j j (nF (iR.2 hc1)) (oUn j j j)<|xq (oPkF j j (nF (iR.2 hc1)) j)<|xq (oMv j j)<|?_
   refine ic hm44 (fun hc2 hm44=>?_) fun hc2 hm44=>?_
   ·refine xqT j j (nF (iR.2 hc2)) (oFA (r':=.mp 1 0 2) j fF26_2 j j)<|xqT j j (nF (iR.2 hc2)) (oLd (cs:=[.im 2 _]) j tF23 j j)<|xqT j j (nF (iR.2 hc2)) (oLnI j j uF23 j)<|xqT j j (nF (iR.2 hc2)) (oBi j j j j)<|xq (oPkF j j (nF (iR.2 hc2)) j)<|xq (oMv j j)<|?_
    refine ic hm44 (fun hc3 hm44=>?_) fun hc3 hm44=>?_
    ·cases hm44
     exact xsgF j j (iDec.2 hc3) j<|xsgF j j (iDec.2 hc3) j<|xsgF j j (iDec.2 hc3) j<|xsgF j j (iDec.2 hc3) j<|xq (oPkT j j (iDec.2 hc3) j)<|xn
    ·cases hm44
     exact xqT j j (byF iDec hc3) (oFA (r':=.mp 1 0 3) j fF26_3 j j)<|xqT j j (byF iDec hc3) (oLd (cs:=[.im 2 _]) j tF24 j j)<|xqT j j (byF iDec hc3) (oLnI j j uF24 j)<|xqT j j (byF iDec hc3) (oBi j j j j)<|xq (oPkF j j (byF iDec hc3) j)<|xn
   ·cases hm44
    exact xsgF j j (nT (byF iR hc2)) j<|xsgF j j (nT (byF iR hc2)) j<|xsgF j j (nT (byF iR hc2)) j<|xsgF j j (nT (byF iR hc2)) j<|xq (oPkT j j (nT (byF iR hc2)) j)<|xq (oMv j j)<|xsgF j j j j<|xsgF j j j j<|xsgF j j j j<|xsgF j j j j<|xq (oPkT j j j j)<|xn
  ·cases hm44
   exact xsgF j j (nT (byF iR hc1)) j<|xsgF j j (nT (byF iR hc1)) j<|xsgF j j (nT (byF iR hc1)) j<|xsgF j j (nT (byF iR hc1)) j<|xq (oPkT j j (nT (byF iR hc1)) j)<|xq (oMv j j)<|xsgF j j j j<|xsgF j j j j<|xsgF j j j j<|xsgF j j j j<|xq (oPkT j j j j)<|xq (oMv j j)<|xsgF j j j j<|xsgF j j j j<|xsgF j j j j<|xsgF j j j j<|xq (oPkT j j j j)<|xn
 ·refine us<|gc h j iR (fun hc4 h=>?_) fun hc4 h=>?_
  ·refine gs<|g0 j j (q (oAsI j j)<|nl)<|us<|Go.ret (Unw.ret ?_)
   cases h
   exact fr rF43 j
  ·refine Go.skip<|us<|gs<|gs<|g0 j j (q (oFA (r':=.mp 1 0 2) j fF26_2 j j)<|q (oLd (cs:=[.im 2 _]) j tF23 j j)<|q (oLnI j j uF23 j)<|q (oMv j j)<|nl)<|us<|Go.block<|?_
   obtain ⟨o,hl,h⟩:=bs h
   refine gl c43 j _ (fun (t_34_l4:Int)=>mk [(1,M 1),(32,D 2 (W 2 e_S_Point d_0.Points)),(33,iv (d_0.Points.length:Int)),(34,iv t_34_l4)] [(1,Oa (G 2 (u_S_Drawing d_0)))]) (fun (o:(Unit ⊕ Bool)) (p:Ex×St)=>match o with | (.inl _)=>p.1= .exit 0∧p.2.norm ([1],[1])=mk [(1,M 1)] [(1,Oa (G 2 (u_S_Drawing d_0)))] | (.inr r2)=>p.1= .ret∧fin Try.prog cfg 43 Try.f43 [.im 2 true (u_S_Drawing d_0)] p.2=some (B0 [(false,[.im 0 (V r2)])])) hl (by kernel_rfl) ?_ ?_ ?_
   ·intro o p hp e
    rcases o with u | r2<;>exact nomatch (hp.1.symm.trans e)
   ·rintro t_34_l4 o h
    unfold impl_ValidDrawing_l4 at h
    refine gs<|g0 j j (q (oBi j j j j)<|nl)<|us<|gs<|gc h j iDec (fun hc39 h=>?_) fun hc39 h=>?_
    ·refine Go.skip<|us<|gs<|Go.block<|gs<|?_
     obtain ⟨x37,hx37,h⟩:=bs h
     refine g0 j j (q (oMv j j)<|q (oIAI j hx37 sF23 j j)<|q (oLd (cs:=[.im 2 _,.im 2 _]) j tF145 j j)<|q (oAl j tF145 (tkI (tkI tk0)))<|q (oAsI j j)<|q (oSt tF145 j j j (tkI (tkI tk0)) j j j)<|nl)<|us<|gs<|?_
     obtain ⟨x43,hx43,h⟩:=bs h
     obtain ⟨t_60_m6,hm43,h⟩:=bs h
     refine gd c43 j j j (st1:=mk [(1,M 1),(3,iv t_34_l4),(4,M 4),(32,D 2 (W 2 e_S_Point d_0.Points)),(33,iv (d_0.Points.length:Int)),(34,iv t_34_l4)] [(1,Oa (G 2 (u_S_Drawing d_0))),(4,Oa (G 0 (u_S_Point x37)))]) (by kernel_rfl) (mk [(1,M 1),(32,D 2 (W 2 e_S_Point d_0.Points)),(33,iv (d_0.Points.length:Int)),(34,iv t_34_l4),(60,bv t_60_m6)] [(1,Oa (G 2 (u_S_Drawing d_0)))]) ?_ ?_
     ·refine t j j (oFA (r':=.mp 4 0 0) j fF145_0 j j)<|t j j (oLd (cs:=[.im 0 _]) j tF2 j j)<|t j j (oFA (r':=.mp 1 0 0) j fF26_0 j j)<|?_
      refine ic hm43 (fun hc40 hm43=>?_) fun hc40 hm43=>?_
      ·obtain ⟨x50,hx50,hm43⟩:=bs hm43
       refine ic hm43 (fun hc41 hm43=>?_) fun hc41 hm43=>?_
       ·obtain ⟨x57,hx57,hm43⟩:=bs hm43
        obtain ⟨x59,hx59,hm43⟩:=bs hm43
        cases hm43
        exact t j j (oLd (cs:=[.im 0 _]) j tF2 j j)<|sS (dN z43 j (oCa (xs:=[.v false [.im 0 _],.v false [.im 0 _],.v false [.im 0 _]]) (vs:=[(false,[.im 0 _])]) (v:=.v false [.im 0 _]) (L_impl_within hx43) (.inl j) j kF66_2_2_2 j (ppC j (ppC j (ppC j pp0))) j j pb0 j j j)) trivial (t j j (oUn j j j)<|t j j (oMv j j)<|tT j j j j (nF (iR.2 hc40)) (oFA (r':=.mp 4 0 1) j fF145_1 j j)<|tT j j j j (nF (iR.2 hc40)) (oLd (cs:=[.im 0 _]) j tF2 j j)<|tT j j j j (nF (iR.2 hc40)) (oFA (r':=.mp 1 0 1) j fF26_1 j j)<|tT j j j j (nF (iR.2 hc40)) (oLd (cs:=[.im 0 _]) j tF2 j j)<|sS (dT z43 j j j (nF (iR.2 hc40)) (oCa (xs:=[.v false [.im 0 _],.v false [.im 0 _],.v false [.im 0 _]]) (vs:=[(false,[.im 0 _])]) (v:=.v false [.im 0 _]) (L_impl_within hx50) (.inl j) j kF66_2_2_2 j (ppC j (ppC j (ppC j pp0))) j j pb0 j j j)) trivial (tT j j j j (nF (iR.2 hc40)) (oUn j j j)<|t j j (oPkF j j (nF (iR.2 hc40)) j)<|t j j (oMv j j)<|tT j j j j (nF (iR.2 hc41)) (oFA (r':=.mp 1 0 2) j fF26_2 j j)<|tT j j j j (nF (iR.2 hc41)) (oLd (cs:=[.im 2 _]) j tF23 j j)<|tT j j j j (nF (iR.2 hc41)) (oMv j j)<|sK (O:=[4]) j j j (dT z43 j j j (nF (iR.2 hc41)) (oLd (cs:=[.im 0 _,.im 0 _]) j tF145 j j))<|sS (dT z43 j j j (nF (iR.2 hc41)) (oSlI j hx57 sF23 j bn0 (bn1 j) j j)) (kY ⟨j,trivial⟩ trivial) (sS (dT z43 j j j (nF (iR.2 hc41)) (oCa (xs:=[.v false [.im 2 _],.v true [.im 0 _,.im 0 _]]) (vs:=[(false,[.im 0 _])]) (v:=.v false [.im 0 _]) (L_slices_Contains_impl_Point_impl_Point hx59) (.inl j) j kF92_23_145 j (ppC j (ppC j pp0)) j j pb0 j j j)) (kN j trivial) (t j j (oPkF j j (nF (iR.2 hc41)) j)<|sD (by kernel_rfl)))))
       ·cases hm43
        exact t j j (oLd (cs:=[.im 0 _]) j tF2 j j)<|sS (dN z43 j (oCa (xs:=[.v false [.im 0 _],.v false [.im 0 _],.v false [.im 0 _]]) (vs:=[(false,[.im 0 _])]) (v:=.v false [.im 0 _]) (L_impl_within hx43) (.inl j) j kF66_2_2_2 j (ppC j (ppC j (ppC j pp0))) j j pb0 j j j)) trivial (t j j (oUn j j j)<|t j j (oMv j j)<|tT j j j j (nF (iR.2 hc40)) (oFA (r':=.mp 4 0 1) j fF145_1 j j)<|tT j j j j (nF (iR.2 hc40)) (oLd (cs:=[.im 0 _]) j tF2 j j)<|tT j j j j (nF (iR.2 hc40)) (oFA (r':=.mp 1 0 1) j fF26_1 j j)<|tT j j j j (nF (iR.2 hc40)) (oLd (cs:=[.im 0 _]) j tF2 j j)<|sS (dT z43 j j j (nF (iR.2 hc40)) (oCa (xs:=[.v false [.im 0 _],.v false [.im 0 _],.v false [.im 0 _]]) (vs:=[(false,[.im 0 _])]) (v:=.v false [.im 0 _]) (L_impl_within hx50) (.inl j) j kF66_2_2_2 j (ppC j (ppC j (ppC j pp0))) j j pb0 j j j)) trivial (tT j j j j (nF (iR.2 hc40)) (oUn j j j)<|t j j (oPkF j j (nF (iR.2 hc40)) j)<|t j j (oMv j j)<|tF j j j j (nT (byF iR hc41)) j<|tF j j j j (nT (byF iR hc41)) j<|tF j j j j (nT (byF iR hc41)) j<|sK (O:=[4]) j j j (dF j j j (nT (byF iR hc41)) j)<|sS (dF j j j (nT (byF iR hc41)) j) (kY ⟨j,trivial⟩ trivial) (sS (dF j j j (nT (byF iR hc41)) j) (kN j trivial) (t j j (oPkT j j (nT (byF iR hc41)) j)<|sD (by kernel_rfl)))))
      ·cases hm43
       exact t j j (oLd (cs:=[.im 0 _]) j tF2 j j)<|sS (dN z43 j (oCa (xs:=[.v false [.im 0 _],.v false [.im 0 _],.v false [.im 0 _]]) (vs:=[(false,[.im 0 _])]) (v:=.v false [.im 0 _]) (L_impl_within hx43) (.inl j) j kF66_2_2_2 j (ppC j (ppC j (ppC j pp0))) j j pb0 j j j)) trivial (t j j (oUn j j j)<|t j j (oMv j j)<|tF j j j j (nT (byF iR hc40)) j<|tF j j j j (nT (byF iR hc40)) j<|tF j j j j (nT (byF iR hc40)) j<|tF j j j j (nT (byF iR hc40)) j<|sS (dF j j j (nT (byF iR hc40)) j) trivial (tF j j j j (nT (byF iR hc40)) j<|t j j (oPkT j j (nT (byF iR hc40)) j)<|t j j (oMv j j)<|tF j j j j j j<|tF j j j j j j<|tF j j j j j j<|sK (O:=[4]) j j j (dF j j j j j)<|sS (dF j j j j j) (kY ⟨j,trivial⟩ trivial) (sS (dF j j j j j) (kN j trivial) (t j j (oPkT j j j j)<|sD (by kernel_rfl)))))
     ·refine us<|gc h j iR (fun hc42 h=>?_) fun hc42 h=>?_
      ·refine gs<|g0 j j (q (oAsI j j)<|nl)<|us<|Go.ret (Unw.ret ?_)
       cases h
       exact ⟨j,(fo rF43 j)⟩
      ·refine Go.skip<|Unw.blk<|us<|g0 j j (q (oBi j j j j)<|q (oMv j j)<|nl)<|Unw.nil<|?_
       cases h
       exact ⟨j,(by kernel_rfl)⟩
    ·refine Go.exit<|ux<|Unw.nil<|?_
     cases h
     exact ⟨j,(by kernel_rfl)⟩
   ·rintro ⟨e,st⟩ hp
    rcases o with u | r2
    ·dsimp only at h
     obtain ⟨he,hst⟩:=hp
     obtain rfl:e= .exit 0:=he
     refine Unw.blkx<|us<|gs<|gs<|g2 c43 j j hst (q (oFA (r':=.mp 1 0 3) j fF26_3 j j)<|q (oLd (cs:=[.im 2 _]) j tF24 j j)<|q (oLnI j j uF24 j)<|q (oMv j j)<|nl)<|us<|Go.block<|?_
     obtain ⟨o,hl,h⟩:=bs h
     refine gl c43 j _ (fun (t_65_l10:Int)=>mk [(1,M 1),(63,D 2 (W 2 e_S_Face d_0.Faces)),(64,iv (d_0.Faces.length:Int)),(65,iv t_65_l10)] [(1,Oa (G 2 (u_S_Drawing d_0)))]) (fun (o:(Unit ⊕ Bool)) (p:Ex×St)=>match o with | (.inl _)=>p.1= .exit 2∧p.2.norm ([],[])=mk [] [] | (.inr r2)=>p.1= .ret∧fin Try.prog cfg 43 Try.f43 [.im 2 true (u_S_Drawing d_0)] p.2=some (B0 [(false,[.im 0 (V r2)])])) hl (by kernel_rfl) ?_ ?_ ?_
     ·intro o p hp e
      rcases o with u | r2<;>exact nomatch (hp.1.symm.trans e)
     ·rintro t_65_l10 o h
      unfold impl_ValidDrawing_l10 at h
      refine gs<|g0 j j (q (oBi j j j j)<|nl)<|us<|gs<|gc h j iDec (fun hc31 h=>?_) fun hc31 h=>?_
      ·refine Go.skip<|us<|gs<|Go.block<|gs<|?_
       obtain ⟨x68,hx68,h⟩:=bs h
       refine g0 j j (q (oMv j j)<|q (oIAI j hx68 sF24 j j)<|q (oLd (cs:=[.im 2 _,.im 2 _]) j tF139 j j)<|q (oAl j tF139 (tkI (tkN tk0)))<|q (oAsI j j)<|q (oSt tF139 j j j (tkI (tkI tk0)) j j j)<|nl)<|us<|gs<|gs<|?_
       obtain ⟨x72,hx72,h⟩:=bs h
       obtain ⟨t_89_m12,hm38,h⟩:=bs h
       refine gd c43 j j j (st1:=mk [(1,M 1),(5,iv t_65_l10),(6,M 6),(63,D 2 (W 2 e_S_Face d_0.Faces)),(64,iv (d_0.Faces.length:Int)),(65,iv t_65_l10)] [(1,Oa (G 2 (u_S_Drawing d_0))),(6,Oa (G 2 (u_S_Face x68)))]) (by kernel_rfl) (mk [(1,M 1),(6,M 6),(63,D 2 (W 2 e_S_Face d_0.Faces)),(64,iv (d_0.Faces.length:Int)),(65,iv t_65_l10),(89,bv t_89_m12)] [(1,Oa (G 2 (u_S_Drawing d_0))),(6,Oa (G 2 (u_S_Face x68)))]) ?_ ?_
       ·refine t j j (oFA (r':=.mp 6 0 0) j fF139_0 j j)<|?_
        refine ic hm38 (fun hc32 hm38=>?_) fun hc32 hm38=>?_
        ·refine ic hm38 (fun hc33 hm38=>?_) fun hc33 hm38=>?_
         ·obtain ⟨x82,hx82,hm38⟩:=bs hm38
          cases hm38
          exact t j j (oLd (cs:=[.im 0 _]) j tF9 j j)<|sS (dN z43 j (oCa (xs:=[.v false [.im 0 _]]) (vs:=[(false,[.im 0 _])]) (v:=.v false [.im 0 _]) (L_impl_IsName hx72) (.inl j) j kF93_9 j (ppC j pp0) j j pb0 j j j)) trivial (t j j (oUn j j j)<|t j j (oMv j j)<|tT j j j j (nF (iR.2 hc32)) (oMv j j)<|tT j j j j (nF (iR.2 hc32)) (oBi j j j j)<|tT j j j j (nF (iR.2 hc32)) (oMv j j)<|tT j j j j (iDec.2 hc33) (oFA (r':=.mp 1 0 3) j fF26_3 j j)<|tT j j j j (iDec.2 hc33) (oLd (cs:=[.im 2 _]) j tF24 j j)<|tT j j j j (iDec.2 hc33) (oMv j j)<|tT j j j j (iDec.2 hc33) (oBi j j j j)<|tT j j j j (iDec.2 hc33) (oIAI j hx82 sF24 j j)<|tT j j j j (iDec.2 hc33) (oFA (r':=.im 2 _) j fF139_0 j j)<|tT j j j j (iDec.2 hc33) (oLd (cs:=[.im 2 _]) j tF9 j j)<|tT j j j j (iDec.2 hc33) (oFA (r':=.mp 6 0 0) j fF139_0 j j)<|tT j j j j (iDec.2 hc33) (oLd (cs:=[.im 0 _]) j tF9 j j)<|tT j j j j (iDec.2 hc33) (oBi j j j j)<|tT j j j j (nF (iR.2 hc32)) (oPkT j j (iDec.2 hc33) j)<|t j j (oPkF j j (nF (iR.2 hc32)) j)<|sD (by kernel_rfl))
         ·cases hm38
          exact t j j (oLd (cs:=[.im 0 _]) j tF9 j j)<|sS (dN z43 j (oCa (xs:=[.v false [.im 0 _]]) (vs:=[(false,[.im 0 _])]) (v:=.v false [.im 0 _]) (L_impl_IsName hx72) (.inl j) j kF93_9 j (ppC j pp0) j j pb0 j j j)) trivial (t j j (oUn j j j)<|t j j (oMv j j)<|tT j j j j (nF (iR.2 hc32)) (oMv j j)<|tT j j j j (nF (iR.2 hc32)) (oBi j j j j)<|tT j j j j (nF (iR.2 hc32)) (oMv j j)<|tF j j j j (byF iDec hc33) j<|tF j j j j (byF iDec hc33) j<|tF j j j j (byF iDec hc33) j<|tF j j j j (byF iDec hc33) j<|tF j j j j (byF iDec hc33) j<|tF j j j j (byF iDec hc33) j<|tF j j j j (byF iDec hc33) j<|tF j j j j (byF iDec hc33) j<|tF j j j j (byF iDec hc33) j<|tF j j j j (byF iDec hc33) j<|tT j j j j (nF (iR.2 hc32)) (oPkF j j (byF iDec hc33) j)<|t j j (oPkF j j (nF (iR.2 hc32)) j)<|sD (by kernel_rfl))
        ·cases hm38
         exact t j j (oLd (cs:=[.im 0 _]) j tF9 j j)<|sS (dN z43 j (oCa (xs:=[.v false [.im 0 _]]) (vs:=[(false,[.im 0 _])]) (v:=.v false [.im 0 _]) (L_impl_IsName hx72) (.inl j) j kF93_9 j (ppC j pp0) j j pb0 j j j)) trivial (t j j (oUn j j j)<|t j j (oMv j j)<|tF j j j j (nT (byF iR hc32)) j<|tF j j j j (nT (byF iR hc32)) j<|tF j j j j (nT (byF iR hc32)) j<|sT j (dU j j j j)<|sT j (dU j j j j)<|sT j (dU j j j j)<|sT j (dU j j j j)<|sT j (dU j j j j)<|sT j (dU j j j j)<|sT j (dU j j j j)<|sT j (dU j j j j)<|sT j (dU j j j j)<|sT j (dU j j j j)<|tF j j j j (nT (byF iR hc32)) j<|t j j (oPkT j j (nT (byF iR hc32)) j)<|sD (by kernel_rfl))
       ·refine us<|gc h j iR (fun hc34 h=>?_) fun hc34 h=>?_
        ·refine gs<|g0 j j (q (oAsI j j)<|nl)<|us<|Go.ret (Unw.ret ?_)
         cases h
         exact ⟨j,(fo rF43 j)⟩
        ·refine Go.skip<|us<|gs<|?_
         obtain ⟨x95,hx95,h⟩:=bs h
         refine g0 j j (q (oFA (r':=.mp 1 0 2) j fF26_2 j j)<|q (oLd (cs:=[.im 2 _]) j tF23 j j)<|q (oFA (r':=.mp 6 0 1) j fF139_1 j j)<|q (oLd (cs:=[.im 2 _]) j tF28 j j)<|q (oCr (xs:=[.v false [.im 2 _],.v false [.im 2 _]]) (vs:=[(false,[.own 95 0 0]),(false,[.im 0 _])]) (v:=.tup [(false,[.own 95 0 0]),(false,[.im 0 _])]) (c:=⟨.sh,0,_⟩) (cs:=[]) (L_impl_ringPolygon hx95) (.inl j) j kF94_23_28 j (ppC j (ppC j pp0)) j j pb0 j j j)<|q (oMvT j j)<|q (oEx j j j)<|q (oEx j j j)<|q (oAsO j j j j j)<|q (oAsI j j)<|nl)<|us<|gs<|?_
         obtain ⟨t_104_m15,hm37,h⟩:=bs h
         refine gX c43 j j j (mk [(1,M 1),(63,D 2 (W 2 e_S_Face d_0.Faces)),(64,iv (d_0.Faces.length:Int)),(65,iv t_65_l10),(104,bv t_104_m15)] [(1,Oa (G 2 (u_S_Drawing d_0)))]) ?_ ?_
         ·refine xq (oMv j j)<|xq (oUn j j j)<|xq (oMv j j)<|?_
          refine ic hm37 (fun hc35 hm37=>?_) fun hc35 hm37=>?_
          ·obtain ⟨x102,hx102,hm37⟩:=bs hm37
           cases hm37
           exact xqT j j (nF (iR.2 hc35)) (oMv j j)<|xqT j j (nF (iR.2 hc35)) (oCa (xs:=[.v false [.own 7 0 0]]) (vs:=[(false,[.im 0 _])]) (v:=.v false [.im 0 _]) (L_impl_ValidPolygon hx102) (.inl j) j kF95_23 j (ppC j pp0) j j pb0 j j j)<|xqT j j (nF (iR.2 hc35)) (oUn j j j)<|xq (oPkF j j (nF (iR.2 hc35)) j)<|xn
          ·cases hm37
           exact xsgF j j (nT (byF iR hc35)) j<|xsgF j j (nT (byF iR hc35)) j<|xsgF j j (nT (byF iR hc35)) j<|xq (oPkT j j (nT (byF iR hc35)) j)<|xn
         ·refine us<|gc h j iR (fun hc36 h=>?_) fun hc36 h=>?_
          ·refine gs<|g0 j j (q (oAsI j j)<|nl)<|us<|Go.ret (Unw.ret ?_)
           cases h
           exact ⟨j,(fo rF43 j)⟩
          ·refine Go.skip<|Unw.blk<|us<|g0 j j (q (oBi j j j j)<|q (oMv j j)<|nl)<|Unw.nil<|?_
           cases h
           exact ⟨j,(by kernel_rfl)⟩
      ·refine Go.exit<|ux<|Unw.nil<|?_
       cases h
       exact ⟨j,(by kernel_rfl)⟩
     ·rintro ⟨e,st⟩ hp
      rcases o with u | r2
      ·dsimp only at h
       obtain ⟨he,hst⟩:=hp
       obtain rfl:e= .exit 2:=he
       refine Unw.blkx<|us<|gs<|g2 c43 j j hst (q (oAsI j j)<|nl)<|us<|Go.ret (Unw.ret ?_)
       cases h
       exact fr rF43 j
      ·dsimp only at h
       obtain ⟨he,hfin⟩:=hp
       obtain rfl:e= .ret:=he
       cases h
       exact Unw.ret (Fin_ret hfin)
    ·dsimp only at h
     obtain ⟨he,hfin⟩:=hp
     obtain rfl:e= .ret:=he
     cases h
     exact Unw.ret (Fin_ret hfin)
theorem L_impl_ringEdges {ring_0:(List Int)} {r:(List Ar2_Int)} (h:impl_ringEdges ring_0=some r):FX 99 [.im 2 false [W 1 eI ring_0]] (B0 [(false,[.ow 0 2 (List.map e_Ar2_Int r)])]):=by
 unfold impl_ringEdges at h
 refine gn 35 Try.func99 rfl ?_
 refine gs<|g0 j j (q (oAsN j j eF152)<|nl)<|us<|gs<|g0 j j (q (oBS (es:=List.map e_Ar2_Int ([]:List Ar2_Int)) j sF152 j pt0 (flat0 j fun _=>j))<|q (oAsO j j j j j)<|nl)<|us<|gs<|gs<|g0 j j (q (oMv j j)<|q (oLnI j j uF28 j)<|q (oMv j j)<|nl)<|us<|Go.block<|?_
 obtain ⟨o,hl,h⟩:=bs h
 refine gl c99 j _ (fun (s:(Int×(List Ar2_Int)))=>match s with | (t_10_l3,out_o3_l3)=>mk [(0,D 2 (W 1 eI ring_0)),(3,H 3 0),(8,D 2 (W 1 eI ring_0)),(9,iv (ring_0.length:Int)),(10,iv t_10_l3)] [(3,Oc [Z (W 2 e_Ar2_Int out_o3_l3)])]) (fun (out_o3_e0_3:(List Ar2_Int)) (p:Ex×St)=>p.1= .exit 0∧p.2.norm ([3],[3])=mk [(3,H 3 0)] [(3,Oc [Z (W 2 e_Ar2_Int out_o3_e0_3)])]) hl (by kernel_rfl) ?_ ?_ ?_
 ·intro o p hp e
  exact nomatch (hp.1.symm.trans e)
 ·rintro ⟨t_10_l3,out_o3_l3⟩ o h
  unfold impl_ringEdges_l3 at h
  dsimp only at h
  refine gs<|g0 j j (q (oBi j j j j)<|nl)<|us<|gs<|gc h j iDec (fun hc3 h=>?_) fun hc3 h=>?_
  ·refine Go.skip<|us<|gs<|Go.block<|gs<|?_
   obtain ⟨x13,hx13,h⟩:=bs h
   refine g0 j j (q (oMv j j)<|q (oIAI j hx13 sF28 j j)<|q (oLd (cs:=[.im 2 _]) j tF2 j j)<|q (oAsI j j)<|q (oAsI j j)<|nl)<|us<|gs<|?_
   obtain ⟨x20,hx20,h⟩:=bs h
   obtain ⟨x21,hx21,h⟩:=bs h
   refine g0 j j (q (oMv j j)<|q (oMv j j)<|q (oBi j j j j)<|q (oMv j j)<|q (oLnI j j uF28 j)<|q (oRem j hx20 j j)<|q (oIAI j hx21 sF28 j j)<|q (oLd (cs:=[.im 2 _]) j tF2 j j)<|q (oAsI j j)<|nl)<|us<|?_
   obtain ⟨x32,hx32,h⟩:=bs h
   refine g0 j j (q (oMv j j)<|q (oMv j j)<|q (oMv j j)<|q (oMin j j)<|q (oMv j j)<|q (oMv j j)<|q (oMax j j)<|q (oBu (cs:=[.im 0 _,.im 0 _]) j bF155 j)<|q (oBS (es:=List.map e_Ar2_Int ([(⟨(min2 x13 x21),(max2 x13 x21)⟩:Ar2_Int)]:List Ar2_Int)) j sF152 j (ptC j (fxI (fxI fx0)) j pt0) (flat0 j fun _=>j))<|q (oApO (en:=e_Ar2_Int) (M:=([(⟨(min2 x13 x21),(max2 x13 x21)⟩:Ar2_Int)]:List Ar2_Int)) j hx32 j sF152 j j uF152 (.inl ⟨_,j⟩) j j j j (el_own j j) (flat0 j fun _=>j))<|q (oAsO j j j j j)<|nl)<|Unw.blk<|us<|g0 j j (q (oBi j j j j)<|q (oMv j j)<|nl)<|Unw.nil<|?_
   cases h
   exact ⟨j,(by kernel_rfl)⟩
  ·refine Go.exit<|ux<|Unw.nil<|?_
   cases h
   exact ⟨j,(by kernel_rfl)⟩
 ·rintro ⟨e,st⟩ hp
  obtain ⟨out_o3_e0_3,rfl⟩:∃y,y=o:=⟨o,rfl⟩
  obtain ⟨he,hst⟩:=hp
  obtain rfl:e= .exit 0:=he
  refine Unw.blkx<|us<|gs<|g2 c99 j j hst (q (oMv j j)<|q (oAsO j j j j j)<|nl)<|us<|Go.ret (Unw.ret ?_)
  cases h
  exact fr rF99 j
theorem L_slices_Index_2_int64_2_int64 {s_0:(List Ar2_Int)} {v_1:Ar2_Int} {r:Int} (h:slices_Index_2_int64_2_int64 s_0 v_1=some r):FX 156 [.im 2 false [W 2 e_Ar2_Int s_0],.im 2 true (u_Ar2_Int v_1)] (B0 [(false,[.im 0 (I r)])]):=by
 unfold slices_Index_2_int64_2_int64 at h
 refine gn 19 Try.func156 rfl ?_
 refine gs<|g0 j j (q (oBx j tF155 j (tkI (tkI tk0)))<|q (oAsI j j)<|nl)<|us<|gs<|gs<|g0 j j (q (oMv j j)<|q (oLnI j j uF152 j)<|q (oMv j j)<|nl)<|us<|Go.block<|?_
 obtain ⟨o,hl,h⟩:=bs h
 refine gl c156 j _ (fun (t_8_l2:Int)=>mk [(0,D 2 (W 2 e_Ar2_Int s_0)),(3,M 3),(7,iv (s_0.length:Int)),(8,iv t_8_l2)] [(3,Oa (G 0 (u_Ar2_Int v_1)))]) (fun (o:(Unit ⊕ Int)) (p:Ex×St)=>match o with | (.inl _)=>p.1= .exit 0∧p.2.norm ([],[])=mk [] [] | (.inr r2)=>p.1= .ret∧fin Try.prog cfg 156 Try.f156 [.im 2 false [W 2 e_Ar2_Int s_0],.im 2 true (u_Ar2_Int v_1)] p.2=some (B0 [(false,[.im 0 (I r2)])])) hl (by kernel_rfl) ?_ ?_ ?_
 ·intro o p hp e
  rcases o with u | r2<;>exact nomatch (hp.1.symm.trans e)
 ·rintro t_8_l2 o h
  unfold slices_Index_2_int64_2_int64_l2 at h
  refine gs<|g0 j j (q (oBi j j j j)<|nl)<|us<|gs<|gc h j iDec (fun hc5 h=>?_) fun hc5 h=>?_
  ·refine Go.skip<|us<|gs<|Go.block<|gs<|g0 j j (q (oMv j j)<|q (oAsI j j)<|nl)<|us<|gs<|?_
   obtain ⟨x14,hx14,h⟩:=bs h
   refine gd c156 j j j j (mk [(0,D 2 (W 2 e_Ar2_Int s_0)),(3,M 3),(5,iv t_8_l2),(7,iv (s_0.length:Int)),(8,iv t_8_l2),(16,bv ((v_1.e0==x14.e0)&&(v_1.e1==x14.e1)))] [(3,Oa (G 0 (u_Ar2_Int v_1)))]) (t j j (oLd (cs:=[.im 0 _,.im 0 _]) j tF155 j j)<|t j j (oMv j j)<|t j j (oMv j j)<|t j j (oIAI j hx14 sF152 j j)<|t j j (oLd (cs:=[.im 2 _,.im 2 _]) j tF155 j j)<|t j j (oBa j (qEF155 v_1.e0 v_1.e1 x14.e0 x14.e1) j j j j)<|sD (by kernel_rfl))<|us<|gc h j (iAnd iEq iEq) (fun hc6 h=>?_) fun hc6 h=>?_
   ·refine gs<|g0 j j (q (oMv j j)<|q (oAsI j j)<|nl)<|us<|Go.ret (Unw.ret ?_)
    cases h
    exact ⟨j,(fo rF156 j)⟩
   ·refine Go.skip<|Unw.blk<|us<|g0 j j (q (oBi j j j j)<|q (oMv j j)<|nl)<|Unw.nil<|?_
    cases h
    exact ⟨j,(by kernel_rfl)⟩
  ·refine Go.exit<|ux<|Unw.nil<|?_
   cases h
   exact ⟨j,(by kernel_rfl)⟩
 ·rintro ⟨e,st⟩ hp
  rcases o with u | r2
  ·dsimp only at h
   obtain ⟨he,hst⟩:=hp
   obtain rfl:e= .exit 0:=he
   refine Unw.blkx<|us<|gs<|g2 c156 j j hst (q (oAsI j j)<|nl)<|us<|Go.ret (Unw.ret ?_)
   cases h
   exact fr rF156 j
  ·dsimp only at h
   obtain ⟨he,hfin⟩:=hp
   obtain rfl:e= .ret:=he
   cases h
   exact Unw.ret (Fin_ret hfin)
theorem L_slices_Contains_2_int64_2_int64 {s_0:(List Ar2_Int)} {v_1:Ar2_Int} {r:Bool} (h:slices_Contains_2_int64_2_int64 s_0 v_1=some r):FX 102 [.im 2 false [W 2 e_Ar2_Int s_0],.im 2 true (u_Ar2_Int v_1)] (B0 [(false,[.im 0 (V r)])]):=by
 unfold slices_Contains_2_int64_2_int64 at h
 refine gn 9 Try.func102 rfl ?_
 refine gs<|g0 j j (q (oBx j tF155 j (tkI (tkI tk0)))<|q (oAsI j j)<|nl)<|us<|gs<|?_
 obtain ⟨x7,hx7,h⟩:=bs h
 refine g0 j j (q (oMv j j)<|q (oLd (cs:=[.im 0 _,.im 0 _]) j tF155 j j)<|q (oCa (xs:=[.v false [.im 2 _],.v true [.im 0 _,.im 0 _]]) (vs:=[(false,[.im 0 _])]) (v:=.v false [.im 0 _]) (L_slices_Index_2_int64_2_int64 hx7) (.inl j) j kF156_152_155 j (ppC j (ppC j pp0)) j j pb0 j j j)<|q (oBi j j j j)<|q (oAsI j j)<|nl)<|us<|Go.ret (Unw.ret ?_)
 cases h
 exact fr rF102 j
theorem L_impl_neighbours_c1 {e_0:Ar2_Int} {cap0_0:(List (List Ar2_Int))} {cap1_0:Int} {r:Bool} (h:impl_neighbours_c1 e_0 cap0_0 cap1_0=some r):FX 101 [.im 2 true (u_Ar2_Int e_0),.im 2 false [.cp [W 1 (eL 2 e_Ar2_Int) cap0_0] 0],.im 2 false [.cp [I cap1_0] 0]] (B0 [(false,[.im 0 (V r)])]):=by
 unfold impl_neighbours_c1 at h
 refine gn 11 Try.func101 rfl ?_
 refine gs<|g0 j j (q (oBx j tF155 j (tkI (tkI tk0)))<|q (oAsI j j)<|nl)<|us<|gs<|?_
 obtain ⟨x7,hx7,h⟩:=bs h
 obtain ⟨x10,hx10,h⟩:=bs h
 refine gd c101 j j j j (mk [(4,bv x10)] []) (t j j (oLd (cs:=[.im 2 _]) j tF151 j j)<|t j j (oLd (cs:=[.im 2 _]) j tF3 j j)<|t j j (oIAI j hx7 sF151 j j)<|t j j (oLd (cs:=[.im 2 _]) j tF152 j j)<|t j j (oLd (cs:=[.im 0 _,.im 0 _]) j tF155 j j)<|sS (dN z101 j (oCa (xs:=[.v false [.im 2 _],.v true [.im 0 _,.im 0 _]]) (vs:=[(false,[.im 0 _])]) (v:=.v false [.im 0 _]) (L_slices_Contains_2_int64_2_int64 hx10) (.inl j) j kF102_152_155 j (ppC j (ppC j pp0)) j j pb0 j j j)) trivial (sS (dN z101 j (oAsI j j)) trivial (sD (by kernel_rfl))))<|us<|Go.ret (Unw.ret ?_)
 cases h
 exact fr rF101 j
theorem L_slices_IndexFunc_2_int64_2_int64_101 {s_0:(List Ar2_Int)} {fc1_0_0:(List (List Ar2_Int))} {fc1_1_0:Int} {r:Int} (h:slices_IndexFunc_2_int64_2_int64 s_0 (fun b0=>impl_neighbours_c1 b0 fc1_0_0 fc1_1_0)=some r):FX 155 [.im 2 false [W 2 e_Ar2_Int s_0],.im 2 false [.clo 101 [.cp [W 1 (eL 2 e_Ar2_Int) fc1_0_0] 0,.cp [I fc1_1_0] 0]]] (B0 [(false,[.im 0 (I r)])]):=by
 unfold slices_IndexFunc_2_int64_2_int64 at h
 refine gn 19 Try.func155 rfl ?_
 refine gs<|g0 j j (q (oAsI j j)<|nl)<|us<|gs<|gs<|g0 j j (q (oMv j j)<|q (oLnI j j uF152 j)<|q (oMv j j)<|nl)<|us<|Go.block<|?_
 obtain ⟨o,hl,h⟩:=bs h
 refine gl c155 j _ (fun (t_8_l2:Int)=>mk [(0,D 2 (W 2 e_Ar2_Int s_0)),(1,D 2 (.clo 101 [.cp [W 1 (eL 2 e_Ar2_Int) fc1_0_0] 0,.cp [I fc1_1_0] 0])),(7,iv (s_0.length:Int)),(8,iv t_8_l2)] []) (fun (o:(Unit ⊕ Int)) (p:Ex×St)=>match o with | (.inl _)=>p.1= .exit 0∧p.2.norm ([],[])=mk [] [] | (.inr r2)=>p.1= .ret∧fin Try.prog cfg 155 Try.f155 [.im 2 false [W 2 e_Ar2_Int s_0],.im 2 false [.clo 101 [.cp [W 1 (eL 2 e_Ar2_Int) fc1_0_0] 0,.cp [I fc1_1_0] 0]]] p.2=some (B0 [(false,[.im 0 (I r2)])])) hl (by kernel_rfl) ?_ ?_ ?_
 ·intro o p hp e
  rcases o with u | r2<;>exact nomatch (hp.1.symm.trans e)
 ·rintro t_8_l2 o h
  unfold slices_IndexFunc_2_int64_2_int64_l2 at h
  refine gs<|g0 j j (q (oBi j j j j)<|nl)<|us<|gs<|gc h j iDec (fun hc5 h=>?_) fun hc5 h=>?_
  ·refine Go.skip<|us<|gs<|Go.block<|gs<|g0 j j (q (oMv j j)<|q (oAsI j j)<|nl)<|us<|gs<|?_
   obtain ⟨x14,hx14,h⟩:=bs h
   obtain ⟨x16,hx16,h⟩:=bs h
   refine g0 j j (q (oMv j j)<|q (oMv j j)<|q (oMv j j)<|q (oIAI j hx14 sF152 j j)<|q (oLd (cs:=[.im 2 _,.im 2 _]) j tF155 j j)<|q (oCa (xs:=[.v true [.im 2 _,.im 2 _],.v false [.im 2 _],.v false [.im 2 _]]) (vs:=[(false,[.im 0 _])]) (v:=.v false [.im 0 _]) (L_impl_neighbours_c1 hx16) (.inr ⟨_,_,j,j⟩) j kF101_155_0_0 j (ppC j (ppC j (ppC j pp0))) j j pb0 j j j)<|nl)<|us<|gc h j iR (fun hc6 h=>?_) fun hc6 h=>?_
   ·refine gs<|g0 j j (q (oMv j j)<|q (oAsI j j)<|nl)<|us<|Go.ret (Unw.ret ?_)
    cases h
    exact ⟨j,(fo rF155 j)⟩
   ·refine Go.skip<|Unw.blk<|us<|g0 j j (q (oBi j j j j)<|q (oMv j j)<|nl)<|Unw.nil<|?_
    cases h
    exact ⟨j,(by kernel_rfl)⟩
  ·refine Go.exit<|ux<|Unw.nil<|?_
   cases h
   exact ⟨j,(by kernel_rfl)⟩
 ·rintro ⟨e,st⟩ hp
  rcases o with u | r2
  ·dsimp only at h
   obtain ⟨he,hst⟩:=hp
   obtain rfl:e= .exit 0:=he
   refine Unw.blkx<|us<|gs<|g2 c155 j j hst (q (oAsI j j)<|nl)<|us<|Go.ret (Unw.ret ?_)
   cases h
   exact fr rF155 j
  ·dsimp only at h
   obtain ⟨he,hfin⟩:=hp
   obtain rfl:e= .ret:=he
   cases h
   exact Unw.ret (Fin_ret hfin)
theorem L_slices_ContainsFunc_2_int64_2_int64_101 {s_0:(List Ar2_Int)} {fc1_0_0:(List (List Ar2_Int))} {fc1_1_0:Int} {r:Bool} (h:slices_ContainsFunc_2_int64_2_int64 s_0 (fun b0=>impl_neighbours_c1 b0 fc1_0_0 fc1_1_0)=some r):FX 100 [.im 2 false [W 2 e_Ar2_Int s_0],.im 2 false [.clo 101 [.cp [W 1 (eL 2 e_Ar2_Int) fc1_0_0] 0,.cp [I fc1_1_0] 0]]] (B0 [(false,[.im 0 (V r)])]):=by
 unfold slices_ContainsFunc_2_int64_2_int64 at h
 refine gn 9 Try.func100 rfl ?_
 refine gs<|g0 j j (q (oAsI j j)<|nl)<|us<|gs<|?_
 obtain ⟨x7,hx7,h⟩:=bs h
 refine g0 j j (q (oMv j j)<|q (oMv j j)<|q (oCa (xs:=[.v false [.im 2 _],.v false [.im 2 _]]) (vs:=[(false,[.im 0 _])]) (v:=.v false [.im 0 _]) (L_slices_IndexFunc_2_int64_2_int64_101 hx7) (.inl j) j kF155_152_157 j (ppC j (ppC j pp0)) j j pb0 j j j)<|q (oBi j j j j)<|q (oAsI j j)<|nl)<|us<|Go.ret (Unw.ret ?_)
 cases h
 exact fr rF100 j
theorem L_impl_neighbours {d_0:S_Drawing} {r:(List (List Int))} (h:impl_neighbours d_0=some r):FX 49 [.im 2 true (u_S_Drawing d_0)] (B0 [(false,[.im 0 (W 1 (eL 1 eI) r)])]):=by
 unfold impl_neighbours at h
 refine gn 61 Try.func49 rfl ?_
 refine gs<|g0 j j (sqn z49 j (oBx j tF26 j (tkI (tkI (tkI (tkI tk0)))))<|sqf z49 j (oAsN j j eF80) (frzO j j j)<|nl)<|us<|gs<|g0 j j (sqn z49 j (oBS (es:=List.map (eL 2 e_Ar2_Int) ([]:List (List Ar2_Int))) j sF151 j pt0 (flat1 j))<|sqn z49 j (oAl j tF151 (tkN tk0))<|sq0 (oSt tF151 j j j (tkO j j tk0) j j j)<|nl)<|us<|gs<|gs<|g1 j j (mk [(1,M 1),(3,M 3)] [(1,Oa (G 2 (u_S_Drawing d_0))),(3,Ob [Z (W 1 (eL 2 e_Ar2_Int) ([]:List (List Ar2_Int)))])]) (sqn z49 j (oFA (r':=.mp 1 0 3) j fF26_3 j j)<|sqn z49 j (oLd (cs:=[.im 2 _]) j tF24 j j)<|sqn z49 j (oLnI j j uF24 j)<|sqn z49 j (oMv j j)<|nl)<|us<|Go.block<|?_
 obtain ⟨o,hl,h⟩:=bs h
 refine gl c49 j _ (fun (s:(Int×(List (List Ar2_Int))))=>match s with | (t_13_l3,edges_o3_l3)=>mk [(3,M 3),(11,D 2 (W 2 e_S_Face d_0.Faces)),(12,iv (d_0.Faces.length:Int)),(13,iv t_13_l3)] [(3,Ob [Z (W 1 (eL 2 e_Ar2_Int) edges_o3_l3)])]) (fun (edges_o3_e0_3:(List (List Ar2_Int))) (p:Ex×St)=>p.1= .exit 0∧p.2.norm ([3],[3])=mk [(3,M 3)] [(3,Ob [Z (W 1 (eL 2 e_Ar2_Int) edges_o3_e0_3)])]) hl (by kernel_rfl) ?_ ?_ ?_
 ·intro o p hp e
  exact nomatch (hp.1.symm.trans e)
 ·rintro ⟨t_13_l3,edges_o3_l3⟩ o h
  unfold impl_neighbours_l3 at h
  dsimp only at h
  refine gs<|g0 j j (sqn z49 j (oBi j j j j)<|nl)<|us<|gs<|gc h j iDec (fun hc38 h=>?_) fun hc38 h=>?_
  ·refine Go.skip<|us<|gs<|Go.block<|gs<|?_
   obtain ⟨x15,hx15,h⟩:=bs h
   refine g0 j j (sqn z49 j (oIAI j hx15 sF24 j j)<|sqn z49 j (oLd (cs:=[.im 2 _,.im 2 _]) j tF139 j j)<|sqn z49 j (oAl j tF139 (tkI (tkN tk0)))<|sq0 (oSt tF139 j j j (tkI (tkI tk0)) j j j)<|nl)<|us<|?_
   obtain ⟨x20,hx20,h⟩:=bs h
   obtain ⟨x22,hx22,h⟩:=bs h
   refine gd c49 j j j (st1:=mk [(3,M 3),(5,M 5),(11,D 2 (W 2 e_S_Face d_0.Faces)),(12,iv (d_0.Faces.length:Int)),(13,iv t_13_l3)] [(3,Ob [Z (W 1 (eL 2 e_Ar2_Int) edges_o3_l3)]),(5,Oa (G 2 (u_S_Face x15)))]) (by kernel_rfl) (mk [(3,M 3),(11,D 2 (W 2 e_S_Face d_0.Faces)),(12,iv (d_0.Faces.length:Int)),(13,iv t_13_l3)] [(3,Ob [Z (W 1 (eL 2 e_Ar2_Int) x22)])]) (sT j (dNn z49 j j (oFA (r':=.mp 5 0 1) j fF139_1 j j))<|sT j (dNn z49 j j (oLd (cs:=[.im 2 _]) j tF28 j j))<|sK (O:=[3]) j j j (dNn z49 j j (oLd (cs:=[.own 3 0 0]) j tF151 j j))<|sS (dNn z49 j j (oCr (xs:=[.v false [.im 2 _]]) (vs:=[(false,[.own 20 0 0])]) (v:=.v false [.own 20 0 0]) (c:=⟨.sh,0,_⟩) (cs:=[]) (L_impl_ringEdges hx20) (.inl j) j kF99_28 j (ppC j pp0) j j pb0 j j j)) (kY ⟨j,trivial⟩ trivial) (sS (dNn z49 j j (oBS (es:=List.map (eL 2 e_Ar2_Int) ([x20]:List (List Ar2_Int))) j sF151 j (ptC j (fxO j j fx0) j pt0) (flat1 j))) (kY ⟨j,trivial⟩ trivial) (sS (dNn z49 j j (oApO (en:=(eL 2 e_Ar2_Int)) (M:=([x20]:List (List Ar2_Int))) j hx22 j sF151 j j uF151 (.inl ⟨_,j⟩) j j j j (el_own j j) (flat1 j))) (kN j trivial) (sS (dN0 j (oSt tF151 j j j (tkO j j tk0) j j j)) (kN j trivial) (sD (by kernel_rfl))))))<|Unw.blk<|us<|g0 j j (sqn z49 j (oBi j j j j)<|sqn z49 j (oMv j j)<|nl)<|Unw.nil<|?_
   cases h
   exact ⟨j,(by kernel_rfl)⟩
  ·refine Go.exit<|ux<|Unw.nil<|?_
   cases h
   exact ⟨j,(by kernel_rfl)⟩
 ·rintro ⟨e,st⟩ hp
  obtain ⟨edges_o3_e0_3,rfl⟩:∃y,y=o:=⟨o,rfl⟩
  obtain ⟨he,hst⟩:=hp
  obtain rfl:e= .exit 0:=he
  refine Unw.blkx<|us<|gs<|?_
  obtain ⟨x26,hx26,h⟩:=bs h
  refine g2 c49 j j hst (sqn z49 j (oLd (cs:=[.own 3 0 0]) j tF151 j j)<|sqn z49 j (oLnO j j uF151 j j j (fun e=>nomatch e))<|sqn z49 j (oMkD (en:=(eL 1 eI)) j hx26 j sF80 j j (fxN fx0) j (flat1 j))<|sqn z49 j (oAsD j j j j j)<|nl)<|us<|gs<|gs<|g0 j j (sqn z49 j (oLd (cs:=[.own 3 0 0]) j tF151 j j)<|sqn z49 j (oLnO j j uF151 j j j (fun e=>nomatch e))<|sqn z49 j (oMv j j)<|nl)<|us<|Go.block<|?_
  obtain ⟨o,hl,h⟩:=bs h
  refine gl c49 j _ (fun (s:(Int×(List (List Int))))=>match s with | (t_29_l9,out_o6_l9)=>mk [(3,M 3),(6,H 6 0),(28,iv (edges_o3_e0_3.length:Int)),(29,iv t_29_l9)] [(3,Ob [Z (W 1 (eL 2 e_Ar2_Int) edges_o3_e0_3)]),(6,Oc [⟨.dp 0,0,0,W 1 (eL 1 eI) out_o6_l9⟩])]) (fun (out_o6_e2_9:(List (List Int))) (p:Ex×St)=>p.1= .exit 2∧p.2.norm ([6],[6])=mk [(6,H 6 0)] [(6,Oc [⟨.dp 0,0,0,W 1 (eL 1 eI) out_o6_e2_9⟩])]) hl (by kernel_rfl) ?_ ?_ ?_
  ·intro o p hp e
   exact nomatch (hp.1.symm.trans e)
  ·rintro ⟨t_29_l9,out_o6_l9⟩ o h
   unfold impl_neighbours_l9 at h
   dsimp only at h
   refine gs<|g0 j j (sqn z49 j (oBi j j j j)<|nl)<|us<|gs<|gc h j iDec (fun hc21 h=>?_) fun hc21 h=>?_
   ·refine Go.skip<|us<|gs<|Go.block<|gs<|g0 j j (sqn z49 j (oMv j j)<|sqn z49 j (oAsI j j)<|nl)<|us<|gs<|g0 j j (sqn z49 j (oLd (cs:=[.own 3 0 0]) j tF151 j j)<|sqn z49 j (oLnO j j uF151 j j j (fun e=>nomatch e))<|sqn z49 j (oMv j j)<|nl)<|us<|Go.block<|?_
    obtain ⟨o,hl,h⟩:=bs h
    refine gl c49 j _ (fun (s:(Int×(List (List Int))))=>match s with | (t_34_l12,out_o6_l12)=>mk [(3,M 3),(6,H 6 0),(7,iv t_29_l9),(28,iv (edges_o3_e0_3.length:Int)),(29,iv t_29_l9),(33,iv (edges_o3_e0_3.length:Int)),(34,iv t_34_l12)] [(3,Ob [Z (W 1 (eL 2 e_Ar2_Int) edges_o3_e0_3)]),(6,Oc [⟨.dp 0,0,0,W 1 (eL 1 eI) out_o6_l12⟩])]) (fun (out_o6_e4_12:(List (List Int))) (p:Ex×St)=>p.1= .exit 4∧p.2.norm ([3,6,28,29],[3,6])=mk [(3,M 3),(6,H 6 0),(28,iv (edges_o3_e0_3.length:Int)),(29,iv t_29_l9)] [(3,Ob [Z (W 1 (eL 2 e_Ar2_Int) edges_o3_e0_3)]),(6,Oc [⟨.dp 0,0,0,W 1 (eL 1 eI) out_o6_e4_12⟩])]) hl (by kernel_rfl) ?_ ?_ ?_
    ·intro o p hp e
     exact nomatch (hp.1.symm.trans e)
    ·rintro ⟨t_34_l12,out_o6_l12⟩ o h
     unfold impl_neighbours_l12 at h
     dsimp only at h
     refine gs<|g0 j j (sqn z49 j (oBi j j j j)<|nl)<|us<|gs<|gc h j iDec (fun hc30 h=>?_) fun hc30 h=>?_
     ·refine Go.skip<|us<|gs<|Go.join (fun st=>∃out_o6_r16,impl_neighbours_k16 t_34_l12 out_o6_r16=some o∧st.norm ([3,6,7,28,29,33,34],[3,6])=mk [(3,M 3),(6,H 6 0),(7,iv t_29_l9),(28,iv (edges_o3_e0_3.length:Int)),(29,iv t_29_l9),(33,iv (edges_o3_e0_3.length:Int)),(34,iv t_34_l12)] [(3,Ob [Z (W 1 (eL 2 e_Ar2_Int) edges_o3_e0_3)]),(6,Oc [⟨.dp 0,0,0,W 1 (eL 1 eI) out_o6_r16⟩])]) ?_ ?_
      ·rintro st ⟨out_o6_r16,h,hst⟩
       unfold impl_neighbours_k16 at h
       refine us<|g2 c49 j j hst (sqn z49 j (oBi j j j j)<|sqn z49 j (oMv j j)<|nl)<|Unw.nil<|?_
       cases h
       exact ⟨j,(by kernel_rfl)⟩
      ·intro K34
       refine Go.block<|gs<|g0 j j (sqn z49 j (oMv j j)<|sqn z49 j (oAl j tF3 (tkI tk0))<|sq0 (oSt tF3 j j j (tkI tk0) j j j)<|nl)<|us<|gs<|?_
       obtain ⟨t_47_m14,hm37,h⟩:=bs h
       refine gX c49 j j (st1:=mk [(3,M 3),(6,H 6 0),(7,iv t_29_l9),(8,M 8),(28,iv (edges_o3_e0_3.length:Int)),(29,iv t_29_l9),(33,iv (edges_o3_e0_3.length:Int)),(34,iv t_34_l12)] [(3,Ob [Z (W 1 (eL 2 e_Ar2_Int) edges_o3_e0_3)]),(6,Oc [⟨.dp 0,0,0,W 1 (eL 1 eI) out_o6_l12⟩]),(8,Ob [C (I t_34_l12)])]) (by kernel_rfl) (mk [(3,M 3),(6,H 6 0),(7,iv t_29_l9),(8,M 8),(28,iv (edges_o3_e0_3.length:Int)),(29,iv t_29_l9),(33,iv (edges_o3_e0_3.length:Int)),(34,iv t_34_l12),(47,bv t_47_m14)] [(3,Ob [Z (W 1 (eL 2 e_Ar2_Int) edges_o3_e0_3)]),(6,Oc [⟨.dp 0,0,0,W 1 (eL 1 eI) out_o6_l12⟩]),(8,Ob [C (I t_34_l12)])]) ?_ ?_
       ·refine xsqn z49 j (oMv j j)<|xsqn z49 j (oLd (cs:=[.im 0 _]) j tF3 j j)<|xsqn z49 j (oBi j j j j)<|xsqn z49 j (oMv j j)<|?_
        refine ic hm37 (fun hc35 hm37=>?_) fun hc35 hm37=>?_
        ·obtain ⟨x43,hx43,hm37⟩:=bs hm37
         obtain ⟨x46,hx46,hm37⟩:=bs hm37
         cases hm37
         exact xsgTn z49 j j j (iNe.2 hc35) (oLd (cs:=[.own 3 0 0]) j tF151 j j)<|xsgTn z49 j j j (iNe.2 hc35) (oMv j j)<|xsgTn z49 j j j (iNe.2 hc35) (oIAO j hx43 sF151 j j j j)<|xsgTn z49 j j j (iNe.2 hc35) (oLdE (cs:=[.im 0 _]) j tF152 j j j j (rd_get hx43) j j)<|xsgTn z49 j j j (iNe.2 hc35) (oMF (rs:=[.mp 3 0 0,.mp 8 0 0]) j j)<|xsgTn z49 j j j (iNe.2 hc35) (oCa (xs:=[.v false [.im 0 _],.fn 101 [.mp 3 0 0,.mp 8 0 0]]) (vs:=[(false,[.im 0 _])]) (v:=.v false [.im 0 _]) (L_slices_ContainsFunc_2_int64_2_int64_101 hx46) (.inl j) j kF100_152_157 j (ppC j (ppC j pp0)) j j pb0 j j j)<|xsqn z49 j (oPkT j j (iNe.2 hc35) j)<|xn
        ·cases hm37
         exact xsgF j j (byF iNe hc35) j<|xsgF j j (byF iNe hc35) j<|xsgF j j (byF iNe hc35) j<|xsgF j j (byF iNe hc35) j<|xsgF j j (byF iNe hc35) j<|xsgF j j (byF iNe hc35) j<|xsqn z49 j (oPkF j j (byF iNe hc35) j)<|xn
       ·refine us<|gc h j iR (fun hc36 h=>?_) fun hc36 h=>?_
        ·obtain ⟨x52,hx52,h⟩:=bs h
         obtain ⟨x56,hx56,h⟩:=bs h
         obtain ⟨x57,hx57,h⟩:=bs h
         exact gd c49 j j j j (mk [(3,M 3),(6,H 6 0),(7,iv t_29_l9),(28,iv (edges_o3_e0_3.length:Int)),(29,iv t_29_l9),(33,iv (edges_o3_e0_3.length:Int)),(34,iv t_34_l12)] [(3,Ob [Z (W 1 (eL 2 e_Ar2_Int) edges_o3_e0_3)]),(6,Oc [⟨.dp 0,0,0,W 1 (eL 1 eI) (out_o6_l12.set t_29_l9.toNat x56)⟩])]) (sT j (dNn z49 j j (oMv j j))<|sT j (dNn z49 j j (oMv j j))<|sT j (dNn z49 j j (oMv j j))<|sT j (dNn z49 j j (oMv j j))<|sT j (dNn z49 j j (oLd (cs:=[.im 0 _]) j tF3 j j))<|sK (O:=[6]) j j j (dNn z49 j j (oIAD j hx52 sF80 j j j j (fun e=>nomatch e)))<|sK (O:=[6]) j j j (dNn z49 j j (oLdD (cs:=[.inr 6 0 0 _ 0 0]) j tF28 j j j (rd_get hx52) j j))<|sS (dNn z49 j j (oBS (es:=List.map eI ([t_34_l12]:List Int)) j sF28 j (ptC j (fxI fx0) j pt0) (flat0 j fun _=>j))) (kY ⟨j,trivial⟩ (kY ⟨j,trivial⟩ trivial)) (sS (dNn z49 j j (oApR (en:=eI) (M:=([t_34_l12]:List Int)) j hx56 j sF28 j j uF28 (.inl ⟨_,j⟩) j j j (rd_get hx52) j j (el_own j j) (flat0 j fun _=>j))) (kN j (kN j trivial)) (sT j (dNn z49 j j (oIAD j hx57 sF80 j j j j (fun e=>nomatch e)))<|sS (dN0 j (oStD (v':=x56) tF28 j j j j (tkO j j tk0) j j (rd_get hx57) j)) (kN j (kN j trivial)) (sD (by kernel_rfl)))))<|Unw.blk<|K34 _ ⟨(out_o6_l12.set t_29_l9.toNat x56),h,(by kernel_rfl)⟩
        ·exact Go.skip<|Unw.blk<|K34 _ ⟨out_o6_l12,h,(by kernel_rfl)⟩
     ·refine Go.exit<|ux<|Unw.nil<|?_
      cases h
      exact ⟨j,(by kernel_rfl)⟩
    ·rintro ⟨e,st⟩ hp
     obtain ⟨out_o6_e4_12,rfl⟩:∃y,y=o:=⟨o,rfl⟩
     obtain ⟨he,hst⟩:=hp
     obtain rfl:e= .exit 4:=he
     refine Unw.blkx<|Unw.blk<|us<|g2 c49 j j hst (sqn z49 j (oBi j j j j)<|sqn z49 j (oMv j j)<|nl)<|Unw.nil<|?_
     cases h
     exact ⟨j,(by kernel_rfl)⟩
   ·refine Go.exit<|ux<|Unw.nil<|?_
    cases h
    exact ⟨j,(by kernel_rfl)⟩
  ·rintro ⟨e,st⟩ hp
   obtain ⟨out_o6_e2_9,rfl⟩:∃y,y=o:=⟨o,rfl⟩
   obtain ⟨he,hst⟩:=hp
   obtain rfl:e= .exit 2:=he
   refine Unw.blkx<|us<|gs<|g2 c49 j j hst (sqn z49 j (oMv j j)<|sqf z49 j (oAsD j j j j j) (frzD j j j)<|nl)<|us<|Go.ret (Unw.ret ?_)
   cases h
   exact fr rF49 j
theorem L_impl_facePolygon {d_0:S_Drawing} {k_1:Int} {r:(List S_Point)} (h:impl_facePolygon d_0 k_1=some r):FX 96 [.im 2 true (u_S_Drawing d_0),.im 2 false [I k_1]] (B0 [(false,[.ow 0 2 (List.map e_S_Point r)])]):=by
 unfold impl_facePolygon at h
 refine gn 20 Try.func96 rfl ?_
 refine gs<|g0 j j (q (oBx j tF26 j (tkI (tkI (tkI (tkI tk0)))))<|q (oAsN j j eF23)<|nl)<|us<|gs<|?_
 obtain ⟨x13,hx13,h⟩:=bs h
 obtain ⟨x16,hx16,h⟩:=bs h
 refine gd c96 j j j j (mk [(5,H 5 0)] [(5,Oc [Z (W 2 e_S_Point x16.1)])]) (t j j (oFA (r':=.mp 2 0 2) j fF26_2 j j)<|t j j (oLd (cs:=[.im 2 _]) j tF23 j j)<|t j j (oFA (r':=.mp 2 0 3) j fF26_3 j j)<|t j j (oLd (cs:=[.im 2 _]) j tF24 j j)<|t j j (oMv j j)<|t j j (oIAI j hx13 sF24 j j)<|t j j (oFA (r':=.im 2 _) j fF139_1 j j)<|t j j (oLd (cs:=[.im 2 _]) j tF28 j j)<|sS (dN z96 j (oCr (xs:=[.v false [.im 2 _],.v false [.im 2 _]]) (vs:=[(false,[.own 16 0 0]),(false,[.im 0 _])]) (v:=.tup [(false,[.own 16 0 0]),(false,[.im 0 _])]) (c:=⟨.sh,0,_⟩) (cs:=[]) (L_impl_ringPolygon hx16) (.inl j) j kF94_23_28 j (ppC j (ppC j pp0)) j j pb0 j j j)) trivial (t j j (oMvT j j)<|t j j (oEx j j j)<|t j j (oEx j j j)<|sS (dN z96 j (oAsO j j j j j)) trivial (sS (dN z96 j (oAsI j j)) trivial (sD (by kernel_rfl)))))<|us<|gs<|g0 j j (q (oMv j j)<|q (oAsO j j j j j)<|nl)<|us<|Go.ret (Unw.ret ?_)
 cases h
 exact fr rF96 j
theorem L_impl_sidesOf {d_0:S_Drawing} {r:S_sides} (h:impl_sidesOf d_0=some r):FX 44 [.im 2 true (u_S_Drawing d_0)] (B0 [(true,[.im 0 (W 1 (eL 1 eI) r.near),.ow 0 1 (List.map eB r.border)])]):=by
 unfold impl_sidesOf at h
 refine gn 83 Try.func44 rfl ?_
 refine gs<|g0 j j (q (oBx j tF26 j (tkI (tkI (tkI (tkI tk0)))))<|q (oAl j tF83 (tkN (tkN tk0)))<|nl)<|us<|gs<|?_
 obtain ⟨x10,hx10,h⟩:=bs h
 obtain ⟨x14,hx14,h⟩:=bs h
 refine gd c44 j j j j (mk [(1,M 1),(2,M 2),(3,M 3)] [(1,Oa (G 2 (u_S_Drawing d_0))),(2,Oa [Z (W 1 (eL 1 eI) ([]:List (List Int))),Z (W 1 eB ([]:List Bool))]),(3,Oa [C (W 1 (eL 1 eI) x10),Z (W 1 eB x14)])]) (t j j (oLd (cs:=[.im 0 _,.im 0 _,.im 2 _,.im 2 _]) j tF26 j j)<|t j j (oFA (r':=.mp 1 0 3) j fF26_3 j j)<|t j j (oLd (cs:=[.im 2 _]) j tF24 j j)<|t j j (oLnI j j uF24 j)<|sF (dN z44 j (oCa (xs:=[.v true [.im 0 _,.im 0 _,.im 2 _,.im 2 _]]) (vs:=[(false,[.im 0 _])]) (v:=.v false [.im 0 _]) (L_impl_neighbours hx10) (.inl j) j kF49_26 j (ppC j pp0) j j pb0 j j j)) trivial (sF (dN z44 j (oMk (en:=eB) j hx14 j sF81 j j (fxI fx0) j (flat0 (L:=[_]) j fun _=>j))) trivial (sF (dN z44 j (oBu (cs:=[.im 0 _,.own 14 0 0]) j bF83 j)) trivial (sS (dN z44 j (oAl j tF83 (tkN (tkN tk0)))) trivial (sS (dN z44 j (oSt tF83 j j j (tkI (tkO j j tk0)) j j j)) trivial (sD (by kernel_rfl)))) (sS (dN z44 j (oAl j tF83 (tkN (tkN tk0)))) trivial (sS (dN z44 j (oBu (cs:=[.im 0 _,.own 14 0 0]) j bF83 j)) trivial (sS (dN z44 j (oSt tF83 j j j (tkI (tkO j j tk0)) j j j)) trivial (sD (by kernel_rfl)))))) (sS (dN z44 j (oAl j tF83 (tkN (tkN tk0)))) trivial (sS (dN z44 j (oMk (en:=eB) j hx14 j sF81 j j (fxI fx0) j (flat0 (L:=[_]) j fun _=>j))) trivial (sS (dN z44 j (oBu (cs:=[.im 0 _,.own 14 0 0]) j bF83 j)) trivial (sS (dN z44 j (oSt tF83 j j j (tkI (tkO j j tk0)) j j j)) trivial (sD (by kernel_rfl))))))) (sF (dN z44 j (oMk (en:=eB) j hx14 j sF81 j j (fxI fx0) j (flat0 (L:=[_]) j fun _=>j))) trivial (sF (dN z44 j (oCa (xs:=[.v true [.im 0 _,.im 0 _,.im 2 _,.im 2 _]]) (vs:=[(false,[.im 0 _])]) (v:=.v false [.im 0 _]) (L_impl_neighbours hx10) (.inl j) j kF49_26 j (ppC j pp0) j j pb0 j j j)) trivial (sF (dN z44 j (oBu (cs:=[.im 0 _,.own 14 0 0]) j bF83 j)) trivial (sS (dN z44 j (oAl j tF83 (tkN (tkN tk0)))) trivial (sS (dN z44 j (oSt tF83 j j j (tkI (tkO j j tk0)) j j j)) trivial (sD (by kernel_rfl)))) (sS (dN z44 j (oAl j tF83 (tkN (tkN tk0)))) trivial (sS (dN z44 j (oBu (cs:=[.im 0 _,.own 14 0 0]) j bF83 j)) trivial (sS (dN z44 j (oSt tF83 j j j (tkI (tkO j j tk0)) j j j)) trivial (sD (by kernel_rfl)))))) (sS (dN z44 j (oAl j tF83 (tkN (tkN tk0)))) trivial (sS (dN z44 j (oCa (xs:=[.v true [.im 0 _,.im 0 _,.im 2 _,.im 2 _]]) (vs:=[(false,[.im 0 _])]) (v:=.v false [.im 0 _]) (L_impl_neighbours hx10) (.inl j) j kF49_26 j (ppC j pp0) j j pb0 j j j)) trivial (sS (dN z44 j (oBu (cs:=[.im 0 _,.own 14 0 0]) j bF83 j)) trivial (sS (dN z44 j (oSt tF83 j j j (tkI (tkO j j tk0)) j j j)) trivial (sD (by kernel_rfl))))))) (sS (dN z44 j (oAl j tF83 (tkN (tkN tk0)))) trivial (sF (dN z44 j (oCa (xs:=[.v true [.im 0 _,.im 0 _,.im 2 _,.im 2 _]]) (vs:=[(false,[.im 0 _])]) (v:=.v false [.im 0 _]) (L_impl_neighbours hx10) (.inl j) j kF49_26 j (ppC j pp0) j j pb0 j j j)) trivial (sS (dN z44 j (oMk (en:=eB) j hx14 j sF81 j j (fxI fx0) j (flat0 (L:=[_]) j fun _=>j))) trivial (sS (dN z44 j (oBu (cs:=[.im 0 _,.own 14 0 0]) j bF83 j)) trivial (sS (dN z44 j (oSt tF83 j j j (tkI (tkO j j tk0)) j j j)) trivial (sD (by kernel_rfl))))) (sS (dN z44 j (oMk (en:=eB) j hx14 j sF81 j j (fxI fx0) j (flat0 (L:=[_]) j fun _=>j))) trivial (sS (dN z44 j (oCa (xs:=[.v true [.im 0 _,.im 0 _,.im 2 _,.im 2 _]]) (vs:=[(false,[.im 0 _])]) (v:=.v false [.im 0 _]) (L_impl_neighbours hx10) (.inl j) j kF49_26 j (ppC j pp0) j j pb0 j j j)) trivial (sS (dN z44 j (oBu (cs:=[.im 0 _,.own 14 0 0]) j bF83 j)) trivial (sS (dN z44 j (oSt tF83 j j j (tkI (tkO j j tk0)) j j j)) trivial (sD (by kernel_rfl))))))))))<|us<|gs<|gs<|g0 j j (q (oFA (r':=.mp 1 0 3) j fF26_3 j j)<|q (oLd (cs:=[.im 2 _]) j tF24 j j)<|q (oLnI j j uF24 j)<|q (oMv j j)<|nl)<|us<|Go.block<|?_
 obtain ⟨o,hl,h⟩:=bs h
 refine gl c44 j _ (fun (s:(Int×(List Bool)))=>match s with | (t_19_l3,out_o3_1_l3)=>mk [(1,M 1),(2,M 2),(3,M 3),(18,iv (d_0.Faces.length:Int)),(19,iv t_19_l3)] [(1,Oa (G 2 (u_S_Drawing d_0))),(2,Oa [Z (W 1 (eL 1 eI) ([]:List (List Int))),Z (W 1 eB ([]:List Bool))]),(3,Oa [C (W 1 (eL 1 eI) x10),Z (W 1 eB out_o3_1_l3)])]) (fun (out_o3_1_e0_3:(List Bool)) (p:Ex×St)=>p.1= .exit 0∧p.2.norm ([2,3],[2,3])=mk [(2,M 2),(3,M 3)] [(2,Oa [Z (W 1 (eL 1 eI) ([]:List (List Int))),Z (W 1 eB ([]:List Bool))]),(3,Oa [C (W 1 (eL 1 eI) x10),Z (W 1 eB out_o3_1_e0_3)])]) hl (by kernel_rfl) ?_ ?_ ?_
 ·intro o p hp e
  exact nomatch (hp.1.symm.trans e)
 ·rintro ⟨t_19_l3,out_o3_1_l3⟩ o h
  unfold impl_sidesOf_l3 at h
  dsimp only at h
  refine gs<|g0 j j (q (oBi j j j j)<|nl)<|us<|gs<|gc h j iDec (fun hc43 h=>?_) fun hc43 h=>?_
  ·refine Go.skip<|us<|gs<|Go.block<|gs<|g0 j j (q (oMv j j)<|q (oAsI j j)<|nl)<|us<|gs<|?_
   obtain ⟨x24,hx24,h⟩:=bs h
   refine g0 j j (q (oLd (cs:=[.im 0 _,.im 0 _,.im 2 _,.im 2 _]) j tF26 j j)<|q (oMv j j)<|q (oCr (xs:=[.v true [.im 0 _,.im 0 _,.im 2 _,.im 2 _],.v false [.im 0 _]]) (vs:=[(false,[.own 24 0 0])]) (v:=.v false [.own 24 0 0]) (c:=⟨.sh,0,_⟩) (cs:=[]) (L_impl_facePolygon hx24) (.inl j) j kF96_26_2 j (ppC j (ppC j pp0)) j j pb0 j j j)<|q (oAsO j j j j j)<|nl)<|us<|gs<|g0 j j (q (oMv j j)<|q (oLnO j j uF23 j j j (fun e=>nomatch e))<|q (oMv j j)<|nl)<|us<|Go.block<|?_
   obtain ⟨o,hl,h⟩:=bs h
   refine gl c44 j _ (fun (s:(Int×(List Bool)))=>match s with | (t_27_l7,out_o3_1_l7)=>mk [(1,M 1),(2,M 2),(3,M 3),(4,iv t_19_l3),(5,H 5 0),(18,iv (d_0.Faces.length:Int)),(19,iv t_19_l3),(25,H 5 0),(26,iv (x24.length:Int)),(27,iv t_27_l7)] [(1,Oa (G 2 (u_S_Drawing d_0))),(2,Oa [Z (W 1 (eL 1 eI) ([]:List (List Int))),Z (W 1 eB ([]:List Bool))]),(3,Oa [C (W 1 (eL 1 eI) x10),Z (W 1 eB out_o3_1_l7)]),(5,Oc [Z (W 2 e_S_Point x24)])]) (fun (out_o3_1_e2_7:(List Bool)) (p:Ex×St)=>p.1= .exit 2∧p.2.norm ([1,2,3,18,19],[1,2,3])=mk [(1,M 1),(2,M 2),(3,M 3),(18,iv (d_0.Faces.length:Int)),(19,iv t_19_l3)] [(1,Oa (G 2 (u_S_Drawing d_0))),(2,Oa [Z (W 1 (eL 1 eI) ([]:List (List Int))),Z (W 1 eB ([]:List Bool))]),(3,Oa [C (W 1 (eL 1 eI) x10),Z (W 1 eB out_o3_1_e2_7)])]) hl (by kernel_rfl) ?_ ?_ ?_
   ·intro o p hp e
    exact nomatch (hp.1.symm.trans e)
   ·rintro ⟨t_27_l7,out_o3_1_l7⟩ o h
    unfold impl_sidesOf_l7 at h
    dsimp only at h
    refine gs<|g0 j j (q (oBi j j j j)<|nl)<|us<|gs<|gc h j iDec (fun hc64 h=>?_) fun hc64 h=>?_
    ·refine Go.skip<|us<|gs<|Go.join (fun st=>∃out_o3_1_r12,impl_sidesOf_k12 t_27_l7 out_o3_1_r12=some o∧st.norm ([1,2,3,4,5,18,19,25,26,27],[1,2,3,5])=mk [(1,M 1),(2,M 2),(3,M 3),(4,iv t_19_l3),(5,H 5 0),(18,iv (d_0.Faces.length:Int)),(19,iv t_19_l3),(25,H 5 0),(26,iv (x24.length:Int)),(27,iv t_27_l7)] [(1,Oa (G 2 (u_S_Drawing d_0))),(2,Oa [Z (W 1 (eL 1 eI) ([]:List (List Int))),Z (W 1 eB ([]:List Bool))]),(3,Oa [C (W 1 (eL 1 eI) x10),Z (W 1 eB out_o3_1_r12)]),(5,Oc [Z (W 2 e_S_Point x24)])]) ?_ ?_
     ·rintro st ⟨out_o3_1_r12,h,hst⟩
      unfold impl_sidesOf_k12 at h
      refine us<|g2 c44 j j hst (q (oBi j j j j)<|q (oMv j j)<|nl)<|Unw.nil<|?_
      cases h
      exact ⟨j,(by kernel_rfl)⟩
     ·intro K74
      refine Go.block<|gs<|?_
      obtain ⟨x30,hx30,h⟩:=bs h
      refine g0 j j (q (oMv j j)<|q (oIAO j hx30 sF23 j j j j)<|q (oLdE (cs:=[.im 0 _,.im 0 _]) j tF145 j j j j (rd_get hx30) j j)<|q (oAl j tF145 (tkI (tkI tk0)))<|q (oAsI j j)<|q (oSt tF145 j j j (tkI (tkI tk0)) j j j)<|nl)<|us<|gs<|?_
      obtain ⟨x37,hx37,h⟩:=bs h
      obtain ⟨x38,hx38,h⟩:=bs h
      refine g1 j j (mk [(1,M 1),(2,M 2),(3,M 3),(4,iv t_19_l3),(5,H 5 0),(6,iv t_27_l7),(7,M 7),(18,iv (d_0.Faces.length:Int)),(19,iv t_19_l3),(25,H 5 0),(26,iv (x24.length:Int)),(27,iv t_27_l7)] [(1,Oa (G 2 (u_S_Drawing d_0))),(2,Oa [Z (W 1 (eL 1 eI) ([]:List (List Int))),Z (W 1 eB ([]:List Bool))]),(3,Oa [C (W 1 (eL 1 eI) x10),Z (W 1 eB out_o3_1_l7)]),(5,Oc [Z (W 2 e_S_Point x24)]),(7,Oa (G 0 (u_S_Point x30)))]) (q (oMv j j)<|q (oMv j j)<|q (oBi j j j j)<|q (oMv j j)<|q (oLnO j j uF23 j j j (fun e=>nomatch e))<|q (oRem j hx37 j j)<|q (oIAO j hx38 sF23 j j j j)<|q (oLdE (cs:=[.im 0 _,.im 0 _]) j tF145 j j j j (rd_get hx38) j j)<|q (oAl j tF145 (tkI (tkI tk0)))<|q (oSt tF145 j j j (tkI (tkI tk0)) j j j)<|nl)<|us<|gs<|?_
      obtain ⟨t_75_m10,hm83,h⟩:=bs h
      refine gX c44 j j (st1:=mk [(1,M 1),(2,M 2),(3,M 3),(4,iv t_19_l3),(5,H 5 0),(7,M 7),(8,M 8),(18,iv (d_0.Faces.length:Int)),(19,iv t_19_l3),(25,H 5 0),(26,iv (x24.length:Int)),(27,iv t_27_l7)] [(1,Oa (G 2 (u_S_Drawing d_0))),(2,Oa [Z (W 1 (eL 1 eI) ([]:List (List Int))),Z (W 1 eB ([]:List Bool))]),(3,Oa [C (W 1 (eL 1 eI) x10),Z (W 1 eB out_o3_1_l7)]),(5,Oc [Z (W 2 e_S_Point x24)]),(7,Oa (G 0 (u_S_Point x30))),(8,Oa (G 0 (u_S_Point x38)))]) (by kernel_rfl) (mk [(1,M 1),(2,M 2),(3,M 3),(4,iv t_19_l3),(5,H 5 0),(18,iv (d_0.Faces.length:Int)),(19,iv t_19_l3),(25,H 5 0),(26,iv (x24.length:Int)),(27,iv t_27_l7),(75,bv t_75_m10)] [(1,Oa (G 2 (u_S_Drawing d_0))),(2,Oa [Z (W 1 (eL 1 eI) ([]:List (List Int))),Z (W 1 eB ([]:List Bool))]),(3,Oa [C (W 1 (eL 1 eI) x10),Z (W 1 eB out_o3_1_l7)]),(5,Oc [Z (W 2 e_S_Point x24)])]) ?_ ?_
      ·refine xq (oFA (r':=.mp 7 0 0) j fF145_0 j j)<|xq (oLd (cs:=[.im 0 _]) j tF2 j j)<|xq (oFA (r':=.mp 8 0 0) j fF145_0 j j)<|xq (oLd (cs:=[.im 0 _]) j tF2 j j)<|xq (oBi j j j j)<|xq (oMv j j)<|?_
       refine ic hm83 (fun hc75 hm83=>?_) fun hc75 hm83=>?_
       ·refine xqT j j (iEq.2 hc75) (oFA (r':=.mp 7 0 0) j fF145_0 j j)<|xqT j j (iEq.2 hc75) (oLd (cs:=[.im 0 _]) j tF2 j j)<|xqT j j (iEq.2 hc75) (oBi j j j j)<|xqT j j (iEq.2 hc75) (oMv j j)<|?_
        refine ic hm83 (fun hc76 hm83=>?_) fun hc76 hm83=>?_
        ·cases hm83
         exact xsgF j j (iEq.2 hc76) j<|xsgF j j (iEq.2 hc76) j<|xsgF j j (iEq.2 hc76) j<|xsgF j j (iEq.2 hc76) j<|xsgF j j (iEq.2 hc76) j<|xqT j j (iEq.2 hc75) (oPkT j j (iEq.2 hc76) j)<|xq (oPkT j j (iEq.2 hc75) j)<|xq (oMv j j)<|xsgF j j j j<|xsgF j j j j<|xsgF j j j j<|xsgF j j j j<|xsgF j j j j<|xsgF j j j j<|xsgU j j j<|xsgU j j j<|xsgU j j j<|xsgU j j j<|xsgU j j j<|xsgU j j j<|xsgU j j j<|xsgU j j j<|xsgU j j j<|xsgU j j j<|xsgF j j j j<|xq (oPkT j j j j)<|xn
        ·refine xqT j j (byF iEq hc76) (oFA (r':=.mp 7 0 0) j fF145_0 j j)<|xqT j j (byF iEq hc76) (oLd (cs:=[.im 0 _]) j tF2 j j)<|xqT j j (byF iEq hc76) (oFA (r':=.mp 1 0 0) j fF26_0 j j)<|xqT j j (byF iEq hc76) (oLd (cs:=[.im 0 _]) j tF2 j j)<|xqT j j (byF iEq hc76) (oBi j j j j)<|xqT j j (iEq.2 hc75) (oPkF j j (byF iEq hc76) j)<|xq (oPkT j j (iEq.2 hc75) j)<|xq (oMv j j)<|?_
         refine ic hm83 (fun hc77 hm83=>?_) fun hc77 hm83=>?_
         ·cases hm83
          exact xsgF j j (iEq.2 hc77) j<|xsgF j j (iEq.2 hc77) j<|xsgF j j (iEq.2 hc77) j<|xsgF j j (iEq.2 hc77) j<|xsgF j j (iEq.2 hc77) j<|xsgF j j (iEq.2 hc77) j<|xsgU j j j<|xsgU j j j<|xsgU j j j<|xsgU j j j<|xsgU j j j<|xsgU j j j<|xsgU j j j<|xsgU j j j<|xsgU j j j<|xsgU j j j<|xsgF j j (iEq.2 hc77) j<|xq (oPkT j j (iEq.2 hc77) j)<|xn
         ·refine xqT j j (byF iEq hc77) (oFA (r':=.mp 7 0 1) j fF145_1 j j)<|xqT j j (byF iEq hc77) (oLd (cs:=[.im 0 _]) j tF2 j j)<|xqT j j (byF iEq hc77) (oFA (r':=.mp 8 0 1) j fF145_1 j j)<|xqT j j (byF iEq hc77) (oLd (cs:=[.im 0 _]) j tF2 j j)<|xqT j j (byF iEq hc77) (oBi j j j j)<|xqT j j (byF iEq hc77) (oMv j j)<|?_
          refine ic hm83 (fun hc78 hm83=>?_) fun hc78 hm83=>?_
          ·refine xqT j j (iEq.2 hc78) (oFA (r':=.mp 7 0 1) j fF145_1 j j)<|xqT j j (iEq.2 hc78) (oLd (cs:=[.im 0 _]) j tF2 j j)<|xqT j j (iEq.2 hc78) (oBi j j j j)<|xqT j j (iEq.2 hc78) (oMv j j)<|?_
           refine ic hm83 (fun hc79 hm83=>?_) fun hc79 hm83=>?_
           ·cases hm83
            exact xsgF j j (iEq.2 hc79) j<|xsgF j j (iEq.2 hc79) j<|xsgF j j (iEq.2 hc79) j<|xsgF j j (iEq.2 hc79) j<|xsgF j j (iEq.2 hc79) j<|xqT j j (iEq.2 hc78) (oPkT j j (iEq.2 hc79) j)<|xqT j j (byF iEq hc77) (oPkT j j (iEq.2 hc78) j)<|xq (oPkF j j (byF iEq hc77) j)<|xn
           ·cases hm83
            exact xqT j j (byF iEq hc79) (oFA (r':=.mp 7 0 1) j fF145_1 j j)<|xqT j j (byF iEq hc79) (oLd (cs:=[.im 0 _]) j tF2 j j)<|xqT j j (byF iEq hc79) (oFA (r':=.mp 1 0 1) j fF26_1 j j)<|xqT j j (byF iEq hc79) (oLd (cs:=[.im 0 _]) j tF2 j j)<|xqT j j (byF iEq hc79) (oBi j j j j)<|xqT j j (iEq.2 hc78) (oPkF j j (byF iEq hc79) j)<|xqT j j (byF iEq hc77) (oPkT j j (iEq.2 hc78) j)<|xq (oPkF j j (byF iEq hc77) j)<|xn
          ·cases hm83
           exact xsgF j j (byF iEq hc78) j<|xsgF j j (byF iEq hc78) j<|xsgF j j (byF iEq hc78) j<|xsgF j j (byF iEq hc78) j<|xsgU j j j<|xsgU j j j<|xsgU j j j<|xsgU j j j<|xsgU j j j<|xsgF j j (byF iEq hc78) j<|xqT j j (byF iEq hc77) (oPkF j j (byF iEq hc78) j)<|xq (oPkF j j (byF iEq hc77) j)<|xn
       ·refine xsgF j j (byF iEq hc75) j<|xsgF j j (byF iEq hc75) j<|xsgF j j (byF iEq hc75) j<|xsgF j j (byF iEq hc75) j<|xsgU j j j<|xsgU j j j<|xsgU j j j<|xsgU j j j<|xsgU j j j<|xsgF j j (byF iEq hc75) j<|xq (oPkF j j (byF iEq hc75) j)<|xq (oMv j j)<|xqT j j j (oFA (r':=.mp 7 0 1) j fF145_1 j j)<|xqT j j j (oLd (cs:=[.im 0 _]) j tF2 j j)<|xqT j j j (oFA (r':=.mp 8 0 1) j fF145_1 j j)<|xqT j j j (oLd (cs:=[.im 0 _]) j tF2 j j)<|xqT j j j (oBi j j j j)<|xqT j j j (oMv j j)<|?_
        refine ic hm83 (fun hc80 hm83=>?_) fun hc80 hm83=>?_
        ·refine xqT j j (iEq.2 hc80) (oFA (r':=.mp 7 0 1) j fF145_1 j j)<|xqT j j (iEq.2 hc80) (oLd (cs:=[.im 0 _]) j tF2 j j)<|xqT j j (iEq.2 hc80) (oBi j j j j)<|xqT j j (iEq.2 hc80) (oMv j j)<|?_
         refine ic hm83 (fun hc81 hm83=>?_) fun hc81 hm83=>?_
         ·cases hm83
          exact xsgF j j (iEq.2 hc81) j<|xsgF j j (iEq.2 hc81) j<|xsgF j j (iEq.2 hc81) j<|xsgF j j (iEq.2 hc81) j<|xsgF j j (iEq.2 hc81) j<|xqT j j (iEq.2 hc80) (oPkT j j (iEq.2 hc81) j)<|xqT j j j (oPkT j j (iEq.2 hc80) j)<|xq (oPkF j j j j)<|xn
         ·cases hm83
          exact xqT j j (byF iEq hc81) (oFA (r':=.mp 7 0 1) j fF145_1 j j)<|xqT j j (byF iEq hc81) (oLd (cs:=[.im 0 _]) j tF2 j j)<|xqT j j (byF iEq hc81) (oFA (r':=.mp 1 0 1) j fF26_1 j j)<|xqT j j (byF iEq hc81) (oLd (cs:=[.im 0 _]) j tF2 j j)<|xqT j j (byF iEq hc81) (oBi j j j j)<|xqT j j (iEq.2 hc80) (oPkF j j (byF iEq hc81) j)<|xqT j j j (oPkT j j (iEq.2 hc80) j)<|xq (oPkF j j j j)<|xn
        ·cases hm83
         exact xsgF j j (byF iEq hc80) j<|xsgF j j (byF iEq hc80) j<|xsgF j j (byF iEq hc80) j<|xsgF j j (byF iEq hc80) j<|xsgU j j j<|xsgU j j j<|xsgU j j j<|xsgU j j j<|xsgU j j j<|xsgF j j (byF iEq hc80) j<|xqT j j j (oPkF j j (byF iEq hc80) j)<|xq (oPkF j j j j)<|xn
      ·refine us<|gc h j iR (fun hc82 h=>?_) fun hc82 h=>?_
       ·obtain ⟨x79,hx79,h⟩:=bs h
        exact g0 j j (q (oFA (r':=.mp 3 0 1) j fF83_1 j j)<|q (oLd (cs:=[.own 3 0 1]) j tF81 j j)<|q (oMv j j)<|q (oIAO j hx79 sF81 j j j j)<|q (oStE (v':=true) tF4 j j j (fxI fx0) j j (rd_get hx79) j)<|nl)<|Unw.blk<|K74 _ ⟨(out_o3_1_l7.set t_19_l3.toNat true),h,(by kernel_rfl)⟩
       ·exact Go.skip<|Unw.blk<|K74 _ ⟨out_o3_1_l7,h,(by kernel_rfl)⟩
    ·refine Go.exit<|ux<|Unw.nil<|?_
     cases h
     exact ⟨j,(by kernel_rfl)⟩
   ·rintro ⟨e,st⟩ hp
    obtain ⟨out_o3_1_e2_7,rfl⟩:∃y,y=o:=⟨o,rfl⟩
    obtain ⟨he,hst⟩:=hp
    obtain rfl:e= .exit 2:=he
    refine Unw.blkx<|Unw.blk<|us<|g2 c44 j j hst (q (oBi j j j j)<|q (oMv j j)<|nl)<|Unw.nil<|?_
    cases h
    exact ⟨j,(by kernel_rfl)⟩
  ·refine Go.exit<|ux<|Unw.nil<|?_
   cases h
   exact ⟨j,(by kernel_rfl)⟩
 ·rintro ⟨e,st⟩ hp
  obtain ⟨out_o3_1_e0_3,rfl⟩:∃y,y=o:=⟨o,rfl⟩
  obtain ⟨he,hst⟩:=hp
  obtain rfl:e= .exit 0:=he
  refine Unw.blkx<|us<|gs<|g2 c44 j j hst (q (oLd (cs:=[.im 0 _,.own 3 0 1]) j tF83 j j)<|q (oSt tF83 j j j (tkI (tkO j j tk0)) j j j)<|nl)<|us<|Go.ret (Unw.ret ?_)
  cases h
  exact fr rF44 j
theorem L_slices_Index_int64_int64 {s_0:(List Int)} {v_1:Int} {r:Int} (h:slices_Index_int64_int64 s_0 v_1=some r):FX 97 [.im 2 false [W 1 eI s_0],.im 2 false [I v_1]] (B0 [(false,[.im 0 (I r)])]):=by
 unfold slices_Index_int64_int64 at h
 refine gn 19 Try.func97 rfl ?_
 refine gs<|g0 j j (q (oAsI j j)<|nl)<|us<|gs<|gs<|g0 j j (q (oMv j j)<|q (oLnI j j uF28 j)<|q (oMv j j)<|nl)<|us<|Go.block<|?_
 obtain ⟨o,hl,h⟩:=bs h
 refine gl c97 j _ (fun (t_8_l2:Int)=>mk [(0,D 2 (W 1 eI s_0)),(1,iv v_1),(7,iv (s_0.length:Int)),(8,iv t_8_l2)] []) (fun (o:(Unit ⊕ Int)) (p:Ex×St)=>match o with | (.inl _)=>p.1= .exit 0∧p.2.norm ([],[])=mk [] [] | (.inr r2)=>p.1= .ret∧fin Try.prog cfg 97 Try.f97 [.im 2 false [W 1 eI s_0],.im 2 false [I v_1]] p.2=some (B0 [(false,[.im 0 (I r2)])])) hl (by kernel_rfl) ?_ ?_ ?_
 ·intro o p hp e
  rcases o with u | r2<;>exact nomatch (hp.1.symm.trans e)
 ·rintro t_8_l2 o h
  unfold slices_Index_int64_int64_l2 at h
  refine gs<|g0 j j (q (oBi j j j j)<|nl)<|us<|gs<|gc h j iDec (fun hc5 h=>?_) fun hc5 h=>?_
  ·refine Go.skip<|us<|gs<|Go.block<|gs<|g0 j j (q (oMv j j)<|q (oAsI j j)<|nl)<|us<|gs<|?_
   obtain ⟨x14,hx14,h⟩:=bs h
   refine g0 j j (q (oMv j j)<|q (oMv j j)<|q (oMv j j)<|q (oIAI j hx14 sF28 j j)<|q (oLd (cs:=[.im 2 _]) j tF2 j j)<|q (oBi j j j j)<|nl)<|us<|gc h j iEq (fun hc6 h=>?_) fun hc6 h=>?_
   ·refine gs<|g0 j j (q (oMv j j)<|q (oAsI j j)<|nl)<|us<|Go.ret (Unw.ret ?_)
    cases h
    exact ⟨j,(fo rF97 j)⟩
   ·refine Go.skip<|Unw.blk<|us<|g0 j j (q (oBi j j j j)<|q (oMv j j)<|nl)<|Unw.nil<|?_
    cases h
    exact ⟨j,(by kernel_rfl)⟩
  ·refine Go.exit<|ux<|Unw.nil<|?_
   cases h
   exact ⟨j,(by kernel_rfl)⟩
 ·rintro ⟨e,st⟩ hp
  rcases o with u | r2
  ·dsimp only at h
   obtain ⟨he,hst⟩:=hp
   obtain rfl:e= .exit 0:=he
   refine Unw.blkx<|us<|gs<|g2 c97 j j hst (q (oAsI j j)<|nl)<|us<|Go.ret (Unw.ret ?_)
   cases h
   exact fr rF97 j
  ·dsimp only at h
   obtain ⟨he,hfin⟩:=hp
   obtain rfl:e= .ret:=he
   cases h
   exact Unw.ret (Fin_ret hfin)
theorem L_slices_Contains_int64_int64 {s_0:(List Int)} {v_1:Int} {r:Bool} (h:slices_Contains_int64_int64 s_0 v_1=some r):FX 45 [.im 2 false [W 1 eI s_0],.im 2 false [I v_1]] (B0 [(false,[.im 0 (V r)])]):=by
 unfold slices_Contains_int64_int64 at h
 refine gn 9 Try.func45 rfl ?_
 refine gs<|g0 j j (q (oAsI j j)<|nl)<|us<|gs<|?_
 obtain ⟨x7,hx7,h⟩:=bs h
 refine g0 j j (q (oMv j j)<|q (oMv j j)<|q (oCa (xs:=[.v false [.im 2 _],.v false [.im 2 _]]) (vs:=[(false,[.im 0 _])]) (v:=.v false [.im 0 _]) (L_slices_Index_int64_int64 hx7) (.inl j) j kF97_28_2 j (ppC j (ppC j pp0)) j j pb0 j j j)<|q (oBi j j j j)<|q (oAsI j j)<|nl)<|us<|Go.ret (Unw.ret ?_)
 cases h
 exact fr rF45 j
theorem L_impl_SafeOrder_c1 {m_0:Int} {cap0_0:(List Int)} {r:Bool} (h:impl_SafeOrder_c1 m_0 cap0_0=some r):FX 47 [.im 2 false [I m_0],.im 2 false [.cp [W 1 eI cap0_0] 0]] (B0 [(false,[.im 0 (V r)])]):=by
 unfold impl_SafeOrder_c1 at h
 refine gn 7 Try.func47 rfl ?_
 refine gs<|g0 j j (q (oAsI j j)<|nl)<|us<|gs<|?_
 obtain ⟨x6,hx6,h⟩:=bs h
 refine g0 j j (q (oLd (cs:=[.im 2 _]) j tF28 j j)<|q (oMv j j)<|q (oCa (xs:=[.v false [.im 2 _],.v false [.im 2 _]]) (vs:=[(false,[.im 0 _])]) (v:=.v false [.im 0 _]) (L_slices_Contains_int64_int64 hx6) (.inl j) j kF45_28_2 j (ppC j (ppC j pp0)) j j pb0 j j j)<|q (oAsI j j)<|nl)<|us<|Go.ret (Unw.ret ?_)
 cases h
 exact fr rF47 j
theorem L_slices_IndexFunc_int64_int64_47 {s_0:(List Int)} {fc1_0_0:(List Int)} {r:Int} (h:slices_IndexFunc_int64_int64 s_0 (fun b0=>impl_SafeOrder_c1 b0 fc1_0_0)=some r):FX 98 [.im 2 false [W 1 eI s_0],.im 2 false [.clo 47 [.cp [W 1 eI fc1_0_0] 0]]] (B0 [(false,[.im 0 (I r)])]):=by
 unfold slices_IndexFunc_int64_int64 at h
 refine gn 19 Try.func98 rfl ?_
 refine gs<|g0 j j (q (oAsI j j)<|nl)<|us<|gs<|gs<|g0 j j (q (oMv j j)<|q (oLnI j j uF28 j)<|q (oMv j j)<|nl)<|us<|Go.block<|?_
 obtain ⟨o,hl,h⟩:=bs h
 refine gl c98 j _ (fun (t_8_l2:Int)=>mk [(0,D 2 (W 1 eI s_0)),(1,D 2 (.clo 47 [.cp [W 1 eI fc1_0_0] 0])),(7,iv (s_0.length:Int)),(8,iv t_8_l2)] []) (fun (o:(Unit ⊕ Int)) (p:Ex×St)=>match o with | (.inl _)=>p.1= .exit 0∧p.2.norm ([],[])=mk [] [] | (.inr r2)=>p.1= .ret∧fin Try.prog cfg 98 Try.f98 [.im 2 false [W 1 eI s_0],.im 2 false [.clo 47 [.cp [W 1 eI fc1_0_0] 0]]] p.2=some (B0 [(false,[.im 0 (I r2)])])) hl (by kernel_rfl) ?_ ?_ ?_
 ·intro o p hp e
  rcases o with u | r2<;>exact nomatch (hp.1.symm.trans e)
 ·rintro t_8_l2 o h
  unfold slices_IndexFunc_int64_int64_l2 at h
  refine gs<|g0 j j (q (oBi j j j j)<|nl)<|us<|gs<|gc h j iDec (fun hc5 h=>?_) fun hc5 h=>?_
  ·refine Go.skip<|us<|gs<|Go.block<|gs<|g0 j j (q (oMv j j)<|q (oAsI j j)<|nl)<|us<|gs<|?_
   obtain ⟨x14,hx14,h⟩:=bs h
   obtain ⟨x16,hx16,h⟩:=bs h
   refine g0 j j (q (oMv j j)<|q (oMv j j)<|q (oMv j j)<|q (oIAI j hx14 sF28 j j)<|q (oLd (cs:=[.im 2 _]) j tF2 j j)<|q (oCa (xs:=[.v false [.im 2 _],.v false [.im 2 _]]) (vs:=[(false,[.im 0 _])]) (v:=.v false [.im 0 _]) (L_impl_SafeOrder_c1 hx16) (.inr ⟨_,_,j,j⟩) j kF47_2_0 j (ppC j (ppC j pp0)) j j pb0 j j j)<|nl)<|us<|gc h j iR (fun hc6 h=>?_) fun hc6 h=>?_
   ·refine gs<|g0 j j (q (oMv j j)<|q (oAsI j j)<|nl)<|us<|Go.ret (Unw.ret ?_)
    cases h
    exact ⟨j,(fo rF98 j)⟩
   ·refine Go.skip<|Unw.blk<|us<|g0 j j (q (oBi j j j j)<|q (oMv j j)<|nl)<|Unw.nil<|?_
    cases h
    exact ⟨j,(by kernel_rfl)⟩
  ·refine Go.exit<|ux<|Unw.nil<|?_
   cases h
   exact ⟨j,(by kernel_rfl)⟩
 ·rintro ⟨e,st⟩ hp
  rcases o with u | r2
  ·dsimp only at h
   obtain ⟨he,hst⟩:=hp
   obtain rfl:e= .exit 0:=he
   refine Unw.blkx<|us<|gs<|g2 c98 j j hst (q (oAsI j j)<|nl)<|us<|Go.ret (Unw.ret ?_)
   cases h
   exact fr rF98 j
  ·dsimp only at h
   obtain ⟨he,hfin⟩:=hp
   obtain rfl:e= .ret:=he
   cases h
   exact Unw.ret (Fin_ret hfin)
theorem L_slices_ContainsFunc_int64_int64_47 {s_0:(List Int)} {fc1_0_0:(List Int)} {r:Bool} (h:slices_ContainsFunc_int64_int64 s_0 (fun b0=>impl_SafeOrder_c1 b0 fc1_0_0)=some r):FX 46 [.im 2 false [W 1 eI s_0],.im 2 false [.clo 47 [.cp [W 1 eI fc1_0_0] 0]]] (B0 [(false,[.im 0 (V r)])]):=by
 unfold slices_ContainsFunc_int64_int64 at h
 refine gn 9 Try.func46 rfl ?_
 refine gs<|g0 j j (q (oAsI j j)<|nl)<|us<|gs<|?_
 obtain ⟨x7,hx7,h⟩:=bs h
 refine g0 j j (q (oMv j j)<|q (oMv j j)<|q (oCa (xs:=[.v false [.im 2 _],.v false [.im 2 _]]) (vs:=[(false,[.im 0 _])]) (v:=.v false [.im 0 _]) (L_slices_IndexFunc_int64_int64_47 hx7) (.inl j) j kF98_28_86 j (ppC j (ppC j pp0)) j j pb0 j j j)<|q (oBi j j j j)<|q (oAsI j j)<|nl)<|us<|Go.ret (Unw.ret ?_)
 cases h
 exact fr rF46 j
theorem L_slices_Reverse_int64_int64 {s_0:(List Int)} {r:(List Int)} (h:slices_Reverse_int64_int64 s_0=some r):FX 48 [.ow 1 (List.map eI s_0)] ([],[.ow 1 (List.map eI r)]):=by
 unfold slices_Reverse_int64_int64 at h
 refine FL_goS (A:=[(0,H 0 0)]) (B:=[(0,Oe [Z (W 1 eI s_0)])]) (nt:=28) rfl rfl Try.func48 rfl rfl rfl rfl ?_
 refine gs<|g0 j j (q (oMv j j)<|q (oLnO j j uF28 j j j (fun e=>nomatch e))<|q (oBi j j j j)<|q (oAsI j j)<|q (oAsI j j)<|nl)<|us<|Go.block<|?_
 obtain ⟨o,hl,h⟩:=bs h
 refine gl c48 j _ (fun (s:(Int×Int×(List Int)))=>match s with | (i_2_l1,j_3_l1,s_o0_l1)=>mk [(0,H 0 0),(2,iv i_2_l1),(3,iv j_3_l1)] [(0,Oe [Z (W 1 eI s_o0_l1)])]) (fun (r2:(List Int)) (p:Ex×St)=>p.1= .exit 0∧fin Try.prog cfg 48 Try.f48 [.ow 1 (List.map eI s_0)] p.2=some ([],[.ow 1 (List.map eI r2)])) hl (by kernel_rfl) ?_ ?_ ?_
 ·intro o p hp e
  exact nomatch (hp.1.symm.trans e)
 ·rintro ⟨i_2_l1,j_3_l1,s_o0_l1⟩ o h
  unfold slices_Reverse_int64_int64_l1 at h
  dsimp only at h
  refine gs<|gs<|g0 j j (q (oMv j j)<|q (oMv j j)<|q (oBi j j j j)<|nl)<|us<|gc h j iDec (fun hc3 h=>?_) fun hc3 h=>?_
  ·refine Go.skip<|us<|gs<|Go.block<|?_
   obtain ⟨x20,hx20,h⟩:=bs h
   obtain ⟨x24,hx24,h⟩:=bs h
   obtain ⟨x26,hx26,h⟩:=bs h
   obtain ⟨x27,hx27,h⟩:=bs h
   refine gd c48 j j j j (mk [(0,H 0 0),(2,iv i_2_l1),(3,iv j_3_l1)] [(0,Oe [Z (W 1 eI ((s_o0_l1.set i_2_l1.toNat x20).set j_3_l1.toNat x24))])]) (t j j (oMv j j)<|t j j (oMv j j)<|t j j (oMv j j)<|t j j (oMv j j)<|t j j (oMv j j)<|t j j (oMv j j)<|t j j (oIAO j hx20 sF28 j j j j)<|t j j (oLdE (cs:=[.im 0 _]) j tF2 j j j j (rd_get hx20) j j)<|t j j (oMv j j)<|t j j (oMv j j)<|t j j (oIAO j hx24 sF28 j j j j)<|t j j (oLdE (cs:=[.im 0 _]) j tF2 j j j j (rd_get hx24) j j)<|t j j (oIAO j hx26 sF28 j j j j)<|sS (dN z48 j (oStE (v':=x20) tF2 j j j (fxI fx0) j j (rd_get hx26) j)) trivial (t j j (oIAO j hx27 sF28 j j j j)<|sS (dN z48 j (oStE (v':=x24) tF2 j j j (fxI fx0) j j (rd_get hx27) j)) trivial (sD (by kernel_rfl))))<|Unw.blk<|us<|g0 j j (q (oMv j j)<|q (oBi j j j j)<|q (oMv j j)<|q (oBi j j j j)<|q (oAsI j j)<|q (oAsI j j)<|nl)<|Unw.nil<|?_
   cases h
   exact ⟨j,(by kernel_rfl)⟩
  ·refine Go.exit<|ux<|Unw.nil<|?_
   cases h
   exact ⟨j,(fo rF48 j)⟩
 ·rintro ⟨e,st⟩ hp
  obtain ⟨r2,rfl⟩:∃y,y=o:=⟨o,rfl⟩
  obtain ⟨he,hfin⟩:=hp
  obtain rfl:e= .exit 0:=he
  cases h
  exact Unw.blkx<|Unw.nil (Fin_end hfin)
theorem L_impl_SafeOrder {d_0:S_Drawing} {r:((List Int)×Int)} (h:impl_SafeOrder d_0=some r):FX 8 [.im 2 true (u_S_Drawing d_0)] (B0 [(false,[.ow 0 1 (List.map eI r.1)]),(false,[.im 0 (I r.2)])]):=by
 unfold impl_SafeOrder at h
 refine gn 59 Try.func8 rfl ?_
 refine gs<|g0 j j (q (oBx j tF26 j (tkI (tkI (tkI (tkI tk0)))))<|q (oAsN j j eF28)<|q (oAsI j j)<|nl)<|us<|gs<|gs<|?_
 obtain ⟨x8,hx8,h⟩:=bs h
 refine g0 j j (q (oLd (cs:=[.im 0 _,.im 0 _,.im 2 _,.im 2 _]) j tF26 j j)<|q (oCa (xs:=[.v true [.im 0 _,.im 0 _,.im 2 _,.im 2 _]]) (vs:=[(false,[.im 0 _])]) (v:=.v false [.im 0 _]) (L_impl_ValidDrawing hx8) (.inl j) j kF43_26 j (ppC j pp0) j j pb0 j j j)<|q (oUn j j j)<|nl)<|us<|?_
 by_cases hc1:x8=true
 ·rw [if_pos hc1] at h
  refine gF j (nF (iR.2 hc1))<|Go.skip<|us<|gs<|?_
  obtain ⟨x11,hx11,h⟩:=bs h
  refine g0 j j (q (oLd (cs:=[.im 0 _,.im 0 _,.im 2 _,.im 2 _]) j tF26 j j)<|q (oCr (xs:=[.v true [.im 0 _,.im 0 _,.im 2 _,.im 2 _]]) (vs:=[(true,[.im 0 _,.own 11 0 0])]) (v:=.v true [.im 0 _,.own 11 0 0]) (c:=⟨.sh,0,_⟩) (cs:=[]) (L_impl_sidesOf hx11) (.inl j) j kF44_26 j (ppC j pp0) j j pb0 j j j)<|q (oBS (es:=List.map eI ([]:List Int)) j sF28 j pt0 (flat0 j fun _=>j))<|q (oAl j tF83 (tkN (tkN tk0)))<|q (oAl j tF28 (tkN tk0))<|q (oSt tF83 j j j (tkI (tkO j j tk0)) j j j)<|q (oSt tF28 j j j (tkO j j tk0) j j j)<|nl)<|us<|gs<|Go.block<|?_
  obtain ⟨o,hl,h⟩:=bs h
  refine gl c8 j _ (fun (taken_o5_l4:(List Int))=>mk [(1,M 1),(4,M 4),(5,M 5)] [(1,Oa (G 2 (u_S_Drawing d_0))),(4,Oa [C (W 1 (eL 1 eI) x11.near),Z (W 1 eB x11.border)]),(5,Ob [Z (W 1 eI taken_o5_l4)])]) (fun (o:((List Int) ⊕ ((List Int)×Int))) (p:Ex×St)=>match o with | (.inl taken_o5_e0_4)=>p.1= .exit 0∧p.2.norm ([5],[5])=mk [(5,M 5)] [(5,Ob [Z (W 1 eI taken_o5_e0_4)])] | (.inr r2)=>p.1= .ret∧fin Try.prog cfg 8 Try.f8 [.im 2 true (u_S_Drawing d_0)] p.2=some (B0 [(false,[.ow 0 1 (List.map eI r2.1)]),(false,[.im 0 (I r2.2)])])) hl (by kernel_rfl) ?_ ?_ ?_
  ·intro o p hp e
   rcases o with taken_o5_e0_4 | r2<;>exact nomatch (hp.1.symm.trans e)
  ·rintro taken_o5_l4 o h
   unfold impl_SafeOrder_l4 at h
   refine gs<|gs<|g0 j j (q (oLd (cs:=[.own 5 0 0]) j tF28 j j)<|q (oLnO j j uF28 j j j (fun e=>nomatch e))<|q (oFA (r':=.mp 1 0 3) j fF26_3 j j)<|q (oLd (cs:=[.im 2 _]) j tF24 j j)<|q (oLnI j j uF24 j)<|q (oBi j j j j)<|nl)<|us<|gc h j iDec (fun hc26 h=>?_) fun hc26 h=>?_
   ·refine Go.skip<|us<|Go.block<|gs<|g0 j j (q (oFA (r':=.mp 1 0 3) j fF26_3 j j)<|q (oLd (cs:=[.im 2 _]) j tF24 j j)<|q (oLnI j j uF24 j)<|q (oBi j j j j)<|q (oAsI j j)<|nl)<|us<|gs<|Go.block<|?_
    obtain ⟨o,hl,h⟩:=bs h
    refine gl c8 j _ (fun (next_6_l6:Int)=>mk [(1,M 1),(4,M 4),(5,M 5),(6,iv next_6_l6)] [(1,Oa (G 2 (u_S_Drawing d_0))),(4,Oa [C (W 1 (eL 1 eI) x11.near),Z (W 1 eB x11.border)]),(5,Ob [Z (W 1 eI taken_o5_l4)])]) (fun (next_6_e2_6:Int) (p:Ex×St)=>p.1= .exit 2∧p.2.norm ([1,4,5,6],[1,4,5])=mk [(1,M 1),(4,M 4),(5,M 5),(6,iv next_6_e2_6)] [(1,Oa (G 2 (u_S_Drawing d_0))),(4,Oa [C (W 1 (eL 1 eI) x11.near),Z (W 1 eB x11.border)]),(5,Ob [Z (W 1 eI taken_o5_l4)])]) hl (by kernel_rfl) ?_ ?_ ?_
    ·intro o p hp e
     exact nomatch (hp.1.symm.trans e)
    ·rintro next_6_l6 o h
     unfold impl_SafeOrder_l6 at h
     refine gs<|gs<|?_
     obtain ⟨t_47_m6,hm42,h⟩:=bs h
     refine gX c8 j j j (mk [(1,M 1),(4,M 4),(5,M 5),(6,iv next_6_l6),(47,bv t_47_m6)] [(1,Oa (G 2 (u_S_Drawing d_0))),(4,Oa [C (W 1 (eL 1 eI) x11.near),Z (W 1 eB x11.border)]),(5,Ob [Z (W 1 eI taken_o5_l4)])]) ?_ ?_
     ·refine xq (oMv j j)<|xq (oBi j j j j)<|xq (oMv j j)<|?_
      refine ic hm42 (fun hc38 hm42=>?_) fun hc38 hm42=>?_
      ·obtain ⟨x28,hx28,hm42⟩:=bs hm42
       refine xqT j j (iDec.2 hc38) (oLd (cs:=[.own 5 0 0]) j tF28 j j)<|xqT j j (iDec.2 hc38) (oMv j j)<|xqT j j (iDec.2 hc38) (oCa (xs:=[.v false [.own 5 0 0],.v false [.im 0 _]]) (vs:=[(false,[.im 0 _])]) (v:=.v false [.im 0 _]) (L_slices_Contains_int64_int64 hx28) (.inl j) j kF45_28_2 j (ppC j (ppC j pp0)) j j pb0 j j j)<|xqT j j (iDec.2 hc38) (oMv j j)<|?_
       refine ic hm42 (fun hc39 hm42=>?_) fun hc39 hm42=>?_
       ·cases hm42
        exact xsgF j j (iR.2 hc39) j<|xsgF j j (iR.2 hc39) j<|xsgF j j (iR.2 hc39) j<|xsgF j j (iR.2 hc39) j<|xsgF j j (iR.2 hc39) j<|xsgF j j (iR.2 hc39) j<|xsgF j j (iR.2 hc39) j<|xsgU j j j<|xsgU j j j<|xsgU j j j<|xsgU j j j<|xsgU j j j<|xsgU j j j<|xsgU j j j<|xsgU j j j<|xsgF j j (iR.2 hc39) j<|xqT j j (iDec.2 hc38) (oPkT j j (iR.2 hc39) j)<|xq (oPkT j j (iDec.2 hc38) j)<|xn
       ·obtain ⟨x33,hx33,hm42⟩:=bs hm42
        refine xqT j j (byF iR hc39) (oFA (r':=.mp 4 0 1) j fF83_1 j j)<|xqT j j (byF iR hc39) (oLd (cs:=[.own 4 0 1]) j tF81 j j)<|xqT j j (byF iR hc39) (oMv j j)<|xqT j j (byF iR hc39) (oIAO j hx33 sF81 j j j j)<|xqT j j (byF iR hc39) (oLdE (cs:=[.im 0 _]) j tF4 j j j j (rd_get hx33) j j)<|xqT j j (byF iR hc39) (oUn j j j)<|xqT j j (byF iR hc39) (oMv j j)<|?_
        refine ic hm42 (fun hc40 hm42=>?_) fun hc40 hm42=>?_
        ·cases hm42
         exact xsgF j j (nF (iR.2 hc40)) j<|xsgF j j (nF (iR.2 hc40)) j<|xsgF j j (nF (iR.2 hc40)) j<|xsgF j j (nF (iR.2 hc40)) j<|xsgF j j (nF (iR.2 hc40)) j<|xsgF j j (nF (iR.2 hc40)) j<|xsgF j j (nF (iR.2 hc40)) j<|xsgF j j (nF (iR.2 hc40)) j<|xqT j j (byF iR hc39) (oPkF j j (nF (iR.2 hc40)) j)<|xqT j j (iDec.2 hc38) (oPkF j j (byF iR hc39) j)<|xq (oPkT j j (iDec.2 hc38) j)<|xn
        ·obtain ⟨x40,hx40,hm42⟩:=bs hm42
         obtain ⟨x43,hx43,hm42⟩:=bs hm42
         cases hm42
         exact xqT j j (nT (byF iR hc40)) (oFA (r':=.mp 4 0 0) j fF83_0 j j)<|xqT j j (nT (byF iR hc40)) (oLd (cs:=[.im 0 _]) j tF80 j j)<|xqT j j (nT (byF iR hc40)) (oMv j j)<|xqT j j (nT (byF iR hc40)) (oIAI j hx40 sF80 j j)<|xqT j j (nT (byF iR hc40)) (oLd (cs:=[.im 0 _]) j tF28 j j)<|xqT j j (nT (byF iR hc40)) (oMF (rs:=[.mp 5 0 0]) j j)<|xqT j j (nT (byF iR hc40)) (oCa (xs:=[.v false [.im 0 _],.fn 47 [.mp 5 0 0]]) (vs:=[(false,[.im 0 _])]) (v:=.v false [.im 0 _]) (L_slices_ContainsFunc_int64_int64_47 hx43) (.inl j) j kF46_28_86 j (ppC j (ppC j pp0)) j j pb0 j j j)<|xqT j j (nT (byF iR hc40)) (oUn j j j)<|xqT j j (byF iR hc39) (oPkT j j (nT (byF iR hc40)) j)<|xqT j j (iDec.2 hc38) (oPkF j j (byF iR hc39) j)<|xq (oPkT j j (iDec.2 hc38) j)<|xn
      ·cases hm42
       exact xsgF j j (byF iDec hc38) j<|xsgF j j (byF iDec hc38) j<|xsgF j j (byF iDec hc38) j<|xsgF j j (byF iDec hc38) j<|xsgU j j j<|xsgU j j j<|xsgU j j j<|xsgU j j j<|xsgU j j j<|xsgU j j j<|xsgU j j j<|xsgU j j j<|xsgU j j j<|xsgU j j j<|xsgU j j j<|xsgU j j j<|xsgU j j j<|xsgU j j j<|xsgU j j j<|xsgU j j j<|xsgF j j (byF iDec hc38) j<|xq (oPkF j j (byF iDec hc38) j)<|xn
     ·refine us<|gc h j iR (fun hc41 h=>?_) fun hc41 h=>?_
      ·refine Go.skip<|us<|Go.block<|g0 j j (q (oMv j j)<|q (oBi j j j j)<|q (oAsI j j)<|nl)<|Unw.blk<|Unw.nil<|?_
       cases h
       exact ⟨j,(by kernel_rfl)⟩
      ·refine Go.exit<|ux<|Unw.nil<|?_
       cases h
       exact ⟨j,(by kernel_rfl)⟩
    ·rintro ⟨e,st⟩ hp
     obtain ⟨next_6_e2_6,rfl⟩:∃y,y=o:=⟨o,rfl⟩
     obtain ⟨he,hst⟩:=hp
     obtain rfl:e= .exit 2:=he
     refine Unw.blkx<|us<|gs<|gs<|g2 c8 j j hst (q (oMv j j)<|q (oBi j j j j)<|nl)<|us<|gc h j iDec (fun hc37 h=>?_) fun hc37 h=>?_
     ·refine gs<|g0 j j (q (oAsN j j eF28)<|q (oAsI j j)<|nl)<|us<|Go.ret (Unw.ret ?_)
      cases h
      exact ⟨j,(fo rF8 j)⟩
     ·refine Go.skip<|us<|?_
      obtain ⟨x55,hx55,h⟩:=bs h
      refine g0 j j (q (oLd (cs:=[.own 5 0 0]) j tF28 j j)<|q (oMv j j)<|q (oBS (es:=List.map eI ([next_6_e2_6]:List Int)) j sF28 j (ptC j (fxI fx0) j pt0) (flat0 j fun _=>j))<|q (oApO (en:=eI) (M:=([next_6_e2_6]:List Int)) j hx55 j sF28 j j uF28 (.inl ⟨_,j⟩) j j j j (el_own j j) (flat0 j fun _=>j))<|q (oSt tF28 j j j (tkO j j tk0) j j j)<|nl)<|Unw.blk<|Unw.nil<|?_
      cases h
      exact ⟨j,(by kernel_rfl)⟩
   ·refine Go.exit<|ux<|Unw.nil<|?_
    cases h
    exact ⟨j,(by kernel_rfl)⟩
  ·rintro ⟨e,st⟩ hp
   rcases o with taken_o5_e0_4 | r2
   ·dsimp only at h
    obtain ⟨he,hst⟩:=hp
    obtain rfl:e= .exit 0:=he
    refine Unw.blkx<|us<|gs<|?_
    obtain ⟨x57,hx57,h⟩:=bs h
    refine g2 c8 j j hst (q (oLd (cs:=[.own 5 0 0]) j tF28 j j)<|q (oCa (xs:=[.v false [.own 5 0 0]]) (vs:=[]) (v:=.tup []) (L_slices_Reverse_int64_int64 hx57) (.inl j) j kF48_28 j (ppC j pp0) j j (pbO j j j j pb0) j j j)<|nl)<|us<|gs<|g1 j j (mk [(5,M 5)] [(5,Ob [Z (W 1 eI x57)])]) (q (oLd (cs:=[.own 5 0 0]) j tF28 j j)<|q (oAsO j j j j j)<|q (oAsI j j)<|nl)<|us<|Go.ret (Unw.ret ?_)
    cases h
    exact fr rF8 j
   ·dsimp only at h
    obtain ⟨he,hfin⟩:=hp
    obtain rfl:e= .ret:=he
    cases h
    exact Unw.ret (Fin_ret hfin)
 ·rw [if_neg hc1] at h
  refine gT j (nT (byF iR hc1))<|gs<|g0 j j (q (oAsN j j eF28)<|q (oAsI j j)<|nl)<|us<|Go.ret (Unw.ret ?_)
  cases h
  exact fr rF8 j
theorem L_impl_BorderFaces {d_0:S_Drawing} {r:((List Int)×Int)} (h:impl_BorderFaces d_0=some r):FX 10 [.im 2 true (u_S_Drawing d_0)] (B0 [(false,[.ow 0 1 (List.map eI r.1)]),(false,[.im 0 (I r.2)])]):=by
 unfold impl_BorderFaces at h
 refine gn 27 Try.func10 rfl ?_
 refine gs<|g0 j j (q (oBx j tF26 j (tkI (tkI (tkI (tkI tk0)))))<|q (oAsN j j eF28)<|q (oAsI j j)<|nl)<|us<|gs<|gs<|?_
 obtain ⟨x8,hx8,h⟩:=bs h
 refine g0 j j (q (oLd (cs:=[.im 0 _,.im 0 _,.im 2 _,.im 2 _]) j tF26 j j)<|q (oCa (xs:=[.v true [.im 0 _,.im 0 _,.im 2 _,.im 2 _]]) (vs:=[(false,[.im 0 _])]) (v:=.v false [.im 0 _]) (L_impl_ValidDrawing hx8) (.inl j) j kF43_26 j (ppC j pp0) j j pb0 j j j)<|q (oUn j j j)<|nl)<|us<|?_
 by_cases hc1:x8=true
 ·rw [if_pos hc1] at h
  refine gF j (nF (iR.2 hc1))<|Go.skip<|us<|gs<|g0 j j (q (oBS (es:=List.map eI ([]:List Int)) j sF28 j pt0 (flat0 j fun _=>j))<|q (oAsO j j j j j)<|nl)<|us<|gs<|gs<|?_
  obtain ⟨x12,hx12,h⟩:=bs h
  refine g0 j j (q (oLd (cs:=[.im 0 _,.im 0 _,.im 2 _,.im 2 _]) j tF26 j j)<|q (oCr (xs:=[.v true [.im 0 _,.im 0 _,.im 2 _,.im 2 _]]) (vs:=[(true,[.im 0 _,.own 12 0 0])]) (v:=.v true [.im 0 _,.own 12 0 0]) (c:=⟨.sh,0,_⟩) (cs:=[]) (L_impl_sidesOf hx12) (.inl j) j kF44_26 j (ppC j pp0) j j pb0 j j j)<|q (oFd (cs':=[.own 12 0 0]) j vF83_1 j j)<|q (oLnO j j uF81 j j j (fun e=>nomatch e))<|q (oMv j j)<|nl)<|us<|Go.block<|?_
  obtain ⟨o,hl,h⟩:=bs h
  refine gl c10 j _ (fun (s:(Int×(List Int)))=>match s with | (t_15_l5,out_o4_l5)=>mk [(4,H 4 0),(13,H 12 0),(14,iv (x12.border.length:Int)),(15,iv t_15_l5)] [(4,Oc [Z (W 1 eI out_o4_l5)]),(12,Oc [Z (W 1 eB x12.border)])]) (fun (out_o4_e0_5:(List Int)) (p:Ex×St)=>p.1= .exit 0∧p.2.norm ([4],[4])=mk [(4,H 4 0)] [(4,Oc [Z (W 1 eI out_o4_e0_5)])]) hl (by kernel_rfl) ?_ ?_ ?_
  ·intro o p hp e
   exact nomatch (hp.1.symm.trans e)
  ·rintro ⟨t_15_l5,out_o4_l5⟩ o h
   unfold impl_BorderFaces_l5 at h
   dsimp only at h
   refine gs<|g0 j j (q (oBi j j j j)<|nl)<|us<|gs<|gc h j iDec (fun hc6 h=>?_) fun hc6 h=>?_
   ·refine Go.skip<|us<|gs<|Go.join (fun st=>∃out_o4_r9,impl_BorderFaces_k9 t_15_l5 out_o4_r9=some o∧st.norm ([4,13,14,15],[4,12])=mk [(4,H 4 0),(13,H 12 0),(14,iv (x12.border.length:Int)),(15,iv t_15_l5)] [(4,Oc [Z (W 1 eI out_o4_r9)]),(12,Oc [Z (W 1 eB x12.border)])]) ?_ ?_
    ·rintro st ⟨out_o4_r9,h,hst⟩
     unfold impl_BorderFaces_k9 at h
     refine us<|g2 c10 j j hst (q (oBi j j j j)<|q (oMv j j)<|nl)<|Unw.nil<|?_
     cases h
     exact ⟨j,(by kernel_rfl)⟩
    ·intro K8
     refine Go.block<|gs<|?_
     obtain ⟨x18,hx18,h⟩:=bs h
     refine g0 j j (q (oMv j j)<|q (oIAO j hx18 sF81 j j j j)<|q (oLdE (cs:=[.im 0 _]) j tF4 j j j j (rd_get hx18) j j)<|q (oAsI j j)<|q (oAsI j j)<|nl)<|us<|gs<|g0 j j (q (oMv j j)<|nl)<|us<|gc h j iR (fun hc9 h=>?_) fun hc9 h=>?_
     ·obtain ⟨x24,hx24,h⟩:=bs h
      exact g0 j j (q (oMv j j)<|q (oMv j j)<|q (oBS (es:=List.map eI ([t_15_l5]:List Int)) j sF28 j (ptC j (fxI fx0) j pt0) (flat0 j fun _=>j))<|q (oApO (en:=eI) (M:=([t_15_l5]:List Int)) j hx24 j sF28 j j uF28 (.inl ⟨_,j⟩) j j j j (el_own j j) (flat0 j fun _=>j))<|q (oAsO j j j j j)<|nl)<|Unw.blk<|K8 _ ⟨x24,h,(by kernel_rfl)⟩
     ·exact Go.skip<|Unw.blk<|K8 _ ⟨out_o4_l5,h,(by kernel_rfl)⟩
   ·refine Go.exit<|ux<|Unw.nil<|?_
    cases h
    exact ⟨j,(by kernel_rfl)⟩
  ·rintro ⟨e,st⟩ hp
   obtain ⟨out_o4_e0_5,rfl⟩:∃y,y=o:=⟨o,rfl⟩
   obtain ⟨he,hst⟩:=hp
   obtain rfl:e= .exit 0:=he
   refine Unw.blkx<|us<|gs<|g2 c10 j j hst (q (oMv j j)<|q (oAsO j j j j j)<|q (oAsI j j)<|nl)<|us<|Go.ret (Unw.ret ?_)
   cases h
   exact fr rF10 j
 ·rw [if_neg hc1] at h
  refine gT j (nT (byF iR hc1))<|gs<|g0 j j (q (oAsN j j eF28)<|q (oAsI j j)<|nl)<|us<|Go.ret (Unw.ret ?_)
  cases h
  exact fr rF10 j
theorem L_impl_EnclosedFaces {d_0:S_Drawing} {r:((List Int)×Int)} (h:impl_EnclosedFaces d_0=some r):FX 9 [.im 2 true (u_S_Drawing d_0)] (B0 [(false,[.ow 0 1 (List.map eI r.1)]),(false,[.im 0 (I r.2)])]):=by
 unfold impl_EnclosedFaces at h
 refine gn 66 Try.func9 rfl ?_
 refine gs<|g0 j j (q (oBx j tF26 j (tkI (tkI (tkI (tkI tk0)))))<|q (oAsN j j eF28)<|q (oAsI j j)<|nl)<|us<|gs<|?_
 obtain ⟨x14,hx14,h⟩:=bs h
 refine g0 j j (q (oLd (cs:=[.im 0 _,.im 0 _,.im 2 _,.im 2 _]) j tF26 j j)<|q (oCr (xs:=[.v true [.im 0 _,.im 0 _,.im 2 _,.im 2 _]]) (vs:=[(false,[.own 14 0 0]),(false,[.im 0 _])]) (v:=.tup [(false,[.own 14 0 0]),(false,[.im 0 _])]) (c:=⟨.sh,0,_⟩) (cs:=[]) (L_impl_BorderFaces hx14) (.inl j) j kF10_26 j (ppC j pp0) j j pb0 j j j)<|q (oMvT j j)<|q (oEx j j j)<|q (oEx j j j)<|q (oAsO j j j j j)<|q (oAsI j j)<|nl)<|us<|gs<|gs<|g0 j j (q (oMv j j)<|q (oBi j j j j)<|nl)<|us<|gc h j iNe (fun hc1 h=>?_) fun hc1 h=>?_
 ·refine gs<|g0 j j (q (oMv j j)<|q (oAsN j j eF28)<|q (oAsI j j)<|nl)<|us<|Go.ret (Unw.ret ?_)
  cases h
  exact fr rF9 j
 ·refine Go.skip<|us<|gs<|?_
  obtain ⟨x21,hx21,h⟩:=bs h
  refine g0 j j (q (oLd (cs:=[.im 0 _,.im 0 _,.im 2 _,.im 2 _]) j tF26 j j)<|q (oCa (xs:=[.v true [.im 0 _,.im 0 _,.im 2 _,.im 2 _]]) (vs:=[(false,[.im 0 _])]) (v:=.v false [.im 0 _]) (L_impl_neighbours hx21) (.inl j) j kF49_26 j (ppC j pp0) j j pb0 j j j)<|q (oAsI j j)<|nl)<|us<|gs<|gs<|g0 j j (q (oAsI j j)<|nl)<|us<|Go.block<|?_
  obtain ⟨o,hl,h⟩:=bs h
  refine gl c9 j _ (fun (s:(Int×(List Int)))=>match s with | (i_7_l6,queue_o4_l6)=>mk [(1,M 1),(4,H 4 0),(6,D 0 (W 1 (eL 1 eI) x21)),(7,iv i_7_l6)] [(1,Oa (G 2 (u_S_Drawing d_0))),(4,Oc [Z (W 1 eI queue_o4_l6)])]) (fun (queue_o4_e0_6:(List Int)) (p:Ex×St)=>p.1= .exit 0∧p.2.norm ([1,4],[1,4])=mk [(1,M 1),(4,H 4 0)] [(1,Oa (G 2 (u_S_Drawing d_0))),(4,Oc [Z (W 1 eI queue_o4_e0_6)])]) hl (by kernel_rfl) ?_ ?_ ?_
  ·intro o p hp e
   exact nomatch (hp.1.symm.trans e)
  ·rintro ⟨i_7_l6,queue_o4_l6⟩ o h
   unfold impl_EnclosedFaces_l6 at h
   dsimp only at h
   refine gs<|gs<|g0 j j (q (oMv j j)<|q (oMv j j)<|q (oLnO j j uF28 j j j (fun e=>nomatch e))<|q (oBi j j j j)<|nl)<|us<|gc h j iDec (fun hc20 h=>?_) fun hc20 h=>?_
   ·refine Go.skip<|us<|gs<|Go.block<|gs<|?_
    obtain ⟨x31,hx31,h⟩:=bs h
    obtain ⟨x33,hx33,h⟩:=bs h
    refine g0 j j (q (oMv j j)<|q (oMv j j)<|q (oMv j j)<|q (oIAO j hx31 sF28 j j j j)<|q (oLdE (cs:=[.im 0 _]) j tF2 j j j j (rd_get hx31) j j)<|q (oIAI j hx33 sF80 j j)<|q (oLd (cs:=[.im 0 _]) j tF28 j j)<|q (oLnI j j uF28 j)<|q (oMv j j)<|nl)<|us<|Go.block<|?_
    obtain ⟨o,hl,h⟩:=bs h
    refine gl c9 j _ (fun (s:(Int×(List Int)))=>match s with | (t_36_l9,queue_o4_l9)=>mk [(1,M 1),(4,H 4 0),(6,D 0 (W 1 (eL 1 eI) x21)),(7,iv i_7_l6),(34,D 0 (W 1 eI x33)),(35,iv (x33.length:Int)),(36,iv t_36_l9)] [(1,Oa (G 2 (u_S_Drawing d_0))),(4,Oc [Z (W 1 eI queue_o4_l9)])]) (fun (queue_o4_e2_9:(List Int)) (p:Ex×St)=>p.1= .exit 2∧p.2.norm ([1,4,6,7],[1,4])=mk [(1,M 1),(4,H 4 0),(6,D 0 (W 1 (eL 1 eI) x21)),(7,iv i_7_l6)] [(1,Oa (G 2 (u_S_Drawing d_0))),(4,Oc [Z (W 1 eI queue_o4_e2_9)])]) hl (by kernel_rfl) ?_ ?_ ?_
    ·intro o p hp e
     exact nomatch (hp.1.symm.trans e)
    ·rintro ⟨t_36_l9,queue_o4_l9⟩ o h
     unfold impl_EnclosedFaces_l9 at h
     dsimp only at h
     refine gs<|g0 j j (q (oBi j j j j)<|nl)<|us<|gs<|gc h j iDec (fun hc25 h=>?_) fun hc25 h=>?_
     ·refine Go.skip<|us<|gs<|Go.join (fun st=>∃queue_o4_r13,impl_EnclosedFaces_k13 t_36_l9 queue_o4_r13=some o∧st.norm ([1,4,6,7,34,35,36],[1,4])=mk [(1,M 1),(4,H 4 0),(6,D 0 (W 1 (eL 1 eI) x21)),(7,iv i_7_l6),(34,D 0 (W 1 eI x33)),(35,iv (x33.length:Int)),(36,iv t_36_l9)] [(1,Oa (G 2 (u_S_Drawing d_0))),(4,Oc [Z (W 1 eI queue_o4_r13)])]) ?_ ?_
      ·rintro st ⟨queue_o4_r13,h,hst⟩
       unfold impl_EnclosedFaces_k13 at h
       refine us<|g2 c9 j j hst (q (oBi j j j j)<|q (oMv j j)<|nl)<|Unw.nil<|?_
       cases h
       exact ⟨j,(by kernel_rfl)⟩
      ·intro K27
       refine Go.block<|gs<|?_
       obtain ⟨x38,hx38,h⟩:=bs h
       refine g0 j j (q (oIAI j hx38 sF28 j j)<|q (oLd (cs:=[.im 0 _]) j tF2 j j)<|q (oAsI j j)<|nl)<|us<|gs<|?_
       obtain ⟨x42,hx42,h⟩:=bs h
       refine g0 j j (q (oMv j j)<|q (oMv j j)<|q (oCa (xs:=[.v false [.own 4 0 0],.v false [.im 0 _]]) (vs:=[(false,[.im 0 _])]) (v:=.v false [.im 0 _]) (L_slices_Contains_int64_int64 hx42) (.inl j) j kF45_28_2 j (ppC j (ppC j pp0)) j j pb0 j j j)<|q (oUn j j j)<|nl)<|us<|?_
       by_cases hc28:x42=true
       ·rw [if_pos hc28] at h
        exact gF j (nF (iR.2 hc28))<|Go.skip<|Unw.blk<|K27 _ ⟨queue_o4_l9,h,(by kernel_rfl)⟩
       ·rw [if_neg hc28] at h
        refine gT j (nT (byF iR hc28))<|?_
        obtain ⟨x47,hx47,h⟩:=bs h
        exact g0 j j (q (oMv j j)<|q (oMv j j)<|q (oBS (es:=List.map eI ([x38]:List Int)) j sF28 j (ptC j (fxI fx0) j pt0) (flat0 j fun _=>j))<|q (oApO (en:=eI) (M:=([x38]:List Int)) j hx47 j sF28 j j uF28 (.inl ⟨_,j⟩) j j j j (el_own j j) (flat0 j fun _=>j))<|q (oAsO j j j j j)<|nl)<|Unw.blk<|K27 _ ⟨x47,h,(by kernel_rfl)⟩
     ·refine Go.exit<|ux<|Unw.nil<|?_
      cases h
      exact ⟨j,(by kernel_rfl)⟩
    ·rintro ⟨e,st⟩ hp
     obtain ⟨queue_o4_e2_9,rfl⟩:∃y,y=o:=⟨o,rfl⟩
     obtain ⟨he,hst⟩:=hp
     obtain rfl:e= .exit 2:=he
     refine Unw.blkx<|Unw.blk<|us<|g2 c9 j j hst (q (oMv j j)<|q (oBi j j j j)<|q (oAsI j j)<|nl)<|Unw.nil<|?_
     cases h
     exact ⟨j,(by kernel_rfl)⟩
   ·refine Go.exit<|ux<|Unw.nil<|?_
    cases h
    exact ⟨j,(by kernel_rfl)⟩
  ·rintro ⟨e,st⟩ hp
   obtain ⟨queue_o4_e0_6,rfl⟩:∃y,y=o:=⟨o,rfl⟩
   obtain ⟨he,hst⟩:=hp
   obtain rfl:e= .exit 0:=he
   refine Unw.blkx<|us<|gs<|g2 c9 j j hst (q (oBS (es:=List.map eI ([]:List Int)) j sF28 j pt0 (flat0 j fun _=>j))<|q (oAsO j j j j j)<|nl)<|us<|gs<|gs<|g0 j j (q (oFA (r':=.mp 1 0 3) j fF26_3 j j)<|q (oLd (cs:=[.im 2 _]) j tF24 j j)<|q (oLnI j j uF24 j)<|q (oMv j j)<|nl)<|us<|Go.block<|?_
   obtain ⟨o,hl,h⟩:=bs h
   refine gl c9 j _ (fun (s:(Int×(List Int)))=>match s with | (t_53_l16,out_o10_l16)=>mk [(4,H 4 0),(10,H 10 0),(52,iv (d_0.Faces.length:Int)),(53,iv t_53_l16)] [(4,Oc [Z (W 1 eI queue_o4_e0_6)]),(10,Oc [Z (W 1 eI out_o10_l16)])]) (fun (out_o10_e4_16:(List Int)) (p:Ex×St)=>p.1= .exit 4∧p.2.norm ([10],[10])=mk [(10,H 10 0)] [(10,Oc [Z (W 1 eI out_o10_e4_16)])]) hl (by kernel_rfl) ?_ ?_ ?_
   ·intro o p hp e
    exact nomatch (hp.1.symm.trans e)
   ·rintro ⟨t_53_l16,out_o10_l16⟩ o h
    unfold impl_EnclosedFaces_l16 at h
    dsimp only at h
    refine gs<|g0 j j (q (oBi j j j j)<|nl)<|us<|gs<|gc h j iDec (fun hc16 h=>?_) fun hc16 h=>?_
    ·refine Go.skip<|us<|gs<|Go.join (fun st=>∃out_o10_r20,impl_EnclosedFaces_k20 t_53_l16 out_o10_r20=some o∧st.norm ([4,10,52,53],[4,10])=mk [(4,H 4 0),(10,H 10 0),(52,iv (d_0.Faces.length:Int)),(53,iv t_53_l16)] [(4,Oc [Z (W 1 eI queue_o4_e0_6)]),(10,Oc [Z (W 1 eI out_o10_r20)])]) ?_ ?_
     ·rintro st ⟨out_o10_r20,h,hst⟩
      unfold impl_EnclosedFaces_k20 at h
      refine us<|g2 c9 j j hst (q (oBi j j j j)<|q (oMv j j)<|nl)<|Unw.nil<|?_
      cases h
      exact ⟨j,(by kernel_rfl)⟩
     ·intro K18
      refine Go.block<|gs<|g0 j j (q (oMv j j)<|q (oAsI j j)<|nl)<|us<|gs<|?_
      obtain ⟨x58,hx58,h⟩:=bs h
      refine g0 j j (q (oMv j j)<|q (oMv j j)<|q (oCa (xs:=[.v false [.own 4 0 0],.v false [.im 0 _]]) (vs:=[(false,[.im 0 _])]) (v:=.v false [.im 0 _]) (L_slices_Contains_int64_int64 hx58) (.inl j) j kF45_28_2 j (ppC j (ppC j pp0)) j j pb0 j j j)<|q (oUn j j j)<|nl)<|us<|?_
      by_cases hc19:x58=true
      ·rw [if_pos hc19] at h
       exact gF j (nF (iR.2 hc19))<|Go.skip<|Unw.blk<|K18 _ ⟨out_o10_l16,h,(by kernel_rfl)⟩
      ·rw [if_neg hc19] at h
       refine gT j (nT (byF iR hc19))<|?_
       obtain ⟨x63,hx63,h⟩:=bs h
       exact g0 j j (q (oMv j j)<|q (oMv j j)<|q (oBS (es:=List.map eI ([t_53_l16]:List Int)) j sF28 j (ptC j (fxI fx0) j pt0) (flat0 j fun _=>j))<|q (oApO (en:=eI) (M:=([t_53_l16]:List Int)) j hx63 j sF28 j j uF28 (.inl ⟨_,j⟩) j j j j (el_own j j) (flat0 j fun _=>j))<|q (oAsO j j j j j)<|nl)<|Unw.blk<|K18 _ ⟨x63,h,(by kernel_rfl)⟩
    ·refine Go.exit<|ux<|Unw.nil<|?_
     cases h
     exact ⟨j,(by kernel_rfl)⟩
   ·rintro ⟨e,st⟩ hp
    obtain ⟨out_o10_e4_16,rfl⟩:∃y,y=o:=⟨o,rfl⟩
    obtain ⟨he,hst⟩:=hp
    obtain rfl:e= .exit 4:=he
    refine Unw.blkx<|us<|gs<|g2 c9 j j hst (q (oMv j j)<|q (oAsO j j j j j)<|q (oAsI j j)<|nl)<|us<|Go.ret (Unw.ret ?_)
    cases h
    exact fr rF9 j
theorem L_impl_sides__held_c1 {m_0:Int} {cap0_0:(List Int)} {r:Bool} (h:impl_sides__held_c1 m_0 cap0_0=some r):FX 211 [.im 2 false [I m_0],.im 2 false [.cp [W 1 eI cap0_0] 0]] (B0 [(false,[.im 0 (V r)])]):=by
 unfold impl_sides__held_c1 at h
 refine gn 7 Try.func211 rfl ?_
 refine gs<|g0 j j (q (oAsI j j)<|nl)<|us<|gs<|?_
 obtain ⟨x6,hx6,h⟩:=bs h
 refine g0 j j (q (oLd (cs:=[.im 2 _]) j tF28 j j)<|q (oMv j j)<|q (oCa (xs:=[.v false [.im 2 _],.v false [.im 2 _]]) (vs:=[(false,[.im 0 _])]) (v:=.v false [.im 0 _]) (L_slices_Contains_int64_int64 hx6) (.inl j) j kF45_28_2 j (ppC j (ppC j pp0)) j j pb0 j j j)<|q (oAsI j j)<|nl)<|us<|Go.ret (Unw.ret ?_)
 cases h
 exact fr rF211 j
theorem L_slices_IndexFunc_int64_int64_211 {s_0:(List Int)} {fc1_0_0:(List Int)} {r:Int} (h:slices_IndexFunc_int64_int64 s_0 (fun b0=>impl_sides__held_c1 b0 fc1_0_0)=some r):FX 98 [.im 2 false [W 1 eI s_0],.im 2 false [.clo 211 [.cp [W 1 eI fc1_0_0] 0]]] (B0 [(false,[.im 0 (I r)])]):=by
 unfold slices_IndexFunc_int64_int64 at h
 refine gn 19 Try.func98 rfl ?_
 refine gs<|g0 j j (q (oAsI j j)<|nl)<|us<|gs<|gs<|g0 j j (q (oMv j j)<|q (oLnI j j uF28 j)<|q (oMv j j)<|nl)<|us<|Go.block<|?_
 obtain ⟨o,hl,h⟩:=bs h
 refine gl c98 j _ (fun (t_8_l2:Int)=>mk [(0,D 2 (W 1 eI s_0)),(1,D 2 (.clo 211 [.cp [W 1 eI fc1_0_0] 0])),(7,iv (s_0.length:Int)),(8,iv t_8_l2)] []) (fun (o:(Unit ⊕ Int)) (p:Ex×St)=>match o with | (.inl _)=>p.1= .exit 0∧p.2.norm ([],[])=mk [] [] | (.inr r2)=>p.1= .ret∧fin Try.prog cfg 98 Try.f98 [.im 2 false [W 1 eI s_0],.im 2 false [.clo 211 [.cp [W 1 eI fc1_0_0] 0]]] p.2=some (B0 [(false,[.im 0 (I r2)])])) hl (by kernel_rfl) ?_ ?_ ?_
 ·intro o p hp e
  rcases o with u | r2<;>exact nomatch (hp.1.symm.trans e)
 ·rintro t_8_l2 o h
  unfold slices_IndexFunc_int64_int64_l2 at h
  refine gs<|g0 j j (q (oBi j j j j)<|nl)<|us<|gs<|gc h j iDec (fun hc5 h=>?_) fun hc5 h=>?_
  ·refine Go.skip<|us<|gs<|Go.block<|gs<|g0 j j (q (oMv j j)<|q (oAsI j j)<|nl)<|us<|gs<|?_
   obtain ⟨x14,hx14,h⟩:=bs h
   obtain ⟨x16,hx16,h⟩:=bs h
   refine g0 j j (q (oMv j j)<|q (oMv j j)<|q (oMv j j)<|q (oIAI j hx14 sF28 j j)<|q (oLd (cs:=[.im 2 _]) j tF2 j j)<|q (oCa (xs:=[.v false [.im 2 _],.v false [.im 2 _]]) (vs:=[(false,[.im 0 _])]) (v:=.v false [.im 0 _]) (L_impl_sides__held_c1 hx16) (.inr ⟨_,_,j,j⟩) j kF211_2_0 j (ppC j (ppC j pp0)) j j pb0 j j j)<|nl)<|us<|gc h j iR (fun hc6 h=>?_) fun hc6 h=>?_
   ·refine gs<|g0 j j (q (oMv j j)<|q (oAsI j j)<|nl)<|us<|Go.ret (Unw.ret ?_)
    cases h
    exact ⟨j,(fo rF98 j)⟩
   ·refine Go.skip<|Unw.blk<|us<|g0 j j (q (oBi j j j j)<|q (oMv j j)<|nl)<|Unw.nil<|?_
    cases h
    exact ⟨j,(by kernel_rfl)⟩
  ·refine Go.exit<|ux<|Unw.nil<|?_
   cases h
   exact ⟨j,(by kernel_rfl)⟩
 ·rintro ⟨e,st⟩ hp
  rcases o with u | r2
  ·dsimp only at h
   obtain ⟨he,hst⟩:=hp
   obtain rfl:e= .exit 0:=he
   refine Unw.blkx<|us<|gs<|g2 c98 j j hst (q (oAsI j j)<|nl)<|us<|Go.ret (Unw.ret ?_)
   cases h
   exact fr rF98 j
  ·dsimp only at h
   obtain ⟨he,hfin⟩:=hp
   obtain rfl:e= .ret:=he
   cases h
   exact Unw.ret (Fin_ret hfin)
theorem L_slices_ContainsFunc_int64_int64_211 {s_0:(List Int)} {fc1_0_0:(List Int)} {r:Bool} (h:slices_ContainsFunc_int64_int64 s_0 (fun b0=>impl_sides__held_c1 b0 fc1_0_0)=some r):FX 46 [.im 2 false [W 1 eI s_0],.im 2 false [.clo 211 [.cp [W 1 eI fc1_0_0] 0]]] (B0 [(false,[.im 0 (V r)])]):=by
 unfold slices_ContainsFunc_int64_int64 at h
 refine gn 9 Try.func46 rfl ?_
 refine gs<|g0 j j (q (oAsI j j)<|nl)<|us<|gs<|?_
 obtain ⟨x7,hx7,h⟩:=bs h
 refine g0 j j (q (oMv j j)<|q (oMv j j)<|q (oCa (xs:=[.v false [.im 2 _],.v false [.im 2 _]]) (vs:=[(false,[.im 0 _])]) (v:=.v false [.im 0 _]) (L_slices_IndexFunc_int64_int64_211 hx7) (.inl j) j kF98_28_86 j (ppC j (ppC j pp0)) j j pb0 j j j)<|q (oBi j j j j)<|q (oAsI j j)<|nl)<|us<|Go.ret (Unw.ret ?_)
 cases h
 exact fr rF46 j
theorem L_impl_sides_held {s_0:S_sides} {placed_1:(List Int)} {k_2:Int} {r:Bool} (h:impl_sides_held s_0 placed_1 k_2=some r):FX 208 [.im 2 true (u_S_sides s_0),.im 2 false [W 1 eI placed_1],.im 2 false [I k_2]] (B0 [(false,[.im 0 (V r)])]):=by
 unfold impl_sides_held at h
 refine gn 19 Try.func208 rfl ?_
 refine gs<|g0 j j (q (oBx j tF83 j (tkI (tkI tk0)))<|q (oBx j tF28 j (tkI tk0))<|q (oAsI j j)<|nl)<|us<|gs<|?_
 obtain ⟨t_6_m1,hm2,h⟩:=bs h
 refine gX c208 j j j (mk [(6,bv t_6_m1)] []) ?_ ?_
 ·refine xq (oLd (cs:=[.im 2 _]) j tF28 j j)<|xq (oLnI j j uF28 j)<|xq (oBi j j j j)<|xq (oMv j j)<|?_
  refine ic hm2 (fun hc1 hm2=>?_) fun hc1 hm2=>?_
  ·cases hm2
   exact xsgF j j (iEq.2 hc1) j<|xsgF j j (iEq.2 hc1) j<|xsgF j j (iEq.2 hc1) j<|xsgF j j (iEq.2 hc1) j<|xsgF j j (iEq.2 hc1) j<|xsgF j j (iEq.2 hc1) j<|xsgF j j (iEq.2 hc1) j<|xq (oPkT j j (iEq.2 hc1) j)<|xq (oAsI j j)<|xn
  ·obtain ⟨x14,hx14,hm2⟩:=bs hm2
   obtain ⟨x17,hx17,hm2⟩:=bs hm2
   cases hm2
   exact xqT j j (byF iEq hc1) (oFA (r':=.mp 3 0 0) j fF83_0 j j)<|xqT j j (byF iEq hc1) (oLd (cs:=[.im 2 _]) j tF80 j j)<|xqT j j (byF iEq hc1) (oMv j j)<|xqT j j (byF iEq hc1) (oIAI j hx14 sF80 j j)<|xqT j j (byF iEq hc1) (oLd (cs:=[.im 2 _]) j tF28 j j)<|xqT j j (byF iEq hc1) (oMF (rs:=[.mp 4 0 0]) j j)<|xqT j j (byF iEq hc1) (oCa (xs:=[.v false [.im 2 _],.fn 211 [.mp 4 0 0]]) (vs:=[(false,[.im 0 _])]) (v:=.v false [.im 0 _]) (L_slices_ContainsFunc_int64_int64_211 hx17) (.inl j) j kF46_28_86 j (ppC j (ppC j pp0)) j j pb0 j j j)<|xq (oPkF j j (byF iEq hc1) j)<|xq (oAsI j j)<|xn
 ·refine us<|Go.ret (Unw.ret ?_)
  cases h
  exact fr rF208 j
theorem L_impl_sides__trapped_c1 {m_0:Int} {cap0_0:(List Int)} {r:Bool} (h:impl_sides__trapped_c1 m_0 cap0_0=some r):FX 105 [.im 2 false [I m_0],.im 2 false [.cp [W 1 eI cap0_0] 0]] (B0 [(false,[.im 0 (V r)])]):=by
 unfold impl_sides__trapped_c1 at h
 refine gn 8 Try.func105 rfl ?_
 refine gs<|g0 j j (q (oAsI j j)<|nl)<|us<|gs<|?_
 obtain ⟨x6,hx6,h⟩:=bs h
 refine g0 j j (q (oLd (cs:=[.im 2 _]) j tF28 j j)<|q (oMv j j)<|q (oCa (xs:=[.v false [.im 2 _],.v false [.im 2 _]]) (vs:=[(false,[.im 0 _])]) (v:=.v false [.im 0 _]) (L_slices_Contains_int64_int64 hx6) (.inl j) j kF45_28_2 j (ppC j (ppC j pp0)) j j pb0 j j j)<|q (oUn j j j)<|q (oAsI j j)<|nl)<|us<|Go.ret (Unw.ret ?_)
 cases h
 exact fr rF105 j
theorem L_slices_IndexFunc_int64_int64_105 {s_0:(List Int)} {fc1_0_0:(List Int)} {r:Int} (h:slices_IndexFunc_int64_int64 s_0 (fun b0=>impl_sides__trapped_c1 b0 fc1_0_0)=some r):FX 98 [.im 2 false [W 1 eI s_0],.im 2 false [.clo 105 [.cp [W 1 eI fc1_0_0] 0]]] (B0 [(false,[.im 0 (I r)])]):=by
 unfold slices_IndexFunc_int64_int64 at h
 refine gn 19 Try.func98 rfl ?_
 refine gs<|g0 j j (q (oAsI j j)<|nl)<|us<|gs<|gs<|g0 j j (q (oMv j j)<|q (oLnI j j uF28 j)<|q (oMv j j)<|nl)<|us<|Go.block<|?_
 obtain ⟨o,hl,h⟩:=bs h
 refine gl c98 j _ (fun (t_8_l2:Int)=>mk [(0,D 2 (W 1 eI s_0)),(1,D 2 (.clo 105 [.cp [W 1 eI fc1_0_0] 0])),(7,iv (s_0.length:Int)),(8,iv t_8_l2)] []) (fun (o:(Unit ⊕ Int)) (p:Ex×St)=>match o with | (.inl _)=>p.1= .exit 0∧p.2.norm ([],[])=mk [] [] | (.inr r2)=>p.1= .ret∧fin Try.prog cfg 98 Try.f98 [.im 2 false [W 1 eI s_0],.im 2 false [.clo 105 [.cp [W 1 eI fc1_0_0] 0]]] p.2=some (B0 [(false,[.im 0 (I r2)])])) hl (by kernel_rfl) ?_ ?_ ?_
 ·intro o p hp e
  rcases o with u | r2<;>exact nomatch (hp.1.symm.trans e)
 ·rintro t_8_l2 o h
  unfold slices_IndexFunc_int64_int64_l2 at h
  refine gs<|g0 j j (q (oBi j j j j)<|nl)<|us<|gs<|gc h j iDec (fun hc5 h=>?_) fun hc5 h=>?_
  ·refine Go.skip<|us<|gs<|Go.block<|gs<|g0 j j (q (oMv j j)<|q (oAsI j j)<|nl)<|us<|gs<|?_
   obtain ⟨x14,hx14,h⟩:=bs h
   obtain ⟨x16,hx16,h⟩:=bs h
   refine g0 j j (q (oMv j j)<|q (oMv j j)<|q (oMv j j)<|q (oIAI j hx14 sF28 j j)<|q (oLd (cs:=[.im 2 _]) j tF2 j j)<|q (oCa (xs:=[.v false [.im 2 _],.v false [.im 2 _]]) (vs:=[(false,[.im 0 _])]) (v:=.v false [.im 0 _]) (L_impl_sides__trapped_c1 hx16) (.inr ⟨_,_,j,j⟩) j kF105_2_0 j (ppC j (ppC j pp0)) j j pb0 j j j)<|nl)<|us<|gc h j iR (fun hc6 h=>?_) fun hc6 h=>?_
   ·refine gs<|g0 j j (q (oMv j j)<|q (oAsI j j)<|nl)<|us<|Go.ret (Unw.ret ?_)
    cases h
    exact ⟨j,(fo rF98 j)⟩
   ·refine Go.skip<|Unw.blk<|us<|g0 j j (q (oBi j j j j)<|q (oMv j j)<|nl)<|Unw.nil<|?_
    cases h
    exact ⟨j,(by kernel_rfl)⟩
  ·refine Go.exit<|ux<|Unw.nil<|?_
   cases h
   exact ⟨j,(by kernel_rfl)⟩
 ·rintro ⟨e,st⟩ hp
  rcases o with u | r2
  ·dsimp only at h
   obtain ⟨he,hst⟩:=hp
   obtain rfl:e= .exit 0:=he
   refine Unw.blkx<|us<|gs<|g2 c98 j j hst (q (oAsI j j)<|nl)<|us<|Go.ret (Unw.ret ?_)
   cases h
   exact fr rF98 j
  ·dsimp only at h
   obtain ⟨he,hfin⟩:=hp
   obtain rfl:e= .ret:=he
   cases h
   exact Unw.ret (Fin_ret hfin)
theorem L_slices_ContainsFunc_int64_int64_105 {s_0:(List Int)} {fc1_0_0:(List Int)} {r:Bool} (h:slices_ContainsFunc_int64_int64 s_0 (fun b0=>impl_sides__trapped_c1 b0 fc1_0_0)=some r):FX 46 [.im 2 false [W 1 eI s_0],.im 2 false [.clo 105 [.cp [W 1 eI fc1_0_0] 0]]] (B0 [(false,[.im 0 (V r)])]):=by
 unfold slices_ContainsFunc_int64_int64 at h
 refine gn 9 Try.func46 rfl ?_
 refine gs<|g0 j j (q (oAsI j j)<|nl)<|us<|gs<|?_
 obtain ⟨x7,hx7,h⟩:=bs h
 refine g0 j j (q (oMv j j)<|q (oMv j j)<|q (oCa (xs:=[.v false [.im 2 _],.v false [.im 2 _]]) (vs:=[(false,[.im 0 _])]) (v:=.v false [.im 0 _]) (L_slices_IndexFunc_int64_int64_105 hx7) (.inl j) j kF98_28_86 j (ppC j (ppC j pp0)) j j pb0 j j j)<|q (oBi j j j j)<|q (oAsI j j)<|nl)<|us<|Go.ret (Unw.ret ?_)
 cases h
 exact fr rF46 j
theorem L_impl_sides_trapped {s_0:S_sides} {placed_1:(List Int)} {k_2:Int} {r:Bool} (h:impl_sides_trapped s_0 placed_1 k_2=some r):FX 52 [.im 2 true (u_S_sides s_0),.im 2 false [W 1 eI placed_1],.im 2 false [I k_2]] (B0 [(false,[.im 0 (V r)])]):=by
 unfold impl_sides_trapped at h
 refine gn 23 Try.func52 rfl ?_
 refine gs<|g0 j j (q (oBx j tF83 j (tkI (tkI tk0)))<|q (oBx j tF28 j (tkI tk0))<|q (oAsI j j)<|nl)<|us<|gs<|?_
 obtain ⟨x10,hx10,h⟩:=bs h
 obtain ⟨t_6_m1,hm2,h⟩:=bs h
 refine gX c52 j j j (mk [(6,bv t_6_m1)] []) ?_ ?_
 ·refine xq (oFA (r':=.mp 3 0 1) j fF83_1 j j)<|xq (oLd (cs:=[.im 2 _]) j tF81 j j)<|xq (oMv j j)<|xq (oIAI j hx10 sF81 j j)<|xq (oLd (cs:=[.im 2 _]) j tF4 j j)<|xq (oUn j j j)<|xq (oMv j j)<|?_
  refine ic hm2 (fun hc1 hm2=>?_) fun hc1 hm2=>?_
  ·cases hm2
   exact xsgF j j (nF (iR.2 hc1)) j<|xsgF j j (nF (iR.2 hc1)) j<|xsgF j j (nF (iR.2 hc1)) j<|xsgF j j (nF (iR.2 hc1)) j<|xsgF j j (nF (iR.2 hc1)) j<|xsgF j j (nF (iR.2 hc1)) j<|xsgF j j (nF (iR.2 hc1)) j<|xsgF j j (nF (iR.2 hc1)) j<|xq (oPkF j j (nF (iR.2 hc1)) j)<|xq (oAsI j j)<|xn
  ·obtain ⟨x17,hx17,hm2⟩:=bs hm2
   obtain ⟨x20,hx20,hm2⟩:=bs hm2
   cases hm2
   exact xqT j j (nT (byF iR hc1)) (oFA (r':=.mp 3 0 0) j fF83_0 j j)<|xqT j j (nT (byF iR hc1)) (oLd (cs:=[.im 2 _]) j tF80 j j)<|xqT j j (nT (byF iR hc1)) (oMv j j)<|xqT j j (nT (byF iR hc1)) (oIAI j hx17 sF80 j j)<|xqT j j (nT (byF iR hc1)) (oLd (cs:=[.im 2 _]) j tF28 j j)<|xqT j j (nT (byF iR hc1)) (oMF (rs:=[.mp 4 0 0]) j j)<|xqT j j (nT (byF iR hc1)) (oCa (xs:=[.v false [.im 2 _],.fn 105 [.mp 4 0 0]]) (vs:=[(false,[.im 0 _])]) (v:=.v false [.im 0 _]) (L_slices_ContainsFunc_int64_int64_105 hx20) (.inl j) j kF46_28_86 j (ppC j (ppC j pp0)) j j pb0 j j j)<|xqT j j (nT (byF iR hc1)) (oUn j j j)<|xq (oPkT j j (nT (byF iR hc1)) j)<|xq (oAsI j j)<|xn
 ·refine us<|Go.ret (Unw.ret ?_)
  cases h
  exact fr rF52 j
theorem L_impl_sides_fault {s_0:S_sides} {placed_1:(List Int)} {k_2:Int} {r:Int} (h:impl_sides_fault s_0 placed_1 k_2=some r):FX 194 [.im 2 true (u_S_sides s_0),.im 2 false [W 1 eI placed_1],.im 2 false [I k_2]] (B0 [(false,[.im 0 (I r)])]):=by
 unfold impl_sides_fault at h
 refine gn 18 Try.func194 rfl ?_
 refine gs<|g0 j j (q (oBx j tF83 j (tkI (tkI tk0)))<|q (oAsI j j)<|nl)<|us<|gs<|Go.block<|gs<|?_
 obtain ⟨x11,hx11,h⟩:=bs h
 refine g0 j j (q (oLd (cs:=[.im 2 _,.im 2 _]) j tF83 j j)<|q (oMv j j)<|q (oMv j j)<|q (oCa (xs:=[.v true [.im 2 _,.im 2 _],.v false [.im 2 _],.v false [.im 2 _]]) (vs:=[(false,[.im 0 _])]) (v:=.v false [.im 0 _]) (L_impl_sides_held hx11) (.inl j) j kF208_83_28_2 j (ppC j (ppC j (ppC j pp0))) j j pb0 j j j)<|q (oUn j j j)<|q (oAsI j j)<|nl)<|us<|?_
 by_cases hc1:x11=true
 ·rw [if_pos hc1] at h
  refine gF j (nF (iR.2 hc1))<|gs<|?_
  obtain ⟨x17,hx17,h⟩:=bs h
  refine g0 j j (q (oLd (cs:=[.im 2 _,.im 2 _]) j tF83 j j)<|q (oMv j j)<|q (oMv j j)<|q (oCa (xs:=[.v true [.im 2 _,.im 2 _],.v false [.im 2 _],.v false [.im 2 _]]) (vs:=[(false,[.im 0 _])]) (v:=.v false [.im 0 _]) (L_impl_sides_trapped hx17) (.inl j) j kF52_83_28_2 j (ppC j (ppC j (ppC j pp0))) j j pb0 j j j)<|q (oAsI j j)<|nl)<|us<|gc h j iR (fun hc2 h=>?_) fun hc2 h=>?_
  ·refine gs<|g0 j j (q (oAsI j j)<|nl)<|us<|Go.ret (Unw.ret ?_)
   cases h
   exact fr rF194 j
  ·refine Go.skip<|Unw.blk<|us<|gs<|g0 j j (q (oAsI j j)<|nl)<|us<|Go.ret (Unw.ret ?_)
   cases h
   exact fr rF194 j
 ·rw [if_neg hc1] at h
  refine gT j (nT (byF iR hc1))<|gs<|g0 j j (q (oAsI j j)<|nl)<|us<|Go.ret (Unw.ret ?_)
  cases h
  exact fr rF194 j
theorem L_impl_sides_next {s_0:S_sides} {placed_1:(List Int)} {r:(List Int)} (h:impl_sides_next s_0 placed_1=some r):FX 157 [.im 2 true (u_S_sides s_0),.im 2 false [W 1 eI placed_1]] (B0 [(false,[.ow 0 1 (List.map eI r)])]):=by
 unfold impl_sides_next at h
 refine gn 31 Try.func157 rfl ?_
 refine gs<|g0 j j (q (oBx j tF83 j (tkI (tkI tk0)))<|q (oAsN j j eF28)<|nl)<|us<|gs<|g0 j j (q (oBS (es:=List.map eI ([]:List Int)) j sF28 j pt0 (flat0 j fun _=>j))<|q (oAsO j j j j j)<|nl)<|us<|gs<|gs<|g0 j j (q (oFA (r':=.mp 2 0 0) j fF83_0 j j)<|q (oLd (cs:=[.im 2 _]) j tF80 j j)<|q (oLnI j j uF80 j)<|q (oMv j j)<|nl)<|us<|Go.block<|?_
 obtain ⟨o,hl,h⟩:=bs h
 refine gl c157 j _ (fun (s:(Int×(List Int)))=>match s with | (t_11_l3,out_o5_l3)=>mk [(1,D 2 (W 1 eI placed_1)),(2,M 2),(5,H 5 0),(10,iv (s_0.near.length:Int)),(11,iv t_11_l3)] [(2,Oa (G 2 (u_S_sides s_0))),(5,Oc [Z (W 1 eI out_o5_l3)])]) (fun (out_o5_e0_3:(List Int)) (p:Ex×St)=>p.1= .exit 0∧p.2.norm ([5],[5])=mk [(5,H 5 0)] [(5,Oc [Z (W 1 eI out_o5_e0_3)])]) hl (by kernel_rfl) ?_ ?_ ?_
 ·intro o p hp e
  exact nomatch (hp.1.symm.trans e)
 ·rintro ⟨t_11_l3,out_o5_l3⟩ o h
  unfold impl_sides_next_l3 at h
  dsimp only at h
  refine gs<|g0 j j (q (oBi j j j j)<|nl)<|us<|gs<|gc h j iDec (fun hc9 h=>?_) fun hc9 h=>?_
  ·refine Go.skip<|us<|gs<|Go.join (fun st=>∃out_o5_r7,impl_sides_next_k7 t_11_l3 out_o5_r7=some o∧st.norm ([1,2,5,10,11],[2,5])=mk [(1,D 2 (W 1 eI placed_1)),(2,M 2),(5,H 5 0),(10,iv (s_0.near.length:Int)),(11,iv t_11_l3)] [(2,Oa (G 2 (u_S_sides s_0))),(5,Oc [Z (W 1 eI out_o5_r7)])]) ?_ ?_
   ·rintro st ⟨out_o5_r7,h,hst⟩
    unfold impl_sides_next_k7 at h
    refine us<|g2 c157 j j hst (q (oBi j j j j)<|q (oMv j j)<|nl)<|Unw.nil<|?_
    cases h
    exact ⟨j,(by kernel_rfl)⟩
   ·intro K13
    refine Go.block<|gs<|g0 j j (q (oMv j j)<|q (oAsI j j)<|nl)<|us<|gs<|?_
    obtain ⟨x16,hx16,h⟩:=bs h
    obtain ⟨t_24_m5,hm16,h⟩:=bs h
    refine gX c157 j j j (mk [(1,D 2 (W 1 eI placed_1)),(2,M 2),(5,H 5 0),(6,iv t_11_l3),(10,iv (s_0.near.length:Int)),(11,iv t_11_l3),(24,bv t_24_m5)] [(2,Oa (G 2 (u_S_sides s_0))),(5,Oc [Z (W 1 eI out_o5_l3)])]) ?_ ?_
    ·refine xq (oMv j j)<|xq (oMv j j)<|xq (oCa (xs:=[.v false [.im 2 _],.v false [.im 0 _]]) (vs:=[(false,[.im 0 _])]) (v:=.v false [.im 0 _]) (L_slices_Contains_int64_int64 hx16) (.inl j) j kF45_28_2 j (ppC j (ppC j pp0)) j j pb0 j j j)<|xq (oUn j j j)<|xq (oMv j j)<|?_
     refine ic hm16 (fun hc14 hm16=>?_) fun hc14 hm16=>?_
     ·cases hm16
      exact xsgF j j (nF (iR.2 hc14)) j<|xsgF j j (nF (iR.2 hc14)) j<|xsgF j j (nF (iR.2 hc14)) j<|xsgF j j (nF (iR.2 hc14)) j<|xsgF j j (nF (iR.2 hc14)) j<|xq (oPkF j j (nF (iR.2 hc14)) j)<|xn
     ·obtain ⟨x22,hx22,hm16⟩:=bs hm16
      cases hm16
      exact xqT j j (nT (byF iR hc14)) (oLd (cs:=[.im 2 _,.im 2 _]) j tF83 j j)<|xqT j j (nT (byF iR hc14)) (oMv j j)<|xqT j j (nT (byF iR hc14)) (oMv j j)<|xqT j j (nT (byF iR hc14)) (oCa (xs:=[.v true [.im 2 _,.im 2 _],.v false [.im 2 _],.v false [.im 0 _]]) (vs:=[(false,[.im 0 _])]) (v:=.v false [.im 0 _]) (L_impl_sides_fault hx22) (.inl j) j kF194_83_28_2 j (ppC j (ppC j (ppC j pp0))) j j pb0 j j j)<|xqT j j (nT (byF iR hc14)) (oBi j j j j)<|xq (oPkT j j (nT (byF iR hc14)) j)<|xn
    ·refine us<|gc h j iR (fun hc15 h=>?_) fun hc15 h=>?_
     ·obtain ⟨x28,hx28,h⟩:=bs h
      exact g0 j j (q (oMv j j)<|q (oMv j j)<|q (oBS (es:=List.map eI ([t_11_l3]:List Int)) j sF28 j (ptC j (fxI fx0) j pt0) (flat0 j fun _=>j))<|q (oApO (en:=eI) (M:=([t_11_l3]:List Int)) j hx28 j sF28 j j uF28 (.inl ⟨_,j⟩) j j j j (el_own j j) (flat0 j fun _=>j))<|q (oAsO j j j j j)<|nl)<|Unw.blk<|K13 _ ⟨x28,h,(by kernel_rfl)⟩
     ·exact Go.skip<|Unw.blk<|K13 _ ⟨out_o5_l3,h,(by kernel_rfl)⟩
  ·refine Go.exit<|ux<|Unw.nil<|?_
   cases h
   exact ⟨j,(by kernel_rfl)⟩
 ·rintro ⟨e,st⟩ hp
  obtain ⟨out_o5_e0_3,rfl⟩:∃y,y=o:=⟨o,rfl⟩
  obtain ⟨he,hst⟩:=hp
  obtain rfl:e= .exit 0:=he
  refine Unw.blkx<|us<|gs<|g2 c157 j j hst (q (oMv j j)<|q (oAsO j j j j j)<|nl)<|us<|Go.ret (Unw.ret ?_)
  cases h
  exact fr rF157 j
theorem L_impl_assemblySearch_run_F {self:(S_assemblySearch×(List Int))→Option (Bool×S_assemblySearch)} (ih:∀{s_0:S_assemblySearch} {order_1:(List Int)} {r:(Bool×S_assemblySearch)},self (s_0,order_1)=some r→FX 103 [.ptr true [(.imm,W 1 (eL 1 eI) s_0.sides.near),(.imm,W 1 eB s_0.sides.border),(.imm,I s_0.left),(.imm,I s_0.found),(.sh,W 1 eI s_0.first),(.imm,V s_0.one)],.mv 1 (List.map eI order_1)] ([(false,[.im 0 (V r.1)])],[.ptr true [(.imm,W 1 (eL 1 eI) r.2.sides.near),(.imm,W 1 eB r.2.sides.border),(.imm,I r.2.left),(.imm,I r.2.found),(.sh,W 1 eI r.2.first),(.imm,V r.2.one)]])) {s_0:S_assemblySearch} {order_1:(List Int)} {r:(Bool×S_assemblySearch)} (h:impl_assemblySearch_run_F self s_0 order_1=some r):FX 103 [.ptr true [(.imm,W 1 (eL 1 eI) s_0.sides.near),(.imm,W 1 eB s_0.sides.border),(.imm,I s_0.left),(.imm,I s_0.found),(.sh,W 1 eI s_0.first),(.imm,V s_0.one)],.mv 1 (List.map eI order_1)] ([(false,[.im 0 (V r.1)])],[.ptr true [(.imm,W 1 (eL 1 eI) r.2.sides.near),(.imm,W 1 eB r.2.sides.border),(.imm,I r.2.left),(.imm,I r.2.found),(.sh,W 1 eI r.2.first),(.imm,V r.2.one)]]):=by
 unfold impl_assemblySearch_run_F at h
 refine FL_goS (A:=[(0,M 0),(1,H 1 0)]) (B:=[(0,Od [Ct 1 (W 1 (eL 1 eI) s_0.sides.near),Ct 1 (W 1 eB s_0.sides.border),C (I s_0.left),C (I s_0.found),Z (W 1 eI s_0.first),C (V s_0.one)]),(1,Oc [Z (W 1 eI order_1)])]) (nt:=67) rfl rfl Try.func103 rfl rfl rfl rfl ?_
 refine gs<|g0 j j (q (oAsI j j)<|nl)<|us<|gs<|g0 j j (q (oMv j j)<|q (oNl j j j)<|q (oFA (r':=.mp 0 0 2) j fF93_1 j j)<|q (oLd (cs:=[.im 0 _]) j tF2 j j)<|q (oBi j j j j)<|q (oNl j j j)<|q (oFA (r':=.mp 0 0 2) j fF93_1 j j)<|q (oSt tF2 j j j (tkI tk0) j j j)<|nl)<|us<|gs<|gs<|g1 j j (mk [(0,M 0),(1,H 1 0)] [(0,Od [Ct 1 (W 1 (eL 1 eI) s_0.sides.near),Ct 1 (W 1 eB s_0.sides.border),C (I (w64 (s_0.left - 1))),C (I s_0.found),Z (W 1 eI s_0.first),C (V s_0.one)]),(1,Oc [Z (W 1 eI order_1)])]) (q (oMv j j)<|q (oNl j j j)<|q (oFA (r':=.mp 0 0 2) j fF93_1 j j)<|q (oLd (cs:=[.im 0 _]) j tF2 j j)<|q (oBi j j j j)<|nl)<|us<|gc h j iDec (fun hc1 h=>?_) fun hc1 h=>?_
 ·refine gs<|g0 j j (q (oAsI j j)<|nl)<|us<|Go.ret (Unw.ret ?_)
  cases h
  exact fr rF103 j
 ·refine Go.skip<|us<|gs<|gs<|g0 j j (q (oMv j j)<|q (oLnO j j uF28 j j j (fun e=>nomatch e))<|q (oMv j j)<|q (oNl j j j)<|q (oFA (r':=.mp 0 0 0) j fF93_0 j j)<|q (oFA (r':=.mp 0 0 0) j fF83_0 j j)<|q (oLd (cs:=[.im 1 _]) j tF80 j j)<|q (oLnI j j uF80 j)<|q (oBi j j j j)<|nl)<|us<|gc h j iEq (fun hc2 h=>?_) fun hc2 h=>?_
  ·refine gs<|gs<|g0 j j (q (oMv j j)<|q (oNl j j j)<|q (oFA (r':=.mp 0 0 3) j fF93_2 j j)<|q (oLd (cs:=[.im 0 _]) j tF2 j j)<|q (oBi j j j j)<|nl)<|us<|Go.join (fun st=>∃s_o0_4_r7,impl_assemblySearch_run_k7 self s_0 s_o0_4_r7=some r∧st.norm ([0],[0])=mk [(0,M 0)] [(0,Od [Ct 1 (W 1 (eL 1 eI) s_0.sides.near),Ct 1 (W 1 eB s_0.sides.border),C (I (w64 (s_0.left - 1))),C (I s_0.found),Z (W 1 eI s_o0_4_r7),C (V s_0.one)])]) ?_ ?_
   ·rintro st ⟨s_o0_4_r7,h,hst⟩
    unfold impl_assemblySearch_run_k7 at h
    refine us<|gs<|g2 c103 j j hst (q (oMv j j)<|q (oNl j j j)<|q (oFA (r':=.mp 0 0 3) j fF93_2 j j)<|q (oLd (cs:=[.im 0 _]) j tF2 j j)<|q (oBi j j j j)<|q (oNl j j j)<|q (oFA (r':=.mp 0 0 3) j fF93_2 j j)<|q (oSt tF2 j j j (tkI tk0) j j j)<|nl)<|us<|gs<|g1 j j (mk [(0,M 0)] [(0,Od [Ct 1 (W 1 (eL 1 eI) s_0.sides.near),Ct 1 (W 1 eB s_0.sides.border),C (I (w64 (s_0.left - 1))),C (I (w64 (s_0.found+1))),Z (W 1 eI s_o0_4_r7),C (V s_0.one)])]) (q (oMv j j)<|q (oNl j j j)<|q (oFA (r':=.mp 0 0 5) j fF93_4 j j)<|q (oLd (cs:=[.im 0 _]) j tF4 j j)<|q (oAsI j j)<|nl)<|us<|Go.ret (Unw.ret ?_)
    cases h
    exact fr rF103 j
   ·intro K4
    refine gc h j iEq (fun hc5 h=>?_) fun hc5 h=>?_
    ·exact g0 j j (q (oMv j j)<|q (oMv j j)<|q (oNl j j j)<|q (oFA (r':=.mp 0 0 4) j fF93_3 j j)<|q (oSt tF28 j j j (tkO j j tk0) j j j)<|nl)<|K4 _ ⟨order_1,h,(by kernel_rfl)⟩
    ·exact Go.skip<|K4 _ ⟨s_0.first,h,(by kernel_rfl)⟩
  ·refine Go.skip<|us<|gs<|gs<|?_
   obtain ⟨x53,hx53,h⟩:=bs h
   refine g0 j j (q (oMv j j)<|q (oNl j j j)<|q (oFA (r':=.mp 0 0 0) j fF93_0 j j)<|q (oLd (cs:=[.im 1 _,.im 1 _]) j tF83 j j)<|q (oMv j j)<|q (oCr (xs:=[.v true [.im 1 _,.im 1 _],.v false [.own 1 0 0]]) (vs:=[(false,[.own 53 0 0])]) (v:=.v false [.own 53 0 0]) (c:=⟨.sh,0,_⟩) (cs:=[]) (L_impl_sides_next hx53) (.inl j) j kF157_83_28 j (ppC j (ppC j pp0)) j j pb0 j j j)<|q (oLnO j j uF28 j j j (fun e=>nomatch e))<|q (oMv j j)<|nl)<|us<|Go.block<|?_
   obtain ⟨o,hl,h⟩:=bs h
   refine gl c103 j _ (fun (s:(Int×(List (List Int))×(List Bool)×Int×Int×(List Int)×Bool))=>match s with | (t_55_l10,s_o0_0_l10,s_o0_1_l10,s_o0_2_l10,s_o0_3_l10,s_o0_4_l10,s_o0_5_l10)=>mk [(0,M 0),(1,H 1 0),(53,H 53 0),(54,iv (x53.length:Int)),(55,iv t_55_l10)] [(0,Od [Ct 1 (W 1 (eL 1 eI) s_o0_0_l10),Ct 1 (W 1 eB s_o0_1_l10),C (I s_o0_2_l10),C (I s_o0_3_l10),Z (W 1 eI s_o0_4_l10),C (V s_o0_5_l10)]),(1,Oc [Z (W 1 eI order_1)]),(53,Oc [Z (W 1 eI x53)])]) (fun (o:(((List (List Int))×(List Bool)×Int×Int×(List Int)×Bool) ⊕ (Bool×S_assemblySearch))) (p:Ex×St)=>match o with | (.inl (s_o0_0_e0_10,s_o0_1_e0_10,s_o0_2_e0_10,s_o0_3_e0_10,s_o0_4_e0_10,s_o0_5_e0_10))=>p.1= .exit 0∧p.2.norm ([],[0])=mk [] [(0,Od [Ct 1 (W 1 (eL 1 eI) s_o0_0_e0_10),Ct 1 (W 1 eB s_o0_1_e0_10),C (I s_o0_2_e0_10),C (I s_o0_3_e0_10),Z (W 1 eI s_o0_4_e0_10),C (V s_o0_5_e0_10)])] | (.inr r2)=>p.1= .ret∧fin Try.prog cfg 103 Try.f103 [.ptr true [(.imm,W 1 (eL 1 eI) s_0.sides.near),(.imm,W 1 eB s_0.sides.border),(.imm,I s_0.left),(.imm,I s_0.found),(.sh,W 1 eI s_0.first),(.imm,V s_0.one)],.mv 1 (List.map eI order_1)] p.2=some ([(false,[.im 0 (V r2.1)])],[.ptr true [(.imm,W 1 (eL 1 eI) r2.2.sides.near),(.imm,W 1 eB r2.2.sides.border),(.imm,I r2.2.left),(.imm,I r2.2.found),(.sh,W 1 eI r2.2.first),(.imm,V r2.2.one)]])) hl (by kernel_rfl) ?_ ?_ ?_
   ·intro o p hp e
    rcases o with ⟨s_o0_0_e0_10,s_o0_1_e0_10,s_o0_2_e0_10,s_o0_3_e0_10,s_o0_4_e0_10,s_o0_5_e0_10⟩ | r2<;>exact nomatch (hp.1.symm.trans e)
   ·rintro ⟨t_55_l10,s_o0_0_l10,s_o0_1_l10,s_o0_2_l10,s_o0_3_l10,s_o0_4_l10,s_o0_5_l10⟩ o h
    unfold impl_assemblySearch_run_l10 at h
    dsimp only at h
    refine gs<|g0 j j (q (oBi j j j j)<|nl)<|us<|gs<|gc h j iDec (fun hc10 h=>?_) fun hc10 h=>?_
    ·refine Go.skip<|us<|gs<|Go.block<|gs<|?_
     obtain ⟨x57,hx57,h⟩:=bs h
     refine g0 j j (q (oIAO j hx57 sF28 j j j j)<|q (oLdE (cs:=[.im 0 _]) j tF2 j j j j (rd_get hx57) j j)<|q (oAsI j j)<|nl)<|us<|gs<|?_
     obtain ⟨x61,hx61,h⟩:=bs h
     obtain ⟨x64,hx64,h⟩:=bs h
     obtain ⟨x65,hx65,h⟩:=bs h
     refine g0 j j (q (oMv j j)<|q (oMv j j)<|q (oCr (xs:=[.v false [.own 1 0 0]]) (vs:=[(false,[.own 61 0 0])]) (v:=.v false [.own 61 0 0]) (c:=⟨.sh,0,_⟩) (cs:=[]) (FL_cloneN (en:=eI) (L:=order_1) j hx61 (fun _=>j)) (.inl j) j kF119_28 j (ppC j pp0) j j pb0 j j j)<|q (oMv j j)<|q (oBS (es:=List.map eI ([x57]:List Int)) j sF28 j (ptC j (fxI fx0) j pt0) (flat0 j fun _=>j))<|q (oApO (en:=eI) (M:=([x57]:List Int)) j hx64 j sF28 j j uF28 (.inl ⟨_,j⟩) j j j j (el_own j j) (flat0 j fun _=>j))<|q (oCa (xs:=[.v false [.mp 0 0 0],.v false [.own 64 0 0]]) (vs:=[(false,[.im 0 _])]) (v:=.v false [.im 0 _]) (ih hx65) (.inl j) j kF103_89_28 j (ppPx (ob':=⟨0,0,true,true,false,true,[Ct 1 (W 1 (eL 1 eI) s_o0_0_l10),Ct 1 (W 1 eB s_o0_1_l10),C (I s_o0_2_l10),C (I s_o0_3_l10),Z (W 1 eI s_o0_4_l10),C (V s_o0_5_l10)]⟩) j j j (by kernel_rfl) (ppM (take_own j j) pp0)) j j (pbPx (ob':=⟨0,1,true,true,false,true,[⟨.imm,1,1,W 1 (eL 1 eI) x65.2.sides.near⟩,⟨.imm,1,1,W 1 eB x65.2.sides.border⟩,⟨.imm,1,0,I x65.2.left⟩,⟨.imm,1,0,I x65.2.found⟩,⟨.sh,1,0,W 1 eI x65.2.first⟩,⟨.imm,1,0,V x65.2.one⟩]⟩) j j (by kernel_rfl) pb0) j j j)<|nl)<|us<|gc h j iR (fun hc11 h=>?_) fun hc11 h=>?_
     ·refine gs<|g1 j j (mk [] [(0,Od [Ct 1 (W 1 (eL 1 eI) x65.2.sides.near),Ct 1 (W 1 eB x65.2.sides.border),C (I x65.2.left),C (I x65.2.found),Z (W 1 eI x65.2.first),C (V x65.2.one)])]) (q (oAsI j j)<|nl)<|us<|Go.ret (Unw.ret ?_)
      cases h
      exact ⟨j,(fo rF103 j)⟩
     ·refine Go.skip<|Unw.blk<|us<|g1 j j (mk [(0,M 0),(1,H 1 0),(53,H 53 0),(54,iv (x53.length:Int)),(55,iv t_55_l10)] [(0,Od [Ct 1 (W 1 (eL 1 eI) x65.2.sides.near),Ct 1 (W 1 eB x65.2.sides.border),C (I x65.2.left),C (I x65.2.found),Z (W 1 eI x65.2.first),C (V x65.2.one)]),(1,Oc [Z (W 1 eI order_1)]),(53,Oc [Z (W 1 eI x53)])]) (q (oBi j j j j)<|q (oMv j j)<|nl)<|Unw.nil<|?_
      cases h
      exact ⟨j,(by kernel_rfl)⟩
    ·refine Go.exit<|ux<|Unw.nil<|?_
     cases h
     exact ⟨j,(by kernel_rfl)⟩
   ·rintro ⟨e,st⟩ hp
    rcases o with ⟨s_o0_0_e0_10,s_o0_1_e0_10,s_o0_2_e0_10,s_o0_3_e0_10,s_o0_4_e0_10,s_o0_5_e0_10⟩ | r2
    ·dsimp only at h
     obtain ⟨he,hst⟩:=hp
     obtain rfl:e= .exit 0:=he
     refine Unw.blkx<|us<|gs<|g2 c103 j j hst (q (oAsI j j)<|nl)<|us<|Go.ret (Unw.ret ?_)
     cases h
     exact fr rF103 j
    ·dsimp only at h
     obtain ⟨he,hfin⟩:=hp
     obtain rfl:e= .ret:=he
     cases h
     exact Unw.ret (Fin_ret hfin)
theorem L_impl_assemblySearch_run {s_0:S_assemblySearch} {order_1:(List Int)} {r:(Bool×S_assemblySearch)} (h:impl_assemblySearch_run s_0 order_1=some r):FX 103 [.ptr true [(.imm,W 1 (eL 1 eI) s_0.sides.near),(.imm,W 1 eB s_0.sides.border),(.imm,I s_0.left),(.imm,I s_0.found),(.sh,W 1 eI s_0.first),(.imm,V s_0.one)],.mv 1 (List.map eI order_1)] ([(false,[.im 0 (V r.1)])],[.ptr true [(.imm,W 1 (eL 1 eI) r.2.sides.near),(.imm,W 1 eB r.2.sides.border),(.imm,I r.2.left),(.imm,I r.2.found),(.sh,W 1 eI r.2.first),(.imm,V r.2.one)]]):=by
 unfold impl_assemblySearch_run at h
 obtain ⟨n,hn⟩:=fixO_iter h
 clear h
 induction n generalizing s_0 order_1 r with
 | zero=>cases hn
 | succ n ihn=>exact L_impl_assemblySearch_run_F (self:=iterO _ n) (fun h=>ihn h) hn
theorem L_impl_searchAssemblies {d_0:S_Drawing} {budget_1:Int} {one_2:Bool} {r:((Option S_assemblySearch)×Int)} (h:impl_searchAssemblies d_0 budget_1 one_2=some r):FX 50 [.im 2 true (u_S_Drawing d_0),.im 2 false [I budget_1],.im 2 false [V one_2]] (B0 [(false,[.im 0 (eO e_S_assemblySearch r.1)]),(false,[.im 0 (I r.2)])]):=by
 unfold impl_searchAssemblies at h
 refine gn 31 Try.func50 rfl ?_
 refine gs<|g0 j j (q (oBx j tF26 j (tkI (tkI (tkI (tkI tk0)))))<|q (oAsI j j)<|q (oAsI j j)<|nl)<|us<|gs<|Go.block<|gs<|?_
 obtain ⟨x11,hx11,h⟩:=bs h
 refine g0 j j (q (oLd (cs:=[.im 0 _,.im 0 _,.im 2 _,.im 2 _]) j tF26 j j)<|q (oCa (xs:=[.v true [.im 0 _,.im 0 _,.im 2 _,.im 2 _]]) (vs:=[(false,[.im 0 _])]) (v:=.v false [.im 0 _]) (L_impl_ValidDrawing hx11) (.inl j) j kF43_26 j (ppC j pp0) j j pb0 j j j)<|q (oUn j j j)<|q (oAsI j j)<|nl)<|us<|?_
 by_cases hc1:x11=true
 ·rw [if_pos hc1] at h
  refine gF j (nF (iR.2 hc1))<|gs<|?_
  obtain ⟨x15,hx15,h⟩:=bs h
  refine g0 j j (q (oMv j j)<|q (oCa (xs:=[.v false [.im 2 _],.v false [.im 0 _],.v false [.im 0 _]]) (vs:=[(false,[.im 0 _])]) (v:=.v false [.im 0 _]) (L_impl_within hx15) (.inl j) j kF66_2_2_2 j (ppC j (ppC j (ppC j pp0))) j j pb0 j j j)<|q (oUn j j j)<|q (oAsI j j)<|nl)<|us<|?_
  by_cases hc2:x15=true
  ·rw [if_pos hc2] at h
   refine gF j (nF (iR.2 hc2))<|Go.skip<|Unw.blk<|us<|gs<|?_
   obtain ⟨x18,hx18,h⟩:=bs h
   refine g0 j j (q (oLd (cs:=[.im 0 _,.im 0 _,.im 2 _,.im 2 _]) j tF26 j j)<|q (oCr (xs:=[.v true [.im 0 _,.im 0 _,.im 2 _,.im 2 _]]) (vs:=[(true,[.im 0 _,.own 18 0 0])]) (v:=.v true [.im 0 _,.own 18 0 0]) (c:=⟨.sh,0,_⟩) (cs:=[]) (L_impl_sidesOf hx18) (.inl j) j kF44_26 j (ppC j pp0) j j pb0 j j j)<|q (oMv j j)<|q (oMv j j)<|q (oBu (cs:=[.im 0 _,.own 18 0 0,.im 2 _,.im 0 _,.nil,.im 2 _]) j bF93 j)<|q (oBx j tF93 j (tkI (tkO j j (tkI (tkI (tkN (tkI tk0)))))))<|q (oAsP j j)<|nl)<|us<|gs<|?_
   obtain ⟨x24,hx24,h⟩:=bs h
   refine g1 j j (mk [(8,M 22)] [(22,Oa [C (W 1 (eL 1 eI) x18.near),Z (W 1 eB x18.border),C (I budget_1),C (I 0),Z (W 1 eI ([]:List Int)),C (V one_2)])]) (q (oMv j j)<|q (oCa (xs:=[.v false [.mp 22 0 0],.v false [.nil]]) (vs:=[(false,[.im 0 _])]) (v:=.v false [.im 0 _]) (L_impl_assemblySearch_run hx24) (.inl j) j kF103_89_28 j (ppPx (ob':=⟨0,0,false,true,false,true,[C (W 1 (eL 1 eI) x18.near),C (W 1 eB x18.border),C (I budget_1),C (I 0),Z (W 1 eI ([]:List Int)),C (V one_2)]⟩) j j j (by kernel_rfl) (ppM take_nil pp0)) j j (pbPx (ob':=⟨0,1,false,true,false,true,[⟨.imm,1,0,W 1 (eL 1 eI) x24.2.sides.near⟩,⟨.imm,1,0,W 1 eB x24.2.sides.border⟩,⟨.imm,1,0,I x24.2.left⟩,⟨.imm,1,0,I x24.2.found⟩,⟨.sh,1,0,W 1 eI x24.2.first⟩,⟨.imm,1,0,V x24.2.one⟩]⟩) j j (by kernel_rfl) pb0) j j j)<|nl)<|us<|gs<|gs<|g1 j j (mk [(8,M 22)] [(22,Oa [C (W 1 (eL 1 eI) x24.2.sides.near),C (W 1 eB x24.2.sides.border),C (I x24.2.left),C (I x24.2.found),Z (W 1 eI x24.2.first),C (V x24.2.one)])]) (q (oMv j j)<|q (oNl j j j)<|q (oFA (r':=.mp 22 0 2) j fF93_1 j j)<|q (oLd (cs:=[.im 0 _]) j tF2 j j)<|q (oBi j j j j)<|nl)<|us<|gc h j iDec (fun hc3 h=>?_) fun hc3 h=>?_
   ·refine gs<|g0 j j (q (oAsI j j)<|q (oAsI j j)<|nl)<|us<|Go.ret (Unw.ret ?_)
    cases h
    exact fr rF50 j
   ·refine Go.skip<|us<|gs<|g0 j j (q (oMv j j)<|q (oAsP j j)<|q (oAsI j j)<|nl)<|us<|Go.ret (Unw.ret ?_)
    cases h
    exact fr rF50 j
  ·rw [if_neg hc2] at h
   refine gT j (nT (byF iR hc2))<|gs<|g0 j j (q (oAsI j j)<|q (oAsI j j)<|nl)<|us<|Go.ret (Unw.ret ?_)
   cases h
   exact fr rF50 j
 ·rw [if_neg hc1] at h
  refine gT j (nT (byF iR hc1))<|gs<|g0 j j (q (oAsI j j)<|q (oAsI j j)<|nl)<|us<|Go.ret (Unw.ret ?_)
  cases h
  exact fr rF50 j
theorem L_impl_FirstAssembly {d_0:S_Drawing} {budget_1:Int} {r:((List Int)×Int)} (h:impl_FirstAssembly d_0 budget_1=some r):FX 11 [.im 2 true (u_S_Drawing d_0),.im 2 false [I budget_1]] (B0 [(false,[.im 0 (W 1 eI r.1)]),(false,[.im 0 (I r.2)])]):=by
 unfold impl_FirstAssembly at h
 refine gn 30 Try.func11 rfl ?_
 refine gs<|g0 j j (sqn z11 j (oBx j tF26 j (tkI (tkI (tkI (tkI tk0)))))<|sqf z11 j (oAsN j j eF28) (frzO j j j)<|sqn z11 j (oAsI j j)<|nl)<|us<|gs<|?_
 obtain ⟨x11,hx11,h⟩:=bs h
 refine g0 j j (sqn z11 j (oLd (cs:=[.im 0 _,.im 0 _,.im 2 _,.im 2 _]) j tF26 j j)<|sqn z11 j (oMv j j)<|sqn z11 j (oCa (xs:=[.v true [.im 0 _,.im 0 _,.im 2 _,.im 2 _],.v false [.im 2 _],.v false [.im 0 _]]) (vs:=[(false,[.im 0 (eO e_S_assemblySearch x11.1)]),(false,[.im 0 (I x11.2)])]) (v:=.tup [(false,[.im 0 _]),(false,[.im 0 _])]) (L_impl_searchAssemblies hx11) (.inl j) j kF50_26_2_4 j (ppC j (ppC j (ppC j pp0))) j j pb0 j (by cases x11.1<;>kernel_rfl) j)<|sqn z11 j (oMvT j j)<|sqn z11 j (oEx j j j)<|sqn z11 j (oEx j j j)<|sqn z11 j (oAsI j j)<|sqn z11 j (oAsI j j)<|nl)<|us<|gs<|gs<|?_
 obtain ⟨t_22_m2,hm8,h⟩:=bs h
 refine gX c11 j j j (mk [(6,D 0 (eO e_S_assemblySearch x11.1)),(7,iv x11.2),(22,bv t_22_m2)] []) ?_ ?_
 ·refine ic hm8 (fun hc1 hm8=>?_) fun hc1 hm8=>?_
  ·revert hm8
   cases x11.1 with
   | none=>
    intro hm8
    cases hm8
   | some ohc2=>
    intro hm8
    cases hm8
    exact xsqn z11 rfl (oMv rfl rfl)<|xsqn z11 rfl (oBi rfl rfl rfl rfl)<|xsqn z11 rfl (oMv rfl rfl)<|xsgTn z11 rfl rfl rfl (iEq.2 hc1) (oMv rfl rfl)<|xsgTn z11 rfl rfl rfl (iEq.2 hc1) (oNl rfl rfl rfl)<|xsgTn z11 rfl rfl rfl (iEq.2 hc1) (oFA (r':=.im 0 _) rfl fF93_2 rfl rfl)<|xsgTn z11 rfl rfl rfl (iEq.2 hc1) (oLd (cs:=[.im 0 _]) rfl tF2 rfl rfl)<|xsgTn z11 rfl rfl rfl (iEq.2 hc1) (oBi rfl rfl rfl rfl)<|xsqn z11 rfl (oPkT rfl rfl (iEq.2 hc1) rfl)<|xn (by first | (cases x11.1<;>kernel_rfl) | kernel_rfl)
  ·cases hm8
   exact xsqn z11 rfl (oMv rfl rfl)<|xsqn z11 rfl (oBi rfl rfl rfl rfl)<|xsqn z11 rfl (oMv rfl rfl)<|xsgF rfl rfl (byF iEq hc1) rfl<|xsgF rfl rfl (byF iEq hc1) rfl<|xsgF rfl rfl (byF iEq hc1) rfl<|xsgF rfl rfl (byF iEq hc1) rfl<|xsgF rfl rfl (byF iEq hc1) rfl<|xsqn z11 rfl (oPkF rfl rfl (byF iEq hc1) rfl)<|xn (by first | (cases x11.1<;>kernel_rfl) | kernel_rfl)
 ·refine us<|Go.join (fun st=>∃code_7_r4,impl_FirstAssembly_k4 x11 code_7_r4=some r∧st.norm ([6,7],[])=mk [(6,D 0 (eO e_S_assemblySearch x11.1)),(7,iv code_7_r4)] []) ?_ ?_
  ·rintro st ⟨code_7_r4,h,hst⟩
   unfold impl_FirstAssembly_k4 at h
   refine us<|gs<|gs<|g2 c11 j j hst (sqn z11 j (oMv j j)<|sqn z11 j (oBi j j j j)<|nl)<|us<|gc h j iNe (fun hc4 h=>?_) fun hc4 h=>?_
   ·refine gs<|g0 j j (sqn z11 j (oMv j j)<|sqf z11 j (oAsN j j eF28) (frzO j j j)<|sqn z11 j (oAsI j j)<|nl)<|us<|Go.ret (Unw.ret ?_)
    cases h
    exact fr rF11 j
   ·refine Go.skip<|us<|gs<|?_
    revert h
    cases x11.1 with
    | none=>
     intro h
     cases h
    | some ohc5=>
     intro h
     refine g0 j j (sqn z11 j (oMv j j)<|sqn z11 j (oNl j j j)<|sqn z11 j (oFA (r':=.im 0 _) j fF93_3 j j)<|sqn z11 j (oLd (cs:=[.im 0 _]) j tF28 j j)<|sqf z11 j (oAsI j j) (frzI j)<|sqn z11 j (oAsI j j)<|nl)<|us<|Go.ret (Unw.ret ?_)
     cases h
     exact fr rF11 j
  ·intro K6
   refine gc h j iR (fun hc7 h=>?_) fun hc7 h=>?_
   ·exact g0 j j (sqn z11 j (oAsI j j)<|nl)<|K6 _ ⟨3,h,(by first | (cases x11.1<;>kernel_rfl) | kernel_rfl)⟩
   ·exact Go.skip<|K6 _ ⟨x11.2,h,(by first | (cases x11.1<;>kernel_rfl) | kernel_rfl)⟩
theorem L_laws_r8Has {list_0:(List Int)} {n_1:Int} {r:Bool} (h:laws_r8Has list_0 n_1=some r):FX 12 [.im 2 false [W 1 eI list_0],.im 2 false [I n_1]] (B0 [(false,[.im 0 (V r)])]):=by
 unfold laws_r8Has at h
 refine gn 18 Try.func12 rfl ?_
 refine gs<|g0 j j (q (oAsI j j)<|nl)<|us<|gs<|gs<|g0 j j (q (oAsI j j)<|nl)<|us<|Go.block<|?_
 obtain ⟨o,hl,h⟩:=bs h
 refine gl c12 j _ (fun (i_5_l2:Int)=>mk [(0,D 2 (W 1 eI list_0)),(1,iv n_1),(5,iv i_5_l2)] []) (fun (o:(Unit ⊕ Bool)) (p:Ex×St)=>match o with | (.inl _)=>p.1= .exit 0∧p.2.norm ([],[])=mk [] [] | (.inr r2)=>p.1= .ret∧fin Try.prog cfg 12 Try.f12 [.im 2 false [W 1 eI list_0],.im 2 false [I n_1]] p.2=some (B0 [(false,[.im 0 (V r2)])])) hl (by kernel_rfl) ?_ ?_ ?_
 ·intro o p hp e
  rcases o with u | r2<;>exact nomatch (hp.1.symm.trans e)
 ·rintro i_5_l2 o h
  unfold laws_r8Has_l2 at h
  refine gs<|gs<|g0 j j (q (oMv j j)<|q (oMv j j)<|q (oLnI j j uF28 j)<|q (oBi j j j j)<|nl)<|us<|gc h j iDec (fun hc5 h=>?_) fun hc5 h=>?_
  ·refine Go.skip<|us<|gs<|Go.block<|gs<|?_
   obtain ⟨x14,hx14,h⟩:=bs h
   refine g0 j j (q (oMv j j)<|q (oMv j j)<|q (oIAI j hx14 sF28 j j)<|q (oLd (cs:=[.im 2 _]) j tF2 j j)<|q (oMv j j)<|q (oBi j j j j)<|nl)<|us<|gc h j iEq (fun hc6 h=>?_) fun hc6 h=>?_
   ·refine gs<|g0 j j (q (oAsI j j)<|nl)<|us<|Go.ret (Unw.ret ?_)
    cases h
    exact ⟨j,(fo rF12 j)⟩
   ·refine Go.skip<|Unw.blk<|us<|g0 j j (q (oMv j j)<|q (oBi j j j j)<|q (oAsI j j)<|nl)<|Unw.nil<|?_
    cases h
    exact ⟨j,(by kernel_rfl)⟩
  ·refine Go.exit<|ux<|Unw.nil<|?_
   cases h
   exact ⟨j,(by kernel_rfl)⟩
 ·rintro ⟨e,st⟩ hp
  rcases o with u | r2
  ·dsimp only at h
   obtain ⟨he,hst⟩:=hp
   obtain rfl:e= .exit 0:=he
   refine Unw.blkx<|us<|gs<|g2 c12 j j hst (q (oAsI j j)<|nl)<|us<|Go.ret (Unw.ret ?_)
   cases h
   exact fr rF12 j
  ·dsimp only at h
   obtain ⟨he,hfin⟩:=hp
   obtain rfl:e= .ret:=he
   cases h
   exact Unw.ret (Fin_ret hfin)
theorem L_impl_isFaceOrder {list_0:(List Int)} {n_1:Int} {r:Bool} (h:impl_isFaceOrder list_0 n_1=some r):FX 104 [.im 2 false [W 1 eI list_0],.im 2 false [I n_1]] (B0 [(false,[.im 0 (V r)])]):=by
 unfold impl_isFaceOrder at h
 refine gn 27 Try.func104 rfl ?_
 refine gs<|g0 j j (q (oAsI j j)<|nl)<|us<|gs<|gs<|g0 j j (q (oMv j j)<|q (oLnI j j uF28 j)<|q (oMv j j)<|nl)<|us<|Go.block<|?_
 obtain ⟨o,hl,h⟩:=bs h
 refine gl c104 j _ (fun (t_9_l2:Int)=>mk [(0,D 2 (W 1 eI list_0)),(1,iv n_1),(7,D 2 (W 1 eI list_0)),(8,iv (list_0.length:Int)),(9,iv t_9_l2)] []) (fun (o:(Unit ⊕ Bool)) (p:Ex×St)=>match o with | (.inl _)=>p.1= .exit 0∧p.2.norm ([],[])=mk [] [] | (.inr r2)=>p.1= .ret∧fin Try.prog cfg 104 Try.f104 [.im 2 false [W 1 eI list_0],.im 2 false [I n_1]] p.2=some (B0 [(false,[.im 0 (V r2)])])) hl (by kernel_rfl) ?_ ?_ ?_
 ·intro o p hp e
  rcases o with u | r2<;>exact nomatch (hp.1.symm.trans e)
 ·rintro t_9_l2 o h
  unfold impl_isFaceOrder_l2 at h
  refine gs<|g0 j j (q (oBi j j j j)<|nl)<|us<|gs<|gc h j iDec (fun hc9 h=>?_) fun hc9 h=>?_
  ·refine Go.skip<|us<|gs<|Go.block<|gs<|?_
   obtain ⟨x12,hx12,h⟩:=bs h
   refine g0 j j (q (oMv j j)<|q (oIAI j hx12 sF28 j j)<|q (oLd (cs:=[.im 2 _]) j tF2 j j)<|q (oAsI j j)<|q (oAsI j j)<|nl)<|us<|gs<|?_
   obtain ⟨x17,hx17,h⟩:=bs h
   obtain ⟨t_25_m4,hm12,h⟩:=bs h
   refine gX c104 j j j (mk [(0,D 2 (W 1 eI list_0)),(1,iv n_1),(7,D 2 (W 1 eI list_0)),(8,iv (list_0.length:Int)),(9,iv t_9_l2),(25,bv t_25_m4)] []) ?_ ?_
   ·refine xq (oMv j j)<|xq (oMv j j)<|xq (oBi j j j j)<|xq (oCa (xs:=[.v false [.im 2 _],.v false [.im 0 _],.v false [.im 0 _]]) (vs:=[(false,[.im 0 _])]) (v:=.v false [.im 0 _]) (L_impl_within hx17) (.inl j) j kF66_2_2_2 j (ppC j (ppC j (ppC j pp0))) j j pb0 j j j)<|xq (oUn j j j)<|xq (oMv j j)<|?_
    refine ic hm12 (fun hc10 hm12=>?_) fun hc10 hm12=>?_
    ·obtain ⟨x22,hx22,hm12⟩:=bs hm12
     obtain ⟨x24,hx24,hm12⟩:=bs hm12
     cases hm12
     exact xqT j j (nF (iR.2 hc10)) (oMv j j)<|xqT j j (nF (iR.2 hc10)) (oMv j j)<|xqT j j (nF (iR.2 hc10)) (oSlI j hx22 sF28 j bn0 (bn1 j) j j)<|xqT j j (nF (iR.2 hc10)) (oMv j j)<|xqT j j (nF (iR.2 hc10)) (oCa (xs:=[.v false [.im 2 _],.v false [.im 2 _]]) (vs:=[(false,[.im 0 _])]) (v:=.v false [.im 0 _]) (L_slices_Contains_int64_int64 hx24) (.inl j) j kF45_28_2 j (ppC j (ppC j pp0)) j j pb0 j j j)<|xq (oPkF j j (nF (iR.2 hc10)) j)<|xn
    ·cases hm12
     exact xsgF j j (nT (byF iR hc10)) j<|xsgF j j (nT (byF iR hc10)) j<|xsgF j j (nT (byF iR hc10)) j<|xsgF j j (nT (byF iR hc10)) j<|xsgF j j (nT (byF iR hc10)) j<|xq (oPkT j j (nT (byF iR hc10)) j)<|xn
   ·refine us<|gc h j iR (fun hc11 h=>?_) fun hc11 h=>?_
    ·refine gs<|g0 j j (q (oAsI j j)<|nl)<|us<|Go.ret (Unw.ret ?_)
     cases h
     exact ⟨j,(fo rF104 j)⟩
    ·refine Go.skip<|Unw.blk<|us<|g0 j j (q (oBi j j j j)<|q (oMv j j)<|nl)<|Unw.nil<|?_
     cases h
     exact ⟨j,(by kernel_rfl)⟩
  ·refine Go.exit<|ux<|Unw.nil<|?_
   cases h
   exact ⟨j,(by kernel_rfl)⟩
 ·rintro ⟨e,st⟩ hp
  rcases o with u | r2
  ·dsimp only at h
   obtain ⟨he,hst⟩:=hp
   obtain rfl:e= .exit 0:=he
   refine Unw.blkx<|us<|gs<|g2 c104 j j hst (q (oAsI j j)<|nl)<|us<|Go.ret (Unw.ret ?_)
   cases h
   exact fr rF104 j
  ·dsimp only at h
   obtain ⟨he,hfin⟩:=hp
   obtain rfl:e= .ret:=he
   cases h
   exact Unw.ret (Fin_ret hfin)
theorem L_impl_canAsk {d_0:S_Drawing} {placed_1:(List Int)} {k_2:Int} {r:Bool} (h:impl_canAsk d_0 placed_1 k_2=some r):FX 51 [.im 2 true (u_S_Drawing d_0),.im 2 false [W 1 eI placed_1],.im 2 false [I k_2]] (B0 [(false,[.im 0 (V r)])]):=by
 unfold impl_canAsk at h
 refine gn 30 Try.func51 rfl ?_
 refine gs<|g0 j j (q (oBx j tF26 j (tkI (tkI (tkI (tkI tk0)))))<|q (oAsI j j)<|nl)<|us<|gs<|g0 j j (q (oFA (r':=.mp 3 0 3) j fF26_3 j j)<|q (oLd (cs:=[.im 2 _]) j tF24 j j)<|q (oLnI j j uF24 j)<|q (oAsI j j)<|nl)<|us<|gs<|?_
 obtain ⟨x12,hx12,h⟩:=bs h
 obtain ⟨t_6_m2,hm4,h⟩:=bs h
 refine gX c51 j j j (mk [(6,bv t_6_m2)] []) ?_ ?_
 ·refine xq (oLd (cs:=[.im 0 _,.im 0 _,.im 2 _,.im 2 _]) j tF26 j j)<|xq (oCa (xs:=[.v true [.im 0 _,.im 0 _,.im 2 _,.im 2 _]]) (vs:=[(false,[.im 0 _])]) (v:=.v false [.im 0 _]) (L_impl_ValidDrawing hx12) (.inl j) j kF43_26 j (ppC j pp0) j j pb0 j j j)<|xq (oMv j j)<|?_
  refine ic hm4 (fun hc1 hm4=>?_) fun hc1 hm4=>?_
  ·obtain ⟨x16,hx16,hm4⟩:=bs hm4
   refine xqT j j (iR.2 hc1) (oMv j j)<|xqT j j (iR.2 hc1) (oMv j j)<|xqT j j (iR.2 hc1) (oCa (xs:=[.v false [.im 2 _],.v false [.im 0 _]]) (vs:=[(false,[.im 0 _])]) (v:=.v false [.im 0 _]) (L_impl_isFaceOrder hx16) (.inl j) j kF104_28_3 j (ppC j (ppC j pp0)) j j pb0 j j j)<|xq (oPkT j j (iR.2 hc1) j)<|xq (oMv j j)<|?_
   refine ic hm4 (fun hc2 hm4=>?_) fun hc2 hm4=>?_
   ·obtain ⟨x22,hx22,hm4⟩:=bs hm4
    refine xqT j j (iR.2 hc2) (oMv j j)<|xqT j j (iR.2 hc2) (oMv j j)<|xqT j j (iR.2 hc2) (oBi j j j j)<|xqT j j (iR.2 hc2) (oCa (xs:=[.v false [.im 2 _],.v false [.im 0 _],.v false [.im 0 _]]) (vs:=[(false,[.im 0 _])]) (v:=.v false [.im 0 _]) (L_impl_within hx22) (.inl j) j kF66_2_2_2 j (ppC j (ppC j (ppC j pp0))) j j pb0 j j j)<|xq (oPkT j j (iR.2 hc2) j)<|xq (oMv j j)<|?_
    refine ic hm4 (fun hc3 hm4=>?_) fun hc3 hm4=>?_
    ·obtain ⟨x27,hx27,hm4⟩:=bs hm4
     cases hm4
     exact xqT j j (iR.2 hc3) (oMv j j)<|xqT j j (iR.2 hc3) (oMv j j)<|xqT j j (iR.2 hc3) (oCa (xs:=[.v false [.im 2 _],.v false [.im 2 _]]) (vs:=[(false,[.im 0 _])]) (v:=.v false [.im 0 _]) (L_slices_Contains_int64_int64 hx27) (.inl j) j kF45_28_2 j (ppC j (ppC j pp0)) j j pb0 j j j)<|xqT j j (iR.2 hc3) (oUn j j j)<|xq (oPkT j j (iR.2 hc3) j)<|xq (oAsI j j)<|xn
    ·cases hm4
     exact xsgF j j (byF iR hc3) j<|xsgF j j (byF iR hc3) j<|xsgF j j (byF iR hc3) j<|xsgF j j (byF iR hc3) j<|xq (oPkF j j (byF iR hc3) j)<|xq (oAsI j j)<|xn
   ·cases hm4
    exact xsgF j j (byF iR hc2) j<|xsgF j j (byF iR hc2) j<|xsgF j j (byF iR hc2) j<|xsgF j j (byF iR hc2) j<|xq (oPkF j j (byF iR hc2) j)<|xq (oMv j j)<|xsgF j j j j<|xsgF j j j j<|xsgF j j j j<|xsgF j j j j<|xq (oPkF j j j j)<|xq (oAsI j j)<|xn
  ·cases hm4
   exact xsgF j j (byF iR hc1) j<|xsgF j j (byF iR hc1) j<|xsgF j j (byF iR hc1) j<|xq (oPkF j j (byF iR hc1) j)<|xq (oMv j j)<|xsgF j j j j<|xsgF j j j j<|xsgF j j j j<|xsgF j j j j<|xq (oPkF j j j j)<|xq (oMv j j)<|xsgF j j j j<|xsgF j j j j<|xsgF j j j j<|xsgF j j j j<|xq (oPkF j j j j)<|xq (oAsI j j)<|xn
 ·refine us<|Go.ret (Unw.ret ?_)
  cases h
  exact fr rF51 j
theorem L_impl_IsTrapped {d_0:S_Drawing} {placed_1:(List Int)} {k_2:Int} {r:Bool} (h:impl_IsTrapped d_0 placed_1 k_2=some r):FX 13 [.im 2 true (u_S_Drawing d_0),.im 2 false [W 1 eI placed_1],.im 2 false [I k_2]] (B0 [(false,[.im 0 (V r)])]):=by
 unfold impl_IsTrapped at h
 refine gn 18 Try.func13 rfl ?_
 refine gs<|g0 j j (q (oBx j tF26 j (tkI (tkI (tkI (tkI tk0)))))<|q (oAsI j j)<|nl)<|us<|gs<|?_
 obtain ⟨x10,hx10,h⟩:=bs h
 obtain ⟨t_6_m1,hm2,h⟩:=bs h
 refine gX c13 j j j (mk [(6,bv t_6_m1)] []) ?_ ?_
 ·refine xq (oLd (cs:=[.im 0 _,.im 0 _,.im 2 _,.im 2 _]) j tF26 j j)<|xq (oMv j j)<|xq (oMv j j)<|xq (oCa (xs:=[.v true [.im 0 _,.im 0 _,.im 2 _,.im 2 _],.v false [.im 2 _],.v false [.im 2 _]]) (vs:=[(false,[.im 0 _])]) (v:=.v false [.im 0 _]) (L_impl_canAsk hx10) (.inl j) j kF51_26_28_2 j (ppC j (ppC j (ppC j pp0))) j j pb0 j j j)<|xq (oMv j j)<|?_
  refine ic hm2 (fun hc1 hm2=>?_) fun hc1 hm2=>?_
  ·obtain ⟨x13,hx13,hm2⟩:=bs hm2
   obtain ⟨x16,hx16,hm2⟩:=bs hm2
   cases hm2
   exact xqT j j (iR.2 hc1) (oLd (cs:=[.im 0 _,.im 0 _,.im 2 _,.im 2 _]) j tF26 j j)<|xqT j j (iR.2 hc1) (oCr (xs:=[.v true [.im 0 _,.im 0 _,.im 2 _,.im 2 _]]) (vs:=[(true,[.im 0 _,.own 13 0 0])]) (v:=.v true [.im 0 _,.own 13 0 0]) (c:=⟨.sh,0,_⟩) (cs:=[]) (L_impl_sidesOf hx13) (.inl j) j kF44_26 j (ppC j pp0) j j pb0 j j j)<|xqT j j (iR.2 hc1) (oMv j j)<|xqT j j (iR.2 hc1) (oMv j j)<|xqT j j (iR.2 hc1) (oCa (xs:=[.v true [.im 0 _,.own 13 0 0],.v false [.im 2 _],.v false [.im 2 _]]) (vs:=[(false,[.im 0 _])]) (v:=.v false [.im 0 _]) (L_impl_sides_trapped hx16) (.inl j) j kF52_83_28_2 j (ppC j (ppC j (ppC j pp0))) j j pb0 j j j)<|xq (oPkT j j (iR.2 hc1) j)<|xq (oAsI j j)<|xn
  ·cases hm2
   exact xsgF j j (byF iR hc1) j<|xsgF j j (byF iR hc1) j<|xsgF j j (byF iR hc1) j<|xsgF j j (byF iR hc1) j<|xsgF j j (byF iR hc1) j<|xq (oPkF j j (byF iR hc1) j)<|xq (oAsI j j)<|xn
 ·refine us<|Go.ret (Unw.ret ?_)
  cases h
  exact fr rF13 j
theorem L_laws_FnTrapped {code_0:(List Int)} {r:Bool} (h:laws_FnTrapped code_0=some r):FX 3 [.im 2 false [W 1 (eK .u8) code_0]] (B0 [(false,[.im 0 (V r)])]):=by
 unfold laws_FnTrapped at h
 refine gn 138 Try.func3 rfl ?_
 refine gs<|g0 j j (q (oAsI j j)<|nl)<|us<|gs<|gs<|g0 j j (q (oMv j j)<|q (oLnI j j uF22 j)<|q (oBi j j j j)<|nl)<|us<|gc h j iDec (fun hc1 h=>?_) fun hc1 h=>?_
 ·refine gs<|g0 j j (q (oAsI j j)<|nl)<|us<|Go.ret (Unw.ret ?_)
  cases h
  exact fr rF3 j
 ·refine Go.skip<|us<|gs<|?_
  obtain ⟨x17,hx17,h⟩:=bs h
  refine g0 j j (q (oMv j j)<|q (oCr (xs:=[.v false [.im 2 _]]) (vs:=[(true,[.im 0 _,.im 0 _,.own 17 0 0,.own 17 0 1])]) (v:=.v true [.im 0 _,.im 0 _,.own 17 0 0,.own 17 0 1]) (c:=⟨.sh,0,_⟩) (cs:=[⟨.sh,0,_⟩]) (L_spec_R8Panel hx17) (.inl j) j kF7_22 j (ppC j pp0) j j pb0 j j j)<|q (oAl j tF26 (tkI (tkI (tkN (tkN tk0)))))<|q (oSt tF26 j j j (tkI (tkI (tkO j j (tkO j j tk0)))) j j j)<|nl)<|us<|gs<|?_
  obtain ⟨x20,hx20,h⟩:=bs h
  refine g1 j j (mk [(3,M 3)] [(3,Oa [C (I x17.Width),C (I x17.Height),Z (W 2 e_S_Point x17.Points),Z (W 2 e_S_Face x17.Faces)])]) (q (oLd (cs:=[.im 0 _,.im 0 _,.own 3 0 2,.own 3 0 3]) j tF26 j j)<|q (oCr (xs:=[.v true [.im 0 _,.im 0 _,.own 3 0 2,.own 3 0 3]]) (vs:=[(false,[.own 20 0 0]),(false,[.im 0 _])]) (v:=.tup [(false,[.own 20 0 0]),(false,[.im 0 _])]) (c:=⟨.sh,0,_⟩) (cs:=[]) (L_impl_SafeOrder hx20) (.inl j) j kF8_26 j (ppC j pp0) j j pb0 j j j)<|q (oMvT j j)<|q (oEx j j j)<|q (oEx j j j)<|q (oAsO j j j j j)<|q (oAsI j j)<|nl)<|us<|gs<|?_
  obtain ⟨x25,hx25,h⟩:=bs h
  refine g0 j j (q (oLd (cs:=[.im 0 _,.im 0 _,.own 3 0 2,.own 3 0 3]) j tF26 j j)<|q (oCr (xs:=[.v true [.im 0 _,.im 0 _,.own 3 0 2,.own 3 0 3]]) (vs:=[(false,[.own 25 0 0]),(false,[.im 0 _])]) (v:=.tup [(false,[.own 25 0 0]),(false,[.im 0 _])]) (c:=⟨.sh,0,_⟩) (cs:=[]) (L_impl_EnclosedFaces hx25) (.inl j) j kF9_26 j (ppC j pp0) j j pb0 j j j)<|q (oMvT j j)<|q (oEx j j j)<|q (oEx j j j)<|q (oAsO j j j j j)<|q (oAsI j j)<|nl)<|us<|gs<|?_
  obtain ⟨x30,hx30,h⟩:=bs h
  refine g0 j j (q (oLd (cs:=[.im 0 _,.im 0 _,.own 3 0 2,.own 3 0 3]) j tF26 j j)<|q (oCr (xs:=[.v true [.im 0 _,.im 0 _,.own 3 0 2,.own 3 0 3]]) (vs:=[(false,[.own 30 0 0]),(false,[.im 0 _])]) (v:=.tup [(false,[.own 30 0 0]),(false,[.im 0 _])]) (c:=⟨.sh,0,_⟩) (cs:=[]) (L_impl_BorderFaces hx30) (.inl j) j kF10_26 j (ppC j pp0) j j pb0 j j j)<|q (oMvT j j)<|q (oEx j j j)<|q (oEx j j j)<|q (oAsO j j j j j)<|q (oAsI j j)<|nl)<|us<|gs<|gs<|gX c3 j j j (mk [(3,M 3),(4,H 4 0),(5,iv x20.2),(6,H 6 0),(8,H 8 0),(49,bv ((x25.2 != 0)||((x30.2 != 0)||(decide ((w64 ((x30.1.length:Int)+(x25.1.length:Int))) > (x17.Faces.length:Int))))))] [(3,Oa [C (I x17.Width),C (I x17.Height),Z (W 2 e_S_Point x17.Points),Z (W 2 e_S_Face x17.Faces)]),(4,Oc [Z (W 1 eI x20.1)]),(6,Oc [Z (W 1 eI x25.1)]),(8,Oc [Z (W 1 eI x30.1)])]) ?_ ?_
  ·refine xq (oMv j j)<|xq (oBi j j j j)<|xq (oMv j j)<|?_
   by_cases hc2:x25.2≠0
   ·exact xsgF rfl rfl (iNe.2 hc2) rfl<|xsgF rfl rfl (iNe.2 hc2) rfl<|xq (oPkT rfl rfl (iNe.2 hc2) rfl)<|xq (oMv rfl rfl)<|xsgF rfl rfl rfl rfl<|xsgF rfl rfl rfl rfl<|xsgF rfl rfl rfl rfl<|xsgF rfl rfl rfl rfl<|xsgF rfl rfl rfl rfl<|xsgF rfl rfl rfl rfl<|xsgF rfl rfl rfl rfl<|xsgF rfl rfl rfl rfl<|xsgF rfl rfl rfl rfl<|xq (oPkT rfl rfl rfl rfl)<|xn (Eq.trans (b:=(fun t_49_m7:Bool=>mk [(3,M 3),(4,H 4 0),(5,iv x20.2),(6,H 6 0),(8,H 8 0),(49,bv t_49_m7)] [(3,Oa [C (I x17.Width),C (I x17.Height),Z (W 2 e_S_Point x17.Points),Z (W 2 e_S_Face x17.Faces)]),(4,Oc [Z (W 1 eI x20.1)]),(6,Oc [Z (W 1 eI x25.1)]),(8,Oc [Z (W 1 eI x30.1)])]) true) (by kernel_rfl) (congrArg (fun t_49_m7:Bool=>mk [(3,M 3),(4,H 4 0),(5,iv x20.2),(6,H 6 0),(8,H 8 0),(49,bv t_49_m7)] [(3,Oa [C (I x17.Width),C (I x17.Height),Z (W 2 e_S_Point x17.Points),Z (W 2 e_S_Face x17.Faces)]),(4,Oc [Z (W 1 eI x20.1)]),(6,Oc [Z (W 1 eI x25.1)]),(8,Oc [Z (W 1 eI x30.1)])]) (by first | rfl | (simp [(iNe.2 hc2)];done) | (simp [(iNe.2 hc2)];omega))))
   ·refine xqT j j (byF iNe hc2) (oMv j j)<|xqT j j (byF iNe hc2) (oBi j j j j)<|xq (oPkF j j (byF iNe hc2) j)<|xq (oMv j j)<|?_
    by_cases hc3:x30.2≠0
    ·exact xsgF rfl rfl (iNe.2 hc3) rfl<|xsgF rfl rfl (iNe.2 hc3) rfl<|xsgF rfl rfl (iNe.2 hc3) rfl<|xsgF rfl rfl (iNe.2 hc3) rfl<|xsgF rfl rfl (iNe.2 hc3) rfl<|xsgF rfl rfl (iNe.2 hc3) rfl<|xsgF rfl rfl (iNe.2 hc3) rfl<|xsgF rfl rfl (iNe.2 hc3) rfl<|xsgF rfl rfl (iNe.2 hc3) rfl<|xq (oPkT rfl rfl (iNe.2 hc3) rfl)<|xn (Eq.trans (b:=(fun t_49_m7:Bool=>mk [(3,M 3),(4,H 4 0),(5,iv x20.2),(6,H 6 0),(8,H 8 0),(49,bv t_49_m7)] [(3,Oa [C (I x17.Width),C (I x17.Height),Z (W 2 e_S_Point x17.Points),Z (W 2 e_S_Face x17.Faces)]),(4,Oc [Z (W 1 eI x20.1)]),(6,Oc [Z (W 1 eI x25.1)]),(8,Oc [Z (W 1 eI x30.1)])]) true) (by kernel_rfl) (congrArg (fun t_49_m7:Bool=>mk [(3,M 3),(4,H 4 0),(5,iv x20.2),(6,H 6 0),(8,H 8 0),(49,bv t_49_m7)] [(3,Oa [C (I x17.Width),C (I x17.Height),Z (W 2 e_S_Point x17.Points),Z (W 2 e_S_Face x17.Faces)]),(4,Oc [Z (W 1 eI x20.1)]),(6,Oc [Z (W 1 eI x25.1)]),(8,Oc [Z (W 1 eI x30.1)])]) (by first | rfl | (simp [(byF iNe hc2),(iNe.2 hc3)];done) | (simp [(byF iNe hc2),(iNe.2 hc3)];omega) | (have q0:=(byF iNe hc2);have q1:=(iNe.2 hc3);simp_all))))
    ·exact xqT rfl rfl (byF iNe hc3) (oMv rfl rfl)<|xqT rfl rfl (byF iNe hc3) (oLnO rfl rfl uF28 rfl rfl rfl (fun e=>nomatch e))<|xqT rfl rfl (byF iNe hc3) (oMv rfl rfl)<|xqT rfl rfl (byF iNe hc3) (oLnO rfl rfl uF28 rfl rfl rfl (fun e=>nomatch e))<|xqT rfl rfl (byF iNe hc3) (oBi rfl rfl rfl rfl)<|xqT rfl rfl (byF iNe hc3) (oFA (r':=.mp 3 0 3) rfl fF26_3 rfl rfl)<|xqT rfl rfl (byF iNe hc3) (oLd (cs:=[.own 3 0 3]) rfl tF24 rfl rfl)<|xqT rfl rfl (byF iNe hc3) (oLnO rfl rfl uF24 rfl rfl rfl (fun e=>nomatch e))<|xqT rfl rfl (byF iNe hc3) (oBi rfl rfl rfl rfl)<|xq (oPkF rfl rfl (byF iNe hc3) rfl)<|xn (Eq.trans (b:=(fun t_49_m7:Bool=>mk [(3,M 3),(4,H 4 0),(5,iv x20.2),(6,H 6 0),(8,H 8 0),(49,bv t_49_m7)] [(3,Oa [C (I x17.Width),C (I x17.Height),Z (W 2 e_S_Point x17.Points),Z (W 2 e_S_Face x17.Faces)]),(4,Oc [Z (W 1 eI x20.1)]),(6,Oc [Z (W 1 eI x25.1)]),(8,Oc [Z (W 1 eI x30.1)])]) (decide ((w64 ((x30.1.length:Int)+(x25.1.length:Int))) > (x17.Faces.length:Int)))) (by kernel_rfl) (congrArg (fun t_49_m7:Bool=>mk [(3,M 3),(4,H 4 0),(5,iv x20.2),(6,H 6 0),(8,H 8 0),(49,bv t_49_m7)] [(3,Oa [C (I x17.Width),C (I x17.Height),Z (W 2 e_S_Point x17.Points),Z (W 2 e_S_Face x17.Faces)]),(4,Oc [Z (W 1 eI x20.1)]),(6,Oc [Z (W 1 eI x25.1)]),(8,Oc [Z (W 1 eI x30.1)])]) (by first | rfl | (simp [(byF iNe hc2),(byF iNe hc3)];done) | (simp [(byF iNe hc2),(byF iNe hc3)];omega) | (have q0:=(byF iNe hc2);have q1:=(byF iNe hc3);simp_all))))
  ·refine us<|gc h j (iOr iNe (iOr iNe iDec)) (fun hc4 h=>?_) fun hc4 h=>?_
   ·refine gs<|g0 j j (q (oAsI j j)<|nl)<|us<|Go.ret (Unw.ret ?_)
    cases h
    exact fr rF3 j
   ·refine Go.skip<|us<|gs<|gs<|g0 j j (q (oMv j j)<|q (oBi j j j j)<|nl)<|us<|gc h j iNe (fun hc5 h=>?_) fun hc5 h=>?_
    ·refine gs<|?_
     obtain ⟨x54,hx54,h⟩:=bs h
     refine g0 j j (q (oLd (cs:=[.im 0 _,.im 0 _,.own 3 0 2,.own 3 0 3]) j tF26 j j)<|q (oCa (xs:=[.v true [.im 0 _,.im 0 _,.own 3 0 2,.own 3 0 3],.v false [.im 0 _]]) (vs:=[(false,[.im 0 _]),(false,[.im 0 _])]) (v:=.tup [(false,[.im 0 _]),(false,[.im 0 _])]) (L_impl_FirstAssembly hx54) (.inl j) j kF11_26_2 j (ppC j (ppC j pp0)) j j pb0 j j j)<|q (oMvT j j)<|q (oEx j j j)<|q (oEx j j j)<|q (oAsI j j)<|q (oAsI j j)<|nl)<|us<|gs<|gX c3 j j j (mk [(2,bv ((x20.2==3)&&((decide ((x25.1.length:Int) >0))&&(x54.2 != 0))))] []) ?_ ?_
     ·refine xq (oMv j j)<|xq (oBi j j j j)<|xq (oMv j j)<|?_
      by_cases hc6:x20.2=3
      ·refine xqT j j (iEq.2 hc6) (oMv j j)<|xqT j j (iEq.2 hc6) (oLnO j j uF28 j j j (fun e=>nomatch e))<|xqT j j (iEq.2 hc6) (oBi j j j j)<|xq (oPkT j j (iEq.2 hc6) j)<|xq (oMv j j)<|?_
       by_cases hc7:(x25.1.length:Int) >0
       ·exact xqT rfl rfl (iDec.2 hc7) (oMv rfl rfl)<|xqT rfl rfl (iDec.2 hc7) (oBi rfl rfl rfl rfl)<|xq (oPkT rfl rfl (iDec.2 hc7) rfl)<|xq (oAsI rfl rfl)<|xn (Eq.trans (b:=(fun t_2_m11:Bool=>mk [(2,bv t_2_m11)] []) (x54.2 != 0)) (by kernel_rfl) (congrArg (fun t_2_m11:Bool=>mk [(2,bv t_2_m11)] []) (by first | rfl | (simp [(iEq.2 hc6),(iDec.2 hc7)];done) | (simp [(iEq.2 hc6),(iDec.2 hc7)];omega) | (have q0:=(iEq.2 hc6);have q1:=(iDec.2 hc7);simp_all))))
       ·exact xsgF rfl rfl (byF iDec hc7) rfl<|xsgF rfl rfl (byF iDec hc7) rfl<|xq (oPkF rfl rfl (byF iDec hc7) rfl)<|xq (oAsI rfl rfl)<|xn (Eq.trans (b:=(fun t_2_m11:Bool=>mk [(2,bv t_2_m11)] []) false) (by kernel_rfl) (congrArg (fun t_2_m11:Bool=>mk [(2,bv t_2_m11)] []) (by first | rfl | (simp [(iEq.2 hc6),(byF iDec hc7)];done) | (simp [(iEq.2 hc6),(byF iDec hc7)];omega) | (have q0:=(iEq.2 hc6);have q1:=(byF iDec hc7);simp_all))))
      ·exact xsgF rfl rfl (byF iEq hc6) rfl<|xsgF rfl rfl (byF iEq hc6) rfl<|xsgF rfl rfl (byF iEq hc6) rfl<|xq (oPkF rfl rfl (byF iEq hc6) rfl)<|xq (oMv rfl rfl)<|xsgF rfl rfl rfl rfl<|xsgF rfl rfl rfl rfl<|xq (oPkF rfl rfl rfl rfl)<|xq (oAsI rfl rfl)<|xn (Eq.trans (b:=(fun t_2_m11:Bool=>mk [(2,bv t_2_m11)] []) false) (by kernel_rfl) (congrArg (fun t_2_m11:Bool=>mk [(2,bv t_2_m11)] []) (by first | rfl | (simp [(byF iEq hc6)];done) | (simp [(byF iEq hc6)];omega))))
     ·refine us<|Go.ret (Unw.ret ?_)
      cases h
      exact fr rF3 j
    ·refine Go.skip<|us<|gs<|gs<|gX c3 j j j (mk [(3,M 3),(4,H 4 0),(8,H 8 0),(78,bv (((x25.1.length:Int) != 0)||((x20.1.length:Int) != (x17.Faces.length:Int))))] [(3,Oa [C (I x17.Width),C (I x17.Height),Z (W 2 e_S_Point x17.Points),Z (W 2 e_S_Face x17.Faces)]),(4,Oc [Z (W 1 eI x20.1)]),(8,Oc [Z (W 1 eI x30.1)])]) ?_ ?_
     ·refine xq (oMv j j)<|xq (oLnO j j uF28 j j j (fun e=>nomatch e))<|xq (oBi j j j j)<|xq (oMv j j)<|?_
      by_cases hc8:(x25.1.length:Int)≠0
      ·exact xsgF rfl rfl (iNe.2 hc8) rfl<|xsgF rfl rfl (iNe.2 hc8) rfl<|xsgF rfl rfl (iNe.2 hc8) rfl<|xsgF rfl rfl (iNe.2 hc8) rfl<|xsgF rfl rfl (iNe.2 hc8) rfl<|xsgF rfl rfl (iNe.2 hc8) rfl<|xq (oPkT rfl rfl (iNe.2 hc8) rfl)<|xn (Eq.trans (b:=(fun t_78_m12:Bool=>mk [(3,M 3),(4,H 4 0),(8,H 8 0),(78,bv t_78_m12)] [(3,Oa [C (I x17.Width),C (I x17.Height),Z (W 2 e_S_Point x17.Points),Z (W 2 e_S_Face x17.Faces)]),(4,Oc [Z (W 1 eI x20.1)]),(8,Oc [Z (W 1 eI x30.1)])]) true) (by kernel_rfl) (congrArg (fun t_78_m12:Bool=>mk [(3,M 3),(4,H 4 0),(8,H 8 0),(78,bv t_78_m12)] [(3,Oa [C (I x17.Width),C (I x17.Height),Z (W 2 e_S_Point x17.Points),Z (W 2 e_S_Face x17.Faces)]),(4,Oc [Z (W 1 eI x20.1)]),(8,Oc [Z (W 1 eI x30.1)])]) (by first | rfl | (simp [(iNe.2 hc8)];done) | (simp [(iNe.2 hc8)];omega))))
      ·exact xqT rfl rfl (byF iNe hc8) (oMv rfl rfl)<|xqT rfl rfl (byF iNe hc8) (oLnO rfl rfl uF28 rfl rfl rfl (fun e=>nomatch e))<|xqT rfl rfl (byF iNe hc8) (oFA (r':=.mp 3 0 3) rfl fF26_3 rfl rfl)<|xqT rfl rfl (byF iNe hc8) (oLd (cs:=[.own 3 0 3]) rfl tF24 rfl rfl)<|xqT rfl rfl (byF iNe hc8) (oLnO rfl rfl uF24 rfl rfl rfl (fun e=>nomatch e))<|xqT rfl rfl (byF iNe hc8) (oBi rfl rfl rfl rfl)<|xq (oPkF rfl rfl (byF iNe hc8) rfl)<|xn (Eq.trans (b:=(fun t_78_m12:Bool=>mk [(3,M 3),(4,H 4 0),(8,H 8 0),(78,bv t_78_m12)] [(3,Oa [C (I x17.Width),C (I x17.Height),Z (W 2 e_S_Point x17.Points),Z (W 2 e_S_Face x17.Faces)]),(4,Oc [Z (W 1 eI x20.1)]),(8,Oc [Z (W 1 eI x30.1)])]) ((x20.1.length:Int) != (x17.Faces.length:Int))) (by kernel_rfl) (congrArg (fun t_78_m12:Bool=>mk [(3,M 3),(4,H 4 0),(8,H 8 0),(78,bv t_78_m12)] [(3,Oa [C (I x17.Width),C (I x17.Height),Z (W 2 e_S_Point x17.Points),Z (W 2 e_S_Face x17.Faces)]),(4,Oc [Z (W 1 eI x20.1)]),(8,Oc [Z (W 1 eI x30.1)])]) (by first | rfl | (simp [(byF iNe hc8)];done) | (simp [(byF iNe hc8)];omega))))
     ·refine us<|gc h j (iOr iNe iNe) (fun hc9 h=>?_) fun hc9 h=>?_
      ·refine gs<|g0 j j (q (oAsI j j)<|nl)<|us<|Go.ret (Unw.ret ?_)
       cases h
       exact fr rF3 j
      ·refine Go.skip<|us<|gs<|gs<|g0 j j (q (oAsI j j)<|nl)<|us<|Go.block<|?_
       obtain ⟨o,hl,h⟩:=bs h
       refine gl c3 j _ (fun (i_12_l15:Int)=>mk [(3,M 3),(4,H 4 0),(8,H 8 0),(12,iv i_12_l15)] [(3,Oa [C (I x17.Width),C (I x17.Height),Z (W 2 e_S_Point x17.Points),Z (W 2 e_S_Face x17.Faces)]),(4,Oc [Z (W 1 eI x20.1)]),(8,Oc [Z (W 1 eI x30.1)])]) (fun (o:(Unit ⊕ Bool)) (p:Ex×St)=>match o with | (.inl _)=>p.1= .exit 0∧p.2.norm ([],[])=mk [] [] | (.inr r2)=>p.1= .ret∧fin Try.prog cfg 3 Try.f3 [.im 2 false [W 1 (eK .u8) code_0]] p.2=some (B0 [(false,[.im 0 (V r2)])])) hl (by kernel_rfl) ?_ ?_ ?_
       ·intro o p hp e
        rcases o with u | r2<;>exact nomatch (hp.1.symm.trans e)
       ·rintro i_12_l15 o h
        unfold laws_FnTrapped_l15 at h
        refine gs<|gs<|g0 j j (q (oMv j j)<|q (oMv j j)<|q (oLnO j j uF28 j j j (fun e=>nomatch e))<|q (oBi j j j j)<|nl)<|us<|gc h j iDec (fun hc28 h=>?_) fun hc28 h=>?_
        ·refine Go.skip<|us<|gs<|Go.block<|gs<|gs<|?_
         obtain ⟨x87,hx87,h⟩:=bs h
         obtain ⟨t_120_m17,hm36,h⟩:=bs h
         refine gd c3 j j j j (mk [(3,M 3),(4,H 4 0),(8,H 8 0),(12,iv i_12_l15),(120,bv t_120_m17)] [(3,Oa [C (I x17.Width),C (I x17.Height),Z (W 2 e_S_Point x17.Points),Z (W 2 e_S_Face x17.Faces)]),(4,Oc [Z (W 1 eI x20.1)]),(8,Oc [Z (W 1 eI x30.1)])]) ?_ ?_
         ·refine t j j (oMv j j)<|t j j (oMv j j)<|t j j (oIAO j hx87 sF28 j j j j)<|t j j (oLdE (cs:=[.im 0 _]) j tF2 j j j j (rd_get hx87) j j)<|t j j (oBi j j j j)<|t j j (oMv j j)<|?_
          refine ic hm36 (fun hc29 hm36=>?_) fun hc29 hm36=>?_
          ·cases hm36
           exact tF j j j j (iDec.2 hc29) j<|tF j j j j (iDec.2 hc29) j<|tF j j j j (iDec.2 hc29) j<|tF j j j j (iDec.2 hc29) j<|tF j j j j (iDec.2 hc29) j<|tF j j j j (iDec.2 hc29) j<|tF j j j j (iDec.2 hc29) j<|tF j j j j (iDec.2 hc29) j<|t j j (oPkT j j (iDec.2 hc29) j)<|t j j (oMv j j)<|tF j j j j j j<|tF j j j j j j<|tF j j j j j j<|tF j j j j j j<|tF j j j j j j<|tF j j j j j j<|sS (dF j j j j j) trivial (sS (dF j j j j j) trivial (t j j (oPkT j j j j)<|t j j (oMv j j)<|tF j j j j j j<|tF j j j j j j<|tF j j j j j j<|tF j j j j j j<|tF j j j j j j<|tF j j j j j j<|sK (O:=[3]) j j j (dF j j j j j)<|sS (dF j j j j j) (kY ⟨j,trivial⟩ trivial) (sS (dF j j j j j) (kN j trivial) (t j j (oPkT j j j j)<|sD (by kernel_rfl)))))
          ·obtain ⟨x93,hx93,hm36⟩:=bs hm36
           refine tT j j j j (byF iDec hc29) (oMv j j)<|tT j j j j (byF iDec hc29) (oMv j j)<|tT j j j j (byF iDec hc29) (oIAO j hx93 sF28 j j j j)<|tT j j j j (byF iDec hc29) (oLdE (cs:=[.im 0 _]) j tF2 j j j j (rd_get hx93) j j)<|tT j j j j (byF iDec hc29) (oFA (r':=.mp 3 0 3) j fF26_3 j j)<|tT j j j j (byF iDec hc29) (oLd (cs:=[.own 3 0 3]) j tF24 j j)<|tT j j j j (byF iDec hc29) (oLnO j j uF24 j j j (fun e=>nomatch e))<|tT j j j j (byF iDec hc29) (oBi j j j j)<|t j j (oPkF j j (byF iDec hc29) j)<|t j j (oMv j j)<|?_
           refine ic hm36 (fun hc30 hm36=>?_) fun hc30 hm36=>?_
           ·cases hm36
            exact tF j j j j (iDec.2 hc30) j<|tF j j j j (iDec.2 hc30) j<|tF j j j j (iDec.2 hc30) j<|tF j j j j (iDec.2 hc30) j<|tF j j j j (iDec.2 hc30) j<|tF j j j j (iDec.2 hc30) j<|sS (dF j j j (iDec.2 hc30) j) trivial (sS (dF j j j (iDec.2 hc30) j) trivial (t j j (oPkT j j (iDec.2 hc30) j)<|t j j (oMv j j)<|tF j j j j j j<|tF j j j j j j<|tF j j j j j j<|tF j j j j j j<|tF j j j j j j<|tF j j j j j j<|sK (O:=[3]) j j j (dF j j j j j)<|sS (dF j j j j j) (kY ⟨j,trivial⟩ trivial) (sS (dF j j j j j) (kN j trivial) (t j j (oPkT j j j j)<|sD (by kernel_rfl)))))
           ·obtain ⟨x106,hx106,hm36⟩:=bs hm36
            obtain ⟨x103,hx103,hm36⟩:=bs hm36
            obtain ⟨x108,hx108,hm36⟩:=bs hm36
            refine tT j j j j (byF iDec hc30) (oMv j j)<|tT j j j j (byF iDec hc30) (oMv j j)<|tT j j j j (byF iDec hc30) (oMv j j)<|tT j j j j (byF iDec hc30) (oMv j j)<|sK (O:=[4]) j j j (dT z3 j j j (byF iDec hc30) (oIAO j hx106 sF28 j j j j))<|?_
            refine ic hm36 (fun hc31 hm36=>?_) fun hc31 hm36=>?_
            ·cases hm36
             exact sK (O:=[4]) j j j (dT z3 j j j (byF iDec hc30) (oLdE (cs:=[.im 0 _]) j tF2 j j j j (rd_get hx106) j j))<|sS (dT z3 j j j (byF iDec hc30) (oSlO j hx103 sF28 j j j bn0 (bn1 j) j j j)) (kY ⟨j,trivial⟩ (kY ⟨j,trivial⟩ trivial)) (sS (dT z3 j j j (byF iDec hc30) (oCa (xs:=[.v false [.sub 4 0 0 _ _],.v false [.im 0 _]]) (vs:=[(false,[.im 0 _])]) (v:=.v false [.im 0 _]) (by have q:=(L_laws_r8Has hx108);simp only [W,List.map_drop,List.map_take] at q;exact q) (.inl j) j kF12_28_2 j (ppC j (ppC j pp0)) j j pb0 j j j)) (kN j (kN j trivial)) (t j j (oPkF j j (byF iDec hc30) j)<|t j j (oMv j j)<|tF j j j j (iR.2 hc31) j<|tF j j j j (iR.2 hc31) j<|tF j j j j (iR.2 hc31) j<|tF j j j j (iR.2 hc31) j<|tF j j j j (iR.2 hc31) j<|tF j j j j (iR.2 hc31) j<|sK (O:=[3]) j j j (dF j j j (iR.2 hc31) j)<|sS (dF j j j (iR.2 hc31) j) (kY ⟨j,trivial⟩ (kN j (kN j trivial))) (sS (dF j j j (iR.2 hc31) j) (kN j (kN j (kN j trivial))) (t j j (oPkT j j (iR.2 hc31) j)<|sD (by kernel_rfl)))))
            ·obtain ⟨x117,hx117,hm36⟩:=bs hm36
             obtain ⟨x114,hx114,hm36⟩:=bs hm36
             obtain ⟨x119,hx119,hm36⟩:=bs hm36
             cases hm36
             exact sK (O:=[4]) j j j (dT z3 j j j (byF iDec hc30) (oLdE (cs:=[.im 0 _]) j tF2 j j j j (rd_get hx106) j j))<|sS (dT z3 j j j (byF iDec hc30) (oSlO j hx103 sF28 j j j bn0 (bn1 j) j j j)) (kY ⟨j,trivial⟩ (kY ⟨j,trivial⟩ trivial)) (sS (dT z3 j j j (byF iDec hc30) (oCa (xs:=[.v false [.sub 4 0 0 _ _],.v false [.im 0 _]]) (vs:=[(false,[.im 0 _])]) (v:=.v false [.im 0 _]) (by have q:=(L_laws_r8Has hx108);simp only [W,List.map_drop,List.map_take] at q;exact q) (.inl j) j kF12_28_2 j (ppC j (ppC j pp0)) j j pb0 j j j)) (kN j (kN j trivial)) (t j j (oPkF j j (byF iDec hc30) j)<|t j j (oMv j j)<|tT j j j j (byF iR hc31) (oMv j j)<|tT j j j j (byF iR hc31) (oMv j j)<|tT j j j j (byF iR hc31) (oMv j j)<|tT j j j j (byF iR hc31) (oMv j j)<|sK (O:=[4]) j j j (dT z3 j j j (byF iR hc31) (oIAO j hx117 sF28 j j j j))<|sK (O:=[4]) j j j (dT z3 j j j (byF iR hc31) (oLdE (cs:=[.im 0 _]) j tF2 j j j j (rd_get hx117) j j))<|sK (O:=[3]) j j j (dT z3 j j j (byF iR hc31) (oLd (cs:=[.im 0 _,.im 0 _,.own 3 0 2,.own 3 0 3]) j tF26 j j))<|sS (dT z3 j j j (byF iR hc31) (oSlO j hx114 sF28 j j j bn0 (bn1 j) j j j)) (kY ⟨j,trivial⟩ (kY ⟨j,trivial⟩ (kY ⟨j,trivial⟩ (kN j (kN j trivial))))) (sS (dT z3 j j j (byF iR hc31) (oCa (xs:=[.v true [.im 0 _,.im 0 _,.own 3 0 2,.own 3 0 3],.v false [.sub 4 0 0 _ _],.v false [.im 0 _]]) (vs:=[(false,[.im 0 _])]) (v:=.v false [.im 0 _]) (by have q:=(L_impl_IsTrapped hx119);simp only [W,List.map_drop,List.map_take] at q;exact q) (.inl j) j kF13_26_28_2 j (ppC j (ppC j (ppC j pp0))) j j pb0 j j j)) (kN j (kN j (kN j (kN j (kN j trivial))))) (t j j (oPkF j j (byF iR hc31) j)<|sD (by kernel_rfl)))))
         ·refine us<|gc h j iR (fun hc32 h=>?_) fun hc32 h=>?_
          ·refine gs<|g0 j j (q (oAsI j j)<|nl)<|us<|Go.ret (Unw.ret ?_)
           cases h
           exact ⟨j,(fo rF3 j)⟩
          ·refine Go.skip<|us<|gs<|?_
           obtain ⟨x124,hx124,h⟩:=bs h
           obtain ⟨x126,hx126,h⟩:=bs h
           obtain ⟨t_137_m19,hm35,h⟩:=bs h
           refine gd c3 j j j j (mk [(3,M 3),(4,H 4 0),(8,H 8 0),(12,iv i_12_l15),(137,bv t_137_m19)] [(3,Oa [C (I x17.Width),C (I x17.Height),Z (W 2 e_S_Point x17.Points),Z (W 2 e_S_Face x17.Faces)]),(4,Oc [Z (W 1 eI x20.1)]),(8,Oc [Z (W 1 eI x30.1)])]) ?_ ?_
           ·refine t j j (oMv j j)<|t j j (oMv j j)<|t j j (oMv j j)<|t j j (oIAO j hx124 sF28 j j j j)<|?_
            refine ic hm35 (fun hc33 hm35=>?_) fun hc33 hm35=>?_
            ·obtain ⟨x134,hx134,hm35⟩:=bs hm35
             obtain ⟨x131,hx131,hm35⟩:=bs hm35
             obtain ⟨x136,hx136,hm35⟩:=bs hm35
             cases hm35
             exact t j j (oLdE (cs:=[.im 0 _]) j tF2 j j j j (rd_get hx124) j j)<|sS (dN z3 j (oCa (xs:=[.v false [.own 8 0 0],.v false [.im 0 _]]) (vs:=[(false,[.im 0 _])]) (v:=.v false [.im 0 _]) (L_laws_r8Has hx126) (.inl j) j kF12_28_2 j (ppC j (ppC j pp0)) j j pb0 j j j)) trivial (t j j (oMv j j)<|tT j j j j (iR.2 hc33) (oMv j j)<|tT j j j j (iR.2 hc33) (oMv j j)<|tT j j j j (iR.2 hc33) (oMv j j)<|tT j j j j (iR.2 hc33) (oMv j j)<|sK (O:=[3]) j j j (dT z3 j j j (iR.2 hc33) (oLd (cs:=[.im 0 _,.im 0 _,.own 3 0 2,.own 3 0 3]) j tF26 j j))<|sK (O:=[4]) j j j (dT z3 j j j (iR.2 hc33) (oIAO j hx134 sF28 j j j j))<|sK (O:=[4]) j j j (dT z3 j j j (iR.2 hc33) (oLdE (cs:=[.im 0 _]) j tF2 j j j j (rd_get hx134) j j))<|sS (dT z3 j j j (iR.2 hc33) (oSlO j hx131 sF28 j j j bn0 (bn1 j) j j j)) (kY ⟨j,trivial⟩ (kY ⟨j,trivial⟩ (kY ⟨j,trivial⟩ trivial))) (sS (dT z3 j j j (iR.2 hc33) (oCa (xs:=[.v true [.im 0 _,.im 0 _,.own 3 0 2,.own 3 0 3],.v false [.sub 4 0 0 _ _],.v false [.im 0 _]]) (vs:=[(false,[.im 0 _])]) (v:=.v false [.im 0 _]) (by have q:=(L_impl_IsTrapped hx136);simp only [W,List.map_drop,List.map_take] at q;exact q) (.inl j) j kF13_26_28_2 j (ppC j (ppC j (ppC j pp0))) j j pb0 j j j)) (kN j (kN j (kN j trivial))) (t j j (oPkT j j (iR.2 hc33) j)<|sD (by kernel_rfl))))
            ·cases hm35
             exact t j j (oLdE (cs:=[.im 0 _]) j tF2 j j j j (rd_get hx124) j j)<|sS (dN z3 j (oCa (xs:=[.v false [.own 8 0 0],.v false [.im 0 _]]) (vs:=[(false,[.im 0 _])]) (v:=.v false [.im 0 _]) (L_laws_r8Has hx126) (.inl j) j kF12_28_2 j (ppC j (ppC j pp0)) j j pb0 j j j)) trivial (t j j (oMv j j)<|tF j j j j (byF iR hc33) j<|tF j j j j (byF iR hc33) j<|tF j j j j (byF iR hc33) j<|tF j j j j (byF iR hc33) j<|sK (O:=[3]) j j j (dF j j j (byF iR hc33) j)<|tF j j j j (byF iR hc33) j<|tF j j j j (byF iR hc33) j<|sS (dF j j j (byF iR hc33) j) (kY ⟨j,trivial⟩ trivial) (sS (dF j j j (byF iR hc33) j) (kN j trivial) (t j j (oPkF j j (byF iR hc33) j)<|sD (by kernel_rfl))))
           ·refine us<|gc h j iR (fun hc34 h=>?_) fun hc34 h=>?_
            ·refine gs<|g0 j j (q (oAsI j j)<|nl)<|us<|Go.ret (Unw.ret ?_)
             cases h
             exact ⟨j,(fo rF3 j)⟩
            ·refine Go.skip<|Unw.blk<|us<|g0 j j (q (oMv j j)<|q (oBi j j j j)<|q (oAsI j j)<|nl)<|Unw.nil<|?_
             cases h
             exact ⟨j,(by kernel_rfl)⟩
        ·refine Go.exit<|ux<|Unw.nil<|?_
         cases h
         exact ⟨j,(by kernel_rfl)⟩
       ·rintro ⟨e,st⟩ hp
        rcases o with u | r2
        ·dsimp only at h
         obtain ⟨he,hst⟩:=hp
         obtain rfl:e= .exit 0:=he
         refine Unw.blkx<|us<|gs<|g2 c3 j j hst (q (oAsI j j)<|nl)<|us<|Go.ret (Unw.ret ?_)
         cases h
         exact fr rF3 j
        ·dsimp only at h
         obtain ⟨he,hfin⟩:=hp
         obtain rfl:e= .ret:=he
         cases h
         exact Unw.ret (Fin_ret hfin)
end
end Go.Proofs.Ytdibfdcmbjaejaa
