/- The machine answers, at each function of the program that is reached, what its plain function answers: a further part. Conditions: none. -/
import Derived.Test.YtngbehdgjocndaaGreatTofLa
namespace Go.Proofs.YtngbehdgjocndaaGreat
open Go Go.Sim Go.Pw Go.Proofs
set_option linter.unusedVariables false
set_option linter.unusedSimpArgs false
set_option maxRecDepth 100000
set_option maxHeartbeats 4000000
noncomputable section
theorem V3 {p_0:(List ae)} {r:Bool} (h:CB p_0=some r):FX 180 [.im 2 false [W 2 af p_0]] (B0 [(false,[.im 0 (V r)])]):=by
 unfold CB at h
 refine gn 99 Tryz.func180 rfl ?_
 refine gs<|G0 (q (pA j)<|nl)<|us<|gs<|G0 (q (pM j)<|q (pI Ba j)<|q (pA j)<|nl)<|us<|gs<|gs<|gX VA j j j (mk [(0,D 2 (W 2 af p_0)),(3,iv (p_0.length:Int)),(17,bv ((decide ((p_0.length:Int) <3))||(decide ((p_0.length:Int) >24))))] []) ?_ ?_
 ·refine xq (pM j)<|xq (pB j)<|xq (pM j)<|?_
  by_cases hc1:(p_0.length:Int) <3
  ·exact xF rfl (ah.2 hc1)<|xF rfl (ah.2 hc1)<|xq (pT rfl (ah.2 hc1))<|xn (Eq.trans (b:=(fun FC:Bool=>mk [(0,D 2 (W 2 af p_0)),(3,iv (p_0.length:Int)),(17,bv FC)] []) true) (by kernel_rfl) (congrArg (fun FC:Bool=>mk [(0,D 2 (W 2 af p_0)),(3,iv (p_0.length:Int)),(17,bv FC)] []) (by first | rfl | (simp [(ah.2 hc1)];done) | (simp [(ah.2 hc1)];omega))))
  ·exact xG rfl (byF ah hc1) (pM rfl)<|xG rfl (byF ah hc1) (pB rfl)<|xq (pW rfl (byF ah hc1))<|xn (Eq.trans (b:=(fun FC:Bool=>mk [(0,D 2 (W 2 af p_0)),(3,iv (p_0.length:Int)),(17,bv FC)] []) (decide ((p_0.length:Int) >24))) (by kernel_rfl) (congrArg (fun FC:Bool=>mk [(0,D 2 (W 2 af p_0)),(3,iv (p_0.length:Int)),(17,bv FC)] []) (by first | rfl | (simp [(byF ah hc1)];done) | (simp [(byF ah hc1)];omega))))
 ·refine us<|gc h j (iOr ah ah) (fun hc2 h=>?_) fun hc2 h=>?_
  ·obtain rfl:=rn h
   exact gs<|G0 (q (pA j)<|nl)<|us<|gr XU j
  ·refine Go.skip<|us<|gs<|gs<|G0 (q (pA j)<|nl)<|us<|Go.block<|?_
   obtain ⟨o,hl,h⟩:=bs h
   refine gl VA j _ (fun (MR:Int)=>mk [(0,D 2 (W 2 af p_0)),(3,iv (p_0.length:Int)),(4,iv MR)] []) (fun (o:(Unit ⊕ Bool)) (p:Ex×St)=>match o with | (.inl _)=>p.1= .exit 0∧p.2.norm ([0,3],[])=mk [(0,D 2 (W 2 af p_0)),(3,iv (p_0.length:Int))] [] | (.inr r2)=>p.1= .ret∧fin Tryz.prog cfg 180 Tryz.f180 [.im 2 false [W 2 af p_0]] p.2=some (B0 [(false,[.im 0 (V r2)])])) hl (by kernel_rfl) ?_ ?_ ?_
   ·intro o p hp e
    rcases o with u | r2<;>exact nomatch (hp.1.symm.trans e)
   ·rintro MR o h
    unfold DW at h
    refine gs<|gs<|G0 (q (pM j)<|q (pM j)<|q (pB j)<|nl)<|us<|gc h j ah (fun apg h=>?_) fun apg h=>?_
    ·refine Go.skip<|us<|gs<|Go.block<|gs<|?_
     obtain ⟨x25,hx25,x27,hx27,h⟩:=b2 h
     refine G0 (q (pM j)<|q (pM j)<|q (pJ hx25 oZ j)<|q (pL (cs:=[.im 2 _,.im 2 _]) aC j)<|q (c1 (VZ hx27) acj j j j j)<|q (pU j)<|nl)<|us<|?_
     by_cases aia:x27=true
     ·rw [if_pos aia] at h
      refine gF j (nF (iR.2 aia))<|Go.skip<|Unw.blk<|us<|G0 (q (pM j)<|q (pB j)<|q (pA j)<|nl)<|Unw.nil<|?_
      cases h
      exact ⟨j,(by kernel_rfl)⟩
     ·rw [if_neg aia] at h
      refine gT j (nT (byF iR aia))<|gs<|G0 (q (pA j)<|nl)<|us<|Go.ret (Unw.ret ?_)
      cases h
      exact ⟨j,(fo XU j)⟩
    ·refine Go.exit<|ux<|Unw.nil<|?_
     cases h
     exact ⟨j,(by kernel_rfl)⟩
   ·rintro ⟨e,st⟩ hp
    rcases o with u | r2
    ·dsimp only at h
     obtain ⟨he,hst⟩:=hp
     obtain rfl:e= .exit 0:=he
     refine Unw.gz<|us<|gs<|gs<|g2 VA j j hst (q (pA j)<|nl)<|us<|Go.block<|?_
     obtain ⟨o,hl,h⟩:=bs h
     refine gl VA j _ (fun (lQ:Int)=>mk [(0,D 2 (W 2 af p_0)),(3,iv (p_0.length:Int)),(5,iv lQ)] []) (fun (o:(Unit ⊕ Bool)) (p:Ex×St)=>match o with | (.inl _)=>p.1= .exit 2∧p.2.norm ([0],[])=mk [(0,D 2 (W 2 af p_0))] [] | (.inr r2)=>p.1= .ret∧fin Tryz.prog cfg 180 Tryz.f180 [.im 2 false [W 2 af p_0]] p.2=some (B0 [(false,[.im 0 (V r2)])])) hl (by kernel_rfl) ?_ ?_ ?_
     ·intro o p hp e
      rcases o with u | r2<;>exact nomatch (hp.1.symm.trans e)
     ·rintro lQ o h
      unfold yD at h
      refine gs<|gs<|G0 (q (pM j)<|q (pM j)<|q (pB j)<|nl)<|us<|gc h j ah (fun zH h=>?_) fun zH h=>?_
      ·refine Go.skip<|us<|gs<|Go.block<|gs<|?_
       obtain ⟨x36,H9,h⟩:=bs h
       refine G0 (q (pM j)<|q (pM j)<|q (pJ H9 oZ j)<|q (pL (cs:=[.im 2 _,.im 2 _]) aC j)<|q (oAl j aC (tkI (tkI tk0)))<|q (pS aC j (tkI (tkI tk0)) j)<|nl)<|us<|gs<|?_
       obtain ⟨x42,akN,x43,Jg,h⟩:=b2 h
       refine g1 j j (mk [(0,D 2 (W 2 af p_0)),(3,iv (p_0.length:Int)),(5,iv lQ),(6,M 6)] [(6,Oa (G 0 (aN x36)))]) (q (pM j)<|q (pM j)<|q (pB j)<|q (pM j)<|q (Ja j akN j j)<|q (pJ Jg oZ j)<|q (pL (cs:=[.im 2 _,.im 2 _]) aC j)<|q (oAl j aC (tkI (tkI tk0)))<|q (pS aC j (tkI (tkI tk0)) j)<|nl)<|us<|gs<|?_
       obtain ⟨x49,afy,x50,J3,h⟩:=b2 h
       refine g1 j j (mk [(0,D 2 (W 2 af p_0)),(3,iv (p_0.length:Int)),(5,iv lQ),(6,M 6),(7,M 7)] [(6,Oa (G 0 (aN x36))),(7,Oa (G 0 (aN x43)))]) (q (pM j)<|q (pM j)<|q (pB j)<|q (pM j)<|q (Ja j afy j j)<|q (pJ J3 oZ j)<|q (pL (cs:=[.im 2 _,.im 2 _]) aC j)<|q (oAl j aC (tkI (tkI tk0)))<|q (pS aC j (tkI (tkI tk0)) j)<|nl)<|us<|gs<|gs<|?_
       obtain ⟨QB,NH,h⟩:=bs h
       refine gX VA j j (st1:=mk [(0,D 2 (W 2 af p_0)),(3,iv (p_0.length:Int)),(5,iv lQ),(6,M 6),(7,M 7),(8,M 8)] [(6,Oa (G 0 (aN x36))),(7,Oa (G 0 (aN x43))),(8,Oa (G 0 (aN x50)))]) (by kernel_rfl) (mk [(0,D 2 (W 2 af p_0)),(3,iv (p_0.length:Int)),(5,iv lQ),(6,M 6),(7,M 7),(66,bv QB)] [(6,Oa (G 0 (aN x36))),(7,Oa (G 0 (aN x43)))]) ?_ ?_
       ·refine xq (pL (cs:=[.im 0 _,.im 0 _]) aC j)<|xq (pL (cs:=[.im 0 _,.im 0 _]) aC j)<|xq (oBa j (VR x36.X x36.Y x43.X x43.Y) j j j j)<|xq (pM j)<|?_
        refine ic NH (fun hc34 NH=>?_) fun hc34 NH=>?_
        ·cases NH
         exact xF j ((BG iEq iEq).2 hc34)<|xF j ((BG iEq iEq).2 hc34)<|xF j ((BG iEq iEq).2 hc34)<|xF j ((BG iEq iEq).2 hc34)<|xq (pT j ((BG iEq iEq).2 hc34))<|xq (pM j)<|xF j j<|xF j j<|xF j j<|xF j j<|xq (pT j j)<|xn
        ·obtain ⟨x59,afz,NH⟩:=bs NH
         refine xG j (byF (BG iEq iEq) hc34) (pL (cs:=[.im 0 _,.im 0 _]) aC j)<|xG j (byF (BG iEq iEq) hc34) (pL (cs:=[.im 0 _,.im 0 _]) aC j)<|xG j (byF (BG iEq iEq) hc34) (pL (cs:=[.im 0 _,.im 0 _]) aC j)<|xG j (byF (BG iEq iEq) hc34) (c1 (vN afz) kZ j j j j)<|xq (pW j (byF (BG iEq iEq) hc34))<|xq (pM j)<|?_
         refine ic NH (fun sZ NH=>?_) fun sZ NH=>?_
         ·cases NH
          exact xF j (iR.2 sZ)<|xF j (iR.2 sZ)<|xF j (iR.2 sZ)<|xF j (iR.2 sZ)<|xq (pT j (iR.2 sZ))<|xn
         ·obtain ⟨x65,aph,NH⟩:=bs NH
          cases NH
          exact xG j (byF iR sZ) (pL (cs:=[.im 0 _,.im 0 _]) aC j)<|xG j (byF iR sZ) (pL (cs:=[.im 0 _,.im 0 _]) aC j)<|xG j (byF iR sZ) (pL (cs:=[.im 0 _,.im 0 _]) aC j)<|xG j (byF iR sZ) (c1 (vN aph) kZ j j j j)<|xq (pW j (byF iR sZ))<|xn
       ·refine us<|gc h j iR (fun afA h=>?_) fun afA h=>?_
        ·refine gs<|G0 (q (pA j)<|nl)<|us<|Go.ret (Unw.ret ?_)
         cases h
         exact ⟨j,(fo XU j)⟩
        ·refine Go.skip<|us<|gs<|G0 (q (pM j)<|q (pB j)<|q (pA j)<|nl)<|us<|Go.block<|?_
         obtain ⟨o,hl,h⟩:=bs h
         refine gl VA j _ (fun (BH:Int)=>mk [(0,D 2 (W 2 af p_0)),(3,iv (p_0.length:Int)),(5,iv lQ),(6,M 6),(7,M 7),(9,iv BH)] [(6,Oa (G 0 (aN x36))),(7,Oa (G 0 (aN x43)))]) (fun (o:(Unit ⊕ Bool)) (p:Ex×St)=>match o with | (.inl _)=>p.1= .exit 4∧p.2.norm ([0,3,5],[])=mk [(0,D 2 (W 2 af p_0)),(3,iv (p_0.length:Int)),(5,iv lQ)] [] | (.inr r2)=>p.1= .ret∧fin Tryz.prog cfg 180 Tryz.f180 [.im 2 false [W 2 af p_0]] p.2=some (B0 [(false,[.im 0 (V r2)])])) hl (by kernel_rfl) ?_ ?_ ?_
         ·intro o p hp e
          rcases o with u | r2<;>exact nomatch (hp.1.symm.trans e)
         ·rintro BH o h
          unfold yC at h
          refine gs<|gs<|G0 (q (pM j)<|q (pM j)<|q (pB j)<|nl)<|us<|gc h j ah (fun api h=>?_) fun api h=>?_
          ·refine Go.skip<|us<|gs<|Go.block<|gs<|?_
           obtain ⟨x77,apj,QA,NI,h⟩:=b2 h
           refine gd VA j j j j (mk [(0,D 2 (W 2 af p_0)),(3,iv (p_0.length:Int)),(5,iv lQ),(6,M 6),(7,M 7),(9,iv BH),(95,bv QA)] [(6,Oa (G 0 (aN x36))),(7,Oa (G 0 (aN x43)))]) ?_ ?_
           ·refine t1 j (pM j)<|t1 j (pB j)<|t1 j (pM j)<|t1 j (Ja j apj j j)<|t1 j (pM j)<|t1 j (pB j)<|t1 j (pM j)<|?_
            refine ic NI (fun xy NI=>?_) fun xy NI=>?_
            ·obtain ⟨x85,akO,NI⟩:=bs NI
             obtain ⟨x91,hx91,NI⟩:=bs NI
             obtain ⟨x92,apk,NI⟩:=bs NI
             obtain ⟨x94,apl,NI⟩:=bs NI
             cases NI
             exact t2 j (iNe.2 xy) (pL (cs:=[.im 0 _,.im 0 _]) aC j)<|t2 j (iNe.2 xy) (pL (cs:=[.im 0 _,.im 0 _]) aC j)<|t2 j (iNe.2 xy) (pM j)<|t2 j (iNe.2 xy) (pM j)<|t2 j (iNe.2 xy) (pJ akO oZ j)<|t2 j (iNe.2 xy) (pL (cs:=[.im 2 _,.im 2 _]) aC j)<|t2 j (iNe.2 xy) (pM j)<|t2 j (iNe.2 xy) (pM j)<|t2 j (iNe.2 xy) (pB j)<|t2 j (iNe.2 xy) (pM j)<|t2 j (iNe.2 xy) (Ja j hx91 j j)<|t2 j (iNe.2 xy) (pJ apk oZ j)<|t2 j (iNe.2 xy) (pL (cs:=[.im 2 _,.im 2 _]) aC j)<|s2 j (iNe.2 xy) (c1 (Rh apl) Gp j j j j) (t1 j (pT j (iNe.2 xy))<|sD (by kernel_rfl))
            ·cases NI
             exact t3 j (byF iNe xy)<|t3 j (byF iNe xy)<|t3 j (byF iNe xy)<|t3 j (byF iNe xy)<|t3 j (byF iNe xy)<|t3 j (byF iNe xy)<|t3 j (byF iNe xy)<|t3 j (byF iNe xy)<|t3 j (byF iNe xy)<|t3 j (byF iNe xy)<|t3 j (byF iNe xy)<|t3 j (byF iNe xy)<|t3 j (byF iNe xy)<|sS (dF j j j (byF iNe xy) j) trivial (t1 j (pW j (byF iNe xy))<|sD (by kernel_rfl))
           ·refine us<|gc h j iR (fun hc47 h=>?_) fun hc47 h=>?_
            ·refine gs<|G0 (q (pA j)<|nl)<|us<|Go.ret (Unw.ret ?_)
             cases h
             exact ⟨j,(fo XU j)⟩
            ·refine Go.skip<|Unw.blk<|us<|G0 (q (pM j)<|q (pB j)<|q (pA j)<|nl)<|Unw.nil<|?_
             cases h
             exact ⟨j,(by kernel_rfl)⟩
          ·refine Go.exit<|ux<|Unw.nil<|?_
           cases h
           exact ⟨j,(by kernel_rfl)⟩
         ·rintro ⟨e,st⟩ hp
          rcases o with u | r2
          ·dsimp only at h
           obtain ⟨he,hst⟩:=hp
           obtain rfl:e= .exit 4:=he
           refine Unw.gz<|Unw.blk<|us<|g2 VA j j hst (q (pM j)<|q (pB j)<|q (pA j)<|nl)<|Unw.nil<|?_
           cases h
           exact ⟨j,(by kernel_rfl)⟩
          ·dsimp only at h
           obtain ⟨he,hfin⟩:=hp
           obtain rfl:e= .ret:=he
           cases h
           exact Unw.ret ⟨j,hfin⟩
      ·refine Go.exit<|ux<|Unw.nil<|?_
       cases h
       exact ⟨j,(by kernel_rfl)⟩
     ·rintro ⟨e,st⟩ hp
      rcases o with u | r2
      ·dsimp only at h
       obtain ⟨he,hst⟩:=hp
       obtain rfl:e= .exit 2:=he
       refine Unw.gz<|us<|gs<|?_
       obtain ⟨x97,apm,h⟩:=bs h
       obtain rfl:=rn h
       exact g2 VA j j hst (q (pM j)<|q (c1 (Ri apm) ae1 j j j j)<|q (pB j)<|q (pA j)<|nl)<|us<|gr XU j
      ·dsimp only at h
       obtain ⟨he,hfin⟩:=hp
       obtain rfl:e= .ret:=he
       cases h
       exact Unw.ret (di hfin)
    ·dsimp only at h
     obtain ⟨he,hfin⟩:=hp
     obtain rfl:e= .ret:=he
     cases h
     exact Unw.ret (di hfin)
theorem FD {d_0:aB} {r:Bool} (h:CE d_0=some r):FX 127 [.im 2 false [.cp (au d_0) 0]] (B0 [(false,[.im 0 (V r)])]):=by
 unfold CE at h
 refine gn 96 Tryz.func127 rfl ?_
 refine gs<|G0 (q (pA j)<|nl)<|us<|gs<|gs<|?_
 obtain ⟨x10,wo,EW,Ia,h⟩:=b2 h
 refine gX c127 j j j (mk [(0,D 2 (.cp (au d_0) 0)),(32,bv EW)] []) ?_ ?_
 ·refine xq (pM j)<|xq (pN j)<|xq (f2 Fh j)<|xq (l2 tF2 j)<|xq (c1 (aX wo) bF j j j j)<|xq (pU j)<|xq (pM j)<|?_
  refine ic Ia (fun hc1 Ia=>?_) fun hc1 Ia=>?_
  ·obtain ⟨x17,xP,Ia⟩:=bs Ia
   refine xG j (nF (iR.2 hc1)) (pM j)<|xG j (nF (iR.2 hc1)) (pN j)<|xG j (nF (iR.2 hc1)) (f2 A7 j)<|xG j (nF (iR.2 hc1)) (l2 tF2 j)<|xG j (nF (iR.2 hc1)) (c1 (aX xP) bF j j j j)<|xG j (nF (iR.2 hc1)) (pU j)<|xq (pW j (nF (iR.2 hc1)))<|xq (pM j)<|?_
   refine ic Ia (fun hc2 Ia=>?_) fun hc2 Ia=>?_
   ·obtain ⟨x22,qp,Ia⟩:=bs Ia
    refine xG j (nF (iR.2 hc2)) (pM j)<|xG j (nF (iR.2 hc2)) (c1 (NF qp) acd j j j j)<|xG j (nF (iR.2 hc2)) (pU j)<|xq (pW j (nF (iR.2 hc2)))<|xq (pM j)<|?_
    refine ic Ia (fun hc3 Ia=>?_) fun hc3 Ia=>?_
    ·cases Ia
     exact xG j (nF (iR.2 hc3)) (pM j)<|xG j (nF (iR.2 hc3)) (pN j)<|xG j (nF (iR.2 hc3)) (f2 jD j)<|xG j (nF (iR.2 hc3)) (l2 yU j)<|xG j (nF (iR.2 hc3)) (pI FB j)<|xG j (nF (iR.2 hc3)) (pB j)<|xq (pW j (nF (iR.2 hc3)))<|xn
    ·cases Ia
     exact xF j (nT (byF iR hc3))<|xF j (nT (byF iR hc3))<|xF j (nT (byF iR hc3))<|xF j (nT (byF iR hc3))<|xF j (nT (byF iR hc3))<|xF j (nT (byF iR hc3))<|xq (pT j (nT (byF iR hc3)))<|xn
   ·cases Ia
    exact xF j (nT (byF iR hc2))<|xF j (nT (byF iR hc2))<|xF j (nT (byF iR hc2))<|xq (pT j (nT (byF iR hc2)))<|xq (pM j)<|xF j j<|xF j j<|xF j j<|xF j j<|xF j j<|xF j j<|xq (pT j j)<|xn
  ·cases Ia
   exact xF j (nT (byF iR hc1))<|xF j (nT (byF iR hc1))<|xF j (nT (byF iR hc1))<|xF j (nT (byF iR hc1))<|xF j (nT (byF iR hc1))<|xF j (nT (byF iR hc1))<|xq (pT j (nT (byF iR hc1)))<|xq (pM j)<|xF j j<|xF j j<|xF j j<|xq (pT j j)<|xq (pM j)<|xF j j<|xF j j<|xF j j<|xF j j<|xF j j<|xF j j<|xq (pT j j)<|xn
 ·refine us<|gc h j iR (fun hc4 h=>?_) fun hc4 h=>?_
  ·obtain rfl:=rn h
   exact gs<|G0 (q (pA j)<|nl)<|us<|gr abm j
  ·refine Go.skip<|us<|gs<|gs<|G0 (q (pA j)<|nl)<|us<|Go.block<|?_
   obtain ⟨o,hl,h⟩:=bs h
   refine gl c127 j _ (fun (eH:Int)=>mk [(0,D 2 (.cp (au d_0) 0)),(3,iv eH)] []) (fun (o:(Unit ⊕ Bool)) (p:Ex×St)=>match o with | (.inl _)=>p.1= .exit 0∧p.2.norm ([],[])=mk [] [] | (.inr r2)=>p.1= .ret∧fin Tryz.prog cfg 127 Tryz.f127 [.im 2 false [.cp (au d_0) 0]] p.2=some (B0 [(false,[.im 0 (V r2)])])) hl (by kernel_rfl) ?_ ?_ ?_
   ·intro o p hp e
    rcases o with u | r2<;>exact nomatch (hp.1.symm.trans e)
   ·rintro eH o h
    unfold sN at h
    refine gs<|gs<|G0 (q (pM j)<|q (pM j)<|q (pN j)<|q (f2 jD j)<|q (l2 yU j)<|q (pI FB j)<|q (pB j)<|nl)<|us<|gc h j ah (fun hc21 h=>?_) fun hc21 h=>?_
    ·refine Go.skip<|us<|gs<|Go.block<|gs<|gs<|?_
     obtain ⟨x47,Zi,x50,J3,h⟩:=b2 h
     obtain ⟨Vb,NJ,h⟩:=bs h
     refine gd c127 j j j j (mk [(0,D 2 (.cp (au d_0) 0)),(3,iv eH),(75,bv Vb)] []) ?_ ?_
     ·refine t1 j (pM j)<|t1 j (pN j)<|t1 j (f2 jD j)<|t1 j (l2 yU j)<|t1 j (pM j)<|t1 j (pJ Zi EH j)<|t1 j (f2 vM j)<|?_
      refine ic NJ (fun hc22 NJ=>?_) fun hc22 NJ=>?_
      ·refine ic NJ (fun lC NJ=>?_) fun lC NJ=>?_
       ·obtain ⟨x62,apn,NJ⟩:=bs NJ
        obtain ⟨x70,afB,NJ⟩:=bs NJ
        cases NJ
        exact t1 j (l2 tF9 j)<|s1 j (c1 (uQ J3) Ll j j j j) (t1 j (pU j)<|t1 j (pM j)<|t2 j (nF (iR.2 hc22)) (pM j)<|t2 j (nF (iR.2 hc22)) (pB j)<|t2 j (nF (iR.2 hc22)) (pM j)<|t2 j (ah.2 lC) (pM j)<|t2 j (ah.2 lC) (pN j)<|t2 j (ah.2 lC) (f2 jD j)<|t2 j (ah.2 lC) (l2 yU j)<|t2 j (ah.2 lC) (pM j)<|t2 j (ah.2 lC) (pB j)<|t2 j (ah.2 lC) (pJ apn EH j)<|t2 j (ah.2 lC) (f2 vM j)<|t2 j (ah.2 lC) (l2 tF9 j)<|t2 j (ah.2 lC) (pM j)<|t2 j (ah.2 lC) (pN j)<|t2 j (ah.2 lC) (f2 jD j)<|t2 j (ah.2 lC) (l2 yU j)<|t2 j (ah.2 lC) (pM j)<|t2 j (ah.2 lC) (pJ afB EH j)<|t2 j (ah.2 lC) (f2 vM j)<|t2 j (ah.2 lC) (l2 tF9 j)<|t2 j (ah.2 lC) (pB j)<|t2 j (nF (iR.2 hc22)) (pT j (ah.2 lC))<|t1 j (pW j (nF (iR.2 hc22)))<|sD (by kernel_rfl))
       ·cases NJ
        exact t1 j (l2 tF9 j)<|s1 j (c1 (uQ J3) Ll j j j j) (t1 j (pU j)<|t1 j (pM j)<|t2 j (nF (iR.2 hc22)) (pM j)<|t2 j (nF (iR.2 hc22)) (pB j)<|t2 j (nF (iR.2 hc22)) (pM j)<|t3 j (byF ah lC)<|t3 j (byF ah lC)<|t3 j (byF ah lC)<|t3 j (byF ah lC)<|t3 j (byF ah lC)<|t3 j (byF ah lC)<|t3 j (byF ah lC)<|t3 j (byF ah lC)<|t3 j (byF ah lC)<|t3 j (byF ah lC)<|t3 j (byF ah lC)<|t3 j (byF ah lC)<|t3 j (byF ah lC)<|t3 j (byF ah lC)<|t3 j (byF ah lC)<|t3 j (byF ah lC)<|t3 j (byF ah lC)<|t3 j (byF ah lC)<|t2 j (nF (iR.2 hc22)) (pW j (byF ah lC))<|t1 j (pW j (nF (iR.2 hc22)))<|sD (by kernel_rfl))
      ·cases NJ
       exact t1 j (l2 tF9 j)<|s1 j (c1 (uQ J3) Ll j j j j) (t1 j (pU j)<|t1 j (pM j)<|t3 j (nT (byF iR hc22))<|t3 j (nT (byF iR hc22))<|t3 j (nT (byF iR hc22))<|t4 j<|t4 j<|t4 j<|t4 j<|t4 j<|t4 j<|t4 j<|t4 j<|t4 j<|t4 j<|t4 j<|t4 j<|t4 j<|t4 j<|t4 j<|t4 j<|t4 j<|t4 j<|t3 j (nT (byF iR hc22))<|t1 j (pT j (nT (byF iR hc22)))<|sD (by kernel_rfl))
     ·refine us<|gc h j iR (fun hc24 h=>?_) fun hc24 h=>?_
      ·refine gs<|G0 (q (pA j)<|nl)<|us<|Go.ret (Unw.ret ?_)
       cases h
       exact ⟨j,(fo abm j)⟩
      ·refine Go.skip<|us<|gs<|?_
       obtain ⟨x83,apo,x86,apq,h⟩:=b2 h
       refine G0 (q (pM j)<|q (pM j)<|q (pN j)<|q (f2 jD j)<|q (l2 yU j)<|q (pM j)<|q (pJ apo EH j)<|q (f2 yT j)<|q (l2 l9 j)<|q (cR (vs:=[(false,[.own 86 0 0]),(false,[.im 0 _])]) (v:=.tup [(false,[.own 86 0 0]),(false,[.im 0 _])]) (c:=⟨.sh,0,_⟩) (cs:=[]) (H8 apq) Lm j j j j j)<|q (Qy j j)<|q (oEx j j j)<|q (oEx j j j)<|q (jU j j j j j)<|q (pA j)<|nl)<|us<|gs<|?_
       obtain ⟨Le,H7,h⟩:=bs h
       refine gX c127 j j j (mk [(0,D 2 (.cp (au d_0) 0)),(3,iv eH),(95,bv Le)] []) ?_ ?_
       ·refine xq (pM j)<|xq (pU j)<|xq (pM j)<|?_
        refine ic H7 (fun hc25 H7=>?_) fun hc25 H7=>?_
        ·obtain ⟨x93,hx93,H7⟩:=bs H7
         cases H7
         exact xG j (nF (iR.2 hc25)) (pM j)<|xG j (nF (iR.2 hc25)) (c1 (V3 hx93) ae4 j j j j)<|xG j (nF (iR.2 hc25)) (pU j)<|xq (pW j (nF (iR.2 hc25)))<|xn
        ·cases H7
         exact xF j (nT (byF iR hc25))<|xF j (nT (byF iR hc25))<|xF j (nT (byF iR hc25))<|xq (pT j (nT (byF iR hc25)))<|xn
       ·refine us<|gc h j iR (fun akM h=>?_) fun akM h=>?_
        ·refine gs<|G0 (q (pA j)<|nl)<|us<|Go.ret (Unw.ret ?_)
         cases h
         exact ⟨j,(fo abm j)⟩
        ·refine Go.skip<|Unw.blk<|us<|G0 (q (pM j)<|q (pB j)<|q (pA j)<|nl)<|Unw.nil<|?_
         cases h
         exact ⟨j,(by kernel_rfl)⟩
    ·refine Go.exit<|ux<|Unw.nil<|?_
     cases h
     exact ⟨j,(by kernel_rfl)⟩
   ·rintro ⟨e,st⟩ hp
    rcases o with u | r2
    ·dsimp only at h
     obtain ⟨he,hst⟩:=hp
     obtain rfl:e= .exit 0:=he
     obtain rfl:=rn h
     exact Unw.gz<|us<|gs<|g2 c127 j j hst (q (pA j)<|nl)<|us<|gr abm j
    ·dsimp only at h
     obtain ⟨he,hfin⟩:=hp
     obtain rfl:e= .ret:=he
     cases h
     exact Unw.ret (di hfin)
theorem OV {r:(List ByteArray)} (h:zO=some r):FX 248 [] (B0 [(false,[.ow 0 1 (List.map eS r)])]):=by
 unfold zO at h
 refine gn 2 Tryz.func248 rfl ?_
 obtain rfl:=rn h
 exact gs<|G0 (q (AP j j alX)<|nl)<|us<|gs<|G0 (q (oBS (es:=List.map eS ([(⟨#[97,115,104]⟩:ByteArray),(⟨#[98,101,101,99,104]⟩:ByteArray),(⟨#[98,105,114,99,104]⟩:ByteArray),(⟨#[99,104,101,114,114,121]⟩:ByteArray),(⟨#[101,98,111,110,121]⟩:ByteArray),(⟨#[104,111,108,108,121]⟩:ByteArray),(⟨#[109,97,112,108,101]⟩:ByteArray),(⟨#[111,97,107]⟩:ByteArray),(⟨#[114,111,115,101,119,111,111,100]⟩:ByteArray),(⟨#[119,97,108,110,117,116]⟩:ByteArray)]:List ByteArray)) j aiV j (ptC j (fxI fx0) j (ptC j (fxI fx0) j (ptC j (fxI fx0) j (ptC j (fxI fx0) j (ptC j (fxI fx0) j (ptC j (fxI fx0) j (ptC j (fxI fx0) j (ptC j (fxI fx0) j (ptC j (fxI fx0) j (ptC j (fxI fx0) j pt0)))))))))) (gY j fun _=>j))<|q (jU j j j j j)<|nl)<|us<|gr amV j
theorem Rj {jV:ByteArray} {r:Int} (h:vz jV=some r):FX 228 [.im 2 false [Y jV]] (B0 [(false,[.im 0 (I r)])]):=by
 unfold vz at h
 refine gn 19 Tryz.func228 rfl ?_
 refine gs<|G0 (q (pA j)<|nl)<|us<|gs<|?_
 obtain ⟨x5,hx5,h⟩:=bs h
 refine G0 (q (cR (vs:=[(false,[.own 5 0 0])]) (v:=.v false [.own 5 0 0]) (c:=⟨.sh,0,_⟩) (cs:=[]) (OV hx5) akv j j j j j)<|q (jU j j j j j)<|nl)<|us<|gs<|gs<|G0 (q (pA j)<|nl)<|us<|Go.block<|?_
 obtain ⟨o,hl,h⟩:=bs h
 refine gl c228 j _ (fun (bz:Int)=>mk [(0,sv jV),(3,H 3 0),(4,iv bz)] [(3,Oc [Z (W 1 eS x5)])]) (fun (o:(Unit ⊕ Int)) (p:Ex×St)=>match o with | (.inl _)=>p.1= .exit 0∧p.2.norm ([],[])=mk [] [] | (.inr r2)=>p.1= .ret∧fin Tryz.prog cfg 228 Tryz.f228 [.im 2 false [Y jV]] p.2=some (B0 [(false,[.im 0 (I r2)])])) hl (by kernel_rfl) ?_ ?_ ?_
 ·intro o p hp e
  rcases o with u | r2<;>exact nomatch (hp.1.symm.trans e)
 ·rintro bz o h
  unfold qY at h
  refine gs<|gs<|G0 (q (pM j)<|q (pM j)<|q (U7 j j anq j j j (fun e=>nomatch e))<|q (pB j)<|nl)<|us<|gc h j ah (fun hc5 h=>?_) fun hc5 h=>?_
  ·refine Go.skip<|us<|gs<|Go.block<|gs<|?_
   obtain ⟨x14,kR,h⟩:=bs h
   refine G0 (q (pM j)<|q (pM j)<|q (Gm j kR aiV j j j j)<|q (YK (cs:=[.im 0 _]) j tF9 j j j j (oH kR) j j)<|q (pM j)<|q (pB j)<|nl)<|us<|gc h j zu (fun hc6 h=>?_) fun hc6 h=>?_
   ·refine gs<|G0 (q (pM j)<|q (pA j)<|nl)<|us<|Go.ret (Unw.ret ?_)
    cases h
    exact ⟨j,(fo aiS j)⟩
   ·refine Go.skip<|Unw.blk<|us<|G0 (q (pM j)<|q (pB j)<|q (pA j)<|nl)<|Unw.nil<|?_
    cases h
    exact ⟨j,(by kernel_rfl)⟩
  ·refine Go.exit<|ux<|Unw.nil<|?_
   cases h
   exact ⟨j,(by kernel_rfl)⟩
 ·rintro ⟨e,st⟩ hp
  rcases o with u | r2
  ·dsimp only at h
   obtain ⟨he,hst⟩:=hp
   obtain rfl:e= .exit 0:=he
   obtain rfl:=rn h
   exact Unw.gz<|us<|gs<|g2 c228 j j hst (q (pA j)<|nl)<|us<|gr aiS j
  ·dsimp only at h
   obtain ⟨he,hfin⟩:=hp
   obtain rfl:e= .ret:=he
   cases h
   exact Unw.ret (di hfin)
theorem OW {r:(List (List Int))} (h:zQ=some r):FX 229 [] (B0 [(false,[.ow 0 1 (List.map (eL 1 eI) r)])]):=by
 unfold zQ at h
 refine gn 12 Tryz.func229 rfl ?_
 obtain rfl:=rn h
 exact gs<|G0 (q (AP j j aiD)<|nl)<|us<|gs<|G0 (q (oBS (es:=List.map eI ([20,40,310]:List Int)) j lS j (ptC j (fxI fx0) j (ptC j (fxI fx0) j (ptC j (fxI fx0) j pt0))) (gY j fun _=>j))<|q (oBS (es:=List.map eI ([35,45,410]:List Int)) j lS j (ptC j (fxI fx0) j (ptC j (fxI fx0) j (ptC j (fxI fx0) j pt0))) (gY j fun _=>j))<|q (oBS (es:=List.map eI ([15,33,280]:List Int)) j lS j (ptC j (fxI fx0) j (ptC j (fxI fx0) j (ptC j (fxI fx0) j pt0))) (gY j fun _=>j))<|q (oBS (es:=List.map eI ([50,36,240]:List Int)) j lS j (ptC j (fxI fx0) j (ptC j (fxI fx0) j (ptC j (fxI fx0) j pt0))) (gY j fun _=>j))<|q (oBS (es:=List.map eI ([95,85,270]:List Int)) j lS j (ptC j (fxI fx0) j (ptC j (fxI fx0) j (ptC j (fxI fx0) j pt0))) (gY j fun _=>j))<|q (oBS (es:=List.map eI ([5,35,370]:List Int)) j lS j (ptC j (fxI fx0) j (ptC j (fxI fx0) j (ptC j (fxI fx0) j pt0))) (gY j fun _=>j))<|q (oBS (es:=List.map eI ([10,42,290]:List Int)) j lS j (ptC j (fxI fx0) j (ptC j (fxI fx0) j (ptC j (fxI fx0) j pt0))) (gY j fun _=>j))<|q (oBS (es:=List.map eI ([40,40,330]:List Int)) j lS j (ptC j (fxI fx0) j (ptC j (fxI fx0) j (ptC j (fxI fx0) j pt0))) (gY j fun _=>j))<|q (oBS (es:=List.map eI ([80,60,220]:List Int)) j lS j (ptC j (fxI fx0) j (ptC j (fxI fx0) j (ptC j (fxI fx0) j pt0))) (gY j fun _=>j))<|q (oBS (es:=List.map eI ([70,38,260]:List Int)) j lS j (ptC j (fxI fx0) j (ptC j (fxI fx0) j (ptC j (fxI fx0) j pt0))) (gY j fun _=>j))<|q (oBS (es:=List.map (eL 1 eI) ([([20,40,310]:List Int),([35,45,410]:List Int),([15,33,280]:List Int),([50,36,240]:List Int),([95,85,270]:List Int),([5,35,370]:List Int),([10,42,290]:List Int),([40,40,330]:List Int),([80,60,220]:List Int),([70,38,260]:List Int)]:List (List Int))) j EF j (ptC j (fxO j j fx0) j (ptC j (fxO j j fx0) j (ptC j (fxO j j fx0) j (ptC j (fxO j j fx0) j (ptC j (fxO j j fx0) j (ptC j (fxO j j fx0) j (ptC j (fxO j j fx0) j (ptC j (fxO j j fx0) j (ptC j (fxO j j fx0) j (ptC j (fxO j j fx0) j pt0)))))))))) (Ld j))<|q (jU j j j j j)<|nl)<|us<|gr amQ j
theorem OX {g_0:Int} {r:Bool} (h:zS g_0=some r):FX 230 [.im 2 false [I g_0]] (B0 [(false,[.im 0 (V r)])]):=by
 unfold zS at h
 refine gn 5 Tryz.func230 rfl ?_
 refine gs<|G0 (q (pA j)<|nl)<|us<|gs<|?_
 obtain ⟨x4,hx4,h⟩:=bs h
 obtain rfl:=rn h
 exact G0 (q (pM j)<|q (c1 (aX hx4) bF j j j j)<|q (pA j)<|nl)<|us<|gr amR j
theorem LG {v_0:aI} {r:Bool} (h:uy v_0=some r):FX 181 [.im 2 false [.cp (kz v_0) 0]] (B0 [(false,[.im 0 (V r)])]):=by
 unfold uy at h
 refine gn 42 Tryz.func181 rfl ?_
 refine gs<|G0 (q (pA j)<|nl)<|us<|gs<|?_
 obtain ⟨x9,hx9,h⟩:=bs h
 refine G0 (q (pM j)<|q (pN j)<|q (f2 JU j)<|q (l2 tF9 j)<|q (c1 (Rj hx9) ahF j j j j)<|q (pA j)<|nl)<|us<|gs<|gs<|?_
 obtain ⟨Vd,hm5,h⟩:=bs h
 refine gX alO j j j (mk [(0,D 2 (.cp (kz v_0) 0)),(3,iv x9),(19,bv Vd)] []) ?_ ?_
 ·refine xq (pM j)<|xq (pB j)<|xq (pM j)<|?_
  refine ic hm5 (fun hc1 hm5=>?_) fun hc1 hm5=>?_
  ·cases hm5
   exact xF j (ah.2 hc1)<|xF j (ah.2 hc1)<|xF j (ah.2 hc1)<|xF j (ah.2 hc1)<|xF j (ah.2 hc1)<|xF j (ah.2 hc1)<|xq (pT j (ah.2 hc1))<|xn
  ·obtain ⟨x17,xP,hm5⟩:=bs hm5
   cases hm5
   exact xG j (byF ah hc1) (pM j)<|xG j (byF ah hc1) (pN j)<|xG j (byF ah hc1) (f2 Fq j)<|xG j (byF ah hc1) (l2 tF2 j)<|xG j (byF ah hc1) (c1 (aX xP) bF j j j j)<|xG j (byF ah hc1) (pU j)<|xq (pW j (byF ah hc1))<|xn
 ·refine us<|gc h j iR (fun hc2 h=>?_) fun hc2 h=>?_
  ·obtain rfl:=rn h
   exact gs<|G0 (q (pA j)<|nl)<|us<|gr aiJ j
  ·refine Go.skip<|us<|gs<|?_
   obtain ⟨x20,ny,x22,qp,h⟩:=b2 h
   obtain ⟨x24,hx24,h⟩:=bs h
   refine G0 (q (cR (vs:=[(false,[.own 20 0 0])]) (v:=.v false [.own 20 0 0]) (c:=⟨.sh,0,_⟩) (cs:=[]) (OW ny) aku j j j j j)<|q (pM j)<|q (Gm j qp EF j j j j)<|q (YK (cs:=[.im 0 _]) j l9 j j j j (oH qp) j j)<|q (pJ hx24 lS j)<|q (l0 tF2 j)<|q (pA j)<|nl)<|us<|gs<|?_
   obtain ⟨x34,hx34,YO,hm4,h⟩:=b2 h
   refine gX alO j j j (mk [(2,bv YO)] []) ?_ ?_
   ·refine xq (pM j)<|xq (pN j)<|xq (f2 Fq j)<|xq (l2 tF2 j)<|xq (pM j)<|xq (pB j)<|xq (pM j)<|xq (pB j)<|xq (c1 (aX hx34) bF j j j j)<|xq (pM j)<|?_
    refine ic hm4 (fun hc3 hm4=>?_) fun hc3 hm4=>?_
    ·obtain ⟨x40,VY,hm4⟩:=bs hm4
     cases hm4
     exact xG j (iR.2 hc3) (pM j)<|xG j (iR.2 hc3) (pN j)<|xG j (iR.2 hc3) (f2 JV j)<|xG j (iR.2 hc3) (l2 tF2 j)<|xG j (iR.2 hc3) (c1 (OX VY) ahG j j j j)<|xq (pT j (iR.2 hc3))<|xq (pA j)<|xn
    ·cases hm4
     exact xF j (byF iR hc3)<|xF j (byF iR hc3)<|xF j (byF iR hc3)<|xF j (byF iR hc3)<|xF j (byF iR hc3)<|xq (pW j (byF iR hc3))<|xq (pA j)<|xn
   ·obtain rfl:=rn h
    exact us<|gr aiJ j
theorem DR {aP:(List aI)} {r:Bool} (h:qZ aP=some r):FX 128 [.im 2 false [W 3 aK aP]] (B0 [(false,[.im 0 (V r)])]):=by
 unfold qZ at h
 refine gn 15 Tryz.func128 rfl ?_
 refine gs<|G0 (q (pA j)<|nl)<|us<|gs<|gs<|G0 (q (pA j)<|nl)<|us<|Go.block<|?_
 obtain ⟨o,hl,h⟩:=bs h
 refine gl alN j _ (fun (jM:Int)=>mk [(0,D 2 (W 3 aK aP)),(3,iv jM)] []) (fun (o:(Unit ⊕ Bool)) (p:Ex×St)=>match o with | (.inl _)=>p.1= .exit 0∧p.2.norm ([],[])=mk [] [] | (.inr r2)=>p.1= .ret∧fin Tryz.prog cfg 128 Tryz.f128 [.im 2 false [W 3 aK aP]] p.2=some (B0 [(false,[.im 0 (V r2)])])) hl (by kernel_rfl) ?_ ?_ ?_
 ·intro o p hp e
  rcases o with u | r2<;>exact nomatch (hp.1.symm.trans e)
 ·rintro jM o h
  unfold mM at h
  refine gs<|gs<|G0 (q (pM j)<|q (pM j)<|q (pI VV j)<|q (pB j)<|nl)<|us<|gc h j ah (fun hc5 h=>?_) fun hc5 h=>?_
  ·refine Go.skip<|us<|gs<|Go.block<|gs<|?_
   obtain ⟨x12,oP,x13,ou,h⟩:=b2 h
   refine G0 (q (pM j)<|q (pM j)<|q (pJ oP VS j)<|q (c1 (LG ou) Ux j j j j)<|q (pU j)<|nl)<|us<|?_
   by_cases hc6:x13=true
   ·rw [if_pos hc6] at h
    refine gF j (nF (iR.2 hc6))<|Go.skip<|Unw.blk<|us<|G0 (q (pM j)<|q (pB j)<|q (pA j)<|nl)<|Unw.nil<|?_
    cases h
    exact ⟨j,(by kernel_rfl)⟩
   ·rw [if_neg hc6] at h
    refine gT j (nT (byF iR hc6))<|gs<|G0 (q (pA j)<|nl)<|us<|Go.ret (Unw.ret ?_)
    cases h
    exact ⟨j,(fo aiF j)⟩
  ·refine Go.exit<|ux<|Unw.nil<|?_
   cases h
   exact ⟨j,(by kernel_rfl)⟩
 ·rintro ⟨e,st⟩ hp
  rcases o with u | r2
  ·dsimp only at h
   obtain ⟨he,hst⟩:=hp
   obtain rfl:e= .exit 0:=he
   obtain rfl:=rn h
   exact Unw.gz<|us<|gs<|g2 alN j j hst (q (pA j)<|nl)<|us<|gr aiF j
  ·dsimp only at h
   obtain ⟨he,hfin⟩:=hp
   obtain rfl:e= .ret:=he
   cases h
   exact Unw.ret (di hfin)
theorem yX {p_0:dJ} {r:Bool} (h:CG p_0=some r):FX 79 [.im 2 false [.cp (fB p_0) 0]] (B0 [(false,[.im 0 (V r)])]):=by
 unfold CG at h
 refine gn 28 Tryz.func79 rfl ?_
 refine gs<|G0 (q (pA j)<|nl)<|us<|gs<|?_
 obtain ⟨x6,hx6,fD,hm3,h⟩:=b2 h
 refine gd c79 j j j j (mk [(2,bv fD)] []) ?_ ?_
 ·refine t1 j (pM j)<|t1 j (pN j)<|?_
  refine ic hm3 (fun hc1 hm3=>?_) fun hc1 hm3=>?_
  ·obtain ⟨x12,oP,hm3⟩:=bs hm3
   refine ic hm3 (fun hc2 hm3=>?_) fun hc2 hm3=>?_
   ·cases hm3
    exact t1 j (f2 uP j)<|s1 j (c1 (FD hx6) Nc j j j j) (t1 j (pM j)<|t2 j (iR.2 hc1) (pM j)<|t2 j (iR.2 hc1) (pN j)<|t2 j (iR.2 hc1) (f2 D5 j)<|t2 j (iR.2 hc1) (l2 Tq j)<|s2 j (iR.2 hc1) (c1 (DR oP) XJ j j j j) (t1 j (pT j (iR.2 hc1))<|t1 j (pM j)<|t2 j (iR.2 hc2) (pM j)<|t2 j (iR.2 hc2) (pN j)<|t2 j (iR.2 hc2) (f2 D5 j)<|t2 j (iR.2 hc2) (l2 Tq j)<|t2 j (iR.2 hc2) (pI VV j)<|t2 j (iR.2 hc2) (pM j)<|t2 j (iR.2 hc2) (pN j)<|t2 j (iR.2 hc2) (f2 uP j)<|t2 j (iR.2 hc2) (f2 jD j)<|t2 j (iR.2 hc2) (l2 yU j)<|t2 j (iR.2 hc2) (pI FB j)<|t2 j (iR.2 hc2) (pB j)<|t1 j (pT j (iR.2 hc2))<|s1 j (pA j) (sD (by kernel_rfl))))
   ·cases hm3
    exact t1 j (f2 uP j)<|s1 j (c1 (FD hx6) Nc j j j j) (t1 j (pM j)<|t2 j (iR.2 hc1) (pM j)<|t2 j (iR.2 hc1) (pN j)<|t2 j (iR.2 hc1) (f2 D5 j)<|t2 j (iR.2 hc1) (l2 Tq j)<|s2 j (iR.2 hc1) (c1 (DR oP) XJ j j j j) (t1 j (pT j (iR.2 hc1))<|t1 j (pM j)<|t3 j (byF iR hc2)<|t3 j (byF iR hc2)<|t3 j (byF iR hc2)<|t3 j (byF iR hc2)<|t3 j (byF iR hc2)<|t3 j (byF iR hc2)<|t3 j (byF iR hc2)<|t3 j (byF iR hc2)<|t3 j (byF iR hc2)<|t3 j (byF iR hc2)<|t3 j (byF iR hc2)<|t3 j (byF iR hc2)<|t1 j (pW j (byF iR hc2))<|s1 j (pA j) (sD (by kernel_rfl))))
  ·cases hm3
   exact t1 j (f2 uP j)<|s1 j (c1 (FD hx6) Nc j j j j) (t1 j (pM j)<|t3 j (byF iR hc1)<|t3 j (byF iR hc1)<|t3 j (byF iR hc1)<|t3 j (byF iR hc1)<|sS (dF j j j (byF iR hc1) j) trivial (t1 j (pW j (byF iR hc1))<|t1 j (pM j)<|t3 j j<|t3 j j<|t3 j j<|t3 j j<|t3 j j<|t3 j j<|t3 j j<|t3 j j<|t3 j j<|t3 j j<|t3 j j<|t3 j j<|t1 j (pW j j)<|s1 j (pA j) (sD (by kernel_rfl))))
 ·obtain rfl:=rn h
  exact us<|gr ao4 j
theorem TE {b_0:dn} {yE:Int} {uz:Int} {r:Bool} (h:DC b_0 yE uz=some r):FX 182 [.im 2 false [.cp (xe b_0) 0],.im 2 false [I yE],.im 2 false [I uz]] (B0 [(false,[.im 0 (V r)])]):=by
 unfold DC at h
 refine gn 47 Tryz.func182 rfl ?_
 refine gs<|G0 (q (pA j)<|nl)<|us<|gs<|?_
 obtain ⟨x12,oP,fP,hm4,h⟩:=b2 h
 refine gd c182 j j j j (mk [(6,bv fP)] []) ?_ ?_
 ·refine t1 j (pM j)<|t1 j (pN j)<|t1 j (f2 BM j)<|t1 j (l2 tF2 j)<|?_
  refine ic hm4 (fun hc1 hm4=>?_) fun hc1 hm4=>?_
  ·obtain ⟨x19,ql,hm4⟩:=bs hm4
   refine ic hm4 (fun hc2 hm4=>?_) fun hc2 hm4=>?_
   ·obtain ⟨x32,hx32,hm4⟩:=bs hm4
    refine ic hm4 (fun hc3 hm4=>?_) fun hc3 hm4=>?_
    ·obtain ⟨x45,akP,hm4⟩:=bs hm4
     cases hm4
     exact t1 j (pM j)<|s1 j (c1 (aX oP) bF j j j j) (t1 j (pM j)<|t2 j (iR.2 hc1) (pM j)<|t2 j (iR.2 hc1) (pN j)<|t2 j (iR.2 hc1) (f2 Aa j)<|t2 j (iR.2 hc1) (l2 tF2 j)<|t2 j (iR.2 hc1) (pM j)<|s2 j (iR.2 hc1) (c1 (aX ql) bF j j j j) (t1 j (pT j (iR.2 hc1))<|t1 j (pM j)<|t2 j (iR.2 hc2) (pM j)<|t2 j (iR.2 hc2) (pN j)<|t2 j (iR.2 hc2) (f2 Fg j)<|t2 j (iR.2 hc2) (l2 tF2 j)<|t2 j (iR.2 hc2) (pM j)<|t2 j (iR.2 hc2) (pM j)<|t2 j (iR.2 hc2) (pN j)<|t2 j (iR.2 hc2) (f2 BM j)<|t2 j (iR.2 hc2) (l2 tF2 j)<|t2 j (iR.2 hc2) (pB j)<|s2 j (iR.2 hc2) (c1 (aX hx32) bF j j j j) (t1 j (pT j (iR.2 hc2))<|t1 j (pM j)<|t2 j (iR.2 hc3) (pM j)<|t2 j (iR.2 hc3) (pN j)<|t2 j (iR.2 hc3) (f2 IY j)<|t2 j (iR.2 hc3) (l2 tF2 j)<|t2 j (iR.2 hc3) (pM j)<|t2 j (iR.2 hc3) (pM j)<|t2 j (iR.2 hc3) (pN j)<|t2 j (iR.2 hc3) (f2 Aa j)<|t2 j (iR.2 hc3) (l2 tF2 j)<|t2 j (iR.2 hc3) (pB j)<|s2 j (iR.2 hc3) (c1 (aX akP) bF j j j j) (t1 j (pT j (iR.2 hc3))<|s1 j (pA j) (sD (by kernel_rfl))))))
    ·cases hm4
     exact t1 j (pM j)<|s1 j (c1 (aX oP) bF j j j j) (t1 j (pM j)<|t2 j (iR.2 hc1) (pM j)<|t2 j (iR.2 hc1) (pN j)<|t2 j (iR.2 hc1) (f2 Aa j)<|t2 j (iR.2 hc1) (l2 tF2 j)<|t2 j (iR.2 hc1) (pM j)<|s2 j (iR.2 hc1) (c1 (aX ql) bF j j j j) (t1 j (pT j (iR.2 hc1))<|t1 j (pM j)<|t2 j (iR.2 hc2) (pM j)<|t2 j (iR.2 hc2) (pN j)<|t2 j (iR.2 hc2) (f2 Fg j)<|t2 j (iR.2 hc2) (l2 tF2 j)<|t2 j (iR.2 hc2) (pM j)<|t2 j (iR.2 hc2) (pM j)<|t2 j (iR.2 hc2) (pN j)<|t2 j (iR.2 hc2) (f2 BM j)<|t2 j (iR.2 hc2) (l2 tF2 j)<|t2 j (iR.2 hc2) (pB j)<|s2 j (iR.2 hc2) (c1 (aX hx32) bF j j j j) (t1 j (pT j (iR.2 hc2))<|t1 j (pM j)<|t3 j (byF iR hc3)<|t3 j (byF iR hc3)<|t3 j (byF iR hc3)<|t3 j (byF iR hc3)<|t3 j (byF iR hc3)<|t3 j (byF iR hc3)<|t3 j (byF iR hc3)<|t3 j (byF iR hc3)<|t3 j (byF iR hc3)<|t3 j (byF iR hc3)<|sS (dF j j j (byF iR hc3) j) trivial (t1 j (pW j (byF iR hc3))<|s1 j (pA j) (sD (by kernel_rfl))))))
   ·cases hm4
    exact t1 j (pM j)<|s1 j (c1 (aX oP) bF j j j j) (t1 j (pM j)<|t2 j (iR.2 hc1) (pM j)<|t2 j (iR.2 hc1) (pN j)<|t2 j (iR.2 hc1) (f2 Aa j)<|t2 j (iR.2 hc1) (l2 tF2 j)<|t2 j (iR.2 hc1) (pM j)<|s2 j (iR.2 hc1) (c1 (aX ql) bF j j j j) (t1 j (pT j (iR.2 hc1))<|t1 j (pM j)<|t3 j (byF iR hc2)<|t3 j (byF iR hc2)<|t3 j (byF iR hc2)<|t3 j (byF iR hc2)<|t3 j (byF iR hc2)<|t3 j (byF iR hc2)<|t3 j (byF iR hc2)<|t3 j (byF iR hc2)<|t3 j (byF iR hc2)<|t3 j (byF iR hc2)<|sS (dF j j j (byF iR hc2) j) trivial (t1 j (pW j (byF iR hc2))<|t1 j (pM j)<|t3 j j<|t3 j j<|t3 j j<|t3 j j<|t3 j j<|t3 j j<|t3 j j<|t3 j j<|t3 j j<|t3 j j<|sS (dF j j j j j) trivial (t1 j (pW j j)<|s1 j (pA j) (sD (by kernel_rfl))))))
  ·cases hm4
   exact t1 j (pM j)<|s1 j (c1 (aX oP) bF j j j j) (t1 j (pM j)<|t3 j (byF iR hc1)<|t3 j (byF iR hc1)<|t3 j (byF iR hc1)<|t3 j (byF iR hc1)<|t3 j (byF iR hc1)<|sS (dF j j j (byF iR hc1) j) trivial (t1 j (pW j (byF iR hc1))<|t1 j (pM j)<|t3 j j<|t3 j j<|t3 j j<|t3 j j<|t3 j j<|t3 j j<|t3 j j<|t3 j j<|t3 j j<|t3 j j<|sS (dF j j j j j) trivial (t1 j (pW j j)<|t1 j (pM j)<|t3 j j<|t3 j j<|t3 j j<|t3 j j<|t3 j j<|t3 j j<|t3 j j<|t3 j j<|t3 j j<|t3 j j<|sS (dF j j j j j) trivial (t1 j (pW j j)<|s1 j (pA j) (sD (by kernel_rfl))))))
 ·obtain rfl:=rn h
  exact us<|gr amx j
theorem D9 {l_0:bU} {r:Bool} (h:Am l_0=some r):FX 129 [.im 2 false [.cp (gu l_0) 0]] (B0 [(false,[.im 0 (V r)])]):=by
 unfold Am at h
 refine gn 80 Tryz.func129 rfl ?_
 refine gs<|G0 (q (pA j)<|nl)<|us<|gs<|gs<|?_
 obtain ⟨x8,hx8,EW,gB,h⟩:=b2 h
 refine gX aeF j j j (mk [(0,D 2 (.cp (gu l_0) 0)),(32,bv EW)] []) ?_ ?_
 ·refine xq (pM j)<|xq (pN j)<|xq (f2 D6 j)<|xq (l2 tF9 j)<|xq (c1 (uQ hx8) Ll j j j j)<|xq (pU j)<|xq (pM j)<|?_
  refine ic gB (fun hc1 gB=>?_) fun hc1 gB=>?_
  ·obtain ⟨x15,rW,gB⟩:=bs gB
   refine xG j (nF (iR.2 hc1)) (pM j)<|xG j (nF (iR.2 hc1)) (pN j)<|xG j (nF (iR.2 hc1)) (f2 MZ j)<|xG j (nF (iR.2 hc1)) (l2 tF9 j)<|xG j (nF (iR.2 hc1)) (c1 (uQ rW) Ll j j j j)<|xG j (nF (iR.2 hc1)) (pU j)<|xq (pW j (nF (iR.2 hc1)))<|xq (pM j)<|?_
   refine ic gB (fun hc2 gB=>?_) fun hc2 gB=>?_
   ·obtain ⟨x23,oq,gB⟩:=bs gB
    refine xG j (nF (iR.2 hc2)) (pM j)<|xG j (nF (iR.2 hc2)) (pN j)<|xG j (nF (iR.2 hc2)) (f2 Na j)<|xG j (nF (iR.2 hc2)) (l2 tF2 j)<|xG j (nF (iR.2 hc2)) (c1 (aX oq) bF j j j j)<|xG j (nF (iR.2 hc2)) (pU j)<|xq (pW j (nF (iR.2 hc2)))<|xq (pM j)<|?_
    refine ic gB (fun hc3 gB=>?_) fun hc3 gB=>?_
    ·obtain ⟨x30,Jf,gB⟩:=bs gB
     cases gB
     exact xG j (nF (iR.2 hc3)) (pM j)<|xG j (nF (iR.2 hc3)) (pN j)<|xG j (nF (iR.2 hc3)) (f2 Hq j)<|xG j (nF (iR.2 hc3)) (c1 (LG Jf) Ux j j j j)<|xG j (nF (iR.2 hc3)) (pU j)<|xq (pW j (nF (iR.2 hc3)))<|xn
    ·cases gB
     exact xF j (nT (byF iR hc3))<|xF j (nT (byF iR hc3))<|xF j (nT (byF iR hc3))<|xF j (nT (byF iR hc3))<|xF j (nT (byF iR hc3))<|xq (pT j (nT (byF iR hc3)))<|xn
   ·cases gB
    exact xF j (nT (byF iR hc2))<|xF j (nT (byF iR hc2))<|xF j (nT (byF iR hc2))<|xF j (nT (byF iR hc2))<|xF j (nT (byF iR hc2))<|xF j (nT (byF iR hc2))<|xq (pT j (nT (byF iR hc2)))<|xq (pM j)<|xF j j<|xF j j<|xF j j<|xF j j<|xF j j<|xq (pT j j)<|xn
  ·cases gB
   exact xF j (nT (byF iR hc1))<|xF j (nT (byF iR hc1))<|xF j (nT (byF iR hc1))<|xF j (nT (byF iR hc1))<|xF j (nT (byF iR hc1))<|xF j (nT (byF iR hc1))<|xq (pT j (nT (byF iR hc1)))<|xq (pM j)<|xF j j<|xF j j<|xF j j<|xF j j<|xF j j<|xF j j<|xq (pT j j)<|xq (pM j)<|xF j j<|xF j j<|xF j j<|xF j j<|xF j j<|xq (pT j j)<|xn
 ·refine us<|gc h j iR (fun hc4 h=>?_) fun hc4 h=>?_
  ·obtain rfl:=rn h
   exact gs<|G0 (q (pA j)<|nl)<|us<|gr abn j
  ·refine Go.skip<|us<|gs<|gs<|?_
   obtain ⟨x37,Rk,Ve,CZ,h⟩:=b2 h
   refine gX aeF j j j (mk [(0,D 2 (.cp (gu l_0) 0)),(54,bv Ve)] []) ?_ ?_
   ·refine xq (pM j)<|xq (pN j)<|xq (f2 Hr j)<|xq (l2 tF2 j)<|xq (c1 (aX Rk) bF j j j j)<|xq (pU j)<|xq (pM j)<|?_
    refine ic CZ (fun hc5 CZ=>?_) fun hc5 CZ=>?_
    ·obtain ⟨x44,afC,CZ⟩:=bs CZ
     refine xG j (nF (iR.2 hc5)) (pM j)<|xG j (nF (iR.2 hc5)) (pN j)<|xG j (nF (iR.2 hc5)) (f2 Ht j)<|xG j (nF (iR.2 hc5)) (l2 tF2 j)<|xG j (nF (iR.2 hc5)) (c1 (aX afC) bF j j j j)<|xG j (nF (iR.2 hc5)) (pU j)<|xq (pW j (nF (iR.2 hc5)))<|xq (pM j)<|?_
     refine ic CZ (fun hc6 CZ=>?_) fun hc6 CZ=>?_
     ·cases CZ
      exact xG j (nF (iR.2 hc6)) (pM j)<|xG j (nF (iR.2 hc6)) (pN j)<|xG j (nF (iR.2 hc6)) (f2 Fv j)<|xG j (nF (iR.2 hc6)) (l2 VU j)<|xG j (nF (iR.2 hc6)) (pI X3 j)<|xG j (nF (iR.2 hc6)) (pB j)<|xq (pW j (nF (iR.2 hc6)))<|xn
     ·cases CZ
      exact xF j (nT (byF iR hc6))<|xF j (nT (byF iR hc6))<|xF j (nT (byF iR hc6))<|xF j (nT (byF iR hc6))<|xF j (nT (byF iR hc6))<|xF j (nT (byF iR hc6))<|xq (pT j (nT (byF iR hc6)))<|xn
    ·cases CZ
     exact xF j (nT (byF iR hc5))<|xF j (nT (byF iR hc5))<|xF j (nT (byF iR hc5))<|xF j (nT (byF iR hc5))<|xF j (nT (byF iR hc5))<|xF j (nT (byF iR hc5))<|xq (pT j (nT (byF iR hc5)))<|xq (pM j)<|xF j j<|xF j j<|xF j j<|xF j j<|xF j j<|xF j j<|xq (pT j j)<|xn
   ·refine us<|gc h j iR (fun hc7 h=>?_) fun hc7 h=>?_
    ·obtain rfl:=rn h
     exact gs<|G0 (q (pA j)<|nl)<|us<|gr abn j
    ·refine Go.skip<|us<|gs<|gs<|G0 (q (pA j)<|nl)<|us<|Go.block<|?_
     obtain ⟨o,hl,h⟩:=bs h
     refine gl aeF j _ (fun (JR:Int)=>mk [(0,D 2 (.cp (gu l_0) 0)),(3,iv JR)] []) (fun (o:(Unit ⊕ Bool)) (p:Ex×St)=>match o with | (.inl _)=>p.1= .exit 0∧p.2.norm ([],[])=mk [] [] | (.inr r2)=>p.1= .ret∧fin Tryz.prog cfg 129 Tryz.f129 [.im 2 false [.cp (gu l_0) 0]] p.2=some (B0 [(false,[.im 0 (V r2)])])) hl (by kernel_rfl) ?_ ?_ ?_
     ·intro o p hp e
      rcases o with u | r2<;>exact nomatch (hp.1.symm.trans e)
     ·rintro JR o h
      unfold uA at h
      refine gs<|gs<|G0 (q (pM j)<|q (pM j)<|q (pN j)<|q (f2 Fv j)<|q (l2 VU j)<|q (pI X3 j)<|q (pB j)<|nl)<|us<|gc h j ah (fun hc12 h=>?_) fun hc12 h=>?_
      ·refine Go.skip<|us<|gs<|Go.block<|gs<|?_
       obtain ⟨x69,akQ,x78,akR,h⟩:=b2 h
       refine gd aeF j j j j (mk [(0,D 2 (.cp (gu l_0) 0)),(3,iv JR),(79,bv (!x78))] []) (t1 j (pM j)<|t1 j (pN j)<|t1 j (f2 Fv j)<|t1 j (l2 VU j)<|t1 j (pM j)<|t1 j (pJ akQ Tn j)<|t1 j (pM j)<|t1 j (pN j)<|t1 j (f2 Hr j)<|t1 j (l2 tF2 j)<|t1 j (pM j)<|t1 j (pN j)<|t1 j (f2 Ht j)<|t1 j (l2 tF2 j)<|s1 j (c1 (TE akR) Tc j j j j) (t1 j (pU j)<|sD (by kernel_rfl)))<|us<|?_
       by_cases hc13:x78=true
       ·rw [if_pos hc13] at h
        refine gF j (nF (iR.2 hc13))<|Go.skip<|Unw.blk<|us<|G0 (q (pM j)<|q (pB j)<|q (pA j)<|nl)<|Unw.nil<|?_
        cases h
        exact ⟨j,(by kernel_rfl)⟩
       ·rw [if_neg hc13] at h
        refine gT j (nT (byF iR hc13))<|gs<|G0 (q (pA j)<|nl)<|us<|Go.ret (Unw.ret ?_)
        cases h
        exact ⟨j,(fo abn j)⟩
      ·refine Go.exit<|ux<|Unw.nil<|?_
       cases h
       exact ⟨j,(by kernel_rfl)⟩
     ·rintro ⟨e,st⟩ hp
      rcases o with u | r2
      ·dsimp only at h
       obtain ⟨he,hst⟩:=hp
       obtain rfl:e= .exit 0:=he
       obtain rfl:=rn h
       exact Unw.gz<|us<|gs<|g2 aeF j j hst (q (pA j)<|nl)<|us<|gr abn j
      ·dsimp only at h
       obtain ⟨he,hfin⟩:=hp
       obtain rfl:e= .ret:=he
       cases h
       exact Unw.ret (di hfin)
theorem BO {aP:(List bU)} {r:Bool} (h:CJ aP=some r):FX 80 [.im 2 false [W 9 aW aP]] (B0 [(false,[.im 0 (V r)])]):=by
 unfold CJ at h
 refine gn 36 Tryz.func80 rfl ?_
 refine gs<|G0 (q (pA j)<|nl)<|us<|gs<|gs<|G0 (q (pA j)<|nl)<|us<|Go.block<|?_
 obtain ⟨o,hl,h⟩:=bs h
 refine gl c80 j _ (fun (jM:Int)=>mk [(0,D 2 (W 9 aW aP)),(3,iv jM)] []) (fun (o:(Unit ⊕ Bool)) (p:Ex×St)=>match o with | (.inl _)=>p.1= .exit 0∧p.2.norm ([0],[])=mk [(0,D 2 (W 9 aW aP))] [] | (.inr r2)=>p.1= .ret∧fin Tryz.prog cfg 80 Tryz.f80 [.im 2 false [W 9 aW aP]] p.2=some (B0 [(false,[.im 0 (V r2)])])) hl (by kernel_rfl) ?_ ?_ ?_
 ·intro o p hp e
  rcases o with u | r2<;>exact nomatch (hp.1.symm.trans e)
 ·rintro jM o h
  unfold wH at h
  refine gs<|gs<|G0 (q (pM j)<|q (pM j)<|q (pI X0 j)<|q (pB j)<|nl)<|us<|gc h j ah (fun J4 h=>?_) fun J4 h=>?_
  ·refine Go.skip<|us<|gs<|Go.block<|gs<|?_
   obtain ⟨x12,oP,x13,ou,h⟩:=b2 h
   obtain ⟨EX,gB,h⟩:=bs h
   refine gd c80 j j j j (mk [(0,D 2 (W 9 aW aP)),(3,iv jM),(32,bv EX)] []) ?_ ?_
   ·refine t1 j (pM j)<|t1 j (pM j)<|?_
    refine ic gB (fun hc12 gB=>?_) fun hc12 gB=>?_
    ·refine ic gB (fun hc13 gB=>?_) fun hc13 gB=>?_
     ·obtain ⟨x22,qp,gB⟩:=bs gB
      obtain ⟨x27,hx27,gB⟩:=bs gB
      cases gB
      exact t1 j (pJ oP EI j)<|s1 j (c1 (D9 ou) Nh j j j j) (t1 j (pU j)<|t1 j (pM j)<|t2 j (nF (iR.2 hc12)) (pM j)<|t2 j (nF (iR.2 hc12)) (pB j)<|t2 j (nF (iR.2 hc12)) (pM j)<|t2 j (ah.2 hc13) (pM j)<|t2 j (ah.2 hc13) (pM j)<|t2 j (ah.2 hc13) (pB j)<|t2 j (ah.2 hc13) (pJ qp EI j)<|t2 j (ah.2 hc13) (f2 D6 j)<|t2 j (ah.2 hc13) (l2 tF9 j)<|t2 j (ah.2 hc13) (pM j)<|t2 j (ah.2 hc13) (pM j)<|t2 j (ah.2 hc13) (pJ hx27 EI j)<|t2 j (ah.2 hc13) (f2 D6 j)<|t2 j (ah.2 hc13) (l2 tF9 j)<|t2 j (ah.2 hc13) (pB j)<|t2 j (nF (iR.2 hc12)) (pT j (ah.2 hc13))<|t1 j (pW j (nF (iR.2 hc12)))<|sD (by kernel_rfl))
     ·cases gB
      exact t1 j (pJ oP EI j)<|s1 j (c1 (D9 ou) Nh j j j j) (t1 j (pU j)<|t1 j (pM j)<|t2 j (nF (iR.2 hc12)) (pM j)<|t2 j (nF (iR.2 hc12)) (pB j)<|t2 j (nF (iR.2 hc12)) (pM j)<|t3 j (byF ah hc13)<|t3 j (byF ah hc13)<|t3 j (byF ah hc13)<|t3 j (byF ah hc13)<|t3 j (byF ah hc13)<|t3 j (byF ah hc13)<|t3 j (byF ah hc13)<|t3 j (byF ah hc13)<|t3 j (byF ah hc13)<|t3 j (byF ah hc13)<|t3 j (byF ah hc13)<|t3 j (byF ah hc13)<|t2 j (nF (iR.2 hc12)) (pW j (byF ah hc13))<|t1 j (pW j (nF (iR.2 hc12)))<|sD (by kernel_rfl))
    ·cases gB
     exact t1 j (pJ oP EI j)<|s1 j (c1 (D9 ou) Nh j j j j) (t1 j (pU j)<|t1 j (pM j)<|t3 j (nT (byF iR hc12))<|t3 j (nT (byF iR hc12))<|t3 j (nT (byF iR hc12))<|t4 j<|t4 j<|t4 j<|t4 j<|t4 j<|t4 j<|t4 j<|t4 j<|t4 j<|t4 j<|t4 j<|t4 j<|t3 j (nT (byF iR hc12))<|t1 j (pT j (nT (byF iR hc12)))<|sD (by kernel_rfl))
   ·refine us<|gc h j iR (fun Rf h=>?_) fun Rf h=>?_
    ·refine gs<|G0 (q (pA j)<|nl)<|us<|Go.ret (Unw.ret ?_)
     cases h
     exact ⟨j,(fo am5 j)⟩
    ·refine Go.skip<|Unw.blk<|us<|G0 (q (pM j)<|q (pB j)<|q (pA j)<|nl)<|Unw.nil<|?_
     cases h
     exact ⟨j,(by kernel_rfl)⟩
  ·refine Go.exit<|ux<|Unw.nil<|?_
   cases h
   exact ⟨j,(by kernel_rfl)⟩
 ·rintro ⟨e,st⟩ hp
  rcases o with u | r2
  ·dsimp only at h
   obtain ⟨he,hst⟩:=hp
   obtain rfl:e= .exit 0:=he
   obtain rfl:=rn h
   exact Unw.gz<|us<|gs<|g2 c80 j j hst (q (pM j)<|q (pI X0 j)<|q (pB j)<|q (pA j)<|nl)<|us<|gr am5 j
  ·dsimp only at h
   obtain ⟨he,hfin⟩:=hp
   obtain rfl:e= .ret:=he
   cases h
   exact Unw.ret (di hfin)
theorem Rl {Vf:Int} {r:Bool} (h:EY Vf=some r):FX 183 [.im 2 false [I Vf]] (B0 [(false,[.im 0 (V r)])]):=by
 unfold EY at h
 refine gn 5 Tryz.func183 rfl ?_
 refine gs<|G0 (q (pA j)<|nl)<|us<|gs<|?_
 obtain ⟨x4,hx4,h⟩:=bs h
 obtain rfl:=rn h
 exact G0 (q (pM j)<|q (c1 (aX hx4) bF j j j j)<|q (pA j)<|nl)<|us<|gr amy j
theorem Ea {p_0:ak} {r:Bool} (h:DD p_0=some r):FX 130 [.im 2 false [.cp (dZ p_0) 0]] (B0 [(false,[.im 0 (V r)])]):=by
 unfold DD at h
 refine gn 36 Tryz.func130 rfl ?_
 refine gs<|G0 (q (pA j)<|nl)<|us<|gs<|?_
 obtain ⟨x7,hx7,fD,hm5,h⟩:=b2 h
 refine gX c130 j j j (mk [(2,bv fD)] []) ?_ ?_
 ·refine xq (pM j)<|xq (pN j)<|xq (f2 xg j)<|xq (l2 tF2 j)<|xq (c1 (aX hx7) bF j j j j)<|xq (pM j)<|?_
  refine ic hm5 (fun hc1 hm5=>?_) fun hc1 hm5=>?_
  ·obtain ⟨x13,ou,hm5⟩:=bs hm5
   refine xG j (iR.2 hc1) (pM j)<|xG j (iR.2 hc1) (pN j)<|xG j (iR.2 hc1) (f2 IU j)<|xG j (iR.2 hc1) (l2 tF2 j)<|xG j (iR.2 hc1) (c1 (aX ou) bF j j j j)<|xq (pT j (iR.2 hc1))<|xq (pM j)<|?_
   refine ic hm5 (fun hc2 hm5=>?_) fun hc2 hm5=>?_
   ·obtain ⟨x20,ny,hm5⟩:=bs hm5
    refine xG j (iR.2 hc2) (pM j)<|xG j (iR.2 hc2) (pN j)<|xG j (iR.2 hc2) (f2 IV j)<|xG j (iR.2 hc2) (l2 tF2 j)<|xG j (iR.2 hc2) (c1 (aX ny) bF j j j j)<|xq (pT j (iR.2 hc2))<|xq (pM j)<|?_
    refine ic hm5 (fun hc3 hm5=>?_) fun hc3 hm5=>?_
    ·obtain ⟨x27,hx27,hm5⟩:=bs hm5
     refine xG j (iR.2 hc3) (pM j)<|xG j (iR.2 hc3) (pN j)<|xG j (iR.2 hc3) (f2 IW j)<|xG j (iR.2 hc3) (l2 tF2 j)<|xG j (iR.2 hc3) (c1 (aX hx27) bF j j j j)<|xq (pT j (iR.2 hc3))<|xq (pM j)<|?_
     refine ic hm5 (fun hc4 hm5=>?_) fun hc4 hm5=>?_
     ·obtain ⟨x34,hx34,hm5⟩:=bs hm5
      cases hm5
      exact xG j (iR.2 hc4) (pM j)<|xG j (iR.2 hc4) (pN j)<|xG j (iR.2 hc4) (f2 IX j)<|xG j (iR.2 hc4) (l2 tF2 j)<|xG j (iR.2 hc4) (c1 (Rl hx34) ahC j j j j)<|xq (pT j (iR.2 hc4))<|xq (pA j)<|xn
     ·cases hm5
      exact xF j (byF iR hc4)<|xF j (byF iR hc4)<|xF j (byF iR hc4)<|xF j (byF iR hc4)<|xF j (byF iR hc4)<|xq (pW j (byF iR hc4))<|xq (pA j)<|xn
    ·cases hm5
     exact xF j (byF iR hc3)<|xF j (byF iR hc3)<|xF j (byF iR hc3)<|xF j (byF iR hc3)<|xF j (byF iR hc3)<|xq (pW j (byF iR hc3))<|xq (pM j)<|xF j j<|xF j j<|xF j j<|xF j j<|xF j j<|xq (pW j j)<|xq (pA j)<|xn
   ·cases hm5
    exact xF j (byF iR hc2)<|xF j (byF iR hc2)<|xF j (byF iR hc2)<|xF j (byF iR hc2)<|xF j (byF iR hc2)<|xq (pW j (byF iR hc2))<|xq (pM j)<|xF j j<|xF j j<|xF j j<|xF j j<|xF j j<|xq (pW j j)<|xq (pM j)<|xF j j<|xF j j<|xF j j<|xF j j<|xF j j<|xq (pW j j)<|xq (pA j)<|xn
  ·cases hm5
   exact xF j (byF iR hc1)<|xF j (byF iR hc1)<|xF j (byF iR hc1)<|xF j (byF iR hc1)<|xF j (byF iR hc1)<|xq (pW j (byF iR hc1))<|xq (pM j)<|xF j j<|xF j j<|xF j j<|xF j j<|xF j j<|xq (pW j j)<|xq (pM j)<|xF j j<|xF j j<|xF j j<|xF j j<|xF j j<|xq (pW j j)<|xq (pM j)<|xF j j<|xF j j<|xF j j<|xF j j<|xF j j<|xq (pW j j)<|xq (pA j)<|xn
 ·obtain rfl:=rn h
  exact us<|gr amb j
theorem FH {aP:(List ak)} {r:Bool} (h:CO aP=some r):FX 81 [.im 2 false [W 5 aj aP]] (B0 [(false,[.im 0 (V r)])]):=by
 unfold CO at h
 refine gn 36 Tryz.func81 rfl ?_
 refine gs<|G0 (q (pA j)<|nl)<|us<|gs<|gs<|G0 (q (pA j)<|nl)<|us<|Go.block<|?_
 obtain ⟨o,hl,h⟩:=bs h
 refine gl c81 j _ (fun (jM:Int)=>mk [(0,D 2 (W 5 aj aP)),(3,iv jM)] []) (fun (o:(Unit ⊕ Bool)) (p:Ex×St)=>match o with | (.inl _)=>p.1= .exit 0∧p.2.norm ([0],[])=mk [(0,D 2 (W 5 aj aP))] [] | (.inr r2)=>p.1= .ret∧fin Tryz.prog cfg 81 Tryz.f81 [.im 2 false [W 5 aj aP]] p.2=some (B0 [(false,[.im 0 (V r2)])])) hl (by kernel_rfl) ?_ ?_ ?_
 ·intro o p hp e
  rcases o with u | r2<;>exact nomatch (hp.1.symm.trans e)
 ·rintro jM o h
  unfold sO at h
  refine gs<|gs<|G0 (q (pM j)<|q (pM j)<|q (pI Tu j)<|q (pB j)<|nl)<|us<|gc h j ah (fun J4 h=>?_) fun J4 h=>?_
  ·refine Go.skip<|us<|gs<|Go.block<|gs<|?_
   obtain ⟨x12,oP,x13,ou,h⟩:=b2 h
   obtain ⟨EX,gB,h⟩:=bs h
   refine gd c81 j j j j (mk [(0,D 2 (W 5 aj aP)),(3,iv jM),(32,bv EX)] []) ?_ ?_
   ·refine t1 j (pM j)<|t1 j (pM j)<|?_
    refine ic gB (fun hc12 gB=>?_) fun hc12 gB=>?_
    ·refine ic gB (fun hc13 gB=>?_) fun hc13 gB=>?_
     ·obtain ⟨x22,qp,gB⟩:=bs gB
      obtain ⟨x27,hx27,gB⟩:=bs gB
      cases gB
      exact t1 j (pJ oP Gt j)<|s1 j (c1 (Ea ou) Nj j j j j) (t1 j (pU j)<|t1 j (pM j)<|t2 j (nF (iR.2 hc12)) (pM j)<|t2 j (nF (iR.2 hc12)) (pB j)<|t2 j (nF (iR.2 hc12)) (pM j)<|t2 j (ah.2 hc13) (pM j)<|t2 j (ah.2 hc13) (pM j)<|t2 j (ah.2 hc13) (pB j)<|t2 j (ah.2 hc13) (pJ qp Gt j)<|t2 j (ah.2 hc13) (f2 xg j)<|t2 j (ah.2 hc13) (l2 tF2 j)<|t2 j (ah.2 hc13) (pM j)<|t2 j (ah.2 hc13) (pM j)<|t2 j (ah.2 hc13) (pJ hx27 Gt j)<|t2 j (ah.2 hc13) (f2 xg j)<|t2 j (ah.2 hc13) (l2 tF2 j)<|t2 j (ah.2 hc13) (pB j)<|t2 j (nF (iR.2 hc12)) (pT j (ah.2 hc13))<|t1 j (pW j (nF (iR.2 hc12)))<|sD (by kernel_rfl))
     ·cases gB
      exact t1 j (pJ oP Gt j)<|s1 j (c1 (Ea ou) Nj j j j j) (t1 j (pU j)<|t1 j (pM j)<|t2 j (nF (iR.2 hc12)) (pM j)<|t2 j (nF (iR.2 hc12)) (pB j)<|t2 j (nF (iR.2 hc12)) (pM j)<|t3 j (byF ah hc13)<|t3 j (byF ah hc13)<|t3 j (byF ah hc13)<|t3 j (byF ah hc13)<|t3 j (byF ah hc13)<|t3 j (byF ah hc13)<|t3 j (byF ah hc13)<|t3 j (byF ah hc13)<|t3 j (byF ah hc13)<|t3 j (byF ah hc13)<|t3 j (byF ah hc13)<|t3 j (byF ah hc13)<|t2 j (nF (iR.2 hc12)) (pW j (byF ah hc13))<|t1 j (pW j (nF (iR.2 hc12)))<|sD (by kernel_rfl))
    ·cases gB
     exact t1 j (pJ oP Gt j)<|s1 j (c1 (Ea ou) Nj j j j j) (t1 j (pU j)<|t1 j (pM j)<|t3 j (nT (byF iR hc12))<|t3 j (nT (byF iR hc12))<|t3 j (nT (byF iR hc12))<|t4 j<|t4 j<|t4 j<|t4 j<|t4 j<|t4 j<|t4 j<|t4 j<|t4 j<|t4 j<|t4 j<|t4 j<|t3 j (nT (byF iR hc12))<|t1 j (pT j (nT (byF iR hc12)))<|sD (by kernel_rfl))
   ·refine us<|gc h j iR (fun Rf h=>?_) fun Rf h=>?_
    ·refine gs<|G0 (q (pA j)<|nl)<|us<|Go.ret (Unw.ret ?_)
     cases h
     exact ⟨j,(fo am6 j)⟩
    ·refine Go.skip<|Unw.blk<|us<|G0 (q (pM j)<|q (pB j)<|q (pA j)<|nl)<|Unw.nil<|?_
     cases h
     exact ⟨j,(by kernel_rfl)⟩
  ·refine Go.exit<|ux<|Unw.nil<|?_
   cases h
   exact ⟨j,(by kernel_rfl)⟩
 ·rintro ⟨e,st⟩ hp
  rcases o with u | r2
  ·dsimp only at h
   obtain ⟨he,hst⟩:=hp
   obtain rfl:e= .exit 0:=he
   obtain rfl:=rn h
   exact Unw.gz<|us<|gs<|g2 c81 j j hst (q (pM j)<|q (pI Tu j)<|q (pB j)<|q (pA j)<|nl)<|us<|gr am6 j
  ·dsimp only at h
   obtain ⟨he,hfin⟩:=hp
   obtain rfl:e= .ret:=he
   cases h
   exact Unw.ret (di hfin)
theorem C9 {d_0:aB} {k_1:Int} {r:Bool} (h:vC d_0 k_1=some r):FX 131 [.im 2 false [.cp (au d_0) 0],.im 2 false [I k_1]] (B0 [(false,[.im 0 (V r)])]):=by
 unfold vC at h
 refine gn 13 Tryz.func131 rfl ?_
 refine gs<|G0 (q (pA j)<|nl)<|us<|gs<|?_
 obtain ⟨x12,oP,h⟩:=bs h
 obtain rfl:=rn h
 exact G0 (q (pM j)<|q (pM j)<|q (pN j)<|q (f2 jD j)<|q (l2 yU j)<|q (pI FB j)<|q (pB j)<|q (c1 (aX oP) bF j j j j)<|q (pA j)<|nl)<|us<|gr amc j
theorem Ib {Lh:dJ} {DX:(List ak)} {r:Bool} (h:yF Lh DX=some r):FX 82 [.im 2 false [.cp (fB Lh) 0],.im 2 false [W 5 aj DX]] (B0 [(false,[.im 0 (V r)])]):=by
 unfold yF at h
 refine gn 22 Tryz.func82 rfl ?_
 refine gs<|G0 (q (pA j)<|nl)<|us<|gs<|gs<|G0 (q (pA j)<|nl)<|us<|Go.block<|?_
 obtain ⟨o,hl,h⟩:=bs h
 refine gl c82 j _ (fun (aF:Int)=>mk [(0,D 2 (.cp (fB Lh) 0)),(1,D 2 (W 5 aj DX)),(5,iv aF)] []) (fun (o:(Unit ⊕ Bool)) (p:Ex×St)=>match o with | (.inl _)=>p.1= .exit 0∧p.2.norm ([],[])=mk [] [] | (.inr r2)=>p.1= .ret∧fin Tryz.prog cfg 82 Tryz.f82 [.im 2 false [.cp (fB Lh) 0],.im 2 false [W 5 aj DX]] p.2=some (B0 [(false,[.im 0 (V r2)])])) hl (by kernel_rfl) ?_ ?_ ?_
 ·intro o p hp e
  rcases o with u | r2<;>exact nomatch (hp.1.symm.trans e)
 ·rintro aF o h
  unfold rf at h
  refine gs<|gs<|G0 (q (pM j)<|q (pM j)<|q (pI Tu j)<|q (pB j)<|nl)<|us<|gc h j ah (fun hc5 h=>?_) fun hc5 h=>?_
  ·refine Go.skip<|us<|gs<|Go.block<|gs<|?_
   obtain ⟨x17,xP,x20,ny,h⟩:=b2 h
   refine gd c82 j j j j (mk [(0,D 2 (.cp (fB Lh) 0)),(1,D 2 (W 5 aj DX)),(5,iv aF),(21,bv (!x20))] []) (t1 j (pM j)<|t1 j (pN j)<|t1 j (f2 uP j)<|t1 j (pM j)<|t1 j (pM j)<|t1 j (pJ xP Gt j)<|t1 j (f2 xg j)<|t1 j (l2 tF2 j)<|s1 j (c1 (C9 ny) Hu j j j j) (t1 j (pU j)<|sD (by kernel_rfl)))<|us<|?_
   by_cases hc6:x20=true
   ·rw [if_pos hc6] at h
    refine gF j (nF (iR.2 hc6))<|Go.skip<|Unw.blk<|us<|G0 (q (pM j)<|q (pB j)<|q (pA j)<|nl)<|Unw.nil<|?_
    cases h
    exact ⟨j,(by kernel_rfl)⟩
   ·rw [if_neg hc6] at h
    refine gT j (nT (byF iR hc6))<|gs<|G0 (q (pA j)<|nl)<|us<|Go.ret (Unw.ret ?_)
    cases h
    exact ⟨j,(fo am7 j)⟩
  ·refine Go.exit<|ux<|Unw.nil<|?_
   cases h
   exact ⟨j,(by kernel_rfl)⟩
 ·rintro ⟨e,st⟩ hp
  rcases o with u | r2
  ·dsimp only at h
   obtain ⟨he,hst⟩:=hp
   obtain rfl:e= .exit 0:=he
   obtain rfl:=rn h
   exact Unw.gz<|us<|gs<|g2 c82 j j hst (q (pA j)<|nl)<|us<|gr am7 j
  ·dsimp only at h
   obtain ⟨he,hfin⟩:=hp
   obtain rfl:e= .ret:=he
   cases h
   exact Unw.ret (di hfin)
theorem OY {r_0:jv} {r:Bool} (h:wI r_0=some r):FX 83 [.im 2 false [.cp (qj r_0) 0]] (B0 [(false,[.im 0 (V r)])]):=by
 unfold wI at h
 refine gn 29 Tryz.func83 rfl ?_
 refine gs<|G0 (q (pA j)<|nl)<|us<|gs<|?_
 obtain ⟨x7,hx7,fD,hm4,h⟩:=b2 h
 refine gX c83 j j j (mk [(2,bv fD)] []) ?_ ?_
 ·refine xq (pM j)<|xq (pN j)<|xq (f2 QH j)<|xq (l2 tF2 j)<|xq (c1 (aX hx7) bF j j j j)<|xq (pM j)<|?_
  refine ic hm4 (fun hc1 hm4=>?_) fun hc1 hm4=>?_
  ·obtain ⟨x13,ou,hm4⟩:=bs hm4
   refine xG j (iR.2 hc1) (pM j)<|xG j (iR.2 hc1) (pN j)<|xG j (iR.2 hc1) (f2 QI j)<|xG j (iR.2 hc1) (l2 tF2 j)<|xG j (iR.2 hc1) (c1 (aX ou) bF j j j j)<|xq (pT j (iR.2 hc1))<|xq (pM j)<|?_
   refine ic hm4 (fun hc2 hm4=>?_) fun hc2 hm4=>?_
   ·obtain ⟨x20,ny,hm4⟩:=bs hm4
    refine xG j (iR.2 hc2) (pM j)<|xG j (iR.2 hc2) (pN j)<|xG j (iR.2 hc2) (f2 QJ j)<|xG j (iR.2 hc2) (l2 tF2 j)<|xG j (iR.2 hc2) (c1 (aX ny) bF j j j j)<|xq (pT j (iR.2 hc2))<|xq (pM j)<|?_
    refine ic hm4 (fun hc3 hm4=>?_) fun hc3 hm4=>?_
    ·obtain ⟨x27,hx27,hm4⟩:=bs hm4
     cases hm4
     exact xG j (iR.2 hc3) (pM j)<|xG j (iR.2 hc3) (pN j)<|xG j (iR.2 hc3) (f2 QK j)<|xG j (iR.2 hc3) (l2 tF2 j)<|xG j (iR.2 hc3) (c1 (aX hx27) bF j j j j)<|xq (pT j (iR.2 hc3))<|xq (pA j)<|xn
    ·cases hm4
     exact xF j (byF iR hc3)<|xF j (byF iR hc3)<|xF j (byF iR hc3)<|xF j (byF iR hc3)<|xF j (byF iR hc3)<|xq (pW j (byF iR hc3))<|xq (pA j)<|xn
   ·cases hm4
    exact xF j (byF iR hc2)<|xF j (byF iR hc2)<|xF j (byF iR hc2)<|xF j (byF iR hc2)<|xF j (byF iR hc2)<|xq (pW j (byF iR hc2))<|xq (pM j)<|xF j j<|xF j j<|xF j j<|xF j j<|xF j j<|xq (pW j j)<|xq (pA j)<|xn
  ·cases hm4
   exact xF j (byF iR hc1)<|xF j (byF iR hc1)<|xF j (byF iR hc1)<|xF j (byF iR hc1)<|xF j (byF iR hc1)<|xq (pW j (byF iR hc1))<|xq (pM j)<|xF j j<|xF j j<|xF j j<|xF j j<|xF j j<|xq (pW j j)<|xq (pM j)<|xF j j<|xF j j<|xF j j<|xF j j<|xF j j<|xq (pW j j)<|xq (pA j)<|xn
 ·obtain rfl:=rn h
  exact us<|gr ao5 j
theorem xh {DF:Int} {Vg:Int} {r:Bool} (h:zT DF Vg=some r):FX 84 [.im 2 false [I DF],.im 2 false [I Vg]] (B0 [(false,[.im 0 (V r)])]):=by
 unfold zT at h
 refine gn 11 Tryz.func84 rfl ?_
 refine gs<|G0 (q (pA j)<|nl)<|us<|gs<|?_
 obtain ⟨x6,hx6,YP,hm2,h⟩:=b2 h
 refine gX c84 j j j (mk [(4,bv YP)] []) ?_ ?_
 ·refine xq (pM j)<|xq (c1 (aX hx6) bF j j j j)<|xq (pM j)<|?_
  refine ic hm2 (fun hc1 hm2=>?_) fun hc1 hm2=>?_
  ·obtain ⟨x9,hx9,hm2⟩:=bs hm2
   cases hm2
   exact xG j (iR.2 hc1) (pM j)<|xG j (iR.2 hc1) (c1 (aX hx9) bF j j j j)<|xq (pT j (iR.2 hc1))<|xq (pA j)<|xn
  ·cases hm2
   exact xF j (byF iR hc1)<|xF j (byF iR hc1)<|xq (pW j (byF iR hc1))<|xq (pA j)<|xn
 ·obtain rfl:=rn h
  exact us<|gr ao6 j
theorem Be {d_0:Int} {r:Bool} (h:zU d_0=some r):FX 85 [.im 2 false [I d_0]] (B0 [(false,[.im 0 (V r)])]):=by
 unfold zU at h
 refine gn 5 Tryz.func85 rfl ?_
 refine gs<|G0 (q (pA j)<|nl)<|us<|gs<|?_
 obtain ⟨x4,hx4,h⟩:=bs h
 obtain rfl:=rn h
 exact G0 (q (pM j)<|q (c1 (aX hx4) bF j j j j)<|q (pA j)<|nl)<|us<|gr ao7 j
theorem Bq {n_0:Int} {r:Bool} (h:tC n_0=some r):FX 86 [.im 2 false [I n_0]] (B0 [(false,[.im 0 (V r)])]):=by
 unfold tC at h
 refine gn 5 Tryz.func86 rfl ?_
 refine gs<|G0 (q (pA j)<|nl)<|us<|gs<|?_
 obtain ⟨x4,hx4,h⟩:=bs h
 obtain rfl:=rn h
 exact G0 (q (pM j)<|q (c1 (aX hx4) bF j j j j)<|q (pA j)<|nl)<|us<|gr ao8 j
theorem Ac {aP:(List Int)} {n_1:Int} {r:Bool} (h:qA aP n_1=some r):FX 99 [.im 2 false [W 1 eI aP],.im 2 false [I n_1]] (B0 [(false,[.im 0 (V r)])]):=by
 unfold qA at h
 refine gn 18 Tryz.func99 rfl ?_
 refine gs<|G0 (q (pA j)<|nl)<|us<|gs<|gs<|G0 (q (pA j)<|nl)<|us<|Go.block<|?_
 obtain ⟨o,hl,h⟩:=bs h
 refine gl c99 j _ (fun (aF:Int)=>mk [(0,D 2 (W 1 eI aP)),(1,iv n_1),(5,iv aF)] []) (fun (o:(Unit ⊕ Bool)) (p:Ex×St)=>match o with | (.inl _)=>p.1= .exit 0∧p.2.norm ([],[])=mk [] [] | (.inr r2)=>p.1= .ret∧fin Tryz.prog cfg 99 Tryz.f99 [.im 2 false [W 1 eI aP],.im 2 false [I n_1]] p.2=some (B0 [(false,[.im 0 (V r2)])])) hl (by kernel_rfl) ?_ ?_ ?_
 ·intro o p hp e
  rcases o with u | r2<;>exact nomatch (hp.1.symm.trans e)
 ·rintro aF o h
  unfold uB at h
  refine gs<|gs<|G0 (q (pM j)<|q (pM j)<|q (pI yV j)<|q (pB j)<|nl)<|us<|gc h j ah (fun hc5 h=>?_) fun hc5 h=>?_
  ·refine Go.skip<|us<|gs<|Go.block<|gs<|?_
   obtain ⟨x14,kR,h⟩:=bs h
   refine G0 (q (pM j)<|q (pM j)<|q (pJ kR lS j)<|q (l2 tF2 j)<|q (pM j)<|q (pB j)<|nl)<|us<|gc h j iEq (fun hc6 h=>?_) fun hc6 h=>?_
   ·refine gs<|G0 (q (pA j)<|nl)<|us<|Go.ret (Unw.ret ?_)
    cases h
    exact ⟨j,(fo ana j)⟩
   ·refine Go.skip<|Unw.blk<|us<|G0 (q (pM j)<|q (pB j)<|q (pA j)<|nl)<|Unw.nil<|?_
    cases h
    exact ⟨j,(by kernel_rfl)⟩
  ·refine Go.exit<|ux<|Unw.nil<|?_
   cases h
   exact ⟨j,(by kernel_rfl)⟩
 ·rintro ⟨e,st⟩ hp
  rcases o with u | r2
  ·dsimp only at h
   obtain ⟨he,hst⟩:=hp
   obtain rfl:e= .exit 0:=he
   obtain rfl:=rn h
   exact Unw.gz<|us<|gs<|g2 c99 j j hst (q (pA j)<|nl)<|us<|gr ana j
  ·dsimp only at h
   obtain ⟨he,hfin⟩:=hp
   obtain rfl:e= .ret:=he
   cases h
   exact Unw.ret (di hfin)
theorem OZ {d_0:aB} {dQ:(List Int)} {r:Bool} (h:wJ d_0 dQ=some r):FX 87 [.im 2 false [.cp (au d_0) 0],.im 2 false [W 1 eI dQ]] (B0 [(false,[.im 0 (V r)])]):=by
 unfold wJ at h
 refine gn 29 Tryz.func87 rfl ?_
 refine gs<|G0 (q (pA j)<|nl)<|us<|gs<|gs<|G0 (q (pA j)<|nl)<|us<|Go.block<|?_
 obtain ⟨o,hl,h⟩:=bs h
 refine gl c87 j _ (fun (aF:Int)=>mk [(0,D 2 (.cp (au d_0) 0)),(1,D 2 (W 1 eI dQ)),(5,iv aF)] []) (fun (o:(Unit ⊕ Bool)) (p:Ex×St)=>match o with | (.inl _)=>p.1= .exit 0∧p.2.norm ([],[])=mk [] [] | (.inr r2)=>p.1= .ret∧fin Tryz.prog cfg 87 Tryz.f87 [.im 2 false [.cp (au d_0) 0],.im 2 false [W 1 eI dQ]] p.2=some (B0 [(false,[.im 0 (V r2)])])) hl (by kernel_rfl) ?_ ?_ ?_
 ·intro o p hp e
  rcases o with u | r2<;>exact nomatch (hp.1.symm.trans e)
 ·rintro aF o h
  unfold pG at h
  refine gs<|gs<|G0 (q (pM j)<|q (pM j)<|q (pI yV j)<|q (pB j)<|nl)<|us<|gc h j ah (fun hc9 h=>?_) fun hc9 h=>?_
  ·refine Go.skip<|us<|gs<|Go.block<|gs<|?_
   obtain ⟨x15,rW,x17,xP,h⟩:=b2 h
   obtain ⟨Vh,yY,h⟩:=bs h
   refine gd c87 j j j j (mk [(0,D 2 (.cp (au d_0) 0)),(1,D 2 (W 1 eI dQ)),(5,iv aF),(28,bv Vh)] []) ?_ ?_
   ·refine t1 j (pM j)<|t1 j (pM j)<|t1 j (pM j)<|t1 j (pJ rW lS j)<|?_
    refine ic yY (fun gU yY=>?_) fun gU yY=>?_
    ·obtain ⟨x25,hx25,yY⟩:=bs yY
     obtain ⟨x22,qp,yY⟩:=bs yY
     obtain ⟨x27,hx27,yY⟩:=bs yY
     cases yY
     exact t1 j (l2 tF2 j)<|s1 j (c1 (C9 xP) Hu j j j j) (t1 j (pU j)<|t1 j (pM j)<|t2 j (nF (iR.2 gU)) (pM j)<|t2 j (nF (iR.2 gU)) (pM j)<|t2 j (nF (iR.2 gU)) (pM j)<|t2 j (nF (iR.2 gU)) (pM j)<|t2 j (nF (iR.2 gU)) (pJ hx25 lS j)<|t2 j (nF (iR.2 gU)) (l2 tF2 j)<|s2 j (nF (iR.2 gU)) (ad1 j qp lS j bn0 (bn1 j) j j) (s2 j (nF (iR.2 gU)) (c1 (Ac hx27) I5 j j j j) (t1 j (pW j (nF (iR.2 gU)))<|sD (by kernel_rfl))))
    ·cases yY
     exact t1 j (l2 tF2 j)<|s1 j (c1 (C9 xP) Hu j j j j) (t1 j (pU j)<|t1 j (pM j)<|t3 j (nT (byF iR gU))<|t3 j (nT (byF iR gU))<|t3 j (nT (byF iR gU))<|t3 j (nT (byF iR gU))<|t3 j (nT (byF iR gU))<|t3 j (nT (byF iR gU))<|sS (dF j j j (nT (byF iR gU)) j) trivial (sS (dF j j j (nT (byF iR gU)) j) trivial (t1 j (pT j (nT (byF iR gU)))<|sD (by kernel_rfl))))
   ·refine us<|gc h j iR (fun J4 h=>?_) fun J4 h=>?_
    ·refine gs<|G0 (q (pA j)<|nl)<|us<|Go.ret (Unw.ret ?_)
     cases h
     exact ⟨j,(fo am8 j)⟩
    ·refine Go.skip<|Unw.blk<|us<|G0 (q (pM j)<|q (pB j)<|q (pA j)<|nl)<|Unw.nil<|?_
     cases h
     exact ⟨j,(by kernel_rfl)⟩
  ·refine Go.exit<|ux<|Unw.nil<|?_
   cases h
   exact ⟨j,(by kernel_rfl)⟩
 ·rintro ⟨e,st⟩ hp
  rcases o with u | r2
  ·dsimp only at h
   obtain ⟨he,hst⟩:=hp
   obtain rfl:e= .exit 0:=he
   obtain rfl:=rn h
   exact Unw.gz<|us<|gs<|g2 c87 j j hst (q (pA j)<|nl)<|us<|gr am8 j
  ·dsimp only at h
   obtain ⟨he,hfin⟩:=hp
   obtain rfl:e= .ret:=he
   cases h
   exact Unw.ret (di hfin)
theorem V4 {j_0:fM} {r:Bool} (h:CP j_0=some r):FX 47 [.im 2 false [.cp (bI j_0) 0]] (B0 [(false,[.im 0 (V r)])]):=by
 unfold CP at h
 refine gn 76 Tryz.func47 rfl ?_
 refine gs<|G0 (q (pA j)<|nl)<|us<|gs<|gs<|?_
 obtain ⟨x6,hx6,Vj,Bf,h⟩:=b2 h
 refine gd c47 j j j j (mk [(0,D 2 (.cp (bI j_0) 0)),(41,bv Vj)] []) ?_ ?_
 ·refine t1 j (pM j)<|t1 j (pN j)<|?_
  refine ic Bf (fun hc1 Bf=>?_) fun hc1 Bf=>?_
  ·obtain ⟨x13,ou,Bf⟩:=bs Bf
   refine ic Bf (fun hc2 Bf=>?_) fun hc2 Bf=>?_
   ·obtain ⟨x21,xx,Bf⟩:=bs Bf
    refine ic Bf (fun hc3 Bf=>?_) fun hc3 Bf=>?_
    ·obtain ⟨x32,hx32,Bf⟩:=bs Bf
     refine ic Bf (fun hc4 Bf=>?_) fun hc4 Bf=>?_
     ·obtain ⟨x39,hx39,Bf⟩:=bs Bf
      cases Bf
      exact t1 j (f2 qQ j)<|s1 j (c1 (yX hx6) Hy j j j j) (t1 j (pU j)<|t1 j (pM j)<|t2 j (nF (iR.2 hc1)) (pM j)<|t2 j (nF (iR.2 hc1)) (pN j)<|t2 j (nF (iR.2 hc1)) (f2 Fj j)<|t2 j (nF (iR.2 hc1)) (l2 VT j)<|s2 j (nF (iR.2 hc1)) (c1 (BO ou) Pz j j j j) (t2 j (nF (iR.2 hc1)) (pU j)<|t1 j (pW j (nF (iR.2 hc1)))<|t1 j (pM j)<|t2 j (nF (iR.2 hc2)) (pM j)<|t2 j (nF (iR.2 hc2)) (pN j)<|t2 j (nF (iR.2 hc2)) (f2 A8 j)<|t2 j (nF (iR.2 hc2)) (l2 OL j)<|s2 j (nF (iR.2 hc2)) (c1 (FH xx) VP j j j j) (t2 j (nF (iR.2 hc2)) (pU j)<|t1 j (pW j (nF (iR.2 hc2)))<|t1 j (pM j)<|t2 j (nF (iR.2 hc3)) (pM j)<|t2 j (nF (iR.2 hc3)) (pN j)<|t2 j (nF (iR.2 hc3)) (f2 qQ j)<|t2 j (nF (iR.2 hc3)) (pM j)<|t2 j (nF (iR.2 hc3)) (pN j)<|t2 j (nF (iR.2 hc3)) (f2 A8 j)<|t2 j (nF (iR.2 hc3)) (l2 OL j)<|s2 j (nF (iR.2 hc3)) (c1 (Ib hx32) OA j j j j) (t2 j (nF (iR.2 hc3)) (pU j)<|t1 j (pW j (nF (iR.2 hc3)))<|t1 j (pM j)<|t2 j (nF (iR.2 hc4)) (pM j)<|t2 j (nF (iR.2 hc4)) (pN j)<|t2 j (nF (iR.2 hc4)) (f2 QL j)<|s2 j (nF (iR.2 hc4)) (c1 (OY hx39) ae9 j j j j) (t2 j (nF (iR.2 hc4)) (pU j)<|t1 j (pW j (nF (iR.2 hc4)))<|sD (by kernel_rfl))))))
     ·cases Bf
      exact t1 j (f2 qQ j)<|s1 j (c1 (yX hx6) Hy j j j j) (t1 j (pU j)<|t1 j (pM j)<|t2 j (nF (iR.2 hc1)) (pM j)<|t2 j (nF (iR.2 hc1)) (pN j)<|t2 j (nF (iR.2 hc1)) (f2 Fj j)<|t2 j (nF (iR.2 hc1)) (l2 VT j)<|s2 j (nF (iR.2 hc1)) (c1 (BO ou) Pz j j j j) (t2 j (nF (iR.2 hc1)) (pU j)<|t1 j (pW j (nF (iR.2 hc1)))<|t1 j (pM j)<|t2 j (nF (iR.2 hc2)) (pM j)<|t2 j (nF (iR.2 hc2)) (pN j)<|t2 j (nF (iR.2 hc2)) (f2 A8 j)<|t2 j (nF (iR.2 hc2)) (l2 OL j)<|s2 j (nF (iR.2 hc2)) (c1 (FH xx) VP j j j j) (t2 j (nF (iR.2 hc2)) (pU j)<|t1 j (pW j (nF (iR.2 hc2)))<|t1 j (pM j)<|t2 j (nF (iR.2 hc3)) (pM j)<|t2 j (nF (iR.2 hc3)) (pN j)<|t2 j (nF (iR.2 hc3)) (f2 qQ j)<|t2 j (nF (iR.2 hc3)) (pM j)<|t2 j (nF (iR.2 hc3)) (pN j)<|t2 j (nF (iR.2 hc3)) (f2 A8 j)<|t2 j (nF (iR.2 hc3)) (l2 OL j)<|s2 j (nF (iR.2 hc3)) (c1 (Ib hx32) OA j j j j) (t2 j (nF (iR.2 hc3)) (pU j)<|t1 j (pW j (nF (iR.2 hc3)))<|t1 j (pM j)<|t3 j (nT (byF iR hc4))<|t3 j (nT (byF iR hc4))<|t3 j (nT (byF iR hc4))<|sS (dF j j j (nT (byF iR hc4)) j) trivial (t3 j (nT (byF iR hc4))<|t1 j (pT j (nT (byF iR hc4)))<|sD (by kernel_rfl))))))
    ·cases Bf
     exact t1 j (f2 qQ j)<|s1 j (c1 (yX hx6) Hy j j j j) (t1 j (pU j)<|t1 j (pM j)<|t2 j (nF (iR.2 hc1)) (pM j)<|t2 j (nF (iR.2 hc1)) (pN j)<|t2 j (nF (iR.2 hc1)) (f2 Fj j)<|t2 j (nF (iR.2 hc1)) (l2 VT j)<|s2 j (nF (iR.2 hc1)) (c1 (BO ou) Pz j j j j) (t2 j (nF (iR.2 hc1)) (pU j)<|t1 j (pW j (nF (iR.2 hc1)))<|t1 j (pM j)<|t2 j (nF (iR.2 hc2)) (pM j)<|t2 j (nF (iR.2 hc2)) (pN j)<|t2 j (nF (iR.2 hc2)) (f2 A8 j)<|t2 j (nF (iR.2 hc2)) (l2 OL j)<|s2 j (nF (iR.2 hc2)) (c1 (FH xx) VP j j j j) (t2 j (nF (iR.2 hc2)) (pU j)<|t1 j (pW j (nF (iR.2 hc2)))<|t1 j (pM j)<|t3 j (nT (byF iR hc3))<|t3 j (nT (byF iR hc3))<|t3 j (nT (byF iR hc3))<|t3 j (nT (byF iR hc3))<|t3 j (nT (byF iR hc3))<|t3 j (nT (byF iR hc3))<|t3 j (nT (byF iR hc3))<|sS (dF j j j (nT (byF iR hc3)) j) trivial (t3 j (nT (byF iR hc3))<|t1 j (pT j (nT (byF iR hc3)))<|t1 j (pM j)<|t3 j j<|t3 j j<|t3 j j<|sS (dF j j j j j) trivial (t3 j j<|t1 j (pT j j)<|sD (by kernel_rfl))))))
   ·cases Bf
    exact t1 j (f2 qQ j)<|s1 j (c1 (yX hx6) Hy j j j j) (t1 j (pU j)<|t1 j (pM j)<|t2 j (nF (iR.2 hc1)) (pM j)<|t2 j (nF (iR.2 hc1)) (pN j)<|t2 j (nF (iR.2 hc1)) (f2 Fj j)<|t2 j (nF (iR.2 hc1)) (l2 VT j)<|s2 j (nF (iR.2 hc1)) (c1 (BO ou) Pz j j j j) (t2 j (nF (iR.2 hc1)) (pU j)<|t1 j (pW j (nF (iR.2 hc1)))<|t1 j (pM j)<|t3 j (nT (byF iR hc2))<|t3 j (nT (byF iR hc2))<|t3 j (nT (byF iR hc2))<|t3 j (nT (byF iR hc2))<|sS (dF j j j (nT (byF iR hc2)) j) trivial (t3 j (nT (byF iR hc2))<|t1 j (pT j (nT (byF iR hc2)))<|t1 j (pM j)<|t3 j j<|t3 j j<|t3 j j<|t3 j j<|t3 j j<|t3 j j<|t3 j j<|sS (dF j j j j j) trivial (t3 j j<|t1 j (pT j j)<|t1 j (pM j)<|t3 j j<|t3 j j<|t3 j j<|sS (dF j j j j j) trivial (t3 j j<|t1 j (pT j j)<|sD (by kernel_rfl))))))
  ·cases Bf
   exact t1 j (f2 qQ j)<|s1 j (c1 (yX hx6) Hy j j j j) (t1 j (pU j)<|t1 j (pM j)<|t3 j (nT (byF iR hc1))<|t3 j (nT (byF iR hc1))<|t3 j (nT (byF iR hc1))<|t3 j (nT (byF iR hc1))<|sS (dF j j j (nT (byF iR hc1)) j) trivial (t3 j (nT (byF iR hc1))<|t1 j (pT j (nT (byF iR hc1)))<|t1 j (pM j)<|t3 j j<|t3 j j<|t3 j j<|t3 j j<|sS (dF j j j j j) trivial (t3 j j<|t1 j (pT j j)<|t1 j (pM j)<|t3 j j<|t3 j j<|t3 j j<|t3 j j<|t3 j j<|t3 j j<|t3 j j<|sS (dF j j j j j) trivial (t3 j j<|t1 j (pT j j)<|t1 j (pM j)<|t3 j j<|t3 j j<|t3 j j<|sS (dF j j j j j) trivial (t3 j j<|t1 j (pT j j)<|sD (by kernel_rfl))))))
 ·refine us<|gc h j iR (fun hc5 h=>?_) fun hc5 h=>?_
  ·obtain rfl:=rn h
   exact gs<|G0 (q (pA j)<|nl)<|us<|gr amY j
  ·refine Go.skip<|us<|gs<|?_
   obtain ⟨x50,J3,YQ,hm9,h⟩:=b2 h
   refine gd c47 j j j j (mk [(2,bv YQ)] []) ?_ ?_
   ·refine t1 j (pM j)<|t1 j (pN j)<|t1 j (f2 QM j)<|t1 j (l2 tF2 j)<|t1 j (pM j)<|t1 j (pN j)<|t1 j (f2 QN j)<|?_
    refine ic hm9 (fun hc6 hm9=>?_) fun hc6 hm9=>?_
    ·obtain ⟨x56,Zk,hm9⟩:=bs hm9
     refine ic hm9 (fun hc7 hm9=>?_) fun hc7 hm9=>?_
     ·obtain ⟨x63,acE,hm9⟩:=bs hm9
      refine ic hm9 (fun hc8 hm9=>?_) fun hc8 hm9=>?_
      ·obtain ⟨x74,apr,hm9⟩:=bs hm9
       cases hm9
       exact t1 j (l2 tF2 j)<|s1 j (c1 (xh J3) Lu j j j j) (t1 j (pM j)<|t2 j (iR.2 hc6) (pM j)<|t2 j (iR.2 hc6) (pN j)<|t2 j (iR.2 hc6) (f2 JS j)<|t2 j (iR.2 hc6) (l2 tF2 j)<|s2 j (iR.2 hc6) (c1 (Be Zk) Zh j j j j) (t1 j (pT j (iR.2 hc6))<|t1 j (pM j)<|t2 j (iR.2 hc7) (pM j)<|t2 j (iR.2 hc7) (pN j)<|t2 j (iR.2 hc7) (f2 MX j)<|t2 j (iR.2 hc7) (l2 tF2 j)<|s2 j (iR.2 hc7) (c1 (Bq acE) afa j j j j) (t1 j (pT j (iR.2 hc7))<|t1 j (pM j)<|t2 j (iR.2 hc8) (pM j)<|t2 j (iR.2 hc8) (pN j)<|t2 j (iR.2 hc8) (f2 qQ j)<|t2 j (iR.2 hc8) (f2 uP j)<|t2 j (iR.2 hc8) (pM j)<|t2 j (iR.2 hc8) (pN j)<|t2 j (iR.2 hc8) (f2 zF j)<|t2 j (iR.2 hc8) (l2 l9 j)<|s2 j (iR.2 hc8) (c1 (OZ apr) XP j j j j) (t1 j (pT j (iR.2 hc8))<|s1 j (pA j) (sD (by kernel_rfl))))))
      ·cases hm9
       exact t1 j (l2 tF2 j)<|s1 j (c1 (xh J3) Lu j j j j) (t1 j (pM j)<|t2 j (iR.2 hc6) (pM j)<|t2 j (iR.2 hc6) (pN j)<|t2 j (iR.2 hc6) (f2 JS j)<|t2 j (iR.2 hc6) (l2 tF2 j)<|s2 j (iR.2 hc6) (c1 (Be Zk) Zh j j j j) (t1 j (pT j (iR.2 hc6))<|t1 j (pM j)<|t2 j (iR.2 hc7) (pM j)<|t2 j (iR.2 hc7) (pN j)<|t2 j (iR.2 hc7) (f2 MX j)<|t2 j (iR.2 hc7) (l2 tF2 j)<|s2 j (iR.2 hc7) (c1 (Bq acE) afa j j j j) (t1 j (pT j (iR.2 hc7))<|t1 j (pM j)<|t3 j (byF iR hc8)<|t3 j (byF iR hc8)<|t3 j (byF iR hc8)<|t3 j (byF iR hc8)<|t3 j (byF iR hc8)<|t3 j (byF iR hc8)<|t3 j (byF iR hc8)<|t3 j (byF iR hc8)<|sS (dF j j j (byF iR hc8) j) trivial (t1 j (pW j (byF iR hc8))<|s1 j (pA j) (sD (by kernel_rfl))))))
     ·cases hm9
      exact t1 j (l2 tF2 j)<|s1 j (c1 (xh J3) Lu j j j j) (t1 j (pM j)<|t2 j (iR.2 hc6) (pM j)<|t2 j (iR.2 hc6) (pN j)<|t2 j (iR.2 hc6) (f2 JS j)<|t2 j (iR.2 hc6) (l2 tF2 j)<|s2 j (iR.2 hc6) (c1 (Be Zk) Zh j j j j) (t1 j (pT j (iR.2 hc6))<|t1 j (pM j)<|t3 j (byF iR hc7)<|t3 j (byF iR hc7)<|t3 j (byF iR hc7)<|t3 j (byF iR hc7)<|sS (dF j j j (byF iR hc7) j) trivial (t1 j (pW j (byF iR hc7))<|t1 j (pM j)<|t3 j j<|t3 j j<|t3 j j<|t3 j j<|t3 j j<|t3 j j<|t3 j j<|t3 j j<|sS (dF j j j j j) trivial (t1 j (pW j j)<|s1 j (pA j) (sD (by kernel_rfl))))))
    ·cases hm9
     exact t1 j (l2 tF2 j)<|s1 j (c1 (xh J3) Lu j j j j) (t1 j (pM j)<|t3 j (byF iR hc6)<|t3 j (byF iR hc6)<|t3 j (byF iR hc6)<|t3 j (byF iR hc6)<|sS (dF j j j (byF iR hc6) j) trivial (t1 j (pW j (byF iR hc6))<|t1 j (pM j)<|t3 j j<|t3 j j<|t3 j j<|t3 j j<|sS (dF j j j j j) trivial (t1 j (pW j j)<|t1 j (pM j)<|t3 j j<|t3 j j<|t3 j j<|t3 j j<|t3 j j<|t3 j j<|t3 j j<|t3 j j<|sS (dF j j j j j) trivial (t1 j (pW j j)<|s1 j (pA j) (sD (by kernel_rfl))))))
   ·obtain rfl:=rn h
    exact us<|gr amY j
theorem O0 {j_0:fM} {r:(List ai)} (h:DY j_0=some r):FX 48 [.im 2 false [.cp (bI j_0) 0]] (B0 [(false,[.ow 0 3 (List.map aA r)])]):=by
 unfold DY at h
 cases h
theorem Rn {j_0:fM} {r:(List ai)} (h:EZ j_0=some r):FX 49 [.im 2 false [.cp (bI j_0) 0]] (B0 [(false,[.ow 0 3 (List.map aA r)])]):=by
 unfold EZ at h
 cases h
theorem TF {j_0:fM} {r:(List ai)} (h:G7 j_0=some r):FX 50 [.im 2 false [.cp (bI j_0) 0]] (B0 [(false,[.ow 0 3 (List.map aA r)])]):=by
 unfold G7 at h
 cases h
theorem LH {lq:(List Int)} {i_1:Int} {k_2:Int} {r:Bool} (h:rq lq i_1 k_2=some r):FX 199 [.im 2 false [W 1 eI lq],.im 2 false [I i_1],.im 2 false [I k_2]] (B0 [(false,[.im 0 (V r)])]):=by
 unfold rq at h
 refine gn 46 Tryz.func199 rfl ?_
 refine gs<|G0 (q (pA j)<|nl)<|us<|gs<|gs<|G0 (q (pA j)<|nl)<|us<|Go.block<|?_
 obtain ⟨o,hl,h⟩:=bs h
 refine gl akc j _ (fun (G8:Int)=>mk [(0,D 2 (W 1 eI lq)),(1,iv i_1),(2,iv k_2),(7,iv G8)] []) (fun (o:(Unit ⊕ Bool)) (p:Ex×St)=>match o with | (.inl _)=>p.1= .exit 0∧p.2.norm ([],[])=mk [] [] | (.inr r2)=>p.1= .ret∧fin Tryz.prog cfg 199 Tryz.f199 [.im 2 false [W 1 eI lq],.im 2 false [I i_1],.im 2 false [I k_2]] p.2=some (B0 [(false,[.im 0 (V r2)])])) hl (by kernel_rfl) ?_ ?_ ?_
 ·intro o p hp e
  rcases o with u | r2<;>exact nomatch (hp.1.symm.trans e)
 ·rintro G8 o h
  unfold mO at h
  refine gs<|gs<|G0 (q (pM j)<|q (pM j)<|q (pI yV j)<|q (pB j)<|nl)<|us<|gc h j ah (fun afD h=>?_) fun afD h=>?_
  ·refine Go.skip<|us<|gs<|Go.block<|gs<|?_
   obtain ⟨x18,zG,h⟩:=bs h
   refine G0 (q (pM j)<|q (pM j)<|q (pJ zG lS j)<|q (l2 tF2 j)<|q (pA j)<|nl)<|us<|gs<|?_
   obtain ⟨x25,hx25,x26,Ny,h⟩:=b2 h
   refine G0 (q (pM j)<|q (pM j)<|q (pB j)<|q (pM j)<|q (pI yV j)<|q (Ja j hx25 j j)<|q (pJ Ny lS j)<|q (l2 tF2 j)<|q (pA j)<|nl)<|us<|gs<|?_
   obtain ⟨Vk,Ic,h⟩:=bs h
   refine gX akc j j j (mk [(0,D 2 (W 1 eI lq)),(1,iv i_1),(2,iv k_2),(7,iv G8),(45,bv Vk)] []) ?_ ?_
   ·refine xq (pM j)<|xq (pM j)<|xq (pB j)<|xq (pM j)<|?_
    refine ic Ic (fun hc16 Ic=>?_) fun hc16 Ic=>?_
    ·refine xG j (iEq.2 hc16) (pM j)<|xG j (iEq.2 hc16) (pM j)<|xG j (iEq.2 hc16) (pB j)<|xq (pT j (iEq.2 hc16))<|xq (pM j)<|?_
     refine ic Ic (fun hc17 Ic=>?_) fun hc17 Ic=>?_
     ·cases Ic
      exact xF j (iEq.2 hc17)<|xF j (iEq.2 hc17)<|xF j (iEq.2 hc17)<|xF j (iEq.2 hc17)<|oW j j j<|oW j j j<|oW j j j<|xF j (iEq.2 hc17)<|xq (pT j (iEq.2 hc17))<|xn
     ·refine xG j (byF iEq hc17) (pM j)<|xG j (byF iEq hc17) (pM j)<|xG j (byF iEq hc17) (pB j)<|xG j (byF iEq hc17) (pM j)<|?_
      refine ic Ic (fun hc18 Ic=>?_) fun hc18 Ic=>?_
      ·cases Ic
       exact xG j (iEq.2 hc18) (pM j)<|xG j (iEq.2 hc18) (pM j)<|xG j (iEq.2 hc18) (pB j)<|xG j (byF iEq hc17) (pT j (iEq.2 hc18))<|xq (pW j (byF iEq hc17))<|xn
      ·cases Ic
       exact xF j (byF iEq hc18)<|xF j (byF iEq hc18)<|xF j (byF iEq hc18)<|xG j (byF iEq hc17) (pW j (byF iEq hc18))<|xq (pW j (byF iEq hc17))<|xn
    ·refine xF j (byF iEq hc16)<|xF j (byF iEq hc16)<|xF j (byF iEq hc16)<|xq (pW j (byF iEq hc16))<|xq (pM j)<|xG j j (pM j)<|xG j j (pM j)<|xG j j (pB j)<|xG j j (pM j)<|?_
     refine ic Ic (fun hc19 Ic=>?_) fun hc19 Ic=>?_
     ·cases Ic
      exact xG j (iEq.2 hc19) (pM j)<|xG j (iEq.2 hc19) (pM j)<|xG j (iEq.2 hc19) (pB j)<|xG j j (pT j (iEq.2 hc19))<|xq (pW j j)<|xn
     ·cases Ic
      exact xF j (byF iEq hc19)<|xF j (byF iEq hc19)<|xF j (byF iEq hc19)<|xG j j (pW j (byF iEq hc19))<|xq (pW j j)<|xn
   ·refine us<|gc h j iR (fun JZ h=>?_) fun JZ h=>?_
    ·refine gs<|G0 (q (pA j)<|nl)<|us<|Go.ret (Unw.ret ?_)
     cases h
     exact ⟨j,(fo aiM j)⟩
    ·refine Go.skip<|Unw.blk<|us<|G0 (q (pM j)<|q (pB j)<|q (pA j)<|nl)<|Unw.nil<|?_
     cases h
     exact ⟨j,(by kernel_rfl)⟩
  ·refine Go.exit<|ux<|Unw.nil<|?_
   cases h
   exact ⟨j,(by kernel_rfl)⟩
 ·rintro ⟨e,st⟩ hp
  rcases o with u | r2
  ·dsimp only at h
   obtain ⟨he,hst⟩:=hp
   obtain rfl:e= .exit 0:=he
   obtain rfl:=rn h
   exact Unw.gz<|us<|gs<|g2 akc j j hst (q (pA j)<|nl)<|us<|gr aiM j
  ·dsimp only at h
   obtain ⟨he,hfin⟩:=hp
   obtain rfl:e= .ret:=he
   cases h
   exact Unw.ret (di hfin)
theorem Ro {d_0:aB} {k_1:Int} {r:(List Int)} (h:yG d_0 k_1=some r):FX 147 [.im 2 false [.cp (au d_0) 0],.im 2 false [I k_1]] (B0 [(false,[.ow 0 1 (List.map eI r)])]):=by
 unfold yG at h
 refine gn 69 Tryz.func147 rfl ?_
 refine gs<|G0 (q (AP j j alZ)<|nl)<|us<|gs<|G0 (q (oBS (es:=List.map eI ([]:List Int)) j lS j pt0 (gY j fun _=>j))<|q (jU j j j j j)<|nl)<|us<|gs<|?_
 obtain ⟨x16,hx16,h⟩:=bs h
 refine G0 (q (pM j)<|q (pN j)<|q (f2 jD j)<|q (l2 yU j)<|q (pM j)<|q (pJ hx16 EH j)<|q (f2 yT j)<|q (l2 l9 j)<|q (pA j)<|nl)<|us<|gs<|gs<|G0 (q (pA j)<|nl)<|us<|Go.block<|?_
 obtain ⟨o,hl,h⟩:=bs h
 refine gl ab3 j _ (fun (s:(Int×(List Int)))=>match s with | (jW,jX)=>mk [(0,D 2 (.cp (au d_0) 0)),(1,iv k_1),(5,H 5 0),(6,D 2 (W 1 eI x16.Ring)),(7,iv jW)] [(5,Oc [Z (W 1 eI jX)])]) (fun (DI:(List Int)) (p:Ex×St)=>p.1= .exit 0∧p.2.norm ([5],[5])=mk [(5,H 5 0)] [(5,Oc [Z (W 1 eI DI)])]) hl (by kernel_rfl) ?_ ?_ ?_
 ·intro o p hp e
  exact nomatch (hp.1.symm.trans e)
 ·rintro ⟨jW,jX⟩ o h
  unfold rD at h
  dsimp only at h
  refine gs<|gs<|G0 (q (pM j)<|q (pM j)<|q (pN j)<|q (f2 jD j)<|q (l2 yU j)<|q (pI FB j)<|q (pB j)<|nl)<|us<|gc h j ah (fun afD h=>?_) fun afD h=>?_
  ·refine Go.skip<|us<|gs<|Go.join (fun st=>∃Eu,ru jW Eu=some o∧st.norm ([0,1,5,6,7],[5])=mk [(0,D 2 (.cp (au d_0) 0)),(1,iv k_1),(5,H 5 0),(6,D 2 (W 1 eI x16.Ring)),(7,iv jW)] [(5,Oc [Z (W 1 eI Eu)])]) ?_ ?_
   ·rintro st ⟨Eu,h,hst⟩
    unfold ru at h
    refine us<|g2 ab3 j j hst (q (pM j)<|q (pB j)<|q (pA j)<|nl)<|Unw.nil<|?_
    cases h
    exact ⟨j,(by kernel_rfl)⟩
   ·intro K22
    refine Go.block<|gs<|G0 (q (pA j)<|nl)<|us<|gs<|gs<|G0 (q (pA j)<|nl)<|us<|Go.block<|?_
    obtain ⟨o,hl,h⟩:=bs h
    refine gl ab3 j _ (fun (s:(Bool×Int))=>match s with | (CQ,G9)=>mk [(0,D 2 (.cp (au d_0) 0)),(1,iv k_1),(5,H 5 0),(6,D 2 (W 1 eI x16.Ring)),(7,iv jW),(8,bv CQ),(9,iv G9)] [(5,Oc [Z (W 1 eI jX)])]) (fun (vF:Bool) (p:Ex×St)=>p.1= .exit 2∧p.2.norm ([0,1,5,6,7,8],[5])=mk [(0,D 2 (.cp (au d_0) 0)),(1,iv k_1),(5,H 5 0),(6,D 2 (W 1 eI x16.Ring)),(7,iv jW),(8,bv vF)] [(5,Oc [Z (W 1 eI jX)])]) hl (by kernel_rfl) ?_ ?_ ?_
    ·intro o p hp e
     exact nomatch (hp.1.symm.trans e)
    ·rintro ⟨CQ,G9⟩ o h
     unfold rC at h
     dsimp only at h
     refine gs<|gs<|G0 (q (pM j)<|q (pM j)<|q (pI yV j)<|q (pB j)<|nl)<|us<|gc h j ah (fun hc29 h=>?_) fun hc29 h=>?_
     ·refine Go.skip<|us<|gs<|Go.block<|?_
      obtain ⟨He,J5,h⟩:=bs h
      refine gd ab3 j j j j (mk [(0,D 2 (.cp (au d_0) 0)),(1,iv k_1),(5,H 5 0),(6,D 2 (W 1 eI x16.Ring)),(7,iv jW),(8,bv He),(9,iv G9)] [(5,Oc [Z (W 1 eI jX)])]) ?_ ?_
      ·refine t1 j (pM j)<|t1 j (pM j)<|?_
       refine ic J5 (fun lT J5=>?_) fun lT J5=>?_
       ·cases J5
        exact t3 j (iR.2 lT)<|t3 j (iR.2 lT)<|t3 j (iR.2 lT)<|t3 j (iR.2 lT)<|t3 j (iR.2 lT)<|t3 j (iR.2 lT)<|t3 j (iR.2 lT)<|t3 j (iR.2 lT)<|t3 j (iR.2 lT)<|t3 j (iR.2 lT)<|t3 j (iR.2 lT)<|t3 j (iR.2 lT)<|t3 j (iR.2 lT)<|t3 j (iR.2 lT)<|t3 j (iR.2 lT)<|t3 j (iR.2 lT)<|t3 j (iR.2 lT)<|t3 j (iR.2 lT)<|t3 j (iR.2 lT)<|t3 j (iR.2 lT)<|sS (dF j j j (iR.2 lT) j) trivial (t1 j (pT j (iR.2 lT))<|s1 j (pA j) (sD (by kernel_rfl)))
       ·obtain ⟨x41,Zl,J5⟩:=bs J5
        obtain ⟨x46,Zm,J5⟩:=bs J5
        obtain ⟨x53,afE,J5⟩:=bs J5
        obtain ⟨x54,afF,J5⟩:=bs J5
        obtain ⟨x56,Zk,J5⟩:=bs J5
        cases J5
        exact t2 j (byF iR lT) (pM j)<|t2 j (byF iR lT) (pN j)<|t2 j (byF iR lT) (f2 jD j)<|t2 j (byF iR lT) (l2 yU j)<|t2 j (byF iR lT) (pM j)<|t2 j (byF iR lT) (pJ Zl EH j)<|t2 j (byF iR lT) (f2 yT j)<|t2 j (byF iR lT) (l2 l9 j)<|t2 j (byF iR lT) (pM j)<|t2 j (byF iR lT) (pM j)<|t2 j (byF iR lT) (pJ Zm lS j)<|t2 j (byF iR lT) (l2 tF2 j)<|t2 j (byF iR lT) (pM j)<|t2 j (byF iR lT) (pM j)<|t2 j (byF iR lT) (pB j)<|t2 j (byF iR lT) (pM j)<|t2 j (byF iR lT) (pI yV j)<|t2 j (byF iR lT) (Ja j afE j j)<|t2 j (byF iR lT) (pJ afF lS j)<|t2 j (byF iR lT) (l2 tF2 j)<|s2 j (byF iR lT) (c1 (LH Zk) VJ j j j j) (t1 j (pW j (byF iR lT))<|s1 j (pA j) (sD (by kernel_rfl)))
      ·refine Unw.blk<|us<|G0 (q (pM j)<|q (pB j)<|q (pA j)<|nl)<|Unw.nil<|?_
       cases h
       exact ⟨j,(by kernel_rfl)⟩
     ·refine Go.exit<|ux<|Unw.nil<|?_
      cases h
      exact ⟨j,(by kernel_rfl)⟩
    ·rintro ⟨e,st⟩ hp
     obtain ⟨vF,rfl⟩:∃y,y=o:=⟨o,rfl⟩
     obtain ⟨he,hst⟩:=hp
     obtain rfl:e= .exit 2:=he
     refine Unw.gz<|us<|gs<|gX ab3 j j hst (mk [(0,D 2 (.cp (au d_0) 0)),(1,iv k_1),(5,H 5 0),(6,D 2 (W 1 eI x16.Ring)),(7,iv jW),(63,bv ((jW != k_1)&&vF))] [(5,Oc [Z (W 1 eI jX)])]) ?_ ?_
     ·refine xq (pM j)<|xq (pM j)<|xq (pB j)<|xq (pM j)<|?_
      by_cases hc27:jW≠k_1
      ·exact xG rfl (iNe.2 hc27) (pM rfl)<|xq (pT rfl (iNe.2 hc27))<|xn (Eq.trans (b:=(fun Dc:Bool=>mk [(0,D 2 (.cp (au d_0) 0)),(1,iv k_1),(5,H 5 0),(6,D 2 (W 1 eI x16.Ring)),(7,iv jW),(63,bv Dc)] [(5,Oc [Z (W 1 eI jX)])]) vF) (by kernel_rfl) (congrArg (fun Dc:Bool=>mk [(0,D 2 (.cp (au d_0) 0)),(1,iv k_1),(5,H 5 0),(6,D 2 (W 1 eI x16.Ring)),(7,iv jW),(63,bv Dc)] [(5,Oc [Z (W 1 eI jX)])]) (by first | rfl | (simp [(iNe.2 hc27)];done) | (simp [(iNe.2 hc27)];omega))))
      ·exact xF rfl (byF iNe hc27)<|xq (pW rfl (byF iNe hc27))<|xn (Eq.trans (b:=(fun Dc:Bool=>mk [(0,D 2 (.cp (au d_0) 0)),(1,iv k_1),(5,H 5 0),(6,D 2 (W 1 eI x16.Ring)),(7,iv jW),(63,bv Dc)] [(5,Oc [Z (W 1 eI jX)])]) false) (by kernel_rfl) (congrArg (fun Dc:Bool=>mk [(0,D 2 (.cp (au d_0) 0)),(1,iv k_1),(5,H 5 0),(6,D 2 (W 1 eI x16.Ring)),(7,iv jW),(63,bv Dc)] [(5,Oc [Z (W 1 eI jX)])]) (by first | rfl | (simp [(byF iNe hc27)];done) | (simp [(byF iNe hc27)];omega))))
     ·refine us<|gc h j (BG iNe iR) (fun hc28 h=>?_) fun hc28 h=>?_
      ·obtain ⟨x67,Zj,h⟩:=bs h
       exact G0 (q (pM j)<|q (pM j)<|q (oBS (es:=List.map eI ([jW]:List Int)) j lS j (ptC j (fxI fx0) j pt0) (gY j fun _=>j))<|q (OI (en:=eI) (M:=([jW]:List Int)) j Zj j lS j j yV (.inl ⟨_,j⟩) j j j j (yf j j) (gY j fun _=>j))<|q (jU j j j j j)<|nl)<|Unw.blk<|K22 _ ⟨x67,h,(by kernel_rfl)⟩
      ·exact Go.skip<|Unw.blk<|K22 _ ⟨jX,h,(by kernel_rfl)⟩
  ·refine Go.exit<|ux<|Unw.nil<|?_
   cases h
   exact ⟨j,(by kernel_rfl)⟩
 ·rintro ⟨e,st⟩ hp
  obtain ⟨DI,rfl⟩:∃y,y=o:=⟨o,rfl⟩
  obtain ⟨he,hst⟩:=hp
  obtain rfl:e= .exit 0:=he
  obtain rfl:=rn h
  exact Unw.gz<|us<|gs<|g2 ab3 j j hst (q (pM j)<|q (jU j j j j j)<|nl)<|us<|gr amg j
theorem LJ {d_0:aB} {k_1:Int} {r:(List ae)} (h:rE d_0 k_1=some r):FX 134 [.im 2 false [.cp (au d_0) 0],.im 2 false [I k_1]] (B0 [(false,[.ow 0 2 (List.map af r)])]):=by
 unfold rE at h
 refine gn 21 Tryz.func134 rfl ?_
 refine gs<|G0 (q (AP j j Y1)<|nl)<|us<|gs<|?_
 obtain ⟨x14,kR,x17,xP,h⟩:=b2 h
 obtain rfl:=rn h
 exact G0 (q (pM j)<|q (pM j)<|q (pN j)<|q (f2 jD j)<|q (l2 yU j)<|q (pM j)<|q (pJ kR EH j)<|q (f2 yT j)<|q (l2 l9 j)<|q (cR (vs:=[(false,[.own 17 0 0]),(false,[.im 0 _])]) (v:=.tup [(false,[.own 17 0 0]),(false,[.im 0 _])]) (c:=⟨.sh,0,_⟩) (cs:=[]) (H8 xP) Lm j j j j j)<|q (Qy j j)<|q (oEx j j j)<|q (oEx j j j)<|q (jU j j j j j)<|q (pA j)<|nl)<|us<|gs<|G0 (q (pM j)<|q (jU j j j j j)<|nl)<|us<|gr ame j
theorem Rq {d_0:aB} {a_1:ae} {b_2:ae} {r:Bool} (h:BI d_0 a_1 b_2=some r):FX 200 [.im 2 false [.cp (au d_0) 0],.im 2 true (aN a_1),.im 2 true (aN b_2)] (B0 [(false,[.im 0 (V r)])]):=by
 unfold BI at h
 refine gn 47 Tryz.func200 rfl ?_
 refine gs<|G0 (q (pX aC j (tkI (tkI tk0)))<|q (pX aC j (tkI (tkI tk0)))<|q (pA j)<|nl)<|us<|gs<|?_
 obtain ⟨fP,hm8,h⟩:=bs h
 refine gd aos j j j j (mk [(6,bv fP)] []) ?_ ?_
 ·refine t1 j (pF (r':=.mp 4 0 0) dO j)<|t1 j (l0 tF2 j)<|t1 j (pF (r':=.mp 5 0 0) dO j)<|t1 j (l0 tF2 j)<|t1 j (pB j)<|t1 j (pM j)<|?_
  refine ic hm8 (fun hc1 hm8=>?_) fun hc1 hm8=>?_
  ·refine t2 j (iEq.2 hc1) (pF (r':=.mp 4 0 0) dO j)<|t2 j (iEq.2 hc1) (l0 tF2 j)<|t2 j (iEq.2 hc1) (pB j)<|t2 j (iEq.2 hc1) (pM j)<|?_
   refine ic hm8 (fun hc2 hm8=>?_) fun hc2 hm8=>?_
   ·cases hm8
    exact t3 j (iEq.2 hc2)<|t3 j (iEq.2 hc2)<|t3 j (iEq.2 hc2)<|t3 j (iEq.2 hc2)<|t3 j (iEq.2 hc2)<|t3 j (iEq.2 hc2)<|t3 j (iEq.2 hc2)<|t2 j (iEq.2 hc1) (pT j (iEq.2 hc2))<|t1 j (pT j (iEq.2 hc1))<|t1 j (pM j)<|t3 j j<|t3 j j<|t3 j j<|t3 j j<|t3 j j<|t3 j j<|t4 j<|t4 j<|t4 j<|t4 j<|t4 j<|t4 j<|t4 j<|t4 j<|t4 j<|t4 j<|t4 j<|t4 j<|t3 j j<|t1 j (pT j j)<|s1 j (pA j) (sD (by kernel_rfl))
   ·refine t2 j (byF iEq hc2) (pF (r':=.mp 4 0 0) dO j)<|t2 j (byF iEq hc2) (l0 tF2 j)<|t2 j (byF iEq hc2) (pM j)<|t2 j (byF iEq hc2) (pN j)<|t2 j (byF iEq hc2) (f2 Fh j)<|t2 j (byF iEq hc2) (l2 tF2 j)<|t2 j (byF iEq hc2) (pB j)<|t2 j (iEq.2 hc1) (pW j (byF iEq hc2))<|t1 j (pT j (iEq.2 hc1))<|t1 j (pM j)<|?_
    refine ic hm8 (fun hc3 hm8=>?_) fun hc3 hm8=>?_
    ·cases hm8
     exact t3 j (iEq.2 hc3)<|t3 j (iEq.2 hc3)<|t3 j (iEq.2 hc3)<|t3 j (iEq.2 hc3)<|t3 j (iEq.2 hc3)<|t3 j (iEq.2 hc3)<|t4 j<|t4 j<|t4 j<|t4 j<|t4 j<|t4 j<|t4 j<|t4 j<|t4 j<|t4 j<|t4 j<|t4 j<|t3 j (iEq.2 hc3)<|t1 j (pT j (iEq.2 hc3))<|s1 j (pA j) (sD (by kernel_rfl))
    ·refine t2 j (byF iEq hc3) (pF (r':=.mp 4 0 1) dH j)<|t2 j (byF iEq hc3) (l0 tF2 j)<|t2 j (byF iEq hc3) (pF (r':=.mp 5 0 1) dH j)<|t2 j (byF iEq hc3) (l0 tF2 j)<|t2 j (byF iEq hc3) (pB j)<|t2 j (byF iEq hc3) (pM j)<|?_
     refine ic hm8 (fun hc4 hm8=>?_) fun hc4 hm8=>?_
     ·refine t2 j (iEq.2 hc4) (pF (r':=.mp 4 0 1) dH j)<|t2 j (iEq.2 hc4) (l0 tF2 j)<|t2 j (iEq.2 hc4) (pB j)<|t2 j (iEq.2 hc4) (pM j)<|?_
      refine ic hm8 (fun hc5 hm8=>?_) fun hc5 hm8=>?_
      ·cases hm8
       exact t3 j (iEq.2 hc5)<|t3 j (iEq.2 hc5)<|t3 j (iEq.2 hc5)<|t3 j (iEq.2 hc5)<|t3 j (iEq.2 hc5)<|t3 j (iEq.2 hc5)<|t3 j (iEq.2 hc5)<|t2 j (iEq.2 hc4) (pT j (iEq.2 hc5))<|t2 j (byF iEq hc3) (pT j (iEq.2 hc4))<|t1 j (pW j (byF iEq hc3))<|s1 j (pA j) (sD (by kernel_rfl))
      ·cases hm8
       exact t2 j (byF iEq hc5) (pF (r':=.mp 4 0 1) dH j)<|t2 j (byF iEq hc5) (l0 tF2 j)<|t2 j (byF iEq hc5) (pM j)<|t2 j (byF iEq hc5) (pN j)<|t2 j (byF iEq hc5) (f2 A7 j)<|t2 j (byF iEq hc5) (l2 tF2 j)<|t2 j (byF iEq hc5) (pB j)<|t2 j (iEq.2 hc4) (pW j (byF iEq hc5))<|t2 j (byF iEq hc3) (pT j (iEq.2 hc4))<|t1 j (pW j (byF iEq hc3))<|s1 j (pA j) (sD (by kernel_rfl))
     ·cases hm8
      exact t3 j (byF iEq hc4)<|t3 j (byF iEq hc4)<|t3 j (byF iEq hc4)<|t3 j (byF iEq hc4)<|t4 j<|t4 j<|t4 j<|t4 j<|t4 j<|t4 j<|t4 j<|t3 j (byF iEq hc4)<|t2 j (byF iEq hc3) (pW j (byF iEq hc4))<|t1 j (pW j (byF iEq hc3))<|s1 j (pA j) (sD (by kernel_rfl))
  ·refine t3 j (byF iEq hc1)<|t3 j (byF iEq hc1)<|t3 j (byF iEq hc1)<|t3 j (byF iEq hc1)<|t4 j<|t4 j<|t4 j<|t4 j<|t4 j<|t4 j<|t4 j<|t3 j (byF iEq hc1)<|t1 j (pW j (byF iEq hc1))<|t1 j (pM j)<|t2 j j (pF (r':=.mp 4 0 1) dH j)<|t2 j j (l0 tF2 j)<|t2 j j (pF (r':=.mp 5 0 1) dH j)<|t2 j j (l0 tF2 j)<|t2 j j (pB j)<|t2 j j (pM j)<|?_
   refine ic hm8 (fun hc6 hm8=>?_) fun hc6 hm8=>?_
   ·refine t2 j (iEq.2 hc6) (pF (r':=.mp 4 0 1) dH j)<|t2 j (iEq.2 hc6) (l0 tF2 j)<|t2 j (iEq.2 hc6) (pB j)<|t2 j (iEq.2 hc6) (pM j)<|?_
    refine ic hm8 (fun hc7 hm8=>?_) fun hc7 hm8=>?_
    ·cases hm8
     exact t3 j (iEq.2 hc7)<|t3 j (iEq.2 hc7)<|t3 j (iEq.2 hc7)<|t3 j (iEq.2 hc7)<|t3 j (iEq.2 hc7)<|t3 j (iEq.2 hc7)<|t3 j (iEq.2 hc7)<|t2 j (iEq.2 hc6) (pT j (iEq.2 hc7))<|t2 j j (pT j (iEq.2 hc6))<|t1 j (pW j j)<|s1 j (pA j) (sD (by kernel_rfl))
    ·cases hm8
     exact t2 j (byF iEq hc7) (pF (r':=.mp 4 0 1) dH j)<|t2 j (byF iEq hc7) (l0 tF2 j)<|t2 j (byF iEq hc7) (pM j)<|t2 j (byF iEq hc7) (pN j)<|t2 j (byF iEq hc7) (f2 A7 j)<|t2 j (byF iEq hc7) (l2 tF2 j)<|t2 j (byF iEq hc7) (pB j)<|t2 j (iEq.2 hc6) (pW j (byF iEq hc7))<|t2 j j (pT j (iEq.2 hc6))<|t1 j (pW j j)<|s1 j (pA j) (sD (by kernel_rfl))
   ·cases hm8
    exact t3 j (byF iEq hc6)<|t3 j (byF iEq hc6)<|t3 j (byF iEq hc6)<|t3 j (byF iEq hc6)<|t4 j<|t4 j<|t4 j<|t4 j<|t4 j<|t4 j<|t4 j<|t3 j (byF iEq hc6)<|t2 j j (pW j (byF iEq hc6))<|t1 j (pW j j)<|s1 j (pA j) (sD (by kernel_rfl))
 ·obtain rfl:=rn h
  exact us<|gr amz j
theorem NK {d_0:aB} {k_1:Int} {r:Bool} (h:uC d_0 k_1=some r):FX 148 [.im 2 false [.cp (au d_0) 0],.im 2 false [I k_1]] (B0 [(false,[.im 0 (V r)])]):=by
 unfold uC at h
 refine gn 30 Tryz.func148 rfl ?_
 refine gs<|G0 (q (pA j)<|nl)<|us<|gs<|?_
 obtain ⟨x9,hx9,h⟩:=bs h
 refine G0 (q (pM j)<|q (pM j)<|q (cR (vs:=[(false,[.own 9 0 0])]) (v:=.v false [.own 9 0 0]) (c:=⟨.sh,0,_⟩) (cs:=[]) (LJ hx9) XK j j j j j)<|q (jU j j j j j)<|nl)<|us<|gs<|gs<|G0 (q (pA j)<|nl)<|us<|Go.block<|?_
 obtain ⟨o,hl,h⟩:=bs h
 refine gl c148 j _ (fun (Hf:Int)=>mk [(0,D 2 (.cp (au d_0) 0)),(5,H 5 0),(6,iv Hf)] [(5,Oc [Z (W 2 af x9)])]) (fun (o:(Unit ⊕ Bool)) (p:Ex×St)=>match o with | (.inl _)=>p.1= .exit 0∧p.2.norm ([],[])=mk [] [] | (.inr r2)=>p.1= .ret∧fin Tryz.prog cfg 148 Tryz.f148 [.im 2 false [.cp (au d_0) 0],.im 2 false [I k_1]] p.2=some (B0 [(false,[.im 0 (V r2)])])) hl (by kernel_rfl) ?_ ?_ ?_
 ·intro o p hp e
  rcases o with u | r2<;>exact nomatch (hp.1.symm.trans e)
 ·rintro Hf o h
  unfold nO at h
  refine gs<|gs<|G0 (q (pM j)<|q (pM j)<|q (U7 j j Ba j j j (fun e=>nomatch e))<|q (pB j)<|nl)<|us<|gc h j ah (fun hc5 h=>?_) fun hc5 h=>?_
  ·refine Go.skip<|us<|gs<|Go.block<|gs<|?_
   obtain ⟨x19,ql,x26,Ny,h⟩:=b2 h
   obtain ⟨x27,hx27,x29,hx29,h⟩:=b2 h
   refine gd c148 j j j j (mk [(0,D 2 (.cp (au d_0) 0)),(5,H 5 0),(6,iv Hf),(29,bv x29)] [(5,Oc [Z (W 2 af x9)])]) (t1 j (pM j)<|t1 j (pM j)<|t1 j (pM j)<|t1 j (Gm j ql oZ j j j j)<|t1 j (YK (cs:=[.im 0 _,.im 0 _]) j aC j j j j (oH ql) j j)<|t1 j (pM j)<|t1 j (pM j)<|t1 j (pB j)<|t1 j (pM j)<|t1 j (U7 j j Ba j j j (fun e=>nomatch e))<|t1 j (Ja j Ny j j)<|t1 j (Gm j hx27 oZ j j j j)<|t1 j (YK (cs:=[.im 0 _,.im 0 _]) j aC j j j j (oH hx27) j j)<|s1 j (c1 (Rq hx29) Lp j j j j) (sD (by kernel_rfl)))<|us<|gc h j iR (fun hc6 h=>?_) fun hc6 h=>?_
   ·refine gs<|G0 (q (pA j)<|nl)<|us<|Go.ret (Unw.ret ?_)
    cases h
    exact ⟨j,(fo aiG j)⟩
   ·refine Go.skip<|Unw.blk<|us<|G0 (q (pM j)<|q (pB j)<|q (pA j)<|nl)<|Unw.nil<|?_
    cases h
    exact ⟨j,(by kernel_rfl)⟩
  ·refine Go.exit<|ux<|Unw.nil<|?_
   cases h
   exact ⟨j,(by kernel_rfl)⟩
 ·rintro ⟨e,st⟩ hp
  rcases o with u | r2
  ·dsimp only at h
   obtain ⟨he,hst⟩:=hp
   obtain rfl:e= .exit 0:=he
   obtain rfl:=rn h
   exact Unw.gz<|us<|gs<|g2 c148 j j hst (q (pA j)<|nl)<|us<|gr aiG j
  ·dsimp only at h
   obtain ⟨he,hfin⟩:=hp
   obtain rfl:e= .ret:=he
   cases h
   exact Unw.ret (di hfin)
theorem V5 {d_0:aB} {r:eG} (h:CS d_0=some r):FX 98 [.im 2 false [.cp (au d_0) 0]] (B0 [(false,[.pt true [⟨.sh,0,W 1 (eL 1 eI) r.near⟩,⟨.sh,0,W 1 eB r.AU⟩]])]):=by
 unfold CS at h
 refine gn 41 Tryz.func98 rfl ?_
 refine gs<|G0 (q (pA j)<|nl)<|us<|gs<|G0 (q (oBu (cs:=[.nil,.nil]) j alV j)<|q (pX ang j (tkN (tkN tk0)))<|q (alz j j)<|nl)<|us<|gs<|gs<|G0 (q (pA j)<|nl)<|us<|Go.block<|?_
 obtain ⟨o,hl,h⟩:=bs h
 refine gl c98 j _ (fun (s:(Int×(List (List Int))×(List Bool)))=>match s with | (E5,Ew,BU)=>mk [(0,D 2 (.cp (au d_0) 0)),(3,M 6),(4,iv E5)] [(6,Oa [Z (W 1 (eL 1 eI) Ew),Z (W 1 eB BU)])]) (fun (o:((List (List Int))×(List Bool))) (p:Ex×St)=>match o with | (Ap,Aq)=>p.1= .exit 0∧p.2.norm ([3],[6])=mk [(3,M 6)] [(6,Oa [Z (W 1 (eL 1 eI) Ap),Z (W 1 eB Aq)])]) hl (by kernel_rfl) ?_ ?_ ?_
 ·intro o p hp e
  obtain ⟨Ap,Aq⟩:=o
  exact nomatch (hp.1.symm.trans e)
 ·rintro ⟨E5,Ew,BU⟩ o h
  unfold wK at h
  dsimp only at h
  refine gs<|gs<|G0 (q (pM j)<|q (pM j)<|q (pN j)<|q (f2 jD j)<|q (l2 yU j)<|q (pI FB j)<|q (pB j)<|nl)<|us<|gc h j ah (fun hc3 h=>?_) fun hc3 h=>?_
  ·refine Go.skip<|us<|gs<|Go.block<|gs<|?_
   obtain ⟨x23,oq,x25,hx25,h⟩:=b2 h
   refine gd c98 j j j j (mk [(0,D 2 (.cp (au d_0) 0)),(3,M 6),(4,iv E5)] [(6,Oa [Z (W 1 (eL 1 eI) x25),Z (W 1 eB BU)])]) (t1 j (pM j)<|t1 j (pM j)<|t1 j (pM j)<|t1 j (pM j)<|sK (O:=[6]) j j j (dN z98 j (pN j))<|sK (O:=[6]) j j j (dN z98 j (pF (r':=.mp 6 0 0) IZ j))<|sK (O:=[6]) j j j (dN z98 j (pL (cs:=[.own 6 0 0]) OB j))<|sS (dN z98 j (cR (vs:=[(false,[.own 23 0 0])]) (v:=.v false [.own 23 0 0]) (c:=⟨.sh,0,_⟩) (cs:=[]) (Ro oq) XL j j j j j)) (kY ⟨j,trivial⟩ (kY ⟨j,trivial⟩ (kY ⟨j,trivial⟩ trivial))) (sS (dN z98 j (oBS (es:=List.map (eL 1 eI) ([x23]:List (List Int))) j EF j (ptC j (fxO j j fx0) j pt0) (Ld j))) (kY ⟨j,trivial⟩ (kY ⟨j,trivial⟩ (kY ⟨j,trivial⟩ trivial))) (sS (dN z98 j (OI (en:=(eL 1 eI)) (M:=([x23]:List (List Int))) j hx25 j EF j j anp (.inl ⟨_,j⟩) j j j j (yf j j) (Ld j))) (kN j (kN j (kN j trivial))) (t1 j (pN j)<|t1 j (pF (r':=.mp 6 0 0) IZ j)<|sS (dN z98 j (pS OB j (tkO j j tk0) j)) (kN j (kN j (kN j trivial))) (sD (by kernel_rfl))))))<|us<|?_
   obtain ⟨x35,V6,x37,Rk,h⟩:=b2 h
   refine gd c98 j j j j (mk [(0,D 2 (.cp (au d_0) 0)),(3,M 6),(4,iv E5)] [(6,Oa [Z (W 1 (eL 1 eI) x25),Z (W 1 eB x37)])]) (t1 j (pM j)<|t1 j (pM j)<|t1 j (pM j)<|t1 j (pM j)<|sK (O:=[6]) j j j (dN z98 j (pN j))<|sK (O:=[6]) j j j (dN z98 j (pF (r':=.mp 6 0 1) VB j))<|sK (O:=[6]) j j j (dN z98 j (pL (cs:=[.own 6 0 1]) XY j))<|sS (dN z98 j (c1 (NK V6) XM j j j j)) (kY ⟨j,trivial⟩ (kY ⟨j,trivial⟩ (kY ⟨j,trivial⟩ trivial))) (sS (dN z98 j (oBS (es:=List.map eB ([x35]:List Bool)) j Ju j (ptC j (fxI fx0) j pt0) (gY j fun _=>j))) (kY ⟨j,trivial⟩ (kY ⟨j,trivial⟩ (kY ⟨j,trivial⟩ trivial))) (sS (dN z98 j (OI (en:=eB) (M:=([x35]:List Bool)) j Rk j Ju j j anr (.inl ⟨_,j⟩) j j j j (yf j j) (gY j fun _=>j))) (kN j (kN j (kN j trivial))) (t1 j (pN j)<|t1 j (pF (r':=.mp 6 0 1) VB j)<|sS (dN z98 j (pS XY j (tkO j j tk0) j)) (kN j (kN j (kN j trivial))) (sD (by kernel_rfl))))))<|Unw.blk<|us<|G0 (q (pM j)<|q (pB j)<|q (pA j)<|nl)<|Unw.nil<|?_
   cases h
   exact ⟨j,(by kernel_rfl)⟩
  ·refine Go.exit<|ux<|Unw.nil<|?_
   cases h
   exact ⟨j,(by kernel_rfl)⟩
 ·rintro ⟨e,st⟩ hp
  obtain ⟨Ap,Aq⟩:=o
  dsimp only at h
  obtain ⟨he,hst⟩:=hp
  obtain rfl:e= .exit 0:=he
  obtain rfl:=rn h
  exact Unw.gz<|us<|gs<|g2 c98 j j hst (q (pM j)<|q (alz j j)<|nl)<|us<|gr apa j
theorem Rt {m_0:eG} {dw:(List Int)} {k_2:Int} {r:Bool} (h:yH m_0 dw k_2=some r):FX 197 [.im 2 false [.cp (jC m_0) 0],.im 2 false [W 1 eI dw],.im 2 false [I k_2]] (B0 [(false,[.im 0 (V r)])]):=by
 unfold yH at h
 refine gn 35 Tryz.func197 rfl ?_
 refine gs<|G0 (q (pA j)<|nl)<|us<|gs<|gs<|G0 (q (pM j)<|q (pI yV j)<|q (pB j)<|nl)<|us<|gc h j iEq (fun hc1 h=>?_) fun hc1 h=>?_
 ·obtain rfl:=rn h
  exact gs<|G0 (q (pA j)<|nl)<|us<|gr afn j
 ·refine Go.skip<|us<|gs<|gs<|G0 (q (pA j)<|nl)<|us<|Go.block<|?_
  obtain ⟨o,hl,h⟩:=bs h
  refine gl alP j _ (fun (zy:Int)=>mk [(0,D 2 (.cp (jC m_0) 0)),(1,D 2 (W 1 eI dw)),(2,iv k_2),(7,iv zy)] []) (fun (o:(Unit ⊕ Bool)) (p:Ex×St)=>match o with | (.inl _)=>p.1= .exit 0∧p.2.norm ([],[])=mk [] [] | (.inr r2)=>p.1= .ret∧fin Tryz.prog cfg 197 Tryz.f197 [.im 2 false [.cp (jC m_0) 0],.im 2 false [W 1 eI dw],.im 2 false [I k_2]] p.2=some (B0 [(false,[.im 0 (V r2)])])) hl (by kernel_rfl) ?_ ?_ ?_
  ·intro o p hp e
   rcases o with u | r2<;>exact nomatch (hp.1.symm.trans e)
  ·rintro zy o h
   unfold rF at h
   refine gs<|gs<|?_
   obtain ⟨x17,xP,h⟩:=bs h
   refine G0 (q (pM j)<|q (pM j)<|q (pN j)<|q (f2 IZ j)<|q (l2 OB j)<|q (pM j)<|q (pJ xP EF j)<|q (l2 l9 j)<|q (pI yV j)<|q (pB j)<|nl)<|us<|gc h j ah (fun hc6 h=>?_) fun hc6 h=>?_
   ·refine Go.skip<|us<|gs<|Go.block<|gs<|?_
    obtain ⟨x29,hx29,x32,hx32,h⟩:=b2 h
    obtain ⟨x34,hx34,h⟩:=bs h
    refine G0 (q (pM j)<|q (pM j)<|q (pN j)<|q (f2 IZ j)<|q (l2 OB j)<|q (pM j)<|q (pJ hx29 EF j)<|q (l2 l9 j)<|q (pM j)<|q (pJ hx32 lS j)<|q (l2 tF2 j)<|q (c1 (Ac hx34) I5 j j j j)<|nl)<|us<|gc h j iR (fun hc7 h=>?_) fun hc7 h=>?_
    ·refine gs<|G0 (q (pA j)<|nl)<|us<|Go.ret (Unw.ret ?_)
     cases h
     exact ⟨j,(fo afn j)⟩
    ·refine Go.skip<|Unw.blk<|us<|G0 (q (pM j)<|q (pB j)<|q (pA j)<|nl)<|Unw.nil<|?_
     cases h
     exact ⟨j,(by kernel_rfl)⟩
   ·refine Go.exit<|ux<|Unw.nil<|?_
    cases h
    exact ⟨j,(by kernel_rfl)⟩
  ·rintro ⟨e,st⟩ hp
   rcases o with u | r2
   ·dsimp only at h
    obtain ⟨he,hst⟩:=hp
    obtain rfl:e= .exit 0:=he
    obtain rfl:=rn h
    exact Unw.gz<|us<|gs<|g2 alP j j hst (q (pA j)<|nl)<|us<|gr afn j
   ·dsimp only at h
    obtain ⟨he,hfin⟩:=hp
    obtain rfl:e= .ret:=he
    cases h
    exact Unw.ret (di hfin)
theorem LM {m_0:eG} {dw:(List Int)} {k_2:Int} {r:Bool} (h:rG m_0 dw k_2=some r):FX 198 [.im 2 false [.cp (jC m_0) 0],.im 2 false [W 1 eI dw],.im 2 false [I k_2]] (B0 [(false,[.im 0 (V r)])]):=by
 unfold rG at h
 refine gn 40 Tryz.func198 rfl ?_
 refine gs<|G0 (q (pA j)<|nl)<|us<|gs<|gs<|?_
 obtain ⟨x13,ou,h⟩:=bs h
 refine G0 (q (pM j)<|q (pN j)<|q (f2 VB j)<|q (l2 XY j)<|q (pM j)<|q (pJ ou Ju j)<|q (l2 tF4 j)<|nl)<|us<|gc h j iR (fun hc1 h=>?_) fun hc1 h=>?_
 ·obtain rfl:=rn h
  exact gs<|G0 (q (pA j)<|nl)<|us<|gr afo j
 ·refine Go.skip<|us<|gs<|gs<|G0 (q (pA j)<|nl)<|us<|Go.block<|?_
  obtain ⟨o,hl,h⟩:=bs h
  refine gl c198 j _ (fun (zy:Int)=>mk [(0,D 2 (.cp (jC m_0) 0)),(1,D 2 (W 1 eI dw)),(2,iv k_2),(7,iv zy)] []) (fun (o:(Unit ⊕ Bool)) (p:Ex×St)=>match o with | (.inl _)=>p.1= .exit 0∧p.2.norm ([],[])=mk [] [] | (.inr r2)=>p.1= .ret∧fin Tryz.prog cfg 198 Tryz.f198 [.im 2 false [.cp (jC m_0) 0],.im 2 false [W 1 eI dw],.im 2 false [I k_2]] p.2=some (B0 [(false,[.im 0 (V r2)])])) hl (by kernel_rfl) ?_ ?_ ?_
  ·intro o p hp e
   rcases o with u | r2<;>exact nomatch (hp.1.symm.trans e)
  ·rintro zy o h
   unfold mP at h
   refine gs<|gs<|?_
   obtain ⟨x21,xx,h⟩:=bs h
   refine G0 (q (pM j)<|q (pM j)<|q (pN j)<|q (f2 IZ j)<|q (l2 OB j)<|q (pM j)<|q (pJ xx EF j)<|q (l2 l9 j)<|q (pI yV j)<|q (pB j)<|nl)<|us<|gc h j ah (fun hc6 h=>?_) fun hc6 h=>?_
   ·refine Go.skip<|us<|gs<|Go.block<|gs<|?_
    obtain ⟨x33,afG,x36,H9,h⟩:=b2 h
    obtain ⟨x38,hx38,h⟩:=bs h
    refine G0 (q (pM j)<|q (pM j)<|q (pN j)<|q (f2 IZ j)<|q (l2 OB j)<|q (pM j)<|q (pJ afG EF j)<|q (l2 l9 j)<|q (pM j)<|q (pJ H9 lS j)<|q (l2 tF2 j)<|q (c1 (Ac hx38) I5 j j j j)<|q (pU j)<|nl)<|us<|?_
    by_cases hc7:x38=true
    ·rw [if_pos hc7] at h
     refine gF j (nF (iR.2 hc7))<|Go.skip<|Unw.blk<|us<|G0 (q (pM j)<|q (pB j)<|q (pA j)<|nl)<|Unw.nil<|?_
     cases h
     exact ⟨j,(by kernel_rfl)⟩
    ·rw [if_neg hc7] at h
     refine gT j (nT (byF iR hc7))<|gs<|G0 (q (pA j)<|nl)<|us<|Go.ret (Unw.ret ?_)
     cases h
     exact ⟨j,(fo afo j)⟩
   ·refine Go.exit<|ux<|Unw.nil<|?_
    cases h
    exact ⟨j,(by kernel_rfl)⟩
  ·rintro ⟨e,st⟩ hp
   rcases o with u | r2
   ·dsimp only at h
    obtain ⟨he,hst⟩:=hp
    obtain rfl:e= .exit 0:=he
    obtain rfl:=rn h
    exact Unw.gz<|us<|gs<|g2 c198 j j hst (q (pA j)<|nl)<|us<|gr afo j
   ·dsimp only at h
    obtain ⟨he,hfin⟩:=hp
    obtain rfl:e= .ret:=he
    cases h
    exact Unw.ret (di hfin)
theorem Ru {m_0:eG} {dw:(List Int)} {k_2:Int} {r:Int} (h:yI m_0 dw k_2=some r):FX 146 [.im 2 false [.cp (jC m_0) 0],.im 2 false [W 1 eI dw],.im 2 false [I k_2]] (B0 [(false,[.im 0 (I r)])]):=by
 unfold yI at h
 refine gn 16 Tryz.func146 rfl ?_
 refine gs<|G0 (q (pA j)<|nl)<|us<|gs<|gs<|?_
 obtain ⟨x10,wo,h⟩:=bs h
 refine G0 (q (pM j)<|q (pM j)<|q (pM j)<|q (c1 (Rt wo) QW j j j j)<|q (pU j)<|nl)<|us<|?_
 by_cases hc1:x10=true
 ·rw [if_pos hc1] at h
  refine gF j (nF (iR.2 hc1))<|Go.skip<|us<|gs<|gs<|?_
  obtain ⟨x15,rW,h⟩:=bs h
  refine G0 (q (pM j)<|q (pM j)<|q (pM j)<|q (c1 (LM rW) QX j j j j)<|nl)<|us<|gc h j iR (fun hc2 h=>?_) fun hc2 h=>?_
  ·obtain rfl:=rn h
   exact gs<|G0 (q (pA j)<|nl)<|us<|gr afi j
  ·obtain rfl:=rn h
   exact Go.skip<|us<|gs<|G0 (q (pA j)<|nl)<|us<|gr afi j
 ·rw [if_neg hc1] at h
  obtain rfl:=rn h
  exact gT j (nT (byF iR hc1))<|gs<|G0 (q (pA j)<|nl)<|us<|gr afi j
theorem O1 {m_0:eG} {dQ:(List Int)} {r:(Int×Int)} (h:zV m_0 dQ=some r):FX 97 [.im 2 false [.cp (jC m_0) 0],.im 2 false [W 1 eI dQ]] (B0 [(false,[.im 0 (I r.1)]),(false,[.im 0 (I r.2)])]):=by
 unfold zV at h
 refine gn 27 Tryz.func97 rfl ?_
 refine gs<|G0 (q (pA j)<|q (pA j)<|nl)<|us<|gs<|gs<|G0 (q (pA j)<|nl)<|us<|Go.block<|?_
 obtain ⟨o,hl,h⟩:=bs h
 refine gl c97 j _ (fun (E8:Int)=>mk [(0,D 2 (.cp (jC m_0) 0)),(1,D 2 (W 1 eI dQ)),(6,iv E8)] []) (fun (o:(Unit ⊕ (Int×Int))) (p:Ex×St)=>match o with | (.inl _)=>p.1= .exit 0∧p.2.norm ([],[])=mk [] [] | (.inr r2)=>p.1= .ret∧fin Tryz.prog cfg 97 Tryz.f97 [.im 2 false [.cp (jC m_0) 0],.im 2 false [W 1 eI dQ]] p.2=some (B0 [(false,[.im 0 (I r2.1)]),(false,[.im 0 (I r2.2)])])) hl (by kernel_rfl) ?_ ?_ ?_
 ·intro o p hp e
  rcases o with u | r2<;>exact nomatch (hp.1.symm.trans e)
 ·rintro E8 o h
  unfold lW at h
  refine gs<|gs<|G0 (q (pM j)<|q (pM j)<|q (pI yV j)<|q (pB j)<|nl)<|us<|gc h j ah (fun hc5 h=>?_) fun hc5 h=>?_
  ·refine Go.skip<|us<|gs<|Go.block<|gs<|?_
   obtain ⟨x20,ny,x17,xP,h⟩:=b2 h
   obtain ⟨x22,qp,h⟩:=bs h
   refine gd c97 j j j j (mk [(0,D 2 (.cp (jC m_0) 0)),(1,D 2 (W 1 eI dQ)),(6,iv E8),(7,iv x22)] []) (t1 j (pM j)<|t1 j (pM j)<|t1 j (pM j)<|t1 j (pM j)<|t1 j (pM j)<|t1 j (pJ ny lS j)<|t1 j (l2 tF2 j)<|s1 j (ad1 j xP lS j bn0 (bn1 j) j j) (s1 j (c1 (Ru qp) QT j j j j) (s1 j (pA j) (sD (by kernel_rfl)))))<|us<|gs<|G0 (q (pM j)<|q (pB j)<|nl)<|us<|gc h j iNe (fun hc6 h=>?_) fun hc6 h=>?_
   ·refine gs<|G0 (q (pM j)<|q (pM j)<|q (pA j)<|q (pA j)<|nl)<|us<|Go.ret (Unw.ret ?_)
    cases h
    exact ⟨j,(fo am9 j)⟩
   ·refine Go.skip<|Unw.blk<|us<|G0 (q (pM j)<|q (pB j)<|q (pA j)<|nl)<|Unw.nil<|?_
    cases h
    exact ⟨j,(by kernel_rfl)⟩
  ·refine Go.exit<|ux<|Unw.nil<|?_
   cases h
   exact ⟨j,(by kernel_rfl)⟩
 ·rintro ⟨e,st⟩ hp
  rcases o with u | r2
  ·dsimp only at h
   obtain ⟨he,hst⟩:=hp
   obtain rfl:e= .exit 0:=he
   obtain rfl:=rn h
   exact Unw.gz<|us<|gs<|g2 c97 j j hst (q (pA j)<|q (pA j)<|nl)<|us<|gr am9 j
  ·dsimp only at h
   obtain ⟨he,hfin⟩:=hp
   obtain rfl:e= .ret:=he
   cases h
   exact Unw.ret (di hfin)
theorem Df {j_0:fM} {k_1:Int} {r:ByteArray} (h:qN j_0 k_1=some r):FX 89 [.im 2 false [.cp (bI j_0) 0],.im 2 false [I k_1]] (B0 [(false,[.im 0 (Y r)])]):=by
 unfold qN at h
 refine gn 15 Tryz.func89 rfl ?_
 refine gs<|G0 (q (pA j)<|nl)<|us<|gs<|?_
 obtain ⟨x12,oP,h⟩:=bs h
 obtain rfl:=rn h
 exact G0 (q (pM j)<|q (pN j)<|q (f2 qQ j)<|q (f2 uP j)<|q (f2 jD j)<|q (l2 yU j)<|q (pM j)<|q (pJ oP EH j)<|q (f2 vM j)<|q (l2 tF9 j)<|q (pA j)<|nl)<|us<|gr ao9 j
theorem O3 {j_0:fM} {r:(List ai)} (h:wL j_0=some r):FX 51 [.im 2 false [.cp (bI j_0) 0]] (B0 [(false,[.ow 0 3 (List.map aA r)])]):=by
 unfold wL at h
 refine gn 77 Tryz.func51 rfl ?_
 refine gs<|G0 (q (AP j j Y0)<|nl)<|us<|gs<|G0 (q (oBS (es:=List.map aA ([]:List ai)) j EG j pt0 (gY j fun _=>j))<|q (jU j j j j j)<|nl)<|us<|gs<|?_
 obtain ⟨x13,ou,x18,zG,h⟩:=b2 h
 refine gd c51 j j j j (mk [(0,D 2 (.cp (bI j_0) 0)),(3,H 3 0),(4,iv x18.1),(5,iv x18.2)] [(3,Oc [Z (W 3 aA ([]:List ai))])]) (t1 j (pM j)<|t1 j (pN j)<|t1 j (f2 qQ j)<|t1 j (f2 uP j)<|t1 j (pM j)<|t1 j (pN j)<|t1 j (f2 zF j)<|t1 j (l2 l9 j)<|s1 j (oCp (xs:=[.v false [.im 2 _]]) (V5 ou) (.inl j) j afb j (ppC j pp0) j j pb0 j) (s1 j (cA (vs:=[(false,[.im 0 _]),(false,[.im 0 _])]) (v:=.tup [(false,[.im 0 _]),(false,[.im 0 _])]) (O1 zG) XQ j j j j j) (t1 j (Qy j j)<|t1 j (oEx j j j)<|t1 j (oEx j j j)<|s1 j (pA j) (s1 j (pA j) (sD (by kernel_rfl))))))<|us<|gs<|gs<|G0 (q (pM j)<|q (pB j)<|nl)<|us<|Go.join (fun st=>∃zB,lY j_0 x18 zB=some r∧st.norm ([0,3,4,5],[3])=mk [(0,D 2 (.cp (bI j_0) 0)),(3,H 3 0),(4,iv x18.1),(5,iv x18.2)] [(3,Oc [Z (W 3 aA zB)])]) ?_ ?_
 ·rintro st ⟨zB,h,hst⟩
  unfold lY at h
  refine us<|gs<|gs<|g2 c51 j j hst (q (pM j)<|q (pB j)<|nl)<|us<|Go.join (fun st=>∃Ez,lX j_0 Ez=some r∧st.norm ([0,3],[3])=mk [(0,D 2 (.cp (bI j_0) 0)),(3,H 3 0)] [(3,Oc [Z (W 3 aA Ez)])]) ?_ ?_
  ·rintro st ⟨Ez,h,hst⟩
   unfold lX at h
   refine us<|gs<|gs<|g2 c51 j j hst (q (pA j)<|nl)<|us<|Go.block<|?_
   obtain ⟨o,hl,h⟩:=bs h
   refine gl c51 j _ (fun (s:(Int×(List ai)))=>match s with | (AZ,zA)=>mk [(0,D 2 (.cp (bI j_0) 0)),(3,H 3 0),(6,iv AZ)] [(3,Oc [Z (W 3 aA zA)])]) (fun (DJ:(List ai)) (p:Ex×St)=>p.1= .exit 0∧p.2.norm ([3],[3])=mk [(3,H 3 0)] [(3,Oc [Z (W 3 aA DJ)])]) hl (by kernel_rfl) ?_ ?_ ?_
   ·intro o p hp e
    exact nomatch (hp.1.symm.trans e)
   ·rintro ⟨AZ,zA⟩ o h
    unfold vG at h
    dsimp only at h
    refine gs<|gs<|G0 (q (pM j)<|q (pM j)<|q (pN j)<|q (f2 qQ j)<|q (f2 uP j)<|q (f2 jD j)<|q (l2 yU j)<|q (pI FB j)<|q (pB j)<|nl)<|us<|gc h j ah (fun hc7 h=>?_) fun hc7 h=>?_
    ·refine Go.skip<|us<|gs<|Go.join (fun st=>∃Ey,pK AZ Ey=some o∧st.norm ([0,3,6],[3])=mk [(0,D 2 (.cp (bI j_0) 0)),(3,H 3 0),(6,iv AZ)] [(3,Oc [Z (W 3 aA Ey)])]) ?_ ?_
     ·rintro st ⟨Ey,h,hst⟩
      unfold pK at h
      refine us<|g2 c51 j j hst (q (pM j)<|q (pB j)<|q (pA j)<|nl)<|Unw.nil<|?_
      cases h
      exact ⟨j,(by kernel_rfl)⟩
     ·intro K9
      refine Go.block<|gs<|?_
      obtain ⟨x67,Zj,h⟩:=bs h
      refine G0 (q (pM j)<|q (pN j)<|q (f2 zF j)<|q (l2 l9 j)<|q (pM j)<|q (c1 (Ac Zj) I5 j j j j)<|q (pU j)<|nl)<|us<|?_
      by_cases gU:x67=true
      ·rw [if_pos gU] at h
       exact gF j (nF (iR.2 gU))<|Go.skip<|Unw.blk<|K9 _ ⟨zA,h,(by kernel_rfl)⟩
      ·rw [if_neg gU] at h
       refine gT j (nT (byF iR gU))<|?_
       obtain ⟨x72,afH,x75,akS,h⟩:=b2 h
       exact G0 (q (pM j)<|q (pM j)<|q (pM j)<|q (c1 (Df afH) Nr j j j j)<|q (oBu (cs:=[.im 0 _,.im 0 _,.im 0 _]) j aeG j)<|q (oBS (es:=List.map aA ([(⟨4,x72,(⟨#[109,105,115,115,105,110,103]⟩:ByteArray)⟩:ai)]:List ai)) j EG j (ptC j (fxI (fxI (fxI fx0))) j pt0) (gY j fun _=>j))<|q (OI (en:=aA) (M:=([(⟨4,x72,(⟨#[109,105,115,115,105,110,103]⟩:ByteArray)⟩:ai)]:List ai)) j akS j EG j j Tt (.inl ⟨_,j⟩) j j j j (yf j j) (gY j fun _=>j))<|q (jU j j j j j)<|nl)<|Unw.blk<|K9 _ ⟨x75,h,(by kernel_rfl)⟩
    ·refine Go.exit<|ux<|Unw.nil<|?_
     cases h
     exact ⟨j,(by kernel_rfl)⟩
   ·rintro ⟨e,st⟩ hp
    obtain ⟨DJ,rfl⟩:∃y,y=o:=⟨o,rfl⟩
    obtain ⟨he,hst⟩:=hp
    obtain rfl:e= .exit 0:=he
    obtain rfl:=rn h
    exact Unw.gz<|us<|gs<|g2 c51 j j hst (q (pM j)<|q (jU j j j j j)<|nl)<|us<|gr aoS j
  ·intro K11
   refine gc h j iEq (fun hc12 h=>?_) fun hc12 h=>?_
   ·obtain ⟨x45,akP,x47,Zi,h⟩:=b2 h
    obtain ⟨x50,J3,h⟩:=bs h
    exact G0 (q (pM j)<|q (pM j)<|q (pM j)<|q (pN j)<|q (f2 zF j)<|q (l2 l9 j)<|q (pM j)<|q (pJ akP lS j)<|q (l2 tF2 j)<|q (c1 (Df Zi) Nr j j j j)<|q (oBu (cs:=[.im 0 _,.im 0 _,.im 0 _]) j aeG j)<|q (oBS (es:=List.map aA ([(⟨4,x47,(⟨#[116,114,97,112,112,101,100]⟩:ByteArray)⟩:ai)]:List ai)) j EG j (ptC j (fxI (fxI (fxI fx0))) j pt0) (gY j fun _=>j))<|q (OI (en:=aA) (M:=([(⟨4,x47,(⟨#[116,114,97,112,112,101,100]⟩:ByteArray)⟩:ai)]:List ai)) j J3 j EG j j Tt (.inl ⟨_,j⟩) j j j j (yf j j) (gY j fun _=>j))<|q (jU j j j j j)<|nl)<|K11 _ ⟨x50,h,(by kernel_rfl)⟩
   ·exact Go.skip<|K11 _ ⟨zB,h,(by kernel_rfl)⟩
 ·intro K13
  refine gc h j iEq (fun Rf h=>?_) fun Rf h=>?_
  ·obtain ⟨x30,Jf,x32,hx32,h⟩:=b2 h
   obtain ⟨x35,V6,h⟩:=bs h
   exact G0 (q (pM j)<|q (pM j)<|q (pM j)<|q (pN j)<|q (f2 zF j)<|q (l2 l9 j)<|q (pM j)<|q (pJ Jf lS j)<|q (l2 tF2 j)<|q (c1 (Df hx32) Nr j j j j)<|q (oBu (cs:=[.im 0 _,.im 0 _,.im 0 _]) j aeG j)<|q (oBS (es:=List.map aA ([(⟨4,x32,(⟨#[117,110,104,101,108,100]⟩:ByteArray)⟩:ai)]:List ai)) j EG j (ptC j (fxI (fxI (fxI fx0))) j pt0) (gY j fun _=>j))<|q (OI (en:=aA) (M:=([(⟨4,x32,(⟨#[117,110,104,101,108,100]⟩:ByteArray)⟩:ai)]:List ai)) j V6 j EG j j Tt (.inl ⟨_,j⟩) j j j j (yf j j) (gY j fun _=>j))<|q (jU j j j j j)<|nl)<|K13 _ ⟨x35,h,(by kernel_rfl)⟩
  ·exact Go.skip<|K13 _ ⟨([]:List ai),h,(by kernel_rfl)⟩
theorem Rw {j_0:fM} {MS:Int} {r:((List ai)×Int)} (h:BJ j_0 MS=some r):FX 23 [.im 2 false [.cp (bI j_0) 0],.im 2 false [I MS]] (B0 [(false,[.ow 0 3 (List.map aA r.1)]),(false,[.im 0 (I r.2)])]):=by
 unfold BJ at h
 refine gn 24 Tryz.func23 rfl ?_
 refine gs<|G0 (q (AP j j Y0)<|q (pA j)<|nl)<|us<|gs<|gs<|?_
 obtain ⟨x7,hx7,h⟩:=bs h
 refine G0 (q (pM j)<|q (c1 (V4 hx7) ahO j j j j)<|q (pU j)<|nl)<|us<|?_
 by_cases hc1:x7=true
 ·rw [if_pos hc1] at h
  refine gF j (nF (iR.2 hc1))<|Go.skip<|us<|gs<|gs<|G0 (q (pM j)<|nl)<|us<|Go.block<|gs<|G0 (q (pB j)<|q (pA j)<|nl)<|us<|gc h j iEq (fun hc2 h=>?_) fun hc2 h=>?_
  ·refine gs<|?_
   obtain ⟨x13,ou,h⟩:=bs h
   obtain rfl:=rn h
   exact G0 (q (pM j)<|q (cR (vs:=[(false,[.own 13 0 0])]) (v:=.v false [.own 13 0 0]) (c:=⟨.sh,0,_⟩) (cs:=[]) (O0 ou) ahP j j j j j)<|q (jU j j j j j)<|q (pA j)<|nl)<|us<|gr afq j
  ·refine gs<|G0 (q (pB j)<|q (pA j)<|nl)<|us<|gc h j iEq (fun hc3 h=>?_) fun hc3 h=>?_
   ·refine gs<|?_
    obtain ⟨x17,xP,h⟩:=bs h
    obtain rfl:=rn h
    exact G0 (q (pM j)<|q (cR (vs:=[(false,[.own 17 0 0])]) (v:=.v false [.own 17 0 0]) (c:=⟨.sh,0,_⟩) (cs:=[]) (Rn xP) ahQ j j j j j)<|q (jU j j j j j)<|q (pA j)<|nl)<|us<|gr afq j
   ·refine gs<|G0 (q (pB j)<|q (pA j)<|nl)<|us<|gc h j iEq (fun hc4 h=>?_) fun hc4 h=>?_
    ·refine gs<|?_
     obtain ⟨x21,xx,h⟩:=bs h
     obtain rfl:=rn h
     exact G0 (q (pM j)<|q (cR (vs:=[(false,[.own 21 0 0])]) (v:=.v false [.own 21 0 0]) (c:=⟨.sh,0,_⟩) (cs:=[]) (TF xx) ahR j j j j j)<|q (jU j j j j j)<|q (pA j)<|nl)<|us<|gr afq j
    ·refine Go.skip<|Unw.blk<|us<|gs<|?_
     obtain ⟨x23,oq,h⟩:=bs h
     obtain rfl:=rn h
     exact G0 (q (pM j)<|q (cR (vs:=[(false,[.own 23 0 0])]) (v:=.v false [.own 23 0 0]) (c:=⟨.sh,0,_⟩) (cs:=[]) (O3 oq) ahS j j j j j)<|q (jU j j j j j)<|q (pA j)<|nl)<|us<|gr afq j
 ·rw [if_neg hc1] at h
  obtain rfl:=rn h
  exact gT j (nT (byF iR hc1))<|gs<|G0 (q (AP j j Y0)<|q (pA j)<|nl)<|us<|gr afq j
theorem Ie {j_0:fM} {r:((List ai)×Int)} (h:mQ j_0=some r):FX 17 [.im 2 true (bI j_0)] (B0 [(false,[.ow 0 3 (List.map aA r.1)]),(false,[.im 0 (I r.2)])]):=by
 unfold mQ at h
 refine gn 7 Tryz.func17 rfl ?_
 refine gs<|G0 (q (pX Gu j (tkI (tkI (tkI (tkI (tkI (tkI (tkI (tkI (tkI (tkI (tkI (tkI (tkI (tkI (tkI (tkI (tkI tk0))))))))))))))))))<|q (AP j j Y0)<|q (pA j)<|nl)<|us<|gs<|?_
 obtain ⟨x4,hx4,h⟩:=bs h
 obtain rfl:=rn h
 exact g1 j j (mk [(1,M 1)] [(1,Oa (G 2 (bI j_0)))]) (q (cR (vs:=[(false,[.own 4 0 0]),(false,[.im 0 _])]) (v:=.tup [(false,[.own 4 0 0]),(false,[.im 0 _])]) (c:=⟨.sh,0,_⟩) (cs:=[]) (Rw hx4) acm j j j j j)<|q (oEx j j j)<|q (oEx j j j)<|q (jU j j j j j)<|q (pA j)<|nl)<|us<|gr aoH j
theorem aZ {n_0:Int} {Et:Int} {zx:Int} {r:Bool} (h:bg n_0 Et zx=some r):FX 60 [.im 2 false [I n_0],.im 2 false [I Et],.im 2 false [I zx]] (B0 [(false,[.im 0 (V r)])]):=by
 unfold bg at h
 refine gn 15 Tryz.func60 rfl ?_
 refine gs<|G0 (q (pA j)<|nl)<|us<|gs<|gX c60 j j j (mk [(6,bv ((decide (n_0≥Et))&&(decide (n_0≤zx))))] []) ?_ ?_
 ·refine xq (pM j)<|xq (pM j)<|xq (pB j)<|xq (pM j)<|?_
  by_cases hc1:n_0≥Et
  ·exact xG rfl (ah.2 hc1) (pM rfl)<|xG rfl (ah.2 hc1) (pM rfl)<|xG rfl (ah.2 hc1) (pB rfl)<|xq (pT rfl (ah.2 hc1))<|xq (pA rfl)<|xn (Eq.trans (b:=(fun fP:Bool=>mk [(6,bv fP)] []) (decide (n_0≤zx))) (by kernel_rfl) (congrArg (fun fP:Bool=>mk [(6,bv fP)] []) (by first | rfl | (simp [(ah.2 hc1)];done) | (simp [(ah.2 hc1)];omega))))
  ·exact xF rfl (byF ah hc1)<|xF rfl (byF ah hc1)<|xF rfl (byF ah hc1)<|xq (pW rfl (byF ah hc1))<|xq (pA rfl)<|xn (Eq.trans (b:=(fun fP:Bool=>mk [(6,bv fP)] []) false) (by kernel_rfl) (congrArg (fun fP:Bool=>mk [(6,bv fP)] []) (by first | rfl | (simp [(byF ah hc1)];done) | (simp [(byF ah hc1)];omega))))
 ·obtain rfl:=rn h
  exact us<|gr aoZ j
theorem wu {s_0:(List ae)} {v_1:ae} {r:Int} (h:gI s_0 v_1=some r):FX 201 [.im 2 false [W 2 af s_0],.im 2 true (aN v_1)] (B0 [(false,[.im 0 (I r)])]):=by
 unfold gI at h
 refine gn 19 Tryz.func201 rfl ?_
 refine gs<|G0 (q (pX aC j (tkI (tkI tk0)))<|q (pA j)<|nl)<|us<|gs<|gs<|G0 (q (pM j)<|q (pI Ba j)<|q (pM j)<|nl)<|us<|Go.block<|?_
 obtain ⟨o,hl,h⟩:=bs h
 refine gl c201 j _ (fun (dA:Int)=>mk [(0,D 2 (W 2 af s_0)),(3,M 3),(7,iv (s_0.length:Int)),(8,iv dA)] [(3,Oa (G 0 (aN v_1)))]) (fun (o:(Unit ⊕ Int)) (p:Ex×St)=>match o with | (.inl _)=>p.1= .exit 0∧p.2.norm ([],[])=mk [] [] | (.inr r2)=>p.1= .ret∧fin Tryz.prog cfg 201 Tryz.f201 [.im 2 false [W 2 af s_0],.im 2 true (aN v_1)] p.2=some (B0 [(false,[.im 0 (I r2)])])) hl (by kernel_rfl) ?_ ?_ ?_
 ·intro o p hp e
  rcases o with u | r2<;>exact nomatch (hp.1.symm.trans e)
 ·rintro dA o h
  unfold dR at h
  refine gs<|G0 (q (pB j)<|nl)<|us<|gs<|gc h j ah (fun hc5 h=>?_) fun hc5 h=>?_
  ·refine Go.skip<|us<|gs<|Go.block<|gs<|G0 (q (pM j)<|q (pA j)<|nl)<|us<|gs<|?_
   obtain ⟨x14,kR,h⟩:=bs h
   refine gd c201 j j j j (mk [(0,D 2 (W 2 af s_0)),(3,M 3),(5,iv dA),(7,iv (s_0.length:Int)),(8,iv dA),(16,bv ((v_1.X==x14.X)&&(v_1.Y==x14.Y)))] [(3,Oa (G 0 (aN v_1)))]) (t1 j (pL (cs:=[.im 0 _,.im 0 _]) aC j)<|t1 j (pM j)<|t1 j (pM j)<|t1 j (pJ kR oZ j)<|t1 j (pL (cs:=[.im 2 _,.im 2 _]) aC j)<|t1 j (oBa j (VR v_1.X v_1.Y x14.X x14.Y) j j j j)<|sD (by kernel_rfl))<|us<|gc h j (BG iEq iEq) (fun hc6 h=>?_) fun hc6 h=>?_
   ·refine gs<|G0 (q (pM j)<|q (pA j)<|nl)<|us<|Go.ret (Unw.ret ?_)
    cases h
    exact ⟨j,(fo aiN j)⟩
   ·refine Go.skip<|Unw.blk<|us<|G0 (q (pB j)<|q (pM j)<|nl)<|Unw.nil<|?_
    cases h
    exact ⟨j,(by kernel_rfl)⟩
  ·refine Go.exit<|ux<|Unw.nil<|?_
   cases h
   exact ⟨j,(by kernel_rfl)⟩
 ·rintro ⟨e,st⟩ hp
  rcases o with u | r2
  ·dsimp only at h
   obtain ⟨he,hst⟩:=hp
   obtain rfl:e= .exit 0:=he
   obtain rfl:=rn h
   exact Unw.gz<|us<|gs<|g2 c201 j j hst (q (pA j)<|nl)<|us<|gr aiN j
  ·dsimp only at h
   obtain ⟨he,hfin⟩:=hp
   obtain rfl:e= .ret:=he
   cases h
   exact Unw.ret (di hfin)
theorem tN {s_0:(List ae)} {v_1:ae} {r:Bool} (h:dS s_0 v_1=some r):FX 152 [.im 2 false [W 2 af s_0],.im 2 true (aN v_1)] (B0 [(false,[.im 0 (V r)])]):=by
 unfold dS at h
 refine gn 9 Tryz.func152 rfl ?_
 refine gs<|G0 (q (pX aC j (tkI (tkI tk0)))<|q (pA j)<|nl)<|us<|gs<|?_
 obtain ⟨x7,hx7,h⟩:=bs h
 obtain rfl:=rn h
 exact G0 (q (pM j)<|q (pL (cs:=[.im 0 _,.im 0 _]) aC j)<|q (c1 (wu hx7) VK j j j j)<|q (pB j)<|q (pA j)<|nl)<|us<|gr amk j
theorem wP {s_0:ByteArray} {r:Bool} (h:uF s_0=some r):FX 153 [.im 2 false [Y s_0]] (B0 [(false,[.im 0 (V r)])]):=by
 unfold uF at h
 refine gn 50 Tryz.func153 rfl ?_
 refine gs<|G0 (q (pA j)<|nl)<|us<|gs<|gs<|?_
 obtain ⟨Vl,Ig,h⟩:=bs h
 refine gX ahm j j j (mk [(0,sv s_0),(21,bv Vl)] []) ?_ ?_
 ·refine xq (pM j)<|xq (U6 j j uF9 j)<|xq (pB j)<|xq (pM j)<|?_
  refine ic Ig (fun hc1 Ig=>?_) fun hc1 Ig=>?_
  ·cases Ig
   exact xF j (ah.2 hc1)<|xF j (ah.2 hc1)<|xF j (ah.2 hc1)<|xq (pT j (ah.2 hc1))<|xq (pM j)<|xF j j<|xF j j<|xF j j<|xq (pT j j)<|xq (pM j)<|xF j j<|xF j j<|xF j j<|xq (pT j j)<|xn
  ·refine xG j (byF ah hc1) (pM j)<|xG j (byF ah hc1) (U6 j j uF9 j)<|xG j (byF ah hc1) (pB j)<|xq (pW j (byF ah hc1))<|xq (pM j)<|?_
   refine ic Ig (fun hc2 Ig=>?_) fun hc2 Ig=>?_
   ·cases Ig
    exact xF j (ah.2 hc2)<|xF j (ah.2 hc2)<|xF j (ah.2 hc2)<|xq (pT j (ah.2 hc2))<|xq (pM j)<|xF j j<|xF j j<|xF j j<|xq (pT j j)<|xn
   ·obtain ⟨x14,kR,Ig⟩:=bs Ig
    refine xG j (byF ah hc2) (pM j)<|xG j (byF ah hc2) (oIx j kR uF9 j j)<|xG j (byF ah hc2) (pB j)<|xq (pW j (byF ah hc2))<|xq (pM j)<|?_
    refine ic Ig (fun hc3 Ig=>?_) fun hc3 Ig=>?_
    ·cases Ig
     exact xF j (ah.2 hc3)<|xF j (ah.2 hc3)<|xF j (ah.2 hc3)<|xq (pT j (ah.2 hc3))<|xn
    ·obtain ⟨x19,ql,Ig⟩:=bs Ig
     cases Ig
     exact xG j (byF ah hc3) (pM j)<|xG j (byF ah hc3) (oIx j ql uF9 j j)<|xG j (byF ah hc3) (pB j)<|xq (pW j (byF ah hc3))<|xn
 ·refine us<|gc h j iR (fun hc4 h=>?_) fun hc4 h=>?_
  ·obtain rfl:=rn h
   exact gs<|G0 (q (pA j)<|nl)<|us<|gr afj j
  ·refine Go.skip<|us<|gs<|gs<|G0 (q (pA j)<|nl)<|us<|Go.block<|?_
   obtain ⟨o,hl,h⟩:=bs h
   refine gl ahm j _ (fun (eH:Int)=>mk [(0,sv s_0),(3,iv eH)] []) (fun (o:(Unit ⊕ Bool)) (p:Ex×St)=>match o with | (.inl _)=>p.1= .exit 0∧p.2.norm ([],[])=mk [] [] | (.inr r2)=>p.1= .ret∧fin Tryz.prog cfg 153 Tryz.f153 [.im 2 false [Y s_0]] p.2=some (B0 [(false,[.im 0 (V r2)])])) hl (by kernel_rfl) ?_ ?_ ?_
   ·intro o p hp e
    rcases o with u | r2<;>exact nomatch (hp.1.symm.trans e)
   ·rintro eH o h
    unfold uD at h
    refine gs<|gs<|G0 (q (pM j)<|q (pM j)<|q (U6 j j uF9 j)<|q (pB j)<|nl)<|us<|gc h j ah (fun hc19 h=>?_) fun hc19 h=>?_
    ·refine Go.skip<|us<|gs<|Go.block<|gs<|?_
     obtain ⟨x30,Jf,ET,zI,h⟩:=b2 h
     refine gX ahm j j j (mk [(0,sv s_0),(3,iv eH),(49,bv ET)] []) ?_ ?_
     ·refine xq (pM j)<|xq (pM j)<|xq (oIx j Jf uF9 j j)<|xq (pB j)<|xq (pM j)<|?_
      refine ic zI (fun JZ zI=>?_) fun JZ zI=>?_
      ·obtain ⟨x41,Zl,zI⟩:=bs zI
       refine xF j (ah.2 JZ)<|xF j (ah.2 JZ)<|xF j (ah.2 JZ)<|xF j (ah.2 JZ)<|xq (pT j (ah.2 JZ))<|xq (pM j)<|xG j j (pM j)<|xG j j (pM j)<|xG j j (oIx j Zl uF9 j j)<|xG j j (pB j)<|xG j j (pM j)<|?_
       refine ic zI (fun hc21 zI=>?_) fun hc21 zI=>?_
       ·cases zI
        exact xF j (ah.2 hc21)<|xF j (ah.2 hc21)<|xF j (ah.2 hc21)<|xF j (ah.2 hc21)<|xG j j (pT j (ah.2 hc21))<|xq (pT j j)<|xn
       ·obtain ⟨x46,Zm,zI⟩:=bs zI
        cases zI
        exact xG j (byF ah hc21) (pM j)<|xG j (byF ah hc21) (pM j)<|xG j (byF ah hc21) (oIx j Zm uF9 j j)<|xG j (byF ah hc21) (pB j)<|xG j j (pW j (byF ah hc21))<|xq (pT j j)<|xn
      ·obtain ⟨x35,V6,zI⟩:=bs zI
       refine xG j (byF ah JZ) (pM j)<|xG j (byF ah JZ) (pM j)<|xG j (byF ah JZ) (oIx j V6 uF9 j j)<|xG j (byF ah JZ) (pB j)<|xq (pW j (byF ah JZ))<|xq (pM j)<|?_
       refine ic zI (fun hc22 zI=>?_) fun hc22 zI=>?_
       ·obtain ⟨x41,Zl,zI⟩:=bs zI
        refine xG j (ah.2 hc22) (pM j)<|xG j (ah.2 hc22) (pM j)<|xG j (ah.2 hc22) (oIx j Zl uF9 j j)<|xG j (ah.2 hc22) (pB j)<|xG j (ah.2 hc22) (pM j)<|?_
        refine ic zI (fun lC zI=>?_) fun lC zI=>?_
        ·cases zI
         exact xF j (ah.2 lC)<|xF j (ah.2 lC)<|xF j (ah.2 lC)<|xF j (ah.2 lC)<|xG j (ah.2 hc22) (pT j (ah.2 lC))<|xq (pT j (ah.2 hc22))<|xn
        ·obtain ⟨x46,Zm,zI⟩:=bs zI
         cases zI
         exact xG j (byF ah lC) (pM j)<|xG j (byF ah lC) (pM j)<|xG j (byF ah lC) (oIx j Zm uF9 j j)<|xG j (byF ah lC) (pB j)<|xG j (ah.2 hc22) (pW j (byF ah lC))<|xq (pT j (ah.2 hc22))<|xn
       ·cases zI
        exact xF j (byF ah hc22)<|xF j (byF ah hc22)<|xF j (byF ah hc22)<|xF j (byF ah hc22)<|xF j (byF ah hc22)<|oW j j j<|oW j j j<|oW j j j<|oW j j j<|xF j (byF ah hc22)<|xq (pW j (byF ah hc22))<|xn
     ·refine us<|gc h j iR (fun hc24 h=>?_) fun hc24 h=>?_
      ·refine gs<|G0 (q (pA j)<|nl)<|us<|Go.ret (Unw.ret ?_)
       cases h
       exact ⟨j,(fo afj j)⟩
      ·refine Go.skip<|Unw.blk<|us<|G0 (q (pM j)<|q (pB j)<|q (pA j)<|nl)<|Unw.nil<|?_
       cases h
       exact ⟨j,(by kernel_rfl)⟩
    ·refine Go.exit<|ux<|Unw.nil<|?_
     cases h
     exact ⟨j,(by kernel_rfl)⟩
   ·rintro ⟨e,st⟩ hp
    rcases o with u | r2
    ·dsimp only at h
     obtain ⟨he,hst⟩:=hp
     obtain rfl:e= .exit 0:=he
     obtain rfl:=rn h
     exact Unw.gz<|us<|gs<|g2 ahm j j hst (q (pA j)<|nl)<|us<|gr afj j
    ·dsimp only at h
     obtain ⟨he,hfin⟩:=hp
     obtain rfl:e= .ret:=he
     cases h
     exact Unw.ret (di hfin)
theorem Dh {yJ:(List ae)} {mG:(List Int)} {r:((List ae)×Bool)} (h:gW yJ mG=some r):FX 154 [.im 2 false [W 2 af yJ],.im 2 false [W 1 eI mG]] (B0 [(false,[.ow 0 2 (List.map af r.1)]),(false,[.im 0 (V r.2)])]):=by
 unfold gW at h
 refine gn 31 Tryz.func154 rfl ?_
 refine gs<|G0 (q (AP j j Y1)<|q (pA j)<|nl)<|us<|gs<|G0 (q (oBS (es:=List.map af ([]:List ae)) j oZ j pt0 (gY j fun _=>j))<|q (jU j j j j j)<|nl)<|us<|gs<|gs<|G0 (q (pM j)<|q (pI yV j)<|q (pM j)<|nl)<|us<|Go.block<|?_
 obtain ⟨o,hl,h⟩:=bs h
 refine gl c154 j _ (fun (s:(Int×(List ae)))=>match s with | (IQ,nG)=>mk [(0,D 2 (W 2 af yJ)),(6,H 6 0),(10,D 2 (W 1 eI mG)),(11,iv (mG.length:Int)),(12,iv IQ)] [(6,Oc [Z (W 2 af nG)])]) (fun (o:((List ae) ⊕ ((List ae)×Bool))) (p:Ex×St)=>match o with | (.inl kP)=>p.1= .exit 0∧p.2.norm ([6],[6])=mk [(6,H 6 0)] [(6,Oc [Z (W 2 af kP)])] | (.inr r2)=>p.1= .ret∧fin Tryz.prog cfg 154 Tryz.f154 [.im 2 false [W 2 af yJ],.im 2 false [W 1 eI mG]] p.2=some (B0 [(false,[.ow 0 2 (List.map af r2.1)]),(false,[.im 0 (V r2.2)])])) hl (by kernel_rfl) ?_ ?_ ?_
 ·intro o p hp e
  rcases o with kP | r2<;>exact nomatch (hp.1.symm.trans e)
 ·rintro ⟨IQ,nG⟩ o h
  unfold o5 at h
  dsimp only at h
  refine gs<|G0 (q (pB j)<|nl)<|us<|gs<|gc h j ah (fun hc5 h=>?_) fun hc5 h=>?_
  ·refine Go.skip<|us<|gs<|Go.block<|gs<|?_
   obtain ⟨x14,kR,h⟩:=bs h
   refine G0 (q (pJ kR lS j)<|q (l2 tF2 j)<|q (pA j)<|nl)<|us<|gs<|gs<|?_
   obtain ⟨x20,ny,h⟩:=bs h
   refine G0 (q (pM j)<|q (pM j)<|q (pI Ba j)<|q (pB j)<|q (c1 (aZ ny) bV j j j j)<|q (pU j)<|nl)<|us<|?_
   by_cases hc6:x20=true
   ·rw [if_pos hc6] at h
    refine gF j (nF (iR.2 hc6))<|Go.skip<|us<|?_
    obtain ⟨x25,hx25,x28,hx28,h⟩:=b2 h
    refine G0 (q (pM j)<|q (pM j)<|q (pM j)<|q (pJ hx25 oZ j)<|q (pL (cs:=[.im 2 _,.im 2 _]) aC j)<|q (oBS (es:=List.map af ([x25]:List ae)) j oZ j (ptC j (fxI (fxI fx0)) j pt0) (gY j fun _=>j))<|q (OI (en:=af) (M:=([x25]:List ae)) j hx28 j oZ j j Ba (.inl ⟨_,j⟩) j j j j (yf j j) (gY j fun _=>j))<|q (jU j j j j j)<|nl)<|Unw.blk<|us<|G0 (q (pB j)<|q (pM j)<|nl)<|Unw.nil<|?_
    cases h
    exact ⟨j,(by kernel_rfl)⟩
   ·rw [if_neg hc6] at h
    refine gT j (nT (byF iR hc6))<|gs<|G0 (q (AP j j Y1)<|q (pA j)<|nl)<|us<|Go.ret (Unw.ret ?_)
    cases h
    exact ⟨j,(fo aiH j)⟩
  ·refine Go.exit<|ux<|Unw.nil<|?_
   cases h
   exact ⟨j,(by kernel_rfl)⟩
 ·rintro ⟨e,st⟩ hp
  rcases o with kP | r2
  ·dsimp only at h
   obtain ⟨he,hst⟩:=hp
   obtain rfl:e= .exit 0:=he
   obtain rfl:=rn h
   exact Unw.gz<|us<|gs<|g2 c154 j j hst (q (pM j)<|q (jU j j j j j)<|q (pA j)<|nl)<|us<|gr aiH j
  ·dsimp only at h
   obtain ⟨he,hfin⟩:=hp
   obtain rfl:e= .ret:=he
   cases h
   exact Unw.ret (di hfin)
theorem LP {p_0:ae} {r:Bool} (h:rH p_0=some r):FX 239 [.im 2 true (aN p_0)] (B0 [(false,[.im 0 (V r)])]):=by
 unfold rH at h
 refine gn 11 Tryz.func239 rfl ?_
 refine gs<|G0 (q (pX aC j (tkI (tkI tk0)))<|q (pA j)<|nl)<|us<|gs<|?_
 obtain ⟨x5,hx5,fD,hm2,h⟩:=b2 h
 refine gX aox j j j (mk [(2,bv fD)] []) ?_ ?_
 ·refine xq (pF (r':=.mp 1 0 0) dO j)<|xq (l0 tF2 j)<|xq (c1 (aZ hx5) bV j j j j)<|xq (pM j)<|?_
  refine ic hm2 (fun hc1 hm2=>?_) fun hc1 hm2=>?_
  ·obtain ⟨x9,hx9,hm2⟩:=bs hm2
   cases hm2
   exact xG j (iR.2 hc1) (pF (r':=.mp 1 0 1) dH j)<|xG j (iR.2 hc1) (l0 tF2 j)<|xG j (iR.2 hc1) (c1 (aZ hx9) bV j j j j)<|xq (pT j (iR.2 hc1))<|xq (pA j)<|xn
  ·cases hm2
   exact xF j (byF iR hc1)<|xF j (byF iR hc1)<|xF j (byF iR hc1)<|xq (pW j (byF iR hc1))<|xq (pA j)<|xn
 ·obtain rfl:=rn h
  exact us<|gr amS j
theorem J6 {aP:(List ae)} {r:Bool} (h:vH aP=some r):FX 202 [.im 2 false [W 2 af aP]] (B0 [(false,[.im 0 (V r)])]):=by
 unfold vH at h
 refine gn 15 Tryz.func202 rfl ?_
 refine gs<|G0 (q (pA j)<|nl)<|us<|gs<|gs<|G0 (q (pM j)<|q (pI Ba j)<|q (pM j)<|nl)<|us<|Go.block<|?_
 obtain ⟨o,hl,h⟩:=bs h
 refine gl alQ j _ (fun (jf:Int)=>mk [(5,D 2 (W 2 af aP)),(6,iv (aP.length:Int)),(7,iv jf)] []) (fun (o:(Unit ⊕ Bool)) (p:Ex×St)=>match o with | (.inl _)=>p.1= .exit 0∧p.2.norm ([],[])=mk [] [] | (.inr r2)=>p.1= .ret∧fin Tryz.prog cfg 202 Tryz.f202 [.im 2 false [W 2 af aP]] p.2=some (B0 [(false,[.im 0 (V r2)])])) hl (by kernel_rfl) ?_ ?_ ?_
 ·intro o p hp e
  rcases o with u | r2<;>exact nomatch (hp.1.symm.trans e)
 ·rintro jf o h
  unfold gZ at h
  refine gs<|G0 (q (pB j)<|nl)<|us<|gs<|gc h j ah (fun hc5 h=>?_) fun hc5 h=>?_
  ·refine Go.skip<|us<|gs<|Go.block<|gs<|?_
   obtain ⟨x9,hx9,h⟩:=bs h
   refine G0 (q (pJ hx9 oZ j)<|q (pL (cs:=[.im 2 _,.im 2 _]) aC j)<|q (oAl j aC (tkI (tkI tk0)))<|q (pS aC j (tkI (tkI tk0)) j)<|nl)<|us<|gs<|?_
   obtain ⟨x12,oP,h⟩:=bs h
   refine g1 j j (mk [(4,M 4),(5,D 2 (W 2 af aP)),(6,iv (aP.length:Int)),(7,iv jf)] [(4,Oa (G 0 (aN x9)))]) (q (pL (cs:=[.im 0 _,.im 0 _]) aC j)<|q (c1 (LP oP) ack j j j j)<|q (pU j)<|nl)<|us<|?_
   by_cases hc6:x12=true
   ·rw [if_pos hc6] at h
    refine gF j (nF (iR.2 hc6))<|Go.skip<|Unw.blk<|us<|G0 (q (pB j)<|q (pM j)<|nl)<|Unw.nil<|?_
    cases h
    exact ⟨j,(by kernel_rfl)⟩
   ·rw [if_neg hc6] at h
    refine gT j (nT (byF iR hc6))<|gs<|G0 (q (pA j)<|nl)<|us<|Go.ret (Unw.ret ?_)
    cases h
    exact ⟨j,(fo aiO j)⟩
  ·refine Go.exit<|ux<|Unw.nil<|?_
   cases h
   exact ⟨j,(by kernel_rfl)⟩
 ·rintro ⟨e,st⟩ hp
  rcases o with u | r2
  ·dsimp only at h
   obtain ⟨he,hst⟩:=hp
   obtain rfl:e= .exit 0:=he
   obtain rfl:=rn h
   exact Unw.gz<|us<|gs<|g2 alQ j j hst (q (pA j)<|nl)<|us<|gr aiO j
  ·dsimp only at h
   obtain ⟨he,hfin⟩:=hp
   obtain rfl:e= .ret:=he
   cases h
   exact Unw.ret (di hfin)
theorem uS {a_0:ae} {b_1:ae} {c_2:ae} {r:Int} (h:pO a_0 b_1 c_2=some r):FX 215 [.im 2 true (aN a_0),.im 2 true (aN b_1),.im 2 true (aN c_2)] (B0 [(false,[.im 0 (I r)])]):=by
 unfold pO at h
 refine gn 37 Tryz.func215 rfl ?_
 refine gs<|G0 (q (pX aC j (tkI (tkI tk0)))<|q (pX aC j (tkI (tkI tk0)))<|q (pX aC j (tkI (tkI tk0)))<|q (pA j)<|nl)<|us<|gs<|G0 (q (pF (r':=.mp 4 0 0) dO j)<|q (l0 tF2 j)<|q (pF (r':=.mp 3 0 0) dO j)<|q (l0 tF2 j)<|q (pB j)<|q (pF (r':=.mp 5 0 1) dH j)<|q (l0 tF2 j)<|q (pF (r':=.mp 3 0 1) dH j)<|q (l0 tF2 j)<|q (pB j)<|q (pB j)<|q (pF (r':=.mp 4 0 1) dH j)<|q (l0 tF2 j)<|q (pF (r':=.mp 3 0 1) dH j)<|q (l0 tF2 j)<|q (pB j)<|q (pF (r':=.mp 5 0 0) dO j)<|q (l0 tF2 j)<|q (pF (r':=.mp 3 0 0) dO j)<|q (l0 tF2 j)<|q (pB j)<|q (pB j)<|q (pB j)<|q (pA j)<|nl)<|us<|gs<|Go.block<|gs<|G0 (q (pM j)<|q (pB j)<|q (pA j)<|nl)<|us<|gc h j ah (fun hc1 h=>?_) fun hc1 h=>?_
 ·obtain rfl:=rn h
  exact gs<|G0 (q (pA j)<|nl)<|us<|gr afp j
 ·refine gs<|G0 (q (pM j)<|q (pB j)<|q (pA j)<|nl)<|us<|gc h j ah (fun hc2 h=>?_) fun hc2 h=>?_
  ·obtain rfl:=rn h
   exact gs<|G0 (q (pA j)<|nl)<|us<|gr afp j
  ·obtain rfl:=rn h
   exact Go.skip<|Unw.blk<|us<|gs<|G0 (q (pA j)<|nl)<|us<|gr afp j
theorem BV {a_0:ae} {b_1:ae} {p_2:ae} {r:Bool} (h:wW a_0 b_1 p_2=some r):FX 203 [.im 2 true (aN a_0),.im 2 true (aN b_1),.im 2 true (aN p_2)] (B0 [(false,[.im 0 (V r)])]):=by
 unfold wW at h
 refine gn 42 Tryz.func203 rfl ?_
 refine gs<|G0 (q (pX aC j (tkI (tkI tk0)))<|q (pX aC j (tkI (tkI tk0)))<|q (pX aC j (tkI (tkI tk0)))<|q (pA j)<|nl)<|us<|gs<|?_
 obtain ⟨x10,wo,fP,hm3,h⟩:=b2 h
 refine gX c203 j j j (mk [(6,bv fP)] []) ?_ ?_
 ·refine xq (pL (cs:=[.im 0 _,.im 0 _]) aC j)<|xq (pL (cs:=[.im 0 _,.im 0 _]) aC j)<|xq (pL (cs:=[.im 0 _,.im 0 _]) aC j)<|xq (c1 (uS wo) jE j j j j)<|xq (pB j)<|xq (pM j)<|?_
  refine ic hm3 (fun hc1 hm3=>?_) fun hc1 hm3=>?_
  ·obtain ⟨x25,hx25,hm3⟩:=bs hm3
   refine xG j (iEq.2 hc1) (pF (r':=.mp 5 0 0) dO j)<|xG j (iEq.2 hc1) (l0 tF2 j)<|xG j (iEq.2 hc1) (pF (r':=.mp 3 0 0) dO j)<|xG j (iEq.2 hc1) (l0 tF2 j)<|xG j (iEq.2 hc1) (pF (r':=.mp 4 0 0) dO j)<|xG j (iEq.2 hc1) (l0 tF2 j)<|xG j (iEq.2 hc1) (ajy j j)<|xG j (iEq.2 hc1) (pF (r':=.mp 3 0 0) dO j)<|xG j (iEq.2 hc1) (l0 tF2 j)<|xG j (iEq.2 hc1) (pF (r':=.mp 4 0 0) dO j)<|xG j (iEq.2 hc1) (l0 tF2 j)<|xG j (iEq.2 hc1) (ajz j j)<|xG j (iEq.2 hc1) (c1 (aZ hx25) bV j j j j)<|xq (pT j (iEq.2 hc1))<|xq (pM j)<|?_
   refine ic hm3 (fun hc2 hm3=>?_) fun hc2 hm3=>?_
   ·obtain ⟨x40,VY,hm3⟩:=bs hm3
    cases hm3
    exact xG j (iR.2 hc2) (pF (r':=.mp 5 0 1) dH j)<|xG j (iR.2 hc2) (l0 tF2 j)<|xG j (iR.2 hc2) (pF (r':=.mp 3 0 1) dH j)<|xG j (iR.2 hc2) (l0 tF2 j)<|xG j (iR.2 hc2) (pF (r':=.mp 4 0 1) dH j)<|xG j (iR.2 hc2) (l0 tF2 j)<|xG j (iR.2 hc2) (ajy j j)<|xG j (iR.2 hc2) (pF (r':=.mp 3 0 1) dH j)<|xG j (iR.2 hc2) (l0 tF2 j)<|xG j (iR.2 hc2) (pF (r':=.mp 4 0 1) dH j)<|xG j (iR.2 hc2) (l0 tF2 j)<|xG j (iR.2 hc2) (ajz j j)<|xG j (iR.2 hc2) (c1 (aZ VY) bV j j j j)<|xq (pT j (iR.2 hc2))<|xq (pA j)<|xn
   ·cases hm3
    exact xF j (byF iR hc2)<|xF j (byF iR hc2)<|xF j (byF iR hc2)<|xF j (byF iR hc2)<|xF j (byF iR hc2)<|xF j (byF iR hc2)<|xF j (byF iR hc2)<|xF j (byF iR hc2)<|xF j (byF iR hc2)<|xF j (byF iR hc2)<|xF j (byF iR hc2)<|xF j (byF iR hc2)<|xF j (byF iR hc2)<|xq (pW j (byF iR hc2))<|xq (pA j)<|xn
  ·cases hm3
   exact xF j (byF iEq hc1)<|xF j (byF iEq hc1)<|xF j (byF iEq hc1)<|xF j (byF iEq hc1)<|xF j (byF iEq hc1)<|xF j (byF iEq hc1)<|xF j (byF iEq hc1)<|xF j (byF iEq hc1)<|xF j (byF iEq hc1)<|xF j (byF iEq hc1)<|xF j (byF iEq hc1)<|xF j (byF iEq hc1)<|xF j (byF iEq hc1)<|xq (pW j (byF iEq hc1))<|xq (pM j)<|xF j j<|xF j j<|xF j j<|xF j j<|xF j j<|xF j j<|xF j j<|xF j j<|xF j j<|xF j j<|xF j j<|xF j j<|xF j j<|xq (pW j j)<|xq (pA j)<|xn
 ·obtain rfl:=rn h
  exact us<|gr amA j
theorem O4 {a_0:ae} {b_1:ae} {c_2:ae} {d_3:ae} {r:Bool} (h:oM a_0 b_1 c_2 d_3=some r):FX 240 [.im 2 true (aN a_0),.im 2 true (aN b_1),.im 2 true (aN c_2),.im 2 true (aN d_3)] (B0 [(false,[.im 0 (V r)])]):=by
 unfold oM at h
 refine gn 31 Tryz.func240 rfl ?_
 refine gs<|G0 (q (pX aC j (tkI (tkI tk0)))<|q (pX aC j (tkI (tkI tk0)))<|q (pX aC j (tkI (tkI tk0)))<|q (pX aC j (tkI (tkI tk0)))<|q (pA j)<|nl)<|us<|gs<|?_
 obtain ⟨x12,oP,x16,hx16,h⟩:=b2 h
 obtain ⟨xw,hm2,h⟩:=bs h
 refine gd aoy j j j j (mk [(8,bv xw)] []) ?_ ?_
 ·refine t1 j (pL (cs:=[.im 0 _,.im 0 _]) aC j)<|t1 j (pL (cs:=[.im 0 _,.im 0 _]) aC j)<|t1 j (pL (cs:=[.im 0 _,.im 0 _]) aC j)<|t1 j (pL (cs:=[.im 0 _,.im 0 _]) aC j)<|t1 j (pL (cs:=[.im 0 _,.im 0 _]) aC j)<|?_
  refine ic hm2 (fun hc1 hm2=>?_) fun hc1 hm2=>?_
  ·obtain ⟨x23,oq,hm2⟩:=bs hm2
   obtain ⟨x27,hx27,hm2⟩:=bs hm2
   cases hm2
   exact t1 j (pL (cs:=[.im 0 _,.im 0 _]) aC j)<|s1 j (c1 (uS oP) jE j j j j) (s1 j (c1 (uS hx16) jE j j j j) (t1 j (pB j)<|t1 j (pB j)<|t1 j (pM j)<|t2 j (ah.2 hc1) (pL (cs:=[.im 0 _,.im 0 _]) aC j)<|t2 j (ah.2 hc1) (pL (cs:=[.im 0 _,.im 0 _]) aC j)<|t2 j (ah.2 hc1) (pL (cs:=[.im 0 _,.im 0 _]) aC j)<|t2 j (ah.2 hc1) (pL (cs:=[.im 0 _,.im 0 _]) aC j)<|t2 j (ah.2 hc1) (pL (cs:=[.im 0 _,.im 0 _]) aC j)<|t2 j (ah.2 hc1) (pL (cs:=[.im 0 _,.im 0 _]) aC j)<|s2 j (ah.2 hc1) (c1 (uS oq) jE j j j j) (s2 j (ah.2 hc1) (c1 (uS hx27) jE j j j j) (t2 j (ah.2 hc1) (pB j)<|t2 j (ah.2 hc1) (pB j)<|t1 j (pT j (ah.2 hc1))<|s1 j (pA j) (sD (by kernel_rfl))))))
  ·cases hm2
   exact t1 j (pL (cs:=[.im 0 _,.im 0 _]) aC j)<|s1 j (c1 (uS oP) jE j j j j) (s1 j (c1 (uS hx16) jE j j j j) (t1 j (pB j)<|t1 j (pB j)<|t1 j (pM j)<|t3 j (byF ah hc1)<|t3 j (byF ah hc1)<|t3 j (byF ah hc1)<|t3 j (byF ah hc1)<|t3 j (byF ah hc1)<|t3 j (byF ah hc1)<|sS (dF j j j (byF ah hc1) j) trivial (sS (dF j j j (byF ah hc1) j) trivial (t3 j (byF ah hc1)<|t3 j (byF ah hc1)<|t1 j (pW j (byF ah hc1))<|s1 j (pA j) (sD (by kernel_rfl))))))
 ·obtain rfl:=rn h
  exact us<|gr amT j
theorem O5 {a_0:ae} {b_1:ae} {c_2:ae} {d_3:ae} {r:Bool} (h:oN a_0 b_1 c_2 d_3=some r):FX 204 [.im 2 true (aN a_0),.im 2 true (aN b_1),.im 2 true (aN c_2),.im 2 true (aN d_3)] (B0 [(false,[.im 0 (V r)])]):=by
 unfold oN at h
 refine gn 38 Tryz.func204 rfl ?_
 refine gs<|G0 (q (pX aC j (tkI (tkI tk0)))<|q (pX aC j (tkI (tkI tk0)))<|q (pX aC j (tkI (tkI tk0)))<|q (pX aC j (tkI (tkI tk0)))<|q (pA j)<|nl)<|us<|gs<|?_
 obtain ⟨x13,ou,xw,hm5,h⟩:=b2 h
 refine gX aot j j j (mk [(8,bv xw)] []) ?_ ?_
 ·refine xq (pL (cs:=[.im 0 _,.im 0 _]) aC j)<|xq (pL (cs:=[.im 0 _,.im 0 _]) aC j)<|xq (pL (cs:=[.im 0 _,.im 0 _]) aC j)<|xq (pL (cs:=[.im 0 _,.im 0 _]) aC j)<|xq (c1 (O4 ou) Gq j j j j)<|xq (pM j)<|?_
  refine ic hm5 (fun hc1 hm5=>?_) fun hc1 hm5=>?_
  ·cases hm5
   exact xF j (iR.2 hc1)<|xF j (iR.2 hc1)<|xF j (iR.2 hc1)<|xF j (iR.2 hc1)<|xq (pT j (iR.2 hc1))<|xq (pM j)<|xF j j<|xF j j<|xF j j<|xF j j<|xq (pT j j)<|xq (pM j)<|xF j j<|xF j j<|xF j j<|xF j j<|xq (pT j j)<|xq (pM j)<|xF j j<|xF j j<|xF j j<|xF j j<|xq (pT j j)<|xq (pA j)<|xn
  ·obtain ⟨x18,zG,hm5⟩:=bs hm5
   refine xG j (byF iR hc1) (pL (cs:=[.im 0 _,.im 0 _]) aC j)<|xG j (byF iR hc1) (pL (cs:=[.im 0 _,.im 0 _]) aC j)<|xG j (byF iR hc1) (pL (cs:=[.im 0 _,.im 0 _]) aC j)<|xG j (byF iR hc1) (c1 (BV zG) kX j j j j)<|xq (pW j (byF iR hc1))<|xq (pM j)<|?_
   refine ic hm5 (fun hc2 hm5=>?_) fun hc2 hm5=>?_
   ·cases hm5
    exact xF j (iR.2 hc2)<|xF j (iR.2 hc2)<|xF j (iR.2 hc2)<|xF j (iR.2 hc2)<|xq (pT j (iR.2 hc2))<|xq (pM j)<|xF j j<|xF j j<|xF j j<|xF j j<|xq (pT j j)<|xq (pM j)<|xF j j<|xF j j<|xF j j<|xF j j<|xq (pT j j)<|xq (pA j)<|xn
   ·obtain ⟨x24,hx24,hm5⟩:=bs hm5
    refine xG j (byF iR hc2) (pL (cs:=[.im 0 _,.im 0 _]) aC j)<|xG j (byF iR hc2) (pL (cs:=[.im 0 _,.im 0 _]) aC j)<|xG j (byF iR hc2) (pL (cs:=[.im 0 _,.im 0 _]) aC j)<|xG j (byF iR hc2) (c1 (BV hx24) kX j j j j)<|xq (pW j (byF iR hc2))<|xq (pM j)<|?_
    refine ic hm5 (fun hc3 hm5=>?_) fun hc3 hm5=>?_
    ·cases hm5
     exact xF j (iR.2 hc3)<|xF j (iR.2 hc3)<|xF j (iR.2 hc3)<|xF j (iR.2 hc3)<|xq (pT j (iR.2 hc3))<|xq (pM j)<|xF j j<|xF j j<|xF j j<|xF j j<|xq (pT j j)<|xq (pA j)<|xn
    ·obtain ⟨x30,Jf,hm5⟩:=bs hm5
     refine xG j (byF iR hc3) (pL (cs:=[.im 0 _,.im 0 _]) aC j)<|xG j (byF iR hc3) (pL (cs:=[.im 0 _,.im 0 _]) aC j)<|xG j (byF iR hc3) (pL (cs:=[.im 0 _,.im 0 _]) aC j)<|xG j (byF iR hc3) (c1 (BV Jf) kX j j j j)<|xq (pW j (byF iR hc3))<|xq (pM j)<|?_
     refine ic hm5 (fun hc4 hm5=>?_) fun hc4 hm5=>?_
     ·cases hm5
      exact xF j (iR.2 hc4)<|xF j (iR.2 hc4)<|xF j (iR.2 hc4)<|xF j (iR.2 hc4)<|xq (pT j (iR.2 hc4))<|xq (pA j)<|xn
     ·obtain ⟨x36,H9,hm5⟩:=bs hm5
      cases hm5
      exact xG j (byF iR hc4) (pL (cs:=[.im 0 _,.im 0 _]) aC j)<|xG j (byF iR hc4) (pL (cs:=[.im 0 _,.im 0 _]) aC j)<|xG j (byF iR hc4) (pL (cs:=[.im 0 _,.im 0 _]) aC j)<|xG j (byF iR hc4) (c1 (BV H9) kX j j j j)<|xq (pW j (byF iR hc4))<|xq (pA j)<|xn
 ·obtain rfl:=rn h
  exact us<|gr amB j
theorem Rx {p_0:(List ae)} {r:Int} (h:qO p_0=some r):FX 122 [.im 2 false [W 2 af p_0]] (B0 [(false,[.im 0 (I r)])]):=by
 unfold qO at h
 refine gn 37 Tryz.func122 rfl ?_
 refine gs<|G0 (q (pA j)<|nl)<|us<|gs<|G0 (q (pA j)<|nl)<|us<|gs<|gs<|G0 (q (pM j)<|q (pI Ba j)<|q (pM j)<|nl)<|us<|Go.block<|?_
 obtain ⟨o,hl,h⟩:=bs h
 refine gl alL j _ (fun (s:(Int×Int))=>match s with | (mJ,DZ)=>mk [(0,D 2 (W 2 af p_0)),(3,iv mJ),(7,D 2 (W 2 af p_0)),(8,iv (p_0.length:Int)),(9,iv DZ)] []) (fun (qM:Int) (p:Ex×St)=>p.1= .exit 0∧p.2.norm ([3],[])=mk [(3,iv qM)] []) hl (by kernel_rfl) ?_ ?_ ?_
 ·intro o p hp e
  exact nomatch (hp.1.symm.trans e)
 ·rintro ⟨mJ,DZ⟩ o h
  unfold rJ at h
  dsimp only at h
  refine gs<|G0 (q (pB j)<|nl)<|us<|gs<|gc h j ah (fun hc3 h=>?_) fun hc3 h=>?_
  ·refine Go.skip<|us<|gs<|Go.block<|gs<|?_
   obtain ⟨x12,oP,h⟩:=bs h
   refine G0 (q (pM j)<|q (pJ oP oZ j)<|q (pL (cs:=[.im 2 _,.im 2 _]) aC j)<|q (oAl j aC (tkI (tkI tk0)))<|q (pA j)<|q (pS aC j (tkI (tkI tk0)) j)<|nl)<|us<|gs<|?_
   obtain ⟨x19,ql,x20,ny,h⟩:=b2 h
   refine g1 j j (mk [(0,D 2 (W 2 af p_0)),(3,iv mJ),(4,iv DZ),(5,M 5),(7,D 2 (W 2 af p_0)),(8,iv (p_0.length:Int)),(9,iv DZ)] [(5,Oa (G 0 (aN x12)))]) (q (pM j)<|q (pM j)<|q (pB j)<|q (pM j)<|q (pI Ba j)<|q (Ja j ql j j)<|q (pJ ny oZ j)<|q (pL (cs:=[.im 2 _,.im 2 _]) aC j)<|q (oAl j aC (tkI (tkI tk0)))<|q (pS aC j (tkI (tkI tk0)) j)<|nl)<|us<|g1 j j (mk [(0,D 2 (W 2 af p_0)),(3,iv mJ),(5,M 5),(6,M 6),(7,D 2 (W 2 af p_0)),(8,iv (p_0.length:Int)),(9,iv DZ)] [(5,Oa (G 0 (aN x12))),(6,Oa (G 0 (aN x20)))]) (q (pM j)<|q (pF (r':=.mp 5 0 0) dO j)<|q (l0 tF2 j)<|q (pF (r':=.mp 6 0 1) dH j)<|q (l0 tF2 j)<|q (pB j)<|q (pF (r':=.mp 5 0 1) dH j)<|q (l0 tF2 j)<|q (pF (r':=.mp 6 0 0) dO j)<|q (l0 tF2 j)<|q (pB j)<|q (pB j)<|q (pB j)<|q (pA j)<|nl)<|Unw.blk<|us<|G0 (q (pB j)<|q (pM j)<|nl)<|Unw.nil<|?_
   cases h
   exact ⟨j,(by kernel_rfl)⟩
  ·refine Go.exit<|ux<|Unw.nil<|?_
   cases h
   exact ⟨j,(by kernel_rfl)⟩
 ·rintro ⟨e,st⟩ hp
  obtain ⟨qM,rfl⟩:∃y,y=o:=⟨o,rfl⟩
  obtain ⟨he,hst⟩:=hp
  obtain rfl:e= .exit 0:=he
  obtain rfl:=rn h
  exact Unw.gz<|us<|gs<|g2 alL j j hst (q (pM j)<|q (pA j)<|nl)<|us<|gr al9 j
theorem Jh {p_0:(List ae)} {r:Bool} (h:nP p_0=some r):FX 155 [.im 2 false [W 2 af p_0]] (B0 [(false,[.im 0 (V r)])]):=by
 unfold nP at h
 refine gn 93 Tryz.func155 rfl ?_
 refine gs<|G0 (q (pA j)<|nl)<|us<|gs<|G0 (q (pM j)<|q (pI Ba j)<|q (pA j)<|nl)<|us<|gs<|gs<|?_
 obtain ⟨Vo,Ry,h⟩:=bs h
 refine gX XC j j j (mk [(0,D 2 (W 2 af p_0)),(3,iv (p_0.length:Int)),(21,bv Vo)] []) ?_ ?_
 ·refine xq (pM j)<|xq (pB j)<|xq (pM j)<|?_
  refine ic Ry (fun hc1 Ry=>?_) fun hc1 Ry=>?_
  ·cases Ry
   exact xF j (ah.2 hc1)<|xF j (ah.2 hc1)<|xq (pT j (ah.2 hc1))<|xq (pM j)<|xF j j<|xF j j<|xF j j<|xq (pT j j)<|xn
  ·refine xG j (byF ah hc1) (pM j)<|xG j (byF ah hc1) (pB j)<|xq (pW j (byF ah hc1))<|xq (pM j)<|?_
   refine ic Ry (fun hc2 Ry=>?_) fun hc2 Ry=>?_
   ·cases Ry
    exact xF j (ah.2 hc2)<|xF j (ah.2 hc2)<|xF j (ah.2 hc2)<|xq (pT j (ah.2 hc2))<|xn
   ·obtain ⟨x19,ql,Ry⟩:=bs Ry
    cases Ry
    exact xG j (byF ah hc2) (pM j)<|xG j (byF ah hc2) (c1 (J6 ql) ae5 j j j j)<|xG j (byF ah hc2) (pU j)<|xq (pW j (byF ah hc2))<|xn
 ·refine us<|gc h j iR (fun hc3 h=>?_) fun hc3 h=>?_
  ·obtain rfl:=rn h
   exact gs<|G0 (q (pA j)<|nl)<|us<|gr abo j
  ·refine Go.skip<|us<|gs<|gs<|G0 (q (pM j)<|q (pI Ba j)<|q (pM j)<|nl)<|us<|Go.block<|?_
   obtain ⟨o,hl,h⟩:=bs h
   refine gl XC j _ (fun (kE:Int)=>mk [(0,D 2 (W 2 af p_0)),(3,iv (p_0.length:Int)),(23,iv (p_0.length:Int)),(24,iv kE)] []) (fun (o:(Unit ⊕ Bool)) (p:Ex×St)=>match o with | (.inl _)=>p.1= .exit 0∧p.2.norm ([0],[])=mk [(0,D 2 (W 2 af p_0))] [] | (.inr r2)=>p.1= .ret∧fin Tryz.prog cfg 155 Tryz.f155 [.im 2 false [W 2 af p_0]] p.2=some (B0 [(false,[.im 0 (V r2)])])) hl (by kernel_rfl) ?_ ?_ ?_
   ·intro o p hp e
    rcases o with u | r2<;>exact nomatch (hp.1.symm.trans e)
   ·rintro kE o h
    unfold iF at h
    refine gs<|G0 (q (pB j)<|nl)<|us<|gs<|gc h j ah (fun lT h=>?_) fun lT h=>?_
    ·refine Go.skip<|us<|gs<|Go.block<|gs<|G0 (q (pM j)<|q (pA j)<|nl)<|us<|gs<|?_
     obtain ⟨x29,hx29,x35,V6,h⟩:=b2 h
     obtain ⟨x36,H9,x42,akN,h⟩:=b2 h
     obtain ⟨x43,Jg,h⟩:=bs h
     refine gd XC j j j j (mk [(0,D 2 (W 2 af p_0)),(3,iv (p_0.length:Int)),(4,iv kE),(5,M 5),(6,M 6),(7,M 7),(23,iv (p_0.length:Int)),(24,iv kE)] [(5,Oa (G 0 (aN x29))),(6,Oa (G 0 (aN x36))),(7,Oa (G 0 (aN x43)))]) (t1 j (pM j)<|t1 j (pM j)<|t1 j (pJ hx29 oZ j)<|t1 j (pL (cs:=[.im 2 _,.im 2 _]) aC j)<|t1 j (pM j)<|t1 j (pM j)<|t1 j (pB j)<|t1 j (pM j)<|t1 j (Ja j V6 j j)<|t1 j (pJ H9 oZ j)<|t1 j (pL (cs:=[.im 2 _,.im 2 _]) aC j)<|t1 j (pM j)<|t1 j (pM j)<|t1 j (pB j)<|t1 j (pM j)<|t1 j (Ja j akN j j)<|t1 j (pJ Jg oZ j)<|t1 j (pL (cs:=[.im 2 _,.im 2 _]) aC j)<|s3 j (oAl j aC (tkI (tkI tk0))) (s3 j (oAl j aC (tkI (tkI tk0))) (s1 j (oAl j aC (tkI (tkI tk0))) (s1 j (pS aC j (tkI (tkI tk0)) j) (s1 j (pS aC j (tkI (tkI tk0)) j) (s1 j (pS aC j (tkI (tkI tk0)) j) (sD (by kernel_rfl)))))) (s1 j (oAl j aC (tkI (tkI tk0))) (s1 j (oAl j aC (tkI (tkI tk0))) (s1 j (pS aC j (tkI (tkI tk0)) j) (s1 j (pS aC j (tkI (tkI tk0)) j) (s1 j (pS aC j (tkI (tkI tk0)) j) (sD (by kernel_rfl)))))))) (s3 j (oAl j aC (tkI (tkI tk0))) (s3 j (oAl j aC (tkI (tkI tk0))) (s1 j (oAl j aC (tkI (tkI tk0))) (s1 j (pS aC j (tkI (tkI tk0)) j) (s1 j (pS aC j (tkI (tkI tk0)) j) (s1 j (pS aC j (tkI (tkI tk0)) j) (sD (by kernel_rfl)))))) (s1 j (oAl j aC (tkI (tkI tk0))) (s1 j (oAl j aC (tkI (tkI tk0))) (s1 j (pS aC j (tkI (tkI tk0)) j) (s1 j (pS aC j (tkI (tkI tk0)) j) (s1 j (pS aC j (tkI (tkI tk0)) j) (sD (by kernel_rfl)))))))) (s1 j (oAl j aC (tkI (tkI tk0))) (s3 j (oAl j aC (tkI (tkI tk0))) (s1 j (oAl j aC (tkI (tkI tk0))) (s1 j (pS aC j (tkI (tkI tk0)) j) (s1 j (pS aC j (tkI (tkI tk0)) j) (s1 j (pS aC j (tkI (tkI tk0)) j) (sD (by kernel_rfl)))))) (s1 j (oAl j aC (tkI (tkI tk0))) (s1 j (oAl j aC (tkI (tkI tk0))) (s1 j (pS aC j (tkI (tkI tk0)) j) (s1 j (pS aC j (tkI (tkI tk0)) j) (s1 j (pS aC j (tkI (tkI tk0)) j) (sD (by kernel_rfl)))))))))))<|us<|gs<|gs<|?_
     obtain ⟨Vm,NL,h⟩:=bs h
     refine gX XC j j j (mk [(0,D 2 (W 2 af p_0)),(3,iv (p_0.length:Int)),(4,iv kE),(5,M 5),(6,M 6),(23,iv (p_0.length:Int)),(24,iv kE),(59,bv Vm)] [(5,Oa (G 0 (aN x29))),(6,Oa (G 0 (aN x36)))]) ?_ ?_
     ·refine xq (pL (cs:=[.im 0 _,.im 0 _]) aC j)<|xq (pL (cs:=[.im 0 _,.im 0 _]) aC j)<|xq (oBa j (VR x29.X x29.Y x36.X x36.Y) j j j j)<|xq (pM j)<|?_
      refine ic NL (fun hc31 NL=>?_) fun hc31 NL=>?_
      ·cases NL
       exact xF j ((BG iEq iEq).2 hc31)<|xF j ((BG iEq iEq).2 hc31)<|xF j ((BG iEq iEq).2 hc31)<|xF j ((BG iEq iEq).2 hc31)<|xq (pT j ((BG iEq iEq).2 hc31))<|xq (pM j)<|xF j j<|xF j j<|xF j j<|xF j j<|xq (pT j j)<|xn
      ·obtain ⟨x52,afI,NL⟩:=bs NL
       refine xG j (byF (BG iEq iEq) hc31) (pL (cs:=[.im 0 _,.im 0 _]) aC j)<|xG j (byF (BG iEq iEq) hc31) (pL (cs:=[.im 0 _,.im 0 _]) aC j)<|xG j (byF (BG iEq iEq) hc31) (pL (cs:=[.im 0 _,.im 0 _]) aC j)<|xG j (byF (BG iEq iEq) hc31) (c1 (BV afI) kX j j j j)<|xq (pW j (byF (BG iEq iEq) hc31))<|xq (pM j)<|?_
       refine ic NL (fun hc32 NL=>?_) fun hc32 NL=>?_
       ·cases NL
        exact xF j (iR.2 hc32)<|xF j (iR.2 hc32)<|xF j (iR.2 hc32)<|xF j (iR.2 hc32)<|xq (pT j (iR.2 hc32))<|xn
       ·obtain ⟨x58,akT,NL⟩:=bs NL
        cases NL
        exact xG j (byF iR hc32) (pL (cs:=[.im 0 _,.im 0 _]) aC j)<|xG j (byF iR hc32) (pL (cs:=[.im 0 _,.im 0 _]) aC j)<|xG j (byF iR hc32) (pL (cs:=[.im 0 _,.im 0 _]) aC j)<|xG j (byF iR hc32) (c1 (BV akT) kX j j j j)<|xq (pW j (byF iR hc32))<|xn
     ·refine us<|gc h j iR (fun zH h=>?_) fun zH h=>?_
      ·refine gs<|G0 (q (pA j)<|nl)<|us<|Go.ret (Unw.ret ?_)
       cases h
       exact ⟨j,(fo abo j)⟩
      ·refine Go.skip<|us<|gs<|G0 (q (pM j)<|q (pB j)<|q (pA j)<|nl)<|us<|Go.block<|?_
       obtain ⟨o,hl,h⟩:=bs h
       refine gl XC j _ (fun (BK:Int)=>mk [(0,D 2 (W 2 af p_0)),(3,iv (p_0.length:Int)),(4,iv kE),(5,M 5),(6,M 6),(8,iv BK),(23,iv (p_0.length:Int)),(24,iv kE)] [(5,Oa (G 0 (aN x29))),(6,Oa (G 0 (aN x36)))]) (fun (o:(Unit ⊕ Bool)) (p:Ex×St)=>match o with | (.inl _)=>p.1= .exit 2∧p.2.norm ([0,3,23,24],[])=mk [(0,D 2 (W 2 af p_0)),(3,iv (p_0.length:Int)),(23,iv (p_0.length:Int)),(24,iv kE)] [] | (.inr r2)=>p.1= .ret∧fin Tryz.prog cfg 155 Tryz.f155 [.im 2 false [W 2 af p_0]] p.2=some (B0 [(false,[.im 0 (V r2)])])) hl (by kernel_rfl) ?_ ?_ ?_
       ·intro o p hp e
        rcases o with u | r2<;>exact nomatch (hp.1.symm.trans e)
       ·rintro BK o h
        unfold ig at h
        refine gs<|gs<|G0 (q (pM j)<|q (pM j)<|q (pB j)<|nl)<|us<|gc h j ah (fun akU h=>?_) fun akU h=>?_
        ·refine Go.skip<|us<|gs<|Go.block<|gs<|?_
         obtain ⟨x70,afB,QC,NM,h⟩:=b2 h
         refine gd XC j j j j (mk [(0,D 2 (W 2 af p_0)),(3,iv (p_0.length:Int)),(4,iv kE),(5,M 5),(6,M 6),(8,iv BK),(23,iv (p_0.length:Int)),(24,iv kE),(88,bv QC)] [(5,Oa (G 0 (aN x29))),(6,Oa (G 0 (aN x36)))]) ?_ ?_
         ·refine t1 j (pM j)<|t1 j (pB j)<|t1 j (pM j)<|t1 j (Ja j afB j j)<|t1 j (pM j)<|t1 j (pB j)<|t1 j (pM j)<|?_
          refine ic NM (fun wz NM=>?_) fun wz NM=>?_
          ·obtain ⟨x78,akR,NM⟩:=bs NM
           obtain ⟨x84,aps,NM⟩:=bs NM
           obtain ⟨x85,akO,NM⟩:=bs NM
           obtain ⟨x87,apt,NM⟩:=bs NM
           cases NM
           exact t2 j (iNe.2 wz) (pL (cs:=[.im 0 _,.im 0 _]) aC j)<|t2 j (iNe.2 wz) (pL (cs:=[.im 0 _,.im 0 _]) aC j)<|t2 j (iNe.2 wz) (pM j)<|t2 j (iNe.2 wz) (pM j)<|t2 j (iNe.2 wz) (pJ akR oZ j)<|t2 j (iNe.2 wz) (pL (cs:=[.im 2 _,.im 2 _]) aC j)<|t2 j (iNe.2 wz) (pM j)<|t2 j (iNe.2 wz) (pM j)<|t2 j (iNe.2 wz) (pB j)<|t2 j (iNe.2 wz) (pM j)<|t2 j (iNe.2 wz) (Ja j aps j j)<|t2 j (iNe.2 wz) (pJ akO oZ j)<|t2 j (iNe.2 wz) (pL (cs:=[.im 2 _,.im 2 _]) aC j)<|s2 j (iNe.2 wz) (c1 (O5 apt) Gn j j j j) (t1 j (pT j (iNe.2 wz))<|sD (by kernel_rfl))
          ·cases NM
           exact t3 j (byF iNe wz)<|t3 j (byF iNe wz)<|t3 j (byF iNe wz)<|t3 j (byF iNe wz)<|t3 j (byF iNe wz)<|t3 j (byF iNe wz)<|t3 j (byF iNe wz)<|t3 j (byF iNe wz)<|t3 j (byF iNe wz)<|t3 j (byF iNe wz)<|t3 j (byF iNe wz)<|t3 j (byF iNe wz)<|t3 j (byF iNe wz)<|sS (dF j j j (byF iNe wz) j) trivial (t1 j (pW j (byF iNe wz))<|sD (by kernel_rfl))
         ·refine us<|gc h j iR (fun apu h=>?_) fun apu h=>?_
          ·refine gs<|G0 (q (pA j)<|nl)<|us<|Go.ret (Unw.ret ?_)
           cases h
           exact ⟨j,(fo abo j)⟩
          ·refine Go.skip<|Unw.blk<|us<|G0 (q (pM j)<|q (pB j)<|q (pA j)<|nl)<|Unw.nil<|?_
           cases h
           exact ⟨j,(by kernel_rfl)⟩
        ·refine Go.exit<|ux<|Unw.nil<|?_
         cases h
         exact ⟨j,(by kernel_rfl)⟩
       ·rintro ⟨e,st⟩ hp
        rcases o with u | r2
        ·dsimp only at h
         obtain ⟨he,hst⟩:=hp
         obtain rfl:e= .exit 2:=he
         refine Unw.gz<|Unw.blk<|us<|g2 XC j j hst (q (pB j)<|q (pM j)<|nl)<|Unw.nil<|?_
         cases h
         exact ⟨j,(by kernel_rfl)⟩
        ·dsimp only at h
         obtain ⟨he,hfin⟩:=hp
         obtain rfl:e= .ret:=he
         cases h
         exact Unw.ret ⟨j,hfin⟩
    ·refine Go.exit<|ux<|Unw.nil<|?_
     cases h
     exact ⟨j,(by kernel_rfl)⟩
   ·rintro ⟨e,st⟩ hp
    rcases o with u | r2
    ·dsimp only at h
     obtain ⟨he,hst⟩:=hp
     obtain rfl:e= .exit 0:=he
     refine Unw.gz<|us<|gs<|?_
     obtain ⟨x91,hx91,h⟩:=bs h
     obtain rfl:=rn h
     exact g2 XC j j hst (q (pM j)<|q (c1 (Rx hx91) aeZ j j j j)<|q (pB j)<|q (pA j)<|nl)<|us<|gr abo j
    ·dsimp only at h
     obtain ⟨he,hfin⟩:=hp
     obtain rfl:e= .ret:=he
     cases h
     exact Unw.ret (di hfin)
theorem Bv {d_0:aB} {r:Bool} (h:iQ d_0=some r):FX 104 [.im 2 true (au d_0)] (B0 [(false,[.im 0 (V r)])]):=by
 unfold iQ at h
 refine gn 106 Tryz.func104 rfl ?_
 refine gs<|G0 (q (pX Du j (tkI (tkI (tkI (tkI tk0)))))<|q (pA j)<|nl)<|us<|gs<|gs<|?_
 obtain ⟨x11,afx,Vq,J7,h⟩:=b2 h
 refine gX XB j j j (mk [(1,M 1),(30,bv Vq)] [(1,Oa (G 2 (au d_0)))]) ?_ ?_
 ·refine xq (pF (r':=.mp 1 0 0) Fh j)<|xq (l0 tF2 j)<|xq (c1 (aZ afx) bV j j j j)<|xq (pU j)<|xq (pM j)<|?_
  refine ic J7 (fun hc1 J7=>?_) fun hc1 J7=>?_
  ·obtain ⟨x16,hx16,J7⟩:=bs J7
   refine xG j (nF (iR.2 hc1)) (pF (r':=.mp 1 0 1) A7 j)<|xG j (nF (iR.2 hc1)) (l0 tF2 j)<|xG j (nF (iR.2 hc1)) (c1 (aZ hx16) bV j j j j)<|xG j (nF (iR.2 hc1)) (pU j)<|xq (pW j (nF (iR.2 hc1)))<|xq (pM j)<|?_
   refine ic J7 (fun hc2 J7=>?_) fun hc2 J7=>?_
   ·refine xG j (nF (iR.2 hc2)) (pF (r':=.mp 1 0 2) uO j)<|xG j (nF (iR.2 hc2)) (l2 HY j)<|xG j (nF (iR.2 hc2)) (pI Ba j)<|xG j (nF (iR.2 hc2)) (pB j)<|xq (pW j (nF (iR.2 hc2)))<|xq (pM j)<|?_
    refine ic J7 (fun hc3 J7=>?_) fun hc3 J7=>?_
    ·cases J7
     exact xF j (ah.2 hc3)<|xF j (ah.2 hc3)<|xF j (ah.2 hc3)<|xF j (ah.2 hc3)<|xq (pT j (ah.2 hc3))<|xn
    ·cases J7
     exact xG j (byF ah hc3) (pF (r':=.mp 1 0 3) jD j)<|xG j (byF ah hc3) (l2 yU j)<|xG j (byF ah hc3) (pI FB j)<|xG j (byF ah hc3) (pB j)<|xq (pW j (byF ah hc3))<|xn
   ·cases J7
    exact xF j (nT (byF iR hc2))<|xF j (nT (byF iR hc2))<|xF j (nT (byF iR hc2))<|xF j (nT (byF iR hc2))<|xq (pT j (nT (byF iR hc2)))<|xq (pM j)<|xF j j<|xF j j<|xF j j<|xF j j<|xq (pT j j)<|xn
  ·cases J7
   exact xF j (nT (byF iR hc1))<|xF j (nT (byF iR hc1))<|xF j (nT (byF iR hc1))<|xF j (nT (byF iR hc1))<|xq (pT j (nT (byF iR hc1)))<|xq (pM j)<|xF j j<|xF j j<|xF j j<|xF j j<|xq (pT j j)<|xq (pM j)<|xF j j<|xF j j<|xF j j<|xF j j<|xq (pT j j)<|xn
 ·refine us<|gc h j iR (fun hc4 h=>?_) fun hc4 h=>?_
  ·obtain rfl:=rn h
   exact gs<|G0 (q (pA j)<|nl)<|us<|gr XR j
  ·refine Go.skip<|us<|gs<|gs<|G0 (q (pF (r':=.mp 1 0 2) uO j)<|q (l2 HY j)<|q (pI Ba j)<|q (pM j)<|nl)<|us<|Go.block<|?_
   obtain ⟨o,hl,h⟩:=bs h
   refine gl XB j _ (fun (zW:Int)=>mk [(1,M 1),(32,D 2 (W 2 af d_0.bG)),(33,iv (d_0.bG.length:Int)),(34,iv zW)] [(1,Oa (G 2 (au d_0)))]) (fun (o:(Unit ⊕ Bool)) (p:Ex×St)=>match o with | (.inl _)=>p.1= .exit 0∧p.2.norm ([1],[1])=mk [(1,M 1)] [(1,Oa (G 2 (au d_0)))] | (.inr r2)=>p.1= .ret∧fin Tryz.prog cfg 104 Tryz.f104 [.im 2 true (au d_0)] p.2=some (B0 [(false,[.im 0 (V r2)])])) hl (by kernel_rfl) ?_ ?_ ?_
   ·intro o p hp e
    rcases o with u | r2<;>exact nomatch (hp.1.symm.trans e)
   ·rintro zW o h
    unfold jm at h
    refine gs<|G0 (q (pB j)<|nl)<|us<|gs<|gc h j ah (fun hc39 h=>?_) fun hc39 h=>?_
    ·refine Go.skip<|us<|gs<|Go.block<|gs<|?_
     obtain ⟨x37,Rk,h⟩:=bs h
     refine G0 (q (pM j)<|q (pJ Rk oZ j)<|q (pL (cs:=[.im 2 _,.im 2 _]) aC j)<|q (oAl j aC (tkI (tkI tk0)))<|q (pA j)<|q (pS aC j (tkI (tkI tk0)) j)<|nl)<|us<|gs<|?_
     obtain ⟨x43,Jg,Vp,J8,h⟩:=b2 h
     refine gd XB j j j (st1:=mk [(1,M 1),(3,iv zW),(4,M 4),(32,D 2 (W 2 af d_0.bG)),(33,iv (d_0.bG.length:Int)),(34,iv zW)] [(1,Oa (G 2 (au d_0))),(4,Oa (G 0 (aN x37)))]) (by kernel_rfl) (mk [(1,M 1),(32,D 2 (W 2 af d_0.bG)),(33,iv (d_0.bG.length:Int)),(34,iv zW),(60,bv Vp)] [(1,Oa (G 2 (au d_0)))]) ?_ ?_
     ·refine t1 j (pF (r':=.mp 4 0 0) dO j)<|t1 j (l0 tF2 j)<|t1 j (pF (r':=.mp 1 0 0) Fh j)<|?_
      refine ic J8 (fun Dv J8=>?_) fun Dv J8=>?_
      ·obtain ⟨x50,J3,J8⟩:=bs J8
       refine ic J8 (fun J9 J8=>?_) fun J9 J8=>?_
       ·obtain ⟨x57,aib,J8⟩:=bs J8
        obtain ⟨x59,afz,J8⟩:=bs J8
        cases J8
        exact t1 j (l0 tF2 j)<|s1 j (c1 (aZ Jg) bV j j j j) (t1 j (pU j)<|t1 j (pM j)<|t2 j (nF (iR.2 Dv)) (pF (r':=.mp 4 0 1) dH j)<|t2 j (nF (iR.2 Dv)) (l0 tF2 j)<|t2 j (nF (iR.2 Dv)) (pF (r':=.mp 1 0 1) A7 j)<|t2 j (nF (iR.2 Dv)) (l0 tF2 j)<|s2 j (nF (iR.2 Dv)) (c1 (aZ J3) bV j j j j) (t2 j (nF (iR.2 Dv)) (pU j)<|t1 j (pW j (nF (iR.2 Dv)))<|t1 j (pM j)<|t2 j (nF (iR.2 J9)) (pF (r':=.mp 1 0 2) uO j)<|t2 j (nF (iR.2 J9)) (l2 HY j)<|t2 j (nF (iR.2 J9)) (pM j)<|sK (O:=[4]) j j j (dT aj8 j j j (nF (iR.2 J9)) (pL (cs:=[.im 0 _,.im 0 _]) aC j))<|sS (dT aj8 j j j (nF (iR.2 J9)) (ad1 j aib oZ j bn0 (bn1 j) j j)) (kY ⟨j,trivial⟩ trivial) (sS (dT aj8 j j j (nF (iR.2 J9)) (c1 (tN afz) VG j j j j)) (kN j trivial) (t1 j (pW j (nF (iR.2 J9)))<|sD (by kernel_rfl)))))
       ·cases J8
        exact t1 j (l0 tF2 j)<|s1 j (c1 (aZ Jg) bV j j j j) (t1 j (pU j)<|t1 j (pM j)<|t2 j (nF (iR.2 Dv)) (pF (r':=.mp 4 0 1) dH j)<|t2 j (nF (iR.2 Dv)) (l0 tF2 j)<|t2 j (nF (iR.2 Dv)) (pF (r':=.mp 1 0 1) A7 j)<|t2 j (nF (iR.2 Dv)) (l0 tF2 j)<|s2 j (nF (iR.2 Dv)) (c1 (aZ J3) bV j j j j) (t2 j (nF (iR.2 Dv)) (pU j)<|t1 j (pW j (nF (iR.2 Dv)))<|t1 j (pM j)<|t3 j (nT (byF iR J9))<|t3 j (nT (byF iR J9))<|t3 j (nT (byF iR J9))<|sK (O:=[4]) j j j (dF j j j (nT (byF iR J9)) j)<|sS (dF j j j (nT (byF iR J9)) j) (kY ⟨j,trivial⟩ trivial) (sS (dF j j j (nT (byF iR J9)) j) (kN j trivial) (t1 j (pT j (nT (byF iR J9)))<|sD (by kernel_rfl)))))
      ·cases J8
       exact t1 j (l0 tF2 j)<|s1 j (c1 (aZ Jg) bV j j j j) (t1 j (pU j)<|t1 j (pM j)<|t3 j (nT (byF iR Dv))<|t3 j (nT (byF iR Dv))<|t3 j (nT (byF iR Dv))<|t3 j (nT (byF iR Dv))<|sS (dF j j j (nT (byF iR Dv)) j) trivial (t3 j (nT (byF iR Dv))<|t1 j (pT j (nT (byF iR Dv)))<|t1 j (pM j)<|t3 j j<|t3 j j<|t3 j j<|sK (O:=[4]) j j j (dF j j j j j)<|sS (dF j j j j j) (kY ⟨j,trivial⟩ trivial) (sS (dF j j j j j) (kN j trivial) (t1 j (pT j j)<|sD (by kernel_rfl)))))
     ·refine us<|gc h j iR (fun akU h=>?_) fun akU h=>?_
      ·refine gs<|G0 (q (pA j)<|nl)<|us<|Go.ret (Unw.ret ?_)
       cases h
       exact ⟨j,(fo XR j)⟩
      ·refine Go.skip<|Unw.blk<|us<|G0 (q (pB j)<|q (pM j)<|nl)<|Unw.nil<|?_
       cases h
       exact ⟨j,(by kernel_rfl)⟩
    ·refine Go.exit<|ux<|Unw.nil<|?_
     cases h
     exact ⟨j,(by kernel_rfl)⟩
   ·rintro ⟨e,st⟩ hp
    rcases o with u | r2
    ·dsimp only at h
     obtain ⟨he,hst⟩:=hp
     obtain rfl:e= .exit 0:=he
     refine Unw.gz<|us<|gs<|gs<|g2 XB j j hst (q (pF (r':=.mp 1 0 3) jD j)<|q (l2 yU j)<|q (pI FB j)<|q (pM j)<|nl)<|us<|Go.block<|?_
     obtain ⟨o,hl,h⟩:=bs h
     refine gl XB j _ (fun (rM:Int)=>mk [(1,M 1),(63,D 2 (W 2 aQ d_0.aG)),(64,iv (d_0.aG.length:Int)),(65,iv rM)] [(1,Oa (G 2 (au d_0)))]) (fun (o:(Unit ⊕ Bool)) (p:Ex×St)=>match o with | (.inl _)=>p.1= .exit 2∧p.2.norm ([],[])=mk [] [] | (.inr r2)=>p.1= .ret∧fin Tryz.prog cfg 104 Tryz.f104 [.im 2 true (au d_0)] p.2=some (B0 [(false,[.im 0 (V r2)])])) hl (by kernel_rfl) ?_ ?_ ?_
     ·intro o p hp e
      rcases o with u | r2<;>exact nomatch (hp.1.symm.trans e)
     ·rintro rM o h
      unfold iV at h
      refine gs<|G0 (q (pB j)<|nl)<|us<|gs<|gc h j ah (fun hc31 h=>?_) fun hc31 h=>?_
      ·refine Go.skip<|us<|gs<|Go.block<|gs<|?_
       obtain ⟨x68,apv,h⟩:=bs h
       refine G0 (q (pM j)<|q (pJ apv EH j)<|q (pL (cs:=[.im 2 _,.im 2 _]) zh j)<|q (oAl j zh (tkI (tkN tk0)))<|q (pA j)<|q (pS zh j (tkI (tkI tk0)) j)<|nl)<|us<|gs<|gs<|?_
       obtain ⟨x72,afH,QD,Rz,h⟩:=b2 h
       refine gd XB j j j (st1:=mk [(1,M 1),(5,iv rM),(6,M 6),(63,D 2 (W 2 aQ d_0.aG)),(64,iv (d_0.aG.length:Int)),(65,iv rM)] [(1,Oa (G 2 (au d_0))),(6,Oa (G 2 (wO x68)))]) (by kernel_rfl) (mk [(1,M 1),(6,M 6),(63,D 2 (W 2 aQ d_0.aG)),(64,iv (d_0.aG.length:Int)),(65,iv rM),(89,bv QD)] [(1,Oa (G 2 (au d_0))),(6,Oa (G 2 (wO x68)))]) ?_ ?_
       ·refine t1 j (pF (r':=.mp 6 0 0) vM j)<|?_
        refine ic Rz (fun hc32 Rz=>?_) fun hc32 Rz=>?_
        ·refine ic Rz (fun zH Rz=>?_) fun zH Rz=>?_
         ·obtain ⟨x82,apw,Rz⟩:=bs Rz
          cases Rz
          exact t1 j (l0 tF9 j)<|s1 j (c1 (wP afH) Lj j j j j) (t1 j (pU j)<|t1 j (pM j)<|t2 j (nF (iR.2 hc32)) (pM j)<|t2 j (nF (iR.2 hc32)) (pB j)<|t2 j (nF (iR.2 hc32)) (pM j)<|t2 j (ah.2 zH) (pF (r':=.mp 1 0 3) jD j)<|t2 j (ah.2 zH) (l2 yU j)<|t2 j (ah.2 zH) (pM j)<|t2 j (ah.2 zH) (pB j)<|t2 j (ah.2 zH) (pJ apw EH j)<|t2 j (ah.2 zH) (f2 vM j)<|t2 j (ah.2 zH) (l2 tF9 j)<|t2 j (ah.2 zH) (pF (r':=.mp 6 0 0) vM j)<|t2 j (ah.2 zH) (l0 tF9 j)<|t2 j (ah.2 zH) (pB j)<|t2 j (nF (iR.2 hc32)) (pT j (ah.2 zH))<|t1 j (pW j (nF (iR.2 hc32)))<|sD (by kernel_rfl))
         ·cases Rz
          exact t1 j (l0 tF9 j)<|s1 j (c1 (wP afH) Lj j j j j) (t1 j (pU j)<|t1 j (pM j)<|t2 j (nF (iR.2 hc32)) (pM j)<|t2 j (nF (iR.2 hc32)) (pB j)<|t2 j (nF (iR.2 hc32)) (pM j)<|t3 j (byF ah zH)<|t3 j (byF ah zH)<|t3 j (byF ah zH)<|t3 j (byF ah zH)<|t3 j (byF ah zH)<|t3 j (byF ah zH)<|t3 j (byF ah zH)<|t3 j (byF ah zH)<|t3 j (byF ah zH)<|t3 j (byF ah zH)<|t2 j (nF (iR.2 hc32)) (pW j (byF ah zH))<|t1 j (pW j (nF (iR.2 hc32)))<|sD (by kernel_rfl))
        ·cases Rz
         exact t1 j (l0 tF9 j)<|s1 j (c1 (wP afH) Lj j j j j) (t1 j (pU j)<|t1 j (pM j)<|t3 j (nT (byF iR hc32))<|t3 j (nT (byF iR hc32))<|t3 j (nT (byF iR hc32))<|t4 j<|t4 j<|t4 j<|t4 j<|t4 j<|t4 j<|t4 j<|t4 j<|t4 j<|t4 j<|t3 j (nT (byF iR hc32))<|t1 j (pT j (nT (byF iR hc32)))<|sD (by kernel_rfl))
       ·refine us<|gc h j iR (fun hc34 h=>?_) fun hc34 h=>?_
        ·refine gs<|G0 (q (pA j)<|nl)<|us<|Go.ret (Unw.ret ?_)
         cases h
         exact ⟨j,(fo XR j)⟩
        ·refine Go.skip<|us<|gs<|?_
         obtain ⟨x95,hx95,h⟩:=bs h
         refine G0 (q (pF (r':=.mp 1 0 2) uO j)<|q (l2 HY j)<|q (pF (r':=.mp 6 0 1) yT j)<|q (l2 l9 j)<|q (cR (vs:=[(false,[.own 95 0 0]),(false,[.im 0 _])]) (v:=.tup [(false,[.own 95 0 0]),(false,[.im 0 _])]) (c:=⟨.sh,0,_⟩) (cs:=[]) (Dh hx95) Oz j j j j j)<|q (Qy j j)<|q (oEx j j j)<|q (oEx j j j)<|q (jU j j j j j)<|q (pA j)<|nl)<|us<|gs<|?_
         obtain ⟨MV,Ih,h⟩:=bs h
         refine gX XB j j j (mk [(1,M 1),(63,D 2 (W 2 aQ d_0.aG)),(64,iv (d_0.aG.length:Int)),(65,iv rM),(104,bv MV)] [(1,Oa (G 2 (au d_0)))]) ?_ ?_
         ·refine xq (pM j)<|xq (pU j)<|xq (pM j)<|?_
          refine ic Ih (fun sZ Ih=>?_) fun sZ Ih=>?_
          ·obtain ⟨x102,hx102,Ih⟩:=bs Ih
           cases Ih
           exact xG j (nF (iR.2 sZ)) (pM j)<|xG j (nF (iR.2 sZ)) (c1 (Jh hx102) ae2 j j j j)<|xG j (nF (iR.2 sZ)) (pU j)<|xq (pW j (nF (iR.2 sZ)))<|xn
          ·cases Ih
           exact xF j (nT (byF iR sZ))<|xF j (nT (byF iR sZ))<|xF j (nT (byF iR sZ))<|xq (pT j (nT (byF iR sZ)))<|xn
         ·refine us<|gc h j iR (fun afA h=>?_) fun afA h=>?_
          ·refine gs<|G0 (q (pA j)<|nl)<|us<|Go.ret (Unw.ret ?_)
           cases h
           exact ⟨j,(fo XR j)⟩
          ·refine Go.skip<|Unw.blk<|us<|G0 (q (pB j)<|q (pM j)<|nl)<|Unw.nil<|?_
           cases h
           exact ⟨j,(by kernel_rfl)⟩
      ·refine Go.exit<|ux<|Unw.nil<|?_
       cases h
       exact ⟨j,(by kernel_rfl)⟩
     ·rintro ⟨e,st⟩ hp
      rcases o with u | r2
      ·dsimp only at h
       obtain ⟨he,hst⟩:=hp
       obtain rfl:e= .exit 2:=he
       obtain rfl:=rn h
       exact Unw.gz<|us<|gs<|g2 XB j j hst (q (pA j)<|nl)<|us<|gr XR j
      ·dsimp only at h
       obtain ⟨he,hfin⟩:=hp
       obtain rfl:e= .ret:=he
       cases h
       exact Unw.ret (di hfin)
    ·dsimp only at h
     obtain ⟨he,hfin⟩:=hp
     obtain rfl:e= .ret:=he
     cases h
     exact Unw.ret (di hfin)
theorem Ko {jV:ByteArray} {r:(Int×Int×Int×Int)} (h:pR jV=some r):FX 241 [.im 2 false [Y jV]] (B0 [(false,[.im 0 (I r.1)]),(false,[.im 0 (I r.2.1)]),(false,[.im 0 (I r.2.2.1)]),(false,[.im 0 (I r.2.2.2)])]):=by
 unfold pR at h
 refine gn 27 Tryz.func241 rfl ?_
 refine gs<|G0 (q (pA j)<|q (pA j)<|q (pA j)<|q (pA j)<|nl)<|us<|gs<|gs<|G0 (q (pM j)<|nl)<|us<|Go.block<|gs<|G0 (q (pB j)<|q (pA j)<|nl)<|us<|gc h j zu (fun hc1 h=>?_) fun hc1 h=>?_
 ·obtain rfl:=rn h
  exact gs<|G0 (q (pA j)<|q (pA j)<|q (pA j)<|q (pA j)<|nl)<|us<|gr Hz j
 ·refine gs<|G0 (q (pB j)<|q (pA j)<|nl)<|us<|gc h j zu (fun hc2 h=>?_) fun hc2 h=>?_
  ·obtain rfl:=rn h
   exact gs<|G0 (q (pA j)<|q (pA j)<|q (pA j)<|q (pA j)<|nl)<|us<|gr Hz j
  ·refine gs<|G0 (q (pB j)<|q (pA j)<|nl)<|us<|gc h j zu (fun hc3 h=>?_) fun hc3 h=>?_
   ·obtain rfl:=rn h
    exact gs<|G0 (q (pA j)<|q (pA j)<|q (pA j)<|q (pA j)<|nl)<|us<|gr Hz j
   ·refine gs<|G0 (q (pB j)<|q (pA j)<|nl)<|us<|gc h j zu (fun hc4 h=>?_) fun hc4 h=>?_
    ·obtain rfl:=rn h
     exact gs<|G0 (q (pA j)<|q (pA j)<|q (pA j)<|q (pA j)<|nl)<|us<|gr Hz j
    ·refine gs<|G0 (q (pB j)<|q (pA j)<|nl)<|us<|gc h j zu (fun hc5 h=>?_) fun hc5 h=>?_
     ·obtain rfl:=rn h
      exact gs<|G0 (q (pA j)<|q (pA j)<|q (pA j)<|q (pA j)<|nl)<|us<|gr Hz j
     ·refine gs<|G0 (q (pB j)<|q (pA j)<|nl)<|us<|gc h j zu (fun hc6 h=>?_) fun hc6 h=>?_
      ·obtain rfl:=rn h
       exact gs<|G0 (q (pA j)<|q (pA j)<|q (pA j)<|q (pA j)<|nl)<|us<|gr Hz j
      ·refine gs<|G0 (q (pB j)<|q (pA j)<|nl)<|us<|gc h j zu (fun hc7 h=>?_) fun hc7 h=>?_
       ·obtain rfl:=rn h
        exact gs<|G0 (q (pA j)<|q (pA j)<|q (pA j)<|q (pA j)<|nl)<|us<|gr Hz j
       ·refine gs<|G0 (q (pB j)<|q (pA j)<|nl)<|us<|gc h j zu (fun hc8 h=>?_) fun hc8 h=>?_
        ·obtain rfl:=rn h
         exact gs<|G0 (q (pA j)<|q (pA j)<|q (pA j)<|q (pA j)<|nl)<|us<|gr Hz j
        ·refine gs<|G0 (q (pB j)<|q (pA j)<|nl)<|us<|gc h j zu (fun hc9 h=>?_) fun hc9 h=>?_
         ·obtain rfl:=rn h
          exact gs<|G0 (q (pA j)<|q (pA j)<|q (pA j)<|q (pA j)<|nl)<|us<|gr Hz j
         ·refine gs<|G0 (q (pB j)<|q (pA j)<|nl)<|us<|gc h j zu (fun gU h=>?_) fun gU h=>?_
          ·obtain rfl:=rn h
           exact gs<|G0 (q (pA j)<|q (pA j)<|q (pA j)<|q (pA j)<|nl)<|us<|gr Hz j
          ·obtain rfl:=rn h
           exact Go.skip<|Unw.blk<|us<|gs<|G0 (q (pA j)<|q (pA j)<|q (pA j)<|q (pA j)<|nl)<|us<|gr Hz j
theorem Ji {jV:ByteArray} {r:(Int×Bool)} (h:jw jV=some r):FX 206 [.im 2 false [Y jV]] (B0 [(false,[.im 0 (I r.1)]),(false,[.im 0 (V r.2)])]):=by
 unfold jw at h
 refine gn 18 Tryz.func206 rfl ?_
 refine gs<|G0 (q (pA j)<|q (pA j)<|nl)<|us<|gs<|?_
 obtain ⟨x10,wo,h⟩:=bs h
 obtain rfl:=rn h
 exact G0 (q (pM j)<|q (cA (vs:=[(false,[.im 0 _]),(false,[.im 0 _]),(false,[.im 0 _]),(false,[.im 0 _])]) (v:=.tup [(false,[.im 0 _]),(false,[.im 0 _]),(false,[.im 0 _]),(false,[.im 0 _])]) (Ko wo) ahH j j j j j)<|q (Qy j j)<|q (oEx j j j)<|q (oEx j j j)<|q (oEx j j j)<|q (oEx j j j)<|q (pA j)<|q (pA j)<|q (pA j)<|q (pA j)<|nl)<|us<|gs<|G0 (q (pM j)<|q (pM j)<|q (pB j)<|q (pA j)<|q (pA j)<|nl)<|us<|gr amC j
theorem Di {v_0:aI} {r:Bool} (h:jY v_0=some r):FX 158 [.im 2 true (kz v_0)] (B0 [(false,[.im 0 (V r)])]):=by
 unfold jY at h
 refine gn 29 Tryz.func158 rfl ?_
 refine gs<|G0 (q (pX H6 j (tkI (tkI (tkI tk0))))<|q (pA j)<|nl)<|us<|gs<|?_
 obtain ⟨x8,hx8,h⟩:=bs h
 refine G0 (q (pF (r':=.mp 1 0 0) JU j)<|q (l0 tF9 j)<|q (cA (vs:=[(false,[.im 0 _]),(false,[.im 0 _])]) (v:=.tup [(false,[.im 0 _]),(false,[.im 0 _])]) (Ji hx8) ahD j j j j j)<|q (Qy j j)<|q (oEx j j j)<|q (oEx j j j)<|q (pA j)<|q (pA j)<|nl)<|us<|gs<|?_
 obtain ⟨YR,hm4,h⟩:=bs h
 refine gX aop j j j (mk [(2,bv YR)] []) ?_ ?_
 ·refine xq (pM j)<|xq (pM j)<|?_
  refine ic hm4 (fun hc1 hm4=>?_) fun hc1 hm4=>?_
  ·obtain ⟨x15,rW,hm4⟩:=bs hm4
   refine xG j (iR.2 hc1) (pF (r':=.mp 1 0 1) Fq j)<|xG j (iR.2 hc1) (l0 tF2 j)<|xG j (iR.2 hc1) (c1 (aZ rW) bV j j j j)<|xq (pT j (iR.2 hc1))<|xq (pM j)<|?_
   refine ic hm4 (fun hc2 hm4=>?_) fun hc2 hm4=>?_
   ·obtain ⟨x22,qp,hm4⟩:=bs hm4
    refine xG j (iR.2 hc2) (pF (r':=.mp 1 0 1) Fq j)<|xG j (iR.2 hc2) (l0 tF2 j)<|xG j (iR.2 hc2) (pM j)<|xG j (iR.2 hc2) (pB j)<|xG j (iR.2 hc2) (c1 (aZ qp) bV j j j j)<|xq (pT j (iR.2 hc2))<|xq (pM j)<|?_
    refine ic hm4 (fun hc3 hm4=>?_) fun hc3 hm4=>?_
    ·obtain ⟨x27,hx27,hm4⟩:=bs hm4
     cases hm4
     exact xG j (iR.2 hc3) (pF (r':=.mp 1 0 2) JV j)<|xG j (iR.2 hc3) (l0 tF2 j)<|xG j (iR.2 hc3) (c1 (aZ hx27) bV j j j j)<|xq (pT j (iR.2 hc3))<|xq (pA j)<|xn
    ·cases hm4
     exact xF j (byF iR hc3)<|xF j (byF iR hc3)<|xF j (byF iR hc3)<|xq (pW j (byF iR hc3))<|xq (pA j)<|xn
   ·cases hm4
    exact xF j (byF iR hc2)<|xF j (byF iR hc2)<|xF j (byF iR hc2)<|xF j (byF iR hc2)<|xF j (byF iR hc2)<|xq (pW j (byF iR hc2))<|xq (pM j)<|xF j j<|xF j j<|xF j j<|xq (pW j j)<|xq (pA j)<|xn
  ·cases hm4
   exact xF j (byF iR hc1)<|xF j (byF iR hc1)<|xF j (byF iR hc1)<|xq (pW j (byF iR hc1))<|xq (pM j)<|xF j j<|xF j j<|xF j j<|xF j j<|xF j j<|xq (pW j j)<|xq (pM j)<|xF j j<|xF j j<|xF j j<|xq (pW j j)<|xq (pA j)<|xn
 ·obtain rfl:=rn h
  exact us<|gr amn j
theorem FI {v_0:aI} {r:Bool} (h:iG v_0=some r):FX 157 [.im 2 true (kz v_0)] (B0 [(false,[.im 0 (V r)])]):=by
 unfold iG at h
 refine gn 6 Tryz.func157 rfl ?_
 refine gs<|G0 (q (pX H6 j (tkI (tkI (tkI tk0))))<|q (pA j)<|nl)<|us<|gs<|?_
 obtain ⟨x4,hx4,h⟩:=bs h
 obtain rfl:=rn h
 exact G0 (q (pL (cs:=[.im 0 _,.im 0 _,.im 0 _]) H6 j)<|q (c1 (Di hx4) XN j j j j)<|q (pU j)<|q (pA j)<|nl)<|us<|gr amm j
theorem oQ {s_0:(List aI)} {r:Int} (h:fE s_0 (fun b0=>iG b0)=some r):FX 205 [.im 2 false [W 3 aK s_0],.im 2 false [.clo 157 []]] (B0 [(false,[.im 0 (I r)])]):=by
 unfold fE at h
 refine gn 19 Tryz.func205 rfl ?_
 refine gs<|G0 (q (pA j)<|nl)<|us<|gs<|gs<|G0 (q (pM j)<|q (pI VV j)<|q (pM j)<|nl)<|us<|Go.block<|?_
 obtain ⟨o,hl,h⟩:=bs h
 refine gl alR j _ (fun (dA:Int)=>mk [(0,D 2 (W 3 aK s_0)),(1,D 2 (.clo 157 [])),(7,iv (s_0.length:Int)),(8,iv dA)] []) (fun (o:(Unit ⊕ Int)) (p:Ex×St)=>match o with | (.inl _)=>p.1= .exit 0∧p.2.norm ([],[])=mk [] [] | (.inr r2)=>p.1= .ret∧fin Tryz.prog cfg 205 Tryz.f205 [.im 2 false [W 3 aK s_0],.im 2 false [.clo 157 []]] p.2=some (B0 [(false,[.im 0 (I r2)])])) hl (by kernel_rfl) ?_ ?_ ?_
 ·intro o p hp e
  rcases o with u | r2<;>exact nomatch (hp.1.symm.trans e)
 ·rintro dA o h
  unfold dD at h
  refine gs<|G0 (q (pB j)<|nl)<|us<|gs<|gc h j ah (fun hc5 h=>?_) fun hc5 h=>?_
  ·refine Go.skip<|us<|gs<|Go.block<|gs<|G0 (q (pM j)<|q (pA j)<|nl)<|us<|gs<|?_
   obtain ⟨x14,kR,x16,hx16,h⟩:=b2 h
   refine G0 (q (pM j)<|q (pM j)<|q (pM j)<|q (pJ kR VS j)<|q (pL (cs:=[.im 2 _,.im 2 _,.im 2 _]) H6 j)<|q (oCa (xs:=[.v true [.im 2 _,.im 2 _,.im 2 _]]) (vs:=[(false,[.im 0 _])]) (v:=.v false [.im 0 _]) (FI hx16) (.inr ⟨_,_,j,j⟩) j ae3 j (ppC j pp0) j j pb0 j j j)<|nl)<|us<|gc h j iR (fun hc6 h=>?_) fun hc6 h=>?_
   ·refine gs<|G0 (q (pM j)<|q (pA j)<|nl)<|us<|Go.ret (Unw.ret ?_)
    cases h
    exact ⟨j,(fo aiP j)⟩
   ·refine Go.skip<|Unw.blk<|us<|G0 (q (pB j)<|q (pM j)<|nl)<|Unw.nil<|?_
    cases h
    exact ⟨j,(by kernel_rfl)⟩
  ·refine Go.exit<|ux<|Unw.nil<|?_
   cases h
   exact ⟨j,(by kernel_rfl)⟩
 ·rintro ⟨e,st⟩ hp
  rcases o with u | r2
  ·dsimp only at h
   obtain ⟨he,hst⟩:=hp
   obtain rfl:e= .exit 0:=he
   obtain rfl:=rn h
   exact Unw.gz<|us<|gs<|g2 alR j j hst (q (pA j)<|nl)<|us<|gr aiP j
  ·dsimp only at h
   obtain ⟨he,hfin⟩:=hp
   obtain rfl:e= .ret:=he
   cases h
   exact Unw.ret (di hfin)
theorem nC {s_0:(List aI)} {r:Bool} (h:eu s_0 (fun b0=>iG b0)=some r):FX 156 [.im 2 false [W 3 aK s_0],.im 2 false [.clo 157 []]] (B0 [(false,[.im 0 (V r)])]):=by
 unfold eu at h
 refine gn 9 Tryz.func156 rfl ?_
 refine gs<|G0 (q (pA j)<|nl)<|us<|gs<|?_
 obtain ⟨x7,hx7,h⟩:=bs h
 obtain rfl:=rn h
 exact G0 (q (pM j)<|q (pM j)<|q (c1 (oQ hx7) VL j j j j)<|q (pB j)<|q (pA j)<|nl)<|us<|gr aml j
theorem Jj {aP:(List aI)} {r:Bool} (h:nR aP=some r):FX 105 [.im 2 false [W 3 aK aP]] (B0 [(false,[.im 0 (V r)])]):=by
 unfold nR at h
 refine gn 6 Tryz.func105 rfl ?_
 refine gs<|G0 (q (pA j)<|nl)<|us<|gs<|?_
 obtain ⟨x4,hx4,h⟩:=bs h
 obtain rfl:=rn h
 exact G0 (q (pM j)<|q (c1 (nC hx4) VH j j j j)<|q (pU j)<|q (pA j)<|nl)<|us<|gr al4 j
theorem Jk {p_0:dJ} {r:Bool} (h:kV p_0=some r):FX 56 [.im 2 true (fB p_0)] (B0 [(false,[.im 0 (V r)])]):=by
 unfold kV at h
 refine gn 21 Tryz.func56 rfl ?_
 refine gs<|G0 (q (pX Ns j (tkI (tkI (tkI (tkI (tkI tk0))))))<|q (pA j)<|nl)<|us<|gs<|?_
 obtain ⟨x5,hx5,fD,hm3,h⟩:=b2 h
 refine gX c56 j j (st1:=mk [(1,M 1)] [(1,Oa (G 2 (fB p_0)))]) (by kernel_rfl) (mk [(2,bv fD)] []) ?_ ?_
 ·refine xq (pF (r':=.mp 1 0 0) uP j)<|xq (pL (cs:=[.im 0 _,.im 0 _,.im 2 _,.im 2 _]) Du j)<|xq (c1 (Bv hx5) XE j j j j)<|xq (pM j)<|?_
  refine ic hm3 (fun hc1 hm3=>?_) fun hc1 hm3=>?_
  ·refine xG j (iR.2 hc1) (pF (r':=.mp 1 0 4) D5 j)<|xG j (iR.2 hc1) (l2 Tq j)<|xG j (iR.2 hc1) (pI VV j)<|xG j (iR.2 hc1) (pF (r':=.mp 1 0 0) uP j)<|xG j (iR.2 hc1) (pF (r':=.mp 1 0 3) jD j)<|xG j (iR.2 hc1) (l2 yU j)<|xG j (iR.2 hc1) (pI FB j)<|xG j (iR.2 hc1) (pB j)<|xq (pT j (iR.2 hc1))<|xq (pM j)<|?_
   refine ic hm3 (fun hc2 hm3=>?_) fun hc2 hm3=>?_
   ·obtain ⟨x19,ql,hm3⟩:=bs hm3
    cases hm3
    exact xG j (iEq.2 hc2) (pF (r':=.mp 1 0 4) D5 j)<|xG j (iEq.2 hc2) (l2 Tq j)<|xG j (iEq.2 hc2) (c1 (Jj ql) aeY j j j j)<|xq (pT j (iEq.2 hc2))<|xq (pA j)<|xn
   ·cases hm3
    exact xF j (byF iEq hc2)<|xF j (byF iEq hc2)<|xF j (byF iEq hc2)<|xq (pW j (byF iEq hc2))<|xq (pA j)<|xn
  ·cases hm3
   exact xF j (byF iR hc1)<|xF j (byF iR hc1)<|xF j (byF iR hc1)<|xF j (byF iR hc1)<|xF j (byF iR hc1)<|xF j (byF iR hc1)<|xF j (byF iR hc1)<|xF j (byF iR hc1)<|xq (pW j (byF iR hc1))<|xq (pM j)<|xF j j<|xF j j<|xF j j<|xq (pW j j)<|xq (pA j)<|xn
 ·obtain rfl:=rn h
  exact us<|gr aoX j
theorem NP {b_0:dn} {yE:Int} {uz:Int} {r:Bool} (h:mV b_0 yE uz=some r):FX 161 [.im 2 true (xe b_0),.im 2 false [I yE],.im 2 false [I uz]] (B0 [(false,[.im 0 (V r)])]):=by
 unfold mV at h
 refine gn 35 Tryz.func161 rfl ?_
 refine gs<|G0 (q (pX EJ j (tkI (tkI (tkI (tkI tk0)))))<|q (pA j)<|nl)<|us<|gs<|?_
 obtain ⟨x10,wo,fP,hm4,h⟩:=b2 h
 refine gX aoq j j j (mk [(6,bv fP)] []) ?_ ?_
 ·refine xq (pF (r':=.mp 3 0 0) BM j)<|xq (l0 tF2 j)<|xq (pM j)<|xq (c1 (aZ wo) bV j j j j)<|xq (pM j)<|?_
  refine ic hm4 (fun hc1 hm4=>?_) fun hc1 hm4=>?_
  ·obtain ⟨x15,rW,hm4⟩:=bs hm4
   refine xG j (iR.2 hc1) (pF (r':=.mp 3 0 1) Aa j)<|xG j (iR.2 hc1) (l0 tF2 j)<|xG j (iR.2 hc1) (pM j)<|xG j (iR.2 hc1) (c1 (aZ rW) bV j j j j)<|xq (pT j (iR.2 hc1))<|xq (pM j)<|?_
   refine ic hm4 (fun hc2 hm4=>?_) fun hc2 hm4=>?_
   ·obtain ⟨x24,hx24,hm4⟩:=bs hm4
    refine xG j (iR.2 hc2) (pF (r':=.mp 3 0 2) Fg j)<|xG j (iR.2 hc2) (l0 tF2 j)<|xG j (iR.2 hc2) (pM j)<|xG j (iR.2 hc2) (pF (r':=.mp 3 0 0) BM j)<|xG j (iR.2 hc2) (l0 tF2 j)<|xG j (iR.2 hc2) (pB j)<|xG j (iR.2 hc2) (c1 (aZ hx24) bV j j j j)<|xq (pT j (iR.2 hc2))<|xq (pM j)<|?_
    refine ic hm4 (fun hc3 hm4=>?_) fun hc3 hm4=>?_
    ·obtain ⟨x33,afG,hm4⟩:=bs hm4
     cases hm4
     exact xG j (iR.2 hc3) (pF (r':=.mp 3 0 3) IY j)<|xG j (iR.2 hc3) (l0 tF2 j)<|xG j (iR.2 hc3) (pM j)<|xG j (iR.2 hc3) (pF (r':=.mp 3 0 1) Aa j)<|xG j (iR.2 hc3) (l0 tF2 j)<|xG j (iR.2 hc3) (pB j)<|xG j (iR.2 hc3) (c1 (aZ afG) bV j j j j)<|xq (pT j (iR.2 hc3))<|xq (pA j)<|xn
    ·cases hm4
     exact xF j (byF iR hc3)<|xF j (byF iR hc3)<|xF j (byF iR hc3)<|xF j (byF iR hc3)<|xF j (byF iR hc3)<|xF j (byF iR hc3)<|xF j (byF iR hc3)<|xq (pW j (byF iR hc3))<|xq (pA j)<|xn
   ·cases hm4
    exact xF j (byF iR hc2)<|xF j (byF iR hc2)<|xF j (byF iR hc2)<|xF j (byF iR hc2)<|xF j (byF iR hc2)<|xF j (byF iR hc2)<|xF j (byF iR hc2)<|xq (pW j (byF iR hc2))<|xq (pM j)<|xF j j<|xF j j<|xF j j<|xF j j<|xF j j<|xF j j<|xF j j<|xq (pW j j)<|xq (pA j)<|xn
  ·cases hm4
   exact xF j (byF iR hc1)<|xF j (byF iR hc1)<|xF j (byF iR hc1)<|xF j (byF iR hc1)<|xq (pW j (byF iR hc1))<|xq (pM j)<|xF j j<|xF j j<|xF j j<|xF j j<|xF j j<|xF j j<|xF j j<|xq (pW j j)<|xq (pM j)<|xF j j<|xF j j<|xF j j<|xF j j<|xF j j<|xF j j<|xF j j<|xq (pW j j)<|xq (pA j)<|xn
 ·obtain rfl:=rn h
  exact us<|gr amr j
theorem Jl {b_0:dn} {sW:ByteArray} {YS:ByteArray} {YT:Int} {YU:ByteArray} {YV:Int} {YW:Int} {Vr:Int} {Vs:Int} {YX:(List dn)} {r:Bool} (h:iT b_0 sW YS YT YU YV YW Vr Vs YX=some r):FX 160 [.im 2 true (xe b_0),.im 2 false [.cp [Y sW,Y YS,I YT,Y YU,I YV,I YW,I Vr,I Vs,W 4 cu YX] 0]] (B0 [(false,[.im 0 (V r)])]):=by
 unfold iT at h
 refine gn 11 Tryz.func160 rfl ?_
 refine gs<|G0 (q (pX EJ j (tkI (tkI (tkI (tkI tk0)))))<|q (pA j)<|nl)<|us<|gs<|?_
 obtain ⟨x9,hx9,h⟩:=bs h
 obtain rfl:=rn h
 exact G0 (q (pL (cs:=[.im 0 _,.im 0 _,.im 0 _,.im 0 _]) EJ j)<|q (f2 Hr j)<|q (l2 tF2 j)<|q (f2 Ht j)<|q (l2 tF2 j)<|q (c1 (NP hx9) SS j j j j)<|q (pU j)<|q (pA j)<|nl)<|us<|gr amq j
theorem tq {s_0:(List dn)} {gK:ByteArray} {FK:ByteArray} {FM:Int} {FN:ByteArray} {FO:Int} {FP:Int} {FQ:Int} {FT:Int} {FU:(List dn)} {r:Int} (h:gJ s_0 (fun b0=>iT b0 gK FK FM FN FO FP FQ FT FU)=some r):FX 207 [.im 2 false [W 4 cu s_0],.im 2 false [.clo 160 [.cp [Y gK,Y FK,I FM,Y FN,I FO,I FP,I FQ,I FT,W 4 cu FU] 0]]] (B0 [(false,[.im 0 (I r)])]):=by
 unfold gJ at h
 refine gn 19 Tryz.func207 rfl ?_
 refine gs<|G0 (q (pA j)<|nl)<|us<|gs<|gs<|G0 (q (pM j)<|q (pI X3 j)<|q (pM j)<|nl)<|us<|Go.block<|?_
 obtain ⟨o,hl,h⟩:=bs h
 refine gl alS j _ (fun (dA:Int)=>mk [(0,D 2 (W 4 cu s_0)),(1,D 2 (.clo 160 [.cp [Y gK,Y FK,I FM,Y FN,I FO,I FP,I FQ,I FT,W 4 cu FU] 0])),(7,iv (s_0.length:Int)),(8,iv dA)] []) (fun (o:(Unit ⊕ Int)) (p:Ex×St)=>match o with | (.inl _)=>p.1= .exit 0∧p.2.norm ([],[])=mk [] [] | (.inr r2)=>p.1= .ret∧fin Tryz.prog cfg 207 Tryz.f207 [.im 2 false [W 4 cu s_0],.im 2 false [.clo 160 [.cp [Y gK,Y FK,I FM,Y FN,I FO,I FP,I FQ,I FT,W 4 cu FU] 0]]] p.2=some (B0 [(false,[.im 0 (I r2)])])) hl (by kernel_rfl) ?_ ?_ ?_
 ·intro o p hp e
  rcases o with u | r2<;>exact nomatch (hp.1.symm.trans e)
 ·rintro dA o h
  unfold dV at h
  refine gs<|G0 (q (pB j)<|nl)<|us<|gs<|gc h j ah (fun hc5 h=>?_) fun hc5 h=>?_
  ·refine Go.skip<|us<|gs<|Go.block<|gs<|G0 (q (pM j)<|q (pA j)<|nl)<|us<|gs<|?_
   obtain ⟨x14,kR,x16,hx16,h⟩:=b2 h
   refine G0 (q (pM j)<|q (pM j)<|q (pM j)<|q (pJ kR Tn j)<|q (pL (cs:=[.im 2 _,.im 2 _,.im 2 _,.im 2 _]) EJ j)<|q (oCa (xs:=[.v true [.im 2 _,.im 2 _,.im 2 _,.im 2 _],.v false [.im 2 _]]) (vs:=[(false,[.im 0 _])]) (v:=.v false [.im 0 _]) (Jl hx16) (.inr ⟨_,_,j,j⟩) j XO j (ppC j (ppC j pp0)) j j pb0 j j j)<|nl)<|us<|gc h j iR (fun hc6 h=>?_) fun hc6 h=>?_
   ·refine gs<|G0 (q (pM j)<|q (pA j)<|nl)<|us<|Go.ret (Unw.ret ?_)
    cases h
    exact ⟨j,(fo aiQ j)⟩
   ·refine Go.skip<|Unw.blk<|us<|G0 (q (pB j)<|q (pM j)<|nl)<|Unw.nil<|?_
    cases h
    exact ⟨j,(by kernel_rfl)⟩
  ·refine Go.exit<|ux<|Unw.nil<|?_
   cases h
   exact ⟨j,(by kernel_rfl)⟩
 ·rintro ⟨e,st⟩ hp
  rcases o with u | r2
  ·dsimp only at h
   obtain ⟨he,hst⟩:=hp
   obtain rfl:e= .exit 0:=he
   obtain rfl:=rn h
   exact Unw.gz<|us<|gs<|g2 alS j j hst (q (pA j)<|nl)<|us<|gr aiQ j
  ·dsimp only at h
   obtain ⟨he,hfin⟩:=hp
   obtain rfl:e= .ret:=he
   cases h
   exact Unw.ret (di hfin)
theorem qw {s_0:(List dn)} {gK:ByteArray} {FK:ByteArray} {FM:Int} {FN:ByteArray} {FO:Int} {FP:Int} {FQ:Int} {FT:Int} {FU:(List dn)} {r:Bool} (h:dW s_0 (fun b0=>iT b0 gK FK FM FN FO FP FQ FT FU)=some r):FX 159 [.im 2 false [W 4 cu s_0],.im 2 false [.clo 160 [.cp [Y gK,Y FK,I FM,Y FN,I FO,I FP,I FQ,I FT,W 4 cu FU] 0]]] (B0 [(false,[.im 0 (V r)])]):=by
 unfold dW at h
 refine gn 9 Tryz.func159 rfl ?_
 refine gs<|G0 (q (pA j)<|nl)<|us<|gs<|?_
 obtain ⟨x7,hx7,h⟩:=bs h
 obtain rfl:=rn h
 exact G0 (q (pM j)<|q (pM j)<|q (c1 (tq hx7) VM j j j j)<|q (pB j)<|q (pA j)<|nl)<|us<|gr amo j
theorem zJ {l_0:bU} {r:Bool} (h:uG l_0=some r):FX 106 [.im 2 true (gu l_0)] (B0 [(false,[.im 0 (V r)])]):=by
 unfold uG at h
 refine gn 46 Tryz.func106 rfl ?_
 refine gs<|G0 (q (pX Jc j (tkI (tkI (tkI (tkI (tkI (tkI (tkI (tkI (tkI tk0))))))))))<|q (pA j)<|nl)<|us<|gs<|gs<|?_
 obtain ⟨x5,hx5,Vt,hm9,h⟩:=b2 h
 refine gX alJ j j (st1:=mk [(1,M 1)] [(1,Oa (G 2 (gu l_0)))]) (by kernel_rfl) (mk [(1,M 1),(24,bv Vt)] [(1,Oa (G 2 (gu l_0)))]) ?_ ?_
 ·refine xq (pF (r':=.mp 1 0 0) D6 j)<|xq (l0 tF9 j)<|xq (c1 (wP hx5) Lj j j j j)<|xq (pU j)<|xq (pM j)<|?_
  refine ic hm9 (fun hc1 hm9=>?_) fun hc1 hm9=>?_
  ·obtain ⟨x10,wo,hm9⟩:=bs hm9
   refine xG j (nF (iR.2 hc1)) (pF (r':=.mp 1 0 1) MZ j)<|xG j (nF (iR.2 hc1)) (l0 tF9 j)<|xG j (nF (iR.2 hc1)) (c1 (wP wo) Lj j j j j)<|xG j (nF (iR.2 hc1)) (pU j)<|xq (pW j (nF (iR.2 hc1)))<|xq (pM j)<|?_
   refine ic hm9 (fun hc2 hm9=>?_) fun hc2 hm9=>?_
   ·obtain ⟨x16,hx16,hm9⟩:=bs hm9
    refine xG j (nF (iR.2 hc2)) (pF (r':=.mp 1 0 2) Na j)<|xG j (nF (iR.2 hc2)) (l0 tF2 j)<|xG j (nF (iR.2 hc2)) (c1 (aZ hx16) bV j j j j)<|xG j (nF (iR.2 hc2)) (pU j)<|xq (pW j (nF (iR.2 hc2)))<|xq (pM j)<|?_
    refine ic hm9 (fun hc3 hm9=>?_) fun hc3 hm9=>?_
    ·obtain ⟨x22,qp,hm9⟩:=bs hm9
     cases hm9
     exact xG j (nF (iR.2 hc3)) (pF (r':=.mp 1 0 3) Hq j)<|xG j (nF (iR.2 hc3)) (pL (cs:=[.im 0 _,.im 0 _,.im 0 _]) H6 j)<|xG j (nF (iR.2 hc3)) (c1 (Di qp) XN j j j j)<|xG j (nF (iR.2 hc3)) (pU j)<|xq (pW j (nF (iR.2 hc3)))<|xn
    ·cases hm9
     exact xF j (nT (byF iR hc3))<|xF j (nT (byF iR hc3))<|xF j (nT (byF iR hc3))<|xF j (nT (byF iR hc3))<|xq (pT j (nT (byF iR hc3)))<|xn
   ·cases hm9
    exact xF j (nT (byF iR hc2))<|xF j (nT (byF iR hc2))<|xF j (nT (byF iR hc2))<|xF j (nT (byF iR hc2))<|xq (pT j (nT (byF iR hc2)))<|xq (pM j)<|xF j j<|xF j j<|xF j j<|xF j j<|xq (pT j j)<|xn
  ·cases hm9
   exact xF j (nT (byF iR hc1))<|xF j (nT (byF iR hc1))<|xF j (nT (byF iR hc1))<|xF j (nT (byF iR hc1))<|xq (pT j (nT (byF iR hc1)))<|xq (pM j)<|xF j j<|xF j j<|xF j j<|xF j j<|xq (pT j j)<|xq (pM j)<|xF j j<|xF j j<|xF j j<|xF j j<|xq (pT j j)<|xn
 ·refine us<|gc h j iR (fun hc4 h=>?_) fun hc4 h=>?_
  ·obtain rfl:=rn h
   exact gs<|G0 (q (pA j)<|nl)<|us<|gr afc j
  ·refine Go.skip<|us<|gs<|gs<|?_
   obtain ⟨x27,hx27,Vu,hm8,h⟩:=b2 h
   refine gX alJ j j j (mk [(1,M 1),(40,bv Vu)] [(1,Oa (G 2 (gu l_0)))]) ?_ ?_
   ·refine xq (pF (r':=.mp 1 0 6) Hr j)<|xq (l0 tF2 j)<|xq (c1 (aZ hx27) bV j j j j)<|xq (pU j)<|xq (pM j)<|?_
    refine ic hm8 (fun hc5 hm8=>?_) fun hc5 hm8=>?_
    ·obtain ⟨x32,hx32,hm8⟩:=bs hm8
     refine xG j (nF (iR.2 hc5)) (pF (r':=.mp 1 0 7) Ht j)<|xG j (nF (iR.2 hc5)) (l0 tF2 j)<|xG j (nF (iR.2 hc5)) (c1 (aZ hx32) bV j j j j)<|xG j (nF (iR.2 hc5)) (pU j)<|xq (pW j (nF (iR.2 hc5)))<|xq (pM j)<|?_
     refine ic hm8 (fun hc6 hm8=>?_) fun hc6 hm8=>?_
     ·cases hm8
      exact xG j (nF (iR.2 hc6)) (pF (r':=.mp 1 0 8) Fv j)<|xG j (nF (iR.2 hc6)) (l2 VU j)<|xG j (nF (iR.2 hc6)) (pI X3 j)<|xG j (nF (iR.2 hc6)) (pB j)<|xq (pW j (nF (iR.2 hc6)))<|xn
     ·cases hm8
      exact xF j (nT (byF iR hc6))<|xF j (nT (byF iR hc6))<|xF j (nT (byF iR hc6))<|xF j (nT (byF iR hc6))<|xq (pT j (nT (byF iR hc6)))<|xn
    ·cases hm8
     exact xF j (nT (byF iR hc5))<|xF j (nT (byF iR hc5))<|xF j (nT (byF iR hc5))<|xF j (nT (byF iR hc5))<|xq (pT j (nT (byF iR hc5)))<|xq (pM j)<|xF j j<|xF j j<|xF j j<|xF j j<|xq (pT j j)<|xn
   ·refine us<|gc h j iR (fun hc7 h=>?_) fun hc7 h=>?_
    ·obtain rfl:=rn h
     exact gs<|G0 (q (pA j)<|nl)<|us<|gr afc j
    ·refine Go.skip<|us<|gs<|?_
     obtain ⟨x44,afC,h⟩:=bs h
     obtain rfl:=rn h
     exact G0 (q (pF (r':=.mp 1 0 8) Fv j)<|q (l2 VU j)<|q (oMF (rs:=[.mp 1 0 0]) j j)<|q (c1 (qw afC) VI j j j j)<|q (pU j)<|q (pA j)<|nl)<|us<|gr afc j
theorem Kq {aP:(List bU)} {r:Bool} (h:pV aP=some r):FX 57 [.im 2 false [W 9 aW aP]] (B0 [(false,[.im 0 (V r)])]):=by
 unfold pV at h
 refine gn 34 Tryz.func57 rfl ?_
 refine gs<|G0 (q (pA j)<|nl)<|us<|gs<|gs<|G0 (q (pM j)<|q (pI X0 j)<|q (pM j)<|nl)<|us<|Go.block<|?_
 obtain ⟨o,hl,h⟩:=bs h
 refine gl c57 j _ (fun (jf:Int)=>mk [(0,D 2 (W 9 aW aP)),(5,D 2 (W 9 aW aP)),(6,iv (aP.length:Int)),(7,iv jf)] []) (fun (o:(Unit ⊕ Bool)) (p:Ex×St)=>match o with | (.inl _)=>p.1= .exit 0∧p.2.norm ([0],[])=mk [(0,D 2 (W 9 aW aP))] [] | (.inr r2)=>p.1= .ret∧fin Tryz.prog cfg 57 Tryz.f57 [.im 2 false [W 9 aW aP]] p.2=some (B0 [(false,[.im 0 (V r2)])])) hl (by kernel_rfl) ?_ ?_ ?_
 ·intro o p hp e
  rcases o with u | r2<;>exact nomatch (hp.1.symm.trans e)
 ·rintro jf o h
  unfold lF at h
  refine gs<|G0 (q (pB j)<|nl)<|us<|gs<|gc h j ah (fun J4 h=>?_) fun J4 h=>?_
  ·refine Go.skip<|us<|gs<|Go.block<|gs<|?_
   obtain ⟨x10,wo,h⟩:=bs h
   refine G0 (q (pM j)<|q (pJ wo EI j)<|q (pL (cs:=[.im 2 _,.im 2 _,.im 2 _,.im 2 _,.im 2 _,.im 2 _,.im 2 _,.im 2 _,.im 2 _]) Jc j)<|q (oAl j Jc (tkI (tkI (tkI (tkI (tkI (tkI (tkI (tkI (tkN tk0))))))))))<|q (pA j)<|q (pS Jc j (tkI (tkI (tkI (tkI (tkI (tkI (tkI (tkI (tkI tk0))))))))) j)<|nl)<|us<|gs<|?_
   obtain ⟨x13,ou,Fa,gB,h⟩:=b2 h
   refine gd c57 j j j (st1:=mk [(0,D 2 (W 9 aW aP)),(3,iv jf),(4,M 4),(5,D 2 (W 9 aW aP)),(6,iv (aP.length:Int)),(7,iv jf)] [(4,Oa (G 2 (gu x10)))]) (by kernel_rfl) (mk [(0,D 2 (W 9 aW aP)),(5,D 2 (W 9 aW aP)),(6,iv (aP.length:Int)),(7,iv jf),(29,bv Fa)] []) ?_ ?_
   ·refine ic gB (fun hc12 gB=>?_) fun hc12 gB=>?_
    ·refine ic gB (fun hc13 gB=>?_) fun hc13 gB=>?_
     ·obtain ⟨x22,qp,gB⟩:=bs gB
      cases gB
      exact t1 j (pL (cs:=[.im 0 _,.im 0 _,.im 0 _,.im 0 _,.im 0 _,.im 0 _,.im 0 _,.im 0 _,.im 2 _]) Jc j)<|s1 j (c1 (zJ ou) QO j j j j) (t1 j (pU j)<|t1 j (pM j)<|t2 j (nF (iR.2 hc12)) (pM j)<|t2 j (nF (iR.2 hc12)) (pB j)<|t2 j (nF (iR.2 hc12)) (pM j)<|t2 j (ah.2 hc13) (pM j)<|t2 j (ah.2 hc13) (pM j)<|t2 j (ah.2 hc13) (pB j)<|t2 j (ah.2 hc13) (pJ qp EI j)<|t2 j (ah.2 hc13) (f2 D6 j)<|t2 j (ah.2 hc13) (l2 tF9 j)<|t2 j (ah.2 hc13) (pF (r':=.mp 4 0 0) D6 j)<|t2 j (ah.2 hc13) (l0 tF9 j)<|t2 j (ah.2 hc13) (pB j)<|t2 j (nF (iR.2 hc12)) (pT j (ah.2 hc13))<|t1 j (pW j (nF (iR.2 hc12)))<|sD (by kernel_rfl))
     ·cases gB
      exact t1 j (pL (cs:=[.im 0 _,.im 0 _,.im 0 _,.im 0 _,.im 0 _,.im 0 _,.im 0 _,.im 0 _,.im 2 _]) Jc j)<|s1 j (c1 (zJ ou) QO j j j j) (t1 j (pU j)<|t1 j (pM j)<|t2 j (nF (iR.2 hc12)) (pM j)<|t2 j (nF (iR.2 hc12)) (pB j)<|t2 j (nF (iR.2 hc12)) (pM j)<|t3 j (byF ah hc13)<|t3 j (byF ah hc13)<|t3 j (byF ah hc13)<|t3 j (byF ah hc13)<|t3 j (byF ah hc13)<|t3 j (byF ah hc13)<|t3 j (byF ah hc13)<|t3 j (byF ah hc13)<|t3 j (byF ah hc13)<|t2 j (nF (iR.2 hc12)) (pW j (byF ah hc13))<|t1 j (pW j (nF (iR.2 hc12)))<|sD (by kernel_rfl))
    ·cases gB
     exact t1 j (pL (cs:=[.im 0 _,.im 0 _,.im 0 _,.im 0 _,.im 0 _,.im 0 _,.im 0 _,.im 0 _,.im 2 _]) Jc j)<|s1 j (c1 (zJ ou) QO j j j j) (t1 j (pU j)<|t1 j (pM j)<|t3 j (nT (byF iR hc12))<|t3 j (nT (byF iR hc12))<|t3 j (nT (byF iR hc12))<|t4 j<|t4 j<|t4 j<|t4 j<|t4 j<|t4 j<|t4 j<|t4 j<|t4 j<|t3 j (nT (byF iR hc12))<|t1 j (pT j (nT (byF iR hc12)))<|sD (by kernel_rfl))
   ·refine us<|gc h j iR (fun Rf h=>?_) fun Rf h=>?_
    ·refine gs<|G0 (q (pA j)<|nl)<|us<|Go.ret (Unw.ret ?_)
     cases h
     exact ⟨j,(fo amZ j)⟩
    ·refine Go.skip<|Unw.blk<|us<|G0 (q (pB j)<|q (pM j)<|nl)<|Unw.nil<|?_
     cases h
     exact ⟨j,(by kernel_rfl)⟩
  ·refine Go.exit<|ux<|Unw.nil<|?_
   cases h
   exact ⟨j,(by kernel_rfl)⟩
 ·rintro ⟨e,st⟩ hp
  rcases o with u | r2
  ·dsimp only at h
   obtain ⟨he,hst⟩:=hp
   obtain rfl:e= .exit 0:=he
   obtain rfl:=rn h
   exact Unw.gz<|us<|gs<|g2 c57 j j hst (q (pM j)<|q (pI X0 j)<|q (pB j)<|q (pA j)<|nl)<|us<|gr amZ j
  ·dsimp only at h
   obtain ⟨he,hfin⟩:=hp
   obtain rfl:e= .ret:=he
   cases h
   exact Unw.ret (di hfin)
theorem tu {p_0:ak} {r:Bool} (h:iP p_0=some r):FX 107 [.im 2 true (dZ p_0)] (B0 [(false,[.im 0 (V r)])]):=by
 unfold iP at h
 refine gn 26 Tryz.func107 rfl ?_
 refine gs<|G0 (q (pX Bo j (tkI (tkI (tkI (tkI (tkI tk0))))))<|q (pA j)<|nl)<|us<|gs<|?_
 obtain ⟨x5,hx5,fD,hm5,h⟩:=b2 h
 refine gX c107 j j (st1:=mk [(1,M 1)] [(1,Oa (G 0 (dZ p_0)))]) (by kernel_rfl) (mk [(2,bv fD)] []) ?_ ?_
 ·refine xq (pF (r':=.mp 1 0 0) xg j)<|xq (l0 tF2 j)<|xq (c1 (aZ hx5) bV j j j j)<|xq (pM j)<|?_
  refine ic hm5 (fun hc1 hm5=>?_) fun hc1 hm5=>?_
  ·obtain ⟨x9,hx9,hm5⟩:=bs hm5
   refine xG j (iR.2 hc1) (pF (r':=.mp 1 0 1) IU j)<|xG j (iR.2 hc1) (l0 tF2 j)<|xG j (iR.2 hc1) (c1 (aZ hx9) bV j j j j)<|xq (pT j (iR.2 hc1))<|xq (pM j)<|?_
   refine ic hm5 (fun hc2 hm5=>?_) fun hc2 hm5=>?_
   ·obtain ⟨x14,kR,hm5⟩:=bs hm5
    refine xG j (iR.2 hc2) (pF (r':=.mp 1 0 2) IV j)<|xG j (iR.2 hc2) (l0 tF2 j)<|xG j (iR.2 hc2) (c1 (aZ kR) bV j j j j)<|xq (pT j (iR.2 hc2))<|xq (pM j)<|?_
    refine ic hm5 (fun hc3 hm5=>?_) fun hc3 hm5=>?_
    ·obtain ⟨x19,ql,hm5⟩:=bs hm5
     refine xG j (iR.2 hc3) (pF (r':=.mp 1 0 3) IW j)<|xG j (iR.2 hc3) (l0 tF2 j)<|xG j (iR.2 hc3) (c1 (aZ ql) bV j j j j)<|xq (pT j (iR.2 hc3))<|xq (pM j)<|?_
     refine ic hm5 (fun hc4 hm5=>?_) fun hc4 hm5=>?_
     ·obtain ⟨x24,hx24,hm5⟩:=bs hm5
      cases hm5
      exact xG j (iR.2 hc4) (pF (r':=.mp 1 0 4) IX j)<|xG j (iR.2 hc4) (l0 tF2 j)<|xG j (iR.2 hc4) (c1 (aZ hx24) bV j j j j)<|xq (pT j (iR.2 hc4))<|xq (pA j)<|xn
     ·cases hm5
      exact xF j (byF iR hc4)<|xF j (byF iR hc4)<|xF j (byF iR hc4)<|xq (pW j (byF iR hc4))<|xq (pA j)<|xn
    ·cases hm5
     exact xF j (byF iR hc3)<|xF j (byF iR hc3)<|xF j (byF iR hc3)<|xq (pW j (byF iR hc3))<|xq (pM j)<|xF j j<|xF j j<|xF j j<|xq (pW j j)<|xq (pA j)<|xn
   ·cases hm5
    exact xF j (byF iR hc2)<|xF j (byF iR hc2)<|xF j (byF iR hc2)<|xq (pW j (byF iR hc2))<|xq (pM j)<|xF j j<|xF j j<|xF j j<|xq (pW j j)<|xq (pM j)<|xF j j<|xF j j<|xF j j<|xq (pW j j)<|xq (pA j)<|xn
  ·cases hm5
   exact xF j (byF iR hc1)<|xF j (byF iR hc1)<|xF j (byF iR hc1)<|xq (pW j (byF iR hc1))<|xq (pM j)<|xF j j<|xF j j<|xF j j<|xq (pW j j)<|xq (pM j)<|xF j j<|xF j j<|xF j j<|xq (pW j j)<|xq (pM j)<|xF j j<|xF j j<|xF j j<|xq (pW j j)<|xq (pA j)<|xn
 ·obtain rfl:=rn h
  exact us<|gr al5 j
theorem FV {aP:(List ak)} {r:Bool} (h:kQ aP=some r):FX 58 [.im 2 false [W 5 aj aP]] (B0 [(false,[.im 0 (V r)])]):=by
 unfold kQ at h
 refine gn 34 Tryz.func58 rfl ?_
 refine gs<|G0 (q (pA j)<|nl)<|us<|gs<|gs<|G0 (q (pM j)<|q (pI Tu j)<|q (pM j)<|nl)<|us<|Go.block<|?_
 obtain ⟨o,hl,h⟩:=bs h
 refine gl c58 j _ (fun (jf:Int)=>mk [(0,D 2 (W 5 aj aP)),(5,D 2 (W 5 aj aP)),(6,iv (aP.length:Int)),(7,iv jf)] []) (fun (o:(Unit ⊕ Bool)) (p:Ex×St)=>match o with | (.inl _)=>p.1= .exit 0∧p.2.norm ([0],[])=mk [(0,D 2 (W 5 aj aP))] [] | (.inr r2)=>p.1= .ret∧fin Tryz.prog cfg 58 Tryz.f58 [.im 2 false [W 5 aj aP]] p.2=some (B0 [(false,[.im 0 (V r2)])])) hl (by kernel_rfl) ?_ ?_ ?_
 ·intro o p hp e
  rcases o with u | r2<;>exact nomatch (hp.1.symm.trans e)
 ·rintro jf o h
  unfold iD at h
  refine gs<|G0 (q (pB j)<|nl)<|us<|gs<|gc h j ah (fun J4 h=>?_) fun J4 h=>?_
  ·refine Go.skip<|us<|gs<|Go.block<|gs<|?_
   obtain ⟨x10,wo,h⟩:=bs h
   refine G0 (q (pM j)<|q (pJ wo Gt j)<|q (pL (cs:=[.im 2 _,.im 2 _,.im 2 _,.im 2 _,.im 2 _]) Bo j)<|q (oAl j Bo (tkI (tkI (tkI (tkI (tkI tk0))))))<|q (pA j)<|q (pS Bo j (tkI (tkI (tkI (tkI (tkI tk0))))) j)<|nl)<|us<|gs<|?_
   obtain ⟨x13,ou,Fa,gB,h⟩:=b2 h
   refine gd c58 j j j (st1:=mk [(0,D 2 (W 5 aj aP)),(3,iv jf),(4,M 4),(5,D 2 (W 5 aj aP)),(6,iv (aP.length:Int)),(7,iv jf)] [(4,Oa (G 0 (dZ x10)))]) (by kernel_rfl) (mk [(0,D 2 (W 5 aj aP)),(5,D 2 (W 5 aj aP)),(6,iv (aP.length:Int)),(7,iv jf),(29,bv Fa)] []) ?_ ?_
   ·refine ic gB (fun hc12 gB=>?_) fun hc12 gB=>?_
    ·refine ic gB (fun hc13 gB=>?_) fun hc13 gB=>?_
     ·obtain ⟨x22,qp,gB⟩:=bs gB
      cases gB
      exact t1 j (pL (cs:=[.im 0 _,.im 0 _,.im 0 _,.im 0 _,.im 0 _]) Bo j)<|s1 j (c1 (tu ou) Nb j j j j) (t1 j (pU j)<|t1 j (pM j)<|t2 j (nF (iR.2 hc12)) (pM j)<|t2 j (nF (iR.2 hc12)) (pB j)<|t2 j (nF (iR.2 hc12)) (pM j)<|t2 j (ah.2 hc13) (pM j)<|t2 j (ah.2 hc13) (pM j)<|t2 j (ah.2 hc13) (pB j)<|t2 j (ah.2 hc13) (pJ qp Gt j)<|t2 j (ah.2 hc13) (f2 xg j)<|t2 j (ah.2 hc13) (l2 tF2 j)<|t2 j (ah.2 hc13) (pF (r':=.mp 4 0 0) xg j)<|t2 j (ah.2 hc13) (l0 tF2 j)<|t2 j (ah.2 hc13) (pB j)<|t2 j (nF (iR.2 hc12)) (pT j (ah.2 hc13))<|t1 j (pW j (nF (iR.2 hc12)))<|sD (by kernel_rfl))
     ·cases gB
      exact t1 j (pL (cs:=[.im 0 _,.im 0 _,.im 0 _,.im 0 _,.im 0 _]) Bo j)<|s1 j (c1 (tu ou) Nb j j j j) (t1 j (pU j)<|t1 j (pM j)<|t2 j (nF (iR.2 hc12)) (pM j)<|t2 j (nF (iR.2 hc12)) (pB j)<|t2 j (nF (iR.2 hc12)) (pM j)<|t3 j (byF ah hc13)<|t3 j (byF ah hc13)<|t3 j (byF ah hc13)<|t3 j (byF ah hc13)<|t3 j (byF ah hc13)<|t3 j (byF ah hc13)<|t3 j (byF ah hc13)<|t3 j (byF ah hc13)<|t3 j (byF ah hc13)<|t2 j (nF (iR.2 hc12)) (pW j (byF ah hc13))<|t1 j (pW j (nF (iR.2 hc12)))<|sD (by kernel_rfl))
    ·cases gB
     exact t1 j (pL (cs:=[.im 0 _,.im 0 _,.im 0 _,.im 0 _,.im 0 _]) Bo j)<|s1 j (c1 (tu ou) Nb j j j j) (t1 j (pU j)<|t1 j (pM j)<|t3 j (nT (byF iR hc12))<|t3 j (nT (byF iR hc12))<|t3 j (nT (byF iR hc12))<|t4 j<|t4 j<|t4 j<|t4 j<|t4 j<|t4 j<|t4 j<|t4 j<|t4 j<|t3 j (nT (byF iR hc12))<|t1 j (pT j (nT (byF iR hc12)))<|sD (by kernel_rfl))
   ·refine us<|gc h j iR (fun Rf h=>?_) fun Rf h=>?_
    ·refine gs<|G0 (q (pA j)<|nl)<|us<|Go.ret (Unw.ret ?_)
     cases h
     exact ⟨j,(fo am0 j)⟩
    ·refine Go.skip<|Unw.blk<|us<|G0 (q (pB j)<|q (pM j)<|nl)<|Unw.nil<|?_
     cases h
     exact ⟨j,(by kernel_rfl)⟩
  ·refine Go.exit<|ux<|Unw.nil<|?_
   cases h
   exact ⟨j,(by kernel_rfl)⟩
 ·rintro ⟨e,st⟩ hp
  rcases o with u | r2
  ·dsimp only at h
   obtain ⟨he,hst⟩:=hp
   obtain rfl:e= .exit 0:=he
   obtain rfl:=rn h
   exact Unw.gz<|us<|gs<|g2 c58 j j hst (q (pM j)<|q (pI Tu j)<|q (pB j)<|q (pA j)<|nl)<|us<|gr am0 j
  ·dsimp only at h
   obtain ⟨he,hfin⟩:=hp
   obtain rfl:e= .ret:=he
   cases h
   exact Unw.ret (di hfin)
theorem LQ {r_0:jv} {r:Bool} (h:rO r_0=some r):FX 59 [.im 2 true (qj r_0)] (B0 [(false,[.im 0 (V r)])]):=by
 unfold rO at h
 refine gn 21 Tryz.func59 rfl ?_
 refine gs<|G0 (q (pX QZ j (tkI (tkI (tkI (tkI tk0)))))<|q (pA j)<|nl)<|us<|gs<|?_
 obtain ⟨x5,hx5,fD,hm4,h⟩:=b2 h
 refine gX c59 j j j (mk [(2,bv fD)] []) ?_ ?_
 ·refine xq (pF (r':=.mp 1 0 0) QH j)<|xq (l0 tF2 j)<|xq (c1 (aZ hx5) bV j j j j)<|xq (pM j)<|?_
  refine ic hm4 (fun hc1 hm4=>?_) fun hc1 hm4=>?_
  ·obtain ⟨x9,hx9,hm4⟩:=bs hm4
   refine xG j (iR.2 hc1) (pF (r':=.mp 1 0 1) QI j)<|xG j (iR.2 hc1) (l0 tF2 j)<|xG j (iR.2 hc1) (c1 (aZ hx9) bV j j j j)<|xq (pT j (iR.2 hc1))<|xq (pM j)<|?_
   refine ic hm4 (fun hc2 hm4=>?_) fun hc2 hm4=>?_
   ·obtain ⟨x14,kR,hm4⟩:=bs hm4
    refine xG j (iR.2 hc2) (pF (r':=.mp 1 0 2) QJ j)<|xG j (iR.2 hc2) (l0 tF2 j)<|xG j (iR.2 hc2) (c1 (aZ kR) bV j j j j)<|xq (pT j (iR.2 hc2))<|xq (pM j)<|?_
    refine ic hm4 (fun hc3 hm4=>?_) fun hc3 hm4=>?_
    ·obtain ⟨x19,ql,hm4⟩:=bs hm4
     cases hm4
     exact xG j (iR.2 hc3) (pF (r':=.mp 1 0 3) QK j)<|xG j (iR.2 hc3) (l0 tF2 j)<|xG j (iR.2 hc3) (c1 (aZ ql) bV j j j j)<|xq (pT j (iR.2 hc3))<|xq (pA j)<|xn
    ·cases hm4
     exact xF j (byF iR hc3)<|xF j (byF iR hc3)<|xF j (byF iR hc3)<|xq (pW j (byF iR hc3))<|xq (pA j)<|xn
   ·cases hm4
    exact xF j (byF iR hc2)<|xF j (byF iR hc2)<|xF j (byF iR hc2)<|xq (pW j (byF iR hc2))<|xq (pM j)<|xF j j<|xF j j<|xF j j<|xq (pW j j)<|xq (pA j)<|xn
  ·cases hm4
   exact xF j (byF iR hc1)<|xF j (byF iR hc1)<|xF j (byF iR hc1)<|xq (pW j (byF iR hc1))<|xq (pM j)<|xF j j<|xF j j<|xF j j<|xq (pW j j)<|xq (pM j)<|xF j j<|xF j j<|xF j j<|xq (pW j j)<|xq (pA j)<|xn
 ·obtain rfl:=rn h
  exact us<|gr aoY j
theorem Dj {s_0:(List Int)} {v_1:Int} {r:Int} (h:kF s_0 v_1=some r):FX 125 [.im 2 false [W 1 eI s_0],.im 2 false [I v_1]] (B0 [(false,[.im 0 (I r)])]):=by
 unfold kF at h
 refine gn 19 Tryz.func125 rfl ?_
 refine gs<|G0 (q (pA j)<|nl)<|us<|gs<|gs<|G0 (q (pM j)<|q (pI yV j)<|q (pM j)<|nl)<|us<|Go.block<|?_
 obtain ⟨o,hl,h⟩:=bs h
 refine gl alM j _ (fun (dA:Int)=>mk [(0,D 2 (W 1 eI s_0)),(1,iv v_1),(7,iv (s_0.length:Int)),(8,iv dA)] []) (fun (o:(Unit ⊕ Int)) (p:Ex×St)=>match o with | (.inl _)=>p.1= .exit 0∧p.2.norm ([],[])=mk [] [] | (.inr r2)=>p.1= .ret∧fin Tryz.prog cfg 125 Tryz.f125 [.im 2 false [W 1 eI s_0],.im 2 false [I v_1]] p.2=some (B0 [(false,[.im 0 (I r2)])])) hl (by kernel_rfl) ?_ ?_ ?_
 ·intro o p hp e
  rcases o with u | r2<;>exact nomatch (hp.1.symm.trans e)
 ·rintro dA o h
  unfold iw at h
  refine gs<|G0 (q (pB j)<|nl)<|us<|gs<|gc h j ah (fun hc5 h=>?_) fun hc5 h=>?_
  ·refine Go.skip<|us<|gs<|Go.block<|gs<|G0 (q (pM j)<|q (pA j)<|nl)<|us<|gs<|?_
   obtain ⟨x14,kR,h⟩:=bs h
   refine G0 (q (pM j)<|q (pM j)<|q (pM j)<|q (pJ kR lS j)<|q (l2 tF2 j)<|q (pB j)<|nl)<|us<|gc h j iEq (fun hc6 h=>?_) fun hc6 h=>?_
   ·refine gs<|G0 (q (pM j)<|q (pA j)<|nl)<|us<|Go.ret (Unw.ret ?_)
    cases h
    exact ⟨j,(fo aiE j)⟩
   ·refine Go.skip<|Unw.blk<|us<|G0 (q (pB j)<|q (pM j)<|nl)<|Unw.nil<|?_
    cases h
    exact ⟨j,(by kernel_rfl)⟩
  ·refine Go.exit<|ux<|Unw.nil<|?_
   cases h
   exact ⟨j,(by kernel_rfl)⟩
 ·rintro ⟨e,st⟩ hp
  rcases o with u | r2
  ·dsimp only at h
   obtain ⟨he,hst⟩:=hp
   obtain rfl:e= .exit 0:=he
   obtain rfl:=rn h
   exact Unw.gz<|us<|gs<|g2 alM j j hst (q (pA j)<|nl)<|us<|gr aiE j
  ·dsimp only at h
   obtain ⟨he,hfin⟩:=hp
   obtain rfl:e= .ret:=he
   cases h
   exact Unw.ret (di hfin)
theorem iU {s_0:(List Int)} {v_1:Int} {r:Bool} (h:dK s_0 v_1=some r):FX 74 [.im 2 false [W 1 eI s_0],.im 2 false [I v_1]] (B0 [(false,[.im 0 (V r)])]):=by
 unfold dK at h
 refine gn 9 Tryz.func74 rfl ?_
 refine gs<|G0 (q (pA j)<|nl)<|us<|gs<|?_
 obtain ⟨x7,hx7,h⟩:=bs h
 obtain rfl:=rn h
 exact G0 (q (pM j)<|q (pM j)<|q (c1 (Dj hx7) Y6 j j j j)<|q (pB j)<|q (pA j)<|nl)<|us<|gr ao3 j
theorem Dk {aP:(List Int)} {n_1:Int} {r:Bool} (h:iH aP n_1=some r):FX 61 [.im 2 false [W 1 eI aP],.im 2 false [I n_1]] (B0 [(false,[.im 0 (V r)])]):=by
 unfold iH at h
 refine gn 27 Tryz.func61 rfl ?_
 refine gs<|G0 (q (pA j)<|nl)<|us<|gs<|gs<|G0 (q (pM j)<|q (pI yV j)<|q (pM j)<|nl)<|us<|Go.block<|?_
 obtain ⟨o,hl,h⟩:=bs h
 refine gl c61 j _ (fun (Hg:Int)=>mk [(0,D 2 (W 1 eI aP)),(1,iv n_1),(7,D 2 (W 1 eI aP)),(8,iv (aP.length:Int)),(9,iv Hg)] []) (fun (o:(Unit ⊕ Bool)) (p:Ex×St)=>match o with | (.inl _)=>p.1= .exit 0∧p.2.norm ([],[])=mk [] [] | (.inr r2)=>p.1= .ret∧fin Tryz.prog cfg 61 Tryz.f61 [.im 2 false [W 1 eI aP],.im 2 false [I n_1]] p.2=some (B0 [(false,[.im 0 (V r2)])])) hl (by kernel_rfl) ?_ ?_ ?_
 ·intro o p hp e
  rcases o with u | r2<;>exact nomatch (hp.1.symm.trans e)
 ·rintro Hg o h
  unfold eP at h
  refine gs<|G0 (q (pB j)<|nl)<|us<|gs<|gc h j ah (fun hc9 h=>?_) fun hc9 h=>?_
  ·refine Go.skip<|us<|gs<|Go.block<|gs<|?_
   obtain ⟨x12,oP,h⟩:=bs h
   refine G0 (q (pM j)<|q (pJ oP lS j)<|q (l2 tF2 j)<|q (pA j)<|q (pA j)<|nl)<|us<|gs<|?_
   obtain ⟨x17,xP,Vw,yY,h⟩:=b2 h
   refine gX c61 j j j (mk [(0,D 2 (W 1 eI aP)),(1,iv n_1),(7,D 2 (W 1 eI aP)),(8,iv (aP.length:Int)),(9,iv Hg),(25,bv Vw)] []) ?_ ?_
   ·refine xq (pM j)<|xq (pM j)<|xq (pB j)<|xq (c1 (aZ xP) bV j j j j)<|xq (pU j)<|xq (pM j)<|?_
    refine ic yY (fun gU yY=>?_) fun gU yY=>?_
    ·obtain ⟨x22,qp,yY⟩:=bs yY
     obtain ⟨x24,hx24,yY⟩:=bs yY
     cases yY
     exact xG j (nF (iR.2 gU)) (pM j)<|xG j (nF (iR.2 gU)) (pM j)<|xG j (nF (iR.2 gU)) (ad1 j qp lS j bn0 (bn1 j) j j)<|xG j (nF (iR.2 gU)) (pM j)<|xG j (nF (iR.2 gU)) (c1 (iU hx24) I4 j j j j)<|xq (pW j (nF (iR.2 gU)))<|xn
    ·cases yY
     exact xF j (nT (byF iR gU))<|xF j (nT (byF iR gU))<|xF j (nT (byF iR gU))<|xF j (nT (byF iR gU))<|xF j (nT (byF iR gU))<|xq (pT j (nT (byF iR gU)))<|xn
   ·refine us<|gc h j iR (fun J4 h=>?_) fun J4 h=>?_
    ·refine gs<|G0 (q (pA j)<|nl)<|us<|Go.ret (Unw.ret ?_)
     cases h
     exact ⟨j,(fo am1 j)⟩
    ·refine Go.skip<|Unw.blk<|us<|G0 (q (pB j)<|q (pM j)<|nl)<|Unw.nil<|?_
     cases h
     exact ⟨j,(by kernel_rfl)⟩
  ·refine Go.exit<|ux<|Unw.nil<|?_
   cases h
   exact ⟨j,(by kernel_rfl)⟩
 ·rintro ⟨e,st⟩ hp
  rcases o with u | r2
  ·dsimp only at h
   obtain ⟨he,hst⟩:=hp
   obtain rfl:e= .exit 0:=he
   obtain rfl:=rn h
   exact Unw.gz<|us<|gs<|g2 c61 j j hst (q (pA j)<|nl)<|us<|gr am1 j
  ·dsimp only at h
   obtain ⟨he,hfin⟩:=hp
   obtain rfl:e= .ret:=he
   cases h
   exact Unw.ret (di hfin)
theorem O6 {j_0:fM} {r:Bool} (h:lV j_0=some r):FX 29 [.im 2 true (bI j_0)] (B0 [(false,[.im 0 (V r)])]):=by
 unfold lV at h
 refine gn 71 Tryz.func29 rfl ?_
 refine gs<|G0 (q (pX Gu j (tkI (tkI (tkI (tkI (tkI (tkI (tkI (tkI (tkI (tkI (tkI (tkI (tkI (tkI (tkI (tkI (tkI tk0))))))))))))))))))<|q (pA j)<|nl)<|us<|gs<|gs<|?_
 obtain ⟨x7,hx7,Vx,FW,h⟩:=b2 h
 refine gX c29 j j (st1:=mk [(1,M 1)] [(1,Oa (G 2 (bI j_0)))]) (by kernel_rfl) (mk [(1,M 1),(26,bv Vx)] [(1,Oa (G 2 (bI j_0)))]) ?_ ?_
 ·refine xq (pF (r':=.mp 1 0 0) qQ j)<|xq (pL (cs:=[.im 0 _,.im 0 _,.im 2 _,.im 2 _,.im 2 _]) Ns j)<|xq (c1 (Jk hx7) ahW j j j j)<|xq (pU j)<|xq (pM j)<|?_
  refine ic FW (fun hc1 FW=>?_) fun hc1 FW=>?_
  ·obtain ⟨x12,oP,FW⟩:=bs FW
   refine xG j (nF (iR.2 hc1)) (pF (r':=.mp 1 0 5) Fj j)<|xG j (nF (iR.2 hc1)) (l2 VT j)<|xG j (nF (iR.2 hc1)) (c1 (Kq oP) ahX j j j j)<|xG j (nF (iR.2 hc1)) (pU j)<|xq (pW j (nF (iR.2 hc1)))<|xq (pM j)<|?_
   refine ic FW (fun hc2 FW=>?_) fun hc2 FW=>?_
   ·obtain ⟨x18,zG,FW⟩:=bs FW
    refine xG j (nF (iR.2 hc2)) (pF (r':=.mp 1 0 6) A8 j)<|xG j (nF (iR.2 hc2)) (l2 OL j)<|xG j (nF (iR.2 hc2)) (c1 (FV zG) ahY j j j j)<|xG j (nF (iR.2 hc2)) (pU j)<|xq (pW j (nF (iR.2 hc2)))<|xq (pM j)<|?_
    refine ic FW (fun hc3 FW=>?_) fun hc3 FW=>?_
    ·obtain ⟨x24,hx24,FW⟩:=bs FW
     cases FW
     exact xG j (nF (iR.2 hc3)) (pF (r':=.mp 1 0 7) QL j)<|xG j (nF (iR.2 hc3)) (pL (cs:=[.im 0 _,.im 0 _,.im 0 _,.im 0 _]) QZ j)<|xG j (nF (iR.2 hc3)) (c1 (LQ hx24) ahZ j j j j)<|xG j (nF (iR.2 hc3)) (pU j)<|xq (pW j (nF (iR.2 hc3)))<|xn
    ·cases FW
     exact xF j (nT (byF iR hc3))<|xF j (nT (byF iR hc3))<|xF j (nT (byF iR hc3))<|xF j (nT (byF iR hc3))<|xq (pT j (nT (byF iR hc3)))<|xn
   ·cases FW
    exact xF j (nT (byF iR hc2))<|xF j (nT (byF iR hc2))<|xF j (nT (byF iR hc2))<|xF j (nT (byF iR hc2))<|xq (pT j (nT (byF iR hc2)))<|xq (pM j)<|xF j j<|xF j j<|xF j j<|xF j j<|xq (pT j j)<|xn
  ·cases FW
   exact xF j (nT (byF iR hc1))<|xF j (nT (byF iR hc1))<|xF j (nT (byF iR hc1))<|xF j (nT (byF iR hc1))<|xq (pT j (nT (byF iR hc1)))<|xq (pM j)<|xF j j<|xF j j<|xF j j<|xF j j<|xq (pT j j)<|xq (pM j)<|xF j j<|xF j j<|xF j j<|xF j j<|xq (pT j j)<|xn
 ·refine us<|gc h j iR (fun hc4 h=>?_) fun hc4 h=>?_
  ·obtain rfl:=rn h
   exact gs<|G0 (q (pA j)<|nl)<|us<|gr akA j
  ·refine Go.skip<|us<|gs<|G0 (q (pF (r':=.mp 1 0 0) qQ j)<|q (pF (r':=.mp 1 0 4) D5 j)<|q (l2 Tq j)<|q (pI VV j)<|q (pA j)<|nl)<|us<|gs<|gs<|G0 (q (pF (r':=.mp 1 0 6) A8 j)<|q (l2 OL j)<|q (pI Tu j)<|q (pA j)<|nl)<|us<|gs<|?_
   obtain ⟨Vy,yY,h⟩:=bs h
   refine gX c29 j j j (mk [(1,M 1),(3,iv (j_0.aS.dM.length:Int)),(46,bv Vy)] [(1,Oa (G 2 (bI j_0)))]) ?_ ?_
   ·refine xq (pM j)<|xq (pB j)<|xq (pM j)<|?_
    refine ic yY (fun hc5 yY=>?_) fun hc5 yY=>?_
    ·obtain ⟨x41,Zl,yY⟩:=bs yY
     cases yY
     exact xG j (ah.2 hc5) (pF (r':=.mp 1 0 6) A8 j)<|xG j (ah.2 hc5) (l2 OL j)<|xG j (ah.2 hc5) (pM j)<|xG j (ah.2 hc5) (pB j)<|xG j (ah.2 hc5) (pJ Zl Gt j)<|xG j (ah.2 hc5) (f2 xg j)<|xG j (ah.2 hc5) (l2 tF2 j)<|xG j (ah.2 hc5) (pM j)<|xG j (ah.2 hc5) (pB j)<|xq (pT j (ah.2 hc5))<|xn
    ·cases yY
     exact xF j (byF ah hc5)<|xF j (byF ah hc5)<|xF j (byF ah hc5)<|xF j (byF ah hc5)<|xF j (byF ah hc5)<|xF j (byF ah hc5)<|xF j (byF ah hc5)<|xF j (byF ah hc5)<|xF j (byF ah hc5)<|xq (pW j (byF ah hc5))<|xn
   ·refine us<|gc h j iR (fun hc6 h=>?_) fun hc6 h=>?_
    ·obtain rfl:=rn h
     exact gs<|G0 (q (pA j)<|nl)<|us<|gr akA j
    ·refine Go.skip<|us<|gs<|?_
     obtain ⟨x49,afy,YY,Bg,h⟩:=b2 h
     refine gX c29 j j j (mk [(2,bv YY)] []) ?_ ?_
     ·refine xq (pF (r':=.mp 1 0 11) QM j)<|xq (l0 tF2 j)<|xq (c1 (aZ afy) bV j j j j)<|xq (pM j)<|?_
      refine ic Bg (fun hc7 Bg=>?_) fun hc7 Bg=>?_
      ·obtain ⟨x53,afE,Bg⟩:=bs Bg
       refine xG j (iR.2 hc7) (pF (r':=.mp 1 0 12) QN j)<|xG j (iR.2 hc7) (l0 tF2 j)<|xG j (iR.2 hc7) (c1 (aZ afE) bV j j j j)<|xq (pT j (iR.2 hc7))<|xq (pM j)<|?_
       refine ic Bg (fun hc8 Bg=>?_) fun hc8 Bg=>?_
       ·obtain ⟨x58,akT,Bg⟩:=bs Bg
        refine xG j (iR.2 hc8) (pF (r':=.mp 1 0 13) JS j)<|xG j (iR.2 hc8) (l0 tF2 j)<|xG j (iR.2 hc8) (c1 (aZ akT) bV j j j j)<|xq (pT j (iR.2 hc8))<|xq (pM j)<|?_
        refine ic Bg (fun hc9 Bg=>?_) fun hc9 Bg=>?_
        ·obtain ⟨x63,acE,Bg⟩:=bs Bg
         refine xG j (iR.2 hc9) (pF (r':=.mp 1 0 14) MX j)<|xG j (iR.2 hc9) (l0 tF2 j)<|xG j (iR.2 hc9) (c1 (aZ acE) bV j j j j)<|xq (pT j (iR.2 hc9))<|xq (pM j)<|?_
         refine ic Bg (fun gU Bg=>?_) fun gU Bg=>?_
         ·obtain ⟨x69,akQ,Bg⟩:=bs Bg
          cases Bg
          exact xG j (iR.2 gU) (pF (r':=.mp 1 0 15) zF j)<|xG j (iR.2 gU) (l2 l9 j)<|xG j (iR.2 gU) (pM j)<|xG j (iR.2 gU) (c1 (Dk akQ) Uy j j j j)<|xq (pT j (iR.2 gU))<|xq (pA j)<|xn
         ·cases Bg
          exact xF j (byF iR gU)<|xF j (byF iR gU)<|xF j (byF iR gU)<|xF j (byF iR gU)<|xq (pW j (byF iR gU))<|xq (pA j)<|xn
        ·cases Bg
         exact xF j (byF iR hc9)<|xF j (byF iR hc9)<|xF j (byF iR hc9)<|xq (pW j (byF iR hc9))<|xq (pM j)<|xF j j<|xF j j<|xF j j<|xF j j<|xq (pW j j)<|xq (pA j)<|xn
       ·cases Bg
        exact xF j (byF iR hc8)<|xF j (byF iR hc8)<|xF j (byF iR hc8)<|xq (pW j (byF iR hc8))<|xq (pM j)<|xF j j<|xF j j<|xF j j<|xq (pW j j)<|xq (pM j)<|xF j j<|xF j j<|xF j j<|xF j j<|xq (pW j j)<|xq (pA j)<|xn
      ·cases Bg
       exact xF j (byF iR hc7)<|xF j (byF iR hc7)<|xF j (byF iR hc7)<|xq (pW j (byF iR hc7))<|xq (pM j)<|xF j j<|xF j j<|xF j j<|xq (pW j j)<|xq (pM j)<|xF j j<|xF j j<|xF j j<|xq (pW j j)<|xq (pM j)<|xF j j<|xF j j<|xF j j<|xF j j<|xq (pW j j)<|xq (pA j)<|xn
     ·obtain rfl:=rn h
      exact us<|gr akA j
theorem NQ {lq:(List Int)} {r:(List bW)} (h:uH lq=some r):FX 216 [.im 2 false [W 1 eI lq]] (B0 [(false,[.ow 0 2 (List.map dB r)])]):=by
 unfold uH at h
 refine gn 35 Tryz.func216 rfl ?_
 refine gs<|G0 (q (AP j j alY)<|nl)<|us<|gs<|G0 (q (oBS (es:=List.map dB ([]:List bW)) j XX j pt0 (gY j fun _=>j))<|q (jU j j j j j)<|nl)<|us<|gs<|gs<|G0 (q (pM j)<|q (pI yV j)<|q (pM j)<|nl)<|us<|Go.block<|?_
 obtain ⟨o,hl,h⟩:=bs h
 refine gl alT j _ (fun (s:(Int×(List bW)))=>match s with | (Fb,aV)=>mk [(0,D 2 (W 1 eI lq)),(3,H 3 0),(8,D 2 (W 1 eI lq)),(9,iv (lq.length:Int)),(10,iv Fb)] [(3,Oc [Z (W 2 dB aV)])]) (fun (bH:(List bW)) (p:Ex×St)=>p.1= .exit 0∧p.2.norm ([3],[3])=mk [(3,H 3 0)] [(3,Oc [Z (W 2 dB bH)])]) hl (by kernel_rfl) ?_ ?_ ?_
 ·intro o p hp e
  exact nomatch (hp.1.symm.trans e)
 ·rintro ⟨Fb,aV⟩ o h
  unfold nS at h
  dsimp only at h
  refine gs<|G0 (q (pB j)<|nl)<|us<|gs<|gc h j ah (fun hc3 h=>?_) fun hc3 h=>?_
  ·refine Go.skip<|us<|gs<|Go.block<|gs<|?_
   obtain ⟨x13,ou,h⟩:=bs h
   refine G0 (q (pM j)<|q (pJ ou lS j)<|q (l2 tF2 j)<|q (pA j)<|q (pA j)<|nl)<|us<|gs<|?_
   obtain ⟨x20,ny,x21,xx,h⟩:=b2 h
   refine G0 (q (pM j)<|q (pM j)<|q (pB j)<|q (pM j)<|q (pI yV j)<|q (Ja j ny j j)<|q (pJ xx lS j)<|q (l2 tF2 j)<|q (pA j)<|nl)<|us<|?_
   obtain ⟨x32,hx32,h⟩:=bs h
   refine G0 (q (pM j)<|q (pM j)<|q (pM j)<|q (ajy j j)<|q (pM j)<|q (pM j)<|q (ajz j j)<|q (oBu (cs:=[.im 0 _,.im 0 _]) j alW j)<|q (oBS (es:=List.map dB ([(⟨(min2 x13 x21),(max2 x13 x21)⟩:bW)]:List bW)) j XX j (ptC j (fxI (fxI fx0)) j pt0) (gY j fun _=>j))<|q (OI (en:=dB) (M:=([(⟨(min2 x13 x21),(max2 x13 x21)⟩:bW)]:List bW)) j hx32 j XX j j afw (.inl ⟨_,j⟩) j j j j (yf j j) (gY j fun _=>j))<|q (jU j j j j j)<|nl)<|Unw.blk<|us<|G0 (q (pB j)<|q (pM j)<|nl)<|Unw.nil<|?_
   cases h
   exact ⟨j,(by kernel_rfl)⟩
  ·refine Go.exit<|ux<|Unw.nil<|?_
   cases h
   exact ⟨j,(by kernel_rfl)⟩
 ·rintro ⟨e,st⟩ hp
  obtain ⟨bH,rfl⟩:∃y,y=o:=⟨o,rfl⟩
  obtain ⟨he,hst⟩:=hp
  obtain rfl:e= .exit 0:=he
  obtain rfl:=rn h
  exact Unw.gz<|us<|gs<|g2 alT j j hst (q (pM j)<|q (jU j j j j j)<|nl)<|us<|gr amE j
theorem zK {s_0:(List bW)} {v_1:bW} {r:Int} (h:jb s_0 v_1=some r):FX 245 [.im 2 false [W 2 dB s_0],.im 2 true (zD v_1)] (B0 [(false,[.im 0 (I r)])]):=by
 unfold jb at h
 refine gn 19 Tryz.func245 rfl ?_
 refine gs<|G0 (q (pX OC j (tkI (tkI tk0)))<|q (pA j)<|nl)<|us<|gs<|gs<|G0 (q (pM j)<|q (pI afw j)<|q (pM j)<|nl)<|us<|Go.block<|?_
 obtain ⟨o,hl,h⟩:=bs h
 refine gl akd j _ (fun (dA:Int)=>mk [(0,D 2 (W 2 dB s_0)),(3,M 3),(7,iv (s_0.length:Int)),(8,iv dA)] [(3,Oa (G 0 (zD v_1)))]) (fun (o:(Unit ⊕ Int)) (p:Ex×St)=>match o with | (.inl _)=>p.1= .exit 0∧p.2.norm ([],[])=mk [] [] | (.inr r2)=>p.1= .ret∧fin Tryz.prog cfg 245 Tryz.f245 [.im 2 false [W 2 dB s_0],.im 2 true (zD v_1)] p.2=some (B0 [(false,[.im 0 (I r2)])])) hl (by kernel_rfl) ?_ ?_ ?_
 ·intro o p hp e
  rcases o with u | r2<;>exact nomatch (hp.1.symm.trans e)
 ·rintro dA o h
  unfold fV at h
  refine gs<|G0 (q (pB j)<|nl)<|us<|gs<|gc h j ah (fun hc5 h=>?_) fun hc5 h=>?_
  ·refine Go.skip<|us<|gs<|Go.block<|gs<|G0 (q (pM j)<|q (pA j)<|nl)<|us<|gs<|?_
   obtain ⟨x14,kR,h⟩:=bs h
   refine gd akd j j j j (mk [(0,D 2 (W 2 dB s_0)),(3,M 3),(5,iv dA),(7,iv (s_0.length:Int)),(8,iv dA),(16,bv ((v_1.e0==x14.e0)&&(v_1.e1==x14.e1)))] [(3,Oa (G 0 (zD v_1)))]) (t1 j (pL (cs:=[.im 0 _,.im 0 _]) OC j)<|t1 j (pM j)<|t1 j (pM j)<|t1 j (pJ kR XX j)<|t1 j (pL (cs:=[.im 2 _,.im 2 _]) OC j)<|t1 j (oBa j (akw v_1.e0 v_1.e1 x14.e0 x14.e1) j j j j)<|sD (by kernel_rfl))<|us<|gc h j (BG iEq iEq) (fun hc6 h=>?_) fun hc6 h=>?_
   ·refine gs<|G0 (q (pM j)<|q (pA j)<|nl)<|us<|Go.ret (Unw.ret ?_)
    cases h
    exact ⟨j,(fo aiU j)⟩
   ·refine Go.skip<|Unw.blk<|us<|G0 (q (pB j)<|q (pM j)<|nl)<|Unw.nil<|?_
    cases h
    exact ⟨j,(by kernel_rfl)⟩
  ·refine Go.exit<|ux<|Unw.nil<|?_
   cases h
   exact ⟨j,(by kernel_rfl)⟩
 ·rintro ⟨e,st⟩ hp
  rcases o with u | r2
  ·dsimp only at h
   obtain ⟨he,hst⟩:=hp
   obtain rfl:e= .exit 0:=he
   obtain rfl:=rn h
   exact Unw.gz<|us<|gs<|g2 akd j j hst (q (pA j)<|nl)<|us<|gr aiU j
  ·dsimp only at h
   obtain ⟨he,hfin⟩:=hp
   obtain rfl:e= .ret:=he
   cases h
   exact Unw.ret (di hfin)
theorem xQ {s_0:(List bW)} {v_1:bW} {r:Bool} (h:fZ s_0 v_1=some r):FX 219 [.im 2 false [W 2 dB s_0],.im 2 true (zD v_1)] (B0 [(false,[.im 0 (V r)])]):=by
 unfold fZ at h
 refine gn 9 Tryz.func219 rfl ?_
 refine gs<|G0 (q (pX OC j (tkI (tkI tk0)))<|q (pA j)<|nl)<|us<|gs<|?_
 obtain ⟨x7,hx7,h⟩:=bs h
 obtain rfl:=rn h
 exact G0 (q (pM j)<|q (pL (cs:=[.im 0 _,.im 0 _]) OC j)<|q (c1 (zK hx7) Tm j j j j)<|q (pB j)<|q (pA j)<|nl)<|us<|gr amH j
theorem Ii {e_0:bW} {sW:(List (List bW))} {Vz:Int} {r:Bool} (h:jg e_0 sW Vz=some r):FX 218 [.im 2 true (zD e_0),.im 2 false [.cp [W 1 (eL 2 dB) sW] 0],.im 2 false [.cp [I Vz] 0]] (B0 [(false,[.im 0 (V r)])]):=by
 unfold jg at h
 refine gn 11 Tryz.func218 rfl ?_
 refine gs<|G0 (q (pX OC j (tkI (tkI tk0)))<|q (pA j)<|nl)<|us<|gs<|?_
 obtain ⟨x7,hx7,x10,wo,h⟩:=b2 h
 obtain rfl:=rn h
 exact gd c218 j j j j (mk [(4,bv x10)] []) (t1 j (l2 LC j)<|t1 j (l2 tF3 j)<|t1 j (pJ hx7 XW j)<|t1 j (l2 aiZ j)<|t1 j (pL (cs:=[.im 0 _,.im 0 _]) OC j)<|s1 j (c1 (xQ wo) Ti j j j j) (s1 j (pA j) (sD (by kernel_rfl))))<|us<|gr amG j
theorem uT {s_0:(List bW)} {gK:(List (List bW))} {FY:Int} {r:Int} (h:iy s_0 (fun b0=>jg b0 gK FY)=some r):FX 244 [.im 2 false [W 2 dB s_0],.im 2 false [.clo 218 [.cp [W 1 (eL 2 dB) gK] 0,.cp [I FY] 0]]] (B0 [(false,[.im 0 (I r)])]):=by
 unfold iy at h
 refine gn 19 Tryz.func244 rfl ?_
 refine gs<|G0 (q (pA j)<|nl)<|us<|gs<|gs<|G0 (q (pM j)<|q (pI afw j)<|q (pM j)<|nl)<|us<|Go.block<|?_
 obtain ⟨o,hl,h⟩:=bs h
 refine gl alU j _ (fun (dA:Int)=>mk [(0,D 2 (W 2 dB s_0)),(1,D 2 (.clo 218 [.cp [W 1 (eL 2 dB) gK] 0,.cp [I FY] 0])),(7,iv (s_0.length:Int)),(8,iv dA)] []) (fun (o:(Unit ⊕ Int)) (p:Ex×St)=>match o with | (.inl _)=>p.1= .exit 0∧p.2.norm ([],[])=mk [] [] | (.inr r2)=>p.1= .ret∧fin Tryz.prog cfg 244 Tryz.f244 [.im 2 false [W 2 dB s_0],.im 2 false [.clo 218 [.cp [W 1 (eL 2 dB) gK] 0,.cp [I FY] 0]]] p.2=some (B0 [(false,[.im 0 (I r2)])])) hl (by kernel_rfl) ?_ ?_ ?_
 ·intro o p hp e
  rcases o with u | r2<;>exact nomatch (hp.1.symm.trans e)
 ·rintro dA o h
  unfold eY at h
  refine gs<|G0 (q (pB j)<|nl)<|us<|gs<|gc h j ah (fun hc5 h=>?_) fun hc5 h=>?_
  ·refine Go.skip<|us<|gs<|Go.block<|gs<|G0 (q (pM j)<|q (pA j)<|nl)<|us<|gs<|?_
   obtain ⟨x14,kR,x16,hx16,h⟩:=b2 h
   refine G0 (q (pM j)<|q (pM j)<|q (pM j)<|q (pJ kR XX j)<|q (pL (cs:=[.im 2 _,.im 2 _]) OC j)<|q (oCa (xs:=[.v true [.im 2 _,.im 2 _],.v false [.im 2 _],.v false [.im 2 _]]) (vs:=[(false,[.im 0 _])]) (v:=.v false [.im 0 _]) (Ii hx16) (.inr ⟨_,_,j,j⟩) j Tf j (ppC j (ppC j (ppC j pp0))) j j pb0 j j j)<|nl)<|us<|gc h j iR (fun hc6 h=>?_) fun hc6 h=>?_
   ·refine gs<|G0 (q (pM j)<|q (pA j)<|nl)<|us<|Go.ret (Unw.ret ?_)
    cases h
    exact ⟨j,(fo aiT j)⟩
   ·refine Go.skip<|Unw.blk<|us<|G0 (q (pB j)<|q (pM j)<|nl)<|Unw.nil<|?_
    cases h
    exact ⟨j,(by kernel_rfl)⟩
  ·refine Go.exit<|ux<|Unw.nil<|?_
   cases h
   exact ⟨j,(by kernel_rfl)⟩
 ·rintro ⟨e,st⟩ hp
  rcases o with u | r2
  ·dsimp only at h
   obtain ⟨he,hst⟩:=hp
   obtain rfl:e= .exit 0:=he
   obtain rfl:=rn h
   exact Unw.gz<|us<|gs<|g2 alU j j hst (q (pA j)<|nl)<|us<|gr aiT j
  ·dsimp only at h
   obtain ⟨he,hfin⟩:=hp
   obtain rfl:e= .ret:=he
   cases h
   exact Unw.ret (di hfin)
theorem rY {s_0:(List bW)} {gK:(List (List bW))} {FY:Int} {r:Bool} (h:fA s_0 (fun b0=>jg b0 gK FY)=some r):FX 217 [.im 2 false [W 2 dB s_0],.im 2 false [.clo 218 [.cp [W 1 (eL 2 dB) gK] 0,.cp [I FY] 0]]] (B0 [(false,[.im 0 (V r)])]):=by
 unfold fA at h
 refine gn 9 Tryz.func217 rfl ?_
 refine gs<|G0 (q (pA j)<|nl)<|us<|gs<|?_
 obtain ⟨x7,hx7,h⟩:=bs h
 obtain rfl:=rn h
 exact G0 (q (pM j)<|q (pM j)<|q (c1 (uT hx7) Tj j j j j)<|q (pB j)<|q (pA j)<|nl)<|us<|gr amF j
theorem oz {d_0:aB} {r:(List (List Int))} (h:rP d_0=some r):FX 174 [.im 2 true (au d_0)] (B0 [(false,[.im 0 (W 1 (eL 1 eI) r)])]):=by
 unfold rP at h
 refine gn 61 Tryz.func174 rfl ?_
 refine gs<|G0 (sqn jd j (pX Du j (tkI (tkI (tkI (tkI tk0)))))<|sqf jd j (AP j j aiD) (aod j j j)<|nl)<|us<|gs<|G0 (sqn jd j (oBS (es:=List.map (eL 2 dB) ([]:List (List bW))) j XW j pt0 (Ld j))<|sqn jd j (oAl j LC (tkN tk0))<|sq0 (pS LC j (tkO j j tk0) j)<|nl)<|us<|gs<|gs<|g1 j j (mk [(1,M 1),(3,M 3)] [(1,Oa (G 2 (au d_0))),(3,Ob [Z (W 1 (eL 2 dB) ([]:List (List bW)))])]) (sqn jd j (pF (r':=.mp 1 0 3) jD j)<|sqn jd j (l2 yU j)<|sqn jd j (pI FB j)<|sqn jd j (pM j)<|nl)<|us<|Go.block<|?_
 obtain ⟨o,hl,h⟩:=bs h
 refine gl SQ j _ (fun (s:(Int×(List (List bW))))=>match s with | (DK,xM)=>mk [(3,M 3),(11,D 2 (W 2 aQ d_0.aG)),(12,iv (d_0.aG.length:Int)),(13,iv DK)] [(3,Ob [Z (W 1 (eL 2 dB) xM)])]) (fun (bJ:(List (List bW))) (p:Ex×St)=>p.1= .exit 0∧p.2.norm ([3],[3])=mk [(3,M 3)] [(3,Ob [Z (W 1 (eL 2 dB) bJ)])]) hl (by kernel_rfl) ?_ ?_ ?_
 ·intro o p hp e
  exact nomatch (hp.1.symm.trans e)
 ·rintro ⟨DK,xM⟩ o h
  unfold mX at h
  dsimp only at h
  refine gs<|G0 (sqn jd j (pB j)<|nl)<|us<|gs<|gc h j ah (fun hc38 h=>?_) fun hc38 h=>?_
  ·refine Go.skip<|us<|gs<|Go.block<|gs<|?_
   obtain ⟨x15,rW,h⟩:=bs h
   refine G0 (sqn jd j (pJ rW EH j)<|sqn jd j (pL (cs:=[.im 2 _,.im 2 _]) zh j)<|sqn jd j (oAl j zh (tkI (tkN tk0)))<|sq0 (pS zh j (tkI (tkI tk0)) j)<|nl)<|us<|?_
   obtain ⟨x20,ny,x22,qp,h⟩:=b2 h
   refine gd SQ j j j (st1:=mk [(3,M 3),(5,M 5),(11,D 2 (W 2 aQ d_0.aG)),(12,iv (d_0.aG.length:Int)),(13,iv DK)] [(3,Ob [Z (W 1 (eL 2 dB) xM)]),(5,Oa (G 2 (wO x15)))]) (by kernel_rfl) (mk [(3,M 3),(11,D 2 (W 2 aQ d_0.aG)),(12,iv (d_0.aG.length:Int)),(13,iv DK)] [(3,Ob [Z (W 1 (eL 2 dB) x22)])]) (sT j (dNn jd j j (pF (r':=.mp 5 0 1) yT j))<|sT j (dNn jd j j (l2 l9 j))<|sK (O:=[3]) j j j (dNn jd j j (pL (cs:=[.own 3 0 0]) LC j))<|sS (dNn jd j j (cR (vs:=[(false,[.own 20 0 0])]) (v:=.v false [.own 20 0 0]) (c:=⟨.sh,0,_⟩) (cs:=[]) (NQ ny) ae6 j j j j j)) (kY ⟨j,trivial⟩ trivial) (sS (dNn jd j j (oBS (es:=List.map (eL 2 dB) ([x20]:List (List bW))) j XW j (ptC j (fxO j j fx0) j pt0) (Ld j))) (kY ⟨j,trivial⟩ trivial) (sS (dNn jd j j (OI (en:=(eL 2 dB)) (M:=([x20]:List (List bW))) j qp j XW j j abt (.inl ⟨_,j⟩) j j j j (yf j j) (Ld j))) (kN j trivial) (sS (dN0 j (pS LC j (tkO j j tk0) j)) (kN j trivial) (sD (by kernel_rfl))))))<|Unw.blk<|us<|G0 (sqn jd j (pB j)<|sqn jd j (pM j)<|nl)<|Unw.nil<|?_
   cases h
   exact ⟨j,(by kernel_rfl)⟩
  ·refine Go.exit<|ux<|Unw.nil<|?_
   cases h
   exact ⟨j,(by kernel_rfl)⟩
 ·rintro ⟨e,st⟩ hp
  obtain ⟨bJ,rfl⟩:∃y,y=o:=⟨o,rfl⟩
  obtain ⟨he,hst⟩:=hp
  obtain rfl:e= .exit 0:=he
  refine Unw.gz<|us<|gs<|?_
  obtain ⟨x26,Ny,h⟩:=bs h
  refine g2 SQ j j hst (sqn jd j (pL (cs:=[.own 3 0 0]) LC j)<|sqn jd j (U7 j j abt j j j (fun e=>nomatch e))<|sqn jd j (aoc (en:=(eL 1 eI)) j Ny j EF j j (fxN fx0) j (Ld j))<|sqn jd j (alE j j j j j)<|nl)<|us<|gs<|gs<|G0 (sqn jd j (pL (cs:=[.own 3 0 0]) LC j)<|sqn jd j (U7 j j abt j j j (fun e=>nomatch e))<|sqn jd j (pM j)<|nl)<|us<|Go.block<|?_
  obtain ⟨o,hl,h⟩:=bs h
  refine gl SQ j _ (fun (s:(Int×(List (List Int))))=>match s with | (jc,EC)=>mk [(3,M 3),(6,H 6 0),(28,iv (bJ.length:Int)),(29,iv jc)] [(3,Ob [Z (W 1 (eL 2 dB) bJ)]),(6,Oc [⟨.dp 0,0,0,W 1 (eL 1 eI) EC⟩])]) (fun (DL:(List (List Int))) (p:Ex×St)=>p.1= .exit 2∧p.2.norm ([6],[6])=mk [(6,H 6 0)] [(6,Oc [⟨.dp 0,0,0,W 1 (eL 1 eI) DL⟩])]) hl (by kernel_rfl) ?_ ?_ ?_
  ·intro o p hp e
   exact nomatch (hp.1.symm.trans e)
  ·rintro ⟨jc,EC⟩ o h
   unfold mW at h
   dsimp only at h
   refine gs<|G0 (sqn jd j (pB j)<|nl)<|us<|gs<|gc h j ah (fun hc21 h=>?_) fun hc21 h=>?_
   ·refine Go.skip<|us<|gs<|Go.block<|gs<|G0 (sqn jd j (pM j)<|sqn jd j (pA j)<|nl)<|us<|gs<|G0 (sqn jd j (pL (cs:=[.own 3 0 0]) LC j)<|sqn jd j (U7 j j abt j j j (fun e=>nomatch e))<|sqn jd j (pM j)<|nl)<|us<|Go.block<|?_
    obtain ⟨o,hl,h⟩:=bs h
    refine gl SQ j _ (fun (s:(Int×(List (List Int))))=>match s with | (jo,jZ)=>mk [(3,M 3),(6,H 6 0),(7,iv jc),(28,iv (bJ.length:Int)),(29,iv jc),(33,iv (bJ.length:Int)),(34,iv jo)] [(3,Ob [Z (W 1 (eL 2 dB) bJ)]),(6,Oc [⟨.dp 0,0,0,W 1 (eL 1 eI) jZ⟩])]) (fun (BL:(List (List Int))) (p:Ex×St)=>p.1= .exit 4∧p.2.norm ([3,6,28,29],[3,6])=mk [(3,M 3),(6,H 6 0),(28,iv (bJ.length:Int)),(29,iv jc)] [(3,Ob [Z (W 1 (eL 2 dB) bJ)]),(6,Oc [⟨.dp 0,0,0,W 1 (eL 1 eI) BL⟩])]) hl (by kernel_rfl) ?_ ?_ ?_
    ·intro o p hp e
     exact nomatch (hp.1.symm.trans e)
    ·rintro ⟨jo,jZ⟩ o h
     unfold lH at h
     dsimp only at h
     refine gs<|G0 (sqn jd j (pB j)<|nl)<|us<|gs<|gc h j ah (fun lT h=>?_) fun lT h=>?_
     ·refine Go.skip<|us<|gs<|Go.join (fun st=>∃CU,lG jo CU=some o∧st.norm ([3,6,7,28,29,33,34],[3,6])=mk [(3,M 3),(6,H 6 0),(7,iv jc),(28,iv (bJ.length:Int)),(29,iv jc),(33,iv (bJ.length:Int)),(34,iv jo)] [(3,Ob [Z (W 1 (eL 2 dB) bJ)]),(6,Oc [⟨.dp 0,0,0,W 1 (eL 1 eI) CU⟩])]) ?_ ?_
      ·rintro st ⟨CU,h,hst⟩
       unfold lG at h
       refine us<|g2 SQ j j hst (sqn jd j (pB j)<|sqn jd j (pM j)<|nl)<|Unw.nil<|?_
       cases h
       exact ⟨j,(by kernel_rfl)⟩
      ·intro K34
       refine Go.block<|gs<|G0 (sqn jd j (pM j)<|sqn jd j (oAl j tF3 (tkI tk0))<|sq0 (pS tF3 j (tkI tk0) j)<|nl)<|us<|gs<|?_
       obtain ⟨QE,Ih,h⟩:=bs h
       refine gX SQ j j (st1:=mk [(3,M 3),(6,H 6 0),(7,iv jc),(8,M 8),(28,iv (bJ.length:Int)),(29,iv jc),(33,iv (bJ.length:Int)),(34,iv jo)] [(3,Ob [Z (W 1 (eL 2 dB) bJ)]),(6,Oc [⟨.dp 0,0,0,W 1 (eL 1 eI) jZ⟩]),(8,Ob [C (I jo)])]) (by kernel_rfl) (mk [(3,M 3),(6,H 6 0),(7,iv jc),(8,M 8),(28,iv (bJ.length:Int)),(29,iv jc),(33,iv (bJ.length:Int)),(34,iv jo),(47,bv QE)] [(3,Ob [Z (W 1 (eL 2 dB) bJ)]),(6,Oc [⟨.dp 0,0,0,W 1 (eL 1 eI) jZ⟩]),(8,Ob [C (I jo)])]) ?_ ?_
       ·refine ab1 jd j (pM j)<|ab1 jd j (l0 tF3 j)<|ab1 jd j (pB j)<|ab1 jd j (pM j)<|?_
        refine ic Ih (fun sZ Ih=>?_) fun sZ Ih=>?_
        ·obtain ⟨x43,Jg,Ih⟩:=bs Ih
         obtain ⟨x46,Zm,Ih⟩:=bs Ih
         cases Ih
         exact Uu jd j j j (iNe.2 sZ) (pL (cs:=[.own 3 0 0]) LC j)<|Uu jd j j j (iNe.2 sZ) (pM j)<|Uu jd j j j (iNe.2 sZ) (Gm j Jg XW j j j j)<|Uu jd j j j (iNe.2 sZ) (YK (cs:=[.im 0 _]) j aiZ j j j j (oH Jg) j j)<|Uu jd j j j (iNe.2 sZ) (oMF (rs:=[.mp 3 0 0,.mp 8 0 0]) j j)<|Uu jd j j j (iNe.2 sZ) (c1 (rY Zm) Td j j j j)<|ab1 jd j (pT j (iNe.2 sZ))<|xn
        ·cases Ih
         exact xF j (byF iNe sZ)<|xF j (byF iNe sZ)<|xF j (byF iNe sZ)<|xF j (byF iNe sZ)<|xF j (byF iNe sZ)<|xF j (byF iNe sZ)<|ab1 jd j (pW j (byF iNe sZ))<|xn
       ·refine us<|gc h j iR (fun afA h=>?_) fun afA h=>?_
        ·obtain ⟨x52,afI,x56,Zk,h⟩:=b2 h
         obtain ⟨x57,aib,h⟩:=bs h
         exact gd SQ j j j j (mk [(3,M 3),(6,H 6 0),(7,iv jc),(28,iv (bJ.length:Int)),(29,iv jc),(33,iv (bJ.length:Int)),(34,iv jo)] [(3,Ob [Z (W 1 (eL 2 dB) bJ)]),(6,Oc [⟨.dp 0,0,0,W 1 (eL 1 eI) (jZ.set jc.toNat x56)⟩])]) (sT j (dNn jd j j (pM j))<|sT j (dNn jd j j (pM j))<|sT j (dNn jd j j (pM j))<|sT j (dNn jd j j (pM j))<|sT j (dNn jd j j (l0 tF3 j))<|sK (O:=[6]) j j j (dNn jd j j (alF j afI EF j j j j (fun e=>nomatch e)))<|sK (O:=[6]) j j j (dNn jd j j (aog (cs:=[.inr 6 0 0 _ 0 0]) j l9 j j j (oH afI) j j))<|sS (dNn jd j j (oBS (es:=List.map eI ([jo]:List Int)) j lS j (ptC j (fxI fx0) j pt0) (gY j fun _=>j))) (kY ⟨j,trivial⟩ (kY ⟨j,trivial⟩ trivial)) (sS (dNn jd j j (aoh (en:=eI) (M:=([jo]:List Int)) j Zk j lS j j yV (.inl ⟨_,j⟩) j j j (oH afI) j j (yf j j) (gY j fun _=>j))) (kN j (kN j trivial)) (sT j (dNn jd j j (alF j aib EF j j j j (fun e=>nomatch e)))<|sS (dN0 j (aof (v':=x56) l9 j j j j (tkO j j tk0) j j (oH aib) j)) (kN j (kN j trivial)) (sD (by kernel_rfl)))))<|Unw.blk<|K34 _ ⟨(jZ.set jc.toNat x56),h,(by kernel_rfl)⟩
        ·exact Go.skip<|Unw.blk<|K34 _ ⟨jZ,h,(by kernel_rfl)⟩
     ·refine Go.exit<|ux<|Unw.nil<|?_
      cases h
      exact ⟨j,(by kernel_rfl)⟩
    ·rintro ⟨e,st⟩ hp
     obtain ⟨BL,rfl⟩:∃y,y=o:=⟨o,rfl⟩
     obtain ⟨he,hst⟩:=hp
     obtain rfl:e= .exit 4:=he
     refine Unw.gz<|Unw.blk<|us<|g2 SQ j j hst (sqn jd j (pB j)<|sqn jd j (pM j)<|nl)<|Unw.nil<|?_
     cases h
     exact ⟨j,(by kernel_rfl)⟩
   ·refine Go.exit<|ux<|Unw.nil<|?_
    cases h
    exact ⟨j,(by kernel_rfl)⟩
  ·rintro ⟨e,st⟩ hp
   obtain ⟨DL,rfl⟩:∃y,y=o:=⟨o,rfl⟩
   obtain ⟨he,hst⟩:=hp
   obtain rfl:e= .exit 2:=he
   obtain rfl:=rn h
   exact Unw.gz<|us<|gs<|g2 SQ j j hst (sqn jd j (pM j)<|sqf jd j (alE j j j j j) (aoe j j j)<|nl)<|us<|gr ams j
theorem Kr {d_0:aB} {k_1:Int} {r:(List ae)} (h:pY d_0 k_1=some r):FX 121 [.im 2 true (au d_0),.im 2 false [I k_1]] (B0 [(false,[.ow 0 2 (List.map af r)])]):=by
 unfold pY at h
 refine gn 20 Tryz.func121 rfl ?_
 refine gs<|G0 (q (pX Du j (tkI (tkI (tkI (tkI tk0)))))<|q (AP j j Y1)<|nl)<|us<|gs<|?_
 obtain ⟨x13,ou,x16,hx16,h⟩:=b2 h
 obtain rfl:=rn h
 exact gd aon j j j j (mk [(5,H 5 0)] [(5,Oc [Z (W 2 af x16.1)])]) (t1 j (pF (r':=.mp 2 0 2) uO j)<|t1 j (l2 HY j)<|t1 j (pF (r':=.mp 2 0 3) jD j)<|t1 j (l2 yU j)<|t1 j (pM j)<|t1 j (pJ ou EH j)<|t1 j (f2 yT j)<|t1 j (l2 l9 j)<|s1 j (cR (vs:=[(false,[.own 16 0 0]),(false,[.im 0 _])]) (v:=.tup [(false,[.own 16 0 0]),(false,[.im 0 _])]) (c:=⟨.sh,0,_⟩) (cs:=[]) (Dh hx16) Oz j j j j j) (t1 j (Qy j j)<|t1 j (oEx j j j)<|t1 j (oEx j j j)<|s1 j (jU j j j j j) (s1 j (pA j) (sD (by kernel_rfl)))))<|us<|gs<|G0 (q (pM j)<|q (jU j j j j j)<|nl)<|us<|gr al8 j
end
end Go.Proofs.YtngbehdgjocndaaGreat
