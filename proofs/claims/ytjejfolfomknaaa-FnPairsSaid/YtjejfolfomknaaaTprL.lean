/- The machine answers, at each function of the program that is reached, what its plain function answers: a further part. Conditions: none. -/
import Derived.Test.YtjejfolfomknaaaTprLa
namespace Go.Proofs.Ytjejfolfomknaaa
open Go Go.Sim Go.Pw Go.Proofs
set_option linter.unusedVariables false
set_option linter.unusedSimpArgs false
set_option maxRecDepth 100000
set_option maxHeartbeats 4000000
noncomputable section
theorem BM {x_0:Int} {y_1:Int} {r:Int} (h:kM x_0 y_1=some r):FX 104 [.im 2 false [I x_0],.im 2 false [I y_1]] (B0 [(false,[.im 0 (I r)])]):=by
 unfold kM at h
 refine gn 20 Try.func104 rfl ?_
 refine gs<|g0 j j (q (ah j j)<|nl)<|us<|gs<|?_
 obtain ⟨x8,hx8,h⟩:=bs h
 refine g0 j j (q (oMv j j)<|q (oCa (xs:=[.v false [.im 2 _]]) (vs:=[(false,[.im 0 _])]) (v:=.v false [.im 0 _]) (xO hx8) (.inl j) j Ql j (ppC j pp0) j j pb0 j j j)<|q (ah j j)<|nl)<|us<|gs<|?_
 obtain ⟨x10,Ba,h⟩:=bs h
 refine g0 j j (q (oMv j j)<|q (oCa (xs:=[.v false [.im 2 _]]) (vs:=[(false,[.im 0 _])]) (v:=.v false [.im 0 _]) (xO Ba) (.inl j) j Ql j (ppC j pp0) j j pb0 j j j)<|q (ah j j)<|nl)<|us<|gs<|gs<|g0 j j (q (oMv j j)<|nl)<|us<|gc h j iR (fun hc1 h=>?_) fun hc1 h=>?_
 ·refine gs<|gs<|g0 j j (q (oMv j j)<|nl)<|us<|gc h j iR (fun hc2 h=>?_) fun hc2 h=>?_
  ·refine gs<|g0 j j (q (ah j j)<|nl)<|us<|Go.ret (Unw.ret ?_)
   cases h
   exact fr JH j
  ·refine Go.skip<|us<|gs<|g0 j j (q (ah j j)<|nl)<|us<|Go.ret (Unw.ret ?_)
   cases h
   exact fr JH j
 ·refine Go.skip<|us<|gs<|gs<|g0 j j (q (oMv j j)<|nl)<|us<|gc h j iR (fun hc3 h=>?_) fun hc3 h=>?_
  ·refine gs<|g0 j j (q (ah j j)<|nl)<|us<|Go.ret (Unw.ret ?_)
   cases h
   exact fr JH j
  ·refine Go.skip<|us<|gs<|gs<|g0 j j (q (oMv j j)<|q (oMv j j)<|q (oBi j j j j)<|nl)<|us<|gc h j af (fun hc4 h=>?_) fun hc4 h=>?_
   ·refine gs<|g0 j j (q (ah j j)<|nl)<|us<|Go.ret (Unw.ret ?_)
    cases h
    exact fr JH j
   ·refine Go.skip<|us<|gs<|gs<|g0 j j (q (oMv j j)<|q (oMv j j)<|q (oBi j j j j)<|nl)<|us<|gc h j af (fun hc5 h=>?_) fun hc5 h=>?_
    ·refine gs<|g0 j j (q (ah j j)<|nl)<|us<|Go.ret (Unw.ret ?_)
     cases h
     exact fr JH j
    ·refine Go.skip<|us<|gs<|g0 j j (q (ah j j)<|nl)<|us<|Go.ret (Unw.ret ?_)
     cases h
     exact fr JH j
theorem mX {EU:(List Int)} {Il:(List Int)} {r:Int} (h:aZ EU Il=some r):FX 62 [.im 2 false [W 1 eI EU],.im 2 false [W 1 eI Il]] (B0 [(false,[.im 0 (I r)])]):=by
 unfold aZ at h
 refine gn 36 Try.func62 rfl ?_
 refine gs<|g0 j j (q (ah j j)<|nl)<|us<|gs<|gs<|g0 j j (q (oMv j j)<|q (qR j j Fg j)<|q (oMv j j)<|nl)<|us<|Go.block<|?_
 obtain ⟨o,hl,h⟩:=bs h
 refine gl c62 j _ (fun (xK:Int)=>mk [(0,D 2 (W 1 eI EU)),(1,D 2 (W 1 eI Il)),(9,D 2 (W 1 eI EU)),(10,iv (EU.length:Int)),(11,iv xK)] []) (fun (o:(Unit ⊕ Int)) (p:Ex×St)=>match o with | (.inl _)=>p.1= .exit 0∧p.2.norm ([0,1],[])=mk [(0,D 2 (W 1 eI EU)),(1,D 2 (W 1 eI Il))] [] | (.inr r2)=>p.1= .ret∧fin Try.prog cfg 62 Try.f62 [.im 2 false [W 1 eI EU],.im 2 false [W 1 eI Il]] p.2=some (B0 [(false,[.im 0 (I r2)])])) hl (by kernel_rfl) ?_ ?_ ?_
 ·intro o p hp e
  rcases o with u | r2<;>exact nomatch (hp.1.symm.trans e)
 ·rintro xK o h
  unfold gI at h
  refine gs<|g0 j j (q (oBi j j j j)<|nl)<|us<|gs<|gc h j af (fun hc8 h=>?_) fun hc8 h=>?_
  ·refine Go.skip<|us<|gs<|Go.block<|gs<|?_
   obtain ⟨x14,Fj,h⟩:=bs h
   refine g0 j j (q (oMv j j)<|q (qf j Fj iG j j)<|q (oLd (cs:=[.im 2 _]) j tF2 j j)<|q (ah j j)<|q (ah j j)<|nl)<|us<|gs<|gs<|g0 j j (q (oMv j j)<|q (oMv j j)<|q (qR j j Fg j)<|q (oBi j j j j)<|nl)<|us<|gc h j af (fun hc9 h=>?_) fun hc9 h=>?_
   ·refine gs<|g0 j j (q (ah j j)<|nl)<|us<|Go.ret (Unw.ret ?_)
    cases h
    exact ⟨j,(fo VW j)⟩
   ·refine Go.skip<|us<|gs<|?_
    obtain ⟨x22,A8,h⟩:=bs h
    refine g0 j j (q (oMv j j)<|q (oMv j j)<|q (qf j A8 iG j j)<|q (oLd (cs:=[.im 2 _]) j tF2 j j)<|q (ah j j)<|nl)<|us<|gs<|?_
    obtain ⟨x26,Uk,h⟩:=bs h
    refine g0 j j (q (oMv j j)<|q (oMv j j)<|q (oCa (xs:=[.v false [.im 2 _],.v false [.im 2 _]]) (vs:=[(false,[.im 0 _])]) (v:=.v false [.im 0 _]) (BM Uk) (.inl j) j Q9 j (ppC j (ppC j pp0)) j j pb0 j j j)<|q (ah j j)<|nl)<|us<|gs<|g0 j j (q (oMv j j)<|q (oBi j j j j)<|nl)<|us<|gc h j iNe (fun Bd h=>?_) fun Bd h=>?_
    ·refine gs<|g0 j j (q (oMv j j)<|q (ah j j)<|nl)<|us<|Go.ret (Unw.ret ?_)
     cases h
     exact ⟨j,(fo VW j)⟩
    ·refine Go.skip<|Unw.blk<|us<|g0 j j (q (oBi j j j j)<|q (oMv j j)<|nl)<|Unw.nil<|?_
     cases h
     exact ⟨j,(by kernel_rfl)⟩
  ·refine Go.exit<|ux<|Unw.nil<|?_
   cases h
   exact ⟨j,(by kernel_rfl)⟩
 ·rintro ⟨e,st⟩ hp
  rcases o with u | r2
  ·dsimp only at h
   obtain ⟨he,hst⟩:=hp
   obtain rfl:e= .exit 0:=he
   refine Unw.ve<|us<|gs<|gs<|g2 c62 j j hst (q (oMv j j)<|q (qR j j Fg j)<|q (oMv j j)<|q (qR j j Fg j)<|q (oBi j j j j)<|nl)<|us<|gc h j af (fun hc7 h=>?_) fun hc7 h=>?_
   ·refine gs<|g0 j j (q (ah j j)<|nl)<|us<|Go.ret (Unw.ret ?_)
    cases h
    exact fr VW j
   ·refine Go.skip<|us<|gs<|g0 j j (q (ah j j)<|nl)<|us<|Go.ret (Unw.ret ?_)
    cases h
    exact fr VW j
  ·dsimp only at h
   obtain ⟨he,hfin⟩:=hp
   obtain rfl:e= .ret:=he
   cases h
   exact Unw.ret (vg hfin)
theorem rZ {p_0:(List Int)} {q_1:(List Int)} {r:Int} (h:aO p_0 q_1=some r):FX 61 [.im 2 false [W 1 eI p_0],.im 2 false [W 1 eI q_1]] (B0 [(false,[.im 0 (I r)])]):=by
 unfold aO at h
 refine gn 8 Try.func61 rfl ?_
 refine gs<|g0 j j (q (ah j j)<|nl)<|us<|gs<|?_
 obtain ⟨x7,hx7,h⟩:=bs h
 refine g0 j j (q (oMv j j)<|q (oMv j j)<|q (oCa (xs:=[.v false [.im 2 _],.v false [.im 2 _]]) (vs:=[(false,[.im 0 _])]) (v:=.v false [.im 0 _]) (mX hx7) (.inl j) j IA j (ppC j (ppC j pp0)) j j pb0 j j j)<|q (ah j j)<|nl)<|us<|Go.ret (Unw.ret ?_)
 cases h
 exact fr aaI j
theorem oL {bK:(List (List Int))} {a_1:Int} {b_2:Int} {r:(List (List Int))} (h:dG bK a_1 b_2 (fun b0 b1=>aO b0 b1)=some r):FX 135 [.ow 1 (List.map (eL 1 eI) bK),.im 2 false [I a_1],.im 2 false [I b_2],.im 2 false [.clo 61 []]] ([],[.ow 1 (List.map (eL 1 eI) r)]):=by
 unfold dG at h
 refine lC (A:=[(0,H 0 0),(1,D 2 (I a_1)),(2,D 2 (I b_2)),(3,D 2 (.clo 61 []))]) (B:=[(0,Oe [Z (W 1 (eL 1 eI) bK)]),(1,none),(2,none),(3,none)]) (nt:=53) rfl rfl Try.func135 rfl rfl rfl rfl ?_
 refine gs<|g0 j j (q (oMv j j)<|q (oBi j j j j)<|q (ah j j)<|nl)<|us<|Go.block<|?_
 obtain ⟨o,hl,h⟩:=bs h
 refine gl Q4 j _ (fun (s:(Int×(List (List Int))))=>match s with | (xR,xe)=>mk [(0,H 0 0),(1,iv a_1),(2,iv b_2),(3,D 2 (.clo 61 [])),(8,iv xR)] [(0,Oe [Z (W 1 (eL 1 eI) xe)])]) (fun (r2:(List (List Int))) (p:Ex×St)=>p.1= .exit 0∧fin Try.prog cfg 135 Try.f135 [.ow 1 (List.map (eL 1 eI) bK),.im 2 false [I a_1],.im 2 false [I b_2],.im 2 false [.clo 61 []]] p.2=some ([],[.ow 1 (List.map (eL 1 eI) r2)])) hl (by kernel_rfl) ?_ ?_ ?_
 ·intro o p hp e
  exact nomatch (hp.1.symm.trans e)
 ·rintro ⟨xR,xe⟩ o h
  unfold aP at h
  dsimp only at h
  refine gs<|gs<|g0 j j (q (oMv j j)<|q (oMv j j)<|q (oBi j j j j)<|nl)<|us<|gc h j af (fun vC h=>?_) fun vC h=>?_
  ·refine Go.skip<|us<|gs<|Go.block<|gs<|g0 j j (q (oMv j j)<|q (ah j j)<|nl)<|us<|Go.block<|?_
   obtain ⟨o,hl,h⟩:=bs h
   refine gl Q4 j _ (fun (s:(Int×(List (List Int))))=>match s with | (nH,jf)=>mk [(0,H 0 0),(1,iv a_1),(2,iv b_2),(3,D 2 (.clo 61 [])),(8,iv xR),(9,iv nH)] [(0,Oe [Z (W 1 (eL 1 eI) jf)])]) (fun (vk:(List (List Int))) (p:Ex×St)=>p.1= .exit 2∧p.2.norm ([0,1,2,3,8],[0])=mk [(0,H 0 0),(1,iv a_1),(2,iv b_2),(3,D 2 (.clo 61 [])),(8,iv xR)] [(0,Oe [Z (W 1 (eL 1 eI) vk)])]) hl (by kernel_rfl) ?_ ?_ ?_
   ·intro o p hp e
    exact nomatch (hp.1.symm.trans e)
   ·rintro ⟨nH,jf⟩ o h
    unfold aU at h
    dsimp only at h
    refine gs<|gs<|?_
    obtain ⟨KF,II,h⟩:=bs h
    refine gd Q4 j j j j (mk [(0,H 0 0),(1,iv a_1),(2,iv b_2),(3,D 2 (.clo 61 [])),(8,iv xR),(9,iv nH),(34,bv KF)] [(0,Oe [Z (W 1 (eL 1 eI) jf)])]) ?_ ?_
    ·refine t j j (oMv j j)<|t j j (oMv j j)<|t j j (oBi j j j j)<|t j j (oMv j j)<|?_
     refine ic II (fun hc22 II=>?_) fun hc22 II=>?_
     ·obtain ⟨x25,hx25,II⟩:=bs II
      obtain ⟨x30,Gg,II⟩:=bs II
      obtain ⟨x32,hx32,II⟩:=bs II
      cases II
      exact tT j j j j (af.2 hc22) (oMv j j)<|tT j j j j (af.2 hc22) (oMv j j)<|tT j j j j (af.2 hc22) (oMv j j)<|tT j j j j (af.2 hc22) (vS j hx25 kR j j j j)<|tT j j j j (af.2 hc22) (CU (cs:=[.im 0 _]) j F7 j j j j (jT hx25) j j)<|tT j j j j (af.2 hc22) (oMv j j)<|tT j j j j (af.2 hc22) (oMv j j)<|tT j j j j (af.2 hc22) (oBi j j j j)<|tT j j j j (af.2 hc22) (vS j Gg kR j j j j)<|tT j j j j (af.2 hc22) (CU (cs:=[.im 0 _]) j F7 j j j j (jT Gg) j j)<|sS (dT XJ j j j (af.2 hc22) (oCa (xs:=[.v false [.im 0 _],.v false [.im 0 _]]) (vs:=[(false,[.im 0 _])]) (v:=.v false [.im 0 _]) (rZ hx32) (.inr ⟨_,_,j,j⟩) j Iz j (ppC j (ppC j pp0)) j j pb0 j j j)) trivial (tT j j j j (af.2 hc22) (oBi j j j j)<|t j j (dn j j (af.2 hc22) j)<|sD (by kernel_rfl))
     ·cases II
      exact tF j j j j (byF af hc22) j<|tF j j j j (byF af hc22) j<|tF j j j j (byF af hc22) j<|tF j j j j (byF af hc22) j<|tF j j j j (byF af hc22) j<|tF j j j j (byF af hc22) j<|tF j j j j (byF af hc22) j<|tF j j j j (byF af hc22) j<|tF j j j j (byF af hc22) j<|tF j j j j (byF af hc22) j<|sS (dF j j j (byF af hc22) j) trivial (tF j j j j (byF af hc22) j<|t j j (gY j j (byF af hc22) j)<|sD (by kernel_rfl))
    ·refine us<|gc h j iR (fun Dj h=>?_) fun Dj h=>?_
     ·refine Go.skip<|us<|gs<|Go.block<|?_
      obtain ⟨x45,V5,h⟩:=bs h
      obtain ⟨x49,Zj,h⟩:=bs h
      obtain ⟨x51,Rl,h⟩:=bs h
      obtain ⟨x52,Rk,h⟩:=bs h
      refine gd Q4 j j j j (mk [(0,H 0 0),(1,iv a_1),(2,iv b_2),(3,D 2 (.clo 61 [])),(8,iv xR),(9,iv nH)] [(0,Oe [Z (W 1 (eL 1 eI) ((jf.set nH.toNat x45).set ((w64 (nH - 1)).toNat) x49))])]) (t j j (oMv j j)<|t j j (oMv j j)<|t j j (oMv j j)<|t j j (oMv j j)<|t j j (oBi j j j j)<|t j j (oMv j j)<|t j j (oMv j j)<|t j j (oBi j j j j)<|t j j (vS j V5 kR j j j j)<|t j j (CU (cs:=[.im 0 _]) j F7 j j j j (jT V5) j j)<|t j j (oMv j j)<|t j j (oMv j j)<|t j j (vS j Zj kR j j j j)<|t j j (CU (cs:=[.im 0 _]) j F7 j j j j (jT Zj) j j)<|t j j (vS j Rl kR j j j j)<|sS (dN XJ j (MP (v':=x45) F7 j j j (fxI fx0) j j (jT Rl) j)) trivial (t j j (vS j Rk kR j j j j)<|sS (dN XJ j (MP (v':=x49) F7 j j j (fxI fx0) j j (jT Rk) j)) trivial (sD (by kernel_rfl))))<|Unw.blk<|us<|g0 j j (q (oMv j j)<|q (oBi j j j j)<|q (ah j j)<|nl)<|Unw.nil<|?_
      cases h
      exact ⟨j,(by kernel_rfl)⟩
     ·refine Go.exit<|ux<|Unw.nil<|?_
      cases h
      exact ⟨j,(by kernel_rfl)⟩
   ·rintro ⟨e,st⟩ hp
    obtain ⟨vk,rfl⟩:∃y,y=o:=⟨o,rfl⟩
    obtain ⟨he,hst⟩:=hp
    obtain rfl:e= .exit 2:=he
    refine Unw.ve<|Unw.blk<|us<|g2 Q4 j j hst (q (oMv j j)<|q (oBi j j j j)<|q (ah j j)<|nl)<|Unw.nil<|?_
    cases h
    exact ⟨j,(by kernel_rfl)⟩
  ·refine Go.exit<|ux<|Unw.nil<|?_
   cases h
   exact ⟨j,(fo YY j)⟩
 ·rintro ⟨e,st⟩ hp
  obtain ⟨r2,rfl⟩:∃y,y=o:=⟨o,rfl⟩
  obtain ⟨he,hfin⟩:=hp
  obtain rfl:e= .exit 0:=he
  cases h
  exact Unw.ve<|Unw.nil (Gp hfin)
theorem qL {bK:(List (List Int))} {a_1:Int} {b_2:Int} {r:(List (List Int))} (h:jK bK a_1 b_2 (fun b0 b1=>aO b0 b1)=some r):FX 136 [.ow 1 (List.map (eL 1 eI) bK),.im 2 false [I a_1],.im 2 false [I b_2],.im 2 false [.clo 61 []]] ([],[.ow 1 (List.map (eL 1 eI) r)]):=by
 unfold jK at h
 cases h
theorem pI {bK:(List (List Int))} {a_1:Int} {b_2:Int} {r:(Int×Int)} (h:iY bK a_1 b_2 (fun b0 b1=>aO b0 b1)=some r):FX 138 [.im 2 false [W 1 (eL 1 eI) bK],.im 2 false [I a_1],.im 2 false [I b_2],.im 2 false [.clo 61 []]] (B0 [(false,[.im 0 (I r.1)]),(false,[.im 0 (I r.2)])]):=by
 unfold iY at h
 cases h
theorem o9 {bK:(List (List Int))} {a_1:Int} {b_2:Int} {r:(List (List Int))} (h:iK bK a_1 b_2 (fun b0 b1=>aO b0 b1)=some r):FX 139 [.ow 1 (List.map (eL 1 eI) bK),.im 2 false [I a_1],.im 2 false [I b_2],.im 2 false [.clo 61 []]] ([],[.ow 1 (List.map (eL 1 eI) r)]):=by
 unfold iK at h
 cases h
theorem kZ {bK:(List (List Int))} {a_1:Int} {b_2:Int} {r:(Bool×(List (List Int)))} (h:fA bK a_1 b_2 (fun b0 b1=>aO b0 b1)=some r):FX 140 [.ow 1 (List.map (eL 1 eI) bK),.im 2 false [I a_1],.im 2 false [I b_2],.im 2 false [.clo 61 []]] ([(false,[.im 0 (V r.1)])],[.ow 1 (List.map (eL 1 eI) r.2)]):=by
 unfold fA at h
 cases h
theorem nO {bK:(List (List Int))} {a_1:Int} {b_2:Int} {zx:Int} {r:(Int×(List (List Int)))} (h:ik bK a_1 b_2 zx (fun b0 b1=>aO b0 b1)=some r):FX 141 [.ow 1 (List.map (eL 1 eI) bK),.im 2 false [I a_1],.im 2 false [I b_2],.im 2 false [I zx],.im 2 false [.clo 61 []]] ([(false,[.im 0 (I r.1)])],[.ow 1 (List.map (eL 1 eI) r.2)]):=by
 unfold ik at h
 cases h
theorem qm {bK:(List (List Int))} {a_1:Int} {b_2:Int} {zx:Int} {r:(Int×Bool×(List (List Int)))} (h:jw bK a_1 b_2 zx (fun b0 b1=>aO b0 b1)=some r):FX 142 [.ow 1 (List.map (eL 1 eI) bK),.im 2 false [I a_1],.im 2 false [I b_2],.im 2 false [I zx],.im 2 false [.clo 61 []]] ([(false,[.im 0 (I r.1)]),(false,[.im 0 (V r.2.1)])],[.ow 1 (List.map (eL 1 eI) r.2.2)]):=by
 unfold jw at h
 cases h
theorem oM {bK:(List (List Int))} {a_1:Int} {b_2:Int} {r:(List (List Int))} (h:iE bK a_1 b_2 (fun b0 b1=>aO b0 b1)=some r):FX 137 [.ow 1 (List.map (eL 1 eI) bK),.im 2 false [I a_1],.im 2 false [I b_2],.im 2 false [.clo 61 []]] ([],[.ow 1 (List.map (eL 1 eI) r)]):=by
 unfold iE at h
 cases h
theorem qo {self:((List (List Int))×Int×Int×Int×((List Int)→(List Int)→Option Int))→Option (List (List Int))} (ih:∀{bK:(List (List Int))} {a_1:Int} {b_2:Int} {kQ:Int} {r:(List (List Int))},self (bK,a_1,b_2,kQ,(fun b0 b1=>aO b0 b1))=some r→FX 102 [.ow 1 (List.map (eL 1 eI) bK),.im 2 false [I a_1],.im 2 false [I b_2],.im 2 false [I kQ],.im 2 false [.clo 61 []]] ([],[.ow 1 (List.map (eL 1 eI) r)])) {bK:(List (List Int))} {a_1:Int} {b_2:Int} {kQ:Int} {r:(List (List Int))} (h:bJ self bK a_1 b_2 kQ (fun b0 b1=>aO b0 b1)=some r):FX 102 [.ow 1 (List.map (eL 1 eI) bK),.im 2 false [I a_1],.im 2 false [I b_2],.im 2 false [I kQ],.im 2 false [.clo 61 []]] ([],[.ow 1 (List.map (eL 1 eI) r)]):=by
 unfold bJ at h
 refine lC (A:=[(0,H 0 0),(1,D 2 (I a_1)),(2,D 2 (I b_2)),(3,D 2 (I kQ)),(4,D 2 (.clo 61 []))]) (B:=[(0,Oe [Z (W 1 (eL 1 eI) bK)]),(1,none),(2,none),(3,none),(4,none)]) (nt:=148) rfl rfl Try.func102 rfl rfl rfl rfl ?_
 refine gs<|g0 j j (q (ah j j)<|nl)<|us<|gs<|g0 j j (q (ah j j)<|nl)<|us<|Go.block<|?_
 obtain ⟨o,hl,h⟩:=bs h
 refine gl TR j _ (fun (s:(Int×Int×Int×Bool×Bool×(List (List Int))))=>match s with | (bg,bu,mD,aB,au,oI)=>mk [(0,H 0 0),(1,iv bg),(2,iv bu),(3,iv mD),(4,D 2 (.clo 61 [])),(10,bv aB),(11,bv au)] [(0,Oe [Z (W 1 (eL 1 eI) oI)])]) (fun (r2:(List (List Int))) (p:Ex×St)=>p.1= .ret∧fin Try.prog cfg 102 Try.f102 [.ow 1 (List.map (eL 1 eI) bK),.im 2 false [I a_1],.im 2 false [I b_2],.im 2 false [I kQ],.im 2 false [.clo 61 []]] p.2=some ([],[.ow 1 (List.map (eL 1 eI) r2)])) hl (by kernel_rfl) ?_ ?_ ?_
 ·intro o p hp e
  exact nomatch (hp.1.symm.trans e)
 ·rintro ⟨bg,bu,mD,aB,au,oI⟩ o h
  unfold gm at h
  dsimp only at h
  refine Go.block<|gs<|g0 j j (q (oMv j j)<|q (oMv j j)<|q (oBi j j j j)<|q (ah j j)<|nl)<|us<|gs<|gs<|g0 j j (q (oMv j j)<|q (oBi j j j j)<|nl)<|us<|gc h j af (fun hc34 h=>?_) fun hc34 h=>?_
  ·refine gs<|?_
   obtain ⟨x30,Gg,h⟩:=bs h
   refine g0 j j (q (oMv j j)<|q (oMv j j)<|q (oMv j j)<|q (oMv j j)<|q (oCa (xs:=[.v false [.own 0 0 0],.v false [.im 0 _],.v false [.im 0 _],.v false [.im 2 _]]) (vs:=[]) (v:=.tup []) (oL Gg) (.inl j) j EZ j (ppC j (ppC j (ppC j (ppC j pp0)))) j j (pbO j j j j pb0) j j j)<|nl)<|us<|Go.ret (Unw.ret ?_)
   cases h
   exact ⟨j,(fo Ud j)⟩
  ·refine Go.skip<|us<|gs<|gs<|g0 j j (q (oMv j j)<|q (oBi j j j j)<|nl)<|us<|gc h j iEq (fun aaS h=>?_) fun aaS h=>?_
   ·refine gs<|?_
    obtain ⟨x37,aaT,h⟩:=bs h
    refine g0 j j (q (oMv j j)<|q (oMv j j)<|q (oMv j j)<|q (oMv j j)<|q (oCa (xs:=[.v false [.own 0 0 0],.v false [.im 0 _],.v false [.im 0 _],.v false [.im 2 _]]) (vs:=[]) (v:=.tup []) (qL aaT) (.inl j) j E5 j (ppC j (ppC j (ppC j (ppC j pp0)))) j j (pbO j j j j pb0) j j j)<|nl)<|us<|Go.ret (Unw.ret ?_)
    cases h
    exact ⟨j,(fo Ud j)⟩
   ·refine Go.skip<|us<|gs<|gs<|g0 j j (q (oMv j j)<|q (oUn j j j)<|nl)<|us<|Go.join (fun st=>∃aQ,∃lX,cZ self bg bu (fun b0 b1=>aO b0 b1) aB au aQ lX=some o∧st.norm ([0,1,2,3,4,10,11,12],[0])=mk [(0,H 0 0),(1,iv bg),(2,iv bu),(3,iv aQ),(4,D 2 (.clo 61 [])),(10,bv aB),(11,bv au),(12,iv (w64 (bu - bg)))] [(0,Oe [Z (W 1 (eL 1 eI) lX)])]) ?_ ?_
    ·rintro st ⟨aQ,lX,h,hst⟩
     unfold cZ at h
     refine us<|gs<|?_
     obtain ⟨x52,Rk,h⟩:=bs h
     refine g2 TR j j hst (q (oMv j j)<|q (oMv j j)<|q (oMv j j)<|q (oMv j j)<|q (oCa (xs:=[.v false [.own 0 0 0],.v false [.im 0 _],.v false [.im 0 _],.v false [.im 2 _]]) (vs:=[(false,[.im 0 _]),(false,[.im 0 _])]) (v:=.tup [(false,[.im 0 _]),(false,[.im 0 _])]) (pI Rk) (.inl j) j Fa j (ppC j (ppC j (ppC j (ppC j pp0)))) j j pb0 j j j)<|q (EN j j)<|q (oEx j j j)<|q (oEx j j j)<|q (ah j j)<|q (ah j j)<|nl)<|us<|gs<|gs<|g0 j j (q (oMv j j)<|q (oBi j j j j)<|nl)<|us<|Go.join (fun st=>∃bV,∃oH,∃gJ,cO self bg bu (fun b0 b1=>aO b0 b1) aQ aB au bV oH gJ=some o∧st.norm ([0,1,2,3,4,10,11,12,13,14],[0])=mk [(0,H 0 0),(1,iv bg),(2,iv bu),(3,iv aQ),(4,D 2 (.clo 61 [])),(10,bv aB),(11,bv au),(12,iv (w64 (bu - bg))),(13,iv bV),(14,iv oH)] [(0,Oe [Z (W 1 (eL 1 eI) gJ)])]) ?_ ?_
     ·rintro st ⟨bV,oH,gJ,h,hst⟩
      unfold cO at h
      refine us<|gs<|gs<|gX TR j j hst (mk [(0,H 0 0),(1,iv bg),(2,iv bu),(3,iv aQ),(4,D 2 (.clo 61 [])),(10,bv aB),(11,bv au),(12,iv (w64 (bu - bg))),(13,iv bV),(75,bv (aB&&(au&&(oH==1))))] [(0,Oe [Z (W 1 (eL 1 eI) gJ)])]) ?_ ?_
      ·refine xq (oMv j j)<|xq (oMv j j)<|?_
       by_cases hc38:aB=true
       ·refine xqT j j (iR.2 hc38) (oMv j j)<|xq (dn j j (iR.2 hc38) j)<|xq (oMv j j)<|?_
        by_cases hc39:au=true
        ·exact xqT rfl rfl (iR.2 hc39) (oMv rfl rfl)<|xqT rfl rfl (iR.2 hc39) (oBi rfl rfl rfl rfl)<|xq (dn rfl rfl (iR.2 hc39) rfl)<|xn (Eq.trans (b:=(fun oN:Bool=>mk [(0,H 0 0),(1,iv bg),(2,iv bu),(3,iv aQ),(4,D 2 (.clo 61 [])),(10,bv aB),(11,bv au),(12,iv (w64 (bu - bg))),(13,iv bV),(75,bv oN)] [(0,Oe [Z (W 1 (eL 1 eI) gJ)])]) (oH==1)) (by kernel_rfl) (congrArg (fun oN:Bool=>mk [(0,H 0 0),(1,iv bg),(2,iv bu),(3,iv aQ),(4,D 2 (.clo 61 [])),(10,bv aB),(11,bv au),(12,iv (w64 (bu - bg))),(13,iv bV),(75,bv oN)] [(0,Oe [Z (W 1 (eL 1 eI) gJ)])]) (by first | rfl | (simp [(iR.2 hc38),(iR.2 hc39)];done) | (simp [(iR.2 hc38),(iR.2 hc39)];omega) | (have q0:=(iR.2 hc38);have q1:=(iR.2 hc39);simp_all))))
        ·exact az rfl rfl (byF iR hc39) rfl<|az rfl rfl (byF iR hc39) rfl<|xq (gY rfl rfl (byF iR hc39) rfl)<|xn (Eq.trans (b:=(fun oN:Bool=>mk [(0,H 0 0),(1,iv bg),(2,iv bu),(3,iv aQ),(4,D 2 (.clo 61 [])),(10,bv aB),(11,bv au),(12,iv (w64 (bu - bg))),(13,iv bV),(75,bv oN)] [(0,Oe [Z (W 1 (eL 1 eI) gJ)])]) false) (by kernel_rfl) (congrArg (fun oN:Bool=>mk [(0,H 0 0),(1,iv bg),(2,iv bu),(3,iv aQ),(4,D 2 (.clo 61 [])),(10,bv aB),(11,bv au),(12,iv (w64 (bu - bg))),(13,iv bV),(75,bv oN)] [(0,Oe [Z (W 1 (eL 1 eI) gJ)])]) (by first | rfl | (simp [(iR.2 hc38),(byF iR hc39)];done) | (simp [(iR.2 hc38),(byF iR hc39)];omega) | (have q0:=(iR.2 hc38);have q1:=(byF iR hc39);simp_all))))
       ·exact az rfl rfl (byF iR hc38) rfl<|xq (gY rfl rfl (byF iR hc38) rfl)<|xq (oMv rfl rfl)<|az rfl rfl rfl rfl<|az rfl rfl rfl rfl<|xq (gY rfl rfl rfl rfl)<|xn (Eq.trans (b:=(fun oN:Bool=>mk [(0,H 0 0),(1,iv bg),(2,iv bu),(3,iv aQ),(4,D 2 (.clo 61 [])),(10,bv aB),(11,bv au),(12,iv (w64 (bu - bg))),(13,iv bV),(75,bv oN)] [(0,Oe [Z (W 1 (eL 1 eI) gJ)])]) false) (by kernel_rfl) (congrArg (fun oN:Bool=>mk [(0,H 0 0),(1,iv bg),(2,iv bu),(3,iv aQ),(4,D 2 (.clo 61 [])),(10,bv aB),(11,bv au),(12,iv (w64 (bu - bg))),(13,iv bV),(75,bv oN)] [(0,Oe [Z (W 1 (eL 1 eI) gJ)])]) (by first | rfl | (simp [(byF iR hc38)];done) | (simp [(byF iR hc38)];omega))))
      ·refine us<|Go.join (fun st=>∃kP,cu self bg bu (fun b0 b1=>aO b0 b1) aQ bV aB au kP=some o∧st.norm ([0,1,2,3,4,10,11,12,13],[0])=mk [(0,H 0 0),(1,iv bg),(2,iv bu),(3,iv aQ),(4,D 2 (.clo 61 [])),(10,bv aB),(11,bv au),(12,iv (w64 (bu - bg))),(13,iv bV)] [(0,Oe [Z (W 1 (eL 1 eI) kP)])]) ?_ ?_
       ·rintro st ⟨kP,h,hst⟩
        unfold cu at h
        refine us<|gs<|gs<|?_
        obtain ⟨Io,IJ,h⟩:=bs h
        refine gd TR j j j hst (mk [(0,H 0 0),(1,iv bg),(2,iv bu),(3,iv aQ),(4,D 2 (.clo 61 [])),(10,bv aB),(11,bv au),(12,iv (w64 (bu - bg))),(13,iv bV),(97,bv Io)] [(0,Oe [Z (W 1 (eL 1 eI) kP)])]) ?_ ?_
        ·refine t j j (oMv j j)<|t j j (oBi j j j j)<|t j j (oMv j j)<|?_
         refine ic IJ (fun rO IJ=>?_) fun rO IJ=>?_
         ·obtain ⟨x88,Zk,IJ⟩:=bs IJ
          obtain ⟨x92,V4,IJ⟩:=bs IJ
          obtain ⟨x94,XV,IJ⟩:=bs IJ
          cases IJ
          exact tT j j j j (af.2 rO) (oMv j j)<|tT j j j j (af.2 rO) (oMv j j)<|tT j j j j (af.2 rO) (oMv j j)<|tT j j j j (af.2 rO) (oBi j j j j)<|tT j j j j (af.2 rO) (vS j Zk kR j j j j)<|tT j j j j (af.2 rO) (CU (cs:=[.im 0 _]) j F7 j j j j (jT Zk) j j)<|tT j j j j (af.2 rO) (oMv j j)<|tT j j j j (af.2 rO) (oMv j j)<|tT j j j j (af.2 rO) (vS j V4 kR j j j j)<|tT j j j j (af.2 rO) (CU (cs:=[.im 0 _]) j F7 j j j j (jT V4) j j)<|sS (dT aan j j j (af.2 rO) (oCa (xs:=[.v false [.im 0 _],.v false [.im 0 _]]) (vs:=[(false,[.im 0 _])]) (v:=.v false [.im 0 _]) (rZ XV) (.inr ⟨_,_,j,j⟩) j Iz j (ppC j (ppC j pp0)) j j pb0 j j j)) trivial (tT j j j j (af.2 rO) (oBi j j j j)<|tT j j j j (af.2 rO) (oUn j j j)<|t j j (dn j j (af.2 rO) j)<|sD (by kernel_rfl))
         ·cases IJ
          exact tF j j j j (byF af rO) j<|tF j j j j (byF af rO) j<|tF j j j j (byF af rO) j<|tF j j j j (byF af rO) j<|tF j j j j (byF af rO) j<|tF j j j j (byF af rO) j<|tF j j j j (byF af rO) j<|tF j j j j (byF af rO) j<|tF j j j j (byF af rO) j<|tF j j j j (byF af rO) j<|sS (dF j j j (byF af rO) j) trivial (tF j j j j (byF af rO) j<|tF j j j j (byF af rO) j<|t j j (gY j j (byF af rO) j)<|sD (by kernel_rfl))
        ·refine us<|gc h j iR (fun aaU h=>?_) fun aaU h=>?_
         ·refine gs<|?_
          obtain ⟨x103,Zl,h⟩:=bs h
          refine g0 j j (q (oMv j j)<|q (oMv j j)<|q (oMv j j)<|q (oMv j j)<|q (oMv j j)<|q (oCa (xs:=[.v false [.own 0 0 0],.v false [.im 0 _],.v false [.im 0 _],.v false [.im 0 _],.v false [.im 2 _]]) (vs:=[(false,[.im 0 _])]) (v:=.v false [.im 0 _]) (nO Zl) (.inl j) j Df j (ppC j (ppC j (ppC j (ppC j (ppC j pp0))))) j j (pbO j j j j pb0) j j j)<|q (ah j j)<|nl)<|us<|gs<|g1 j j (mk [(0,H 0 0),(2,iv bu),(3,iv aQ),(4,D 2 (.clo 61 [])),(10,bv aB),(11,bv au),(15,iv x103.1)] [(0,Oe [Z (W 1 (eL 1 eI) x103.2)])]) (q (oMv j j)<|q (ah j j)<|nl)<|us<|Go.exit<|ux<|Unw.ve<|Unw.nil<|?_
          cases h
          exact ⟨j,(by kernel_rfl)⟩
         ·refine Go.skip<|us<|gs<|?_
          obtain ⟨dH,Um,h⟩:=bs h
          refine g0 j j (q (oMv j j)<|q (oMv j j)<|q (oMv j j)<|q (oMv j j)<|q (oMv j j)<|q (oCa (xs:=[.v false [.own 0 0 0],.v false [.im 0 _],.v false [.im 0 _],.v false [.im 0 _],.v false [.im 2 _]]) (vs:=[(false,[.im 0 _]),(false,[.im 0 _])]) (v:=.tup [(false,[.im 0 _]),(false,[.im 0 _])]) (qm Um) (.inl j) j Dh j (ppC j (ppC j (ppC j (ppC j (ppC j pp0))))) j j (pbO j j j j pb0) j j j)<|q (EN j j)<|q (oEx j j j)<|q (oEx j j j)<|q (ah j j)<|q (ah j j)<|nl)<|us<|gs<|g1 j j (mk [(0,H 0 0),(1,iv bg),(2,iv bu),(3,iv aQ),(4,D 2 (.clo 61 [])),(12,iv (w64 (bu - bg))),(16,iv dH.1),(17,bv dH.2.1)] [(0,Oe [Z (W 1 (eL 1 eI) dH.2.2)])]) (q (oMv j j)<|q (ah j j)<|nl)<|us<|gs<|g0 j j (q (oMv j j)<|q (oMv j j)<|q (oBi j j j j)<|q (oMv j j)<|q (oMv j j)<|q (oBi j j j j)<|q (ah j j)<|q (ah j j)<|nl)<|us<|gs<|?_
          obtain ⟨TQ,Zm,h⟩:=bs h
          refine g0 j j (q (oMv j j)<|q (Yx j Zm j j)<|q (ah j j)<|nl)<|us<|gs<|g0 j j (q (oMv j j)<|q (oMv j j)<|q (oBi j j j j)<|nl)<|us<|gc h j af (fun aaV h=>?_) fun aaV h=>?_
          ·refine gs<|g0 j j (q (oMv j j)<|q (oMv j j)<|q (oBi j j j j)<|q (ah j j)<|nl)<|us<|gs<|?_
           obtain ⟨XG,Zn,h⟩:=bs h
           refine g0 j j (q (oMv j j)<|q (oMv j j)<|q (oMv j j)<|q (oMv j j)<|q (oMv j j)<|q (oCa (xs:=[.v false [.own 0 0 0],.v false [.im 0 _],.v false [.im 0 _],.v false [.im 0 _],.v false [.im 2 _]]) (vs:=[]) (v:=.tup []) (ih Zn) (.inl j) j qj j (ppC j (ppC j (ppC j (ppC j (ppC j pp0))))) j j (pbO j j j j pb0) j j j)<|nl)<|us<|g1 j j (mk [(0,H 0 0),(2,iv bu),(3,iv aQ),(4,D 2 (.clo 61 [])),(10,bv (decide ((w64 (dH.1 - bg))≥TQ))),(11,bv dH.2.1),(16,iv dH.1)] [(0,Oe [Z (W 1 (eL 1 eI) XG)])]) (q (oMv j j)<|q (oBi j j j j)<|q (ah j j)<|nl)<|Unw.blk<|Unw.nil<|?_
           cases h
           exact ⟨j,(by kernel_rfl)⟩
          ·refine gs<|g0 j j (q (oMv j j)<|q (oMv j j)<|q (oBi j j j j)<|q (ah j j)<|nl)<|us<|gs<|?_
           obtain ⟨XH,Zo,h⟩:=bs h
           refine g0 j j (q (oMv j j)<|q (oMv j j)<|q (oBi j j j j)<|q (oMv j j)<|q (oMv j j)<|q (oMv j j)<|q (oCa (xs:=[.v false [.own 0 0 0],.v false [.im 0 _],.v false [.im 0 _],.v false [.im 0 _],.v false [.im 2 _]]) (vs:=[]) (v:=.tup []) (ih Zo) (.inl j) j qj j (ppC j (ppC j (ppC j (ppC j (ppC j pp0))))) j j (pbO j j j j pb0) j j j)<|nl)<|us<|g1 j j (mk [(0,H 0 0),(1,iv bg),(3,iv aQ),(4,D 2 (.clo 61 [])),(10,bv (decide ((w64 (bu - dH.1))≥TQ))),(11,bv dH.2.1),(16,iv dH.1)] [(0,Oe [Z (W 1 (eL 1 eI) XH)])]) (q (oMv j j)<|q (ah j j)<|nl)<|Unw.blk<|Unw.nil<|?_
           cases h
           exact ⟨j,(by kernel_rfl)⟩
       ·intro K46
        refine gc h j (Vh iR (Vh iR iEq)) (fun hc47 h=>?_) fun hc47 h=>?_
        ·refine gs<|?_
         obtain ⟨x80,aaW,h⟩:=bs h
         refine g0 j j (q (oMv j j)<|q (oMv j j)<|q (oMv j j)<|q (oMv j j)<|q (oCa (xs:=[.v false [.own 0 0 0],.v false [.im 0 _],.v false [.im 0 _],.v false [.im 2 _]]) (vs:=[(false,[.im 0 _])]) (v:=.v false [.im 0 _]) (kZ aaW) (.inl j) j Fe j (ppC j (ppC j (ppC j (ppC j pp0)))) j j (pbO j j j j pb0) j j j)<|nl)<|us<|gc h j iR (fun aaX h=>?_) fun aaX h=>?_
         ·refine Go.ret (Unw.ret ?_)
          cases h
          exact ⟨j,(fo Ud j)⟩
         ·exact Go.skip<|K46 _ ⟨x80.2,h,(by kernel_rfl)⟩
        ·exact Go.skip<|K46 _ ⟨gJ,h,(by kernel_rfl)⟩
     ·intro K49
      refine gc h j iEq (fun aaY h=>?_) fun aaY h=>?_
      ·refine gs<|?_
       obtain ⟨x61,OL,h⟩:=bs h
       exact g0 j j (q (oMv j j)<|q (oMv j j)<|q (oMv j j)<|q (oMv j j)<|q (oCa (xs:=[.v false [.own 0 0 0],.v false [.im 0 _],.v false [.im 0 _],.v false [.im 2 _]]) (vs:=[]) (v:=.tup []) (o9 OL) (.inl j) j Fb j (ppC j (ppC j (ppC j (ppC j pp0)))) j j (pbO j j j j pb0) j j j)<|nl)<|us<|gs<|g1 j j (mk [(0,H 0 0),(1,iv bg),(2,iv bu),(3,iv aQ),(4,D 2 (.clo 61 [])),(10,bv aB),(11,bv au),(12,iv (w64 (bu - bg))),(13,iv x52.1)] [(0,Oe [Z (W 1 (eL 1 eI) x61)])]) (q (oMv j j)<|q (oBi j j j j)<|q (oMv j j)<|q (oMv j j)<|q (oBi j j j j)<|q (oBi j j j j)<|q (ah j j)<|nl)<|us<|g0 j j (q (ah j j)<|nl)<|K49 _ ⟨(w64 ((w64 (bu - 1)) - (w64 (x52.1 - bg)))),1,x61,h,(by kernel_rfl)⟩
      ·exact Go.skip<|K49 _ ⟨x52.1,x52.2,lX,h,(by kernel_rfl)⟩
    ·intro K51
     by_cases V6:aB=true
     ·rw [if_pos V6] at h
      exact gF j (nF (iR.2 V6))<|Go.skip<|K51 _ ⟨mD,oI,h,(by kernel_rfl)⟩
     ·rw [if_neg V6] at h
      refine gT j (nT (byF iR V6))<|gs<|?_
      obtain ⟨x44,KX,h⟩:=bs h
      exact g0 j j (q (oMv j j)<|q (oMv j j)<|q (oMv j j)<|q (oMv j j)<|q (oCa (xs:=[.v false [.own 0 0 0],.v false [.im 0 _],.v false [.im 0 _],.v false [.im 2 _]]) (vs:=[]) (v:=.tup []) (oM KX) (.inl j) j E8 j (ppC j (ppC j (ppC j (ppC j pp0)))) j j (pbO j j j j pb0) j j j)<|nl)<|us<|g1 j j (mk [(0,H 0 0),(1,iv bg),(2,iv bu),(3,iv mD),(4,D 2 (.clo 61 [])),(10,bv aB),(11,bv au),(12,iv (w64 (bu - bg)))] [(0,Oe [Z (W 1 (eL 1 eI) x44)])]) (q (oMv j j)<|q (oBi j j j j)<|q (ah j j)<|nl)<|K51 _ ⟨(w64 (mD - 1)),x44,h,(by kernel_rfl)⟩
 ·rintro ⟨e,st⟩ hp
  obtain ⟨r2,rfl⟩:∃y,y=o:=⟨o,rfl⟩
  obtain ⟨he,hfin⟩:=hp
  obtain rfl:e= .ret:=he
  cases h
  exact Unw.ret (vg hfin)
theorem rP {bK:(List (List Int))} {a_1:Int} {b_2:Int} {kQ:Int} {r:(List (List Int))} (h:iD bK a_1 b_2 kQ (fun b0 b1=>aO b0 b1)=some r):FX 102 [.ow 1 (List.map (eL 1 eI) bK),.im 2 false [I a_1],.im 2 false [I b_2],.im 2 false [I kQ],.im 2 false [.clo 61 []]] ([],[.ow 1 (List.map (eL 1 eI) r)]):=by
 unfold iD at h
 obtain ⟨n,hn⟩:=yu h
 clear h
 induction n generalizing bK a_1 b_2 kQ r with
 | zero=>cases hn
 | succ n ihn=>exact qo (self:=um _ n) (fun h=>ihn h) hn
theorem rQ {x_0:(List (List Int))} {r:(List (List Int))} (h:dL x_0 (fun b0 b1=>aO b0 b1)=some r):FX 60 [.ow 1 (List.map (eL 1 eI) x_0),.im 2 false [.clo 61 []]] ([],[.ow 1 (List.map (eL 1 eI) r)]):=by
 unfold dL at h
 refine lC (A:=[(0,H 0 0),(1,D 2 (.clo 61 []))]) (B:=[(0,Oe [Z (W 1 (eL 1 eI) x_0)]),(1,none)]) (nt:=14) rfl rfl Try.func60 rfl rfl rfl rfl ?_
 refine gs<|g0 j j (q (oMv j j)<|q (FY j j vz j j j (fun e=>nomatch e))<|q (ah j j)<|nl)<|us<|?_
 obtain ⟨x11,Ej,h⟩:=bs h
 obtain ⟨x13,Fh,h⟩:=bs h
 refine g0 j j (q (oMv j j)<|q (oMv j j)<|q (oMv j j)<|q (Oh j uF3 Zg j)<|q (oCa (xs:=[.v false [.im 0 _]]) (vs:=[(false,[.im 0 _])]) (v:=.v false [.im 0 _]) (OO Ej) (.inl j) j Q8 j (ppC j pp0) j j pb0 j j j)<|q (oMv j j)<|q (oCa (xs:=[.v false [.own 0 0 0],.v false [.im 0 _],.v false [.im 0 _],.v false [.im 0 _],.v false [.im 2 _]]) (vs:=[]) (v:=.tup []) (rP Fh) (.inl j) j qj j (ppC j (ppC j (ppC j (ppC j (ppC j pp0))))) j j (pbO j j j j pb0) j j j)<|nl)<|Unw.nil<|?_
 cases h
 exact Gp (fo aaH j)
theorem Dt {aC:(List ak)} {fZ:Bool} {r:((List (List Int))×Int)} (h:jg aC fZ=some r):FX 19 [.im 2 false [W 9 ae aC],.im 2 false [V fZ]] (B0 [(false,[.ow 0 1 (List.map (eL 1 eI) r.1)]),(false,[.im 0 (I r.2)])]):=by
 unfold jg at h
 refine gn 88 Try.func19 rfl ?_
 refine gs<|g0 j j (q (Az j j MW)<|q (ah j j)<|nl)<|us<|gs<|gs<|?_
 obtain ⟨x16,hx16,h⟩:=bs h
 refine g0 j j (q (oMv j j)<|q (oCa (xs:=[.v false [.im 2 _]]) (vs:=[(false,[.im 0 _])]) (v:=.v false [.im 0 _]) (mJ hx16) (.inl j) j Gv j (ppC j pp0) j j pb0 j j j)<|q (oUn j j j)<|nl)<|us<|?_
 by_cases hc1:x16=true
 ·rw [if_pos hc1] at h
  refine gF j (nF (iR.2 hc1))<|Go.skip<|us<|gs<|?_
  obtain ⟨x21,Gf,h⟩:=bs h
  refine gd c19 j j j j (mk [(0,D 2 (W 9 ae aC)),(1,bv fZ),(6,H 6 0),(7,H 7 0)] [(6,Oc [Z (W 1 (eL 1 eI) ([]:List (List Int)))]),(7,Oc [Z (W 1 eB x21)])]) (t j j (oMv j j)<|t j j (qR j j y5 j)<|sF (dN z19 j (oBS (es:=List.map (eL 1 eI) ([]:List (List Int))) j kR j pt0 (gZ j))) trivial (sF (dN z19 j (oMk (en:=eB) j Gf j OH j j (fxI fx0) j (fK (L:=[_]) j fun _=>j))) trivial (sS (dN z19 j (kX j j j j j)) trivial (sS (dN z19 j (kX j j j j j)) trivial (sD (by kernel_rfl)))) (sS (dN z19 j (kX j j j j j)) trivial (sS (dN z19 j (oMk (en:=eB) j Gf j OH j j (fxI fx0) j (fK (L:=[_]) j fun _=>j))) trivial (sS (dN z19 j (kX j j j j j)) trivial (sD (by kernel_rfl)))))) (sS (dN z19 j (oMk (en:=eB) j Gf j OH j j (fxI fx0) j (fK (L:=[_]) j fun _=>j))) trivial (sS (dN z19 j (oBS (es:=List.map (eL 1 eI) ([]:List (List Int))) j kR j pt0 (gZ j))) trivial (sS (dN z19 j (kX j j j j j)) trivial (sS (dN z19 j (kX j j j j j)) trivial (sD (by kernel_rfl)))))))<|us<|gs<|gs<|g0 j j (q (oMv j j)<|q (qR j j y5 j)<|q (ah j j)<|nl)<|us<|Go.block<|?_
  obtain ⟨o,hl,h⟩:=bs h
  refine gl c19 j _ (fun (s:(Int×(List (List Int))×(List Bool)))=>match s with | (gK,gQ,bY)=>mk [(0,D 2 (W 9 ae aC)),(1,bv fZ),(6,H 6 0),(7,H 7 0),(8,iv gK)] [(6,Oc [Z (W 1 (eL 1 eI) gQ)]),(7,Oc [Z (W 1 eB bY)])]) (fun (xN:(List (List Int))) (p:Ex×St)=>p.1= .exit 0∧p.2.norm ([6],[6])=mk [(6,H 6 0)] [(6,Oc [Z (W 1 (eL 1 eI) xN)])]) hl (by kernel_rfl) ?_ ?_ ?_
  ·intro o p hp e
   exact nomatch (hp.1.symm.trans e)
  ·rintro ⟨gK,gQ,bY⟩ o h
   unfold iU at h
   dsimp only at h
   refine gs<|gs<|g0 j j (q (oMv j j)<|q (oBi j j j j)<|nl)<|us<|gc h j af (fun aaZ h=>?_) fun aaZ h=>?_
   ·refine Go.skip<|us<|gs<|Go.block<|gs<|g0 j j (q (ah j j)<|q (ah j j)<|q (ah j j)<|nl)<|us<|gs<|gs<|g0 j j (q (oMv j j)<|q (qR j j y5 j)<|q (oMv j j)<|nl)<|us<|Go.block<|?_
    obtain ⟨o,hl,h⟩:=bs h
    refine gl c19 j _ (fun (s:(Int×Int×Int×Int))=>match s with | (Iq,Ee,xM,eP)=>mk [(0,D 2 (W 9 ae aC)),(1,bv fZ),(6,H 6 0),(7,H 7 0),(8,iv gK),(9,iv Iq),(10,iv Ee),(11,iv xM),(29,iv (aC.length:Int)),(30,iv eP)] [(6,Oc [Z (W 1 (eL 1 eI) gQ)]),(7,Oc [Z (W 1 eB bY)])]) (fun (o:(Int×Int)) (p:Ex×St)=>match o with | (lN,kH)=>p.1= .exit 2∧p.2.norm ([0,1,6,7,8,9,10],[6,7])=mk [(0,D 2 (W 9 ae aC)),(1,bv fZ),(6,H 6 0),(7,H 7 0),(8,iv gK),(9,iv lN),(10,iv kH)] [(6,Oc [Z (W 1 (eL 1 eI) gQ)]),(7,Oc [Z (W 1 eB bY)])]) hl (by kernel_rfl) ?_ ?_ ?_
    ·intro o p hp e
     obtain ⟨lN,kH⟩:=o
     exact nomatch (hp.1.symm.trans e)
    ·rintro ⟨Iq,Ee,xM,eP⟩ o h
     unfold gB at h
     dsimp only at h
     refine gs<|g0 j j (q (oBi j j j j)<|nl)<|us<|gs<|gc h j af (fun aa0 h=>?_) fun aa0 h=>?_
     ·refine Go.skip<|us<|gs<|Go.block<|gs<|g0 j j (q (oMv j j)<|q (ah j j)<|nl)<|us<|gs<|g0 j j (q (oMv j j)<|q (oBi j j j j)<|q (ah j j)<|nl)<|us<|Go.block<|?_
      obtain ⟨o,hl,h⟩:=bs h
      refine gl c19 j _ (fun (s:(Int×Int×Int×Int))=>match s with | (kD,ku,dA,gu)=>mk [(0,D 2 (W 9 ae aC)),(1,bv fZ),(6,H 6 0),(7,H 7 0),(8,iv gK),(9,iv kD),(10,iv ku),(11,iv dA),(12,iv eP),(13,iv gu),(29,iv (aC.length:Int)),(30,iv eP)] [(6,Oc [Z (W 1 (eL 1 eI) gQ)]),(7,Oc [Z (W 1 eB bY)])]) (fun (o:(Int×Int×Int)) (p:Ex×St)=>match o with | (yY,xg,oJ)=>p.1= .exit 4∧p.2.norm ([0,1,6,7,8,9,10,11,29,30],[6,7])=mk [(0,D 2 (W 9 ae aC)),(1,bv fZ),(6,H 6 0),(7,H 7 0),(8,iv gK),(9,iv yY),(10,iv xg),(11,iv oJ),(29,iv (aC.length:Int)),(30,iv eP)] [(6,Oc [Z (W 1 (eL 1 eI) gQ)]),(7,Oc [Z (W 1 eB bY)])]) hl (by kernel_rfl) ?_ ?_ ?_
      ·intro o p hp e
       obtain ⟨yY,xg,oJ⟩:=o
       exact nomatch (hp.1.symm.trans e)
      ·rintro ⟨kD,ku,dA,gu⟩ o h
       unfold dh at h
       dsimp only at h
       refine gs<|gs<|?_
       obtain ⟨Ip,IK,h⟩:=bs h
       refine gX c19 j j j (mk [(0,D 2 (W 9 ae aC)),(1,bv fZ),(6,H 6 0),(7,H 7 0),(8,iv gK),(9,iv kD),(10,iv ku),(11,iv dA),(12,iv eP),(13,iv gu),(29,iv (aC.length:Int)),(30,iv eP),(45,bv Ip)] [(6,Oc [Z (W 1 (eL 1 eI) gQ)]),(7,Oc [Z (W 1 eB bY)])]) ?_ ?_
       ·refine xq (oMv j j)<|xq (oMv j j)<|xq (qR j j y5 j)<|xq (oBi j j j j)<|xq (oMv j j)<|?_
        refine ic IK (fun hc96 IK=>?_) fun hc96 IK=>?_
        ·obtain ⟨x42,Zp,IK⟩:=bs IK
         cases IK
         exact xqT j j (af.2 hc96) (oMv j j)<|xqT j j (af.2 hc96) (oMv j j)<|xqT j j (af.2 hc96) (vS j Zp OH j j j j)<|xqT j j (af.2 hc96) (CU (cs:=[.im 0 _]) j tF4 j j j j (jT Zp) j j)<|xqT j j (af.2 hc96) (oUn j j j)<|xq (dn j j (af.2 hc96) j)<|xn
        ·cases IK
         exact az j j (byF af hc96) j<|az j j (byF af hc96) j<|az j j (byF af hc96) j<|az j j (byF af hc96) j<|az j j (byF af hc96) j<|xq (gY j j (byF af hc96) j)<|xn
       ·refine us<|gc h j iR (fun aa1 h=>?_) fun aa1 h=>?_
        ·refine Go.skip<|us<|gs<|Go.join (fun st=>∃Ed,∃AU,∃ru,eF gu Ed AU ru=some o∧st.norm ([0,1,6,7,8,9,10,11,12,13,29,30],[6,7])=mk [(0,D 2 (W 9 ae aC)),(1,bv fZ),(6,H 6 0),(7,H 7 0),(8,iv gK),(9,iv Ed),(10,iv AU),(11,iv ru),(12,iv eP),(13,iv gu),(29,iv (aC.length:Int)),(30,iv eP)] [(6,Oc [Z (W 1 (eL 1 eI) gQ)]),(7,Oc [Z (W 1 eB bY)])]) ?_ ?_
         ·rintro st ⟨Ed,AU,ru,h,hst⟩
          unfold eF at h
          refine us<|g2 c19 j j hst (q (oMv j j)<|q (oBi j j j j)<|q (ah j j)<|nl)<|Unw.nil<|?_
          cases h
          exact ⟨j,(by kernel_rfl)⟩
         ·intro XW
          refine Go.block<|gs<|gs<|?_
          obtain ⟨x50,Zq,h⟩:=bs h
          refine g0 j j (q (oMv j j)<|q (oMv j j)<|q (vS j Zq OH j j j j)<|q (CU (cs:=[.im 0 _]) j tF4 j j j j (jT Zq) j j)<|nl)<|us<|gc h j iR (fun hc102 h=>?_) fun hc102 h=>?_
          ·exact Go.exit<|ux<|Unw.ve<|XW _ ⟨kD,ku,dA,h,(by kernel_rfl)⟩
          ·refine Go.skip<|us<|gs<|?_
           obtain ⟨x54,aa2,h⟩:=bs h
           obtain ⟨x58,aa3,h⟩:=bs h
           obtain ⟨x61,OL,h⟩:=bs h
           refine gd c19 j j j j (mk [(0,D 2 (W 9 ae aC)),(1,bv fZ),(6,H 6 0),(7,H 7 0),(8,iv gK),(9,iv kD),(10,iv ku),(11,iv dA),(12,iv eP),(13,iv gu),(14,iv x61),(29,iv (aC.length:Int)),(30,iv eP)] [(6,Oc [Z (W 1 (eL 1 eI) gQ)]),(7,Oc [Z (W 1 eB bY)])]) (t j j (oMv j j)<|t j j (oMv j j)<|t j j (qf j aa2 tC j j)<|t j j (oLd (cs:=[.im 2 _,.im 2 _,.im 2 _,.im 2 _,.im 2 _,.im 2 _,.im 2 _,.im 2 _,.im 2 _]) j lT j j)<|t j j (oMv j j)<|t j j (oMv j j)<|t j j (qf j aa3 tC j j)<|t j j (oLd (cs:=[.im 2 _,.im 2 _,.im 2 _,.im 2 _,.im 2 _,.im 2 _,.im 2 _,.im 2 _,.im 2 _]) j lT j j)<|t j j (oMv j j)<|sS (dN z19 j (oCa (xs:=[.v true [.im 2 _,.im 2 _,.im 2 _,.im 2 _,.im 2 _,.im 2 _,.im 2 _,.im 2 _,.im 2 _],.v true [.im 2 _,.im 2 _,.im 2 _,.im 2 _,.im 2 _,.im 2 _,.im 2 _,.im 2 _,.im 2 _],.v false [.im 0 _]]) (vs:=[(false,[.im 0 _])]) (v:=.v false [.im 0 _]) (rH OL) (.inl j) j rF j (ppC j (ppC j (ppC j pp0))) j j pb0 j j j)) trivial (sS (dN z19 j (ah j j)) trivial (sD (by kernel_rfl))))<|us<|gs<|gX c19 j j j (mk [(0,D 2 (W 9 ae aC)),(1,bv fZ),(6,H 6 0),(7,H 7 0),(8,iv gK),(9,iv kD),(10,iv ku),(11,iv dA),(12,iv eP),(13,iv gu),(14,iv x61),(29,iv (aC.length:Int)),(30,iv eP),(68,bv ((decide (kD<0))||(decide (x61<dA))))] [(6,Oc [Z (W 1 (eL 1 eI) gQ)]),(7,Oc [Z (W 1 eB bY)])]) ?_ ?_
           ·refine xq (oMv j j)<|xq (oBi j j j j)<|xq (oMv j j)<|?_
            by_cases zW:kD<0
            ·exact az rfl rfl (af.2 zW) rfl<|az rfl rfl (af.2 zW) rfl<|az rfl rfl (af.2 zW) rfl<|xq (dn rfl rfl (af.2 zW) rfl)<|xn (Eq.trans (b:=(fun xx:Bool=>mk [(0,D 2 (W 9 ae aC)),(1,bv fZ),(6,H 6 0),(7,H 7 0),(8,iv gK),(9,iv kD),(10,iv ku),(11,iv dA),(12,iv eP),(13,iv gu),(14,iv x61),(29,iv (aC.length:Int)),(30,iv eP),(68,bv xx)] [(6,Oc [Z (W 1 (eL 1 eI) gQ)]),(7,Oc [Z (W 1 eB bY)])]) true) (by kernel_rfl) (congrArg (fun xx:Bool=>mk [(0,D 2 (W 9 ae aC)),(1,bv fZ),(6,H 6 0),(7,H 7 0),(8,iv gK),(9,iv kD),(10,iv ku),(11,iv dA),(12,iv eP),(13,iv gu),(14,iv x61),(29,iv (aC.length:Int)),(30,iv eP),(68,bv xx)] [(6,Oc [Z (W 1 (eL 1 eI) gQ)]),(7,Oc [Z (W 1 eB bY)])]) (by first | rfl | (simp [(af.2 zW)];done) | (simp [(af.2 zW)];omega))))
            ·exact xqT rfl rfl (byF af zW) (oMv rfl rfl)<|xqT rfl rfl (byF af zW) (oMv rfl rfl)<|xqT rfl rfl (byF af zW) (oBi rfl rfl rfl rfl)<|xq (gY rfl rfl (byF af zW) rfl)<|xn (Eq.trans (b:=(fun xx:Bool=>mk [(0,D 2 (W 9 ae aC)),(1,bv fZ),(6,H 6 0),(7,H 7 0),(8,iv gK),(9,iv kD),(10,iv ku),(11,iv dA),(12,iv eP),(13,iv gu),(14,iv x61),(29,iv (aC.length:Int)),(30,iv eP),(68,bv xx)] [(6,Oc [Z (W 1 (eL 1 eI) gQ)]),(7,Oc [Z (W 1 eB bY)])]) (decide (x61<dA))) (by kernel_rfl) (congrArg (fun xx:Bool=>mk [(0,D 2 (W 9 ae aC)),(1,bv fZ),(6,H 6 0),(7,H 7 0),(8,iv gK),(9,iv kD),(10,iv ku),(11,iv dA),(12,iv eP),(13,iv gu),(14,iv x61),(29,iv (aC.length:Int)),(30,iv eP),(68,bv xx)] [(6,Oc [Z (W 1 (eL 1 eI) gQ)]),(7,Oc [Z (W 1 eB bY)])]) (by first | rfl | (simp [(byF af zW)];done) | (simp [(byF af zW)];omega))))
           ·refine us<|gc h j (iOr af af) (fun hc104 h=>?_) fun hc104 h=>?_
            ·exact g0 j j (q (oMv j j)<|q (oMv j j)<|q (oMv j j)<|q (ah j j)<|q (ah j j)<|q (ah j j)<|nl)<|Unw.blk<|XW _ ⟨eP,gu,x61,h,(by kernel_rfl)⟩
            ·exact Go.skip<|Unw.blk<|XW _ ⟨kD,ku,dA,h,(by kernel_rfl)⟩
        ·refine Go.exit<|ux<|Unw.nil<|?_
         cases h
         exact ⟨j,(by kernel_rfl)⟩
      ·rintro ⟨e,st⟩ hp
       obtain ⟨yY,xg,oJ⟩:=o
       dsimp only at h
       obtain ⟨he,hst⟩:=hp
       obtain rfl:e= .exit 4:=he
       refine Unw.ve<|Unw.blk<|us<|g2 c19 j j hst (q (oBi j j j j)<|q (oMv j j)<|nl)<|Unw.nil<|?_
       cases h
       exact ⟨j,(by kernel_rfl)⟩
     ·refine Go.exit<|ux<|Unw.nil<|?_
      cases h
      exact ⟨j,(by kernel_rfl)⟩
    ·rintro ⟨e,st⟩ hp
     obtain ⟨lN,kH⟩:=o
     dsimp only at h
     obtain ⟨he,hst⟩:=hp
     obtain rfl:e= .exit 2:=he
     refine Unw.ve<|us<|gs<|?_
     obtain ⟨x77,Zr,h⟩:=bs h
     obtain ⟨x78,zY,h⟩:=bs h
     refine g2 c19 j j hst (q (oMv j j)<|q (oMv j j)<|q (oMv j j)<|q (oMv j j)<|q (vS j Zr OH j j j j)<|q (MP (v':=true) tF4 j j j (fxI fx0) j j (jT Zr) j)<|q (vS j zY OH j j j j)<|q (MP (v':=true) tF4 j j j (fxI fx0) j j (jT zY) j)<|nl)<|us<|?_
     obtain ⟨x84,aa4,h⟩:=bs h
     refine g1 j j (mk [(0,D 2 (W 9 ae aC)),(1,bv fZ),(6,H 6 0),(7,H 7 0),(8,iv gK),(9,iv lN),(10,iv kH)] [(6,Oc [Z (W 1 (eL 1 eI) gQ)]),(7,Oc [Z (W 1 eB ((bY.set lN.toNat true).set kH.toNat true))])]) (q (oMv j j)<|q (oMv j j)<|q (oMv j j)<|q (oBS (es:=List.map eI ([lN,kH]:List Int)) j iG j (ptC j (fxI fx0) j (ptC j (fxI fx0) j pt0)) (fK j fun _=>j))<|q (oBS (es:=List.map (eL 1 eI) ([([lN,kH]:List Int)]:List (List Int))) j kR j (ptC j (fxO j j fx0) j pt0) (gZ j))<|q (sO (en:=(eL 1 eI)) (M:=([([lN,kH]:List Int)]:List (List Int))) j aa4 j kR j j vz (.inl ⟨_,j⟩) j j j j (jH j j) (gZ j))<|q (kX j j j j j)<|nl)<|Unw.blk<|us<|g0 j j (q (oMv j j)<|q (oBi j j j j)<|q (ah j j)<|nl)<|Unw.nil<|?_
     cases h
     exact ⟨j,(by kernel_rfl)⟩
   ·refine Go.exit<|ux<|Unw.nil<|?_
    cases h
    exact ⟨j,(by kernel_rfl)⟩
  ·rintro ⟨e,st⟩ hp
   obtain ⟨xN,rfl⟩:∃y,y=o:=⟨o,rfl⟩
   obtain ⟨he,hst⟩:=hp
   obtain rfl:e= .exit 0:=he
   refine Unw.ve<|us<|gs<|?_
   obtain ⟨x86,aa5,h⟩:=bs h
   refine g2 c19 j j hst (q (oMv j j)<|q (oCa (xs:=[.v false [.own 6 0 0],.fn 61 []]) (vs:=[]) (v:=.tup []) (rQ aa5) (.inl j) j Nh j (ppC j (ppC j pp0)) j j (pbO j j j j pb0) j j j)<|nl)<|us<|gs<|g1 j j (mk [(6,H 6 0)] [(6,Oc [Z (W 1 (eL 1 eI) x86)])]) (q (oMv j j)<|q (kX j j j j j)<|q (ah j j)<|nl)<|us<|Go.ret (Unw.ret ?_)
   cases h
   exact fr Y5 j
 ·rw [if_neg hc1] at h
  refine gT j (nT (byF iR hc1))<|gs<|g0 j j (q (Az j j MW)<|q (ah j j)<|nl)<|us<|Go.ret (Unw.ret ?_)
  cases h
  exact fr Y5 j
theorem xy {s_0:(List Int)} {v_1:Int} {r:Int} (h:ji s_0 v_1=some r):FX 146 [.im 2 false [W 1 eI s_0],.im 2 false [I v_1]] (B0 [(false,[.im 0 (I r)])]):=by
 unfold ji at h
 refine gn 19 Try.func146 rfl ?_
 refine gs<|g0 j j (q (ah j j)<|nl)<|us<|gs<|gs<|g0 j j (q (oMv j j)<|q (qR j j Fg j)<|q (oMv j j)<|nl)<|us<|Go.block<|?_
 obtain ⟨o,hl,h⟩:=bs h
 refine gl c146 j _ (fun (qi:Int)=>mk [(0,D 2 (W 1 eI s_0)),(1,iv v_1),(7,iv (s_0.length:Int)),(8,iv qi)] []) (fun (o:(Unit ⊕ Int)) (p:Ex×St)=>match o with | (.inl _)=>p.1= .exit 0∧p.2.norm ([],[])=mk [] [] | (.inr r2)=>p.1= .ret∧fin Try.prog cfg 146 Try.f146 [.im 2 false [W 1 eI s_0],.im 2 false [I v_1]] p.2=some (B0 [(false,[.im 0 (I r2)])])) hl (by kernel_rfl) ?_ ?_ ?_
 ·intro o p hp e
  rcases o with u | r2<;>exact nomatch (hp.1.symm.trans e)
 ·rintro qi o h
  unfold fE at h
  refine gs<|g0 j j (q (oBi j j j j)<|nl)<|us<|gs<|gc h j af (fun hc5 h=>?_) fun hc5 h=>?_
  ·refine Go.skip<|us<|gs<|Go.block<|gs<|g0 j j (q (oMv j j)<|q (ah j j)<|nl)<|us<|gs<|?_
   obtain ⟨x14,Fj,h⟩:=bs h
   refine g0 j j (q (oMv j j)<|q (oMv j j)<|q (oMv j j)<|q (qf j Fj iG j j)<|q (oLd (cs:=[.im 2 _]) j tF2 j j)<|q (oBi j j j j)<|nl)<|us<|gc h j iEq (fun hc6 h=>?_) fun hc6 h=>?_
   ·refine gs<|g0 j j (q (oMv j j)<|q (ah j j)<|nl)<|us<|Go.ret (Unw.ret ?_)
    cases h
    exact ⟨j,(fo WO j)⟩
   ·refine Go.skip<|Unw.blk<|us<|g0 j j (q (oBi j j j j)<|q (oMv j j)<|nl)<|Unw.nil<|?_
    cases h
    exact ⟨j,(by kernel_rfl)⟩
  ·refine Go.exit<|ux<|Unw.nil<|?_
   cases h
   exact ⟨j,(by kernel_rfl)⟩
 ·rintro ⟨e,st⟩ hp
  rcases o with u | r2
  ·dsimp only at h
   obtain ⟨he,hst⟩:=hp
   obtain rfl:e= .exit 0:=he
   refine Unw.ve<|us<|gs<|g2 c146 j j hst (q (ah j j)<|nl)<|us<|Go.ret (Unw.ret ?_)
   cases h
   exact fr WO j
  ·dsimp only at h
   obtain ⟨he,hfin⟩:=hp
   obtain rfl:e= .ret:=he
   cases h
   exact Unw.ret (vg hfin)
theorem jA {s_0:(List Int)} {v_1:Int} {r:Bool} (h:dM s_0 v_1=some r):FX 105 [.im 2 false [W 1 eI s_0],.im 2 false [I v_1]] (B0 [(false,[.im 0 (V r)])]):=by
 unfold dM at h
 refine gn 9 Try.func105 rfl ?_
 refine gs<|g0 j j (q (ah j j)<|nl)<|us<|gs<|?_
 obtain ⟨x7,hx7,h⟩:=bs h
 refine g0 j j (q (oMv j j)<|q (oMv j j)<|q (oCa (xs:=[.v false [.im 2 _],.v false [.im 2 _]]) (vs:=[(false,[.im 0 _])]) (v:=.v false [.im 0 _]) (xy hx7) (.inl j) j OG j (ppC j (ppC j pp0)) j j pb0 j j j)<|q (oBi j j j j)<|q (ah j j)<|nl)<|us<|Go.ret (Unw.ret ?_)
 cases h
 exact fr YO j
theorem Gh {kE:(List (List Int))} {n_1:Int} {r:Bool} (h:pO kE n_1=some r):FX 63 [.im 2 false [W 1 (eL 1 eI) kE],.im 2 false [I n_1]] (B0 [(false,[.im 0 (V r)])]):=by
 unfold pO at h
 refine gn 71 Try.func63 rfl ?_
 refine gs<|g0 j j (q (ah j j)<|nl)<|us<|gs<|g0 j j (q (oBS (es:=List.map eI ([]:List Int)) j iG j pt0 (fK j fun _=>j))<|q (kX j j j j j)<|nl)<|us<|gs<|gs<|g0 j j (q (oMv j j)<|q (qR j j vz j)<|q (oMv j j)<|nl)<|us<|Go.block<|?_
 obtain ⟨o,hl,h⟩:=bs h
 refine gl c63 j _ (fun (s:(Int×(List Int)))=>match s with | (rC,oK)=>mk [(0,D 2 (W 1 (eL 1 eI) kE)),(1,iv n_1),(5,H 5 0),(9,D 2 (W 1 (eL 1 eI) kE)),(10,iv (kE.length:Int)),(11,iv rC)] [(5,Oc [Z (W 1 eI oK)])]) (fun (o:(Unit ⊕ Bool)) (p:Ex×St)=>match o with | (.inl _)=>p.1= .exit 0∧p.2.norm ([],[])=mk [] [] | (.inr r2)=>p.1= .ret∧fin Try.prog cfg 63 Try.f63 [.im 2 false [W 1 (eL 1 eI) kE],.im 2 false [I n_1]] p.2=some (B0 [(false,[.im 0 (V r2)])])) hl (by kernel_rfl) ?_ ?_ ?_
 ·intro o p hp e
  rcases o with u | r2<;>exact nomatch (hp.1.symm.trans e)
 ·rintro ⟨rC,oK⟩ o h
  unfold lQ at h
  dsimp only at h
  refine gs<|g0 j j (q (oBi j j j j)<|nl)<|us<|gs<|gc h j af (fun Dj h=>?_) fun Dj h=>?_
  ·refine Go.skip<|us<|gs<|Go.block<|gs<|?_
   obtain ⟨x14,Fj,h⟩:=bs h
   refine g0 j j (q (oMv j j)<|q (qf j Fj kR j j)<|q (oLd (cs:=[.im 2 _]) j F7 j j)<|q (ah j j)<|q (ah j j)<|nl)<|us<|gs<|gs<|?_
   obtain ⟨KG,nJ,h⟩:=bs h
   refine gd c63 j j j j (mk [(0,D 2 (W 1 (eL 1 eI) kE)),(1,iv n_1),(5,H 5 0),(6,iv rC),(7,D 2 (W 1 eI x14)),(9,D 2 (W 1 (eL 1 eI) kE)),(10,iv (kE.length:Int)),(11,iv rC),(54,bv KG)] [(5,Oc [Z (W 1 eI oK)])]) ?_ ?_
   ·refine t j j (oMv j j)<|t j j (qR j j Fg j)<|t j j (oBi j j j j)<|t j j (oMv j j)<|?_
    refine ic nJ (fun hc24 nJ=>?_) fun hc24 nJ=>?_
    ·cases nJ
     exact tF j j j j (iNe.2 hc24) j<|tF j j j j (iNe.2 hc24) j<|tF j j j j (iNe.2 hc24) j<|tF j j j j (iNe.2 hc24) j<|t j j (dn j j (iNe.2 hc24) j)<|t j j (oMv j j)<|tF j j j j j j<|tF j j j j j j<|tF j j j j j j<|tF j j j j j j<|tF j j j j j j<|tF j j j j j j<|tF j j j j j j<|t j j (dn j j j j)<|t j j (oMv j j)<|tF j j j j j j<|tF j j j j j j<|tF j j j j j j<|tF j j j j j j<|tF j j j j j j<|t j j (dn j j j j)<|t j j (oMv j j)<|tF j j j j j j<|tF j j j j j j<|tF j j j j j j<|tF j j j j j j<|sS (dF j j j j j) trivial (t j j (dn j j j j)<|t j j (oMv j j)<|tF j j j j j j<|tF j j j j j j<|tF j j j j j j<|tF j j j j j j<|sS (dF j j j j j) trivial (t j j (dn j j j j)<|sD (by kernel_rfl)))
    ·obtain ⟨x21,Gf,nJ⟩:=bs nJ
     refine tT j j j j (byF iNe hc24) (oMv j j)<|tT j j j j (byF iNe hc24) (qf j Gf iG j j)<|tT j j j j (byF iNe hc24) (oLd (cs:=[.im 2 _]) j tF2 j j)<|tT j j j j (byF iNe hc24) (oBi j j j j)<|t j j (gY j j (byF iNe hc24) j)<|t j j (oMv j j)<|?_
     refine ic nJ (fun hc25 nJ=>?_) fun hc25 nJ=>?_
     ·cases nJ
      exact tF j j j j (af.2 hc25) j<|tF j j j j (af.2 hc25) j<|tF j j j j (af.2 hc25) j<|tF j j j j (af.2 hc25) j<|tF j j j j (af.2 hc25) j<|tF j j j j (af.2 hc25) j<|tF j j j j (af.2 hc25) j<|t j j (dn j j (af.2 hc25) j)<|t j j (oMv j j)<|tF j j j j j j<|tF j j j j j j<|tF j j j j j j<|tF j j j j j j<|tF j j j j j j<|t j j (dn j j j j)<|t j j (oMv j j)<|tF j j j j j j<|tF j j j j j j<|tF j j j j j j<|tF j j j j j j<|sS (dF j j j j j) trivial (t j j (dn j j j j)<|t j j (oMv j j)<|tF j j j j j j<|tF j j j j j j<|tF j j j j j j<|tF j j j j j j<|sS (dF j j j j j) trivial (t j j (dn j j j j)<|sD (by kernel_rfl)))
     ·obtain ⟨x27,hx27,nJ⟩:=bs nJ
      obtain ⟨x30,Gg,nJ⟩:=bs nJ
      refine tT j j j j (byF af hc25) (oMv j j)<|tT j j j j (byF af hc25) (qf j hx27 iG j j)<|tT j j j j (byF af hc25) (oLd (cs:=[.im 2 _]) j tF2 j j)<|tT j j j j (byF af hc25) (oMv j j)<|tT j j j j (byF af hc25) (qf j Gg iG j j)<|tT j j j j (byF af hc25) (oLd (cs:=[.im 2 _]) j tF2 j j)<|tT j j j j (byF af hc25) (oBi j j j j)<|t j j (gY j j (byF af hc25) j)<|t j j (oMv j j)<|?_
      refine ic nJ (fun FB nJ=>?_) fun FB nJ=>?_
      ·cases nJ
       exact tF j j j j (af.2 FB) j<|tF j j j j (af.2 FB) j<|tF j j j j (af.2 FB) j<|tF j j j j (af.2 FB) j<|tF j j j j (af.2 FB) j<|t j j (dn j j (af.2 FB) j)<|t j j (oMv j j)<|tF j j j j j j<|tF j j j j j j<|tF j j j j j j<|tF j j j j j j<|sS (dF j j j j j) trivial (t j j (dn j j j j)<|t j j (oMv j j)<|tF j j j j j j<|tF j j j j j j<|tF j j j j j j<|tF j j j j j j<|sS (dF j j j j j) trivial (t j j (dn j j j j)<|sD (by kernel_rfl)))
      ·obtain ⟨x36,Ul,nJ⟩:=bs nJ
       refine tT j j j j (byF af FB) (oMv j j)<|tT j j j j (byF af FB) (qf j Ul iG j j)<|tT j j j j (byF af FB) (oLd (cs:=[.im 2 _]) j tF2 j j)<|tT j j j j (byF af FB) (oMv j j)<|tT j j j j (byF af FB) (oBi j j j j)<|t j j (gY j j (byF af FB) j)<|t j j (oMv j j)<|?_
       refine ic nJ (fun hc27 nJ=>?_) fun hc27 nJ=>?_
       ·cases nJ
        exact tF j j j j (af.2 hc27) j<|tF j j j j (af.2 hc27) j<|tF j j j j (af.2 hc27) j<|tF j j j j (af.2 hc27) j<|sS (dF j j j (af.2 hc27) j) trivial (t j j (dn j j (af.2 hc27) j)<|t j j (oMv j j)<|tF j j j j j j<|tF j j j j j j<|tF j j j j j j<|tF j j j j j j<|sS (dF j j j j j) trivial (t j j (dn j j j j)<|sD (by kernel_rfl)))
       ·obtain ⟨x44,KX,nJ⟩:=bs nJ
        obtain ⟨x46,I5,nJ⟩:=bs nJ
        refine tT j j j j (byF af hc27) (oMv j j)<|tT j j j j (byF af hc27) (oMv j j)<|tT j j j j (byF af hc27) (qf j KX iG j j)<|?_
        refine ic nJ (fun hc28 nJ=>?_) fun hc28 nJ=>?_
        ·cases nJ
         exact tT j j j j (byF af hc27) (oLd (cs:=[.im 2 _]) j tF2 j j)<|sS (dT z63 j j j (byF af hc27) (oCa (xs:=[.v false [.own 5 0 0],.v false [.im 2 _]]) (vs:=[(false,[.im 0 _])]) (v:=.v false [.im 0 _]) (jA I5) (.inl j) j Dc j (ppC j (ppC j pp0)) j j pb0 j j j)) trivial (t j j (gY j j (byF af hc27) j)<|t j j (oMv j j)<|tF j j j j (iR.2 hc28) j<|tF j j j j (iR.2 hc28) j<|tF j j j j (iR.2 hc28) j<|tF j j j j (iR.2 hc28) j<|sS (dF j j j (iR.2 hc28) j) trivial (t j j (dn j j (iR.2 hc28) j)<|sD (by kernel_rfl)))
        ·obtain ⟨x51,Rl,nJ⟩:=bs nJ
         obtain ⟨x53,V3,nJ⟩:=bs nJ
         cases nJ
         exact tT j j j j (byF af hc27) (oLd (cs:=[.im 2 _]) j tF2 j j)<|sS (dT z63 j j j (byF af hc27) (oCa (xs:=[.v false [.own 5 0 0],.v false [.im 2 _]]) (vs:=[(false,[.im 0 _])]) (v:=.v false [.im 0 _]) (jA I5) (.inl j) j Dc j (ppC j (ppC j pp0)) j j pb0 j j j)) trivial (t j j (gY j j (byF af hc27) j)<|t j j (oMv j j)<|tT j j j j (byF iR hc28) (oMv j j)<|tT j j j j (byF iR hc28) (oMv j j)<|tT j j j j (byF iR hc28) (qf j Rl iG j j)<|tT j j j j (byF iR hc28) (oLd (cs:=[.im 2 _]) j tF2 j j)<|sS (dT z63 j j j (byF iR hc28) (oCa (xs:=[.v false [.own 5 0 0],.v false [.im 2 _]]) (vs:=[(false,[.im 0 _])]) (v:=.v false [.im 0 _]) (jA V3) (.inl j) j Dc j (ppC j (ppC j pp0)) j j pb0 j j j)) trivial (t j j (gY j j (byF iR hc28) j)<|sD (by kernel_rfl)))
   ·refine us<|gc h j iR (fun hc29 h=>?_) fun hc29 h=>?_
    ·refine gs<|g0 j j (q (ah j j)<|nl)<|us<|Go.ret (Unw.ret ?_)
     cases h
     exact ⟨j,(fo XO j)⟩
    ·refine Go.skip<|us<|gs<|gs<|?_
     obtain ⟨KH,La,h⟩:=bs h
     refine gX c63 j j j (mk [(0,D 2 (W 1 (eL 1 eI) kE)),(1,iv n_1),(5,H 5 0),(7,D 2 (W 1 eI x14)),(9,D 2 (W 1 (eL 1 eI) kE)),(10,iv (kE.length:Int)),(11,iv rC),(66,bv KH)] [(5,Oc [Z (W 1 eI oK)])]) ?_ ?_
     ·refine xq (oMv j j)<|xq (oBi j j j j)<|xq (oMv j j)<|?_
      refine ic La (fun zM La=>?_) fun zM La=>?_
      ·obtain ⟨x61,OL,La⟩:=bs La
       obtain ⟨x64,Di,La⟩:=bs La
       cases La
       exact xqT j j (af.2 zM) (oMv j j)<|xqT j j (af.2 zM) (oMv j j)<|xqT j j (af.2 zM) (oBi j j j j)<|xqT j j (af.2 zM) (qf j OL kR j j)<|xqT j j (af.2 zM) (oLd (cs:=[.im 2 _]) j F7 j j)<|xqT j j (af.2 zM) (oMv j j)<|xqT j j (af.2 zM) (oCa (xs:=[.v false [.im 2 _],.v false [.im 2 _]]) (vs:=[(false,[.im 0 _])]) (v:=.v false [.im 0 _]) (mX Di) (.inl j) j IA j (ppC j (ppC j pp0)) j j pb0 j j j)<|xqT j j (af.2 zM) (oBi j j j j)<|xq (dn j j (af.2 zM) j)<|xn
      ·cases La
       exact az j j (byF af zM) j<|az j j (byF af zM) j<|az j j (byF af zM) j<|az j j (byF af zM) j<|az j j (byF af zM) j<|az j j (byF af zM) j<|az j j (byF af zM) j<|az j j (byF af zM) j<|xq (gY j j (byF af zM) j)<|xn
     ·refine us<|gc h j iR (fun hc31 h=>?_) fun hc31 h=>?_
      ·refine gs<|g0 j j (q (ah j j)<|nl)<|us<|Go.ret (Unw.ret ?_)
       cases h
       exact ⟨j,(fo XO j)⟩
      ·refine Go.skip<|us<|?_
       obtain ⟨x69,Bi,h⟩:=bs h
       refine g0 j j (q (oMv j j)<|q (oMv j j)<|q (sO (en:=eI) (M:=x14) j Bi j iG j j Fg (.inl ⟨_,j⟩) j j j j TF (fK j fun _=>j))<|q (kX j j j j j)<|nl)<|Unw.blk<|us<|g0 j j (q (oBi j j j j)<|q (oMv j j)<|nl)<|Unw.nil<|?_
       cases h
       exact ⟨j,(by kernel_rfl)⟩
  ·refine Go.exit<|ux<|Unw.nil<|?_
   cases h
   exact ⟨j,(by kernel_rfl)⟩
 ·rintro ⟨e,st⟩ hp
  rcases o with u | r2
  ·dsimp only at h
   obtain ⟨he,hst⟩:=hp
   obtain rfl:e= .exit 0:=he
   refine Unw.ve<|us<|gs<|g2 c63 j j hst (q (ah j j)<|nl)<|us<|Go.ret (Unw.ret ?_)
   cases h
   exact fr XO j
  ·dsimp only at h
   obtain ⟨he,hfin⟩:=hp
   obtain rfl:e= .ret:=he
   cases h
   exact Unw.ret (vg hfin)
theorem xP {aC:(List ak)} {bz:(List (List Int))} {eX:Bool} {r:(Int×Int)} (h:kJ aC bz eX=some r):FX 20 [.im 2 false [W 9 ae aC],.im 2 false [W 1 (eL 1 eI) bz],.im 2 false [V eX]] (B0 [(false,[.im 0 (I r.1)]),(false,[.im 0 (I r.2)])]):=by
 unfold kJ at h
 refine gn 45 Try.func20 rfl ?_
 refine gs<|g0 j j (q (ah j j)<|q (ah j j)<|nl)<|us<|gs<|Go.block<|gs<|?_
 obtain ⟨x13,Fh,h⟩:=bs h
 refine g0 j j (q (oMv j j)<|q (oCa (xs:=[.v false [.im 2 _]]) (vs:=[(false,[.im 0 _])]) (v:=.v false [.im 0 _]) (mJ Fh) (.inl j) j Gv j (ppC j pp0) j j pb0 j j j)<|q (oUn j j j)<|q (ah j j)<|nl)<|us<|?_
 by_cases hc1:x13=true
 ·rw [if_pos hc1] at h
  refine gF j (nF (iR.2 hc1))<|gs<|?_
  obtain ⟨x19,F8,h⟩:=bs h
  refine g0 j j (q (oMv j j)<|q (oMv j j)<|q (qR j j y5 j)<|q (oCa (xs:=[.v false [.im 2 _],.v false [.im 0 _]]) (vs:=[(false,[.im 0 _])]) (v:=.v false [.im 0 _]) (Gh F8) (.inl j) j Ri j (ppC j (ppC j pp0)) j j pb0 j j j)<|q (oUn j j j)<|q (ah j j)<|nl)<|us<|?_
  by_cases hc2:x19=true
  ·rw [if_pos hc2] at h
   refine gF j (nF (iR.2 hc2))<|Go.skip<|Unw.blk<|us<|gs<|g0 j j (q (ah j j)<|nl)<|us<|gs<|gs<|g0 j j (q (oMv j j)<|q (qR j j vz j)<|q (oMv j j)<|nl)<|us<|Go.block<|?_
   obtain ⟨o,hl,h⟩:=bs h
   refine gl c20 j _ (fun (s:(Int×Int))=>match s with | (yZ,lg)=>mk [(0,D 2 (W 9 ae aC)),(2,bv eX),(8,iv yZ),(21,D 2 (W 1 (eL 1 eI) bz)),(22,iv (bz.length:Int)),(23,iv lg)] []) (fun (zy:Int) (p:Ex×St)=>p.1= .exit 1∧p.2.norm ([8],[])=mk [(8,iv zy)] []) hl (by kernel_rfl) ?_ ?_ ?_
   ·intro o p hp e
    exact nomatch (hp.1.symm.trans e)
   ·rintro ⟨yZ,lg⟩ o h
    unfold kz at h
    dsimp only at h
    refine gs<|g0 j j (q (oBi j j j j)<|nl)<|us<|gs<|gc h j af (fun hc5 h=>?_) fun hc5 h=>?_
    ·refine Go.skip<|us<|gs<|Go.block<|gs<|?_
     obtain ⟨x25,hx25,h⟩:=bs h
     refine g0 j j (q (qf j hx25 kR j j)<|q (oLd (cs:=[.im 2 _]) j F7 j j)<|q (ah j j)<|nl)<|us<|?_
     obtain ⟨x30,Gg,h⟩:=bs h
     obtain ⟨x32,hx32,h⟩:=bs h
     obtain ⟨x36,Ul,h⟩:=bs h
     obtain ⟨x38,hx38,h⟩:=bs h
     obtain ⟨x41,KY,h⟩:=bs h
     refine gd c20 j j j j (mk [(0,D 2 (W 9 ae aC)),(2,bv eX),(8,iv (w64 (yZ+x41))),(21,D 2 (W 1 (eL 1 eI) bz)),(22,iv (bz.length:Int)),(23,iv lg)] []) (t j j (oMv j j)<|t j j (oMv j j)<|t j j (oMv j j)<|t j j (qf j Gg iG j j)<|t j j (oLd (cs:=[.im 2 _]) j tF2 j j)<|t j j (qf j hx32 tC j j)<|t j j (oLd (cs:=[.im 2 _,.im 2 _,.im 2 _,.im 2 _,.im 2 _,.im 2 _,.im 2 _,.im 2 _,.im 2 _]) j lT j j)<|t j j (oMv j j)<|t j j (oMv j j)<|t j j (qf j Ul iG j j)<|t j j (oLd (cs:=[.im 2 _]) j tF2 j j)<|t j j (qf j hx38 tC j j)<|t j j (oLd (cs:=[.im 2 _,.im 2 _,.im 2 _,.im 2 _,.im 2 _,.im 2 _,.im 2 _,.im 2 _,.im 2 _]) j lT j j)<|t j j (oMv j j)<|sS (dN z20 j (oCa (xs:=[.v true [.im 2 _,.im 2 _,.im 2 _,.im 2 _,.im 2 _,.im 2 _,.im 2 _,.im 2 _,.im 2 _],.v true [.im 2 _,.im 2 _,.im 2 _,.im 2 _,.im 2 _,.im 2 _,.im 2 _,.im 2 _,.im 2 _],.v false [.im 0 _]]) (vs:=[(false,[.im 0 _])]) (v:=.v false [.im 0 _]) (rH KY) (.inl j) j rF j (ppC j (ppC j (ppC j pp0))) j j pb0 j j j)) trivial (t j j (oBi j j j j)<|sS (dN z20 j (ah j j)) trivial (sD (by kernel_rfl))))<|Unw.blk<|us<|g0 j j (q (oBi j j j j)<|q (oMv j j)<|nl)<|Unw.nil<|?_
     cases h
     exact ⟨j,(by kernel_rfl)⟩
    ·refine Go.exit<|ux<|Unw.nil<|?_
     cases h
     exact ⟨j,(by kernel_rfl)⟩
   ·rintro ⟨e,st⟩ hp
    obtain ⟨zy,rfl⟩:∃y,y=o:=⟨o,rfl⟩
    obtain ⟨he,hst⟩:=hp
    obtain rfl:e= .exit 1:=he
    refine Unw.ve<|us<|gs<|g2 c20 j j hst (q (oMv j j)<|q (ah j j)<|q (ah j j)<|nl)<|us<|Go.ret (Unw.ret ?_)
    cases h
    exact fr XM j
  ·rw [if_neg hc2] at h
   refine gT j (nT (byF iR hc2))<|gs<|g0 j j (q (ah j j)<|q (ah j j)<|nl)<|us<|Go.ret (Unw.ret ?_)
   cases h
   exact fr XM j
 ·rw [if_neg hc1] at h
  refine gT j (nT (byF iR hc1))<|gs<|g0 j j (q (ah j j)<|q (ah j j)<|nl)<|us<|Go.ret (Unw.ret ?_)
  cases h
  exact fr XM j
theorem Bj {jv:(List Int)} {r:((List ak)×Int×Bool)} (h:jh jv=some r):FX 21 [.im 2 false [W 1 (eK .u8) jv]] (B0 [(false,[.ow 0 9 (List.map ae r.1)]),(false,[.im 0 (I r.2.1)]),(false,[.im 0 (V r.2.2)])]):=by
 unfold jh at h
 refine gn 22 Try.func21 rfl ?_
 refine gs<|g0 j j (q (Az j j TT)<|q (ah j j)<|q (ah j j)<|nl)<|us<|gs<|?_
 obtain ⟨x9,hx9,h⟩:=bs h
 refine g0 j j (q (oMv j j)<|q (oCp (xs:=[.v false [.im 2 _]]) (A7 hx9) (.inl j) j Qn j (ppC j pp0) j j pb0 j)<|q (U7 j j)<|nl)<|us<|gs<|?_
 obtain ⟨x11,Ej,h⟩:=bs h
 refine g0 j j (q (oMv j j)<|q (oCr (xs:=[.v false [.mp 9 0 0]]) (vs:=[(false,[.own 11 0 0])]) (v:=.v false [.own 11 0 0]) (c:=⟨.sh,0,_⟩) (cs:=[]) (Be Ej) (.inl j) j Qo j (ppP j j j pp0) j j (pbP j j pb0) j j j)<|q (kX j j j j j)<|nl)<|us<|gs<|?_
 obtain ⟨x16,hx16,h⟩:=bs h
 refine g1 j j (mk [(5,M 9),(6,H 6 0)] [(6,Oc [Z (W 9 ae x11.1)]),(9,Oa (G 2 (aA x11.2)))]) (q (oMv j j)<|q (oMv j j)<|q (FY j j y5 j j j (fun e=>nomatch e))<|q (oBi j j j j)<|q (oCa (xs:=[.v false [.mp 9 0 0],.v false [.im 0 _]]) (vs:=[(false,[.im 0 _])]) (v:=.v false [.im 0 _]) (aN hx16) (.inl j) j dY j (ppP j j j (ppC j pp0)) j j (pbP j j pb0) j j j)<|q (oBi j j j j)<|q (ah j j)<|nl)<|us<|gs<|?_
 obtain ⟨x21,Gf,h⟩:=bs h
 refine g1 j j (mk [(5,M 9),(6,H 6 0),(7,iv (w64 (x16.1 - 1)))] [(6,Oc [Z (W 9 ae x11.1)]),(9,Oa (G 2 (aA x16.2)))]) (q (oMv j j)<|q (oMv j j)<|q (oMv j j)<|q (oCa (xs:=[.v false [.mp 9 0 0],.v false [.im 0 _]]) (vs:=[(false,[.im 0 _])]) (v:=.v false [.im 0 _]) (iM Gf) (.inl j) j tu j (ppP j j j (ppC j pp0)) j j (pbP j j pb0) j j j)<|q (kX j j j j j)<|q (ah j j)<|q (ah j j)<|nl)<|us<|Go.ret (Unw.ret ?_)
 cases h
 exact fr aaB j
theorem FC {aC:(List ak)} {k_1:Int} {eX:Bool} {r:(Int×Int×Int)} (h:lS aC k_1 eX=some r):FX 22 [.im 2 false [W 9 ae aC],.im 2 false [I k_1],.im 2 false [V eX]] (B0 [(false,[.im 0 (I r.1)]),(false,[.im 0 (I r.2.1)]),(false,[.im 0 (I r.2.2)])]):=by
 unfold lS at h
 refine gn 58 Try.func22 rfl ?_
 refine gs<|g0 j j (q (ah j j)<|q (ah j j)<|q (ah j j)<|nl)<|us<|gs<|Go.block<|gs<|?_
 obtain ⟨x16,hx16,h⟩:=bs h
 refine g0 j j (q (oMv j j)<|q (oCa (xs:=[.v false [.im 2 _]]) (vs:=[(false,[.im 0 _])]) (v:=.v false [.im 0 _]) (mJ hx16) (.inl j) j Gv j (ppC j pp0) j j pb0 j j j)<|q (oUn j j j)<|q (ah j j)<|nl)<|us<|?_
 by_cases hc1:x16=true
 ·rw [if_pos hc1] at h
  refine gF j (nF (iR.2 hc1))<|gs<|?_
  obtain ⟨x23,Uh,h⟩:=bs h
  refine g0 j j (q (oMv j j)<|q (oMv j j)<|q (qR j j y5 j)<|q (oBi j j j j)<|q (oCa (xs:=[.v false [.im 2 _],.v false [.im 0 _],.v false [.im 0 _]]) (vs:=[(false,[.im 0 _])]) (v:=.v false [.im 0 _]) (eu Uh) (.inl j) j iL j (ppC j (ppC j (ppC j pp0))) j j pb0 j j j)<|q (oUn j j j)<|q (ah j j)<|nl)<|us<|?_
  by_cases hc2:x23=true
  ·rw [if_pos hc2] at h
   refine gF j (nF (iR.2 hc2))<|gs<|g0 j j (q (oMv j j)<|q (qR j j y5 j)<|q (oBi j j j j)<|q (ah j j)<|nl)<|us<|gc h j iEq (fun hc3 h=>?_) fun hc3 h=>?_
   ·refine gs<|g0 j j (q (ah j j)<|q (ah j j)<|q (ah j j)<|nl)<|us<|Go.ret (Unw.ret ?_)
    cases h
    exact fr VV j
   ·refine Go.skip<|Unw.blk<|us<|gs<|g0 j j (q (ah j j)<|q (ah j j)<|nl)<|us<|gs<|gs<|g0 j j (q (oMv j j)<|q (qR j j y5 j)<|q (oMv j j)<|nl)<|us<|Go.block<|?_
    obtain ⟨o,hl,h⟩:=bs h
    refine gl c22 j _ (fun (s:(Int×Int×Int))=>match s with | (gU,dR,fF)=>mk [(0,D 2 (W 9 ae aC)),(1,iv k_1),(2,bv eX),(9,iv gU),(10,iv dR),(29,D 2 (W 9 ae aC)),(30,iv (aC.length:Int)),(31,iv fF)] []) (fun (o:(Int×Int)) (p:Ex×St)=>match o with | (uK,pR)=>p.1= .exit 1∧p.2.norm ([9,10],[])=mk [(9,iv uK),(10,iv pR)] []) hl (by kernel_rfl) ?_ ?_ ?_
    ·intro o p hp e
     obtain ⟨uK,pR⟩:=o
     exact nomatch (hp.1.symm.trans e)
    ·rintro ⟨gU,dR,fF⟩ o h
     unfold dZ at h
     dsimp only at h
     refine gs<|g0 j j (q (oBi j j j j)<|nl)<|us<|gs<|gc h j af (fun hc12 h=>?_) fun hc12 h=>?_
     ·refine Go.skip<|us<|gs<|Go.join (fun st=>∃xh,∃rD,fO fF xh rD=some o∧st.norm ([0,1,2,9,10,29,30,31],[])=mk [(0,D 2 (W 9 ae aC)),(1,iv k_1),(2,bv eX),(9,iv xh),(10,iv rD),(29,D 2 (W 9 ae aC)),(30,iv (aC.length:Int)),(31,iv fF)] []) ?_ ?_
      ·rintro st ⟨xh,rD,h,hst⟩
       unfold fO at h
       refine us<|g2 c22 j j hst (q (oBi j j j j)<|q (oMv j j)<|nl)<|Unw.nil<|?_
       cases h
       exact ⟨j,(by kernel_rfl)⟩
      ·intro K16
       refine Go.block<|gs<|?_
       obtain ⟨x34,hx34,h⟩:=bs h
       refine g0 j j (q (oMv j j)<|q (qf j hx34 tC j j)<|q (oLd (cs:=[.im 2 _,.im 2 _,.im 2 _,.im 2 _,.im 2 _,.im 2 _,.im 2 _,.im 2 _,.im 2 _]) j lT j j)<|q (oAl j lT (tkI (tkI (tkI (tkI (tkI (tkI (tkI (tkI (tkN tk0))))))))))<|q (ah j j)<|q (oSt lT j j j (tkI (tkI (tkI (tkI (tkI (tkI (tkI (tkI (tkI tk0))))))))) j j j)<|nl)<|us<|gs<|gs<|g1 j j (mk [(0,D 2 (W 9 ae aC)),(1,iv k_1),(2,bv eX),(9,iv gU),(10,iv dR),(11,iv fF),(12,M 12),(29,D 2 (W 9 ae aC)),(30,iv (aC.length:Int)),(31,iv fF)] [(12,Oa (G 2 (gW x34)))]) (q (oMv j j)<|q (oMv j j)<|q (oBi j j j j)<|nl)<|us<|gc h j iEq (fun hc17 h=>?_) fun hc17 h=>?_
       ·exact Go.exit<|ux<|Unw.ve<|K16 _ ⟨gU,dR,h,(by kernel_rfl)⟩
       ·refine Go.skip<|us<|gs<|?_
        obtain ⟨x41,KY,h⟩:=bs h
        obtain ⟨x45,V5,h⟩:=bs h
        refine gd c22 j j j j (mk [(0,D 2 (W 9 ae aC)),(1,iv k_1),(2,bv eX),(9,iv gU),(10,iv dR),(11,iv fF),(13,iv x45),(29,D 2 (W 9 ae aC)),(30,iv (aC.length:Int)),(31,iv fF)] []) (t j j (oMv j j)<|t j j (oMv j j)<|t j j (qf j KY tC j j)<|t j j (oLd (cs:=[.im 2 _,.im 2 _,.im 2 _,.im 2 _,.im 2 _,.im 2 _,.im 2 _,.im 2 _,.im 2 _]) j lT j j)<|t j j (oLd (cs:=[.im 0 _,.im 0 _,.im 0 _,.im 0 _,.im 0 _,.im 0 _,.im 0 _,.im 0 _,.im 2 _]) j lT j j)<|t j j (oMv j j)<|sS (dN z22 j (oCa (xs:=[.v true [.im 2 _,.im 2 _,.im 2 _,.im 2 _,.im 2 _,.im 2 _,.im 2 _,.im 2 _,.im 2 _],.v true [.im 0 _,.im 0 _,.im 0 _,.im 0 _,.im 0 _,.im 0 _,.im 0 _,.im 0 _,.im 2 _],.v false [.im 0 _]]) (vs:=[(false,[.im 0 _])]) (v:=.v false [.im 0 _]) (rH V5) (.inl j) j rF j (ppC j (ppC j (ppC j pp0))) j j pb0 j j j)) trivial (sS (dN z22 j (ah j j)) trivial (sD (by kernel_rfl))))<|us<|gs<|gX c22 j j j (mk [(0,D 2 (W 9 ae aC)),(1,iv k_1),(2,bv eX),(9,iv gU),(10,iv dR),(11,iv fF),(13,iv x45),(29,D 2 (W 9 ae aC)),(30,iv (aC.length:Int)),(31,iv fF),(52,bv ((decide (gU<0))||(decide (x45<dR))))] []) ?_ ?_
        ·refine xq (oMv j j)<|xq (oBi j j j j)<|xq (oMv j j)<|?_
         by_cases hc18:gU<0
         ·exact az rfl rfl (af.2 hc18) rfl<|az rfl rfl (af.2 hc18) rfl<|az rfl rfl (af.2 hc18) rfl<|xq (dn rfl rfl (af.2 hc18) rfl)<|xn (Eq.trans (b:=(fun xA:Bool=>mk [(0,D 2 (W 9 ae aC)),(1,iv k_1),(2,bv eX),(9,iv gU),(10,iv dR),(11,iv fF),(13,iv x45),(29,D 2 (W 9 ae aC)),(30,iv (aC.length:Int)),(31,iv fF),(52,bv xA)] []) true) (by kernel_rfl) (congrArg (fun xA:Bool=>mk [(0,D 2 (W 9 ae aC)),(1,iv k_1),(2,bv eX),(9,iv gU),(10,iv dR),(11,iv fF),(13,iv x45),(29,D 2 (W 9 ae aC)),(30,iv (aC.length:Int)),(31,iv fF),(52,bv xA)] []) (by first | rfl | (simp [(af.2 hc18)];done) | (simp [(af.2 hc18)];omega))))
         ·exact xqT rfl rfl (byF af hc18) (oMv rfl rfl)<|xqT rfl rfl (byF af hc18) (oMv rfl rfl)<|xqT rfl rfl (byF af hc18) (oBi rfl rfl rfl rfl)<|xq (gY rfl rfl (byF af hc18) rfl)<|xn (Eq.trans (b:=(fun xA:Bool=>mk [(0,D 2 (W 9 ae aC)),(1,iv k_1),(2,bv eX),(9,iv gU),(10,iv dR),(11,iv fF),(13,iv x45),(29,D 2 (W 9 ae aC)),(30,iv (aC.length:Int)),(31,iv fF),(52,bv xA)] []) (decide (x45<dR))) (by kernel_rfl) (congrArg (fun xA:Bool=>mk [(0,D 2 (W 9 ae aC)),(1,iv k_1),(2,bv eX),(9,iv gU),(10,iv dR),(11,iv fF),(13,iv x45),(29,D 2 (W 9 ae aC)),(30,iv (aC.length:Int)),(31,iv fF),(52,bv xA)] []) (by first | rfl | (simp [(byF af hc18)];done) | (simp [(byF af hc18)];omega))))
        ·refine us<|gc h j (iOr af af) (fun hc19 h=>?_) fun hc19 h=>?_
         ·exact g0 j j (q (oMv j j)<|q (oMv j j)<|q (ah j j)<|q (ah j j)<|nl)<|Unw.blk<|K16 _ ⟨fF,x45,h,(by kernel_rfl)⟩
         ·exact Go.skip<|Unw.blk<|K16 _ ⟨gU,dR,h,(by kernel_rfl)⟩
     ·refine Go.exit<|ux<|Unw.nil<|?_
      cases h
      exact ⟨j,(by kernel_rfl)⟩
    ·rintro ⟨e,st⟩ hp
     obtain ⟨uK,pR⟩:=o
     dsimp only at h
     obtain ⟨he,hst⟩:=hp
     obtain rfl:e= .exit 1:=he
     refine Unw.ve<|us<|gs<|g2 c22 j j hst (q (oMv j j)<|q (oMv j j)<|q (ah j j)<|q (ah j j)<|q (ah j j)<|nl)<|us<|Go.ret (Unw.ret ?_)
     cases h
     exact fr VV j
  ·rw [if_neg hc2] at h
   refine gT j (nT (byF iR hc2))<|gs<|g0 j j (q (ah j j)<|q (ah j j)<|q (ah j j)<|nl)<|us<|Go.ret (Unw.ret ?_)
   cases h
   exact fr VV j
 ·rw [if_neg hc1] at h
  refine gT j (nT (byF iR hc1))<|gs<|g0 j j (q (ah j j)<|q (ah j j)<|q (ah j j)<|nl)<|us<|Go.ret (Unw.ret ?_)
  cases h
  exact fr VV j
theorem Es {a_0:ak} {b_1:ak} {eX:Bool} {r:(Int×Int)} (h:kK a_0 b_1 eX=some r):FX 23 [.im 2 true (gW a_0),.im 2 true (gW b_1),.im 2 false [V eX]] (B0 [(false,[.im 0 (I r.1)]),(false,[.im 0 (I r.2)])]):=by
 unfold kK at h
 refine gn 20 Try.func23 rfl ?_
 refine gs<|g0 j j (q (oBx j lT j (tkI (tkI (tkI (tkI (tkI (tkI (tkI (tkI (tkI tk0))))))))))<|q (oBx j lT j (tkI (tkI (tkI (tkI (tkI (tkI (tkI (tkI (tkI tk0))))))))))<|q (ah j j)<|q (ah j j)<|nl)<|us<|gs<|gs<|?_
 obtain ⟨x9,hx9,h⟩:=bs h
 obtain ⟨KI,hm3,h⟩:=bs h
 refine gX c23 j j (st1:=mk [(2,bv eX),(3,M 3),(4,M 4)] [(3,Oa (G 2 (gW a_0))),(4,Oa (G 2 (gW b_1)))]) (by kernel_rfl) (mk [(2,bv eX),(3,M 3),(4,M 4),(15,bv KI)] [(3,Oa (G 2 (gW a_0))),(4,Oa (G 2 (gW b_1)))]) ?_ ?_
 ·refine xq (oLd (cs:=[.im 0 _,.im 0 _,.im 0 _,.im 0 _,.im 0 _,.im 0 _,.im 0 _,.im 0 _,.im 2 _]) j lT j j)<|xq (oCa (xs:=[.v true [.im 0 _,.im 0 _,.im 0 _,.im 0 _,.im 0 _,.im 0 _,.im 0 _,.im 0 _,.im 2 _]]) (vs:=[(false,[.im 0 _])]) (v:=.v false [.im 0 _]) (lU hx9) (.inl j) j Eh j (ppC j pp0) j j pb0 j j j)<|xq (oUn j j j)<|xq (oMv j j)<|?_
  refine ic hm3 (fun hc1 hm3=>?_) fun hc1 hm3=>?_
  ·obtain ⟨x13,Fh,hm3⟩:=bs hm3
   cases hm3
   exact xqT j j (nF (iR.2 hc1)) (oLd (cs:=[.im 0 _,.im 0 _,.im 0 _,.im 0 _,.im 0 _,.im 0 _,.im 0 _,.im 0 _,.im 2 _]) j lT j j)<|xqT j j (nF (iR.2 hc1)) (oCa (xs:=[.v true [.im 0 _,.im 0 _,.im 0 _,.im 0 _,.im 0 _,.im 0 _,.im 0 _,.im 0 _,.im 2 _]]) (vs:=[(false,[.im 0 _])]) (v:=.v false [.im 0 _]) (lU Fh) (.inl j) j Eh j (ppC j pp0) j j pb0 j j j)<|xqT j j (nF (iR.2 hc1)) (oUn j j j)<|xq (gY j j (nF (iR.2 hc1)) j)<|xn
  ·cases hm3
   exact az j j (nT (byF iR hc1)) j<|az j j (nT (byF iR hc1)) j<|az j j (nT (byF iR hc1)) j<|xq (dn j j (nT (byF iR hc1)) j)<|xn
 ·refine us<|gc h j iR (fun hc2 h=>?_) fun hc2 h=>?_
  ·refine gs<|g0 j j (q (ah j j)<|q (ah j j)<|nl)<|us<|Go.ret (Unw.ret ?_)
   cases h
   exact fr Y6 j
  ·refine Go.skip<|us<|gs<|?_
   obtain ⟨x19,F8,h⟩:=bs h
   refine g0 j j (q (oLd (cs:=[.im 0 _,.im 0 _,.im 0 _,.im 0 _,.im 0 _,.im 0 _,.im 0 _,.im 0 _,.im 2 _]) j lT j j)<|q (oLd (cs:=[.im 0 _,.im 0 _,.im 0 _,.im 0 _,.im 0 _,.im 0 _,.im 0 _,.im 0 _,.im 2 _]) j lT j j)<|q (oMv j j)<|q (oCa (xs:=[.v true [.im 0 _,.im 0 _,.im 0 _,.im 0 _,.im 0 _,.im 0 _,.im 0 _,.im 0 _,.im 2 _],.v true [.im 0 _,.im 0 _,.im 0 _,.im 0 _,.im 0 _,.im 0 _,.im 0 _,.im 0 _,.im 2 _],.v false [.im 0 _]]) (vs:=[(false,[.im 0 _])]) (v:=.v false [.im 0 _]) (rH F8) (.inl j) j rF j (ppC j (ppC j (ppC j pp0))) j j pb0 j j j)<|q (ah j j)<|q (ah j j)<|nl)<|us<|Go.ret (Unw.ret ?_)
   cases h
   exact fr Y6 j
theorem IL {jv:(List Int)} {CY:(List Int)} {r:Bool} (h:vw jv CY=some r):FX 4 [.im 2 false [W 1 (eK .u8) jv],.im 2 false [W 1 (eK .u8) CY]] (B0 [(false,[.im 0 (V r)])]):=by
 unfold vw at h
 refine gn 174 Try.func4 rfl ?_
 refine gs<|g0 j j (q (ah j j)<|nl)<|us<|gs<|gs<|?_
 obtain ⟨x26,Uk,h⟩:=bs h
 obtain ⟨KJ,OQ,h⟩:=bs h
 refine gX c4 j j j (mk [(0,D 2 (W 1 (eK .u8) jv)),(1,D 2 (W 1 (eK .u8) CY)),(30,bv KJ)] []) ?_ ?_
 ·refine xq (oMv j j)<|xq (oCa (xs:=[.v false [.im 2 _]]) (vs:=[(false,[.im 0 _])]) (v:=.v false [.im 0 _]) (AZ Uk) (.inl j) j Qm j (ppC j pp0) j j pb0 j j j)<|xq (oMv j j)<|?_
  refine ic OQ (fun hc1 OQ=>?_) fun hc1 OQ=>?_
  ·cases OQ
   exact az j j (iR.2 hc1) j<|az j j (iR.2 hc1) j<|xq (dn j j (iR.2 hc1) j)<|xn
  ·obtain ⟨x29,hx29,OQ⟩:=bs OQ
   cases OQ
   exact xqT j j (byF iR hc1) (oMv j j)<|xqT j j (byF iR hc1) (oCa (xs:=[.v false [.im 2 _]]) (vs:=[(false,[.im 0 _])]) (v:=.v false [.im 0 _]) (AZ hx29) (.inl j) j Qm j (ppC j pp0) j j pb0 j j j)<|xq (gY j j (byF iR hc1) j)<|xn
 ·refine us<|gc h j iR (fun hc2 h=>?_) fun hc2 h=>?_
  ·refine gs<|g0 j j (q (ah j j)<|nl)<|us<|Go.ret (Unw.ret ?_)
   cases h
   exact fr rF4 j
  ·refine Go.skip<|us<|gs<|?_
   obtain ⟨x33,OI,h⟩:=bs h
   refine g0 j j (q (oMv j j)<|q (oCr (xs:=[.v false [.im 2 _]]) (vs:=[(false,[.own 33 0 0]),(false,[.im 0 _]),(false,[.im 0 _])]) (v:=.tup [(false,[.own 33 0 0]),(false,[.im 0 _]),(false,[.im 0 _])]) (c:=⟨.sh,0,_⟩) (cs:=[]) (Bg OI) (.inl j) j VQ j (ppC j pp0) j j pb0 j j j)<|q (EN j j)<|q (oEx j j j)<|q (oEx j j j)<|q (oEx j j j)<|q (kX j j j j j)<|q (ah j j)<|q (ah j j)<|nl)<|us<|gs<|?_
   obtain ⟨x41,KY,h⟩:=bs h
   refine g0 j j (q (oMv j j)<|q (oMv j j)<|q (oMv j j)<|q (oCr (xs:=[.v false [.own 5 0 0],.v false [.im 0 _],.v false [.im 0 _]]) (vs:=[(false,[.own 41 0 0]),(false,[.im 0 _]),(false,[.im 0 _])]) (v:=.tup [(false,[.own 41 0 0]),(false,[.im 0 _]),(false,[.im 0 _])]) (c:=⟨.sh,0,_⟩) (cs:=[]) (Fz KY) (.inl j) j Na j (ppC j (ppC j (ppC j pp0))) j j pb0 j j j)<|q (EN j j)<|q (oEx j j j)<|q (oEx j j j)<|q (oEx j j j)<|q (kX j j j j j)<|q (ah j j)<|q (ah j j)<|nl)<|us<|gs<|?_
   obtain ⟨x48,aa6,h⟩:=bs h
   refine g0 j j (q (oMv j j)<|q (oMv j j)<|q (oCr (xs:=[.v false [.own 5 0 0],.v false [.im 0 _]]) (vs:=[(false,[.own 48 0 0]),(false,[.im 0 _])]) (v:=.tup [(false,[.own 48 0 0]),(false,[.im 0 _])]) (c:=⟨.sh,0,_⟩) (cs:=[]) (Dt aa6) (.inl j) j Rh j (ppC j (ppC j pp0)) j j pb0 j j j)<|q (EN j j)<|q (oEx j j j)<|q (oEx j j j)<|q (kX j j j j j)<|q (ah j j)<|nl)<|us<|gs<|gs<|g0 j j (q (oMv j j)<|q (oBi j j j j)<|nl)<|us<|gc h j iNe (fun hc3 h=>?_) fun hc3 h=>?_
   ·refine gs<|gX c4 j j j (mk [(4,bv (((x41.1.length:Int)==0)&&(x41.2.1==0)))] []) ?_ ?_
    ·refine xq (oMv j j)<|xq (FY j j vz j j j (fun e=>nomatch e))<|xq (oBi j j j j)<|xq (oMv j j)<|?_
     by_cases hc4:(x41.1.length:Int)=0
     ·exact xqT rfl rfl (iEq.2 hc4) (oMv rfl rfl)<|xqT rfl rfl (iEq.2 hc4) (oBi rfl rfl rfl rfl)<|xq (dn rfl rfl (iEq.2 hc4) rfl)<|xq (ah rfl rfl)<|xn (Eq.trans (b:=(fun Du:Bool=>mk [(4,bv Du)] []) (x41.2.1==0)) (by kernel_rfl) (congrArg (fun Du:Bool=>mk [(4,bv Du)] []) (by first | rfl | (simp [(iEq.2 hc4)];done) | (simp [(iEq.2 hc4)];omega))))
     ·exact az rfl rfl (byF iEq hc4) rfl<|az rfl rfl (byF iEq hc4) rfl<|xq (gY rfl rfl (byF iEq hc4) rfl)<|xq (ah rfl rfl)<|xn (Eq.trans (b:=(fun Du:Bool=>mk [(4,bv Du)] []) false) (by kernel_rfl) (congrArg (fun Du:Bool=>mk [(4,bv Du)] []) (by first | rfl | (simp [(byF iEq hc4)];done) | (simp [(byF iEq hc4)];omega))))
    ·refine us<|Go.ret (Unw.ret ?_)
     cases h
     exact fr rF4 j
   ·refine Go.skip<|us<|gs<|?_
    obtain ⟨x64,Di,h⟩:=bs h
    refine g0 j j (q (oMv j j)<|q (oMv j j)<|q (oMv j j)<|q (oCa (xs:=[.v false [.own 5 0 0],.v false [.own 8 0 0],.v false [.im 0 _]]) (vs:=[(false,[.im 0 _]),(false,[.im 0 _])]) (v:=.tup [(false,[.im 0 _]),(false,[.im 0 _])]) (xP Di) (.inl j) j Eg j (ppC j (ppC j (ppC j pp0))) j j pb0 j j j)<|q (EN j j)<|q (oEx j j j)<|q (oEx j j j)<|q (ah j j)<|q (ah j j)<|nl)<|us<|gs<|?_
    obtain ⟨x71,Ep,h⟩:=bs h
    refine g0 j j (q (oMv j j)<|q (oMv j j)<|q (oMv j j)<|q (oCa (xs:=[.v false [.own 5 0 0],.v false [.own 11 0 0],.v false [.im 0 _]]) (vs:=[(false,[.im 0 _]),(false,[.im 0 _])]) (v:=.tup [(false,[.im 0 _]),(false,[.im 0 _])]) (xP Ep) (.inl j) j Eg j (ppC j (ppC j (ppC j pp0))) j j pb0 j j j)<|q (EN j j)<|q (oEx j j j)<|q (oEx j j j)<|q (ah j j)<|q (ah j j)<|nl)<|us<|gs<|gs<|?_
    obtain ⟨EW,tJ,h⟩:=bs h
    refine gX c4 j j j (mk [(1,D 2 (W 1 (eK .u8) CY)),(108,bv EW)] []) ?_ ?_
    ·refine xq (oMv j j)<|xq (oBi j j j j)<|xq (oMv j j)<|?_
     refine ic tJ (fun hc5 tJ=>?_) fun hc5 tJ=>?_
     ·cases tJ
      exact az j j (iNe.2 hc5) j<|az j j (iNe.2 hc5) j<|xq (dn j j (iNe.2 hc5) j)<|xq (oMv j j)<|az j j j j<|az j j j j<|az j j j j<|xq (dn j j j j)<|xq (oMv j j)<|az j j j j<|az j j j j<|az j j j j<|az j j j j<|az j j j j<|az j j j j<|xq (dn j j j j)<|xq (oMv j j)<|az j j j j<|az j j j j<|az j j j j<|az j j j j<|az j j j j<|xq (dn j j j j)<|xq (oMv j j)<|az j j j j<|az j j j j<|xq (dn j j j j)<|xq (oMv j j)<|az j j j j<|az j j j j<|az j j j j<|xq (dn j j j j)<|xn
     ·refine xqT j j (byF iNe hc5) (oMv j j)<|xqT j j (byF iNe hc5) (oBi j j j j)<|xq (gY j j (byF iNe hc5) j)<|xq (oMv j j)<|?_
      refine ic tJ (fun hc6 tJ=>?_) fun hc6 tJ=>?_
      ·cases tJ
       exact az j j (iNe.2 hc6) j<|az j j (iNe.2 hc6) j<|az j j (iNe.2 hc6) j<|xq (dn j j (iNe.2 hc6) j)<|xq (oMv j j)<|az j j j j<|az j j j j<|az j j j j<|az j j j j<|az j j j j<|az j j j j<|xq (dn j j j j)<|xq (oMv j j)<|az j j j j<|az j j j j<|az j j j j<|az j j j j<|az j j j j<|xq (dn j j j j)<|xq (oMv j j)<|az j j j j<|az j j j j<|xq (dn j j j j)<|xq (oMv j j)<|az j j j j<|az j j j j<|az j j j j<|xq (dn j j j j)<|xn
      ·refine xqT j j (byF iNe hc6) (oMv j j)<|xqT j j (byF iNe hc6) (oMv j j)<|xqT j j (byF iNe hc6) (oBi j j j j)<|xq (gY j j (byF iNe hc6) j)<|xq (oMv j j)<|?_
       refine ic tJ (fun hc7 tJ=>?_) fun hc7 tJ=>?_
       ·cases tJ
        exact az j j (iNe.2 hc7) j<|az j j (iNe.2 hc7) j<|az j j (iNe.2 hc7) j<|az j j (iNe.2 hc7) j<|az j j (iNe.2 hc7) j<|az j j (iNe.2 hc7) j<|xq (dn j j (iNe.2 hc7) j)<|xq (oMv j j)<|az j j j j<|az j j j j<|az j j j j<|az j j j j<|az j j j j<|xq (dn j j j j)<|xq (oMv j j)<|az j j j j<|az j j j j<|xq (dn j j j j)<|xq (oMv j j)<|az j j j j<|az j j j j<|az j j j j<|xq (dn j j j j)<|xn
       ·obtain ⟨x90,hx90,tJ⟩:=bs tJ
        refine xqT j j (byF iNe hc7) (oMv j j)<|xqT j j (byF iNe hc7) (FY j j vz j j j (fun e=>nomatch e))<|xqT j j (byF iNe hc7) (oMv j j)<|xqT j j (byF iNe hc7) (FY j j y5 j j j (fun e=>nomatch e))<|xqT j j (byF iNe hc7) (Yx j hx90 j j)<|xqT j j (byF iNe hc7) (oBi j j j j)<|xq (gY j j (byF iNe hc7) j)<|xq (oMv j j)<|?_
        refine ic tJ (fun hc8 tJ=>?_) fun hc8 tJ=>?_
        ·cases tJ
         exact az j j (iNe.2 hc8) j<|az j j (iNe.2 hc8) j<|az j j (iNe.2 hc8) j<|az j j (iNe.2 hc8) j<|az j j (iNe.2 hc8) j<|xq (dn j j (iNe.2 hc8) j)<|xq (oMv j j)<|az j j j j<|az j j j j<|xq (dn j j j j)<|xq (oMv j j)<|az j j j j<|az j j j j<|az j j j j<|xq (dn j j j j)<|xn
        ·refine xqT j j (byF iNe hc8) (oMv j j)<|xqT j j (byF iNe hc8) (FY j j vz j j j (fun e=>nomatch e))<|xqT j j (byF iNe hc8) (oMv j j)<|xqT j j (byF iNe hc8) (FY j j vz j j j (fun e=>nomatch e))<|xqT j j (byF iNe hc8) (oBi j j j j)<|xq (gY j j (byF iNe hc8) j)<|xq (oMv j j)<|?_
         refine ic tJ (fun hc9 tJ=>?_) fun hc9 tJ=>?_
         ·cases tJ
          exact az j j (iNe.2 hc9) j<|az j j (iNe.2 hc9) j<|xq (dn j j (iNe.2 hc9) j)<|xq (oMv j j)<|az j j j j<|az j j j j<|az j j j j<|xq (dn j j j j)<|xn
         ·refine xqT j j (byF iNe hc9) (oMv j j)<|xqT j j (byF iNe hc9) (oBi j j j j)<|xq (gY j j (byF iNe hc9) j)<|xq (oMv j j)<|?_
          refine ic tJ (fun Bd tJ=>?_) fun Bd tJ=>?_
          ·cases tJ
           exact az j j (iNe.2 Bd) j<|az j j (iNe.2 Bd) j<|az j j (iNe.2 Bd) j<|xq (dn j j (iNe.2 Bd) j)<|xn
          ·cases tJ
           exact xqT j j (byF iNe Bd) (oMv j j)<|xqT j j (byF iNe Bd) (oMv j j)<|xqT j j (byF iNe Bd) (oBi j j j j)<|xq (gY j j (byF iNe Bd) j)<|xn
    ·refine us<|gc h j iR (fun OJ h=>?_) fun OJ h=>?_
     ·refine gs<|g0 j j (q (ah j j)<|nl)<|us<|Go.ret (Unw.ret ?_)
      cases h
      exact fr rF4 j
     ·refine Go.skip<|us<|gs<|?_
      obtain ⟨dH,Um,h⟩:=bs h
      refine g0 j j (q (oMv j j)<|q (oCr (xs:=[.v false [.im 2 _]]) (vs:=[(false,[.own 111 0 0]),(false,[.im 0 _]),(false,[.im 0 _])]) (v:=.tup [(false,[.own 111 0 0]),(false,[.im 0 _]),(false,[.im 0 _])]) (c:=⟨.sh,0,_⟩) (cs:=[]) (Bj Um) (.inl j) j VR j (ppC j pp0) j j pb0 j j j)<|q (EN j j)<|q (oEx j j j)<|q (oEx j j j)<|q (oEx j j j)<|q (kX j j j j j)<|q (ah j j)<|q (ah j j)<|nl)<|us<|gs<|?_
      obtain ⟨jy,Zt,h⟩:=bs h
      refine g0 j j (q (oMv j j)<|q (oMv j j)<|q (oMv j j)<|q (oCa (xs:=[.v false [.own 17 0 0],.v false [.im 0 _],.v false [.im 0 _]]) (vs:=[(false,[.im 0 _]),(false,[.im 0 _]),(false,[.im 0 _])]) (v:=.tup [(false,[.im 0 _]),(false,[.im 0 _]),(false,[.im 0 _])]) (FC Zt) (.inl j) j Nc j (ppC j (ppC j (ppC j pp0))) j j pb0 j j j)<|q (EN j j)<|q (oEx j j j)<|q (oEx j j j)<|q (oEx j j j)<|q (ah j j)<|q (ah j j)<|q (ah j j)<|nl)<|us<|gs<|gs<|g0 j j (q (oMv j j)<|q (oBi j j j j)<|nl)<|us<|gc h j iNe (fun hc12 h=>?_) fun hc12 h=>?_
      ·refine gs<|gX c4 j j j (mk [(4,bv ((jy.1==0)&&(jy.2.1==0)))] []) ?_ ?_
       ·refine xq (oMv j j)<|xq (oBi j j j j)<|xq (oMv j j)<|?_
        by_cases hc13:jy.1=0
        ·exact xqT rfl rfl (iEq.2 hc13) (oMv rfl rfl)<|xqT rfl rfl (iEq.2 hc13) (oBi rfl rfl rfl rfl)<|xq (dn rfl rfl (iEq.2 hc13) rfl)<|xq (ah rfl rfl)<|xn (Eq.trans (b:=(fun zN:Bool=>mk [(4,bv zN)] []) (jy.2.1==0)) (by kernel_rfl) (congrArg (fun zN:Bool=>mk [(4,bv zN)] []) (by first | rfl | (simp [(iEq.2 hc13)];done) | (simp [(iEq.2 hc13)];omega))))
        ·exact az rfl rfl (byF iEq hc13) rfl<|az rfl rfl (byF iEq hc13) rfl<|xq (gY rfl rfl (byF iEq hc13) rfl)<|xq (ah rfl rfl)<|xn (Eq.trans (b:=(fun zN:Bool=>mk [(4,bv zN)] []) false) (by kernel_rfl) (congrArg (fun zN:Bool=>mk [(4,bv zN)] []) (by first | rfl | (simp [(byF iEq hc13)];done) | (simp [(byF iEq hc13)];omega))))
       ·refine us<|Go.ret (Unw.ret ?_)
        cases h
        exact fr rF4 j
      ·refine Go.skip<|us<|gs<|gs<|gX c4 j j j (mk [(17,H 17 0),(18,iv dH.2.1),(19,bv dH.2.2),(20,iv jy.1),(21,iv jy.2.1),(153,bv ((decide (jy.1<0))||((decide (jy.1≥(dH.1.length:Int)))||((jy.1==dH.2.1)||((decide (dH.2.1<0))||(decide (dH.2.1≥(dH.1.length:Int))))))))] [(17,Oc [Z (W 9 ae dH.1)])]) ?_ ?_
       ·refine xq (oMv j j)<|xq (oBi j j j j)<|xq (oMv j j)<|?_
        by_cases uM:jy.1<0
        ·exact az rfl rfl (af.2 uM) rfl<|az rfl rfl (af.2 uM) rfl<|az rfl rfl (af.2 uM) rfl<|az rfl rfl (af.2 uM) rfl<|xq (dn rfl rfl (af.2 uM) rfl)<|xq (oMv rfl rfl)<|az rfl rfl rfl rfl<|az rfl rfl rfl rfl<|az rfl rfl rfl rfl<|xq (dn rfl rfl rfl rfl)<|xq (oMv rfl rfl)<|az rfl rfl rfl rfl<|az rfl rfl rfl rfl<|xq (dn rfl rfl rfl rfl)<|xq (oMv rfl rfl)<|az rfl rfl rfl rfl<|az rfl rfl rfl rfl<|az rfl rfl rfl rfl<|az rfl rfl rfl rfl<|xq (dn rfl rfl rfl rfl)<|xn (Eq.trans (b:=(fun gp:Bool=>mk [(17,H 17 0),(18,iv dH.2.1),(19,bv dH.2.2),(20,iv jy.1),(21,iv jy.2.1),(153,bv gp)] [(17,Oc [Z (W 9 ae dH.1)])]) true) (by kernel_rfl) (congrArg (fun gp:Bool=>mk [(17,H 17 0),(18,iv dH.2.1),(19,bv dH.2.2),(20,iv jy.1),(21,iv jy.2.1),(153,bv gp)] [(17,Oc [Z (W 9 ae dH.1)])]) (by first | rfl | (simp [(af.2 uM)];done) | (simp [(af.2 uM)];omega))))
        ·refine xqT j j (byF af uM) (oMv j j)<|xqT j j (byF af uM) (oMv j j)<|xqT j j (byF af uM) (FY j j y5 j j j (fun e=>nomatch e))<|xqT j j (byF af uM) (oBi j j j j)<|xq (gY j j (byF af uM) j)<|xq (oMv j j)<|?_
         by_cases vC:jy.1≥(dH.1.length:Int)
         ·exact az rfl rfl (af.2 vC) rfl<|az rfl rfl (af.2 vC) rfl<|az rfl rfl (af.2 vC) rfl<|xq (dn rfl rfl (af.2 vC) rfl)<|xq (oMv rfl rfl)<|az rfl rfl rfl rfl<|az rfl rfl rfl rfl<|xq (dn rfl rfl rfl rfl)<|xq (oMv rfl rfl)<|az rfl rfl rfl rfl<|az rfl rfl rfl rfl<|az rfl rfl rfl rfl<|az rfl rfl rfl rfl<|xq (dn rfl rfl rfl rfl)<|xn (Eq.trans (b:=(fun gp:Bool=>mk [(17,H 17 0),(18,iv dH.2.1),(19,bv dH.2.2),(20,iv jy.1),(21,iv jy.2.1),(153,bv gp)] [(17,Oc [Z (W 9 ae dH.1)])]) true) (by kernel_rfl) (congrArg (fun gp:Bool=>mk [(17,H 17 0),(18,iv dH.2.1),(19,bv dH.2.2),(20,iv jy.1),(21,iv jy.2.1),(153,bv gp)] [(17,Oc [Z (W 9 ae dH.1)])]) (by first | rfl | (simp [(byF af uM),(af.2 vC)];done) | (simp [(byF af uM),(af.2 vC)];omega) | (have q0:=(byF af uM);have q1:=(af.2 vC);simp_all))))
         ·refine xqT j j (byF af vC) (oMv j j)<|xqT j j (byF af vC) (oMv j j)<|xqT j j (byF af vC) (oBi j j j j)<|xq (gY j j (byF af vC) j)<|xq (oMv j j)<|?_
          by_cases hc16:jy.1=dH.2.1
          ·exact az rfl rfl (iEq.2 hc16) rfl<|az rfl rfl (iEq.2 hc16) rfl<|xq (dn rfl rfl (iEq.2 hc16) rfl)<|xq (oMv rfl rfl)<|az rfl rfl rfl rfl<|az rfl rfl rfl rfl<|az rfl rfl rfl rfl<|az rfl rfl rfl rfl<|xq (dn rfl rfl rfl rfl)<|xn (Eq.trans (b:=(fun gp:Bool=>mk [(17,H 17 0),(18,iv dH.2.1),(19,bv dH.2.2),(20,iv jy.1),(21,iv jy.2.1),(153,bv gp)] [(17,Oc [Z (W 9 ae dH.1)])]) true) (by kernel_rfl) (congrArg (fun gp:Bool=>mk [(17,H 17 0),(18,iv dH.2.1),(19,bv dH.2.2),(20,iv jy.1),(21,iv jy.2.1),(153,bv gp)] [(17,Oc [Z (W 9 ae dH.1)])]) (by first | rfl | (simp [(byF af uM),(byF af vC),(iEq.2 hc16)];done) | (simp [(byF af uM),(byF af vC),(iEq.2 hc16)];omega) | (have q0:=(byF af uM);have q1:=(byF af vC);have q2:=(iEq.2 hc16);simp_all))))
          ·refine xqT j j (byF iEq hc16) (oMv j j)<|xqT j j (byF iEq hc16) (oBi j j j j)<|xq (gY j j (byF iEq hc16) j)<|xq (oMv j j)<|?_
           by_cases hc17:dH.2.1<0
           ·exact az rfl rfl (af.2 hc17) rfl<|az rfl rfl (af.2 hc17) rfl<|az rfl rfl (af.2 hc17) rfl<|az rfl rfl (af.2 hc17) rfl<|xq (dn rfl rfl (af.2 hc17) rfl)<|xn (Eq.trans (b:=(fun gp:Bool=>mk [(17,H 17 0),(18,iv dH.2.1),(19,bv dH.2.2),(20,iv jy.1),(21,iv jy.2.1),(153,bv gp)] [(17,Oc [Z (W 9 ae dH.1)])]) true) (by kernel_rfl) (congrArg (fun gp:Bool=>mk [(17,H 17 0),(18,iv dH.2.1),(19,bv dH.2.2),(20,iv jy.1),(21,iv jy.2.1),(153,bv gp)] [(17,Oc [Z (W 9 ae dH.1)])]) (by first | rfl | (simp [(byF af uM),(byF af vC),(byF iEq hc16),(af.2 hc17)];done) | (simp [(byF af uM),(byF af vC),(byF iEq hc16),(af.2 hc17)];omega) | (have q0:=(byF af uM);have q1:=(byF af vC);have q2:=(byF iEq hc16);have q3:=(af.2 hc17);simp_all))))
           ·exact xqT rfl rfl (byF af hc17) (oMv rfl rfl)<|xqT rfl rfl (byF af hc17) (oMv rfl rfl)<|xqT rfl rfl (byF af hc17) (FY rfl rfl y5 rfl rfl rfl (fun e=>nomatch e))<|xqT rfl rfl (byF af hc17) (oBi rfl rfl rfl rfl)<|xq (gY rfl rfl (byF af hc17) rfl)<|xn (Eq.trans (b:=(fun gp:Bool=>mk [(17,H 17 0),(18,iv dH.2.1),(19,bv dH.2.2),(20,iv jy.1),(21,iv jy.2.1),(153,bv gp)] [(17,Oc [Z (W 9 ae dH.1)])]) (decide (dH.2.1≥(dH.1.length:Int)))) (by kernel_rfl) (congrArg (fun gp:Bool=>mk [(17,H 17 0),(18,iv dH.2.1),(19,bv dH.2.2),(20,iv jy.1),(21,iv jy.2.1),(153,bv gp)] [(17,Oc [Z (W 9 ae dH.1)])]) (by first | rfl | (simp [(byF af uM),(byF af vC),(byF iEq hc16),(byF af hc17)];done) | (simp [(byF af uM),(byF af vC),(byF iEq hc16),(byF af hc17)];omega) | (have q0:=(byF af uM);have q1:=(byF af vC);have q2:=(byF iEq hc16);have q3:=(byF af hc17);simp_all))))
       ·refine us<|gc h j (iOr af (iOr af (iOr iEq (iOr af af)))) (fun hc18 h=>?_) fun hc18 h=>?_
        ·refine gs<|g0 j j (q (ah j j)<|nl)<|us<|Go.ret (Unw.ret ?_)
         cases h
         exact fr rF4 j
        ·refine Go.skip<|us<|gs<|?_
         obtain ⟨x157,hx157,h⟩:=bs h
         obtain ⟨Vj,WS,h⟩:=bs h
         obtain ⟨F6,Zu,h⟩:=bs h
         refine gd c4 j j j j (mk [(21,iv jy.2.1),(23,iv F6.1),(24,iv F6.2)] []) (t j j (oMv j j)<|t j j (oMv j j)<|t j j (vS j hx157 tC j j j j)<|t j j (CU (cs:=[.im 0 _,.im 0 _,.im 0 _,.im 0 _,.im 0 _,.im 0 _,.im 0 _,.im 0 _,.im 0 _]) j lT j j j j (jT hx157) j j)<|t j j (oMv j j)<|t j j (oMv j j)<|t j j (vS j WS tC j j j j)<|t j j (CU (cs:=[.im 0 _,.im 0 _,.im 0 _,.im 0 _,.im 0 _,.im 0 _,.im 0 _,.im 0 _,.im 0 _]) j lT j j j j (jT WS) j j)<|t j j (oMv j j)<|sS (dN z4 j (oCa (xs:=[.v true [.im 0 _,.im 0 _,.im 0 _,.im 0 _,.im 0 _,.im 0 _,.im 0 _,.im 0 _,.im 0 _],.v true [.im 0 _,.im 0 _,.im 0 _,.im 0 _,.im 0 _,.im 0 _,.im 0 _,.im 0 _,.im 0 _],.v false [.im 0 _]]) (vs:=[(false,[.im 0 _]),(false,[.im 0 _])]) (v:=.tup [(false,[.im 0 _]),(false,[.im 0 _])]) (Es Zu) (.inl j) j KU j (ppC j (ppC j (ppC j pp0))) j j pb0 j j j)) trivial (t j j (EN j j)<|t j j (oEx j j j)<|t j j (oEx j j j)<|sS (dN z4 j (ah j j)) trivial (sS (dN z4 j (ah j j)) trivial (sD (by kernel_rfl)))))<|us<|gs<|gX c4 j j j (mk [(4,bv ((F6.2==0)&&(F6.1==jy.2.1)))] []) ?_ ?_
         ·refine xq (oMv j j)<|xq (oBi j j j j)<|xq (oMv j j)<|?_
          by_cases hc19:F6.2=0
          ·exact xqT rfl rfl (iEq.2 hc19) (oMv rfl rfl)<|xqT rfl rfl (iEq.2 hc19) (oMv rfl rfl)<|xqT rfl rfl (iEq.2 hc19) (oBi rfl rfl rfl rfl)<|xq (dn rfl rfl (iEq.2 hc19) rfl)<|xq (ah rfl rfl)<|xn (Eq.trans (b:=(fun zO:Bool=>mk [(4,bv zO)] []) (F6.1==jy.2.1)) (by kernel_rfl) (congrArg (fun zO:Bool=>mk [(4,bv zO)] []) (by first | rfl | (simp [(iEq.2 hc19)];done) | (simp [(iEq.2 hc19)];omega))))
          ·exact az rfl rfl (byF iEq hc19) rfl<|az rfl rfl (byF iEq hc19) rfl<|az rfl rfl (byF iEq hc19) rfl<|xq (gY rfl rfl (byF iEq hc19) rfl)<|xq (ah rfl rfl)<|xn (Eq.trans (b:=(fun zO:Bool=>mk [(4,bv zO)] []) false) (by kernel_rfl) (congrArg (fun zO:Bool=>mk [(4,bv zO)] []) (by first | rfl | (simp [(byF iEq hc19)];done) | (simp [(byF iEq hc19)];omega))))
         ·refine us<|Go.ret (Unw.ret ?_)
          cases h
          exact fr rF4 j
end
end Go.Proofs.Ytjejfolfomknaaa
