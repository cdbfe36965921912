/- The machine answers, at each function of the program that is reached, what its plain function answers: a further part. Conditions: none. -/
import Derived.Test.YtngbehdgjocndaaGreatTofLb
namespace Go.Proofs.YtngbehdgjocndaaGreat
open Go Go.Sim Go.Pw Go.Proofs
set_option linter.unusedVariables false
set_option linter.unusedSimpArgs false
set_option maxRecDepth 100000
set_option maxHeartbeats 4000000
noncomputable section
theorem RD {d_0:aB} {r:eG} (h:yL d_0=some r):FX 123 [.im 2 true (au d_0)] (B0 [(true,[.im 0 (W 1 (eL 1 eI) r.near),.ow 0 1 (List.map eB r.AU)])]):=by
 unfold yL at h
 refine gn 83 Tryz.func123 rfl ?_
 refine gs<|G0 (q (pX Du j (tkI (tkI (tkI (tkI tk0)))))<|q (oAl j qB (tkN (tkN tk0)))<|nl)<|us<|gs<|?_
 obtain ⟨x10,wo,x14,kR,h⟩:=b2 h
 refine gd YZ j j j j (mk [(1,M 1),(2,M 2),(3,M 3)] [(1,Oa (G 2 (au d_0))),(2,Oa [Z (W 1 (eL 1 eI) ([]:List (List Int))),Z (W 1 eB ([]:List Bool))]),(3,Oa [C (W 1 (eL 1 eI) x10),Z (W 1 eB x14)])]) (t1 j (pL (cs:=[.im 0 _,.im 0 _,.im 2 _,.im 2 _]) Du j)<|t1 j (pF (r':=.mp 1 0 3) jD j)<|t1 j (l2 yU j)<|t1 j (pI FB j)<|s3 j (c1 (oz wo) Hw j j j j) (s3 j (oMk (en:=eB) j kR j Ju j j (fxI fx0) j (gY (L:=[_]) j fun _=>j)) (s3 j (oBu (cs:=[.im 0 _,.own 14 0 0]) j Ox j) (s1 j (oAl j qB (tkN (tkN tk0))) (s1 j (pS qB j (tkI (tkO j j tk0)) j) (sD (by kernel_rfl)))) (s1 j (oAl j qB (tkN (tkN tk0))) (s1 j (oBu (cs:=[.im 0 _,.own 14 0 0]) j Ox j) (s1 j (pS qB j (tkI (tkO j j tk0)) j) (sD (by kernel_rfl)))))) (s1 j (oAl j qB (tkN (tkN tk0))) (s1 j (oMk (en:=eB) j kR j Ju j j (fxI fx0) j (gY (L:=[_]) j fun _=>j)) (s1 j (oBu (cs:=[.im 0 _,.own 14 0 0]) j Ox j) (s1 j (pS qB j (tkI (tkO j j tk0)) j) (sD (by kernel_rfl))))))) (s3 j (oMk (en:=eB) j kR j Ju j j (fxI fx0) j (gY (L:=[_]) j fun _=>j)) (s3 j (c1 (oz wo) Hw j j j j) (s3 j (oBu (cs:=[.im 0 _,.own 14 0 0]) j Ox j) (s1 j (oAl j qB (tkN (tkN tk0))) (s1 j (pS qB j (tkI (tkO j j tk0)) j) (sD (by kernel_rfl)))) (s1 j (oAl j qB (tkN (tkN tk0))) (s1 j (oBu (cs:=[.im 0 _,.own 14 0 0]) j Ox j) (s1 j (pS qB j (tkI (tkO j j tk0)) j) (sD (by kernel_rfl)))))) (s1 j (oAl j qB (tkN (tkN tk0))) (s1 j (c1 (oz wo) Hw j j j j) (s1 j (oBu (cs:=[.im 0 _,.own 14 0 0]) j Ox j) (s1 j (pS qB j (tkI (tkO j j tk0)) j) (sD (by kernel_rfl))))))) (s1 j (oAl j qB (tkN (tkN tk0))) (s3 j (c1 (oz wo) Hw j j j j) (s1 j (oMk (en:=eB) j kR j Ju j j (fxI fx0) j (gY (L:=[_]) j fun _=>j)) (s1 j (oBu (cs:=[.im 0 _,.own 14 0 0]) j Ox j) (s1 j (pS qB j (tkI (tkO j j tk0)) j) (sD (by kernel_rfl))))) (s1 j (oMk (en:=eB) j kR j Ju j j (fxI fx0) j (gY (L:=[_]) j fun _=>j)) (s1 j (c1 (oz wo) Hw j j j j) (s1 j (oBu (cs:=[.im 0 _,.own 14 0 0]) j Ox j) (s1 j (pS qB j (tkI (tkO j j tk0)) j) (sD (by kernel_rfl))))))))))<|us<|gs<|gs<|G0 (q (pF (r':=.mp 1 0 3) jD j)<|q (l2 yU j)<|q (pI FB j)<|q (pM j)<|nl)<|us<|Go.block<|?_
 obtain ⟨o,hl,h⟩:=bs h
 refine gl YZ j _ (fun (s:(Int×(List Bool)))=>match s with | (jP,Ar)=>mk [(1,M 1),(2,M 2),(3,M 3),(18,iv (d_0.aG.length:Int)),(19,iv jP)] [(1,Oa (G 2 (au d_0))),(2,Oa [Z (W 1 (eL 1 eI) ([]:List (List Int))),Z (W 1 eB ([]:List Bool))]),(3,Oa [C (W 1 (eL 1 eI) x10),Z (W 1 eB Ar)])]) (fun (zY:(List Bool)) (p:Ex×St)=>p.1= .exit 0∧p.2.norm ([2,3],[2,3])=mk [(2,M 2),(3,M 3)] [(2,Oa [Z (W 1 (eL 1 eI) ([]:List (List Int))),Z (W 1 eB ([]:List Bool))]),(3,Oa [C (W 1 (eL 1 eI) x10),Z (W 1 eB zY)])]) hl (by kernel_rfl) ?_ ?_ ?_
 ·intro o p hp e
  exact nomatch (hp.1.symm.trans e)
 ·rintro ⟨jP,Ar⟩ o h
  unfold rU at h
  dsimp only at h
  refine gs<|G0 (q (pB j)<|nl)<|us<|gs<|gc h j ah (fun wz h=>?_) fun wz h=>?_
  ·refine Go.skip<|us<|gs<|Go.block<|gs<|G0 (q (pM j)<|q (pA j)<|nl)<|us<|gs<|?_
   obtain ⟨x24,hx24,h⟩:=bs h
   refine G0 (q (pL (cs:=[.im 0 _,.im 0 _,.im 2 _,.im 2 _]) Du j)<|q (pM j)<|q (cR (vs:=[(false,[.own 24 0 0])]) (v:=.v false [.own 24 0 0]) (c:=⟨.sh,0,_⟩) (cs:=[]) (Kr hx24) Y5 j j j j j)<|q (jU j j j j j)<|nl)<|us<|gs<|G0 (q (pM j)<|q (U7 j j Ba j j j (fun e=>nomatch e))<|q (pM j)<|nl)<|us<|Go.block<|?_
   obtain ⟨o,hl,h⟩:=bs h
   refine gl YZ j _ (fun (s:(Int×(List Bool)))=>match s with | (o6,jI)=>mk [(1,M 1),(2,M 2),(3,M 3),(4,iv jP),(5,H 5 0),(18,iv (d_0.aG.length:Int)),(19,iv jP),(25,H 5 0),(26,iv (x24.length:Int)),(27,iv o6)] [(1,Oa (G 2 (au d_0))),(2,Oa [Z (W 1 (eL 1 eI) ([]:List (List Int))),Z (W 1 eB ([]:List Bool))]),(3,Oa [C (W 1 (eL 1 eI) x10),Z (W 1 eB jI)]),(5,Oc [Z (W 2 af x24)])]) (fun (zX:(List Bool)) (p:Ex×St)=>p.1= .exit 2∧p.2.norm ([1,2,3,18,19],[1,2,3])=mk [(1,M 1),(2,M 2),(3,M 3),(18,iv (d_0.aG.length:Int)),(19,iv jP)] [(1,Oa (G 2 (au d_0))),(2,Oa [Z (W 1 (eL 1 eI) ([]:List (List Int))),Z (W 1 eB ([]:List Bool))]),(3,Oa [C (W 1 (eL 1 eI) x10),Z (W 1 eB zX)])]) hl (by kernel_rfl) ?_ ?_ ?_
   ·intro o p hp e
    exact nomatch (hp.1.symm.trans e)
   ·rintro ⟨o6,jI⟩ o h
    unfold rQ at h
    dsimp only at h
    refine gs<|G0 (q (pB j)<|nl)<|us<|gs<|gc h j ah (fun apx h=>?_) fun apx h=>?_
    ·refine Go.skip<|us<|gs<|Go.join (fun st=>∃yK,qc o6 yK=some o∧st.norm ([1,2,3,4,5,18,19,25,26,27],[1,2,3,5])=mk [(1,M 1),(2,M 2),(3,M 3),(4,iv jP),(5,H 5 0),(18,iv (d_0.aG.length:Int)),(19,iv jP),(25,H 5 0),(26,iv (x24.length:Int)),(27,iv o6)] [(1,Oa (G 2 (au d_0))),(2,Oa [Z (W 1 (eL 1 eI) ([]:List (List Int))),Z (W 1 eB ([]:List Bool))]),(3,Oa [C (W 1 (eL 1 eI) x10),Z (W 1 eB yK)]),(5,Oc [Z (W 2 af x24)])]) ?_ ?_
     ·rintro st ⟨yK,h,hst⟩
      unfold qc at h
      refine us<|g2 YZ j j hst (q (pB j)<|q (pM j)<|nl)<|Unw.nil<|?_
      cases h
      exact ⟨j,(by kernel_rfl)⟩
     ·intro K74
      refine Go.block<|gs<|?_
      obtain ⟨x30,Jf,h⟩:=bs h
      refine G0 (q (pM j)<|q (Gm j Jf oZ j j j j)<|q (YK (cs:=[.im 0 _,.im 0 _]) j aC j j j j (oH Jf) j j)<|q (oAl j aC (tkI (tkI tk0)))<|q (pA j)<|q (pS aC j (tkI (tkI tk0)) j)<|nl)<|us<|gs<|?_
      obtain ⟨x37,Rk,x38,hx38,h⟩:=b2 h
      refine g1 j j (mk [(1,M 1),(2,M 2),(3,M 3),(4,iv jP),(5,H 5 0),(6,iv o6),(7,M 7),(18,iv (d_0.aG.length:Int)),(19,iv jP),(25,H 5 0),(26,iv (x24.length:Int)),(27,iv o6)] [(1,Oa (G 2 (au d_0))),(2,Oa [Z (W 1 (eL 1 eI) ([]:List (List Int))),Z (W 1 eB ([]:List Bool))]),(3,Oa [C (W 1 (eL 1 eI) x10),Z (W 1 eB jI)]),(5,Oc [Z (W 2 af x24)]),(7,Oa (G 0 (aN x30)))]) (q (pM j)<|q (pM j)<|q (pB j)<|q (pM j)<|q (U7 j j Ba j j j (fun e=>nomatch e))<|q (Ja j Rk j j)<|q (Gm j hx38 oZ j j j j)<|q (YK (cs:=[.im 0 _,.im 0 _]) j aC j j j j (oH hx38) j j)<|q (oAl j aC (tkI (tkI tk0)))<|q (pS aC j (tkI (tkI tk0)) j)<|nl)<|us<|gs<|?_
      obtain ⟨QF,yZ,h⟩:=bs h
      refine gX YZ j j (st1:=mk [(1,M 1),(2,M 2),(3,M 3),(4,iv jP),(5,H 5 0),(7,M 7),(8,M 8),(18,iv (d_0.aG.length:Int)),(19,iv jP),(25,H 5 0),(26,iv (x24.length:Int)),(27,iv o6)] [(1,Oa (G 2 (au d_0))),(2,Oa [Z (W 1 (eL 1 eI) ([]:List (List Int))),Z (W 1 eB ([]:List Bool))]),(3,Oa [C (W 1 (eL 1 eI) x10),Z (W 1 eB jI)]),(5,Oc [Z (W 2 af x24)]),(7,Oa (G 0 (aN x30))),(8,Oa (G 0 (aN x38)))]) (by kernel_rfl) (mk [(1,M 1),(2,M 2),(3,M 3),(4,iv jP),(5,H 5 0),(18,iv (d_0.aG.length:Int)),(19,iv jP),(25,H 5 0),(26,iv (x24.length:Int)),(27,iv o6),(75,bv QF)] [(1,Oa (G 2 (au d_0))),(2,Oa [Z (W 1 (eL 1 eI) ([]:List (List Int))),Z (W 1 eB ([]:List Bool))]),(3,Oa [C (W 1 (eL 1 eI) x10),Z (W 1 eB jI)]),(5,Oc [Z (W 2 af x24)])]) ?_ ?_
      ·refine xq (pF (r':=.mp 7 0 0) dO j)<|xq (l0 tF2 j)<|xq (pF (r':=.mp 8 0 0) dO j)<|xq (l0 tF2 j)<|xq (pB j)<|xq (pM j)<|?_
       refine ic yZ (fun Kt yZ=>?_) fun Kt yZ=>?_
       ·refine xG j (iEq.2 Kt) (pF (r':=.mp 7 0 0) dO j)<|xG j (iEq.2 Kt) (l0 tF2 j)<|xG j (iEq.2 Kt) (pB j)<|xG j (iEq.2 Kt) (pM j)<|?_
        refine ic yZ (fun NR yZ=>?_) fun NR yZ=>?_
        ·cases yZ
         exact xF j (iEq.2 NR)<|xF j (iEq.2 NR)<|xF j (iEq.2 NR)<|xF j (iEq.2 NR)<|xF j (iEq.2 NR)<|xG j (iEq.2 Kt) (pT j (iEq.2 NR))<|xq (pT j (iEq.2 Kt))<|xq (pM j)<|xF j j<|xF j j<|xF j j<|xF j j<|xF j j<|xF j j<|oW j j j<|oW j j j<|oW j j j<|oW j j j<|oW j j j<|oW j j j<|oW j j j<|oW j j j<|oW j j j<|oW j j j<|xF j j<|xq (pT j j)<|xn
        ·refine xG j (byF iEq NR) (pF (r':=.mp 7 0 0) dO j)<|xG j (byF iEq NR) (l0 tF2 j)<|xG j (byF iEq NR) (pF (r':=.mp 1 0 0) Fh j)<|xG j (byF iEq NR) (l0 tF2 j)<|xG j (byF iEq NR) (pB j)<|xG j (iEq.2 Kt) (pW j (byF iEq NR))<|xq (pT j (iEq.2 Kt))<|xq (pM j)<|?_
         refine ic yZ (fun Eb yZ=>?_) fun Eb yZ=>?_
         ·cases yZ
          exact xF j (iEq.2 Eb)<|xF j (iEq.2 Eb)<|xF j (iEq.2 Eb)<|xF j (iEq.2 Eb)<|xF j (iEq.2 Eb)<|xF j (iEq.2 Eb)<|oW j j j<|oW j j j<|oW j j j<|oW j j j<|oW j j j<|oW j j j<|oW j j j<|oW j j j<|oW j j j<|oW j j j<|xF j (iEq.2 Eb)<|xq (pT j (iEq.2 Eb))<|xn
         ·refine xG j (byF iEq Eb) (pF (r':=.mp 7 0 1) dH j)<|xG j (byF iEq Eb) (l0 tF2 j)<|xG j (byF iEq Eb) (pF (r':=.mp 8 0 1) dH j)<|xG j (byF iEq Eb) (l0 tF2 j)<|xG j (byF iEq Eb) (pB j)<|xG j (byF iEq Eb) (pM j)<|?_
          refine ic yZ (fun Ku yZ=>?_) fun Ku yZ=>?_
          ·refine xG j (iEq.2 Ku) (pF (r':=.mp 7 0 1) dH j)<|xG j (iEq.2 Ku) (l0 tF2 j)<|xG j (iEq.2 Ku) (pB j)<|xG j (iEq.2 Ku) (pM j)<|?_
           refine ic yZ (fun NS yZ=>?_) fun NS yZ=>?_
           ·cases yZ
            exact xF j (iEq.2 NS)<|xF j (iEq.2 NS)<|xF j (iEq.2 NS)<|xF j (iEq.2 NS)<|xF j (iEq.2 NS)<|xG j (iEq.2 Ku) (pT j (iEq.2 NS))<|xG j (byF iEq Eb) (pT j (iEq.2 Ku))<|xq (pW j (byF iEq Eb))<|xn
           ·cases yZ
            exact xG j (byF iEq NS) (pF (r':=.mp 7 0 1) dH j)<|xG j (byF iEq NS) (l0 tF2 j)<|xG j (byF iEq NS) (pF (r':=.mp 1 0 1) A7 j)<|xG j (byF iEq NS) (l0 tF2 j)<|xG j (byF iEq NS) (pB j)<|xG j (iEq.2 Ku) (pW j (byF iEq NS))<|xG j (byF iEq Eb) (pT j (iEq.2 Ku))<|xq (pW j (byF iEq Eb))<|xn
          ·cases yZ
           exact xF j (byF iEq Ku)<|xF j (byF iEq Ku)<|xF j (byF iEq Ku)<|xF j (byF iEq Ku)<|oW j j j<|oW j j j<|oW j j j<|oW j j j<|oW j j j<|xF j (byF iEq Ku)<|xG j (byF iEq Eb) (pW j (byF iEq Ku))<|xq (pW j (byF iEq Eb))<|xn
       ·refine xF j (byF iEq Kt)<|xF j (byF iEq Kt)<|xF j (byF iEq Kt)<|xF j (byF iEq Kt)<|oW j j j<|oW j j j<|oW j j j<|oW j j j<|oW j j j<|xF j (byF iEq Kt)<|xq (pW j (byF iEq Kt))<|xq (pM j)<|xG j j (pF (r':=.mp 7 0 1) dH j)<|xG j j (l0 tF2 j)<|xG j j (pF (r':=.mp 8 0 1) dH j)<|xG j j (l0 tF2 j)<|xG j j (pB j)<|xG j j (pM j)<|?_
        refine ic yZ (fun Kv yZ=>?_) fun Kv yZ=>?_
        ·refine xG j (iEq.2 Kv) (pF (r':=.mp 7 0 1) dH j)<|xG j (iEq.2 Kv) (l0 tF2 j)<|xG j (iEq.2 Kv) (pB j)<|xG j (iEq.2 Kv) (pM j)<|?_
         refine ic yZ (fun NT yZ=>?_) fun NT yZ=>?_
         ·cases yZ
          exact xF j (iEq.2 NT)<|xF j (iEq.2 NT)<|xF j (iEq.2 NT)<|xF j (iEq.2 NT)<|xF j (iEq.2 NT)<|xG j (iEq.2 Kv) (pT j (iEq.2 NT))<|xG j j (pT j (iEq.2 Kv))<|xq (pW j j)<|xn
         ·cases yZ
          exact xG j (byF iEq NT) (pF (r':=.mp 7 0 1) dH j)<|xG j (byF iEq NT) (l0 tF2 j)<|xG j (byF iEq NT) (pF (r':=.mp 1 0 1) A7 j)<|xG j (byF iEq NT) (l0 tF2 j)<|xG j (byF iEq NT) (pB j)<|xG j (iEq.2 Kv) (pW j (byF iEq NT))<|xG j j (pT j (iEq.2 Kv))<|xq (pW j j)<|xn
        ·cases yZ
         exact xF j (byF iEq Kv)<|xF j (byF iEq Kv)<|xF j (byF iEq Kv)<|xF j (byF iEq Kv)<|oW j j j<|oW j j j<|oW j j j<|oW j j j<|oW j j j<|xF j (byF iEq Kv)<|xG j j (pW j (byF iEq Kv))<|xq (pW j j)<|xn
      ·refine us<|gc h j iR (fun apy h=>?_) fun apy h=>?_
       ·obtain ⟨x79,ant,h⟩:=bs h
        exact G0 (q (pF (r':=.mp 3 0 1) abf j)<|q (pL (cs:=[.own 3 0 1]) XY j)<|q (pM j)<|q (Gm j ant Ju j j j j)<|q (Qz (v':=true) tF4 j j j (fxI fx0) j j (oH ant) j)<|nl)<|Unw.blk<|K74 _ ⟨(jI.set jP.toNat true),h,(by kernel_rfl)⟩
       ·exact Go.skip<|Unw.blk<|K74 _ ⟨jI,h,(by kernel_rfl)⟩
    ·refine Go.exit<|ux<|Unw.nil<|?_
     cases h
     exact ⟨j,(by kernel_rfl)⟩
   ·rintro ⟨e,st⟩ hp
    obtain ⟨zX,rfl⟩:∃y,y=o:=⟨o,rfl⟩
    obtain ⟨he,hst⟩:=hp
    obtain rfl:e= .exit 2:=he
    refine Unw.gz<|Unw.blk<|us<|g2 YZ j j hst (q (pB j)<|q (pM j)<|nl)<|Unw.nil<|?_
    cases h
    exact ⟨j,(by kernel_rfl)⟩
  ·refine Go.exit<|ux<|Unw.nil<|?_
   cases h
   exact ⟨j,(by kernel_rfl)⟩
 ·rintro ⟨e,st⟩ hp
  obtain ⟨zY,rfl⟩:∃y,y=o:=⟨o,rfl⟩
  obtain ⟨he,hst⟩:=hp
  obtain rfl:e= .exit 0:=he
  obtain rfl:=rn h
  exact Unw.gz<|us<|gs<|g2 YZ j j hst (q (pL (cs:=[.im 0 _,.own 3 0 1]) qB j)<|q (pS qB j (tkI (tkO j j tk0)) j)<|nl)<|us<|gr ama j
theorem Gv {m_0:Int} {sW:(List Int)} {r:Bool} (h:jH m_0 sW=some r):FX 221 [.im 2 false [I m_0],.im 2 false [.cp [W 1 eI sW] 0]] (B0 [(false,[.im 0 (V r)])]):=by
 unfold jH at h
 refine gn 7 Tryz.func221 rfl ?_
 refine gs<|G0 (q (pA j)<|nl)<|us<|gs<|?_
 obtain ⟨x6,hx6,h⟩:=bs h
 obtain rfl:=rn h
 exact G0 (q (l2 l9 j)<|q (pM j)<|q (c1 (iU hx6) I4 j j j j)<|q (pA j)<|nl)<|us<|gr amJ j
theorem xA {s_0:(List Int)} {gK:(List Int)} {r:Int} (h:fH s_0 (fun b0=>jH b0 gK)=some r):FX 246 [.im 2 false [W 1 eI s_0],.im 2 false [.clo 221 [.cp [W 1 eI gK] 0]]] (B0 [(false,[.im 0 (I r)])]):=by
 unfold fH at h
 refine gn 19 Tryz.func246 rfl ?_
 refine gs<|G0 (q (pA j)<|nl)<|us<|gs<|gs<|G0 (q (pM j)<|q (pI yV j)<|q (pM j)<|nl)<|us<|Go.block<|?_
 obtain ⟨o,hl,h⟩:=bs h
 refine gl ahp j _ (fun (dA:Int)=>mk [(0,D 2 (W 1 eI s_0)),(1,D 2 (.clo 221 [.cp [W 1 eI gK] 0])),(7,iv (s_0.length:Int)),(8,iv dA)] []) (fun (o:(Unit ⊕ Int)) (p:Ex×St)=>match o with | (.inl _)=>p.1= .exit 0∧p.2.norm ([],[])=mk [] [] | (.inr r2)=>p.1= .ret∧fin Tryz.prog cfg 246 Tryz.f246 [.im 2 false [W 1 eI s_0],.im 2 false [.clo 221 [.cp [W 1 eI gK] 0]]] p.2=some (B0 [(false,[.im 0 (I r2)])])) hl (by kernel_rfl) ?_ ?_ ?_
 ·intro o p hp e
  rcases o with u | r2<;>exact nomatch (hp.1.symm.trans e)
 ·rintro dA o h
  unfold eU at h
  refine gs<|G0 (q (pB j)<|nl)<|us<|gs<|gc h j ah (fun hc5 h=>?_) fun hc5 h=>?_
  ·refine Go.skip<|us<|gs<|Go.block<|gs<|G0 (q (pM j)<|q (pA j)<|nl)<|us<|gs<|?_
   obtain ⟨x14,kR,x16,hx16,h⟩:=b2 h
   refine G0 (q (pM j)<|q (pM j)<|q (pM j)<|q (pJ kR lS j)<|q (l2 tF2 j)<|q (oCa (xs:=[.v false [.im 2 _],.v false [.im 2 _]]) (vs:=[(false,[.im 0 _])]) (v:=.v false [.im 0 _]) (Gv hx16) (.inr ⟨_,_,j,j⟩) j ach j (ppC j (ppC j pp0)) j j pb0 j j j)<|nl)<|us<|gc h j iR (fun hc6 h=>?_) fun hc6 h=>?_
   ·refine gs<|G0 (q (pM j)<|q (pA j)<|nl)<|us<|Go.ret (Unw.ret ?_)
    cases h
    exact ⟨j,(fo abq j)⟩
   ·refine Go.skip<|Unw.blk<|us<|G0 (q (pB j)<|q (pM j)<|nl)<|Unw.nil<|?_
    cases h
    exact ⟨j,(by kernel_rfl)⟩
  ·refine Go.exit<|ux<|Unw.nil<|?_
   cases h
   exact ⟨j,(by kernel_rfl)⟩
 ·rintro ⟨e,st⟩ hp
  rcases o with u | r2
  ·dsimp only at h
   obtain ⟨he,hst⟩:=hp
   obtain rfl:e= .exit 0:=he
   obtain rfl:=rn h
   exact Unw.gz<|us<|gs<|g2 ahp j j hst (q (pA j)<|nl)<|us<|gr abq j
  ·dsimp only at h
   obtain ⟨he,hfin⟩:=hp
   obtain rfl:e= .ret:=he
   cases h
   exact Unw.ret (di hfin)
theorem vO {s_0:(List Int)} {gK:(List Int)} {r:Bool} (h:dh s_0 (fun b0=>jH b0 gK)=some r):FX 220 [.im 2 false [W 1 eI s_0],.im 2 false [.clo 221 [.cp [W 1 eI gK] 0]]] (B0 [(false,[.im 0 (V r)])]):=by
 unfold dh at h
 refine gn 9 Tryz.func220 rfl ?_
 refine gs<|G0 (q (pA j)<|nl)<|us<|gs<|?_
 obtain ⟨x7,hx7,h⟩:=bs h
 obtain rfl:=rn h
 exact G0 (q (pM j)<|q (pM j)<|q (c1 (xA hx7) Ls j j j j)<|q (pB j)<|q (pA j)<|nl)<|us<|gr aiR j
theorem LU {s_0:eG} {dw:(List Int)} {k_2:Int} {r:Bool} (h:rV s_0 dw k_2=some r):FX 175 [.im 2 true (jC s_0),.im 2 false [W 1 eI dw],.im 2 false [I k_2]] (B0 [(false,[.im 0 (V r)])]):=by
 unfold rV at h
 refine gn 19 Tryz.func175 rfl ?_
 refine gs<|G0 (q (pX qB j (tkI (tkI tk0)))<|q (pX l9 j (tkI tk0))<|q (pA j)<|nl)<|us<|gs<|?_
 obtain ⟨fP,hm2,h⟩:=bs h
 refine gX c175 j j j (mk [(6,bv fP)] []) ?_ ?_
 ·refine xq (l2 l9 j)<|xq (pI yV j)<|xq (pB j)<|xq (pM j)<|?_
  refine ic hm2 (fun hc1 hm2=>?_) fun hc1 hm2=>?_
  ·cases hm2
   exact xF j (iEq.2 hc1)<|xF j (iEq.2 hc1)<|xF j (iEq.2 hc1)<|xF j (iEq.2 hc1)<|xF j (iEq.2 hc1)<|xF j (iEq.2 hc1)<|xF j (iEq.2 hc1)<|xq (pT j (iEq.2 hc1))<|xq (pA j)<|xn
  ·obtain ⟨x14,kR,hm2⟩:=bs hm2
   obtain ⟨x17,xP,hm2⟩:=bs hm2
   cases hm2
   exact xG j (byF iEq hc1) (pF (r':=.mp 3 0 0) abe j)<|xG j (byF iEq hc1) (l2 OB j)<|xG j (byF iEq hc1) (pM j)<|xG j (byF iEq hc1) (pJ kR EF j)<|xG j (byF iEq hc1) (l2 l9 j)<|xG j (byF iEq hc1) (oMF (rs:=[.mp 4 0 0]) j j)<|xG j (byF iEq hc1) (c1 (vO xP) Lr j j j j)<|xq (pW j (byF iEq hc1))<|xq (pA j)<|xn
 ·obtain rfl:=rn h
  exact us<|gr amu j
theorem Ec {m_0:Int} {sW:(List Int)} {r:Bool} (h:iI m_0 sW=some r):FX 222 [.im 2 false [I m_0],.im 2 false [.cp [W 1 eI sW] 0]] (B0 [(false,[.im 0 (V r)])]):=by
 unfold iI at h
 refine gn 8 Tryz.func222 rfl ?_
 refine gs<|G0 (q (pA j)<|nl)<|us<|gs<|?_
 obtain ⟨x6,hx6,h⟩:=bs h
 obtain rfl:=rn h
 exact G0 (q (l2 l9 j)<|q (pM j)<|q (c1 (iU hx6) I4 j j j j)<|q (pU j)<|q (pA j)<|nl)<|us<|gr amK j
theorem xB {s_0:(List Int)} {gK:(List Int)} {r:Int} (h:fH s_0 (fun b0=>iI b0 gK)=some r):FX 246 [.im 2 false [W 1 eI s_0],.im 2 false [.clo 222 [.cp [W 1 eI gK] 0]]] (B0 [(false,[.im 0 (I r)])]):=by
 unfold fH at h
 refine gn 19 Tryz.func246 rfl ?_
 refine gs<|G0 (q (pA j)<|nl)<|us<|gs<|gs<|G0 (q (pM j)<|q (pI yV j)<|q (pM j)<|nl)<|us<|Go.block<|?_
 obtain ⟨o,hl,h⟩:=bs h
 refine gl ahp j _ (fun (dA:Int)=>mk [(0,D 2 (W 1 eI s_0)),(1,D 2 (.clo 222 [.cp [W 1 eI gK] 0])),(7,iv (s_0.length:Int)),(8,iv dA)] []) (fun (o:(Unit ⊕ Int)) (p:Ex×St)=>match o with | (.inl _)=>p.1= .exit 0∧p.2.norm ([],[])=mk [] [] | (.inr r2)=>p.1= .ret∧fin Tryz.prog cfg 246 Tryz.f246 [.im 2 false [W 1 eI s_0],.im 2 false [.clo 222 [.cp [W 1 eI gK] 0]]] p.2=some (B0 [(false,[.im 0 (I r2)])])) hl (by kernel_rfl) ?_ ?_ ?_
 ·intro o p hp e
  rcases o with u | r2<;>exact nomatch (hp.1.symm.trans e)
 ·rintro dA o h
  unfold eU at h
  refine gs<|G0 (q (pB j)<|nl)<|us<|gs<|gc h j ah (fun hc5 h=>?_) fun hc5 h=>?_
  ·refine Go.skip<|us<|gs<|Go.block<|gs<|G0 (q (pM j)<|q (pA j)<|nl)<|us<|gs<|?_
   obtain ⟨x14,kR,x16,hx16,h⟩:=b2 h
   refine G0 (q (pM j)<|q (pM j)<|q (pM j)<|q (pJ kR lS j)<|q (l2 tF2 j)<|q (oCa (xs:=[.v false [.im 2 _],.v false [.im 2 _]]) (vs:=[(false,[.im 0 _])]) (v:=.v false [.im 0 _]) (Ec hx16) (.inr ⟨_,_,j,j⟩) j aci j (ppC j (ppC j pp0)) j j pb0 j j j)<|nl)<|us<|gc h j iR (fun hc6 h=>?_) fun hc6 h=>?_
   ·refine gs<|G0 (q (pM j)<|q (pA j)<|nl)<|us<|Go.ret (Unw.ret ?_)
    cases h
    exact ⟨j,(fo abq j)⟩
   ·refine Go.skip<|Unw.blk<|us<|G0 (q (pB j)<|q (pM j)<|nl)<|Unw.nil<|?_
    cases h
    exact ⟨j,(by kernel_rfl)⟩
  ·refine Go.exit<|ux<|Unw.nil<|?_
   cases h
   exact ⟨j,(by kernel_rfl)⟩
 ·rintro ⟨e,st⟩ hp
  rcases o with u | r2
  ·dsimp only at h
   obtain ⟨he,hst⟩:=hp
   obtain rfl:e= .exit 0:=he
   obtain rfl:=rn h
   exact Unw.gz<|us<|gs<|g2 ahp j j hst (q (pA j)<|nl)<|us<|gr abq j
  ·dsimp only at h
   obtain ⟨he,hfin⟩:=hp
   obtain rfl:e= .ret:=he
   cases h
   exact Unw.ret (di hfin)
theorem vP {s_0:(List Int)} {gK:(List Int)} {r:Bool} (h:dh s_0 (fun b0=>iI b0 gK)=some r):FX 220 [.im 2 false [W 1 eI s_0],.im 2 false [.clo 222 [.cp [W 1 eI gK] 0]]] (B0 [(false,[.im 0 (V r)])]):=by
 unfold dh at h
 refine gn 9 Tryz.func220 rfl ?_
 refine gs<|G0 (q (pA j)<|nl)<|us<|gs<|?_
 obtain ⟨x7,hx7,h⟩:=bs h
 obtain rfl:=rn h
 exact G0 (q (pM j)<|q (pM j)<|q (c1 (xB hx7) Ls j j j j)<|q (pB j)<|q (pA j)<|nl)<|us<|gr aiR j
theorem Ij {s_0:eG} {dw:(List Int)} {k_2:Int} {r:Bool} (h:mY s_0 dw k_2=some r):FX 176 [.im 2 true (jC s_0),.im 2 false [W 1 eI dw],.im 2 false [I k_2]] (B0 [(false,[.im 0 (V r)])]):=by
 unfold mY at h
 refine gn 23 Tryz.func176 rfl ?_
 refine gs<|G0 (q (pX qB j (tkI (tkI tk0)))<|q (pX l9 j (tkI tk0))<|q (pA j)<|nl)<|us<|gs<|?_
 obtain ⟨x10,wo,fP,hm2,h⟩:=b2 h
 refine gX aor j j j (mk [(6,bv fP)] []) ?_ ?_
 ·refine xq (pF (r':=.mp 3 0 1) abf j)<|xq (l2 XY j)<|xq (pM j)<|xq (pJ wo Ju j)<|xq (l2 tF4 j)<|xq (pU j)<|xq (pM j)<|?_
  refine ic hm2 (fun hc1 hm2=>?_) fun hc1 hm2=>?_
  ·cases hm2
   exact xF j (nF (iR.2 hc1))<|xF j (nF (iR.2 hc1))<|xF j (nF (iR.2 hc1))<|xF j (nF (iR.2 hc1))<|xF j (nF (iR.2 hc1))<|xF j (nF (iR.2 hc1))<|xF j (nF (iR.2 hc1))<|xF j (nF (iR.2 hc1))<|xq (pW j (nF (iR.2 hc1)))<|xq (pA j)<|xn
  ·obtain ⟨x17,xP,hm2⟩:=bs hm2
   obtain ⟨x20,ny,hm2⟩:=bs hm2
   cases hm2
   exact xG j (nT (byF iR hc1)) (pF (r':=.mp 3 0 0) abe j)<|xG j (nT (byF iR hc1)) (l2 OB j)<|xG j (nT (byF iR hc1)) (pM j)<|xG j (nT (byF iR hc1)) (pJ xP EF j)<|xG j (nT (byF iR hc1)) (l2 l9 j)<|xG j (nT (byF iR hc1)) (oMF (rs:=[.mp 4 0 0]) j j)<|xG j (nT (byF iR hc1)) (c1 (vP ny) Lr j j j j)<|xG j (nT (byF iR hc1)) (pU j)<|xq (pT j (nT (byF iR hc1)))<|xq (pA j)<|xn
 ·obtain rfl:=rn h
  exact us<|gr amv j
theorem Ky {s_0:eG} {dw:(List Int)} {k_2:Int} {r:Int} (h:qf s_0 dw k_2=some r):FX 124 [.im 2 true (jC s_0),.im 2 false [W 1 eI dw],.im 2 false [I k_2]] (B0 [(false,[.im 0 (I r)])]):=by
 unfold qf at h
 refine gn 18 Tryz.func124 rfl ?_
 refine gs<|G0 (q (pX qB j (tkI (tkI tk0)))<|q (pA j)<|nl)<|us<|gs<|Go.block<|gs<|?_
 obtain ⟨x11,afx,h⟩:=bs h
 refine G0 (q (pL (cs:=[.im 2 _,.im 2 _]) qB j)<|q (pM j)<|q (pM j)<|q (c1 (LU afx) QU j j j j)<|q (pU j)<|q (pA j)<|nl)<|us<|?_
 by_cases hc1:x11=true
 ·rw [if_pos hc1] at h
  refine gF j (nF (iR.2 hc1))<|gs<|?_
  obtain ⟨x17,xP,h⟩:=bs h
  refine G0 (q (pL (cs:=[.im 2 _,.im 2 _]) qB j)<|q (pM j)<|q (pM j)<|q (c1 (Ij xP) QV j j j j)<|q (pA j)<|nl)<|us<|gc h j iR (fun hc2 h=>?_) fun hc2 h=>?_
  ·obtain rfl:=rn h
   exact gs<|G0 (q (pA j)<|nl)<|us<|gr afg j
  ·obtain rfl:=rn h
   exact Go.skip<|Unw.blk<|us<|gs<|G0 (q (pA j)<|nl)<|us<|gr afg j
 ·rw [if_neg hc1] at h
  obtain rfl:=rn h
  exact gT j (nT (byF iR hc1))<|gs<|G0 (q (pA j)<|nl)<|us<|gr afg j
theorem Jm {d_0:aB} {dQ:(List Int)} {r:(Int×Int×Int)} (h:tH d_0 dQ=some r):FX 73 [.im 2 true (au d_0),.im 2 false [W 1 eI dQ]] (B0 [(false,[.im 0 (I r.1)]),(false,[.im 0 (I r.2.1)]),(false,[.im 0 (I r.2.2)])]):=by
 unfold tH at h
 refine gn 42 Tryz.func73 rfl ?_
 refine gs<|G0 (q (pX Du j (tkI (tkI (tkI (tkI tk0)))))<|q (pA j)<|q (pA j)<|q (pA j)<|nl)<|us<|gs<|Go.block<|gs<|?_
 obtain ⟨x13,ou,h⟩:=bs h
 refine G0 (q (pL (cs:=[.im 0 _,.im 0 _,.im 2 _,.im 2 _]) Du j)<|q (c1 (Bv ou) XE j j j j)<|q (pU j)<|q (pA j)<|nl)<|us<|?_
 by_cases hc1:x13=true
 ·rw [if_pos hc1] at h
  refine gF j (nF (iR.2 hc1))<|gs<|?_
  obtain ⟨x20,ny,h⟩:=bs h
  refine G0 (q (pM j)<|q (pF (r':=.mp 2 0 3) jD j)<|q (l2 yU j)<|q (pI FB j)<|q (c1 (Dk ny) Uy j j j j)<|q (pU j)<|q (pA j)<|nl)<|us<|?_
  by_cases hc2:x20=true
  ·rw [if_pos hc2] at h
   refine gF j (nF (iR.2 hc2))<|Go.skip<|Unw.blk<|us<|gs<|?_
   obtain ⟨x23,oq,h⟩:=bs h
   refine G0 (q (pL (cs:=[.im 0 _,.im 0 _,.im 2 _,.im 2 _]) Du j)<|q (cR (vs:=[(true,[.im 0 _,.own 23 0 0])]) (v:=.v true [.im 0 _,.own 23 0 0]) (c:=⟨.sh,0,_⟩) (cs:=[]) (RD oq) ae0 j j j j j)<|q (oAl j qB (tkN (tkN tk0)))<|q (pS qB j (tkI (tkO j j tk0)) j)<|nl)<|us<|gs<|gs<|g1 j j (mk [(1,D 2 (W 1 eI dQ)),(7,M 7)] [(7,Oa [C (W 1 (eL 1 eI) x23.near),Z (W 1 eB x23.AU)])]) (q (pM j)<|q (pI yV j)<|q (pM j)<|nl)<|us<|Go.block<|?_
   obtain ⟨o,hl,h⟩:=bs h
   refine gl c73 j _ (fun (zZ:Int)=>mk [(1,D 2 (W 1 eI dQ)),(7,M 7),(24,D 2 (W 1 eI dQ)),(25,iv (dQ.length:Int)),(26,iv zZ)] [(7,Oa [C (W 1 (eL 1 eI) x23.near),Z (W 1 eB x23.AU)])]) (fun (o:(Unit ⊕ (Int×Int×Int))) (p:Ex×St)=>match o with | (.inl _)=>p.1= .exit 1∧p.2.norm ([],[])=mk [] [] | (.inr r2)=>p.1= .ret∧fin Tryz.prog cfg 73 Tryz.f73 [.im 2 true (au d_0),.im 2 false [W 1 eI dQ]] p.2=some (B0 [(false,[.im 0 (I r2.1)]),(false,[.im 0 (I r2.2.1)]),(false,[.im 0 (I r2.2.2)])])) hl (by kernel_rfl) ?_ ?_ ?_
   ·intro o p hp e
    rcases o with u | r2<;>exact nomatch (hp.1.symm.trans e)
   ·rintro zZ o h
    unfold jq at h
    refine gs<|G0 (q (pB j)<|nl)<|us<|gs<|gc h j ah (fun hc7 h=>?_) fun hc7 h=>?_
    ·refine Go.skip<|us<|gs<|Go.block<|gs<|?_
     obtain ⟨x29,hx29,h⟩:=bs h
     refine G0 (q (pM j)<|q (pJ hx29 lS j)<|q (l2 tF2 j)<|q (pA j)<|q (pA j)<|nl)<|us<|gs<|?_
     obtain ⟨x34,hx34,x36,H9,h⟩:=b2 h
     refine gd c73 j j j j (mk [(1,D 2 (W 1 eI dQ)),(7,M 7),(8,iv zZ),(10,iv x36),(24,D 2 (W 1 eI dQ)),(25,iv (dQ.length:Int)),(26,iv zZ)] [(7,Oa [C (W 1 (eL 1 eI) x23.near),Z (W 1 eB x23.AU)])]) (t1 j (pM j)<|t1 j (pM j)<|t1 j (pM j)<|sK (O:=[7]) j j j (dN z73 j (pL (cs:=[.im 0 _,.own 7 0 1]) qB j))<|sS (dN z73 j (ad1 j hx34 lS j bn0 (bn1 j) j j)) (kY ⟨j,trivial⟩ trivial) (sS (dN z73 j (c1 (Ky H9) QS j j j j)) (kN j trivial) (sS (dN z73 j (pA j)) (kN j trivial) (sD (by kernel_rfl)))))<|us<|gs<|G0 (q (pM j)<|q (pB j)<|nl)<|us<|gc h j iNe (fun hc8 h=>?_) fun hc8 h=>?_
     ·refine gs<|G0 (q (pM j)<|q (pM j)<|q (pA j)<|q (pA j)<|q (pA j)<|nl)<|us<|Go.ret (Unw.ret ?_)
      cases h
      exact ⟨j,(fo ah2 j)⟩
     ·refine Go.skip<|Unw.blk<|us<|G0 (q (pB j)<|q (pM j)<|nl)<|Unw.nil<|?_
      cases h
      exact ⟨j,(by kernel_rfl)⟩
    ·refine Go.exit<|ux<|Unw.nil<|?_
     cases h
     exact ⟨j,(by kernel_rfl)⟩
   ·rintro ⟨e,st⟩ hp
    rcases o with u | r2
    ·dsimp only at h
     obtain ⟨he,hst⟩:=hp
     obtain rfl:e= .exit 1:=he
     obtain rfl:=rn h
     exact Unw.gz<|us<|gs<|g2 c73 j j hst (q (pA j)<|q (pA j)<|q (pA j)<|nl)<|us<|gr ah2 j
    ·dsimp only at h
     obtain ⟨he,hfin⟩:=hp
     obtain rfl:e= .ret:=he
     cases h
     exact Unw.ret (di hfin)
  ·rw [if_neg hc2] at h
   obtain rfl:=rn h
   exact gT j (nT (byF iR hc2))<|gs<|G0 (q (pA j)<|q (pA j)<|q (pA j)<|nl)<|us<|gr ah2 j
 ·rw [if_neg hc1] at h
  obtain rfl:=rn h
  exact gT j (nT (byF iR hc1))<|gs<|G0 (q (pA j)<|q (pA j)<|q (pA j)<|nl)<|us<|gr ah2 j
theorem Ik {j_0:fM} {r:(List ai)} (h:mZ j_0=some r):FX 43 [.im 2 true (bI j_0)] (B0 [(false,[.ow 0 3 (List.map aA r)])]):=by
 unfold mZ at h
 refine gn 64 Tryz.func43 rfl ?_
 refine gs<|G0 (q (pX Gu j (tkI (tkI (tkI (tkI (tkI (tkI (tkI (tkI (tkI (tkI (tkI (tkI (tkI (tkI (tkI (tkI (tkI tk0))))))))))))))))))<|q (AP j j Y0)<|nl)<|us<|gs<|gd c43 j j j (st1:=mk [(1,M 1)] [(1,Oa (G 2 (bI j_0)))]) (by kernel_rfl) (mk [(1,M 1),(3,H 3 0),(4,D 2 (W 2 aQ j_0.aS.az.aG))] [(1,Oa (G 2 (bI j_0))),(3,Oc [Z (W 3 aA ([]:List ai))])]) (sK (O:=[1]) j j j (dN z43 j (pF (r':=.mp 1 0 0) qQ j))<|sK (O:=[1]) j j j (dN z43 j (pF (r':=.mp 1 0 0) uP j))<|sK (O:=[1]) j j j (dN z43 j (pF (r':=.mp 1 0 3) jD j))<|sK (O:=[1]) j j j (dN z43 j (l2 yU j))<|sS (dN z43 j (oBS (es:=List.map aA ([]:List ai)) j EG j pt0 (gY j fun _=>j))) (kY ⟨j,trivial⟩ (kY ⟨j,trivial⟩ (kY ⟨j,trivial⟩ (kY ⟨j,trivial⟩ trivial)))) (sS (dN z43 j (jU j j j j j)) (kY ⟨j,trivial⟩ (kY ⟨j,trivial⟩ (kY ⟨j,trivial⟩ (kY ⟨j,trivial⟩ trivial)))) (sS (dN z43 j (pA j)) (kN j (kN j (kN j (kN j trivial)))) (sD (by kernel_rfl)))))<|us<|gs<|?_
 obtain ⟨x22,qp,h⟩:=bs h
 refine G0 (q (pF (r':=.mp 1 0 0) qQ j)<|q (pF (r':=.mp 1 0 0) uP j)<|q (pL (cs:=[.im 0 _,.im 0 _,.im 2 _,.im 2 _]) Du j)<|q (pF (r':=.mp 1 0 15) zF j)<|q (l2 l9 j)<|q (cA (vs:=[(false,[.im 0 _]),(false,[.im 0 _]),(false,[.im 0 _])]) (v:=.tup [(false,[.im 0 _]),(false,[.im 0 _]),(false,[.im 0 _])]) (Jm qp) Zg j j j j j)<|q (Qy j j)<|q (oEx j j j)<|q (oEx j j j)<|q (oEx j j j)<|q (pA j)<|q (pA j)<|q (pA j)<|nl)<|us<|gs<|gs<|G0 (q (pM j)<|q (pB j)<|nl)<|us<|Go.join (fun st=>∃ED,iW j_0 ED=some r∧st.norm ([1,3,4],[1,3])=mk [(1,M 1),(3,H 3 0),(4,D 2 (W 2 aQ j_0.aS.az.aG))] [(1,Oa (G 2 (bI j_0))),(3,Oc [Z (W 3 aA ED)])]) ?_ ?_
 ·rintro st ⟨ED,h,hst⟩
  unfold iW at h
  refine us<|gs<|gs<|g2 c43 j j hst (q (pM j)<|q (pI FB j)<|q (pM j)<|nl)<|us<|Go.block<|?_
  obtain ⟨o,hl,h⟩:=bs h
  refine gl c43 j _ (fun (s:(Int×(List ai)))=>match s with | (tJ,xN)=>mk [(1,M 1),(3,H 3 0),(44,D 2 (W 2 aQ j_0.aS.az.aG)),(45,iv (j_0.aS.az.aG.length:Int)),(46,iv tJ)] [(1,Oa (G 2 (bI j_0))),(3,Oc [Z (W 3 aA xN)])]) (fun (DN:(List ai)) (p:Ex×St)=>p.1= .exit 0∧p.2.norm ([3],[3])=mk [(3,H 3 0)] [(3,Oc [Z (W 3 aA DN)])]) hl (by kernel_rfl) ?_ ?_ ?_
  ·intro o p hp e
   exact nomatch (hp.1.symm.trans e)
  ·rintro ⟨tJ,xN⟩ o h
   unfold ni at h
   dsimp only at h
   refine gs<|G0 (q (pB j)<|nl)<|us<|gs<|gc h j ah (fun hc7 h=>?_) fun hc7 h=>?_
   ·refine Go.skip<|us<|gs<|Go.join (fun st=>∃CW,jy tJ CW=some o∧st.norm ([1,3,44,45,46],[1,3])=mk [(1,M 1),(3,H 3 0),(44,D 2 (W 2 aQ j_0.aS.az.aG)),(45,iv (j_0.aS.az.aG.length:Int)),(46,iv tJ)] [(1,Oa (G 2 (bI j_0))),(3,Oc [Z (W 3 aA CW)])]) ?_ ?_
    ·rintro st ⟨CW,h,hst⟩
     unfold jy at h
     refine us<|g2 c43 j j hst (q (pB j)<|q (pM j)<|nl)<|Unw.nil<|?_
     cases h
     exact ⟨j,(by kernel_rfl)⟩
    ·intro K9
     refine Go.block<|gs<|?_
     obtain ⟨x49,afy,h⟩:=bs h
     refine G0 (q (pM j)<|q (pJ afy EH j)<|q (pL (cs:=[.im 2 _,.im 2 _]) zh j)<|q (oAl j zh (tkI (tkN tk0)))<|q (pA j)<|q (pS zh j (tkI (tkI tk0)) j)<|nl)<|us<|gs<|?_
     obtain ⟨x54,afF,h⟩:=bs h
     refine g1 j j (mk [(1,M 1),(3,H 3 0),(9,iv tJ),(10,M 10),(44,D 2 (W 2 aQ j_0.aS.az.aG)),(45,iv (j_0.aS.az.aG.length:Int)),(46,iv tJ)] [(1,Oa (G 2 (bI j_0))),(3,Oc [Z (W 3 aA xN)]),(10,Oa (G 2 (wO x49)))]) (q (pF (r':=.mp 1 0 15) zF j)<|q (l2 l9 j)<|q (pM j)<|q (c1 (iU afF) I4 j j j j)<|q (pU j)<|nl)<|us<|?_
     by_cases gU:x54=true
     ·rw [if_pos gU] at h
      exact gF j (nF (iR.2 gU))<|Go.skip<|Unw.blk<|K9 _ ⟨xN,h,(by kernel_rfl)⟩
     ·rw [if_neg gU] at h
      refine gT j (nT (byF iR gU))<|?_
      obtain ⟨x61,apz,h⟩:=bs h
      exact G0 (q (pM j)<|q (pF (r':=.mp 10 0 0) vM j)<|q (l0 tF9 j)<|q (oBu (cs:=[.im 0 _,.im 0 _,.im 0 _]) j aeG j)<|q (oBS (es:=List.map aA ([(⟨4,x49.Name,(⟨#[109,105,115,115,105,110,103]⟩:ByteArray)⟩:ai)]:List ai)) j EG j (ptC j (fxI (fxI (fxI fx0))) j pt0) (gY j fun _=>j))<|q (OI (en:=aA) (M:=([(⟨4,x49.Name,(⟨#[109,105,115,115,105,110,103]⟩:ByteArray)⟩:ai)]:List ai)) j apz j EG j j Tt (.inl ⟨_,j⟩) j j j j (yf j j) (gY j fun _=>j))<|q (jU j j j j j)<|nl)<|Unw.blk<|K9 _ ⟨x61,h,(by kernel_rfl)⟩
   ·refine Go.exit<|ux<|Unw.nil<|?_
    cases h
    exact ⟨j,(by kernel_rfl)⟩
  ·rintro ⟨e,st⟩ hp
   obtain ⟨DN,rfl⟩:∃y,y=o:=⟨o,rfl⟩
   obtain ⟨he,hst⟩:=hp
   obtain rfl:e= .exit 0:=he
   obtain rfl:=rn h
   exact Unw.gz<|us<|gs<|g2 c43 j j hst (q (pM j)<|q (jU j j j j j)<|nl)<|us<|gr aoR j
 ·intro K11
  refine gc h j iNe (fun hc12 h=>?_) fun hc12 h=>?_
  ·refine gs<|G0 (q (pA j)<|nl)<|us<|gs<|gs<|G0 (q (pM j)<|q (pB j)<|nl)<|us<|Go.join (fun st=>∃zC,iY j_0 x22 zC=some r∧st.norm ([1,3,4,5,8],[1,3])=mk [(1,M 1),(3,H 3 0),(4,D 2 (W 2 aQ j_0.aS.az.aG)),(5,iv x22.1),(8,sv zC)] [(1,Oa (G 2 (bI j_0))),(3,Oc [Z (W 3 aA ([]:List ai))])]) ?_ ?_
   ·rintro st ⟨zC,h,hst⟩
    unfold iY at h
    refine us<|?_
    obtain ⟨x35,V6,x37,Rk,h⟩:=b2 h
    obtain ⟨x43,Jg,h⟩:=bs h
    exact g2 c43 j j hst (q (pM j)<|q (pM j)<|q (pF (r':=.mp 1 0 15) zF j)<|q (l2 l9 j)<|q (pM j)<|q (pJ V6 lS j)<|q (l2 tF2 j)<|q (pJ Rk EH j)<|q (f2 vM j)<|q (l2 tF9 j)<|q (pM j)<|q (oBu (cs:=[.im 0 _,.im 2 _,.im 0 _]) j aeG j)<|q (oBS (es:=List.map aA ([(⟨4,x37.Name,zC⟩:ai)]:List ai)) j EG j (ptC j (fxI (fxI (fxI fx0))) j pt0) (gY j fun _=>j))<|q (OI (en:=aA) (M:=([(⟨4,x37.Name,zC⟩:ai)]:List ai)) j Jg j EG j j Tt (.inl ⟨_,j⟩) j j j j (yf j j) (gY j fun _=>j))<|q (jU j j j j j)<|nl)<|K11 _ ⟨x43,h,(by kernel_rfl)⟩
   ·intro K14
    refine gc h j iEq (fun afD h=>?_) fun afD h=>?_
    ·exact G0 (q (pA j)<|nl)<|K14 _ ⟨(⟨#[116,114,97,112,112,101,100]⟩:ByteArray),h,(by kernel_rfl)⟩
    ·exact Go.skip<|K14 _ ⟨(⟨#[117,110,104,101,108,100]⟩:ByteArray),h,(by kernel_rfl)⟩
  ·exact Go.skip<|K11 _ ⟨([]:List ai),h,(by kernel_rfl)⟩
theorem AA {j_0:fM} {r:((List ai)×Int)} (h:ku j_0=some r):FX 18 [.im 2 true (bI j_0)] (B0 [(false,[.ow 0 3 (List.map aA r.1)]),(false,[.im 0 (I r.2)])]):=by
 unfold ku at h
 refine gn 9 Tryz.func18 rfl ?_
 refine gs<|G0 (q (pX Gu j (tkI (tkI (tkI (tkI (tkI (tkI (tkI (tkI (tkI (tkI (tkI (tkI (tkI (tkI (tkI (tkI (tkI tk0))))))))))))))))))<|q (AP j j Y0)<|q (pA j)<|nl)<|us<|gs<|gs<|?_
 obtain ⟨x5,hx5,h⟩:=bs h
 refine g1 j j (mk [(1,M 1)] [(1,Oa (G 2 (bI j_0)))]) (q (pL (cs:=[.im 0 _,.im 0 _,.im 2 _,.im 2 _,.im 2 _,.im 2 _,.im 2 _,.im 0 _,.im 0 _,.im 0 _,.im 0 _,.im 0 _,.im 0 _,.im 0 _,.im 0 _,.im 2 _,.im 2 _]) Gu j)<|q (c1 (O6 hx5) ahM j j j j)<|q (pU j)<|nl)<|us<|?_
 by_cases hc1:x5=true
 ·rw [if_pos hc1] at h
  refine gF j (nF (iR.2 hc1))<|Go.skip<|us<|gs<|?_
  obtain ⟨x8,hx8,h⟩:=bs h
  obtain rfl:=rn h
  exact G0 (q (pL (cs:=[.im 0 _,.im 0 _,.im 2 _,.im 2 _,.im 2 _,.im 2 _,.im 2 _,.im 0 _,.im 0 _,.im 0 _,.im 0 _,.im 0 _,.im 0 _,.im 0 _,.im 0 _,.im 2 _,.im 2 _]) Gu j)<|q (cR (vs:=[(false,[.own 8 0 0])]) (v:=.v false [.own 8 0 0]) (c:=⟨.sh,0,_⟩) (cs:=[]) (Ik hx8) ahN j j j j j)<|q (jU j j j j j)<|q (pA j)<|nl)<|us<|gr amw j
 ·rw [if_neg hc1] at h
  obtain rfl:=rn h
  exact gT j (nT (byF iR hc1))<|gs<|G0 (q (AP j j Y0)<|q (pA j)<|nl)<|us<|gr amw j
theorem NU {a_0:ai} {b_1:ai} {r:Bool} (h:yM a_0 b_1=some r):FX 31 [.im 2 true (Ho a_0),.im 2 true (Ho b_1)] (B0 [(false,[.im 0 (V r)])]):=by
 unfold yM at h
 refine gn 20 Tryz.func31 rfl ?_
 refine gs<|G0 (q (pX ah5 j (tkI (tkI (tkI tk0))))<|q (pX ah5 j (tkI (tkI (tkI tk0))))<|q (pA j)<|nl)<|us<|gs<|gs<|G0 (q (pF (r':=.mp 2 0 0) VD j)<|q (l0 tF2 j)<|q (pF (r':=.mp 3 0 0) VD j)<|q (l0 tF2 j)<|q (pB j)<|nl)<|us<|gc h j iNe (fun hc1 h=>?_) fun hc1 h=>?_
 ·obtain rfl:=rn h
  exact gs<|G0 (q (pA j)<|nl)<|us<|gr ah1 j
 ·refine Go.skip<|us<|gs<|gs<|G0 (q (pF (r':=.mp 2 0 1) VE j)<|q (l0 tF9 j)<|q (pF (r':=.mp 3 0 1) VE j)<|q (l0 tF9 j)<|q (pB j)<|nl)<|us<|gc h j (SN zu) (fun hc2 h=>?_) fun hc2 h=>?_
  ·obtain rfl:=rn h
   exact gs<|G0 (q (pA j)<|nl)<|us<|gr ah1 j
  ·refine Go.skip<|us<|gs<|gs<|G0 (q (pF (r':=.mp 2 0 2) VF j)<|q (l0 tF9 j)<|q (pF (r':=.mp 3 0 2) VF j)<|q (l0 tF9 j)<|q (pB j)<|nl)<|us<|gc h j (SN zu) (fun hc3 h=>?_) fun hc3 h=>?_
   ·obtain rfl:=rn h
    exact gs<|G0 (q (pA j)<|nl)<|us<|gr ah1 j
   ·obtain rfl:=rn h
    exact Go.skip<|us<|gs<|G0 (q (pA j)<|nl)<|us<|gr ah1 j
theorem y5 {a_0:(List ai)} {b_1:(List ai)} {r:Bool} (h:lu a_0 b_1=some r):FX 10 [.im 2 false [W 3 aA a_0],.im 2 false [W 3 aA b_1]] (B0 [(false,[.im 0 (V r)])]):=by
 unfold lu at h
 refine gn 27 Tryz.func10 rfl ?_
 refine gs<|G0 (q (pA j)<|nl)<|us<|gs<|gs<|G0 (q (pM j)<|q (pI Tt j)<|q (pM j)<|q (pI Tt j)<|q (pB j)<|nl)<|us<|gc h j iNe (fun hc1 h=>?_) fun hc1 h=>?_
 ·obtain rfl:=rn h
  exact gs<|G0 (q (pA j)<|nl)<|us<|gr akx j
 ·refine Go.skip<|us<|gs<|gs<|G0 (q (pA j)<|nl)<|us<|Go.block<|?_
  obtain ⟨o,hl,h⟩:=bs h
  refine gl c10 j _ (fun (bY:Int)=>mk [(0,D 2 (W 3 aA a_0)),(1,D 2 (W 3 aA b_1)),(5,iv bY)] []) (fun (o:(Unit ⊕ Bool)) (p:Ex×St)=>match o with | (.inl _)=>p.1= .exit 0∧p.2.norm ([],[])=mk [] [] | (.inr r2)=>p.1= .ret∧fin Tryz.prog cfg 10 Tryz.f10 [.im 2 false [W 3 aA a_0],.im 2 false [W 3 aA b_1]] p.2=some (B0 [(false,[.im 0 (V r2)])])) hl (by kernel_rfl) ?_ ?_ ?_
  ·intro o p hp e
   rcases o with u | r2<;>exact nomatch (hp.1.symm.trans e)
  ·rintro bY o h
   unfold qP at h
   refine gs<|gs<|G0 (q (pM j)<|q (pM j)<|q (pI Tt j)<|q (pB j)<|nl)<|us<|gc h j ah (fun hc6 h=>?_) fun hc6 h=>?_
   ·refine Go.skip<|us<|gs<|Go.block<|gs<|?_
    obtain ⟨x19,ql,x23,oq,h⟩:=b2 h
    obtain ⟨x25,hx25,h⟩:=bs h
    refine gd c10 j j j j (mk [(0,D 2 (W 3 aA a_0)),(1,D 2 (W 3 aA b_1)),(5,iv bY),(26,bv (!x25))] []) (t1 j (pM j)<|t1 j (pM j)<|t1 j (pJ ql EG j)<|t1 j (pL (cs:=[.im 2 _,.im 2 _,.im 2 _]) ah5 j)<|t1 j (pM j)<|t1 j (pM j)<|t1 j (pJ oq EG j)<|t1 j (pL (cs:=[.im 2 _,.im 2 _,.im 2 _]) ah5 j)<|s1 j (c1 (NU hx25) Y7 j j j j) (t1 j (pU j)<|sD (by kernel_rfl)))<|us<|?_
    by_cases hc7:x25=true
    ·rw [if_pos hc7] at h
     refine gF j (nF (iR.2 hc7))<|Go.skip<|Unw.blk<|us<|G0 (q (pM j)<|q (pB j)<|q (pA j)<|nl)<|Unw.nil<|?_
     cases h
     exact ⟨j,(by kernel_rfl)⟩
    ·rw [if_neg hc7] at h
     refine gT j (nT (byF iR hc7))<|gs<|G0 (q (pA j)<|nl)<|us<|Go.ret (Unw.ret ?_)
     cases h
     exact ⟨j,(fo akx j)⟩
   ·refine Go.exit<|ux<|Unw.nil<|?_
    cases h
    exact ⟨j,(by kernel_rfl)⟩
  ·rintro ⟨e,st⟩ hp
   rcases o with u | r2
   ·dsimp only at h
    obtain ⟨he,hst⟩:=hp
    obtain rfl:e= .exit 0:=he
    obtain rfl:=rn h
    exact Unw.gz<|us<|gs<|g2 c10 j j hst (q (pA j)<|nl)<|us<|gr akx j
   ·dsimp only at h
    obtain ⟨he,hfin⟩:=hp
    obtain rfl:e= .ret:=he
    cases h
    exact Unw.ret (di hfin)
theorem RF {a_0:ae} {b_1:ae} {r:Bool} (h:yN a_0 b_1=some r):FX 169 [.im 2 true (aN a_0),.im 2 true (aN b_1)] (B0 [(false,[.im 0 (V r)])]):=by
 unfold yN at h
 refine gn 15 Tryz.func169 rfl ?_
 refine gs<|G0 (q (pX aC j (tkI (tkI tk0)))<|q (pX aC j (tkI (tkI tk0)))<|q (pA j)<|nl)<|us<|gs<|gs<|G0 (q (pF (r':=.mp 2 0 0) dO j)<|q (l0 tF2 j)<|q (pF (r':=.mp 3 0 0) dO j)<|q (l0 tF2 j)<|q (pB j)<|nl)<|us<|gc h j iNe (fun hc1 h=>?_) fun hc1 h=>?_
 ·obtain rfl:=rn h
  exact gs<|G0 (q (pA j)<|nl)<|us<|gr afk j
 ·refine Go.skip<|us<|gs<|gs<|G0 (q (pF (r':=.mp 2 0 1) dH j)<|q (l0 tF2 j)<|q (pF (r':=.mp 3 0 1) dH j)<|q (l0 tF2 j)<|q (pB j)<|nl)<|us<|gc h j iNe (fun hc2 h=>?_) fun hc2 h=>?_
  ·obtain rfl:=rn h
   exact gs<|G0 (q (pA j)<|nl)<|us<|gr afk j
  ·obtain rfl:=rn h
   exact Go.skip<|us<|gs<|G0 (q (pA j)<|nl)<|us<|gr afk j
theorem O7 {a_0:(List ae)} {b_1:(List ae)} {r:Bool} (h:wM a_0 b_1=some r):FX 114 [.im 2 false [W 2 af a_0],.im 2 false [W 2 af b_1]] (B0 [(false,[.im 0 (V r)])]):=by
 unfold wM at h
 refine gn 27 Tryz.func114 rfl ?_
 refine gs<|G0 (q (pA j)<|nl)<|us<|gs<|gs<|G0 (q (pM j)<|q (pI Ba j)<|q (pM j)<|q (pI Ba j)<|q (pB j)<|nl)<|us<|gc h j iNe (fun hc1 h=>?_) fun hc1 h=>?_
 ·obtain rfl:=rn h
  exact gs<|G0 (q (pA j)<|nl)<|us<|gr afd j
 ·refine Go.skip<|us<|gs<|gs<|G0 (q (pA j)<|nl)<|us<|Go.block<|?_
  obtain ⟨o,hl,h⟩:=bs h
  refine gl aj9 j _ (fun (bY:Int)=>mk [(0,D 2 (W 2 af a_0)),(1,D 2 (W 2 af b_1)),(5,iv bY)] []) (fun (o:(Unit ⊕ Bool)) (p:Ex×St)=>match o with | (.inl _)=>p.1= .exit 0∧p.2.norm ([],[])=mk [] [] | (.inr r2)=>p.1= .ret∧fin Tryz.prog cfg 114 Tryz.f114 [.im 2 false [W 2 af a_0],.im 2 false [W 2 af b_1]] p.2=some (B0 [(false,[.im 0 (V r2)])])) hl (by kernel_rfl) ?_ ?_ ?_
  ·intro o p hp e
   rcases o with u | r2<;>exact nomatch (hp.1.symm.trans e)
  ·rintro bY o h
   unfold vI at h
   refine gs<|gs<|G0 (q (pM j)<|q (pM j)<|q (pI Ba j)<|q (pB j)<|nl)<|us<|gc h j ah (fun hc6 h=>?_) fun hc6 h=>?_
   ·refine Go.skip<|us<|gs<|Go.block<|gs<|?_
    obtain ⟨x19,ql,x23,oq,h⟩:=b2 h
    obtain ⟨x25,hx25,h⟩:=bs h
    refine gd aj9 j j j j (mk [(0,D 2 (W 2 af a_0)),(1,D 2 (W 2 af b_1)),(5,iv bY),(26,bv (!x25))] []) (t1 j (pM j)<|t1 j (pM j)<|t1 j (pJ ql oZ j)<|t1 j (pL (cs:=[.im 2 _,.im 2 _]) aC j)<|t1 j (pM j)<|t1 j (pM j)<|t1 j (pJ oq oZ j)<|t1 j (pL (cs:=[.im 2 _,.im 2 _]) aC j)<|s1 j (c1 (RF hx25) SX j j j j) (t1 j (pU j)<|sD (by kernel_rfl)))<|us<|?_
    by_cases hc7:x25=true
    ·rw [if_pos hc7] at h
     refine gF j (nF (iR.2 hc7))<|Go.skip<|Unw.blk<|us<|G0 (q (pM j)<|q (pB j)<|q (pA j)<|nl)<|Unw.nil<|?_
     cases h
     exact ⟨j,(by kernel_rfl)⟩
    ·rw [if_neg hc7] at h
     refine gT j (nT (byF iR hc7))<|gs<|G0 (q (pA j)<|nl)<|us<|Go.ret (Unw.ret ?_)
     cases h
     exact ⟨j,(fo afd j)⟩
   ·refine Go.exit<|ux<|Unw.nil<|?_
    cases h
    exact ⟨j,(by kernel_rfl)⟩
  ·rintro ⟨e,st⟩ hp
   rcases o with u | r2
   ·dsimp only at h
    obtain ⟨he,hst⟩:=hp
    obtain rfl:e= .exit 0:=he
    obtain rfl:=rn h
    exact Unw.gz<|us<|gs<|g2 aj9 j j hst (q (pA j)<|nl)<|us<|gr afd j
   ·dsimp only at h
    obtain ⟨he,hfin⟩:=hp
    obtain rfl:e= .ret:=he
    cases h
    exact Unw.ret (di hfin)
theorem Bh {a_0:(List Int)} {b_1:(List Int)} {r:Bool} (h:oO a_0 b_1=some r):FX 36 [.im 2 false [W 1 eI a_0],.im 2 false [W 1 eI b_1]] (B0 [(false,[.im 0 (V r)])]):=by
 unfold oO at h
 refine gn 26 Tryz.func36 rfl ?_
 refine gs<|G0 (q (pA j)<|nl)<|us<|gs<|gs<|G0 (q (pM j)<|q (pI yV j)<|q (pM j)<|q (pI yV j)<|q (pB j)<|nl)<|us<|gc h j iNe (fun hc1 h=>?_) fun hc1 h=>?_
 ·obtain rfl:=rn h
  exact gs<|G0 (q (pA j)<|nl)<|us<|gr akE j
 ·refine Go.skip<|us<|gs<|gs<|G0 (q (pA j)<|nl)<|us<|Go.block<|?_
  obtain ⟨o,hl,h⟩:=bs h
  refine gl c36 j _ (fun (bY:Int)=>mk [(0,D 2 (W 1 eI a_0)),(1,D 2 (W 1 eI b_1)),(5,iv bY)] []) (fun (o:(Unit ⊕ Bool)) (p:Ex×St)=>match o with | (.inl _)=>p.1= .exit 0∧p.2.norm ([],[])=mk [] [] | (.inr r2)=>p.1= .ret∧fin Tryz.prog cfg 36 Tryz.f36 [.im 2 false [W 1 eI a_0],.im 2 false [W 1 eI b_1]] p.2=some (B0 [(false,[.im 0 (V r2)])])) hl (by kernel_rfl) ?_ ?_ ?_
  ·intro o p hp e
   rcases o with u | r2<;>exact nomatch (hp.1.symm.trans e)
  ·rintro bY o h
   unfold vJ at h
   refine gs<|gs<|G0 (q (pM j)<|q (pM j)<|q (pI yV j)<|q (pB j)<|nl)<|us<|gc h j ah (fun hc6 h=>?_) fun hc6 h=>?_
   ·refine Go.skip<|us<|gs<|Go.block<|gs<|?_
    obtain ⟨x19,ql,x23,oq,h⟩:=b2 h
    refine gd c36 j j j j (mk [(0,D 2 (W 1 eI a_0)),(1,D 2 (W 1 eI b_1)),(5,iv bY),(25,bv (x19 != x23))] []) (t1 j (pM j)<|t1 j (pM j)<|t1 j (pJ ql lS j)<|t1 j (l2 tF2 j)<|t1 j (pM j)<|t1 j (pM j)<|t1 j (pJ oq lS j)<|t1 j (l2 tF2 j)<|t1 j (pB j)<|sD (by kernel_rfl))<|us<|gc h j iNe (fun hc7 h=>?_) fun hc7 h=>?_
    ·refine gs<|G0 (q (pA j)<|nl)<|us<|Go.ret (Unw.ret ?_)
     cases h
     exact ⟨j,(fo akE j)⟩
    ·refine Go.skip<|Unw.blk<|us<|G0 (q (pM j)<|q (pB j)<|q (pA j)<|nl)<|Unw.nil<|?_
     cases h
     exact ⟨j,(by kernel_rfl)⟩
   ·refine Go.exit<|ux<|Unw.nil<|?_
    cases h
    exact ⟨j,(by kernel_rfl)⟩
  ·rintro ⟨e,st⟩ hp
   rcases o with u | r2
   ·dsimp only at h
    obtain ⟨he,hst⟩:=hp
    obtain rfl:e= .exit 0:=he
    obtain rfl:=rn h
    exact Unw.gz<|us<|gs<|g2 c36 j j hst (q (pA j)<|nl)<|us<|gr akE j
   ·dsimp only at h
    obtain ⟨he,hfin⟩:=hp
    obtain rfl:e= .ret:=he
    cases h
    exact Unw.ret (di hfin)
theorem TG {a_0:bT} {b_1:bT} {r:Bool} (h:Au a_0 b_1=some r):FX 170 [.im 2 true (wO a_0),.im 2 true (wO b_1)] (B0 [(false,[.im 0 (V r)])]):=by
 unfold Au at h
 refine gn 16 Tryz.func170 rfl ?_
 refine gs<|G0 (q (pX zh j (tkI (tkI tk0)))<|q (pX zh j (tkI (tkI tk0)))<|q (pA j)<|nl)<|us<|gs<|gs<|G0 (q (pF (r':=.mp 2 0 0) vM j)<|q (l0 tF9 j)<|q (pF (r':=.mp 3 0 0) vM j)<|q (l0 tF9 j)<|q (pB j)<|nl)<|us<|gc h j (SN zu) (fun hc1 h=>?_) fun hc1 h=>?_
 ·obtain rfl:=rn h
  exact gs<|G0 (q (pA j)<|nl)<|us<|gr afl j
 ·refine Go.skip<|us<|gs<|gs<|?_
  obtain ⟨x14,kR,h⟩:=bs h
  refine G0 (q (pF (r':=.mp 2 0 1) yT j)<|q (l2 l9 j)<|q (pF (r':=.mp 3 0 1) yT j)<|q (l2 l9 j)<|q (c1 (Bh kR) JX j j j j)<|q (pU j)<|nl)<|us<|?_
  by_cases hc2:x14=true
  ·rw [if_pos hc2] at h
   obtain rfl:=rn h
   exact gF j (nF (iR.2 hc2))<|Go.skip<|us<|gs<|G0 (q (pA j)<|nl)<|us<|gr afl j
  ·rw [if_neg hc2] at h
   obtain rfl:=rn h
   exact gT j (nT (byF iR hc2))<|gs<|G0 (q (pA j)<|nl)<|us<|gr afl j
theorem RG {a_0:(List bT)} {b_1:(List bT)} {r:Bool} (h:yO a_0 b_1=some r):FX 115 [.im 2 false [W 2 aQ a_0],.im 2 false [W 2 aQ b_1]] (B0 [(false,[.im 0 (V r)])]):=by
 unfold yO at h
 refine gn 27 Tryz.func115 rfl ?_
 refine gs<|G0 (q (pA j)<|nl)<|us<|gs<|gs<|G0 (q (pM j)<|q (pI FB j)<|q (pM j)<|q (pI FB j)<|q (pB j)<|nl)<|us<|gc h j iNe (fun hc1 h=>?_) fun hc1 h=>?_
 ·obtain rfl:=rn h
  exact gs<|G0 (q (pA j)<|nl)<|us<|gr afe j
 ·refine Go.skip<|us<|gs<|gs<|G0 (q (pA j)<|nl)<|us<|Go.block<|?_
  obtain ⟨o,hl,h⟩:=bs h
  refine gl aka j _ (fun (bY:Int)=>mk [(0,D 2 (W 2 aQ a_0)),(1,D 2 (W 2 aQ b_1)),(5,iv bY)] []) (fun (o:(Unit ⊕ Bool)) (p:Ex×St)=>match o with | (.inl _)=>p.1= .exit 0∧p.2.norm ([],[])=mk [] [] | (.inr r2)=>p.1= .ret∧fin Tryz.prog cfg 115 Tryz.f115 [.im 2 false [W 2 aQ a_0],.im 2 false [W 2 aQ b_1]] p.2=some (B0 [(false,[.im 0 (V r2)])])) hl (by kernel_rfl) ?_ ?_ ?_
  ·intro o p hp e
   rcases o with u | r2<;>exact nomatch (hp.1.symm.trans e)
  ·rintro bY o h
   unfold wX at h
   refine gs<|gs<|G0 (q (pM j)<|q (pM j)<|q (pI FB j)<|q (pB j)<|nl)<|us<|gc h j ah (fun hc6 h=>?_) fun hc6 h=>?_
   ·refine Go.skip<|us<|gs<|Go.block<|gs<|?_
    obtain ⟨x19,ql,x23,oq,h⟩:=b2 h
    obtain ⟨x25,hx25,h⟩:=bs h
    refine gd aka j j j j (mk [(0,D 2 (W 2 aQ a_0)),(1,D 2 (W 2 aQ b_1)),(5,iv bY),(26,bv (!x25))] []) (t1 j (pM j)<|t1 j (pM j)<|t1 j (pJ ql EH j)<|t1 j (pL (cs:=[.im 2 _,.im 2 _]) zh j)<|t1 j (pM j)<|t1 j (pM j)<|t1 j (pJ oq EH j)<|t1 j (pL (cs:=[.im 2 _,.im 2 _]) zh j)<|s1 j (c1 (TG hx25) SY j j j j) (t1 j (pU j)<|sD (by kernel_rfl)))<|us<|?_
    by_cases hc7:x25=true
    ·rw [if_pos hc7] at h
     refine gF j (nF (iR.2 hc7))<|Go.skip<|Unw.blk<|us<|G0 (q (pM j)<|q (pB j)<|q (pA j)<|nl)<|Unw.nil<|?_
     cases h
     exact ⟨j,(by kernel_rfl)⟩
    ·rw [if_neg hc7] at h
     refine gT j (nT (byF iR hc7))<|gs<|G0 (q (pA j)<|nl)<|us<|Go.ret (Unw.ret ?_)
     cases h
     exact ⟨j,(fo afe j)⟩
   ·refine Go.exit<|ux<|Unw.nil<|?_
    cases h
    exact ⟨j,(by kernel_rfl)⟩
  ·rintro ⟨e,st⟩ hp
   rcases o with u | r2
   ·dsimp only at h
    obtain ⟨he,hst⟩:=hp
    obtain rfl:e= .exit 0:=he
    obtain rfl:=rn h
    exact Unw.gz<|us<|gs<|g2 aka j j hst (q (pA j)<|nl)<|us<|gr afe j
   ·dsimp only at h
    obtain ⟨he,hfin⟩:=hp
    obtain rfl:e= .ret:=he
    cases h
    exact Unw.ret (di hfin)
theorem NV {a_0:aB} {b_1:aB} {r:Bool} (h:uI a_0 b_1=some r):FX 64 [.im 2 true (au a_0),.im 2 true (au b_1)] (B0 [(false,[.im 0 (V r)])]):=by
 unfold uI at h
 refine gn 27 Tryz.func64 rfl ?_
 refine gs<|G0 (q (pX Du j (tkI (tkI (tkI (tkI tk0)))))<|q (pX Du j (tkI (tkI (tkI (tkI tk0)))))<|q (pA j)<|nl)<|us<|gs<|gs<|G0 (q (pF (r':=.mp 2 0 0) Fh j)<|q (l0 tF2 j)<|q (pF (r':=.mp 3 0 0) Fh j)<|q (l0 tF2 j)<|q (pB j)<|nl)<|us<|gc h j iNe (fun hc1 h=>?_) fun hc1 h=>?_
 ·obtain rfl:=rn h
  exact gs<|G0 (q (pA j)<|nl)<|us<|gr afv j
 ·refine Go.skip<|us<|gs<|gs<|G0 (q (pF (r':=.mp 2 0 1) A7 j)<|q (l0 tF2 j)<|q (pF (r':=.mp 3 0 1) A7 j)<|q (l0 tF2 j)<|q (pB j)<|nl)<|us<|gc h j iNe (fun hc2 h=>?_) fun hc2 h=>?_
  ·obtain rfl:=rn h
   exact gs<|G0 (q (pA j)<|nl)<|us<|gr afv j
  ·refine Go.skip<|us<|gs<|gs<|?_
   obtain ⟨x19,ql,h⟩:=bs h
   refine G0 (q (pF (r':=.mp 2 0 2) uO j)<|q (l2 HY j)<|q (pF (r':=.mp 3 0 2) uO j)<|q (l2 HY j)<|q (c1 (O7 ql) XF j j j j)<|q (pU j)<|nl)<|us<|?_
   by_cases hc3:x19=true
   ·rw [if_pos hc3] at h
    refine gF j (nF (iR.2 hc3))<|Go.skip<|us<|gs<|gs<|?_
    obtain ⟨x25,hx25,h⟩:=bs h
    refine G0 (q (pF (r':=.mp 2 0 3) jD j)<|q (l2 yU j)<|q (pF (r':=.mp 3 0 3) jD j)<|q (l2 yU j)<|q (c1 (RG hx25) XG j j j j)<|q (pU j)<|nl)<|us<|?_
    by_cases hc4:x25=true
    ·rw [if_pos hc4] at h
     obtain rfl:=rn h
     exact gF j (nF (iR.2 hc4))<|Go.skip<|us<|gs<|G0 (q (pA j)<|nl)<|us<|gr afv j
    ·rw [if_neg hc4] at h
     obtain rfl:=rn h
     exact gT j (nT (byF iR hc4))<|gs<|G0 (q (pA j)<|nl)<|us<|gr afv j
   ·rw [if_neg hc3] at h
    obtain rfl:=rn h
    exact gT j (nT (byF iR hc3))<|gs<|G0 (q (pA j)<|nl)<|us<|gr afv j
theorem Gi {a_0:aI} {b_1:aI} {r:Bool} (h:sQ a_0 b_1=some r):FX 116 [.im 2 true (kz a_0),.im 2 true (kz b_1)] (B0 [(false,[.im 0 (V r)])]):=by
 unfold sQ at h
 refine gn 20 Tryz.func116 rfl ?_
 refine gs<|G0 (q (pX H6 j (tkI (tkI (tkI tk0))))<|q (pX H6 j (tkI (tkI (tkI tk0))))<|q (pA j)<|nl)<|us<|gs<|gs<|G0 (q (pF (r':=.mp 2 0 0) JU j)<|q (l0 tF9 j)<|q (pF (r':=.mp 3 0 0) JU j)<|q (l0 tF9 j)<|q (pB j)<|nl)<|us<|gc h j (SN zu) (fun hc1 h=>?_) fun hc1 h=>?_
 ·obtain rfl:=rn h
  exact gs<|G0 (q (pA j)<|nl)<|us<|gr abl j
 ·refine Go.skip<|us<|gs<|gs<|G0 (q (pF (r':=.mp 2 0 1) Fq j)<|q (l0 tF2 j)<|q (pF (r':=.mp 3 0 1) Fq j)<|q (l0 tF2 j)<|q (pB j)<|nl)<|us<|gc h j iNe (fun hc2 h=>?_) fun hc2 h=>?_
  ·obtain rfl:=rn h
   exact gs<|G0 (q (pA j)<|nl)<|us<|gr abl j
  ·refine Go.skip<|us<|gs<|gs<|G0 (q (pF (r':=.mp 2 0 2) JV j)<|q (l0 tF2 j)<|q (pF (r':=.mp 3 0 2) JV j)<|q (l0 tF2 j)<|q (pB j)<|nl)<|us<|gc h j iNe (fun hc3 h=>?_) fun hc3 h=>?_
   ·obtain rfl:=rn h
    exact gs<|G0 (q (pA j)<|nl)<|us<|gr abl j
   ·obtain rfl:=rn h
    exact Go.skip<|us<|gs<|G0 (q (pA j)<|nl)<|us<|gr abl j
theorem NW {a_0:(List aI)} {b_1:(List aI)} {r:Bool} (h:uJ a_0 b_1=some r):FX 65 [.im 2 false [W 3 aK a_0],.im 2 false [W 3 aK b_1]] (B0 [(false,[.im 0 (V r)])]):=by
 unfold uJ at h
 refine gn 27 Tryz.func65 rfl ?_
 refine gs<|G0 (q (pA j)<|nl)<|us<|gs<|gs<|G0 (q (pM j)<|q (pI VV j)<|q (pM j)<|q (pI VV j)<|q (pB j)<|nl)<|us<|gc h j iNe (fun hc1 h=>?_) fun hc1 h=>?_
 ·obtain rfl:=rn h
  exact gs<|G0 (q (pA j)<|nl)<|us<|gr akH j
 ·refine Go.skip<|us<|gs<|gs<|G0 (q (pA j)<|nl)<|us<|Go.block<|?_
  obtain ⟨o,hl,h⟩:=bs h
  refine gl c65 j _ (fun (bY:Int)=>mk [(0,D 2 (W 3 aK a_0)),(1,D 2 (W 3 aK b_1)),(5,iv bY)] []) (fun (o:(Unit ⊕ Bool)) (p:Ex×St)=>match o with | (.inl _)=>p.1= .exit 0∧p.2.norm ([],[])=mk [] [] | (.inr r2)=>p.1= .ret∧fin Tryz.prog cfg 65 Tryz.f65 [.im 2 false [W 3 aK a_0],.im 2 false [W 3 aK b_1]] p.2=some (B0 [(false,[.im 0 (V r2)])])) hl (by kernel_rfl) ?_ ?_ ?_
  ·intro o p hp e
   rcases o with u | r2<;>exact nomatch (hp.1.symm.trans e)
  ·rintro bY o h
   unfold tK at h
   refine gs<|gs<|G0 (q (pM j)<|q (pM j)<|q (pI VV j)<|q (pB j)<|nl)<|us<|gc h j ah (fun hc6 h=>?_) fun hc6 h=>?_
   ·refine Go.skip<|us<|gs<|Go.block<|gs<|?_
    obtain ⟨x19,ql,x23,oq,h⟩:=b2 h
    obtain ⟨x25,hx25,h⟩:=bs h
    refine gd c65 j j j j (mk [(0,D 2 (W 3 aK a_0)),(1,D 2 (W 3 aK b_1)),(5,iv bY),(26,bv (!x25))] []) (t1 j (pM j)<|t1 j (pM j)<|t1 j (pJ ql VS j)<|t1 j (pL (cs:=[.im 2 _,.im 2 _,.im 2 _]) H6 j)<|t1 j (pM j)<|t1 j (pM j)<|t1 j (pJ oq VS j)<|t1 j (pL (cs:=[.im 2 _,.im 2 _,.im 2 _]) H6 j)<|s1 j (c1 (Gi hx25) Oy j j j j) (t1 j (pU j)<|sD (by kernel_rfl)))<|us<|?_
    by_cases hc7:x25=true
    ·rw [if_pos hc7] at h
     refine gF j (nF (iR.2 hc7))<|Go.skip<|Unw.blk<|us<|G0 (q (pM j)<|q (pB j)<|q (pA j)<|nl)<|Unw.nil<|?_
     cases h
     exact ⟨j,(by kernel_rfl)⟩
    ·rw [if_neg hc7] at h
     refine gT j (nT (byF iR hc7))<|gs<|G0 (q (pA j)<|nl)<|us<|Go.ret (Unw.ret ?_)
     cases h
     exact ⟨j,(fo akH j)⟩
   ·refine Go.exit<|ux<|Unw.nil<|?_
    cases h
    exact ⟨j,(by kernel_rfl)⟩
  ·rintro ⟨e,st⟩ hp
   rcases o with u | r2
   ·dsimp only at h
    obtain ⟨he,hst⟩:=hp
    obtain rfl:e= .exit 0:=he
    obtain rfl:=rn h
    exact Unw.gz<|us<|gs<|g2 c65 j j hst (q (pA j)<|nl)<|us<|gr akH j
   ·dsimp only at h
    obtain ⟨he,hfin⟩:=hp
    obtain rfl:e= .ret:=he
    cases h
    exact Unw.ret (di hfin)
theorem NY {a_0:dJ} {b_1:dJ} {r:Bool} (h:uK a_0 b_1=some r):FX 32 [.im 2 true (fB a_0),.im 2 true (fB b_1)] (B0 [(false,[.im 0 (V r)])]):=by
 unfold uK at h
 refine gn 17 Tryz.func32 rfl ?_
 refine gs<|G0 (q (pX Ns j (tkI (tkI (tkI (tkI (tkI tk0))))))<|q (pX Ns j (tkI (tkI (tkI (tkI (tkI tk0))))))<|q (pA j)<|nl)<|us<|gs<|gs<|?_
 obtain ⟨x9,hx9,h⟩:=bs h
 refine g1 j j (mk [(2,M 2),(3,M 3)] [(2,Oa (G 2 (fB a_0))),(3,Oa (G 2 (fB b_1)))]) (q (pF (r':=.mp 2 0 0) uP j)<|q (pL (cs:=[.im 0 _,.im 0 _,.im 2 _,.im 2 _]) Du j)<|q (pF (r':=.mp 3 0 0) uP j)<|q (pL (cs:=[.im 0 _,.im 0 _,.im 2 _,.im 2 _]) Du j)<|q (c1 (NV hx9) Zc j j j j)<|q (pU j)<|nl)<|us<|?_
 by_cases hc1:x9=true
 ·rw [if_pos hc1] at h
  refine gF j (nF (iR.2 hc1))<|Go.skip<|us<|gs<|gs<|?_
  obtain ⟨x15,rW,h⟩:=bs h
  refine G0 (q (pF (r':=.mp 2 0 4) D5 j)<|q (l2 Tq j)<|q (pF (r':=.mp 3 0 4) D5 j)<|q (l2 Tq j)<|q (c1 (NW rW) Zd j j j j)<|q (pU j)<|nl)<|us<|?_
  by_cases hc2:x15=true
  ·rw [if_pos hc2] at h
   obtain rfl:=rn h
   exact gF j (nF (iR.2 hc2))<|Go.skip<|us<|gs<|G0 (q (pA j)<|nl)<|us<|gr akB j
  ·rw [if_neg hc2] at h
   obtain rfl:=rn h
   exact gT j (nT (byF iR hc2))<|gs<|G0 (q (pA j)<|nl)<|us<|gr akB j
 ·rw [if_neg hc1] at h
  obtain rfl:=rn h
  exact gT j (nT (byF iR hc1))<|gs<|G0 (q (pA j)<|nl)<|us<|gr akB j
theorem V7 {a_0:dn} {b_1:dn} {r:Bool} (h:CX a_0 b_1=some r):FX 171 [.im 2 true (xe a_0),.im 2 true (xe b_1)] (B0 [(false,[.im 0 (V r)])]):=by
 unfold CX at h
 refine gn 25 Tryz.func171 rfl ?_
 refine gs<|G0 (q (pX EJ j (tkI (tkI (tkI (tkI tk0)))))<|q (pX EJ j (tkI (tkI (tkI (tkI tk0)))))<|q (pA j)<|nl)<|us<|gs<|gs<|G0 (q (pF (r':=.mp 2 0 0) BM j)<|q (l0 tF2 j)<|q (pF (r':=.mp 3 0 0) BM j)<|q (l0 tF2 j)<|q (pB j)<|nl)<|us<|gc h j iNe (fun hc1 h=>?_) fun hc1 h=>?_
 ·obtain rfl:=rn h
  exact gs<|G0 (q (pA j)<|nl)<|us<|gr XT j
 ·refine Go.skip<|us<|gs<|gs<|G0 (q (pF (r':=.mp 2 0 1) Aa j)<|q (l0 tF2 j)<|q (pF (r':=.mp 3 0 1) Aa j)<|q (l0 tF2 j)<|q (pB j)<|nl)<|us<|gc h j iNe (fun hc2 h=>?_) fun hc2 h=>?_
  ·obtain rfl:=rn h
   exact gs<|G0 (q (pA j)<|nl)<|us<|gr XT j
  ·refine Go.skip<|us<|gs<|gs<|G0 (q (pF (r':=.mp 2 0 2) Fg j)<|q (l0 tF2 j)<|q (pF (r':=.mp 3 0 2) Fg j)<|q (l0 tF2 j)<|q (pB j)<|nl)<|us<|gc h j iNe (fun hc3 h=>?_) fun hc3 h=>?_
   ·obtain rfl:=rn h
    exact gs<|G0 (q (pA j)<|nl)<|us<|gr XT j
   ·refine Go.skip<|us<|gs<|gs<|G0 (q (pF (r':=.mp 2 0 3) IY j)<|q (l0 tF2 j)<|q (pF (r':=.mp 3 0 3) IY j)<|q (l0 tF2 j)<|q (pB j)<|nl)<|us<|gc h j iNe (fun hc4 h=>?_) fun hc4 h=>?_
    ·obtain rfl:=rn h
     exact gs<|G0 (q (pA j)<|nl)<|us<|gr XT j
    ·obtain rfl:=rn h
     exact Go.skip<|us<|gs<|G0 (q (pA j)<|nl)<|us<|gr XT j
theorem TI {a_0:(List dn)} {b_1:(List dn)} {r:Bool} (h:Aw a_0 b_1=some r):FX 117 [.im 2 false [W 4 cu a_0],.im 2 false [W 4 cu b_1]] (B0 [(false,[.im 0 (V r)])]):=by
 unfold Aw at h
 refine gn 27 Tryz.func117 rfl ?_
 refine gs<|G0 (q (pA j)<|nl)<|us<|gs<|gs<|G0 (q (pM j)<|q (pI X3 j)<|q (pM j)<|q (pI X3 j)<|q (pB j)<|nl)<|us<|gc h j iNe (fun hc1 h=>?_) fun hc1 h=>?_
 ·obtain rfl:=rn h
  exact gs<|G0 (q (pA j)<|nl)<|us<|gr aff j
 ·refine Go.skip<|us<|gs<|gs<|G0 (q (pA j)<|nl)<|us<|Go.block<|?_
  obtain ⟨o,hl,h⟩:=bs h
  refine gl c117 j _ (fun (bY:Int)=>mk [(0,D 2 (W 4 cu a_0)),(1,D 2 (W 4 cu b_1)),(5,iv bY)] []) (fun (o:(Unit ⊕ Bool)) (p:Ex×St)=>match o with | (.inl _)=>p.1= .exit 0∧p.2.norm ([],[])=mk [] [] | (.inr r2)=>p.1= .ret∧fin Tryz.prog cfg 117 Tryz.f117 [.im 2 false [W 4 cu a_0],.im 2 false [W 4 cu b_1]] p.2=some (B0 [(false,[.im 0 (V r2)])])) hl (by kernel_rfl) ?_ ?_ ?_
  ·intro o p hp e
   rcases o with u | r2<;>exact nomatch (hp.1.symm.trans e)
  ·rintro bY o h
   unfold yP at h
   refine gs<|gs<|G0 (q (pM j)<|q (pM j)<|q (pI X3 j)<|q (pB j)<|nl)<|us<|gc h j ah (fun hc6 h=>?_) fun hc6 h=>?_
   ·refine Go.skip<|us<|gs<|Go.block<|gs<|?_
    obtain ⟨x19,ql,x23,oq,h⟩:=b2 h
    obtain ⟨x25,hx25,h⟩:=bs h
    refine gd c117 j j j j (mk [(0,D 2 (W 4 cu a_0)),(1,D 2 (W 4 cu b_1)),(5,iv bY),(26,bv (!x25))] []) (t1 j (pM j)<|t1 j (pM j)<|t1 j (pJ ql Tn j)<|t1 j (pL (cs:=[.im 2 _,.im 2 _,.im 2 _,.im 2 _]) EJ j)<|t1 j (pM j)<|t1 j (pM j)<|t1 j (pJ oq Tn j)<|t1 j (pL (cs:=[.im 2 _,.im 2 _,.im 2 _,.im 2 _]) EJ j)<|s1 j (c1 (V7 hx25) S9 j j j j) (t1 j (pU j)<|sD (by kernel_rfl)))<|us<|?_
    by_cases hc7:x25=true
    ·rw [if_pos hc7] at h
     refine gF j (nF (iR.2 hc7))<|Go.skip<|Unw.blk<|us<|G0 (q (pM j)<|q (pB j)<|q (pA j)<|nl)<|Unw.nil<|?_
     cases h
     exact ⟨j,(by kernel_rfl)⟩
    ·rw [if_neg hc7] at h
     refine gT j (nT (byF iR hc7))<|gs<|G0 (q (pA j)<|nl)<|us<|Go.ret (Unw.ret ?_)
     cases h
     exact ⟨j,(fo aff j)⟩
   ·refine Go.exit<|ux<|Unw.nil<|?_
    cases h
    exact ⟨j,(by kernel_rfl)⟩
  ·rintro ⟨e,st⟩ hp
   rcases o with u | r2
   ·dsimp only at h
    obtain ⟨he,hst⟩:=hp
    obtain rfl:e= .exit 0:=he
    obtain rfl:=rn h
    exact Unw.gz<|us<|gs<|g2 c117 j j hst (q (pA j)<|nl)<|us<|gr aff j
   ·dsimp only at h
    obtain ⟨he,hfin⟩:=hp
    obtain rfl:e= .ret:=he
    cases h
    exact Unw.ret (di hfin)
theorem TJ {a_0:bU} {b_1:bU} {r:Bool} (h:Az a_0 b_1=some r):FX 66 [.im 2 true (gu a_0),.im 2 true (gu b_1)] (B0 [(false,[.im 0 (V r)])]):=by
 unfold Az at h
 refine gn 42 Tryz.func66 rfl ?_
 refine gs<|G0 (q (pX Jc j (tkI (tkI (tkI (tkI (tkI (tkI (tkI (tkI (tkI tk0))))))))))<|q (pX Jc j (tkI (tkI (tkI (tkI (tkI (tkI (tkI (tkI (tkI tk0))))))))))<|q (pA j)<|nl)<|us<|gs<|gs<|g1 j j (mk [(2,M 2),(3,M 3)] [(2,Oa (G 2 (gu a_0))),(3,Oa (G 2 (gu b_1)))]) (q (pF (r':=.mp 2 0 0) D6 j)<|q (l0 tF9 j)<|q (pF (r':=.mp 3 0 0) D6 j)<|q (l0 tF9 j)<|q (pB j)<|nl)<|us<|gc h j (SN zu) (fun hc1 h=>?_) fun hc1 h=>?_
 ·obtain rfl:=rn h
  exact gs<|G0 (q (pA j)<|nl)<|us<|gr XV j
 ·refine Go.skip<|us<|gs<|gs<|G0 (q (pF (r':=.mp 2 0 1) MZ j)<|q (l0 tF9 j)<|q (pF (r':=.mp 3 0 1) MZ j)<|q (l0 tF9 j)<|q (pB j)<|nl)<|us<|gc h j (SN zu) (fun hc2 h=>?_) fun hc2 h=>?_
  ·obtain rfl:=rn h
   exact gs<|G0 (q (pA j)<|nl)<|us<|gr XV j
  ·refine Go.skip<|us<|gs<|gs<|G0 (q (pF (r':=.mp 2 0 2) Na j)<|q (l0 tF2 j)<|q (pF (r':=.mp 3 0 2) Na j)<|q (l0 tF2 j)<|q (pB j)<|nl)<|us<|gc h j iNe (fun hc3 h=>?_) fun hc3 h=>?_
   ·obtain rfl:=rn h
    exact gs<|G0 (q (pA j)<|nl)<|us<|gr XV j
   ·refine Go.skip<|us<|gs<|gs<|?_
    obtain ⟨x24,hx24,h⟩:=bs h
    refine G0 (q (pF (r':=.mp 2 0 3) Hq j)<|q (pL (cs:=[.im 0 _,.im 0 _,.im 0 _]) H6 j)<|q (pF (r':=.mp 3 0 3) Hq j)<|q (pL (cs:=[.im 0 _,.im 0 _,.im 0 _]) H6 j)<|q (c1 (Gi hx24) Oy j j j j)<|q (pU j)<|nl)<|us<|?_
    by_cases hc4:x24=true
    ·rw [if_pos hc4] at h
     refine gF j (nF (iR.2 hc4))<|Go.skip<|us<|gs<|gs<|G0 (q (pF (r':=.mp 2 0 6) Hr j)<|q (l0 tF2 j)<|q (pF (r':=.mp 3 0 6) Hr j)<|q (l0 tF2 j)<|q (pB j)<|nl)<|us<|gc h j iNe (fun hc5 h=>?_) fun hc5 h=>?_
     ·obtain rfl:=rn h
      exact gs<|G0 (q (pA j)<|nl)<|us<|gr XV j
     ·refine Go.skip<|us<|gs<|gs<|G0 (q (pF (r':=.mp 2 0 7) Ht j)<|q (l0 tF2 j)<|q (pF (r':=.mp 3 0 7) Ht j)<|q (l0 tF2 j)<|q (pB j)<|nl)<|us<|gc h j iNe (fun hc6 h=>?_) fun hc6 h=>?_
      ·obtain rfl:=rn h
       exact gs<|G0 (q (pA j)<|nl)<|us<|gr XV j
      ·refine Go.skip<|us<|gs<|gs<|?_
       obtain ⟨x40,VY,h⟩:=bs h
       refine G0 (q (pF (r':=.mp 2 0 8) Fv j)<|q (l2 VU j)<|q (pF (r':=.mp 3 0 8) Fv j)<|q (l2 VU j)<|q (c1 (TI VY) XH j j j j)<|q (pU j)<|nl)<|us<|?_
       by_cases hc7:x40=true
       ·rw [if_pos hc7] at h
        obtain rfl:=rn h
        exact gF j (nF (iR.2 hc7))<|Go.skip<|us<|gs<|G0 (q (pA j)<|nl)<|us<|gr XV j
       ·rw [if_neg hc7] at h
        obtain rfl:=rn h
        exact gT j (nT (byF iR hc7))<|gs<|G0 (q (pA j)<|nl)<|us<|gr XV j
    ·rw [if_neg hc4] at h
     obtain rfl:=rn h
     exact gT j (nT (byF iR hc4))<|gs<|G0 (q (pA j)<|nl)<|us<|gr XV j
theorem RH {a_0:(List bU)} {b_1:(List bU)} {r:Bool} (h:yQ a_0 b_1=some r):FX 33 [.im 2 false [W 9 aW a_0],.im 2 false [W 9 aW b_1]] (B0 [(false,[.im 0 (V r)])]):=by
 unfold yQ at h
 refine gn 27 Tryz.func33 rfl ?_
 refine gs<|G0 (q (pA j)<|nl)<|us<|gs<|gs<|G0 (q (pM j)<|q (pI X0 j)<|q (pM j)<|q (pI X0 j)<|q (pB j)<|nl)<|us<|gc h j iNe (fun hc1 h=>?_) fun hc1 h=>?_
 ·obtain rfl:=rn h
  exact gs<|G0 (q (pA j)<|nl)<|us<|gr akC j
 ·refine Go.skip<|us<|gs<|gs<|G0 (q (pA j)<|nl)<|us<|Go.block<|?_
  obtain ⟨o,hl,h⟩:=bs h
  refine gl c33 j _ (fun (bY:Int)=>mk [(0,D 2 (W 9 aW a_0)),(1,D 2 (W 9 aW b_1)),(5,iv bY)] []) (fun (o:(Unit ⊕ Bool)) (p:Ex×St)=>match o with | (.inl _)=>p.1= .exit 0∧p.2.norm ([],[])=mk [] [] | (.inr r2)=>p.1= .ret∧fin Tryz.prog cfg 33 Tryz.f33 [.im 2 false [W 9 aW a_0],.im 2 false [W 9 aW b_1]] p.2=some (B0 [(false,[.im 0 (V r2)])])) hl (by kernel_rfl) ?_ ?_ ?_
  ·intro o p hp e
   rcases o with u | r2<;>exact nomatch (hp.1.symm.trans e)
  ·rintro bY o h
   unfold wY at h
   refine gs<|gs<|G0 (q (pM j)<|q (pM j)<|q (pI X0 j)<|q (pB j)<|nl)<|us<|gc h j ah (fun hc6 h=>?_) fun hc6 h=>?_
   ·refine Go.skip<|us<|gs<|Go.block<|gs<|?_
    obtain ⟨x19,ql,x23,oq,h⟩:=b2 h
    obtain ⟨x25,hx25,h⟩:=bs h
    refine gd c33 j j j j (mk [(0,D 2 (W 9 aW a_0)),(1,D 2 (W 9 aW b_1)),(5,iv bY),(26,bv (!x25))] []) (t1 j (pM j)<|t1 j (pM j)<|t1 j (pJ ql EI j)<|t1 j (pL (cs:=[.im 2 _,.im 2 _,.im 2 _,.im 2 _,.im 2 _,.im 2 _,.im 2 _,.im 2 _,.im 2 _]) Jc j)<|t1 j (pM j)<|t1 j (pM j)<|t1 j (pJ oq EI j)<|t1 j (pL (cs:=[.im 2 _,.im 2 _,.im 2 _,.im 2 _,.im 2 _,.im 2 _,.im 2 _,.im 2 _,.im 2 _]) Jc j)<|s1 j (c1 (TJ hx25) Ze j j j j) (t1 j (pU j)<|sD (by kernel_rfl)))<|us<|?_
    by_cases hc7:x25=true
    ·rw [if_pos hc7] at h
     refine gF j (nF (iR.2 hc7))<|Go.skip<|Unw.blk<|us<|G0 (q (pM j)<|q (pB j)<|q (pA j)<|nl)<|Unw.nil<|?_
     cases h
     exact ⟨j,(by kernel_rfl)⟩
    ·rw [if_neg hc7] at h
     refine gT j (nT (byF iR hc7))<|gs<|G0 (q (pA j)<|nl)<|us<|Go.ret (Unw.ret ?_)
     cases h
     exact ⟨j,(fo akC j)⟩
   ·refine Go.exit<|ux<|Unw.nil<|?_
    cases h
    exact ⟨j,(by kernel_rfl)⟩
  ·rintro ⟨e,st⟩ hp
   rcases o with u | r2
   ·dsimp only at h
    obtain ⟨he,hst⟩:=hp
    obtain rfl:e= .exit 0:=he
    obtain rfl:=rn h
    exact Unw.gz<|us<|gs<|g2 c33 j j hst (q (pA j)<|nl)<|us<|gr akC j
   ·dsimp only at h
    obtain ⟨he,hfin⟩:=hp
    obtain rfl:e= .ret:=he
    cases h
    exact Unw.ret (di hfin)
theorem Kz {a_0:ak} {b_1:ak} {r:Bool} (h:qg a_0 b_1=some r):FX 67 [.im 2 true (dZ a_0),.im 2 true (dZ b_1)] (B0 [(false,[.im 0 (V r)])]):=by
 unfold qg at h
 refine gn 30 Tryz.func67 rfl ?_
 refine gs<|G0 (q (pX Bo j (tkI (tkI (tkI (tkI (tkI tk0))))))<|q (pX Bo j (tkI (tkI (tkI (tkI (tkI tk0))))))<|q (pA j)<|nl)<|us<|gs<|gs<|g1 j j (mk [(2,M 2),(3,M 3)] [(2,Oa (G 0 (dZ a_0))),(3,Oa (G 0 (dZ b_1)))]) (q (pF (r':=.mp 2 0 0) xg j)<|q (l0 tF2 j)<|q (pF (r':=.mp 3 0 0) xg j)<|q (l0 tF2 j)<|q (pB j)<|nl)<|us<|gc h j iNe (fun hc1 h=>?_) fun hc1 h=>?_
 ·obtain rfl:=rn h
  exact gs<|G0 (q (pA j)<|nl)<|us<|gr acC j
 ·refine Go.skip<|us<|gs<|gs<|G0 (q (pF (r':=.mp 2 0 1) IU j)<|q (l0 tF2 j)<|q (pF (r':=.mp 3 0 1) IU j)<|q (l0 tF2 j)<|q (pB j)<|nl)<|us<|gc h j iNe (fun hc2 h=>?_) fun hc2 h=>?_
  ·obtain rfl:=rn h
   exact gs<|G0 (q (pA j)<|nl)<|us<|gr acC j
  ·refine Go.skip<|us<|gs<|gs<|G0 (q (pF (r':=.mp 2 0 2) IV j)<|q (l0 tF2 j)<|q (pF (r':=.mp 3 0 2) IV j)<|q (l0 tF2 j)<|q (pB j)<|nl)<|us<|gc h j iNe (fun hc3 h=>?_) fun hc3 h=>?_
   ·obtain rfl:=rn h
    exact gs<|G0 (q (pA j)<|nl)<|us<|gr acC j
   ·refine Go.skip<|us<|gs<|gs<|G0 (q (pF (r':=.mp 2 0 3) IW j)<|q (l0 tF2 j)<|q (pF (r':=.mp 3 0 3) IW j)<|q (l0 tF2 j)<|q (pB j)<|nl)<|us<|gc h j iNe (fun hc4 h=>?_) fun hc4 h=>?_
    ·obtain rfl:=rn h
     exact gs<|G0 (q (pA j)<|nl)<|us<|gr acC j
    ·refine Go.skip<|us<|gs<|gs<|G0 (q (pF (r':=.mp 2 0 4) IX j)<|q (l0 tF2 j)<|q (pF (r':=.mp 3 0 4) IX j)<|q (l0 tF2 j)<|q (pB j)<|nl)<|us<|gc h j iNe (fun hc5 h=>?_) fun hc5 h=>?_
     ·obtain rfl:=rn h
      exact gs<|G0 (q (pA j)<|nl)<|us<|gr acC j
     ·obtain rfl:=rn h
      exact Go.skip<|us<|gs<|G0 (q (pA j)<|nl)<|us<|gr acC j
theorem Jn {a_0:(List ak)} {b_1:(List ak)} {r:Bool} (h:nV a_0 b_1=some r):FX 34 [.im 2 false [W 5 aj a_0],.im 2 false [W 5 aj b_1]] (B0 [(false,[.im 0 (V r)])]):=by
 unfold nV at h
 refine gn 27 Tryz.func34 rfl ?_
 refine gs<|G0 (q (pA j)<|nl)<|us<|gs<|gs<|G0 (q (pM j)<|q (pI Tu j)<|q (pM j)<|q (pI Tu j)<|q (pB j)<|nl)<|us<|gc h j iNe (fun hc1 h=>?_) fun hc1 h=>?_
 ·obtain rfl:=rn h
  exact gs<|G0 (q (pA j)<|nl)<|us<|gr akD j
 ·refine Go.skip<|us<|gs<|gs<|G0 (q (pA j)<|nl)<|us<|Go.block<|?_
  obtain ⟨o,hl,h⟩:=bs h
  refine gl c34 j _ (fun (bY:Int)=>mk [(0,D 2 (W 5 aj a_0)),(1,D 2 (W 5 aj b_1)),(5,iv bY)] []) (fun (o:(Unit ⊕ Bool)) (p:Ex×St)=>match o with | (.inl _)=>p.1= .exit 0∧p.2.norm ([],[])=mk [] [] | (.inr r2)=>p.1= .ret∧fin Tryz.prog cfg 34 Tryz.f34 [.im 2 false [W 5 aj a_0],.im 2 false [W 5 aj b_1]] p.2=some (B0 [(false,[.im 0 (V r2)])])) hl (by kernel_rfl) ?_ ?_ ?_
  ·intro o p hp e
   rcases o with u | r2<;>exact nomatch (hp.1.symm.trans e)
  ·rintro bY o h
   unfold nU at h
   refine gs<|gs<|G0 (q (pM j)<|q (pM j)<|q (pI Tu j)<|q (pB j)<|nl)<|us<|gc h j ah (fun hc6 h=>?_) fun hc6 h=>?_
   ·refine Go.skip<|us<|gs<|Go.block<|gs<|?_
    obtain ⟨x19,ql,x23,oq,h⟩:=b2 h
    obtain ⟨x25,hx25,h⟩:=bs h
    refine gd c34 j j j j (mk [(0,D 2 (W 5 aj a_0)),(1,D 2 (W 5 aj b_1)),(5,iv bY),(26,bv (!x25))] []) (t1 j (pM j)<|t1 j (pM j)<|t1 j (pJ ql Gt j)<|t1 j (pL (cs:=[.im 2 _,.im 2 _,.im 2 _,.im 2 _,.im 2 _]) Bo j)<|t1 j (pM j)<|t1 j (pM j)<|t1 j (pJ oq Gt j)<|t1 j (pL (cs:=[.im 2 _,.im 2 _,.im 2 _,.im 2 _,.im 2 _]) Bo j)<|s1 j (c1 (Kz hx25) VO j j j j) (t1 j (pU j)<|sD (by kernel_rfl)))<|us<|?_
    by_cases hc7:x25=true
    ·rw [if_pos hc7] at h
     refine gF j (nF (iR.2 hc7))<|Go.skip<|Unw.blk<|us<|G0 (q (pM j)<|q (pB j)<|q (pA j)<|nl)<|Unw.nil<|?_
     cases h
     exact ⟨j,(by kernel_rfl)⟩
    ·rw [if_neg hc7] at h
     refine gT j (nT (byF iR hc7))<|gs<|G0 (q (pA j)<|nl)<|us<|Go.ret (Unw.ret ?_)
     cases h
     exact ⟨j,(fo akD j)⟩
   ·refine Go.exit<|ux<|Unw.nil<|?_
    cases h
    exact ⟨j,(by kernel_rfl)⟩
  ·rintro ⟨e,st⟩ hp
   rcases o with u | r2
   ·dsimp only at h
    obtain ⟨he,hst⟩:=hp
    obtain rfl:e= .exit 0:=he
    obtain rfl:=rn h
    exact Unw.gz<|us<|gs<|g2 c34 j j hst (q (pA j)<|nl)<|us<|gr akD j
   ·dsimp only at h
    obtain ⟨he,hfin⟩:=hp
    obtain rfl:e= .ret:=he
    cases h
    exact Unw.ret (di hfin)
theorem RI {a_0:jv} {b_1:jv} {r:Bool} (h:yR a_0 b_1=some r):FX 35 [.im 2 true (qj a_0),.im 2 true (qj b_1)] (B0 [(false,[.im 0 (V r)])]):=by
 unfold yR at h
 refine gn 25 Tryz.func35 rfl ?_
 refine gs<|G0 (q (pX QZ j (tkI (tkI (tkI (tkI tk0)))))<|q (pX QZ j (tkI (tkI (tkI (tkI tk0)))))<|q (pA j)<|nl)<|us<|gs<|gs<|G0 (q (pF (r':=.mp 2 0 0) QH j)<|q (l0 tF2 j)<|q (pF (r':=.mp 3 0 0) QH j)<|q (l0 tF2 j)<|q (pB j)<|nl)<|us<|gc h j iNe (fun hc1 h=>?_) fun hc1 h=>?_
 ·obtain rfl:=rn h
  exact gs<|G0 (q (pA j)<|nl)<|us<|gr afs j
 ·refine Go.skip<|us<|gs<|gs<|G0 (q (pF (r':=.mp 2 0 1) QI j)<|q (l0 tF2 j)<|q (pF (r':=.mp 3 0 1) QI j)<|q (l0 tF2 j)<|q (pB j)<|nl)<|us<|gc h j iNe (fun hc2 h=>?_) fun hc2 h=>?_
  ·obtain rfl:=rn h
   exact gs<|G0 (q (pA j)<|nl)<|us<|gr afs j
  ·refine Go.skip<|us<|gs<|gs<|G0 (q (pF (r':=.mp 2 0 2) QJ j)<|q (l0 tF2 j)<|q (pF (r':=.mp 3 0 2) QJ j)<|q (l0 tF2 j)<|q (pB j)<|nl)<|us<|gc h j iNe (fun hc3 h=>?_) fun hc3 h=>?_
   ·obtain rfl:=rn h
    exact gs<|G0 (q (pA j)<|nl)<|us<|gr afs j
   ·refine Go.skip<|us<|gs<|gs<|G0 (q (pF (r':=.mp 2 0 3) QK j)<|q (l0 tF2 j)<|q (pF (r':=.mp 3 0 3) QK j)<|q (l0 tF2 j)<|q (pB j)<|nl)<|us<|gc h j iNe (fun hc4 h=>?_) fun hc4 h=>?_
    ·obtain rfl:=rn h
     exact gs<|G0 (q (pA j)<|nl)<|us<|gr afs j
    ·obtain rfl:=rn h
     exact Go.skip<|us<|gs<|G0 (q (pA j)<|nl)<|us<|gr afs j
theorem V8 {a_0:fM} {b_1:fM} {r:Bool} (h:CY a_0 b_1=some r):FX 11 [.im 2 true (bI a_0),.im 2 true (bI b_1)] (B0 [(false,[.im 0 (V r)])]):=by
 unfold CY at h
 refine gn 61 Tryz.func11 rfl ?_
 refine gs<|G0 (q (pX Gu j (tkI (tkI (tkI (tkI (tkI (tkI (tkI (tkI (tkI (tkI (tkI (tkI (tkI (tkI (tkI (tkI (tkI tk0))))))))))))))))))<|q (pX Gu j (tkI (tkI (tkI (tkI (tkI (tkI (tkI (tkI (tkI (tkI (tkI (tkI (tkI (tkI (tkI (tkI (tkI tk0))))))))))))))))))<|q (pA j)<|nl)<|us<|gs<|gs<|?_
 obtain ⟨x9,hx9,h⟩:=bs h
 refine g1 j j (mk [(2,M 2),(3,M 3)] [(2,Oa (G 2 (bI a_0))),(3,Oa (G 2 (bI b_1)))]) (q (pF (r':=.mp 2 0 0) qQ j)<|q (pL (cs:=[.im 0 _,.im 0 _,.im 2 _,.im 2 _,.im 2 _]) Ns j)<|q (pF (r':=.mp 3 0 0) qQ j)<|q (pL (cs:=[.im 0 _,.im 0 _,.im 2 _,.im 2 _,.im 2 _]) Ns j)<|q (c1 (NY hx9) Y8 j j j j)<|q (pU j)<|nl)<|us<|?_
 by_cases hc1:x9=true
 ·rw [if_pos hc1] at h
  refine gF j (nF (iR.2 hc1))<|Go.skip<|us<|gs<|gs<|?_
  obtain ⟨x15,rW,h⟩:=bs h
  refine G0 (q (pF (r':=.mp 2 0 5) Fj j)<|q (l2 VT j)<|q (pF (r':=.mp 3 0 5) Fj j)<|q (l2 VT j)<|q (c1 (RH rW) Y9 j j j j)<|q (pU j)<|nl)<|us<|?_
  by_cases hc2:x15=true
  ·rw [if_pos hc2] at h
   refine gF j (nF (iR.2 hc2))<|Go.skip<|us<|gs<|gs<|?_
   obtain ⟨x21,xx,h⟩:=bs h
   refine G0 (q (pF (r':=.mp 2 0 6) A8 j)<|q (l2 OL j)<|q (pF (r':=.mp 3 0 6) A8 j)<|q (l2 OL j)<|q (c1 (Jn xx) Za j j j j)<|q (pU j)<|nl)<|us<|?_
   by_cases hc3:x21=true
   ·rw [if_pos hc3] at h
    refine gF j (nF (iR.2 hc3))<|Go.skip<|us<|gs<|gs<|?_
    obtain ⟨x27,hx27,h⟩:=bs h
    refine G0 (q (pF (r':=.mp 2 0 7) QL j)<|q (pL (cs:=[.im 0 _,.im 0 _,.im 0 _,.im 0 _]) QZ j)<|q (pF (r':=.mp 3 0 7) QL j)<|q (pL (cs:=[.im 0 _,.im 0 _,.im 0 _,.im 0 _]) QZ j)<|q (c1 (RI hx27) Zb j j j j)<|q (pU j)<|nl)<|us<|?_
    by_cases hc4:x27=true
    ·rw [if_pos hc4] at h
     refine gF j (nF (iR.2 hc4))<|Go.skip<|us<|gs<|gs<|G0 (q (pF (r':=.mp 2 0 11) QM j)<|q (l0 tF2 j)<|q (pF (r':=.mp 3 0 11) QM j)<|q (l0 tF2 j)<|q (pB j)<|nl)<|us<|gc h j iNe (fun hc5 h=>?_) fun hc5 h=>?_
     ·obtain rfl:=rn h
      exact gs<|G0 (q (pA j)<|nl)<|us<|gr QY j
     ·refine Go.skip<|us<|gs<|gs<|G0 (q (pF (r':=.mp 2 0 12) QN j)<|q (l0 tF2 j)<|q (pF (r':=.mp 3 0 12) QN j)<|q (l0 tF2 j)<|q (pB j)<|nl)<|us<|gc h j iNe (fun hc6 h=>?_) fun hc6 h=>?_
      ·obtain rfl:=rn h
       exact gs<|G0 (q (pA j)<|nl)<|us<|gr QY j
      ·refine Go.skip<|us<|gs<|gs<|G0 (q (pF (r':=.mp 2 0 13) JS j)<|q (l0 tF2 j)<|q (pF (r':=.mp 3 0 13) JS j)<|q (l0 tF2 j)<|q (pB j)<|nl)<|us<|gc h j iNe (fun hc7 h=>?_) fun hc7 h=>?_
       ·obtain rfl:=rn h
        exact gs<|G0 (q (pA j)<|nl)<|us<|gr QY j
       ·refine Go.skip<|us<|gs<|gs<|G0 (q (pF (r':=.mp 2 0 14) MX j)<|q (l0 tF2 j)<|q (pF (r':=.mp 3 0 14) MX j)<|q (l0 tF2 j)<|q (pB j)<|nl)<|us<|gc h j iNe (fun hc8 h=>?_) fun hc8 h=>?_
        ·obtain rfl:=rn h
         exact gs<|G0 (q (pA j)<|nl)<|us<|gr QY j
        ·refine Go.skip<|us<|gs<|gs<|?_
         obtain ⟨x53,afE,h⟩:=bs h
         refine G0 (q (pF (r':=.mp 2 0 15) zF j)<|q (l2 l9 j)<|q (pF (r':=.mp 3 0 15) zF j)<|q (l2 l9 j)<|q (c1 (Bh afE) JX j j j j)<|q (pU j)<|nl)<|us<|?_
         by_cases hc9:x53=true
         ·rw [if_pos hc9] at h
          refine gF j (nF (iR.2 hc9))<|Go.skip<|us<|gs<|gs<|?_
          obtain ⟨x59,afz,h⟩:=bs h
          refine G0 (q (pF (r':=.mp 2 0 16) VC j)<|q (l2 l9 j)<|q (pF (r':=.mp 3 0 16) VC j)<|q (l2 l9 j)<|q (c1 (Bh afz) JX j j j j)<|q (pU j)<|nl)<|us<|?_
          by_cases gU:x59=true
          ·rw [if_pos gU] at h
           obtain rfl:=rn h
           exact gF j (nF (iR.2 gU))<|Go.skip<|us<|gs<|G0 (q (pA j)<|nl)<|us<|gr QY j
          ·rw [if_neg gU] at h
           obtain rfl:=rn h
           exact gT j (nT (byF iR gU))<|gs<|G0 (q (pA j)<|nl)<|us<|gr QY j
         ·rw [if_neg hc9] at h
          obtain rfl:=rn h
          exact gT j (nT (byF iR hc9))<|gs<|G0 (q (pA j)<|nl)<|us<|gr QY j
    ·rw [if_neg hc4] at h
     obtain rfl:=rn h
     exact gT j (nT (byF iR hc4))<|gs<|G0 (q (pA j)<|nl)<|us<|gr QY j
   ·rw [if_neg hc3] at h
    obtain rfl:=rn h
    exact gT j (nT (byF iR hc3))<|gs<|G0 (q (pA j)<|nl)<|us<|gr QY j
  ·rw [if_neg hc2] at h
   obtain rfl:=rn h
   exact gT j (nT (byF iR hc2))<|gs<|G0 (q (pA j)<|nl)<|us<|gr QY j
 ·rw [if_neg hc1] at h
  obtain rfl:=rn h
  exact gT j (nT (byF iR hc1))<|gs<|G0 (q (pA j)<|nl)<|us<|gr QY j
theorem Il {a_0:(List ae)} {k_1:Int} {r:Int} (h:ng a_0 k_1=some r):FX 118 [.ws false [W 2 af a_0],.im 2 false [I k_1]] (B0 [(false,[.im 0 (I r)])]):=by
 unfold ng at h
 refine AQ (A:=[(0,.v false [.ws (W 2 af a_0)]),(1,D 2 (I k_1))]) (B:=[(0,none),(1,none)]) (nt:=27) rfl rfl Tryz.func118 rfl rfl rfl rfl ?_
 refine gs<|G0 (q (pA j)<|nl)<|us<|gs<|gs<|G0 (q (pA j)<|nl)<|us<|Go.block<|?_
 obtain ⟨o,hl,h⟩:=bs h
 refine gl alK j _ (fun (s:(Int×Int))=>match s with | (bf,aF)=>mk [(0,.v false [.ws (W 2 af a_0)]),(1,iv bf),(5,iv aF)] []) (fun (bZ:Int) (p:Ex×St)=>p.1= .exit 0∧p.2.norm ([1],[])=mk [(1,iv bZ)] []) hl (by kernel_rfl) ?_ ?_ ?_
 ·intro o p hp e
  exact nomatch (hp.1.symm.trans e)
 ·rintro ⟨bf,aF⟩ o h
  unfold jS at h
  dsimp only at h
  refine gs<|gs<|G0 (q (pM j)<|q (pM j)<|q (YN j j Ba j)<|q (pB j)<|nl)<|us<|gc h j ah (fun hc3 h=>?_) fun hc3 h=>?_
  ·refine Go.skip<|us<|gs<|Go.block<|gs<|?_
   obtain ⟨x15,rW,h⟩:=bs h
   refine G0 (q (pM j)<|q (pM j)<|q (pM j)<|q (Ae j rW oZ j j)<|q (pF (r':=.ws _) dO j)<|q (BF tF2 j j j j)<|nl)<|us<|gs<|g1 j j (mk [(0,.v false [.ws (W 2 af a_0)]),(1,iv bf),(5,iv aF)] []) (q (pM j)<|q (pB j)<|q (pA j)<|nl)<|us<|gs<|?_
   obtain ⟨x22,qp,h⟩:=bs h
   refine G0 (q (pM j)<|q (pM j)<|q (pM j)<|q (Ae j qp oZ j j)<|q (pF (r':=.ws _) dH j)<|q (BF tF2 j j j j)<|nl)<|us<|g1 j j (mk [(0,.v false [.ws (W 2 af a_0)]),(1,iv (w64 (bf+1))),(5,iv aF)] []) (q (pM j)<|q (pB j)<|q (pA j)<|nl)<|Unw.blk<|us<|G0 (q (pM j)<|q (pB j)<|q (pA j)<|nl)<|Unw.nil<|?_
   cases h
   exact ⟨j,(by kernel_rfl)⟩
  ·refine Go.exit<|ux<|Unw.nil<|?_
   cases h
   exact ⟨j,(by kernel_rfl)⟩
 ·rintro ⟨e,st⟩ hp
  obtain ⟨bZ,rfl⟩:∃y,y=o:=⟨o,rfl⟩
  obtain ⟨he,hst⟩:=hp
  obtain rfl:e= .exit 0:=he
  obtain rfl:=rn h
  exact Unw.gz<|us<|gs<|g2 alK j j hst (q (pM j)<|q (pA j)<|nl)<|us<|gr al6 j
theorem je {k_0:Int} {r:ByteArray} (h:fQ k_0=some r):FX 41 [.im 2 false [I k_0]] (B0 [(false,[.im 0 (Y r)])]):=by
 unfold fQ at h
 refine gn 20 Tryz.func41 rfl ?_
 refine gs<|G0 (q (pA j)<|nl)<|us<|gs<|gs<|G0 (q (pM j)<|q (pB j)<|nl)<|us<|gc h j ah (fun hc1 h=>?_) fun hc1 h=>?_
 ·obtain rfl:=rn h
  exact gs<|G0 (q (pA j)<|nl)<|us<|gr amX j
 ·refine Go.skip<|us<|gs<|G0 (q (pA j)<|nl)<|us<|gs<|Go.block<|?_
  obtain ⟨o,hl,h⟩:=bs h
  refine gl c41 j _ (fun (s:(Int×ByteArray))=>match s with | (MW,Hl)=>mk [(0,iv MW),(3,sv Hl)] []) (fun (Fe:ByteArray) (p:Ex×St)=>p.1= .exit 0∧p.2.norm ([3],[])=mk [(3,sv Fe)] []) hl (by kernel_rfl) ?_ ?_ ?_
  ·intro o p hp e
   exact nomatch (hp.1.symm.trans e)
  ·rintro ⟨MW,Hl⟩ o h
   unfold lZ at h
   dsimp only at h
   refine gs<|gs<|G0 (q (pM j)<|q (pB j)<|nl)<|us<|gc h j ah (fun hc4 h=>?_) fun hc4 h=>?_
   ·refine Go.skip<|us<|Go.block<|gs<|?_
    obtain ⟨x9,hx9,x15,rW,h⟩:=b2 h
    refine G0 (q (pM j)<|q (Ja j hx9 j j)<|q (pB j)<|q (an8 j uF3 uF5 j)<|q (oBS (es:=List.map (eK .u8) ([(IntKind.wrap .u8 ((w64 (48+x9))))]:List Int)) j anb j (ptC j (fxI fx0) j pt0) (gY j fun _=>j))<|q (an9 (l:=([(IntKind.wrap .u8 ((w64 (48+x9))))]:List Int)) j ano uF5 uF9 j (yf j j))<|q (pM j)<|q (alA j rW j j)<|q (pA j)<|nl)<|us<|?_
    obtain ⟨x17,xP,h⟩:=bs h
    refine G0 (q (pM j)<|q (an7 j xP j j)<|q (pA j)<|nl)<|Unw.blk<|Unw.nil<|?_
    cases h
    exact ⟨j,(by kernel_rfl)⟩
   ·refine Go.exit<|ux<|Unw.nil<|?_
    cases h
    exact ⟨j,(by kernel_rfl)⟩
  ·rintro ⟨e,st⟩ hp
   obtain ⟨Fe,rfl⟩:∃y,y=o:=⟨o,rfl⟩
   obtain ⟨he,hst⟩:=hp
   obtain rfl:e= .exit 0:=he
   refine Unw.gz<|us<|gs<|?_
   obtain ⟨x19,ql,h⟩:=bs h
   obtain rfl:=rn h
   exact g2 c41 j j hst (q (pM j)<|q (alA j ql j j)<|q (pA j)<|nl)<|us<|gr amX j
theorem uU {a_0:(List Int)} {k_1:Int} {r:Int} (h:jh a_0 k_1=some r):FX 40 [.ws false [W 1 eI a_0],.im 2 false [I k_1]] (B0 [(false,[.im 0 (I r)])]):=by
 unfold jh at h
 refine AQ (A:=[(0,.v false [.ws (W 1 eI a_0)]),(1,D 2 (I k_1))]) (B:=[(0,none),(1,none)]) (nt:=19) rfl rfl Tryz.func40 rfl rfl rfl rfl ?_
 refine gs<|G0 (q (pA j)<|nl)<|us<|gs<|gs<|G0 (q (pA j)<|nl)<|us<|Go.block<|?_
 obtain ⟨o,hl,h⟩:=bs h
 refine gl c40 j _ (fun (s:(Int×Int))=>match s with | (bf,aF)=>mk [(0,.v false [.ws (W 1 eI a_0)]),(1,iv bf),(5,iv aF)] []) (fun (bZ:Int) (p:Ex×St)=>p.1= .exit 0∧p.2.norm ([1],[])=mk [(1,iv bZ)] []) hl (by kernel_rfl) ?_ ?_ ?_
 ·intro o p hp e
  exact nomatch (hp.1.symm.trans e)
 ·rintro ⟨bf,aF⟩ o h
  unfold jT at h
  dsimp only at h
  refine gs<|gs<|G0 (q (pM j)<|q (pM j)<|q (YN j j yV j)<|q (pB j)<|nl)<|us<|gc h j ah (fun hc3 h=>?_) fun hc3 h=>?_
  ·refine Go.skip<|us<|gs<|Go.block<|gs<|?_
   obtain ⟨x15,rW,h⟩:=bs h
   refine G0 (q (pM j)<|q (pM j)<|q (pM j)<|q (Ae j rW lS j j)<|q (BF tF2 j j j j)<|nl)<|us<|g1 j j (mk [(0,.v false [.ws (W 1 eI a_0)]),(1,iv bf),(5,iv aF)] []) (q (pM j)<|q (pB j)<|q (pA j)<|nl)<|Unw.blk<|us<|G0 (q (pM j)<|q (pB j)<|q (pA j)<|nl)<|Unw.nil<|?_
   cases h
   exact ⟨j,(by kernel_rfl)⟩
  ·refine Go.exit<|ux<|Unw.nil<|?_
   cases h
   exact ⟨j,(by kernel_rfl)⟩
 ·rintro ⟨e,st⟩ hp
  obtain ⟨bZ,rfl⟩:∃y,y=o:=⟨o,rfl⟩
  obtain ⟨he,hst⟩:=hp
  obtain rfl:e= .exit 0:=he
  obtain rfl:=rn h
  exact Unw.gz<|us<|gs<|g2 c40 j j hst (q (pM j)<|q (pA j)<|nl)<|us<|gr aoQ j
theorem NZ {a_0:(List bT)} {k_1:Int} {r:Int} (h:uM a_0 k_1=some r):FX 119 [.ws false [W 2 aQ a_0],.im 2 false [I k_1]] (B0 [(false,[.im 0 (I r)])]):=by
 unfold uM at h
 refine AQ (A:=[(0,.v false [.ws (W 2 aQ a_0)]),(1,D 2 (I k_1))]) (B:=[(0,none),(1,none)]) (nt:=28) rfl rfl Tryz.func119 rfl rfl rfl rfl ?_
 refine gs<|G0 (q (pA j)<|nl)<|us<|gs<|gs<|G0 (q (pA j)<|nl)<|us<|Go.block<|?_
 obtain ⟨o,hl,h⟩:=bs h
 refine gl c119 j _ (fun (s:(Int×Int))=>match s with | (bf,aF)=>mk [(0,.v false [.ws (W 2 aQ a_0)]),(1,iv bf),(5,iv aF)] []) (fun (bZ:Int) (p:Ex×St)=>p.1= .exit 0∧p.2.norm ([1],[])=mk [(1,iv bZ)] []) hl (by kernel_rfl) ?_ ?_ ?_
 ·intro o p hp e
  exact nomatch (hp.1.symm.trans e)
 ·rintro ⟨bf,aF⟩ o h
  unfold nX at h
  dsimp only at h
  refine gs<|gs<|G0 (q (pM j)<|q (pM j)<|q (YN j j FB j)<|q (pB j)<|nl)<|us<|gc h j ah (fun hc3 h=>?_) fun hc3 h=>?_
  ·refine Go.skip<|us<|gs<|Go.block<|gs<|?_
   obtain ⟨x15,rW,x16,hx16,h⟩:=b2 h
   refine G0 (q (pM j)<|q (pM j)<|q (pM j)<|q (c1 (je rW) Fz j j j j)<|q (Ae j hx16 EH j j)<|q (pF (r':=.ws _) vM j)<|q (BF tF9 j j j j)<|nl)<|us<|gs<|g1 j j (mk [(0,.v false [.ws (W 2 aQ a_0)]),(1,iv bf),(5,iv aF)] []) (q (pM j)<|q (pB j)<|q (pA j)<|nl)<|us<|?_
   obtain ⟨x22,qp,x26,Ny,h⟩:=b2 h
   refine G0 (q (pM j)<|q (pM j)<|q (Ae j qp EH j j)<|q (pF (r':=.ws _) yT j)<|q (pL (cs:=[.ws _]) l9 j)<|q (pM j)<|q (c1 (uU Ny) Nq j j j j)<|q (pA j)<|nl)<|Unw.blk<|us<|G0 (q (pM j)<|q (pB j)<|q (pA j)<|nl)<|Unw.nil<|?_
   cases h
   exact ⟨j,(by kernel_rfl)⟩
  ·refine Go.exit<|ux<|Unw.nil<|?_
   cases h
   exact ⟨j,(by kernel_rfl)⟩
 ·rintro ⟨e,st⟩ hp
  obtain ⟨bZ,rfl⟩:∃y,y=o:=⟨o,rfl⟩
  obtain ⟨he,hst⟩:=hp
  obtain rfl:e= .exit 0:=he
  obtain rfl:=rn h
  exact Unw.gz<|us<|gs<|g2 c119 j j hst (q (pM j)<|q (pA j)<|nl)<|us<|gr al7 j
theorem KA {a_0:aB} {k_1:Int} {r:Int} (h:qh a_0 k_1=some r):FX 68 [.ws true (au a_0),.im 2 false [I k_1]] (B0 [(false,[.im 0 (I r)])]):=by
 unfold qh at h
 refine AQ (A:=[(0,.v true (S (au a_0))),(1,D 2 (I k_1))]) (B:=[(0,none),(1,none)]) (nt:=14) rfl rfl Tryz.func68 rfl rfl rfl rfl ?_
 refine gs<|G0 (q (pX Du j (tkW (tkW (tkW (tkW tk0)))))<|q (pA j)<|nl)<|us<|gs<|?_
 obtain ⟨x8,hx8,h⟩:=bs h
 refine G0 (q (pF (r':=.mp 2 0 2) uO j)<|q (pL (cs:=[.ws _]) HY j)<|q (pM j)<|q (c1 (Il hx8) Y2 j j j j)<|q (pA j)<|nl)<|us<|gs<|?_
 obtain ⟨x12,oP,h⟩:=bs h
 obtain rfl:=rn h
 exact G0 (q (pF (r':=.mp 2 0 3) jD j)<|q (pL (cs:=[.ws _]) yU j)<|q (pM j)<|q (c1 (NZ oP) Y3 j j j j)<|q (pA j)<|nl)<|us<|gs<|G0 (q (pM j)<|q (pA j)<|nl)<|us<|gr ao0 j
theorem Gw {a_0:(List aI)} {k_1:Int} {r:Int} (h:lI a_0 k_1=some r):FX 69 [.ws false [W 3 aK a_0],.im 2 false [I k_1]] (B0 [(false,[.im 0 (I r)])]):=by
 unfold lI at h
 refine AQ (A:=[(0,.v false [.ws (W 3 aK a_0)]),(1,D 2 (I k_1))]) (B:=[(0,none),(1,none)]) (nt:=35) rfl rfl Tryz.func69 rfl rfl rfl rfl ?_
 refine gs<|G0 (q (pA j)<|nl)<|us<|gs<|gs<|G0 (q (pA j)<|nl)<|us<|Go.block<|?_
 obtain ⟨o,hl,h⟩:=bs h
 refine gl c69 j _ (fun (s:(Int×Int))=>match s with | (bf,aF)=>mk [(0,.v false [.ws (W 3 aK a_0)]),(1,iv bf),(5,iv aF)] []) (fun (bZ:Int) (p:Ex×St)=>p.1= .exit 0∧p.2.norm ([1],[])=mk [(1,iv bZ)] []) hl (by kernel_rfl) ?_ ?_ ?_
 ·intro o p hp e
  exact nomatch (hp.1.symm.trans e)
 ·rintro ⟨bf,aF⟩ o h
  unfold jA at h
  dsimp only at h
  refine gs<|gs<|G0 (q (pM j)<|q (pM j)<|q (YN j j VV j)<|q (pB j)<|nl)<|us<|gc h j ah (fun hc3 h=>?_) fun hc3 h=>?_
  ·refine Go.skip<|us<|gs<|Go.block<|gs<|?_
   obtain ⟨x15,rW,x16,hx16,h⟩:=b2 h
   refine G0 (q (pM j)<|q (pM j)<|q (pM j)<|q (c1 (je rW) Fz j j j j)<|q (Ae j hx16 VS j j)<|q (pF (r':=.ws _) JU j)<|q (BF tF9 j j j j)<|nl)<|us<|gs<|g1 j j (mk [(0,.v false [.ws (W 3 aK a_0)]),(1,iv bf),(5,iv aF)] []) (q (pM j)<|q (pB j)<|q (pA j)<|nl)<|us<|gs<|?_
   obtain ⟨x23,oq,h⟩:=bs h
   refine G0 (q (pM j)<|q (pM j)<|q (pM j)<|q (Ae j oq VS j j)<|q (pF (r':=.ws _) Fq j)<|q (BF tF2 j j j j)<|nl)<|us<|gs<|g1 j j (mk [(0,.v false [.ws (W 3 aK a_0)]),(1,iv (w64 (bf+1))),(5,iv aF)] []) (q (pM j)<|q (pB j)<|q (pA j)<|nl)<|us<|gs<|?_
   obtain ⟨x30,Jf,h⟩:=bs h
   refine G0 (q (pM j)<|q (pM j)<|q (pM j)<|q (Ae j Jf VS j j)<|q (pF (r':=.ws _) JV j)<|q (BF tF2 j j j j)<|nl)<|us<|g1 j j (mk [(0,.v false [.ws (W 3 aK a_0)]),(1,iv (w64 ((w64 (bf+1))+1))),(5,iv aF)] []) (q (pM j)<|q (pB j)<|q (pA j)<|nl)<|Unw.blk<|us<|G0 (q (pM j)<|q (pB j)<|q (pA j)<|nl)<|Unw.nil<|?_
   cases h
   exact ⟨j,(by kernel_rfl)⟩
  ·refine Go.exit<|ux<|Unw.nil<|?_
   cases h
   exact ⟨j,(by kernel_rfl)⟩
 ·rintro ⟨e,st⟩ hp
  obtain ⟨bZ,rfl⟩:∃y,y=o:=⟨o,rfl⟩
  obtain ⟨he,hst⟩:=hp
  obtain rfl:e= .exit 0:=he
  obtain rfl:=rn h
  exact Unw.gz<|us<|gs<|g2 c69 j j hst (q (pM j)<|q (pA j)<|nl)<|us<|gr ao1 j
theorem KC {a_0:dJ} {k_1:Int} {r:Int} (h:vK a_0 k_1=some r):FX 37 [.ws true (fB a_0),.im 2 false [I k_1]] (B0 [(false,[.im 0 (I r)])]):=by
 unfold vK at h
 refine AQ (A:=[(0,.v true (S (fB a_0))),(1,D 2 (I k_1))]) (B:=[(0,none),(1,none)]) (nt:=14) rfl rfl Tryz.func37 rfl rfl rfl rfl ?_
 refine gs<|G0 (q (pX Ns j (tkW (tkW (tkW (tkW (tkW tk0))))))<|q (pA j)<|nl)<|us<|gs<|?_
 obtain ⟨x8,hx8,h⟩:=bs h
 refine g1 j j (mk [(1,iv k_1),(2,M 2)] [(2,Oa (Q (fB a_0)))]) (q (pF (r':=.mp 2 0 0) uP j)<|q (pL (cs:=[.ws _,.ws _,.ws _,.ws _]) Du j)<|q (pM j)<|q (c1 (KA hx8) acv j j j j)<|q (pA j)<|nl)<|us<|gs<|?_
 obtain ⟨x12,oP,h⟩:=bs h
 obtain rfl:=rn h
 exact G0 (q (pF (r':=.mp 2 0 4) D5 j)<|q (pL (cs:=[.ws _]) Tq j)<|q (pM j)<|q (c1 (Gw oP) acw j j j j)<|q (pA j)<|nl)<|us<|gs<|G0 (q (pM j)<|q (pA j)<|nl)<|us<|gr aoN j
theorem KD {a_0:(List dn)} {k_1:Int} {r:Int} (h:qi a_0 k_1=some r):FX 70 [.ws false [W 4 cu a_0],.im 2 false [I k_1]] (B0 [(false,[.im 0 (I r)])]):=by
 unfold qi at h
 refine AQ (A:=[(0,.v false [.ws (W 4 cu a_0)]),(1,D 2 (I k_1))]) (B:=[(0,none),(1,none)]) (nt:=41) rfl rfl Tryz.func70 rfl rfl rfl rfl ?_
 refine gs<|G0 (q (pA j)<|nl)<|us<|gs<|gs<|G0 (q (pA j)<|nl)<|us<|Go.block<|?_
 obtain ⟨o,hl,h⟩:=bs h
 refine gl c70 j _ (fun (s:(Int×Int))=>match s with | (bf,aF)=>mk [(0,.v false [.ws (W 4 cu a_0)]),(1,iv bf),(5,iv aF)] []) (fun (bZ:Int) (p:Ex×St)=>p.1= .exit 0∧p.2.norm ([1],[])=mk [(1,iv bZ)] []) hl (by kernel_rfl) ?_ ?_ ?_
 ·intro o p hp e
  exact nomatch (hp.1.symm.trans e)
 ·rintro ⟨bf,aF⟩ o h
  unfold lJ at h
  dsimp only at h
  refine gs<|gs<|G0 (q (pM j)<|q (pM j)<|q (YN j j X3 j)<|q (pB j)<|nl)<|us<|gc h j ah (fun hc3 h=>?_) fun hc3 h=>?_
  ·refine Go.skip<|us<|gs<|Go.block<|gs<|?_
   obtain ⟨x15,rW,h⟩:=bs h
   refine G0 (q (pM j)<|q (pM j)<|q (pM j)<|q (Ae j rW Tn j j)<|q (pF (r':=.ws _) BM j)<|q (BF tF2 j j j j)<|nl)<|us<|gs<|g1 j j (mk [(0,.v false [.ws (W 4 cu a_0)]),(1,iv bf),(5,iv aF)] []) (q (pM j)<|q (pB j)<|q (pA j)<|nl)<|us<|gs<|?_
   obtain ⟨x22,qp,h⟩:=bs h
   refine G0 (q (pM j)<|q (pM j)<|q (pM j)<|q (Ae j qp Tn j j)<|q (pF (r':=.ws _) Aa j)<|q (BF tF2 j j j j)<|nl)<|us<|gs<|g1 j j (mk [(0,.v false [.ws (W 4 cu a_0)]),(1,iv (w64 (bf+1))),(5,iv aF)] []) (q (pM j)<|q (pB j)<|q (pA j)<|nl)<|us<|gs<|?_
   obtain ⟨x29,hx29,h⟩:=bs h
   refine G0 (q (pM j)<|q (pM j)<|q (pM j)<|q (Ae j hx29 Tn j j)<|q (pF (r':=.ws _) Fg j)<|q (BF tF2 j j j j)<|nl)<|us<|gs<|g1 j j (mk [(0,.v false [.ws (W 4 cu a_0)]),(1,iv (w64 ((w64 (bf+1))+1))),(5,iv aF)] []) (q (pM j)<|q (pB j)<|q (pA j)<|nl)<|us<|gs<|?_
   obtain ⟨x36,H9,h⟩:=bs h
   refine G0 (q (pM j)<|q (pM j)<|q (pM j)<|q (Ae j H9 Tn j j)<|q (pF (r':=.ws _) IY j)<|q (BF tF2 j j j j)<|nl)<|us<|g1 j j (mk [(0,.v false [.ws (W 4 cu a_0)]),(1,iv (w64 ((w64 ((w64 (bf+1))+1))+1))),(5,iv aF)] []) (q (pM j)<|q (pB j)<|q (pA j)<|nl)<|Unw.blk<|us<|G0 (q (pM j)<|q (pB j)<|q (pA j)<|nl)<|Unw.nil<|?_
   cases h
   exact ⟨j,(by kernel_rfl)⟩
  ·refine Go.exit<|ux<|Unw.nil<|?_
   cases h
   exact ⟨j,(by kernel_rfl)⟩
 ·rintro ⟨e,st⟩ hp
  obtain ⟨bZ,rfl⟩:∃y,y=o:=⟨o,rfl⟩
  obtain ⟨he,hst⟩:=hp
  obtain rfl:e= .exit 0:=he
  obtain rfl:=rn h
  exact Unw.gz<|us<|gs<|g2 c70 j j hst (q (pM j)<|q (pA j)<|nl)<|us<|gr ao2 j
theorem N7 {a_0:(List bU)} {k_1:Int} {r:Int} (h:uN a_0 k_1=some r):FX 38 [.ws false [W 9 aW a_0],.im 2 false [I k_1]] (B0 [(false,[.im 0 (I r)])]):=by
 unfold uN at h
 refine AQ (A:=[(0,.v false [.ws (W 9 aW a_0)]),(1,D 2 (I k_1))]) (B:=[(0,none),(1,none)]) (nt:=82) rfl rfl Tryz.func38 rfl rfl rfl rfl ?_
 refine gs<|G0 (q (pA j)<|nl)<|us<|gs<|gs<|G0 (q (pA j)<|nl)<|us<|Go.block<|?_
 obtain ⟨o,hl,h⟩:=bs h
 refine gl c38 j _ (fun (s:(Int×Int))=>match s with | (bf,aF)=>mk [(0,.v false [.ws (W 9 aW a_0)]),(1,iv bf),(5,iv aF)] []) (fun (bZ:Int) (p:Ex×St)=>p.1= .exit 0∧p.2.norm ([1],[])=mk [(1,iv bZ)] []) hl (by kernel_rfl) ?_ ?_ ?_
 ·intro o p hp e
  exact nomatch (hp.1.symm.trans e)
 ·rintro ⟨bf,aF⟩ o h
  unfold nY at h
  dsimp only at h
  refine gs<|gs<|G0 (q (pM j)<|q (pM j)<|q (YN j j X0 j)<|q (pB j)<|nl)<|us<|gc h j ah (fun hc3 h=>?_) fun hc3 h=>?_
  ·refine Go.skip<|us<|gs<|Go.block<|gs<|?_
   obtain ⟨x15,rW,x16,hx16,h⟩:=b2 h
   refine G0 (q (pM j)<|q (pM j)<|q (pM j)<|q (c1 (je rW) Fz j j j j)<|q (Ae j hx16 EI j j)<|q (pF (r':=.ws _) D6 j)<|q (BF tF9 j j j j)<|nl)<|us<|gs<|g1 j j (mk [(0,.v false [.ws (W 9 aW a_0)]),(1,iv bf),(5,iv aF)] []) (q (pM j)<|q (pB j)<|q (pA j)<|nl)<|us<|gs<|?_
   obtain ⟨x23,oq,x24,hx24,h⟩:=b2 h
   refine G0 (q (pM j)<|q (pM j)<|q (pM j)<|q (c1 (je oq) Fz j j j j)<|q (Ae j hx24 EI j j)<|q (pF (r':=.ws _) MZ j)<|q (BF tF9 j j j j)<|nl)<|us<|gs<|g1 j j (mk [(0,.v false [.ws (W 9 aW a_0)]),(1,iv (w64 (bf+1))),(5,iv aF)] []) (q (pM j)<|q (pB j)<|q (pA j)<|nl)<|us<|gs<|?_
   obtain ⟨x31,hx31,h⟩:=bs h
   refine G0 (q (pM j)<|q (pM j)<|q (pM j)<|q (Ae j hx31 EI j j)<|q (pF (r':=.ws _) Na j)<|q (BF tF2 j j j j)<|nl)<|us<|gs<|g1 j j (mk [(0,.v false [.ws (W 9 aW a_0)]),(1,iv (w64 ((w64 (bf+1))+1))),(5,iv aF)] []) (q (pM j)<|q (pB j)<|q (pA j)<|nl)<|us<|gs<|?_
   obtain ⟨x38,hx38,x39,hx39,h⟩:=b2 h
   refine G0 (q (pM j)<|q (pM j)<|q (pM j)<|q (c1 (je hx38) Fz j j j j)<|q (Ae j hx39 EI j j)<|q (pF (r':=.ws _) Hq j)<|q (pF (r':=.ws _) JU j)<|q (BF tF9 j j j j)<|nl)<|us<|gs<|g1 j j (mk [(0,.v false [.ws (W 9 aW a_0)]),(1,iv (w64 ((w64 ((w64 (bf+1))+1))+1))),(5,iv aF)] []) (q (pM j)<|q (pB j)<|q (pA j)<|nl)<|us<|gs<|?_
   obtain ⟨x47,Zi,h⟩:=bs h
   refine G0 (q (pM j)<|q (pM j)<|q (pM j)<|q (Ae j Zi EI j j)<|q (pF (r':=.ws _) Hq j)<|q (pF (r':=.ws _) Fq j)<|q (BF tF2 j j j j)<|nl)<|us<|gs<|g1 j j (mk [(0,.v false [.ws (W 9 aW a_0)]),(1,iv (w64 ((w64 ((w64 ((w64 (bf+1))+1))+1))+1))),(5,iv aF)] []) (q (pM j)<|q (pB j)<|q (pA j)<|nl)<|us<|gs<|?_
   obtain ⟨x55,apA,h⟩:=bs h
   refine G0 (q (pM j)<|q (pM j)<|q (pM j)<|q (Ae j apA EI j j)<|q (pF (r':=.ws _) Hq j)<|q (pF (r':=.ws _) JV j)<|q (BF tF2 j j j j)<|nl)<|us<|gs<|g1 j j (mk [(0,.v false [.ws (W 9 aW a_0)]),(1,iv (w64 ((w64 ((w64 ((w64 ((w64 (bf+1))+1))+1))+1))+1))),(5,iv aF)] []) (q (pM j)<|q (pB j)<|q (pA j)<|nl)<|us<|gs<|?_
   obtain ⟨x63,acE,h⟩:=bs h
   refine G0 (q (pM j)<|q (pM j)<|q (pM j)<|q (Ae j acE EI j j)<|q (pF (r':=.ws _) Hr j)<|q (BF tF2 j j j j)<|nl)<|us<|gs<|g1 j j (mk [(0,.v false [.ws (W 9 aW a_0)]),(1,iv (w64 ((w64 ((w64 ((w64 ((w64 ((w64 (bf+1))+1))+1))+1))+1))+1))),(5,iv aF)] []) (q (pM j)<|q (pB j)<|q (pA j)<|nl)<|us<|gs<|?_
   obtain ⟨x70,afB,h⟩:=bs h
   refine G0 (q (pM j)<|q (pM j)<|q (pM j)<|q (Ae j afB EI j j)<|q (pF (r':=.ws _) Ht j)<|q (BF tF2 j j j j)<|nl)<|us<|gs<|g1 j j (mk [(0,.v false [.ws (W 9 aW a_0)]),(1,iv (w64 ((w64 ((w64 ((w64 ((w64 ((w64 ((w64 (bf+1))+1))+1))+1))+1))+1))+1))),(5,iv aF)] []) (q (pM j)<|q (pB j)<|q (pA j)<|nl)<|us<|?_
   obtain ⟨x76,akV,x80,apB,h⟩:=b2 h
   refine G0 (q (pM j)<|q (pM j)<|q (Ae j akV EI j j)<|q (pF (r':=.ws _) Fv j)<|q (pL (cs:=[.ws _]) VU j)<|q (pM j)<|q (c1 (KD apB) acy j j j j)<|q (pA j)<|nl)<|Unw.blk<|us<|G0 (q (pM j)<|q (pB j)<|q (pA j)<|nl)<|Unw.nil<|?_
   cases h
   exact ⟨j,(by kernel_rfl)⟩
  ·refine Go.exit<|ux<|Unw.nil<|?_
   cases h
   exact ⟨j,(by kernel_rfl)⟩
 ·rintro ⟨e,st⟩ hp
  obtain ⟨bZ,rfl⟩:∃y,y=o:=⟨o,rfl⟩
  obtain ⟨he,hst⟩:=hp
  obtain rfl:e= .exit 0:=he
  obtain rfl:=rn h
  exact Unw.gz<|us<|gs<|g2 c38 j j hst (q (pM j)<|q (pA j)<|nl)<|us<|gr aoO j
theorem Ed {a_0:(List ak)} {k_1:Int} {r:Int} (h:jB a_0 k_1=some r):FX 39 [.ws false [W 5 aj a_0],.im 2 false [I k_1]] (B0 [(false,[.im 0 (I r)])]):=by
 unfold jB at h
 refine AQ (A:=[(0,.v false [.ws (W 5 aj a_0)]),(1,D 2 (I k_1))]) (B:=[(0,none),(1,none)]) (nt:=48) rfl rfl Tryz.func39 rfl rfl rfl rfl ?_
 refine gs<|G0 (q (pA j)<|nl)<|us<|gs<|gs<|G0 (q (pA j)<|nl)<|us<|Go.block<|?_
 obtain ⟨o,hl,h⟩:=bs h
 refine gl c39 j _ (fun (s:(Int×Int))=>match s with | (bf,aF)=>mk [(0,.v false [.ws (W 5 aj a_0)]),(1,iv bf),(5,iv aF)] []) (fun (bZ:Int) (p:Ex×St)=>p.1= .exit 0∧p.2.norm ([1],[])=mk [(1,iv bZ)] []) hl (by kernel_rfl) ?_ ?_ ?_
 ·intro o p hp e
  exact nomatch (hp.1.symm.trans e)
 ·rintro ⟨bf,aF⟩ o h
  unfold iL at h
  dsimp only at h
  refine gs<|gs<|G0 (q (pM j)<|q (pM j)<|q (YN j j Tu j)<|q (pB j)<|nl)<|us<|gc h j ah (fun hc3 h=>?_) fun hc3 h=>?_
  ·refine Go.skip<|us<|gs<|Go.block<|gs<|?_
   obtain ⟨x15,rW,h⟩:=bs h
   refine G0 (q (pM j)<|q (pM j)<|q (pM j)<|q (Ae j rW Gt j j)<|q (pF (r':=.ws _) xg j)<|q (BF tF2 j j j j)<|nl)<|us<|gs<|g1 j j (mk [(0,.v false [.ws (W 5 aj a_0)]),(1,iv bf),(5,iv aF)] []) (q (pM j)<|q (pB j)<|q (pA j)<|nl)<|us<|gs<|?_
   obtain ⟨x22,qp,h⟩:=bs h
   refine G0 (q (pM j)<|q (pM j)<|q (pM j)<|q (Ae j qp Gt j j)<|q (pF (r':=.ws _) IU j)<|q (BF tF2 j j j j)<|nl)<|us<|gs<|g1 j j (mk [(0,.v false [.ws (W 5 aj a_0)]),(1,iv (w64 (bf+1))),(5,iv aF)] []) (q (pM j)<|q (pB j)<|q (pA j)<|nl)<|us<|gs<|?_
   obtain ⟨x29,hx29,h⟩:=bs h
   refine G0 (q (pM j)<|q (pM j)<|q (pM j)<|q (Ae j hx29 Gt j j)<|q (pF (r':=.ws _) IV j)<|q (BF tF2 j j j j)<|nl)<|us<|gs<|g1 j j (mk [(0,.v false [.ws (W 5 aj a_0)]),(1,iv (w64 ((w64 (bf+1))+1))),(5,iv aF)] []) (q (pM j)<|q (pB j)<|q (pA j)<|nl)<|us<|gs<|?_
   obtain ⟨x36,H9,h⟩:=bs h
   refine G0 (q (pM j)<|q (pM j)<|q (pM j)<|q (Ae j H9 Gt j j)<|q (pF (r':=.ws _) IW j)<|q (BF tF2 j j j j)<|nl)<|us<|gs<|g1 j j (mk [(0,.v false [.ws (W 5 aj a_0)]),(1,iv (w64 ((w64 ((w64 (bf+1))+1))+1))),(5,iv aF)] []) (q (pM j)<|q (pB j)<|q (pA j)<|nl)<|us<|gs<|?_
   obtain ⟨x43,Jg,h⟩:=bs h
   refine G0 (q (pM j)<|q (pM j)<|q (pM j)<|q (Ae j Jg Gt j j)<|q (pF (r':=.ws _) IX j)<|q (BF tF2 j j j j)<|nl)<|us<|g1 j j (mk [(0,.v false [.ws (W 5 aj a_0)]),(1,iv (w64 ((w64 ((w64 ((w64 (bf+1))+1))+1))+1))),(5,iv aF)] []) (q (pM j)<|q (pB j)<|q (pA j)<|nl)<|Unw.blk<|us<|G0 (q (pM j)<|q (pB j)<|q (pA j)<|nl)<|Unw.nil<|?_
   cases h
   exact ⟨j,(by kernel_rfl)⟩
  ·refine Go.exit<|ux<|Unw.nil<|?_
   cases h
   exact ⟨j,(by kernel_rfl)⟩
 ·rintro ⟨e,st⟩ hp
  obtain ⟨bZ,rfl⟩:∃y,y=o:=⟨o,rfl⟩
  obtain ⟨he,hst⟩:=hp
  obtain rfl:e= .exit 0:=he
  obtain rfl:=rn h
  exact Unw.gz<|us<|gs<|g2 c39 j j hst (q (pM j)<|q (pA j)<|nl)<|us<|gr aoP j
theorem RJ {a_0:fM} {k_1:Int} {r:Int} (h:yS a_0 k_1=some r):FX 12 [.ws true (bI a_0),.im 2 false [I k_1]] (B0 [(false,[.im 0 (I r)])]):=by
 unfold yS at h
 refine AQ (A:=[(0,.v true (S (bI a_0))),(1,D 2 (I k_1))]) (B:=[(0,none),(1,none)]) (nt:=26) rfl rfl Tryz.func12 rfl rfl rfl rfl ?_
 refine gs<|G0 (q (pX Gu j (tkW (tkW (tkW (tkW (tkW (tkW (tkW (tkW (tkW (tkW (tkW (tkW (tkW (tkW (tkW (tkW (tkW tk0))))))))))))))))))<|q (pA j)<|nl)<|us<|gs<|?_
 obtain ⟨x8,hx8,h⟩:=bs h
 refine g1 j j (mk [(1,iv k_1),(2,M 2)] [(2,Oa (Q (bI a_0)))]) (q (pF (r':=.mp 2 0 0) qQ j)<|q (pL (cs:=[.ws _,.ws _,.ws _,.ws _,.ws _]) Ns j)<|q (pM j)<|q (c1 (KC hx8) acn j j j j)<|q (pA j)<|nl)<|us<|gs<|?_
 obtain ⟨x12,oP,h⟩:=bs h
 refine G0 (q (pF (r':=.mp 2 0 5) Fj j)<|q (pL (cs:=[.ws _]) VT j)<|q (pM j)<|q (c1 (N7 oP) aco j j j j)<|q (pA j)<|nl)<|us<|gs<|?_
 obtain ⟨x16,hx16,h⟩:=bs h
 refine G0 (q (pF (r':=.mp 2 0 6) A8 j)<|q (pL (cs:=[.ws _]) OL j)<|q (pM j)<|q (c1 (Ed hx16) acp j j j j)<|q (pA j)<|nl)<|us<|gs<|?_
 obtain ⟨x20,ny,h⟩:=bs h
 refine G0 (q (pF (r':=.mp 2 0 15) zF j)<|q (pL (cs:=[.ws _]) l9 j)<|q (pM j)<|q (c1 (uU ny) Nq j j j j)<|q (pA j)<|nl)<|us<|gs<|?_
 obtain ⟨x24,hx24,h⟩:=bs h
 obtain rfl:=rn h
 exact G0 (q (pF (r':=.mp 2 0 16) VC j)<|q (pL (cs:=[.ws _]) l9 j)<|q (pM j)<|q (c1 (uU hx24) Nq j j j j)<|q (pA j)<|nl)<|us<|gs<|G0 (q (pM j)<|q (pA j)<|nl)<|us<|gr aoF j
theorem Jo {a_0:(List ai)} {k_1:Int} {r:(Int×(List ai))} (h:og a_0 k_1=some r):FX 13 [.ow 3 (List.map aA a_0),.im 2 false [I k_1]] ([(false,[.im 0 (I r.1)])],[.ow 3 (List.map aA r.2)]):=by
 unfold og at h
 refine AQ (A:=[(0,H 0 0),(1,D 2 (I k_1))]) (B:=[(0,Oe [Z (W 3 aA a_0)]),(1,none)]) (nt:=36) rfl rfl Tryz.func13 rfl rfl rfl rfl ?_
 refine gs<|G0 (q (pA j)<|nl)<|us<|gs<|gs<|G0 (q (pA j)<|nl)<|us<|Go.block<|?_
 obtain ⟨o,hl,h⟩:=bs h
 refine gl c13 j _ (fun (s:(Int×Int×(List ai)))=>match s with | (bf,aF,wZ)=>mk [(0,H 0 0),(1,iv bf),(5,iv aF)] [(0,Oe [Z (W 3 aA wZ)])]) (fun (o:(Int×(List ai))) (p:Ex×St)=>match o with | (bZ,EE)=>p.1= .exit 0∧p.2.norm ([1],[0])=mk [(1,iv bZ)] [(0,Oe [Z (W 3 aA EE)])]) hl (by kernel_rfl) ?_ ?_ ?_
 ·intro o p hp e
  obtain ⟨bZ,EE⟩:=o
  exact nomatch (hp.1.symm.trans e)
 ·rintro ⟨bf,aF,wZ⟩ o h
  unfold nZ at h
  dsimp only at h
  refine gs<|gs<|G0 (q (pM j)<|q (pM j)<|q (U7 j j Tt j j j (fun e=>nomatch e))<|q (pB j)<|nl)<|us<|gc h j ah (fun hc3 h=>?_) fun hc3 h=>?_
  ·refine Go.skip<|us<|gs<|Go.block<|gs<|?_
   obtain ⟨x15,rW,h⟩:=bs h
   refine G0 (q (pM j)<|q (pM j)<|q (pM j)<|q (Gm j rW EG j j j j)<|q (pF (r':=.mpe 0 0 0 _ 0) VD j)<|q (Qz (v':=(⟨bf,x15.Who,x15.What⟩:ai)) tF2 j j j (fxI fx0) j j (oH rW) j)<|nl)<|us<|gs<|g1 j j (mk [(0,H 0 0),(1,iv bf),(5,iv aF)] [(0,Oe [Z (W 3 aA (wZ.set aF.toNat (⟨bf,x15.Who,x15.What⟩:ai)))])]) (q (pM j)<|q (pB j)<|q (pA j)<|nl)<|us<|gs<|?_
   obtain ⟨x22,qp,x23,oq,h⟩:=b2 h
   refine G0 (q (pM j)<|q (pM j)<|q (pM j)<|q (c1 (je qp) Fz j j j j)<|q (Gm j oq EG j j j j)<|q (pF (r':=.mpe 0 0 0 _ 1) VE j)<|q (Qz (v':=(⟨x23.Kind,x22,x23.What⟩:ai)) tF9 j j j (fxI fx0) j j (oH oq) j)<|nl)<|us<|gs<|g1 j j (mk [(0,H 0 0),(1,iv (w64 (bf+1))),(5,iv aF)] [(0,Oe [Z (W 3 aA ((wZ.set aF.toNat (⟨bf,x15.Who,x15.What⟩:ai)).set aF.toNat (⟨x23.Kind,x22,x23.What⟩:ai)))])]) (q (pM j)<|q (pB j)<|q (pA j)<|nl)<|us<|gs<|?_
   obtain ⟨x30,Jf,x31,hx31,h⟩:=b2 h
   refine G0 (q (pM j)<|q (pM j)<|q (pM j)<|q (c1 (je Jf) Fz j j j j)<|q (Gm j hx31 EG j j j j)<|q (pF (r':=.mpe 0 0 0 _ 2) VF j)<|q (Qz (v':=(⟨x31.Kind,x31.Who,x30⟩:ai)) tF9 j j j (fxI fx0) j j (oH hx31) j)<|nl)<|us<|g1 j j (mk [(0,H 0 0),(1,iv (w64 ((w64 (bf+1))+1))),(5,iv aF)] [(0,Oe [Z (W 3 aA (((wZ.set aF.toNat (⟨bf,x15.Who,x15.What⟩:ai)).set aF.toNat (⟨x23.Kind,x22,x23.What⟩:ai)).set aF.toNat (⟨x31.Kind,x31.Who,x30⟩:ai)))])]) (q (pM j)<|q (pB j)<|q (pA j)<|nl)<|Unw.blk<|us<|G0 (q (pM j)<|q (pB j)<|q (pA j)<|nl)<|Unw.nil<|?_
   cases h
   exact ⟨j,(by kernel_rfl)⟩
  ·refine Go.exit<|ux<|Unw.nil<|?_
   cases h
   exact ⟨j,(by kernel_rfl)⟩
 ·rintro ⟨e,st⟩ hp
  obtain ⟨bZ,EE⟩:=o
  dsimp only at h
  obtain ⟨he,hst⟩:=hp
  obtain rfl:e= .exit 0:=he
  obtain rfl:=rn h
  exact Unw.gz<|us<|gs<|g2 c13 j j hst (q (pM j)<|q (pA j)<|nl)<|us<|gr aoG j
theorem Bz {a_0:(List ai)} {k_1:Int} {r:Int} (h:kW a_0 k_1=some r):FX 14 [.im 2 false [W 3 aA a_0],.im 2 false [I k_1]] (B0 [(false,[.im 0 (I r)])]):=by
 unfold kW at h
 refine gn 42 Tryz.func14 rfl ?_
 refine gs<|G0 (q (pA j)<|nl)<|us<|gs<|gs<|G0 (q (pA j)<|nl)<|us<|Go.block<|?_
 obtain ⟨o,hl,h⟩:=bs h
 refine gl c14 j _ (fun (s:(Int×Int))=>match s with | (bf,aF)=>mk [(0,D 2 (W 3 aA a_0)),(1,iv bf),(5,iv aF)] []) (fun (o:(Int ⊕ Int)) (p:Ex×St)=>match o with | (.inl bZ)=>p.1= .exit 0∧p.2.norm ([1],[])=mk [(1,iv bZ)] [] | (.inr r2)=>p.1= .ret∧fin Tryz.prog cfg 14 Tryz.f14 [.im 2 false [W 3 aA a_0],.im 2 false [I k_1]] p.2=some (B0 [(false,[.im 0 (I r2)])])) hl (by kernel_rfl) ?_ ?_ ?_
 ·intro o p hp e
  rcases o with bZ | r2<;>exact nomatch (hp.1.symm.trans e)
 ·rintro ⟨bf,aF⟩ o h
  unfold oh at h
  dsimp only at h
  refine gs<|gs<|G0 (q (pM j)<|q (pM j)<|q (pI Tt j)<|q (pB j)<|nl)<|us<|gc h j ah (fun hc9 h=>?_) fun hc9 h=>?_
  ·refine Go.skip<|us<|gs<|Go.block<|gs<|gs<|?_
   obtain ⟨x14,kR,h⟩:=bs h
   refine G0 (q (pM j)<|q (pM j)<|q (pJ kR EG j)<|q (f2 VD j)<|q (l2 tF2 j)<|q (pM j)<|q (pB j)<|nl)<|us<|gc h j iNe (fun gU h=>?_) fun gU h=>?_
   ·refine gs<|G0 (q (pA j)<|nl)<|us<|Go.ret (Unw.ret ?_)
    cases h
    exact ⟨j,(fo ah0 j)⟩
   ·refine Go.skip<|us<|gs<|G0 (q (pM j)<|q (pB j)<|q (pA j)<|nl)<|us<|gs<|gs<|?_
    obtain ⟨x23,oq,x27,hx27,h⟩:=b2 h
    refine gd c14 j j j j (mk [(0,D 2 (W 3 aA a_0)),(1,iv (w64 (bf+1))),(5,iv aF),(28,bv (!(x23.Who.toList==x27.toList)))] []) (t1 j (pM j)<|t1 j (pM j)<|t1 j (pJ oq EG j)<|t1 j (f2 VE j)<|t1 j (l2 tF9 j)<|t1 j (pM j)<|s1 j (c1 (je hx27) Fz j j j j) (t1 j (pB j)<|sD (by kernel_rfl)))<|us<|gc h j (SN zu) (fun J4 h=>?_) fun J4 h=>?_
    ·refine gs<|G0 (q (pA j)<|nl)<|us<|Go.ret (Unw.ret ?_)
     cases h
     exact ⟨j,(fo ah0 j)⟩
    ·refine Go.skip<|us<|gs<|G0 (q (pM j)<|q (pB j)<|q (pA j)<|nl)<|us<|gs<|gs<|?_
     obtain ⟨x33,afG,x37,Rk,h⟩:=b2 h
     refine gd c14 j j j j (mk [(0,D 2 (W 3 aA a_0)),(1,iv (w64 ((w64 (bf+1))+1))),(5,iv aF),(38,bv (!(x33.What.toList==x37.toList)))] []) (t1 j (pM j)<|t1 j (pM j)<|t1 j (pJ afG EG j)<|t1 j (f2 VF j)<|t1 j (l2 tF9 j)<|t1 j (pM j)<|s1 j (c1 (je Rk) Fz j j j j) (t1 j (pB j)<|sD (by kernel_rfl)))<|us<|gc h j (SN zu) (fun hc12 h=>?_) fun hc12 h=>?_
     ·refine gs<|G0 (q (pA j)<|nl)<|us<|Go.ret (Unw.ret ?_)
      cases h
      exact ⟨j,(fo ah0 j)⟩
     ·refine Go.skip<|us<|G0 (q (pM j)<|q (pB j)<|q (pA j)<|nl)<|Unw.blk<|us<|G0 (q (pM j)<|q (pB j)<|q (pA j)<|nl)<|Unw.nil<|?_
      cases h
      exact ⟨j,(by kernel_rfl)⟩
  ·refine Go.exit<|ux<|Unw.nil<|?_
   cases h
   exact ⟨j,(by kernel_rfl)⟩
 ·rintro ⟨e,st⟩ hp
  rcases o with bZ | r2
  ·dsimp only at h
   obtain ⟨he,hst⟩:=hp
   obtain rfl:e= .exit 0:=he
   obtain rfl:=rn h
   exact Unw.gz<|us<|gs<|g2 c14 j j hst (q (pM j)<|q (pA j)<|nl)<|us<|gr ah0 j
  ·dsimp only at h
   obtain ⟨he,hfin⟩:=hp
   obtain rfl:e= .ret:=he
   cases h
   exact Unw.ret (di hfin)
theorem BP {Ff:fM} {r:Bool} (h:jQ Ff=some r):FX 5 [.im 2 true (bI Ff)] (B0 [(false,[.im 0 (V r)])]):=by
 unfold jQ at h
 refine gn 96 Tryz.func5 rfl ?_
 refine gs<|G0 (q (pX XZ j (tkI (tkI (tkI (tkI (tkI (tkI (tkI (tkI (tkI (tkI (tkI (tkI (tkI (tkI (tkI (tkI (tkI tk0))))))))))))))))))<|q (pA j)<|nl)<|us<|gs<|g1 j j (mk [(1,M 1)] [(1,Oa (G 2 (bI Ff)))]) (q (pA j)<|nl)<|us<|gs<|?_
 obtain ⟨x16,hx16,h⟩:=bs h
 refine G0 (q (pL (cs:=[.im 0 _,.im 0 _,.im 2 _,.im 2 _,.im 2 _,.im 2 _,.im 2 _,.im 0 _,.im 0 _,.im 0 _,.im 0 _,.im 0 _,.im 0 _,.im 0 _,.im 0 _,.im 2 _,.im 2 _]) XZ j)<|q (pM j)<|q (c1 (VW hx16) ae8 j j j j)<|q (pA j)<|nl)<|us<|gs<|gs<|G0 (q (pM j)<|q (pB j)<|nl)<|us<|gc h j ah (fun hc1 h=>?_) fun hc1 h=>?_
 ·obtain rfl:=rn h
  exact gs<|G0 (q (pA j)<|nl)<|us<|gr rF5 j
 ·refine Go.skip<|us<|gs<|?_
  obtain ⟨x21,xx,x22,qp,h⟩:=b2 h
  refine G0 (q (pL (cs:=[.im 0 _,.im 0 _,.im 2 _,.im 2 _,.im 2 _,.im 2 _,.im 2 _,.im 0 _,.im 0 _,.im 0 _,.im 0 _,.im 0 _,.im 0 _,.im 0 _,.im 0 _,.im 2 _,.im 2 _]) XZ j)<|q (cR (vs:=[(true,[.im 0 _,.im 0 _,.own 21 0 0,.own 21 0 1,.own 21 0 2,.own 21 0 3,.own 21 0 4,.im 0 _,.im 0 _,.im 0 _,.im 0 _,.im 0 _,.im 0 _,.im 0 _,.im 0 _,.own 21 0 5,.own 21 0 6])]) (v:=.v true [.im 0 _,.im 0 _,.own 21 0 0,.own 21 0 1,.own 21 0 2,.own 21 0 3,.own 21 0 4,.im 0 _,.im 0 _,.im 0 _,.im 0 _,.im 0 _,.im 0 _,.im 0 _,.im 0 _,.own 21 0 5,.own 21 0 6]) (c:=⟨.sh,0,_⟩) (cs:=[⟨.sh,0,_⟩,⟨.sh,0,_⟩,⟨.sh,0,_⟩,⟨.sh,0,_⟩,⟨.sh,0,_⟩,⟨.sh,0,_⟩]) (BN xx) VQ j j j j j)<|q (cR (vs:=[(false,[.own 22 0 0]),(false,[.im 0 _])]) (v:=.tup [(false,[.own 22 0 0]),(false,[.im 0 _])]) (c:=⟨.sh,0,_⟩) (cs:=[]) (Ie qp) ahB j j j j j)<|q (Qy j j)<|q (oEx j j j)<|q (oEx j j j)<|q (jU j j j j j)<|q (pA j)<|nl)<|us<|gs<|?_
  obtain ⟨x26,Ny,h⟩:=bs h
  refine G0 (q (pL (cs:=[.im 0 _,.im 0 _,.im 2 _,.im 2 _,.im 2 _,.im 2 _,.im 2 _,.im 0 _,.im 0 _,.im 0 _,.im 0 _,.im 0 _,.im 0 _,.im 0 _,.im 0 _,.im 2 _,.im 2 _]) XZ j)<|q (oCF (xs:=[.v true [.im 0 _,.im 0 _,.im 2 _,.im 2 _,.im 2 _,.im 2 _,.im 2 _,.im 0 _,.im 0 _,.im 0 _,.im 0 _,.im 0 _,.im 0 _,.im 0 _,.im 0 _,.im 2 _,.im 2 _]]) (vs:=[(true,[.im 0 _,.im 0 _,.fr _,.fr _,.fr _,.fr _,.fr _,.im 0 _,.im 0 _,.im 0 _,.im 0 _,.im 0 _,.im 0 _,.im 0 _,.im 0 _,.fr _,.fr _])]) (v:=.v true [.im 0 _,.im 0 _,.fr _,.fr _,.fr _,.fr _,.fr _,.im 0 _,.im 0 _,.im 0 _,.im 0 _,.im 0 _,.im 0 _,.im 0 _,.im 0 _,.fr _,.fr _]) (BN Ny) (.inl j) j VQ j (ppC j pp0) j j j j)<|q (oAl j Gu (tkI (tkI (tkN (tkN (tkN (tkN (tkN (tkI (tkI (tkI (tkI (tkI (tkI (tkI (tkI (tkN (tkN tk0))))))))))))))))))<|q (pS Gu j (tkI (tkI (tkF (tkF (tkF (tkF (tkF (tkI (tkI (tkI (tkI (tkI (tkI (tkI (tkI (tkF (tkF tk0))))))))))))))))) j)<|nl)<|us<|gs<|?_
  obtain ⟨x29,hx29,h⟩:=bs h
  refine g1 j j (mk [(1,M 1),(4,H 4 0),(5,iv x22.2),(6,M 6)] [(1,Oa (G 2 (bI Ff))),(4,Oc [Z (W 3 aA x22.1)]),(6,Oa (K (bI x26)))]) (q (pL (cs:=[.im 0 _,.im 0 _,.fr _,.fr _,.fr _,.fr _,.fr _,.im 0 _,.im 0 _,.im 0 _,.im 0 _,.im 0 _,.im 0 _,.im 0 _,.im 0 _,.fr _,.fr _]) Gu j)<|q (cR (vs:=[(false,[.own 29 0 0]),(false,[.im 0 _])]) (v:=.tup [(false,[.own 29 0 0]),(false,[.im 0 _])]) (c:=⟨.sh,0,_⟩) (cs:=[]) (AA hx29) abj j j j j j)<|q (Qy j j)<|q (oEx j j j)<|q (oEx j j j)<|q (jU j j j j j)<|q (pA j)<|nl)<|us<|gs<|gs<|?_
  obtain ⟨x34,hx34,h⟩:=bs h
  refine gX c5 j j j (mk [(1,M 1),(4,H 4 0),(5,iv x22.2),(6,M 6),(7,H 7 0),(8,iv x29.2),(40,bv ((!x34)||(x29.2 != x22.2)))] [(1,Oa (G 2 (bI Ff))),(4,Oc [Z (W 3 aA x22.1)]),(6,Oa (K (bI x26))),(7,Oc [Z (W 3 aA x29.1)])]) ?_ ?_
  ·refine xq (pM j)<|xq (pM j)<|xq (c1 (y5 hx34) JW j j j j)<|xq (pU j)<|xq (pM j)<|?_
   by_cases hc2:x34=true
   ·exact xG rfl (nF (iR.2 hc2)) (pM rfl)<|xG rfl (nF (iR.2 hc2)) (pM rfl)<|xG rfl (nF (iR.2 hc2)) (pB rfl)<|xq (pW rfl (nF (iR.2 hc2)))<|xn (Eq.trans (b:=(fun FZ:Bool=>mk [(1,M 1),(4,H 4 0),(5,iv x22.2),(6,M 6),(7,H 7 0),(8,iv x29.2),(40,bv FZ)] [(1,Oa (G 2 (bI Ff))),(4,Oc [Z (W 3 aA x22.1)]),(6,Oa (K (bI x26))),(7,Oc [Z (W 3 aA x29.1)])]) (x29.2 != x22.2)) (by kernel_rfl) (congrArg (fun FZ:Bool=>mk [(1,M 1),(4,H 4 0),(5,iv x22.2),(6,M 6),(7,H 7 0),(8,iv x29.2),(40,bv FZ)] [(1,Oa (G 2 (bI Ff))),(4,Oc [Z (W 3 aA x22.1)]),(6,Oa (K (bI x26))),(7,Oc [Z (W 3 aA x29.1)])]) (by first | rfl | (simp [(iR.2 hc2)];done) | (simp [(iR.2 hc2)];omega))))
   ·exact xF rfl (nT (byF iR hc2))<|xF rfl (nT (byF iR hc2))<|xF rfl (nT (byF iR hc2))<|xq (pT rfl (nT (byF iR hc2)))<|xn (Eq.trans (b:=(fun FZ:Bool=>mk [(1,M 1),(4,H 4 0),(5,iv x22.2),(6,M 6),(7,H 7 0),(8,iv x29.2),(40,bv FZ)] [(1,Oa (G 2 (bI Ff))),(4,Oc [Z (W 3 aA x22.1)]),(6,Oa (K (bI x26))),(7,Oc [Z (W 3 aA x29.1)])]) true) (by kernel_rfl) (congrArg (fun FZ:Bool=>mk [(1,M 1),(4,H 4 0),(5,iv x22.2),(6,M 6),(7,H 7 0),(8,iv x29.2),(40,bv FZ)] [(1,Oa (G 2 (bI Ff))),(4,Oc [Z (W 3 aA x22.1)]),(6,Oa (K (bI x26))),(7,Oc [Z (W 3 aA x29.1)])]) (by first | rfl | (simp [(byF iR hc2)];done) | (simp [(byF iR hc2)];omega))))
  ·refine us<|gc h j (iOr (SN iR) iNe) (fun hc3 h=>?_) fun hc3 h=>?_
   ·obtain rfl:=rn h
    exact gs<|G0 (q (pA j)<|nl)<|us<|gr rF5 j
   ·refine Go.skip<|us<|gs<|gs<|?_
    obtain ⟨x43,Jg,x44,afC,h⟩:=b2 h
    refine gd c5 j j j j (mk [(1,M 1),(4,H 4 0),(5,iv x22.2),(6,M 6),(7,H 7 0),(8,iv x29.2),(45,bv (!x44))] [(1,Oa (G 2 (bI Ff))),(4,Oc [Z (W 3 aA x22.1)]),(6,Oa (K (bI x26))),(7,Oc [Z (W 3 aA x29.1)])]) (t1 j (pL (cs:=[.im 0 _,.im 0 _,.fr _,.fr _,.fr _,.fr _,.fr _,.im 0 _,.im 0 _,.im 0 _,.im 0 _,.im 0 _,.im 0 _,.im 0 _,.im 0 _,.fr _,.fr _]) Gu j)<|t1 j (pL (cs:=[.im 0 _,.im 0 _,.im 2 _,.im 2 _,.im 2 _,.im 2 _,.im 2 _,.im 0 _,.im 0 _,.im 0 _,.im 0 _,.im 0 _,.im 0 _,.im 0 _,.im 0 _,.im 2 _,.im 2 _]) XZ j)<|s1 j (cR (vs:=[(true,[.im 0 _,.im 0 _,.own 43 0 0,.own 43 0 1,.own 43 0 2,.own 43 0 3,.own 43 0 4,.im 0 _,.im 0 _,.im 0 _,.im 0 _,.im 0 _,.im 0 _,.im 0 _,.im 0 _,.own 43 0 5,.own 43 0 6])]) (v:=.v true [.im 0 _,.im 0 _,.own 43 0 0,.own 43 0 1,.own 43 0 2,.own 43 0 3,.own 43 0 4,.im 0 _,.im 0 _,.im 0 _,.im 0 _,.im 0 _,.im 0 _,.im 0 _,.im 0 _,.own 43 0 5,.own 43 0 6]) (c:=⟨.sh,0,_⟩) (cs:=[⟨.sh,0,_⟩,⟨.sh,0,_⟩,⟨.sh,0,_⟩,⟨.sh,0,_⟩,⟨.sh,0,_⟩,⟨.sh,0,_⟩]) (BN Jg) VQ j j j j j) (s1 j (c1 (V8 afC) Y4 j j j j) (t1 j (pU j)<|sD (by kernel_rfl))))<|us<|?_
    by_cases hc4:x44=true
    ·rw [if_pos hc4] at h
     refine gF j (nF (iR.2 hc4))<|Go.skip<|us<|gs<|G0 (q (pA j)<|nl)<|us<|gs<|?_
     obtain ⟨x48,apC,h⟩:=bs h
     refine gS j j (mk [(1,M 1),(4,H 4 0),(5,iv x22.2),(6,M 6),(7,H 7 0),(8,iv x29.2),(9,iv 1)] [(1,Oa (G 2 (bI Ff))),(4,Oc [Z (W 3 aA x22.1)]),(6,Oa (Kw (bI x26))),(7,Oc [Z (W 3 aA x29.1)])]) (q (pL (cs:=[.im 0 _,.im 0 _,.ws _,.ws _,.ws _,.ws _,.ws _,.im 0 _,.im 0 _,.im 0 _,.im 0 _,.im 0 _,.im 0 _,.im 0 _,.im 0 _,.ws _,.ws _]) Gu j)<|q (pM j)<|q (c1 (RJ apC) ab5 j j j j)<|q (pA j)<|nl)<|us<|gs<|gs<|?_
     obtain ⟨QG,CZ,h⟩:=bs h
     refine gX c5 j j j (mk [(1,M 1),(4,H 4 0),(5,iv x22.2),(7,H 7 0),(61,bv QG)] [(1,Oa (G 2 (bI Ff))),(4,Oc [Z (W 3 aA x22.1)]),(7,Oc [Z (W 3 aA x29.1)])]) ?_ ?_
     ·refine xq (pM j)<|xq (pB j)<|xq (pM j)<|?_
      refine ic CZ (fun hc5 CZ=>?_) fun hc5 CZ=>?_
      ·cases CZ
       exact xF j (ah.2 hc5)<|xF j (ah.2 hc5)<|xF j (ah.2 hc5)<|xF j (ah.2 hc5)<|xq (pT j (ah.2 hc5))<|xq (pM j)<|xF j j<|xF j j<|xF j j<|xq (pT j j)<|xn
      ·obtain ⟨x54,afF,CZ⟩:=bs CZ
       refine xG j (byF ah hc5) (pM j)<|xG j (byF ah hc5) (pM j)<|xG j (byF ah hc5) (c1 (y5 afF) JW j j j j)<|xG j (byF ah hc5) (pU j)<|xq (pW j (byF ah hc5))<|xq (pM j)<|?_
       refine ic CZ (fun hc6 CZ=>?_) fun hc6 CZ=>?_
       ·cases CZ
        exact xG j (nF (iR.2 hc6)) (pM j)<|xG j (nF (iR.2 hc6)) (pM j)<|xG j (nF (iR.2 hc6)) (pB j)<|xq (pW j (nF (iR.2 hc6)))<|xn
       ·cases CZ
        exact xF j (nT (byF iR hc6))<|xF j (nT (byF iR hc6))<|xF j (nT (byF iR hc6))<|xq (pT j (nT (byF iR hc6)))<|xn
     ·refine us<|gc h j iR (fun hc7 h=>?_) fun hc7 h=>?_
      ·obtain rfl:=rn h
       exact gs<|G0 (q (pA j)<|nl)<|us<|gr rF5 j
      ·refine Go.skip<|us<|gs<|G0 (q (pA j)<|nl)<|us<|gs<|?_
       obtain ⟨x64,apD,h⟩:=bs h
       refine G0 (q (pM j)<|q (pM j)<|q (oCa (xs:=[.v false [.own 7 0 0],.v false [.im 0 _]]) (vs:=[(false,[.im 0 _])]) (v:=.v false [.im 0 _]) (Jo apD) (.inl j) j ab6 j (ppC j (ppC j pp0)) j j (pbO j j j j pb0) j j j)<|q (pA j)<|nl)<|us<|gs<|g1 j j (mk [(1,M 1),(4,H 4 0),(5,iv x22.2),(7,H 7 0),(10,iv x64.1)] [(1,Oa (G 2 (bI Ff))),(4,Oc [Z (W 3 aA x22.1)]),(7,Oc [Z (W 3 aA x64.2)])]) (q (pA j)<|nl)<|us<|gs<|?_
       obtain ⟨x67,Zj,h⟩:=bs h
       refine G0 (q (pM j)<|q (pM j)<|q (c1 (Bz Zj) Uw j j j j)<|q (pA j)<|nl)<|us<|gs<|gs<|G0 (q (pM j)<|q (pB j)<|nl)<|us<|gc h j ah (fun hc8 h=>?_) fun hc8 h=>?_
       ·obtain rfl:=rn h
        exact gs<|G0 (q (pA j)<|nl)<|us<|gr rF5 j
       ·refine Go.skip<|us<|gs<|gs<|G0 (q (pM j)<|q (pM j)<|q (pB j)<|nl)<|us<|gc h j iNe (fun hc9 h=>?_) fun hc9 h=>?_
        ·obtain rfl:=rn h
         exact gs<|G0 (q (pA j)<|nl)<|us<|gr rF5 j
        ·refine Go.skip<|us<|gs<|?_
         obtain ⟨x75,akS,x76,akV,h⟩:=b2 h
         refine G0 (q (pL (cs:=[.im 0 _,.im 0 _,.im 2 _,.im 2 _,.im 2 _,.im 2 _,.im 2 _,.im 0 _,.im 0 _,.im 0 _,.im 0 _,.im 0 _,.im 0 _,.im 0 _,.im 0 _,.im 2 _,.im 2 _]) XZ j)<|q (cR (vs:=[(true,[.im 0 _,.im 0 _,.own 75 0 0,.own 75 0 1,.own 75 0 2,.own 75 0 3,.own 75 0 4,.im 0 _,.im 0 _,.im 0 _,.im 0 _,.im 0 _,.im 0 _,.im 0 _,.im 0 _,.own 75 0 5,.own 75 0 6])]) (v:=.v true [.im 0 _,.im 0 _,.own 75 0 0,.own 75 0 1,.own 75 0 2,.own 75 0 3,.own 75 0 4,.im 0 _,.im 0 _,.im 0 _,.im 0 _,.im 0 _,.im 0 _,.im 0 _,.im 0 _,.own 75 0 5,.own 75 0 6]) (c:=⟨.sh,0,_⟩) (cs:=[⟨.sh,0,_⟩,⟨.sh,0,_⟩,⟨.sh,0,_⟩,⟨.sh,0,_⟩,⟨.sh,0,_⟩,⟨.sh,0,_⟩]) (BN akS) VQ j j j j j)<|q (cR (vs:=[(false,[.own 76 0 0]),(false,[.im 0 _])]) (v:=.tup [(false,[.own 76 0 0]),(false,[.im 0 _])]) (c:=⟨.sh,0,_⟩) (cs:=[]) (AA akV) abj j j j j j)<|q (Qy j j)<|q (oEx j j j)<|q (oEx j j j)<|q (jU j j j j j)<|q (pA j)<|nl)<|us<|gs<|gs<|?_
         obtain ⟨x81,apE,h⟩:=bs h
         refine gX c5 j j j (mk [(7,H 7 0),(10,iv x64.1),(87,bv ((!x81)||(x76.2 != x22.2)))] [(7,Oc [Z (W 3 aA x64.2)])]) ?_ ?_
         ·refine xq (pM j)<|xq (pM j)<|xq (c1 (y5 apE) JW j j j j)<|xq (pU j)<|xq (pM j)<|?_
          by_cases gU:x81=true
          ·exact xG rfl (nF (iR.2 gU)) (pM rfl)<|xG rfl (nF (iR.2 gU)) (pM rfl)<|xG rfl (nF (iR.2 gU)) (pB rfl)<|xq (pW rfl (nF (iR.2 gU)))<|xn (Eq.trans (b:=(fun Dl:Bool=>mk [(7,H 7 0),(10,iv x64.1),(87,bv Dl)] [(7,Oc [Z (W 3 aA x64.2)])]) (x76.2 != x22.2)) (by kernel_rfl) (congrArg (fun Dl:Bool=>mk [(7,H 7 0),(10,iv x64.1),(87,bv Dl)] [(7,Oc [Z (W 3 aA x64.2)])]) (by first | rfl | (simp [(iR.2 gU)];done) | (simp [(iR.2 gU)];omega))))
          ·exact xF rfl (nT (byF iR gU))<|xF rfl (nT (byF iR gU))<|xF rfl (nT (byF iR gU))<|xq (pT rfl (nT (byF iR gU)))<|xn (Eq.trans (b:=(fun Dl:Bool=>mk [(7,H 7 0),(10,iv x64.1),(87,bv Dl)] [(7,Oc [Z (W 3 aA x64.2)])]) true) (by kernel_rfl) (congrArg (fun Dl:Bool=>mk [(7,H 7 0),(10,iv x64.1),(87,bv Dl)] [(7,Oc [Z (W 3 aA x64.2)])]) (by first | rfl | (simp [(byF iR gU)];done) | (simp [(byF iR gU)];omega))))
         ·refine us<|gc h j (iOr (SN iR) iNe) (fun J4 h=>?_) fun J4 h=>?_
          ·obtain rfl:=rn h
           exact gs<|G0 (q (pA j)<|nl)<|us<|gr rF5 j
          ·refine Go.skip<|us<|gs<|G0 (q (pA j)<|nl)<|us<|gs<|?_
           obtain ⟨x90,hx90,h⟩:=bs h
           refine G0 (q (pM j)<|q (pM j)<|q (c1 (Bz hx90) Uw j j j j)<|q (pA j)<|nl)<|us<|gs<|gs<|G0 (q (pM j)<|q (pB j)<|nl)<|us<|gc h j ah (fun hc12 h=>?_) fun hc12 h=>?_
           ·obtain rfl:=rn h
            exact gs<|G0 (q (pA j)<|nl)<|us<|gr rF5 j
           ·refine Go.skip<|us<|gs<|gs<|G0 (q (pM j)<|q (pM j)<|q (pB j)<|nl)<|us<|gc h j iNe (fun hc13 h=>?_) fun hc13 h=>?_
            ·obtain rfl:=rn h
             exact gs<|G0 (q (pA j)<|nl)<|us<|gr rF5 j
            ·obtain rfl:=rn h
             exact Go.skip<|us<|gs<|G0 (q (pA j)<|nl)<|us<|gr rF5 j
    ·rw [if_neg hc4] at h
     obtain rfl:=rn h
     exact gT j (nT (byF iR hc4))<|gs<|G0 (q (pA j)<|nl)<|us<|gr rF5 j
end
end Go.Proofs.YtngbehdgjocndaaGreat
