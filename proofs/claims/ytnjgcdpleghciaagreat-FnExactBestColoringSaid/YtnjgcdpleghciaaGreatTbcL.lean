/- The machine answers, at each function of the program that is reached, what its plain function answers: a further part. Conditions: none. -/
import Derived.Test.YtnjgcdpleghciaaGreatTbcLb
namespace Go.Proofs.YtnjgcdpleghciaaGreat
open Go Go.Sim Go.Pw Go.Proofs
set_option linter.unusedVariables false
set_option linter.unusedSimpArgs false
set_option maxRecDepth 100000
set_option maxHeartbeats 4000000
noncomputable section
theorem zi {zO:aA} {fD:(List ai)} {iM:Int} {r:Bool} (h:jT zO fD iM=some r):FX 4 [.im 2 true (ak zO),.im 2 false [W 3 au fD],.im 2 false [I iM]] (B0 [(false,[.im 0 (V r)])]):=by
 unfold jT at h
 refine gn 145 Tryz.func4 rfl ?_
 refine gs<|g0 j j (q (oBx j QV j (tkI (tkI (tkI (tkI tk0)))))<|q (ae j j)<|nl)<|us<|gs<|g0 j j (q (ae j j)<|nl)<|us<|gs<|?_
 obtain ⟨x24,hx24,h⟩:=bs h
 refine g0 j j (q (oLd (cs:=[.im 0 _,.im 0 _,.im 2 _,.im 2 _]) j QV j j)<|q (oMv j j)<|q (oCa (xs:=[.v true [.im 0 _,.im 0 _,.im 2 _,.im 2 _],.v false [.im 0 _]]) (vs:=[(false,[.im 0 _])]) (v:=.v false [.im 0 _]) (Ie hx24) (.inl j) j XM j (ppC j (ppC j pp0)) j j pb0 j j j)<|q (ae j j)<|nl)<|us<|gs<|gs<|g0 j j (q (oMv j j)<|q (oBi j j j j)<|nl)<|us<|gc h j ah (fun hc1 h=>?_) fun hc1 h=>?_
 ·refine gs<|g0 j j (q (ae j j)<|nl)<|us<|Go.ret (Unw.ret ?_)
  cases h
  exact fr rF4 j
 ·refine Go.skip<|us<|gs<|?_
  obtain ⟨x29,hx29,h⟩:=bs h
  refine g0 j j (q (oMv j j)<|q (oMv j j)<|q (oCa (xs:=[.v false [.im 2 _],.v false [.im 0 _]]) (vs:=[(false,[.im 0 _])]) (v:=.v false [.im 0 _]) (Ig hx29) (.inl j) j XO j (ppC j (ppC j pp0)) j j pb0 j j j)<|q (ae j j)<|nl)<|us<|gs<|gs<|g0 j j (q (oMv j j)<|q (oBi j j j j)<|nl)<|us<|gc h j ah (fun hc2 h=>?_) fun hc2 h=>?_
  ·refine gs<|g0 j j (q (ae j j)<|nl)<|us<|Go.ret (Unw.ret ?_)
   cases h
   exact fr rF4 j
  ·refine Go.skip<|us<|gs<|?_
   obtain ⟨x34,hx34,h⟩:=bs h
   obtain ⟨x36,Ba,h⟩:=bs h
   obtain ⟨x38,hx38,h⟩:=bs h
   refine g0 j j (q (oLd (cs:=[.im 0 _,.im 0 _,.im 2 _,.im 2 _]) j QV j j)<|q (oCr (xs:=[.v true [.im 0 _,.im 0 _,.im 2 _,.im 2 _]]) (vs:=[(true,[.im 0 _,.im 0 _,.own 34 0 0,.own 34 0 1])]) (v:=.v true [.im 0 _,.im 0 _,.own 34 0 0,.own 34 0 1]) (c:=⟨.sh,0,_⟩) (cs:=[⟨.sh,0,_⟩]) (qZ hx34) (.inl j) j O8 j (ppC j pp0) j j pb0 j j j)<|q (oMv j j)<|q (oCr (xs:=[.v false [.im 2 _]]) (vs:=[(false,[.own 36 0 0])]) (v:=.v false [.own 36 0 0]) (c:=⟨.sh,0,_⟩) (cs:=[]) (rf Ba) (.inl j) j JA j (ppC j pp0) j j pb0 j j j)<|q (oMv j j)<|q (oCr (xs:=[.v true [.im 0 _,.im 0 _,.own 34 0 0,.own 34 0 1],.v false [.own 36 0 0],.v false [.im 2 _]]) (vs:=[(false,[.own 38 0 0]),(false,[.im 0 _]),(false,[.im 0 _])]) (v:=.tup [(false,[.own 38 0 0]),(false,[.im 0 _]),(false,[.im 0 _])]) (c:=⟨.sh,0,_⟩) (cs:=[]) (Ei hx38) (.inl j) j O6 j (ppC j (ppC j (ppC j pp0))) j j pb0 j j j)<|q (Md j j)<|q (oEx j j j)<|q (oEx j j j)<|q (oEx j j j)<|q (jX j j j j j)<|q (ae j j)<|q (ae j j)<|nl)<|us<|gs<|?_
   obtain ⟨x43,Jf,h⟩:=bs h
   refine g0 j j (q (oLd (cs:=[.im 0 _,.im 0 _,.im 2 _,.im 2 _]) j QV j j)<|q (oCF (xs:=[.v true [.im 0 _,.im 0 _,.im 2 _,.im 2 _]]) (vs:=[(true,[.im 0 _,.im 0 _,.fr _,.fr _])]) (v:=.v true [.im 0 _,.im 0 _,.fr _,.fr _]) (qZ Jf) (.inl j) j O8 j (ppC j pp0) j j j j)<|q (oAl j AZ (tkI (tkI (tkN (tkN tk0)))))<|q (oSt AZ j j j (tkI (tkI (tkF (tkF tk0)))) j j j)<|nl)<|us<|gs<|?_
   obtain ⟨x45,ahE,h⟩:=bs h
   refine g1 j j (mk [(1,D 2 (W 3 au fD)),(2,iv iM),(3,M 3),(8,H 8 0),(9,iv x38.2.1),(10,iv x38.2.2),(11,M 11)] [(3,Oa (G 2 (ak zO))),(8,Oc [Z (W 1 eI x38.1)]),(11,Oa (K (ak x43)))]) (q (oMv j j)<|q (oCr (xs:=[.v false [.im 2 _]]) (vs:=[(false,[.own 45 0 0])]) (v:=.v false [.own 45 0 0]) (c:=⟨.sh,0,_⟩) (cs:=[]) (rf ahE) (.inl j) j JA j (ppC j pp0) j j pb0 j j j)<|q (jX j j j j j)<|nl)<|us<|gs<|?_
   obtain ⟨x50,MH,h⟩:=bs h
   refine g0 j j (q (oLd (cs:=[.im 0 _,.im 0 _,.fr _,.fr _]) j AZ j j)<|q (oMv j j)<|q (oMv j j)<|q (oCr (xs:=[.v true [.im 0 _,.im 0 _,.fr _,.fr _],.v false [.own 12 0 0],.v false [.im 0 _]]) (vs:=[(false,[.own 50 0 0]),(false,[.im 0 _]),(false,[.im 0 _])]) (v:=.tup [(false,[.own 50 0 0]),(false,[.im 0 _]),(false,[.im 0 _])]) (c:=⟨.sh,0,_⟩) (cs:=[]) (xU MH) (.inl j) j Gu j (ppC j (ppC j (ppC j pp0))) j j pb0 j j j)<|q (Md j j)<|q (oEx j j j)<|q (oEx j j j)<|q (oEx j j j)<|q (jX j j j j j)<|q (ae j j)<|q (ae j j)<|nl)<|us<|gs<|gs<|?_
   obtain ⟨x56,X6,h⟩:=bs h
   refine gX c4 j j j (mk [(1,D 2 (W 3 au fD)),(2,iv iM),(3,M 3),(8,H 8 0),(9,iv x38.2.1),(10,iv x38.2.2),(11,M 11),(12,H 12 0),(13,H 13 0),(14,iv x50.2.1),(15,iv x50.2.2),(67,bv ((!x56)||((x50.2.1 != x38.2.1)||(x50.2.2 != x38.2.2))))] [(3,Oa (G 2 (ak zO))),(8,Oc [Z (W 1 eI x38.1)]),(11,Oa (K (ak x43))),(12,Oc [Z (W 3 au x45)]),(13,Oc [Z (W 1 eI x50.1)])]) ?_ ?_
   ·refine xq (oMv j j)<|xq (oMv j j)<|xq (oCa (xs:=[.v false [.own 13 0 0],.v false [.own 8 0 0]]) (vs:=[(false,[.im 0 _])]) (v:=.v false [.im 0 _]) (tJ X6) (.inl j) j BO j (ppC j (ppC j pp0)) j j pb0 j j j)<|xq (oUn j j j)<|xq (oMv j j)<|?_
    by_cases hc3:x56=true
    ·refine xqT j j (nF (iR.2 hc3)) (oMv j j)<|xqT j j (nF (iR.2 hc3)) (oMv j j)<|xqT j j (nF (iR.2 hc3)) (oBi j j j j)<|xq (dP j j (nF (iR.2 hc3)) j)<|xq (oMv j j)<|?_
     by_cases hc4:x50.2.1≠x38.2.1
     ·exact aj rfl rfl (iNe.2 hc4) rfl<|aj rfl rfl (iNe.2 hc4) rfl<|aj rfl rfl (iNe.2 hc4) rfl<|xq (bG rfl rfl (iNe.2 hc4) rfl)<|xn (Eq.trans (b:=(fun qL:Bool=>mk [(1,D 2 (W 3 au fD)),(2,iv iM),(3,M 3),(8,H 8 0),(9,iv x38.2.1),(10,iv x38.2.2),(11,M 11),(12,H 12 0),(13,H 13 0),(14,iv x50.2.1),(15,iv x50.2.2),(67,bv qL)] [(3,Oa (G 2 (ak zO))),(8,Oc [Z (W 1 eI x38.1)]),(11,Oa (K (ak x43))),(12,Oc [Z (W 3 au x45)]),(13,Oc [Z (W 1 eI x50.1)])]) true) (by kernel_rfl) (congrArg (fun qL:Bool=>mk [(1,D 2 (W 3 au fD)),(2,iv iM),(3,M 3),(8,H 8 0),(9,iv x38.2.1),(10,iv x38.2.2),(11,M 11),(12,H 12 0),(13,H 13 0),(14,iv x50.2.1),(15,iv x50.2.2),(67,bv qL)] [(3,Oa (G 2 (ak zO))),(8,Oc [Z (W 1 eI x38.1)]),(11,Oa (K (ak x43))),(12,Oc [Z (W 3 au x45)]),(13,Oc [Z (W 1 eI x50.1)])]) (by first | rfl | (simp [(iR.2 hc3),(iNe.2 hc4)];done) | (simp [(iR.2 hc3),(iNe.2 hc4)];omega) | (have q0:=(iR.2 hc3);have q1:=(iNe.2 hc4);simp_all))))
     ·exact xqT rfl rfl (byF iNe hc4) (oMv rfl rfl)<|xqT rfl rfl (byF iNe hc4) (oMv rfl rfl)<|xqT rfl rfl (byF iNe hc4) (oBi rfl rfl rfl rfl)<|xq (dP rfl rfl (byF iNe hc4) rfl)<|xn (Eq.trans (b:=(fun qL:Bool=>mk [(1,D 2 (W 3 au fD)),(2,iv iM),(3,M 3),(8,H 8 0),(9,iv x38.2.1),(10,iv x38.2.2),(11,M 11),(12,H 12 0),(13,H 13 0),(14,iv x50.2.1),(15,iv x50.2.2),(67,bv qL)] [(3,Oa (G 2 (ak zO))),(8,Oc [Z (W 1 eI x38.1)]),(11,Oa (K (ak x43))),(12,Oc [Z (W 3 au x45)]),(13,Oc [Z (W 1 eI x50.1)])]) (x50.2.2 != x38.2.2)) (by kernel_rfl) (congrArg (fun qL:Bool=>mk [(1,D 2 (W 3 au fD)),(2,iv iM),(3,M 3),(8,H 8 0),(9,iv x38.2.1),(10,iv x38.2.2),(11,M 11),(12,H 12 0),(13,H 13 0),(14,iv x50.2.1),(15,iv x50.2.2),(67,bv qL)] [(3,Oa (G 2 (ak zO))),(8,Oc [Z (W 1 eI x38.1)]),(11,Oa (K (ak x43))),(12,Oc [Z (W 3 au x45)]),(13,Oc [Z (W 1 eI x50.1)])]) (by first | rfl | (simp [(iR.2 hc3),(byF iNe hc4)];done) | (simp [(iR.2 hc3),(byF iNe hc4)];omega) | (have q0:=(iR.2 hc3);have q1:=(byF iNe hc4);simp_all))))
    ·exact aj rfl rfl (nT (byF iR hc3)) rfl<|aj rfl rfl (nT (byF iR hc3)) rfl<|aj rfl rfl (nT (byF iR hc3)) rfl<|xq (bG rfl rfl (nT (byF iR hc3)) rfl)<|xq (oMv rfl rfl)<|aj rfl rfl rfl rfl<|aj rfl rfl rfl rfl<|aj rfl rfl rfl rfl<|xq (bG rfl rfl rfl rfl)<|xn (Eq.trans (b:=(fun qL:Bool=>mk [(1,D 2 (W 3 au fD)),(2,iv iM),(3,M 3),(8,H 8 0),(9,iv x38.2.1),(10,iv x38.2.2),(11,M 11),(12,H 12 0),(13,H 13 0),(14,iv x50.2.1),(15,iv x50.2.2),(67,bv qL)] [(3,Oa (G 2 (ak zO))),(8,Oc [Z (W 1 eI x38.1)]),(11,Oa (K (ak x43))),(12,Oc [Z (W 3 au x45)]),(13,Oc [Z (W 1 eI x50.1)])]) true) (by kernel_rfl) (congrArg (fun qL:Bool=>mk [(1,D 2 (W 3 au fD)),(2,iv iM),(3,M 3),(8,H 8 0),(9,iv x38.2.1),(10,iv x38.2.2),(11,M 11),(12,H 12 0),(13,H 13 0),(14,iv x50.2.1),(15,iv x50.2.2),(67,bv qL)] [(3,Oa (G 2 (ak zO))),(8,Oc [Z (W 1 eI x38.1)]),(11,Oa (K (ak x43))),(12,Oc [Z (W 3 au x45)]),(13,Oc [Z (W 1 eI x50.1)])]) (by first | rfl | (simp [(byF iR hc3)];done) | (simp [(byF iR hc3)];omega))))
   ·refine us<|gc h j (iOr (Y4 iR) (iOr iNe iNe)) (fun hc5 h=>?_) fun hc5 h=>?_
    ·refine gs<|g0 j j (q (ae j j)<|nl)<|us<|Go.ret (Unw.ret ?_)
     cases h
     exact fr rF4 j
    ·refine Go.skip<|us<|gs<|gs<|?_
     obtain ⟨x70,X5,h⟩:=bs h
     obtain ⟨x71,QX,h⟩:=bs h
     refine gd c4 j j j j (mk [(1,D 2 (W 3 au fD)),(2,iv iM),(3,M 3),(8,H 8 0),(9,iv x38.2.1),(10,iv x38.2.2),(11,M 11),(12,H 12 0),(13,H 13 0),(14,iv x50.2.1),(15,iv x50.2.2),(72,bv (!x71))] [(3,Oa (G 2 (ak zO))),(8,Oc [Z (W 1 eI x38.1)]),(11,Oa (K (ak x43))),(12,Oc [Z (W 3 au x45)]),(13,Oc [Z (W 1 eI x50.1)])]) (t j j (oLd (cs:=[.im 0 _,.im 0 _,.fr _,.fr _]) j AZ j j)<|t j j (oLd (cs:=[.im 0 _,.im 0 _,.im 2 _,.im 2 _]) j QV j j)<|sS (dN z4 j (oCr (xs:=[.v true [.im 0 _,.im 0 _,.im 2 _,.im 2 _]]) (vs:=[(true,[.im 0 _,.im 0 _,.own 70 0 0,.own 70 0 1])]) (v:=.v true [.im 0 _,.im 0 _,.own 70 0 0,.own 70 0 1]) (c:=⟨.sh,0,_⟩) (cs:=[⟨.sh,0,_⟩]) (qZ X5) (.inl j) j O8 j (ppC j pp0) j j pb0 j j j)) trivial (sS (dN z4 j (oCa (xs:=[.v true [.im 0 _,.im 0 _,.fr _,.fr _],.v true [.im 0 _,.im 0 _,.own 70 0 0,.own 70 0 1]]) (vs:=[(false,[.im 0 _])]) (v:=.v false [.im 0 _]) (Iw QX) (.inl j) j SY j (ppC j (ppC j pp0)) j j pb0 j j j)) trivial (t j j (oUn j j j)<|sD (by kernel_rfl))))<|us<|?_
     by_cases hc6:x71=true
     ·rw [if_pos hc6] at h
      refine gF j (nF (iR.2 hc6))<|Go.skip<|us<|gs<|gs<|?_
      obtain ⟨x75,adB,h⟩:=bs h
      obtain ⟨x76,Jl,h⟩:=bs h
      refine g0 j j (q (oMv j j)<|q (oMv j j)<|q (oCr (xs:=[.v false [.im 2 _]]) (vs:=[(false,[.own 75 0 0])]) (v:=.v false [.own 75 0 0]) (c:=⟨.sh,0,_⟩) (cs:=[]) (rf adB) (.inl j) j JA j (ppC j pp0) j j pb0 j j j)<|q (oCa (xs:=[.v false [.own 12 0 0],.v false [.own 75 0 0]]) (vs:=[(false,[.im 0 _])]) (v:=.v false [.im 0 _]) (Iy Jl) (.inl j) j S9 j (ppC j (ppC j pp0)) j j pb0 j j j)<|q (oUn j j j)<|nl)<|us<|?_
      by_cases hc7:x76=true
      ·rw [if_pos hc7] at h
       refine gF j (nF (iR.2 hc7))<|Go.skip<|us<|gs<|g0 j j (q (ae j j)<|nl)<|us<|gs<|?_
       obtain ⟨x80,ahF,h⟩:=bs h
       refine gS j j (mk [(1,D 2 (W 3 au fD)),(2,iv iM),(3,M 3),(8,H 8 0),(9,iv x38.2.1),(10,iv x38.2.2),(11,M 11),(12,H 12 0),(13,H 13 0),(14,iv x50.2.1),(15,iv x50.2.2),(16,iv 1)] [(3,Oa (G 2 (ak zO))),(8,Oc [Z (W 1 eI x38.1)]),(11,Oa (Kw (ak x43))),(12,Oc [Z (W 3 au x45)]),(13,Oc [Z (W 1 eI x50.1)])]) (q (oLd (cs:=[.im 0 _,.im 0 _,.ws _,.ws _]) j AZ j j)<|q (oMv j j)<|q (oCa (xs:=[.v true [.im 0 _,.im 0 _,.ws _,.ws _],.v false [.im 0 _]]) (vs:=[(false,[.im 0 _])]) (v:=.v false [.im 0 _]) (FI ahF) (.inl j) j Vt j (ppC j (ppC j pp0)) j j pb0 j j j)<|q (ae j j)<|nl)<|us<|gs<|?_
       obtain ⟨x83,VK,h⟩:=bs h
       refine g0 j j (q (oMv j j)<|q (oMv j j)<|q (oCa (xs:=[.v false [.own 12 0 0],.v false [.im 0 _]]) (vs:=[(false,[.im 0 _])]) (v:=.v false [.im 0 _]) (FK VK) (.inl j) j Vu j (ppC j (ppC j pp0)) j j (pbO j j j j pb0) j j j)<|q (ae j j)<|nl)<|us<|gs<|gs<|?_
       obtain ⟨H8,zf,h⟩:=bs h
       refine gX c4 j j (st1:=mk [(1,D 2 (W 3 au fD)),(2,iv iM),(3,M 3),(8,H 8 0),(9,iv x38.2.1),(10,iv x38.2.2),(13,H 13 0),(14,iv x50.2.1),(15,iv x50.2.2),(16,iv x83.1)] [(3,Oa (G 2 (ak zO))),(8,Oc [Z (W 1 eI x38.1)]),(13,Oc [Z (W 1 eI x50.1)])]) (by kernel_rfl) (mk [(1,D 2 (W 3 au fD)),(2,iv iM),(3,M 3),(8,H 8 0),(9,iv x38.2.1),(10,iv x38.2.2),(13,H 13 0),(101,bv H8)] [(3,Oa (G 2 (ak zO))),(8,Oc [Z (W 1 eI x38.1)]),(13,Oc [Z (W 1 eI x50.1)])]) ?_ ?_
       ·refine xq (oMv j j)<|xq (oBi j j j j)<|xq (oMv j j)<|?_
        refine ic zf (fun hc8 zf=>?_) fun hc8 zf=>?_
        ·cases zf
         exact aj j j (ah.2 hc8) j<|aj j j (ah.2 hc8) j<|aj j j (ah.2 hc8) j<|aj j j (ah.2 hc8) j<|xq (bG j j (ah.2 hc8) j)<|xq (oMv j j)<|aj j j j j<|aj j j j j<|aj j j j j<|xq (bG j j j j)<|xq (oMv j j)<|aj j j j j<|aj j j j j<|aj j j j j<|xq (bG j j j j)<|xn
        ·obtain ⟨x89,ahG,zf⟩:=bs zf
         refine xqT j j (byF ah hc8) (oMv j j)<|xqT j j (byF ah hc8) (oMv j j)<|xqT j j (byF ah hc8) (oCa (xs:=[.v false [.own 13 0 0],.v false [.own 8 0 0]]) (vs:=[(false,[.im 0 _])]) (v:=.v false [.im 0 _]) (tJ ahG) (.inl j) j BO j (ppC j (ppC j pp0)) j j pb0 j j j)<|xqT j j (byF ah hc8) (oUn j j j)<|xq (dP j j (byF ah hc8) j)<|xq (oMv j j)<|?_
         refine ic zf (fun hc9 zf=>?_) fun hc9 zf=>?_
         ·refine xqT j j (nF (iR.2 hc9)) (oMv j j)<|xqT j j (nF (iR.2 hc9)) (oMv j j)<|xqT j j (nF (iR.2 hc9)) (oBi j j j j)<|xq (dP j j (nF (iR.2 hc9)) j)<|xq (oMv j j)<|?_
          refine ic zf (fun Fj zf=>?_) fun Fj zf=>?_
          ·cases zf
           exact aj j j (iNe.2 Fj) j<|aj j j (iNe.2 Fj) j<|aj j j (iNe.2 Fj) j<|xq (bG j j (iNe.2 Fj) j)<|xn
          ·cases zf
           exact xqT j j (byF iNe Fj) (oMv j j)<|xqT j j (byF iNe Fj) (oMv j j)<|xqT j j (byF iNe Fj) (oBi j j j j)<|xq (dP j j (byF iNe Fj) j)<|xn
         ·cases zf
          exact aj j j (nT (byF iR hc9)) j<|aj j j (nT (byF iR hc9)) j<|aj j j (nT (byF iR hc9)) j<|xq (bG j j (nT (byF iR hc9)) j)<|xq (oMv j j)<|aj j j j j<|aj j j j j<|aj j j j j<|xq (bG j j j j)<|xn
       ·refine us<|gc h j iR (fun MJ h=>?_) fun MJ h=>?_
        ·refine gs<|g0 j j (q (ae j j)<|nl)<|us<|Go.ret (Unw.ret ?_)
         cases h
         exact fr rF4 j
        ·refine Go.skip<|us<|gs<|g0 j j (q (ae j j)<|nl)<|us<|gs<|?_
         obtain ⟨x104,hx104,h⟩:=bs h
         refine g0 j j (q (oMv j j)<|q (oMv j j)<|q (oCa (xs:=[.v false [.own 13 0 0],.v false [.im 0 _]]) (vs:=[(false,[.im 0 _])]) (v:=.v false [.im 0 _]) (GL hx104) (.inl j) j NP j (ppC j (ppC j pp0)) j j (pbO j j j j pb0) j j j)<|q (ae j j)<|nl)<|us<|gs<|g1 j j (mk [(1,D 2 (W 3 au fD)),(2,iv iM),(3,M 3),(8,H 8 0),(9,iv x38.2.1),(10,iv x38.2.2),(13,H 13 0),(17,iv x104.1)] [(3,Oa (G 2 (ak zO))),(8,Oc [Z (W 1 eI x38.1)]),(13,Oc [Z (W 1 eI x104.2)])]) (q (ae j j)<|nl)<|us<|gs<|?_
         obtain ⟨x107,afn,h⟩:=bs h
         refine g0 j j (q (oMv j j)<|q (oMv j j)<|q (oCa (xs:=[.v false [.own 13 0 0],.v false [.im 0 _]]) (vs:=[(false,[.im 0 _])]) (v:=.v false [.im 0 _]) (zJ afn) (.inl j) j NQ j (ppC j (ppC j pp0)) j j pb0 j j j)<|q (ae j j)<|nl)<|us<|gs<|gs<|g0 j j (q (oMv j j)<|q (oBi j j j j)<|nl)<|us<|gc h j ah (fun hc12 h=>?_) fun hc12 h=>?_
         ·refine gs<|g0 j j (q (ae j j)<|nl)<|us<|Go.ret (Unw.ret ?_)
          cases h
          exact fr rF4 j
         ·refine Go.skip<|us<|gs<|gs<|g0 j j (q (oMv j j)<|q (oMv j j)<|q (oBi j j j j)<|nl)<|us<|gc h j iNe (fun hc13 h=>?_) fun hc13 h=>?_
          ·refine gs<|g0 j j (q (ae j j)<|nl)<|us<|Go.ret (Unw.ret ?_)
           cases h
           exact fr rF4 j
          ·refine Go.skip<|us<|gs<|?_
           obtain ⟨x115,hx115,h⟩:=bs h
           obtain ⟨aew,afo,h⟩:=bs h
           obtain ⟨QI,afp,h⟩:=bs h
           refine g0 j j (q (oLd (cs:=[.im 0 _,.im 0 _,.im 2 _,.im 2 _]) j QV j j)<|q (oCr (xs:=[.v true [.im 0 _,.im 0 _,.im 2 _,.im 2 _]]) (vs:=[(true,[.im 0 _,.im 0 _,.own 115 0 0,.own 115 0 1])]) (v:=.v true [.im 0 _,.im 0 _,.own 115 0 0,.own 115 0 1]) (c:=⟨.sh,0,_⟩) (cs:=[⟨.sh,0,_⟩]) (qZ hx115) (.inl j) j O8 j (ppC j pp0) j j pb0 j j j)<|q (oMv j j)<|q (oCr (xs:=[.v false [.im 2 _]]) (vs:=[(false,[.own 117 0 0])]) (v:=.v false [.own 117 0 0]) (c:=⟨.sh,0,_⟩) (cs:=[]) (rf afo) (.inl j) j JA j (ppC j pp0) j j pb0 j j j)<|q (oMv j j)<|q (oCr (xs:=[.v true [.im 0 _,.im 0 _,.own 115 0 0,.own 115 0 1],.v false [.own 117 0 0],.v false [.im 0 _]]) (vs:=[(false,[.own 119 0 0]),(false,[.im 0 _]),(false,[.im 0 _])]) (v:=.tup [(false,[.own 119 0 0]),(false,[.im 0 _]),(false,[.im 0 _])]) (c:=⟨.sh,0,_⟩) (cs:=[]) (xU afp) (.inl j) j Gu j (ppC j (ppC j (ppC j pp0))) j j pb0 j j j)<|q (Md j j)<|q (oEx j j j)<|q (oEx j j j)<|q (oEx j j j)<|q (jX j j j j j)<|q (ae j j)<|q (ae j j)<|nl)<|us<|gs<|gs<|?_
           obtain ⟨Za,afq,h⟩:=bs h
           refine gX c4 j j j (mk [(13,H 13 0),(17,iv x104.1),(136,bv ((!Za)||((QI.2.1 != x38.2.1)||(QI.2.2 != x38.2.2))))] [(13,Oc [Z (W 1 eI x104.2)])]) ?_ ?_
           ·refine xq (oMv j j)<|xq (oMv j j)<|xq (oCa (xs:=[.v false [.own 19 0 0],.v false [.own 8 0 0]]) (vs:=[(false,[.im 0 _])]) (v:=.v false [.im 0 _]) (tJ afq) (.inl j) j BO j (ppC j (ppC j pp0)) j j pb0 j j j)<|xq (oUn j j j)<|xq (oMv j j)<|?_
            by_cases A8:Za=true
            ·refine xqT j j (nF (iR.2 A8)) (oMv j j)<|xqT j j (nF (iR.2 A8)) (oMv j j)<|xqT j j (nF (iR.2 A8)) (oBi j j j j)<|xq (dP j j (nF (iR.2 A8)) j)<|xq (oMv j j)<|?_
             by_cases Bc:QI.2.1≠x38.2.1
             ·exact aj rfl rfl (iNe.2 Bc) rfl<|aj rfl rfl (iNe.2 Bc) rfl<|aj rfl rfl (iNe.2 Bc) rfl<|xq (bG rfl rfl (iNe.2 Bc) rfl)<|xn (Eq.trans (b:=(fun ou:Bool=>mk [(13,H 13 0),(17,iv x104.1),(136,bv ou)] [(13,Oc [Z (W 1 eI x104.2)])]) true) (by kernel_rfl) (congrArg (fun ou:Bool=>mk [(13,H 13 0),(17,iv x104.1),(136,bv ou)] [(13,Oc [Z (W 1 eI x104.2)])]) (by first | rfl | (simp [(iR.2 A8),(iNe.2 Bc)];done) | (simp [(iR.2 A8),(iNe.2 Bc)];omega) | (have q0:=(iR.2 A8);have q1:=(iNe.2 Bc);simp_all))))
             ·exact xqT rfl rfl (byF iNe Bc) (oMv rfl rfl)<|xqT rfl rfl (byF iNe Bc) (oMv rfl rfl)<|xqT rfl rfl (byF iNe Bc) (oBi rfl rfl rfl rfl)<|xq (dP rfl rfl (byF iNe Bc) rfl)<|xn (Eq.trans (b:=(fun ou:Bool=>mk [(13,H 13 0),(17,iv x104.1),(136,bv ou)] [(13,Oc [Z (W 1 eI x104.2)])]) (QI.2.2 != x38.2.2)) (by kernel_rfl) (congrArg (fun ou:Bool=>mk [(13,H 13 0),(17,iv x104.1),(136,bv ou)] [(13,Oc [Z (W 1 eI x104.2)])]) (by first | rfl | (simp [(iR.2 A8),(byF iNe Bc)];done) | (simp [(iR.2 A8),(byF iNe Bc)];omega) | (have q0:=(iR.2 A8);have q1:=(byF iNe Bc);simp_all))))
            ·exact aj rfl rfl (nT (byF iR A8)) rfl<|aj rfl rfl (nT (byF iR A8)) rfl<|aj rfl rfl (nT (byF iR A8)) rfl<|xq (bG rfl rfl (nT (byF iR A8)) rfl)<|xq (oMv rfl rfl)<|aj rfl rfl rfl rfl<|aj rfl rfl rfl rfl<|aj rfl rfl rfl rfl<|xq (bG rfl rfl rfl rfl)<|xn (Eq.trans (b:=(fun ou:Bool=>mk [(13,H 13 0),(17,iv x104.1),(136,bv ou)] [(13,Oc [Z (W 1 eI x104.2)])]) true) (by kernel_rfl) (congrArg (fun ou:Bool=>mk [(13,H 13 0),(17,iv x104.1),(136,bv ou)] [(13,Oc [Z (W 1 eI x104.2)])]) (by first | rfl | (simp [(byF iR A8)];done) | (simp [(byF iR A8)];omega))))
           ·refine us<|gc h j (iOr (Y4 iR) (iOr iNe iNe)) (fun hc16 h=>?_) fun hc16 h=>?_
            ·refine gs<|g0 j j (q (ae j j)<|nl)<|us<|Go.ret (Unw.ret ?_)
             cases h
             exact fr rF4 j
            ·refine Go.skip<|us<|gs<|g0 j j (q (ae j j)<|nl)<|us<|gs<|?_
             obtain ⟨acR,afr,h⟩:=bs h
             refine g0 j j (q (oMv j j)<|q (oMv j j)<|q (oCa (xs:=[.v false [.own 13 0 0],.v false [.im 0 _]]) (vs:=[(false,[.im 0 _])]) (v:=.v false [.im 0 _]) (zJ afr) (.inl j) j NQ j (ppC j (ppC j pp0)) j j pb0 j j j)<|q (ae j j)<|nl)<|us<|gs<|gs<|g0 j j (q (oMv j j)<|q (oBi j j j j)<|nl)<|us<|gc h j ah (fun hc17 h=>?_) fun hc17 h=>?_
             ·refine gs<|g0 j j (q (ae j j)<|nl)<|us<|Go.ret (Unw.ret ?_)
              cases h
              exact fr rF4 j
             ·refine Go.skip<|us<|gs<|gs<|g0 j j (q (oMv j j)<|q (oMv j j)<|q (oBi j j j j)<|nl)<|us<|gc h j iNe (fun hc18 h=>?_) fun hc18 h=>?_
              ·refine gs<|g0 j j (q (ae j j)<|nl)<|us<|Go.ret (Unw.ret ?_)
               cases h
               exact fr rF4 j
              ·refine Go.skip<|us<|gs<|g0 j j (q (ae j j)<|nl)<|us<|Go.ret (Unw.ret ?_)
               cases h
               exact fr rF4 j
      ·rw [if_neg hc7] at h
       refine gT j (nT (byF iR hc7))<|gs<|g0 j j (q (ae j j)<|nl)<|us<|Go.ret (Unw.ret ?_)
       cases h
       exact fr rF4 j
     ·rw [if_neg hc6] at h
      refine gT j (nT (byF iR hc6))<|gs<|g0 j j (q (ae j j)<|nl)<|us<|Go.ret (Unw.ret ?_)
      cases h
      exact fr rF4 j
end
end Go.Proofs.YtnjgcdpleghciaaGreat
