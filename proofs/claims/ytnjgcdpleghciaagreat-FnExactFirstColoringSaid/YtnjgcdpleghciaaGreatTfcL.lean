/- The machine answers, at each function of the program that is reached, what its plain function answers: a further part. Conditions: none. -/
import Derived.Test.YtnjgcdpleghciaaGreatTfcLb
namespace Go.Proofs.YtnjgcdpleghciaaGreat
open Go Go.Sim Go.Pw Go.Proofs
set_option linter.unusedVariables false
set_option linter.unusedSimpArgs false
set_option maxRecDepth 100000
set_option maxHeartbeats 4000000
noncomputable section
theorem yl {Bf:aA} {gq:(List ai)} {ku:Int} {jc:Int} {r:Bool} (h:jA Bf gq ku jc=some r):FX 3 [.im 2 true (ak Bf),.im 2 false [W 3 au gq],.im 2 false [I ku],.im 2 false [I jc]] (B0 [(false,[.im 0 (V r)])]):=by
 unfold jA at h
 refine gn 129 Tryz.func3 rfl ?_
 refine gs<|g0 j j (q (oBx j Qw j (tkI (tkI (tkI (tkI tk0)))))<|q (ae j j)<|nl)<|us<|gs<|g0 j j (q (ae j j)<|nl)<|us<|gs<|?_
 obtain ⟨x23,yj,h⟩:=bs h
 refine g0 j j (q (oLd (cs:=[.im 0 _,.im 0 _,.im 2 _,.im 2 _]) j Qw j j)<|q (oMv j j)<|q (oCa (xs:=[.v true [.im 0 _,.im 0 _,.im 2 _,.im 2 _],.v false [.im 0 _]]) (vs:=[(false,[.im 0 _])]) (v:=.v false [.im 0 _]) (He yj) (.inl j) j Xp j (ppC j (ppC j pp0)) j j pb0 j j j)<|q (ae j j)<|nl)<|us<|gs<|gs<|g0 j j (q (oMv j j)<|q (oBi j j j j)<|nl)<|us<|gc h j ah (fun hc1 h=>?_) fun hc1 h=>?_
 ·refine gs<|g0 j j (q (ae j j)<|nl)<|us<|Go.ret (Unw.ret ?_)
  cases h
  exact fr rF3 j
 ·refine Go.skip<|us<|gs<|?_
  obtain ⟨x28,hx28,h⟩:=bs h
  refine g0 j j (q (oMv j j)<|q (oMv j j)<|q (oCa (xs:=[.v false [.im 2 _],.v false [.im 0 _]]) (vs:=[(false,[.im 0 _])]) (v:=.v false [.im 0 _]) (Hf hx28) (.inl j) j Xr j (ppC j (ppC j pp0)) j j pb0 j j j)<|q (ae j j)<|nl)<|us<|gs<|gs<|g0 j j (q (oMv j j)<|q (oBi j j j j)<|nl)<|us<|gc h j ah (fun hc2 h=>?_) fun hc2 h=>?_
  ·refine gs<|g0 j j (q (ae j j)<|nl)<|us<|Go.ret (Unw.ret ?_)
   cases h
   exact fr rF3 j
  ·refine Go.skip<|us<|gs<|?_
   obtain ⟨x33,XI,h⟩:=bs h
   obtain ⟨x35,XJ,h⟩:=bs h
   obtain ⟨x38,hx38,h⟩:=bs h
   refine g0 j j (q (oLd (cs:=[.im 0 _,.im 0 _,.im 2 _,.im 2 _]) j Qw j j)<|q (oCr (xs:=[.v true [.im 0 _,.im 0 _,.im 2 _,.im 2 _]]) (vs:=[(true,[.im 0 _,.im 0 _,.own 33 0 0,.own 33 0 1])]) (v:=.v true [.im 0 _,.im 0 _,.own 33 0 0,.own 33 0 1]) (c:=⟨.sh,0,_⟩) (cs:=[⟨.sh,0,_⟩]) (qV XI) (.inl j) j OC j (ppC j pp0) j j pb0 j j j)<|q (oMv j j)<|q (oCr (xs:=[.v false [.im 2 _]]) (vs:=[(false,[.own 35 0 0])]) (v:=.v false [.own 35 0 0]) (c:=⟨.sh,0,_⟩) (cs:=[]) (qW XJ) (.inl j) j Jb j (ppC j pp0) j j pb0 j j j)<|q (oMv j j)<|q (oMv j j)<|q (oCr (xs:=[.v true [.im 0 _,.im 0 _,.own 33 0 0,.own 33 0 1],.v false [.own 35 0 0],.v false [.im 2 _],.v false [.im 2 _]]) (vs:=[(false,[.own 38 0 0]),(false,[.im 0 _])]) (v:=.tup [(false,[.own 38 0 0]),(false,[.im 0 _])]) (c:=⟨.sh,0,_⟩) (cs:=[]) (Di hx38) (.inl j) j Ll j (ppC j (ppC j (ppC j (ppC j pp0)))) j j pb0 j j j)<|q (NT j j)<|q (oEx j j j)<|q (oEx j j j)<|q (kC j j j j j)<|q (ae j j)<|nl)<|us<|gs<|?_
   obtain ⟨x42,Qx,h⟩:=bs h
   refine g0 j j (q (oLd (cs:=[.im 0 _,.im 0 _,.im 2 _,.im 2 _]) j Qw j j)<|q (oCF (xs:=[.v true [.im 0 _,.im 0 _,.im 2 _,.im 2 _]]) (vs:=[(true,[.im 0 _,.im 0 _,.fr _,.fr _])]) (v:=.v true [.im 0 _,.im 0 _,.fr _,.fr _]) (qV Qx) (.inl j) j OC j (ppC j pp0) j j j j)<|q (oAl j Ar (tkI (tkI (tkN (tkN tk0)))))<|q (oSt Ar j j j (tkI (tkI (tkF (tkF tk0)))) j j j)<|nl)<|us<|gs<|?_
   obtain ⟨x44,ac7,h⟩:=bs h
   refine g1 j j (mk [(1,D 2 (W 3 au gq)),(2,iv ku),(3,iv jc),(4,M 4),(10,H 10 0),(11,iv x38.2),(12,M 12)] [(4,Oa (G 2 (ak Bf))),(10,Oc [Z (W 1 eI x38.1)]),(12,Oa (K (ak x42)))]) (q (oMv j j)<|q (oCr (xs:=[.v false [.im 2 _]]) (vs:=[(false,[.own 44 0 0])]) (v:=.v false [.own 44 0 0]) (c:=⟨.sh,0,_⟩) (cs:=[]) (qW ac7) (.inl j) j Jb j (ppC j pp0) j j pb0 j j j)<|q (kC j j j j j)<|nl)<|us<|gs<|?_
   obtain ⟨x50,Lt,h⟩:=bs h
   refine g0 j j (q (oLd (cs:=[.im 0 _,.im 0 _,.fr _,.fr _]) j Ar j j)<|q (oMv j j)<|q (oMv j j)<|q (oMv j j)<|q (oCr (xs:=[.v true [.im 0 _,.im 0 _,.fr _,.fr _],.v false [.own 13 0 0],.v false [.im 0 _],.v false [.im 0 _]]) (vs:=[(false,[.own 50 0 0]),(false,[.im 0 _])]) (v:=.tup [(false,[.own 50 0 0]),(false,[.im 0 _])]) (c:=⟨.sh,0,_⟩) (cs:=[]) (xx Lt) (.inl j) j CS j (ppC j (ppC j (ppC j (ppC j pp0)))) j j pb0 j j j)<|q (NT j j)<|q (oEx j j j)<|q (oEx j j j)<|q (kC j j j j j)<|q (ae j j)<|nl)<|us<|gs<|gs<|?_
   obtain ⟨x55,aaZ,h⟩:=bs h
   refine gX c3 j j j (mk [(1,D 2 (W 3 au gq)),(2,iv ku),(3,iv jc),(4,M 4),(10,H 10 0),(11,iv x38.2),(12,M 12),(13,H 13 0),(14,H 14 0),(15,iv x50.2),(61,bv ((!x55)||(x50.2 != x38.2)))] [(4,Oa (G 2 (ak Bf))),(10,Oc [Z (W 1 eI x38.1)]),(12,Oa (K (ak x42))),(13,Oc [Z (W 3 au x44)]),(14,Oc [Z (W 1 eI x50.1)])]) ?_ ?_
   ·refine xq (oMv j j)<|xq (oMv j j)<|xq (oCa (xs:=[.v false [.own 14 0 0],.v false [.own 10 0 0]]) (vs:=[(false,[.im 0 _])]) (v:=.v false [.im 0 _]) (sW aaZ) (.inl j) j Bh j (ppC j (ppC j pp0)) j j pb0 j j j)<|xq (oUn j j j)<|xq (oMv j j)<|?_
    by_cases hc3:x55=true
    ·exact xqT rfl rfl (nF (iR.2 hc3)) (oMv rfl rfl)<|xqT rfl rfl (nF (iR.2 hc3)) (oMv rfl rfl)<|xqT rfl rfl (nF (iR.2 hc3)) (oBi rfl rfl rfl rfl)<|xq (dV rfl rfl (nF (iR.2 hc3)) rfl)<|xn (Eq.trans (b:=(fun yU:Bool=>mk [(1,D 2 (W 3 au gq)),(2,iv ku),(3,iv jc),(4,M 4),(10,H 10 0),(11,iv x38.2),(12,M 12),(13,H 13 0),(14,H 14 0),(15,iv x50.2),(61,bv yU)] [(4,Oa (G 2 (ak Bf))),(10,Oc [Z (W 1 eI x38.1)]),(12,Oa (K (ak x42))),(13,Oc [Z (W 3 au x44)]),(14,Oc [Z (W 1 eI x50.1)])]) (x50.2 != x38.2)) (by kernel_rfl) (congrArg (fun yU:Bool=>mk [(1,D 2 (W 3 au gq)),(2,iv ku),(3,iv jc),(4,M 4),(10,H 10 0),(11,iv x38.2),(12,M 12),(13,H 13 0),(14,H 14 0),(15,iv x50.2),(61,bv yU)] [(4,Oa (G 2 (ak Bf))),(10,Oc [Z (W 1 eI x38.1)]),(12,Oa (K (ak x42))),(13,Oc [Z (W 3 au x44)]),(14,Oc [Z (W 1 eI x50.1)])]) (by first | rfl | (simp [(iR.2 hc3)];done) | (simp [(iR.2 hc3)];omega))))
    ·exact aj rfl rfl (nT (byF iR hc3)) rfl<|aj rfl rfl (nT (byF iR hc3)) rfl<|aj rfl rfl (nT (byF iR hc3)) rfl<|xq (bU rfl rfl (nT (byF iR hc3)) rfl)<|xn (Eq.trans (b:=(fun yU:Bool=>mk [(1,D 2 (W 3 au gq)),(2,iv ku),(3,iv jc),(4,M 4),(10,H 10 0),(11,iv x38.2),(12,M 12),(13,H 13 0),(14,H 14 0),(15,iv x50.2),(61,bv yU)] [(4,Oa (G 2 (ak Bf))),(10,Oc [Z (W 1 eI x38.1)]),(12,Oa (K (ak x42))),(13,Oc [Z (W 3 au x44)]),(14,Oc [Z (W 1 eI x50.1)])]) true) (by kernel_rfl) (congrArg (fun yU:Bool=>mk [(1,D 2 (W 3 au gq)),(2,iv ku),(3,iv jc),(4,M 4),(10,H 10 0),(11,iv x38.2),(12,M 12),(13,H 13 0),(14,H 14 0),(15,iv x50.2),(61,bv yU)] [(4,Oa (G 2 (ak Bf))),(10,Oc [Z (W 1 eI x38.1)]),(12,Oa (K (ak x42))),(13,Oc [Z (W 3 au x44)]),(14,Oc [Z (W 1 eI x50.1)])]) (by first | rfl | (simp [(byF iR hc3)];done) | (simp [(byF iR hc3)];omega))))
   ·refine us<|gc h j (iOr (YL iR) iNe) (fun hc4 h=>?_) fun hc4 h=>?_
    ·refine gs<|g0 j j (q (ae j j)<|nl)<|us<|Go.ret (Unw.ret ?_)
     cases h
     exact fr rF3 j
    ·refine Go.skip<|us<|gs<|gs<|?_
     obtain ⟨x64,ahj,h⟩:=bs h
     obtain ⟨x65,ac2,h⟩:=bs h
     refine gd c3 j j j j (mk [(1,D 2 (W 3 au gq)),(2,iv ku),(3,iv jc),(4,M 4),(10,H 10 0),(11,iv x38.2),(12,M 12),(13,H 13 0),(14,H 14 0),(15,iv x50.2),(66,bv (!x65))] [(4,Oa (G 2 (ak Bf))),(10,Oc [Z (W 1 eI x38.1)]),(12,Oa (K (ak x42))),(13,Oc [Z (W 3 au x44)]),(14,Oc [Z (W 1 eI x50.1)])]) (t j j (oLd (cs:=[.im 0 _,.im 0 _,.fr _,.fr _]) j Ar j j)<|t j j (oLd (cs:=[.im 0 _,.im 0 _,.im 2 _,.im 2 _]) j Qw j j)<|sS (dN z3 j (oCr (xs:=[.v true [.im 0 _,.im 0 _,.im 2 _,.im 2 _]]) (vs:=[(true,[.im 0 _,.im 0 _,.own 64 0 0,.own 64 0 1])]) (v:=.v true [.im 0 _,.im 0 _,.own 64 0 0,.own 64 0 1]) (c:=⟨.sh,0,_⟩) (cs:=[⟨.sh,0,_⟩]) (qV ahj) (.inl j) j OC j (ppC j pp0) j j pb0 j j j)) trivial (sS (dN z3 j (oCa (xs:=[.v true [.im 0 _,.im 0 _,.fr _,.fr _],.v true [.im 0 _,.im 0 _,.own 64 0 0,.own 64 0 1]]) (vs:=[(false,[.im 0 _])]) (v:=.v false [.im 0 _]) (Hz ac2) (.inl j) j RS j (ppC j (ppC j pp0)) j j pb0 j j j)) trivial (t j j (oUn j j j)<|sD (by kernel_rfl))))<|us<|?_
     by_cases hc5:x65=true
     ·rw [if_pos hc5] at h
      refine gF j (nF (iR.2 hc5))<|Go.skip<|us<|gs<|gs<|?_
      obtain ⟨x69,ahk,h⟩:=bs h
      obtain ⟨x70,XH,h⟩:=bs h
      refine g0 j j (q (oMv j j)<|q (oMv j j)<|q (oCr (xs:=[.v false [.im 2 _]]) (vs:=[(false,[.own 69 0 0])]) (v:=.v false [.own 69 0 0]) (c:=⟨.sh,0,_⟩) (cs:=[]) (qW ahk) (.inl j) j Jb j (ppC j pp0) j j pb0 j j j)<|q (oCa (xs:=[.v false [.own 13 0 0],.v false [.own 69 0 0]]) (vs:=[(false,[.im 0 _])]) (v:=.v false [.im 0 _]) (HY XH) (.inl j) j RU j (ppC j (ppC j pp0)) j j pb0 j j j)<|q (oUn j j j)<|nl)<|us<|?_
      by_cases hc6:x70=true
      ·rw [if_pos hc6] at h
       refine gF j (nF (iR.2 hc6))<|Go.skip<|us<|gs<|g0 j j (q (ae j j)<|nl)<|us<|gs<|?_
       obtain ⟨x74,ahl,h⟩:=bs h
       refine gS j j (mk [(1,D 2 (W 3 au gq)),(2,iv ku),(3,iv jc),(4,M 4),(10,H 10 0),(11,iv x38.2),(12,M 12),(13,H 13 0),(14,H 14 0),(15,iv x50.2),(16,iv 1)] [(4,Oa (G 2 (ak Bf))),(10,Oc [Z (W 1 eI x38.1)]),(12,Oa (Kw (ak x42))),(13,Oc [Z (W 3 au x44)]),(14,Oc [Z (W 1 eI x50.1)])]) (q (oLd (cs:=[.im 0 _,.im 0 _,.ws _,.ws _]) j Ar j j)<|q (oMv j j)<|q (oCa (xs:=[.v true [.im 0 _,.im 0 _,.ws _,.ws _],.v false [.im 0 _]]) (vs:=[(false,[.im 0 _])]) (v:=.v false [.im 0 _]) (EW ahl) (.inl j) j U1 j (ppC j (ppC j pp0)) j j pb0 j j j)<|q (ae j j)<|nl)<|us<|gs<|?_
       obtain ⟨x77,Vh,h⟩:=bs h
       refine g0 j j (q (oMv j j)<|q (oMv j j)<|q (oCa (xs:=[.v false [.own 13 0 0],.v false [.im 0 _]]) (vs:=[(false,[.im 0 _])]) (v:=.v false [.im 0 _]) (EX Vh) (.inl j) j U2 j (ppC j (ppC j pp0)) j j (pbO j j j j pb0) j j j)<|q (ae j j)<|nl)<|us<|gs<|gs<|?_
       obtain ⟨Kr,xM,h⟩:=bs h
       refine gX c3 j j (st1:=mk [(1,D 2 (W 3 au gq)),(2,iv ku),(3,iv jc),(4,M 4),(10,H 10 0),(11,iv x38.2),(14,H 14 0),(15,iv x50.2),(16,iv x77.1)] [(4,Oa (G 2 (ak Bf))),(10,Oc [Z (W 1 eI x38.1)]),(14,Oc [Z (W 1 eI x50.1)])]) (by kernel_rfl) (mk [(1,D 2 (W 3 au gq)),(2,iv ku),(3,iv jc),(4,M 4),(10,H 10 0),(11,iv x38.2),(14,H 14 0),(90,bv Kr)] [(4,Oa (G 2 (ak Bf))),(10,Oc [Z (W 1 eI x38.1)]),(14,Oc [Z (W 1 eI x50.1)])]) ?_ ?_
       ·refine xq (oMv j j)<|xq (oBi j j j j)<|xq (oMv j j)<|?_
        refine ic xM (fun hc7 xM=>?_) fun hc7 xM=>?_
        ·cases xM
         exact aj j j (ah.2 hc7) j<|aj j j (ah.2 hc7) j<|aj j j (ah.2 hc7) j<|aj j j (ah.2 hc7) j<|xq (bU j j (ah.2 hc7) j)<|xq (oMv j j)<|aj j j j j<|aj j j j j<|aj j j j j<|xq (bU j j j j)<|xn
        ·obtain ⟨x83,Vj,xM⟩:=bs xM
         refine xqT j j (byF ah hc7) (oMv j j)<|xqT j j (byF ah hc7) (oMv j j)<|xqT j j (byF ah hc7) (oCa (xs:=[.v false [.own 14 0 0],.v false [.own 10 0 0]]) (vs:=[(false,[.im 0 _])]) (v:=.v false [.im 0 _]) (sW Vj) (.inl j) j Bh j (ppC j (ppC j pp0)) j j pb0 j j j)<|xqT j j (byF ah hc7) (oUn j j j)<|xq (dV j j (byF ah hc7) j)<|xq (oMv j j)<|?_
         refine ic xM (fun hc8 xM=>?_) fun hc8 xM=>?_
         ·cases xM
          exact xqT j j (nF (iR.2 hc8)) (oMv j j)<|xqT j j (nF (iR.2 hc8)) (oMv j j)<|xqT j j (nF (iR.2 hc8)) (oBi j j j j)<|xq (dV j j (nF (iR.2 hc8)) j)<|xn
         ·cases xM
          exact aj j j (nT (byF iR hc8)) j<|aj j j (nT (byF iR hc8)) j<|aj j j (nT (byF iR hc8)) j<|xq (bU j j (nT (byF iR hc8)) j)<|xn
       ·refine us<|gc h j iR (fun hc9 h=>?_) fun hc9 h=>?_
        ·refine gs<|g0 j j (q (ae j j)<|nl)<|us<|Go.ret (Unw.ret ?_)
         cases h
         exact fr rF3 j
        ·refine Go.skip<|us<|gs<|g0 j j (q (ae j j)<|nl)<|us<|gs<|?_
         obtain ⟨x93,hx93,h⟩:=bs h
         refine g0 j j (q (oMv j j)<|q (oMv j j)<|q (oCa (xs:=[.v false [.own 14 0 0],.v false [.im 0 _]]) (vs:=[(false,[.im 0 _])]) (v:=.v false [.im 0 _]) (Gh hx93) (.inl j) j Nb j (ppC j (ppC j pp0)) j j (pbO j j j j pb0) j j j)<|q (ae j j)<|nl)<|us<|gs<|g1 j j (mk [(1,D 2 (W 3 au gq)),(2,iv ku),(3,iv jc),(4,M 4),(10,H 10 0),(11,iv x38.2),(14,H 14 0),(17,iv x93.1)] [(4,Oa (G 2 (ak Bf))),(10,Oc [Z (W 1 eI x38.1)]),(14,Oc [Z (W 1 eI x93.2)])]) (q (ae j j)<|nl)<|us<|gs<|?_
         obtain ⟨x96,hx96,h⟩:=bs h
         refine g0 j j (q (oMv j j)<|q (oMv j j)<|q (oCa (xs:=[.v false [.own 14 0 0],.v false [.im 0 _]]) (vs:=[(false,[.im 0 _])]) (v:=.v false [.im 0 _]) (zq hx96) (.inl j) j Nc j (ppC j (ppC j pp0)) j j pb0 j j j)<|q (ae j j)<|nl)<|us<|gs<|gs<|g0 j j (q (oMv j j)<|q (oBi j j j j)<|nl)<|us<|gc h j ah (fun adb h=>?_) fun adb h=>?_
         ·refine gs<|g0 j j (q (ae j j)<|nl)<|us<|Go.ret (Unw.ret ?_)
          cases h
          exact fr rF3 j
         ·refine Go.skip<|us<|gs<|gs<|g0 j j (q (oMv j j)<|q (oMv j j)<|q (oBi j j j j)<|nl)<|us<|gc h j iNe (fun LC h=>?_) fun LC h=>?_
          ·refine gs<|g0 j j (q (ae j j)<|nl)<|us<|Go.ret (Unw.ret ?_)
           cases h
           exact fr rF3 j
          ·refine Go.skip<|us<|gs<|?_
           obtain ⟨x104,hx104,h⟩:=bs h
           obtain ⟨aeb,ae2,h⟩:=bs h
           obtain ⟨Xd,ae3,h⟩:=bs h
           refine g0 j j (q (oLd (cs:=[.im 0 _,.im 0 _,.im 2 _,.im 2 _]) j Qw j j)<|q (oCr (xs:=[.v true [.im 0 _,.im 0 _,.im 2 _,.im 2 _]]) (vs:=[(true,[.im 0 _,.im 0 _,.own 104 0 0,.own 104 0 1])]) (v:=.v true [.im 0 _,.im 0 _,.own 104 0 0,.own 104 0 1]) (c:=⟨.sh,0,_⟩) (cs:=[⟨.sh,0,_⟩]) (qV hx104) (.inl j) j OC j (ppC j pp0) j j pb0 j j j)<|q (oMv j j)<|q (oCr (xs:=[.v false [.im 2 _]]) (vs:=[(false,[.own 106 0 0])]) (v:=.v false [.own 106 0 0]) (c:=⟨.sh,0,_⟩) (cs:=[]) (qW ae2) (.inl j) j Jb j (ppC j pp0) j j pb0 j j j)<|q (oMv j j)<|q (oMv j j)<|q (oCr (xs:=[.v true [.im 0 _,.im 0 _,.own 104 0 0,.own 104 0 1],.v false [.own 106 0 0],.v false [.im 0 _],.v false [.im 0 _]]) (vs:=[(false,[.own 109 0 0]),(false,[.im 0 _])]) (v:=.tup [(false,[.own 109 0 0]),(false,[.im 0 _])]) (c:=⟨.sh,0,_⟩) (cs:=[]) (xx ae3) (.inl j) j CS j (ppC j (ppC j (ppC j (ppC j pp0)))) j j pb0 j j j)<|q (NT j j)<|q (oEx j j j)<|q (oEx j j j)<|q (kC j j j j j)<|q (ae j j)<|nl)<|us<|gs<|gs<|?_
           obtain ⟨x114,hx114,h⟩:=bs h
           refine gX c3 j j j (mk [(14,H 14 0),(17,iv x93.1),(120,bv ((!x114)||(Xd.2 != x38.2)))] [(14,Oc [Z (W 1 eI x93.2)])]) ?_ ?_
           ·refine xq (oMv j j)<|xq (oMv j j)<|xq (oCa (xs:=[.v false [.own 19 0 0],.v false [.own 10 0 0]]) (vs:=[(false,[.im 0 _])]) (v:=.v false [.im 0 _]) (sW hx114) (.inl j) j Bh j (ppC j (ppC j pp0)) j j pb0 j j j)<|xq (oUn j j j)<|xq (oMv j j)<|?_
            by_cases hc12:x114=true
            ·exact xqT rfl rfl (nF (iR.2 hc12)) (oMv rfl rfl)<|xqT rfl rfl (nF (iR.2 hc12)) (oMv rfl rfl)<|xqT rfl rfl (nF (iR.2 hc12)) (oBi rfl rfl rfl rfl)<|xq (dV rfl rfl (nF (iR.2 hc12)) rfl)<|xn (Eq.trans (b:=(fun vT:Bool=>mk [(14,H 14 0),(17,iv x93.1),(120,bv vT)] [(14,Oc [Z (W 1 eI x93.2)])]) (Xd.2 != x38.2)) (by kernel_rfl) (congrArg (fun vT:Bool=>mk [(14,H 14 0),(17,iv x93.1),(120,bv vT)] [(14,Oc [Z (W 1 eI x93.2)])]) (by first | rfl | (simp [(iR.2 hc12)];done) | (simp [(iR.2 hc12)];omega))))
            ·exact aj rfl rfl (nT (byF iR hc12)) rfl<|aj rfl rfl (nT (byF iR hc12)) rfl<|aj rfl rfl (nT (byF iR hc12)) rfl<|xq (bU rfl rfl (nT (byF iR hc12)) rfl)<|xn (Eq.trans (b:=(fun vT:Bool=>mk [(14,H 14 0),(17,iv x93.1),(120,bv vT)] [(14,Oc [Z (W 1 eI x93.2)])]) true) (by kernel_rfl) (congrArg (fun vT:Bool=>mk [(14,H 14 0),(17,iv x93.1),(120,bv vT)] [(14,Oc [Z (W 1 eI x93.2)])]) (by first | rfl | (simp [(byF iR hc12)];done) | (simp [(byF iR hc12)];omega))))
           ·refine us<|gc h j (iOr (YL iR) iNe) (fun hc13 h=>?_) fun hc13 h=>?_
            ·refine gs<|g0 j j (q (ae j j)<|nl)<|us<|Go.ret (Unw.ret ?_)
             cases h
             exact fr rF3 j
            ·refine Go.skip<|us<|gs<|g0 j j (q (ae j j)<|nl)<|us<|gs<|?_
             obtain ⟨acr,ae4,h⟩:=bs h
             refine g0 j j (q (oMv j j)<|q (oMv j j)<|q (oCa (xs:=[.v false [.own 14 0 0],.v false [.im 0 _]]) (vs:=[(false,[.im 0 _])]) (v:=.v false [.im 0 _]) (zq ae4) (.inl j) j Nc j (ppC j (ppC j pp0)) j j pb0 j j j)<|q (ae j j)<|nl)<|us<|gs<|gs<|g0 j j (q (oMv j j)<|q (oBi j j j j)<|nl)<|us<|gc h j ah (fun XD h=>?_) fun XD h=>?_
             ·refine gs<|g0 j j (q (ae j j)<|nl)<|us<|Go.ret (Unw.ret ?_)
              cases h
              exact fr rF3 j
             ·refine Go.skip<|us<|gs<|gs<|g0 j j (q (oMv j j)<|q (oMv j j)<|q (oBi j j j j)<|nl)<|us<|gc h j iNe (fun SG h=>?_) fun SG h=>?_
              ·refine gs<|g0 j j (q (ae j j)<|nl)<|us<|Go.ret (Unw.ret ?_)
               cases h
               exact fr rF3 j
              ·refine Go.skip<|us<|gs<|g0 j j (q (ae j j)<|nl)<|us<|Go.ret (Unw.ret ?_)
               cases h
               exact fr rF3 j
      ·rw [if_neg hc6] at h
       refine gT j (nT (byF iR hc6))<|gs<|g0 j j (q (ae j j)<|nl)<|us<|Go.ret (Unw.ret ?_)
       cases h
       exact fr rF3 j
     ·rw [if_neg hc5] at h
      refine gT j (nT (byF iR hc5))<|gs<|g0 j j (q (ae j j)<|nl)<|us<|Go.ret (Unw.ret ?_)
      cases h
      exact fr rF3 j
end
end Go.Proofs.YtnjgcdpleghciaaGreat
