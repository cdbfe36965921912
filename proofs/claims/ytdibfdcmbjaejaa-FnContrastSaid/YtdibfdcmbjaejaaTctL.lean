/- The machine answers, at each function of the program that is reached, what its plain function answers: a further part. Conditions: none. -/
import Derived.Test.YtdibfdcmbjaejaaTctLb
namespace Go.Proofs.Ytdibfdcmbjaejaa
open Go Go.Sim Go.Pw Go.Proofs
set_option linter.unusedVariables false
set_option linter.unusedSimpArgs false
set_option maxRecDepth 100000
set_option maxHeartbeats 4000000
noncomputable section
theorem EW {x_0:(Option aZ)} {r:Bool} (h:mP x_0=some r):FX 162 [.im 2 false [eO jK x_0]] (B0 [(false,[.im 0 (V r)])]):=by
 unfold mP at h
 refine gn 65 Try.func162 rfl ?_
 refine gs<|g0 j j (q (ah j j)<|nl)<|us<|gs<|?_
 cases x_0 with
 | none=>
  cases h
 | some AQ=>
  refine g0 j j (q (oMv j j)<|q (oNl j j j)<|q (oFA (r':=.im 2 _) j yG j j)<|q (oLd (cs:=[.im 2 _]) j oz j j)<|q (jd j j uG j)<|q (oBi j j j j)<|q (ah j j)<|nl)<|us<|gs<|gs<|g0 j j (q (ah j j)<|nl)<|us<|Go.block<|?_
  obtain ⟨o,hl,h⟩:=bs h
  refine gl c162 j _ (fun (fD:Int)=>mk [(0,.v false [.im (bU 2 (eO jK (some AQ))) (eO jK (some AQ))]),(3,iv (w64 ((AQ.shifts.length:Int) - 1))),(4,iv fD)] []) (fun (o:(Unit ⊕ Bool)) (p:Ex×St)=>match o with | (.inl _)=>p.1= .exit 0∧p.2.norm ([],[])=mk [] [] | (.inr r2)=>p.1= .ret∧fin Try.prog cfg 162 Try.f162 [.im 2 false [eO jK (some AQ)]] p.2=some (B0 [(false,[.im 0 (V r2)])])) hl (by kernel_rfl) ?_ ?_ ?_
  ·intro o p hp e
   rcases o with u | r2<;>exact nomatch (hp.1.symm.trans e)
  ·rintro fD o h
   unfold jU at h
   refine gs<|gs<|g0 j j (q (oMv j j)<|q (oMv j j)<|q (oNl j j j)<|q (oFA (r':=.im _ _) j QN j j)<|q (oLd (cs:=[.im _ _]) j ZM j j)<|q (jd j j acu j)<|q (oBi j j j j)<|nl)<|us<|gc h j ak (fun NV h=>?_) fun NV h=>?_
   ·refine Go.skip<|us<|gs<|Go.block<|gs<|?_
    obtain ⟨x25,hx25,h⟩:=bs h
    obtain ⟨x27,hx27,h⟩:=bs h
    obtain ⟨QI,Iw,h⟩:=bs h
    refine gd c162 j j j j (mk [(0,.v false [.im (bU 2 (eO jK (some AQ))) (eO jK (some AQ))]),(3,iv (w64 ((AQ.shifts.length:Int) - 1))),(4,iv fD),(64,bv QI)] []) ?_ ?_
    ·refine t j j (oMv j j)<|t j j (oNl j j j)<|t j j (oFA (r':=.im _ _) j QN j j)<|t j j (oLd (cs:=[.im _ _]) j ZM j j)<|t j j (oMv j j)<|t j j (gZ j hx25 JQ j j)<|t j j (oLd (cs:=[.im _ _]) j oz j j)<|t j j (gZ j hx27 eX j j)<|t j j (oLd (cs:=[.im _ _]) j tF2 j j)<|t j j (oMv j j)<|t j j (oBi j j j j)<|t j j (oMv j j)<|?_
     refine ic Iw (fun eY Iw=>?_) fun eY Iw=>?_
     ·obtain ⟨x45,ZQ,Iw⟩:=bs Iw
      obtain ⟨x47,KR,Iw⟩:=bs Iw
      obtain ⟨x49,KT,Iw⟩:=bs Iw
      obtain ⟨x56,ZU,Iw⟩:=bs Iw
      obtain ⟨x58,aep,Iw⟩:=bs Iw
      cases Iw
      exact tT rfl rfl rfl rfl (iEq.2 eY) (oMv rfl rfl)<|tT rfl rfl rfl rfl (iEq.2 eY) (oNl rfl rfl rfl)<|tT rfl rfl rfl rfl (iEq.2 eY) (oFA (r':=.im _ _) rfl WC rfl rfl)<|tT rfl rfl rfl rfl (iEq.2 eY) (oLd (cs:=[.im _ _]) rfl Q7 rfl rfl)<|tT rfl rfl rfl rfl (iEq.2 eY) (oMv rfl rfl)<|tT rfl rfl rfl rfl (iEq.2 eY) (oNl rfl rfl rfl)<|tT rfl rfl rfl rfl (iEq.2 eY) (oFA (r':=.im _ _) rfl yG rfl rfl)<|tT rfl rfl rfl rfl (iEq.2 eY) (oLd (cs:=[.im _ _]) rfl oz rfl rfl)<|tT rfl rfl rfl rfl (iEq.2 eY) (oMv rfl rfl)<|tT rfl rfl rfl rfl (iEq.2 eY) (oNl rfl rfl rfl)<|tT rfl rfl rfl rfl (iEq.2 eY) (oFA (r':=.im _ _) rfl QN rfl rfl)<|tT rfl rfl rfl rfl (iEq.2 eY) (oLd (cs:=[.im _ _]) rfl ZM rfl rfl)<|tT rfl rfl rfl rfl (iEq.2 eY) (oMv rfl rfl)<|tT rfl rfl rfl rfl (iEq.2 eY) (gZ rfl ZQ JQ rfl rfl)<|tT rfl rfl rfl rfl (iEq.2 eY) (oLd (cs:=[.im _ _]) rfl oz rfl rfl)<|tT rfl rfl rfl rfl (iEq.2 eY) (gZ rfl KR eX rfl rfl)<|tT rfl rfl rfl rfl (iEq.2 eY) (oLd (cs:=[.im _ _]) rfl tF2 rfl rfl)<|tT rfl rfl rfl rfl (iEq.2 eY) (gZ rfl KT eX rfl rfl)<|tT rfl rfl rfl rfl (iEq.2 eY) (oLd (cs:=[.im _ _]) rfl tF2 rfl rfl)<|tT rfl rfl rfl rfl (iEq.2 eY) (oMv rfl rfl)<|tT rfl rfl rfl rfl (iEq.2 eY) (oNl rfl rfl rfl)<|tT rfl rfl rfl rfl (iEq.2 eY) (oFA (r':=.im _ _) rfl yG rfl rfl)<|tT rfl rfl rfl rfl (iEq.2 eY) (oLd (cs:=[.im _ _]) rfl oz rfl rfl)<|tT rfl rfl rfl rfl (iEq.2 eY) (oMv rfl rfl)<|tT rfl rfl rfl rfl (iEq.2 eY) (gZ rfl ZU eX rfl rfl)<|tT rfl rfl rfl rfl (iEq.2 eY) (oLd (cs:=[.im _ _]) rfl tF2 rfl rfl)<|tT rfl rfl rfl rfl (iEq.2 eY) (oMv rfl rfl)<|tT rfl rfl rfl rfl (iEq.2 eY) (oNl rfl rfl rfl)<|tT rfl rfl rfl rfl (iEq.2 eY) (oFA (r':=.im _ _) rfl abX rfl rfl)<|tT rfl rfl rfl rfl (iEq.2 eY) (oLd (cs:=[.im _ _]) rfl tF2 rfl rfl)<|sS (dT z162 rfl rfl rfl (iEq.2 eY) (oCa (xs:=[.v false [.im _ _],.v false [.im _ _],.v false [.im _ _]]) (vs:=[(false,[.im 0 _])]) (v:=.v false [.im 0 _]) (Iu aep) (.inl rfl) rfl QY rfl (ppC rfl (ppC rfl (ppC rfl pp0))) rfl rfl pb0 rfl rfl rfl)) trivial (tT rfl rfl rfl rfl (iEq.2 eY) (oBi rfl rfl rfl rfl)<|t rfl rfl (bQ rfl rfl (iEq.2 eY) rfl)<|sD (by first | (cases (some AQ)<;>kernel_rfl) | kernel_rfl))
     ·cases Iw
      exact tF rfl rfl rfl rfl (byF iEq eY) rfl<|tF rfl rfl rfl rfl (byF iEq eY) rfl<|tF rfl rfl rfl rfl (byF iEq eY) rfl<|tF rfl rfl rfl rfl (byF iEq eY) rfl<|tF rfl rfl rfl rfl (byF iEq eY) rfl<|tF rfl rfl rfl rfl (byF iEq eY) rfl<|tF rfl rfl rfl rfl (byF iEq eY) rfl<|tF rfl rfl rfl rfl (byF iEq eY) rfl<|tF rfl rfl rfl rfl (byF iEq eY) rfl<|tF rfl rfl rfl rfl (byF iEq eY) rfl<|tF rfl rfl rfl rfl (byF iEq eY) rfl<|tF rfl rfl rfl rfl (byF iEq eY) rfl<|tF rfl rfl rfl rfl (byF iEq eY) rfl<|tF rfl rfl rfl rfl (byF iEq eY) rfl<|tF rfl rfl rfl rfl (byF iEq eY) rfl<|tF rfl rfl rfl rfl (byF iEq eY) rfl<|tF rfl rfl rfl rfl (byF iEq eY) rfl<|tF rfl rfl rfl rfl (byF iEq eY) rfl<|tF rfl rfl rfl rfl (byF iEq eY) rfl<|tF rfl rfl rfl rfl (byF iEq eY) rfl<|tF rfl rfl rfl rfl (byF iEq eY) rfl<|tF rfl rfl rfl rfl (byF iEq eY) rfl<|tF rfl rfl rfl rfl (byF iEq eY) rfl<|tF rfl rfl rfl rfl (byF iEq eY) rfl<|tF rfl rfl rfl rfl (byF iEq eY) rfl<|tF rfl rfl rfl rfl (byF iEq eY) rfl<|tF rfl rfl rfl rfl (byF iEq eY) rfl<|tF rfl rfl rfl rfl (byF iEq eY) rfl<|tF rfl rfl rfl rfl (byF iEq eY) rfl<|tF rfl rfl rfl rfl (byF iEq eY) rfl<|sS (dF rfl rfl rfl (byF iEq eY) rfl) trivial (tF rfl rfl rfl rfl (byF iEq eY) rfl<|t rfl rfl (bV rfl rfl (byF iEq eY) rfl)<|sD (by first | (cases (some AQ)<;>kernel_rfl) | kernel_rfl))
    ·refine us<|gc h j iR (fun hc12 h=>?_) fun hc12 h=>?_
     ·refine gs<|g0 j j (q (ah j j)<|nl)<|us<|Go.ret (Unw.ret ?_)
      cases h
      exact ⟨j,(fo adi j)⟩
     ·refine Go.skip<|Unw.blk<|us<|g0 j j (q (oMv j j)<|q (oBi j j j j)<|q (ah j j)<|nl)<|Unw.nil<|?_
      cases h
      exact ⟨rfl,(by first | (cases (some AQ)<;>kernel_rfl) | kernel_rfl)⟩
   ·refine Go.exit<|ux<|Unw.nil<|?_
    cases h
    exact ⟨rfl,(by first | (cases (some AQ)<;>kernel_rfl) | kernel_rfl)⟩
  ·rintro ⟨e,st⟩ hp
   rcases o with u | r2
   ·dsimp only at h
    obtain ⟨he,hst⟩:=hp
    obtain rfl:e= .exit 0:=he
    refine Unw.lq<|us<|gs<|g2 c162 j j hst (q (ah j j)<|nl)<|us<|Go.ret (Unw.ret ?_)
    cases h
    exact fr adi j
   ·dsimp only at h
    obtain ⟨he,hfin⟩:=hp
    obtain rfl:e= .ret:=he
    cases h
    exact Unw.ret (jl hfin)
theorem CJ {self:aZ→Option (Bool×aZ)} (ih:∀{x_0:aZ} {r:(Bool×aZ)},self x_0=some r→FX 112 [.ptr true [(.imm,W 1 (eL 1 eI) x_0.pairs),(.imm,I x_0.faces),(.imm,W 3 aA x_0.nR),(.imm,I x_0.least),(.sh,W 1 eI x_0.shifts),(.imm,V x_0.first),(.sh,W 1 eI x_0.best),(.imm,I x_0.count),(.imm,I x_0.nodes),(.imm,I x_0.budget)]] ([(false,[.im 0 (V r.1)])],[.ptr true [(.imm,W 1 (eL 1 eI) r.2.pairs),(.imm,I r.2.faces),(.imm,W 3 aA r.2.nR),(.imm,I r.2.least),(.sh,W 1 eI r.2.shifts),(.imm,V r.2.first),(.sh,W 1 eI r.2.best),(.imm,I r.2.count),(.imm,I r.2.nodes),(.imm,I r.2.budget)]])) {x_0:aZ} {r:(Bool×aZ)} (h:fG self x_0=some r):FX 112 [.ptr true [(.imm,W 1 (eL 1 eI) x_0.pairs),(.imm,I x_0.faces),(.imm,W 3 aA x_0.nR),(.imm,I x_0.least),(.sh,W 1 eI x_0.shifts),(.imm,V x_0.first),(.sh,W 1 eI x_0.best),(.imm,I x_0.count),(.imm,I x_0.nodes),(.imm,I x_0.budget)]] ([(false,[.im 0 (V r.1)])],[.ptr true [(.imm,W 1 (eL 1 eI) r.2.pairs),(.imm,I r.2.faces),(.imm,W 3 aA r.2.nR),(.imm,I r.2.least),(.sh,W 1 eI r.2.shifts),(.imm,V r.2.first),(.sh,W 1 eI r.2.best),(.imm,I r.2.count),(.imm,I r.2.nodes),(.imm,I r.2.budget)]]):=by
 unfold fG at h
 refine sV (A:=[(0,M 0)]) (B:=[(0,Od [Ct 1 (W 1 (eL 1 eI) x_0.pairs),C (I x_0.faces),Ct 1 (W 3 aA x_0.nR),C (I x_0.least),Z (W 1 eI x_0.shifts),C (V x_0.first),Z (W 1 eI x_0.best),C (I x_0.count),C (I x_0.nodes),C (I x_0.budget)])]) (nt:=98) rfl rfl Try.func112 rfl rfl rfl rfl ?_
 refine gs<|g0 j j (q (ah j j)<|nl)<|us<|gs<|g0 j j (q (oMv j j)<|q (oNl j j j)<|q (oFA (r':=.mp 0 0 8) j LH j j)<|q (oLd (cs:=[.im 0 _]) j tF2 j j)<|q (oBi j j j j)<|q (oNl j j j)<|q (oFA (r':=.mp 0 0 8) j LH j j)<|q (oSt tF2 j j j (tkI tk0) j j j)<|nl)<|us<|gs<|gs<|gd Tm j j j (st1:=mk [(0,M 0)] [(0,Od [Ct 1 (W 1 (eL 1 eI) x_0.pairs),C (I x_0.faces),Ct 1 (W 3 aA x_0.nR),C (I x_0.least),Z (W 1 eI x_0.shifts),C (V x_0.first),Z (W 1 eI x_0.best),C (I x_0.count),C (I (w64 (x_0.nodes+1))),C (I x_0.budget)])]) (by kernel_rfl) (mk [(0,M 0),(20,bv (decide ((w64 (x_0.nodes+1)) >x_0.budget)))] [(0,Od [Ct 1 (W 1 (eL 1 eI) x_0.pairs),C (I x_0.faces),Ct 1 (W 3 aA x_0.nR),C (I x_0.least),Z (W 1 eI x_0.shifts),C (V x_0.first),Z (W 1 eI x_0.best),C (I x_0.count),C (I (w64 (x_0.nodes+1))),C (I x_0.budget)])]) (t j j (oMv j j)<|t j j (oNl j j j)<|t j j (oFA (r':=.mp 0 0 8) j LH j j)<|t j j (oLd (cs:=[.im 0 _]) j tF2 j j)<|t j j (oMv j j)<|t j j (oNl j j j)<|t j j (oFA (r':=.mp 0 0 9) j abZ j j)<|t j j (oLd (cs:=[.im 0 _]) j tF2 j j)<|t j j (oBi j j j j)<|sD (by kernel_rfl))<|us<|gc h j ak (fun hc1 h=>?_) fun hc1 h=>?_
 ·refine gs<|g0 j j (q (ah j j)<|nl)<|us<|Go.ret (Unw.ret ?_)
  cases h
  exact fr WR j
 ·refine Go.skip<|us<|gs<|gs<|gd Tm j j j j (mk [(0,M 0),(30,bv ((x_0.shifts.length:Int)==x_0.faces))] [(0,Od [Ct 1 (W 1 (eL 1 eI) x_0.pairs),C (I x_0.faces),Ct 1 (W 3 aA x_0.nR),C (I x_0.least),Z (W 1 eI x_0.shifts),C (V x_0.first),Z (W 1 eI x_0.best),C (I x_0.count),C (I (w64 (x_0.nodes+1))),C (I x_0.budget)])]) (t j j (oMv j j)<|t j j (oNl j j j)<|t j j (oFA (r':=.mp 0 0 4) j yG j j)<|t j j (oLd (cs:=[.own 0 0 4]) j oz j j)<|t j j (Hu j j uG j j j (fun e=>nomatch e))<|t j j (oMv j j)<|t j j (oNl j j j)<|t j j (oFA (r':=.mp 0 0 1) j abW j j)<|t j j (oLd (cs:=[.im 0 _]) j tF2 j j)<|t j j (oBi j j j j)<|sD (by kernel_rfl))<|us<|gc h j iEq (fun hc2 h=>?_) fun hc2 h=>?_
  ·refine gs<|g0 j j (q (oMv j j)<|q (oNl j j j)<|q (oFA (r':=.mp 0 0 7) j LG j j)<|q (oLd (cs:=[.im 0 _]) j tF2 j j)<|q (oBi j j j j)<|q (oNl j j j)<|q (oFA (r':=.mp 0 0 7) j LG j j)<|q (oSt tF2 j j j (tkI tk0) j j j)<|nl)<|us<|gs<|gs<|g1 j j (mk [(0,M 0)] [(0,Od [Ct 1 (W 1 (eL 1 eI) x_0.pairs),C (I x_0.faces),Ct 1 (W 3 aA x_0.nR),C (I x_0.least),Z (W 1 eI x_0.shifts),C (V x_0.first),Z (W 1 eI x_0.best),C (I (w64 (x_0.count+1))),C (I (w64 (x_0.nodes+1))),C (I x_0.budget)])]) (q (oMv j j)<|q (oNl j j j)<|q (oFA (r':=.mp 0 0 7) j LG j j)<|q (oLd (cs:=[.im 0 _]) j tF2 j j)<|q (oBi j j j j)<|nl)<|us<|Go.join (fun st=>∃DD,gQ self x_0 DD=some r∧st.norm ([0],[0])=mk [(0,M 0)] [(0,Od [Ct 1 (W 1 (eL 1 eI) x_0.pairs),C (I x_0.faces),Ct 1 (W 3 aA x_0.nR),C (I x_0.least),Z (W 1 eI x_0.shifts),C (V x_0.first),Z (W 1 eI DD),C (I (w64 (x_0.count+1))),C (I (w64 (x_0.nodes+1))),C (I x_0.budget)])]) ?_ ?_
   ·rintro st ⟨DD,h,hst⟩
    unfold gQ at h
    refine us<|gs<|g2 Tm j j hst (q (oMv j j)<|q (oNl j j j)<|q (oFA (r':=.mp 0 0 5) j abY j j)<|q (oLd (cs:=[.im 0 _]) j tF4 j j)<|q (oUn j j j)<|q (ah j j)<|nl)<|us<|Go.ret (Unw.ret ?_)
    cases h
    exact fr WR j
   ·intro K4
    refine gc h j iEq (fun hc5 h=>?_) fun hc5 h=>?_
    ·obtain ⟨x48,ah2,h⟩:=bs h
     exact g0 j j (q (oMv j j)<|q (oMv j j)<|q (oNl j j j)<|q (oFA (r':=.mp 0 0 4) j yG j j)<|q (oLd (cs:=[.own 0 0 4]) j oz j j)<|q (oCr (xs:=[.v false [.own 0 0 4]]) (vs:=[(false,[.own 48 0 0])]) (v:=.v false [.own 48 0 0]) (c:=⟨.sh,0,_⟩) (cs:=[]) (GR ah2) (.inl j) j WN j (ppC j pp0) j j pb0 j j j)<|q (oNl j j j)<|q (oFA (r':=.mp 0 0 6) j WE j j)<|q (oSt oz j j j (tkO j j tk0) j j j)<|nl)<|K4 _ ⟨x48,h,(by kernel_rfl)⟩
    ·exact Go.skip<|K4 _ ⟨x_0.best,h,(by kernel_rfl)⟩
  ·refine Go.skip<|us<|gs<|gs<|g0 j j (q (ah j j)<|nl)<|us<|Go.block<|?_
   obtain ⟨o,hl,h⟩:=bs h
   refine gl Tm j _ (fun (s:(Int×(List (List Int))×Int×(List aF)×Int×(List Int)×Bool×(List Int)×Int×Int×Int))=>match s with | (wX,qM,qN,pz,qO,AU,qP,qQ,qR,qU,qV)=>mk [(0,M 0),(3,iv wX)] [(0,Od [Ct 1 (W 1 (eL 1 eI) qM),C (I qN),Ct 1 (W 3 aA pz),C (I qO),Z (W 1 eI AU),C (V qP),Z (W 1 eI qQ),C (I qR),C (I qU),C (I qV)])]) (fun (o:(((List (List Int))×Int×(List aF)×Int×(List Int)×Bool×(List Int)×Int×Int×Int) ⊕ (Bool×aZ))) (p:Ex×St)=>match o with | (.inl (wY,wZ,xe,xg,xh,xk,xm,xu,xw,xx))=>p.1= .exit 0∧p.2.norm ([],[0])=mk [] [(0,Od [Ct 1 (W 1 (eL 1 eI) wY),C (I wZ),Ct 1 (W 3 aA xe),C (I xg),Z (W 1 eI xh),C (V xk),Z (W 1 eI xm),C (I xu),C (I xw),C (I xx)])] | (.inr r2)=>p.1= .ret∧fin Try.prog cfg 112 Try.f112 [.ptr true [(.imm,W 1 (eL 1 eI) x_0.pairs),(.imm,I x_0.faces),(.imm,W 3 aA x_0.nR),(.imm,I x_0.least),(.sh,W 1 eI x_0.shifts),(.imm,V x_0.first),(.sh,W 1 eI x_0.best),(.imm,I x_0.count),(.imm,I x_0.nodes),(.imm,I x_0.budget)]] p.2=some ([(false,[.im 0 (V r2.1)])],[.ptr true [(.imm,W 1 (eL 1 eI) r2.2.pairs),(.imm,I r2.2.faces),(.imm,W 3 aA r2.2.nR),(.imm,I r2.2.least),(.sh,W 1 eI r2.2.shifts),(.imm,V r2.2.first),(.sh,W 1 eI r2.2.best),(.imm,I r2.2.count),(.imm,I r2.2.nodes),(.imm,I r2.2.budget)]])) hl (by kernel_rfl) ?_ ?_ ?_
   ·intro o p hp e
    rcases o with ⟨wY,wZ,xe,xg,xh,xk,xm,xu,xw,xx⟩ | r2<;>exact nomatch (hp.1.symm.trans e)
   ·rintro ⟨wX,qM,qN,pz,qO,AU,qP,qQ,qR,qU,qV⟩ o h
    unfold dB at h
    dsimp only at h
    refine gs<|gs<|g0 j j (q (oMv j j)<|q (oMv j j)<|q (oNl j j j)<|q (oFA (r':=.mp 0 0 2) j WC j j)<|q (oLd (cs:=[.im 1 _]) j Q7 j j)<|q (jd j j Jj j)<|q (oBi j j j j)<|nl)<|us<|gc h j ak (fun Ep h=>?_) fun Ep h=>?_
    ·refine Go.skip<|us<|gs<|Go.block<|gs<|?_
     obtain ⟨x72,ZT,h⟩:=bs h
     refine g0 j j (q (oMv j j)<|q (oMv j j)<|q (oNl j j j)<|q (oFA (r':=.mp 0 0 4) j yG j j)<|q (oLd (cs:=[.own 0 0 4]) j oz j j)<|q (oMv j j)<|q (oBS (es:=List.map eI ([wX]:List Int)) j eX j (ptC j (fxI fx0) j pt0) (dn j fun _=>j))<|q (xO (en:=eI) (M:=([wX]:List Int)) j ZT j eX j j uG (.inl ⟨_,j⟩) j j j j (kG j j) (dn j fun _=>j))<|q (oNl j j j)<|q (oFA (r':=.mp 0 0 4) j yG j j)<|q (oSt oz j j j (tkO j j tk0) j j j)<|nl)<|us<|gs<|?_
     obtain ⟨x76,TF,h⟩:=bs h
     obtain ⟨⟨uQ,AX,AY,AZ,A7,pF,A8,Ba,Bc,Bd,Be⟩,UT,h⟩:=bs h
     dsimp only at h
     refine gX Tm j j (st1:=mk [(0,M 0),(3,iv wX)] [(0,Od [Ct 1 (W 1 (eL 1 eI) qM),C (I qN),Ct 1 (W 3 aA pz),C (I qO),Z (W 1 eI x72),C (V qP),Z (W 1 eI qQ),C (I qR),C (I qU),C (I qV)])]) (by kernel_rfl) (mk [(0,M 0),(3,iv wX),(4,bv uQ)] [(0,Od [Ct 1 (W 1 (eL 1 eI) AX),C (I AY),Ct 1 (W 3 aA AZ),C (I A7),Z (W 1 eI pF),C (V A8),Z (W 1 eI Ba),C (I Bc),C (I Bd),C (I Be)])]) ?_ ?_
     ·refine xq (oMv j j)<|xq (oCa (xs:=[.v false [.mp 0 0 0]]) (vs:=[(false,[.im 0 _])]) (v:=.v false [.im 0 _]) (EW TF) (.inl j) j XQ j (ppC j pp0) j j pb0 j j j)<|xq (oUn j j j)<|xq (oMv j j)<|?_
      refine ic UT (fun yc UT=>?_) fun yc UT=>?_
      ·obtain ⟨x80,ah3,UT⟩:=bs UT
       cases UT
       exact xqT j j (nF (iR.2 yc)) (oMv j j)<|xqT j j (nF (iR.2 yc)) (oCa (xs:=[.v false [.mp 0 0 0]]) (vs:=[(false,[.im 0 _])]) (v:=.v false [.im 0 _]) (ih ah3) (.inl j) j Py j (aa4 (ob':=⟨0,0,true,true,false,true,[Ct 1 (W 1 (eL 1 eI) qM),C (I qN),Ct 1 (W 3 aA pz),C (I qO),Z (W 1 eI x72),C (V qP),Z (W 1 eI qQ),C (I qR),C (I qU),C (I qV)]⟩) j j j (by kernel_rfl) pp0) j j (aa5 (ob':=⟨0,1,true,true,false,true,[⟨.imm,1,1,W 1 (eL 1 eI) x80.2.pairs⟩,⟨.imm,1,0,I x80.2.faces⟩,⟨.imm,1,1,W 3 aA x80.2.nR⟩,⟨.imm,1,0,I x80.2.least⟩,⟨.sh,1,0,W 1 eI x80.2.shifts⟩,⟨.imm,1,0,V x80.2.first⟩,⟨.sh,1,0,W 1 eI x80.2.best⟩,⟨.imm,1,0,I x80.2.count⟩,⟨.imm,1,0,I x80.2.nodes⟩,⟨.imm,1,0,I x80.2.budget⟩]⟩) j j (by kernel_rfl) pb0) j j j)<|xq (bV j j (nF (iR.2 yc)) j)<|xq (ah j j)<|xn
      ·cases UT
       exact au j j (nT (byF iR yc)) j<|au j j (nT (byF iR yc)) j<|xq (bQ j j (nT (byF iR yc)) j)<|xq (ah j j)<|xn
     ·refine us<|gs<|?_
      obtain ⟨x93,hx93,h⟩:=bs h
      refine gd Tm j j j j (mk [(0,M 0),(3,iv wX),(4,bv uQ)] [(0,Od [Ct 1 (W 1 (eL 1 eI) AX),C (I AY),Ct 1 (W 3 aA AZ),C (I A7),Z (W 1 eI ((pF.take ((w64 ((pF.length:Int) - 1)).toNat)).drop 0)),C (V A8),Z (W 1 eI Ba),C (I Bc),C (I Bd),C (I Be)])]) (t j j (oMv j j)<|t j j (oMv j j)<|t j j (oNl j j j)<|t j j (oFA (r':=.mp 0 0 4) j yG j j)<|t j j (oLd (cs:=[.own 0 0 4]) j oz j j)<|t j j (oMv j j)<|t j j (oNl j j j)<|t j j (oFA (r':=.mp 0 0 4) j yG j j)<|t j j (oLd (cs:=[.own 0 0 4]) j oz j j)<|t j j (Hu j j uG j j j (fun e=>nomatch e))<|t j j (oBi j j j j)<|sS (dN afh j (adV j hx93 eX j j j bn0 (bn1 j) j j j)) trivial (t j j (oNl j j j)<|t j j (oFA (r':=.mp 0 0 4) j yG j j)<|sS (dN afh j (oSt oz j j j (adU j j tk0) j j j)) trivial (sD (by kernel_rfl))))<|us<|gs<|g0 j j (q (oMv j j)<|q (oUn j j j)<|nl)<|us<|?_
      by_cases hc16:uQ=true
      ·rw [if_pos hc16] at h
       refine gF j (nF (iR.2 hc16))<|Go.skip<|Unw.blk<|us<|g0 j j (q (oMv j j)<|q (oBi j j j j)<|q (ah j j)<|nl)<|Unw.nil<|?_
       cases h
       exact ⟨j,(by kernel_rfl)⟩
      ·rw [if_neg hc16] at h
       refine gT j (nT (byF iR hc16))<|gs<|g0 j j (q (ah j j)<|nl)<|us<|Go.ret (Unw.ret ?_)
       cases h
       exact ⟨j,(fo WR j)⟩
    ·refine Go.exit<|ux<|Unw.nil<|?_
     cases h
     exact ⟨j,(by kernel_rfl)⟩
   ·rintro ⟨e,st⟩ hp
    rcases o with ⟨wY,wZ,xe,xg,xh,xk,xm,xu,xw,xx⟩ | r2
    ·dsimp only at h
     obtain ⟨he,hst⟩:=hp
     obtain rfl:e= .exit 0:=he
     refine Unw.lq<|us<|gs<|g2 Tm j j hst (q (ah j j)<|nl)<|us<|Go.ret (Unw.ret ?_)
     cases h
     exact fr WR j
    ·dsimp only at h
     obtain ⟨he,hfin⟩:=hp
     obtain rfl:e= .ret:=he
     cases h
     exact Unw.ret (jl hfin)
theorem EC {x_0:aZ} {r:(Bool×aZ)} (h:dL x_0=some r):FX 112 [.ptr true [(.imm,W 1 (eL 1 eI) x_0.pairs),(.imm,I x_0.faces),(.imm,W 3 aA x_0.nR),(.imm,I x_0.least),(.sh,W 1 eI x_0.shifts),(.imm,V x_0.first),(.sh,W 1 eI x_0.best),(.imm,I x_0.count),(.imm,I x_0.nodes),(.imm,I x_0.budget)]] ([(false,[.im 0 (V r.1)])],[.ptr true [(.imm,W 1 (eL 1 eI) r.2.pairs),(.imm,I r.2.faces),(.imm,W 3 aA r.2.nR),(.imm,I r.2.least),(.sh,W 1 eI r.2.shifts),(.imm,V r.2.first),(.sh,W 1 eI r.2.best),(.imm,I r.2.count),(.imm,I r.2.nodes),(.imm,I r.2.budget)]]):=by
 unfold dL at h
 obtain ⟨n,hn⟩:=CZ h
 clear h
 induction n generalizing x_0 r with
 | zero=>cases hn
 | succ n ihn=>exact CJ (self:=yK _ n) (fun h=>ihn h) hn
theorem OD {d_0:aB} {cO:(List aF)} {fF:Int} {dI:Int} {BU:Bool} {r:((Option aZ)×Int)} (h:yQ d_0 cO fF dI BU=some r):FX 55 [.im 2 false [.cp (aJ d_0) 0],.im 2 false [W 3 aA cO],.im 2 false [I fF],.im 2 false [I dI],.im 2 false [V BU]] (B0 [(false,[.im (bU 2 (eO jK r.1)) (eO jK r.1)]),(false,[.im 0 (I r.2)])]):=by
 unfold yQ at h
 refine gn 51 Try.func55 rfl ?_
 refine gs<|g0 j j (q (ah j j)<|q (ah j j)<|nl)<|us<|gs<|gs<|?_
 obtain ⟨x14,BH,h⟩:=bs h
 obtain ⟨QJ,hm7,h⟩:=bs h
 refine gX c55 j j j (mk [(0,D 2 (.cp (aJ d_0) 0)),(1,D 2 (W 3 aA cO)),(2,iv fF),(3,iv dI),(4,bv BU),(20,bv QJ)] []) ?_ ?_
 ·refine xq (oMv j j)<|xq (oCa (xs:=[.v false [.im 2 _]]) (vs:=[(false,[.im 0 _])]) (v:=.v false [.im 0 _]) (Jl BH) (.inl j) j WI j (ppC j pp0) j j pb0 j j j)<|xq (oUn j j j)<|xq (oMv j j)<|?_
  refine ic hm7 (fun hc1 hm7=>?_) fun hc1 hm7=>?_
  ·obtain ⟨x18,FQ,hm7⟩:=bs hm7
   cases hm7
   exact xqT j j (nF (iR.2 hc1)) (oMv j j)<|xqT j j (nF (iR.2 hc1)) (oCa (xs:=[.v false [.im 2 _]]) (vs:=[(false,[.im 0 _])]) (v:=.v false [.im 0 _]) (yj FQ) (.inl j) j Nw j (ppC j pp0) j j pb0 j j j)<|xqT j j (nF (iR.2 hc1)) (oUn j j j)<|xq (bV j j (nF (iR.2 hc1)) j)<|xn
  ·cases hm7
   exact au j j (nT (byF iR hc1)) j<|au j j (nT (byF iR hc1)) j<|au j j (nT (byF iR hc1)) j<|xq (bQ j j (nT (byF iR hc1)) j)<|xn
 ·refine us<|gc h j iR (fun hc2 h=>?_) fun hc2 h=>?_
  ·refine gs<|g0 j j (q (ah j j)<|q (ah j j)<|nl)<|us<|Go.ret (Unw.ret ?_)
   cases h
   exact fr acp j
  ·refine Go.skip<|us<|gs<|gs<|?_
   obtain ⟨x22,KQ,h⟩:=bs h
   obtain ⟨QK,hm6,h⟩:=bs h
   refine gX c55 j j j (mk [(0,D 2 (.cp (aJ d_0) 0)),(1,D 2 (W 3 aA cO)),(2,iv fF),(3,iv dI),(4,bv BU),(28,bv QK)] []) ?_ ?_
   ·refine xq (oMv j j)<|xq (oCa (xs:=[.v false [.im 0 _],.v false [.im 0 _],.v false [.im 0 _]]) (vs:=[(false,[.im 0 _])]) (v:=.v false [.im 0 _]) (fH KQ) (.inl j) j iU j (ppC j (ppC j (ppC j pp0))) j j pb0 j j j)<|xq (oUn j j j)<|xq (oMv j j)<|?_
    refine ic hm6 (fun hc3 hm6=>?_) fun hc3 hm6=>?_
    ·obtain ⟨x26,Rf,hm6⟩:=bs hm6
     cases hm6
     exact xqT j j (nF (iR.2 hc3)) (oMv j j)<|xqT j j (nF (iR.2 hc3)) (oCa (xs:=[.v false [.im 0 _],.v false [.im 0 _],.v false [.im 0 _]]) (vs:=[(false,[.im 0 _])]) (v:=.v false [.im 0 _]) (fH Rf) (.inl j) j iU j (ppC j (ppC j (ppC j pp0))) j j pb0 j j j)<|xqT j j (nF (iR.2 hc3)) (oUn j j j)<|xq (bV j j (nF (iR.2 hc3)) j)<|xn
    ·cases hm6
     exact au j j (nT (byF iR hc3)) j<|au j j (nT (byF iR hc3)) j<|au j j (nT (byF iR hc3)) j<|xq (bQ j j (nT (byF iR hc3)) j)<|xn
   ·refine us<|gc h j iR (fun hc4 h=>?_) fun hc4 h=>?_
    ·refine gs<|g0 j j (q (ah j j)<|q (ah j j)<|nl)<|us<|Go.ret (Unw.ret ?_)
     cases h
     exact fr acp j
    ·refine Go.skip<|us<|gs<|?_
     obtain ⟨x30,JS,h⟩:=bs h
     refine gd c55 j j j j (mk [(3,iv dI),(12,M 41)] [(41,Oa [Z (W 1 (eL 1 eI) x30),C (I (d_0.ai.length:Int)),Ct 2 (W 3 aA cO),C (I fF),Z (W 1 eI ([]:List Int)),C (V BU),Z (W 1 eI ([]:List Int)),C (I 0),C (I 0),C (I dI)])]) (t j j (oMv j j)<|t j j (oMv j j)<|t j j (oNl j j j)<|t j j (oFA (r':=.im 2 _) j gU j j)<|t j j (oLd (cs:=[.im 2 _]) j qw j j)<|t j j (jd j j Eo j)<|t j j (oMv j j)<|t j j (oMv j j)<|t j j (oMv j j)<|t j j (oMv j j)<|sS (dN z55 j (oCr (xs:=[.v false [.im 2 _]]) (vs:=[(false,[.own 30 0 0])]) (v:=.v false [.own 30 0 0]) (c:=⟨.sh,0,_⟩) (cs:=[]) (Le JS) (.inl j) j Zu j (ppC j pp0) j j pb0 j j j)) trivial (sS (dN z55 j (oBu (cs:=[.own 30 0 0,.im 0 _,.im 2 _,.im 0 _,.nil,.im 0 _,.nil,.im 0 _,.im 0 _,.im 0 _]) j afq j)) trivial (sS (dN z55 j (oBx j agh j (tkO j j (tkI (tkI (tkI (tkN (tkI (tkN (tkI (tkI (tkI tk0)))))))))))) trivial (sS (dN z55 j (Um j j)) trivial (sD (by kernel_rfl))))))<|us<|gs<|?_
     obtain ⟨x43,FW,h⟩:=bs h
     refine g0 j j (q (oMv j j)<|q (oCa (xs:=[.v false [.mp 41 0 0]]) (vs:=[(false,[.im 0 _])]) (v:=.v false [.im 0 _]) (EC FW) (.inl j) j Py j (aa4 (ob':=⟨0,0,false,true,false,true,[C (W 1 (eL 1 eI) x30),C (I (d_0.ai.length:Int)),Ct 2 (W 3 aA cO),C (I fF),Z (W 1 eI ([]:List Int)),C (V BU),Z (W 1 eI ([]:List Int)),C (I 0),C (I 0),C (I dI)]⟩) j j j (by kernel_rfl) pp0) j j (aa5 (ob':=⟨0,1,false,true,false,true,[⟨.imm,1,2,W 1 (eL 1 eI) x43.2.pairs⟩,⟨.imm,1,0,I x43.2.faces⟩,⟨.imm,1,2,W 3 aA x43.2.nR⟩,⟨.imm,1,0,I x43.2.least⟩,⟨.sh,1,0,W 1 eI x43.2.shifts⟩,⟨.imm,1,0,V x43.2.first⟩,⟨.sh,1,0,W 1 eI x43.2.best⟩,⟨.imm,1,0,I x43.2.count⟩,⟨.imm,1,0,I x43.2.nodes⟩,⟨.imm,1,0,I x43.2.budget⟩]⟩) j j (by kernel_rfl) pb0) j j j)<|nl)<|us<|gs<|gs<|g1 j j (mk [(3,iv dI),(12,M 41)] [(41,Oa [Ct 2 (W 1 (eL 1 eI) x43.2.pairs),C (I x43.2.faces),Ct 2 (W 3 aA x43.2.nR),C (I x43.2.least),Z (W 1 eI x43.2.shifts),C (V x43.2.first),Z (W 1 eI x43.2.best),C (I x43.2.count),C (I x43.2.nodes),C (I x43.2.budget)])]) (q (oMv j j)<|q (oNl j j j)<|q (oFA (r':=.mp 41 0 8) j LH j j)<|q (oLd (cs:=[.im 0 _]) j tF2 j j)<|q (oMv j j)<|q (oBi j j j j)<|nl)<|us<|gc h j ak (fun hc5 h=>?_) fun hc5 h=>?_
     ·refine gs<|g0 j j (q (ah j j)<|q (ah j j)<|nl)<|us<|Go.ret (Unw.ret ?_)
      cases h
      exact fr acp j
     ·refine Go.skip<|us<|gs<|g0 j j (q (oMv j j)<|q (Um j j)<|q (ah j j)<|nl)<|us<|Go.ret (Unw.ret ?_)
      cases h
      exact fr acp j
theorem Iy {d_0:aB} {cO:(List aF)} {fF:Int} {dI:Int} {r:((List Int)×Int)} (h:qm d_0 cO fF dI=some r):FX 18 [.im 2 true (aJ d_0),.im 2 false [W 3 aA cO],.im 2 false [I fF],.im 2 false [I dI]] (B0 [(false,[.ow 0 1 (List.map eI r.1)]),(false,[.im 0 (I r.2)])]):=by
 unfold qm at h
 refine gn 32 Try.func18 rfl ?_
 refine gs<|g0 j j (sqf z18 j (oBx j jX j (tkI (tkI (tkI (tkI tk0))))) (ag5 j j j j)<|sqn z18 j (Cc j j QM)<|sqn z18 j (ah j j)<|nl)<|us<|gs<|?_
 obtain ⟨x16,hx16,h⟩:=bs h
 refine g1 j j (mk [(1,D 2 (W 3 aA cO)),(2,iv fF),(3,iv dI),(4,D 2 (.cp (aJ d_0) 0))] []) (sqn z18 j (oMv j j)<|sqn z18 j (oMv j j)<|sqn z18 j (oMv j j)<|sqn z18 j (oCa (xs:=[.v false [.im 2 _],.v false [.im 2 _],.v false [.im 0 _],.v false [.im 0 _],.v false [.im 0 _]]) (vs:=[(false,[.im (bU 2 (eO jK x16.1)) (eO jK x16.1)]),(false,[.im 0 (I x16.2)])]) (v:=.tup [(false,[.im _ _]),(false,[.im 0 _])]) (OD hx16) (.inl j) j JP j (ppC j (ppC j (ppC j (ppC j (ppC j pp0))))) j j pb0 j (by cases x16.1<;>kernel_rfl) j)<|sqn z18 j (KL j j)<|sqn z18 j (oEx j j j)<|sqn z18 j (oEx j j j)<|sqn z18 j (ah j j)<|sqn z18 j (ah j j)<|nl)<|us<|gs<|gs<|g0 j j (sqn z18 j (oMv j j)<|sqn z18 j (oBi j j j j)<|nl)<|us<|gc h j iNe (fun hc1 h=>?_) fun hc1 h=>?_
 ·refine gs<|g0 j j (sqn z18 j (oMv j j)<|sqn z18 j (Cc j j QM)<|sqn z18 j (ah j j)<|nl)<|us<|Go.ret (Unw.ret ?_)
  cases h
  exact fr aee j
 ·refine Go.skip<|us<|gs<|gs<|?_
  revert h
  cases x16.1 with
  | none=>
   intro h
   cases h
  | some QE=>
   intro h
   refine g0 j j (sqn z18 j (oMv j j)<|sqn z18 j (oNl j j j)<|sqn z18 j (oFA (r':=.im _ _) j LG j j)<|sqn z18 j (oLd (cs:=[.im _ _]) j tF2 j j)<|sqn z18 j (oBi j j j j)<|nl)<|us<|gc h j iEq (fun hc3 h=>?_) fun hc3 h=>?_
   ·refine gs<|g0 j j (sqn z18 j (Cc j j QM)<|sqn z18 j (ah j j)<|nl)<|us<|Go.ret (Unw.ret ?_)
    cases h
    exact fr aee j
   ·refine Go.skip<|us<|gs<|?_
    obtain ⟨x31,hx31,h⟩:=bs h
    refine g0 j j (sqn z18 j (oMv j j)<|sqn z18 j (oNl j j j)<|sqn z18 j (oFA (r':=.im _ _) j WE j j)<|sqn z18 j (oLd (cs:=[.im _ _]) j oz j j)<|sqn z18 j (oCr (xs:=[.v false [.im _ _]]) (vs:=[(false,[.own 31 0 0])]) (v:=.v false [.own 31 0 0]) (c:=⟨.sh,0,_⟩) (cs:=[]) (GR hx31) (.inl j) j WN j (ppC j pp0) j j pb0 j j j)<|sqn z18 j (oZ j j j j j)<|sqn z18 j (ah j j)<|nl)<|us<|Go.ret (Unw.ret ?_)
    cases h
    exact fr aee j
theorem Iz {d_0:aB} {cO:(List aF)} {fF:Int} {dI:Int} {r:(Int×Int)} (h:ja d_0 cO fF dI=some r):FX 19 [.im 2 true (aJ d_0),.im 2 false [W 3 aA cO],.im 2 false [I fF],.im 2 false [I dI]] (B0 [(false,[.im 0 (I r.1)]),(false,[.im 0 (I r.2)])]):=by
 unfold ja at h
 refine gn 27 Try.func19 rfl ?_
 refine gs<|g0 j j (q (oBx j jX j (tkI (tkI (tkI (tkI tk0)))))<|q (ah j j)<|q (ah j j)<|nl)<|us<|gs<|?_
 obtain ⟨x17,FT,h⟩:=bs h
 refine g0 j j (q (oLd (cs:=[.im 0 _,.im 0 _,.im 2 _,.im 2 _]) j jX j j)<|q (oMv j j)<|q (oMv j j)<|q (oMv j j)<|q (oCa (xs:=[.v true [.im 0 _,.im 0 _,.im 2 _,.im 2 _],.v false [.im 2 _],.v false [.im 2 _],.v false [.im 2 _],.v false [.im 0 _]]) (vs:=[(false,[.im 0 (eO rF x17.1)]),(false,[.im 0 (I x17.2)])]) (v:=.tup [(false,[.im 0 _]),(false,[.im 0 _])]) (zi FT) (.inl j) j DF j (ppC j (ppC j (ppC j (ppC j (ppC j pp0))))) j j pb0 j (by cases x17.1<;>kernel_rfl) j)<|q (KL j j)<|q (oEx j j j)<|q (oEx j j j)<|q (ah j j)<|q (ah j j)<|nl)<|us<|gs<|gs<|g0 j j (q (oMv j j)<|q (oBi j j j j)<|nl)<|us<|gc h j iNe (fun hc1 h=>?_) fun hc1 h=>?_
 ·refine gs<|g0 j j (q (oMv j j)<|q (ah j j)<|q (ah j j)<|nl)<|us<|Go.ret (Unw.ret ?_)
  cases h
  exact fr af4 j
 ·refine Go.skip<|us<|gs<|?_
  revert h
  cases x17.1 with
  | none=>
   intro h
   cases h
  | some QE=>
   intro h
   refine g0 j j (q (oMv j j)<|q (oNl j j j)<|q (oFA (r':=.im 0 _) j Nv j j)<|q (oLd (cs:=[.im 0 _]) j tF2 j j)<|q (ah j j)<|q (ah j j)<|nl)<|us<|Go.ret (Unw.ret ?_)
   cases h
   exact fr af4 j
theorem EX {s_0:Int} {Ed:(List aF)} {Ux:(List Int)} {r:Bool} (h:iF s_0 Ed Ux=some r):FX 113 [.im 2 false [I s_0],.im 2 false [.cp [W 3 aA Ed,W 1 eI Ux] 0]] (B0 [(false,[.im 0 (V r)])]):=by
 unfold iF at h
 refine gn 11 Try.func113 rfl ?_
 refine gs<|g0 j j (q (ah j j)<|nl)<|us<|gs<|?_
 obtain ⟨x9,hx9,h⟩:=bs h
 refine g0 j j (q (oMv j j)<|q (oFA (r':=.im 2 _) j JM j j)<|q (oLd (cs:=[.im 2 _]) j Q7 j j)<|q (jd j j Jj j)<|q (oBi j j j j)<|q (oCa (xs:=[.v false [.im 2 _],.v false [.im 0 _],.v false [.im 0 _]]) (vs:=[(false,[.im 0 _])]) (v:=.v false [.im 0 _]) (dD hx9) (.inl j) j fO j (ppC j (ppC j (ppC j pp0))) j j pb0 j j j)<|q (oUn j j j)<|q (ah j j)<|nl)<|us<|Go.ret (Unw.ret ?_)
 cases h
 exact fr afD j
theorem vH {s_0:(List Int)} {qW:(List aF)} {ED:(List Int)} {r:Int} (h:jr s_0 (fun b0=>iF b0 qW ED)=some r):FX 98 [.im 2 false [W 1 eI s_0],.im 2 false [.clo 113 [.cp [W 3 aA qW,W 1 eI ED] 0]]] (B0 [(false,[.im 0 (I r)])]):=by
 unfold jr at h
 refine gn 19 Try.func98 rfl ?_
 refine gs<|g0 j j (q (ah j j)<|nl)<|us<|gs<|gs<|g0 j j (q (oMv j j)<|q (jd j j uG j)<|q (oMv j j)<|nl)<|us<|Go.block<|?_
 obtain ⟨o,hl,h⟩:=bs h
 refine gl c98 j _ (fun (fK:Int)=>mk [(0,D 2 (W 1 eI s_0)),(1,D 2 (.clo 113 [.cp [W 3 aA qW,W 1 eI ED] 0])),(7,iv (s_0.length:Int)),(8,iv fK)] []) (fun (o:(Unit ⊕ Int)) (p:Ex×St)=>match o with | (.inl _)=>p.1= .exit 0∧p.2.norm ([],[])=mk [] [] | (.inr r2)=>p.1= .ret∧fin Try.prog cfg 98 Try.f98 [.im 2 false [W 1 eI s_0],.im 2 false [.clo 113 [.cp [W 3 aA qW,W 1 eI ED] 0]]] p.2=some (B0 [(false,[.im 0 (I r2)])])) hl (by kernel_rfl) ?_ ?_ ?_
 ·intro o p hp e
  rcases o with u | r2<;>exact nomatch (hp.1.symm.trans e)
 ·rintro fK o h
  unfold fZ at h
  refine gs<|g0 j j (q (oBi j j j j)<|nl)<|us<|gs<|gc h j ak (fun hc5 h=>?_) fun hc5 h=>?_
  ·refine Go.skip<|us<|gs<|Go.block<|gs<|g0 j j (q (oMv j j)<|q (ah j j)<|nl)<|us<|gs<|?_
   obtain ⟨x14,BH,h⟩:=bs h
   obtain ⟨x16,hx16,h⟩:=bs h
   refine g0 j j (q (oMv j j)<|q (oMv j j)<|q (oMv j j)<|q (gZ j BH eX j j)<|q (oLd (cs:=[.im 2 _]) j tF2 j j)<|q (oCa (xs:=[.v false [.im 2 _],.v false [.im 2 _]]) (vs:=[(false,[.im 0 _])]) (v:=.v false [.im 0 _]) (EX hx16) (.inr ⟨_,_,j,j⟩) j XM j (ppC j (ppC j pp0)) j j pb0 j j j)<|nl)<|us<|gc h j iR (fun hc6 h=>?_) fun hc6 h=>?_
   ·refine gs<|g0 j j (q (oMv j j)<|q (ah j j)<|nl)<|us<|Go.ret (Unw.ret ?_)
    cases h
    exact ⟨j,(fo agf j)⟩
   ·refine Go.skip<|Unw.blk<|us<|g0 j j (q (oBi j j j j)<|q (oMv j j)<|nl)<|Unw.nil<|?_
    cases h
    exact ⟨j,(by kernel_rfl)⟩
  ·refine Go.exit<|ux<|Unw.nil<|?_
   cases h
   exact ⟨j,(by kernel_rfl)⟩
 ·rintro ⟨e,st⟩ hp
  rcases o with u | r2
  ·dsimp only at h
   obtain ⟨he,hst⟩:=hp
   obtain rfl:e= .exit 0:=he
   refine Unw.lq<|us<|gs<|g2 c98 j j hst (q (ah j j)<|nl)<|us<|Go.ret (Unw.ret ?_)
   cases h
   exact fr agf j
  ·dsimp only at h
   obtain ⟨he,hfin⟩:=hp
   obtain rfl:e= .ret:=he
   cases h
   exact Unw.ret (jl hfin)
theorem uz {s_0:(List Int)} {qW:(List aF)} {ED:(List Int)} {r:Bool} (h:gm s_0 (fun b0=>iF b0 qW ED)=some r):FX 46 [.im 2 false [W 1 eI s_0],.im 2 false [.clo 113 [.cp [W 3 aA qW,W 1 eI ED] 0]]] (B0 [(false,[.im 0 (V r)])]):=by
 unfold gm at h
 refine gn 9 Try.func46 rfl ?_
 refine gs<|g0 j j (q (ah j j)<|nl)<|us<|gs<|?_
 obtain ⟨x7,hx7,h⟩:=bs h
 refine g0 j j (q (oMv j j)<|q (oMv j j)<|q (oCa (xs:=[.v false [.im 2 _],.v false [.im 2 _]]) (vs:=[(false,[.im 0 _])]) (v:=.v false [.im 0 _]) (vH hx7) (.inl j) j UM j (ppC j (ppC j pp0)) j j pb0 j j j)<|q (oBi j j j j)<|q (ah j j)<|nl)<|us<|Go.ret (Unw.ret ?_)
 cases h
 exact fr ahy j
theorem IA {p_0:jO} {r:Bool} (h:qo p_0=some r):FX 57 [.im 2 true (fM p_0)] (B0 [(false,[.im 0 (V r)])]):=by
 unfold qo at h
 refine gn 18 Try.func57 rfl ?_
 refine gs<|g0 j j (q (oBx j TB j (tkI (tkI tk0)))<|q (ah j j)<|nl)<|us<|gs<|gs<|?_
 obtain ⟨x5,hx5,h⟩:=bs h
 refine gX c57 j j j (mk [(1,M 1),(12,bv ((!x5)||(decide ((p_0.Shifts.length:Int) >24))))] [(1,Oa (G 2 (fM p_0)))]) ?_ ?_
 ·refine xq (oFA (r':=.mp 1 0 0) j JM j j)<|xq (oLd (cs:=[.im 2 _]) j Q7 j j)<|xq (oCa (xs:=[.v false [.im 2 _]]) (vs:=[(false,[.im 0 _])]) (v:=.v false [.im 0 _]) (Bq hx5) (.inl j) j Tq j (ppC j pp0) j j pb0 j j j)<|xq (oUn j j j)<|xq (oMv j j)<|?_
  by_cases hc1:x5=true
  ·exact xqT rfl rfl (nF (iR.2 hc1)) (oFA (r':=.mp 1 0 1) rfl JO rfl rfl)<|xqT rfl rfl (nF (iR.2 hc1)) (oLd (cs:=[.im 2 _]) rfl oz rfl rfl)<|xqT rfl rfl (nF (iR.2 hc1)) (jd rfl rfl uG rfl)<|xqT rfl rfl (nF (iR.2 hc1)) (oBi rfl rfl rfl rfl)<|xq (bV rfl rfl (nF (iR.2 hc1)) rfl)<|xn (Eq.trans (b:=(fun EE:Bool=>mk [(1,M 1),(12,bv EE)] [(1,Oa (G 2 (fM p_0)))]) (decide ((p_0.Shifts.length:Int) >24))) (by kernel_rfl) (congrArg (fun EE:Bool=>mk [(1,M 1),(12,bv EE)] [(1,Oa (G 2 (fM p_0)))]) (by first | rfl | (simp [(iR.2 hc1)];done) | (simp [(iR.2 hc1)];omega))))
  ·exact au rfl rfl (nT (byF iR hc1)) rfl<|au rfl rfl (nT (byF iR hc1)) rfl<|au rfl rfl (nT (byF iR hc1)) rfl<|au rfl rfl (nT (byF iR hc1)) rfl<|xq (bQ rfl rfl (nT (byF iR hc1)) rfl)<|xn (Eq.trans (b:=(fun EE:Bool=>mk [(1,M 1),(12,bv EE)] [(1,Oa (G 2 (fM p_0)))]) true) (by kernel_rfl) (congrArg (fun EE:Bool=>mk [(1,M 1),(12,bv EE)] [(1,Oa (G 2 (fM p_0)))]) (by first | rfl | (simp [(byF iR hc1)];done) | (simp [(byF iR hc1)];omega))))
 ·refine us<|gc h j (iOr (aha iR) ak) (fun hc2 h=>?_) fun hc2 h=>?_
  ·refine gs<|g0 j j (q (ah j j)<|nl)<|us<|Go.ret (Unw.ret ?_)
   cases h
   exact fr agb j
  ·refine Go.skip<|us<|gs<|?_
   obtain ⟨x16,hx16,h⟩:=bs h
   refine g0 j j (q (oFA (r':=.mp 1 0 1) j JO j j)<|q (oLd (cs:=[.im 2 _]) j oz j j)<|q (oMF (rs:=[.mp 1 0 0]) j j)<|q (oCa (xs:=[.v false [.im 2 _],.fn 113 [.mp 1 0 0]]) (vs:=[(false,[.im 0 _])]) (v:=.v false [.im 0 _]) (uz hx16) (.inl j) j UF j (ppC j (ppC j pp0)) j j pb0 j j j)<|q (oUn j j j)<|q (ah j j)<|nl)<|us<|Go.ret (Unw.ret ?_)
   cases h
   exact fr agb j
theorem Gf {d_0:aB} {p_1:jO} {r:(Int×Int)} (h:oq d_0 p_1=some r):FX 20 [.im 2 true (aJ d_0),.im 2 true (fM p_1)] (B0 [(false,[.im 0 (I r.1)]),(false,[.im 0 (I r.2)])]):=by
 unfold oq at h
 refine gn 82 Try.func20 rfl ?_
 refine gs<|g0 j j (q (oBx j jX j (tkI (tkI (tkI (tkI tk0)))))<|q (oBx j TB j (tkI (tkI tk0)))<|q (ah j j)<|q (ah j j)<|nl)<|us<|gs<|Go.block<|gs<|?_
 obtain ⟨x16,hx16,h⟩:=bs h
 obtain ⟨qL,UU,h⟩:=bs h
 refine gX c20 j j j (mk [(2,M 2),(3,M 3),(14,bv qL)] [(2,Oa (G 2 (aJ d_0))),(3,Oa (G 2 (fM p_1)))]) ?_ ?_
 ·refine xq (oLd (cs:=[.im 0 _,.im 0 _,.im 2 _,.im 2 _]) j jX j j)<|xq (oCa (xs:=[.v true [.im 0 _,.im 0 _,.im 2 _,.im 2 _]]) (vs:=[(false,[.im 0 _])]) (v:=.v false [.im 0 _]) (zh hx16) (.inl j) j WL j (ppC j pp0) j j pb0 j j j)<|xq (oUn j j j)<|xq (oMv j j)<|?_
  refine ic UU (fun hc1 UU=>?_) fun hc1 UU=>?_
  ·obtain ⟨x20,JX,UU⟩:=bs UU
   cases UU
   exact xqT j j (nF (iR.2 hc1)) (oLd (cs:=[.im 2 _,.im 2 _]) j TB j j)<|xqT j j (nF (iR.2 hc1)) (oCa (xs:=[.v true [.im 2 _,.im 2 _]]) (vs:=[(false,[.im 0 _])]) (v:=.v false [.im 0 _]) (IA JX) (.inl j) j acd j (ppC j pp0) j j pb0 j j j)<|xqT j j (nF (iR.2 hc1)) (oUn j j j)<|xq (bV j j (nF (iR.2 hc1)) j)<|xq (ah j j)<|xn
  ·cases UU
   exact au j j (nT (byF iR hc1)) j<|au j j (nT (byF iR hc1)) j<|au j j (nT (byF iR hc1)) j<|xq (bQ j j (nT (byF iR hc1)) j)<|xq (ah j j)<|xn
 ·refine us<|gc h j iR (fun hc2 h=>?_) fun hc2 h=>?_
  ·refine gs<|g0 j j (q (ah j j)<|q (ah j j)<|nl)<|us<|Go.ret (Unw.ret ?_)
   cases h
   exact fr acm j
  ·refine gs<|g0 j j (q (oFA (r':=.mp 2 0 3) j gU j j)<|q (oLd (cs:=[.im 2 _]) j qw j j)<|q (jd j j Eo j)<|q (oFA (r':=.mp 3 0 1) j JO j j)<|q (oLd (cs:=[.im 2 _]) j oz j j)<|q (jd j j uG j)<|q (oBi j j j j)<|q (ah j j)<|nl)<|us<|gc h j iNe (fun hc3 h=>?_) fun hc3 h=>?_
   ·refine gs<|g0 j j (q (ah j j)<|q (ah j j)<|nl)<|us<|Go.ret (Unw.ret ?_)
    cases h
    exact fr acm j
   ·refine Go.skip<|Unw.blk<|us<|gs<|?_
    obtain ⟨x33,UQ,h⟩:=bs h
    refine gd c20 j j j j (mk [(2,M 2),(3,M 3),(6,H 6 0),(7,iv (p_1.qI.length:Int)),(8,iv (-1))] [(2,Oa (G 2 (aJ d_0))),(3,Oa (G 2 (fM p_1))),(6,Oc [Z (W 1 eI x33)])]) (t j j (oFA (r':=.mp 3 0 0) j JM j j)<|t j j (oLd (cs:=[.im 2 _]) j Q7 j j)<|sK (O:=[3]) j j j (dN z20 j (oFA (r':=.mp 3 0 0) j JM j j))<|sK (O:=[3]) j j j (dN z20 j (oLd (cs:=[.im 2 _]) j Q7 j j))<|t j j (jd j j Jj j)<|sS (dN z20 j (oCr (xs:=[.v false [.im 2 _]]) (vs:=[(false,[.own 33 0 0])]) (v:=.v false [.own 33 0 0]) (c:=⟨.sh,0,_⟩) (cs:=[]) (xH UQ) (.inl j) j WO j (ppC j pp0) j j pb0 j j j)) (kY ⟨j,trivial⟩ (kY ⟨j,trivial⟩ trivial)) (sS (dN z20 j (oZ j j j j j)) (kY ⟨j,trivial⟩ (kY ⟨j,trivial⟩ trivial)) (sS (dN z20 j (ah j j)) (kN j (kN j trivial)) (sS (dN z20 j (ah j j)) (kN j (kN j trivial)) (sD (by kernel_rfl))))))<|us<|gs<|gs<|?_
    obtain ⟨x38,hx38,h⟩:=bs h
    refine g0 j j (q (oLd (cs:=[.im 0 _,.im 0 _,.im 2 _,.im 2 _]) j jX j j)<|q (oCa (xs:=[.v true [.im 0 _,.im 0 _,.im 2 _,.im 2 _]]) (vs:=[(false,[.im 0 _])]) (v:=.v false [.im 0 _]) (BX hx38) (.inl j) j WM j (ppC j pp0) j j pb0 j j j)<|q (jd j j acu j)<|q (oMv j j)<|nl)<|us<|Go.block<|?_
    obtain ⟨o,hl,h⟩:=bs h
    refine gl c20 j _ (fun (s:(Int×Int))=>match s with | (Bf,jf)=>mk [(3,M 3),(6,H 6 0),(7,iv (p_1.qI.length:Int)),(8,iv Bf),(38,D 0 (W 1 (eL 1 eI) x38)),(39,iv (x38.length:Int)),(40,iv jf)] [(3,Oa (G 2 (fM p_1))),(6,Oc [Z (W 1 eI x33)])]) (fun (xy:Int) (p:Ex×St)=>p.1= .exit 1∧p.2.norm ([8],[])=mk [(8,iv xy)] []) hl (by kernel_rfl) ?_ ?_ ?_
    ·intro o p hp e
     exact nomatch (hp.1.symm.trans e)
    ·rintro ⟨Bf,jf⟩ o h
     unfold iH at h
     dsimp only at h
     refine gs<|g0 j j (q (oBi j j j j)<|nl)<|us<|gs<|gc h j ak (fun hc19 h=>?_) fun hc19 h=>?_
     ·refine Go.skip<|us<|gs<|Go.block<|gs<|?_
      obtain ⟨x43,FW,h⟩:=bs h
      refine g0 j j (q (oMv j j)<|q (gZ j FW JQ j j)<|q (oLd (cs:=[.im 0 _]) j oz j j)<|q (ah j j)<|q (ah j j)<|nl)<|us<|gs<|g0 j j (q (oMv j j)<|q (jd j j uG j)<|q (oMv j j)<|nl)<|us<|Go.block<|?_
      obtain ⟨o,hl,h⟩:=bs h
      refine gl c20 j _ (fun (s:(Int×Int))=>match s with | (gu,lQ)=>mk [(3,M 3),(6,H 6 0),(7,iv (p_1.qI.length:Int)),(8,iv gu),(9,iv jf),(38,D 0 (W 1 (eL 1 eI) x38)),(39,iv (x38.length:Int)),(40,iv jf),(45,D 0 (W 1 eI x43)),(46,iv (x43.length:Int)),(47,iv lQ)] [(3,Oa (G 2 (fM p_1))),(6,Oc [Z (W 1 eI x33)])]) (fun (yF:Int) (p:Ex×St)=>p.1= .exit 3∧p.2.norm ([3,6,7,8,38,39,40],[3,6])=mk [(3,M 3),(6,H 6 0),(7,iv (p_1.qI.length:Int)),(8,iv yF),(38,D 0 (W 1 (eL 1 eI) x38)),(39,iv (x38.length:Int)),(40,iv jf)] [(3,Oa (G 2 (fM p_1))),(6,Oc [Z (W 1 eI x33)])]) hl (by kernel_rfl) ?_ ?_ ?_
      ·intro o p hp e
       exact nomatch (hp.1.symm.trans e)
      ·rintro ⟨gu,lQ⟩ o h
       unfold ik at h
       dsimp only at h
       refine gs<|g0 j j (q (oBi j j j j)<|nl)<|us<|gs<|gc h j ak (fun DJ h=>?_) fun DJ h=>?_
       ·refine Go.skip<|us<|gs<|Go.join (fun st=>∃yR,jV lQ yR=some o∧st.norm ([3,6,7,8,9,38,39,40,45,46,47],[3,6])=mk [(3,M 3),(6,H 6 0),(7,iv (p_1.qI.length:Int)),(8,iv yR),(9,iv jf),(38,D 0 (W 1 (eL 1 eI) x38)),(39,iv (x38.length:Int)),(40,iv jf),(45,D 0 (W 1 eI x43)),(46,iv (x43.length:Int)),(47,iv lQ)] [(3,Oa (G 2 (fM p_1))),(6,Oc [Z (W 1 eI x33)])]) ?_ ?_
        ·rintro st ⟨yR,h,hst⟩
         unfold jV at h
         refine us<|g2 c20 j j hst (q (oBi j j j j)<|q (oMv j j)<|nl)<|Unw.nil<|?_
         cases h
         exact ⟨j,(by kernel_rfl)⟩
        ·intro K29
         refine Go.block<|gs<|?_
         obtain ⟨x49,KT,h⟩:=bs h
         refine g0 j j (q (gZ j KT eX j j)<|q (oLd (cs:=[.im 0 _]) j tF2 j j)<|q (ah j j)<|nl)<|us<|gs<|?_
         obtain ⟨x55,ah4,h⟩:=bs h
         obtain ⟨x60,OA,h⟩:=bs h
         obtain ⟨x66,aes,h⟩:=bs h
         obtain ⟨x67,TE,h⟩:=bs h
         refine gd c20 j j j j (mk [(3,M 3),(6,H 6 0),(7,iv (p_1.qI.length:Int)),(8,iv gu),(9,iv jf),(13,iv x67),(38,D 0 (W 1 (eL 1 eI) x38)),(39,iv (x38.length:Int)),(40,iv jf),(45,D 0 (W 1 eI x43)),(46,iv (x43.length:Int)),(47,iv lQ)] [(3,Oa (G 2 (fM p_1))),(6,Oc [Z (W 1 eI x33)])]) (t j j (oMv j j)<|t j j (oFA (r':=.mp 3 0 1) j JO j j)<|t j j (oLd (cs:=[.im 2 _]) j oz j j)<|t j j (oMv j j)<|t j j (gZ j ah4 eX j j)<|t j j (oLd (cs:=[.im 2 _]) j tF2 j j)<|t j j (oFA (r':=.mp 3 0 1) j JO j j)<|t j j (oLd (cs:=[.im 2 _]) j oz j j)<|t j j (oMv j j)<|t j j (gZ j OA eX j j)<|t j j (oLd (cs:=[.im 2 _]) j tF2 j j)<|t j j (oBi j j j j)<|t j j (oMv j j)<|t j j (oBi j j j j)<|t j j (oMv j j)<|t j j (Ce j aes j j)<|t j j (xN j TE eX j j j j)<|t j j (C9 (cs:=[.im 0 _]) j tF2 j j j j (jH TE) j j)<|sS (dN z20 j (ah j j)) trivial (sD (by kernel_rfl)))<|us<|gs<|gX c20 j j j (mk [(3,M 3),(6,H 6 0),(7,iv (p_1.qI.length:Int)),(8,iv gu),(9,iv jf),(13,iv x67),(38,D 0 (W 1 (eL 1 eI) x38)),(39,iv (x38.length:Int)),(40,iv jf),(45,D 0 (W 1 eI x43)),(46,iv (x43.length:Int)),(47,iv lQ),(75,bv ((decide (gu<0))||(decide (x67<gu))))] [(3,Oa (G 2 (fM p_1))),(6,Oc [Z (W 1 eI x33)])]) ?_ ?_
         ·refine xq (oMv j j)<|xq (oBi j j j j)<|xq (oMv j j)<|?_
          by_cases jv:gu<0
          ·exact au rfl rfl (ak.2 jv) rfl<|au rfl rfl (ak.2 jv) rfl<|au rfl rfl (ak.2 jv) rfl<|xq (bQ rfl rfl (ak.2 jv) rfl)<|xn (Eq.trans (b:=(fun BA:Bool=>mk [(3,M 3),(6,H 6 0),(7,iv (p_1.qI.length:Int)),(8,iv gu),(9,iv jf),(13,iv x67),(38,D 0 (W 1 (eL 1 eI) x38)),(39,iv (x38.length:Int)),(40,iv jf),(45,D 0 (W 1 eI x43)),(46,iv (x43.length:Int)),(47,iv lQ),(75,bv BA)] [(3,Oa (G 2 (fM p_1))),(6,Oc [Z (W 1 eI x33)])]) true) (by kernel_rfl) (congrArg (fun BA:Bool=>mk [(3,M 3),(6,H 6 0),(7,iv (p_1.qI.length:Int)),(8,iv gu),(9,iv jf),(13,iv x67),(38,D 0 (W 1 (eL 1 eI) x38)),(39,iv (x38.length:Int)),(40,iv jf),(45,D 0 (W 1 eI x43)),(46,iv (x43.length:Int)),(47,iv lQ),(75,bv BA)] [(3,Oa (G 2 (fM p_1))),(6,Oc [Z (W 1 eI x33)])]) (by first | rfl | (simp [(ak.2 jv)];done) | (simp [(ak.2 jv)];omega))))
          ·exact xqT rfl rfl (byF ak jv) (oMv rfl rfl)<|xqT rfl rfl (byF ak jv) (oMv rfl rfl)<|xqT rfl rfl (byF ak jv) (oBi rfl rfl rfl rfl)<|xq (bV rfl rfl (byF ak jv) rfl)<|xn (Eq.trans (b:=(fun BA:Bool=>mk [(3,M 3),(6,H 6 0),(7,iv (p_1.qI.length:Int)),(8,iv gu),(9,iv jf),(13,iv x67),(38,D 0 (W 1 (eL 1 eI) x38)),(39,iv (x38.length:Int)),(40,iv jf),(45,D 0 (W 1 eI x43)),(46,iv (x43.length:Int)),(47,iv lQ),(75,bv BA)] [(3,Oa (G 2 (fM p_1))),(6,Oc [Z (W 1 eI x33)])]) (decide (x67<gu))) (by kernel_rfl) (congrArg (fun BA:Bool=>mk [(3,M 3),(6,H 6 0),(7,iv (p_1.qI.length:Int)),(8,iv gu),(9,iv jf),(13,iv x67),(38,D 0 (W 1 (eL 1 eI) x38)),(39,iv (x38.length:Int)),(40,iv jf),(45,D 0 (W 1 eI x43)),(46,iv (x43.length:Int)),(47,iv lQ),(75,bv BA)] [(3,Oa (G 2 (fM p_1))),(6,Oc [Z (W 1 eI x33)])]) (by first | rfl | (simp [(byF ak jv)];done) | (simp [(byF ak jv)];omega))))
         ·refine us<|gc h j (iOr ak ak) (fun hc31 h=>?_) fun hc31 h=>?_
          ·exact g0 j j (q (oMv j j)<|q (ah j j)<|nl)<|Unw.blk<|K29 _ ⟨x67,h,(by kernel_rfl)⟩
          ·exact Go.skip<|Unw.blk<|K29 _ ⟨gu,h,(by kernel_rfl)⟩
       ·refine Go.exit<|ux<|Unw.nil<|?_
        cases h
        exact ⟨j,(by kernel_rfl)⟩
      ·rintro ⟨e,st⟩ hp
       obtain ⟨yF,rfl⟩:∃y,y=o:=⟨o,rfl⟩
       obtain ⟨he,hst⟩:=hp
       obtain rfl:e= .exit 3:=he
       refine Unw.lq<|Unw.blk<|us<|g2 c20 j j hst (q (oBi j j j j)<|q (oMv j j)<|nl)<|Unw.nil<|?_
       cases h
       exact ⟨j,(by kernel_rfl)⟩
     ·refine Go.exit<|ux<|Unw.nil<|?_
      cases h
      exact ⟨j,(by kernel_rfl)⟩
    ·rintro ⟨e,st⟩ hp
     obtain ⟨xy,rfl⟩:∃y,y=o:=⟨o,rfl⟩
     obtain ⟨he,hst⟩:=hp
     obtain rfl:e= .exit 1:=he
     refine Unw.lq<|us<|gs<|gs<|g2 c20 j j hst (q (oMv j j)<|q (oBi j j j j)<|nl)<|us<|gc h j ak (fun hc18 h=>?_) fun hc18 h=>?_
     ·refine gs<|g0 j j (q (ah j j)<|q (ah j j)<|nl)<|us<|Go.ret (Unw.ret ?_)
      cases h
      exact fr acm j
     ·refine Go.skip<|us<|gs<|g0 j j (q (oMv j j)<|q (ah j j)<|q (ah j j)<|nl)<|us<|Go.ret (Unw.ret ?_)
      cases h
      exact fr acm j
theorem J4 {dM:(List Int)} {cO:Int} {r:Bool} (h:xA dM cO=some r):FX 114 [.im 2 false [W 1 eI dM],.im 2 false [I cO]] (B0 [(false,[.im 0 (V r)])]):=by
 unfold xA at h
 refine gn 23 Try.func114 rfl ?_
 refine gs<|g0 j j (q (ah j j)<|nl)<|us<|gs<|gs<|g0 j j (q (ah j j)<|nl)<|us<|Go.block<|?_
 obtain ⟨o,hl,h⟩:=bs h
 refine gl ad3 j _ (fun (JK:Int)=>mk [(0,D 2 (W 1 eI dM)),(1,iv cO),(5,iv JK)] []) (fun (o:(Unit ⊕ Bool)) (p:Ex×St)=>match o with | (.inl _)=>p.1= .exit 0∧p.2.norm ([0],[])=mk [(0,D 2 (W 1 eI dM))] [] | (.inr r2)=>p.1= .ret∧fin Try.prog cfg 114 Try.f114 [.im 2 false [W 1 eI dM],.im 2 false [I cO]] p.2=some (B0 [(false,[.im 0 (V r2)])])) hl (by kernel_rfl) ?_ ?_ ?_
 ·intro o p hp e
  rcases o with u | r2<;>exact nomatch (hp.1.symm.trans e)
 ·rintro JK o h
  unfold oQ at h
  refine gs<|gs<|g0 j j (q (oMv j j)<|q (oMv j j)<|q (jd j j uG j)<|q (oBi j j j j)<|nl)<|us<|gc h j ak (fun hc5 h=>?_) fun hc5 h=>?_
  ·refine Go.skip<|us<|gs<|Go.block<|gs<|?_
   obtain ⟨x14,BH,h⟩:=bs h
   obtain ⟨x18,FQ,h⟩:=bs h
   refine g0 j j (q (oMv j j)<|q (oMv j j)<|q (gZ j BH eX j j)<|q (oLd (cs:=[.im 2 _]) j tF2 j j)<|q (oMv j j)<|q (oBi j j j j)<|q (oCa (xs:=[.v false [.im 2 _],.v false [.im 0 _],.v false [.im 0 _]]) (vs:=[(false,[.im 0 _])]) (v:=.v false [.im 0 _]) (fH FQ) (.inl j) j iU j (ppC j (ppC j (ppC j pp0))) j j pb0 j j j)<|q (oUn j j j)<|nl)<|us<|?_
   by_cases hc6:x18=true
   ·rw [if_pos hc6] at h
    refine gF j (nF (iR.2 hc6))<|Go.skip<|Unw.blk<|us<|g0 j j (q (oMv j j)<|q (oBi j j j j)<|q (ah j j)<|nl)<|Unw.nil<|?_
    cases h
    exact ⟨j,(by kernel_rfl)⟩
   ·rw [if_neg hc6] at h
    refine gT j (nT (byF iR hc6))<|gs<|g0 j j (q (ah j j)<|nl)<|us<|Go.ret (Unw.ret ?_)
    cases h
    exact ⟨j,(fo ac5 j)⟩
  ·refine Go.exit<|ux<|Unw.nil<|?_
   cases h
   exact ⟨j,(by kernel_rfl)⟩
 ·rintro ⟨e,st⟩ hp
  rcases o with u | r2
  ·dsimp only at h
   obtain ⟨he,hst⟩:=hp
   obtain rfl:e= .exit 0:=he
   refine Unw.lq<|us<|gs<|g2 ad3 j j hst (q (oMv j j)<|q (jd j j uG j)<|q (oBi j j j j)<|q (ah j j)<|nl)<|us<|Go.ret (Unw.ret ?_)
   cases h
   exact fr ac5 j
  ·dsimp only at h
   obtain ⟨he,hfin⟩:=hp
   obtain rfl:e= .ret:=he
   cases h
   exact Unw.ret (jl hfin)
theorem Rn {p_0:jO} {r:Bool} (h:En p_0=some r):FX 59 [.im 2 false [.cp (fM p_0) 0]] (B0 [(false,[.im 0 (V r)])]):=by
 unfold En at h
 refine gn 20 Try.func59 rfl ?_
 refine gs<|g0 j j (q (ah j j)<|nl)<|us<|gs<|?_
 obtain ⟨x7,hx7,h⟩:=bs h
 obtain ⟨jw,hm2,h⟩:=bs h
 refine gd c59 j j j j (mk [(2,bv jw)] []) ?_ ?_
 ·refine t j j (oMv j j)<|t j j (oNl j j j)<|t j j (oFA (r':=.im 2 _) j JM j j)<|?_
  refine ic hm2 (fun hc1 hm2=>?_) fun hc1 hm2=>?_
  ·obtain ⟨x18,FQ,hm2⟩:=bs hm2
   cases hm2
   exact t j j (oLd (cs:=[.im 2 _]) j Q7 j j)<|sS (dN z59 j (oCa (xs:=[.v false [.im 2 _]]) (vs:=[(false,[.im 0 _])]) (v:=.v false [.im 0 _]) (yj hx7) (.inl j) j Nw j (ppC j pp0) j j pb0 j j j)) trivial (t j j (oMv j j)<|tT j j j j (iR.2 hc1) (oMv j j)<|tT j j j j (iR.2 hc1) (oNl j j j)<|tT j j j j (iR.2 hc1) (oFA (r':=.im 2 _) j JO j j)<|tT j j j j (iR.2 hc1) (oLd (cs:=[.im 2 _]) j oz j j)<|tT j j j j (iR.2 hc1) (oMv j j)<|tT j j j j (iR.2 hc1) (oNl j j j)<|tT j j j j (iR.2 hc1) (oFA (r':=.im 2 _) j JM j j)<|tT j j j j (iR.2 hc1) (oLd (cs:=[.im 2 _]) j Q7 j j)<|tT j j j j (iR.2 hc1) (jd j j Jj j)<|sS (dT z59 j j j (iR.2 hc1) (oCa (xs:=[.v false [.im 2 _],.v false [.im 0 _]]) (vs:=[(false,[.im 0 _])]) (v:=.v false [.im 0 _]) (J4 FQ) (.inl j) j UA j (ppC j (ppC j pp0)) j j pb0 j j j)) trivial (t j j (bQ j j (iR.2 hc1) j)<|sS (dN z59 j (ah j j)) trivial (sD (by kernel_rfl))))
  ·cases hm2
   exact t j j (oLd (cs:=[.im 2 _]) j Q7 j j)<|sS (dN z59 j (oCa (xs:=[.v false [.im 2 _]]) (vs:=[(false,[.im 0 _])]) (v:=.v false [.im 0 _]) (yj hx7) (.inl j) j Nw j (ppC j pp0) j j pb0 j j j)) trivial (t j j (oMv j j)<|tF j j j j (byF iR hc1) j<|tF j j j j (byF iR hc1) j<|tF j j j j (byF iR hc1) j<|tF j j j j (byF iR hc1) j<|tF j j j j (byF iR hc1) j<|tF j j j j (byF iR hc1) j<|tF j j j j (byF iR hc1) j<|tF j j j j (byF iR hc1) j<|tF j j j j (byF iR hc1) j<|sS (dF j j j (byF iR hc1) j) trivial (t j j (bV j j (byF iR hc1) j)<|sS (dN z59 j (ah j j)) trivial (sD (by kernel_rfl))))
 ·refine us<|Go.ret (Unw.ret ?_)
  cases h
  exact fr ahD j
theorem IB {p_0:jO} {r:Bool} (h:qp p_0=some r):FX 21 [.im 2 true (fM p_0)] (B0 [(false,[.im 0 (V r)])]):=by
 unfold qp at h
 refine gn 4 Try.func21 rfl ?_
 refine gs<|g0 j j (q (oBx j TB j (tkI (tkI tk0)))<|q (ah j j)<|nl)<|us<|gs<|?_
 obtain ⟨x3,hx3,h⟩:=bs h
 refine g0 j j (q (oCa (xs:=[.v false [.mp 1 0 0]]) (vs:=[(false,[.im 0 _])]) (v:=.v false [.im 0 _]) (Rn hx3) (.inl j) j ZF j (ppC j pp0) j j pb0 j j j)<|q (ah j j)<|nl)<|us<|Go.ret (Unw.ret ?_)
 cases h
 exact fr ahv j
theorem Jp {gW:(List Int)} {vZ:(List Int)} {r:Bool} (h:uX gW vZ=some r):FX 4 [.im 2 false [W 1 (eK .u8) gW],.im 2 false [W 1 (eK .u8) vZ]] (B0 [(false,[.im 0 (V r)])]):=by
 unfold uX at h
 refine gn 111 Try.func4 rfl ?_
 refine gs<|g0 j j (q (ah j j)<|nl)<|us<|gs<|gs<|?_
 obtain ⟨x19,Cm,h⟩:=bs h
 refine g0 j j (q (oMv j j)<|q (oMv j j)<|q (oCa (xs:=[.v false [.im 2 _],.v false [.im 2 _]]) (vs:=[(false,[.im 0 _])]) (v:=.v false [.im 0 _]) (Oz Cm) (.inl j) j UB j (ppC j (ppC j pp0)) j j pb0 j j j)<|nl)<|us<|gc h j iR (fun hc1 h=>?_) fun hc1 h=>?_
 ·refine gs<|g0 j j (q (ah j j)<|nl)<|us<|Go.ret (Unw.ret ?_)
  cases h
  exact fr rF4 j
 ·refine Go.skip<|us<|gs<|?_
  obtain ⟨x21,OC,h⟩:=bs h
  refine g0 j j (q (oMv j j)<|q (oCr (xs:=[.v false [.im 2 _]]) (vs:=[(true,[.im 0 _,.im 0 _,.own 21 0 0,.own 21 0 1])]) (v:=.v true [.im 0 _,.im 0 _,.own 21 0 0,.own 21 0 1]) (c:=⟨.sh,0,_⟩) (cs:=[⟨.sh,0,_⟩]) (NR OC) (.inl j) j aec j (ppC j pp0) j j pb0 j j j)<|q (oAl j jX (tkI (tkI (tkN (tkN tk0)))))<|q (oSt jX j j j (tkI (tkI (tkO j j (tkO j j tk0)))) j j j)<|nl)<|us<|gs<|?_
  obtain ⟨x23,NM,h⟩:=bs h
  refine g1 j j (mk [(1,D 2 (W 1 (eK .u8) vZ)),(5,M 5)] [(5,Oa [C (I x21.Width),C (I x21.Height),Z (W 2 af x21.aI),Z (W 2 az x21.ai)])]) (q (oMv j j)<|q (oCr (xs:=[.v false [.im 2 _]]) (vs:=[(false,[.own 23 0 0])]) (v:=.v false [.own 23 0 0]) (c:=⟨.sh,0,_⟩) (cs:=[]) (KY NM) (.inl j) j ab4 j (ppC j pp0) j j pb0 j j j)<|q (oZ j j j j j)<|nl)<|us<|gs<|?_
  obtain ⟨x25,hx25,h⟩:=bs h
  refine g0 j j (q (oMv j j)<|q (oCa (xs:=[.v false [.im 2 _],.v false [.im 0 _],.v false [.im 0 _]]) (vs:=[(false,[.im 0 _])]) (v:=.v false [.im 0 _]) (TI hx25) (.inl j) j Tu j (ppC j (ppC j (ppC j pp0))) j j pb0 j j j)<|q (ah j j)<|nl)<|us<|gs<|?_
  obtain ⟨x30,JS,h⟩:=bs h
  refine g0 j j (q (oLd (cs:=[.im 0 _,.im 0 _,.own 5 0 2,.own 5 0 3]) j jX j j)<|q (oMv j j)<|q (oMv j j)<|q (oCa (xs:=[.v true [.im 0 _,.im 0 _,.own 5 0 2,.own 5 0 3],.v false [.own 6 0 0],.v false [.im 0 _],.v false [.im 0 _]]) (vs:=[(false,[.im 0 _]),(false,[.im 0 _])]) (v:=.tup [(false,[.im 0 _]),(false,[.im 0 _])]) (Io JS) (.inl j) j Ny j (ppC j (ppC j (ppC j (ppC j pp0)))) j j pb0 j j j)<|q (KL j j)<|q (oEx j j j)<|q (oEx j j j)<|q (ah j j)<|q (ah j j)<|nl)<|us<|gs<|gs<|?_
  obtain ⟨x37,aer,h⟩:=bs h
  refine g0 j j (q (oLd (cs:=[.im 0 _,.im 0 _,.own 5 0 2,.own 5 0 3]) j jX j j)<|q (oMv j j)<|q (oMv j j)<|q (oCr (xs:=[.v true [.im 0 _,.im 0 _,.own 5 0 2,.own 5 0 3],.v false [.own 6 0 0],.v false [.im 0 _],.v false [.im 0 _]]) (vs:=[(false,[.own 37 0 0]),(false,[.im 0 _])]) (v:=.tup [(false,[.own 37 0 0]),(false,[.im 0 _])]) (c:=⟨.sh,0,_⟩) (cs:=[]) (Iy aer) (.inl j) j Nz j (ppC j (ppC j (ppC j (ppC j pp0)))) j j pb0 j j j)<|q (KL j j)<|q (oEx j j j)<|q (oEx j j j)<|q (oZ j j j j j)<|q (ah j j)<|nl)<|us<|gs<|g0 j j (q (oMv j j)<|q (oMv j j)<|q (oBi j j j j)<|nl)<|us<|gc h j iNe (fun hc2 h=>?_) fun hc2 h=>?_
  ·refine gs<|g0 j j (q (ah j j)<|nl)<|us<|Go.ret (Unw.ret ?_)
   cases h
   exact fr rF4 j
  ·refine Go.skip<|us<|gs<|?_
   obtain ⟨x47,KR,h⟩:=bs h
   refine g0 j j (q (oLd (cs:=[.im 0 _,.im 0 _,.own 5 0 2,.own 5 0 3]) j jX j j)<|q (oMv j j)<|q (oMv j j)<|q (oCa (xs:=[.v true [.im 0 _,.im 0 _,.own 5 0 2,.own 5 0 3],.v false [.own 6 0 0],.v false [.im 0 _],.v false [.im 0 _]]) (vs:=[(false,[.im 0 _]),(false,[.im 0 _])]) (v:=.tup [(false,[.im 0 _]),(false,[.im 0 _])]) (Iz KR) (.inl j) j NC j (ppC j (ppC j (ppC j (ppC j pp0)))) j j pb0 j j j)<|q (KL j j)<|q (oEx j j j)<|q (oEx j j j)<|q (ah j j)<|q (ah j j)<|nl)<|us<|gs<|gs<|?_
   obtain ⟨Nu,kH,h⟩:=bs h
   refine gX c4 j j j (mk [(5,M 5),(6,H 6 0),(7,iv x25),(8,D 0 (W 1 eI x30.1)),(9,iv x30.2),(78,bv Nu)] [(5,Oa [C (I x21.Width),C (I x21.Height),Z (W 2 af x21.aI),Z (W 2 az x21.ai)]),(6,Oc [Z (W 3 aA x23)])]) ?_ ?_
   ·refine xq (oMv j j)<|xq (oBi j j j j)<|xq (oMv j j)<|?_
    refine ic kH (fun hc3 kH=>?_) fun hc3 kH=>?_
    ·refine xqT j j (iEq.2 hc3) (oMv j j)<|xqT j j (iEq.2 hc3) (oBi j j j j)<|xqT j j (iEq.2 hc3) (oMv j j)<|xqT j j (iEq.2 hc3) (oBi j j j j)<|xqT j j (iEq.2 hc3) (agZ j uF4 j j j)<|xq (bQ j j (iEq.2 hc3) j)<|xq (oMv j j)<|?_
     refine ic kH (fun hc4 kH=>?_) fun hc4 kH=>?_
     ·refine xqT j j (nF (iBe.2 hc4)) (oMv j j)<|xqT j j (nF (iBe.2 hc4)) (oBi j j j j)<|xqT j j (nF (iBe.2 hc4)) (oMv j j)<|?_
      refine ic kH (fun hc5 kH=>?_) fun hc5 kH=>?_
      ·refine xqT j j (iNe.2 hc5) (oMv j j)<|xqT j j (iNe.2 hc5) (oBi j j j j)<|xqT j j (nF (iBe.2 hc4)) (bQ j j (iNe.2 hc5) j)<|xqT j j (nF (iBe.2 hc4)) (oMv j j)<|?_
       refine ic kH (fun hc6 kH=>?_) fun hc6 kH=>?_
       ·refine xqT j j (iNe.2 hc6) (oMv j j)<|xqT j j (iNe.2 hc6) (oBi j j j j)<|xqT j j (nF (iBe.2 hc4)) (bQ j j (iNe.2 hc6) j)<|xq (bV j j (nF (iBe.2 hc4)) j)<|xq (oMv j j)<|?_
        refine ic kH (fun hc7 kH=>?_) fun hc7 kH=>?_
        ·cases kH
         exact au j j (iNe.2 hc7) j<|au j j (iNe.2 hc7) j<|au j j (iNe.2 hc7) j<|BG j j j<|BG j j j<|au j j (iNe.2 hc7) j<|xq (bQ j j (iNe.2 hc7) j)<|xn
        ·refine xqT j j (byF iNe hc7) (oMv j j)<|xqT j j (byF iNe hc7) (oBi j j j j)<|xqT j j (byF iNe hc7) (oMv j j)<|?_
         refine ic kH (fun hc8 kH=>?_) fun hc8 kH=>?_
         ·cases kH
          exact xqT j j (iEq.2 hc8) (oMv j j)<|xqT j j (iEq.2 hc8) (oBi j j j j)<|xqT j j (byF iNe hc7) (bQ j j (iEq.2 hc8) j)<|xq (bV j j (byF iNe hc7) j)<|xn
         ·cases kH
          exact au j j (byF iEq hc8) j<|au j j (byF iEq hc8) j<|xqT j j (byF iNe hc7) (bV j j (byF iEq hc8) j)<|xq (bV j j (byF iNe hc7) j)<|xn
       ·refine au j j (byF iNe hc6) j<|au j j (byF iNe hc6) j<|xqT j j (nF (iBe.2 hc4)) (bV j j (byF iNe hc6) j)<|xq (bV j j (nF (iBe.2 hc4)) j)<|xq (oMv j j)<|xqT j j j (oMv j j)<|xqT j j j (oBi j j j j)<|xqT j j j (oMv j j)<|?_
        refine ic kH (fun hc9 kH=>?_) fun hc9 kH=>?_
        ·cases kH
         exact xqT j j (iEq.2 hc9) (oMv j j)<|xqT j j (iEq.2 hc9) (oBi j j j j)<|xqT j j j (bQ j j (iEq.2 hc9) j)<|xq (bV j j j j)<|xn
        ·cases kH
         exact au j j (byF iEq hc9) j<|au j j (byF iEq hc9) j<|xqT j j j (bV j j (byF iEq hc9) j)<|xq (bV j j j j)<|xn
      ·refine au j j (byF iNe hc5) j<|au j j (byF iNe hc5) j<|xqT j j (nF (iBe.2 hc4)) (bV j j (byF iNe hc5) j)<|xqT j j (nF (iBe.2 hc4)) (oMv j j)<|au j j j j<|au j j j j<|xqT j j (nF (iBe.2 hc4)) (bV j j j j)<|xq (bV j j (nF (iBe.2 hc4)) j)<|xq (oMv j j)<|xqT j j j (oMv j j)<|xqT j j j (oBi j j j j)<|xqT j j j (oMv j j)<|?_
       refine ic kH (fun NV kH=>?_) fun NV kH=>?_
       ·cases kH
        exact xqT j j (iEq.2 NV) (oMv j j)<|xqT j j (iEq.2 NV) (oBi j j j j)<|xqT j j j (bQ j j (iEq.2 NV) j)<|xq (bV j j j j)<|xn
       ·cases kH
        exact au j j (byF iEq NV) j<|au j j (byF iEq NV) j<|xqT j j j (bV j j (byF iEq NV) j)<|xq (bV j j j j)<|xn
     ·cases kH
      exact au j j (nT (byF iBe hc4)) j<|au j j (nT (byF iBe hc4)) j<|au j j (nT (byF iBe hc4)) j<|BG j j j<|BG j j j<|au j j (nT (byF iBe hc4)) j<|au j j (nT (byF iBe hc4)) j<|BG j j j<|BG j j j<|au j j (nT (byF iBe hc4)) j<|xq (bQ j j (nT (byF iBe hc4)) j)<|xq (oMv j j)<|au j j j j<|au j j j j<|au j j j j<|BG j j j<|BG j j j<|au j j j j<|xq (bQ j j j j)<|xn
    ·refine au j j (byF iEq hc3) j<|au j j (byF iEq hc3) j<|au j j (byF iEq hc3) j<|au j j (byF iEq hc3) j<|au j j (byF iEq hc3) j<|xq (bV j j (byF iEq hc3) j)<|xq (oMv j j)<|xqT j j j (oMv j j)<|xqT j j j (oBi j j j j)<|xqT j j j (oMv j j)<|?_
     refine ic kH (fun eY kH=>?_) fun eY kH=>?_
     ·refine xqT j j (iNe.2 eY) (oMv j j)<|xqT j j (iNe.2 eY) (oBi j j j j)<|xqT j j j (bQ j j (iNe.2 eY) j)<|xqT j j j (oMv j j)<|?_
      refine ic kH (fun hc12 kH=>?_) fun hc12 kH=>?_
      ·refine xqT j j (iNe.2 hc12) (oMv j j)<|xqT j j (iNe.2 hc12) (oBi j j j j)<|xqT j j j (bQ j j (iNe.2 hc12) j)<|xq (bV j j j j)<|xq (oMv j j)<|?_
       refine ic kH (fun hc13 kH=>?_) fun hc13 kH=>?_
       ·cases kH
        exact au j j (iNe.2 hc13) j<|au j j (iNe.2 hc13) j<|au j j (iNe.2 hc13) j<|BG j j j<|BG j j j<|au j j (iNe.2 hc13) j<|xq (bQ j j (iNe.2 hc13) j)<|xn
       ·refine xqT j j (byF iNe hc13) (oMv j j)<|xqT j j (byF iNe hc13) (oBi j j j j)<|xqT j j (byF iNe hc13) (oMv j j)<|?_
        refine ic kH (fun Ep kH=>?_) fun Ep kH=>?_
        ·cases kH
         exact xqT j j (iEq.2 Ep) (oMv j j)<|xqT j j (iEq.2 Ep) (oBi j j j j)<|xqT j j (byF iNe hc13) (bQ j j (iEq.2 Ep) j)<|xq (bV j j (byF iNe hc13) j)<|xn
        ·cases kH
         exact au j j (byF iEq Ep) j<|au j j (byF iEq Ep) j<|xqT j j (byF iNe hc13) (bV j j (byF iEq Ep) j)<|xq (bV j j (byF iNe hc13) j)<|xn
      ·refine au j j (byF iNe hc12) j<|au j j (byF iNe hc12) j<|xqT j j j (bV j j (byF iNe hc12) j)<|xq (bV j j j j)<|xq (oMv j j)<|xqT j j j (oMv j j)<|xqT j j j (oBi j j j j)<|xqT j j j (oMv j j)<|?_
       refine ic kH (fun yc kH=>?_) fun yc kH=>?_
       ·cases kH
        exact xqT j j (iEq.2 yc) (oMv j j)<|xqT j j (iEq.2 yc) (oBi j j j j)<|xqT j j j (bQ j j (iEq.2 yc) j)<|xq (bV j j j j)<|xn
       ·cases kH
        exact au j j (byF iEq yc) j<|au j j (byF iEq yc) j<|xqT j j j (bV j j (byF iEq yc) j)<|xq (bV j j j j)<|xn
     ·refine au j j (byF iNe eY) j<|au j j (byF iNe eY) j<|xqT j j j (bV j j (byF iNe eY) j)<|xqT j j j (oMv j j)<|au j j j j<|au j j j j<|xqT j j j (bV j j j j)<|xq (bV j j j j)<|xq (oMv j j)<|xqT j j j (oMv j j)<|xqT j j j (oBi j j j j)<|xqT j j j (oMv j j)<|?_
      refine ic kH (fun hc16 kH=>?_) fun hc16 kH=>?_
      ·cases kH
       exact xqT j j (iEq.2 hc16) (oMv j j)<|xqT j j (iEq.2 hc16) (oBi j j j j)<|xqT j j j (bQ j j (iEq.2 hc16) j)<|xq (bV j j j j)<|xn
      ·cases kH
       exact au j j (byF iEq hc16) j<|au j j (byF iEq hc16) j<|xqT j j j (bV j j (byF iEq hc16) j)<|xq (bV j j j j)<|xn
   ·refine us<|gc h j iR (fun hc17 h=>?_) fun hc17 h=>?_
    ·refine gs<|g0 j j (q (ah j j)<|nl)<|us<|Go.ret (Unw.ret ?_)
     cases h
     exact fr rF4 j
    ·refine Go.skip<|us<|gs<|gs<|g0 j j (q (oMv j j)<|q (oBi j j j j)<|nl)<|us<|gc h j iNe (fun hc18 h=>?_) fun hc18 h=>?_
     ·refine gs<|g0 j j (q (ah j j)<|nl)<|us<|Go.ret (Unw.ret ?_)
      cases h
      exact fr rF4 j
     ·refine Go.skip<|us<|gs<|gs<|g0 j j (q (oMv j j)<|q (jd j j uG j)<|q (oFA (r':=.mp 5 0 3) j gU j j)<|q (oLd (cs:=[.own 5 0 3]) j qw j j)<|q (Hu j j Eo j j j (fun e=>nomatch e))<|q (oBi j j j j)<|nl)<|us<|gc h j iNe (fun hc19 h=>?_) fun hc19 h=>?_
      ·refine gs<|g0 j j (q (ah j j)<|nl)<|us<|Go.ret (Unw.ret ?_)
       cases h
       exact fr rF4 j
      ·refine Go.skip<|us<|gs<|g0 j j (q (oMv j j)<|q (oMv j j)<|q (oBu (cs:=[.own 6 0 0,.im 0 _]) j ahr j)<|q (oAl j TB (tkN (tkN tk0)))<|q (oSt TB j j j (tkO j j (tkI tk0)) j j j)<|nl)<|us<|gs<|?_
       obtain ⟨x93,hx93,h⟩:=bs h
       refine g1 j j (mk [(5,M 5),(7,iv x25),(14,M 14)] [(5,Oa [C (I x21.Width),C (I x21.Height),Z (W 2 af x21.aI),Z (W 2 az x21.ai)]),(14,Oa [Z (W 3 aA x23),C (W 1 eI x30.1)])]) (q (oLd (cs:=[.im 0 _,.im 0 _,.own 5 0 2,.own 5 0 3]) j jX j j)<|q (oLd (cs:=[.own 14 0 0,.im 0 _]) j TB j j)<|q (oCa (xs:=[.v true [.im 0 _,.im 0 _,.own 5 0 2,.own 5 0 3],.v true [.own 14 0 0,.im 0 _]]) (vs:=[(false,[.im 0 _]),(false,[.im 0 _])]) (v:=.tup [(false,[.im 0 _]),(false,[.im 0 _])]) (Gf hx93) (.inl j) j UE j (ppC j (ppC j pp0)) j j pb0 j j j)<|q (KL j j)<|q (oEx j j j)<|q (oEx j j j)<|q (ah j j)<|q (ah j j)<|nl)<|us<|gs<|?_
       obtain ⟨x97,aen,h⟩:=bs h
       obtain ⟨QL,J5,h⟩:=bs h
       refine gX c4 j j j (mk [(4,bv QL)] []) ?_ ?_
       ·refine xq (oLd (cs:=[.own 14 0 0,.im 0 _]) j TB j j)<|xq (oCa (xs:=[.v true [.own 14 0 0,.im 0 _]]) (vs:=[(false,[.im 0 _])]) (v:=.v false [.im 0 _]) (IB aen) (.inl j) j ab7 j (ppC j pp0) j j pb0 j j j)<|xq (oMv j j)<|?_
        refine ic J5 (fun qA J5=>?_) fun qA J5=>?_
        ·refine xqT j j (iR.2 qA) (oMv j j)<|xqT j j (iR.2 qA) (oBi j j j j)<|xqT j j (iR.2 qA) (oMv j j)<|?_
         refine ic J5 (fun hc21 J5=>?_) fun hc21 J5=>?_
         ·refine xqT j j (iEq.2 hc21) (oMv j j)<|xqT j j (iEq.2 hc21) (oMv j j)<|xqT j j (iEq.2 hc21) (oBi j j j j)<|xqT j j (iR.2 qA) (bQ j j (iEq.2 hc21) j)<|xqT j j (iR.2 qA) (oMv j j)<|?_
          refine ic J5 (fun hc22 J5=>?_) fun hc22 J5=>?_
          ·cases J5
           exact au j j (ak.2 hc22) j<|au j j (ak.2 hc22) j<|xqT j j (iR.2 qA) (bQ j j (ak.2 hc22) j)<|xq (bQ j j (iR.2 qA) j)<|xq (ah j j)<|xn
          ·cases J5
           exact xqT j j (byF ak hc22) (oMv j j)<|xqT j j (byF ak hc22) (oBi j j j j)<|xqT j j (iR.2 qA) (bV j j (byF ak hc22) j)<|xq (bQ j j (iR.2 qA) j)<|xq (ah j j)<|xn
         ·cases J5
          exact au j j (byF iEq hc21) j<|au j j (byF iEq hc21) j<|au j j (byF iEq hc21) j<|xqT j j (iR.2 qA) (bV j j (byF iEq hc21) j)<|xqT j j (iR.2 qA) (oMv j j)<|xqT j j j (oMv j j)<|xqT j j j (oBi j j j j)<|xqT j j (iR.2 qA) (bV j j j j)<|xq (bQ j j (iR.2 qA) j)<|xq (ah j j)<|xn
        ·cases J5
         exact au j j (byF iR qA) j<|au j j (byF iR qA) j<|au j j (byF iR qA) j<|BG j j j<|BG j j j<|BG j j j<|au j j (byF iR qA) j<|au j j (byF iR qA) j<|BG j j j<|BG j j j<|au j j (byF iR qA) j<|xq (bV j j (byF iR qA) j)<|xq (ah j j)<|xn
       ·refine us<|Go.ret (Unw.ret ?_)
        cases h
        exact fr rF4 j
end
end Go.Proofs.Ytdibfdcmbjaejaa
