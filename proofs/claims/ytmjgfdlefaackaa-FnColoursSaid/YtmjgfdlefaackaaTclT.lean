/- Plain functions that answer what the program's functions answer. Conditions: none; definitions alone. -/
import Derived.Test.YtmjgfdlefaackaaSimPw
import Derived.Test.YtmjgfdlefaackaaSimPt
namespace Go.Pw
open Go.Sim (min2 max2)
set_option linter.unusedVariables false
def BU (k:IntKind) (a b:Int):Int:=k.wrap (BitVec.ofInt k.bits a &&& BitVec.ofInt k.bits b).toNat
structure ae where
 aB:Int
 High:Int
 Cells:(List Int)
structure aP where
 code:(List Int)
 at_:Int
 seed:Int
structure qA where
 e0:Int
 e1:Int
 e2:Int
 e3:Int
structure aG where
 near:(List (List Int))
 left:Int
noncomputable def uw (dB:(List Int)) (mQ:(List Int)):Option Bool:=
 some ((decide ((dB.length:Int) >1048576))||(decide ((mQ.length:Int) >1048576)))
noncomputable def oI (dB:(List Int)):Option aP:=
 some (⟨dB,0,0⟩:aP)
noncomputable def fG (s_0:aP) (pG:Int):Option (Int×aP):=
 if (w64 (s_0.at_+1))≤(s_0.code.length:Int) then
  (some (pG,(⟨s_0.code,(w64 (s_0.at_+1)),(IntKind.wrap .u64 ((IntKind.wrap .u64 ((IntKind.wrap .u64 (s_0.seed*6364136223846793005))+(IntKind.wrap .u64 (pG))))+1442695040888963407))⟩:aP)))
  else ((shr .u64 (IntKind.wrap .u64 ((IntKind.wrap .u64 ((IntKind.wrap .u64 (s_0.seed*6364136223846793005))+(IntKind.wrap .u64 (pG))))+1442695040888963407)) 40).bind fun x59=>
  some ((w64 ((BU .u64 x59 255))),(⟨s_0.code,(w64 (s_0.at_+1)),(IntKind.wrap .u64 ((IntKind.wrap .u64 ((IntKind.wrap .u64 (s_0.seed*6364136223846793005))+(IntKind.wrap .u64 (pG))))+1442695040888963407))⟩:aP)))
noncomputable def iW (s_0:aP):Option (Int×aP):=
 if s_0.at_< (s_0.code.length:Int) then
  ((rd s_0.code s_0.at_).bind fun x22=>
  fG s_0 (w64 (x22)))
  else (fG s_0 0)
noncomputable def fH (n_1:Int) (DR:Int) (vg:(List Int)) (vk:Int) (vw:Int):Option (Int×aP):=
 (md DR n_1).bind fun x19=>
   some (x19,(⟨vg,vk,vw⟩:aP))
noncomputable def dn (s_0:aP) (n_1:Int):Option (Int×aP):=
 if n_1≤1 then
  (some (0,s_0))
  else ((iW s_0).bind fun x9=>
  if n_1>200 then
  ((iW x9.2).bind fun x15=>
  fH n_1 (w64 ((w64 (x9.1*256))+x15.1)) x15.2.code x15.2.at_ x15.2.seed)
  else (fH n_1 x9.1 x9.2.code x9.2.at_ x9.2.seed))
noncomputable def iH (s_0:aP) (n_1:Int):Option (Bool×aP):=
 (dn s_0 n_1).bind fun x7=>
   some ((x7.1==0),x7.2)
noncomputable def lD (jZ:(List Int)) (n_1:Int) (pI:Int):Option (Int ⊕ (Unit ⊕ Bool)):=
 if pI< (jZ.length:Int) then
  ((rd jZ pI).bind fun x14=>
  if x14=n_1 then
  (some (.inr (.inr true)))
  else (some (.inl (w64 (pI+1)))))
  else (some (.inr (.inl ())))
noncomputable def lF (jZ:(List Int)) (n_1:Int):Option Bool:=
 (aH (lD jZ n_1) 0).bind fun o=>match o with
   | (.inl _)=>(some false)
   | (.inr r2)=>(some r2)
noncomputable def jf (nP:Int) (sQ:(List Int)):Option ((Int×(List Int)) ⊕ (List Int)):=
 some (.inl ((w64 (nP+1)),sQ))
noncomputable def kZ (gJ:(List Int)) (kz:Int) (gz:(List Int)) (s:(Int×(List Int))):Option ((Int×(List Int)) ⊕ (List Int)):=
 match s with
  | (nP,oq)=>
  if nP< (gz.length:Int) then
  ((rd gz nP).bind fun x37=>
  (rd gJ kz).bind fun x41=>
  if x37=x41 then
  ((apd 8 oq ([nP]:List Int)).bind fun x47=>
  jf nP x47)
  else (jf nP oq))
  else (some (.inr oq))
noncomputable def iD (gJ:(List Int)) (kz:Int) (kT:(List Int)) (gz:(List Int)):Option ((Int×(List Int)×(List Int)) ⊕ (List Int)):=
 (aH (kZ gJ kz gz) (0,kT)).bind fun uy=>
   some (.inl ((w64 (kz+1)),gz,uy))
noncomputable def oJ (gJ:(List Int)) (s:(Int×(List Int)×(List Int))):Option ((Int×(List Int)×(List Int)) ⊕ (List Int)):=
 match s with
  | (kz,nR,kT)=>
  if kz< (gJ.length:Int) then
  ((rd gJ kz).bind fun x18=>
  (lF nR x18).bind fun x20=>
  if x20=true then
  (iD gJ kz kT nR)
  else ((rd gJ kz).bind fun x25=>
  (apd 8 nR ([x25]:List Int)).bind fun x28=>
  iD gJ kz kT x28))
  else (some (.inr kT))
noncomputable def lG (gJ:(List Int)):Option (List Int):=
 (aH (oJ gJ) (0,([]:List Int),([]:List Int))).bind fun uz=>
   some uz
noncomputable def gK (t_0:ae) (x_1:Int) (y_2:Int):Option Int:=
 (md y_2 t_0.High).bind fun x12=>
   (md (w64 (x12+t_0.High)) t_0.High).bind fun x22=>
   (md x_1 t_0.aB).bind fun x33=>
   (md (w64 (x33+t_0.aB)) t_0.aB).bind fun x43=>
   some (w64 ((w64 (x22*t_0.aB))+x43))
noncomputable def gB (vz:Int) (vC:Int) (t_0:ae) (sU:Int) (s:(Int×(List Int))):Option ((Int×(List Int)) ⊕ (List Int)):=
 match s with
  | (yT,qQ)=>
  if yT<t_0.aB then
  ((gK t_0 (w64 (yT - vz)) (w64 (sU - vC))).bind fun x48=>
  (rd t_0.Cells x48).bind fun x49=>
  (apd 8 qQ ([x49]:List Int)).bind fun x52=>
  some (.inl ((w64 (yT+1)),x52)))
  else (some (.inr qQ))
noncomputable def jg (vz:Int) (vC:Int) (t_0:ae) (s:(Int×(List Int))):Option ((Int×(List Int)) ⊕ (List Int)):=
 match s with
  | (sU,qR)=>
  if sU<t_0.High then
  ((aH (gB vz vC t_0 sU) (0,qR)).bind fun qB=>
  some (.inl ((w64 (sU+1)),qB)))
  else (some (.inr qR))
noncomputable def jv (t_0:ae) (vz:Int) (vC:Int):Option ae:=
 (aH (jg vz vC t_0) (0,([]:List Int))).bind fun qC=>
   some (⟨t_0.aB,t_0.High,qC⟩:ae)
noncomputable def gG (fV:Int) (eG:(List Int)) (wu:Int) (pJ:(List Int)) (pK:Int) (pM:Int):Option ((Int×(List Int)×Int×Int×(List Int)) ⊕ ((List Int)×Int×Int×(List Int))):=
 (apd 8 eG ([wu]:List Int)).bind fun x75=>
   some (.inl ((w64 (fV+1)),pJ,pK,pM,x75))
noncomputable def l9 (x27:(Int×aP)) (x30:(Int×aP)) (s:(Int×(List Int)×Int×Int×(List Int))):Option ((Int×(List Int)×Int×Int×(List Int)) ⊕ ((List Int)×Int×Int×(List Int))):=
 match s with
  | (fV,pO,pR,pU,eG)=>
  if fV< (w64 ((w64 (1+x27.1)) * (w64 (1+x30.1)))) then
  ((md fV (w64 (1+x27.1))).bind fun x45=>
  (if x45>0 then
  ((iH (⟨pO,pR,pU⟩:aP) 3).bind fun x49=>
  some (x49.1,x49.2.code,x49.2.at_,x49.2.seed))
  else (some (false,pO,pR,pU))).bind fun s=>match s with
  | (DT,pV,pW,pX)=>
  if DT=true then
  ((rd eG (w64 (fV - 1))).bind fun x55=>
  gG fV eG x55 pV pW pX)
  else ((if fV≥(w64 (1+x27.1)) then
  ((iH (⟨pV,pW,pX⟩:aP) 3).bind fun x62=>
  some (x62.1,x62.2.code,x62.2.at_,x62.2.seed))
  else (some (false,pV,pW,pX))).bind fun s=>match s with
  | (DU,pY,qc,qf)=>
  if DU=true then
  ((rd eG (w64 (fV - (w64 (1+x27.1))))).bind fun x69=>
  gG fV eG x69 pY qc qf)
  else (gG fV eG fV pY qc qf)))
  else (some (.inr (pO,pR,pU,eG)))
noncomputable def oK (s_0:aP):Option (ae×aP):=
 (dn s_0 6).bind fun x9=>
   if x9.1=0 then
   (some ((⟨2,2,([0,0,1,1]:List Int)⟩:ae),x9.2))
   else (if x9.1=1 then
   (some ((⟨4,2,([0,0,1,1,3,2,2,3]:List Int)⟩:ae),x9.2))
   else (if x9.1=2 then
   (some ((⟨4,4,([0,0,1,2,3,4,1,2,3,4,5,5,6,6,7,7]:List Int)⟩:ae),x9.2))
   else (if x9.1=3 then
   (some ((⟨3,3,([0,1,2,0,1,2,0,1,2]:List Int)⟩:ae),x9.2))
   else ((dn x9.2 4).bind fun x27=>
   (dn x27.2 4).bind fun x30=>
   (aH (l9 x27 x30) (0,x30.2.code,x30.2.at_,x30.2.seed,([]:List Int))).bind fun o=>match o with
   | (mg,mD,mF,oL)=>
   (lG oL).bind fun x79=>
   (dn (⟨mg,mD,mF⟩:aP) 4).bind fun x82=>
   (jv (⟨(w64 (1+x27.1)),(w64 (1+x30.1)),x79⟩:ae) x82.1 0).bind fun x83=>
   some (x83,x82.2)))))
noncomputable def lH (n_0:Int) (vF:Int) (qg:Int):Option Bool:=
 some ((decide (n_0≥vF))&&(decide (n_0≤qg)))
noncomputable def qU (a_0:Int) (b_1:Int):Option Int:=
 if a_0>b_1 then
  (some a_0)
  else (some b_1)
noncomputable def eu (iU:Int) (t_0:ae) (AA:Int):Option (Int ⊕ (Unit ⊕ Int)):=
 if AA≤iU then
  ((lF t_0.Cells AA).bind fun x43=>
  if x43=true then
  (some (.inl (w64 (AA+1))))
  else (some (.inr (.inr (-1)))))
  else (some (.inr (.inl ())))
noncomputable def dQ (t_0:ae) (s:(Int×Int)):Option ((Int×Int) ⊕ (Int ⊕ Int)):=
 match s with
  | (vG,yU)=>
  if yU< (t_0.Cells.length:Int) then
  ((rd t_0.Cells yU).bind fun x20=>
  (lH x20 0 35).bind fun x22=>
  if x22=true then
  ((rd t_0.Cells yU).bind fun x30=>
  (qU vG x30).bind fun x32=>
  some (.inl (x32,(w64 (yU+1)))))
  else (some (.inr (.inr (-1)))))
  else (some (.inr (.inl vG)))
noncomputable def dU (t_0:ae):Option Int:=
 (aH (dQ t_0) ((-1),0)).bind fun o=>match o with
   | (.inl iU)=>((aH (eu iU t_0) 0).bind fun o=>match o with
   | (.inl _)=>(some (w64 (iU+1)))
   | (.inr r2)=>(some r2))
   | (.inr r2)=>(some r2)
noncomputable def gY (t_0:ae) (i_1:Int):Option (List Int):=
 (md i_1 t_0.aB).bind fun x12=>
   (dv .i64 i_1 t_0.aB).bind fun x18=>
   (gK t_0 (w64 (x12+1)) x18).bind fun x23=>
   (gK t_0 x12 (w64 (x18+1))).bind fun x28=>
   (gK t_0 (w64 (x12 - 1)) x18).bind fun x33=>
   (gK t_0 x12 (w64 (x18 - 1))).bind fun x38=>
   some ([x23,x28,x33,x38]:List Int)
noncomputable def jh (jy:Int) (qV:(List Int)):Option ((Int×(List Int)) ⊕ (List Int)):=
 some (.inl ((w64 (jy+1)),qV))
noncomputable def eH (k_1:Int) (t_0:ae) (x48:(List Int)) (s:(Int×(List Int))):Option ((Int×(List Int)) ⊕ (List Int)):=
 match s with
  | (jy,jA)=>
  if jy< (x48.length:Int) then
  ((rd x48 jy).bind fun x61=>
  (rd t_0.Cells x61).bind fun x63=>
  (if x63=k_1 then
  ((rd x48 jy).bind fun x71=>
  (lF jA x71).bind fun x73=>
  some (!x73))
  else (some false)).bind fun DV=>
  if DV=true then
  ((rd x48 jy).bind fun x79=>
  (apd 8 jA ([x79]:List Int)).bind fun x82=>
  jh jy x82)
  else (jh jy jA))
  else (some (.inr jA))
noncomputable def cO (k_1:Int) (t_0:ae) (s:(Int×(List Int))):Option ((Int×(List Int)) ⊕ (List Int)):=
 match s with
  | (qE,lI)=>
  if qE< (lI.length:Int) then
  ((rd lI qE).bind fun x46=>
  (gY t_0 x46).bind fun x48=>
  (aH (eH k_1 t_0 x48) (0,lI)).bind fun qF=>
  some (.inl ((w64 (qE+1)),qF)))
  else (some (.inr lI))
noncomputable def jB (kW:Int) (sV:Int) (xJ:Int):Option ((Int×Int×Int) ⊕ (Int×Int)):=
 some (.inl (sV,xJ,(w64 (kW+1))))
noncomputable def jC (jL:Int) (kW:Int) (qh:Int):Option ((Int×Int×Int) ⊕ (Int×Int)):=
 jB kW qh (w64 (jL+1))
noncomputable def iE (k_1:Int) (t_0:ae) (s:(Int×Int×Int)):Option ((Int×Int×Int) ⊕ (Int×Int)):=
 match s with
  | (kC,jL,kW)=>
  if kW< (t_0.Cells.length:Int) then
  ((rd t_0.Cells kW).bind fun x26=>
  if x26=k_1 then
  (if kC<0 then
  (jC jL kW kW)
  else (jC jL kW kC))
  else (jB kW kC jL))
  else (some (.inr (kC,jL)))
noncomputable def di (t_0:ae) (k_1:Int):Option Bool:=
 (aH (iE k_1 t_0) ((-1),0,0)).bind fun o=>match o with
   | (mG,ji)=>
   (aH (cO k_1 t_0) (0,([mG]:List Int))).bind fun qG=>
   some ((qG.length:Int)==ji)
noncomputable def dR (t_0:ae) (x37:Int) (AB:Int):Option (Int ⊕ (Unit ⊕ Bool)):=
 if AB<x37 then
  ((di t_0 AB).bind fun x45=>
  if x45=true then
  (some (.inl (w64 (AB+1))))
  else (some (.inr (.inr false))))
  else (some (.inr (.inl ())))
noncomputable def iI (t_0:ae):Option Bool:=
 (lH t_0.aB 1 12).bind fun x9=>
   (if x9=true then
   ((lH t_0.High 1 12).bind fun x16=>
   if x16=true then
   (some ((t_0.Cells.length:Int) != (w64 (t_0.aB*t_0.High))))
   else (some true))
   else (some true)).bind fun Gt=>
   if Gt=true then
   (some false)
   else ((dU t_0).bind fun x37=>
   (aH (dR t_0 x37) 0).bind fun o=>match o with
   | (.inl _)=>(some (decide (x37>0)))
   | (.inr r2)=>(some r2))
noncomputable def ng (dB:(List Int)):Option ae:=
 (oI dB).bind fun x6=>
   (oK x6).bind fun x8=>
   (iI x8.1).bind fun x9=>
   if x9=true then
   (some x8.1)
   else (some (⟨2,2,([0,0,1,1]:List Int)⟩:ae))
noncomputable def jS (n_0:Int) (vF:Int) (qg:Int):Option Bool:=
 some ((decide (n_0≥vF))&&(decide (n_0≤qg)))
noncomputable def bD (x_0:(List Int)) (s:(Int×Int)):Option ((Int×Int) ⊕ Int):=
 match s with
  | (sW,qi)=>
  if qi< (x_0.length:Int) then
  ((rd x_0 qi).bind fun x21=>
  some (.inl ((min2 sW x21),(w64 (qi+1)))))
  else (some (.inr sW))
noncomputable def fD (x_0:(List Int)):Option Int:=
 if (x_0.length:Int) <1 then
  (none)
  else ((rd x_0 0).bind fun x10=>
  (aH (bD x_0) (x10,1)).bind fun oM=>
  some oM)
noncomputable def bF (x_0:(List Int)) (s:(Int×Int)):Option ((Int×Int) ⊕ Int):=
 match s with
  | (sW,qi)=>
  if qi< (x_0.length:Int) then
  ((rd x_0 qi).bind fun x21=>
  some (.inl ((max2 sW x21),(w64 (qi+1)))))
  else (some (.inr sW))
noncomputable def dV (x_0:(List Int)):Option Int:=
 if (x_0.length:Int) <1 then
  (none)
  else ((rd x_0 0).bind fun x10=>
  (aH (bF x_0) (x10,1)).bind fun oM=>
  some oM)
noncomputable def lJ (t_0:ae):Option Int:=
 (dV t_0.Cells).bind fun x5=>
   some (w64 (x5+1))
noncomputable def dH (s_0:(List Int)) (v_1:Int) (nS:Int):Option (Int ⊕ (Unit ⊕ Int)):=
 if nS< (s_0.length:Int) then
  ((rd s_0 nS).bind fun x14=>
  if v_1=x14 then
  (some (.inr (.inr nS)))
  else (some (.inl (w64 (nS+1)))))
  else (some (.inr (.inl ())))
noncomputable def dw (s_0:(List Int)) (v_1:Int):Option Int:=
 (aH (dH s_0 v_1) 0).bind fun o=>match o with
   | (.inl _)=>(some (-1))
   | (.inr r2)=>(some r2)
noncomputable def jM (a_0:Int) (b_1:Int):Option Int:=
 (md a_0 b_1).bind fun x7=>
   (md (w64 (x7+b_1)) b_1).bind fun x11=>
   some x11
noncomputable def aJ (x_0:Int) (y_1:Int) (sZ:Int) (Gu:Int) (JD:(List Int)):Option Int:=
 (jM y_1 Gu).bind fun x9=>
   (jM x_0 sZ).bind fun x16=>
   some (w64 ((w64 (x9*sZ))+x16))
noncomputable def cZ (t_0:ae) (i_1:Int):Option qA:=
 (md i_1 t_0.aB).bind fun x11=>
   (dv .i64 i_1 t_0.aB).bind fun x15=>
   (aJ (w64 (x11+1)) x15 t_0.aB t_0.High t_0.Cells).bind fun x21=>
   (aJ (w64 (x11 - 1)) x15 t_0.aB t_0.High t_0.Cells).bind fun x26=>
   (aJ x11 (w64 (x15+1)) t_0.aB t_0.High t_0.Cells).bind fun x31=>
   (aJ x11 (w64 (x15 - 1)) t_0.aB t_0.High t_0.Cells).bind fun x36=>
   some (⟨x21,x26,x31,x36⟩:qA)
noncomputable def gZ (jO:Int) (qW:Int):Option ((Int×Int) ⊕ Int):=
 some (.inl (qW,(w64 (jO+1))))
noncomputable def eU (t_0:ae) (bn:Int) (s:(Int×Int)):Option ((Int×Int) ⊕ Int):=
 match s with
  | (jT,jO)=>
  if jO< (t_0.Cells.length:Int) then
  ((rd t_0.Cells jO).bind fun U2=>
  if U2=bn then
  (gZ jO (w64 (jT - 1)))
  else (gZ jO jT))
  else (some (.inr jT))
noncomputable def ig (jP:Int) (tq:(List Bool)) (oN:(List Int)):Option ((Int×(List Bool)×(List Int)) ⊕ ((List Bool)×(List Int))):=
 some (.inl ((w64 (jP+1)),tq,oN))
noncomputable def dM (t_0:ae) (bn:Int) (x79:qA) (s:(Int×(List Bool)×(List Int))):Option ((Int×(List Bool)×(List Int)) ⊕ ((List Bool)×(List Int))):=
 match s with
  | (jP,iJ,iT)=>
  if jP<4 then
  ((rd ([x79.e0,x79.e1,x79.e2,x79.e3]:List Int) jP).bind fun x82=>
  (rd t_0.Cells x82).bind fun x86=>
  (if x86=bn then
  ((rd iJ x82).bind fun x93=>
  some (!x93))
  else (some false)).bind fun DW=>
  if DW=true then
  ((rd iJ x82).bind fun x99=>
  (apd 8 iT ([x82]:List Int)).bind fun x103=>
  ig jP (iJ.set x82.toNat true) x103)
  else (ig jP iJ iT))
  else (some (.inr (iJ,iT)))
noncomputable def bY (t_0:ae) (bn:Int) (s:(Int×Int×(List Bool)×(List Int))):Option ((Int×Int×(List Bool)×(List Int)) ⊕ Int):=
 match s with
  | (ik,nI,tu,kD)=>
  if nI< (kD.length:Int) then
  ((rd kD nI).bind fun x77=>
  (cZ t_0 x77).bind fun x79=>
  (aH (dM t_0 bn x79) (0,tu,kD)).bind fun o=>match o with
  | (oO,lK)=>
  some (.inl ((w64 (ik+1)),(w64 (nI+1)),oO,lK)))
  else (some (.inr ik))
noncomputable def bz (t_0:ae) (x46:Int) (bn:Int):Option (Int ⊕ (Unit ⊕ Bool)):=
 if bn<x46 then
  ((dw t_0.Cells bn).bind fun x54=>
  if x54<0 then
  (some (.inr (.inr false)))
  else ((mkl 1 (t_0.Cells.length:Int) false).bind fun x60=>
  (rd x60 x54).bind fun x65=>
  (aH (bY t_0 bn) (0,0,(x60.set x54.toNat true),([x54]:List Int))).bind fun qH=>
  (aH (eU t_0 bn) (qH,0)).bind fun qI=>
  if qI≠0 then
  (some (.inr (.inr false)))
  else (some (.inl (w64 (bn+1))))))
  else (some (.inr (.inl ())))
noncomputable def aU (t_0:ae):Option Bool:=
 (jS t_0.aB 1 12).bind fun x16=>
   (if x16=true then
   ((jS t_0.High 1 12).bind fun x21=>
   if x21=true then
   (some ((t_0.Cells.length:Int) != (w64 (t_0.aB*t_0.High))))
   else (some true))
   else (some true)).bind fun Gv=>
   if Gv=true then
   (some false)
   else ((fD t_0.Cells).bind fun x37=>
   (if x37<0 then
   (some true)
   else ((dV t_0.Cells).bind fun x42=>
   some (decide (x42≥36)))).bind fun Gw=>
   if Gw=true then
   (some false)
   else ((lJ t_0).bind fun x46=>
   (aH (bz t_0 x46) 0).bind fun o=>match o with
   | (.inl _)=>(some true)
   | (.inr r2)=>(some r2)))
noncomputable def dI (iV:(List (List Int))) (s:(Int×(List (List Int)))):Option ((Int×(List (List Int))) ⊕ (List (List Int))):=
 match s with
  | (gq,jF)=>
  if gq< (iV.length:Int) then
  ((rd jF gq).bind fun x54=>
  (IA x54).bind fun x56=>
  (rd (jF.set gq.toNat x56) gq).bind fun x61=>
  (OA x61).bind fun x63=>
  (rd (jF.set gq.toNat x56) gq).bind fun x64=>
  some (.inl ((w64 (gq+1)),((jF.set gq.toNat x56).set gq.toNat x63))))
  else (some (.inr jF))
noncomputable def dJ (oP:Int) (tH:(List (List Int))):Option ((Int×(List (List Int))) ⊕ (List (List Int))):=
 some (.inl ((w64 (oP+1)),tH))
noncomputable def aZ (t_0:ae) (x19:Int) (x23:qA) (s:(Int×(List (List Int)))):Option ((Int×(List (List Int))) ⊕ (List (List Int))):=
 match s with
  | (oP,kU)=>
  if oP<4 then
  ((rd ([x23.e0,x23.e1,x23.e2,x23.e3]:List Int) oP).bind fun x26=>
  (rd t_0.Cells x26).bind fun x30=>
  if x30≠x19 then
  ((rd kU x19).bind fun x39=>
  (apd 8 x39 ([x30]:List Int)).bind fun x43=>
  (rd kU x19).bind fun x44=>
  dJ oP (kU.set x19.toNat x43))
  else (dJ oP kU))
  else (some (.inr kU))
noncomputable def dh (t_0:ae) (s:(Int×(List (List Int)))):Option ((Int×(List (List Int))) ⊕ (List (List Int))):=
 match s with
  | (qJ,vH)=>
  if qJ< (t_0.Cells.length:Int) then
  ((rd t_0.Cells qJ).bind fun x19=>
  (cZ t_0 qJ).bind fun x23=>
  (aH (aZ t_0 x19 x23) (0,vH)).bind fun uA=>
  some (.inl ((w64 (qJ+1)),uA)))
  else (some (.inr vH))
noncomputable def fJ (t_0:ae):Option (List (List Int)):=
 (lJ t_0).bind fun x11=>
   (mkl 24 x11 ([]:List Int)).bind fun x12=>
   (aH (dh t_0) (0,x12)).bind fun iV=>
   (aH (dI iV) (0,iV)).bind fun rV=>
   some rV
noncomputable def aS (m_0:Int) (sZ:Int) (Gx:(List Int)) (Gy:Int):Option Bool:=
 (if m_0<sZ then
   ((rd Gx m_0).bind fun x12=>
   some (x12==Gy))
   else (some false)).bind fun JE=>
   some JE
noncomputable def bH (f_1:(Int→Option Bool)) (s_0:(List Int)) (nS:Int):Option (Int ⊕ (Unit ⊕ Int)):=
 if nS< (s_0.length:Int) then
  ((rd s_0 nS).bind fun x14=>
  (f_1 x14).bind fun x16=>
  if x16=true then
  (some (.inr (.inr nS)))
  else (some (.inl (w64 (nS+1)))))
  else (some (.inr (.inl ())))
noncomputable def eF (s_0:(List Int)) (f_1:(Int→Option Bool)):Option Int:=
 (aH (bH f_1 s_0) 0).bind fun o=>match o with
   | (.inl _)=>(some (-1))
   | (.inr r2)=>(some r2)
noncomputable def bI (s_0:(List Int)) (f_1:(Int→Option Bool)):Option Bool:=
 (eF s_0 f_1).bind fun x7=>
   some (decide (x7≥0))
noncomputable def bU (self:(aG×(List Int)×Int×Int)→Option ((List Int)×Int×aG)) (aF:Int) (qj:(List (List Int))) (ql:Int):Option (((List (List Int))×Int×Int) ⊕ (((List (List Int))×Int) ⊕ ((List Int)×Int×aG))):=
 some (.inl (qj,ql,(w64 (aF+1))))
noncomputable def bG (self:(aG×(List Int)×Int×Int)→Option ((List Int)×Int×aG)) (az:(List Int)) (dO:Int) (dP:Int) (s:((List (List Int))×Int×Int)):Option (((List (List Int))×Int×Int) ⊕ (((List (List Int))×Int) ⊕ ((List Int)×Int×aG))):=
 match s with
  | (iF,iY,aF)=>
  if (aF<dO∧aF≤dP) then
  ((rd iF (az.length:Int)).bind fun x51=>
  (bI x51 (fun a0=>aS a0 (az.length:Int) az aF)).bind fun x54=>
  if x54=true then
  (bU self aF iF iY)
  else ((apd 8 ([]:List Int) az).bind fun x58=>
  (apd 8 x58 ([aF]:List Int)).bind fun x61=>
  (self ((⟨iF,iY⟩:aG),x61,(max2 dP (w64 (aF+1))),dO)).bind fun x67=>
  if x67.2.1≠3 then
  (some (.inr (.inr (x67.1,x67.2.1,x67.2.2))))
  else (bU self aF x67.2.2.near x67.2.2.left)))
  else (some (.inr (.inl (iF,iY))))
noncomputable def bJ (self:(aG×(List Int)×Int×Int)→Option ((List Int)×Int×aG)) (s_0:aG) (az:(List Int)) (dP:Int) (dO:Int):Option ((List Int)×Int×aG):=
 if s_0.left=0 then
  (some (([]:List Int),5,s_0))
  else (if (az.length:Int)=(s_0.near.length:Int) then
  (some (az,0,(⟨s_0.near,(w64 (s_0.left - 1))⟩:aG)))
  else ((aH (bG self az dO dP) (s_0.near,(w64 (s_0.left - 1)),0)).bind fun o=>match o with
  | (.inl (qX,qY))=>(some (([]:List Int),3,(⟨qX,qY⟩:aG)))
  | (.inr r2)=>(some r2)))
noncomputable def fK (s_0:aG) (az:(List Int)) (dP:Int) (dO:Int):Option ((List Int)×Int×aG):=xG (fun self s=>match s with | (s_0,az,dP,dO)=>bJ self s_0 az dP dO) (s_0,az,dP,dO)
noncomputable def aV (s:(Int×(List (List Int))×Int)):Option ((Int×(List (List Int))×Int) ⊕ ((List Int)×Int×Int)):=
 match s with
  | (yV,wz,wB)=>
  (fK (⟨wz,wB⟩:aG) ([]:List Int) 0 yV).bind fun x29=>
  if x29.2.1=0 then
  (some (.inr (x29.1,yV,0)))
  else (if x29.2.1≠3 then
  (some (.inr (([]:List Int),0,x29.2.1)))
  else (some (.inl ((w64 (yV+1)),x29.2.2.near,x29.2.2.left))))
noncomputable def jk (t_0:ae) (vJ:Int):Option ((List Int)×Int×Int):=
 (aU t_0).bind fun x13=>
   if x13=true then
   ((jS vJ 1 20000).bind fun x17=>
   if x17=true then
   ((fJ t_0).bind fun x20=>
   (aH (aV) (1,x20,vJ)).bind fun r2=>
   some r2)
   else (some (([]:List Int),0,2)))
   else (some (([]:List Int),0,1))
noncomputable def rZ (dB:(List Int)) (k_1:Int) (n_2:Int):Option Int:=
 if (n_2≤1∨k_1≥(dB.length:Int)) then
  (some 0)
  else ((rd dB k_1).bind fun x17=>
  (md (w64 (x17)) n_2).bind fun x21=>
  some x21)
noncomputable def qZ (n_0:Int):Option Bool:=
 (lH n_0 (-20000) 20000).bind fun x4=>
   some x4
noncomputable def jQ (t_0:ae) (vz:Int) (vC:Int):Option (ae×Int):=
 (iI t_0).bind fun x8=>
   if x8=true then
   ((qZ vz).bind fun x12=>
   (if x12=true then
   ((qZ vC).bind fun x16=>
   some (!x16))
   else (some true)).bind fun Gz=>
   if Gz=true then
   (some ((⟨0,0,([]:List Int)⟩:ae),2))
   else ((jv t_0 vz vC).bind fun x22=>
   some (x22,0)))
   else (some ((⟨0,0,([]:List Int)⟩:ae),1))
noncomputable def iq (oQ:Int) (vK:Int):Option ((Int×Int) ⊕ Int):=
 some (.inl (vK,(w64 (oQ+1))))
noncomputable def fM (t_0:ae) (x19:Int) (x23:qA) (s:(Int×Int)):Option ((Int×Int) ⊕ Int):=
 match s with
  | (rf,oQ)=>
  if oQ< (([x23.e0,x23.e2]:List Int).length:Int) then
  ((rd ([x23.e0,x23.e2]:List Int) oQ).bind fun x32=>
  (rd t_0.Cells x32).bind fun x37=>
  if x37≠x19 then
  (iq oQ (w64 (rf+1)))
  else (iq oQ rf))
  else (some (.inr rf))
noncomputable def iL (t_0:ae) (s:(Int×Int)):Option ((Int×Int) ⊕ Int):=
 match s with
  | (bZ,oU)=>
  if oU< (t_0.Cells.length:Int) then
  ((rd t_0.Cells oU).bind fun x19=>
  (cZ t_0 oU).bind fun x23=>
  (aH (fM t_0 x19 x23) (bZ,0)).bind fun wC=>
  some (.inl (wC,(w64 (oU+1)))))
  else (some (.inr bZ))
noncomputable def iZ (t_0:ae):Option (Int×Int):=
 (aU t_0).bind fun x11=>
   if x11=true then
   ((aH (iL t_0) (0,0)).bind fun kE=>
   some (kE,0))
   else (some (0,1))
noncomputable def jU (t_0:ae) (x_1:Int) (y_2:Int):Option Int:=
 (jM y_2 t_0.High).bind fun x12=>
   (jM x_1 t_0.aB).bind fun x19=>
   (rd t_0.Cells (w64 ((w64 (x12*t_0.aB))+x19))).bind fun x21=>
   some x21
noncomputable def iw (fE:Int) (vM:Int):Option ((Int×Int) ⊕ Int):=
 some (.inl (vM,(w64 (fE+1))))
noncomputable def iM (t_0:ae) (s:(Int×Int)):Option ((Int×Int) ⊕ Int):=
 match s with
  | (bZ,fE)=>
  if fE< (t_0.Cells.length:Int) then
  ((md fE t_0.aB).bind fun x24=>
  (dv .i64 fE t_0.aB).bind fun x28=>
  (jU t_0 x24 x28).bind fun x32=>
  (jU t_0 (w64 (x24+1)) x28).bind fun x37=>
  (jU t_0 (w64 (x24+1)) (w64 (x28+1))).bind fun x43=>
  (jU t_0 x24 (w64 (x28+1))).bind fun x48=>
  if (x32≠x37∧(x37≠x43∧(x43≠x48∧x48≠x32))) then
  (iw fE (w64 (bZ+1)))
  else (iw fE bZ))
  else (some (.inr bZ))
noncomputable def ja (t_0:ae):Option (Int×Int):=
 (aU t_0).bind fun x13=>
   if x13=true then
   ((aH (iM t_0) (0,0)).bind fun kE=>
   some (kE,0))
   else (some (0,1))
noncomputable def kP (t_0:ae):Option (Int×Int):=
 (iI t_0).bind fun x4=>
   if x4=true then
   ((dU t_0).bind fun x6=>
   some (x6,0))
   else (some (0,1))
noncomputable def iO (t_0:ae) (k_1:Int):Option ((List Int)×Int):=
 (aU t_0).bind fun x8=>
   if x8=true then
   ((lJ t_0).bind fun x13=>
   (jS k_1 0 (w64 (x13 - 1))).bind fun x15=>
   if x15=true then
   ((fJ t_0).bind fun x18=>
   (rd x18 k_1).bind fun x20=>
   some (x20,0))
   else (some (([]:List Int),2)))
   else (some (([]:List Int),1))
noncomputable def ni (jZ:(List Int)) (n_1:Int) (pI:Int):Option (Int ⊕ (Unit ⊕ Bool)):=
 if pI< (jZ.length:Int) then
  ((rd jZ pI).bind fun x14=>
  if x14=n_1 then
  (some (.inr (.inr true)))
  else (some (.inl (w64 (pI+1)))))
  else (some (.inr (.inl ())))
noncomputable def tJ (jZ:(List Int)) (n_1:Int):Option Bool:=
 (aH (ni jZ n_1) 0).bind fun o=>match o with
   | (.inl _)=>(some false)
   | (.inr r2)=>(some r2)
noncomputable def jl (iP:Int) (x103:(Int×Int)) (BL:((List Int)×Int)) (x32:((List Int)×Int×Int)) (ny:Int):Option (Int ⊕ (Unit ⊕ Bool)):=
 if ny< (BL.1.length:Int) then
  ((rd BL.1 ny).bind fun U3=>
  (if U3<0 then
  (some true)
  else ((rd BL.1 ny).bind fun x168=>
  if x168≥x103.1 then
  (some true)
  else ((rd BL.1 ny).bind fun U4=>
  if U4=iP then
  (some true)
  else ((rd BL.1 ny).bind fun U5=>
  (rd x32.1 U5).bind fun U6=>
  (rd x32.1 iP).bind fun U7=>
  some (U6==U7))))).bind fun AL=>
  if AL=true then
  (some (.inr (.inr false)))
  else (some (.inl (w64 (ny+1)))))
  else (some (.inr (.inl ())))
noncomputable def jm (x103:(Int×Int)) (x29:ae) (x32:((List Int)×Int×Int)) (iP:Int):Option (Int ⊕ (Unit ⊕ Bool)):=
 if iP<x103.1 then
  ((iO x29 iP).bind fun BL=>
  (if BL.2≠0 then
  (some true)
  else ((rd x32.1 iP).bind fun U8=>
  if U8<0 then
  (some true)
  else ((rd x32.1 iP).bind fun U9=>
  some (decide (U9≥x32.2.1))))).bind fun AO=>
  if AO=true then
  (some (.inr (.inr false)))
  else ((aH (jl iP x103 BL x32) 0).bind fun o=>match o with
  | (.inl _)=>(some (.inl (w64 (iP+1))))
  | (.inr r2)=>(some (.inr (.inr r2)))))
  else (some (.inr (.inl ())))
noncomputable def oV (dB:(List Int)) (mQ:(List Int)):Option Bool:=
 (uw dB mQ).bind fun x27=>
   if x27=true then
   (some true)
   else ((ng dB).bind fun x29=>
   (jk x29 4000).bind fun x32=>
   (rZ mQ 0 12).bind fun x39=>
   (rZ mQ 1 12).bind fun x41=>
   (jQ x29 x39 x41).bind fun x42=>
   (iZ x29).bind fun x47=>
   (iZ x42.1).bind fun x52=>
   (ja x29).bind fun x57=>
   (ja x42.1).bind fun x62=>
   if (x47.2≠0∨(x52.2≠0∨(x47.1≠x52.1∨(x47.1<0∨(x57.2≠0∨(x62.2≠0∨(x57.1≠x62.1∨x57.1<0))))))) then
   (some false)
   else (if x32.2.2≠0 then
   (some (x32.2.2==5))
   else ((kP x29).bind fun x103=>
   if ((x32.1.length:Int)≠x103.1∨(x32.2.1<1∨(x32.2.1>x103.1∨¬((x32.2.1==1)=(x103.1==1))))) then
   (some false)
   else ((aH (jm x103 x29 x32) 0).bind fun o=>match o with
   | (.inl _)=>((tJ x32.1 (w64 (x32.2.1 - 1))).bind fun Va=>
   some Va)
   | (.inr r2)=>(some r2)))))
end Go.Pw
