/- Plain functions that answer what the program's functions answer. Conditions: none; definitions alone. -/
import Derived.Test.YtnjgcdpleghciaaGreatSimPw
import Derived.Test.YtnjgcdpleghciaaGreatSimPt
namespace Go.Pw
open Go.Sim (min2 max2)
set_option linter.unusedVariables false
structure af where
 X:Int
 Y:Int
structure dn where
 Name:ByteArray
 Ring:(List Int)
structure aA where
 Width:Int
 Height:Int
 bn:(List af)
 aB:(List dn)
structure ai where
 jo:ByteArray
 dV:Int
 aZ:Int
structure aH where
 before:(List (List Int))
 table:(List (List Int))
 limit:Int
 most:Int
 choice:(List Int)
 nodes:Int
 budget:Int
 full:Bool
structure bf where
 e0:Int
 e1:Int
structure aO where
 near:(List (List Int))
 iJ:(List ai)
 left:Int
noncomputable def rY (a_0:(List af)) (fJ:Int):Option Int:=
 if (w64 (fJ - (a_0.length:Int))) <0 then
  (some (-1))
  else (some (w64 (fJ - (a_0.length:Int))))
noncomputable def rZ (a_0:(List Int)) (fJ:Int):Option Int:=
 if (w64 (fJ - (a_0.length:Int))) <0 then
  (some (-1))
  else (some (w64 (fJ - (a_0.length:Int))))
noncomputable def wP (a_0:dn) (fJ:Int):Option Int:=
 if (w64 (fJ - (a_0.Name.size:Int))) <0 then
  (some (-1))
  else ((rZ a_0.Ring (w64 (fJ - (a_0.Name.size:Int)))).bind fun x15=>
  if x15<0 then
  (some (-1))
  else (some x15))
noncomputable def oP (a_0:(List dn)) (s:(Int×Int)):Option ((Int×Int) ⊕ (Int ⊕ Int)):=
 match s with
  | (nO,vT)=>
  if vT< (a_0.length:Int) then
  ((rd a_0 vT).bind fun x20=>
  (wP x20 nO).bind fun x23=>
  if x23<0 then
  (some (.inr (.inr (-1))))
  else (some (.inl (x23,(w64 (vT+1))))))
  else (some (.inr (.inl nO)))
noncomputable def uP (a_0:(List dn)) (fJ:Int):Option Int:=
 if (w64 (fJ - (a_0.length:Int))) <0 then
  (some (-1))
  else ((aG (oP a_0) ((w64 (fJ - (a_0.length:Int))),0)).bind fun o=>match o with
  | (.inl jZ)=>(some jZ)
  | (.inr r2)=>(some r2))
noncomputable def qA (a_0:aA) (fJ:Int):Option Int:=
 (rY a_0.bn fJ).bind fun x8=>
   if x8<0 then
   (some (-1))
   else ((uP a_0.aB x8).bind fun x14=>
   if x14<0 then
   (some (-1))
   else (some x14))
noncomputable def su (a_0:ai) (fJ:Int):Option Int:=
 if (w64 (fJ - (a_0.jo.size:Int))) <0 then
  (some (-1))
  else (some (w64 (fJ - (a_0.jo.size:Int))))
noncomputable def mG (a_0:(List ai)) (s:(Int×Int)):Option ((Int×Int) ⊕ (Int ⊕ Int)):=
 match s with
  | (nO,vT)=>
  if vT< (a_0.length:Int) then
  ((rd a_0 vT).bind fun x20=>
  (su x20 nO).bind fun x23=>
  if x23<0 then
  (some (.inr (.inr (-1))))
  else (some (.inl (x23,(w64 (vT+1))))))
  else (some (.inr (.inl nO)))
noncomputable def qB (a_0:(List ai)) (fJ:Int):Option Int:=
 if (w64 (fJ - (a_0.length:Int))) <0 then
  (some (-1))
  else ((aG (mG a_0) ((w64 (fJ - (a_0.length:Int))),0)).bind fun o=>match o with
  | (.inl jZ)=>(some jZ)
  | (.inr r2)=>(some r2))
noncomputable def uQ (a_0:af):Option af:=
 some a_0
noncomputable def nP (a_0:(List af)) (s:(Int×(List af))):Option ((Int×(List af)) ⊕ (List af)):=
 match s with
  | (bV,aX)=>
  if bV< (a_0.length:Int) then
  ((rd a_0 bV).bind fun x18=>
  (uQ x18).bind fun x20=>
  (rd aX bV).bind fun x21=>
  some (.inl ((w64 (bV+1)),(aX.set bV.toNat x20))))
  else (some (.inr aX))
noncomputable def sG (a_0:(List af)):Option (List af):=
 (mkl 16 (a_0.length:Int) (⟨0,0⟩:af)).bind fun x7=>
   (aG (nP a_0) (0,x7)).bind fun bz=>
   some bz
noncomputable def nR (a_0:(List Int)) (s:(Int×(List Int))):Option ((Int×(List Int)) ⊕ (List Int)):=
 match s with
  | (bV,aX)=>
  if bV< (a_0.length:Int) then
  ((rd a_0 bV).bind fun x18=>
  (rd aX bV).bind fun x20=>
  some (.inl ((w64 (bV+1)),(aX.set bV.toNat x18))))
  else (some (.inr aX))
noncomputable def sH (a_0:(List Int)):Option (List Int):=
 (mkl 8 (a_0.length:Int) 0).bind fun x7=>
   (aG (nR a_0) (0,x7)).bind fun bz=>
   some bz
noncomputable def wQ (a_0:dn):Option dn:=
 (sH a_0.Ring).bind fun x9=>
   some (⟨a_0.Name,x9⟩:dn)
noncomputable def oQ (a_0:(List dn)) (s:(Int×(List dn))):Option ((Int×(List dn)) ⊕ (List dn)):=
 match s with
  | (bV,aX)=>
  if bV< (a_0.length:Int) then
  ((rd a_0 bV).bind fun x18=>
  (wQ x18).bind fun x20=>
  (rd aX bV).bind fun x21=>
  some (.inl ((w64 (bV+1)),(aX.set bV.toNat x20))))
  else (some (.inr aX))
noncomputable def uS (a_0:(List dn)):Option (List dn):=
 (mkl 40 (a_0.length:Int) (⟨(⟨#[]⟩:ByteArray),([]:List Int)⟩:dn)).bind fun x7=>
   (aG (oQ a_0) (0,x7)).bind fun bz=>
   some bz
noncomputable def ku (a_0:aA):Option aA:=
 (sG a_0.bn).bind fun x12=>
   (uS a_0.aB).bind fun x16=>
   some (⟨a_0.Width,a_0.Height,x12,x16⟩:aA)
noncomputable def sJ (a_0:ai):Option ai:=
 some a_0
noncomputable def mJ (a_0:(List ai)) (s:(Int×(List ai))):Option ((Int×(List ai)) ⊕ (List ai)):=
 match s with
  | (bV,aX)=>
  if bV< (a_0.length:Int) then
  ((rd a_0 bV).bind fun x18=>
  (sJ x18).bind fun x20=>
  (rd aX bV).bind fun x21=>
  some (.inl ((w64 (bV+1)),(aX.set bV.toNat x20))))
  else (some (.inr aX))
noncomputable def kz (a_0:(List ai)):Option (List ai):=
 (mkl 32 (a_0.length:Int) (⟨(⟨#[]⟩:ByteArray),0,0⟩:ai)).bind fun x7=>
   (aG (mJ a_0) (0,x7)).bind fun bz=>
   some bz
noncomputable def fZ (n_0:Int) (Au:Int) (vU:Int):Option Bool:=
 some ((decide (n_0≥Au))&&(decide (n_0≤vU)))
noncomputable def kE (d_0:aA) (dM:Int) (EX:Int):Option (Int ⊕ (Unit ⊕ Bool)):=
 if EX<dM then
  ((rd d_0.bn dM).bind fun x60=>
  (rd d_0.bn EX).bind fun x67=>
  if (x60.X=x67.X∧x60.Y=x67.Y) then
  (some (.inr (.inr false)))
  else (some (.inl (w64 (EX+1)))))
  else (some (.inr (.inl ())))
noncomputable def kF (d_0:aA) (dM:Int):Option (Int ⊕ (Unit ⊕ Bool)):=
 if dM< (d_0.bn.length:Int) then
  ((rd d_0.bn dM).bind fun x25=>
  (fZ x25.X 0 d_0.Width).bind fun x32=>
  (if x32=true then
  ((rd d_0.bn dM).bind fun x40=>
  (fZ x40.Y 0 d_0.Height).bind fun x47=>
  some (!x47))
  else (some true)).bind fun BD=>
  if BD=true then
  (some (.inr (.inr false)))
  else ((aG (kE d_0 dM) 0).bind fun o=>match o with
  | (.inl _)=>(some (.inl (w64 (dM+1))))
  | (.inr r2)=>(some (.inr (.inr r2)))))
  else (some (.inr (.inl ())))
noncomputable def uT (d_0:aA):Option Bool:=
 if (d_0.bn.length:Int) >48 then
  (some false)
  else ((aG (kF d_0) 0).bind fun o=>match o with
  | (.inl _)=>(some true)
  | (.inr r2)=>(some r2))
noncomputable def ny (c_0:Int):Option Bool:=
 some ((decide (c_0≥97))&&(decide (c_0≤122)))
noncomputable def sN (c_0:Int):Option Bool:=
 some ((decide (c_0≥48))&&(decide (c_0≤57)))
noncomputable def kK (s_0:ByteArray) (dM:Int):Option (Int ⊕ (Unit ⊕ Bool)):=
 if dM< (s_0.size:Int) then
  ((bt s_0 dM).bind fun x25=>
  (ny x25).bind fun x26=>
  (if x26=true then
  (some false)
  else ((bt s_0 dM).bind fun x31=>
  (sN x31).bind fun x32=>
  some (!x32))).bind fun OH=>
  if OH=true then
  (some (.inr (.inr false)))
  else (some (.inl (w64 (dM+1)))))
  else (some (.inr (.inl ())))
noncomputable def uU (s_0:ByteArray):Option Bool:=
 (if s_0=(⟨#[]⟩:ByteArray) then
   (some true)
   else (if (s_0.size:Int) >10 then
   (some true)
   else ((bt s_0 0).bind fun x13=>
   (ny x13).bind fun x14=>
   some (!x14)))).bind fun BF=>
   if BF=true then
   (some false)
   else ((aG (kK s_0) 0).bind fun o=>match o with
   | (.inl _)=>(some true)
   | (.inr r2)=>(some r2))
noncomputable def xN (d_0:aA) (lG:(List Int)) (s:(Int×(List af))):Option ((Int×(List af)) ⊕ ((List af) ⊕ ((List af)×Bool))):=
 match s with
  | (BG,l9)=>
  if BG< (lG.length:Int) then
  ((rd lG BG).bind fun x17=>
  (fZ x17 0 (w64 ((d_0.bn.length:Int) - 1))).bind fun x25=>
  if x25=true then
  ((rd lG BG).bind fun x34=>
  (rd d_0.bn x34).bind fun x36=>
  (apd 16 l9 ([x36]:List af)).bind fun x39=>
  some (.inl ((w64 (BG+1)),x39)))
  else (some (.inr (.inr (([]:List af),false)))))
  else (some (.inr (.inl l9)))
noncomputable def uV (d_0:aA) (lG:(List Int)):Option ((List af)×Bool):=
 (aG (xN d_0 lG) (0,([]:List af))).bind fun o=>match o with
   | (.inl kC)=>(some (kC,true))
   | (.inr r2)=>(some r2)
noncomputable def EY (p_0:af):Option Bool:=
 (fZ p_0.X 0 20000).bind fun x5=>
   (if x5=true then
   ((fZ p_0.Y 0 20000).bind fun x9=>
   some x9)
   else (some false)).bind fun lH=>
   some lH
noncomputable def wE (a_0:af) (b_1:af) (c_2:af):Option Int:=
 some (w64 ((w64 ((w64 (b_1.X - a_0.X)) * (w64 (c_2.Y - a_0.Y)))) - (w64 ((w64 (b_1.Y - a_0.Y)) * (w64 (c_2.X - a_0.X))))))
noncomputable def kU (a_0:af) (b_1:af) (c_2:af):Option Int:=
 (wE a_0 b_1 c_2).bind fun x11=>
   if x11>0 then
   (some 1)
   else (if x11<0 then
   (some (-1))
   else (some 0))
noncomputable def mM (a_0:Int) (b_1:Int):Option Int:=
 if a_0<b_1 then
  (some a_0)
  else (some b_1)
noncomputable def kW (a_0:Int) (b_1:Int):Option Int:=
 if a_0>b_1 then
  (some a_0)
  else (some b_1)
noncomputable def nC (a_0:af) (b_1:af) (p_2:af):Option Bool:=
 (kU a_0 b_1 p_2).bind fun x10=>
   (if x10=0 then
   ((mM a_0.X b_1.X).bind fun x19=>
   (kW a_0.X b_1.X).bind fun x24=>
   (fZ p_2.X x19 x24).bind fun x25=>
   if x25=true then
   ((mM a_0.Y b_1.Y).bind fun x34=>
   (kW a_0.Y b_1.Y).bind fun x39=>
   (fZ p_2.Y x34 x39).bind fun x40=>
   some x40)
   else (some false))
   else (some false)).bind fun lI=>
   some lI
noncomputable def oU (a_0:af) (b_1:af) (c_2:af) (d_3:af):Option Bool:=
 (kU a_0 b_1 c_2).bind fun x12=>
   (kU a_0 b_1 d_3).bind fun x16=>
   (if (w64 (x12*x16)) <0 then
   ((kU c_2 d_3 a_0).bind fun x23=>
   (kU c_2 d_3 b_1).bind fun x27=>
   some (decide ((w64 (x23*x27)) <0)))
   else (some false)).bind fun tZ=>
   some tZ
noncomputable def uX (a_0:af) (b_1:af) (c_2:af) (d_3:af):Option Bool:=
 (oU a_0 b_1 c_2 d_3).bind fun x13=>
   (if x13=true then
   (some true)
   else ((nC a_0 b_1 c_2).bind fun x18=>
   if x18=true then
   (some true)
   else ((nC a_0 b_1 d_3).bind fun x24=>
   if x24=true then
   (some true)
   else ((nC c_2 d_3 a_0).bind fun x30=>
   if x30=true then
   (some true)
   else ((nC c_2 d_3 b_1).bind fun x36=>
   some x36))))).bind fun tZ=>
   some tZ
noncomputable def xO (p_0:(List af)) (s:(Int×Int)):Option ((Int×Int) ⊕ Int):=
 match s with
  | (lJ,bV)=>
  if bV< (p_0.length:Int) then
  ((md (w64 (bV+1)) (p_0.length:Int)).bind fun x17=>
  (rd p_0 x17).bind fun x18=>
  (rd p_0 bV).bind fun x23=>
  (rd p_0 bV).bind fun x31=>
  some (.inl ((w64 (lJ+(w64 ((w64 (x23.X*x18.Y)) - (w64 (x31.Y*x18.X)))))),(w64 (bV+1)))))
  else (some (.inr lJ))
noncomputable def uY (p_0:(List af)):Option Int:=
 (aG (xO p_0) (0,0)).bind fun oL=>
   some oL
noncomputable def uZ (kV:Int) (p_0:(List af)) (x36:af) (x43:af) (yh:Int):Option (Int ⊕ (Unit ⊕ Bool)):=
 if yh< (p_0.length:Int) then
  ((md (w64 (yh+1)) (p_0.length:Int)).bind fun x77=>
  (if x77≠kV then
  ((rd p_0 yh).bind fun x85=>
  (md (w64 (yh+1)) (p_0.length:Int)).bind fun x91=>
  (rd p_0 x91).bind fun x92=>
  (uX x36 x43 x85 x92).bind fun x94=>
  some x94)
  else (some false)).bind fun KQ=>
  if KQ=true then
  (some (.inr (.inr false)))
  else (some (.inl (w64 (yh+1)))))
  else (some (.inr (.inl ())))
noncomputable def ve (p_0:(List af)) (kV:Int):Option (Int ⊕ (Unit ⊕ Bool)):=
 if kV< (p_0.length:Int) then
  ((rd p_0 kV).bind fun x36=>
  (md (w64 (kV+1)) (p_0.length:Int)).bind fun x42=>
  (rd p_0 x42).bind fun x43=>
  (md (w64 (kV+2)) (p_0.length:Int)).bind fun x49=>
  (rd p_0 x49).bind fun x50=>
  (if (x36.X=x43.X∧x36.Y=x43.Y) then
  (some true)
  else ((nC x36 x43 x50).bind fun x59=>
  if x59=true then
  (some true)
  else ((nC x43 x50 x36).bind fun x65=>
  some x65))).bind fun KR=>
  if KR=true then
  (some (.inr (.inr false)))
  else ((aG (uZ kV p_0 x36 x43) (w64 (kV+2))).bind fun o=>match o with
  | (.inl _)=>(some (.inl (w64 (kV+1))))
  | (.inr r2)=>(some (.inr (.inr r2)))))
  else (some (.inr (.inl ())))
noncomputable def zM (p_0:(List af)) (Hy:Int):Option (Int ⊕ (Unit ⊕ Bool)):=
 if Hy< (p_0.length:Int) then
  ((rd p_0 Hy).bind fun x25=>
  (EY x25).bind fun x27=>
  if x27=true then
  (some (.inl (w64 (Hy+1))))
  else (some (.inr (.inr false))))
  else (some (.inr (.inl ())))
noncomputable def yG (p_0:(List af)):Option Bool:=
 if ((p_0.length:Int) <3∨(p_0.length:Int) >24) then
  (some false)
  else ((aG (zM p_0) 0).bind fun o=>match o with
  | (.inl _)=>((aG (ve p_0) 0).bind fun o=>match o with
  | (.inl _)=>((uY p_0).bind fun x97=>
  some (decide (x97>0)))
  | (.inr r2)=>(some r2))
  | (.inr r2)=>(some r2))
noncomputable def pU (d_0:aA) (dM:Int):Option (Int ⊕ (Unit ⊕ Bool)):=
 if dM< (d_0.aB.length:Int) then
  ((rd d_0.aB dM).bind fun x47=>
  (uU x47.Name).bind fun x50=>
  (if x50=true then
  (if dM>0 then
  ((rd d_0.aB (w64 (dM - 1))).bind fun x62=>
  (rd d_0.aB dM).bind fun x70=>
  some (!Op.bytesLess x62.Name.toList x70.Name.toList))
  else (some false))
  else (some true)).bind fun OI=>
  if OI=true then
  (some (.inr (.inr false)))
  else ((rd d_0.aB dM).bind fun x83=>
  (uV d_0 x83.Ring).bind fun x86=>
  (if x86.2=true then
  ((yG x86.1).bind fun x93=>
  some (!x93))
  else (some true)).bind fun Gp=>
  if Gp=true then
  (some (.inr (.inr false)))
  else (some (.inl (w64 (dM+1))))))
  else (some (.inr (.inl ())))
noncomputable def yH (d_0:aA):Option Bool:=
 (fZ d_0.Width 10 20000).bind fun x10=>
   (if x10=true then
   ((fZ d_0.Height 10 20000).bind fun x17=>
   if x17=true then
   ((uT d_0).bind fun x22=>
   if x22=true then
   (some (decide ((d_0.aB.length:Int) >24)))
   else (some true))
   else (some true))
   else (some true)).bind fun OJ=>
   if OJ=true then
   (some false)
   else ((aG (pU d_0) 0).bind fun o=>match o with
   | (.inl _)=>(some true)
   | (.inr r2)=>(some r2))
noncomputable def wF:Option (List ByteArray):=
 some ([(⟨#[97,115,104]⟩:ByteArray),(⟨#[98,101,101,99,104]⟩:ByteArray),(⟨#[98,105,114,99,104]⟩:ByteArray),(⟨#[99,104,101,114,114,121]⟩:ByteArray),(⟨#[101,98,111,110,121]⟩:ByteArray),(⟨#[104,111,108,108,121]⟩:ByteArray),(⟨#[109,97,112,108,101]⟩:ByteArray),(⟨#[111,97,107]⟩:ByteArray),(⟨#[114,111,115,101,119,111,111,100]⟩:ByteArray),(⟨#[119,97,108,110,117,116]⟩:ByteArray)]:List ByteArray)
noncomputable def oV (jJ:ByteArray) (x5:(List ByteArray)) (bV:Int):Option (Int ⊕ (Unit ⊕ Int)):=
 if bV< (x5.length:Int) then
  ((rd x5 bV).bind fun x14=>
  if x14=jJ then
  (some (.inr (.inr bV)))
  else (some (.inl (w64 (bV+1)))))
  else (some (.inr (.inl ())))
noncomputable def qV (jJ:ByteArray):Option Int:=
 (wF).bind fun x5=>
   (aG (oV jJ x5) 0).bind fun o=>match o with
   | (.inl _)=>(some (-1))
   | (.inr r2)=>(some r2)
noncomputable def wG:Option (List (List Int)):=
 some ([([20,40,310]:List Int),([35,45,410]:List Int),([15,33,280]:List Int),([50,36,240]:List Int),([95,85,270]:List Int),([5,35,370]:List Int),([10,42,290]:List Int),([40,40,330]:List Int),([80,60,220]:List Int),([70,38,260]:List Int)]:List (List Int))
noncomputable def wH (g_0:Int):Option Bool:=
 (fZ g_0 0 179).bind fun x4=>
   some x4
noncomputable def ug (v_0:ai):Option Bool:=
 (qV v_0.jo).bind fun x9=>
   (if x9<0 then
   (some true)
   else ((fZ v_0.dV 0 100).bind fun x17=>
   some (!x17))).bind fun OL=>
   if OL=true then
   (some false)
   else ((wG).bind fun x20=>
   (rd x20 x9).bind fun x22=>
   (rd x22 0).bind fun x24=>
   (fZ v_0.dV (w64 (x24 - 15)) (w64 (x24+15))).bind fun x34=>
   (if x34=true then
   ((wH v_0.aZ).bind fun x40=>
   some x40)
   else (some false)).bind fun SI=>
   some SI)
noncomputable def lK (cu:(List ai)) (Hz:Int):Option (Int ⊕ (Unit ⊕ Bool)):=
 if Hz< (cu.length:Int) then
  ((rd cu Hz).bind fun x12=>
  (ug x12).bind fun x13=>
  if x13=true then
  (some (.inl (w64 (Hz+1))))
  else (some (.inr (.inr false))))
  else (some (.inr (.inl ())))
noncomputable def oW (cu:(List ai)):Option Bool:=
 (aG (lK cu) 0).bind fun o=>match o with
   | (.inl _)=>(some true)
   | (.inr r2)=>(some r2)
noncomputable def wR (d_0:aA) (aK:(List ai)) (aW:Int) (eU:Int):Option Int:=
 (yH d_0).bind fun x10=>
   (if x10=true then
   ((oW aK).bind fun x14=>
   some (!x14))
   else (some true)).bind fun BF=>
   if BF=true then
   (some 1)
   else ((if (aK.length:Int) <1 then
   (some true)
   else (if (aK.length:Int) >10 then
   (some true)
   else ((fZ aW 0 115).bind fun x27=>
   if x27=true then
   ((fZ eU 1 20000).bind fun x32=>
   some (!x32))
   else (some true)))).bind fun OO=>
   if OO=true then
   (some 2)
   else (some 0))
noncomputable def lM (i_1:Int) (k_2:Int) (kL:(List Int)) (Dp:Int):Option (Int ⊕ (Unit ⊕ Bool)):=
 if Dp< (kL.length:Int) then
  ((rd kL Dp).bind fun x18=>
  (md (w64 (Dp+1)) (kL.length:Int)).bind fun x25=>
  (rd kL x25).bind fun x26=>
  (if x18=i_1 then
  (if x26=k_2 then
  (some true)
  else (if x18=k_2 then
  (some (x26==i_1))
  else (some false)))
  else (if x18=k_2 then
  (some (x26==i_1))
  else (some false))).bind fun OQ=>
  if OQ=true then
  (some (.inr (.inr true)))
  else (some (.inl (w64 (Dp+1)))))
  else (some (.inr (.inl ())))
noncomputable def oZ (kL:(List Int)) (i_1:Int) (k_2:Int):Option Bool:=
 (aG (lM i_1 k_2 kL) 0).bind fun o=>match o with
   | (.inl _)=>(some false)
   | (.inr r2)=>(some r2)
noncomputable def o5 (jK:Int) (Aw:(List Int)):Option ((Int×(List Int)) ⊕ (List Int)):=
 some (.inl ((w64 (jK+1)),Aw))
noncomputable def o6 (d_0:aA) (jK:Int) (x16:dn) (s:(Bool×Int)):Option ((Bool×Int) ⊕ Bool):=
 match s with
  | (yI,Dq)=>
  if Dq< (x16.Ring.length:Int) then
  ((if yI=true then
  (some true)
  else ((rd d_0.aB jK).bind fun x41=>
  (rd x16.Ring Dq).bind fun x46=>
  (md (w64 (Dq+1)) (x16.Ring.length:Int)).bind fun x53=>
  (rd x16.Ring x53).bind fun x54=>
  (oZ x41.Ring x46 x54).bind fun x56=>
  some x56)).bind fun Dt=>
  some (.inl (Dt,(w64 (Dq+1)))))
  else (some (.inr yI))
noncomputable def o7 (d_0:aA) (k_1:Int) (x16:dn) (s:(Int×(List Int))):Option ((Int×(List Int)) ⊕ (List Int)):=
 match s with
  | (jK,eH)=>
  if jK< (d_0.aB.length:Int) then
  ((aG (o6 d_0 jK x16) (false,0)).bind fun qW=>
  if (jK≠k_1∧qW=true) then
  ((apd 8 eH ([jK]:List Int)).bind fun x67=>
  o5 jK x67)
  else (o5 jK eH))
  else (some (.inr eH))
noncomputable def vg (d_0:aA) (k_1:Int):Option (List Int):=
 (rd d_0.aB k_1).bind fun x16=>
   (aG (o7 d_0 k_1 x16) (0,([]:List Int))).bind fun jC=>
   some jC
noncomputable def kX (xP:Int) (Az:(List (List Int))):Option ((Int×(List (List Int))) ⊕ (List (List Int))):=
 some (.inl ((w64 (xP+1)),Az))
noncomputable def iK (rJ:Int) (x19:(List Int)) (s:(Int×(List (List Int)))):Option ((Int×(List (List Int))) ⊕ (List (List Int))):=
 match s with
  | (xP,vV)=>
  if xP< (x19.length:Int) then
  ((rd x19 xP).bind fun x28=>
  if x28>rJ then
  ((rd x19 xP).bind fun x36=>
  (apd 24 vV ([([rJ,x36]:List Int)]:List (List Int))).bind fun x40=>
  kX xP x40)
  else (kX xP vV))
  else (some (.inr vV))
noncomputable def kZ (d_0:aA) (s:(Int×(List (List Int)))):Option ((Int×(List (List Int))) ⊕ (List (List Int))):=
 match s with
  | (rJ,aX)=>
  if rJ< (d_0.aB.length:Int) then
  ((vg d_0 rJ).bind fun x19=>
  (aG (iK rJ x19) (0,aX)).bind fun zG=>
  some (.inl ((w64 (rJ+1)),zG)))
  else (some (.inr aX))
noncomputable def sO (d_0:aA):Option (List (List Int)):=
 (aG (kZ d_0) (0,([]:List (List Int)))).bind fun bz=>
   some bz
noncomputable def wI (a_0:Int) (b_1:Int):Option Int:=
 (kW (w64 (a_0 - b_1)) (w64 (b_1 - a_0))).bind fun x12=>
   (mM x12 (w64 (180 - x12))).bind fun x16=>
   some x16
noncomputable def nS (a_0:ai) (b_1:ai):Option Int:=
 (kW (w64 (a_0.dV - b_1.dV)) (w64 (b_1.dV - a_0.dV))).bind fun x23=>
   (wI a_0.aZ b_1.aZ).bind fun x32=>
   (dv .i64 x32 6).bind fun x33=>
   some (w64 (x23+x33))
noncomputable def o8 (o9:Int) (aK:(List ai)) (s:(Int×(List Int))):Option ((Int×(List Int)) ⊕ (List Int)):=
 match s with
  | (yJ,wU)=>
  if yJ< (aK.length:Int) then
  ((rd aK o9).bind fun x94=>
  (rd aK yJ).bind fun x97=>
  (nS x94 x97).bind fun x98=>
  (apd 8 wU ([x98]:List Int)).bind fun x100=>
  some (.inl ((w64 (yJ+1)),x100)))
  else (some (.inr wU))
noncomputable def pg (aK:(List ai)) (s:(Int×(List (List Int)))):Option ((Int×(List (List Int))) ⊕ (List (List Int))):=
 match s with
  | (o9,oC)=>
  if o9< (aK.length:Int) then
  ((aG (o8 o9 aK) (0,([]:List Int))).bind fun pV=>
  (apd 24 oC ([pV]:List (List Int))).bind fun acQ=>
  some (.inl ((w64 (o9+1)),acQ)))
  else (some (.inr oC))
noncomputable def qC (x40:(List (List Int))) (s:(Int×(List (List Int)))):Option ((Int×(List (List Int))) ⊕ (List (List Int))):=
 match s with
  | (BH,uh)=>
  if BH< (x40.length:Int) then
  ((rd x40 BH).bind fun x71=>
  (rd x71 0).bind fun x73=>
  (rd x71 1).bind fun x55=>
  (rd uh x55).bind fun x67=>
  (apd 8 x67 ([x73]:List Int)).bind fun x76=>
  some (.inl ((w64 (BH+1)),(uh.set x55.toNat x76))))
  else (some (.inr uh))
noncomputable def nU (d_0:aA) (s:(Int×(List (List Int)))):Option ((Int×(List (List Int))) ⊕ (List (List Int))):=
 match s with
  | (Eb,yK)=>
  if Eb< (d_0.aB.length:Int) then
  ((apd 24 yK ([([]:List Int)]:List (List Int))).bind fun x36=>
  some (.inl ((w64 (Eb+1)),x36)))
  else (some (.inr yK))
noncomputable def wV (d_0:aA) (aK:(List ai)) (aW:Int) (eU:Int):Option aH:=
 (aG (nU d_0) (0,([]:List (List Int)))).bind fun yj=>
   (sO d_0).bind fun x40=>
   (aG (qC x40) (0,yj)).bind fun jP=>
   (aG (pg aK) (0,([]:List (List Int)))).bind fun wJ=>
   some (⟨jP,wJ,aW,10,([]:List Int),0,eU,false⟩:aH)
noncomputable def pq (yL:(List Int)):Option (List Int):=
 some yL
noncomputable def iY (uj:Int) (cu:(List Int)) (yM:Bool) (yN:(List Int)):Option ((Bool×Int×(List Int)) ⊕ (Bool×(List Int))):=
 (rd cu uj).bind fun x38=>
   (apd 8 yN ([x38]:List Int)).bind fun x41=>
   some (.inl (yM,(w64 (uj+1)),x41))
noncomputable def gm (cu:(List Int)) (n_1:Int) (s:(Bool×Int×(List Int))):Option ((Bool×Int×(List Int)) ⊕ (Bool×(List Int))):=
 match s with
  | (uB,uj,eH)=>
  if uj< (cu.length:Int) then
  ((if uB=true then
  (some false)
  else ((rd cu uj).bind fun x20=>
  some (decide (x20≥n_1)))).bind fun OT=>
  if OT=true then
  ((rd cu uj).bind fun x27=>
  if x27>n_1 then
  ((apd 8 eH ([n_1]:List Int)).bind fun x34=>
  iY uj cu true x34)
  else (iY uj cu true eH))
  else (iY uj cu uB eH))
  else (some (.inr (uB,eH)))
noncomputable def wW (cu:(List Int)) (n_1:Int):Option (List Int):=
 (aG (gm cu n_1) (false,0,([]:List Int))).bind fun o=>match o with
   | (uC,jC)=>
   if uC=true then
   (pq jC)
   else ((apd 8 jC ([n_1]:List Int)).bind fun x47=>
   pq x47)
noncomputable def qE (cu:(List Int)) (n_1:Int) (aY:Int):Option (Int ⊕ (Unit ⊕ Bool)):=
 if aY< (cu.length:Int) then
  ((rd cu aY).bind fun x14=>
  if x14=n_1 then
  (some (.inr (.inr true)))
  else (some (.inl (w64 (aY+1)))))
  else (some (.inr (.inl ())))
noncomputable def wX (cu:(List Int)) (n_1:Int):Option Bool:=
 (aG (qE cu n_1) 0).bind fun o=>match o with
   | (.inl _)=>(some false)
   | (.inr r2)=>(some r2)
noncomputable def fK (self:aH→Option (Bool×aH)) (gp:Int) (AA:(List (List Int))) (AB:(List (List Int))) (AL:Int) (AO:Int) (AP:(List Int)) (AQ:Int) (AU:Int) (AX:Bool):Option ((Int×(List (List Int))×(List (List Int))×Int×Int×(List Int)×Int×Int×Bool) ⊕ (((List (List Int))×(List (List Int))×Int×Int×(List Int)×Int×Int×Bool) ⊕ (Bool×aH))):=
 some (.inl ((w64 (gp+1)),AA,AB,AL,AO,AP,AQ,AU,AX))
noncomputable def bI (self:aH→Option (Bool×aH)) (gp:Int) (x_0:aH) (bJ:(List (List Int))) (bK:(List (List Int))) (bM:Int) (bW:Int) (bP:(List Int)) (cZ:Int) (dh:Int) (nD:Bool):Option ((Int×(List (List Int))×(List (List Int))×Int×Int×(List Int)×Int×Int×Bool) ⊕ (((List (List Int))×(List (List Int))×Int×Int×(List Int)×Int×Int×Bool) ⊕ (Bool×aH))):=
 if nD=true then
  (some (.inr (.inr (false,(⟨bJ,bK,bM,bW,bP,cZ,dh,nD⟩:aH)))))
  else ((apd 8 bP ([gp]:List Int)).bind fun Y9=>
  (self (⟨bJ,bK,bM,bW,Y9,(w64 (cZ+1)),dh,nD⟩:aH)).bind fun mO=>
  if mO.1=true then
  (some (.inr (.inr (true,mO.2))))
  else ((slc mO.2.choice 0 (x_0.choice.length:Int)).bind fun agn=>
  fK self gp mO.2.before mO.2.table mO.2.limit mO.2.most ((mO.2.choice.take ((x_0.choice.length:Int).toNat)).drop 0) mO.2.nodes mO.2.budget mO.2.full))
noncomputable def dQ (self:aH→Option (Bool×aH)) (gp:Int) (x_0:aH) (bJ:(List (List Int))) (bK:(List (List Int))) (bM:Int) (bP:(List Int)) (s:(Bool×Int)):Option ((Bool×Int) ⊕ Bool):=
 match s with
  | (kM,qh)=>
  (rd bJ (x_0.choice.length:Int)).bind fun x63=>
  if (qh< (x63.length:Int)∧kM=true) then
  ((rd bK gp).bind fun x77=>
  (rd bJ (x_0.choice.length:Int)).bind fun x88=>
  (rd x88 qh).bind fun x91=>
  (rd bP x91).bind fun x93=>
  (rd x77 x93).bind fun x95=>
  some (.inl ((decide (x95≥bM)),(w64 (qh+1)))))
  else (some (.inr kM))
noncomputable def fM (self:aH→Option (Bool×aH)) (x_0:aH) (bP:(List Int)) (s:(Int×(List Int))):Option ((Int×(List Int)) ⊕ (List Int)):=
 match s with
  | (HY,yO)=>
  if HY< (x_0.choice.length:Int) then
  ((rd bP HY).bind fun x42=>
  (wW yO x42).bind fun x44=>
  some (.inl ((w64 (HY+1)),x44)))
  else (some (.inr yO))
noncomputable def dB (self:aH→Option (Bool×aH)) (x_0:aH) (s:(Int×(List (List Int))×(List (List Int))×Int×Int×(List Int)×Int×Int×Bool)):Option ((Int×(List (List Int))×(List (List Int))×Int×Int×(List Int)×Int×Int×Bool) ⊕ (((List (List Int))×(List (List Int))×Int×Int×(List Int)×Int×Int×Bool) ⊕ (Bool×aH))):=
 match s with
  | (gp,bJ,bK,bM,bW,bP,cZ,dh,fE)=>
  if gp< (bK.length:Int) then
  ((aG (fM self x_0 bP) (0,([]:List Int))).bind fun oM=>
  (wX oM gp).bind fun x47=>
  (aG (dQ self gp x_0 bJ bK bM bP) ((x47||(decide ((oM.length:Int) <bW))),0)).bind fun vk=>
  if vk=true then
  (if cZ=dh then
  (bI self gp x_0 bJ bK bM bW bP cZ dh true)
  else (bI self gp x_0 bJ bK bM bW bP cZ dh fE))
  else (fK self gp bJ bK bM bW bP cZ dh fE))
  else (some (.inr (.inl (bJ,bK,bM,bW,bP,cZ,dh,fE))))
noncomputable def gu (self:aH→Option (Bool×aH)) (x_0:aH):Option (Bool×aH):=
 if (x_0.choice.length:Int)=(x_0.before.length:Int) then
  (some (true,x_0))
  else ((aG (dB self x_0) (0,x_0.before,x_0.table,x_0.limit,x_0.most,x_0.choice,x_0.nodes,x_0.budget,x_0.full)).bind fun o=>match o with
  | (.inl (wY,wZ,xe,xg,xh,xk,xm,xu))=>(some (false,(⟨wY,wZ,xe,xg,xh,xk,xm,xu⟩:aH)))
  | (.inr r2)=>(some r2))
noncomputable def jb (x_0:aH):Option (Bool×aH):=Bv (fun self x_0=>gu self x_0) x_0
noncomputable def xw (cu:(List Int)):Option (List Int):=
 (apd 8 ([]:List Int) cu).bind fun x5=>
   some x5
noncomputable def bY (s:((List (List Int))×(List (List Int))×Int×Int×(List Int)×Int×Int×Bool)):Option (((List (List Int))×(List (List Int))×Int×Int×(List Int)×Int×Int×Bool) ⊕ (Unit ⊕ ((List Int)×Int×Int))):=
 match s with
  | (yP,yQ,vW,yR,yS,yT,yU,yV)=>
  if vW≥0 then
  ((jb (⟨yP,yQ,vW,yR,yS,yT,yU,yV⟩:aH)).bind fun x36=>
  if x36.1=true then
  ((xw x36.2.choice).bind fun x41=>
  some (.inr (.inr (x41,x36.2.limit,0))))
  else (if x36.2.full=true then
  (some (.inr (.inl ())))
  else (some (.inl (x36.2.before,x36.2.table,(w64 (x36.2.limit - 1)),x36.2.most,x36.2.choice,x36.2.nodes,x36.2.budget,x36.2.full)))))
  else (some (.inr (.inl ())))
noncomputable def mP (d_0:aA) (aK:(List ai)) (nV:Int):Option ((List Int)×Int×Int):=
 (wR d_0 aK 0 nV).bind fun x13=>
   if x13≠0 then
   (some (([]:List Int),0,x13))
   else ((wV d_0 aK 0 nV).bind fun x19=>
   (aG (bY) (x19.before,x19.table,115,x19.most,x19.choice,x19.nodes,x19.budget,x19.full)).bind fun o=>match o with
   | (.inl _)=>(some (([]:List Int),0,5))
   | (.inr r2)=>(some r2))
noncomputable def di (n_0:Int) (Au:Int) (vU:Int):Option Bool:=
 some ((decide (n_0≥Au))&&(decide (n_0≤vU)))
noncomputable def dJ (s_0:(List af)) (v_1:af) (fC:Int):Option (Int ⊕ (Unit ⊕ Int)):=
 if fC< (s_0.length:Int) then
  ((rd s_0 fC).bind fun x14=>
  if (v_1.X=x14.X∧v_1.Y=x14.Y) then
  (some (.inr (.inr fC)))
  else (some (.inl (w64 (fC+1)))))
  else (some (.inr (.inl ())))
noncomputable def gz (s_0:(List af)) (v_1:af):Option Int:=
 (aG (dJ s_0 v_1) 0).bind fun o=>match o with
   | (.inl _)=>(some (-1))
   | (.inr r2)=>(some r2)
noncomputable def dK (s_0:(List af)) (v_1:af):Option Bool:=
 (gz s_0 v_1).bind fun x7=>
   some (decide (x7≥0))
noncomputable def qF (s_0:ByteArray) (dM:Int):Option (Int ⊕ (Unit ⊕ Bool)):=
 if dM< (s_0.size:Int) then
  ((bt s_0 dM).bind fun x30=>
  (if x30<97 then
  ((bt s_0 dM).bind fun x41=>
  if x41<48 then
  (some true)
  else ((bt s_0 dM).bind fun x46=>
  some (decide (x46>57))))
  else ((bt s_0 dM).bind fun x35=>
  if x35>122 then
  ((bt s_0 dM).bind fun x41=>
  if x41<48 then
  (some true)
  else ((bt s_0 dM).bind fun x46=>
  some (decide (x46>57))))
  else (some false))).bind fun BD=>
  if BD=true then
  (some (.inr (.inr false)))
  else (some (.inl (w64 (dM+1)))))
  else (some (.inr (.inl ())))
noncomputable def xx (s_0:ByteArray):Option Bool:=
 (if (s_0.size:Int) <1 then
   (some true)
   else (if (s_0.size:Int) >10 then
   (some true)
   else ((bt s_0 0).bind fun x14=>
   if x14<97 then
   (some true)
   else ((bt s_0 0).bind fun x19=>
   some (decide (x19>122)))))).bind fun OU=>
   if OU=true then
   (some false)
   else ((aG (qF s_0) 0).bind fun o=>match o with
   | (.inl _)=>(some true)
   | (.inr r2)=>(some r2))
noncomputable def nM (vw:(List af)) (lG:(List Int)) (s:(Int×(List af))):Option ((Int×(List af)) ⊕ ((List af) ⊕ ((List af)×Bool))):=
 match s with
  | (Ec,l9)=>
  if Ec< (lG.length:Int) then
  ((rd lG Ec).bind fun x14=>
  (di x14 0 (w64 ((vw.length:Int) - 1))).bind fun x20=>
  if x20=true then
  ((rd vw x14).bind fun x25=>
  (apd 16 l9 ([x25]:List af)).bind fun x28=>
  some (.inl ((w64 (Ec+1)),x28)))
  else (some (.inr (.inr (([]:List af),false)))))
  else (some (.inr (.inl l9)))
noncomputable def jL (vw:(List af)) (lG:(List Int)):Option ((List af)×Bool):=
 (aG (nM vw lG) (0,([]:List af))).bind fun o=>match o with
   | (.inl kC)=>(some (kC,true))
   | (.inr r2)=>(some r2)
noncomputable def pz (p_0:af):Option Bool:=
 (di p_0.X 0 20000).bind fun x5=>
   (if x5=true then
   ((di p_0.Y 0 20000).bind fun x9=>
   some x9)
   else (some false)).bind fun lH=>
   some lH
noncomputable def gU (cu:(List af)) (EZ:Int):Option (Int ⊕ (Unit ⊕ Bool)):=
 if EZ< (cu.length:Int) then
  ((rd cu EZ).bind fun x9=>
  (pz x9).bind fun x12=>
  if x12=true then
  (some (.inl (w64 (EZ+1))))
  else (some (.inr (.inr false))))
  else (some (.inr (.inl ())))
noncomputable def qX (cu:(List af)):Option Bool:=
 (aG (gU cu) 0).bind fun o=>match o with
   | (.inl _)=>(some true)
   | (.inr r2)=>(some r2)
noncomputable def nX (a_0:af) (b_1:af) (c_2:af):Option Int:=
 if (w64 ((w64 ((w64 (b_1.X - a_0.X)) * (w64 (c_2.Y - a_0.Y)))) - (w64 ((w64 (b_1.Y - a_0.Y)) * (w64 (c_2.X - a_0.X)))))) >0 then
  (some 1)
  else (if (w64 ((w64 ((w64 (b_1.X - a_0.X)) * (w64 (c_2.Y - a_0.Y)))) - (w64 ((w64 (b_1.Y - a_0.Y)) * (w64 (c_2.X - a_0.X)))))) <0 then
  (some (-1))
  else (some 0))
noncomputable def tu (a_0:af) (b_1:af) (p_2:af):Option Bool:=
 (nX a_0 b_1 p_2).bind fun x10=>
   (if x10=0 then
   ((di p_2.X (min2 a_0.X b_1.X) (max2 a_0.X b_1.X)).bind fun x25=>
   if x25=true then
   ((di p_2.Y (min2 a_0.Y b_1.Y) (max2 a_0.Y b_1.Y)).bind fun x40=>
   some x40)
   else (some false))
   else (some false)).bind fun lI=>
   some lI
noncomputable def nG (a_0:af) (b_1:af) (c_2:af) (d_3:af):Option Bool:=
 (nX a_0 b_1 c_2).bind fun x12=>
   (nX a_0 b_1 d_3).bind fun x16=>
   (if (w64 (x12*x16)) <0 then
   ((nX c_2 d_3 a_0).bind fun x23=>
   (nX c_2 d_3 b_1).bind fun x27=>
   some (decide ((w64 (x23*x27)) <0)))
   else (some false)).bind fun tZ=>
   some tZ
noncomputable def nH (a_0:af) (b_1:af) (c_2:af) (d_3:af):Option Bool:=
 (nG a_0 b_1 c_2 d_3).bind fun x13=>
   (if x13=true then
   (some true)
   else ((tu a_0 b_1 c_2).bind fun x18=>
   if x18=true then
   (some true)
   else ((tu a_0 b_1 d_3).bind fun x24=>
   if x24=true then
   (some true)
   else ((tu c_2 d_3 a_0).bind fun x30=>
   if x30=true then
   (some true)
   else ((tu c_2 d_3 b_1).bind fun x36=>
   some x36))))).bind fun tZ=>
   some tZ
noncomputable def pF (p_0:(List af)) (s:(Int×Int)):Option ((Int×Int) ⊕ Int):=
 match s with
  | (lJ,zN)=>
  if zN< (p_0.length:Int) then
  ((rd p_0 zN).bind fun x12=>
  (md (w64 (zN+1)) (p_0.length:Int)).bind fun x19=>
  (rd p_0 x19).bind fun x20=>
  some (.inl ((w64 (lJ+(w64 ((w64 (x12.X*x20.Y)) - (w64 (x12.Y*x20.X)))))),(w64 (zN+1)))))
  else (some (.inr lJ))
noncomputable def oN (p_0:(List af)):Option Int:=
 (aG (pF p_0) (0,0)).bind fun oL=>
   some oL
noncomputable def gW (p_0:(List af)) (jQ:Int) (x29:af) (x36:af) (yl:Int):Option (Int ⊕ (Unit ⊕ Bool)):=
 if yl< (p_0.length:Int) then
  ((md (w64 (yl+1)) (p_0.length:Int)).bind fun x70=>
  (if x70≠jQ then
  ((rd p_0 yl).bind fun x78=>
  (md (w64 (yl+1)) (p_0.length:Int)).bind fun x84=>
  (rd p_0 x84).bind fun x85=>
  (nH x29 x36 x78 x85).bind fun x87=>
  some x87)
  else (some false)).bind fun KT=>
  if KT=true then
  (some (.inr (.inr false)))
  else (some (.inl (w64 (yl+1)))))
  else (some (.inr (.inl ())))
noncomputable def iE (p_0:(List af)) (jQ:Int):Option (Int ⊕ (Unit ⊕ Bool)):=
 if jQ< (p_0.length:Int) then
  ((rd p_0 jQ).bind fun x29=>
  (md (w64 (jQ+1)) (p_0.length:Int)).bind fun x35=>
  (rd p_0 x35).bind fun x36=>
  (md (w64 (jQ+2)) (p_0.length:Int)).bind fun x42=>
  (rd p_0 x42).bind fun x43=>
  (if (x29.X=x36.X∧x29.Y=x36.Y) then
  (some true)
  else ((tu x29 x36 x43).bind fun x52=>
  if x52=true then
  (some true)
  else ((tu x36 x43 x29).bind fun x58=>
  some x58))).bind fun OV=>
  if OV=true then
  (some (.inr (.inr false)))
  else ((aG (gW p_0 jQ x29 x36) (w64 (jQ+2))).bind fun o=>match o with
  | (.inl _)=>(some (.inl (w64 (jQ+1))))
  | (.inr r2)=>(some (.inr (.inr r2)))))
  else (some (.inr (.inl ())))
noncomputable def mQ (p_0:(List af)):Option Bool:=
 (if (p_0.length:Int) <3 then
   (some true)
   else (if (p_0.length:Int) >24 then
   (some true)
   else ((qX p_0).bind fun x19=>
   some (!x19)))).bind fun OW=>
   if OW=true then
   (some false)
   else ((aG (iE p_0) 0).bind fun o=>match o with
   | (.inl _)=>((oN p_0).bind fun x91=>
   some (decide (x91>0)))
   | (.inr r2)=>(some r2))
noncomputable def iV (d_0:aA) (pG:Int):Option (Int ⊕ (Unit ⊕ Bool)):=
 if pG< (d_0.aB.length:Int) then
  ((rd d_0.aB pG).bind fun x68=>
  (xx x68.Name).bind fun x72=>
  (if x72=true then
  (if pG>0 then
  ((rd d_0.aB (w64 (pG - 1))).bind fun x82=>
  some (!Op.bytesLess x82.Name.toList x68.Name.toList))
  else (some false))
  else (some true)).bind fun KU=>
  if KU=true then
  (some (.inr (.inr false)))
  else ((jL d_0.bn x68.Ring).bind fun x95=>
  (if x95.2=true then
  ((mQ x95.1).bind fun x102=>
  some (!x102))
  else (some true)).bind fun H6=>
  if H6=true then
  (some (.inr (.inr false)))
  else (some (.inl (w64 (pG+1))))))
  else (some (.inr (.inl ())))
noncomputable def jf (d_0:aA) (wK:Int):Option (Int ⊕ (Unit ⊕ Bool)):=
 if wK< (d_0.bn.length:Int) then
  ((rd d_0.bn wK).bind fun x37=>
  (di x37.X 0 d_0.Width).bind fun x43=>
  (if x43=true then
  ((di x37.Y 0 d_0.Height).bind fun x50=>
  if x50=true then
  ((slc d_0.bn 0 wK).bind fun x57=>
  (dK x57 x37).bind fun x59=>
  some x59)
  else (some true))
  else (some true)).bind fun OX=>
  if OX=true then
  (some (.inr (.inr false)))
  else (some (.inl (w64 (wK+1)))))
  else (some (.inr (.inl ())))
noncomputable def mV (d_0:aA):Option Bool:=
 (di d_0.Width 10 20000).bind fun x11=>
   (if x11=true then
   ((di d_0.Height 10 20000).bind fun x16=>
   if x16=true then
   (if (d_0.bn.length:Int) >48 then
   (some true)
   else (some (decide ((d_0.aB.length:Int) >24))))
   else (some true))
   else (some true)).bind fun OY=>
   if OY=true then
   (some false)
   else ((aG (jf d_0) 0).bind fun o=>match o with
   | (.inl _)=>((aG (iV d_0) 0).bind fun o=>match o with
   | (.inl _)=>(some true)
   | (.inr r2)=>(some r2))
   | (.inr r2)=>(some r2))
noncomputable def nY (jJ:ByteArray):Option (Int×Int×Int×Int):=
 if jJ=(⟨#[97,115,104]⟩:ByteArray) then
  (some (20,40,310,0))
  else (if jJ=(⟨#[98,101,101,99,104]⟩:ByteArray) then
  (some (35,45,410,0))
  else (if jJ=(⟨#[98,105,114,99,104]⟩:ByteArray) then
  (some (15,33,280,0))
  else (if jJ=(⟨#[99,104,101,114,114,121]⟩:ByteArray) then
  (some (50,36,240,0))
  else (if jJ=(⟨#[101,98,111,110,121]⟩:ByteArray) then
  (some (95,85,270,0))
  else (if jJ=(⟨#[104,111,108,108,121]⟩:ByteArray) then
  (some (5,35,370,0))
  else (if jJ=(⟨#[109,97,112,108,101]⟩:ByteArray) then
  (some (10,42,290,0))
  else (if jJ=(⟨#[111,97,107]⟩:ByteArray) then
  (some (40,40,330,0))
  else (if jJ=(⟨#[114,111,115,101,119,111,111,100]⟩:ByteArray) then
  (some (80,60,220,0))
  else (if jJ=(⟨#[119,97,108,110,117,116]⟩:ByteArray) then
  (some (70,38,260,0))
  else (some (0,0,0,3)))))))))))
noncomputable def iQ (jJ:ByteArray):Option (Int×Bool):=
 (nY jJ).bind fun x10=>
   some (x10.1,(x10.2.2.2==0))
noncomputable def jM (v_0:ai):Option Bool:=
 (iQ v_0.jo).bind fun x8=>
   (if x8.2=true then
   ((di v_0.dV 0 100).bind fun x15=>
   if x15=true then
   ((di (w64 (v_0.dV - x8.1)) (-15) 15).bind fun x22=>
   if x22=true then
   ((di v_0.aZ 0 179).bind fun x27=>
   some x27)
   else (some false))
   else (some false))
   else (some false)).bind fun SK=>
   some SK
noncomputable def iF (v_0:ai):Option Bool:=
 (jM v_0).bind fun x4=>
   some (!x4)
noncomputable def cO (f_1:(ai→Option Bool)) (s_0:(List ai)) (fC:Int):Option (Int ⊕ (Unit ⊕ Int)):=
 if fC< (s_0.length:Int) then
  ((rd s_0 fC).bind fun x14=>
  (f_1 x14).bind fun x16=>
  if x16=true then
  (some (.inr (.inr fC)))
  else (some (.inl (w64 (fC+1)))))
  else (some (.inr (.inl ())))
noncomputable def eF (s_0:(List ai)) (f_1:(ai→Option Bool)):Option Int:=
 (aG (cO f_1 s_0) 0).bind fun o=>match o with
   | (.inl _)=>(some (-1))
   | (.inr r2)=>(some r2)
noncomputable def dL (s_0:(List ai)) (f_1:(ai→Option Bool)):Option Bool:=
 (eF s_0 f_1).bind fun x7=>
   some (decide (x7≥0))
noncomputable def mW (cu:(List ai)):Option Bool:=
 (dL cu (fun a0=>iF a0)).bind fun x4=>
   some (!x4)
noncomputable def mX (d_0:aA) (aK:(List ai)) (aW:Int) (eU:Int):Option Int:=
 (mV d_0).bind fun x11=>
   (if x11=true then
   ((mW aK).bind fun x15=>
   some (!x15))
   else (some true)).bind fun SL=>
   if SL=true then
   (some 1)
   else ((if (aK.length:Int) <1 then
   (some true)
   else (if (aK.length:Int) >10 then
   (some true)
   else ((di aW 0 115).bind fun x29=>
   if x29=true then
   ((di eU 1 20000).bind fun x34=>
   some (!x34))
   else (some true)))).bind fun OZ=>
   if OZ=true then
   (some 2)
   else (some 0))
noncomputable def mY (kL:(List Int)) (s:(Int×(List bf))):Option ((Int×(List bf)) ⊕ (List bf)):=
 match s with
  | (BI,aX)=>
  if BI< (kL.length:Int) then
  ((rd kL BI).bind fun x13=>
  (md (w64 (BI+1)) (kL.length:Int)).bind fun x20=>
  (rd kL x20).bind fun x21=>
  (apd 16 aX ([(⟨(min2 x13 x21),(max2 x13 x21)⟩:bf)]:List bf)).bind fun x32=>
  some (.inl ((w64 (BI+1)),x32)))
  else (some (.inr aX))
noncomputable def qG (kL:(List Int)):Option (List bf):=
 (aG (mY kL) (0,([]:List bf))).bind fun bz=>
   some bz
noncomputable def fF (s_0:(List bf)) (v_1:bf) (fC:Int):Option (Int ⊕ (Unit ⊕ Int)):=
 if fC< (s_0.length:Int) then
  ((rd s_0 fC).bind fun x14=>
  if (v_1.e0=x14.e0∧v_1.e1=x14.e1) then
  (some (.inr (.inr fC)))
  else (some (.inl (w64 (fC+1)))))
  else (some (.inr (.inl ())))
noncomputable def iZ (s_0:(List bf)) (v_1:bf):Option Int:=
 (aG (fF s_0 v_1) 0).bind fun o=>match o with
   | (.inl _)=>(some (-1))
   | (.inr r2)=>(some r2)
noncomputable def fG (s_0:(List bf)) (v_1:bf):Option Bool:=
 (iZ s_0 v_1).bind fun x7=>
   some (decide (x7≥0))
noncomputable def jc (e_0:bf) (O0:(List (List bf))) (O1:Int):Option Bool:=
 (rd O0 O1).bind fun x7=>
   (fG x7 e_0).bind fun x10=>
   some x10
noncomputable def dW (f_1:(bf→Option Bool)) (s_0:(List bf)) (fC:Int):Option (Int ⊕ (Unit ⊕ Int)):=
 if fC< (s_0.length:Int) then
  ((rd s_0 fC).bind fun x14=>
  (f_1 x14).bind fun x16=>
  if x16=true then
  (some (.inr (.inr fC)))
  else (some (.inl (w64 (fC+1)))))
  else (some (.inr (.inl ())))
noncomputable def ig (s_0:(List bf)) (f_1:(bf→Option Bool)):Option Int:=
 (aG (dW f_1 s_0) 0).bind fun o=>match o with
   | (.inl _)=>(some (-1))
   | (.inr r2)=>(some r2)
noncomputable def dX (s_0:(List bf)) (f_1:(bf→Option Bool)):Option Bool:=
 (ig s_0 f_1).bind fun x7=>
   some (decide (x7≥0))
noncomputable def kR (jg:Int) (yX:(List (List Int))):Option ((Int×(List (List Int))) ⊕ (List (List Int))):=
 some (.inl ((w64 (jg+1)),yX))
noncomputable def kS (aS:(List (List bf))) (ja:Int) (s:(Int×(List (List Int)))):Option ((Int×(List (List Int))) ⊕ (List (List Int))):=
 match s with
  | (jg,jO)=>
  if jg< (aS.length:Int) then
  ((if ja≠jg then
  ((rd aS ja).bind fun x43=>
  (dX x43 (fun a0=>jc a0 aS jg)).bind fun x46=>
  some x46)
  else (some false)).bind fun KW=>
  if KW=true then
  ((rd jO ja).bind fun x52=>
  (apd 8 x52 ([jg]:List Int)).bind fun x56=>
  (rd jO ja).bind fun x57=>
  kR jg (jO.set ja.toNat x56))
  else (kR jg jO))
  else (some (.inr jO))
noncomputable def lN (aS:(List (List bf))) (s:(Int×(List (List Int)))):Option ((Int×(List (List Int))) ⊕ (List (List Int))):=
 match s with
  | (ja,AY)=>
  if ja< (aS.length:Int) then
  ((aG (kS aS ja) (0,AY)).bind fun yt=>
  some (.inl ((w64 (ja+1)),yt)))
  else (some (.inr AY))
noncomputable def lQ (d_0:aA) (s:(Int×(List (List bf)))):Option ((Int×(List (List bf))) ⊕ (List (List bf))):=
 match s with
  | (zH,uD)=>
  if zH< (d_0.aB.length:Int) then
  ((rd d_0.aB zH).bind fun x15=>
  (qG x15.Ring).bind fun x20=>
  (apd 24 uD ([x20]:List (List bf))).bind fun x22=>
  some (.inl ((w64 (zH+1)),x22)))
  else (some (.inr uD))
noncomputable def pI (d_0:aA):Option (List (List Int)):=
 (aG (lQ d_0) (0,([]:List (List bf)))).bind fun aS=>
   (mkl 24 (aS.length:Int) ([]:List Int)).bind fun x26=>
   (aG (lN aS) (0,x26)).bind fun zI=>
   some zI
noncomputable def ik (s_0:(List Int)) (v_1:Int) (fC:Int):Option (Int ⊕ (Unit ⊕ Int)):=
 if fC< (s_0.length:Int) then
  ((rd s_0 fC).bind fun x14=>
  if v_1=x14 then
  (some (.inr (.inr fC)))
  else (some (.inl (w64 (fC+1)))))
  else (some (.inr (.inl ())))
noncomputable def jR (s_0:(List Int)) (v_1:Int):Option Int:=
 (aG (ik s_0 v_1) 0).bind fun o=>match o with
   | (.inl _)=>(some (-1))
   | (.inr r2)=>(some r2)
noncomputable def dR (s_0:(List Int)) (v_1:Int):Option Bool:=
 (jR s_0 v_1).bind fun x7=>
   some (decide (x7≥0))
noncomputable def tC (a_0:Int) (b_1:Int):Option (Int×Int):=
 (di a_0 0 179).bind fun x8=>
   (if x8=true then
   ((di b_1 0 179).bind fun x12=>
   some (!x12))
   else (some true)).bind fun O3=>
   if O3=true then
   (some (0,2))
   else (some ((min2 (max2 (w64 (a_0 - b_1)) (w64 (b_1 - a_0))) (w64 (180 - (max2 (w64 (a_0 - b_1)) (w64 (b_1 - a_0)))))),0))
noncomputable def sQ (a_0:ai) (b_1:ai):Option Int:=
 (tC a_0.aZ b_1.aZ).bind fun x12=>
   (dv .i64 x12.1 6).bind fun x27=>
   some (w64 ((max2 (w64 (a_0.dV - b_1.dV)) (w64 (b_1.dV - a_0.dV)))+x27))
noncomputable def dG (self:(aO×(List Int)×Int×Int)→Option ((List Int)×Int×aO)) (iq:Int) (yY:(List (List Int))) (yZ:(List ai)) (y5:Int):Option ((Int×(List (List Int))×(List ai)×Int) ⊕ (((List (List Int))×(List ai)×Int) ⊕ ((List Int)×Int×aO))):=
 some (.inl ((w64 (iq+1)),yY,yZ,y5))
noncomputable def gQ (self:(aO×(List Int)×Int×Int)→Option ((List Int)×Int×aO)) (bg:(List Int)) (aW:Int) (iL:(List ai)) (iq:Int) (x57:(List Int)) (s:(Bool×Int)):Option ((Bool×Int) ⊕ Bool):=
 match s with
  | (xy,y7)=>
  if y7< (x57.length:Int) then
  ((rd x57 y7).bind fun x62=>
  (if xy=true then
  (if x62≥(bg.length:Int) then
  (some true)
  else ((rd iL iq).bind fun x75=>
  (rd bg x62).bind fun x83=>
  (rd iL x83).bind fun x85=>
  (sQ x75 x85).bind fun x87=>
  some (decide (x87≥aW))))
  else (some false)).bind fun Du=>
  some (.inl (Du,(w64 (y7+1)))))
  else (some (.inr xy))
noncomputable def aU (self:(aO×(List Int)×Int×Int)→Option ((List Int)×Int×aO)) (bg:(List Int)) (aW:Int) (jq:Int) (s_0:aO) (x33:(List Int)) (s:(Int×(List (List Int))×(List ai)×Int)):Option ((Int×(List (List Int))×(List ai)×Int) ⊕ (((List (List Int))×(List ai)×Int) ⊕ ((List Int)×Int×aO))):=
 match s with
  | (iq,jy,iL,jA)=>
  if iq< (s_0.iJ.length:Int) then
  ((if (x33.length:Int)≥jq then
  ((dR x33 iq).bind fun x49=>
  some (!x49))
  else (some false)).bind fun KX=>
  if KX=true then
  (dG self iq jy iL jA)
  else ((rd jy (bg.length:Int)).bind fun x57=>
  (aG (gQ self bg aW iL iq x57) (true,0)).bind fun sU=>
  if sU=true then
  (if jA=0 then
  (some (.inr (.inr (([]:List Int),5,(⟨jy,iL,jA⟩:aO)))))
  else ((apd 8 ([]:List Int) bg).bind fun aev=>
  (apd 8 aev ([iq]:List Int)).bind fun x113=>
  (self ((⟨jy,iL,(w64 (jA - 1))⟩:aO),x113,aW,jq)).bind fun sV=>
  if sV.2.1≠3 then
  (some (.inr (.inr (sV.1,sV.2.1,sV.2.2))))
  else (dG self iq sV.2.2.near sV.2.2.iJ sV.2.2.left)))
  else (dG self iq jy iL jA)))
  else (some (.inr (.inl (jy,iL,jA))))
noncomputable def dH (self:(aO×(List Int)×Int×Int)→Option ((List Int)×Int×aO)) (s_0:aO) (bg:(List Int)) (aW:Int) (jq:Int):Option ((List Int)×Int×aO):=
 if (bg.length:Int)=(s_0.near.length:Int) then
  (some (bg,0,s_0))
  else ((apd 8 ([]:List Int) bg).bind fun x29=>
  (KO x29).bind fun x31=>
  (SE x31).bind fun x33=>
  (aG (aU self bg aW jq s_0 x33) (0,s_0.near,s_0.iJ,s_0.left)).bind fun o=>match o with
  | (.inl (xA,xB,xC))=>(some (([]:List Int),3,(⟨xA,xB,xC⟩:aO)))
  | (.inr r2)=>(some r2))
noncomputable def gy (s_0:aO) (bg:(List Int)) (aW:Int) (jq:Int):Option ((List Int)×Int×aO):=Bv (fun self s=>match s with | (s_0,bg,aW,jq)=>dH self s_0 bg aW jq) (s_0,bg,aW,jq)
noncomputable def bC (aK:(List ai)) (s:(Int×(List (List Int))×(List ai)×Int)):Option ((Int×(List (List Int))×(List ai)×Int) ⊕ (Unit ⊕ ((List Int)×Int×Int))):=
 match s with
  | (oD,BJ,BK,BL)=>
  if oD≥0 then
  ((gy (⟨BJ,BK,BL⟩:aO) ([]:List Int) oD (aK.length:Int)).bind fun x36=>
  if x36.2.1=0 then
  (some (.inr (.inr (x36.1,oD,0))))
  else (if x36.2.1≠3 then
  (some (.inr (.inr (([]:List Int),0,x36.2.1))))
  else (some (.inl ((w64 (oD - 1)),x36.2.2.near,x36.2.2.iJ,x36.2.2.left)))))
  else (some (.inr (.inl ())))
noncomputable def kG (d_0:aA) (aK:(List ai)) (nV:Int):Option ((List Int)×Int×Int):=
 (mX d_0 aK 0 nV).bind fun x17=>
   if x17≠0 then
   (some (([]:List Int),0,x17))
   else ((pI d_0).bind fun x22=>
   (aG (bC aK) (115,x22,aK,nV)).bind fun o=>match o with
   | (.inl _)=>(some (([]:List Int),0,3))
   | (.inr r2)=>(some r2))
noncomputable def lg (a_0:(List Int)) (b_1:(List Int)) (iG:Int):Option (Int ⊕ (Unit ⊕ Bool)):=
 if iG< (a_0.length:Int) then
  ((rd a_0 iG).bind fun x19=>
  (rd b_1 iG).bind fun x23=>
  if x19≠x23 then
  (some (.inr (.inr false)))
  else (some (.inl (w64 (iG+1)))))
  else (some (.inr (.inl ())))
noncomputable def jl (a_0:(List Int)) (b_1:(List Int)):Option Bool:=
 if (a_0.length:Int)≠(b_1.length:Int) then
  (some false)
  else ((aG (lg a_0 b_1) 0).bind fun o=>match o with
  | (.inl _)=>(some true)
  | (.inr r2)=>(some r2))
noncomputable def vz (a_0:af) (b_1:af):Option Bool:=
 if a_0.X≠b_1.X then
  (some false)
  else (if a_0.Y≠b_1.Y then
  (some false)
  else (some true))
noncomputable def qY (a_0:(List af)) (b_1:(List af)) (iG:Int):Option (Int ⊕ (Unit ⊕ Bool)):=
 if iG< (a_0.length:Int) then
  ((rd a_0 iG).bind fun x19=>
  (rd b_1 iG).bind fun x23=>
  (vz x19 x23).bind fun x25=>
  if x25=true then
  (some (.inl (w64 (iG+1))))
  else (some (.inr (.inr false))))
  else (some (.inr (.inl ())))
noncomputable def sW (a_0:(List af)) (b_1:(List af)):Option Bool:=
 if (a_0.length:Int)≠(b_1.length:Int) then
  (some false)
  else ((aG (qY a_0 b_1) 0).bind fun o=>match o with
  | (.inl _)=>(some true)
  | (.inr r2)=>(some r2))
noncomputable def xE (a_0:dn) (b_1:dn):Option Bool:=
 if ¬(a_0.Name=b_1.Name) then
  (some false)
  else ((jl a_0.Ring b_1.Ring).bind fun x14=>
  if x14=true then
  (some true)
  else (some false))
noncomputable def tH (a_0:(List dn)) (b_1:(List dn)) (iG:Int):Option (Int ⊕ (Unit ⊕ Bool)):=
 if iG< (a_0.length:Int) then
  ((rd a_0 iG).bind fun x19=>
  (rd b_1 iG).bind fun x23=>
  (xE x19 x23).bind fun x25=>
  if x25=true then
  (some (.inl (w64 (iG+1))))
  else (some (.inr (.inr false))))
  else (some (.inr (.inl ())))
noncomputable def vC (a_0:(List dn)) (b_1:(List dn)):Option Bool:=
 if (a_0.length:Int)≠(b_1.length:Int) then
  (some false)
  else ((aG (tH a_0 b_1) 0).bind fun o=>match o with
  | (.inl _)=>(some true)
  | (.inr r2)=>(some r2))
noncomputable def qH (a_0:aA) (b_1:aA):Option Bool:=
 if a_0.Width≠b_1.Width then
  (some false)
  else (if a_0.Height≠b_1.Height then
  (some false)
  else ((sW a_0.bn b_1.bn).bind fun x19=>
  if x19=true then
  ((vC a_0.aB b_1.aB).bind fun x25=>
  if x25=true then
  (some true)
  else (some false))
  else (some false)))
noncomputable def sZ (a_0:ai) (b_1:ai):Option Bool:=
 if ¬(a_0.jo=b_1.jo) then
  (some false)
  else (if a_0.dV≠b_1.dV then
  (some false)
  else (if a_0.aZ≠b_1.aZ then
  (some false)
  else (some true)))
noncomputable def qi (a_0:(List ai)) (b_1:(List ai)) (iG:Int):Option (Int ⊕ (Unit ⊕ Bool)):=
 if iG< (a_0.length:Int) then
  ((rd a_0 iG).bind fun x19=>
  (rd b_1 iG).bind fun x23=>
  (sZ x19 x23).bind fun x25=>
  if x25=true then
  (some (.inl (w64 (iG+1))))
  else (some (.inr (.inr false))))
  else (some (.inr (.inl ())))
noncomputable def qI (a_0:(List ai)) (b_1:(List ai)):Option Bool:=
 if (a_0.length:Int)≠(b_1.length:Int) then
  (some false)
  else ((aG (qi a_0 b_1) 0).bind fun o=>match o with
  | (.inl _)=>(some true)
  | (.inr r2)=>(some r2))
noncomputable def jF (a_0:(List af)) (s:(Int×Int)):Option ((Int×Int) ⊕ Int):=
 match s with
  | (dA,aY)=>
  if aY< (a_0.length:Int) then
  ((rd a_0 aY).bind fun x15=>
  (rd a_0 aY).bind fun x22=>
  some (.inl ((w64 ((w64 (dA+1))+1)),(w64 (aY+1)))))
  else (some (.inr dA))
noncomputable def lS (a_0:(List af)) (k_1:Int):Option Int:=
 (aG (jF a_0) (k_1,0)).bind fun dY=>
   some dY
noncomputable def lq (s:(Int×ByteArray)):Option ((Int×ByteArray) ⊕ ByteArray):=
 match s with
  | (H7,Dv)=>
  if H7>0 then
  ((md H7 10).bind fun x9=>
  (cat (strOf ([(IntKind.wrap .u8 ((w64 (48+x9))))]:List Int)) Dv).bind fun x15=>
  (dv .i64 H7 10).bind fun x17=>
  some (.inl (x17,x15)))
  else (some (.inr Dv))
noncomputable def pW (k_0:Int):Option ByteArray:=
 if k_0≤0 then
  (some (⟨#[109,48]⟩:ByteArray))
  else ((aG (lq) (k_0,(⟨#[]⟩:ByteArray))).bind fun BM=>
  (cat (⟨#[109]⟩:ByteArray) BM).bind fun x19=>
  some x19)
noncomputable def jG (a_0:(List Int)) (s:(Int×Int)):Option ((Int×Int) ⊕ Int):=
 match s with
  | (dA,aY)=>
  if aY< (a_0.length:Int) then
  ((rd a_0 aY).bind fun x15=>
  some (.inl ((w64 (dA+1)),(w64 (aY+1)))))
  else (some (.inr dA))
noncomputable def lT (a_0:(List Int)) (k_1:Int):Option Int:=
 (aG (jG a_0) (k_1,0)).bind fun dY=>
   some dY
noncomputable def mZ (a_0:(List dn)) (s:(Int×Int)):Option ((Int×Int) ⊕ Int):=
 match s with
  | (dA,aY)=>
  if aY< (a_0.length:Int) then
  ((pW dA).bind fun x15=>
  (rd a_0 aY).bind fun x16=>
  (rd a_0 aY).bind fun x22=>
  (lT x22.Ring (w64 (dA+1))).bind fun x26=>
  some (.inl (x26,(w64 (aY+1)))))
  else (some (.inr dA))
noncomputable def qJ (a_0:(List dn)) (k_1:Int):Option Int:=
 (aG (mZ a_0) (k_1,0)).bind fun dY=>
   some dY
noncomputable def nZ (a_0:aA) (k_1:Int):Option Int:=
 (lS a_0.bn k_1).bind fun x8=>
   (qJ a_0.aB x8).bind fun x12=>
   some x12
noncomputable def jB (s:(Int×Int×(List ai))):Option ((Int×Int×(List ai)) ⊕ (Int×(List ai))):=
 match s with
  | (dA,aY,jS)=>
  if aY< (jS.length:Int) then
  ((pW dA).bind fun x15=>
  (rd jS aY).bind fun x16=>
  (rd (jS.set aY.toNat (⟨x15,x16.dV,x16.aZ⟩:ai)) aY).bind fun x23=>
  (rd ((jS.set aY.toNat (⟨x15,x16.dV,x16.aZ⟩:ai)).set aY.toNat (⟨x23.jo,(w64 (dA+1)),x23.aZ⟩:ai)) aY).bind fun x30=>
  some (.inl ((w64 ((w64 ((w64 (dA+1))+1))+1)),(w64 (aY+1)),(((jS.set aY.toNat (⟨x15,x16.dV,x16.aZ⟩:ai)).set aY.toNat (⟨x23.jo,(w64 (dA+1)),x23.aZ⟩:ai)).set aY.toNat (⟨x30.jo,x30.dV,(w64 ((w64 (dA+1))+1))⟩:ai)))))
  else (some (.inr (dA,jS)))
noncomputable def og (a_0:(List ai)) (k_1:Int):Option (Int×(List ai)):=
 (aG (jB) (k_1,0,a_0)).bind fun o=>match o with
   | (dY,oh)=>
   some (dY,oh)
noncomputable def lU (s:(Int×Int×(List Int))):Option ((Int×Int×(List Int)) ⊕ (Int×(List Int))):=
 match s with
  | (dA,aY,jS)=>
  if aY< (jS.length:Int) then
  ((rd jS aY).bind fun x15=>
  some (.inl ((w64 (dA+1)),(w64 (aY+1)),(jS.set aY.toNat dA))))
  else (some (.inr (dA,jS)))
noncomputable def pJ (a_0:(List Int)) (k_1:Int):Option (Int×(List Int)):=
 (aG (lU) (k_1,0,a_0)).bind fun o=>match o with
   | (dY,oh)=>
   some (dY,oh)
noncomputable def lV (a_0:(List Int)) (s:(Int×Int)):Option ((Int×Int) ⊕ (Int ⊕ Int)):=
 match s with
  | (dA,aY)=>
  if aY< (a_0.length:Int) then
  ((rd a_0 aY).bind fun x14=>
  if x14≠dA then
  (some (.inr (.inr (-1))))
  else (some (.inl ((w64 (dA+1)),(w64 (aY+1))))))
  else (some (.inr (.inl dA)))
noncomputable def mg (a_0:(List Int)) (k_1:Int):Option Int:=
 (aG (lV a_0) (k_1,0)).bind fun o=>match o with
   | (.inl dY)=>(some dY)
   | (.inr r2)=>(some r2)
noncomputable def jT (zO:aA) (fD:(List ai)) (iM:Int):Option Bool:=
 (qA zO 1048576).bind fun x24=>
   if x24<0 then
   (some true)
   else ((qB fD x24).bind fun x29=>
   if x29<0 then
   (some true)
   else ((ku zO).bind fun x34=>
   (kz fD).bind fun x36=>
   (mP x34 x36 iM).bind fun x38=>
   (ku zO).bind fun x43=>
   (kz fD).bind fun x45=>
   (kG x43 x45 iM).bind fun x50=>
   (jl x50.1 x38.1).bind fun x56=>
   if (¬(x56=true)∨(x50.2.1≠x38.2.1∨x50.2.2≠x38.2.2)) then
   (some false)
   else ((ku zO).bind fun x70=>
   (qH x43 x70).bind fun x71=>
   if x71=true then
   ((kz fD).bind fun x75=>
   (qI x45 x75).bind fun x76=>
   if x76=true then
   ((nZ x43 1).bind fun x80=>
   (og x45 x80).bind fun x83=>
   (if x83.1<0 then
   (some true)
   else ((jl x50.1 x38.1).bind fun x89=>
   if x89=true then
   (if x50.2.1≠x38.2.1 then
   (some true)
   else (some (x50.2.2 != x38.2.2)))
   else (some true))).bind fun H8=>
   if H8=true then
   (some false)
   else ((pJ x50.1 1).bind fun x104=>
   (mg x104.2 1).bind fun x107=>
   if x107<0 then
   (some false)
   else (if x107≠x104.1 then
   (some false)
   else ((ku zO).bind fun x115=>
   (kz fD).bind fun aew=>
   (kG x115 aew iM).bind fun QI=>
   (jl QI.1 x38.1).bind fun Za=>
   if (¬(Za=true)∨(QI.2.1≠x38.2.1∨QI.2.2≠x38.2.2)) then
   (some false)
   else ((mg x104.2 1).bind fun acR=>
   if acR<0 then
   (some false)
   else (if acR≠x104.1 then
   (some false)
   else (some true)))))))
   else (some false))
   else (some false))))
end Go.Pw
