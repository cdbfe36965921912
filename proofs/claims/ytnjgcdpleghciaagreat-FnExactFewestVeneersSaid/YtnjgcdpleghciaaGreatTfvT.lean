/- Plain functions that answer what the program's functions answer. Conditions: none; definitions alone. -/
import Derived.Test.YtnjgcdpleghciaaGreatSimPw
import Derived.Test.YtnjgcdpleghciaaGreatSimPt
namespace Go.Pw
open Go.Sim (min2 max2)
set_option linter.unusedVariables false
structure af where
 X:Int
 Y:Int
structure dh where
 Name:ByteArray
 Ring:(List Int)
structure aA where
 Width:Int
 Height:Int
 bg:(List af)
 aC:(List dh)
structure ai where
 jl:ByteArray
 dO:Int
 aY:Int
structure aH where
 before:(List (List Int))
 table:(List (List Int))
 limit:Int
 most:Int
 choice:(List Int)
 nodes:Int
 budget:Int
 full:Bool
structure aZ where
 e0:Int
 e1:Int
structure aQ where
 near:(List (List Int))
 iO:(List ai)
 left:Int
noncomputable def rY (a_0:(List af)) (fH:Int):Option Int:=
 if (w64 (fH - (a_0.length:Int))) <0 then
  (some (-1))
  else (some (w64 (fH - (a_0.length:Int))))
noncomputable def rZ (a_0:(List Int)) (fH:Int):Option Int:=
 if (w64 (fH - (a_0.length:Int))) <0 then
  (some (-1))
  else (some (w64 (fH - (a_0.length:Int))))
noncomputable def wW (a_0:dh) (fH:Int):Option Int:=
 if (w64 (fH - (a_0.Name.size:Int))) <0 then
  (some (-1))
  else ((rZ a_0.Ring (w64 (fH - (a_0.Name.size:Int)))).bind fun x15=>
  if x15<0 then
  (some (-1))
  else (some x15))
noncomputable def oP (a_0:(List dh)) (s:(Int×Int)):Option ((Int×Int) ⊕ (Int ⊕ Int)):=
 match s with
  | (nR,vS)=>
  if vS< (a_0.length:Int) then
  ((rd a_0 vS).bind fun x20=>
  (wW x20 nR).bind fun x23=>
  if x23<0 then
  (some (.inr (.inr (-1))))
  else (some (.inl (x23,(w64 (vS+1))))))
  else (some (.inr (.inl nR)))
noncomputable def uP (a_0:(List dh)) (fH:Int):Option Int:=
 if (w64 (fH - (a_0.length:Int))) <0 then
  (some (-1))
  else ((aG (oP a_0) ((w64 (fH - (a_0.length:Int))),0)).bind fun o=>match o with
  | (.inl kz)=>(some kz)
  | (.inr r2)=>(some r2))
noncomputable def qA (a_0:aA) (fH:Int):Option Int:=
 (rY a_0.bg fH).bind fun x8=>
   if x8<0 then
   (some (-1))
   else ((uP a_0.aC x8).bind fun x14=>
   if x14<0 then
   (some (-1))
   else (some x14))
noncomputable def su (a_0:ai) (fH:Int):Option Int:=
 if (w64 (fH - (a_0.jl.size:Int))) <0 then
  (some (-1))
  else (some (w64 (fH - (a_0.jl.size:Int))))
noncomputable def mO (a_0:(List ai)) (s:(Int×Int)):Option ((Int×Int) ⊕ (Int ⊕ Int)):=
 match s with
  | (nR,vS)=>
  if vS< (a_0.length:Int) then
  ((rd a_0 vS).bind fun x20=>
  (su x20 nR).bind fun x23=>
  if x23<0 then
  (some (.inr (.inr (-1))))
  else (some (.inl (x23,(w64 (vS+1))))))
  else (some (.inr (.inl nR)))
noncomputable def qB (a_0:(List ai)) (fH:Int):Option Int:=
 if (w64 (fH - (a_0.length:Int))) <0 then
  (some (-1))
  else ((aG (mO a_0) ((w64 (fH - (a_0.length:Int))),0)).bind fun o=>match o with
  | (.inl kz)=>(some kz)
  | (.inr r2)=>(some r2))
noncomputable def uQ (a_0:af):Option af:=
 some a_0
noncomputable def nS (a_0:(List af)) (s:(Int×(List af))):Option ((Int×(List af)) ⊕ (List af)):=
 match s with
  | (bT,aW)=>
  if bT< (a_0.length:Int) then
  ((rd a_0 bT).bind fun x18=>
  (uQ x18).bind fun x20=>
  (rd aW bT).bind fun x21=>
  some (.inl ((w64 (bT+1)),(aW.set bT.toNat x20))))
  else (some (.inr aW))
noncomputable def sG (a_0:(List af)):Option (List af):=
 (mkl 16 (a_0.length:Int) (⟨0,0⟩:af)).bind fun x7=>
   (aG (nS a_0) (0,x7)).bind fun bu=>
   some bu
noncomputable def nU (a_0:(List Int)) (s:(Int×(List Int))):Option ((Int×(List Int)) ⊕ (List Int)):=
 match s with
  | (bT,aW)=>
  if bT< (a_0.length:Int) then
  ((rd a_0 bT).bind fun x18=>
  (rd aW bT).bind fun x20=>
  some (.inl ((w64 (bT+1)),(aW.set bT.toNat x18))))
  else (some (.inr aW))
noncomputable def sH (a_0:(List Int)):Option (List Int):=
 (mkl 8 (a_0.length:Int) 0).bind fun x7=>
   (aG (nU a_0) (0,x7)).bind fun bu=>
   some bu
noncomputable def wX (a_0:dh):Option dh:=
 (sH a_0.Ring).bind fun x9=>
   some (⟨a_0.Name,x9⟩:dh)
noncomputable def oQ (a_0:(List dh)) (s:(Int×(List dh))):Option ((Int×(List dh)) ⊕ (List dh)):=
 match s with
  | (bT,aW)=>
  if bT< (a_0.length:Int) then
  ((rd a_0 bT).bind fun x18=>
  (wX x18).bind fun x20=>
  (rd aW bT).bind fun x21=>
  some (.inl ((w64 (bT+1)),(aW.set bT.toNat x20))))
  else (some (.inr aW))
noncomputable def uS (a_0:(List dh)):Option (List dh):=
 (mkl 40 (a_0.length:Int) (⟨(⟨#[]⟩:ByteArray),([]:List Int)⟩:dh)).bind fun x7=>
   (aG (oQ a_0) (0,x7)).bind fun bu=>
   some bu
noncomputable def kC (a_0:aA):Option aA:=
 (sG a_0.bg).bind fun x12=>
   (uS a_0.aC).bind fun x16=>
   some (⟨a_0.Width,a_0.Height,x12,x16⟩:aA)
noncomputable def sJ (a_0:ai):Option ai:=
 some a_0
noncomputable def mP (a_0:(List ai)) (s:(Int×(List ai))):Option ((Int×(List ai)) ⊕ (List ai)):=
 match s with
  | (bT,aW)=>
  if bT< (a_0.length:Int) then
  ((rd a_0 bT).bind fun x18=>
  (sJ x18).bind fun x20=>
  (rd aW bT).bind fun x21=>
  some (.inl ((w64 (bT+1)),(aW.set bT.toNat x20))))
  else (some (.inr aW))
noncomputable def kD (a_0:(List ai)):Option (List ai):=
 (mkl 32 (a_0.length:Int) (⟨(⟨#[]⟩:ByteArray),0,0⟩:ai)).bind fun x7=>
   (aG (mP a_0) (0,x7)).bind fun bu=>
   some bu
noncomputable def fV (n_0:Int) (Aq:Int) (vT:Int):Option Bool:=
 some ((decide (n_0≥Aq))&&(decide (n_0≤vT)))
noncomputable def kH (d_0:aA) (dI:Int) (EX:Int):Option (Int ⊕ (Unit ⊕ Bool)):=
 if EX<dI then
  ((rd d_0.bg dI).bind fun x60=>
  (rd d_0.bg EX).bind fun x67=>
  if (x60.X=x67.X∧x60.Y=x67.Y) then
  (some (.inr (.inr false)))
  else (some (.inl (w64 (EX+1)))))
  else (some (.inr (.inl ())))
noncomputable def kJ (d_0:aA) (dI:Int):Option (Int ⊕ (Unit ⊕ Bool)):=
 if dI< (d_0.bg.length:Int) then
  ((rd d_0.bg dI).bind fun x25=>
  (fV x25.X 0 d_0.Width).bind fun x32=>
  (if x32=true then
  ((rd d_0.bg dI).bind fun x40=>
  (fV x40.Y 0 d_0.Height).bind fun x47=>
  some (!x47))
  else (some true)).bind fun Bv=>
  if Bv=true then
  (some (.inr (.inr false)))
  else ((aG (kH d_0 dI) 0).bind fun o=>match o with
  | (.inl _)=>(some (.inl (w64 (dI+1))))
  | (.inr r2)=>(some (.inr (.inr r2)))))
  else (some (.inr (.inl ())))
noncomputable def uT (d_0:aA):Option Bool:=
 if (d_0.bg.length:Int) >48 then
  (some false)
  else ((aG (kJ d_0) 0).bind fun o=>match o with
  | (.inl _)=>(some true)
  | (.inr r2)=>(some r2))
noncomputable def nD (c_0:Int):Option Bool:=
 some ((decide (c_0≥97))&&(decide (c_0≤122)))
noncomputable def sN (c_0:Int):Option Bool:=
 some ((decide (c_0≥48))&&(decide (c_0≤57)))
noncomputable def kM (s_0:ByteArray) (dI:Int):Option (Int ⊕ (Unit ⊕ Bool)):=
 if dI< (s_0.size:Int) then
  ((bt s_0 dI).bind fun x25=>
  (nD x25).bind fun x26=>
  (if x26=true then
  (some false)
  else ((bt s_0 dI).bind fun x31=>
  (sN x31).bind fun x32=>
  some (!x32))).bind fun OC=>
  if OC=true then
  (some (.inr (.inr false)))
  else (some (.inl (w64 (dI+1)))))
  else (some (.inr (.inl ())))
noncomputable def uU (s_0:ByteArray):Option Bool:=
 (if s_0=(⟨#[]⟩:ByteArray) then
   (some true)
   else (if (s_0.size:Int) >10 then
   (some true)
   else ((bt s_0 0).bind fun x13=>
   (nD x13).bind fun x14=>
   some (!x14)))).bind fun Bz=>
   if Bz=true then
   (some false)
   else ((aG (kM s_0) 0).bind fun o=>match o with
   | (.inl _)=>(some true)
   | (.inr r2)=>(some r2))
noncomputable def xX (d_0:aA) (lI:(List Int)) (s:(Int×(List af))):Option ((Int×(List af)) ⊕ ((List af) ⊕ ((List af)×Bool))):=
 match s with
  | (BA,mF)=>
  if BA< (lI.length:Int) then
  ((rd lI BA).bind fun x17=>
  (fV x17 0 (w64 ((d_0.bg.length:Int) - 1))).bind fun x25=>
  if x25=true then
  ((rd lI BA).bind fun x34=>
  (rd d_0.bg x34).bind fun x36=>
  (apd 16 mF ([x36]:List af)).bind fun x39=>
  some (.inl ((w64 (BA+1)),x39)))
  else (some (.inr (.inr (([]:List af),false)))))
  else (some (.inr (.inl mF)))
noncomputable def uV (d_0:aA) (lI:(List Int)):Option ((List af)×Bool):=
 (aG (xX d_0 lI) (0,([]:List af))).bind fun o=>match o with
   | (.inl kE)=>(some (kE,true))
   | (.inr r2)=>(some r2)
noncomputable def EY (p_0:af):Option Bool:=
 (fV p_0.X 0 20000).bind fun x5=>
   (if x5=true then
   ((fV p_0.Y 0 20000).bind fun x9=>
   some x9)
   else (some false)).bind fun lJ=>
   some lJ
noncomputable def wJ (a_0:af) (b_1:af) (c_2:af):Option Int:=
 some (w64 ((w64 ((w64 (b_1.X - a_0.X)) * (w64 (c_2.Y - a_0.Y)))) - (w64 ((w64 (b_1.Y - a_0.Y)) * (w64 (c_2.X - a_0.X))))))
noncomputable def kW (a_0:af) (b_1:af) (c_2:af):Option Int:=
 (wJ a_0 b_1 c_2).bind fun x11=>
   if x11>0 then
   (some 1)
   else (if x11<0 then
   (some (-1))
   else (some 0))
noncomputable def mQ (a_0:Int) (b_1:Int):Option Int:=
 if a_0<b_1 then
  (some a_0)
  else (some b_1)
noncomputable def kZ (a_0:Int) (b_1:Int):Option Int:=
 if a_0>b_1 then
  (some a_0)
  else (some b_1)
noncomputable def nG (a_0:af) (b_1:af) (p_2:af):Option Bool:=
 (kW a_0 b_1 p_2).bind fun x10=>
   (if x10=0 then
   ((mQ a_0.X b_1.X).bind fun x19=>
   (kZ a_0.X b_1.X).bind fun x24=>
   (fV p_2.X x19 x24).bind fun x25=>
   if x25=true then
   ((mQ a_0.Y b_1.Y).bind fun x34=>
   (kZ a_0.Y b_1.Y).bind fun x39=>
   (fV p_2.Y x34 x39).bind fun x40=>
   some x40)
   else (some false))
   else (some false)).bind fun lK=>
   some lK
noncomputable def oU (a_0:af) (b_1:af) (c_2:af) (d_3:af):Option Bool:=
 (kW a_0 b_1 c_2).bind fun x12=>
   (kW a_0 b_1 d_3).bind fun x16=>
   (if (w64 (x12*x16)) <0 then
   ((kW c_2 d_3 a_0).bind fun x23=>
   (kW c_2 d_3 b_1).bind fun x27=>
   some (decide ((w64 (x23*x27)) <0)))
   else (some false)).bind fun tZ=>
   some tZ
noncomputable def uX (a_0:af) (b_1:af) (c_2:af) (d_3:af):Option Bool:=
 (oU a_0 b_1 c_2 d_3).bind fun x13=>
   (if x13=true then
   (some true)
   else ((nG a_0 b_1 c_2).bind fun x18=>
   if x18=true then
   (some true)
   else ((nG a_0 b_1 d_3).bind fun x24=>
   if x24=true then
   (some true)
   else ((nG c_2 d_3 a_0).bind fun x30=>
   if x30=true then
   (some true)
   else ((nG c_2 d_3 b_1).bind fun x36=>
   some x36))))).bind fun tZ=>
   some tZ
noncomputable def xY (p_0:(List af)) (s:(Int×Int)):Option ((Int×Int) ⊕ Int):=
 match s with
  | (lM,bT)=>
  if bT< (p_0.length:Int) then
  ((md (w64 (bT+1)) (p_0.length:Int)).bind fun x17=>
  (rd p_0 x17).bind fun x18=>
  (rd p_0 bT).bind fun x23=>
  (rd p_0 bT).bind fun x31=>
  some (.inl ((w64 (lM+(w64 ((w64 (x23.X*x18.Y)) - (w64 (x31.Y*x18.X)))))),(w64 (bT+1)))))
  else (some (.inr lM))
noncomputable def uY (p_0:(List af)):Option Int:=
 (aG (xY p_0) (0,0)).bind fun oL=>
   some oL
noncomputable def uZ (kX:Int) (p_0:(List af)) (x36:af) (x43:af) (yz:Int):Option (Int ⊕ (Unit ⊕ Bool)):=
 if yz< (p_0.length:Int) then
  ((md (w64 (yz+1)) (p_0.length:Int)).bind fun x77=>
  (if x77≠kX then
  ((rd p_0 yz).bind fun x85=>
  (md (w64 (yz+1)) (p_0.length:Int)).bind fun x91=>
  (rd p_0 x91).bind fun x92=>
  (uX x36 x43 x85 x92).bind fun x94=>
  some x94)
  else (some false)).bind fun KJ=>
  if KJ=true then
  (some (.inr (.inr false)))
  else (some (.inl (w64 (yz+1)))))
  else (some (.inr (.inl ())))
noncomputable def ve (p_0:(List af)) (kX:Int):Option (Int ⊕ (Unit ⊕ Bool)):=
 if kX< (p_0.length:Int) then
  ((rd p_0 kX).bind fun x36=>
  (md (w64 (kX+1)) (p_0.length:Int)).bind fun x42=>
  (rd p_0 x42).bind fun x43=>
  (md (w64 (kX+2)) (p_0.length:Int)).bind fun x49=>
  (rd p_0 x49).bind fun x50=>
  (if (x36.X=x43.X∧x36.Y=x43.Y) then
  (some true)
  else ((nG x36 x43 x50).bind fun x59=>
  if x59=true then
  (some true)
  else ((nG x43 x50 x36).bind fun x65=>
  some x65))).bind fun KL=>
  if KL=true then
  (some (.inr (.inr false)))
  else ((aG (uZ kX p_0 x36 x43) (w64 (kX+2))).bind fun o=>match o with
  | (.inl _)=>(some (.inl (w64 (kX+1))))
  | (.inr r2)=>(some (.inr (.inr r2)))))
  else (some (.inr (.inl ())))
noncomputable def zK (p_0:(List af)) (Hw:Int):Option (Int ⊕ (Unit ⊕ Bool)):=
 if Hw< (p_0.length:Int) then
  ((rd p_0 Hw).bind fun x25=>
  (EY x25).bind fun x27=>
  if x27=true then
  (some (.inl (w64 (Hw+1))))
  else (some (.inr (.inr false))))
  else (some (.inr (.inl ())))
noncomputable def yM (p_0:(List af)):Option Bool:=
 if ((p_0.length:Int) <3∨(p_0.length:Int) >24) then
  (some false)
  else ((aG (zK p_0) 0).bind fun o=>match o with
  | (.inl _)=>((aG (ve p_0) 0).bind fun o=>match o with
  | (.inl _)=>((uY p_0).bind fun x97=>
  some (decide (x97>0)))
  | (.inr r2)=>(some r2))
  | (.inr r2)=>(some r2))
noncomputable def pU (d_0:aA) (dI:Int):Option (Int ⊕ (Unit ⊕ Bool)):=
 if dI< (d_0.aC.length:Int) then
  ((rd d_0.aC dI).bind fun x47=>
  (uU x47.Name).bind fun x50=>
  (if x50=true then
  (if dI>0 then
  ((rd d_0.aC (w64 (dI - 1))).bind fun x62=>
  (rd d_0.aC dI).bind fun x70=>
  some (!Op.bytesLess x62.Name.toList x70.Name.toList))
  else (some false))
  else (some true)).bind fun OD=>
  if OD=true then
  (some (.inr (.inr false)))
  else ((rd d_0.aC dI).bind fun x83=>
  (uV d_0 x83.Ring).bind fun x86=>
  (if x86.2=true then
  ((yM x86.1).bind fun x93=>
  some (!x93))
  else (some true)).bind fun Gp=>
  if Gp=true then
  (some (.inr (.inr false)))
  else (some (.inl (w64 (dI+1))))))
  else (some (.inr (.inl ())))
noncomputable def yN (d_0:aA):Option Bool:=
 (fV d_0.Width 10 20000).bind fun x10=>
   (if x10=true then
   ((fV d_0.Height 10 20000).bind fun x17=>
   if x17=true then
   ((uT d_0).bind fun x22=>
   if x22=true then
   (some (decide ((d_0.aC.length:Int) >24)))
   else (some true))
   else (some true))
   else (some true)).bind fun OE=>
   if OE=true then
   (some false)
   else ((aG (pU d_0) 0).bind fun o=>match o with
   | (.inl _)=>(some true)
   | (.inr r2)=>(some r2))
noncomputable def wK:Option (List ByteArray):=
 some ([(⟨#[97,115,104]⟩:ByteArray),(⟨#[98,101,101,99,104]⟩:ByteArray),(⟨#[98,105,114,99,104]⟩:ByteArray),(⟨#[99,104,101,114,114,121]⟩:ByteArray),(⟨#[101,98,111,110,121]⟩:ByteArray),(⟨#[104,111,108,108,121]⟩:ByteArray),(⟨#[109,97,112,108,101]⟩:ByteArray),(⟨#[111,97,107]⟩:ByteArray),(⟨#[114,111,115,101,119,111,111,100]⟩:ByteArray),(⟨#[119,97,108,110,117,116]⟩:ByteArray)]:List ByteArray)
noncomputable def oV (jJ:ByteArray) (x5:(List ByteArray)) (bT:Int):Option (Int ⊕ (Unit ⊕ Int)):=
 if bT< (x5.length:Int) then
  ((rd x5 bT).bind fun x14=>
  if x14=jJ then
  (some (.inr (.inr bT)))
  else (some (.inl (w64 (bT+1)))))
  else (some (.inr (.inl ())))
noncomputable def qW (jJ:ByteArray):Option Int:=
 (wK).bind fun x5=>
   (aG (oV jJ x5) 0).bind fun o=>match o with
   | (.inl _)=>(some (-1))
   | (.inr r2)=>(some r2)
noncomputable def wL:Option (List (List Int)):=
 some ([([20,40,310]:List Int),([35,45,410]:List Int),([15,33,280]:List Int),([50,36,240]:List Int),([95,85,270]:List Int),([5,35,370]:List Int),([10,42,290]:List Int),([40,40,330]:List Int),([80,60,220]:List Int),([70,38,260]:List Int)]:List (List Int))
noncomputable def wM (g_0:Int):Option Bool:=
 (fV g_0 0 179).bind fun x4=>
   some x4
noncomputable def ug (v_0:ai):Option Bool:=
 (qW v_0.jl).bind fun x9=>
   (if x9<0 then
   (some true)
   else ((fV v_0.dO 0 100).bind fun x17=>
   some (!x17))).bind fun OG=>
   if OG=true then
   (some false)
   else ((wL).bind fun x20=>
   (rd x20 x9).bind fun x22=>
   (rd x22 0).bind fun x24=>
   (fV v_0.dO (w64 (x24 - 15)) (w64 (x24+15))).bind fun x34=>
   (if x34=true then
   ((wM v_0.aY).bind fun x40=>
   some x40)
   else (some false)).bind fun SC=>
   some SC)
noncomputable def lN (bW:(List ai)) (Hy:Int):Option (Int ⊕ (Unit ⊕ Bool)):=
 if Hy< (bW.length:Int) then
  ((rd bW Hy).bind fun x12=>
  (ug x12).bind fun x13=>
  if x13=true then
  (some (.inl (w64 (Hy+1))))
  else (some (.inr (.inr false))))
  else (some (.inr (.inl ())))
noncomputable def oW (bW:(List ai)):Option Bool:=
 (aG (lN bW) 0).bind fun o=>match o with
   | (.inl _)=>(some true)
   | (.inr r2)=>(some r2)
noncomputable def wY (d_0:aA) (aI:(List ai)) (aN:Int) (bz:Int):Option Int:=
 (yN d_0).bind fun x10=>
   (if x10=true then
   ((oW aI).bind fun x14=>
   some (!x14))
   else (some true)).bind fun Bz=>
   if Bz=true then
   (some 1)
   else ((if (aI.length:Int) <1 then
   (some true)
   else (if (aI.length:Int) >10 then
   (some true)
   else ((fV aN 0 115).bind fun x27=>
   if x27=true then
   ((fV bz 1 20000).bind fun x32=>
   some (!x32))
   else (some true)))).bind fun OH=>
   if OH=true then
   (some 2)
   else (some 0))
noncomputable def lQ (i_1:Int) (k_2:Int) (kP:(List Int)) (Dj:Int):Option (Int ⊕ (Unit ⊕ Bool)):=
 if Dj< (kP.length:Int) then
  ((rd kP Dj).bind fun x18=>
  (md (w64 (Dj+1)) (kP.length:Int)).bind fun x25=>
  (rd kP x25).bind fun x26=>
  (if x18=i_1 then
  (if x26=k_2 then
  (some true)
  else (if x18=k_2 then
  (some (x26==i_1))
  else (some false)))
  else (if x18=k_2 then
  (some (x26==i_1))
  else (some false))).bind fun OI=>
  if OI=true then
  (some (.inr (.inr true)))
  else (some (.inl (w64 (Dj+1)))))
  else (some (.inr (.inl ())))
noncomputable def oZ (kP:(List Int)) (i_1:Int) (k_2:Int):Option Bool:=
 (aG (lQ i_1 k_2 kP) 0).bind fun o=>match o with
   | (.inl _)=>(some false)
   | (.inr r2)=>(some r2)
noncomputable def o5 (jK:Int) (Ar:(List Int)):Option ((Int×(List Int)) ⊕ (List Int)):=
 some (.inl ((w64 (jK+1)),Ar))
noncomputable def o6 (d_0:aA) (jK:Int) (x16:dh) (s:(Bool×Int)):Option ((Bool×Int) ⊕ Bool):=
 match s with
  | (yO,Dk)=>
  if Dk< (x16.Ring.length:Int) then
  ((if yO=true then
  (some true)
  else ((rd d_0.aC jK).bind fun x41=>
  (rd x16.Ring Dk).bind fun x46=>
  (md (w64 (Dk+1)) (x16.Ring.length:Int)).bind fun x53=>
  (rd x16.Ring x53).bind fun x54=>
  (oZ x41.Ring x46 x54).bind fun x56=>
  some x56)).bind fun Dl=>
  some (.inl (Dl,(w64 (Dk+1)))))
  else (some (.inr yO))
noncomputable def o7 (d_0:aA) (k_1:Int) (x16:dh) (s:(Int×(List Int))):Option ((Int×(List Int)) ⊕ (List Int)):=
 match s with
  | (jK,eF)=>
  if jK< (d_0.aC.length:Int) then
  ((aG (o6 d_0 jK x16) (false,0)).bind fun qX=>
  if (jK≠k_1∧qX=true) then
  ((apd 8 eF ([jK]:List Int)).bind fun x67=>
  o5 jK x67)
  else (o5 jK eF))
  else (some (.inr eF))
noncomputable def vg (d_0:aA) (k_1:Int):Option (List Int):=
 (rd d_0.aC k_1).bind fun x16=>
   (aG (o7 d_0 k_1 x16) (0,([]:List Int))).bind fun jB=>
   some jB
noncomputable def lg (xZ:Int) (Au:(List (List Int))):Option ((Int×(List (List Int))) ⊕ (List (List Int))):=
 some (.inl ((w64 (xZ+1)),Au))
noncomputable def iI (rJ:Int) (x19:(List Int)) (s:(Int×(List (List Int)))):Option ((Int×(List (List Int))) ⊕ (List (List Int))):=
 match s with
  | (xZ,vU)=>
  if xZ< (x19.length:Int) then
  ((rd x19 xZ).bind fun x28=>
  if x28>rJ then
  ((rd x19 xZ).bind fun x36=>
  (apd 24 vU ([([rJ,x36]:List Int)]:List (List Int))).bind fun x40=>
  lg xZ x40)
  else (lg xZ vU))
  else (some (.inr vU))
noncomputable def lq (d_0:aA) (s:(Int×(List (List Int)))):Option ((Int×(List (List Int))) ⊕ (List (List Int))):=
 match s with
  | (rJ,aW)=>
  if rJ< (d_0.aC.length:Int) then
  ((vg d_0 rJ).bind fun x19=>
  (aG (iI rJ x19) (0,aW)).bind fun zD=>
  some (.inl ((w64 (rJ+1)),zD)))
  else (some (.inr aW))
noncomputable def sO (d_0:aA):Option (List (List Int)):=
 (aG (lq d_0) (0,([]:List (List Int)))).bind fun bu=>
   some bu
noncomputable def wO (a_0:Int) (b_1:Int):Option Int:=
 (kZ (w64 (a_0 - b_1)) (w64 (b_1 - a_0))).bind fun x12=>
   (mQ x12 (w64 (180 - x12))).bind fun x16=>
   some x16
noncomputable def nV (a_0:ai) (b_1:ai):Option Int:=
 (kZ (w64 (a_0.dO - b_1.dO)) (w64 (b_1.dO - a_0.dO))).bind fun x23=>
   (wO a_0.aY b_1.aY).bind fun x32=>
   (dv .i64 x32 6).bind fun x33=>
   some (w64 (x23+x33))
noncomputable def o8 (o9:Int) (aI:(List ai)) (s:(Int×(List Int))):Option ((Int×(List Int)) ⊕ (List Int)):=
 match s with
  | (yP,wZ)=>
  if yP< (aI.length:Int) then
  ((rd aI o9).bind fun x94=>
  (rd aI yP).bind fun x97=>
  (nV x94 x97).bind fun x98=>
  (apd 8 wZ ([x98]:List Int)).bind fun x100=>
  some (.inl ((w64 (yP+1)),x100)))
  else (some (.inr wZ))
noncomputable def pg (aI:(List ai)) (s:(Int×(List (List Int)))):Option ((Int×(List (List Int))) ⊕ (List (List Int))):=
 match s with
  | (o9,oD)=>
  if o9< (aI.length:Int) then
  ((aG (o8 o9 aI) (0,([]:List Int))).bind fun pV=>
  (apd 24 oD ([pV]:List (List Int))).bind fun yc=>
  some (.inl ((w64 (o9+1)),yc)))
  else (some (.inr oD))
noncomputable def qC (x40:(List (List Int))) (s:(Int×(List (List Int)))):Option ((Int×(List (List Int))) ⊕ (List (List Int))):=
 match s with
  | (BB,uh)=>
  if BB< (x40.length:Int) then
  ((rd x40 BB).bind fun x71=>
  (rd x71 0).bind fun x73=>
  (rd x71 1).bind fun x55=>
  (rd uh x55).bind fun x67=>
  (apd 8 x67 ([x73]:List Int)).bind fun x76=>
  some (.inl ((w64 (BB+1)),(uh.set x55.toNat x76))))
  else (some (.inr uh))
noncomputable def nX (d_0:aA) (s:(Int×(List (List Int)))):Option ((Int×(List (List Int))) ⊕ (List (List Int))):=
 match s with
  | (Eb,yQ)=>
  if Eb< (d_0.aC.length:Int) then
  ((apd 24 yQ ([([]:List Int)]:List (List Int))).bind fun x36=>
  some (.inl ((w64 (Eb+1)),x36)))
  else (some (.inr yQ))
noncomputable def xe (d_0:aA) (aI:(List ai)) (aN:Int) (bz:Int):Option aH:=
 (aG (nX d_0) (0,([]:List (List Int)))).bind fun yA=>
   (sO d_0).bind fun x40=>
   (aG (qC x40) (0,yA)).bind fun jR=>
   (aG (pg aI) (0,([]:List (List Int)))).bind fun wP=>
   some (⟨jR,wP,aN,10,([]:List Int),0,bz,false⟩:aH)
noncomputable def pq (yR:(List Int)):Option (List Int):=
 some yR
noncomputable def iW (uj:Int) (bW:(List Int)) (yS:Bool) (yT:(List Int)):Option ((Bool×Int×(List Int)) ⊕ (Bool×(List Int))):=
 (rd bW uj).bind fun x38=>
   (apd 8 yT ([x38]:List Int)).bind fun x41=>
   some (.inl (yS,(w64 (uj+1)),x41))
noncomputable def fZ (bW:(List Int)) (n_1:Int) (s:(Bool×Int×(List Int))):Option ((Bool×Int×(List Int)) ⊕ (Bool×(List Int))):=
 match s with
  | (uA,uj,eF)=>
  if uj< (bW.length:Int) then
  ((if uA=true then
  (some false)
  else ((rd bW uj).bind fun x20=>
  some (decide (x20≥n_1)))).bind fun OJ=>
  if OJ=true then
  ((rd bW uj).bind fun x27=>
  if x27>n_1 then
  ((apd 8 eF ([n_1]:List Int)).bind fun x34=>
  iW uj bW true x34)
  else (iW uj bW true eF))
  else (iW uj bW uA eF))
  else (some (.inr (uA,eF)))
noncomputable def xg (bW:(List Int)) (n_1:Int):Option (List Int):=
 (aG (fZ bW n_1) (false,0,([]:List Int))).bind fun o=>match o with
   | (uB,jB)=>
   if uB=true then
   (pq jB)
   else ((apd 8 jB ([n_1]:List Int)).bind fun x47=>
   pq x47)
noncomputable def qE (bW:(List Int)) (n_1:Int) (aX:Int):Option (Int ⊕ (Unit ⊕ Bool)):=
 if aX< (bW.length:Int) then
  ((rd bW aX).bind fun x14=>
  if x14=n_1 then
  (some (.inr (.inr true)))
  else (some (.inl (w64 (aX+1)))))
  else (some (.inr (.inl ())))
noncomputable def xh (bW:(List Int)) (n_1:Int):Option Bool:=
 (aG (qE bW n_1) 0).bind fun o=>match o with
   | (.inl _)=>(some false)
   | (.inr r2)=>(some r2)
noncomputable def fJ (self:aH→Option (Bool×aH)) (gm:Int) (Aw:(List (List Int))) (Az:(List (List Int))) (AA:Int) (AB:Int) (AL:(List Int)) (AO:Int) (AP:Int) (AQ:Bool):Option ((Int×(List (List Int))×(List (List Int))×Int×Int×(List Int)×Int×Int×Bool) ⊕ (((List (List Int))×(List (List Int))×Int×Int×(List Int)×Int×Int×Bool) ⊕ (Bool×aH))):=
 some (.inl ((w64 (gm+1)),Aw,Az,AA,AB,AL,AO,AP,AQ))
noncomputable def bH (self:aH→Option (Bool×aH)) (gm:Int) (x_0:aH) (bI:(List (List Int))) (bJ:(List (List Int))) (bK:Int) (bU:Int) (bM:(List Int)) (bZ:Int) (cu:Int) (nH:Bool):Option ((Int×(List (List Int))×(List (List Int))×Int×Int×(List Int)×Int×Int×Bool) ⊕ (((List (List Int))×(List (List Int))×Int×Int×(List Int)×Int×Int×Bool) ⊕ (Bool×aH))):=
 if nH=true then
  (some (.inr (.inr (false,(⟨bI,bJ,bK,bU,bM,bZ,cu,nH⟩:aH)))))
  else ((apd 8 bM ([gm]:List Int)).bind fun Y3=>
  (self (⟨bI,bJ,bK,bU,Y3,(w64 (bZ+1)),cu,nH⟩:aH)).bind fun mV=>
  if mV.1=true then
  (some (.inr (.inr (true,mV.2))))
  else ((slc mV.2.choice 0 (x_0.choice.length:Int)).bind fun ags=>
  fJ self gm mV.2.before mV.2.table mV.2.limit mV.2.most ((mV.2.choice.take ((x_0.choice.length:Int).toNat)).drop 0) mV.2.nodes mV.2.budget mV.2.full))
noncomputable def dL (self:aH→Option (Bool×aH)) (gm:Int) (x_0:aH) (bI:(List (List Int))) (bJ:(List (List Int))) (bK:Int) (bM:(List Int)) (s:(Bool×Int)):Option ((Bool×Int) ⊕ Bool):=
 match s with
  | (kQ,qh)=>
  (rd bI (x_0.choice.length:Int)).bind fun x63=>
  if (qh< (x63.length:Int)∧kQ=true) then
  ((rd bJ gm).bind fun x77=>
  (rd bI (x_0.choice.length:Int)).bind fun x88=>
  (rd x88 qh).bind fun x91=>
  (rd bM x91).bind fun x93=>
  (rd x77 x93).bind fun x95=>
  some (.inl ((decide (x95≥bK)),(w64 (qh+1)))))
  else (some (.inr kQ))
noncomputable def fK (self:aH→Option (Bool×aH)) (x_0:aH) (bM:(List Int)) (s:(Int×(List Int))):Option ((Int×(List Int)) ⊕ (List Int)):=
 match s with
  | (Hz,yU)=>
  if Hz< (x_0.choice.length:Int) then
  ((rd bM Hz).bind fun x42=>
  (xg yU x42).bind fun x44=>
  some (.inl ((w64 (Hz+1)),x44)))
  else (some (.inr yU))
noncomputable def dn (self:aH→Option (Bool×aH)) (x_0:aH) (s:(Int×(List (List Int))×(List (List Int))×Int×Int×(List Int)×Int×Int×Bool)):Option ((Int×(List (List Int))×(List (List Int))×Int×Int×(List Int)×Int×Int×Bool) ⊕ (((List (List Int))×(List (List Int))×Int×Int×(List Int)×Int×Int×Bool) ⊕ (Bool×aH))):=
 match s with
  | (gm,bI,bJ,bK,bU,bM,bZ,cu,fD)=>
  if gm< (bJ.length:Int) then
  ((aG (fK self x_0 bM) (0,([]:List Int))).bind fun oM=>
  (xh oM gm).bind fun x47=>
  (aG (dL self gm x_0 bI bJ bK bM) ((x47||(decide ((oM.length:Int) <bU))),0)).bind fun vk=>
  if vk=true then
  (if bZ=cu then
  (bH self gm x_0 bI bJ bK bU bM bZ cu true)
  else (bH self gm x_0 bI bJ bK bU bM bZ cu fD))
  else (fJ self gm bI bJ bK bU bM bZ cu fD))
  else (some (.inr (.inl (bI,bJ,bK,bU,bM,bZ,cu,fD))))
noncomputable def gu (self:aH→Option (Bool×aH)) (x_0:aH):Option (Bool×aH):=
 if (x_0.choice.length:Int)=(x_0.before.length:Int) then
  (some (true,x_0))
  else ((aG (dn self x_0) (0,x_0.before,x_0.table,x_0.limit,x_0.most,x_0.choice,x_0.nodes,x_0.budget,x_0.full)).bind fun o=>match o with
  | (.inl (xk,xm,xu,xw,xx,xy,xA,xB))=>(some (false,(⟨xk,xm,xu,xw,xx,xy,xA,xB⟩:aH)))
  | (.inr r2)=>(some r2))
noncomputable def jL (x_0:aH):Option (Bool×aH):=Bj (fun self x_0=>gu self x_0) x_0
noncomputable def xC (bW:(List Int)):Option (List Int):=
 (apd 8 ([]:List Int) bW).bind fun x5=>
   some x5
noncomputable def dW (aI:(List ai)) (s:(Int×(List (List Int))×(List (List Int))×Int×Int×(List Int)×Int×Int×Bool)):Option ((Int×(List (List Int))×(List (List Int))×Int×Int×(List Int)×Int×Int×Bool) ⊕ (Unit ⊕ ((List Int)×Int×Int))):=
 match s with
  | (jS,vV,vW,vX,EZ,vY,vZ,wo,wu)=>
  if jS≤(aI.length:Int) then
  ((jL (⟨vV,vW,vX,jS,vY,vZ,wo,wu⟩:aH)).bind fun x36=>
  if x36.1=true then
  ((xC x36.2.choice).bind fun x41=>
  some (.inr (.inr (x41,jS,0))))
  else (if x36.2.full=true then
  (some (.inr (.inr (([]:List Int),0,5))))
  else (some (.inl ((w64 (jS+1)),x36.2.before,x36.2.table,x36.2.limit,x36.2.most,x36.2.choice,x36.2.nodes,x36.2.budget,x36.2.full)))))
  else (some (.inr (.inl ())))
noncomputable def lS (d_0:aA) (aI:(List ai)) (aN:Int) (bz:Int):Option ((List Int)×Int×Int):=
 (wY d_0 aI aN bz).bind fun x17=>
   if x17≠0 then
   (some (([]:List Int),0,x17))
   else ((xe d_0 aI aN bz).bind fun x24=>
   (aG (dW aI) (0,x24.before,x24.table,x24.limit,x24.most,x24.choice,x24.nodes,x24.budget,x24.full)).bind fun o=>match o with
   | (.inl _)=>(some (([]:List Int),0,3))
   | (.inr r2)=>(some r2))
noncomputable def cO (n_0:Int) (Aq:Int) (vT:Int):Option Bool:=
 some ((decide (n_0≥Aq))&&(decide (n_0≤vT)))
noncomputable def dD (s_0:(List af)) (v_1:af) (fB:Int):Option (Int ⊕ (Unit ⊕ Int)):=
 if fB< (s_0.length:Int) then
  ((rd s_0 fB).bind fun x14=>
  if (v_1.X=x14.X∧v_1.Y=x14.Y) then
  (some (.inr (.inr fB)))
  else (some (.inl (w64 (fB+1)))))
  else (some (.inr (.inl ())))
noncomputable def gy (s_0:(List af)) (v_1:af):Option Int:=
 (aG (dD s_0 v_1) 0).bind fun o=>match o with
   | (.inl _)=>(some (-1))
   | (.inr r2)=>(some r2)
noncomputable def dG (s_0:(List af)) (v_1:af):Option Bool:=
 (gy s_0 v_1).bind fun x7=>
   some (decide (x7≥0))
noncomputable def qF (s_0:ByteArray) (dI:Int):Option (Int ⊕ (Unit ⊕ Bool)):=
 if dI< (s_0.size:Int) then
  ((bt s_0 dI).bind fun x30=>
  (if x30<97 then
  ((bt s_0 dI).bind fun x41=>
  if x41<48 then
  (some true)
  else ((bt s_0 dI).bind fun x46=>
  some (decide (x46>57))))
  else ((bt s_0 dI).bind fun x35=>
  if x35>122 then
  ((bt s_0 dI).bind fun x41=>
  if x41<48 then
  (some true)
  else ((bt s_0 dI).bind fun x46=>
  some (decide (x46>57))))
  else (some false))).bind fun Bv=>
  if Bv=true then
  (some (.inr (.inr false)))
  else (some (.inl (w64 (dI+1)))))
  else (some (.inr (.inl ())))
noncomputable def xE (s_0:ByteArray):Option Bool:=
 (if (s_0.size:Int) <1 then
   (some true)
   else (if (s_0.size:Int) >10 then
   (some true)
   else ((bt s_0 0).bind fun x14=>
   if x14<97 then
   (some true)
   else ((bt s_0 0).bind fun x19=>
   some (decide (x19>122)))))).bind fun OL=>
   if OL=true then
   (some false)
   else ((aG (qF s_0) 0).bind fun o=>match o with
   | (.inl _)=>(some true)
   | (.inr r2)=>(some r2))
noncomputable def nO (vw:(List af)) (lI:(List Int)) (s:(Int×(List af))):Option ((Int×(List af)) ⊕ ((List af) ⊕ ((List af)×Bool))):=
 match s with
  | (Ec,mF)=>
  if Ec< (lI.length:Int) then
  ((rd lI Ec).bind fun x14=>
  (cO x14 0 (w64 ((vw.length:Int) - 1))).bind fun x20=>
  if x20=true then
  ((rd vw x14).bind fun x25=>
  (apd 16 mF ([x25]:List af)).bind fun x28=>
  some (.inl ((w64 (Ec+1)),x28)))
  else (some (.inr (.inr (([]:List af),false)))))
  else (some (.inr (.inl mF)))
noncomputable def jM (vw:(List af)) (lI:(List Int)):Option ((List af)×Bool):=
 (aG (nO vw lI) (0,([]:List af))).bind fun o=>match o with
   | (.inl kE)=>(some (kE,true))
   | (.inr r2)=>(some r2)
noncomputable def pz (p_0:af):Option Bool:=
 (cO p_0.X 0 20000).bind fun x5=>
   (if x5=true then
   ((cO p_0.Y 0 20000).bind fun x9=>
   some x9)
   else (some false)).bind fun lJ=>
   some lJ
noncomputable def gQ (bW:(List af)) (E5:Int):Option (Int ⊕ (Unit ⊕ Bool)):=
 if E5< (bW.length:Int) then
  ((rd bW E5).bind fun x9=>
  (pz x9).bind fun x12=>
  if x12=true then
  (some (.inl (w64 (E5+1))))
  else (some (.inr (.inr false))))
  else (some (.inr (.inl ())))
noncomputable def qY (bW:(List af)):Option Bool:=
 (aG (gQ bW) 0).bind fun o=>match o with
   | (.inl _)=>(some true)
   | (.inr r2)=>(some r2)
noncomputable def nY (a_0:af) (b_1:af) (c_2:af):Option Int:=
 if (w64 ((w64 ((w64 (b_1.X - a_0.X)) * (w64 (c_2.Y - a_0.Y)))) - (w64 ((w64 (b_1.Y - a_0.Y)) * (w64 (c_2.X - a_0.X)))))) >0 then
  (some 1)
  else (if (w64 ((w64 ((w64 (b_1.X - a_0.X)) * (w64 (c_2.Y - a_0.Y)))) - (w64 ((w64 (b_1.Y - a_0.Y)) * (w64 (c_2.X - a_0.X)))))) <0 then
  (some (-1))
  else (some 0))
noncomputable def tu (a_0:af) (b_1:af) (p_2:af):Option Bool:=
 (nY a_0 b_1 p_2).bind fun x10=>
   (if x10=0 then
   ((cO p_2.X (min2 a_0.X b_1.X) (max2 a_0.X b_1.X)).bind fun x25=>
   if x25=true then
   ((cO p_2.Y (min2 a_0.Y b_1.Y) (max2 a_0.Y b_1.Y)).bind fun x40=>
   some x40)
   else (some false))
   else (some false)).bind fun lK=>
   some lK
noncomputable def nI (a_0:af) (b_1:af) (c_2:af) (d_3:af):Option Bool:=
 (nY a_0 b_1 c_2).bind fun x12=>
   (nY a_0 b_1 d_3).bind fun x16=>
   (if (w64 (x12*x16)) <0 then
   ((nY c_2 d_3 a_0).bind fun x23=>
   (nY c_2 d_3 b_1).bind fun x27=>
   some (decide ((w64 (x23*x27)) <0)))
   else (some false)).bind fun tZ=>
   some tZ
noncomputable def nJ (a_0:af) (b_1:af) (c_2:af) (d_3:af):Option Bool:=
 (nI a_0 b_1 c_2 d_3).bind fun x13=>
   (if x13=true then
   (some true)
   else ((tu a_0 b_1 c_2).bind fun x18=>
   if x18=true then
   (some true)
   else ((tu a_0 b_1 d_3).bind fun x24=>
   if x24=true then
   (some true)
   else ((tu c_2 d_3 a_0).bind fun x30=>
   if x30=true then
   (some true)
   else ((tu c_2 d_3 b_1).bind fun x36=>
   some x36))))).bind fun tZ=>
   some tZ
noncomputable def pF (p_0:(List af)) (s:(Int×Int)):Option ((Int×Int) ⊕ Int):=
 match s with
  | (lM,zL)=>
  if zL< (p_0.length:Int) then
  ((rd p_0 zL).bind fun x12=>
  (md (w64 (zL+1)) (p_0.length:Int)).bind fun x19=>
  (rd p_0 x19).bind fun x20=>
  some (.inl ((w64 (lM+(w64 ((w64 (x12.X*x20.Y)) - (w64 (x12.Y*x20.X)))))),(w64 (zL+1)))))
  else (some (.inr lM))
noncomputable def oN (p_0:(List af)):Option Int:=
 (aG (pF p_0) (0,0)).bind fun oL=>
   some oL
noncomputable def gV (p_0:(List af)) (jT:Int) (x29:af) (x36:af) (yB:Int):Option (Int ⊕ (Unit ⊕ Bool)):=
 if yB< (p_0.length:Int) then
  ((md (w64 (yB+1)) (p_0.length:Int)).bind fun x70=>
  (if x70≠jT then
  ((rd p_0 yB).bind fun x78=>
  (md (w64 (yB+1)) (p_0.length:Int)).bind fun x84=>
  (rd p_0 x84).bind fun x85=>
  (nJ x29 x36 x78 x85).bind fun x87=>
  some x87)
  else (some false)).bind fun KN=>
  if KN=true then
  (some (.inr (.inr false)))
  else (some (.inl (w64 (yB+1)))))
  else (some (.inr (.inl ())))
noncomputable def iD (p_0:(List af)) (jT:Int):Option (Int ⊕ (Unit ⊕ Bool)):=
 if jT< (p_0.length:Int) then
  ((rd p_0 jT).bind fun x29=>
  (md (w64 (jT+1)) (p_0.length:Int)).bind fun x35=>
  (rd p_0 x35).bind fun x36=>
  (md (w64 (jT+2)) (p_0.length:Int)).bind fun x42=>
  (rd p_0 x42).bind fun x43=>
  (if (x29.X=x36.X∧x29.Y=x36.Y) then
  (some true)
  else ((tu x29 x36 x43).bind fun x52=>
  if x52=true then
  (some true)
  else ((tu x36 x43 x29).bind fun x58=>
  some x58))).bind fun OO=>
  if OO=true then
  (some (.inr (.inr false)))
  else ((aG (gV p_0 jT x29 x36) (w64 (jT+2))).bind fun o=>match o with
  | (.inl _)=>(some (.inl (w64 (jT+1))))
  | (.inr r2)=>(some (.inr (.inr r2)))))
  else (some (.inr (.inl ())))
noncomputable def mW (p_0:(List af)):Option Bool:=
 (if (p_0.length:Int) <3 then
   (some true)
   else (if (p_0.length:Int) >24 then
   (some true)
   else ((qY p_0).bind fun x19=>
   some (!x19)))).bind fun OQ=>
   if OQ=true then
   (some false)
   else ((aG (iD p_0) 0).bind fun o=>match o with
   | (.inl _)=>((oN p_0).bind fun x91=>
   some (decide (x91>0)))
   | (.inr r2)=>(some r2))
noncomputable def iU (d_0:aA) (pG:Int):Option (Int ⊕ (Unit ⊕ Bool)):=
 if pG< (d_0.aC.length:Int) then
  ((rd d_0.aC pG).bind fun x68=>
  (xE x68.Name).bind fun x72=>
  (if x72=true then
  (if pG>0 then
  ((rd d_0.aC (w64 (pG - 1))).bind fun x82=>
  some (!Op.bytesLess x82.Name.toList x68.Name.toList))
  else (some false))
  else (some true)).bind fun KO=>
  if KO=true then
  (some (.inr (.inr false)))
  else ((jM d_0.bg x68.Ring).bind fun x95=>
  (if x95.2=true then
  ((mW x95.1).bind fun x102=>
  some (!x102))
  else (some true)).bind fun HY=>
  if HY=true then
  (some (.inr (.inr false)))
  else (some (.inl (w64 (pG+1))))))
  else (some (.inr (.inl ())))
noncomputable def jd (d_0:aA) (wQ:Int):Option (Int ⊕ (Unit ⊕ Bool)):=
 if wQ< (d_0.bg.length:Int) then
  ((rd d_0.bg wQ).bind fun x37=>
  (cO x37.X 0 d_0.Width).bind fun x43=>
  (if x43=true then
  ((cO x37.Y 0 d_0.Height).bind fun x50=>
  if x50=true then
  ((slc d_0.bg 0 wQ).bind fun x57=>
  (dG x57 x37).bind fun x59=>
  some x59)
  else (some true))
  else (some true)).bind fun OT=>
  if OT=true then
  (some (.inr (.inr false)))
  else (some (.inl (w64 (wQ+1)))))
  else (some (.inr (.inl ())))
noncomputable def mX (d_0:aA):Option Bool:=
 (cO d_0.Width 10 20000).bind fun x11=>
   (if x11=true then
   ((cO d_0.Height 10 20000).bind fun x16=>
   if x16=true then
   (if (d_0.bg.length:Int) >48 then
   (some true)
   else (some (decide ((d_0.aC.length:Int) >24))))
   else (some true))
   else (some true)).bind fun OU=>
   if OU=true then
   (some false)
   else ((aG (jd d_0) 0).bind fun o=>match o with
   | (.inl _)=>((aG (iU d_0) 0).bind fun o=>match o with
   | (.inl _)=>(some true)
   | (.inr r2)=>(some r2))
   | (.inr r2)=>(some r2))
noncomputable def nZ (jJ:ByteArray):Option (Int×Int×Int×Int):=
 if jJ=(⟨#[97,115,104]⟩:ByteArray) then
  (some (20,40,310,0))
  else (if jJ=(⟨#[98,101,101,99,104]⟩:ByteArray) then
  (some (35,45,410,0))
  else (if jJ=(⟨#[98,105,114,99,104]⟩:ByteArray) then
  (some (15,33,280,0))
  else (if jJ=(⟨#[99,104,101,114,114,121]⟩:ByteArray) then
  (some (50,36,240,0))
  else (if jJ=(⟨#[101,98,111,110,121]⟩:ByteArray) then
  (some (95,85,270,0))
  else (if jJ=(⟨#[104,111,108,108,121]⟩:ByteArray) then
  (some (5,35,370,0))
  else (if jJ=(⟨#[109,97,112,108,101]⟩:ByteArray) then
  (some (10,42,290,0))
  else (if jJ=(⟨#[111,97,107]⟩:ByteArray) then
  (some (40,40,330,0))
  else (if jJ=(⟨#[114,111,115,101,119,111,111,100]⟩:ByteArray) then
  (some (80,60,220,0))
  else (if jJ=(⟨#[119,97,108,110,117,116]⟩:ByteArray) then
  (some (70,38,260,0))
  else (some (0,0,0,3)))))))))))
noncomputable def iP (jJ:ByteArray):Option (Int×Bool):=
 (nZ jJ).bind fun x10=>
   some (x10.1,(x10.2.2.2==0))
noncomputable def jO (v_0:ai):Option Bool:=
 (iP v_0.jl).bind fun x8=>
   (if x8.2=true then
   ((cO v_0.dO 0 100).bind fun x15=>
   if x15=true then
   ((cO (w64 (v_0.dO - x8.1)) (-15) 15).bind fun x22=>
   if x22=true then
   ((cO v_0.aY 0 179).bind fun x27=>
   some x27)
   else (some false))
   else (some false))
   else (some false)).bind fun SE=>
   some SE
noncomputable def iE (v_0:ai):Option Bool:=
 (jO v_0).bind fun x4=>
   some (!x4)
noncomputable def bY (f_1:(ai→Option Bool)) (s_0:(List ai)) (fB:Int):Option (Int ⊕ (Unit ⊕ Int)):=
 if fB< (s_0.length:Int) then
  ((rd s_0 fB).bind fun x14=>
  (f_1 x14).bind fun x16=>
  if x16=true then
  (some (.inr (.inr fB)))
  else (some (.inl (w64 (fB+1)))))
  else (some (.inr (.inl ())))
noncomputable def dX (s_0:(List ai)) (f_1:(ai→Option Bool)):Option Int:=
 (aG (bY f_1 s_0) 0).bind fun o=>match o with
   | (.inl _)=>(some (-1))
   | (.inr r2)=>(some r2)
noncomputable def dH (s_0:(List ai)) (f_1:(ai→Option Bool)):Option Bool:=
 (dX s_0 f_1).bind fun x7=>
   some (decide (x7≥0))
noncomputable def mY (bW:(List ai)):Option Bool:=
 (dH bW (fun a0=>iE a0)).bind fun x4=>
   some (!x4)
noncomputable def mZ (d_0:aA) (aI:(List ai)) (aN:Int) (bz:Int):Option Int:=
 (mX d_0).bind fun x11=>
   (if x11=true then
   ((mY aI).bind fun x15=>
   some (!x15))
   else (some true)).bind fun SG=>
   if SG=true then
   (some 1)
   else ((if (aI.length:Int) <1 then
   (some true)
   else (if (aI.length:Int) >10 then
   (some true)
   else ((cO aN 0 115).bind fun x29=>
   if x29=true then
   ((cO bz 1 20000).bind fun x34=>
   some (!x34))
   else (some true)))).bind fun OV=>
   if OV=true then
   (some 2)
   else (some 0))
noncomputable def ng (kP:(List Int)) (s:(Int×(List aZ))):Option ((Int×(List aZ)) ⊕ (List aZ)):=
 match s with
  | (BC,aW)=>
  if BC< (kP.length:Int) then
  ((rd kP BC).bind fun x13=>
  (md (w64 (BC+1)) (kP.length:Int)).bind fun x20=>
  (rd kP x20).bind fun x21=>
  (apd 16 aW ([(⟨(min2 x13 x21),(max2 x13 x21)⟩:aZ)]:List aZ)).bind fun x32=>
  some (.inl ((w64 (BC+1)),x32)))
  else (some (.inr aW))
noncomputable def qG (kP:(List Int)):Option (List aZ):=
 (aG (ng kP) (0,([]:List aZ))).bind fun bu=>
   some bu
noncomputable def fF (s_0:(List aZ)) (v_1:aZ) (fB:Int):Option (Int ⊕ (Unit ⊕ Int)):=
 if fB< (s_0.length:Int) then
  ((rd s_0 fB).bind fun x14=>
  if (v_1.e0=x14.e0∧v_1.e1=x14.e1) then
  (some (.inr (.inr fB)))
  else (some (.inl (w64 (fB+1)))))
  else (some (.inr (.inl ())))
noncomputable def iY (s_0:(List aZ)) (v_1:aZ):Option Int:=
 (aG (fF s_0 v_1) 0).bind fun o=>match o with
   | (.inl _)=>(some (-1))
   | (.inr r2)=>(some r2)
noncomputable def fG (s_0:(List aZ)) (v_1:aZ):Option Bool:=
 (iY s_0 v_1).bind fun x7=>
   some (decide (x7≥0))
noncomputable def ja (e_0:aZ) (OW:(List (List aZ))) (OX:Int):Option Bool:=
 (rd OW OX).bind fun x7=>
   (fG x7 e_0).bind fun x10=>
   some x10
noncomputable def dP (f_1:(aZ→Option Bool)) (s_0:(List aZ)) (fB:Int):Option (Int ⊕ (Unit ⊕ Int)):=
 if fB< (s_0.length:Int) then
  ((rd s_0 fB).bind fun x14=>
  (f_1 x14).bind fun x16=>
  if x16=true then
  (some (.inr (.inr fB)))
  else (some (.inl (w64 (fB+1)))))
  else (some (.inr (.inl ())))
noncomputable def gZ (s_0:(List aZ)) (f_1:(aZ→Option Bool)):Option Int:=
 (aG (dP f_1 s_0) 0).bind fun o=>match o with
   | (.inl _)=>(some (-1))
   | (.inr r2)=>(some r2)
noncomputable def dQ (s_0:(List aZ)) (f_1:(aZ→Option Bool)):Option Bool:=
 (gZ s_0 f_1).bind fun x7=>
   some (decide (x7≥0))
noncomputable def kT (je:Int) (yV:(List (List Int))):Option ((Int×(List (List Int))) ⊕ (List (List Int))):=
 some (.inl ((w64 (je+1)),yV))
noncomputable def kU (aS:(List (List aZ))) (iZ:Int) (s:(Int×(List (List Int)))):Option ((Int×(List (List Int))) ⊕ (List (List Int))):=
 match s with
  | (je,jP)=>
  if je< (aS.length:Int) then
  ((if iZ≠je then
  ((rd aS iZ).bind fun x43=>
  (dQ x43 (fun a0=>ja a0 aS je)).bind fun x46=>
  some x46)
  else (some false)).bind fun KP=>
  if KP=true then
  ((rd jP iZ).bind fun x52=>
  (apd 8 x52 ([je]:List Int)).bind fun x56=>
  (rd jP iZ).bind fun x57=>
  kT je (jP.set iZ.toNat x56))
  else (kT je jP))
  else (some (.inr jP))
noncomputable def lT (aS:(List (List aZ))) (s:(Int×(List (List Int)))):Option ((Int×(List (List Int))) ⊕ (List (List Int))):=
 match s with
  | (iZ,AU)=>
  if iZ< (aS.length:Int) then
  ((aG (kU aS iZ) (0,AU)).bind fun yC=>
  some (.inl ((w64 (iZ+1)),yC)))
  else (some (.inr AU))
noncomputable def lU (d_0:aA) (s:(Int×(List (List aZ)))):Option ((Int×(List (List aZ))) ⊕ (List (List aZ))):=
 match s with
  | (zF,uC)=>
  if zF< (d_0.aC.length:Int) then
  ((rd d_0.aC zF).bind fun x15=>
  (qG x15.Ring).bind fun x20=>
  (apd 24 uC ([x20]:List (List aZ))).bind fun x22=>
  some (.inl ((w64 (zF+1)),x22)))
  else (some (.inr uC))
noncomputable def pI (d_0:aA):Option (List (List Int)):=
 (aG (lU d_0) (0,([]:List (List aZ)))).bind fun aS=>
   (mkl 24 (aS.length:Int) ([]:List Int)).bind fun x26=>
   (aG (lT aS) (0,x26)).bind fun zG=>
   some zG
noncomputable def ig (s_0:(List Int)) (v_1:Int) (fB:Int):Option (Int ⊕ (Unit ⊕ Int)):=
 if fB< (s_0.length:Int) then
  ((rd s_0 fB).bind fun x14=>
  if v_1=x14 then
  (some (.inr (.inr fB)))
  else (some (.inl (w64 (fB+1)))))
  else (some (.inr (.inl ())))
noncomputable def jU (s_0:(List Int)) (v_1:Int):Option Int:=
 (aG (ig s_0 v_1) 0).bind fun o=>match o with
   | (.inl _)=>(some (-1))
   | (.inr r2)=>(some r2)
noncomputable def fE (s_0:(List Int)) (v_1:Int):Option Bool:=
 (jU s_0 v_1).bind fun x7=>
   some (decide (x7≥0))
noncomputable def tC (a_0:Int) (b_1:Int):Option (Int×Int):=
 (cO a_0 0 179).bind fun x8=>
   (if x8=true then
   ((cO b_1 0 179).bind fun x12=>
   some (!x12))
   else (some true)).bind fun OY=>
   if OY=true then
   (some (0,2))
   else (some ((min2 (max2 (w64 (a_0 - b_1)) (w64 (b_1 - a_0))) (w64 (180 - (max2 (w64 (a_0 - b_1)) (w64 (b_1 - a_0)))))),0))
noncomputable def sQ (a_0:ai) (b_1:ai):Option Int:=
 (tC a_0.aY b_1.aY).bind fun x12=>
   (dv .i64 x12.1 6).bind fun x27=>
   some (w64 ((max2 (w64 (a_0.dO - b_1.dO)) (w64 (b_1.dO - a_0.dO)))+x27))
noncomputable def dR (self:(aQ×(List Int)×Int×Int)→Option ((List Int)×Int×aQ)) (ik:Int) (yX:(List (List Int))) (yY:(List ai)) (yZ:Int):Option ((Int×(List (List Int))×(List ai)×Int) ⊕ (((List (List Int))×(List ai)×Int) ⊕ ((List Int)×Int×aQ))):=
 some (.inl ((w64 (ik+1)),yX,yY,yZ))
noncomputable def gK (self:(aQ×(List Int)×Int×Int)→Option ((List Int)×Int×aQ)) (bf:(List Int)) (aN:Int) (iJ:(List ai)) (ik:Int) (x57:(List Int)) (s:(Bool×Int)):Option ((Bool×Int) ⊕ Bool):=
 match s with
  | (xG,y5)=>
  if y5< (x57.length:Int) then
  ((rd x57 y5).bind fun x62=>
  (if xG=true then
  (if x62≥(bf.length:Int) then
  (some true)
  else ((rd iJ ik).bind fun x75=>
  (rd bf x62).bind fun x83=>
  (rd iJ x83).bind fun x85=>
  (sQ x75 x85).bind fun x87=>
  some (decide (x87≥aN))))
  else (some false)).bind fun Dn=>
  some (.inl (Dn,(w64 (y5+1)))))
  else (some (.inr xG))
noncomputable def eG (self:(aQ×(List Int)×Int×Int)→Option ((List Int)×Int×aQ)) (bf:(List Int)) (aN:Int) (jm:Int) (s_0:aQ) (x33:(List Int)) (s:(Int×(List (List Int))×(List ai)×Int)):Option ((Int×(List (List Int))×(List ai)×Int) ⊕ (((List (List Int))×(List ai)×Int) ⊕ ((List Int)×Int×aQ))):=
 match s with
  | (ik,jw,iJ,jy)=>
  if ik< (s_0.iO.length:Int) then
  ((if (x33.length:Int)≥jm then
  ((fE x33 ik).bind fun x49=>
  some (!x49))
  else (some false)).bind fun KQ=>
  if KQ=true then
  (dR self ik jw iJ jy)
  else ((rd jw (bf.length:Int)).bind fun x57=>
  (aG (gK self bf aN iJ ik x57) (true,0)).bind fun sU=>
  if sU=true then
  (if jy=0 then
  (some (.inr (.inr (([]:List Int),5,(⟨jw,iJ,jy⟩:aQ)))))
  else ((apd 8 ([]:List Int) bf).bind fun aev=>
  (apd 8 aev ([ik]:List Int)).bind fun x113=>
  (self ((⟨jw,iJ,(w64 (jy - 1))⟩:aQ),x113,aN,jm)).bind fun yD=>
  if yD.2.1≠3 then
  (some (.inr (.inr (yD.1,yD.2.1,yD.2.2))))
  else (dR self ik yD.2.2.near yD.2.2.iO yD.2.2.left)))
  else (dR self ik jw iJ jy)))
  else (some (.inr (.inl (jw,iJ,jy))))
noncomputable def eY (self:(aQ×(List Int)×Int×Int)→Option ((List Int)×Int×aQ)) (s_0:aQ) (bf:(List Int)) (aN:Int) (jm:Int):Option ((List Int)×Int×aQ):=
 if (bf.length:Int)=(s_0.near.length:Int) then
  (some (bf,0,s_0))
  else ((apd 8 ([]:List Int) bf).bind fun x29=>
  (QF x29).bind fun x31=>
  (Xr x31).bind fun x33=>
  (aG (eG self bf aN jm s_0 x33) (0,s_0.near,s_0.iO,s_0.left)).bind fun o=>match o with
  | (.inl (xH,xI,xJ))=>(some (([]:List Int),3,(⟨xH,xI,xJ⟩:aQ)))
  | (.inr r2)=>(some r2))
noncomputable def jf (s_0:aQ) (bf:(List Int)) (aN:Int) (jm:Int):Option ((List Int)×Int×aQ):=Bj (fun self s=>match s with | (s_0,bf,aN,jm)=>eY self s_0 bf aN jm) (s_0,bf,aN,jm)
noncomputable def dY (aN:Int) (aI:(List ai)) (s:(Int×(List (List Int))×(List ai)×Int)):Option ((Int×(List (List Int))×(List ai)×Int) ⊕ (Unit ⊕ ((List Int)×Int×Int))):=
 match s with
  | (jS,BD,BF,BG)=>
  if jS≤(aI.length:Int) then
  ((jf (⟨BD,BF,BG⟩:aQ) ([]:List Int) aN jS).bind fun x40=>
  if x40.2.1=0 then
  (some (.inr (.inr (x40.1,jS,0))))
  else (if x40.2.1≠3 then
  (some (.inr (.inr (([]:List Int),0,x40.2.1))))
  else (some (.inl ((w64 (jS+1)),x40.2.2.near,x40.2.2.iO,x40.2.2.left)))))
  else (some (.inr (.inl ())))
noncomputable def jQ (d_0:aA) (aI:(List ai)) (aN:Int) (bz:Int):Option ((List Int)×Int×Int):=
 (mZ d_0 aI aN bz).bind fun x20=>
   if x20≠0 then
   (some (([]:List Int),0,x20))
   else ((pI d_0).bind fun x25=>
   (aG (dY aN aI) (0,x25,aI,bz)).bind fun o=>match o with
   | (.inl _)=>(some (([]:List Int),0,3))
   | (.inr r2)=>(some r2))
noncomputable def lu (a_0:(List Int)) (b_1:(List Int)) (iF:Int):Option (Int ⊕ (Unit ⊕ Bool)):=
 if iF< (a_0.length:Int) then
  ((rd a_0 iF).bind fun x19=>
  (rd b_1 iF).bind fun x23=>
  if x19≠x23 then
  (some (.inr (.inr false)))
  else (some (.inl (w64 (iF+1)))))
  else (some (.inr (.inl ())))
noncomputable def ji (a_0:(List Int)) (b_1:(List Int)):Option Bool:=
 if (a_0.length:Int)≠(b_1.length:Int) then
  (some false)
  else ((aG (lu a_0 b_1) 0).bind fun o=>match o with
  | (.inl _)=>(some true)
  | (.inr r2)=>(some r2))
noncomputable def vz (a_0:af) (b_1:af):Option Bool:=
 if a_0.X≠b_1.X then
  (some false)
  else (if a_0.Y≠b_1.Y then
  (some false)
  else (some true))
noncomputable def qZ (a_0:(List af)) (b_1:(List af)) (iF:Int):Option (Int ⊕ (Unit ⊕ Bool)):=
 if iF< (a_0.length:Int) then
  ((rd a_0 iF).bind fun x19=>
  (rd b_1 iF).bind fun x23=>
  (vz x19 x23).bind fun x25=>
  if x25=true then
  (some (.inl (w64 (iF+1))))
  else (some (.inr (.inr false))))
  else (some (.inr (.inl ())))
noncomputable def sV (a_0:(List af)) (b_1:(List af)):Option Bool:=
 if (a_0.length:Int)≠(b_1.length:Int) then
  (some false)
  else ((aG (qZ a_0 b_1) 0).bind fun o=>match o with
  | (.inl _)=>(some true)
  | (.inr r2)=>(some r2))
noncomputable def xK (a_0:dh) (b_1:dh):Option Bool:=
 if ¬(a_0.Name=b_1.Name) then
  (some false)
  else ((ji a_0.Ring b_1.Ring).bind fun x14=>
  if x14=true then
  (some true)
  else (some false))
noncomputable def tH (a_0:(List dh)) (b_1:(List dh)) (iF:Int):Option (Int ⊕ (Unit ⊕ Bool)):=
 if iF< (a_0.length:Int) then
  ((rd a_0 iF).bind fun x19=>
  (rd b_1 iF).bind fun x23=>
  (xK x19 x23).bind fun x25=>
  if x25=true then
  (some (.inl (w64 (iF+1))))
  else (some (.inr (.inr false))))
  else (some (.inr (.inl ())))
noncomputable def vC (a_0:(List dh)) (b_1:(List dh)):Option Bool:=
 if (a_0.length:Int)≠(b_1.length:Int) then
  (some false)
  else ((aG (tH a_0 b_1) 0).bind fun o=>match o with
  | (.inl _)=>(some true)
  | (.inr r2)=>(some r2))
noncomputable def qH (a_0:aA) (b_1:aA):Option Bool:=
 if a_0.Width≠b_1.Width then
  (some false)
  else (if a_0.Height≠b_1.Height then
  (some false)
  else ((sV a_0.bg b_1.bg).bind fun x19=>
  if x19=true then
  ((vC a_0.aC b_1.aC).bind fun x25=>
  if x25=true then
  (some true)
  else (some false))
  else (some false)))
noncomputable def sW (a_0:ai) (b_1:ai):Option Bool:=
 if ¬(a_0.jl=b_1.jl) then
  (some false)
  else (if a_0.dO≠b_1.dO then
  (some false)
  else (if a_0.aY≠b_1.aY then
  (some false)
  else (some true)))
noncomputable def qi (a_0:(List ai)) (b_1:(List ai)) (iF:Int):Option (Int ⊕ (Unit ⊕ Bool)):=
 if iF< (a_0.length:Int) then
  ((rd a_0 iF).bind fun x19=>
  (rd b_1 iF).bind fun x23=>
  (sW x19 x23).bind fun x25=>
  if x25=true then
  (some (.inl (w64 (iF+1))))
  else (some (.inr (.inr false))))
  else (some (.inr (.inl ())))
noncomputable def qI (a_0:(List ai)) (b_1:(List ai)):Option Bool:=
 if (a_0.length:Int)≠(b_1.length:Int) then
  (some false)
  else ((aG (qi a_0 b_1) 0).bind fun o=>match o with
  | (.inl _)=>(some true)
  | (.inr r2)=>(some r2))
noncomputable def jF (a_0:(List af)) (s:(Int×Int)):Option ((Int×Int) ⊕ Int):=
 match s with
  | (dm,aX)=>
  if aX< (a_0.length:Int) then
  ((rd a_0 aX).bind fun x15=>
  (rd a_0 aX).bind fun x22=>
  some (.inl ((w64 ((w64 (dm+1))+1)),(w64 (aX+1)))))
  else (some (.inr dm))
noncomputable def lV (a_0:(List af)) (k_1:Int):Option Int:=
 (aG (jF a_0) (k_1,0)).bind fun dS=>
   some dS
noncomputable def lC (s:(Int×ByteArray)):Option ((Int×ByteArray) ⊕ ByteArray):=
 match s with
  | (H6,Dp)=>
  if H6>0 then
  ((md H6 10).bind fun x9=>
  (cat (strOf ([(IntKind.wrap .u8 ((w64 (48+x9))))]:List Int)) Dp).bind fun x15=>
  (dv .i64 H6 10).bind fun x17=>
  some (.inl (x17,x15)))
  else (some (.inr Dp))
noncomputable def pW (k_0:Int):Option ByteArray:=
 if k_0≤0 then
  (some (⟨#[109,48]⟩:ByteArray))
  else ((aG (lC) (k_0,(⟨#[]⟩:ByteArray))).bind fun BH=>
  (cat (⟨#[109]⟩:ByteArray) BH).bind fun x19=>
  some x19)
noncomputable def jG (a_0:(List Int)) (s:(Int×Int)):Option ((Int×Int) ⊕ Int):=
 match s with
  | (dm,aX)=>
  if aX< (a_0.length:Int) then
  ((rd a_0 aX).bind fun x15=>
  some (.inl ((w64 (dm+1)),(w64 (aX+1)))))
  else (some (.inr dm))
noncomputable def lW (a_0:(List Int)) (k_1:Int):Option Int:=
 (aG (jG a_0) (k_1,0)).bind fun dS=>
   some dS
noncomputable def ni (a_0:(List dh)) (s:(Int×Int)):Option ((Int×Int) ⊕ Int):=
 match s with
  | (dm,aX)=>
  if aX< (a_0.length:Int) then
  ((pW dm).bind fun x15=>
  (rd a_0 aX).bind fun x16=>
  (rd a_0 aX).bind fun x22=>
  (lW x22.Ring (w64 (dm+1))).bind fun x26=>
  some (.inl (x26,(w64 (aX+1)))))
  else (some (.inr dm))
noncomputable def qJ (a_0:(List dh)) (k_1:Int):Option Int:=
 (aG (ni a_0) (k_1,0)).bind fun dS=>
   some dS
noncomputable def og (a_0:aA) (k_1:Int):Option Int:=
 (lV a_0.bg k_1).bind fun x8=>
   (qJ a_0.aC x8).bind fun x12=>
   some x12
noncomputable def jA (s:(Int×Int×(List ai))):Option ((Int×Int×(List ai)) ⊕ (Int×(List ai))):=
 match s with
  | (dm,aX,jV)=>
  if aX< (jV.length:Int) then
  ((pW dm).bind fun x15=>
  (rd jV aX).bind fun x16=>
  (rd (jV.set aX.toNat (⟨x15,x16.dO,x16.aY⟩:ai)) aX).bind fun x23=>
  (rd ((jV.set aX.toNat (⟨x15,x16.dO,x16.aY⟩:ai)).set aX.toNat (⟨x23.jl,(w64 (dm+1)),x23.aY⟩:ai)) aX).bind fun x30=>
  some (.inl ((w64 ((w64 ((w64 (dm+1))+1))+1)),(w64 (aX+1)),(((jV.set aX.toNat (⟨x15,x16.dO,x16.aY⟩:ai)).set aX.toNat (⟨x23.jl,(w64 (dm+1)),x23.aY⟩:ai)).set aX.toNat (⟨x30.jl,x30.dO,(w64 ((w64 (dm+1))+1))⟩:ai)))))
  else (some (.inr (dm,jV)))
noncomputable def oh (a_0:(List ai)) (k_1:Int):Option (Int×(List ai)):=
 (aG (jA) (k_1,0,a_0)).bind fun o=>match o with
   | (dS,oq)=>
   some (dS,oq)
noncomputable def lX (s:(Int×Int×(List Int))):Option ((Int×Int×(List Int)) ⊕ (Int×(List Int))):=
 match s with
  | (dm,aX,jV)=>
  if aX< (jV.length:Int) then
  ((rd jV aX).bind fun x15=>
  some (.inl ((w64 (dm+1)),(w64 (aX+1)),(jV.set aX.toNat dm))))
  else (some (.inr (dm,jV)))
noncomputable def pJ (a_0:(List Int)) (k_1:Int):Option (Int×(List Int)):=
 (aG (lX) (k_1,0,a_0)).bind fun o=>match o with
   | (dS,oq)=>
   some (dS,oq)
noncomputable def lY (a_0:(List Int)) (s:(Int×Int)):Option ((Int×Int) ⊕ (Int ⊕ Int)):=
 match s with
  | (dm,aX)=>
  if aX< (a_0.length:Int) then
  ((rd a_0 aX).bind fun x14=>
  if x14≠dm then
  (some (.inr (.inr (-1))))
  else (some (.inl ((w64 (dm+1)),(w64 (aX+1))))))
  else (some (.inr (.inl dm)))
noncomputable def mG (a_0:(List Int)) (k_1:Int):Option Int:=
 (aG (lY a_0) (k_1,0)).bind fun o=>match o with
   | (.inl dS)=>(some dS)
   | (.inr r2)=>(some r2)
noncomputable def jD (zM:aA) (fC:(List ai)) (jo:Int) (iK:Int):Option Bool:=
 (qA zM 1048576).bind fun x26=>
   if x26<0 then
   (some true)
   else ((qB fC x26).bind fun x31=>
   if x31<0 then
   (some true)
   else ((kC zM).bind fun x36=>
   (kD fC).bind fun x38=>
   (lS x36 x38 jo iK).bind fun x41=>
   (kC zM).bind fun x46=>
   (kD fC).bind fun x48=>
   (jQ x46 x48 jo iK).bind fun x54=>
   (ji x54.1 x41.1).bind fun x60=>
   if (¬(x60=true)∨(x54.2.1≠x41.2.1∨x54.2.2≠x41.2.2)) then
   (some false)
   else ((kC zM).bind fun x74=>
   (qH x46 x74).bind fun x75=>
   if x75=true then
   ((kD fC).bind fun x79=>
   (qI x48 x79).bind fun x80=>
   if x80=true then
   ((og x46 1).bind fun x84=>
   (oh x48 x84).bind fun x87=>
   (if x87.1<0 then
   (some true)
   else ((ji x54.1 x41.1).bind fun x93=>
   if x93=true then
   (if x54.2.1≠x41.2.1 then
   (some true)
   else (some (x54.2.2 != x41.2.2)))
   else (some true))).bind fun H7=>
   if H7=true then
   (some false)
   else ((pJ x54.1 1).bind fun yc=>
   (mG yc.2 1).bind fun acL=>
   if acL<0 then
   (some false)
   else (if acL≠yc.1 then
   (some false)
   else ((kC zM).bind fun aew=>
   (kD fC).bind fun aex=>
   (jQ aew aex jo iK).bind fun QH=>
   (ji QH.1 x41.1).bind fun Y4=>
   if (¬(Y4=true)∨(QH.2.1≠x41.2.1∨QH.2.2≠x41.2.2)) then
   (some false)
   else ((mG yc.2 1).bind fun acM=>
   if acM<0 then
   (some false)
   else (if acM≠yc.1 then
   (some false)
   else (some true)))))))
   else (some false))
   else (some false))))
end Go.Pw
