/- Plain functions that answer what the program's functions answer. Conditions: none; definitions alone. -/
import Derived.Test.YtnjgcdpleghciaaGreatSimPw
import Derived.Test.YtnjgcdpleghciaaGreatSimPt
namespace Go.Pw
open Go.Sim (min2 max2)
set_option linter.unusedVariables false
structure af where
 X:Int
 Y:Int
structure dh where
 Name:ByteArray
 Ring:(List Int)
structure aA where
 Width:Int
 Height:Int
 bf:(List af)
 aC:(List dh)
structure ai where
 ji:ByteArray
 dM:Int
 aX:Int
structure aG where
 before:(List (List Int))
 table:(List (List Int))
 limit:Int
 most:Int
 choice:(List Int)
 nodes:Int
 budget:Int
 full:Bool
structure aY where
 e0:Int
 e1:Int
structure aP where
 near:(List (List Int))
 je:(List ai)
 left:Int
noncomputable def rP (a_0:(List af)) (fE:Int):Option Int:=
 if (w64 (fE - (a_0.length:Int))) <0 then
  (some (-1))
  else (some (w64 (fE - (a_0.length:Int))))
noncomputable def rQ (a_0:(List Int)) (fE:Int):Option Int:=
 if (w64 (fE - (a_0.length:Int))) <0 then
  (some (-1))
  else (some (w64 (fE - (a_0.length:Int))))
noncomputable def wH (a_0:dh) (fE:Int):Option Int:=
 if (w64 (fE - (a_0.Name.size:Int))) <0 then
  (some (-1))
  else ((rQ a_0.Ring (w64 (fE - (a_0.Name.size:Int)))).bind fun x15=>
  if x15<0 then
  (some (-1))
  else (some x15))
noncomputable def oL (a_0:(List dh)) (s:(Int×Int)):Option ((Int×Int) ⊕ (Int ⊕ Int)):=
 match s with
  | (nN,vJ)=>
  if vJ< (a_0.length:Int) then
  ((rd a_0 vJ).bind fun x20=>
  (wH x20 nN).bind fun x23=>
  if x23<0 then
  (some (.inr (.inr (-1))))
  else (some (.inl (x23,(w64 (vJ+1))))))
  else (some (.inr (.inl nN)))
noncomputable def uH (a_0:(List dh)) (fE:Int):Option Int:=
 if (w64 (fE - (a_0.length:Int))) <0 then
  (some (-1))
  else ((aH (oL a_0) ((w64 (fE - (a_0.length:Int))),0)).bind fun o=>match o with
  | (.inl jW)=>(some jW)
  | (.inr r2)=>(some r2))
noncomputable def qm (a_0:aA) (fE:Int):Option Int:=
 (rP a_0.bf fE).bind fun x8=>
   if x8<0 then
   (some (-1))
   else ((uH a_0.aC x8).bind fun x14=>
   if x14<0 then
   (some (-1))
   else (some x14))
noncomputable def rU (a_0:ai) (fE:Int):Option Int:=
 if (w64 (fE - (a_0.ji.size:Int))) <0 then
  (some (-1))
  else (some (w64 (fE - (a_0.ji.size:Int))))
noncomputable def mG (a_0:(List ai)) (s:(Int×Int)):Option ((Int×Int) ⊕ (Int ⊕ Int)):=
 match s with
  | (nN,vJ)=>
  if vJ< (a_0.length:Int) then
  ((rd a_0 vJ).bind fun x20=>
  (rU x20 nN).bind fun x23=>
  if x23<0 then
  (some (.inr (.inr (-1))))
  else (some (.inl (x23,(w64 (vJ+1))))))
  else (some (.inr (.inl nN)))
noncomputable def qo (a_0:(List ai)) (fE:Int):Option Int:=
 if (w64 (fE - (a_0.length:Int))) <0 then
  (some (-1))
  else ((aH (mG a_0) ((w64 (fE - (a_0.length:Int))),0)).bind fun o=>match o with
  | (.inl jW)=>(some jW)
  | (.inr r2)=>(some r2))
noncomputable def uI (a_0:af):Option af:=
 some a_0
noncomputable def nO (a_0:(List af)) (s:(Int×(List af))):Option ((Int×(List af)) ⊕ (List af)):=
 match s with
  | (bP,aV)=>
  if bP< (a_0.length:Int) then
  ((rd a_0 bP).bind fun x18=>
  (uI x18).bind fun x20=>
  (rd aV bP).bind fun x21=>
  some (.inl ((w64 (bP+1)),(aV.set bP.toNat x20))))
  else (some (.inr aV))
noncomputable def rV (a_0:(List af)):Option (List af):=
 (mkl 16 (a_0.length:Int) (⟨0,0⟩:af)).bind fun x7=>
   (aH (nO a_0) (0,x7)).bind fun bu=>
   some bu
noncomputable def nP (a_0:(List Int)) (s:(Int×(List Int))):Option ((Int×(List Int)) ⊕ (List Int)):=
 match s with
  | (bP,aV)=>
  if bP< (a_0.length:Int) then
  ((rd a_0 bP).bind fun x18=>
  (rd aV bP).bind fun x20=>
  some (.inl ((w64 (bP+1)),(aV.set bP.toNat x18))))
  else (some (.inr aV))
noncomputable def rW (a_0:(List Int)):Option (List Int):=
 (mkl 8 (a_0.length:Int) 0).bind fun x7=>
   (aH (nP a_0) (0,x7)).bind fun bu=>
   some bu
noncomputable def wI (a_0:dh):Option dh:=
 (rW a_0.Ring).bind fun x9=>
   some (⟨a_0.Name,x9⟩:dh)
noncomputable def oM (a_0:(List dh)) (s:(Int×(List dh))):Option ((Int×(List dh)) ⊕ (List dh)):=
 match s with
  | (bP,aV)=>
  if bP< (a_0.length:Int) then
  ((rd a_0 bP).bind fun x18=>
  (wI x18).bind fun x20=>
  (rd aV bP).bind fun x21=>
  some (.inl ((w64 (bP+1)),(aV.set bP.toNat x20))))
  else (some (.inr aV))
noncomputable def uJ (a_0:(List dh)):Option (List dh):=
 (mkl 40 (a_0.length:Int) (⟨(⟨#[]⟩:ByteArray),([]:List Int)⟩:dh)).bind fun x7=>
   (aH (oM a_0) (0,x7)).bind fun bu=>
   some bu
noncomputable def jX (a_0:aA):Option aA:=
 (rV a_0.bf).bind fun x12=>
   (uJ a_0.aC).bind fun x16=>
   some (⟨a_0.Width,a_0.Height,x12,x16⟩:aA)
noncomputable def rY (a_0:ai):Option ai:=
 some a_0
noncomputable def mJ (a_0:(List ai)) (s:(Int×(List ai))):Option ((Int×(List ai)) ⊕ (List ai)):=
 match s with
  | (bP,aV)=>
  if bP< (a_0.length:Int) then
  ((rd a_0 bP).bind fun x18=>
  (rY x18).bind fun x20=>
  (rd aV bP).bind fun x21=>
  some (.inl ((w64 (bP+1)),(aV.set bP.toNat x20))))
  else (some (.inr aV))
noncomputable def jY (a_0:(List ai)):Option (List ai):=
 (mkl 32 (a_0.length:Int) (⟨(⟨#[]⟩:ByteArray),0,0⟩:ai)).bind fun x7=>
   (aH (mJ a_0) (0,x7)).bind fun bu=>
   some bu
noncomputable def fO (n_0:Int) (Ac:Int) (vK:Int):Option Bool:=
 some ((decide (n_0≥Ac))&&(decide (n_0≤vK)))
noncomputable def kE (d_0:aA) (dI:Int) (ED:Int):Option (Int ⊕ (Unit ⊕ Bool)):=
 if ED<dI then
  ((rd d_0.bf dI).bind fun x60=>
  (rd d_0.bf ED).bind fun x67=>
  if (x60.X=x67.X∧x60.Y=x67.Y) then
  (some (.inr (.inr false)))
  else (some (.inl (w64 (ED+1)))))
  else (some (.inr (.inl ())))
noncomputable def kF (d_0:aA) (dI:Int):Option (Int ⊕ (Unit ⊕ Bool)):=
 if dI< (d_0.bf.length:Int) then
  ((rd d_0.bf dI).bind fun x25=>
  (fO x25.X 0 d_0.Width).bind fun x32=>
  (if x32=true then
  ((rd d_0.bf dI).bind fun x40=>
  (fO x40.Y 0 d_0.Height).bind fun x47=>
  some (!x47))
  else (some true)).bind fun A7=>
  if A7=true then
  (some (.inr (.inr false)))
  else ((aH (kE d_0 dI) 0).bind fun o=>match o with
  | (.inl _)=>(some (.inl (w64 (dI+1))))
  | (.inr r2)=>(some (.inr (.inr r2)))))
  else (some (.inr (.inl ())))
noncomputable def uK (d_0:aA):Option Bool:=
 if (d_0.bf.length:Int) >48 then
  (some false)
  else ((aH (kF d_0) 0).bind fun o=>match o with
  | (.inl _)=>(some true)
  | (.inr r2)=>(some r2))
noncomputable def ni (c_0:Int):Option Bool:=
 some ((decide (c_0≥97))&&(decide (c_0≤122)))
noncomputable def rZ (c_0:Int):Option Bool:=
 some ((decide (c_0≥48))&&(decide (c_0≤57)))
noncomputable def kJ (s_0:ByteArray) (dI:Int):Option (Int ⊕ (Unit ⊕ Bool)):=
 if dI< (s_0.size:Int) then
  ((bt s_0 dI).bind fun x25=>
  (ni x25).bind fun x26=>
  (if x26=true then
  (some false)
  else ((bt s_0 dI).bind fun x31=>
  (rZ x31).bind fun x32=>
  some (!x32))).bind fun N7=>
  if N7=true then
  (some (.inr (.inr false)))
  else (some (.inl (w64 (dI+1)))))
  else (some (.inr (.inl ())))
noncomputable def uM (s_0:ByteArray):Option Bool:=
 (if s_0=(⟨#[]⟩:ByteArray) then
   (some true)
   else (if (s_0.size:Int) >10 then
   (some true)
   else ((bt s_0 0).bind fun x13=>
   (ni x13).bind fun x14=>
   some (!x14)))).bind fun A8=>
   if A8=true then
   (some false)
   else ((aH (kJ s_0) 0).bind fun o=>match o with
   | (.inl _)=>(some true)
   | (.inr r2)=>(some r2))
noncomputable def xH (d_0:aA) (lF:(List Int)) (s:(Int×(List af))):Option ((Int×(List af)) ⊕ ((List af) ⊕ ((List af)×Bool))):=
 match s with
  | (Ba,l9)=>
  if Ba< (lF.length:Int) then
  ((rd lF Ba).bind fun x17=>
  (fO x17 0 (w64 ((d_0.bf.length:Int) - 1))).bind fun x25=>
  if x25=true then
  ((rd lF Ba).bind fun x34=>
  (rd d_0.bf x34).bind fun x36=>
  (apd 16 l9 ([x36]:List af)).bind fun x39=>
  some (.inl ((w64 (Ba+1)),x39)))
  else (some (.inr (.inr (([]:List af),false)))))
  else (some (.inr (.inl l9)))
noncomputable def uN (d_0:aA) (lF:(List Int)):Option ((List af)×Bool):=
 (aH (xH d_0 lF) (0,([]:List af))).bind fun o=>match o with
   | (.inl jZ)=>(some (jZ,true))
   | (.inr r2)=>(some r2)
noncomputable def EE (p_0:af):Option Bool:=
 (fO p_0.X 0 20000).bind fun x5=>
   (if x5=true then
   ((fO p_0.Y 0 20000).bind fun x9=>
   some x9)
   else (some false)).bind fun lG=>
   some lG
noncomputable def vY (a_0:af) (b_1:af) (c_2:af):Option Int:=
 some (w64 ((w64 ((w64 (b_1.X - a_0.X)) * (w64 (c_2.Y - a_0.Y)))) - (w64 ((w64 (b_1.Y - a_0.Y)) * (w64 (c_2.X - a_0.X))))))
noncomputable def kT (a_0:af) (b_1:af) (c_2:af):Option Int:=
 (vY a_0 b_1 c_2).bind fun x11=>
   if x11>0 then
   (some 1)
   else (if x11<0 then
   (some (-1))
   else (some 0))
noncomputable def mM (a_0:Int) (b_1:Int):Option Int:=
 if a_0<b_1 then
  (some a_0)
  else (some b_1)
noncomputable def kV (a_0:Int) (b_1:Int):Option Int:=
 if a_0>b_1 then
  (some a_0)
  else (some b_1)
noncomputable def ny (a_0:af) (b_1:af) (p_2:af):Option Bool:=
 (kT a_0 b_1 p_2).bind fun x10=>
   (if x10=0 then
   ((mM a_0.X b_1.X).bind fun x19=>
   (kV a_0.X b_1.X).bind fun x24=>
   (fO p_2.X x19 x24).bind fun x25=>
   if x25=true then
   ((mM a_0.Y b_1.Y).bind fun x34=>
   (kV a_0.Y b_1.Y).bind fun x39=>
   (fO p_2.Y x34 x39).bind fun x40=>
   some x40)
   else (some false))
   else (some false)).bind fun lH=>
   some lH
noncomputable def oN (a_0:af) (b_1:af) (c_2:af) (d_3:af):Option Bool:=
 (kT a_0 b_1 c_2).bind fun x12=>
   (kT a_0 b_1 d_3).bind fun x16=>
   (if (w64 (x12*x16)) <0 then
   ((kT c_2 d_3 a_0).bind fun x23=>
   (kT c_2 d_3 b_1).bind fun x27=>
   some (decide ((w64 (x23*x27)) <0)))
   else (some false)).bind fun tJ=>
   some tJ
noncomputable def uO (a_0:af) (b_1:af) (c_2:af) (d_3:af):Option Bool:=
 (oN a_0 b_1 c_2 d_3).bind fun x13=>
   (if x13=true then
   (some true)
   else ((ny a_0 b_1 c_2).bind fun x18=>
   if x18=true then
   (some true)
   else ((ny a_0 b_1 d_3).bind fun x24=>
   if x24=true then
   (some true)
   else ((ny c_2 d_3 a_0).bind fun x30=>
   if x30=true then
   (some true)
   else ((ny c_2 d_3 b_1).bind fun x36=>
   some x36))))).bind fun tJ=>
   some tJ
noncomputable def xI (p_0:(List af)) (s:(Int×Int)):Option ((Int×Int) ⊕ Int):=
 match s with
  | (lI,bP)=>
  if bP< (p_0.length:Int) then
  ((md (w64 (bP+1)) (p_0.length:Int)).bind fun x17=>
  (rd p_0 x17).bind fun x18=>
  (rd p_0 bP).bind fun x23=>
  (rd p_0 bP).bind fun x31=>
  some (.inl ((w64 (lI+(w64 ((w64 (x23.X*x18.Y)) - (w64 (x31.Y*x18.X)))))),(w64 (bP+1)))))
  else (some (.inr lI))
noncomputable def uP (p_0:(List af)):Option Int:=
 (aH (xI p_0) (0,0)).bind fun oH=>
   some oH
noncomputable def uQ (kU:Int) (p_0:(List af)) (x36:af) (x43:af) (xY:Int):Option (Int ⊕ (Unit ⊕ Bool)):=
 if xY< (p_0.length:Int) then
  ((md (w64 (xY+1)) (p_0.length:Int)).bind fun x77=>
  (if x77≠kU then
  ((rd p_0 xY).bind fun x85=>
  (md (w64 (xY+1)) (p_0.length:Int)).bind fun x91=>
  (rd p_0 x91).bind fun x92=>
  (uO x36 x43 x85 x92).bind fun x94=>
  some x94)
  else (some false)).bind fun J6=>
  if J6=true then
  (some (.inr (.inr false)))
  else (some (.inl (w64 (xY+1)))))
  else (some (.inr (.inl ())))
noncomputable def uS (p_0:(List af)) (kU:Int):Option (Int ⊕ (Unit ⊕ Bool)):=
 if kU< (p_0.length:Int) then
  ((rd p_0 kU).bind fun x36=>
  (md (w64 (kU+1)) (p_0.length:Int)).bind fun x42=>
  (rd p_0 x42).bind fun x43=>
  (md (w64 (kU+2)) (p_0.length:Int)).bind fun x49=>
  (rd p_0 x49).bind fun x50=>
  (if (x36.X=x43.X∧x36.Y=x43.Y) then
  (some true)
  else ((ny x36 x43 x50).bind fun x59=>
  if x59=true then
  (some true)
  else ((ny x43 x50 x36).bind fun x65=>
  some x65))).bind fun J7=>
  if J7=true then
  (some (.inr (.inr false)))
  else ((aH (uQ kU p_0 x36 x43) (w64 (kU+2))).bind fun o=>match o with
  | (.inl _)=>(some (.inl (w64 (kU+1))))
  | (.inr r2)=>(some (.inr (.inr r2)))))
  else (some (.inr (.inl ())))
noncomputable def zy (p_0:(List af)) (GX:Int):Option (Int ⊕ (Unit ⊕ Bool)):=
 if GX< (p_0.length:Int) then
  ((rd p_0 GX).bind fun x25=>
  (EE x25).bind fun x27=>
  if x27=true then
  (some (.inl (w64 (GX+1))))
  else (some (.inr (.inr false))))
  else (some (.inr (.inl ())))
noncomputable def yC (p_0:(List af)):Option Bool:=
 if ((p_0.length:Int) <3∨(p_0.length:Int) >24) then
  (some false)
  else ((aH (zy p_0) 0).bind fun o=>match o with
  | (.inl _)=>((aH (uS p_0) 0).bind fun o=>match o with
  | (.inl _)=>((uP p_0).bind fun x97=>
  some (decide (x97>0)))
  | (.inr r2)=>(some r2))
  | (.inr r2)=>(some r2))
noncomputable def pK (d_0:aA) (dI:Int):Option (Int ⊕ (Unit ⊕ Bool)):=
 if dI< (d_0.aC.length:Int) then
  ((rd d_0.aC dI).bind fun x47=>
  (uM x47.Name).bind fun x50=>
  (if x50=true then
  (if dI>0 then
  ((rd d_0.aC (w64 (dI - 1))).bind fun x62=>
  (rd d_0.aC dI).bind fun x70=>
  some (!Op.bytesLess x62.Name.toList x70.Name.toList))
  else (some false))
  else (some true)).bind fun N8=>
  if N8=true then
  (some (.inr (.inr false)))
  else ((rd d_0.aC dI).bind fun x83=>
  (uN d_0 x83.Ring).bind fun x86=>
  (if x86.2=true then
  ((yC x86.1).bind fun x93=>
  some (!x93))
  else (some true)).bind fun FP=>
  if FP=true then
  (some (.inr (.inr false)))
  else (some (.inl (w64 (dI+1))))))
  else (some (.inr (.inl ())))
noncomputable def yD (d_0:aA):Option Bool:=
 (fO d_0.Width 10 20000).bind fun x10=>
   (if x10=true then
   ((fO d_0.Height 10 20000).bind fun x17=>
   if x17=true then
   ((uK d_0).bind fun x22=>
   if x22=true then
   (some (decide ((d_0.aC.length:Int) >24)))
   else (some true))
   else (some true))
   else (some true)).bind fun N9=>
   if N9=true then
   (some false)
   else ((aH (pK d_0) 0).bind fun o=>match o with
   | (.inl _)=>(some true)
   | (.inr r2)=>(some r2))
noncomputable def vZ:Option (List ByteArray):=
 some ([(⟨#[97,115,104]⟩:ByteArray),(⟨#[98,101,101,99,104]⟩:ByteArray),(⟨#[98,105,114,99,104]⟩:ByteArray),(⟨#[99,104,101,114,114,121]⟩:ByteArray),(⟨#[101,98,111,110,121]⟩:ByteArray),(⟨#[104,111,108,108,121]⟩:ByteArray),(⟨#[109,97,112,108,101]⟩:ByteArray),(⟨#[111,97,107]⟩:ByteArray),(⟨#[114,111,115,101,119,111,111,100]⟩:ByteArray),(⟨#[119,97,108,110,117,116]⟩:ByteArray)]:List ByteArray)
noncomputable def oO (jG:ByteArray) (x5:(List ByteArray)) (bP:Int):Option (Int ⊕ (Unit ⊕ Int)):=
 if bP< (x5.length:Int) then
  ((rd x5 bP).bind fun x14=>
  if x14=jG then
  (some (.inr (.inr bP)))
  else (some (.inl (w64 (bP+1)))))
  else (some (.inr (.inl ())))
noncomputable def qP (jG:ByteArray):Option Int:=
 (vZ).bind fun x5=>
   (aH (oO jG x5) 0).bind fun o=>match o with
   | (.inl _)=>(some (-1))
   | (.inr r2)=>(some r2)
noncomputable def wo:Option (List (List Int)):=
 some ([([20,40,310]:List Int),([35,45,410]:List Int),([15,33,280]:List Int),([50,36,240]:List Int),([95,85,270]:List Int),([5,35,370]:List Int),([10,42,290]:List Int),([40,40,330]:List Int),([80,60,220]:List Int),([70,38,260]:List Int)]:List (List Int))
noncomputable def wu (g_0:Int):Option Bool:=
 (fO g_0 0 179).bind fun x4=>
   some x4
noncomputable def tK (v_0:ai):Option Bool:=
 (qP v_0.ji).bind fun x9=>
   (if x9<0 then
   (some true)
   else ((fO v_0.dM 0 100).bind fun x17=>
   some (!x17))).bind fun Og=>
   if Og=true then
   (some false)
   else ((wo).bind fun x20=>
   (rd x20 x9).bind fun x22=>
   (rd x22 0).bind fun x24=>
   (fO v_0.dM (w64 (x24 - 15)) (w64 (x24+15))).bind fun x34=>
   (if x34=true then
   ((wu v_0.aX).bind fun x40=>
   some x40)
   else (some false)).bind fun RG=>
   some RG)
noncomputable def lJ (bV:(List ai)) (GY:Int):Option (Int ⊕ (Unit ⊕ Bool)):=
 if GY< (bV.length:Int) then
  ((rd bV GY).bind fun x12=>
  (tK x12).bind fun x13=>
  if x13=true then
  (some (.inl (w64 (GY+1))))
  else (some (.inr (.inr false))))
  else (some (.inr (.inl ())))
noncomputable def oP (bV:(List ai)):Option Bool:=
 (aH (lJ bV) 0).bind fun o=>match o with
   | (.inl _)=>(some true)
   | (.inr r2)=>(some r2)
noncomputable def wJ (d_0:aA) (aQ:(List ai)) (aO:Int) (bK:Int):Option Int:=
 (yD d_0).bind fun x10=>
   (if x10=true then
   ((oP aQ).bind fun x14=>
   some (!x14))
   else (some true)).bind fun A8=>
   if A8=true then
   (some 1)
   else ((if (aQ.length:Int) <1 then
   (some true)
   else (if (aQ.length:Int) >10 then
   (some true)
   else ((fO aO 0 115).bind fun x27=>
   if x27=true then
   ((fO bK 1 20000).bind fun x32=>
   some (!x32))
   else (some true)))).bind fun Oh=>
   if Oh=true then
   (some 2)
   else (some 0))
noncomputable def lK (i_1:Int) (k_2:Int) (kK:(List Int)) (CB:Int):Option (Int ⊕ (Unit ⊕ Bool)):=
 if CB< (kK.length:Int) then
  ((rd kK CB).bind fun x18=>
  (md (w64 (CB+1)) (kK.length:Int)).bind fun x25=>
  (rd kK x25).bind fun x26=>
  (if x18=i_1 then
  (if x26=k_2 then
  (some true)
  else (if x18=k_2 then
  (some (x26==i_1))
  else (some false)))
  else (if x18=k_2 then
  (some (x26==i_1))
  else (some false))).bind fun Oi=>
  if Oi=true then
  (some (.inr (.inr true)))
  else (some (.inl (w64 (CB+1)))))
  else (some (.inr (.inl ())))
noncomputable def oQ (kK:(List Int)) (i_1:Int) (k_2:Int):Option Bool:=
 (aH (lK i_1 k_2 kK) 0).bind fun o=>match o with
   | (.inl _)=>(some false)
   | (.inr r2)=>(some r2)
noncomputable def oU (jH:Int) (Ad:(List Int)):Option ((Int×(List Int)) ⊕ (List Int)):=
 some (.inl ((w64 (jH+1)),Ad))
noncomputable def oV (d_0:aA) (jH:Int) (x16:dh) (s:(Bool×Int)):Option ((Bool×Int) ⊕ Bool):=
 match s with
  | (yE,CE)=>
  if CE< (x16.Ring.length:Int) then
  ((if yE=true then
  (some true)
  else ((rd d_0.aC jH).bind fun x41=>
  (rd x16.Ring CE).bind fun x46=>
  (md (w64 (CE+1)) (x16.Ring.length:Int)).bind fun x53=>
  (rd x16.Ring x53).bind fun x54=>
  (oQ x41.Ring x46 x54).bind fun x56=>
  some x56)).bind fun CG=>
  some (.inl (CG,(w64 (CE+1)))))
  else (some (.inr yE))
noncomputable def oW (d_0:aA) (k_1:Int) (x16:dh) (s:(Int×(List Int))):Option ((Int×(List Int)) ⊕ (List Int)):=
 match s with
  | (jH,dZ)=>
  if jH< (d_0.aC.length:Int) then
  ((aH (oV d_0 jH x16) (false,0)).bind fun qQ=>
  if (jH≠k_1∧qQ=true) then
  ((apd 8 dZ ([jH]:List Int)).bind fun x67=>
  oU jH x67)
  else (oU jH dZ))
  else (some (.inr dZ))
noncomputable def uT (d_0:aA) (k_1:Int):Option (List Int):=
 (rd d_0.aC k_1).bind fun x16=>
   (aH (oW d_0 k_1 x16) (0,([]:List Int))).bind fun jw=>
   some jw
noncomputable def kW (xJ:Int) (Ae:(List (List Int))):Option ((Int×(List (List Int))) ⊕ (List (List Int))):=
 some (.inl ((w64 (xJ+1)),Ae))
noncomputable def iG (rD:Int) (x19:(List Int)) (s:(Int×(List (List Int)))):Option ((Int×(List (List Int))) ⊕ (List (List Int))):=
 match s with
  | (xJ,vM)=>
  if xJ< (x19.length:Int) then
  ((rd x19 xJ).bind fun x28=>
  if x28>rD then
  ((rd x19 xJ).bind fun x36=>
  (apd 24 vM ([([rD,x36]:List Int)]:List (List Int))).bind fun x40=>
  kW xJ x40)
  else (kW xJ vM))
  else (some (.inr vM))
noncomputable def kX (d_0:aA) (s:(Int×(List (List Int)))):Option ((Int×(List (List Int))) ⊕ (List (List Int))):=
 match s with
  | (rD,aV)=>
  if rD< (d_0.aC.length:Int) then
  ((uT d_0 rD).bind fun x19=>
  (aH (iG rD x19) (0,aV)).bind fun zl=>
  some (.inl ((w64 (rD+1)),zl)))
  else (some (.inr aV))
noncomputable def su (d_0:aA):Option (List (List Int)):=
 (aH (kX d_0) (0,([]:List (List Int)))).bind fun bu=>
   some bu
noncomputable def wz (a_0:Int) (b_1:Int):Option Int:=
 (kV (w64 (a_0 - b_1)) (w64 (b_1 - a_0))).bind fun x12=>
   (mM x12 (w64 (180 - x12))).bind fun x16=>
   some x16
noncomputable def nR (a_0:ai) (b_1:ai):Option Int:=
 (kV (w64 (a_0.dM - b_1.dM)) (w64 (b_1.dM - a_0.dM))).bind fun x23=>
   (wz a_0.aX b_1.aX).bind fun x32=>
   (dv .i64 x32 6).bind fun x33=>
   some (w64 (x23+x33))
noncomputable def oZ (o5:Int) (aQ:(List ai)) (s:(Int×(List Int))):Option ((Int×(List Int)) ⊕ (List Int)):=
 match s with
  | (yF,wK)=>
  if yF< (aQ.length:Int) then
  ((rd aQ o5).bind fun x94=>
  (rd aQ yF).bind fun x97=>
  (nR x94 x97).bind fun x98=>
  (apd 8 wK ([x98]:List Int)).bind fun x100=>
  some (.inl ((w64 (yF+1)),x100)))
  else (some (.inr wK))
noncomputable def o6 (aQ:(List ai)) (s:(Int×(List (List Int)))):Option ((Int×(List (List Int))) ⊕ (List (List Int))):=
 match s with
  | (o5,oq)=>
  if o5< (aQ.length:Int) then
  ((aH (oZ o5 aQ) (0,([]:List Int))).bind fun pM=>
  (apd 24 oq ([pM]:List (List Int))).bind fun acp=>
  some (.inl ((w64 (o5+1)),acp)))
  else (some (.inr oq))
noncomputable def qp (x40:(List (List Int))) (s:(Int×(List (List Int)))):Option ((Int×(List (List Int))) ⊕ (List (List Int))):=
 match s with
  | (Bc,tN)=>
  if Bc< (x40.length:Int) then
  ((rd x40 Bc).bind fun x71=>
  (rd x71 0).bind fun x73=>
  (rd x71 1).bind fun x55=>
  (rd tN x55).bind fun x67=>
  (apd 8 x67 ([x73]:List Int)).bind fun x76=>
  some (.inl ((w64 (Bc+1)),(tN.set x55.toNat x76))))
  else (some (.inr tN))
noncomputable def nS (d_0:aA) (s:(Int×(List (List Int)))):Option ((Int×(List (List Int))) ⊕ (List (List Int))):=
 match s with
  | (DK,yG)=>
  if DK< (d_0.aC.length:Int) then
  ((apd 24 yG ([([]:List Int)]:List (List Int))).bind fun x36=>
  some (.inl ((w64 (DK+1)),x36)))
  else (some (.inr yG))
noncomputable def wL (d_0:aA) (aQ:(List ai)) (aO:Int) (bK:Int):Option aG:=
 (aH (nS d_0) (0,([]:List (List Int)))).bind fun xZ=>
   (su d_0).bind fun x40=>
   (aH (qp x40) (0,xZ)).bind fun jO=>
   (aH (o6 aQ) (0,([]:List (List Int)))).bind fun wB=>
   some (⟨jO,wB,aO,10,([]:List Int),0,bK,false⟩:aG)
noncomputable def o7 (yH:(List Int)):Option (List Int):=
 some yH
noncomputable def iQ (tV:Int) (bV:(List Int)) (yI:Bool) (yJ:(List Int)):Option ((Bool×Int×(List Int)) ⊕ (Bool×(List Int))):=
 (rd bV tV).bind fun x38=>
   (apd 8 yJ ([x38]:List Int)).bind fun x41=>
   some (.inl (yI,(w64 (tV+1)),x41))
noncomputable def fP (bV:(List Int)) (n_1:Int) (s:(Bool×Int×(List Int))):Option ((Bool×Int×(List Int)) ⊕ (Bool×(List Int))):=
 match s with
  | (um,tV,dZ)=>
  if tV< (bV.length:Int) then
  ((if um=true then
  (some false)
  else ((rd bV tV).bind fun x20=>
  some (decide (x20≥n_1)))).bind fun Oj=>
  if Oj=true then
  ((rd bV tV).bind fun x27=>
  if x27>n_1 then
  ((apd 8 dZ ([n_1]:List Int)).bind fun x34=>
  iQ tV bV true x34)
  else (iQ tV bV true dZ))
  else (iQ tV bV um dZ))
  else (some (.inr (um,dZ)))
noncomputable def wM (bV:(List Int)) (n_1:Int):Option (List Int):=
 (aH (fP bV n_1) (false,0,([]:List Int))).bind fun o=>match o with
   | (uq,jw)=>
   if uq=true then
   (o7 jw)
   else ((apd 8 jw ([n_1]:List Int)).bind fun x47=>
   o7 x47)
noncomputable def qw (bV:(List Int)) (n_1:Int) (aW:Int):Option (Int ⊕ (Unit ⊕ Bool)):=
 if aW< (bV.length:Int) then
  ((rd bV aW).bind fun x14=>
  if x14=n_1 then
  (some (.inr (.inr true)))
  else (some (.inl (w64 (aW+1)))))
  else (some (.inr (.inl ())))
noncomputable def wO (bV:(List Int)) (n_1:Int):Option Bool:=
 (aH (qw bV n_1) 0).bind fun o=>match o with
   | (.inl _)=>(some false)
   | (.inr r2)=>(some r2)
noncomputable def fF (self:aG→Option (Bool×aG)) (fQ:Int) (Af:(List (List Int))) (Ag:(List (List Int))) (Ah:Int) (Ai:Int) (Aj:(List Int)) (Ak:Int) (Am:Int) (Ap:Bool):Option ((Int×(List (List Int))×(List (List Int))×Int×Int×(List Int)×Int×Int×Bool) ⊕ (((List (List Int))×(List (List Int))×Int×Int×(List Int)×Int×Int×Bool) ⊕ (Bool×aG))):=
 some (.inl ((w64 (fQ+1)),Af,Ag,Ah,Ai,Aj,Ak,Am,Ap))
noncomputable def bF (self:aG→Option (Bool×aG)) (fQ:Int) (x_0:aG) (bG:(List (List Int))) (bH:(List (List Int))) (bI:Int) (bQ:Int) (bJ:(List Int)) (bZ:Int) (cu:Int) (nC:Bool):Option ((Int×(List (List Int))×(List (List Int))×Int×Int×(List Int)×Int×Int×Bool) ⊕ (((List (List Int))×(List (List Int))×Int×Int×(List Int)×Int×Int×Bool) ⊕ (Bool×aG))):=
 if nC=true then
  (some (.inr (.inr (false,(⟨bG,bH,bI,bQ,bJ,bZ,cu,nC⟩:aG)))))
  else ((apd 8 bJ ([fQ]:List Int)).bind fun YQ=>
  (self (⟨bG,bH,bI,bQ,YQ,(w64 (bZ+1)),cu,nC⟩:aG)).bind fun mO=>
  if mO.1=true then
  (some (.inr (.inr (true,mO.2))))
  else ((slc mO.2.choice 0 (x_0.choice.length:Int)).bind fun af1=>
  fF self fQ mO.2.before mO.2.table mO.2.limit mO.2.most ((mO.2.choice.take ((x_0.choice.length:Int).toNat)).drop 0) mO.2.nodes mO.2.budget mO.2.full))
noncomputable def dK (self:aG→Option (Bool×aG)) (fQ:Int) (x_0:aG) (bG:(List (List Int))) (bH:(List (List Int))) (bI:Int) (bJ:(List Int)) (s:(Bool×Int)):Option ((Bool×Int) ⊕ Bool):=
 match s with
  | (kL,pY)=>
  (rd bG (x_0.choice.length:Int)).bind fun x63=>
  if (pY< (x63.length:Int)∧kL=true) then
  ((rd bH fQ).bind fun x77=>
  (rd bG (x_0.choice.length:Int)).bind fun x88=>
  (rd x88 pY).bind fun x91=>
  (rd bJ x91).bind fun x93=>
  (rd x77 x93).bind fun x95=>
  some (.inl ((decide (x95≥bI)),(w64 (pY+1)))))
  else (some (.inr kL))
noncomputable def fG (self:aG→Option (Bool×aG)) (x_0:aG) (bJ:(List Int)) (s:(Int×(List Int))):Option ((Int×(List Int)) ⊕ (List Int)):=
 match s with
  | (GZ,yK)=>
  if GZ< (x_0.choice.length:Int) then
  ((rd bJ GZ).bind fun x42=>
  (wM yK x42).bind fun x44=>
  some (.inl ((w64 (GZ+1)),x44)))
  else (some (.inr yK))
noncomputable def dn (self:aG→Option (Bool×aG)) (x_0:aG) (s:(Int×(List (List Int))×(List (List Int))×Int×Int×(List Int)×Int×Int×Bool)):Option ((Int×(List (List Int))×(List (List Int))×Int×Int×(List Int)×Int×Int×Bool) ⊕ (((List (List Int))×(List (List Int))×Int×Int×(List Int)×Int×Int×Bool) ⊕ (Bool×aG))):=
 match s with
  | (fQ,bG,bH,bI,bQ,bJ,bZ,cu,fA)=>
  if fQ< (bH.length:Int) then
  ((aH (fG self x_0 bJ) (0,([]:List Int))).bind fun oI=>
  (wO oI fQ).bind fun x47=>
  (aH (dK self fQ x_0 bG bH bI bJ) ((x47||(decide ((oI.length:Int) <bQ))),0)).bind fun uU=>
  if uU=true then
  (if bZ=cu then
  (bF self fQ x_0 bG bH bI bQ bJ bZ cu true)
  else (bF self fQ x_0 bG bH bI bQ bJ bZ cu fA))
  else (fF self fQ bG bH bI bQ bJ bZ cu fA))
  else (some (.inr (.inl (bG,bH,bI,bQ,bJ,bZ,cu,fA))))
noncomputable def fZ (self:aG→Option (Bool×aG)) (x_0:aG):Option (Bool×aG):=
 if (x_0.choice.length:Int)=(x_0.before.length:Int) then
  (some (true,x_0))
  else ((aH (dn self x_0) (0,x_0.before,x_0.table,x_0.limit,x_0.most,x_0.choice,x_0.nodes,x_0.budget,x_0.full)).bind fun o=>match o with
  | (.inl (wP,wQ,wR,wU,wV,wW,wX,wY))=>(some (false,(⟨wP,wQ,wR,wU,wV,wW,wX,wY⟩:aG)))
  | (.inr r2)=>(some r2))
noncomputable def jI (x_0:aG):Option (Bool×aG):=AU (fun self x_0=>fZ self x_0) x_0
noncomputable def wZ (bV:(List Int)):Option (List Int):=
 (apd 8 ([]:List Int) bV).bind fun x5=>
   some x5
noncomputable def lM (d_0:aA) (aQ:(List ai)) (aO:Int) (bK:Int):Option ((List Int)×Int):=
 (wJ d_0 aQ aO bK).bind fun x15=>
   if x15≠0 then
   (some (([]:List Int),x15))
   else ((wL d_0 aQ aO bK).bind fun x22=>
   (jI x22).bind fun x24=>
   if x24.1=true then
   ((wZ x24.2.choice).bind fun x29=>
   some (x29,0))
   else (if x24.2.full=true then
   (some (([]:List Int),5))
   else (some (([]:List Int),3))))
noncomputable def cO (n_0:Int) (Ac:Int) (vK:Int):Option Bool:=
 some ((decide (n_0≥Ac))&&(decide (n_0≤vK)))
noncomputable def dB (s_0:(List af)) (v_1:af) (eY:Int):Option (Int ⊕ (Unit ⊕ Int)):=
 if eY< (s_0.length:Int) then
  ((rd s_0 eY).bind fun x14=>
  if (v_1.X=x14.X∧v_1.Y=x14.Y) then
  (some (.inr (.inr eY)))
  else (some (.inl (w64 (eY+1)))))
  else (some (.inr (.inl ())))
noncomputable def gp (s_0:(List af)) (v_1:af):Option Int:=
 (aH (dB s_0 v_1) 0).bind fun o=>match o with
   | (.inl _)=>(some (-1))
   | (.inr r2)=>(some r2)
noncomputable def dD (s_0:(List af)) (v_1:af):Option Bool:=
 (gp s_0 v_1).bind fun x7=>
   some (decide (x7≥0))
noncomputable def qA (s_0:ByteArray) (dI:Int):Option (Int ⊕ (Unit ⊕ Bool)):=
 if dI< (s_0.size:Int) then
  ((bt s_0 dI).bind fun x30=>
  (if x30<97 then
  ((bt s_0 dI).bind fun x41=>
  if x41<48 then
  (some true)
  else ((bt s_0 dI).bind fun x46=>
  some (decide (x46>57))))
  else ((bt s_0 dI).bind fun x35=>
  if x35>122 then
  ((bt s_0 dI).bind fun x41=>
  if x41<48 then
  (some true)
  else ((bt s_0 dI).bind fun x46=>
  some (decide (x46>57))))
  else (some false))).bind fun A7=>
  if A7=true then
  (some (.inr (.inr false)))
  else (some (.inl (w64 (dI+1)))))
  else (some (.inr (.inl ())))
noncomputable def xe (s_0:ByteArray):Option Bool:=
 (if (s_0.size:Int) <1 then
   (some true)
   else (if (s_0.size:Int) >10 then
   (some true)
   else ((bt s_0 0).bind fun x14=>
   if x14<97 then
   (some true)
   else ((bt s_0 0).bind fun x19=>
   some (decide (x19>122)))))).bind fun Ol=>
   if Ol=true then
   (some false)
   else ((aH (qA s_0) 0).bind fun o=>match o with
   | (.inl _)=>(some true)
   | (.inr r2)=>(some r2))
noncomputable def nK (uV:(List af)) (lF:(List Int)) (s:(Int×(List af))):Option ((Int×(List af)) ⊕ ((List af) ⊕ ((List af)×Bool))):=
 match s with
  | (DL,l9)=>
  if DL< (lF.length:Int) then
  ((rd lF DL).bind fun x14=>
  (cO x14 0 (w64 ((uV.length:Int) - 1))).bind fun x20=>
  if x20=true then
  ((rd uV x14).bind fun x25=>
  (apd 16 l9 ([x25]:List af)).bind fun x28=>
  some (.inl ((w64 (DL+1)),x28)))
  else (some (.inr (.inr (([]:List af),false)))))
  else (some (.inr (.inl l9)))
noncomputable def jJ (uV:(List af)) (lF:(List Int)):Option ((List af)×Bool):=
 (aH (nK uV lF) (0,([]:List af))).bind fun o=>match o with
   | (.inl jZ)=>(some (jZ,true))
   | (.inr r2)=>(some r2)
noncomputable def o8 (p_0:af):Option Bool:=
 (cO p_0.X 0 20000).bind fun x5=>
   (if x5=true then
   ((cO p_0.Y 0 20000).bind fun x9=>
   some x9)
   else (some false)).bind fun lG=>
   some lG
noncomputable def gJ (bV:(List af)) (EF:Int):Option (Int ⊕ (Unit ⊕ Bool)):=
 if EF< (bV.length:Int) then
  ((rd bV EF).bind fun x9=>
  (o8 x9).bind fun x12=>
  if x12=true then
  (some (.inl (w64 (EF+1))))
  else (some (.inr (.inr false))))
  else (some (.inr (.inl ())))
noncomputable def qR (bV:(List af)):Option Bool:=
 (aH (gJ bV) 0).bind fun o=>match o with
   | (.inl _)=>(some true)
   | (.inr r2)=>(some r2)
noncomputable def nU (a_0:af) (b_1:af) (c_2:af):Option Int:=
 if (w64 ((w64 ((w64 (b_1.X - a_0.X)) * (w64 (c_2.Y - a_0.Y)))) - (w64 ((w64 (b_1.Y - a_0.Y)) * (w64 (c_2.X - a_0.X)))))) >0 then
  (some 1)
  else (if (w64 ((w64 ((w64 (b_1.X - a_0.X)) * (w64 (c_2.Y - a_0.Y)))) - (w64 ((w64 (b_1.Y - a_0.Y)) * (w64 (c_2.X - a_0.X)))))) <0 then
  (some (-1))
  else (some 0))
noncomputable def sQ (a_0:af) (b_1:af) (p_2:af):Option Bool:=
 (nU a_0 b_1 p_2).bind fun x10=>
   (if x10=0 then
   ((cO p_2.X (min2 a_0.X b_1.X) (max2 a_0.X b_1.X)).bind fun x25=>
   if x25=true then
   ((cO p_2.Y (min2 a_0.Y b_1.Y) (max2 a_0.Y b_1.Y)).bind fun x40=>
   some x40)
   else (some false))
   else (some false)).bind fun lH=>
   some lH
noncomputable def nD (a_0:af) (b_1:af) (c_2:af) (d_3:af):Option Bool:=
 (nU a_0 b_1 c_2).bind fun x12=>
   (nU a_0 b_1 d_3).bind fun x16=>
   (if (w64 (x12*x16)) <0 then
   ((nU c_2 d_3 a_0).bind fun x23=>
   (nU c_2 d_3 b_1).bind fun x27=>
   some (decide ((w64 (x23*x27)) <0)))
   else (some false)).bind fun tJ=>
   some tJ
noncomputable def nG (a_0:af) (b_1:af) (c_2:af) (d_3:af):Option Bool:=
 (nD a_0 b_1 c_2 d_3).bind fun x13=>
   (if x13=true then
   (some true)
   else ((sQ a_0 b_1 c_2).bind fun x18=>
   if x18=true then
   (some true)
   else ((sQ a_0 b_1 d_3).bind fun x24=>
   if x24=true then
   (some true)
   else ((sQ c_2 d_3 a_0).bind fun x30=>
   if x30=true then
   (some true)
   else ((sQ c_2 d_3 b_1).bind fun x36=>
   some x36))))).bind fun tJ=>
   some tJ
noncomputable def o9 (p_0:(List af)) (s:(Int×Int)):Option ((Int×Int) ⊕ Int):=
 match s with
  | (lI,zA)=>
  if zA< (p_0.length:Int) then
  ((rd p_0 zA).bind fun x12=>
  (md (w64 (zA+1)) (p_0.length:Int)).bind fun x19=>
  (rd p_0 x19).bind fun x20=>
  some (.inl ((w64 (lI+(w64 ((w64 (x12.X*x20.Y)) - (w64 (x12.Y*x20.X)))))),(w64 (zA+1)))))
  else (some (.inr lI))
noncomputable def oJ (p_0:(List af)):Option Int:=
 (aH (o9 p_0) (0,0)).bind fun oH=>
   some oH
noncomputable def gQ (p_0:(List af)) (jP:Int) (x29:af) (x36:af) (yc:Int):Option (Int ⊕ (Unit ⊕ Bool)):=
 if yc< (p_0.length:Int) then
  ((md (w64 (yc+1)) (p_0.length:Int)).bind fun x70=>
  (if x70≠jP then
  ((rd p_0 yc).bind fun x78=>
  (md (w64 (yc+1)) (p_0.length:Int)).bind fun x84=>
  (rd p_0 x84).bind fun x85=>
  (nG x29 x36 x78 x85).bind fun x87=>
  some x87)
  else (some false)).bind fun J8=>
  if J8=true then
  (some (.inr (.inr false)))
  else (some (.inl (w64 (yc+1)))))
  else (some (.inr (.inl ())))
noncomputable def iy (p_0:(List af)) (jP:Int):Option (Int ⊕ (Unit ⊕ Bool)):=
 if jP< (p_0.length:Int) then
  ((rd p_0 jP).bind fun x29=>
  (md (w64 (jP+1)) (p_0.length:Int)).bind fun x35=>
  (rd p_0 x35).bind fun x36=>
  (md (w64 (jP+2)) (p_0.length:Int)).bind fun x42=>
  (rd p_0 x42).bind fun x43=>
  (if (x29.X=x36.X∧x29.Y=x36.Y) then
  (some true)
  else ((sQ x29 x36 x43).bind fun x52=>
  if x52=true then
  (some true)
  else ((sQ x36 x43 x29).bind fun x58=>
  some x58))).bind fun Om=>
  if Om=true then
  (some (.inr (.inr false)))
  else ((aH (gQ p_0 jP x29 x36) (w64 (jP+2))).bind fun o=>match o with
  | (.inl _)=>(some (.inl (w64 (jP+1))))
  | (.inr r2)=>(some (.inr (.inr r2)))))
  else (some (.inr (.inl ())))
noncomputable def mP (p_0:(List af)):Option Bool:=
 (if (p_0.length:Int) <3 then
   (some true)
   else (if (p_0.length:Int) >24 then
   (some true)
   else ((qR p_0).bind fun x19=>
   some (!x19)))).bind fun Oo=>
   if Oo=true then
   (some false)
   else ((aH (iy p_0) 0).bind fun o=>match o with
   | (.inl _)=>((oJ p_0).bind fun x91=>
   some (decide (x91>0)))
   | (.inr r2)=>(some r2))
noncomputable def iM (d_0:aA) (pg:Int):Option (Int ⊕ (Unit ⊕ Bool)):=
 if pg< (d_0.aC.length:Int) then
  ((rd d_0.aC pg).bind fun x68=>
  (xe x68.Name).bind fun x72=>
  (if x72=true then
  (if pg>0 then
  ((rd d_0.aC (w64 (pg - 1))).bind fun x82=>
  some (!Op.bytesLess x82.Name.toList x68.Name.toList))
  else (some false))
  else (some true)).bind fun J9=>
  if J9=true then
  (some (.inr (.inr false)))
  else ((jJ d_0.bf x68.Ring).bind fun x95=>
  (if x95.2=true then
  ((mP x95.1).bind fun x102=>
  some (!x102))
  else (some true)).bind fun G5=>
  if G5=true then
  (some (.inr (.inr false)))
  else (some (.inl (w64 (pg+1))))))
  else (some (.inr (.inl ())))
noncomputable def iZ (d_0:aA) (wC:Int):Option (Int ⊕ (Unit ⊕ Bool)):=
 if wC< (d_0.bf.length:Int) then
  ((rd d_0.bf wC).bind fun x37=>
  (cO x37.X 0 d_0.Width).bind fun x43=>
  (if x43=true then
  ((cO x37.Y 0 d_0.Height).bind fun x50=>
  if x50=true then
  ((slc d_0.bf 0 wC).bind fun x57=>
  (dD x57 x37).bind fun x59=>
  some x59)
  else (some true))
  else (some true)).bind fun Oq=>
  if Oq=true then
  (some (.inr (.inr false)))
  else (some (.inl (w64 (wC+1)))))
  else (some (.inr (.inl ())))
noncomputable def mQ (d_0:aA):Option Bool:=
 (cO d_0.Width 10 20000).bind fun x11=>
   (if x11=true then
   ((cO d_0.Height 10 20000).bind fun x16=>
   if x16=true then
   (if (d_0.bf.length:Int) >48 then
   (some true)
   else (some (decide ((d_0.aC.length:Int) >24))))
   else (some true))
   else (some true)).bind fun Ot=>
   if Ot=true then
   (some false)
   else ((aH (iZ d_0) 0).bind fun o=>match o with
   | (.inl _)=>((aH (iM d_0) 0).bind fun o=>match o with
   | (.inl _)=>(some true)
   | (.inr r2)=>(some r2))
   | (.inr r2)=>(some r2))
noncomputable def nV (jG:ByteArray):Option (Int×Int×Int×Int):=
 if jG=(⟨#[97,115,104]⟩:ByteArray) then
  (some (20,40,310,0))
  else (if jG=(⟨#[98,101,101,99,104]⟩:ByteArray) then
  (some (35,45,410,0))
  else (if jG=(⟨#[98,105,114,99,104]⟩:ByteArray) then
  (some (15,33,280,0))
  else (if jG=(⟨#[99,104,101,114,114,121]⟩:ByteArray) then
  (some (50,36,240,0))
  else (if jG=(⟨#[101,98,111,110,121]⟩:ByteArray) then
  (some (95,85,270,0))
  else (if jG=(⟨#[104,111,108,108,121]⟩:ByteArray) then
  (some (5,35,370,0))
  else (if jG=(⟨#[109,97,112,108,101]⟩:ByteArray) then
  (some (10,42,290,0))
  else (if jG=(⟨#[111,97,107]⟩:ByteArray) then
  (some (40,40,330,0))
  else (if jG=(⟨#[114,111,115,101,119,111,111,100]⟩:ByteArray) then
  (some (80,60,220,0))
  else (if jG=(⟨#[119,97,108,110,117,116]⟩:ByteArray) then
  (some (70,38,260,0))
  else (some (0,0,0,3)))))))))))
noncomputable def iK (jG:ByteArray):Option (Int×Bool):=
 (nV jG).bind fun x10=>
   some (x10.1,(x10.2.2.2==0))
noncomputable def jK (v_0:ai):Option Bool:=
 (iK v_0.ji).bind fun x8=>
   (if x8.2=true then
   ((cO v_0.dM 0 100).bind fun x15=>
   if x15=true then
   ((cO (w64 (v_0.dM - x8.1)) (-15) 15).bind fun x22=>
   if x22=true then
   ((cO v_0.aX 0 179).bind fun x27=>
   some x27)
   else (some false))
   else (some false))
   else (some false)).bind fun RH=>
   some RH
noncomputable def iC (v_0:ai):Option Bool:=
 (jK v_0).bind fun x4=>
   some (!x4)
noncomputable def bY (f_1:(ai→Option Bool)) (s_0:(List ai)) (eY:Int):Option (Int ⊕ (Unit ⊕ Int)):=
 if eY< (s_0.length:Int) then
  ((rd s_0 eY).bind fun x14=>
  (f_1 x14).bind fun x16=>
  if x16=true then
  (some (.inr (.inr eY)))
  else (some (.inl (w64 (eY+1)))))
  else (some (.inr (.inl ())))
noncomputable def dW (s_0:(List ai)) (f_1:(ai→Option Bool)):Option Int:=
 (aH (bY f_1 s_0) 0).bind fun o=>match o with
   | (.inl _)=>(some (-1))
   | (.inr r2)=>(some r2)
noncomputable def dH (s_0:(List ai)) (f_1:(ai→Option Bool)):Option Bool:=
 (dW s_0 f_1).bind fun x7=>
   some (decide (x7≥0))
noncomputable def mV (bV:(List ai)):Option Bool:=
 (dH bV (fun a0=>iC a0)).bind fun x4=>
   some (!x4)
noncomputable def mW (d_0:aA) (aQ:(List ai)) (aO:Int) (bK:Int):Option Int:=
 (mQ d_0).bind fun x11=>
   (if x11=true then
   ((mV aQ).bind fun x15=>
   some (!x15))
   else (some true)).bind fun RI=>
   if RI=true then
   (some 1)
   else ((if (aQ.length:Int) <1 then
   (some true)
   else (if (aQ.length:Int) >10 then
   (some true)
   else ((cO aO 0 115).bind fun x29=>
   if x29=true then
   ((cO bK 1 20000).bind fun x34=>
   some (!x34))
   else (some true)))).bind fun Ou=>
   if Ou=true then
   (some 2)
   else (some 0))
noncomputable def mX (kK:(List Int)) (s:(Int×(List aY))):Option ((Int×(List aY)) ⊕ (List aY)):=
 match s with
  | (Bd,aV)=>
  if Bd< (kK.length:Int) then
  ((rd kK Bd).bind fun x13=>
  (md (w64 (Bd+1)) (kK.length:Int)).bind fun x20=>
  (rd kK x20).bind fun x21=>
  (apd 16 aV ([(⟨(min2 x13 x21),(max2 x13 x21)⟩:aY)]:List aY)).bind fun x32=>
  some (.inl ((w64 (Bd+1)),x32)))
  else (some (.inr aV))
noncomputable def qB (kK:(List Int)):Option (List aY):=
 (aH (mX kK) (0,([]:List aY))).bind fun bu=>
   some bu
noncomputable def fC (s_0:(List aY)) (v_1:aY) (eY:Int):Option (Int ⊕ (Unit ⊕ Int)):=
 if eY< (s_0.length:Int) then
  ((rd s_0 eY).bind fun x14=>
  if (v_1.e0=x14.e0∧v_1.e1=x14.e1) then
  (some (.inr (.inr eY)))
  else (some (.inl (w64 (eY+1)))))
  else (some (.inr (.inl ())))
noncomputable def iT (s_0:(List aY)) (v_1:aY):Option Int:=
 (aH (fC s_0 v_1) 0).bind fun o=>match o with
   | (.inl _)=>(some (-1))
   | (.inr r2)=>(some r2)
noncomputable def fD (s_0:(List aY)) (v_1:aY):Option Bool:=
 (iT s_0 v_1).bind fun x7=>
   some (decide (x7≥0))
noncomputable def iV (e_0:aY) (Ov:(List (List aY))) (Ox:Int):Option Bool:=
 (rd Ov Ox).bind fun x7=>
   (fD x7 e_0).bind fun x10=>
   some x10
noncomputable def dO (f_1:(aY→Option Bool)) (s_0:(List aY)) (eY:Int):Option (Int ⊕ (Unit ⊕ Int)):=
 if eY< (s_0.length:Int) then
  ((rd s_0 eY).bind fun x14=>
  (f_1 x14).bind fun x16=>
  if x16=true then
  (some (.inr (.inr eY)))
  else (some (.inl (w64 (eY+1)))))
  else (some (.inr (.inl ())))
noncomputable def gW (s_0:(List aY)) (f_1:(aY→Option Bool)):Option Int:=
 (aH (dO f_1 s_0) 0).bind fun o=>match o with
   | (.inl _)=>(some (-1))
   | (.inr r2)=>(some r2)
noncomputable def dP (s_0:(List aY)) (f_1:(aY→Option Bool)):Option Bool:=
 (gW s_0 f_1).bind fun x7=>
   some (decide (x7≥0))
noncomputable def kQ (ja:Int) (yL:(List (List Int))):Option ((Int×(List (List Int))) ⊕ (List (List Int))):=
 some (.inl ((w64 (ja+1)),yL))
noncomputable def kR (aS:(List (List aY))) (iU:Int) (s:(Int×(List (List Int)))):Option ((Int×(List (List Int))) ⊕ (List (List Int))):=
 match s with
  | (ja,jL)=>
  if ja< (aS.length:Int) then
  ((if iU≠ja then
  ((rd aS iU).bind fun x43=>
  (dP x43 (fun a0=>iV a0 aS ja)).bind fun x46=>
  some x46)
  else (some false)).bind fun Ko=>
  if Ko=true then
  ((rd jL iU).bind fun x52=>
  (apd 8 x52 ([ja]:List Int)).bind fun x56=>
  (rd jL iU).bind fun x57=>
  kQ ja (jL.set iU.toNat x56))
  else (kQ ja jL))
  else (some (.inr jL))
noncomputable def lN (aS:(List (List aY))) (s:(Int×(List (List Int)))):Option ((Int×(List (List Int))) ⊕ (List (List Int))):=
 match s with
  | (iU,Aq)=>
  if iU< (aS.length:Int) then
  ((aH (kR aS iU) (0,Aq)).bind fun yf=>
  some (.inl ((w64 (iU+1)),yf)))
  else (some (.inr Aq))
noncomputable def lQ (d_0:aA) (s:(Int×(List (List aY)))):Option ((Int×(List (List aY))) ⊕ (List (List aY))):=
 match s with
  | (zn,uu)=>
  if zn< (d_0.aC.length:Int) then
  ((rd d_0.aC zn).bind fun x15=>
  (qB x15.Ring).bind fun x20=>
  (apd 24 uu ([x20]:List (List aY))).bind fun x22=>
  some (.inl ((w64 (zn+1)),x22)))
  else (some (.inr uu))
noncomputable def pq (d_0:aA):Option (List (List Int)):=
 (aH (lQ d_0) (0,([]:List (List aY)))).bind fun aS=>
   (mkl 24 (aS.length:Int) ([]:List Int)).bind fun x26=>
   (aH (lN aS) (0,x26)).bind fun zo=>
   some zo
noncomputable def gY (s_0:(List Int)) (v_1:Int) (eY:Int):Option (Int ⊕ (Unit ⊕ Int)):=
 if eY< (s_0.length:Int) then
  ((rd s_0 eY).bind fun x14=>
  if v_1=x14 then
  (some (.inr (.inr eY)))
  else (some (.inl (w64 (eY+1)))))
  else (some (.inr (.inl ())))
noncomputable def jQ (s_0:(List Int)) (v_1:Int):Option Int:=
 (aH (gY s_0 v_1) 0).bind fun o=>match o with
   | (.inl _)=>(some (-1))
   | (.inr r2)=>(some r2)
noncomputable def fB (s_0:(List Int)) (v_1:Int):Option Bool:=
 (jQ s_0 v_1).bind fun x7=>
   some (decide (x7≥0))
noncomputable def sU (a_0:Int) (b_1:Int):Option (Int×Int):=
 (cO a_0 0 179).bind fun x8=>
   (if x8=true then
   ((cO b_1 0 179).bind fun x12=>
   some (!x12))
   else (some true)).bind fun Oy=>
   if Oy=true then
   (some (0,2))
   else (some ((min2 (max2 (w64 (a_0 - b_1)) (w64 (b_1 - a_0))) (w64 (180 - (max2 (w64 (a_0 - b_1)) (w64 (b_1 - a_0)))))),0))
noncomputable def sG (a_0:ai) (b_1:ai):Option Int:=
 (sU a_0.aX b_1.aX).bind fun x12=>
   (dv .i64 x12.1 6).bind fun x27=>
   some (w64 ((max2 (w64 (a_0.dM - b_1.dM)) (w64 (b_1.dM - a_0.dM)))+x27))
noncomputable def dQ (self:(aP×(List Int)×Int×Int)→Option ((List Int)×Int×aP)) (gZ:Int) (yM:(List (List Int))) (yN:(List ai)) (yO:Int):Option ((Int×(List (List Int))×(List ai)×Int) ⊕ (((List (List Int))×(List ai)×Int) ⊕ ((List Int)×Int×aP))):=
 some (.inl ((w64 (gZ+1)),yM,yN,yO))
noncomputable def gI (self:(aP×(List Int)×Int×Int)→Option ((List Int)×Int×aP)) (aZ:(List Int)) (aO:Int) (iH:(List ai)) (gZ:Int) (x57:(List Int)) (s:(Bool×Int)):Option ((Bool×Int) ⊕ Bool):=
 match s with
  | (xg,yP)=>
  if yP< (x57.length:Int) then
  ((rd x57 yP).bind fun x62=>
  (if xg=true then
  (if x62≥(aZ.length:Int) then
  (some true)
  else ((rd iH gZ).bind fun x75=>
  (rd aZ x62).bind fun x83=>
  (rd iH x83).bind fun x85=>
  (sG x75 x85).bind fun x87=>
  some (decide (x87≥aO))))
  else (some false)).bind fun CJ=>
  some (.inl (CJ,(w64 (yP+1)))))
  else (some (.inr xg))
noncomputable def eu (self:(aP×(List Int)×Int×Int)→Option ((List Int)×Int×aP)) (aZ:(List Int)) (aO:Int) (jk:Int) (s_0:aP) (x33:(List Int)) (s:(Int×(List (List Int))×(List ai)×Int)):Option ((Int×(List (List Int))×(List ai)×Int) ⊕ (((List (List Int))×(List ai)×Int) ⊕ ((List Int)×Int×aP))):=
 match s with
  | (gZ,jq,iH,jr)=>
  if gZ< (s_0.je.length:Int) then
  ((if (x33.length:Int)≥jk then
  ((fB x33 gZ).bind fun x49=>
  some (!x49))
  else (some false)).bind fun Kq=>
  if Kq=true then
  (dQ self gZ jq iH jr)
  else ((rd jq (aZ.length:Int)).bind fun x57=>
  (aH (gI self aZ aO iH gZ x57) (true,0)).bind fun sH=>
  if sH=true then
  (if jr=0 then
  (some (.inr (.inr (([]:List Int),5,(⟨jq,iH,jr⟩:aP)))))
  else ((apd 8 ([]:List Int) aZ).bind fun aea=>
  (apd 8 aea ([gZ]:List Int)).bind fun x113=>
  (self ((⟨jq,iH,(w64 (jr - 1))⟩:aP),x113,aO,jk)).bind fun yg=>
  if yg.2.1≠3 then
  (some (.inr (.inr (yg.1,yg.2.1,yg.2.2))))
  else (dQ self gZ yg.2.2.near yg.2.2.je yg.2.2.left)))
  else (dQ self gZ jq iH jr)))
  else (some (.inr (.inl (jq,iH,jr))))
noncomputable def eU (self:(aP×(List Int)×Int×Int)→Option ((List Int)×Int×aP)) (s_0:aP) (aZ:(List Int)) (aO:Int) (jk:Int):Option ((List Int)×Int×aP):=
 if (aZ.length:Int)=(s_0.near.length:Int) then
  (some (aZ,0,s_0))
  else ((apd 8 ([]:List Int) aZ).bind fun x29=>
  (Qk x29).bind fun x31=>
  (Xa x31).bind fun x33=>
  (aH (eu self aZ aO jk s_0 x33) (0,s_0.near,s_0.je,s_0.left)).bind fun o=>match o with
  | (.inl (xh,xk,xm))=>(some (([]:List Int),3,(⟨xh,xk,xm⟩:aP)))
  | (.inr r2)=>(some r2))
noncomputable def jb (s_0:aP) (aZ:(List Int)) (aO:Int) (jk:Int):Option ((List Int)×Int×aP):=AU (fun self s=>match s with | (s_0,aZ,aO,jk)=>eU self s_0 aZ aO jk) (s_0,aZ,aO,jk)
noncomputable def jM (d_0:aA) (aQ:(List ai)) (aO:Int) (bK:Int):Option ((List Int)×Int):=
 (mW d_0 aQ aO bK).bind fun x16=>
   if x16≠0 then
   (some (([]:List Int),x16))
   else ((pq d_0).bind fun x21=>
   (jb (⟨x21,aQ,bK⟩:aP) ([]:List Int) aO (aQ.length:Int)).bind fun x30=>
   some (x30.1,x30.2.1))
noncomputable def kZ (a_0:(List Int)) (b_1:(List Int)) (iD:Int):Option (Int ⊕ (Unit ⊕ Bool)):=
 if iD< (a_0.length:Int) then
  ((rd a_0 iD).bind fun x19=>
  (rd b_1 iD).bind fun x23=>
  if x19≠x23 then
  (some (.inr (.inr false)))
  else (some (.inl (w64 (iD+1)))))
  else (some (.inr (.inl ())))
noncomputable def jg (a_0:(List Int)) (b_1:(List Int)):Option Bool:=
 if (a_0.length:Int)≠(b_1.length:Int) then
  (some false)
  else ((aH (kZ a_0 b_1) 0).bind fun o=>match o with
  | (.inl _)=>(some true)
  | (.inr r2)=>(some r2))
noncomputable def uX (a_0:af) (b_1:af):Option Bool:=
 if a_0.X≠b_1.X then
  (some false)
  else (if a_0.Y≠b_1.Y then
  (some false)
  else (some true))
noncomputable def qU (a_0:(List af)) (b_1:(List af)) (iD:Int):Option (Int ⊕ (Unit ⊕ Bool)):=
 if iD< (a_0.length:Int) then
  ((rd a_0 iD).bind fun x19=>
  (rd b_1 iD).bind fun x23=>
  (uX x19 x23).bind fun x25=>
  if x25=true then
  (some (.inl (w64 (iD+1))))
  else (some (.inr (.inr false))))
  else (some (.inr (.inl ())))
noncomputable def sJ (a_0:(List af)) (b_1:(List af)):Option Bool:=
 if (a_0.length:Int)≠(b_1.length:Int) then
  (some false)
  else ((aH (qU a_0 b_1) 0).bind fun o=>match o with
  | (.inl _)=>(some true)
  | (.inr r2)=>(some r2))
noncomputable def xu (a_0:dh) (b_1:dh):Option Bool:=
 if ¬(a_0.Name=b_1.Name) then
  (some false)
  else ((jg a_0.Ring b_1.Ring).bind fun x14=>
  if x14=true then
  (some true)
  else (some false))
noncomputable def sV (a_0:(List dh)) (b_1:(List dh)) (iD:Int):Option (Int ⊕ (Unit ⊕ Bool)):=
 if iD< (a_0.length:Int) then
  ((rd a_0 iD).bind fun x19=>
  (rd b_1 iD).bind fun x23=>
  (xu x19 x23).bind fun x25=>
  if x25=true then
  (some (.inl (w64 (iD+1))))
  else (some (.inr (.inr false))))
  else (some (.inr (.inl ())))
noncomputable def uY (a_0:(List dh)) (b_1:(List dh)):Option Bool:=
 if (a_0.length:Int)≠(b_1.length:Int) then
  (some false)
  else ((aH (sV a_0 b_1) 0).bind fun o=>match o with
  | (.inl _)=>(some true)
  | (.inr r2)=>(some r2))
noncomputable def qC (a_0:aA) (b_1:aA):Option Bool:=
 if a_0.Width≠b_1.Width then
  (some false)
  else (if a_0.Height≠b_1.Height then
  (some false)
  else ((sJ a_0.bf b_1.bf).bind fun x19=>
  if x19=true then
  ((uY a_0.aC b_1.aC).bind fun x25=>
  if x25=true then
  (some true)
  else (some false))
  else (some false)))
noncomputable def sN (a_0:ai) (b_1:ai):Option Bool:=
 if ¬(a_0.ji=b_1.ji) then
  (some false)
  else (if a_0.dM≠b_1.dM then
  (some false)
  else (if a_0.aX≠b_1.aX then
  (some false)
  else (some true)))
noncomputable def qc (a_0:(List ai)) (b_1:(List ai)) (iD:Int):Option (Int ⊕ (Unit ⊕ Bool)):=
 if iD< (a_0.length:Int) then
  ((rd a_0 iD).bind fun x19=>
  (rd b_1 iD).bind fun x23=>
  (sN x19 x23).bind fun x25=>
  if x25=true then
  (some (.inl (w64 (iD+1))))
  else (some (.inr (.inr false))))
  else (some (.inr (.inl ())))
noncomputable def qE (a_0:(List ai)) (b_1:(List ai)):Option Bool:=
 if (a_0.length:Int)≠(b_1.length:Int) then
  (some false)
  else ((aH (qc a_0 b_1) 0).bind fun o=>match o with
  | (.inl _)=>(some true)
  | (.inr r2)=>(some r2))
noncomputable def jC (a_0:(List af)) (s:(Int×Int)):Option ((Int×Int) ⊕ Int):=
 match s with
  | (dm,aW)=>
  if aW< (a_0.length:Int) then
  ((rd a_0 aW).bind fun x15=>
  (rd a_0 aW).bind fun x22=>
  some (.inl ((w64 ((w64 (dm+1))+1)),(w64 (aW+1)))))
  else (some (.inr dm))
noncomputable def lS (a_0:(List af)) (k_1:Int):Option Int:=
 (aH (jC a_0) (k_1,0)).bind fun dR=>
   some dR
noncomputable def lg (s:(Int×ByteArray)):Option ((Int×ByteArray) ⊕ ByteArray):=
 match s with
  | (G6,CO)=>
  if G6>0 then
  ((md G6 10).bind fun x9=>
  (cat (strOf ([(IntKind.wrap .u8 ((w64 (48+x9))))]:List Int)) CO).bind fun x15=>
  (dv .i64 G6 10).bind fun x17=>
  some (.inl (x17,x15)))
  else (some (.inr CO))
noncomputable def pO (k_0:Int):Option ByteArray:=
 if k_0≤0 then
  (some (⟨#[109,48]⟩:ByteArray))
  else ((aH (lg) (k_0,(⟨#[]⟩:ByteArray))).bind fun Be=>
  (cat (⟨#[109]⟩:ByteArray) Be).bind fun x19=>
  some x19)
noncomputable def jD (a_0:(List Int)) (s:(Int×Int)):Option ((Int×Int) ⊕ Int):=
 match s with
  | (dm,aW)=>
  if aW< (a_0.length:Int) then
  ((rd a_0 aW).bind fun x15=>
  some (.inl ((w64 (dm+1)),(w64 (aW+1)))))
  else (some (.inr dm))
noncomputable def lT (a_0:(List Int)) (k_1:Int):Option Int:=
 (aH (jD a_0) (k_1,0)).bind fun dR=>
   some dR
noncomputable def mY (a_0:(List dh)) (s:(Int×Int)):Option ((Int×Int) ⊕ Int):=
 match s with
  | (dm,aW)=>
  if aW< (a_0.length:Int) then
  ((pO dm).bind fun x15=>
  (rd a_0 aW).bind fun x16=>
  (rd a_0 aW).bind fun x22=>
  (lT x22.Ring (w64 (dm+1))).bind fun x26=>
  some (.inl (x26,(w64 (aW+1)))))
  else (some (.inr dm))
noncomputable def qF (a_0:(List dh)) (k_1:Int):Option Int:=
 (aH (mY a_0) (k_1,0)).bind fun dR=>
   some dR
noncomputable def nX (a_0:aA) (k_1:Int):Option Int:=
 (lS a_0.bf k_1).bind fun x8=>
   (qF a_0.aC x8).bind fun x12=>
   some x12
noncomputable def jv (s:(Int×Int×(List ai))):Option ((Int×Int×(List ai)) ⊕ (Int×(List ai))):=
 match s with
  | (dm,aW,jR)=>
  if aW< (jR.length:Int) then
  ((pO dm).bind fun x15=>
  (rd jR aW).bind fun x16=>
  (rd (jR.set aW.toNat (⟨x15,x16.dM,x16.aX⟩:ai)) aW).bind fun x23=>
  (rd ((jR.set aW.toNat (⟨x15,x16.dM,x16.aX⟩:ai)).set aW.toNat (⟨x23.ji,(w64 (dm+1)),x23.aX⟩:ai)) aW).bind fun x30=>
  some (.inl ((w64 ((w64 ((w64 (dm+1))+1))+1)),(w64 (aW+1)),(((jR.set aW.toNat (⟨x15,x16.dM,x16.aX⟩:ai)).set aW.toNat (⟨x23.ji,(w64 (dm+1)),x23.aX⟩:ai)).set aW.toNat (⟨x30.ji,x30.dM,(w64 ((w64 (dm+1))+1))⟩:ai)))))
  else (some (.inr (dm,jR)))
noncomputable def nY (a_0:(List ai)) (k_1:Int):Option (Int×(List ai)):=
 (aH (jv) (k_1,0,a_0)).bind fun o=>match o with
   | (dR,nZ)=>
   some (dR,nZ)
noncomputable def lU (s:(Int×Int×(List Int))):Option ((Int×Int×(List Int)) ⊕ (Int×(List Int))):=
 match s with
  | (dm,aW,jR)=>
  if aW< (jR.length:Int) then
  ((rd jR aW).bind fun x15=>
  some (.inl ((w64 (dm+1)),(w64 (aW+1)),(jR.set aW.toNat dm))))
  else (some (.inr (dm,jR)))
noncomputable def pz (a_0:(List Int)) (k_1:Int):Option (Int×(List Int)):=
 (aH (lU) (k_1,0,a_0)).bind fun o=>match o with
   | (dR,nZ)=>
   some (dR,nZ)
noncomputable def lV (a_0:(List Int)) (s:(Int×Int)):Option ((Int×Int) ⊕ (Int ⊕ Int)):=
 match s with
  | (dm,aW)=>
  if aW< (a_0.length:Int) then
  ((rd a_0 aW).bind fun x14=>
  if x14≠dm then
  (some (.inr (.inr (-1))))
  else (some (.inl ((w64 (dm+1)),(w64 (aW+1))))))
  else (some (.inr (.inl dm)))
noncomputable def mg (a_0:(List Int)) (k_1:Int):Option Int:=
 (aH (lV a_0) (k_1,0)).bind fun o=>match o with
   | (.inl dR)=>(some dR)
   | (.inr r2)=>(some r2)
noncomputable def jA (Bf:aA) (gq:(List ai)) (ku:Int) (jc:Int):Option Bool:=
 (qm Bf 1048576).bind fun x23=>
   if x23<0 then
   (some true)
   else ((qo gq x23).bind fun x28=>
   if x28<0 then
   (some true)
   else ((jX Bf).bind fun x33=>
   (jY gq).bind fun x35=>
   (lM x33 x35 ku jc).bind fun x38=>
   (jX Bf).bind fun x42=>
   (jY gq).bind fun x44=>
   (jM x42 x44 ku jc).bind fun x50=>
   (jg x50.1 x38.1).bind fun x55=>
   if (¬(x55=true)∨x50.2≠x38.2) then
   (some false)
   else ((jX Bf).bind fun x64=>
   (qC x42 x64).bind fun x65=>
   if x65=true then
   ((jY gq).bind fun x69=>
   (qE x44 x69).bind fun x70=>
   if x70=true then
   ((nX x42 1).bind fun x74=>
   (nY x44 x74).bind fun x77=>
   (if x77.1<0 then
   (some true)
   else ((jg x50.1 x38.1).bind fun x83=>
   if x83=true then
   (some (x50.2 != x38.2))
   else (some true))).bind fun Kr=>
   if Kr=true then
   (some false)
   else ((pz x50.1 1).bind fun x93=>
   (mg x93.2 1).bind fun x96=>
   if x96<0 then
   (some false)
   else (if x96≠x93.1 then
   (some false)
   else ((jX Bf).bind fun x104=>
   (jY gq).bind fun aeb=>
   (jM x104 aeb ku jc).bind fun Xd=>
   (jg Xd.1 x38.1).bind fun x114=>
   if (¬(x114=true)∨Xd.2≠x38.2) then
   (some false)
   else ((mg x93.2 1).bind fun acr=>
   if acr<0 then
   (some false)
   else (if acr≠x93.1 then
   (some false)
   else (some true)))))))
   else (some false))
   else (some false))))
end Go.Pw
