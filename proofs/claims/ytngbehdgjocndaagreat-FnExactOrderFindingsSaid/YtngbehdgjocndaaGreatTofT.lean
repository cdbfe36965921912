/- Plain functions that answer what the program's functions answer. Conditions: none; definitions alone. -/
import Derived.Test.YtngbehdgjocndaaGreatSimPw
namespace Go.Pw
open Go.Sim (min2 max2)
set_option linter.unusedVariables false
structure ae where
 X:Int
 Y:Int
structure bT where
 Name:ByteArray
 Ring:(List Int)
structure aB where
 Width:Int
 Height:Int
 bG:(List ae)
 aG:(List bT)
structure aI where
 jr:ByteArray
 iK:Int
 Bl:Int
structure dJ where
 az:aB
 dM:(List aI)
structure dn where
 X:Int
 Y:Int
 Width:Int
 Length:Int
structure bU where
 Id:ByteArray
 lM:ByteArray
 Number:Int
 jL:aI
 Width:Int
 Length:Int
 fU:(List dn)
structure ak where
 nI:Int
 OJ:Int
 X:Int
 Y:Int
 Turn:Int
structure jv where
 kD:Int
 o8:Int
 yg:Int
 iK:Int
structure fM where
 aS:dJ
 Leaves:(List bU)
 bP:(List ak)
 yh:jv
 jk:Int
 Jb:Int
 Ci:Int
 Gap:Int
 Order:(List Int)
 G6:(List Int)
structure ai where
 Kind:Int
 Who:ByteArray
 What:ByteArray
structure eG where
 near:(List (List Int))
 AU:(List Bool)
structure bW where
 e0:Int
 e1:Int
noncomputable def wE (a_0:(List ae)) (bK:Int):Option Int:=
 if (w64 (bK - (a_0.length:Int))) <0 then
  (some (-1))
  else (some (w64 (bK - (a_0.length:Int))))
noncomputable def oI (a_0:(List Int)) (bK:Int):Option Int:=
 if (w64 (bK - (a_0.length:Int))) <0 then
  (some (-1))
  else (some (w64 (bK - (a_0.length:Int))))
noncomputable def Af (a_0:bT) (bK:Int):Option Int:=
 if (w64 (bK - (a_0.Name.size:Int))) <0 then
  (some (-1))
  else ((oI a_0.Ring (w64 (bK - (a_0.Name.size:Int)))).bind fun x15=>
  if x15<0 then
  (some (-1))
  else (some x15))
noncomputable def qR (a_0:(List bT)) (s:(Int×Int)):Option ((Int×Int) ⊕ (Int ⊕ Int)):=
 match s with
  | (jl,o9)=>
  if o9< (a_0.length:Int) then
  ((rd a_0 o9).bind fun x20=>
  (Af x20 jl).bind fun x23=>
  if x23<0 then
  (some (.inr (.inr (-1))))
  else (some (.inl (x23,(w64 (o9+1))))))
  else (some (.inr (.inl jl)))
noncomputable def yj (a_0:(List bT)) (bK:Int):Option Int:=
 if (w64 (bK - (a_0.length:Int))) <0 then
  (some (-1))
  else ((aT (qR a_0) ((w64 (bK - (a_0.length:Int))),0)).bind fun o=>match o with
  | (.inl gG)=>(some gG)
  | (.inr r2)=>(some r2))
noncomputable def ug (a_0:aB) (bK:Int):Option Int:=
 (wE a_0.bG bK).bind fun x8=>
   if x8<0 then
   (some (-1))
   else ((yj a_0.aG x8).bind fun x14=>
   if x14<0 then
   (some (-1))
   else (some x14))
noncomputable def sH (a_0:aI) (bK:Int):Option Int:=
 if (w64 (bK - (a_0.jr.size:Int))) <0 then
  (some (-1))
  else (some (w64 (bK - (a_0.jr.size:Int))))
noncomputable def nJ (a_0:(List aI)) (s:(Int×Int)):Option ((Int×Int) ⊕ (Int ⊕ Int)):=
 match s with
  | (jl,o9)=>
  if o9< (a_0.length:Int) then
  ((rd a_0 o9).bind fun x20=>
  (sH x20 jl).bind fun x23=>
  if x23<0 then
  (some (.inr (.inr (-1))))
  else (some (.inl (x23,(w64 (o9+1))))))
  else (some (.inr (.inl jl)))
noncomputable def uh (a_0:(List aI)) (bK:Int):Option Int:=
 if (w64 (bK - (a_0.length:Int))) <0 then
  (some (-1))
  else ((aT (nJ a_0) ((w64 (bK - (a_0.length:Int))),0)).bind fun o=>match o with
  | (.inl gG)=>(some gG)
  | (.inr r2)=>(some r2))
noncomputable def uj (a_0:dJ) (bK:Int):Option Int:=
 (ug a_0.az bK).bind fun x8=>
   if x8<0 then
   (some (-1))
   else ((uh a_0.dM x8).bind fun x14=>
   if x14<0 then
   (some (-1))
   else (some x14))
noncomputable def Ag (a_0:(List dn)) (bK:Int):Option Int:=
 if (w64 (bK - (a_0.length:Int))) <0 then
  (some (-1))
  else (some (w64 (bK - (a_0.length:Int))))
noncomputable def Ah (a_0:bU) (bK:Int):Option Int:=
 if (w64 (bK - (a_0.Id.size:Int))) <0 then
  (some (-1))
  else (if (w64 ((w64 (bK - (a_0.Id.size:Int))) - (a_0.lM.size:Int))) <0 then
  (some (-1))
  else ((sH a_0.jL (w64 ((w64 (bK - (a_0.Id.size:Int))) - (a_0.lM.size:Int)))).bind fun x22=>
  if x22<0 then
  (some (-1))
  else ((Ag a_0.fU x22).bind fun x28=>
  if x28<0 then
  (some (-1))
  else (some x28))))
noncomputable def qU (a_0:(List bU)) (s:(Int×Int)):Option ((Int×Int) ⊕ (Int ⊕ Int)):=
 match s with
  | (jl,o9)=>
  if o9< (a_0.length:Int) then
  ((rd a_0 o9).bind fun x20=>
  (Ah x20 jl).bind fun x23=>
  if x23<0 then
  (some (.inr (.inr (-1))))
  else (some (.inl (x23,(w64 (o9+1))))))
  else (some (.inr (.inl jl)))
noncomputable def yl (a_0:(List bU)) (bK:Int):Option Int:=
 if (w64 (bK - (a_0.length:Int))) <0 then
  (some (-1))
  else ((aT (qU a_0) ((w64 (bK - (a_0.length:Int))),0)).bind fun o=>match o with
  | (.inl gG)=>(some gG)
  | (.inr r2)=>(some r2))
noncomputable def nK (a_0:(List ak)) (bK:Int):Option Int:=
 if (w64 (bK - (a_0.length:Int))) <0 then
  (some (-1))
  else (some (w64 (bK - (a_0.length:Int))))
noncomputable def Cj (a_0:fM) (bK:Int):Option Int:=
 (uj a_0.aS bK).bind fun x8=>
   if x8<0 then
   (some (-1))
   else ((yl a_0.Leaves x8).bind fun x14=>
   if x14<0 then
   (some (-1))
   else ((nK a_0.bP x14).bind fun x20=>
   if x20<0 then
   (some (-1))
   else ((oI a_0.Order x20).bind fun x26=>
   if x26<0 then
   (some (-1))
   else ((oI a_0.G6 x26).bind fun x32=>
   if x32<0 then
   (some (-1))
   else (some x32)))))
noncomputable def yt (a_0:ae):Option ae:=
 some a_0
noncomputable def pg (a_0:(List ae)) (s:(Int×(List ae))):Option ((Int×(List ae)) ⊕ (List ae)):=
 match s with
  | (bz,aV)=>
  if bz< (a_0.length:Int) then
  ((rd a_0 bz).bind fun x18=>
  (yt x18).bind fun x20=>
  (rd aV bz).bind fun x21=>
  some (.inl ((w64 (bz+1)),(aV.set bz.toNat x20))))
  else (some (.inr aV))
noncomputable def wF (a_0:(List ae)):Option (List ae):=
 (mkl 16 (a_0.length:Int) (⟨0,0⟩:ae)).bind fun x7=>
   (aT (pg a_0) (0,x7)).bind fun bH=>
   some bH
noncomputable def pq (a_0:(List Int)) (s:(Int×(List Int))):Option ((Int×(List Int)) ⊕ (List Int)):=
 match s with
  | (bz,aV)=>
  if bz< (a_0.length:Int) then
  ((rd a_0 bz).bind fun x18=>
  (rd aV bz).bind fun x20=>
  some (.inl ((w64 (bz+1)),(aV.set bz.toNat x18))))
  else (some (.inr aV))
noncomputable def oJ (a_0:(List Int)):Option (List Int):=
 (mkl 8 (a_0.length:Int) 0).bind fun x7=>
   (aT (pq a_0) (0,x7)).bind fun bH=>
   some bH
noncomputable def Ai (a_0:bT):Option bT:=
 (oJ a_0.Ring).bind fun x9=>
   some (⟨a_0.Name,x9⟩:bT)
noncomputable def qV (a_0:(List bT)) (s:(Int×(List bT))):Option ((Int×(List bT)) ⊕ (List bT)):=
 match s with
  | (bz,aV)=>
  if bz< (a_0.length:Int) then
  ((rd a_0 bz).bind fun x18=>
  (Ai x18).bind fun x20=>
  (rd aV bz).bind fun x21=>
  some (.inl ((w64 (bz+1)),(aV.set bz.toNat x20))))
  else (some (.inr aV))
noncomputable def yu (a_0:(List bT)):Option (List bT):=
 (mkl 40 (a_0.length:Int) (⟨(⟨#[]⟩:ByteArray),([]:List Int)⟩:bT)).bind fun x7=>
   (aT (qV a_0) (0,x7)).bind fun bH=>
   some bH
noncomputable def uk (a_0:aB):Option aB:=
 (wF a_0.bG).bind fun x12=>
   (yu a_0.aG).bind fun x16=>
   some (⟨a_0.Width,a_0.Height,x12,x16⟩:aB)
noncomputable def sJ (a_0:aI):Option aI:=
 some a_0
noncomputable def nM (a_0:(List aI)) (s:(Int×(List aI))):Option ((Int×(List aI)) ⊕ (List aI)):=
 match s with
  | (bz,aV)=>
  if bz< (a_0.length:Int) then
  ((rd a_0 bz).bind fun x18=>
  (sJ x18).bind fun x20=>
  (rd aV bz).bind fun x21=>
  some (.inl ((w64 (bz+1)),(aV.set bz.toNat x20))))
  else (some (.inr aV))
noncomputable def um (a_0:(List aI)):Option (List aI):=
 (mkl 32 (a_0.length:Int) (⟨(⟨#[]⟩:ByteArray),0,0⟩:aI)).bind fun x7=>
   (aT (nM a_0) (0,x7)).bind fun bH=>
   some bH
noncomputable def uq (a_0:dJ):Option dJ:=
 (uk a_0.az).bind fun x6=>
   (um a_0.dM).bind fun x10=>
   some (⟨x6,x10⟩:dJ)
noncomputable def Cm (a_0:dn):Option dn:=
 some a_0
noncomputable def uu (a_0:(List dn)) (s:(Int×(List dn))):Option ((Int×(List dn)) ⊕ (List dn)):=
 match s with
  | (bz,aV)=>
  if bz< (a_0.length:Int) then
  ((rd a_0 bz).bind fun x18=>
  (Cm x18).bind fun x20=>
  (rd aV bz).bind fun x21=>
  some (.inl ((w64 (bz+1)),(aV.set bz.toNat x20))))
  else (some (.inr aV))
noncomputable def Aj (a_0:(List dn)):Option (List dn):=
 (mkl 32 (a_0.length:Int) (⟨0,0,0,0⟩:dn)).bind fun x7=>
   (aT (uu a_0) (0,x7)).bind fun bH=>
   some bH
noncomputable def Ak (a_0:bU):Option bU:=
 (sJ a_0.jL).bind fun x15=>
   (Aj a_0.fU).bind fun x25=>
   some (⟨a_0.Id,a_0.lM,a_0.Number,x15,a_0.Width,a_0.Length,x25⟩:bU)
noncomputable def qW (a_0:(List bU)) (s:(Int×(List bU))):Option ((Int×(List bU)) ⊕ (List bU)):=
 match s with
  | (bz,aV)=>
  if bz< (a_0.length:Int) then
  ((rd a_0 bz).bind fun x18=>
  (Ak x18).bind fun x20=>
  (rd aV bz).bind fun x21=>
  some (.inl ((w64 (bz+1)),(aV.set bz.toNat x20))))
  else (some (.inr aV))
noncomputable def yw (a_0:(List bU)):Option (List bU):=
 (mkl 112 (a_0.length:Int) (⟨(⟨#[]⟩:ByteArray),(⟨#[]⟩:ByteArray),0,(⟨(⟨#[]⟩:ByteArray),0,0⟩:aI),0,0,([]:List dn)⟩:bU)).bind fun x7=>
   (aT (qW a_0) (0,x7)).bind fun bH=>
   some bH
noncomputable def pz (a_0:ak):Option ak:=
 some a_0
noncomputable def kM (a_0:(List ak)) (s:(Int×(List ak))):Option ((Int×(List ak)) ⊕ (List ak)):=
 match s with
  | (bz,aV)=>
  if bz< (a_0.length:Int) then
  ((rd a_0 bz).bind fun x18=>
  (pz x18).bind fun x20=>
  (rd aV bz).bind fun x21=>
  some (.inl ((w64 (bz+1)),(aV.set bz.toNat x20))))
  else (some (.inr aV))
noncomputable def nN (a_0:(List ak)):Option (List ak):=
 (mkl 40 (a_0.length:Int) (⟨0,0,0,0,0⟩:ak)).bind fun x7=>
   (aT (kM a_0) (0,x7)).bind fun bH=>
   some bH
noncomputable def yx (a_0:jv):Option jv:=
 some a_0
noncomputable def uw (a_0:fM):Option fM:=
 (uq a_0.aS).bind fun x6=>
   (yw a_0.Leaves).bind fun x10=>
   (nN a_0.bP).bind fun x14=>
   (yx a_0.yh).bind fun x18=>
   (oJ a_0.Order).bind fun x34=>
   (oJ a_0.G6).bind fun x38=>
   some (⟨x6,x10,x14,x18,a_0.jk,a_0.Jb,a_0.Ci,a_0.Gap,x34,x38⟩:fM)
noncomputable def bM (n_0:Int) (Et:Int) (zx:Int):Option Bool:=
 some ((decide (n_0≥Et))&&(decide (n_0≤zx)))
noncomputable def kT (d_0:aB) (eH:Int) (JP:Int):Option (Int ⊕ (Unit ⊕ Bool)):=
 if JP<eH then
  ((rd d_0.bG eH).bind fun x60=>
  (rd d_0.bG JP).bind fun x67=>
  if (x60.X=x67.X∧x60.Y=x67.Y) then
  (some (.inr (.inr false)))
  else (some (.inl (w64 (JP+1)))))
  else (some (.inr (.inl ())))
noncomputable def kU (d_0:aB) (eH:Int):Option (Int ⊕ (Unit ⊕ Bool)):=
 if eH< (d_0.bG.length:Int) then
  ((rd d_0.bG eH).bind fun x25=>
  (bM x25.X 0 d_0.Width).bind fun x32=>
  (if x32=true then
  ((rd d_0.bG eH).bind fun x40=>
  (bM x40.Y 0 d_0.Height).bind fun x47=>
  some (!x47))
  else (some true)).bind fun ET=>
  if ET=true then
  (some (.inr (.inr false)))
  else ((aT (kT d_0 eH) 0).bind fun o=>match o with
  | (.inl _)=>(some (.inl (w64 (eH+1))))
  | (.inr r2)=>(some (.inr (.inr r2)))))
  else (some (.inr (.inl ())))
noncomputable def yz (d_0:aB):Option Bool:=
 if (d_0.bG.length:Int) >48 then
  (some false)
  else ((aT (kU d_0) 0).bind fun o=>match o with
  | (.inl _)=>(some true)
  | (.inr r2)=>(some r2))
noncomputable def oK (c_0:Int):Option Bool:=
 some ((decide (c_0≥97))&&(decide (c_0≤122)))
noncomputable def wG (c_0:Int):Option Bool:=
 some ((decide (c_0≥48))&&(decide (c_0≤57)))
noncomputable def lg (s_0:ByteArray) (eH:Int):Option (Int ⊕ (Unit ⊕ Bool)):=
 if eH< (s_0.size:Int) then
  ((bt s_0 eH).bind fun x25=>
  (oK x25).bind fun x26=>
  (if x26=true then
  (some false)
  else ((bt s_0 eH).bind fun x31=>
  (wG x31).bind fun x32=>
  some (!x32))).bind fun U9=>
  if U9=true then
  (some (.inr (.inr false)))
  else (some (.inl (w64 (eH+1)))))
  else (some (.inr (.inl ())))
noncomputable def qL (s_0:ByteArray):Option Bool:=
 (if s_0=(⟨#[]⟩:ByteArray) then
   (some true)
   else (if (s_0.size:Int) >10 then
   (some true)
   else ((bt s_0 0).bind fun x13=>
   (oK x13).bind fun x14=>
   some (!x14)))).bind fun Va=>
   if Va=true then
   (some false)
   else ((aT (lg s_0) 0).bind fun o=>match o with
   | (.inl _)=>(some true)
   | (.inr r2)=>(some r2))
noncomputable def AX (d_0:aB) (mG:(List Int)) (s:(Int×(List ae))):Option ((Int×(List ae)) ⊕ ((List ae) ⊕ ((List ae)×Bool))):=
 match s with
  | (EU,nG)=>
  if EU< (mG.length:Int) then
  ((rd mG EU).bind fun x17=>
  (bM x17 0 (w64 ((d_0.bG.length:Int) - 1))).bind fun x25=>
  if x25=true then
  ((rd mG EU).bind fun x34=>
  (rd d_0.bG x34).bind fun x36=>
  (apd 16 nG ([x36]:List ae)).bind fun x39=>
  some (.inl ((w64 (EU+1)),x39)))
  else (some (.inr (.inr (([]:List ae),false)))))
  else (some (.inr (.inl nG)))
noncomputable def vw (d_0:aB) (mG:(List Int)):Option ((List ae)×Bool):=
 (aT (AX d_0 mG) (0,([]:List ae))).bind fun o=>match o with
   | (.inl kP)=>(some (kP,true))
   | (.inr r2)=>(some r2)
noncomputable def JQ (p_0:ae):Option Bool:=
 (bM p_0.X 0 20000).bind fun x5=>
   (if x5=true then
   ((bM p_0.Y 0 20000).bind fun x9=>
   some x9)
   else (some false)).bind fun fD=>
   some fD
noncomputable def zN (a_0:ae) (b_1:ae) (c_2:ae):Option Int:=
 some (w64 ((w64 ((w64 (b_1.X - a_0.X)) * (w64 (c_2.Y - a_0.Y)))) - (w64 ((w64 (b_1.Y - a_0.Y)) * (w64 (c_2.X - a_0.X))))))
noncomputable def lN (a_0:ae) (b_1:ae) (c_2:ae):Option Int:=
 (zN a_0 b_1 c_2).bind fun x11=>
   if x11>0 then
   (some 1)
   else (if x11<0 then
   (some (-1))
   else (some 0))
noncomputable def xJ (a_0:Int) (b_1:Int):Option Int:=
 if a_0<b_1 then
  (some a_0)
  else (some b_1)
noncomputable def xK (a_0:Int) (b_1:Int):Option Int:=
 if a_0>b_1 then
  (some a_0)
  else (some b_1)
noncomputable def oL (a_0:ae) (b_1:ae) (p_2:ae):Option Bool:=
 (lN a_0 b_1 p_2).bind fun x10=>
   (if x10=0 then
   ((xJ a_0.X b_1.X).bind fun x19=>
   (xK a_0.X b_1.X).bind fun x24=>
   (bM p_2.X x19 x24).bind fun x25=>
   if x25=true then
   ((xJ a_0.Y b_1.Y).bind fun x34=>
   (xK a_0.Y b_1.Y).bind fun x39=>
   (bM p_2.Y x34 x39).bind fun x40=>
   some x40)
   else (some false))
   else (some false)).bind fun fP=>
   some fP
noncomputable def qX (a_0:ae) (b_1:ae) (c_2:ae) (d_3:ae):Option Bool:=
 (lN a_0 b_1 c_2).bind fun x12=>
   (lN a_0 b_1 d_3).bind fun x16=>
   (if (w64 (x12*x16)) <0 then
   ((lN c_2 d_3 a_0).bind fun x23=>
   (lN c_2 d_3 b_1).bind fun x27=>
   some (decide ((w64 (x23*x27)) <0)))
   else (some false)).bind fun xw=>
   some xw
noncomputable def yA (a_0:ae) (b_1:ae) (c_2:ae) (d_3:ae):Option Bool:=
 (qX a_0 b_1 c_2 d_3).bind fun x13=>
   (if x13=true then
   (some true)
   else ((oL a_0 b_1 c_2).bind fun x18=>
   if x18=true then
   (some true)
   else ((oL a_0 b_1 d_3).bind fun x24=>
   if x24=true then
   (some true)
   else ((oL c_2 d_3 a_0).bind fun x30=>
   if x30=true then
   (some true)
   else ((oL c_2 d_3 b_1).bind fun x36=>
   some x36))))).bind fun xw=>
   some xw
noncomputable def AY (p_0:(List ae)) (s:(Int×Int)):Option ((Int×Int) ⊕ Int):=
 match s with
  | (mJ,bz)=>
  if bz< (p_0.length:Int) then
  ((md (w64 (bz+1)) (p_0.length:Int)).bind fun x17=>
  (rd p_0 x17).bind fun x18=>
  (rd p_0 bz).bind fun x23=>
  (rd p_0 bz).bind fun x31=>
  some (.inl ((w64 (mJ+(w64 ((w64 (x23.X*x18.Y)) - (w64 (x31.Y*x18.X)))))),(w64 (bz+1)))))
  else (some (.inr mJ))
noncomputable def yB (p_0:(List ae)):Option Int:=
 (aT (AY p_0) (0,0)).bind fun qM=>
   some qM
noncomputable def yC (lQ:Int) (p_0:(List ae)) (x36:ae) (x43:ae) (BH:Int):Option (Int ⊕ (Unit ⊕ Bool)):=
 if BH< (p_0.length:Int) then
  ((md (w64 (BH+1)) (p_0.length:Int)).bind fun x77=>
  (if x77≠lQ then
  ((rd p_0 BH).bind fun x85=>
  (md (w64 (BH+1)) (p_0.length:Int)).bind fun x91=>
  (rd p_0 x91).bind fun x92=>
  (yA x36 x43 x85 x92).bind fun x94=>
  some x94)
  else (some false)).bind fun QA=>
  if QA=true then
  (some (.inr (.inr false)))
  else (some (.inl (w64 (BH+1)))))
  else (some (.inr (.inl ())))
noncomputable def yD (p_0:(List ae)) (lQ:Int):Option (Int ⊕ (Unit ⊕ Bool)):=
 if lQ< (p_0.length:Int) then
  ((rd p_0 lQ).bind fun x36=>
  (md (w64 (lQ+1)) (p_0.length:Int)).bind fun x42=>
  (rd p_0 x42).bind fun x43=>
  (md (w64 (lQ+2)) (p_0.length:Int)).bind fun x49=>
  (rd p_0 x49).bind fun x50=>
  (if (x36.X=x43.X∧x36.Y=x43.Y) then
  (some true)
  else ((oL x36 x43 x50).bind fun x59=>
  if x59=true then
  (some true)
  else ((oL x43 x50 x36).bind fun x65=>
  some x65))).bind fun QB=>
  if QB=true then
  (some (.inr (.inr false)))
  else ((aT (yC lQ p_0 x36 x43) (w64 (lQ+2))).bind fun o=>match o with
  | (.inl _)=>(some (.inl (w64 (lQ+1))))
  | (.inr r2)=>(some (.inr (.inr r2)))))
  else (some (.inr (.inl ())))
noncomputable def DW (p_0:(List ae)) (MR:Int):Option (Int ⊕ (Unit ⊕ Bool)):=
 if MR< (p_0.length:Int) then
  ((rd p_0 MR).bind fun x25=>
  (JQ x25).bind fun x27=>
  if x27=true then
  (some (.inl (w64 (MR+1))))
  else (some (.inr (.inr false))))
  else (some (.inr (.inl ())))
noncomputable def CB (p_0:(List ae)):Option Bool:=
 if ((p_0.length:Int) <3∨(p_0.length:Int) >24) then
  (some false)
  else ((aT (DW p_0) 0).bind fun o=>match o with
  | (.inl _)=>((aT (yD p_0) 0).bind fun o=>match o with
  | (.inl _)=>((yB p_0).bind fun x97=>
  some (decide (x97>0)))
  | (.inr r2)=>(some r2))
  | (.inr r2)=>(some r2))
noncomputable def sN (d_0:aB) (eH:Int):Option (Int ⊕ (Unit ⊕ Bool)):=
 if eH< (d_0.aG.length:Int) then
  ((rd d_0.aG eH).bind fun x47=>
  (qL x47.Name).bind fun x50=>
  (if x50=true then
  (if eH>0 then
  ((rd d_0.aG (w64 (eH - 1))).bind fun x62=>
  (rd d_0.aG eH).bind fun x70=>
  some (!Op.bytesLess x62.Name.toList x70.Name.toList))
  else (some false))
  else (some true)).bind fun Vb=>
  if Vb=true then
  (some (.inr (.inr false)))
  else ((rd d_0.aG eH).bind fun x83=>
  (vw d_0 x83.Ring).bind fun x86=>
  (if x86.2=true then
  ((CB x86.1).bind fun x93=>
  some (!x93))
  else (some true)).bind fun Le=>
  if Le=true then
  (some (.inr (.inr false)))
  else (some (.inl (w64 (eH+1))))))
  else (some (.inr (.inl ())))
noncomputable def CE (d_0:aB):Option Bool:=
 (bM d_0.Width 10 20000).bind fun x10=>
   (if x10=true then
   ((bM d_0.Height 10 20000).bind fun x17=>
   if x17=true then
   ((yz d_0).bind fun x22=>
   if x22=true then
   (some (decide ((d_0.aG.length:Int) >24)))
   else (some true))
   else (some true))
   else (some true)).bind fun EW=>
   if EW=true then
   (some false)
   else ((aT (sN d_0) 0).bind fun o=>match o with
   | (.inl _)=>(some true)
   | (.inr r2)=>(some r2))
noncomputable def zO:Option (List ByteArray):=
 some ([(⟨#[97,115,104]⟩:ByteArray),(⟨#[98,101,101,99,104]⟩:ByteArray),(⟨#[98,105,114,99,104]⟩:ByteArray),(⟨#[99,104,101,114,114,121]⟩:ByteArray),(⟨#[101,98,111,110,121]⟩:ByteArray),(⟨#[104,111,108,108,121]⟩:ByteArray),(⟨#[109,97,112,108,101]⟩:ByteArray),(⟨#[111,97,107]⟩:ByteArray),(⟨#[114,111,115,101,119,111,111,100]⟩:ByteArray),(⟨#[119,97,108,110,117,116]⟩:ByteArray)]:List ByteArray)
noncomputable def qY (jV:ByteArray) (x5:(List ByteArray)) (bz:Int):Option (Int ⊕ (Unit ⊕ Int)):=
 if bz< (x5.length:Int) then
  ((rd x5 bz).bind fun x14=>
  if x14=jV then
  (some (.inr (.inr bz)))
  else (some (.inl (w64 (bz+1)))))
  else (some (.inr (.inl ())))
noncomputable def vz (jV:ByteArray):Option Int:=
 (zO).bind fun x5=>
   (aT (qY jV x5) 0).bind fun o=>match o with
   | (.inl _)=>(some (-1))
   | (.inr r2)=>(some r2)
noncomputable def zQ:Option (List (List Int)):=
 some ([([20,40,310]:List Int),([35,45,410]:List Int),([15,33,280]:List Int),([50,36,240]:List Int),([95,85,270]:List Int),([5,35,370]:List Int),([10,42,290]:List Int),([40,40,330]:List Int),([80,60,220]:List Int),([70,38,260]:List Int)]:List (List Int))
noncomputable def zS (g_0:Int):Option Bool:=
 (bM g_0 0 179).bind fun x4=>
   some x4
noncomputable def uy (v_0:aI):Option Bool:=
 (vz v_0.jr).bind fun x9=>
   (if x9<0 then
   (some true)
   else ((bM v_0.iK 0 100).bind fun x17=>
   some (!x17))).bind fun Vd=>
   if Vd=true then
   (some false)
   else ((zQ).bind fun x20=>
   (rd x20 x9).bind fun x22=>
   (rd x22 0).bind fun x24=>
   (bM v_0.iK (w64 (x24 - 15)) (w64 (x24+15))).bind fun x34=>
   (if x34=true then
   ((zS v_0.Bl).bind fun x40=>
   some x40)
   else (some false)).bind fun YO=>
   some YO)
noncomputable def mM (aP:(List aI)) (jM:Int):Option (Int ⊕ (Unit ⊕ Bool)):=
 if jM< (aP.length:Int) then
  ((rd aP jM).bind fun x12=>
  (uy x12).bind fun x13=>
  if x13=true then
  (some (.inl (w64 (jM+1))))
  else (some (.inr (.inr false))))
  else (some (.inr (.inl ())))
noncomputable def qZ (aP:(List aI)):Option Bool:=
 (aT (mM aP) 0).bind fun o=>match o with
   | (.inl _)=>(some true)
   | (.inr r2)=>(some r2)
noncomputable def CG (p_0:dJ):Option Bool:=
 (CE p_0.az).bind fun x6=>
   (if x6=true then
   ((qZ p_0.dM).bind fun x12=>
   if x12=true then
   (some ((p_0.dM.length:Int)==(p_0.az.aG.length:Int)))
   else (some false))
   else (some false)).bind fun fD=>
   some fD
noncomputable def DC (b_0:dn) (yE:Int) (uz:Int):Option Bool:=
 (bM b_0.X 0 yE).bind fun x12=>
   (if x12=true then
   ((bM b_0.Y 0 uz).bind fun x19=>
   if x19=true then
   ((bM b_0.Width 1 (w64 (yE - b_0.X))).bind fun x32=>
   if x32=true then
   ((bM b_0.Length 1 (w64 (uz - b_0.Y))).bind fun x45=>
   some x45)
   else (some false))
   else (some false))
   else (some false)).bind fun fP=>
   some fP
noncomputable def uA (l_0:bU) (JR:Int):Option (Int ⊕ (Unit ⊕ Bool)):=
 if JR< (l_0.fU.length:Int) then
  ((rd l_0.fU JR).bind fun x69=>
  (DC x69 l_0.Width l_0.Length).bind fun x78=>
  if x78=true then
  (some (.inl (w64 (JR+1))))
  else (some (.inr (.inr false))))
  else (some (.inr (.inl ())))
noncomputable def Am (l_0:bU):Option Bool:=
 (qL l_0.Id).bind fun x8=>
   (if x8=true then
   ((qL l_0.lM).bind fun x15=>
   if x15=true then
   ((bM l_0.Number 0 999).bind fun x23=>
   if x23=true then
   ((uy l_0.jL).bind fun x30=>
   some (!x30))
   else (some true))
   else (some true))
   else (some true)).bind fun EW=>
   if EW=true then
   (some false)
   else ((bM l_0.Width 10 20000).bind fun x37=>
   (if x37=true then
   ((bM l_0.Length 10 20000).bind fun x44=>
   if x44=true then
   (some (decide ((l_0.fU.length:Int) >6)))
   else (some true))
   else (some true)).bind fun Ve=>
   if Ve=true then
   (some false)
   else ((aT (uA l_0) 0).bind fun o=>match o with
   | (.inl _)=>(some true)
   | (.inr r2)=>(some r2)))
noncomputable def wH (aP:(List bU)) (jM:Int):Option (Int ⊕ (Unit ⊕ Bool)):=
 if jM< (aP.length:Int) then
  ((rd aP jM).bind fun x12=>
  (Am x12).bind fun x13=>
  (if x13=true then
  (if jM>0 then
  ((rd aP (w64 (jM - 1))).bind fun x22=>
  (rd aP jM).bind fun x27=>
  some (!Op.bytesLess x22.Id.toList x27.Id.toList))
  else (some false))
  else (some true)).bind fun EX=>
  if EX=true then
  (some (.inr (.inr false)))
  else (some (.inl (w64 (jM+1)))))
  else (some (.inr (.inl ())))
noncomputable def CJ (aP:(List bU)):Option Bool:=
 (aT (wH aP) 0).bind fun o=>match o with
   | (.inl _)=>(some (decide ((aP.length:Int)≤16)))
   | (.inr r2)=>(some r2)
noncomputable def EY (Vf:Int):Option Bool:=
 (bM Vf 0 7).bind fun x4=>
   some x4
noncomputable def DD (p_0:ak):Option Bool:=
 (bM p_0.nI 0 23).bind fun x7=>
   (if x7=true then
   ((bM p_0.OJ 0 15).bind fun x13=>
   if x13=true then
   ((bM p_0.X 0 20000).bind fun x20=>
   if x20=true then
   ((bM p_0.Y 0 20000).bind fun x27=>
   if x27=true then
   ((EY p_0.Turn).bind fun x34=>
   some x34)
   else (some false))
   else (some false))
   else (some false))
   else (some false)).bind fun fD=>
   some fD
noncomputable def sO (aP:(List ak)) (jM:Int):Option (Int ⊕ (Unit ⊕ Bool)):=
 if jM< (aP.length:Int) then
  ((rd aP jM).bind fun x12=>
  (DD x12).bind fun x13=>
  (if x13=true then
  (if jM>0 then
  ((rd aP (w64 (jM - 1))).bind fun x22=>
  (rd aP jM).bind fun x27=>
  some (decide (x22.nI≥x27.nI)))
  else (some false))
  else (some true)).bind fun EX=>
  if EX=true then
  (some (.inr (.inr false)))
  else (some (.inl (w64 (jM+1)))))
  else (some (.inr (.inl ())))
noncomputable def CO (aP:(List ak)):Option Bool:=
 (aT (sO aP) 0).bind fun o=>match o with
   | (.inl _)=>(some (decide ((aP.length:Int)≤24)))
   | (.inr r2)=>(some r2)
noncomputable def vC (d_0:aB) (k_1:Int):Option Bool:=
 (bM k_1 0 (w64 ((d_0.aG.length:Int) - 1))).bind fun x12=>
   some x12
noncomputable def rf (DX:(List ak)) (Lh:dJ) (aF:Int):Option (Int ⊕ (Unit ⊕ Bool)):=
 if aF< (DX.length:Int) then
  ((rd DX aF).bind fun x17=>
  (vC Lh.az x17.nI).bind fun x20=>
  if x20=true then
  (some (.inl (w64 (aF+1))))
  else (some (.inr (.inr false))))
  else (some (.inr (.inl ())))
noncomputable def yF (Lh:dJ) (DX:(List ak)):Option Bool:=
 (aT (rf DX Lh) 0).bind fun o=>match o with
   | (.inl _)=>(some true)
   | (.inr r2)=>(some r2)
noncomputable def wI (r_0:jv):Option Bool:=
 (bM r_0.kD 0 500).bind fun x7=>
   (if x7=true then
   ((bM r_0.o8 0 500).bind fun x13=>
   if x13=true then
   ((bM r_0.yg 0 90).bind fun x20=>
   if x20=true then
   ((bM r_0.iK 0 100).bind fun x27=>
   some x27)
   else (some false))
   else (some false))
   else (some false)).bind fun fD=>
   some fD
noncomputable def zT (DF:Int) (Vg:Int):Option Bool:=
 (bM DF 1 1000).bind fun x6=>
   (if x6=true then
   ((bM Vg 0 200).bind fun x9=>
   some x9)
   else (some false)).bind fun YP=>
   some YP
noncomputable def zU (d_0:Int):Option Bool:=
 (bM d_0 0 30).bind fun x4=>
   some x4
noncomputable def tC (n_0:Int):Option Bool:=
 (bM n_0 0 200).bind fun x4=>
   some x4
noncomputable def uB (aP:(List Int)) (n_1:Int) (aF:Int):Option (Int ⊕ (Unit ⊕ Bool)):=
 if aF< (aP.length:Int) then
  ((rd aP aF).bind fun x14=>
  if x14=n_1 then
  (some (.inr (.inr true)))
  else (some (.inl (w64 (aF+1)))))
  else (some (.inr (.inl ())))
noncomputable def qA (aP:(List Int)) (n_1:Int):Option Bool:=
 (aT (uB aP n_1) 0).bind fun o=>match o with
   | (.inl _)=>(some false)
   | (.inr r2)=>(some r2)
noncomputable def pG (d_0:aB) (dQ:(List Int)) (aF:Int):Option (Int ⊕ (Unit ⊕ Bool)):=
 if aF< (dQ.length:Int) then
  ((rd dQ aF).bind fun x15=>
  (vC d_0 x15).bind fun x17=>
  (if x17=true then
  ((rd dQ aF).bind fun x25=>
  (slc dQ 0 aF).bind fun x22=>
  (qA x22 x25).bind fun x27=>
  some x27)
  else (some true)).bind fun Vh=>
  if Vh=true then
  (some (.inr (.inr false)))
  else (some (.inl (w64 (aF+1)))))
  else (some (.inr (.inl ())))
noncomputable def wJ (d_0:aB) (dQ:(List Int)):Option Bool:=
 (aT (pG d_0 dQ) 0).bind fun o=>match o with
   | (.inl _)=>(some true)
   | (.inr r2)=>(some r2)
noncomputable def CP (j_0:fM):Option Bool:=
 (CG j_0.aS).bind fun x6=>
   (if x6=true then
   ((CJ j_0.Leaves).bind fun x13=>
   if x13=true then
   ((CO j_0.bP).bind fun x21=>
   if x21=true then
   ((yF j_0.aS j_0.bP).bind fun x32=>
   if x32=true then
   ((wI j_0.yh).bind fun x39=>
   some (!x39))
   else (some true))
   else (some true))
   else (some true))
   else (some true)).bind fun Vj=>
   if Vj=true then
   (some false)
   else ((zT j_0.jk j_0.Jb).bind fun x50=>
   (if x50=true then
   ((zU j_0.Ci).bind fun x56=>
   if x56=true then
   ((tC j_0.Gap).bind fun x63=>
   if x63=true then
   ((wJ j_0.aS.az j_0.Order).bind fun x74=>
   some x74)
   else (some false))
   else (some false))
   else (some false)).bind fun YQ=>
   some YQ)
noncomputable def DY (j_0:fM):Option (List ai):=
 none
noncomputable def EZ (j_0:fM):Option (List ai):=
 none
noncomputable def G7 (j_0:fM):Option (List ai):=
 none
noncomputable def mO (i_1:Int) (k_2:Int) (lq:(List Int)) (G8:Int):Option (Int ⊕ (Unit ⊕ Bool)):=
 if G8< (lq.length:Int) then
  ((rd lq G8).bind fun x18=>
  (md (w64 (G8+1)) (lq.length:Int)).bind fun x25=>
  (rd lq x25).bind fun x26=>
  (if x18=i_1 then
  (if x26=k_2 then
  (some true)
  else (if x18=k_2 then
  (some (x26==i_1))
  else (some false)))
  else (if x18=k_2 then
  (some (x26==i_1))
  else (some false))).bind fun Vk=>
  if Vk=true then
  (some (.inr (.inr true)))
  else (some (.inl (w64 (G8+1)))))
  else (some (.inr (.inl ())))
noncomputable def rq (lq:(List Int)) (i_1:Int) (k_2:Int):Option Bool:=
 (aT (mO i_1 k_2 lq) 0).bind fun o=>match o with
   | (.inl _)=>(some false)
   | (.inr r2)=>(some r2)
noncomputable def ru (jW:Int) (Eu:(List Int)):Option ((Int×(List Int)) ⊕ (List Int)):=
 some (.inl ((w64 (jW+1)),Eu))
noncomputable def rC (d_0:aB) (jW:Int) (x16:bT) (s:(Bool×Int)):Option ((Bool×Int) ⊕ Bool):=
 match s with
  | (CQ,G9)=>
  if G9< (x16.Ring.length:Int) then
  ((if CQ=true then
  (some true)
  else ((rd d_0.aG jW).bind fun x41=>
  (rd x16.Ring G9).bind fun x46=>
  (md (w64 (G9+1)) (x16.Ring.length:Int)).bind fun x53=>
  (rd x16.Ring x53).bind fun x54=>
  (rq x41.Ring x46 x54).bind fun x56=>
  some x56)).bind fun He=>
  some (.inl (He,(w64 (G9+1)))))
  else (some (.inr CQ))
noncomputable def rD (d_0:aB) (k_1:Int) (x16:bT) (s:(Int×(List Int))):Option ((Int×(List Int)) ⊕ (List Int)):=
 match s with
  | (jW,jX)=>
  if jW< (d_0.aG.length:Int) then
  ((aT (rC d_0 jW x16) (false,0)).bind fun vF=>
  if (jW≠k_1∧vF=true) then
  ((apd 8 jX ([jW]:List Int)).bind fun x67=>
  ru jW x67)
  else (ru jW jX))
  else (some (.inr jX))
noncomputable def yG (d_0:aB) (k_1:Int):Option (List Int):=
 (rd d_0.aG k_1).bind fun x16=>
   (aT (rD d_0 k_1 x16) (0,([]:List Int))).bind fun DI=>
   some DI
noncomputable def rE (d_0:aB) (k_1:Int):Option (List ae):=
 (rd d_0.aG k_1).bind fun x14=>
   (vw d_0 x14.Ring).bind fun x17=>
   some x17.1
noncomputable def BI (d_0:aB) (a_1:ae) (b_2:ae):Option Bool:=
 (if a_1.X=b_2.X then
   (if a_1.X=0 then
   (some true)
   else (if a_1.X=d_0.Width then
   (some true)
   else (if a_1.Y=b_2.Y then
   (if a_1.Y=0 then
   (some true)
   else (some (a_1.Y==d_0.Height)))
   else (some false))))
   else (if a_1.Y=b_2.Y then
   (if a_1.Y=0 then
   (some true)
   else (some (a_1.Y==d_0.Height)))
   else (some false))).bind fun fP=>
   some fP
noncomputable def nO (d_0:aB) (x9:(List ae)) (Hf:Int):Option (Int ⊕ (Unit ⊕ Bool)):=
 if Hf< (x9.length:Int) then
  ((rd x9 Hf).bind fun x19=>
  (md (w64 (Hf+1)) (x9.length:Int)).bind fun x26=>
  (rd x9 x26).bind fun x27=>
  (BI d_0 x19 x27).bind fun x29=>
  if x29=true then
  (some (.inr (.inr true)))
  else (some (.inl (w64 (Hf+1)))))
  else (some (.inr (.inl ())))
noncomputable def uC (d_0:aB) (k_1:Int):Option Bool:=
 (rE d_0 k_1).bind fun x9=>
   (aT (nO d_0 x9) 0).bind fun o=>match o with
   | (.inl _)=>(some false)
   | (.inr r2)=>(some r2)
noncomputable def wK (d_0:aB) (s:(Int×(List (List Int))×(List Bool))):Option ((Int×(List (List Int))×(List Bool)) ⊕ ((List (List Int))×(List Bool))):=
 match s with
  | (E5,Ew,BU)=>
  if E5< (d_0.aG.length:Int) then
  ((yG d_0 E5).bind fun x23=>
  (apd 24 Ew ([x23]:List (List Int))).bind fun x25=>
  (uC d_0 E5).bind fun x35=>
  (apd 1 BU ([x35]:List Bool)).bind fun x37=>
  some (.inl ((w64 (E5+1)),x25,x37)))
  else (some (.inr (Ew,BU)))
noncomputable def CS (d_0:aB):Option eG:=
 (aT (wK d_0) (0,([]:List (List Int)),([]:List Bool))).bind fun o=>match o with
   | (Ap,Aq)=>
   some (⟨Ap,Aq⟩:eG)
noncomputable def rF (k_2:Int) (m_0:eG) (dw:(List Int)) (zy:Int):Option (Int ⊕ (Unit ⊕ Bool)):=
 (rd m_0.near k_2).bind fun x17=>
   if zy< (x17.length:Int) then
   ((rd m_0.near k_2).bind fun x29=>
   (rd x29 zy).bind fun x32=>
   (qA dw x32).bind fun x34=>
   if x34=true then
   (some (.inr (.inr true)))
   else (some (.inl (w64 (zy+1)))))
   else (some (.inr (.inl ())))
noncomputable def yH (m_0:eG) (dw:(List Int)) (k_2:Int):Option Bool:=
 if (dw.length:Int)=0 then
  (some true)
  else ((aT (rF k_2 m_0 dw) 0).bind fun o=>match o with
  | (.inl _)=>(some false)
  | (.inr r2)=>(some r2))
noncomputable def mP (k_2:Int) (m_0:eG) (dw:(List Int)) (zy:Int):Option (Int ⊕ (Unit ⊕ Bool)):=
 (rd m_0.near k_2).bind fun x21=>
   if zy< (x21.length:Int) then
   ((rd m_0.near k_2).bind fun x33=>
   (rd x33 zy).bind fun x36=>
   (qA dw x36).bind fun x38=>
   if x38=true then
   (some (.inl (w64 (zy+1))))
   else (some (.inr (.inr false))))
   else (some (.inr (.inl ())))
noncomputable def rG (m_0:eG) (dw:(List Int)) (k_2:Int):Option Bool:=
 (rd m_0.AU k_2).bind fun x13=>
   if x13=true then
   (some false)
   else ((aT (mP k_2 m_0 dw) 0).bind fun o=>match o with
   | (.inl _)=>(some true)
   | (.inr r2)=>(some r2))
noncomputable def yI (m_0:eG) (dw:(List Int)) (k_2:Int):Option Int:=
 (yH m_0 dw k_2).bind fun x10=>
   if x10=true then
   ((rG m_0 dw k_2).bind fun x15=>
   if x15=true then
   (some 2)
   else (some 0))
   else (some 1)
noncomputable def lW (m_0:eG) (dQ:(List Int)) (E8:Int):Option (Int ⊕ (Unit ⊕ (Int×Int))):=
 if E8< (dQ.length:Int) then
  ((rd dQ E8).bind fun x20=>
  (slc dQ 0 E8).bind fun x17=>
  (yI m_0 x17 x20).bind fun x22=>
  if x22≠0 then
  (some (.inr (.inr (E8,x22))))
  else (some (.inl (w64 (E8+1)))))
  else (some (.inr (.inl ())))
noncomputable def zV (m_0:eG) (dQ:(List Int)):Option (Int×Int):=
 (aT (lW m_0 dQ) 0).bind fun o=>match o with
   | (.inl _)=>(some (0,0))
   | (.inr r2)=>(some r2)
noncomputable def qN (j_0:fM) (k_1:Int):Option ByteArray:=
 (rd j_0.aS.az.aG k_1).bind fun x12=>
   some x12.Name
noncomputable def pK (AZ:Int) (Ey:(List ai)):Option ((Int×(List ai)) ⊕ (List ai)):=
 some (.inl ((w64 (AZ+1)),Ey))
noncomputable def vG (j_0:fM) (s:(Int×(List ai))):Option ((Int×(List ai)) ⊕ (List ai)):=
 match s with
  | (AZ,zA)=>
  if AZ< (j_0.aS.az.aG.length:Int) then
  ((qA j_0.Order AZ).bind fun x67=>
  if x67=true then
  (pK AZ zA)
  else ((qN j_0 AZ).bind fun x72=>
  (apd 40 zA ([(⟨4,x72,(⟨#[109,105,115,115,105,110,103]⟩:ByteArray)⟩:ai)]:List ai)).bind fun x75=>
  pK AZ x75))
  else (some (.inr zA))
noncomputable def lX (j_0:fM) (Ez:(List ai)):Option (List ai):=
 (aT (vG j_0) (0,Ez)).bind fun DJ=>
   some DJ
noncomputable def lY (j_0:fM) (x18:(Int×Int)) (zB:(List ai)):Option (List ai):=
 if x18.2=2 then
  ((rd j_0.Order x18.1).bind fun x45=>
  (qN j_0 x45).bind fun x47=>
  (apd 40 zB ([(⟨4,x47,(⟨#[116,114,97,112,112,101,100]⟩:ByteArray)⟩:ai)]:List ai)).bind fun x50=>
  lX j_0 x50)
  else (lX j_0 zB)
noncomputable def wL (j_0:fM):Option (List ai):=
 (CS j_0.aS.az).bind fun x13=>
   (zV x13 j_0.Order).bind fun x18=>
   if x18.2=1 then
   ((rd j_0.Order x18.1).bind fun x30=>
   (qN j_0 x30).bind fun x32=>
   (apd 40 ([]:List ai) ([(⟨4,x32,(⟨#[117,110,104,101,108,100]⟩:ByteArray)⟩:ai)]:List ai)).bind fun x35=>
   lY j_0 x18 x35)
   else (lY j_0 x18 ([]:List ai))
noncomputable def BJ (j_0:fM) (MS:Int):Option ((List ai)×Int):=
 (CP j_0).bind fun x7=>
   if x7=true then
   (if MS=1 then
   ((DY j_0).bind fun x13=>
   some (x13,0))
   else (if MS=2 then
   ((EZ j_0).bind fun x17=>
   some (x17,0))
   else (if MS=3 then
   ((G7 j_0).bind fun x21=>
   some (x21,0))
   else ((wL j_0).bind fun x23=>
   some (x23,0)))))
   else (some (([]:List ai),1))
noncomputable def mQ (j_0:fM):Option ((List ai)×Int):=
 (BJ j_0 4).bind fun x4=>
   some (x4.1,x4.2)
noncomputable def bg (n_0:Int) (Et:Int) (zx:Int):Option Bool:=
 some ((decide (n_0≥Et))&&(decide (n_0≤zx)))
noncomputable def dR (s_0:(List ae)) (v_1:ae) (dA:Int):Option (Int ⊕ (Unit ⊕ Int)):=
 if dA< (s_0.length:Int) then
  ((rd s_0 dA).bind fun x14=>
  if (v_1.X=x14.X∧v_1.Y=x14.Y) then
  (some (.inr (.inr dA)))
  else (some (.inl (w64 (dA+1)))))
  else (some (.inr (.inl ())))
noncomputable def gI (s_0:(List ae)) (v_1:ae):Option Int:=
 (aT (dR s_0 v_1) 0).bind fun o=>match o with
   | (.inl _)=>(some (-1))
   | (.inr r2)=>(some r2)
noncomputable def dS (s_0:(List ae)) (v_1:ae):Option Bool:=
 (gI s_0 v_1).bind fun x7=>
   some (decide (x7≥0))
noncomputable def uD (s_0:ByteArray) (eH:Int):Option (Int ⊕ (Unit ⊕ Bool)):=
 if eH< (s_0.size:Int) then
  ((bt s_0 eH).bind fun x30=>
  (if x30<97 then
  ((bt s_0 eH).bind fun x41=>
  if x41<48 then
  (some true)
  else ((bt s_0 eH).bind fun x46=>
  some (decide (x46>57))))
  else ((bt s_0 eH).bind fun x35=>
  if x35>122 then
  ((bt s_0 eH).bind fun x41=>
  if x41<48 then
  (some true)
  else ((bt s_0 eH).bind fun x46=>
  some (decide (x46>57))))
  else (some false))).bind fun ET=>
  if ET=true then
  (some (.inr (.inr false)))
  else (some (.inl (w64 (eH+1)))))
  else (some (.inr (.inl ())))
noncomputable def uF (s_0:ByteArray):Option Bool:=
 (if (s_0.size:Int) <1 then
   (some true)
   else (if (s_0.size:Int) >10 then
   (some true)
   else ((bt s_0 0).bind fun x14=>
   if x14<97 then
   (some true)
   else ((bt s_0 0).bind fun x19=>
   some (decide (x19>122)))))).bind fun Vl=>
   if Vl=true then
   (some false)
   else ((aT (uD s_0) 0).bind fun o=>match o with
   | (.inl _)=>(some true)
   | (.inr r2)=>(some r2))
noncomputable def o5 (yJ:(List ae)) (mG:(List Int)) (s:(Int×(List ae))):Option ((Int×(List ae)) ⊕ ((List ae) ⊕ ((List ae)×Bool))):=
 match s with
  | (IQ,nG)=>
  if IQ< (mG.length:Int) then
  ((rd mG IQ).bind fun x14=>
  (bg x14 0 (w64 ((yJ.length:Int) - 1))).bind fun x20=>
  if x20=true then
  ((rd yJ x14).bind fun x25=>
  (apd 16 nG ([x25]:List ae)).bind fun x28=>
  some (.inl ((w64 (IQ+1)),x28)))
  else (some (.inr (.inr (([]:List ae),false)))))
  else (some (.inr (.inl nG)))
noncomputable def gW (yJ:(List ae)) (mG:(List Int)):Option ((List ae)×Bool):=
 (aT (o5 yJ mG) (0,([]:List ae))).bind fun o=>match o with
   | (.inl kP)=>(some (kP,true))
   | (.inr r2)=>(some r2)
noncomputable def rH (p_0:ae):Option Bool:=
 (bg p_0.X 0 20000).bind fun x5=>
   (if x5=true then
   ((bg p_0.Y 0 20000).bind fun x9=>
   some x9)
   else (some false)).bind fun fD=>
   some fD
noncomputable def gZ (aP:(List ae)) (jf:Int):Option (Int ⊕ (Unit ⊕ Bool)):=
 if jf< (aP.length:Int) then
  ((rd aP jf).bind fun x9=>
  (rH x9).bind fun x12=>
  if x12=true then
  (some (.inl (w64 (jf+1))))
  else (some (.inr (.inr false))))
  else (some (.inr (.inl ())))
noncomputable def vH (aP:(List ae)):Option Bool:=
 (aT (gZ aP) 0).bind fun o=>match o with
   | (.inl _)=>(some true)
   | (.inr r2)=>(some r2)
noncomputable def pO (a_0:ae) (b_1:ae) (c_2:ae):Option Int:=
 if (w64 ((w64 ((w64 (b_1.X - a_0.X)) * (w64 (c_2.Y - a_0.Y)))) - (w64 ((w64 (b_1.Y - a_0.Y)) * (w64 (c_2.X - a_0.X)))))) >0 then
  (some 1)
  else (if (w64 ((w64 ((w64 (b_1.X - a_0.X)) * (w64 (c_2.Y - a_0.Y)))) - (w64 ((w64 (b_1.Y - a_0.Y)) * (w64 (c_2.X - a_0.X)))))) <0 then
  (some (-1))
  else (some 0))
noncomputable def wW (a_0:ae) (b_1:ae) (p_2:ae):Option Bool:=
 (pO a_0 b_1 p_2).bind fun x10=>
   (if x10=0 then
   ((bg p_2.X (min2 a_0.X b_1.X) (max2 a_0.X b_1.X)).bind fun x25=>
   if x25=true then
   ((bg p_2.Y (min2 a_0.Y b_1.Y) (max2 a_0.Y b_1.Y)).bind fun x40=>
   some x40)
   else (some false))
   else (some false)).bind fun fP=>
   some fP
noncomputable def oM (a_0:ae) (b_1:ae) (c_2:ae) (d_3:ae):Option Bool:=
 (pO a_0 b_1 c_2).bind fun x12=>
   (pO a_0 b_1 d_3).bind fun x16=>
   (if (w64 (x12*x16)) <0 then
   ((pO c_2 d_3 a_0).bind fun x23=>
   (pO c_2 d_3 b_1).bind fun x27=>
   some (decide ((w64 (x23*x27)) <0)))
   else (some false)).bind fun xw=>
   some xw
noncomputable def oN (a_0:ae) (b_1:ae) (c_2:ae) (d_3:ae):Option Bool:=
 (oM a_0 b_1 c_2 d_3).bind fun x13=>
   (if x13=true then
   (some true)
   else ((wW a_0 b_1 c_2).bind fun x18=>
   if x18=true then
   (some true)
   else ((wW a_0 b_1 d_3).bind fun x24=>
   if x24=true then
   (some true)
   else ((wW c_2 d_3 a_0).bind fun x30=>
   if x30=true then
   (some true)
   else ((wW c_2 d_3 b_1).bind fun x36=>
   some x36))))).bind fun xw=>
   some xw
noncomputable def rJ (p_0:(List ae)) (s:(Int×Int)):Option ((Int×Int) ⊕ Int):=
 match s with
  | (mJ,DZ)=>
  if DZ< (p_0.length:Int) then
  ((rd p_0 DZ).bind fun x12=>
  (md (w64 (DZ+1)) (p_0.length:Int)).bind fun x19=>
  (rd p_0 x19).bind fun x20=>
  some (.inl ((w64 (mJ+(w64 ((w64 (x12.X*x20.Y)) - (w64 (x12.Y*x20.X)))))),(w64 (DZ+1)))))
  else (some (.inr mJ))
noncomputable def qO (p_0:(List ae)):Option Int:=
 (aT (rJ p_0) (0,0)).bind fun qM=>
   some qM
noncomputable def ig (p_0:(List ae)) (kE:Int) (x29:ae) (x36:ae) (BK:Int):Option (Int ⊕ (Unit ⊕ Bool)):=
 if BK< (p_0.length:Int) then
  ((md (w64 (BK+1)) (p_0.length:Int)).bind fun x70=>
  (if x70≠kE then
  ((rd p_0 BK).bind fun x78=>
  (md (w64 (BK+1)) (p_0.length:Int)).bind fun x84=>
  (rd p_0 x84).bind fun x85=>
  (oN x29 x36 x78 x85).bind fun x87=>
  some x87)
  else (some false)).bind fun QC=>
  if QC=true then
  (some (.inr (.inr false)))
  else (some (.inl (w64 (BK+1)))))
  else (some (.inr (.inl ())))
noncomputable def iF (p_0:(List ae)) (kE:Int):Option (Int ⊕ (Unit ⊕ Bool)):=
 if kE< (p_0.length:Int) then
  ((rd p_0 kE).bind fun x29=>
  (md (w64 (kE+1)) (p_0.length:Int)).bind fun x35=>
  (rd p_0 x35).bind fun x36=>
  (md (w64 (kE+2)) (p_0.length:Int)).bind fun x42=>
  (rd p_0 x42).bind fun x43=>
  (if (x29.X=x36.X∧x29.Y=x36.Y) then
  (some true)
  else ((wW x29 x36 x43).bind fun x52=>
  if x52=true then
  (some true)
  else ((wW x36 x43 x29).bind fun x58=>
  some x58))).bind fun Vm=>
  if Vm=true then
  (some (.inr (.inr false)))
  else ((aT (ig p_0 kE x29 x36) (w64 (kE+2))).bind fun o=>match o with
  | (.inl _)=>(some (.inl (w64 (kE+1))))
  | (.inr r2)=>(some (.inr (.inr r2)))))
  else (some (.inr (.inl ())))
noncomputable def nP (p_0:(List ae)):Option Bool:=
 (if (p_0.length:Int) <3 then
   (some true)
   else (if (p_0.length:Int) >24 then
   (some true)
   else ((vH p_0).bind fun x19=>
   some (!x19)))).bind fun Vo=>
   if Vo=true then
   (some false)
   else ((aT (iF p_0) 0).bind fun o=>match o with
   | (.inl _)=>((qO p_0).bind fun x91=>
   some (decide (x91>0)))
   | (.inr r2)=>(some r2))
noncomputable def iV (d_0:aB) (rM:Int):Option (Int ⊕ (Unit ⊕ Bool)):=
 if rM< (d_0.aG.length:Int) then
  ((rd d_0.aG rM).bind fun x68=>
  (uF x68.Name).bind fun x72=>
  (if x72=true then
  (if rM>0 then
  ((rd d_0.aG (w64 (rM - 1))).bind fun x82=>
  some (!Op.bytesLess x82.Name.toList x68.Name.toList))
  else (some false))
  else (some true)).bind fun QD=>
  if QD=true then
  (some (.inr (.inr false)))
  else ((gW d_0.bG x68.Ring).bind fun x95=>
  (if x95.2=true then
  ((nP x95.1).bind fun x102=>
  some (!x102))
  else (some true)).bind fun MV=>
  if MV=true then
  (some (.inr (.inr false)))
  else (some (.inl (w64 (rM+1))))))
  else (some (.inr (.inl ())))
noncomputable def jm (d_0:aB) (zW:Int):Option (Int ⊕ (Unit ⊕ Bool)):=
 if zW< (d_0.bG.length:Int) then
  ((rd d_0.bG zW).bind fun x37=>
  (bg x37.X 0 d_0.Width).bind fun x43=>
  (if x43=true then
  ((bg x37.Y 0 d_0.Height).bind fun x50=>
  if x50=true then
  ((slc d_0.bG 0 zW).bind fun x57=>
  (dS x57 x37).bind fun x59=>
  some x59)
  else (some true))
  else (some true)).bind fun Vp=>
  if Vp=true then
  (some (.inr (.inr false)))
  else (some (.inl (w64 (zW+1)))))
  else (some (.inr (.inl ())))
noncomputable def iQ (d_0:aB):Option Bool:=
 (bg d_0.Width 10 20000).bind fun x11=>
   (if x11=true then
   ((bg d_0.Height 10 20000).bind fun x16=>
   if x16=true then
   (if (d_0.bG.length:Int) >48 then
   (some true)
   else (some (decide ((d_0.aG.length:Int) >24))))
   else (some true))
   else (some true)).bind fun Vq=>
   if Vq=true then
   (some false)
   else ((aT (jm d_0) 0).bind fun o=>match o with
   | (.inl _)=>((aT (iV d_0) 0).bind fun o=>match o with
   | (.inl _)=>(some true)
   | (.inr r2)=>(some r2))
   | (.inr r2)=>(some r2))
noncomputable def pR (jV:ByteArray):Option (Int×Int×Int×Int):=
 if jV=(⟨#[97,115,104]⟩:ByteArray) then
  (some (20,40,310,0))
  else (if jV=(⟨#[98,101,101,99,104]⟩:ByteArray) then
  (some (35,45,410,0))
  else (if jV=(⟨#[98,105,114,99,104]⟩:ByteArray) then
  (some (15,33,280,0))
  else (if jV=(⟨#[99,104,101,114,114,121]⟩:ByteArray) then
  (some (50,36,240,0))
  else (if jV=(⟨#[101,98,111,110,121]⟩:ByteArray) then
  (some (95,85,270,0))
  else (if jV=(⟨#[104,111,108,108,121]⟩:ByteArray) then
  (some (5,35,370,0))
  else (if jV=(⟨#[109,97,112,108,101]⟩:ByteArray) then
  (some (10,42,290,0))
  else (if jV=(⟨#[111,97,107]⟩:ByteArray) then
  (some (40,40,330,0))
  else (if jV=(⟨#[114,111,115,101,119,111,111,100]⟩:ByteArray) then
  (some (80,60,220,0))
  else (if jV=(⟨#[119,97,108,110,117,116]⟩:ByteArray) then
  (some (70,38,260,0))
  else (some (0,0,0,3)))))))))))
noncomputable def jw (jV:ByteArray):Option (Int×Bool):=
 (pR jV).bind fun x10=>
   some (x10.1,(x10.2.2.2==0))
noncomputable def jY (v_0:aI):Option Bool:=
 (jw v_0.jr).bind fun x8=>
   (if x8.2=true then
   ((bg v_0.iK 0 100).bind fun x15=>
   if x15=true then
   ((bg (w64 (v_0.iK - x8.1)) (-15) 15).bind fun x22=>
   if x22=true then
   ((bg v_0.Bl 0 179).bind fun x27=>
   some x27)
   else (some false))
   else (some false))
   else (some false)).bind fun YR=>
   some YR
noncomputable def iG (v_0:aI):Option Bool:=
 (jY v_0).bind fun x4=>
   some (!x4)
noncomputable def dD (f_1:(aI→Option Bool)) (s_0:(List aI)) (dA:Int):Option (Int ⊕ (Unit ⊕ Int)):=
 if dA< (s_0.length:Int) then
  ((rd s_0 dA).bind fun x14=>
  (f_1 x14).bind fun x16=>
  if x16=true then
  (some (.inr (.inr dA)))
  else (some (.inl (w64 (dA+1)))))
  else (some (.inr (.inl ())))
noncomputable def fE (s_0:(List aI)) (f_1:(aI→Option Bool)):Option Int:=
 (aT (dD f_1 s_0) 0).bind fun o=>match o with
   | (.inl _)=>(some (-1))
   | (.inr r2)=>(some r2)
noncomputable def eu (s_0:(List aI)) (f_1:(aI→Option Bool)):Option Bool:=
 (fE s_0 f_1).bind fun x7=>
   some (decide (x7≥0))
noncomputable def nR (aP:(List aI)):Option Bool:=
 (eu aP (fun a0=>iG a0)).bind fun x4=>
   some (!x4)
noncomputable def kV (p_0:dJ):Option Bool:=
 (iQ p_0.az).bind fun x5=>
   (if x5=true then
   (if (p_0.dM.length:Int)=(p_0.az.aG.length:Int) then
   ((nR p_0.dM).bind fun x19=>
   some x19)
   else (some false))
   else (some false)).bind fun fD=>
   some fD
noncomputable def mV (b_0:dn) (yE:Int) (uz:Int):Option Bool:=
 (bg b_0.X 0 yE).bind fun x10=>
   (if x10=true then
   ((bg b_0.Y 0 uz).bind fun x15=>
   if x15=true then
   ((bg b_0.Width 1 (w64 (yE - b_0.X))).bind fun x24=>
   if x24=true then
   ((bg b_0.Length 1 (w64 (uz - b_0.Y))).bind fun x33=>
   some x33)
   else (some false))
   else (some false))
   else (some false)).bind fun fP=>
   some fP
noncomputable def iT (b_0:dn) (sW:ByteArray) (YS:ByteArray) (YT:Int) (YU:ByteArray) (YV:Int) (YW:Int) (Vr:Int) (Vs:Int) (YX:(List dn)):Option Bool:=
 (mV b_0 Vr Vs).bind fun x9=>
   some (!x9)
noncomputable def dV (f_1:(dn→Option Bool)) (s_0:(List dn)) (dA:Int):Option (Int ⊕ (Unit ⊕ Int)):=
 if dA< (s_0.length:Int) then
  ((rd s_0 dA).bind fun x14=>
  (f_1 x14).bind fun x16=>
  if x16=true then
  (some (.inr (.inr dA)))
  else (some (.inl (w64 (dA+1)))))
  else (some (.inr (.inl ())))
noncomputable def gJ (s_0:(List dn)) (f_1:(dn→Option Bool)):Option Int:=
 (aT (dV f_1 s_0) 0).bind fun o=>match o with
   | (.inl _)=>(some (-1))
   | (.inr r2)=>(some r2)
noncomputable def dW (s_0:(List dn)) (f_1:(dn→Option Bool)):Option Bool:=
 (gJ s_0 f_1).bind fun x7=>
   some (decide (x7≥0))
noncomputable def uG (l_0:bU):Option Bool:=
 (uF l_0.Id).bind fun x5=>
   (if x5=true then
   ((uF l_0.lM).bind fun x10=>
   if x10=true then
   ((bg l_0.Number 0 999).bind fun x16=>
   if x16=true then
   ((jY l_0.jL).bind fun x22=>
   some (!x22))
   else (some true))
   else (some true))
   else (some true)).bind fun Vt=>
   if Vt=true then
   (some false)
   else ((bg l_0.Width 10 20000).bind fun x27=>
   (if x27=true then
   ((bg l_0.Length 10 20000).bind fun x32=>
   if x32=true then
   (some (decide ((l_0.fU.length:Int) >6)))
   else (some true))
   else (some true)).bind fun Vu=>
   if Vu=true then
   (some false)
   else ((dW l_0.fU (fun a0=>iT a0 l_0.Id l_0.lM l_0.Number l_0.jL.jr l_0.jL.iK l_0.jL.Bl l_0.Width l_0.Length l_0.fU)).bind fun x44=>
   some (!x44)))
noncomputable def lF (aP:(List bU)) (jf:Int):Option (Int ⊕ (Unit ⊕ Bool)):=
 if jf< (aP.length:Int) then
  ((rd aP jf).bind fun x10=>
  (uG x10).bind fun x13=>
  (if x13=true then
  (if jf>0 then
  ((rd aP (w64 (jf - 1))).bind fun x22=>
  some (!Op.bytesLess x22.Id.toList x10.Id.toList))
  else (some false))
  else (some true)).bind fun Fa=>
  if Fa=true then
  (some (.inr (.inr false)))
  else (some (.inl (w64 (jf+1)))))
  else (some (.inr (.inl ())))
noncomputable def pV (aP:(List bU)):Option Bool:=
 (aT (lF aP) 0).bind fun o=>match o with
   | (.inl _)=>(some (decide ((aP.length:Int)≤16)))
   | (.inr r2)=>(some r2)
noncomputable def iP (p_0:ak):Option Bool:=
 (bg p_0.nI 0 23).bind fun x5=>
   (if x5=true then
   ((bg p_0.OJ 0 15).bind fun x9=>
   if x9=true then
   ((bg p_0.X 0 20000).bind fun x14=>
   if x14=true then
   ((bg p_0.Y 0 20000).bind fun x19=>
   if x19=true then
   ((bg p_0.Turn 0 7).bind fun x24=>
   some x24)
   else (some false))
   else (some false))
   else (some false))
   else (some false)).bind fun fD=>
   some fD
noncomputable def iD (aP:(List ak)) (jf:Int):Option (Int ⊕ (Unit ⊕ Bool)):=
 if jf< (aP.length:Int) then
  ((rd aP jf).bind fun x10=>
  (iP x10).bind fun x13=>
  (if x13=true then
  (if jf>0 then
  ((rd aP (w64 (jf - 1))).bind fun x22=>
  some (decide (x22.nI≥x10.nI)))
  else (some false))
  else (some true)).bind fun Fa=>
  if Fa=true then
  (some (.inr (.inr false)))
  else (some (.inl (w64 (jf+1)))))
  else (some (.inr (.inl ())))
noncomputable def kQ (aP:(List ak)):Option Bool:=
 (aT (iD aP) 0).bind fun o=>match o with
   | (.inl _)=>(some (decide ((aP.length:Int)≤24)))
   | (.inr r2)=>(some r2)
noncomputable def rO (r_0:jv):Option Bool:=
 (bg r_0.kD 0 500).bind fun x5=>
   (if x5=true then
   ((bg r_0.o8 0 500).bind fun x9=>
   if x9=true then
   ((bg r_0.yg 0 90).bind fun x14=>
   if x14=true then
   ((bg r_0.iK 0 100).bind fun x19=>
   some x19)
   else (some false))
   else (some false))
   else (some false)).bind fun fD=>
   some fD
noncomputable def iw (s_0:(List Int)) (v_1:Int) (dA:Int):Option (Int ⊕ (Unit ⊕ Int)):=
 if dA< (s_0.length:Int) then
  ((rd s_0 dA).bind fun x14=>
  if v_1=x14 then
  (some (.inr (.inr dA)))
  else (some (.inl (w64 (dA+1)))))
  else (some (.inr (.inl ())))
noncomputable def kF (s_0:(List Int)) (v_1:Int):Option Int:=
 (aT (iw s_0 v_1) 0).bind fun o=>match o with
   | (.inl _)=>(some (-1))
   | (.inr r2)=>(some r2)
noncomputable def dK (s_0:(List Int)) (v_1:Int):Option Bool:=
 (kF s_0 v_1).bind fun x7=>
   some (decide (x7≥0))
noncomputable def eP (aP:(List Int)) (n_1:Int) (Hg:Int):Option (Int ⊕ (Unit ⊕ Bool)):=
 if Hg< (aP.length:Int) then
  ((rd aP Hg).bind fun x12=>
  (bg x12 0 (w64 (n_1 - 1))).bind fun x17=>
  (if x17=true then
  ((slc aP 0 Hg).bind fun x22=>
  (dK x22 x12).bind fun x24=>
  some x24)
  else (some true)).bind fun Vw=>
  if Vw=true then
  (some (.inr (.inr false)))
  else (some (.inl (w64 (Hg+1)))))
  else (some (.inr (.inl ())))
noncomputable def iH (aP:(List Int)) (n_1:Int):Option Bool:=
 (aT (eP aP n_1) 0).bind fun o=>match o with
   | (.inl _)=>(some true)
   | (.inr r2)=>(some r2)
noncomputable def lV (j_0:fM):Option Bool:=
 (kV j_0.aS).bind fun x7=>
   (if x7=true then
   ((pV j_0.Leaves).bind fun x12=>
   if x12=true then
   ((kQ j_0.bP).bind fun x18=>
   if x18=true then
   ((rO j_0.yh).bind fun x24=>
   some (!x24))
   else (some true))
   else (some true))
   else (some true)).bind fun Vx=>
   if Vx=true then
   (some false)
   else ((if (j_0.bP.length:Int) >0 then
   ((rd j_0.bP (w64 ((j_0.bP.length:Int) - 1))).bind fun x41=>
   some (decide (x41.nI≥(j_0.aS.dM.length:Int))))
   else (some false)).bind fun Vy=>
   if Vy=true then
   (some false)
   else ((bg j_0.jk 1 1000).bind fun x49=>
   (if x49=true then
   ((bg j_0.Jb 0 200).bind fun x53=>
   if x53=true then
   ((bg j_0.Ci 0 30).bind fun x58=>
   if x58=true then
   ((bg j_0.Gap 0 200).bind fun x63=>
   if x63=true then
   ((iH j_0.Order (j_0.aS.dM.length:Int)).bind fun x69=>
   some x69)
   else (some false))
   else (some false))
   else (some false))
   else (some false)).bind fun YY=>
   some YY))
noncomputable def nS (lq:(List Int)) (s:(Int×(List bW))):Option ((Int×(List bW)) ⊕ (List bW)):=
 match s with
  | (Fb,aV)=>
  if Fb< (lq.length:Int) then
  ((rd lq Fb).bind fun x13=>
  (md (w64 (Fb+1)) (lq.length:Int)).bind fun x20=>
  (rd lq x20).bind fun x21=>
  (apd 16 aV ([(⟨(min2 x13 x21),(max2 x13 x21)⟩:bW)]:List bW)).bind fun x32=>
  some (.inl ((w64 (Fb+1)),x32)))
  else (some (.inr aV))
noncomputable def uH (lq:(List Int)):Option (List bW):=
 (aT (nS lq) (0,([]:List bW))).bind fun bH=>
   some bH
noncomputable def fV (s_0:(List bW)) (v_1:bW) (dA:Int):Option (Int ⊕ (Unit ⊕ Int)):=
 if dA< (s_0.length:Int) then
  ((rd s_0 dA).bind fun x14=>
  if (v_1.e0=x14.e0∧v_1.e1=x14.e1) then
  (some (.inr (.inr dA)))
  else (some (.inl (w64 (dA+1)))))
  else (some (.inr (.inl ())))
noncomputable def jb (s_0:(List bW)) (v_1:bW):Option Int:=
 (aT (fV s_0 v_1) 0).bind fun o=>match o with
   | (.inl _)=>(some (-1))
   | (.inr r2)=>(some r2)
noncomputable def fZ (s_0:(List bW)) (v_1:bW):Option Bool:=
 (jb s_0 v_1).bind fun x7=>
   some (decide (x7≥0))
noncomputable def jg (e_0:bW) (sW:(List (List bW))) (Vz:Int):Option Bool:=
 (rd sW Vz).bind fun x7=>
   (fZ x7 e_0).bind fun x10=>
   some x10
noncomputable def eY (f_1:(bW→Option Bool)) (s_0:(List bW)) (dA:Int):Option (Int ⊕ (Unit ⊕ Int)):=
 if dA< (s_0.length:Int) then
  ((rd s_0 dA).bind fun x14=>
  (f_1 x14).bind fun x16=>
  if x16=true then
  (some (.inr (.inr dA)))
  else (some (.inl (w64 (dA+1)))))
  else (some (.inr (.inl ())))
noncomputable def iy (s_0:(List bW)) (f_1:(bW→Option Bool)):Option Int:=
 (aT (eY f_1 s_0) 0).bind fun o=>match o with
   | (.inl _)=>(some (-1))
   | (.inr r2)=>(some r2)
noncomputable def fA (s_0:(List bW)) (f_1:(bW→Option Bool)):Option Bool:=
 (iy s_0 f_1).bind fun x7=>
   some (decide (x7≥0))
noncomputable def lG (jo:Int) (CU:(List (List Int))):Option ((Int×(List (List Int))) ⊕ (List (List Int))):=
 some (.inl ((w64 (jo+1)),CU))
noncomputable def lH (bJ:(List (List bW))) (jc:Int) (s:(Int×(List (List Int)))):Option ((Int×(List (List Int))) ⊕ (List (List Int))):=
 match s with
  | (jo,jZ)=>
  if jo< (bJ.length:Int) then
  ((if jc≠jo then
  ((rd bJ jc).bind fun x43=>
  (fA x43 (fun a0=>jg a0 bJ jo)).bind fun x46=>
  some x46)
  else (some false)).bind fun QE=>
  if QE=true then
  ((rd jZ jc).bind fun x52=>
  (apd 8 x52 ([jo]:List Int)).bind fun x56=>
  (rd jZ jc).bind fun x57=>
  lG jo (jZ.set jc.toNat x56))
  else (lG jo jZ))
  else (some (.inr jZ))
noncomputable def mW (bJ:(List (List bW))) (s:(Int×(List (List Int)))):Option ((Int×(List (List Int))) ⊕ (List (List Int))):=
 match s with
  | (jc,EC)=>
  if jc< (bJ.length:Int) then
  ((aT (lH bJ jc) (0,EC)).bind fun BL=>
  some (.inl ((w64 (jc+1)),BL)))
  else (some (.inr EC))
noncomputable def mX (d_0:aB) (s:(Int×(List (List bW)))):Option ((Int×(List (List bW))) ⊕ (List (List bW))):=
 match s with
  | (DK,xM)=>
  if DK< (d_0.aG.length:Int) then
  ((rd d_0.aG DK).bind fun x15=>
  (uH x15.Ring).bind fun x20=>
  (apd 24 xM ([x20]:List (List bW))).bind fun x22=>
  some (.inl ((w64 (DK+1)),x22)))
  else (some (.inr xM))
noncomputable def rP (d_0:aB):Option (List (List Int)):=
 (aT (mX d_0) (0,([]:List (List bW)))).bind fun bJ=>
   (mkl 24 (bJ.length:Int) ([]:List Int)).bind fun x26=>
   (aT (mW bJ) (0,x26)).bind fun DL=>
   some DL
noncomputable def pY (d_0:aB) (k_1:Int):Option (List ae):=
 (rd d_0.aG k_1).bind fun x13=>
   (gW d_0.bG x13.Ring).bind fun x16=>
   some x16.1
noncomputable def qc (o6:Int) (yK:(List Bool)):Option ((Int×(List Bool)) ⊕ (List Bool)):=
 some (.inl ((w64 (o6+1)),yK))
noncomputable def rQ (d_0:aB) (jP:Int) (x24:(List ae)) (s:(Int×(List Bool))):Option ((Int×(List Bool)) ⊕ (List Bool)):=
 match s with
  | (o6,jI)=>
  if o6< (x24.length:Int) then
  ((rd x24 o6).bind fun x30=>
  (md (w64 (o6+1)) (x24.length:Int)).bind fun x37=>
  (rd x24 x37).bind fun x38=>
  (if x30.X=x38.X then
  (if x30.X=0 then
  (some true)
  else (if x30.X=d_0.Width then
  (some true)
  else (if x30.Y=x38.Y then
  (if x30.Y=0 then
  (some true)
  else (some (x30.Y==d_0.Height)))
  else (some false))))
  else (if x30.Y=x38.Y then
  (if x30.Y=0 then
  (some true)
  else (some (x30.Y==d_0.Height)))
  else (some false))).bind fun QF=>
  if QF=true then
  ((rd jI jP).bind fun x79=>
  qc o6 (jI.set jP.toNat true))
  else (qc o6 jI))
  else (some (.inr jI))
noncomputable def rU (d_0:aB) (s:(Int×(List Bool))):Option ((Int×(List Bool)) ⊕ (List Bool)):=
 match s with
  | (jP,Ar)=>
  if jP< (d_0.aG.length:Int) then
  ((pY d_0 jP).bind fun x24=>
  (aT (rQ d_0 jP x24) (0,Ar)).bind fun zX=>
  some (.inl ((w64 (jP+1)),zX)))
  else (some (.inr Ar))
noncomputable def yL (d_0:aB):Option eG:=
 (rP d_0).bind fun x10=>
   (mkl 1 (d_0.aG.length:Int) false).bind fun x14=>
   (aT (rU d_0) (0,x14)).bind fun zY=>
   some (⟨x10,zY⟩:eG)
noncomputable def jH (m_0:Int) (sW:(List Int)):Option Bool:=
 (dK sW m_0).bind fun x6=>
   some x6
noncomputable def eU (f_1:(Int→Option Bool)) (s_0:(List Int)) (dA:Int):Option (Int ⊕ (Unit ⊕ Int)):=
 if dA< (s_0.length:Int) then
  ((rd s_0 dA).bind fun x14=>
  (f_1 x14).bind fun x16=>
  if x16=true then
  (some (.inr (.inr dA)))
  else (some (.inl (w64 (dA+1)))))
  else (some (.inr (.inl ())))
noncomputable def fH (s_0:(List Int)) (f_1:(Int→Option Bool)):Option Int:=
 (aT (eU f_1 s_0) 0).bind fun o=>match o with
   | (.inl _)=>(some (-1))
   | (.inr r2)=>(some r2)
noncomputable def dh (s_0:(List Int)) (f_1:(Int→Option Bool)):Option Bool:=
 (fH s_0 f_1).bind fun x7=>
   some (decide (x7≥0))
noncomputable def rV (s_0:eG) (dw:(List Int)) (k_2:Int):Option Bool:=
 (if (dw.length:Int)=0 then
   (some true)
   else ((rd s_0.near k_2).bind fun x14=>
   (dh x14 (fun a0=>jH a0 dw)).bind fun x17=>
   some x17)).bind fun fP=>
   some fP
noncomputable def iI (m_0:Int) (sW:(List Int)):Option Bool:=
 (dK sW m_0).bind fun x6=>
   some (!x6)
noncomputable def mY (s_0:eG) (dw:(List Int)) (k_2:Int):Option Bool:=
 (rd s_0.AU k_2).bind fun x10=>
   (if x10=true then
   (some false)
   else ((rd s_0.near k_2).bind fun x17=>
   (dh x17 (fun a0=>iI a0 dw)).bind fun x20=>
   some (!x20))).bind fun fP=>
   some fP
noncomputable def qf (s_0:eG) (dw:(List Int)) (k_2:Int):Option Int:=
 (rV s_0 dw k_2).bind fun x11=>
   if x11=true then
   ((mY s_0 dw k_2).bind fun x17=>
   if x17=true then
   (some 2)
   else (some 0))
   else (some 1)
noncomputable def jq (dQ:(List Int)) (x23:eG) (zZ:Int):Option (Int ⊕ (Unit ⊕ (Int×Int×Int))):=
 if zZ< (dQ.length:Int) then
  ((rd dQ zZ).bind fun x29=>
  (slc dQ 0 zZ).bind fun x34=>
  (qf x23 x34 x29).bind fun x36=>
  if x36≠0 then
  (some (.inr (.inr (zZ,x36,0))))
  else (some (.inl (w64 (zZ+1)))))
  else (some (.inr (.inl ())))
noncomputable def tH (d_0:aB) (dQ:(List Int)):Option (Int×Int×Int):=
 (iQ d_0).bind fun x13=>
   if x13=true then
   ((iH dQ (d_0.aG.length:Int)).bind fun x20=>
   if x20=true then
   ((yL d_0).bind fun x23=>
   (aT (jq dQ x23) 0).bind fun o=>match o with
   | (.inl _)=>(some (0,0,0))
   | (.inr r2)=>(some r2))
   else (some (0,0,7)))
   else (some (0,0,1))
noncomputable def jy (tJ:Int) (CW:(List ai)):Option ((Int×(List ai)) ⊕ (List ai)):=
 some (.inl ((w64 (tJ+1)),CW))
noncomputable def ni (j_0:fM) (s:(Int×(List ai))):Option ((Int×(List ai)) ⊕ (List ai)):=
 match s with
  | (tJ,xN)=>
  if tJ< (j_0.aS.az.aG.length:Int) then
  ((rd j_0.aS.az.aG tJ).bind fun x49=>
  (dK j_0.Order tJ).bind fun x54=>
  if x54=true then
  (jy tJ xN)
  else ((apd 40 xN ([(⟨4,x49.Name,(⟨#[109,105,115,115,105,110,103]⟩:ByteArray)⟩:ai)]:List ai)).bind fun x61=>
  jy tJ x61))
  else (some (.inr xN))
noncomputable def iW (j_0:fM) (ED:(List ai)):Option (List ai):=
 (aT (ni j_0) (0,ED)).bind fun DN=>
   some DN
noncomputable def iY (j_0:fM) (x22:(Int×Int×Int)) (zC:ByteArray):Option (List ai):=
 (rd j_0.Order x22.1).bind fun x35=>
   (rd j_0.aS.az.aG x35).bind fun x37=>
   (apd 40 ([]:List ai) ([(⟨4,x37.Name,zC⟩:ai)]:List ai)).bind fun x43=>
   iW j_0 x43
noncomputable def mZ (j_0:fM):Option (List ai):=
 (tH j_0.aS.az j_0.Order).bind fun x22=>
   if x22.2.1≠0 then
   (if x22.2.1=2 then
   (iY j_0 x22 (⟨#[116,114,97,112,112,101,100]⟩:ByteArray))
   else (iY j_0 x22 (⟨#[117,110,104,101,108,100]⟩:ByteArray)))
   else (iW j_0 ([]:List ai))
noncomputable def ku (j_0:fM):Option ((List ai)×Int):=
 (lV j_0).bind fun x5=>
   if x5=true then
   ((mZ j_0).bind fun x8=>
   some (x8,0))
   else (some (([]:List ai),1))
noncomputable def yM (a_0:ai) (b_1:ai):Option Bool:=
 if a_0.Kind≠b_1.Kind then
  (some false)
  else (if ¬(a_0.Who=b_1.Who) then
  (some false)
  else (if ¬(a_0.What=b_1.What) then
  (some false)
  else (some true)))
noncomputable def qP (a_0:(List ai)) (b_1:(List ai)) (bY:Int):Option (Int ⊕ (Unit ⊕ Bool)):=
 if bY< (a_0.length:Int) then
  ((rd a_0 bY).bind fun x19=>
  (rd b_1 bY).bind fun x23=>
  (yM x19 x23).bind fun x25=>
  if x25=true then
  (some (.inl (w64 (bY+1))))
  else (some (.inr (.inr false))))
  else (some (.inr (.inl ())))
noncomputable def lu (a_0:(List ai)) (b_1:(List ai)):Option Bool:=
 if (a_0.length:Int)≠(b_1.length:Int) then
  (some false)
  else ((aT (qP a_0 b_1) 0).bind fun o=>match o with
  | (.inl _)=>(some true)
  | (.inr r2)=>(some r2))
noncomputable def yN (a_0:ae) (b_1:ae):Option Bool:=
 if a_0.X≠b_1.X then
  (some false)
  else (if a_0.Y≠b_1.Y then
  (some false)
  else (some true))
noncomputable def vI (a_0:(List ae)) (b_1:(List ae)) (bY:Int):Option (Int ⊕ (Unit ⊕ Bool)):=
 if bY< (a_0.length:Int) then
  ((rd a_0 bY).bind fun x19=>
  (rd b_1 bY).bind fun x23=>
  (yN x19 x23).bind fun x25=>
  if x25=true then
  (some (.inl (w64 (bY+1))))
  else (some (.inr (.inr false))))
  else (some (.inr (.inl ())))
noncomputable def wM (a_0:(List ae)) (b_1:(List ae)):Option Bool:=
 if (a_0.length:Int)≠(b_1.length:Int) then
  (some false)
  else ((aT (vI a_0 b_1) 0).bind fun o=>match o with
  | (.inl _)=>(some true)
  | (.inr r2)=>(some r2))
noncomputable def vJ (a_0:(List Int)) (b_1:(List Int)) (bY:Int):Option (Int ⊕ (Unit ⊕ Bool)):=
 if bY< (a_0.length:Int) then
  ((rd a_0 bY).bind fun x19=>
  (rd b_1 bY).bind fun x23=>
  if x19≠x23 then
  (some (.inr (.inr false)))
  else (some (.inl (w64 (bY+1)))))
  else (some (.inr (.inl ())))
noncomputable def oO (a_0:(List Int)) (b_1:(List Int)):Option Bool:=
 if (a_0.length:Int)≠(b_1.length:Int) then
  (some false)
  else ((aT (vJ a_0 b_1) 0).bind fun o=>match o with
  | (.inl _)=>(some true)
  | (.inr r2)=>(some r2))
noncomputable def Au (a_0:bT) (b_1:bT):Option Bool:=
 if ¬(a_0.Name=b_1.Name) then
  (some false)
  else ((oO a_0.Ring b_1.Ring).bind fun x14=>
  if x14=true then
  (some true)
  else (some false))
noncomputable def wX (a_0:(List bT)) (b_1:(List bT)) (bY:Int):Option (Int ⊕ (Unit ⊕ Bool)):=
 if bY< (a_0.length:Int) then
  ((rd a_0 bY).bind fun x19=>
  (rd b_1 bY).bind fun x23=>
  (Au x19 x23).bind fun x25=>
  if x25=true then
  (some (.inl (w64 (bY+1))))
  else (some (.inr (.inr false))))
  else (some (.inr (.inl ())))
noncomputable def yO (a_0:(List bT)) (b_1:(List bT)):Option Bool:=
 if (a_0.length:Int)≠(b_1.length:Int) then
  (some false)
  else ((aT (wX a_0 b_1) 0).bind fun o=>match o with
  | (.inl _)=>(some true)
  | (.inr r2)=>(some r2))
noncomputable def uI (a_0:aB) (b_1:aB):Option Bool:=
 if a_0.Width≠b_1.Width then
  (some false)
  else (if a_0.Height≠b_1.Height then
  (some false)
  else ((wM a_0.bG b_1.bG).bind fun x19=>
  if x19=true then
  ((yO a_0.aG b_1.aG).bind fun x25=>
  if x25=true then
  (some true)
  else (some false))
  else (some false)))
noncomputable def sQ (a_0:aI) (b_1:aI):Option Bool:=
 if ¬(a_0.jr=b_1.jr) then
  (some false)
  else (if a_0.iK≠b_1.iK then
  (some false)
  else (if a_0.Bl≠b_1.Bl then
  (some false)
  else (some true)))
noncomputable def tK (a_0:(List aI)) (b_1:(List aI)) (bY:Int):Option (Int ⊕ (Unit ⊕ Bool)):=
 if bY< (a_0.length:Int) then
  ((rd a_0 bY).bind fun x19=>
  (rd b_1 bY).bind fun x23=>
  (sQ x19 x23).bind fun x25=>
  if x25=true then
  (some (.inl (w64 (bY+1))))
  else (some (.inr (.inr false))))
  else (some (.inr (.inl ())))
noncomputable def uJ (a_0:(List aI)) (b_1:(List aI)):Option Bool:=
 if (a_0.length:Int)≠(b_1.length:Int) then
  (some false)
  else ((aT (tK a_0 b_1) 0).bind fun o=>match o with
  | (.inl _)=>(some true)
  | (.inr r2)=>(some r2))
noncomputable def uK (a_0:dJ) (b_1:dJ):Option Bool:=
 (uI a_0.az b_1.az).bind fun x9=>
   if x9=true then
   ((uJ a_0.dM b_1.dM).bind fun x15=>
   if x15=true then
   (some true)
   else (some false))
   else (some false)
noncomputable def CX (a_0:dn) (b_1:dn):Option Bool:=
 if a_0.X≠b_1.X then
  (some false)
  else (if a_0.Y≠b_1.Y then
  (some false)
  else (if a_0.Width≠b_1.Width then
  (some false)
  else (if a_0.Length≠b_1.Length then
  (some false)
  else (some true))))
noncomputable def yP (a_0:(List dn)) (b_1:(List dn)) (bY:Int):Option (Int ⊕ (Unit ⊕ Bool)):=
 if bY< (a_0.length:Int) then
  ((rd a_0 bY).bind fun x19=>
  (rd b_1 bY).bind fun x23=>
  (CX x19 x23).bind fun x25=>
  if x25=true then
  (some (.inl (w64 (bY+1))))
  else (some (.inr (.inr false))))
  else (some (.inr (.inl ())))
noncomputable def Aw (a_0:(List dn)) (b_1:(List dn)):Option Bool:=
 if (a_0.length:Int)≠(b_1.length:Int) then
  (some false)
  else ((aT (yP a_0 b_1) 0).bind fun o=>match o with
  | (.inl _)=>(some true)
  | (.inr r2)=>(some r2))
noncomputable def Az (a_0:bU) (b_1:bU):Option Bool:=
 if ¬(a_0.Id=b_1.Id) then
  (some false)
  else (if ¬(a_0.lM=b_1.lM) then
  (some false)
  else (if a_0.Number≠b_1.Number then
  (some false)
  else ((sQ a_0.jL b_1.jL).bind fun x24=>
  if x24=true then
  (if a_0.Width≠b_1.Width then
  (some false)
  else (if a_0.Length≠b_1.Length then
  (some false)
  else ((Aw a_0.fU b_1.fU).bind fun x40=>
  if x40=true then
  (some true)
  else (some false))))
  else (some false))))
noncomputable def wY (a_0:(List bU)) (b_1:(List bU)) (bY:Int):Option (Int ⊕ (Unit ⊕ Bool)):=
 if bY< (a_0.length:Int) then
  ((rd a_0 bY).bind fun x19=>
  (rd b_1 bY).bind fun x23=>
  (Az x19 x23).bind fun x25=>
  if x25=true then
  (some (.inl (w64 (bY+1))))
  else (some (.inr (.inr false))))
  else (some (.inr (.inl ())))
noncomputable def yQ (a_0:(List bU)) (b_1:(List bU)):Option Bool:=
 if (a_0.length:Int)≠(b_1.length:Int) then
  (some false)
  else ((aT (wY a_0 b_1) 0).bind fun o=>match o with
  | (.inl _)=>(some true)
  | (.inr r2)=>(some r2))
noncomputable def qg (a_0:ak) (b_1:ak):Option Bool:=
 if a_0.nI≠b_1.nI then
  (some false)
  else (if a_0.OJ≠b_1.OJ then
  (some false)
  else (if a_0.X≠b_1.X then
  (some false)
  else (if a_0.Y≠b_1.Y then
  (some false)
  else (if a_0.Turn≠b_1.Turn then
  (some false)
  else (some true)))))
noncomputable def nU (a_0:(List ak)) (b_1:(List ak)) (bY:Int):Option (Int ⊕ (Unit ⊕ Bool)):=
 if bY< (a_0.length:Int) then
  ((rd a_0 bY).bind fun x19=>
  (rd b_1 bY).bind fun x23=>
  (qg x19 x23).bind fun x25=>
  if x25=true then
  (some (.inl (w64 (bY+1))))
  else (some (.inr (.inr false))))
  else (some (.inr (.inl ())))
noncomputable def nV (a_0:(List ak)) (b_1:(List ak)):Option Bool:=
 if (a_0.length:Int)≠(b_1.length:Int) then
  (some false)
  else ((aT (nU a_0 b_1) 0).bind fun o=>match o with
  | (.inl _)=>(some true)
  | (.inr r2)=>(some r2))
noncomputable def yR (a_0:jv) (b_1:jv):Option Bool:=
 if a_0.kD≠b_1.kD then
  (some false)
  else (if a_0.o8≠b_1.o8 then
  (some false)
  else (if a_0.yg≠b_1.yg then
  (some false)
  else (if a_0.iK≠b_1.iK then
  (some false)
  else (some true))))
noncomputable def CY (a_0:fM) (b_1:fM):Option Bool:=
 (uK a_0.aS b_1.aS).bind fun x9=>
   if x9=true then
   ((yQ a_0.Leaves b_1.Leaves).bind fun x15=>
   if x15=true then
   ((nV a_0.bP b_1.bP).bind fun x21=>
   if x21=true then
   ((yR a_0.yh b_1.yh).bind fun x27=>
   if x27=true then
   (if a_0.jk≠b_1.jk then
   (some false)
   else (if a_0.Jb≠b_1.Jb then
   (some false)
   else (if a_0.Ci≠b_1.Ci then
   (some false)
   else (if a_0.Gap≠b_1.Gap then
   (some false)
   else ((oO a_0.Order b_1.Order).bind fun x53=>
   if x53=true then
   ((oO a_0.G6 b_1.G6).bind fun x59=>
   if x59=true then
   (some true)
   else (some false))
   else (some false))))))
   else (some false))
   else (some false))
   else (some false))
   else (some false)
noncomputable def jS (a_0:(List ae)) (s:(Int×Int)):Option ((Int×Int) ⊕ Int):=
 match s with
  | (bf,aF)=>
  if aF< (a_0.length:Int) then
  ((rd a_0 aF).bind fun x15=>
  (rd a_0 aF).bind fun x22=>
  some (.inl ((w64 ((w64 (bf+1))+1)),(w64 (aF+1)))))
  else (some (.inr bf))
noncomputable def ng (a_0:(List ae)) (k_1:Int):Option Int:=
 (aT (jS a_0) (k_1,0)).bind fun bZ=>
   some bZ
noncomputable def lZ (s:(Int×ByteArray)):Option ((Int×ByteArray) ⊕ ByteArray):=
 match s with
  | (MW,Hl)=>
  if MW>0 then
  ((md MW 10).bind fun x9=>
  (cat (strOf ([(IntKind.wrap .u8 ((w64 (48+x9))))]:List Int)) Hl).bind fun x15=>
  (dv .i64 MW 10).bind fun x17=>
  some (.inl (x17,x15)))
  else (some (.inr Hl))
noncomputable def fQ (k_0:Int):Option ByteArray:=
 if k_0≤0 then
  (some (⟨#[109,48]⟩:ByteArray))
  else ((aT (lZ) (k_0,(⟨#[]⟩:ByteArray))).bind fun Fe=>
  (cat (⟨#[109]⟩:ByteArray) Fe).bind fun x19=>
  some x19)
noncomputable def jT (a_0:(List Int)) (s:(Int×Int)):Option ((Int×Int) ⊕ Int):=
 match s with
  | (bf,aF)=>
  if aF< (a_0.length:Int) then
  ((rd a_0 aF).bind fun x15=>
  some (.inl ((w64 (bf+1)),(w64 (aF+1)))))
  else (some (.inr bf))
noncomputable def jh (a_0:(List Int)) (k_1:Int):Option Int:=
 (aT (jT a_0) (k_1,0)).bind fun bZ=>
   some bZ
noncomputable def nX (a_0:(List bT)) (s:(Int×Int)):Option ((Int×Int) ⊕ Int):=
 match s with
  | (bf,aF)=>
  if aF< (a_0.length:Int) then
  ((fQ bf).bind fun x15=>
  (rd a_0 aF).bind fun x16=>
  (rd a_0 aF).bind fun x22=>
  (jh x22.Ring (w64 (bf+1))).bind fun x26=>
  some (.inl (x26,(w64 (aF+1)))))
  else (some (.inr bf))
noncomputable def uM (a_0:(List bT)) (k_1:Int):Option Int:=
 (aT (nX a_0) (k_1,0)).bind fun bZ=>
   some bZ
noncomputable def qh (a_0:aB) (k_1:Int):Option Int:=
 (ng a_0.bG k_1).bind fun x8=>
   (uM a_0.aG x8).bind fun x12=>
   some x12
noncomputable def jA (a_0:(List aI)) (s:(Int×Int)):Option ((Int×Int) ⊕ Int):=
 match s with
  | (bf,aF)=>
  if aF< (a_0.length:Int) then
  ((fQ bf).bind fun x15=>
  (rd a_0 aF).bind fun x16=>
  (rd a_0 aF).bind fun x23=>
  (rd a_0 aF).bind fun x30=>
  some (.inl ((w64 ((w64 ((w64 (bf+1))+1))+1)),(w64 (aF+1)))))
  else (some (.inr bf))
noncomputable def lI (a_0:(List aI)) (k_1:Int):Option Int:=
 (aT (jA a_0) (k_1,0)).bind fun bZ=>
   some bZ
noncomputable def vK (a_0:dJ) (k_1:Int):Option Int:=
 (qh a_0.az k_1).bind fun x8=>
   (lI a_0.dM x8).bind fun x12=>
   some x12
noncomputable def lJ (a_0:(List dn)) (s:(Int×Int)):Option ((Int×Int) ⊕ Int):=
 match s with
  | (bf,aF)=>
  if aF< (a_0.length:Int) then
  ((rd a_0 aF).bind fun x15=>
  (rd a_0 aF).bind fun x22=>
  (rd a_0 aF).bind fun x29=>
  (rd a_0 aF).bind fun x36=>
  some (.inl ((w64 ((w64 ((w64 ((w64 (bf+1))+1))+1))+1)),(w64 (aF+1)))))
  else (some (.inr bf))
noncomputable def qi (a_0:(List dn)) (k_1:Int):Option Int:=
 (aT (lJ a_0) (k_1,0)).bind fun bZ=>
   some bZ
noncomputable def nY (a_0:(List bU)) (s:(Int×Int)):Option ((Int×Int) ⊕ Int):=
 match s with
  | (bf,aF)=>
  if aF< (a_0.length:Int) then
  ((fQ bf).bind fun x15=>
  (rd a_0 aF).bind fun x16=>
  (fQ (w64 (bf+1))).bind fun x23=>
  (rd a_0 aF).bind fun x24=>
  (rd a_0 aF).bind fun x31=>
  (fQ (w64 ((w64 ((w64 (bf+1))+1))+1))).bind fun x38=>
  (rd a_0 aF).bind fun x39=>
  (rd a_0 aF).bind fun x47=>
  (rd a_0 aF).bind fun x55=>
  (rd a_0 aF).bind fun x63=>
  (rd a_0 aF).bind fun x70=>
  (rd a_0 aF).bind fun x76=>
  (qi x76.fU (w64 ((w64 ((w64 ((w64 ((w64 ((w64 ((w64 ((w64 (bf+1))+1))+1))+1))+1))+1))+1))+1))).bind fun x80=>
  some (.inl (x80,(w64 (aF+1)))))
  else (some (.inr bf))
noncomputable def uN (a_0:(List bU)) (k_1:Int):Option Int:=
 (aT (nY a_0) (k_1,0)).bind fun bZ=>
   some bZ
noncomputable def iL (a_0:(List ak)) (s:(Int×Int)):Option ((Int×Int) ⊕ Int):=
 match s with
  | (bf,aF)=>
  if aF< (a_0.length:Int) then
  ((rd a_0 aF).bind fun x15=>
  (rd a_0 aF).bind fun x22=>
  (rd a_0 aF).bind fun x29=>
  (rd a_0 aF).bind fun x36=>
  (rd a_0 aF).bind fun x43=>
  some (.inl ((w64 ((w64 ((w64 ((w64 ((w64 (bf+1))+1))+1))+1))+1)),(w64 (aF+1)))))
  else (some (.inr bf))
noncomputable def jB (a_0:(List ak)) (k_1:Int):Option Int:=
 (aT (iL a_0) (k_1,0)).bind fun bZ=>
   some bZ
noncomputable def yS (a_0:fM) (k_1:Int):Option Int:=
 (vK a_0.aS k_1).bind fun x8=>
   (uN a_0.Leaves x8).bind fun x12=>
   (jB a_0.bP x12).bind fun x16=>
   (jh a_0.Order x16).bind fun x20=>
   (jh a_0.G6 x20).bind fun x24=>
   some x24
noncomputable def nZ (s:(Int×Int×(List ai))):Option ((Int×Int×(List ai)) ⊕ (Int×(List ai))):=
 match s with
  | (bf,aF,wZ)=>
  if aF< (wZ.length:Int) then
  ((rd wZ aF).bind fun x15=>
  (fQ (w64 (bf+1))).bind fun x22=>
  (rd (wZ.set aF.toNat (⟨bf,x15.Who,x15.What⟩:ai)) aF).bind fun x23=>
  (fQ (w64 ((w64 (bf+1))+1))).bind fun x30=>
  (rd ((wZ.set aF.toNat (⟨bf,x15.Who,x15.What⟩:ai)).set aF.toNat (⟨x23.Kind,x22,x23.What⟩:ai)) aF).bind fun x31=>
  some (.inl ((w64 ((w64 ((w64 (bf+1))+1))+1)),(w64 (aF+1)),(((wZ.set aF.toNat (⟨bf,x15.Who,x15.What⟩:ai)).set aF.toNat (⟨x23.Kind,x22,x23.What⟩:ai)).set aF.toNat (⟨x31.Kind,x31.Who,x30⟩:ai)))))
  else (some (.inr (bf,wZ)))
noncomputable def og (a_0:(List ai)) (k_1:Int):Option (Int×(List ai)):=
 (aT (nZ) (k_1,0,a_0)).bind fun o=>match o with
   | (bZ,EE)=>
   some (bZ,EE)
noncomputable def oh (a_0:(List ai)) (s:(Int×Int)):Option ((Int×Int) ⊕ (Int ⊕ Int)):=
 match s with
  | (bf,aF)=>
  if aF< (a_0.length:Int) then
  ((rd a_0 aF).bind fun x14=>
  if x14.Kind≠bf then
  (some (.inr (.inr (-1))))
  else ((rd a_0 aF).bind fun x23=>
  (fQ (w64 (bf+1))).bind fun x27=>
  if ¬(x23.Who=x27) then
  (some (.inr (.inr (-1))))
  else ((rd a_0 aF).bind fun x33=>
  (fQ (w64 ((w64 (bf+1))+1))).bind fun x37=>
  if ¬(x33.What=x37) then
  (some (.inr (.inr (-1))))
  else (some (.inl ((w64 ((w64 ((w64 (bf+1))+1))+1)),(w64 (aF+1))))))))
  else (some (.inr (.inl bf)))
noncomputable def kW (a_0:(List ai)) (k_1:Int):Option Int:=
 (aT (oh a_0) (k_1,0)).bind fun o=>match o with
   | (.inl bZ)=>(some bZ)
   | (.inr r2)=>(some r2)
noncomputable def jQ (Ff:fM):Option Bool:=
 (Cj Ff 1048576).bind fun x16=>
   if x16<0 then
   (some true)
   else ((uw Ff).bind fun x21=>
   (mQ x21).bind fun x22=>
   (uw Ff).bind fun x26=>
   (ku x26).bind fun x29=>
   (lu x29.1 x22.1).bind fun x34=>
   if (¬(x34=true)∨x29.2≠x22.2) then
   (some false)
   else ((uw Ff).bind fun x43=>
   (CY x26 x43).bind fun x44=>
   if x44=true then
   ((yS x26 1).bind fun x48=>
   (if x48<0 then
   (some true)
   else ((lu x29.1 x22.1).bind fun x54=>
   if x54=true then
   (some (x29.2 != x22.2))
   else (some true))).bind fun QG=>
   if QG=true then
   (some false)
   else ((og x29.1 1).bind fun x64=>
   (kW x64.2 1).bind fun x67=>
   if x67<0 then
   (some false)
   else (if x67≠x64.1 then
   (some false)
   else ((uw Ff).bind fun x75=>
   (ku x75).bind fun x76=>
   (lu x76.1 x22.1).bind fun x81=>
   if (¬(x81=true)∨x76.2≠x22.2) then
   (some false)
   else ((kW x64.2 1).bind fun x90=>
   if x90<0 then
   (some false)
   else (if x90≠x64.1 then
   (some false)
   else (some true)))))))
   else (some false)))
end Go.Pw
