/- Plain functions that answer what the program's functions answer. Conditions: none; definitions alone. -/
import Derived.Test.YtjejfolfomknaaaSimPw
import Derived.Test.YtjejfolfomknaaaSimPt
namespace Go.Pw
open Go.Sim (min2 max2)
set_option linter.unusedVariables false
def Gq (k:IntKind) (a b:Int):Int:=k.wrap (BitVec.ofInt k.bits a &&& BitVec.ofInt k.bits b).toNat
structure jL where
 bC:ByteArray
 aW:Int
 dP:Int
structure bD where
 X:Int
 Y:Int
 Width:Int
 Length:Int
structure ak where
 Id:ByteArray
 gV:ByteArray
 Number:Int
 ai:jL
 Width:Int
 Length:Int
 aK:(List bD)
structure aj where
 code:(List Int)
 at_:Int
 seed:Int
structure aI where
 list:(List ak)
 book:Bool
 left:Int
 found:Bool
 best:(List (List Int))
 least:Int
noncomputable def qU (jv:(List Int)):Option Bool:=
 some (decide ((jv.length:Int) >1048576))
noncomputable def oZ (jv:(List Int)):Option aj:=
 some (⟨jv,0,0⟩:aj)
noncomputable def iP (s_0:aj) (sQ:Int):Option (Int×aj):=
 if (w64 (s_0.at_+1))≤(s_0.code.length:Int) then
  (some (sQ,(⟨s_0.code,(w64 (s_0.at_+1)),(IntKind.wrap .u64 ((IntKind.wrap .u64 ((IntKind.wrap .u64 (s_0.seed*6364136223846793005))+(IntKind.wrap .u64 (sQ))))+1442695040888963407))⟩:aj)))
  else ((shr .u64 (IntKind.wrap .u64 ((IntKind.wrap .u64 ((IntKind.wrap .u64 (s_0.seed*6364136223846793005))+(IntKind.wrap .u64 (sQ))))+1442695040888963407)) 40).bind fun x59=>
  some ((w64 ((Gq .u64 x59 255))),(⟨s_0.code,(w64 (s_0.at_+1)),(IntKind.wrap .u64 ((IntKind.wrap .u64 ((IntKind.wrap .u64 (s_0.seed*6364136223846793005))+(IntKind.wrap .u64 (sQ))))+1442695040888963407))⟩:aj)))
noncomputable def jO (s_0:aj):Option (Int×aj):=
 if s_0.at_< (s_0.code.length:Int) then
  ((rd s_0.code s_0.at_).bind fun x22=>
  iP s_0 (w64 (x22)))
  else (iP s_0 0)
noncomputable def iQ (n_1:Int) (Ii:Int) (yA:(List Int)) (yB:Int) (yC:Int):Option (Int×aj):=
 (md Ii n_1).bind fun x19=>
   some (x19,(⟨yA,yB,yC⟩:aj))
noncomputable def aJ (s_0:aj) (n_1:Int):Option (Int×aj):=
 if n_1≤1 then
  (some (0,s_0))
  else ((jO s_0).bind fun x9=>
  if n_1>200 then
  ((jO x9.2).bind fun x15=>
  iQ n_1 (w64 ((w64 (x9.1*256))+x15.1)) x15.2.code x15.2.at_ x15.2.seed)
  else (iQ n_1 x9.1 x9.2.code x9.2.at_ x9.2.seed))
noncomputable def iw (s_0:aj) (sU:(List ByteArray)):Option (ByteArray×aj):=
 (aJ s_0 (sU.length:Int)).bind fun x9=>
   (rd sU x9.1).bind fun x10=>
   some (x10,x9.2)
noncomputable def tV:Option (List (List Int)):=
 some ([([20,40,310]:List Int),([35,45,410]:List Int),([15,33,280]:List Int),([50,36,240]:List Int),([95,85,270]:List Int),([5,35,370]:List Int),([10,42,290]:List Int),([40,40,330]:List Int),([80,60,220]:List Int),([70,38,260]:List Int)]:List (List Int))
noncomputable def tX:Option (List ByteArray):=
 some ([(⟨#[97,115,104]⟩:ByteArray),(⟨#[98,101,101,99,104]⟩:ByteArray),(⟨#[98,105,114,99,104]⟩:ByteArray),(⟨#[99,104,101,114,114,121]⟩:ByteArray),(⟨#[101,98,111,110,121]⟩:ByteArray),(⟨#[104,111,108,108,121]⟩:ByteArray),(⟨#[109,97,112,108,101]⟩:ByteArray),(⟨#[111,97,107]⟩:ByteArray),(⟨#[114,111,115,101,119,111,111,100]⟩:ByteArray),(⟨#[119,97,108,110,117,116]⟩:ByteArray)]:List ByteArray)
noncomputable def uu (a_0:Int) (b_1:Int):Option Int:=
 if a_0>b_1 then
  (some a_0)
  else (some b_1)
noncomputable def nV (a_0:Int) (b_1:Int):Option Int:=
 if a_0<b_1 then
  (some a_0)
  else (some b_1)
noncomputable def bH (s_0:aj) (sU:(List Int)):Option (Int×aj):=
 (aJ s_0 (sU.length:Int)).bind fun x9=>
   (rd sU x9.1).bind fun x10=>
   some (x10,x9.2)
noncomputable def o5 (s_0:aj):Option (jL×aj):=
 (aJ s_0 10).bind fun x8=>
   (tV).bind fun x9=>
   (rd x9 x8.1).bind fun x11=>
   (rd x11 0).bind fun x13=>
   (aJ x8.2 21).bind fun x16=>
   (tX).bind fun x19=>
   (rd x19 x8.1).bind fun x21=>
   (uu 0 (w64 ((w64 (x13+x16.1)) - 10))).bind fun x24=>
   (nV 100 x24).bind fun x25=>
   (aJ x16.2 180).bind fun x28=>
   (bH x28.2 ([x28.1,x28.1,0,90,45]:List Int)).bind fun x33=>
   some ((⟨x21,x25,x33.1⟩:jL),x33.2)
noncomputable def mO (s_0:aj) (nM:Int) (jV:Int):Option (bD×aj):=
 (aJ s_0 (w64 (nM - 2))).bind fun x11=>
   (aJ x11.2 (w64 (jV - 2))).bind fun x16=>
   (nV 60 (w64 (nM - x11.1))).bind fun x23=>
   (aJ x16.2 x23).bind fun x24=>
   (nV 60 (w64 (jV - x16.1))).bind fun x32=>
   (aJ x24.2 x32).bind fun x33=>
   some ((⟨x11.1,x16.1,(w64 (1+x24.1)),(w64 (1+x33.1))⟩:bD),x33.2)
noncomputable def qg (x18:(Int×aj)) (x22:(Int×aj)) (s:(Int×(List Int)×Int×Int×(List bD))):Option ((Int×(List Int)×Int×Int×(List bD)) ⊕ ((List Int)×Int×Int×(List bD))):=
 match s with
  | (ER,yD,yE,yF,yG)=>
  if ER>0 then
  ((mO (⟨yD,yE,yF⟩:aj) (w64 (100+x18.1)) (w64 (100+x22.1))).bind fun x38=>
  (apd 32 yG ([x38.1]:List bD)).bind fun x40=>
  some (.inl ((w64 (ER - 1)),x38.2.code,x38.2.at_,x38.2.seed,x40)))
  else (some (.inr (yD,yE,yF,yG)))
noncomputable def jI (s_0:aj) (ES:ByteArray):Option (ak×aj):=
 (iw s_0 ([(⟨#[102,49]⟩:ByteArray),(⟨#[102,50]⟩:ByteArray)]:List ByteArray)).bind fun x10=>
   (aJ x10.2 20).bind fun x12=>
   (o5 x12.2).bind fun x15=>
   (aJ x15.2 900).bind fun x18=>
   (aJ x18.2 900).bind fun x22=>
   (aJ x22.2 4).bind fun x26=>
   (dB (qg x18 x22) (x26.1,x26.2.code,x26.2.at_,x26.2.seed,([]:List bD))).bind fun o=>match o with
   | (uw,uy,uz,uA)=>
   some ((⟨ES,x10.1,x12.1,x15.1,(w64 (100+x18.1)),(w64 (100+x22.1)),uA⟩:ak),(⟨uw,uy,uz⟩:aj))
noncomputable def uO (x9:(Int×aj)) (s:(Int×(List Int)×Int×Int×(List ak))):Option ((Int×(List Int)×Int×Int×(List ak)) ⊕ ((List Int)×Int×Int×(List ak))):=
 match s with
  | (CX,yH,yI,yJ,yK)=>
  if CX<x9.1 then
  ((rd ([(⟨#[97]⟩:ByteArray),(⟨#[98]⟩:ByteArray),(⟨#[99]⟩:ByteArray),(⟨#[100]⟩:ByteArray)]:List ByteArray) CX).bind fun x20=>
  (jI (⟨yH,yI,yJ⟩:aj) x20).bind fun x22=>
  (apd 112 yK ([x22.1]:List ak)).bind fun x24=>
  some (.inl ((w64 (CX+1)),x22.2.code,x22.2.at_,x22.2.seed,x24)))
  else (some (.inr (yH,yI,yJ,yK)))
noncomputable def qV (s_0:aj):Option ((List ak)×aj):=
 (aJ s_0 5).bind fun x9=>
   (dB (uO x9) (0,x9.2.code,x9.2.at_,x9.2.seed,([]:List ak))).bind fun o=>match o with
   | (uB,uC,uD,uF)=>
   some (uF,(⟨uB,uC,uD⟩:aj))
noncomputable def jJ (lD:(List Int)) (lF:Int) (lG:Int) (yL:ByteArray) (yM:Int) (yN:Int):Option (jL×aj):=
 some ((⟨yL,yM,yN⟩:jL),(⟨lD,lF,lG⟩:aj))
noncomputable def qW (s_0:aj):Option (jL×aj):=
 (o5 s_0).bind fun x5=>
   (aJ x5.2 16).bind fun x7=>
   if x7.1=0 then
   ((iw x7.2 ([(⟨#[112,105,110,101]⟩:ByteArray),(⟨#[]⟩:ByteArray),(⟨#[79,97,107]⟩:ByteArray)]:List ByteArray)).bind fun x12=>
   jJ x12.2.code x12.2.at_ x12.2.seed x12.1 x5.1.aW x5.1.dP)
   else (if x7.1=1 then
   ((bH x7.2 ([(-1),0,100,101,55]:List Int)).bind fun x18=>
   jJ x18.2.code x18.2.at_ x18.2.seed x5.1.bC x18.1 x5.1.dP)
   else (if x7.1=2 then
   ((bH x7.2 ([(-1),179,180]:List Int)).bind fun x24=>
   jJ x24.2.code x24.2.at_ x24.2.seed x5.1.bC x5.1.aW x24.1)
   else (jJ x7.2.code x7.2.at_ x7.2.seed x5.1.bC x5.1.aW x5.1.dP)))
noncomputable def dD (x9:(ak×aj)) (vT:(List Int)) (vU:Int) (vV:Int) (vW:Int) (vX:ByteArray) (vY:Int) (vZ:Int) (wo:Int) (wu:(List bD)):Option (ak×aj):=
 some ((⟨x9.1.Id,x9.1.gV,vW,(⟨vX,vY,vZ⟩:jL),wo,x9.1.Length,wu⟩:ak),(⟨vT,vU,vV⟩:aj))
noncomputable def qh (x35:(Int×aj)) (vG:(List bD)):Option ((List bD) ⊕ (List bD)):=
 if (vG.length:Int) < (w64 (5+x35.1)) then
  ((apd 32 vG ([(⟨1,1,3,3⟩:bD)]:List bD)).bind fun x46=>
  some (.inl x46))
  else (some (.inr vG))
noncomputable def mP (s_0:aj):Option (ak×aj):=
 (iw s_0 ([(⟨#[97]⟩:ByteArray),(⟨#[98]⟩:ByteArray),(⟨#[101]⟩:ByteArray),(⟨#[120,57]⟩:ByteArray)]:List ByteArray)).bind fun x8=>
   (jI x8.2 x8.1).bind fun x9=>
   (aJ x9.2 20).bind fun x11=>
   if x11.1=0 then
   ((bH x11.2 ([9,10,20000,20001]:List Int)).bind fun x16=>
   dD x9 x16.2.code x16.2.at_ x16.2.seed x9.1.Number x9.1.ai.bC x9.1.ai.aW x9.1.ai.dP x16.1 x9.1.aK)
   else (if x11.1=1 then
   ((bH x11.2 ([5,6,0]:List Int)).bind fun x27=>
   (apd 32 x9.1.aK ([(⟨(w64 (x9.1.Width - 5)),0,x27.1,4⟩:bD)]:List bD)).bind fun x30=>
   dD x9 x27.2.code x27.2.at_ x27.2.seed x9.1.Number x9.1.ai.bC x9.1.ai.aW x9.1.ai.dP x9.1.Width x30)
   else (if x11.1=2 then
   ((aJ x11.2 3).bind fun x35=>
   (dB (qh x35) x9.1.aK).bind fun uG=>
   dD x9 x35.2.code x35.2.at_ x35.2.seed x9.1.Number x9.1.ai.bC x9.1.ai.aW x9.1.ai.dP x9.1.Width uG)
   else (if x11.1=3 then
   ((bH x11.2 ([(-1),999,1000]:List Int)).bind fun x52=>
   dD x9 x52.2.code x52.2.at_ x52.2.seed x52.1 x9.1.ai.bC x9.1.ai.aW x9.1.ai.dP x9.1.Width x9.1.aK)
   else (if x11.1=4 then
   ((qW x11.2).bind fun x57=>
   dD x9 x57.2.code x57.2.at_ x57.2.seed x9.1.Number x57.1.bC x57.1.aW x57.1.dP x9.1.Width x9.1.aK)
   else (if x11.1=5 then
   (dD x9 x11.2.code x11.2.at_ x11.2.seed x9.1.Number x9.1.ai.bC x9.1.ai.aW x9.1.ai.dP x9.1.Width ([(⟨0,0,x9.1.Width,x9.1.Length⟩:bD)]:List bD))
   else (dD x9 x11.2.code x11.2.at_ x11.2.seed x9.1.Number x9.1.ai.bC x9.1.ai.aW x9.1.ai.dP x9.1.Width x9.1.aK))))))
noncomputable def jP (wz:(List Int)) (wB:Int) (wC:Int) (uH:(List ak)):Option ((List ak)×aj):=
 some (uH,(⟨wz,wB,wC⟩:aj))
noncomputable def uP (x20:(Int×aj)) (s:(Int×(List ak))):Option ((Int×(List ak)) ⊕ (List ak)):=
 match s with
  | (wE,wF)=>
  if wE< (w64 (15+x20.1)) then
  ((cat (⟨#[108]⟩:ByteArray) (strOf ([(IntKind.wrap .u8 ((w64 (97+wE))))]:List Int))).bind fun x34=>
  (apd 112 wF ([(⟨x34,(⟨#[102]⟩:ByteArray),(w64 (40 - wE)),(⟨(⟨#[111,97,107]⟩:ByteArray),40,0⟩:jL),100,200,([]:List bD)⟩:ak)]:List ak)).bind fun x40=>
  some (.inl ((w64 (wE+1)),x40)))
  else (some (.inr wF))
noncomputable def qX (s_0:aj):Option ((List ak)×aj):=
 (qV s_0).bind fun x7=>
   (aJ x7.2 20).bind fun x9=>
   if x9.1=0 then
   ((mP x9.2).bind fun x14=>
   (apd 112 x7.1 ([x14.1]:List ak)).bind fun x16=>
   jP x14.2.code x14.2.at_ x14.2.seed x16)
   else (if x9.1=1 then
   ((aJ x9.2 3).bind fun x20=>
   (dB (uP x20) (0,([]:List ak))).bind fun qY=>
   jP x20.2.code x20.2.at_ x20.2.seed qY)
   else (jP x9.2.code x9.2.at_ x9.2.seed x7.1))
noncomputable def dV (s_0:aj) (n_1:Int):Option (Bool×aj):=
 (aJ s_0 n_1).bind fun x7=>
   some ((x7.1==0),x7.2)
noncomputable def lH (wG:(List Int)) (wH:Int) (wI:Int) (uI:(List ak)):Option ((List ak)×aj):=
 some (uI,(⟨wG,wH,wI⟩:aj))
noncomputable def jQ (wJ:(List Int)) (wK:Int) (wL:Int) (bI:(List ak)):Option ((List ak)×aj):=
 (dV (⟨wJ,wK,wL⟩:aj) 24).bind fun x46=>
   if (x46.1=true∧(bI.length:Int) >1) then
   ((rd bI 0).bind fun x53=>
   (rd (bI.set ((0:Int).toNat) (⟨x53.Id,(⟨#[102,49]⟩:ByteArray),x53.Number,x53.ai,x53.Width,x53.Length,x53.aK⟩:ak)) 0).bind fun x56=>
   (rd ((bI.set ((0:Int).toNat) (⟨x53.Id,(⟨#[102,49]⟩:ByteArray),x53.Number,x53.ai,x53.Width,x53.Length,x53.aK⟩:ak)).set ((0:Int).toNat) (⟨x56.Id,x56.gV,0,x56.ai,x56.Width,x56.Length,x56.aK⟩:ak)) 1).bind fun x59=>
   (bH x46.2 ([65,66,999]:List Int)).bind fun x64=>
   (rd (((bI.set ((0:Int).toNat) (⟨x53.Id,(⟨#[102,49]⟩:ByteArray),x53.Number,x53.ai,x53.Width,x53.Length,x53.aK⟩:ak)).set ((0:Int).toNat) (⟨x56.Id,x56.gV,0,x56.ai,x56.Width,x56.Length,x56.aK⟩:ak)).set ((1:Int).toNat) (⟨x59.Id,(⟨#[102,49]⟩:ByteArray),x59.Number,x59.ai,x59.Width,x59.Length,x59.aK⟩:ak)) 1).bind fun x65=>
   lH x64.2.code x64.2.at_ x64.2.seed ((((bI.set ((0:Int).toNat) (⟨x53.Id,(⟨#[102,49]⟩:ByteArray),x53.Number,x53.ai,x53.Width,x53.Length,x53.aK⟩:ak)).set ((0:Int).toNat) (⟨x56.Id,x56.gV,0,x56.ai,x56.Width,x56.Length,x56.aK⟩:ak)).set ((1:Int).toNat) (⟨x59.Id,(⟨#[102,49]⟩:ByteArray),x59.Number,x59.ai,x59.Width,x59.Length,x59.aK⟩:ak)).set ((1:Int).toNat) (⟨x65.Id,x65.gV,x64.1,x65.ai,x65.Width,x65.Length,x65.aK⟩:ak)))
   else (lH x46.2.code x46.2.at_ x46.2.seed bI)
noncomputable def mQ (kS:Int) (uJ:Int) (yO:(List Int)) (yP:Int) (yQ:Int) (wM:(List ak)):Option ((Int×Int×(List Int)×Int×Int×(List ak)) ⊕ ((List Int)×Int×Int×(List ak))):=
 some (.inl (uJ,(w64 (kS+1)),yO,yP,yQ,wM))
noncomputable def lI (kS:Int) (fM:(List ak)) (dJ:Int) (x29:(ak×aj)) (x31:(Bool×aj)) (nX:ByteArray) (nY:Int):Option ((Int×Int×(List Int)×Int×Int×(List ak)) ⊕ ((List Int)×Int×Int×(List ak))):=
 (bH x31.2 ([1,1,1,0,3]:List Int)).bind fun x39=>
   (apd 112 fM ([(⟨x29.1.Id,nX,nY,x29.1.ai,x29.1.Width,x29.1.Length,x29.1.aK⟩:ak)]:List ak)).bind fun x44=>
   mQ kS (w64 (dJ+x39.1)) x39.2.code x39.2.at_ x39.2.seed x44
noncomputable def uQ (s:(Int×Int×(List Int)×Int×Int×(List ak))):Option ((Int×Int×(List Int)×Int×Int×(List ak)) ⊕ ((List Int)×Int×Int×(List ak))):=
 match s with
  | (dJ,kS,yR,yS,yT,fM)=>
  if kS< (([(⟨#[97]⟩:ByteArray),(⟨#[98]⟩:ByteArray),(⟨#[99]⟩:ByteArray),(⟨#[100]⟩:ByteArray),(⟨#[101]⟩:ByteArray),(⟨#[102]⟩:ByteArray),(⟨#[103]⟩:ByteArray)]:List ByteArray).length:Int) then
  ((dV (⟨yR,yS,yT⟩:aj) 4).bind fun x23=>
  if x23.1=true then
  (mQ kS dJ x23.2.code x23.2.at_ x23.2.seed fM)
  else ((rd ([(⟨#[97]⟩:ByteArray),(⟨#[98]⟩:ByteArray),(⟨#[99]⟩:ByteArray),(⟨#[100]⟩:ByteArray),(⟨#[101]⟩:ByteArray),(⟨#[102]⟩:ByteArray),(⟨#[103]⟩:ByteArray)]:List ByteArray) kS).bind fun x27=>
  (jI x23.2 x27).bind fun x29=>
  (dV x29.2 4).bind fun x31=>
  if x31.1=true then
  (lI kS fM dJ x29 x31 x29.1.gV x29.1.Number)
  else (lI kS fM dJ x29 x31 (⟨#[102,49]⟩:ByteArray) dJ)))
  else (some (.inr (yR,yS,yT,fM)))
noncomputable def o6 (s_0:aj):Option ((List ak)×aj):=
 (qX s_0).bind fun x9=>
   (dV x9.2 2).bind fun x11=>
   if x11.1=true then
   ((aJ x11.2 9).bind fun x15=>
   (dB (uQ) (x15.1,0,x15.2.code,x15.2.at_,x15.2.seed,([]:List ak))).bind fun o=>match o with
   | (qF,qG,qH,o7)=>
   jQ qF qG qH o7)
   else (jQ x11.2.code x11.2.at_ x11.2.seed x9.1)
noncomputable def jW (s_0:aj):Option (Int×aj):=
 (dV s_0 6).bind fun x4=>
   if x4.1=true then
   ((bH x4.2 ([0,1,5,20000,20001]:List Int)).bind fun x7=>
   some (x7.1,x7.2))
   else ((aJ x4.2 400).bind fun x9=>
   some ((w64 (x9.1+1)),x9.2))
noncomputable def jX (jv:(List Int)):Option ((List ak)×Bool×Int):=
 (oZ jv).bind fun x9=>
   (o6 x9).bind fun x11=>
   (dV x11.2 2).bind fun x13=>
   (jW x13.2).bind fun x17=>
   some (x11.1,x13.1,x17.1)
noncomputable def nZ (s_0:ByteArray) (uS:Int):Option (Int ⊕ (Unit ⊕ Bool)):=
 if uS< (s_0.size:Int) then
  ((bt s_0 uS).bind fun x30=>
  (if x30<97 then
  ((bt s_0 uS).bind fun x41=>
  if x41<48 then
  (some true)
  else ((bt s_0 uS).bind fun x46=>
  some (decide (x46>57))))
  else ((bt s_0 uS).bind fun x35=>
  if x35>122 then
  ((bt s_0 uS).bind fun x41=>
  if x41<48 then
  (some true)
  else ((bt s_0 uS).bind fun x46=>
  some (decide (x46>57))))
  else (some false))).bind fun Kv=>
  if Kv=true then
  (some (.inr (.inr false)))
  else (some (.inl (w64 (uS+1)))))
  else (some (.inr (.inl ())))
noncomputable def qI (s_0:ByteArray):Option Bool:=
 (if (s_0.size:Int) <1 then
   (some true)
   else (if (s_0.size:Int) >10 then
   (some true)
   else ((bt s_0 0).bind fun x14=>
   if x14<97 then
   (some true)
   else ((bt s_0 0).bind fun x19=>
   some (decide (x19>122)))))).bind fun Kw=>
   if Kw=true then
   (some false)
   else ((dB (nZ s_0) 0).bind fun o=>match o with
   | (.inl _)=>(some true)
   | (.inr r2)=>(some r2))
noncomputable def dQ (n_0:Int) (JF:Int) (ET:Int):Option Bool:=
 some ((decide (n_0≥JF))&&(decide (n_0≤ET)))
noncomputable def lJ (nG:ByteArray):Option (Int×Int×Int×Int):=
 if nG=(⟨#[97,115,104]⟩:ByteArray) then
  (some (20,40,310,0))
  else (if nG=(⟨#[98,101,101,99,104]⟩:ByteArray) then
  (some (35,45,410,0))
  else (if nG=(⟨#[98,105,114,99,104]⟩:ByteArray) then
  (some (15,33,280,0))
  else (if nG=(⟨#[99,104,101,114,114,121]⟩:ByteArray) then
  (some (50,36,240,0))
  else (if nG=(⟨#[101,98,111,110,121]⟩:ByteArray) then
  (some (95,85,270,0))
  else (if nG=(⟨#[104,111,108,108,121]⟩:ByteArray) then
  (some (5,35,370,0))
  else (if nG=(⟨#[109,97,112,108,101]⟩:ByteArray) then
  (some (10,42,290,0))
  else (if nG=(⟨#[111,97,107]⟩:ByteArray) then
  (some (40,40,330,0))
  else (if nG=(⟨#[114,111,115,101,119,111,111,100]⟩:ByteArray) then
  (some (80,60,220,0))
  else (if nG=(⟨#[119,97,108,110,117,116]⟩:ByteArray) then
  (some (70,38,260,0))
  else (some (0,0,0,3)))))))))))
noncomputable def nN (nG:ByteArray):Option (Int×Bool):=
 (lJ nG).bind fun x10=>
   some (x10.1,(x10.2.2.2==0))
noncomputable def lK (v_0:jL):Option Bool:=
 (nN v_0.bC).bind fun x8=>
   (if x8.2=true then
   ((dQ v_0.aW 0 100).bind fun x15=>
   if x15=true then
   ((dQ (w64 (v_0.aW - x8.1)) (-15) 15).bind fun x22=>
   if x22=true then
   ((dQ v_0.dP 0 179).bind fun x27=>
   some x27)
   else (some false))
   else (some false))
   else (some false)).bind fun Ov=>
   some Ov
noncomputable def og (b_0:bD) (nM:Int) (jV:Int):Option Bool:=
 (dQ b_0.X 0 nM).bind fun x10=>
   (if x10=true then
   ((dQ b_0.Y 0 jV).bind fun x15=>
   if x15=true then
   ((dQ b_0.Width 1 (w64 (nM - b_0.X))).bind fun x24=>
   if x24=true then
   ((dQ b_0.Length 1 (w64 (jV - b_0.Y))).bind fun x33=>
   some x33)
   else (some false))
   else (some false))
   else (some false)).bind fun wO=>
   some wO
noncomputable def gG (b_0:bD) (Ox:ByteArray) (Oy:ByteArray) (Oz:Int) (OA:ByteArray) (OB:Int) (OC:Int) (Ky:Int) (Kz:Int) (OD:(List bD)):Option Bool:=
 (og b_0 Ky Kz).bind fun x9=>
   some (!x9)
noncomputable def bT (f_1:(bD→Option Bool)) (s_0:(List bD)) (qi:Int):Option (Int ⊕ (Unit ⊕ Int)):=
 if qi< (s_0.length:Int) then
  ((rd s_0 qi).bind fun x14=>
  (f_1 x14).bind fun x16=>
  if x16=true then
  (some (.inr (.inr qi)))
  else (some (.inl (w64 (qi+1)))))
  else (some (.inr (.inl ())))
noncomputable def eH (s_0:(List bD)) (f_1:(bD→Option Bool)):Option Int:=
 (dB (bT f_1 s_0) 0).bind fun o=>match o with
   | (.inl _)=>(some (-1))
   | (.inr r2)=>(some r2)
noncomputable def bU (s_0:(List bD)) (f_1:(bD→Option Bool)):Option Bool:=
 (eH s_0 f_1).bind fun x7=>
   some (decide (x7≥0))
noncomputable def iJ (l_0:ak):Option Bool:=
 (qI l_0.Id).bind fun x5=>
   (if x5=true then
   ((qI l_0.gV).bind fun x10=>
   if x10=true then
   ((dQ l_0.Number 0 999).bind fun x16=>
   if x16=true then
   ((lK l_0.ai).bind fun x22=>
   some (!x22))
   else (some true))
   else (some true))
   else (some true)).bind fun KA=>
   if KA=true then
   (some false)
   else ((dQ l_0.Width 10 20000).bind fun x27=>
   (if x27=true then
   ((dQ l_0.Length 10 20000).bind fun x32=>
   if x32=true then
   (some (decide ((l_0.aK.length:Int) >6)))
   else (some true))
   else (some true)).bind fun KC=>
   if KC=true then
   (some false)
   else ((bU l_0.aK (fun a0=>gG a0 l_0.Id l_0.gV l_0.Number l_0.ai.bC l_0.ai.aW l_0.ai.dP l_0.Width l_0.Length l_0.aK)).bind fun x44=>
   some (!x44)))
noncomputable def jM (aC:(List ak)) (wP:Int):Option (Int ⊕ (Unit ⊕ Bool)):=
 if wP< (aC.length:Int) then
  ((rd aC wP).bind fun x10=>
  (iJ x10).bind fun x13=>
  (if x13=true then
  (if wP>0 then
  ((rd aC (w64 (wP - 1))).bind fun x22=>
  some (!Op.bytesLess x22.Id.toList x10.Id.toList))
  else (some false))
  else (some true)).bind fun KD=>
  if KD=true then
  (some (.inr (.inr false)))
  else (some (.inl (w64 (wP+1)))))
  else (some (.inr (.inl ())))
noncomputable def di (aC:(List ak)):Option Bool:=
 (dB (jM aC) 0).bind fun o=>match o with
   | (.inl _)=>(some (decide ((aC.length:Int)≤16)))
   | (.inr r2)=>(some r2)
noncomputable def lM (Gs:Int):Option Int:=
 (md (w64 (180 - Gs)) 180).bind fun x5=>
   some x5
noncomputable def mV (a_0:Int) (b_1:Int):Option (Int×Int):=
 (dQ a_0 0 179).bind fun x8=>
   (if x8=true then
   ((dQ b_1 0 179).bind fun x12=>
   some (!x12))
   else (some true)).bind fun KE=>
   if KE=true then
   (some (0,2))
   else (some ((min2 (max2 (w64 (a_0 - b_1)) (w64 (b_1 - a_0))) (w64 (180 - (max2 (w64 (a_0 - b_1)) (w64 (b_1 - a_0)))))),0))
noncomputable def oh (wQ:Int):Option Int:=
 some wQ
noncomputable def pM (a_0:ak) (b_1:ak) (qJ:Int):Option Int:=
 if ¬(a_0.ai.bC=b_1.ai.bC) then
  (oh (w64 (qJ+500)))
  else (oh qJ)
noncomputable def ny (a_0:ak) (b_1:ak) (wR:Int):Option Int:=
 (mV a_0.ai.dP wR).bind fun x22=>
   if a_0.gV=b_1.gV then
   (pM a_0 b_1 (w64 ((w64 ((w64 (3* (max2 (w64 (a_0.ai.aW - b_1.ai.aW)) (w64 (b_1.ai.aW - a_0.ai.aW)))))+x22.1))+(min2 (max2 (w64 (a_0.Number - b_1.Number)) (w64 (b_1.Number - a_0.Number))) 20))))
   else (pM a_0 b_1 (w64 ((w64 ((w64 (3* (max2 (w64 (a_0.ai.aW - b_1.ai.aW)) (w64 (b_1.ai.aW - a_0.ai.aW)))))+x22.1))+500)))
noncomputable def je (a_0:ak) (b_1:ak) (eX:Bool):Option Int:=
 if eX=true then
  ((lM b_1.ai.dP).bind fun x16=>
  ny a_0 b_1 x16)
  else (ny a_0 b_1 b_1.ai.dP)
noncomputable def iy (s_0:aI) (Ij:Int):Option (Bool×aI):=
 if (s_0.left<0∨(s_0.found=true∧Ij≥s_0.least)) then
  (some (false,s_0))
  else (some ((decide ((w64 (s_0.left - 1))≥0)),(⟨s_0.list,s_0.book,(w64 (s_0.left - 1)),s_0.found,s_0.best,s_0.least⟩:aI)))
noncomputable def fV (self:(aI×(List (List Int))×(List Int)×Int)→Option aI) (kC:Int) (lD:(List ak)) (lF:Bool) (lG:Int) (yU:Bool) (yV:(List (List Int))) (yX:Int):Option ((Int×(List ak)×Bool×Int×Bool×(List (List Int))×Int) ⊕ ((List ak)×Bool×Int×Bool×(List (List Int))×Int)):=
 some (.inl ((w64 (kC+1)),lD,lF,lG,yU,yV,yX))
noncomputable def dK (self:(aI×(List (List Int))×(List Int)×Int)→Option aI) (bz:(List (List Int))) (gz:(List Int)) (jY:Int) (x28:Int) (x31:(List Int)) (s:(Int×(List ak)×Bool×Int×Bool×(List (List Int))×Int)):Option ((Int×(List ak)×Bool×Int×Bool×(List (List Int))×Int) ⊕ ((List ak)×Bool×Int×Bool×(List (List Int))×Int)):=
 match s with
  | (kC,o8,qK,sV,sW,sZ,tq)=>
  if kC< (x31.length:Int) then
  ((rd x31 kC).bind fun x36=>
  (rd o8 x28).bind fun x44=>
  (rd o8 x36).bind fun x51=>
  (je x44 x51 qK).bind fun x57=>
  (iy (⟨o8,qK,sV,sW,sZ,tq⟩:aI) (w64 (jY+x57))).bind fun x61=>
  if x61.1=true then
  ((apd 24 ([]:List (List Int)) bz).bind fun x64=>
  (apd 24 x64 ([([x28,x36]:List Int)]:List (List Int))).bind fun x69=>
  (slc gz 1 (gz.length:Int)).bind fun x71=>
  (apd 8 ([]:List Int) x71).bind fun x72=>
  (QZ x72 kC (w64 (kC+1))).bind fun x76=>
  (self (x61.2,x69,x76,(w64 (jY+x57)))).bind fun x78=>
  fV self kC x78.list x78.book x78.left x78.found x78.best x78.least)
  else (fV self kC x61.2.list x61.2.book x61.2.left x61.2.found x61.2.best x61.2.least))
  else (some (.inr (o8,qK,sV,sW,sZ,tq)))
noncomputable def eY (self:(aI×(List (List Int))×(List Int)×Int)→Option aI) (s_0:aI) (bz:(List (List Int))) (gz:(List Int)) (jY:Int):Option aI:=
 if (gz.length:Int)=0 then
  ((apd 24 ([]:List (List Int)) bz).bind fun x19=>
  some (⟨s_0.list,s_0.book,s_0.left,true,x19,jY⟩:aI))
  else ((rd gz 0).bind fun x28=>
  (slc gz 1 (gz.length:Int)).bind fun x31=>
  (dB (dK self bz gz jY x28 x31) (0,s_0.list,s_0.book,s_0.left,s_0.found,s_0.best,s_0.least)).bind fun o=>match o with
  | (oq,ou,oz,oC,oD,oG)=>
  (md (gz.length:Int) 2).bind fun x82=>
  (if x82=1 then
  ((iy (⟨oq,ou,oz,oC,oD,oG⟩:aI) jY).bind fun x87=>
  some (x87.1,x87.2.list,x87.2.book,x87.2.left,x87.2.found,x87.2.best,x87.2.least))
  else (some (false,oq,ou,oz,oC,oD,oG))).bind fun s=>match s with
  | (Ik,wS,wU,wV,wW,wX,wY)=>
  if Ik=true then
  ((slc gz 1 (gz.length:Int)).bind fun x92=>
  (self ((⟨wS,wU,wV,wW,wX,wY⟩:aI),bz,x92,jY)).bind fun x94=>
  some x94)
  else (some (⟨wS,wU,wV,wW,wX,wY⟩:aI)))
noncomputable def iT (s_0:aI) (bz:(List (List Int))) (gz:(List Int)) (jY:Int):Option aI:=zn (fun self s=>match s with | (s_0,bz,gz,jY)=>eY self s_0 bz gz jY) (s_0,bz,gz,jY)
noncomputable def jE (aC:(List ak)) (s:(Int×(List Int))):Option ((Int×(List Int)) ⊕ (List Int)):=
 match s with
  | (lg,wZ)=>
  if lg< (aC.length:Int) then
  ((apd 8 wZ ([lg]:List Int)).bind fun x29=>
  some (.inl ((w64 (lg+1)),x29)))
  else (some (.inr wZ))
noncomputable def jZ (aC:(List ak)) (fZ:Bool) (qZ:Int):Option ((List (List Int))×Int×Int):=
 (di aC).bind fun x14=>
   if x14=true then
   ((dQ qZ 1 20000).bind fun x18=>
   if x18=true then
   ((dB (jE aC) (0,([]:List Int))).bind fun rf=>
   (iT (⟨aC,fZ,qZ,false,([]:List (List Int)),0⟩:aI) ([]:List (List Int)) rf 0).bind fun x38=>
   if x38.left<0 then
   (some (([]:List (List Int)),0,5))
   else (some (x38.best,x38.least,0)))
   else (some (([]:List (List Int)),0,2)))
   else (some (([]:List (List Int)),0,1))
noncomputable def rq (Eb:Int) (Ec:Int):Option Int:=
 (bt (⟨#[0,1,2,2,3,3,3,3,4,4,4,4,4,4,4,4,5,5,5,5,5,5,5,5,5,5,5,5,5,5,5,5,6,6,6,6,6,6,6,6,6,6,6,6,6,6,6,6,6,6,6,6,6,6,6,6,6,6,6,6,6,6,6,6,7,7,7,7,7,7,7,7,7,7,7,7,7,7,7,7,7,7,7,7,7,7,7,7,7,7,7,7,7,7,7,7,7,7,7,7,7,7,7,7,7,7,7,7,7,7,7,7,7,7,7,7,7,7,7,7,7,7,7,7,7,7,7,7,8,8,8,8,8,8,8,8,8,8,8,8,8,8,8,8,8,8,8,8,8,8,8,8,8,8,8,8,8,8,8,8,8,8,8,8,8,8,8,8,8,8,8,8,8,8,8,8,8,8,8,8,8,8,8,8,8,8,8,8,8,8,8,8,8,8,8,8,8,8,8,8,8,8,8,8,8,8,8,8,8,8,8,8,8,8,8,8,8,8,8,8,8,8,8,8,8,8,8,8,8,8,8,8,8,8,8,8,8,8,8,8,8,8,8,8,8,8,8,8,8,8,8,8,8,8,8,8]⟩:ByteArray) (IntKind.wrap .u8 (Eb))).bind fun x22=>
   some (w64 (Ec+(w64 (x22))))
noncomputable def tY (AB:Int) (AL:Int):Option Int:=
 if AB≥256 then
  ((shr .u64 AB 8).bind fun x16=>
  rq x16 (w64 (AL+8)))
  else (rq AB AL)
noncomputable def tZ (AO:Int) (AQ:Int):Option Int:=
 if AO≥65536 then
  ((shr .u64 AO 16).bind fun x10=>
  tY x10 (w64 (AQ+16)))
  else (tY AO AQ)
noncomputable def bits_Len64 (x_0:Int):Option Int:=
 if x_0≥4294967296 then
  ((shr .u64 x_0 32).bind fun x6=>
  tZ x6 32)
  else (tZ x_0 0)
noncomputable def bits_Len (x_0:Int):Option Int:=
 (bits_Len64 x_0).bind fun x7=>
   some x7
noncomputable def mW (x_0:Int):Option Bool:=
 some (x_0 != x_0)
noncomputable def kM (x_0:Int) (y_1:Int):Option Int:=
 (mW x_0).bind fun x8=>
   (mW y_1).bind fun x10=>
   if x8=true then
   (if x10=true then
   (some 0)
   else (some (-1)))
   else (if x10=true then
   (some 1)
   else (if x_0<y_1 then
   (some (-1))
   else (if x_0>y_1 then
   (some 1)
   else (some 0))))
noncomputable def gI (EU:(List Int)) (Il:(List Int)) (xK:Int):Option (Int ⊕ (Unit ⊕ Int)):=
 if xK< (EU.length:Int) then
  ((rd EU xK).bind fun x14=>
  if xK≥(Il.length:Int) then
  (some (.inr (.inr 1)))
  else ((rd Il xK).bind fun x22=>
  (kM x14 x22).bind fun x26=>
  if x26≠0 then
  (some (.inr (.inr x26)))
  else (some (.inl (w64 (xK+1))))))
  else (some (.inr (.inl ())))
noncomputable def aZ (EU:(List Int)) (Il:(List Int)):Option Int:=
 (dB (gI EU Il) 0).bind fun o=>match o with
   | (.inl _)=>(if (EU.length:Int) < (Il.length:Int) then
   (some (-1))
   else (some 0))
   | (.inr r2)=>(some r2)
noncomputable def aO (p_0:(List Int)) (q_1:(List Int)):Option Int:=
 (aZ p_0 q_1).bind fun x7=>
   some x7
noncomputable def aU (a_1:Int) (BU:((List Int)→(List Int)→Option Int)) (s:(Int×(List (List Int)))):Option ((Int×(List (List Int))) ⊕ (List (List Int))):=
 match s with
  | (nH,jf)=>
  (if nH>a_1 then
  ((rd jf nH).bind fun x25=>
  (rd jf (w64 (nH - 1))).bind fun x30=>
  (BU x25 x30).bind fun x32=>
  some (decide (x32<0)))
  else (some false)).bind fun KF=>
  if KF=true then
  ((rd jf (w64 (nH - 1))).bind fun x45=>
  (rd jf nH).bind fun x49=>
  (rd jf nH).bind fun x51=>
  (rd (jf.set nH.toNat x45) (w64 (nH - 1))).bind fun x52=>
  some (.inl ((w64 (nH - 1)),((jf.set nH.toNat x45).set ((w64 (nH - 1)).toNat) x49))))
  else (some (.inr jf))
noncomputable def aP (a_1:Int) (b_2:Int) (BU:((List Int)→(List Int)→Option Int)) (s:(Int×(List (List Int)))):Option ((Int×(List (List Int))) ⊕ (List (List Int))):=
 match s with
  | (xR,xe)=>
  if xR<b_2 then
  ((dB (aU a_1 BU) (xR,xe)).bind fun vk=>
  some (.inl ((w64 (xR+1)),vk)))
  else (some (.inr xe))
noncomputable def dG (bK:(List (List Int))) (a_1:Int) (b_2:Int) (BU:((List Int)→(List Int)→Option Int)):Option (List (List Int)):=
 (dB (aP a_1 b_2 BU) ((w64 (a_1+1)),bK)).bind fun r2=>
   some r2
noncomputable def jK (bK:(List (List Int))) (a_1:Int) (b_2:Int) (BU:((List Int)→(List Int)→Option Int)):Option (List (List Int)):=
 none
noncomputable def iY (bK:(List (List Int))) (a_1:Int) (b_2:Int) (BU:((List Int)→(List Int)→Option Int)):Option (Int×Int):=
 none
noncomputable def iK (bK:(List (List Int))) (a_1:Int) (b_2:Int) (BU:((List Int)→(List Int)→Option Int)):Option (List (List Int)):=
 none
noncomputable def fA (bK:(List (List Int))) (a_1:Int) (b_2:Int) (BU:((List Int)→(List Int)→Option Int)):Option (Bool×(List (List Int))):=
 none
noncomputable def ik (bK:(List (List Int))) (a_1:Int) (b_2:Int) (zx:Int) (kT:((List Int)→(List Int)→Option Int)):Option (Int×(List (List Int))):=
 none
noncomputable def jw (bK:(List (List Int))) (a_1:Int) (b_2:Int) (zx:Int) (kT:((List Int)→(List Int)→Option Int)):Option (Int×Bool×(List (List Int))):=
 none
noncomputable def iE (bK:(List (List Int))) (a_1:Int) (b_2:Int) (BU:((List Int)→(List Int)→Option Int)):Option (List (List Int)):=
 none
noncomputable def cu (self:((List (List Int))×Int×Int×Int×((List Int)→(List Int)→Option Int))→Option (List (List Int))) (bg:Int) (bu:Int) (kT:((List Int)→(List Int)→Option Int)) (aQ:Int) (bV:Int) (aB:Bool) (au:Bool) (kP:(List (List Int))):Option ((Int×Int×Int×Bool×Bool×(List (List Int))) ⊕ (List (List Int))):=
 (if bg>0 then
   ((rd kP (w64 (bg - 1))).bind fun x88=>
   (rd kP bV).bind fun x92=>
   (kT x88 x92).bind fun x94=>
   some (!(decide (x94<0))))
   else (some false)).bind fun Io=>
   if Io=true then
   ((ik kP bg bu bV kT).bind fun x103=>
   some (.inl (x103.1,bu,aQ,aB,au,x103.2)))
   else ((jw kP bg bu bV kT).bind fun dH=>
   (dv .i64 (w64 (bu - bg)) 8).bind fun TQ=>
   if (w64 (dH.1 - bg)) < (w64 (bu - dH.1)) then
   ((self (dH.2.2,bg,dH.1,aQ,kT)).bind fun XG=>
   some (.inl ((w64 (dH.1+1)),bu,aQ,(decide ((w64 (dH.1 - bg))≥TQ)),dH.2.1,XG)))
   else ((self (dH.2.2,(w64 (dH.1+1)),bu,aQ,kT)).bind fun XH=>
   some (.inl (bg,dH.1,aQ,(decide ((w64 (bu - dH.1))≥TQ)),dH.2.1,XH))))
noncomputable def cO (self:((List (List Int))×Int×Int×Int×((List Int)→(List Int)→Option Int))→Option (List (List Int))) (bg:Int) (bu:Int) (kT:((List Int)→(List Int)→Option Int)) (aQ:Int) (aB:Bool) (au:Bool) (bV:Int) (oH:Int) (gJ:(List (List Int))):Option ((Int×Int×Int×Bool×Bool×(List (List Int))) ⊕ (List (List Int))):=
 if (aB=true∧(au=true∧oH=1)) then
  ((fA gJ bg bu kT).bind fun x80=>
  if x80.1=true then
  (some (.inr x80.2))
  else (cu self bg bu kT aQ bV aB au x80.2))
  else (cu self bg bu kT aQ bV aB au gJ)
noncomputable def cZ (self:((List (List Int))×Int×Int×Int×((List Int)→(List Int)→Option Int))→Option (List (List Int))) (bg:Int) (bu:Int) (kT:((List Int)→(List Int)→Option Int)) (aB:Bool) (au:Bool) (aQ:Int) (lX:(List (List Int))):Option ((Int×Int×Int×Bool×Bool×(List (List Int))) ⊕ (List (List Int))):=
 (iY lX bg bu kT).bind fun x52=>
   if x52.2=2 then
   ((iK lX bg bu kT).bind fun x61=>
   cO self bg bu kT aQ aB au (w64 ((w64 (bu - 1)) - (w64 (x52.1 - bg)))) 1 x61)
   else (cO self bg bu kT aQ aB au x52.1 x52.2 lX)
noncomputable def gm (self:((List (List Int))×Int×Int×Int×((List Int)→(List Int)→Option Int))→Option (List (List Int))) (kT:((List Int)→(List Int)→Option Int)) (s:(Int×Int×Int×Bool×Bool×(List (List Int)))):Option ((Int×Int×Int×Bool×Bool×(List (List Int))) ⊕ (List (List Int))):=
 match s with
  | (bg,bu,mD,aB,au,oI)=>
  if (w64 (bu - bg))≤12 then
  ((dG oI bg bu kT).bind fun x30=>
  some (.inr x30))
  else (if mD=0 then
  ((jK oI bg bu kT).bind fun x37=>
  some (.inr x37))
  else (if aB=true then
  (cZ self bg bu kT aB au mD oI)
  else ((iE oI bg bu kT).bind fun x44=>
  cZ self bg bu kT aB au (w64 (mD - 1)) x44)))
noncomputable def bJ (self:((List (List Int))×Int×Int×Int×((List Int)→(List Int)→Option Int))→Option (List (List Int))) (bK:(List (List Int))) (a_1:Int) (b_2:Int) (kQ:Int) (kT:((List Int)→(List Int)→Option Int)):Option (List (List Int)):=
 (dB (gm self kT) (a_1,b_2,kQ,true,true,bK)).bind fun r2=>
   some r2
noncomputable def iD (bK:(List (List Int))) (a_1:Int) (b_2:Int) (kQ:Int) (kT:((List Int)→(List Int)→Option Int)):Option (List (List Int)):=zn (fun self s=>match s with | (bK,a_1,b_2,kQ,kT)=>bJ self bK a_1 b_2 kQ kT) (bK,a_1,b_2,kQ,kT)
noncomputable def dL (x_0:(List (List Int))) (YD:((List Int)→(List Int)→Option Int)):Option (List (List Int)):=
 (bits_Len (IntKind.wrap .u64 ((x_0.length:Int)))).bind fun x11=>
   (iD x_0 0 (x_0.length:Int) x11 YD).bind fun x13=>
   some x13
noncomputable def eF (gu:Int) (Ed:Int) (AU:Int) (ru:Int):Option ((Int×Int×Int×Int) ⊕ (Int×Int×Int)):=
 some (.inl (Ed,AU,ru,(w64 (gu+1))))
noncomputable def dh (fZ:Bool) (aC:(List ak)) (eP:Int) (bY:(List Bool)) (s:(Int×Int×Int×Int)):Option ((Int×Int×Int×Int) ⊕ (Int×Int×Int)):=
 match s with
  | (kD,ku,dA,gu)=>
  (if gu< (aC.length:Int) then
  ((rd bY eP).bind fun x42=>
  some (!x42))
  else (some false)).bind fun Ip=>
  if Ip=true then
  ((rd bY gu).bind fun x50=>
  if x50=true then
  (eF gu kD ku dA)
  else ((rd aC eP).bind fun x54=>
  (rd aC gu).bind fun x58=>
  (je x54 x58 fZ).bind fun x61=>
  if (kD<0∨x61<dA) then
  (eF gu eP gu x61)
  else (eF gu kD ku dA)))
  else (some (.inr (kD,ku,dA)))
noncomputable def gB (fZ:Bool) (aC:(List ak)) (bY:(List Bool)) (s:(Int×Int×Int×Int)):Option ((Int×Int×Int×Int) ⊕ (Int×Int)):=
 match s with
  | (Iq,Ee,xM,eP)=>
  if eP< (aC.length:Int) then
  ((dB (dh fZ aC eP bY) (Iq,Ee,xM,(w64 (eP+1)))).bind fun o=>match o with
  | (yY,xg,oJ)=>
  some (.inl (yY,xg,oJ,(w64 (eP+1)))))
  else (some (.inr (Iq,Ee)))
noncomputable def iU (fZ:Bool) (aC:(List ak)) (s:(Int×(List (List Int))×(List Bool))):Option ((Int×(List (List Int))×(List Bool)) ⊕ (List (List Int))):=
 match s with
  | (gK,gQ,bY)=>
  if gK>1 then
  ((dB (gB fZ aC bY) ((-1),(-1),0,0)).bind fun o=>match o with
  | (lN,kH)=>
  (rd bY lN).bind fun x77=>
  (rd (bY.set lN.toNat true) kH).bind fun x78=>
  (apd 24 gQ ([([lN,kH]:List Int)]:List (List Int))).bind fun x84=>
  some (.inl ((w64 (gK - 2)),x84,((bY.set lN.toNat true).set kH.toNat true))))
  else (some (.inr gQ))
noncomputable def jg (aC:(List ak)) (fZ:Bool):Option ((List (List Int))×Int):=
 (di aC).bind fun x16=>
   if x16=true then
   ((mkl 1 (aC.length:Int) false).bind fun x21=>
   (dB (iU fZ aC) ((aC.length:Int),([]:List (List Int)),x21)).bind fun xN=>
   (dL xN (fun a0 a1=>aO a0 a1)).bind fun x86=>
   some (x86,0))
   else (some (([]:List (List Int)),1))
noncomputable def fE (s_0:(List Int)) (v_1:Int) (qi:Int):Option (Int ⊕ (Unit ⊕ Int)):=
 if qi< (s_0.length:Int) then
  ((rd s_0 qi).bind fun x14=>
  if v_1=x14 then
  (some (.inr (.inr qi)))
  else (some (.inl (w64 (qi+1)))))
  else (some (.inr (.inl ())))
noncomputable def ji (s_0:(List Int)) (v_1:Int):Option Int:=
 (dB (fE s_0 v_1) 0).bind fun o=>match o with
   | (.inl _)=>(some (-1))
   | (.inr r2)=>(some r2)
noncomputable def dM (s_0:(List Int)) (v_1:Int):Option Bool:=
 (ji s_0 v_1).bind fun x7=>
   some (decide (x7≥0))
noncomputable def lQ (n_1:Int) (kE:(List (List Int))) (s:(Int×(List Int))):Option ((Int×(List Int)) ⊕ (Unit ⊕ Bool)):=
 match s with
  | (rC,oK)=>
  if rC< (kE.length:Int) then
  ((rd kE rC).bind fun x14=>
  (if (x14.length:Int)≠2 then
  (some true)
  else ((rd x14 0).bind fun x21=>
  if x21<0 then
  (some true)
  else ((rd x14 0).bind fun x27=>
  (rd x14 1).bind fun x30=>
  if x27≥x30 then
  (some true)
  else ((rd x14 1).bind fun x36=>
  if x36≥n_1 then
  (some true)
  else ((rd x14 0).bind fun x44=>
  (dM oK x44).bind fun x46=>
  if x46=true then
  (some true)
  else ((rd x14 1).bind fun x51=>
  (dM oK x51).bind fun x53=>
  some x53)))))).bind fun KG=>
  if KG=true then
  (some (.inr (.inr false)))
  else ((if rC>0 then
  ((rd kE (w64 (rC - 1))).bind fun x61=>
  (aZ x61 x14).bind fun x64=>
  some (decide (x64≥0)))
  else (some false)).bind fun KH=>
  if KH=true then
  (some (.inr (.inr false)))
  else ((apd 8 oK x14).bind fun x69=>
  some (.inl ((w64 (rC+1)),x69)))))
  else (some (.inr (.inl ())))
noncomputable def pO (kE:(List (List Int))) (n_1:Int):Option Bool:=
 (dB (lQ n_1 kE) (0,([]:List Int))).bind fun o=>match o with
   | (.inl _)=>(some true)
   | (.inr r2)=>(some r2)
noncomputable def kz (eX:Bool) (aC:(List ak)) (bz:(List (List Int))) (s:(Int×Int)):Option ((Int×Int) ⊕ Int):=
 match s with
  | (yZ,lg)=>
  if lg< (bz.length:Int) then
  ((rd bz lg).bind fun x25=>
  (rd x25 0).bind fun x30=>
  (rd aC x30).bind fun x32=>
  (rd x25 1).bind fun x36=>
  (rd aC x36).bind fun x38=>
  (je x32 x38 eX).bind fun x41=>
  some (.inl ((w64 (yZ+x41)),(w64 (lg+1)))))
  else (some (.inr yZ))
noncomputable def kJ (aC:(List ak)) (bz:(List (List Int))) (eX:Bool):Option (Int×Int):=
 (di aC).bind fun x13=>
   if x13=true then
   ((pO bz (aC.length:Int)).bind fun x19=>
   if x19=true then
   ((dB (kz eX aC bz) (0,0)).bind fun zy=>
   some (zy,0))
   else (some (0,2)))
   else (some (0,1))
noncomputable def jh (jv:(List Int)):Option ((List ak)×Int×Bool):=
 (oZ jv).bind fun x9=>
   (o6 x9).bind fun x11=>
   (aJ x11.2 (w64 ((x11.1.length:Int)+2))).bind fun x16=>
   (dV x16.2 2).bind fun x21=>
   some (x11.1,(w64 (x16.1 - 1)),x21.1)
noncomputable def fO (fF:Int) (xh:Int) (rD:Int):Option ((Int×Int×Int) ⊕ (Int×Int)):=
 some (.inl (xh,rD,(w64 (fF+1))))
noncomputable def dZ (eX:Bool) (k_1:Int) (aC:(List ak)) (s:(Int×Int×Int)):Option ((Int×Int×Int) ⊕ (Int×Int)):=
 match s with
  | (gU,dR,fF)=>
  if fF< (aC.length:Int) then
  ((rd aC fF).bind fun x34=>
  if fF=k_1 then
  (fO fF gU dR)
  else ((rd aC k_1).bind fun x41=>
  (je x41 x34 eX).bind fun x45=>
  if (gU<0∨x45<dR) then
  (fO fF fF x45)
  else (fO fF gU dR)))
  else (some (.inr (gU,dR)))
noncomputable def lS (aC:(List ak)) (k_1:Int) (eX:Bool):Option (Int×Int×Int):=
 (di aC).bind fun x16=>
   if x16=true then
   ((dQ k_1 0 (w64 ((aC.length:Int) - 1))).bind fun x23=>
   if x23=true then
   (if (aC.length:Int)=1 then
   (some (0,0,3))
   else ((dB (dZ eX k_1 aC) ((-1),0,0)).bind fun o=>match o with
   | (uK,pR)=>
   some (uK,pR,0)))
   else (some (0,0,2)))
   else (some (0,0,1))
noncomputable def kK (a_0:ak) (b_1:ak) (eX:Bool):Option (Int×Int):=
 (iJ a_0).bind fun x9=>
   (if x9=true then
   ((iJ b_1).bind fun x13=>
   some (!x13))
   else (some true)).bind fun KI=>
   if KI=true then
   (some (0,1))
   else ((je a_0 b_1 eX).bind fun x19=>
   some (x19,0))
noncomputable def vw (jv:(List Int)) (CY:(List Int)):Option Bool:=
 (qU jv).bind fun x26=>
   (if x26=true then
   (some true)
   else ((qU CY).bind fun x29=>
   some x29)).bind fun KJ=>
   if KJ=true then
   (some true)
   else ((jX jv).bind fun x33=>
   (jZ x33.1 x33.2.1 x33.2.2).bind fun x41=>
   (jg x33.1 x33.2.1).bind fun x48=>
   if x41.2.2≠0 then
   (some (((x41.1.length:Int)==0)&&(x41.2.1==0)))
   else ((kJ x33.1 x41.1 x33.2.1).bind fun x64=>
   (kJ x33.1 x48.1 x33.2.1).bind fun x71=>
   (if x48.2≠0 then
   (some true)
   else (if x64.2≠0 then
   (some true)
   else (if x64.1≠x41.2.1 then
   (some true)
   else ((dv .i64 (x33.1.length:Int) 2).bind fun x90=>
   if (x41.1.length:Int)≠x90 then
   (some true)
   else (if (x48.1.length:Int)≠(x41.1.length:Int) then
   (some true)
   else (if x71.2≠0 then
   (some true)
   else (some (decide (x71.1<x41.2.1))))))))).bind fun EW=>
   if EW=true then
   (some false)
   else ((jh CY).bind fun dH=>
   (lS dH.1 dH.2.1 dH.2.2).bind fun jy=>
   if jy.2.2≠0 then
   (some ((jy.1==0)&&(jy.2.1==0)))
   else (if (jy.1<0∨(jy.1≥(dH.1.length:Int)∨(jy.1=dH.2.1∨(dH.2.1<0∨dH.2.1≥(dH.1.length:Int))))) then
   (some false)
   else ((rd dH.1 dH.2.1).bind fun x157=>
   (rd dH.1 jy.1).bind fun Vj=>
   (kK x157 Vj dH.2.2).bind fun F6=>
   some ((F6.2==0)&&(F6.1==jy.2.1)))))))
end Go.Pw
