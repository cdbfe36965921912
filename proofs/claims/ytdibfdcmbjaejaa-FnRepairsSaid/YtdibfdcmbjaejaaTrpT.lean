/- Plain functions that answer what the program's functions answer. Conditions: none; definitions alone. -/
import Derived.Test.YtdibfdcmbjaejaaSimPw
namespace Go.Pw
open Go.Sim (min2 max2)
set_option linter.unusedVariables false
def sJ (k:IntKind) (a b:Int):Int:=k.wrap (BitVec.ofInt k.bits a ^^^ BitVec.ofInt k.bits b).toNat
def zq (k:IntKind) (a b:Int):Int:=k.wrap (BitVec.ofInt k.bits a &&& BitVec.ofInt k.bits b).toNat
structure dW where
 gm:ByteArray
 eF:Int
 bC:Int
structure aH where
 Name:ByteArray
 dX:dW
 Area:Int
 Priority:Int
 wH:Int
 iV:Int
structure aB where
 code:(List Int)
 at_:Int
 seed:Int
structure aJ where
 list:(List aH)
 left:Int
 best:(List Int)
 most:Int
structure cO where
 X:Int
 Y:Int
 Width:Int
 Length:Int
structure dH where
 Id:ByteArray
 Fb:ByteArray
 Number:Int
 dX:dW
 Width:Int
 Length:Int
 aG:(List cO)
noncomputable def Dn (fU:(List Int)) (jd:(List Int)):Option Bool:=
 some ((decide ((fU.length:Int) >1048576))||(decide ((jd.length:Int) >1048576)))
noncomputable def yj (fU:(List Int)):Option aB:=
 some (⟨fU,0,0⟩:aB)
noncomputable def kV (s_0:aB) (yV:Int):Option (Int×aB):=
 if (w64 (s_0.at_+1))≤(s_0.code.length:Int) then
  (some (yV,(⟨s_0.code,(w64 (s_0.at_+1)),(IntKind.wrap .u64 ((IntKind.wrap .u64 ((IntKind.wrap .u64 (s_0.seed*6364136223846793005))+(IntKind.wrap .u64 (yV))))+1442695040888963407))⟩:aB)))
  else ((shr .u64 (IntKind.wrap .u64 ((IntKind.wrap .u64 ((IntKind.wrap .u64 (s_0.seed*6364136223846793005))+(IntKind.wrap .u64 (yV))))+1442695040888963407)) 40).bind fun x59=>
  some ((w64 ((zq .u64 x59 255))),(⟨s_0.code,(w64 (s_0.at_+1)),(IntKind.wrap .u64 ((IntKind.wrap .u64 ((IntKind.wrap .u64 (s_0.seed*6364136223846793005))+(IntKind.wrap .u64 (yV))))+1442695040888963407))⟩:aB)))
noncomputable def ou (s_0:aB):Option (Int×aB):=
 if s_0.at_< (s_0.code.length:Int) then
  ((rd s_0.code s_0.at_).bind fun x22=>
  kV s_0 (w64 (x22)))
  else (kV s_0 0)
noncomputable def kW (n_1:Int) (Ol:Int) (Eb:(List Int)) (Ec:Int) (qY:Int):Option (Int×aB):=
 (md Ol n_1).bind fun x19=>
   some (x19,(⟨Eb,Ec,qY⟩:aB))
noncomputable def aS (s_0:aB) (n_1:Int):Option (Int×aB):=
 if n_1≤1 then
  (some (0,s_0))
  else ((ou s_0).bind fun x9=>
  if n_1>200 then
  ((ou x9.2).bind fun x15=>
  kW n_1 (w64 ((w64 (x9.1*256))+x15.1)) x15.2.code x15.2.at_ x15.2.seed)
  else (kW n_1 x9.1 x9.2.code x9.2.at_ x9.2.seed))
noncomputable def jm (s_0:aB) (yX:(List ByteArray)):Option (ByteArray×aB):=
 (aS s_0 (yX.length:Int)).bind fun x9=>
   (rd yX x9.1).bind fun x10=>
   some (x10,x9.2)
noncomputable def nX:Option (List (List Int)):=
 some ([([20,40,310]:List Int),([35,45,410]:List Int),([15,33,280]:List Int),([50,36,240]:List Int),([95,85,270]:List Int),([5,35,370]:List Int),([10,42,290]:List Int),([40,40,330]:List Int),([80,60,220]:List Int),([70,38,260]:List Int)]:List (List Int))
noncomputable def uA:Option (List ByteArray):=
 some ([(⟨#[97,115,104]⟩:ByteArray),(⟨#[98,101,101,99,104]⟩:ByteArray),(⟨#[98,105,114,99,104]⟩:ByteArray),(⟨#[99,104,101,114,114,121]⟩:ByteArray),(⟨#[101,98,111,110,121]⟩:ByteArray),(⟨#[104,111,108,108,121]⟩:ByteArray),(⟨#[109,97,112,108,101]⟩:ByteArray),(⟨#[111,97,107]⟩:ByteArray),(⟨#[114,111,115,101,119,111,111,100]⟩:ByteArray),(⟨#[119,97,108,110,117,116]⟩:ByteArray)]:List ByteArray)
noncomputable def vw (a_0:Int) (b_1:Int):Option Int:=
 if a_0>b_1 then
  (some a_0)
  else (some b_1)
noncomputable def rM (a_0:Int) (b_1:Int):Option Int:=
 if a_0<b_1 then
  (some a_0)
  else (some b_1)
noncomputable def iC (s_0:aB) (yX:(List Int)):Option (Int×aB):=
 (aS s_0 (yX.length:Int)).bind fun x9=>
   (rd yX x9.1).bind fun x10=>
   some (x10,x9.2)
noncomputable def vX (s_0:aB):Option (dW×aB):=
 (aS s_0 10).bind fun x8=>
   (nX).bind fun x9=>
   (rd x9 x8.1).bind fun x11=>
   (rd x11 0).bind fun x13=>
   (aS x8.2 21).bind fun x16=>
   (uA).bind fun x19=>
   (rd x19 x8.1).bind fun x21=>
   (vw 0 (w64 ((w64 (x13+x16.1)) - 10))).bind fun x24=>
   (rM 100 x24).bind fun x25=>
   (aS x16.2 180).bind fun x28=>
   (iC x28.2 ([x28.1,x28.1,0,90,45]:List Int)).bind fun x33=>
   some ((⟨x21,x25,x33.1⟩:dW),x33.2)
noncomputable def iO (x6:(ByteArray×aB)) (x8:(dW×aB)) (BB:(List Int)) (BC:Int) (BD:Int) (BF:Int) (BG:Int) (BH:Int) (BI:Int):Option (aH×aB):=
 some ((⟨x6.1,x8.1,BF,BG,BH,BI⟩:aH),(⟨BB,BC,BD⟩:aB))
noncomputable def tV (s_0:aB):Option (aH×aB):=
 (jm s_0 ([(⟨#[97]⟩:ByteArray),(⟨#[98]⟩:ByteArray),(⟨#[99]⟩:ByteArray),(⟨#[100]⟩:ByteArray),(⟨#[101]⟩:ByteArray),(⟨#[102]⟩:ByteArray),(⟨#[103]⟩:ByteArray)]:List ByteArray)).bind fun x6=>
   (vX x6.2).bind fun x8=>
   (aS x8.2 40000).bind fun x11=>
   (aS x11.2 9).bind fun x15=>
   (aS x15.2 60).bind fun x19=>
   (aS x19.2 40).bind fun x23=>
   (aS x23.2 30).bind fun x27=>
   if x27.1=0 then
   ((iC x27.2 ([0,9,10]:List Int)).bind fun x32=>
   iO x6 x8 x32.2.code x32.2.at_ x32.2.seed (w64 (1+x11.1)) x32.1 (w64 (10*x19.1)) (w64 (5*x23.1)))
   else (if x27.1=1 then
   ((iC x27.2 ([0,400000000,400000001]:List Int)).bind fun x38=>
   iO x6 x8 x38.2.code x38.2.at_ x38.2.seed x38.1 (w64 (1+x15.1)) (w64 (10*x19.1)) (w64 (5*x23.1)))
   else (if x27.1=2 then
   ((iC x27.2 ([(-1),1000000,1000001]:List Int)).bind fun x44=>
   iO x6 x8 x44.2.code x44.2.at_ x44.2.seed (w64 (1+x11.1)) (w64 (1+x15.1)) x44.1 (w64 (5*x23.1)))
   else (if x27.1=3 then
   ((iC x27.2 ([(-1),10000,10001]:List Int)).bind fun x50=>
   iO x6 x8 x50.2.code x50.2.at_ x50.2.seed (w64 (1+x11.1)) (w64 (1+x15.1)) (w64 (10*x19.1)) x50.1)
   else (iO x6 x8 x27.2.code x27.2.at_ x27.2.seed (w64 (1+x11.1)) (w64 (1+x15.1)) (w64 (10*x19.1)) (w64 (5*x23.1))))))
noncomputable def qG (c_0:Int):Option Bool:=
 some ((decide (c_0≥97))&&(decide (c_0≤122)))
noncomputable def wQ (c_0:Int):Option Bool:=
 some ((decide (c_0≥48))&&(decide (c_0≤57)))
noncomputable def ni (s_0:ByteArray) (qH:Int):Option (Int ⊕ (Unit ⊕ Bool)):=
 if qH< (s_0.size:Int) then
  ((bt s_0 qH).bind fun x25=>
  (qG x25).bind fun x26=>
  (if x26=true then
  (some false)
  else ((bt s_0 qH).bind fun x31=>
  (wQ x31).bind fun x32=>
  some (!x32))).bind fun Q9=>
  if Q9=true then
  (some (.inr (.inr false)))
  else (some (.inl (w64 (qH+1)))))
  else (some (.inr (.inl ())))
noncomputable def pW (s_0:ByteArray):Option Bool:=
 (if s_0=(⟨#[]⟩:ByteArray) then
   (some true)
   else (if (s_0.size:Int) >10 then
   (some true)
   else ((bt s_0 0).bind fun x13=>
   (qG x13).bind fun x14=>
   some (!x14)))).bind fun Rf=>
   if Rf=true then
   (some false)
   else ((aI (ni s_0) 0).bind fun o=>match o with
   | (.inl _)=>(some true)
   | (.inr r2)=>(some r2))
noncomputable def tX (lK:ByteArray) (x5:(List ByteArray)) (lM:Int):Option (Int ⊕ (Unit ⊕ Int)):=
 if lM< (x5.length:Int) then
  ((rd x5 lM).bind fun x14=>
  if x14=lK then
  (some (.inr (.inr lM)))
  else (some (.inl (w64 (lM+1)))))
  else (some (.inr (.inl ())))
noncomputable def vY (lK:ByteArray):Option Int:=
 (uA).bind fun x5=>
   (aI (tX lK x5) 0).bind fun o=>match o with
   | (.inl _)=>(some (-1))
   | (.inr r2)=>(some r2)
noncomputable def iP (n_0:Int) (Ed:Int) (yY:Int):Option Bool:=
 some ((decide (n_0≥Ed))&&(decide (n_0≤yY)))
noncomputable def zu (g_0:Int):Option Bool:=
 (iP g_0 0 179).bind fun x4=>
   some x4
noncomputable def qI (v_0:dW):Option Bool:=
 (vY v_0.gm).bind fun x9=>
   (if x9<0 then
   (some true)
   else ((iP v_0.eF 0 100).bind fun x17=>
   some (!x17))).bind fun Rh=>
   if Rh=true then
   (some false)
   else ((nX).bind fun x20=>
   (rd x20 x9).bind fun x22=>
   (rd x22 0).bind fun x24=>
   (iP v_0.eF (w64 (x24 - 15)) (w64 (x24+15))).bind fun x34=>
   (if x34=true then
   ((zu v_0.bC).bind fun x40=>
   some x40)
   else (some false)).bind fun U5=>
   some U5)
noncomputable def xQ (x_0:aH):Option Bool:=
 (pW x_0.Name).bind fun x7=>
   (if x7=true then
   ((qI x_0.dX).bind fun x12=>
   if x12=true then
   ((iP x_0.Area 1 400000000).bind fun x19=>
   if x19=true then
   ((iP x_0.Priority 1 9).bind fun x26=>
   if x26=true then
   ((iP x_0.wH 0 1000000).bind fun x33=>
   if x33=true then
   ((iP x_0.iV 0 10000).bind fun x40=>
   some x40)
   else (some false))
   else (some false))
   else (some false))
   else (some false))
   else (some false)).bind fun oN=>
   some oN
noncomputable def zx (au:(List aH)) (DJ:Int):Option (Int ⊕ (Unit ⊕ Bool)):=
 if DJ< (au.length:Int) then
  ((rd au DJ).bind fun x12=>
  (xQ x12).bind fun x13=>
  (if x13=true then
  (if DJ>0 then
  ((rd au (w64 (DJ - 1))).bind fun x22=>
  (rd au DJ).bind fun x27=>
  some (!Op.bytesLess x22.Name.toList x27.Name.toList))
  else (some false))
  else (some true)).bind fun Ri=>
  if Ri=true then
  (some (.inr (.inr false)))
  else (some (.inl (w64 (DJ+1)))))
  else (some (.inr (.inl ())))
noncomputable def BJ (au:(List aH)):Option Bool:=
 (aI (zx au) 0).bind fun o=>match o with
   | (.inl _)=>(some (decide ((au.length:Int)≤16)))
   | (.inr r2)=>(some r2)
noncomputable def tY (au:(List aH)) (GY:ByteArray) (yt:Int):Option (Int ⊕ (Unit ⊕ Int)):=
 if yt< (au.length:Int) then
  ((rd au yt).bind fun x14=>
  if x14.Name=GY then
  (some (.inr (.inr yt)))
  else (some (.inl (w64 (yt+1)))))
  else (some (.inr (.inl ())))
noncomputable def AP (au:(List aH)) (GY:ByteArray):Option Int:=
 (aI (tY au GY) 0).bind fun o=>match o with
   | (.inl _)=>(some (-1))
   | (.inr r2)=>(some r2)
noncomputable def ny (au:(List aH)) (x_1:aH) (Dp:Int):Option (Int ⊕ Int):=
 (if Dp>0 then
   ((rd au (w64 (Dp - 1))).bind fun x31=>
   some (!(Op.bytesLess x31.Name.toList x_1.Name.toList||x31.Name.toList==x_1.Name.toList)))
   else (some false)).bind fun Rj=>
   if Rj=true then
   (some (.inl (w64 (Dp - 1))))
   else (some (.inr Dp))
noncomputable def yu (au:(List aH)) (x_1:aH):Option ((List aH)×Int):=
 (BJ au).bind fun x9=>
   (if x9=true then
   ((xQ x_1).bind fun x12=>
   some (!x12))
   else (some true)).bind fun sN=>
   if sN=true then
   (some (([]:List aH),1))
   else ((AP au x_1.Name).bind fun x18=>
   if x18≥0 then
   (some (([]:List aH),4))
   else (if (au.length:Int)=16 then
   (some (([]:List aH),5))
   else ((aI (ny au x_1) (au.length:Int)).bind fun Ee=>
   (slc au 0 Ee).bind fun x43=>
   (apd 80 ([]:List aH) x43).bind fun x44=>
   (apd 80 x44 ([x_1]:List aH)).bind fun x48=>
   (slc au Ee (au.length:Int)).bind fun x52=>
   (apd 80 x48 x52).bind fun x53=>
   some (x53,0))))
noncomputable def pO (BK:Int) (BL:(List aH)) (Ef:(List Int)) (Eg:Int) (Eh:Int):Option ((Int×(List Int)×Int×Int×(List aH)) ⊕ ((List Int)×Int×Int×(List aH))):=
 some (.inl ((w64 (BK - 1)),Ef,Eg,Eh,BL))
noncomputable def lq (s:(Int×(List Int)×Int×Int×(List aH))):Option ((Int×(List Int)×Int×Int×(List aH)) ⊕ ((List Int)×Int×Int×(List aH))):=
 match s with
  | (BK,Ei,Ej,Em,vz)=>
  if BK>0 then
  ((tV (⟨Ei,Ej,Em⟩:aB)).bind fun x17=>
  (yu vz x17.1).bind fun x18=>
  if x18.2=0 then
  (pO BK x18.1 x17.2.code x17.2.at_ x17.2.seed)
  else (pO BK vz x17.2.code x17.2.at_ x17.2.seed))
  else (some (.inr (Ei,Ej,Em,vz)))
noncomputable def AQ (s_0:aB):Option ((List aH)×aB):=
 (aS s_0 7).bind fun x9=>
   (aI (lq) (x9.1,x9.2.code,x9.2.at_,x9.2.seed,([]:List aH))).bind fun o=>match o with
   | (zJ,zK,zL,yw)=>
   some (yw,(⟨zJ,zK,zL⟩:aB))
noncomputable def wR (fU:(List Int)):Option (List aH):=
 (yj fU).bind fun x5=>
   (AQ x5).bind fun x7=>
   some x7.1
noncomputable def Bf (fU:(List Int)) (k_1:Int) (n_2:Int):Option Int:=
 if (n_2≤1∨k_1≥(fU.length:Int)) then
  (some 0)
  else ((rd fU k_1).bind fun x17=>
  (md (w64 (x17)) n_2).bind fun x21=>
  some x21)
noncomputable def rO (fU:(List Int)) (k_1:Int) (n_2:Int):Option Int:=
 (Bf fU k_1 256).bind fun x9=>
   (Bf fU (w64 (k_1+1)) 256).bind fun x14=>
   (md (w64 ((w64 (256*x9))+x14)) n_2).bind fun x17=>
   some x17
noncomputable def fK (s_0:ByteArray) (qH:Int):Option (Int ⊕ (Unit ⊕ Bool)):=
 if qH< (s_0.size:Int) then
  ((bt s_0 qH).bind fun x30=>
  (if x30<97 then
  ((bt s_0 qH).bind fun x41=>
  if x41<48 then
  (some true)
  else ((bt s_0 qH).bind fun x46=>
  some (decide (x46>57))))
  else ((bt s_0 qH).bind fun x35=>
  if x35>122 then
  ((bt s_0 qH).bind fun x41=>
  if x41<48 then
  (some true)
  else ((bt s_0 qH).bind fun x46=>
  some (decide (x46>57))))
  else (some false))).bind fun Rk=>
  if Rk=true then
  (some (.inr (.inr false)))
  else (some (.inl (w64 (qH+1)))))
  else (some (.inr (.inl ())))
noncomputable def iF (s_0:ByteArray):Option Bool:=
 (if (s_0.size:Int) <1 then
   (some true)
   else (if (s_0.size:Int) >10 then
   (some true)
   else ((bt s_0 0).bind fun x14=>
   if x14<97 then
   (some true)
   else ((bt s_0 0).bind fun x19=>
   some (decide (x19>122)))))).bind fun Fe=>
   if Fe=true then
   (some false)
   else ((aI (fK s_0) 0).bind fun o=>match o with
   | (.inl _)=>(some true)
   | (.inr r2)=>(some r2))
noncomputable def oz (lK:ByteArray):Option (Int×Int×Int×Int):=
 if lK=(⟨#[97,115,104]⟩:ByteArray) then
  (some (20,40,310,0))
  else (if lK=(⟨#[98,101,101,99,104]⟩:ByteArray) then
  (some (35,45,410,0))
  else (if lK=(⟨#[98,105,114,99,104]⟩:ByteArray) then
  (some (15,33,280,0))
  else (if lK=(⟨#[99,104,101,114,114,121]⟩:ByteArray) then
  (some (50,36,240,0))
  else (if lK=(⟨#[101,98,111,110,121]⟩:ByteArray) then
  (some (95,85,270,0))
  else (if lK=(⟨#[104,111,108,108,121]⟩:ByteArray) then
  (some (5,35,370,0))
  else (if lK=(⟨#[109,97,112,108,101]⟩:ByteArray) then
  (some (10,42,290,0))
  else (if lK=(⟨#[111,97,107]⟩:ByteArray) then
  (some (40,40,330,0))
  else (if lK=(⟨#[114,111,115,101,119,111,111,100]⟩:ByteArray) then
  (some (80,60,220,0))
  else (if lK=(⟨#[119,97,108,110,117,116]⟩:ByteArray) then
  (some (70,38,260,0))
  else (some (0,0,0,3)))))))))))
noncomputable def fJ (lK:ByteArray):Option (Int×Bool):=
 (oz lK).bind fun x10=>
   some (x10.1,(x10.2.2.2==0))
noncomputable def dO (n_0:Int) (Ed:Int) (yY:Int):Option Bool:=
 some ((decide (n_0≥Ed))&&(decide (n_0≤yY)))
noncomputable def jo (v_0:dW):Option Bool:=
 (fJ v_0.gm).bind fun x8=>
   (if x8.2=true then
   ((dO v_0.eF 0 100).bind fun x15=>
   if x15=true then
   ((dO (w64 (v_0.eF - x8.1)) (-15) 15).bind fun x22=>
   if x22=true then
   ((dO v_0.bC 0 179).bind fun x27=>
   some x27)
   else (some false))
   else (some false))
   else (some false)).bind fun U6=>
   some U6
noncomputable def jQ (x_0:aH):Option Bool:=
 (iF x_0.Name).bind fun x5=>
   (if x5=true then
   ((jo x_0.dX).bind fun x9=>
   if x9=true then
   ((dO x_0.Area 1 400000000).bind fun x14=>
   if x14=true then
   ((dO x_0.Priority 1 9).bind fun x19=>
   if x19=true then
   ((dO x_0.wH 0 1000000).bind fun x24=>
   if x24=true then
   ((dO x_0.iV 0 10000).bind fun x29=>
   some x29)
   else (some false))
   else (some false))
   else (some false))
   else (some false))
   else (some false)).bind fun oN=>
   some oN
noncomputable def fA (au:(List aH)) (oO:Int):Option (Int ⊕ (Unit ⊕ Bool)):=
 if oO< (au.length:Int) then
  ((rd au oO).bind fun x10=>
  (jQ x10).bind fun x13=>
  (if x13=true then
  (if oO>0 then
  ((rd au (w64 (oO - 1))).bind fun x22=>
  some (!Op.bytesLess x22.Name.toList x10.Name.toList))
  else (some false))
  else (some true)).bind fun Ff=>
  if Ff=true then
  (some (.inr (.inr false)))
  else (some (.inl (w64 (oO+1)))))
  else (some (.inr (.inl ())))
noncomputable def eG (au:(List aH)):Option Bool:=
 (aI (fA au) 0).bind fun o=>match o with
   | (.inl _)=>(some (decide ((au.length:Int)≤16)))
   | (.inr r2)=>(some r2)
noncomputable def oC (au:(List aH)) (qU:Int) (kX:Int) (wS:Int):Option Int:=
 (eG au).bind fun x11=>
   if x11=true then
   ((dO wS 1 20000).bind fun x15=>
   (if x15=true then
   ((dO qU 0 16000000).bind fun x19=>
   if x19=true then
   ((dO kX 0 160000).bind fun x24=>
   some (!x24))
   else (some true))
   else (some true)).bind fun Rl=>
   if Rl=true then
   (some 2)
   else (some 0))
   else (some 1)
noncomputable def fB (i_0:Int) (k_1:Int) (vC:(List aH)):Option Int:=
 (rd vC k_1).bind fun x9=>
   (rd vC i_0).bind fun x14=>
   if (w64 (x9.Priority - x14.Priority))≠0 then
   (some (w64 (x9.Priority - x14.Priority)))
   else ((rd vC i_0).bind fun x23=>
   (rd vC k_1).bind fun x28=>
   some (w64 (x23.wH - x28.wH)))
noncomputable def bM (a_1:Int) (Uf:(Int→Int→Option Int)) (s:(Int×(List Int))):Option ((Int×(List Int)) ⊕ (List Int)):=
 match s with
  | (uO,bP)=>
  (if uO>a_1 then
  ((rd bP uO).bind fun x25=>
  (rd bP (w64 (uO - 1))).bind fun x30=>
  (Uf x25 x30).bind fun x32=>
  some (decide (x32<0)))
  else (some false)).bind fun Rn=>
  if Rn=true then
  ((rd bP (w64 (uO - 1))).bind fun x45=>
  (rd bP uO).bind fun x49=>
  (rd bP uO).bind fun x51=>
  (rd (bP.set uO.toNat x45) (w64 (uO - 1))).bind fun x52=>
  some (.inl ((w64 (uO - 1)),((bP.set uO.toNat x45).set ((w64 (uO - 1)).toNat) x49))))
  else (some (.inr bP))
noncomputable def aX (a_1:Int) (b_2:Int) (Uf:(Int→Int→Option Int)) (s:(Int×(List Int))):Option ((Int×(List Int)) ⊕ (List Int)):=
 match s with
  | (DK,aQ)=>
  if DK<b_2 then
  ((aI (bM a_1 Uf) (DK,aQ)).bind fun nR=>
  some (.inl ((w64 (DK+1)),nR)))
  else (some (.inr aQ))
noncomputable def dV (aj:(List Int)) (a_1:Int) (b_2:Int) (Uf:(Int→Int→Option Int)):Option (List Int):=
 (aI (aX a_1 b_2 Uf) ((w64 (a_1+1)),aj)).bind fun r2=>
   some r2
noncomputable def pX (a_1:Int) (b_2:Int) (n_3:Int) (s:(Int×(List Int))):Option ((Int×(List Int)) ⊕ (List Int)):=
 match s with
  | (sO,aQ)=>
  if sO<n_3 then
  ((rd aQ (w64 (b_2+sO))).bind fun x28=>
  (rd aQ (w64 (a_1+sO))).bind fun x34=>
  (rd aQ (w64 (a_1+sO))).bind fun x36=>
  (rd (aQ.set ((w64 (a_1+sO)).toNat) x28) (w64 (b_2+sO))).bind fun x37=>
  some (.inl ((w64 (sO+1)),((aQ.set ((w64 (a_1+sO)).toNat) x28).set ((w64 (b_2+sO)).toNat) x34))))
  else (some (.inr aQ))
noncomputable def iG (aj:(List Int)) (a_1:Int) (b_2:Int) (n_3:Int) (nY:(Int→Int→Option Int)):Option (List Int):=
 (aI (pX a_1 b_2 n_3) (0,aj)).bind fun r2=>
   some r2
noncomputable def rP (nY:(Int→Int→Option Int)) (m_2:Int) (s:(Int×Int×(List Int))):Option ((Int×Int×(List Int)) ⊕ (Int×(List Int))):=
 match s with
  | (sQ,xu,bV)=>
  if sQ≠xu then
  (if sQ>xu then
  ((iG bV (w64 (m_2 - sQ)) m_2 xu nY).bind fun x31=>
  some (.inl ((w64 (sQ - xu)),xu,x31)))
  else ((iG bV (w64 (m_2 - sQ)) (w64 ((w64 (m_2+xu)) - sQ)) sQ nY).bind fun x46=>
  some (.inl (sQ,(w64 (xu - sQ)),x46))))
  else (some (.inr (sQ,bV)))
noncomputable def oP (aj:(List Int)) (a_1:Int) (m_2:Int) (b_3:Int) (nY:(Int→Int→Option Int)):Option (List Int):=
 (aI (rP nY m_2) ((w64 (m_2 - a_1)),(w64 (b_3 - m_2)),aj)).bind fun o=>match o with
   | (Bg,kQ)=>
   (iG kQ (w64 (m_2 - Bg)) m_2 Bg nY).bind fun x57=>
   some x57
noncomputable def qN (self:((List Int)×Int×Int×Int×(Int→Int→Option Int))→Option (List Int)) (fQ:Int) (s:(Int×(List Int))):Option ((Int×(List Int)) ⊕ (List Int)):=
 match s with
  | (sU,jy)=>
  if sU< (w64 (fQ - 1)) then
  ((rd jy (w64 (sU+1))).bind fun x69=>
  (rd jy sU).bind fun x73=>
  (rd jy sU).bind fun x75=>
  (rd (jy.set sU.toNat x69) (w64 (sU+1))).bind fun x76=>
  some (.inl ((w64 (sU+1)),((jy.set sU.toNat x69).set ((w64 (sU+1)).toNat) x73))))
  else (some (.inr jy))
noncomputable def qO (self:((List Int)×Int×Int×Int×(Int→Int→Option Int))→Option (List Int)) (a_1:Int) (nY:(Int→Int→Option Int)) (aj:(List Int)) (s:(Int×Int)):Option ((Int×Int) ⊕ Int):=
 match s with
  | (pY,Fg)=>
  if pY<Fg then
  ((shr .u64 (IntKind.wrap .u64 ((w64 (pY+Fg)))) 1).bind fun x38=>
  (rd aj (w64 (x38))).bind fun x43=>
  (rd aj a_1).bind fun x47=>
  (nY x43 x47).bind fun x49=>
  if x49<0 then
  (some (.inl ((w64 ((w64 (x38))+1)),Fg)))
  else (some (.inl (pY,(w64 (x38))))))
  else (some (.inr pY))
noncomputable def qc (self:((List Int)×Int×Int×Int×(Int→Int→Option Int))→Option (List Int)) (vF:Int) (s:(Int×(List Int))):Option ((Int×(List Int)) ⊕ (List Int)):=
 match s with
  | (oQ,nZ)=>
  if oQ>vF then
  ((rd nZ (w64 (oQ - 1))).bind fun Md=>
  (rd nZ oQ).bind fun KZ=>
  (rd nZ oQ).bind fun abu=>
  (rd (nZ.set oQ.toNat Md) (w64 (oQ - 1))).bind fun aho=>
  some (.inl ((w64 (oQ - 1)),((nZ.set oQ.toNat Md).set ((w64 (oQ - 1)).toNat) KZ))))
  else (some (.inr nZ))
noncomputable def qf (self:((List Int)×Int×Int×Int×(Int→Int→Option Int))→Option (List Int)) (nY:(Int→Int→Option Int)) (aj:(List Int)) (m_2:Int) (s:(Int×Int)):Option ((Int×Int) ⊕ Int):=
 match s with
  | (zM,BM)=>
  if zM<BM then
  ((shr .u64 (IntKind.wrap .u64 ((w64 (zM+BM)))) 1).bind fun x90=>
  (rd aj m_2).bind fun x95=>
  (rd aj (w64 (x90))).bind fun x99=>
  (nY x95 x99).bind fun x101=>
  if x101<0 then
  (some (.inl (zM,(w64 (x90)))))
  else (some (.inl ((w64 ((w64 (x90))+1)),BM))))
  else (some (.inr zM))
noncomputable def iW (self:((List Int)×Int×Int×Int×(Int→Int→Option Int))→Option (List Int)) (b_3:Int) (nY:(Int→Int→Option Int)) (m_2:Int) (ak:Int) (gU:Int) (mD:(List Int)):Option (List Int):=
 if ((w64 (gU)) < (w64 ((w64 ((w64 (gU))+m_2)) - ak))∧(w64 ((w64 ((w64 (gU))+m_2)) - ak)) <b_3) then
  ((self (mD,(w64 (gU)),(w64 ((w64 ((w64 (gU))+m_2)) - ak)),b_3,nY)).bind fun afa=>
  some afa)
  else (some mD)
noncomputable def iY (self:((List Int)×Int×Int×Int×(Int→Int→Option Int))→Option (List Int)) (a_1:Int) (b_3:Int) (nY:(Int→Int→Option Int)) (m_2:Int) (ak:Int) (gU:Int) (lu:(List Int)):Option (List Int):=
 if (a_1<ak∧ak< (w64 (gU))) then
  ((self (lu,a_1,ak,(w64 (gU)),nY)).bind fun aeb=>
  iW self b_3 nY m_2 ak gU aeb)
  else (iW self b_3 nY m_2 ak gU lu)
noncomputable def qg (self:((List Int)×Int×Int×Int×(Int→Int→Option Int))→Option (List Int)) (nY:(Int→Int→Option Int)) (aj:(List Int)) (m_2:Int) (gU:Int) (s:(Int×Int)):Option ((Int×Int) ⊕ Int):=
 match s with
  | (qh,BN)=>
  if qh<BN then
  ((shr .u64 (IntKind.wrap .u64 ((w64 (qh+BN)))) 1).bind fun Yr=>
  (rd aj (w64 ((w64 ((w64 ((w64 (gU))+m_2)) - 1)) - (w64 (Yr))))).bind fun U7=>
  (rd aj (w64 (Yr))).bind fun x167=>
  (nY U7 x167).bind fun abv=>
  if abv<0 then
  (some (.inl (qh,(w64 (Yr)))))
  else (some (.inl ((w64 ((w64 (Yr))+1)),BN))))
  else (some (.inr qh))
noncomputable def iZ (self:((List Int)×Int×Int×Int×(Int→Int→Option Int))→Option (List Int)) (a_1:Int) (b_3:Int) (nY:(Int→Int→Option Int)) (aj:(List Int)) (m_2:Int) (gU:Int) (yx:Int) (GZ:Int):Option (List Int):=
 (aI (qg self nY aj m_2 gU) (yx,GZ)).bind fun ak=>
   if (ak<m_2∧m_2< (w64 ((w64 ((w64 (gU))+m_2)) - ak))) then
   ((oP aj ak m_2 (w64 ((w64 ((w64 (gU))+m_2)) - ak)) nY).bind fun aec=>
   iY self a_1 b_3 nY m_2 ak gU aec)
   else (iY self a_1 b_3 nY m_2 ak gU aj)
noncomputable def lN (self:((List Int)×Int×Int×Int×(Int→Int→Option Int))→Option (List Int)) (aj:(List Int)) (a_1:Int) (m_2:Int) (b_3:Int) (nY:(Int→Int→Option Int)):Option (List Int):=
 if (w64 (m_2 - a_1))=1 then
  ((aI (qO self a_1 nY aj) (m_2,b_3)).bind fun fQ=>
  (aI (qN self fQ) (a_1,aj)).bind fun r2=>
  some r2)
  else (if (w64 (b_3 - m_2))=1 then
  ((aI (qf self nY aj m_2) (a_1,m_2)).bind fun vF=>
  (aI (qc self vF) (m_2,aj)).bind fun r2=>
  some r2)
  else ((shr .u64 (IntKind.wrap .u64 ((w64 (a_1+b_3)))) 1).bind fun gU=>
  if m_2> (w64 (gU)) then
  (iZ self a_1 b_3 nY aj m_2 gU (w64 ((w64 ((w64 (gU))+m_2)) - b_3)) (w64 (gU)))
  else (iZ self a_1 b_3 nY aj m_2 gU a_1 m_2)))
noncomputable def jT (aj:(List Int)) (a_1:Int) (m_2:Int) (b_3:Int) (nY:(Int→Int→Option Int)):Option (List Int):=D9 (fun self s=>match s with | (aj,a_1,m_2,b_3,nY)=>lN self aj a_1 m_2 b_3 nY) (aj,a_1,m_2,b_3,nY)
noncomputable def jq (dw:Int) (zN:(List Int)):Option ((Int×(List Int)) ⊕ (List Int)):=
 some (.inl ((w64 (dw*2)),zN))
noncomputable def rQ (dw:Int) (IM:(Int→Int→Option Int)) (n_1:Int) (s:(Int×Int×(List Int))):Option ((Int×Int×(List Int)) ⊕ (Int×(List Int))):=
 match s with
  | (La,G5,jy)=>
  if G5≤n_1 then
  ((jT jy La (w64 (La+dw)) G5 IM).bind fun x43=>
  some (.inl (G5,(w64 (G5+(w64 (2*dw)))),x43)))
  else (some (.inr (La,jy)))
noncomputable def jF (IM:(Int→Int→Option Int)) (n_1:Int) (s:(Int×(List Int))):Option ((Int×(List Int)) ⊕ (List Int)):=
 match s with
  | (dw,BO)=>
  if dw<n_1 then
  ((aI (rQ dw IM n_1) (0,(w64 (2*dw)),BO)).bind fun o=>match o with
  | (BP,sV)=>
  if (w64 (BP+dw)) <n_1 then
  ((jT sV BP (w64 (BP+dw)) n_1 IM).bind fun x60=>
  jq dw x60)
  else (jq dw sV))
  else (some (.inr BO))
noncomputable def jG (IM:(Int→Int→Option Int)) (n_1:Int) (s:(Int×Int×(List Int))):Option ((Int×Int×(List Int)) ⊕ (Int×(List Int))):=
 match s with
  | (Om,G6,bV)=>
  if G6≤n_1 then
  ((dV bV Om G6 IM).bind fun x18=>
  some (.inl (G6,(w64 (G6+20)),x18)))
  else (some (.inr (Om,bV)))
noncomputable def kR (aj:(List Int)) (n_1:Int) (IM:(Int→Int→Option Int)):Option (List Int):=
 (aI (jG IM n_1) (0,20,aj)).bind fun o=>match o with
   | (G7,kQ)=>
   (dV kQ G7 n_1 IM).bind fun x27=>
   (aI (jF IM n_1) (20,x27)).bind fun r2=>
   some r2
noncomputable def fV (x_0:(List Int)) (afb:(Int→Int→Option Int)):Option (List Int):=
 (kR x_0 (x_0.length:Int) afb).bind fun x8=>
   some x8
noncomputable def vG (au:(List aH)) (s:(Int×(List Int))):Option ((Int×(List Int)) ⊕ (List Int)):=
 match s with
  | (G8,ku)=>
  if G8< (au.length:Int) then
  ((apd 8 ku ([G8]:List Int)).bind fun x14=>
  some (.inl ((w64 (G8+1)),x14)))
  else (some (.inr ku))
noncomputable def zO (au:(List aH)):Option (List Int):=
 (aI (vG au) (0,([]:List Int))).bind fun jH=>
   (fV jH (fun a0 a1=>fB a0 a1 au)).bind fun x18=>
   some x18
noncomputable def yz (JU:Int) (JV:Int):Option Int:=
 (bt (⟨#[0,1,2,2,3,3,3,3,4,4,4,4,4,4,4,4,5,5,5,5,5,5,5,5,5,5,5,5,5,5,5,5,6,6,6,6,6,6,6,6,6,6,6,6,6,6,6,6,6,6,6,6,6,6,6,6,6,6,6,6,6,6,6,6,7,7,7,7,7,7,7,7,7,7,7,7,7,7,7,7,7,7,7,7,7,7,7,7,7,7,7,7,7,7,7,7,7,7,7,7,7,7,7,7,7,7,7,7,7,7,7,7,7,7,7,7,7,7,7,7,7,7,7,7,7,7,7,7,8,8,8,8,8,8,8,8,8,8,8,8,8,8,8,8,8,8,8,8,8,8,8,8,8,8,8,8,8,8,8,8,8,8,8,8,8,8,8,8,8,8,8,8,8,8,8,8,8,8,8,8,8,8,8,8,8,8,8,8,8,8,8,8,8,8,8,8,8,8,8,8,8,8,8,8,8,8,8,8,8,8,8,8,8,8,8,8,8,8,8,8,8,8,8,8,8,8,8,8,8,8,8,8,8,8,8,8,8,8,8,8,8,8,8,8,8,8,8,8,8,8,8,8,8,8,8,8]⟩:ByteArray) (IntKind.wrap .u8 (JU))).bind fun x22=>
   some (w64 (JV+(w64 (x22))))
noncomputable def zy (G9:Int) (He:Int):Option Int:=
 if G9≥256 then
  ((shr .u64 G9 8).bind fun x16=>
  yz x16 (w64 (He+8)))
  else (yz G9 He)
noncomputable def zA (Hf:Int) (Hg:Int):Option Int:=
 if Hf≥65536 then
  ((shr .u64 Hf 16).bind fun x10=>
  zy x10 (w64 (Hg+16)))
  else (zy Hf Hg)
noncomputable def bits_Len64 (x_0:Int):Option Int:=
 if x_0≥4294967296 then
  ((shr .u64 x_0 32).bind fun x6=>
  zA x6 32)
  else (zA x_0 0)
noncomputable def bits_Len (x_0:Int):Option Int:=
 (bits_Len64 x_0).bind fun x7=>
   some x7
noncomputable def tZ (x_0:Int):Option Bool:=
 some (x_0 != x_0)
noncomputable def dL (x_0:Int) (y_1:Int):Option Bool:=
 (tZ x_0).bind fun x6=>
   (if x6=true then
   ((tZ y_1).bind fun x9=>
   if x9=true then
   (some (decide (x_0<y_1)))
   else (some true))
   else (some (decide (x_0<y_1)))).bind fun lQ=>
   some lQ
noncomputable def bQ (a_1:Int) (s:(Int×(List Int))):Option ((Int×(List Int)) ⊕ (List Int)):=
 match s with
  | (uP,bP)=>
  (if uP>a_1 then
  ((rd bP uP).bind fun x22=>
  (rd bP (w64 (uP - 1))).bind fun x27=>
  (dL x22 x27).bind fun x29=>
  some x29)
  else (some false)).bind fun Ro=>
  if Ro=true then
  ((rd bP (w64 (uP - 1))).bind fun x41=>
  (rd bP uP).bind fun x45=>
  (rd bP uP).bind fun x47=>
  (rd (bP.set uP.toNat x41) (w64 (uP - 1))).bind fun x48=>
  some (.inl ((w64 (uP - 1)),((bP.set uP.toNat x41).set ((w64 (uP - 1)).toNat) x45))))
  else (some (.inr bP))
noncomputable def bu (a_1:Int) (b_2:Int) (s:(Int×(List Int))):Option ((Int×(List Int)) ⊕ (List Int)):=
 match s with
  | (DL,aQ)=>
  if DL<b_2 then
  ((aI (bQ a_1) (DL,aQ)).bind fun nR=>
  some (.inl ((w64 (DL+1)),nR)))
  else (some (.inr aQ))
noncomputable def fZ (aj:(List Int)) (a_1:Int) (b_2:Int):Option (List Int):=
 (aI (bu a_1 b_2) ((w64 (a_1+1)),aj)).bind fun r2=>
   some r2
noncomputable def jc (aQ:(List Int)) (iL:Int) (gu:Int) (nC:Int):Option ((Int×(List Int)) ⊕ ((List Int) ⊕ (List Int))):=
 (rd aQ (w64 (iL+gu))).bind fun x43=>
   (rd aQ (w64 (iL+nC))).bind fun x49=>
   (dL x43 x49).bind fun x51=>
   if x51=true then
   ((rd aQ (w64 (iL+nC))).bind fun x65=>
   (rd aQ (w64 (iL+gu))).bind fun x71=>
   (rd aQ (w64 (iL+gu))).bind fun x73=>
   (rd (aQ.set ((w64 (iL+gu)).toNat) x65) (w64 (iL+nC))).bind fun x74=>
   some (.inl (nC,((aQ.set ((w64 (iL+gu)).toNat) x65).set ((w64 (iL+nC)).toNat) x71))))
   else (some (.inr (.inr aQ)))
noncomputable def qP (iL:Int) (Jg:Int) (s:(Int×(List Int))):Option ((Int×(List Int)) ⊕ ((List Int) ⊕ (List Int))):=
 match s with
  | (gu,aQ)=>
  if (w64 ((w64 (2*gu))+1))≥Jg then
  (some (.inr (.inl aQ)))
  else ((if (w64 ((w64 ((w64 (2*gu))+1))+1)) <Jg then
  ((rd aQ (w64 (iL+(w64 ((w64 (2*gu))+1))))).bind fun x26=>
  (rd aQ (w64 ((w64 (iL+(w64 ((w64 (2*gu))+1))))+1))).bind fun x33=>
  (dL x26 x33).bind fun x35=>
  some x35)
  else (some false)).bind fun Rq=>
  if Rq=true then
  (jc aQ iL gu (w64 ((w64 ((w64 (2*gu))+1))+1)))
  else (jc aQ iL gu (w64 ((w64 (2*gu))+1))))
noncomputable def jU (aj:(List Int)) (U8:Int) (Jg:Int) (iL:Int):Option (List Int):=
 (aI (qP iL Jg) (U8,aj)).bind fun o=>match o with
   | (.inl r2)=>(some r2)
   | (.inr r2)=>(some r2)
noncomputable def qQ (a_1:Int) (s:(Int×(List Int))):Option ((Int×(List Int)) ⊕ (List Int)):=
 match s with
  | (xx,qJ)=>
  if xx≥0 then
  ((rd qJ (w64 (a_1+xx))).bind fun x43=>
  (rd qJ a_1).bind fun x47=>
  (rd qJ a_1).bind fun x49=>
  (rd (qJ.set a_1.toNat x43) (w64 (a_1+xx))).bind fun x50=>
  (jU ((qJ.set a_1.toNat x43).set ((w64 (a_1+xx)).toNat) x47) 0 xx a_1).bind fun x55=>
  some (.inl ((w64 (xx - 1)),x55)))
  else (some (.inr qJ))
noncomputable def qR (a_1:Int) (b_2:Int) (s:(Int×(List Int))):Option ((Int×(List Int)) ⊕ (List Int)):=
 match s with
  | (Jh,bP)=>
  if Jh≥0 then
  ((jU bP Jh (w64 (b_2 - a_1)) a_1).bind fun x26=>
  some (.inl ((w64 (Jh - 1)),x26)))
  else (some (.inr bP))
noncomputable def nD (aj:(List Int)) (a_1:Int) (b_2:Int):Option (List Int):=
 (dv .i64 (w64 ((w64 (b_2 - a_1)) - 1)) 2).bind fun x17=>
   (aI (qR a_1 b_2) (x17,aj)).bind fun AU=>
   (aI (qQ a_1) ((w64 ((w64 (b_2 - a_1)) - 1)),AU)).bind fun r2=>
   some r2
noncomputable def je (aj:(List Int)) (a_1:Int) (b_2:Int) (Dq:Int):Option (Int×Int×Int):=
 (rd aj b_2).bind fun x12=>
   (rd aj a_1).bind fun x16=>
   (dL x12 x16).bind fun x18=>
   if x18=true then
   (some (b_2,a_1,(w64 (Dq+1))))
   else (some (a_1,b_2,Dq))
noncomputable def kS (aj:(List Int)) (a_1:Int) (b_2:Int) (c_3:Int) (JW:Int):Option (Int×Int):=
 (je aj a_1 b_2 JW).bind fun x16=>
   (je aj x16.2.1 c_3 x16.2.2).bind fun x24=>
   (je aj x16.1 x24.1 x24.2.2).bind fun x32=>
   some (x32.2.1,x32.2.2)
noncomputable def fM (aj:(List Int)) (a_1:Int) (JX:Int):Option (Int×Int):=
 (kS aj (w64 (a_1 - 1)) a_1 (w64 (a_1+1)) JX).bind fun x14=>
   some (x14.1,x14.2)
noncomputable def iD (BQ:Int) (vZ:Int):Option (Int×Int):=
 if vZ=0 then
  (some (BQ,1))
  else (if vZ=12 then
  (some (BQ,2))
  else (some (BQ,0)))
noncomputable def iE (aj:(List Int)) (Hl:Int) (Ho:Int) (Hq:Int) (yA:Int):Option (Int×Int):=
 (kS aj Hl Ho Hq yA).bind fun x48=>
   iD x48.1 x48.2
noncomputable def lD (aj:(List Int)) (a_1:Int) (b_2:Int):Option (Int×Int):=
 (dv .i64 (w64 (b_2 - a_1)) 4).bind fun x18=>
   (dv .i64 (w64 (b_2 - a_1)) 4).bind fun x23=>
   (dv .i64 (w64 (b_2 - a_1)) 4).bind fun x28=>
   if (w64 (b_2 - a_1))≥8 then
   (if (w64 (b_2 - a_1))≥50 then
   ((fM aj (w64 (a_1+(w64 (x18*1)))) 0).bind fun x37=>
   (fM aj (w64 (a_1+(w64 (x23*2)))) x37.2).bind fun x40=>
   (fM aj (w64 (a_1+(w64 (x28*3)))) x40.2).bind fun x43=>
   iE aj x37.1 x40.1 x43.1 x43.2)
   else (iE aj (w64 (a_1+(w64 (x18*1)))) (w64 (a_1+(w64 (x23*2)))) (w64 (a_1+(w64 (x28*3)))) 0))
   else (iD (w64 (a_1+(w64 (x23*2)))) 0)
noncomputable def og (s:(Int×Int×(List Int))):Option ((Int×Int×(List Int)) ⊕ (List Int)):=
 match s with
  | (BR,DN,bV)=>
  if BR<DN then
  ((rd bV DN).bind fun x20=>
  (rd bV BR).bind fun x24=>
  (rd bV BR).bind fun x26=>
  (rd (bV.set BR.toNat x20) DN).bind fun x27=>
  some (.inl ((w64 (BR+1)),(w64 (DN - 1)),((bV.set BR.toNat x20).set DN.toNat x24))))
  else (some (.inr bV))
noncomputable def kT (aj:(List Int)) (a_1:Int) (b_2:Int):Option (List Int):=
 (aI (og) (a_1,(w64 (b_2 - 1)),aj)).bind fun r2=>
   some r2
noncomputable def eY (lS:Int) (BU:(List Int)) (Oo:Int):Option ((Int×Int×(List Int)) ⊕ ((List Int) ⊕ (Bool×(List Int)))):=
 some (.inl (Oo,(w64 (lS+1)),BU))
noncomputable def kz (b_2:Int) (s:(Int×(List Int))):Option ((Int×(List Int)) ⊕ (List Int)):=
 match s with
  | (lH,jI)=>
  if lH<b_2 then
  ((rd jI lH).bind fun afc=>
  (rd jI (w64 (lH - 1))).bind fun x113=>
  (dL afc x113).bind fun x115=>
  if x115=true then
  ((rd jI (w64 (lH - 1))).bind fun KZ=>
  (rd jI lH).bind fun abw=>
  (rd jI lH).bind fun ahp=>
  (rd (jI.set lH.toNat KZ) (w64 (lH - 1))).bind fun ZX=>
  some (.inl ((w64 (lH+1)),((jI.set lH.toNat KZ).set ((w64 (lH - 1)).toNat) abw))))
  else (some (.inr jI)))
  else (some (.inr jI))
noncomputable def eH (b_2:Int) (dD:Int) (lS:Int) (vH:(List Int)):Option ((Int×Int×(List Int)) ⊕ ((List Int) ⊕ (Bool×(List Int)))):=
 if (w64 (b_2 - dD))≥2 then
  ((aI (kz b_2) ((w64 (dD+1)),vH)).bind fun wU=>
  eY lS wU dD)
  else (eY lS vH dD)
noncomputable def kC (s:(Int×(List Int))):Option ((Int×(List Int)) ⊕ (List Int)):=
 match s with
  | (pq,jJ)=>
  if pq≥1 then
  ((rd jJ pq).bind fun x70=>
  (rd jJ (w64 (pq - 1))).bind fun x75=>
  (dL x70 x75).bind fun x77=>
  if x77=true then
  ((rd jJ (w64 (pq - 1))).bind fun x87=>
  (rd jJ pq).bind fun x91=>
  (rd jJ pq).bind fun x93=>
  (rd (jJ.set pq.toNat x87) (w64 (pq - 1))).bind fun x94=>
  some (.inl ((w64 (pq - 1)),((jJ.set pq.toNat x87).set ((w64 (pq - 1)).toNat) x91))))
  else (some (.inr jJ)))
  else (some (.inr jJ))
noncomputable def kK (b_2:Int) (aO:(List Int)) (Fh:Int):Option (Int ⊕ Int):=
 (if Fh<b_2 then
   ((rd aO Fh).bind fun x23=>
   (rd aO (w64 (Fh - 1))).bind fun x28=>
   (dL x23 x28).bind fun x30=>
   some (!x30))
   else (some false)).bind fun Rt=>
   if Rt=true then
   (some (.inl (w64 (Fh+1))))
   else (some (.inr Fh))
noncomputable def kL (a_1:Int) (b_2:Int) (s:(Int×Int×(List Int))):Option ((Int×Int×(List Int)) ⊕ ((List Int) ⊕ (Bool×(List Int)))):=
 match s with
  | (Ru,lS,aO)=>
  if lS<5 then
  ((aI (kK b_2 aO) Ru).bind fun dD=>
  if dD=b_2 then
  (some (.inr (.inr (true,aO))))
  else (if (w64 (b_2 - a_1)) <50 then
  (some (.inr (.inr (false,aO))))
  else ((rd aO (w64 (dD - 1))).bind fun x50=>
  (rd aO dD).bind fun x54=>
  (rd aO dD).bind fun x56=>
  (rd (aO.set dD.toNat x50) (w64 (dD - 1))).bind fun x57=>
  if (w64 (dD - a_1))≥2 then
  ((aI (kC) ((w64 (dD - 1)),((aO.set dD.toNat x50).set ((w64 (dD - 1)).toNat) x54))).bind fun wV=>
  eH b_2 dD lS wV)
  else (eH b_2 dD lS ((aO.set dD.toNat x50).set ((w64 (dD - 1)).toNat) x54)))))
  else (some (.inr (.inl aO)))
noncomputable def iQ (aj:(List Int)) (a_1:Int) (b_2:Int):Option (Bool×(List Int)):=
 (aI (kL a_1 b_2) ((w64 (a_1+1)),0,aj)).bind fun o=>match o with
   | (.inl kU)=>(some (false,kU))
   | (.inr r2)=>(some r2)
noncomputable def mP (a_1:Int) (aO:(List Int)) (lI:Int) (Dt:Int):Option (Int ⊕ Int):=
 (if lI≤Dt then
   ((rd aO a_1).bind fun x52=>
   (rd aO Dt).bind fun x56=>
   (dL x52 x56).bind fun x58=>
   some x58)
   else (some false)).bind fun Rw=>
   if Rw=true then
   (some (.inl (w64 (Dt - 1))))
   else (some (.inr Dt))
noncomputable def mQ (a_1:Int) (aO:(List Int)) (zB:Int) (yZ:Int):Option (Int ⊕ Int):=
 (if yZ≤zB then
   ((rd aO a_1).bind fun x35=>
   (rd aO yZ).bind fun x39=>
   (dL x35 x39).bind fun x41=>
   some (!x41))
   else (some false)).bind fun Fj=>
   if Fj=true then
   (some (.inl (w64 (yZ+1))))
   else (some (.inr yZ))
noncomputable def lW (a_1:Int) (s:(Int×Int×(List Int))):Option ((Int×Int×(List Int)) ⊕ (Int×(List Int))):=
 match s with
  | (yZ,zB,aO)=>
  (aI (mQ a_1 aO zB) yZ).bind fun lI=>
  (aI (mP a_1 aO lI) zB).bind fun uB=>
  if lI>uB then
  (some (.inr (lI,aO)))
  else ((rd aO uB).bind fun x71=>
  (rd aO lI).bind fun x75=>
  (rd aO lI).bind fun x77=>
  (rd (aO.set lI.toNat x71) uB).bind fun x78=>
  some (.inl ((w64 (lI+1)),(w64 (uB - 1)),((aO.set lI.toNat x71).set uB.toNat x75))))
noncomputable def jX (aj:(List Int)) (a_1:Int) (b_2:Int) (eu:Int):Option (Int×(List Int)):=
 (rd aj eu).bind fun x17=>
   (rd aj a_1).bind fun x21=>
   (rd aj a_1).bind fun x23=>
   (rd (aj.set a_1.toNat x17) eu).bind fun x24=>
   (aI (lW a_1) ((w64 (a_1+1)),(w64 (b_2 - 1)),((aj.set a_1.toNat x17).set eu.toNat x21))).bind fun o=>match o with
   | (Hr,kU)=>
   some (Hr,kU)
noncomputable def pG (a_1:Int) (dP:(List Int)) (jf:Int) (zQ:Int):Option (Int ⊕ Int):=
 (if jf≤zQ then
   ((rd dP zQ).bind fun Md=>
   (rd dP a_1).bind fun KZ=>
   (dL Md KZ).bind fun abu=>
   some (!abu))
   else (some false)).bind fun Lc=>
   if Lc=true then
   (some (.inl (w64 (zQ - 1))))
   else (some (.inr zQ))
noncomputable def pI (a_1:Int) (dP:(List Int)) (wW:Int) (qZ:Int):Option (Int ⊕ Int):=
 (if qZ≤wW then
   ((rd dP qZ).bind fun x105=>
   (rd dP a_1).bind fun afd=>
   (dL x105 afd).bind fun afe=>
   some afe)
   else (some false)).bind fun Ld=>
   if Ld=true then
   (some (.inl (w64 (qZ+1))))
   else (some (.inr qZ))
noncomputable def oh (a_1:Int) (s:(Int×Int×(List Int))):Option ((Int×Int×(List Int)) ⊕ (Int×(List Int))):=
 match s with
  | (qZ,wW,dP)=>
  (aI (pI a_1 dP wW) qZ).bind fun jf=>
  (aI (pG a_1 dP jf) wW).bind fun oU=>
  if jf>oU then
  (some (.inr (oU,dP)))
  else ((rd dP oU).bind fun Ug=>
  (rd dP jf).bind fun abx=>
  (rd dP jf).bind fun ahq=>
  (rd (dP.set jf.toNat Ug) oU).bind fun ahr=>
  some (.inl ((w64 (jf+1)),(w64 (oU - 1)),((dP.set jf.toNat Ug).set oU.toNat abx))))
noncomputable def qi (a_1:Int) (aj:(List Int)) (fQ:Int) (eu:Int) (x18:Int) (x22:Int) (Du:Int):Option (Int ⊕ Int):=
 (if fQ≤Du then
   ((rd ((aj.set a_1.toNat x18).set eu.toNat x22) Du).bind fun x52=>
   (rd ((aj.set a_1.toNat x18).set eu.toNat x22) a_1).bind fun x56=>
   (dL x52 x56).bind fun x58=>
   some (!x58))
   else (some false)).bind fun Rx=>
   if Rx=true then
   (some (.inl (w64 (Du - 1))))
   else (some (.inr Du))
noncomputable def qj (a_1:Int) (b_2:Int) (aj:(List Int)) (eu:Int) (x18:Int) (x22:Int) (pY:Int):Option (Int ⊕ Int):=
 (if pY≤(w64 (b_2 - 1)) then
   ((rd ((aj.set a_1.toNat x18).set eu.toNat x22) pY).bind fun x36=>
   (rd ((aj.set a_1.toNat x18).set eu.toNat x22) a_1).bind fun x40=>
   (dL x36 x40).bind fun x42=>
   some x42)
   else (some false)).bind fun Fj=>
   if Fj=true then
   (some (.inl (w64 (pY+1))))
   else (some (.inr pY))
noncomputable def mF (aj:(List Int)) (a_1:Int) (b_2:Int) (eu:Int):Option (Int×Bool×(List Int)):=
 (rd aj eu).bind fun x18=>
   (rd aj a_1).bind fun x22=>
   (rd aj a_1).bind fun x24=>
   (rd (aj.set a_1.toNat x18) eu).bind fun x25=>
   (aI (qj a_1 b_2 aj eu x18 x22) (w64 (a_1+1))).bind fun fQ=>
   (aI (qi a_1 aj fQ eu x18 x22) (w64 (b_2 - 1))).bind fun kD=>
   if fQ>kD then
   ((rd ((aj.set a_1.toNat x18).set eu.toNat x22) a_1).bind fun x72=>
   (rd ((aj.set a_1.toNat x18).set eu.toNat x22) kD).bind fun x76=>
   (rd ((aj.set a_1.toNat x18).set eu.toNat x22) kD).bind fun x78=>
   (rd (((aj.set a_1.toNat x18).set eu.toNat x22).set kD.toNat x72) a_1).bind fun x79=>
   some (kD,true,((((aj.set a_1.toNat x18).set eu.toNat x22).set kD.toNat x72).set a_1.toNat x76)))
   else ((rd ((aj.set a_1.toNat x18).set eu.toNat x22) kD).bind fun x87=>
   (rd ((aj.set a_1.toNat x18).set eu.toNat x22) fQ).bind fun x91=>
   (rd ((aj.set a_1.toNat x18).set eu.toNat x22) fQ).bind fun x93=>
   (rd (((aj.set a_1.toNat x18).set eu.toNat x22).set fQ.toNat x87) kD).bind fun x94=>
   (aI (oh a_1) ((w64 (fQ+1)),(w64 (kD - 1)),((((aj.set a_1.toNat x18).set eu.toNat x22).set fQ.toNat x87).set kD.toNat x91))).bind fun o=>match o with
   | (oV,kM)=>
   (rd kM a_1).bind fun x159=>
   (rd kM oV).bind fun U7=>
   (rd kM oV).bind fun ahs=>
   (rd (kM.set oV.toNat x159) a_1).bind fun aht=>
   some (oV,false,((kM.set oV.toNat x159).set a_1.toNat U7)))
noncomputable def uQ (JY:Int):Option Int:=
 (bits_Len (IntKind.wrap .u64 (JY))).bind fun x5=>
   (shl .u64 1 x5).bind fun x6=>
   some x6
noncomputable def vI (r_0:Int):Option (Int×Int):=
 (shl .u64 r_0 13).bind fun x9=>
   (shr .u64 (sJ .u64 r_0 x9) 7).bind fun x18=>
   (shl .u64 (sJ .u64 (sJ .u64 r_0 x9) x18) 17).bind fun x27=>
   some ((sJ .u64 (sJ .u64 (sJ .u64 r_0 x9) x18) x27),(sJ .u64 (sJ .u64 (sJ .u64 r_0 x9) x18) x27))
noncomputable def gI (a_1:Int) (jA:(List Int)) (mG:Int) (x36:(Int×Int)) (ql:Int):Option ((Int×(List Int)×Int) ⊕ (List Int)):=
 (rd jA (w64 (a_1+ql))).bind fun x57=>
   (rd jA mG).bind fun x61=>
   (rd jA mG).bind fun x63=>
   (rd (jA.set mG.toNat x57) (w64 (a_1+ql))).bind fun x64=>
   some (.inl ((w64 (mG+1)),((jA.set mG.toNat x57).set ((w64 (a_1+ql)).toNat) x61),x36.2))
noncomputable def nJ (a_1:Int) (b_2:Int) (x19:Int) (s:(Int×(List Int)×Int)):Option ((Int×(List Int)×Int) ⊕ (List Int)):=
 match s with
  | (mG,jA,AX)=>
  (dv .i64 (w64 (b_2 - a_1)) 4).bind fun x29=>
  if mG≤(w64 ((w64 (a_1+(w64 (x29*2))))+1)) then
  ((vI AX).bind fun x36=>
  if (w64 ((zq .u64 x36.1 (IntKind.wrap .u64 (x19 - 1)))))≥(w64 (b_2 - a_1)) then
  (gI a_1 jA mG x36 (w64 ((w64 ((zq .u64 x36.1 (IntKind.wrap .u64 (x19 - 1))))) - (w64 (b_2 - a_1)))))
  else (gI a_1 jA mG x36 (w64 ((zq .u64 x36.1 (IntKind.wrap .u64 (x19 - 1)))))))
  else (some (.inr jA))
noncomputable def kH (aj:(List Int)) (a_1:Int) (b_2:Int):Option (List Int):=
 if (w64 (b_2 - a_1))≥8 then
  ((uQ (w64 (b_2 - a_1))).bind fun x19=>
  (dv .i64 (w64 (b_2 - a_1)) 4).bind fun x22=>
  (aI (nJ a_1 b_2 x19) ((w64 ((w64 (a_1+(w64 (x22*2)))) - 1)),aj,(IntKind.wrap .u64 ((w64 (b_2 - a_1)))))).bind fun r2=>
  some r2)
  else (some aj)
noncomputable def fC (self:((List Int)×Int×Int×Int)→Option (List Int)) (cZ:Int) (dh:Int) (bF:Int) (eP:Int) (aC:Bool) (az:Bool) (qm:(List Int)):Option ((Int×Int×Int×Bool×Bool×(List Int)) ⊕ (List Int)):=
 (if cZ>0 then
   ((rd qm (w64 (cZ - 1))).bind fun x79=>
   (rd qm eP).bind fun x83=>
   (dL x79 x83).bind fun x85=>
   some (!x85))
   else (some false)).bind fun Oq=>
   if Oq=true then
   ((jX qm cZ dh eP).bind fun x92=>
   some (.inl (x92.1,dh,bF,aC,az,x92.2)))
   else ((mF qm cZ dh eP).bind fun x99=>
   (dv .i64 (w64 (dh - cZ)) 8).bind fun ZY=>
   if (w64 (x99.1 - cZ)) < (w64 (dh - x99.1)) then
   ((self (x99.2.2,cZ,x99.1,bF)).bind fun Md=>
   some (.inl ((w64 (x99.1+1)),dh,bF,(decide ((w64 (x99.1 - cZ))≥ZY)),x99.2.1,Md)))
   else ((self (x99.2.2,(w64 (x99.1+1)),dh,bF)).bind fun ZX=>
   some (.inl (cZ,x99.1,bF,(decide ((w64 (dh - x99.1))≥ZY)),x99.2.1,ZX))))
noncomputable def fD (self:((List Int)×Int×Int×Int)→Option (List Int)) (cZ:Int) (dh:Int) (bF:Int) (aC:Bool) (az:Bool) (eP:Int) (vJ:Int) (jK:(List Int)):Option ((Int×Int×Int×Bool×Bool×(List Int)) ⊕ (List Int)):=
 if (aC=true∧(az=true∧vJ=1)) then
  ((iQ jK cZ dh).bind fun x72=>
  if x72.1=true then
  (some (.inr x72.2))
  else (fC self cZ dh bF eP aC az x72.2))
  else (fC self cZ dh bF eP aC az jK)
noncomputable def fE (self:((List Int)×Int×Int×Int)→Option (List Int)) (cZ:Int) (dh:Int) (aC:Bool) (az:Bool) (bF:Int) (rU:(List Int)):Option ((Int×Int×Int×Bool×Bool×(List Int)) ⊕ (List Int)):=
 (lD rU cZ dh).bind fun x46=>
   if x46.2=2 then
   ((kT rU cZ dh).bind fun x54=>
   fD self cZ dh bF aC az (w64 ((w64 (dh - 1)) - (w64 (x46.1 - cZ)))) 1 x54)
   else (fD self cZ dh bF aC az x46.1 x46.2 rU)
noncomputable def jr (self:((List Int)×Int×Int×Int)→Option (List Int)) (s:(Int×Int×Int×Bool×Bool×(List Int))):Option ((Int×Int×Int×Bool×Bool×(List Int)) ⊕ (List Int)):=
 match s with
  | (cZ,dh,sW,aC,az,bV)=>
  if (w64 (dh - cZ))≤12 then
  ((fZ bV cZ dh).bind fun x27=>
  some (.inr x27))
  else (if sW=0 then
  ((nD bV cZ dh).bind fun x33=>
  some (.inr x33))
  else (if aC=true then
  (fE self cZ dh aC az sW bV)
  else ((kH bV cZ dh).bind fun x39=>
  fE self cZ dh aC az (w64 (sW - 1)) x39)))
noncomputable def dY (self:((List Int)×Int×Int×Int)→Option (List Int)) (aj:(List Int)) (a_1:Int) (b_2:Int) (qo:Int):Option (List Int):=
 (aI (jr self) (a_1,b_2,qo,true,true,aj)).bind fun r2=>
   some r2
noncomputable def kF (aj:(List Int)) (a_1:Int) (b_2:Int) (qo:Int):Option (List Int):=D9 (fun self s=>match s with | (aj,a_1,b_2,qo)=>dY self aj a_1 b_2 qo) (aj,a_1,b_2,qo)
noncomputable def gZ (x_0:(List Int)):Option (List Int):=
 (bits_Len (IntKind.wrap .u64 ((x_0.length:Int)))).bind fun x9=>
   (kF x_0 0 (x_0.length:Int) x9).bind fun x10=>
   some x10
noncomputable def jv (qp:Int) (zS:Int) (wX:Int) (BV:(List Int)):Option ((Int×Int×Int×(List Int)) ⊕ (List Int)):=
 some (.inl (zS,wX,(w64 (qp+1)),BV))
noncomputable def fO (au:(List aH)) (x22:(List Int)) (s:(Int×Int×Int×(List Int))):Option ((Int×Int×Int×(List Int)) ⊕ (List Int)):=
 match s with
  | (jB,gV,qp,oD)=>
  if qp< (x22.length:Int) then
  ((rd x22 qp).bind fun x26=>
  (rd au x26).bind fun x30=>
  if (x30.wH≤jB∧x30.iV≤gV) then
  ((apd 8 oD ([x26]:List Int)).bind fun x45=>
  jv qp (w64 (jB - x30.wH)) (w64 (gV - x30.iV)) x45)
  else (jv qp jB gV oD))
  else (some (.inr oD))
noncomputable def oW (au:(List aH)) (qU:Int) (kX:Int):Option ((List Int)×Int):=
 (oC au qU kX 1).bind fun x16=>
   if x16≠0 then
   (some (([]:List Int),x16))
   else ((zO au).bind fun x22=>
   (aI (fO au x22) (qU,kX,0,([]:List Int))).bind fun Dv=>
   (gZ Dv).bind fun x56=>
   some (x56,0))
noncomputable def gG (self:(aJ×(List Int)×Int×Int×Int×Int)→Option (Bool×aJ)) (kG:Int) (En:(List aH)) (Eo:Int) (Ep:(List Int)) (Es:Int):Option ((Int×(List aH)×Int×(List Int)×Int) ⊕ (((List aH)×Int×(List Int)×Int) ⊕ (Bool×aJ))):=
 some (.inl ((w64 (kG+1)),En,Eo,Ep,Es))
noncomputable def bW (self:(aJ×(List Int)×Int×Int×Int×Int)→Option (Bool×aJ)) (dI:(List Int)) (bT:Int) (fP:Int) (bz:Int) (s:(Int×(List aH)×Int×(List Int)×Int)):Option ((Int×(List aH)×Int×(List Int)×Int) ⊕ (((List aH)×Int×(List Int)×Int) ⊕ (Bool×aJ))):=
 match s with
  | (kG,lT,oG,oH,oI)=>
  if kG< (lT.length:Int) then
  ((rd lT kG).bind fun x56=>
  if (x56.wH>fP∨x56.iV>bT) then
  (gG self kG lT oG oH oI)
  else ((apd 8 ([]:List Int) dI).bind fun x70=>
  (apd 8 x70 ([kG]:List Int)).bind fun x73=>
  (self ((⟨lT,oG,oH,oI⟩:aJ),x73,(w64 (kG+1)),(w64 (bz+x56.Priority)),(w64 (fP - x56.wH)),(w64 (bT - x56.iV)))).bind fun x88=>
  if x88.1=true then
  (some (.inr (.inr (true,x88.2))))
  else (gG self kG x88.2.list x88.2.left x88.2.best x88.2.most)))
  else (some (.inr (.inl (lT,oG,oH,oI))))
noncomputable def iM (self:(aJ×(List Int)×Int×Int×Int×Int)→Option (Bool×aJ)) (dI:(List Int)) (oZ:Int) (bT:Int) (fP:Int) (bz:Int) (s_0:aJ) (qY:(List Int)) (Et:Int):Option (Bool×aJ):=
 (aI (bW self dI bT fP bz) (oZ,s_0.list,(w64 (s_0.left - 1)),qY,Et)).bind fun o=>match o with
   | (.inl (vK,vM,vN,vO))=>(some (false,(⟨vK,vM,vN,vO⟩:aJ)))
   | (.inr r2)=>(some r2)
noncomputable def ig (self:(aJ×(List Int)×Int×Int×Int×Int)→Option (Bool×aJ)) (s_0:aJ) (dI:(List Int)) (oZ:Int) (bz:Int) (fP:Int) (bT:Int):Option (Bool×aJ):=
 if s_0.left=0 then
  (some (true,s_0))
  else (if bz>s_0.most then
  (iM self dI oZ bT fP bz s_0 dI bz)
  else (iM self dI oZ bT fP bz s_0 s_0.best s_0.most))
noncomputable def iT (s_0:aJ) (dI:(List Int)) (oZ:Int) (bz:Int) (fP:Int) (bT:Int):Option (Bool×aJ):=D9 (fun self s=>match s with | (s_0,dI,oZ,bz,fP,bT)=>ig self s_0 dI oZ bz fP bT) (s_0,dI,oZ,bz,fP,bT)
noncomputable def rf (au:(List aH)) (qU:Int) (kX:Int) (wS:Int):Option ((List Int)×Int×Int):=
 (oC au qU kX wS).bind fun x17=>
   if x17≠0 then
   (some (([]:List Int),0,x17))
   else ((iT (⟨au,wS,([]:List Int),0⟩:aJ) ([]:List Int) 0 0 qU kX).bind fun x28=>
   if x28.1=true then
   (some (([]:List Int),0,5))
   else (some (x28.2.best,x28.2.most,0)))
noncomputable def rq (o5:(List Int)) (au:(List aH)) (s:(Int×Int×Int×Int)):Option ((Int×Int×Int×Int) ⊕ ((Int×Int×Int) ⊕ (Int×Int×Int×Int))):=
 match s with
  | (uC,Bh,uD,AY)=>
  if AY< (o5.length:Int) then
  ((rd o5 AY).bind fun x21=>
  (dO x21 0 (w64 ((au.length:Int) - 1))).bind fun x27=>
  (if x27=true then
  (if AY>0 then
  ((rd o5 (w64 (AY - 1))).bind fun x36=>
  some (decide (x36≥x21)))
  else (some false))
  else (some true)).bind fun Ry=>
  if Ry=true then
  (some (.inr (.inr (0,0,0,2))))
  else ((rd au x21).bind fun x45=>
  (rd au x21).bind fun x52=>
  (rd au x21).bind fun x59=>
  some (.inl ((w64 (uC+x45.Priority)),(w64 (Bh+x52.wH)),(w64 (uD+x59.iV)),(w64 (AY+1))))))
  else (some (.inr (.inl (uC,Bh,uD))))
noncomputable def uF (au:(List aH)) (o5:(List Int)):Option (Int×Int×Int×Int):=
 (eG au).bind fun x14=>
   if x14=true then
   ((aI (rq o5 au) (0,0,0,0)).bind fun o=>match o with
   | (.inl (ug,zT,uh))=>(some (ug,zT,uh,0))
   | (.inr r2)=>(some r2))
   else (some (0,0,0,1))
noncomputable def uj (s_0:aB) (mV:Int) (jR:Int):Option (cO×aB):=
 (aS s_0 (w64 (mV - 2))).bind fun x11=>
   (aS x11.2 (w64 (jR - 2))).bind fun x16=>
   (rM 60 (w64 (mV - x11.1))).bind fun x23=>
   (aS x16.2 x23).bind fun x24=>
   (rM 60 (w64 (jR - x16.1))).bind fun x32=>
   (aS x24.2 x32).bind fun x33=>
   some ((⟨x11.1,x16.1,(w64 (1+x24.1)),(w64 (1+x33.1))⟩:cO),x33.2)
noncomputable def lU (x18:(Int×aB)) (x22:(Int×aB)) (s:(Int×(List Int)×Int×Int×(List cO))):Option ((Int×(List Int)×Int×Int×(List cO)) ⊕ ((List Int)×Int×Int×(List cO))):=
 match s with
  | (Le,Eu,Ew,Ey,Ez)=>
  if Le>0 then
  ((uj (⟨Eu,Ew,Ey⟩:aB) (w64 (100+x18.1)) (w64 (100+x22.1))).bind fun x38=>
  (apd 32 Ez ([x38.1]:List cO)).bind fun x40=>
  some (.inl ((w64 (Le - 1)),x38.2.code,x38.2.at_,x38.2.seed,x40)))
  else (some (.inr (Eu,Ew,Ey,Ez)))
noncomputable def uk (s_0:aB) (Lh:ByteArray):Option (dH×aB):=
 (jm s_0 ([(⟨#[102,49]⟩:ByteArray),(⟨#[102,50]⟩:ByteArray)]:List ByteArray)).bind fun x10=>
   (aS x10.2 20).bind fun x12=>
   (vX x12.2).bind fun x15=>
   (aS x15.2 900).bind fun x18=>
   (aS x18.2 900).bind fun x22=>
   (aS x22.2 4).bind fun x26=>
   (aI (lU x18 x22) (x26.1,x26.2.code,x26.2.at_,x26.2.seed,([]:List cO))).bind fun o=>match o with
   | (zU,zV,zW,zX)=>
   some ((⟨Lh,x10.1,x12.1,x15.1,(w64 (100+x18.1)),(w64 (100+x22.1)),zX⟩:dH),(⟨zU,zV,zW⟩:aB))
noncomputable def nG (x9:(Int×aB)) (s:(Int×(List Int)×Int×Int×(List dH))):Option ((Int×(List Int)×Int×Int×(List dH)) ⊕ ((List Int)×Int×Int×(List dH))):=
 match s with
  | (Ji,EC,ED,EE,EF)=>
  if Ji<x9.1 then
  ((rd ([(⟨#[97]⟩:ByteArray),(⟨#[98]⟩:ByteArray),(⟨#[99]⟩:ByteArray),(⟨#[100]⟩:ByteArray)]:List ByteArray) Ji).bind fun x20=>
  (uk (⟨EC,ED,EE⟩:aB) x20).bind fun x22=>
  (apd 112 EF ([x22.1]:List dH)).bind fun x24=>
  some (.inl ((w64 (Ji+1)),x22.2.code,x22.2.at_,x22.2.seed,x24)))
  else (some (.inr (EC,ED,EE,EF)))
noncomputable def AZ (s_0:aB):Option ((List dH)×aB):=
 (aS s_0 5).bind fun x9=>
   (aI (nG x9) (0,x9.2.code,x9.2.at_,x9.2.seed,([]:List dH))).bind fun o=>match o with
   | (zY,zZ,Aa,Ac)=>
   some (Ac,(⟨zY,zZ,Aa⟩:aB))
noncomputable def wY (fU:(List Int)):Option (List dH):=
 (yj fU).bind fun x5=>
   (AZ x5).bind fun x7=>
   some x7.1
noncomputable def mJ (b_0:cO) (mV:Int) (jR:Int):Option Bool:=
 (dO b_0.X 0 mV).bind fun x10=>
   (if x10=true then
   ((dO b_0.Y 0 jR).bind fun x15=>
   if x15=true then
   ((dO b_0.Width 1 (w64 (mV - b_0.X))).bind fun x24=>
   if x24=true then
   ((dO b_0.Length 1 (w64 (jR - b_0.Y))).bind fun x33=>
   some x33)
   else (some false))
   else (some false))
   else (some false)).bind fun o6=>
   some o6
noncomputable def jL (b_0:cO) (vC:ByteArray) (Ht:ByteArray) (Hu:Int) (Hw:ByteArray) (U9:Int) (Va:Int) (Rz:Int) (RD:Int) (Vb:(List cO)):Option Bool:=
 (mJ b_0 Rz RD).bind fun x9=>
   some (!x9)
noncomputable def aW (f_1:(cO→Option Bool)) (s_0:(List cO)) (DR:Int):Option (Int ⊕ (Unit ⊕ Int)):=
 if DR< (s_0.length:Int) then
  ((rd s_0 DR).bind fun x14=>
  (f_1 x14).bind fun x16=>
  if x16=true then
  (some (.inr (.inr DR)))
  else (some (.inl (w64 (DR+1)))))
  else (some (.inr (.inl ())))
noncomputable def di (s_0:(List cO)) (f_1:(cO→Option Bool)):Option Int:=
 (aI (aW f_1 s_0) 0).bind fun o=>match o with
   | (.inl _)=>(some (-1))
   | (.inr r2)=>(some r2)
noncomputable def aN (s_0:(List cO)) (f_1:(cO→Option Bool)):Option Bool:=
 (di s_0 f_1).bind fun x7=>
   some (decide (x7≥0))
noncomputable def o7 (l_0:dH):Option Bool:=
 (iF l_0.Id).bind fun x5=>
   (if x5=true then
   ((iF l_0.Fb).bind fun x10=>
   if x10=true then
   ((dO l_0.Number 0 999).bind fun x16=>
   if x16=true then
   ((jo l_0.dX).bind fun x22=>
   some (!x22))
   else (some true))
   else (some true))
   else (some true)).bind fun RF=>
   if RF=true then
   (some false)
   else ((dO l_0.Width 10 20000).bind fun x27=>
   (if x27=true then
   ((dO l_0.Length 10 20000).bind fun x32=>
   if x32=true then
   (some (decide ((l_0.aG.length:Int) >6)))
   else (some true))
   else (some true)).bind fun RG=>
   if RG=true then
   (some false)
   else ((aN l_0.aG (fun a0=>jL a0 l_0.Id l_0.Fb l_0.Number l_0.dX.gm l_0.dX.eF l_0.dX.bC l_0.Width l_0.Length l_0.aG)).bind fun x44=>
   some (!x44)))
noncomputable def kZ (au:(List dH)) (oO:Int):Option (Int ⊕ (Unit ⊕ Bool)):=
 if oO< (au.length:Int) then
  ((rd au oO).bind fun x10=>
  (o7 x10).bind fun x13=>
  (if x13=true then
  (if oO>0 then
  ((rd au (w64 (oO - 1))).bind fun x22=>
  some (!Op.bytesLess x22.Id.toList x10.Id.toList))
  else (some false))
  else (some true)).bind fun Ff=>
  if Ff=true then
  (some (.inr (.inr false)))
  else (some (.inl (w64 (oO+1)))))
  else (some (.inr (.inl ())))
noncomputable def ru (au:(List dH)):Option Bool:=
 (aI (kZ au) 0).bind fun o=>match o with
   | (.inl _)=>(some (decide ((au.length:Int)≤16)))
   | (.inr r2)=>(some r2)
noncomputable def Dw (a_0:cO) (b_1:cO):Option (cO×Bool):=
 some ((⟨(max2 a_0.X b_1.X),(max2 a_0.Y b_1.Y),(w64 ((min2 (w64 (a_0.X+a_0.Width)) (w64 (b_1.X+b_1.Width))) - (max2 a_0.X b_1.X))),(w64 ((min2 (w64 (a_0.Y+a_0.Length)) (w64 (b_1.Y+b_1.Length))) - (max2 a_0.Y b_1.Y)))⟩:cO),((decide ((w64 ((min2 (w64 (a_0.X+a_0.Width)) (w64 (b_1.X+b_1.Width))) - (max2 a_0.X b_1.X))) >0))&&(decide ((w64 ((min2 (w64 (a_0.Y+a_0.Length)) (w64 (b_1.Y+b_1.Length))) - (max2 a_0.Y b_1.Y))) >0))))
noncomputable def yB (a_0:cO) (b_1:cO):Option Bool:=
 (Dw a_0 b_1).bind fun x10=>
   some x10.2
noncomputable def jg (b_0:cO) (vC:Int) (Ht:Int) (Hu:Int) (Hw:Int):Option Bool:=
 (yB b_0 (⟨vC,Ht,Hu,Hw⟩:cO)).bind fun x6=>
   some x6
noncomputable def nK (qw:Int) (EG:Int):Option ((Int×Int) ⊕ Int):=
 some (.inl (EG,(w64 (qw+1))))
noncomputable def nM (uV:Int) (l_0:dH) (x50:(List Int)) (x52:(List Int)) (s:(Int×Int)):Option ((Int×Int) ⊕ Int):=
 match s with
  | (wo,qw)=>
  if qw< (x52.length:Int) then
  ((rd x50 (w64 (uV - 1))).bind fun x68=>
  (rd x52 (w64 (qw - 1))).bind fun x73=>
  (rd x50 uV).bind fun x77=>
  (rd x50 (w64 (uV - 1))).bind fun x82=>
  (rd x52 qw).bind fun x87=>
  (rd x52 (w64 (qw - 1))).bind fun x92=>
  (aN l_0.aG (fun a0=>jg a0 x68 x73 (w64 (x77 - x82)) (w64 (x87 - x92)))).bind fun x99=>
  if x99=true then
  (nK qw wo)
  else (nK qw (w64 (wo+(w64 ((w64 (x77 - x82)) * (w64 (x87 - x92))))))))
  else (some (.inr wo))
noncomputable def lg (l_0:dH) (x50:(List Int)) (x52:(List Int)) (s:(Int×Int)):Option ((Int×Int) ⊕ Int):=
 match s with
  | (EH,uV)=>
  if uV< (x50.length:Int) then
  ((aI (nM uV l_0 x50 x52) (EH,1)).bind fun Dx=>
  some (.inl (Dx,(w64 (uV+1)))))
  else (some (.inr EH))
noncomputable def lV (l_0:dH) (s:(Int×(List Int)×(List Int))):Option ((Int×(List Int)×(List Int)) ⊕ ((List Int)×(List Int))):=
 match s with
  | (dQ,EI,EJ)=>
  if dQ< (l_0.aG.length:Int) then
  ((rd l_0.aG dQ).bind fun x26=>
  (apd 8 EI ([x26.X,(w64 (x26.X+x26.Width))]:List Int)).bind fun x37=>
  (apd 8 EJ ([x26.Y,(w64 (x26.Y+x26.Length))]:List Int)).bind fun x47=>
  some (.inl ((w64 (dQ+1)),x37,x47)))
  else (some (.inr (EI,EJ)))
noncomputable def pR (l_0:dH):Option (Int×Int):=
 (o7 l_0).bind fun x13=>
   if x13=true then
   ((aI (lV l_0) (0,([0,l_0.Width]:List Int),([0,l_0.Length]:List Int))).bind fun o=>match o with
   | (BX,y5)=>
   (gZ BX).bind fun x50=>
   (gZ y5).bind fun x52=>
   (aI (lg l_0 x50 x52) (0,1)).bind fun Dy=>
   some (Dy,0))
   else (some (0,1))
noncomputable def xy (a_0:Int) (b_1:Int):Option (Int×Int):=
 (dO a_0 0 179).bind fun x8=>
   (if x8=true then
   ((dO b_1 0 179).bind fun x12=>
   some (!x12))
   else (some true)).bind fun sN=>
   if sN=true then
   (some (0,2))
   else (some ((min2 (max2 (w64 (a_0 - b_1)) (w64 (b_1 - a_0))) (w64 (180 - (max2 (w64 (a_0 - b_1)) (w64 (b_1 - a_0)))))),0))
noncomputable def wZ (a_0:dW) (b_1:dW):Option Int:=
 (xy a_0.bC b_1.bC).bind fun x12=>
   (dv .i64 x12.1 6).bind fun x27=>
   some (w64 ((max2 (w64 (a_0.eF - b_1.eF)) (w64 (b_1.eF - a_0.eF)))+x27))
noncomputable def kE (dQ:Int) (BZ:Int) (Ad:Int):Option ((Int×Int×Int) ⊕ (Int×Int)):=
 some (.inl (BZ,Ad,(w64 (dQ+1))))
noncomputable def jC (dS:(List dH)) (x_0:aH) (s:(Int×Int×Int)):Option ((Int×Int×Int) ⊕ (Int×Int)):=
 match s with
  | (iH,gq,dQ)=>
  if dQ< (dS.length:Int) then
  ((rd dS dQ).bind fun x27=>
  (pR x27).bind fun x31=>
  if (¬(x27.dX.gm=x_0.dX.gm)∨x31.1<x_0.Area) then
  (kE dQ iH gq)
  else ((wZ x27.dX x_0.dX).bind fun x51=>
  if (iH<0∨x51<gq) then
  (kE dQ dQ x51)
  else (kE dQ iH gq)))
  else (some (.inr (iH,gq)))
noncomputable def rC (x_0:aH) (dS:(List dH)):Option (Int×Int×Int):=
 (jQ x_0).bind fun x15=>
   (if x15=true then
   ((ru dS).bind fun x19=>
   some (!x19))
   else (some true)).bind fun Fe=>
   if Fe=true then
   (some (0,0,1))
   else ((aI (jC dS x_0) ((-1),0,0)).bind fun o=>match o with
   | (xR,yC)=>
   if xR<0 then
   (some (0,0,3))
   else (some (xR,yC,0)))
noncomputable def zC (a_0:Int) (b_1:Int):Option Int:=
 (vw (w64 (a_0 - b_1)) (w64 (b_1 - a_0))).bind fun x12=>
   (rM x12 (w64 (180 - x12))).bind fun x16=>
   some x16
noncomputable def rD (a_0:dW) (b_1:dW):Option Int:=
 (vw (w64 (a_0.eF - b_1.eF)) (w64 (b_1.eF - a_0.eF))).bind fun x23=>
   (zC a_0.bC b_1.bC).bind fun x32=>
   (dv .i64 x32 6).bind fun x33=>
   some (w64 (x23+x33))
noncomputable def um (a_0:dW) (b_1:dW):Option (Int×Int):=
 (qI a_0).bind fun x6=>
   (if x6=true then
   ((qI b_1).bind fun x9=>
   some (!x9))
   else (some true)).bind fun RH=>
   if RH=true then
   (some (0,1))
   else ((rD a_0 b_1).bind fun x12=>
   some (x12,0))
noncomputable def Dz (b_0:cO) (mV:Int) (jR:Int):Option Bool:=
 (iP b_0.X 0 mV).bind fun x12=>
   (if x12=true then
   ((iP b_0.Y 0 jR).bind fun x19=>
   if x19=true then
   ((iP b_0.Width 1 (w64 (mV - b_0.X))).bind fun x32=>
   if x32=true then
   ((iP b_0.Length 1 (w64 (jR - b_0.Y))).bind fun x45=>
   some x45)
   else (some false))
   else (some false))
   else (some false)).bind fun o6=>
   some o6
noncomputable def mM (l_0:dH) (Jj:Int):Option (Int ⊕ (Unit ⊕ Bool)):=
 if Jj< (l_0.aG.length:Int) then
  ((rd l_0.aG Jj).bind fun x69=>
  (Dz x69 l_0.Width l_0.Length).bind fun x78=>
  if x78=true then
  (some (.inl (w64 (Jj+1))))
  else (some (.inr (.inr false))))
  else (some (.inr (.inl ())))
noncomputable def rV (l_0:dH):Option Bool:=
 (pW l_0.Id).bind fun x8=>
   (if x8=true then
   ((pW l_0.Fb).bind fun x15=>
   if x15=true then
   ((iP l_0.Number 0 999).bind fun x23=>
   if x23=true then
   ((qI l_0.dX).bind fun x30=>
   some (!x30))
   else (some true))
   else (some true))
   else (some true)).bind fun RI=>
   if RI=true then
   (some false)
   else ((iP l_0.Width 10 20000).bind fun x37=>
   (if x37=true then
   ((iP l_0.Length 10 20000).bind fun x44=>
   if x44=true then
   (some (decide ((l_0.aG.length:Int) >6)))
   else (some true))
   else (some true)).bind fun RJ=>
   if RJ=true then
   (some false)
   else ((aI (mM l_0) 0).bind fun o=>match o with
   | (.inl _)=>(some true)
   | (.inr r2)=>(some r2)))
noncomputable def uq (Cb:(List Int)):Option (List Int):=
 some Cb
noncomputable def jV (xJ:Int) (au:(List Int)) (Cc:Bool) (Ce:(List Int)):Option ((Bool×Int×(List Int)) ⊕ (Bool×(List Int))):=
 (rd au xJ).bind fun x38=>
   (apd 8 Ce ([x38]:List Int)).bind fun x41=>
   some (.inl (Cc,(w64 (xJ+1)),x41))
noncomputable def ik (au:(List Int)) (n_1:Int) (s:(Bool×Int×(List Int))):Option ((Bool×Int×(List Int)) ⊕ (Bool×(List Int))):=
 match s with
  | (xU,xJ,uG)=>
  if xJ< (au.length:Int) then
  ((if xU=true then
  (some false)
  else ((rd au xJ).bind fun x20=>
  some (decide (x20≥n_1)))).bind fun RN=>
  if RN=true then
  ((rd au xJ).bind fun x27=>
  if x27>n_1 then
  ((apd 8 uG ([n_1]:List Int)).bind fun x34=>
  jV xJ au true x34)
  else (jV xJ au true uG))
  else (jV xJ au xU uG))
  else (some (.inr (xU,uG)))
noncomputable def oq (au:(List Int)) (n_1:Int):Option (List Int):=
 (aI (ik au n_1) (false,0,([]:List Int))).bind fun o=>match o with
   | (xW,vP)=>
   if xW=true then
   (uq vP)
   else ((apd 8 vP ([n_1]:List Int)).bind fun x47=>
   uq x47)
noncomputable def uH (l_0:dH) (s:(Int×(List Int))):Option ((Int×(List Int)) ⊕ (List Int)):=
 match s with
  | (lM,ku)=>
  if lM< (l_0.aG.length:Int) then
  ((rd l_0.aG lM).bind fun x25=>
  (oq ku x25.X).bind fun x28=>
  (rd l_0.aG lM).bind fun x35=>
  (rd l_0.aG lM).bind fun x43=>
  (oq x28 (w64 (x35.X+x43.Width))).bind fun x47=>
  some (.inl ((w64 (lM+1)),x47)))
  else (some (.inr ku))
noncomputable def Fq (l_0:dH):Option (List Int):=
 (aI (uH l_0) (0,([0,l_0.Width]:List Int))).bind fun jH=>
   some jH
noncomputable def uI (l_0:dH) (s:(Int×(List Int))):Option ((Int×(List Int)) ⊕ (List Int)):=
 match s with
  | (lM,ku)=>
  if lM< (l_0.aG.length:Int) then
  ((rd l_0.aG lM).bind fun x25=>
  (oq ku x25.Y).bind fun x28=>
  (rd l_0.aG lM).bind fun x35=>
  (rd l_0.aG lM).bind fun x43=>
  (oq x28 (w64 (x35.Y+x43.Length))).bind fun x47=>
  some (.inl ((w64 (lM+1)),x47)))
  else (some (.inr ku))
noncomputable def Fv (l_0:dH):Option (List Int):=
 (aI (uI l_0) (0,([0,l_0.Length]:List Int))).bind fun jH=>
   some jH
noncomputable def A7 (a_0:cO) (b_1:cO):Option Bool:=
 some ((decide (a_0.X< (w64 (b_1.X+b_1.Width))))&&((decide (b_1.X< (w64 (a_0.X+a_0.Width))))&&((decide (a_0.Y< (w64 (b_1.Y+b_1.Length))))&&(decide (b_1.Y< (w64 (a_0.Y+a_0.Length)))))))
noncomputable def rE (b_1:cO) (l_0:dH) (yt:Int):Option (Int ⊕ (Unit ⊕ Bool)):=
 if yt< (l_0.aG.length:Int) then
  ((rd l_0.aG yt).bind fun x21=>
  (A7 b_1 x21).bind fun x22=>
  if x22=true then
  (some (.inr (.inr false)))
  else (some (.inl (w64 (yt+1)))))
  else (some (.inr (.inl ())))
noncomputable def xe (l_0:dH) (b_1:cO):Option Bool:=
 (aI (rE b_1 l_0) 0).bind fun o=>match o with
   | (.inl _)=>(some true)
   | (.inr r2)=>(some r2)
noncomputable def qA (yD:Int) (Hy:Int):Option ((Int×Int) ⊕ Int):=
 some (.inl (Hy,(w64 (yD+1))))
noncomputable def qB (yE:Int) (l_0:dH) (x10:(List Int)) (x12:(List Int)) (s:(Int×Int)):Option ((Int×Int) ⊕ Int):=
 match s with
  | (yF,yD)=>
  if yD< (x12.length:Int) then
  ((rd x10 (w64 (yE - 1))).bind fun x28=>
  (rd x12 (w64 (yD - 1))).bind fun x33=>
  (rd x10 yE).bind fun x37=>
  (rd x10 (w64 (yE - 1))).bind fun x42=>
  (rd x12 yD).bind fun x47=>
  (rd x12 (w64 (yD - 1))).bind fun x52=>
  (xe l_0 (⟨x28,x33,(w64 (x37 - x42)),(w64 (x47 - x52))⟩:cO)).bind fun x57=>
  if x57=true then
  (qA yD (w64 (yF+(w64 ((w64 (x37 - x42)) * (w64 (x47 - x52)))))))
  else (qA yD yF))
  else (some (.inr yF))
noncomputable def mW (l_0:dH) (x10:(List Int)) (x12:(List Int)) (s:(Int×Int)):Option ((Int×Int) ⊕ Int):=
 match s with
  | (Hz,yE)=>
  if yE< (x10.length:Int) then
  ((aI (qB yE l_0 x10 x12) (Hz,1)).bind fun FB=>
  some (.inl (FB,(w64 (yE+1)))))
  else (some (.inr Hz))
noncomputable def yG (l_0:dH):Option Int:=
 (Fq l_0).bind fun x10=>
   (Fv l_0).bind fun x12=>
   (aI (mW l_0 x10 x12) (0,1)).bind fun FC=>
   some FC
noncomputable def pU (l_0:dH):Option (Int×Int):=
 (rV l_0).bind fun x4=>
   if x4=true then
   ((yG l_0).bind fun x6=>
   some (x6,0))
   else (some (0,1))
noncomputable def yH (fU:(List Int)) (jd:(List Int)):Option Bool:=
 (Dn fU jd).bind fun x31=>
   if x31=true then
   (some true)
   else ((wR fU).bind fun x33=>
   (rO jd 0 2000).bind fun x35=>
   (rO jd 2 800).bind fun x37=>
   (oW x33 x35 x37).bind fun x42=>
   (rf x33 x35 x37 1000).bind fun x49=>
   (uF x33 x42.1).bind fun x56=>
   (uF x33 x49.1).bind fun x64=>
   if (x42.2≠0∨(x49.2.2≠0∨(x56.2.2.2≠0∨(x64.2.2.2≠0∨(x56.2.1>x35∨(x56.2.2.1>x37∨(x64.2.1>x35∨(x64.2.2.1>x37∨(x64.1≠x49.2.1∨x64.1<x56.1))))))))) then
   (some false)
   else ((wY jd).bind fun x114=>
   if (x33.length:Int)=0 then
   (some true)
   else ((rd x33 0).bind fun aff=>
   (rC aff x114).bind fun Aj=>
   if Aj.2.2≠0 then
   (some (Aj.2.2==3))
   else (if (Aj.1<0∨Aj.1≥(x114.length:Int)) then
   (some false)
   else ((rd x33 0).bind fun Ug=>
   (rd x114 Aj.1).bind fun afg=>
   (um Ug.dX afg.dX).bind fun ZZ=>
   (rd x114 Aj.1).bind fun afh=>
   (pU afh).bind fun x157=>
   (if ZZ.2=0 then
   (if ZZ.1=Aj.2.1 then
   (if x157.2=0 then
   ((rd x33 0).bind fun afi=>
   if x157.1≥afi.Area then
   ((rd x114 Aj.1).bind fun afj=>
   (rd x33 0).bind fun afk=>
   some (afj.dX.gm.toList==afk.dX.gm.toList))
   else (some false))
   else (some false))
   else (some false))
   else (some false)).bind fun RP=>
   some RP)))))
end Go.Pw
