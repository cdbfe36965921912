/- Plain functions that answer what the program's functions answer. Conditions: none; definitions alone. -/
import Derived.Test.YtdibfdcmbjaejaaSimPw
import Derived.Test.YtdibfdcmbjaejaaSimPt
namespace Go.Pw
open Go.Sim (min2 max2)
set_option linter.unusedVariables false
def Gt (k:IntKind) (a b:Int):Int:=k.wrap (BitVec.ofInt k.bits a &&& BitVec.ofInt k.bits b).toNat
structure ae where
 X:Int
 Y:Int
structure aB where
 Name:ByteArray
 Ring:(List Int)
structure aG where
 Width:Int
 Height:Int
 aH:(List ae)
 aA:(List aB)
structure ak where
 rf:ByteArray
 iM:Int
 dw:Int
structure ai where
 code:(List Int)
 at_:Int
 seed:Int
structure bf where
 e0:Int
 e1:Int
structure aS where
 near:(List (List Int))
 gB:(List ak)
 left:Int
noncomputable def pF (jT:(List Int)):Option Bool:=
 some (decide ((jT.length:Int) >1048576))
noncomputable def pG (jT:(List Int)):Option ai:=
 some (⟨jT,0,0⟩:ai)
noncomputable def je (s_0:ai) (sH:Int):Option (Int×ai):=
 if (w64 (s_0.at_+1))≤(s_0.code.length:Int) then
  (some (sH,(⟨s_0.code,(w64 (s_0.at_+1)),(IntKind.wrap .u64 ((IntKind.wrap .u64 ((IntKind.wrap .u64 (s_0.seed*6364136223846793005))+(IntKind.wrap .u64 (sH))))+1442695040888963407))⟩:ai)))
  else ((shr .u64 (IntKind.wrap .u64 ((IntKind.wrap .u64 ((IntKind.wrap .u64 (s_0.seed*6364136223846793005))+(IntKind.wrap .u64 (sH))))+1442695040888963407)) 40).bind fun x59=>
  some ((w64 ((Gt .u64 x59 255))),(⟨s_0.code,(w64 (s_0.at_+1)),(IntKind.wrap .u64 ((IntKind.wrap .u64 ((IntKind.wrap .u64 (s_0.seed*6364136223846793005))+(IntKind.wrap .u64 (sH))))+1442695040888963407))⟩:ai)))
noncomputable def kL (s_0:ai):Option (Int×ai):=
 if s_0.at_< (s_0.code.length:Int) then
  ((rd s_0.code s_0.at_).bind fun x22=>
  je s_0 (w64 (x22)))
  else (je s_0 0)
noncomputable def jf (n_1:Int) (Ih:Int) (yF:(List Int)) (yG:Int) (yH:Int):Option (Int×ai):=
 (md Ih n_1).bind fun x19=>
   some (x19,(⟨yF,yG,yH⟩:ai))
noncomputable def aO (s_0:ai) (n_1:Int):Option (Int×ai):=
 if n_1≤1 then
  (some (0,s_0))
  else ((kL s_0).bind fun x9=>
  if n_1>200 then
  ((kL x9.2).bind fun x15=>
  jf n_1 (w64 ((w64 (x9.1*256))+x15.1)) x15.2.code x15.2.at_ x15.2.seed)
  else (jf n_1 x9.1 x9.2.code x9.2.at_ x9.2.seed))
noncomputable def jo (jO:(List Int)) (s:(Int×(List Int))):Option ((Int×(List Int)) ⊕ (List Int)):=
 match s with
  | (BH,vU)=>
  if BH≥0 then
  ((rd jO BH).bind fun x44=>
  (apd 1 vU ([x44]:List Int)).bind fun x47=>
  some (.inl ((w64 (BH - 1)),x47)))
  else (some (.inr vU))
noncomputable def lH (jO:(List Int)):Option ByteArray:=
 (aK (jo jO) ((w64 ((jO.length:Int) - 1)),([]:List Int))).bind fun rq=>
   some (strOf rq)
noncomputable def qp (jP:(List Int)) (vV:Int) (zu:Int):Option ((Int×(List Int)) ⊕ (List Int)):=
 (apd 1 jP ([(IntKind.wrap .u8 ((w64 (48+zu))))]:List Int)).bind fun x27=>
   (dv .i64 vV 10).bind fun x15=>
   some (.inl (x15,x27))
noncomputable def iC (s:(Int×(List Int))):Option ((Int×(List Int)) ⊕ (List Int)):=
 match s with
  | (vV,jP)=>
  if vV≠0 then
  ((md vV 10).bind fun x17=>
  if x17<0 then
  (qp jP vV (w64 (0 - x17)))
  else (qp jP vV x17))
  else (some (.inr jP))
noncomputable def oQ (n_0:Int):Option ByteArray:=
 if n_0=0 then
  (some (⟨#[48]⟩:ByteArray))
  else ((aK (iC) (n_0,([]:List Int))).bind fun mG=>
  if n_0<0 then
  ((apd 1 mG ([45]:List Int)).bind fun x32=>
  lH x32)
  else (lH mG))
noncomputable def jD (x16:(Int×ai)) (aZ:Int) (s:(Int×(List aB))):Option ((Int×(List aB)) ⊕ (List aB)):=
 match s with
  | (bg,vW)=>
  if bg< (w64 (1+x16.1)) then
  ((oQ aZ).bind fun x107=>
  (cat (⟨#[102]⟩:ByteArray) x107).bind fun aae=>
  (oQ bg).bind fun UM=>
  (cat aae UM).bind fun NG=>
  (apd 40 vW ([(⟨NG,([(w64 ((w64 (aZ* (w64 ((w64 (1+x16.1))+1))))+bg)),(w64 ((w64 ((w64 (aZ* (w64 ((w64 (1+x16.1))+1))))+bg))+1)),(w64 ((w64 ((w64 ((w64 (aZ* (w64 ((w64 (1+x16.1))+1))))+bg))+(w64 (1+x16.1))))+2)),(w64 ((w64 ((w64 ((w64 (aZ* (w64 ((w64 (1+x16.1))+1))))+bg))+(w64 (1+x16.1))))+1))]:List Int)⟩:aB)]:List aB)).bind fun YZ=>
  some (.inl ((w64 (bg+1)),YZ)))
  else (some (.inr vW))
noncomputable def jE (x16:(Int×ai)) (x19:(Int×ai)) (s:(Int×(List aB))):Option ((Int×(List aB)) ⊕ (List aB)):=
 match s with
  | (aZ,vX)=>
  if aZ< (w64 (1+x19.1)) then
  ((aK (jD x16 aZ) (0,vX)).bind fun tJ=>
  some (.inl ((w64 (aZ+1)),tJ)))
  else (some (.inr vX))
noncomputable def jF (x16:(Int×ai)) (fV:(List Int)) (oU:Int) (gG:(List Int)) (s:(Int×(List ae))):Option ((Int×(List ae)) ⊕ (List ae)):=
 match s with
  | (vY,vZ)=>
  if vY≤(w64 (1+x16.1)) then
  ((rd fV vY).bind fun x78=>
  (rd gG oU).bind fun x82=>
  (apd 16 vZ ([(⟨x78,x82⟩:ae)]:List ae)).bind fun x86=>
  some (.inl ((w64 (vY+1)),x86)))
  else (some (.inr vZ))
noncomputable def jG (x16:(Int×ai)) (x19:(Int×ai)) (fV:(List Int)) (gG:(List Int)) (s:(Int×(List ae))):Option ((Int×(List ae)) ⊕ (List ae)):=
 match s with
  | (oU,wo)=>
  if oU≤(w64 (1+x19.1)) then
  ((aK (jF x16 fV oU gG) (0,wo)).bind fun vg=>
  some (.inl ((w64 (oU+1)),vg)))
  else (some (.inr wo))
noncomputable def sJ (x19:(Int×ai)) (s:(Int×(List Int)×Int×Int×(List Int))):Option ((Int×(List Int)×Int×Int×(List Int)) ⊕ ((List Int)×Int×Int×(List Int))):=
 match s with
  | (zx,wu,wz,wB,vH)=>
  if zx< (w64 (1+x19.1)) then
  ((rd vH zx).bind fun x47=>
  (aO (⟨wu,wz,wB⟩:ai) 200).bind fun x51=>
  (apd 8 vH ([(w64 ((w64 (x47+20))+x51.1))]:List Int)).bind fun x54=>
  some (.inl ((w64 (zx+1)),x51.2.code,x51.2.at_,x51.2.seed,x54)))
  else (some (.inr (wu,wz,wB,vH)))
noncomputable def iD (x16:(Int×ai)) (s:(Int×(List Int)×Int×Int×(List Int))):Option ((Int×(List Int)×Int×Int×(List Int)) ⊕ ((List Int)×Int×Int×(List Int))):=
 match s with
  | (Dq,yI,yJ,yK,yL)=>
  if Dq< (w64 (1+x16.1)) then
  ((rd yL Dq).bind fun x31=>
  (aO (⟨yI,yJ,yK⟩:ai) 200).bind fun x35=>
  (apd 8 yL ([(w64 ((w64 (x31+20))+x35.1))]:List Int)).bind fun x38=>
  some (.inl ((w64 (Dq+1)),x35.2.code,x35.2.at_,x35.2.seed,x38)))
  else (some (.inr (yI,yJ,yK,yL)))
noncomputable def ru (s_0:ai):Option (aG×ai):=
 (aO s_0 3).bind fun x16=>
   (aO x16.2 3).bind fun x19=>
   (aK (iD x16) (0,x19.2.code,x19.2.at_,x19.2.seed,([0]:List Int))).bind fun o=>match o with
   | (ug,uh,uj,fV)=>
   (aK (sJ x19) (0,ug,uh,uj,([0]:List Int))).bind fun o=>match o with
   | (eH,eP,eU,gG)=>
   (rd fV (w64 (1+x16.1))).bind fun x57=>
   (rd gG (w64 (1+x19.1))).bind fun x61=>
   (aK (jG x16 x19 fV gG) (0,([]:List ae))).bind fun kJ=>
   (aK (jE x16 x19) (0,([]:List aB))).bind fun vk=>
   some ((⟨x57,x61,kJ,vk⟩:aG),(⟨eH,eP,eU⟩:ai))
noncomputable def gK (s_0:ai) (n_1:Int):Option (Bool×ai):=
 (aO s_0 n_1).bind fun x7=>
   some ((x7.1==0),x7.2)
noncomputable def oV (qI:Int) (uk:(List aB)) (mJ:(List Int)) (mM:Int) (mO:Int):Option ((Int×(List Int)×Int×Int×(List aB)) ⊕ ((List Int)×Int×Int×(List aB))):=
 some (.inl ((w64 (qI+1)),mJ,mM,mO,uk))
noncomputable def kV (d_1:aG) (s:(Int×(List Int)×Int×Int×(List aB))):Option ((Int×(List Int)×Int×Int×(List aB)) ⊕ ((List Int)×Int×Int×(List aB))):=
 match s with
  | (qI,kM,kP,kQ,ni)=>
  if qI< (d_1.aA.length:Int) then
  ((rd d_1.aA qI).bind fun x25=>
  (if (x25.Ring.length:Int)=4 then
  ((gK (⟨kM,kP,kQ⟩:ai) 3).bind fun x33=>
  some (x33.1,x33.2.code,x33.2.at_,x33.2.seed))
  else (some (false,kM,kP,kQ))).bind fun s=>match s with
  | (KY,qN,qO,qP)=>
  if KY=true then
  ((rd x25.Ring 0).bind fun x41=>
  (rd x25.Ring 1).bind fun x45=>
  (rd x25.Ring 2).bind fun x49=>
  (apd 40 ni ([(⟨x25.Name,([x41,x45,x49]:List Int)⟩:aB)]:List aB)).bind fun x54=>
  (rd x25.Ring 0).bind fun x63=>
  (rd x25.Ring 2).bind fun x67=>
  (rd x25.Ring 3).bind fun x71=>
  (cat x25.Name (⟨#[98]⟩:ByteArray)).bind fun x60=>
  (apd 40 x54 ([(⟨x60,([x63,x67,x71]:List Int)⟩:aB)]:List aB)).bind fun x76=>
  oV qI x76 qN qO qP)
  else ((apd 40 ni ([x25]:List aB)).bind fun x82=>
  oV qI x82 qN qO qP))
  else (some (.inr (kM,kP,kQ,ni)))
noncomputable def xP (s_0:ai) (d_1:aG):Option (aG×ai):=
 (aK (kV d_1) (0,s_0.code,s_0.at_,s_0.seed,([]:List aB))).bind fun o=>match o with
   | (jU,jV,jW,ql)=>
   some ((⟨d_1.Width,d_1.Height,d_1.aH,ql⟩:aG),(⟨jU,jV,jW⟩:ai))
noncomputable def nO (mJ:(List Int)) (mM:Int) (mO:Int) (yM:Int) (yN:Int) (yO:(List ae)) (yP:(List aB)):Option (aG×ai):=
 some ((⟨yM,yN,yO,yP⟩:aG),(⟨mJ,mM,mO⟩:ai))
noncomputable def rC (s_0:ai):Option (aG×ai):=
 (ru s_0).bind fun x5=>
   (gK x5.2 2).bind fun x7=>
   if x7.1=true then
   ((xP x7.2 x5.1).bind fun x10=>
   nO x10.2.code x10.2.at_ x10.2.seed x10.1.Width x10.1.Height x10.1.aH x10.1.aA)
   else (nO x7.2.code x7.2.at_ x7.2.seed x5.1.Width x5.1.Height x5.1.aH x5.1.aA)
noncomputable def cZ (s_0:ai) (sN:(List Int)):Option (Int×ai):=
 (aO s_0 (sN.length:Int)).bind fun x9=>
   (rd sN x9.1).bind fun x10=>
   some (x10,x9.2)
noncomputable def gU (s_0:ai) (sN:(List ByteArray)):Option (ByteArray×ai):=
 (aO s_0 (sN.length:Int)).bind fun x9=>
   (rd sN x9.1).bind fun x10=>
   some (x10,x9.2)
noncomputable def mP (s_0:ai):Option (ByteArray×ai):=
 (gU s_0 ([(⟨#[97]⟩:ByteArray),(⟨#[98]⟩:ByteArray),(⟨#[99]⟩:ByteArray),(⟨#[111,97,107]⟩:ByteArray),(⟨#[115,116,97,114,55]⟩:ByteArray),(⟨#[114,111,115,101]⟩:ByteArray),(⟨#[120,57]⟩:ByteArray),(⟨#[97,98,99,100,101,102,103,104,105,106]⟩:ByteArray),(⟨#[97,98,99,100,101,102,103,104,105,106,107]⟩:ByteArray),(⟨#[65]⟩:ByteArray),(⟨#[]⟩:ByteArray),(⟨#[49,97]⟩:ByteArray),(⟨#[97,45,98]⟩:ByteArray)]:List ByteArray)).bind fun x5=>
   some (x5.1,x5.2)
noncomputable def dJ (wC:(List Int)) (wE:Int) (wF:Int) (wG:Int) (wH:Int) (wI:(List ae)) (wJ:(List aB)):Option (aG×ai):=
 some ((⟨wG,wH,wI,wJ⟩:aG),(⟨wC,wE,wF⟩:ai))
noncomputable def mQ (dL:Int) (wK:(List aB)) (wL:(List ae)):Option ((Int×(List ae)×(List aB)) ⊕ ((List ae)×(List aB))):=
 some (.inl ((w64 (dL+1)),wL,wK))
noncomputable def jH (x91:(Int×ai)) (s:(Int×(List ae)×(List aB))):Option ((Int×(List ae)×(List aB)) ⊕ ((List ae)×(List aB))):=
 match s with
  | (dL,wM,oW)=>
  if dL< (w64 (23+x91.1)) then
  ((apd 16 wM ([(⟨(w64 (20*dL)),0⟩:ae),(⟨(w64 (20*dL)),10⟩:ae)]:List ae)).bind fun x107=>
  if dL>0 then
  ((cat (⟨#[102]⟩:ByteArray) (strOf ([(IntKind.wrap .u8 ((w64 (97+dL))))]:List Int))).bind fun WA=>
  (apd 40 oW ([(⟨WA,([(w64 ((w64 (2*dL)) - 2)),(w64 (2*dL)),(w64 ((w64 (2*dL))+1)),(w64 ((w64 (2*dL)) - 1))]:List Int)⟩:aB)]:List aB)).bind fun rM=>
  mQ dL rM x107)
  else (mQ dL oW x107))
  else (some (.inr (wM,oW)))
noncomputable def pI (s_0:ai):Option (aG×ai):=
 (rC s_0).bind fun x8=>
   (aO x8.2 16).bind fun x13=>
   if x13.1=0 then
   ((slc x8.1.aA 1 (x8.1.aA.length:Int)).bind fun x18=>
   dJ x13.2.code x13.2.at_ x13.2.seed x8.1.Width x8.1.Height x8.1.aH ((x8.1.aA.take ((x8.1.aA.length:Int).toNat)).drop ((1:Int).toNat)))
   else (if x13.1=1 then
   ((apd 16 x8.1.aH ([(⟨7,3⟩:ae)]:List ae)).bind fun x26=>
   dJ x13.2.code x13.2.at_ x13.2.seed x8.1.Width x8.1.Height x26 x8.1.aA)
   else (if x13.1=2 then
   ((cZ x13.2 ([(w64 (x8.1.Width+5)),9,10,20000,20001]:List Int)).bind fun x35=>
   dJ x35.2.code x35.2.at_ x35.2.seed x35.1 x8.1.Height x8.1.aH x8.1.aA)
   else (if x13.1=3 then
   ((aO x13.2 (x8.1.aA.length:Int)).bind fun x43=>
   (rd x8.1.aA x43.1).bind fun x49=>
   dJ x43.2.code x43.2.at_ x43.2.seed x8.1.Width x8.1.Height x8.1.aH (x8.1.aA.set x43.1.toNat (⟨x49.Name,([0,1,(w64 ((x8.1.aH.length:Int) - 1))]:List Int)⟩:aB)))
   else (if x13.1=4 then
   ((aO x13.2 (x8.1.aA.length:Int)).bind fun x57=>
   (mP x57.2).bind fun x59=>
   (rd x8.1.aA x57.1).bind fun x60=>
   dJ x59.2.code x59.2.at_ x59.2.seed x8.1.Width x8.1.Height x8.1.aH (x8.1.aA.set x57.1.toNat (⟨x59.1,x60.Ring⟩:aB)))
   else (if x13.1=5 then
   ((aO x13.2 (x8.1.aA.length:Int)).bind fun x68=>
   (cZ x68.2 ([1,(-1),(x8.1.aH.length:Int)]:List Int)).bind fun x74=>
   (rd x8.1.aA x68.1).bind fun x76=>
   dJ x74.2.code x74.2.at_ x74.2.seed x8.1.Width x8.1.Height x8.1.aH (x8.1.aA.set x68.1.toNat (⟨x76.Name,([0,x74.1]:List Int)⟩:aB)))
   else (if x13.1=6 then
   ((rd x8.1.aH 0).bind fun x84=>
   (rd x8.1.aH 1).bind fun x86=>
   dJ x13.2.code x13.2.at_ x13.2.seed x8.1.Width x8.1.Height (x8.1.aH.set ((1:Int).toNat) x84) x8.1.aA)
   else (if x13.1=7 then
   ((aO x13.2 3).bind fun x91=>
   (aK (jH x91) (0,([]:List ae),([]:List aB))).bind fun o=>match o with
   | (pJ,pK)=>
   dJ x91.2.code x91.2.at_ x91.2.seed 480 20 pJ pK)
   else (if x13.1=8 then
   ((aO x13.2 (x8.1.aH.length:Int)).bind fun OJ=>
   (rd x8.1.aH OJ.1).bind fun UN=>
   (aO OJ.2 30).bind fun F6=>
   (rd x8.1.aH OJ.1).bind fun x150=>
   dJ F6.2.code F6.2.at_ F6.2.seed x8.1.Width x8.1.Height (x8.1.aH.set OJ.1.toNat (⟨(w64 (UN.X+F6.1)),x150.Y⟩:ae)) x8.1.aA)
   else (dJ x13.2.code x13.2.at_ x13.2.seed x8.1.Width x8.1.Height x8.1.aH x8.1.aA)))))))))
noncomputable def nX:Option (List (List Int)):=
 some ([([20,40,310]:List Int),([35,45,410]:List Int),([15,33,280]:List Int),([50,36,240]:List Int),([95,85,270]:List Int),([5,35,370]:List Int),([10,42,290]:List Int),([40,40,330]:List Int),([80,60,220]:List Int),([70,38,260]:List Int)]:List (List Int))
noncomputable def tK:Option (List ByteArray):=
 some ([(⟨#[97,115,104]⟩:ByteArray),(⟨#[98,101,101,99,104]⟩:ByteArray),(⟨#[98,105,114,99,104]⟩:ByteArray),(⟨#[99,104,101,114,114,121]⟩:ByteArray),(⟨#[101,98,111,110,121]⟩:ByteArray),(⟨#[104,111,108,108,121]⟩:ByteArray),(⟨#[109,97,112,108,101]⟩:ByteArray),(⟨#[111,97,107]⟩:ByteArray),(⟨#[114,111,115,101,119,111,111,100]⟩:ByteArray),(⟨#[119,97,108,110,117,116]⟩:ByteArray)]:List ByteArray)
noncomputable def um (a_0:Int) (b_1:Int):Option Int:=
 if a_0>b_1 then
  (some a_0)
  else (some b_1)
noncomputable def uq (a_0:Int) (b_1:Int):Option Int:=
 if a_0<b_1 then
  (some a_0)
  else (some b_1)
noncomputable def lJ (s_0:ai):Option (ak×ai):=
 (aO s_0 10).bind fun x8=>
   (nX).bind fun x9=>
   (rd x9 x8.1).bind fun x11=>
   (rd x11 0).bind fun x13=>
   (aO x8.2 21).bind fun x16=>
   (tK).bind fun x19=>
   (rd x19 x8.1).bind fun x21=>
   (um 0 (w64 ((w64 (x13+x16.1)) - 10))).bind fun x24=>
   (uq 100 x24).bind fun x25=>
   (aO x16.2 180).bind fun x28=>
   (cZ x28.2 ([x28.1,x28.1,0,90,45]:List Int)).bind fun x33=>
   some ((⟨x21,x25,x33.1⟩:ak),x33.2)
noncomputable def kD (yQ:(List Int)) (yR:Int) (yS:Int) (yT:ByteArray) (yU:Int) (yV:Int):Option (ak×ai):=
 some ((⟨yT,yU,yV⟩:ak),(⟨yQ,yR,yS⟩:ai))
noncomputable def rD (s_0:ai):Option (ak×ai):=
 (lJ s_0).bind fun x5=>
   (aO x5.2 16).bind fun x7=>
   if x7.1=0 then
   ((gU x7.2 ([(⟨#[112,105,110,101]⟩:ByteArray),(⟨#[]⟩:ByteArray),(⟨#[79,97,107]⟩:ByteArray)]:List ByteArray)).bind fun x12=>
   kD x12.2.code x12.2.at_ x12.2.seed x12.1 x5.1.iM x5.1.dw)
   else (if x7.1=1 then
   ((cZ x7.2 ([(-1),0,100,101,55]:List Int)).bind fun x18=>
   kD x18.2.code x18.2.at_ x18.2.seed x5.1.rf x18.1 x5.1.dw)
   else (if x7.1=2 then
   ((cZ x7.2 ([(-1),179,180]:List Int)).bind fun x24=>
   kD x24.2.code x24.2.at_ x24.2.seed x5.1.rf x5.1.iM x24.1)
   else (kD x7.2.code x7.2.at_ x7.2.seed x5.1.rf x5.1.iM x5.1.dw)))
noncomputable def fC (wO:(List Int)) (wP:Int) (wQ:Int) (wR:(List ak)):Option ((List ak)×ai):=
 some (wR,(⟨wO,wP,wQ⟩:ai))
noncomputable def gz (x35:(Int×ai)) (s:((List Int)×Int×Int×(List ak))):Option (((List Int)×Int×Int×(List ak)) ⊕ ((List Int)×Int×Int×(List ak))):=
 match s with
  | (wS,wU,wV,sO)=>
  if (sO.length:Int) <x35.1 then
  ((lJ (⟨wS,wU,wV⟩:ai)).bind fun x42=>
  (apd 32 sO ([x42.1]:List ak)).bind fun x44=>
  some (.inl (x42.2.code,x42.2.at_,x42.2.seed,x44)))
  else (some (.inr (wS,wU,wV,sO)))
noncomputable def gV (s:(Int×(List Int)×Int×Int×(List ak))):Option ((Int×(List Int)×Int×Int×(List ak)) ⊕ ((List Int)×Int×Int×(List ak))):=
 match s with
  | (EY,kM,kP,kQ,mV)=>
  if EY>0 then
  ((lJ (⟨kM,kP,kQ⟩:ai)).bind fun x16=>
  (apd 32 mV ([x16.1]:List ak)).bind fun x18=>
  some (.inl ((w64 (EY - 1)),x16.2.code,x16.2.at_,x16.2.seed,x18)))
  else (some (.inr (kM,kP,kQ,mV)))
noncomputable def jg (s_0:ai):Option ((List ak)×ai):=
 (aO s_0 5).bind fun x8=>
   (aK (gV) ((w64 (x8.1+1)),x8.2.code,x8.2.at_,x8.2.seed,([]:List ak))).bind fun o=>match o with
   | (jU,jV,jW,iw)=>
   (aO (⟨jU,jV,jW⟩:ai) 20).bind fun x20=>
   if x20.1=0 then
   ((rD x20.2).bind fun x25=>
   (apd 32 iw ([x25.1]:List ak)).bind fun x27=>
   fC x25.2.code x25.2.at_ x25.2.seed x27)
   else (if x20.1=1 then
   (fC x20.2.code x20.2.at_ x20.2.seed ([]:List ak))
   else (if x20.1=2 then
   ((cZ x20.2 ([10,11]:List Int)).bind fun x35=>
   (aK (gz x35) (x35.2.code,x35.2.at_,x35.2.seed,iw)).bind fun o=>match o with
   | (pM,pO,pR,pU)=>
   fC pM pO pR pU)
   else (fC x20.2.code x20.2.at_ x20.2.seed iw)))
noncomputable def lK (s_0:ai):Option (Int×ai):=
 (gK s_0 9).bind fun x4=>
   if x4.1=true then
   ((cZ x4.2 ([(-1),0,115,116]:List Int)).bind fun x7=>
   some (x7.1,x7.2))
   else ((aO x4.2 50).bind fun x9=>
   some (x9.1,x9.2))
noncomputable def jI (s_0:ai):Option (Int×ai):=
 (gK s_0 6).bind fun x4=>
   if x4.1=true then
   ((cZ x4.2 ([0,1,5,20000,20001]:List Int)).bind fun x7=>
   some (x7.1,x7.2))
   else ((aO x4.2 400).bind fun x9=>
   some ((w64 (x9.1+1)),x9.2))
noncomputable def gW (jT:(List Int)):Option (aG×(List ak)×Int×Int):=
 (pG jT).bind fun x11=>
   (pI x11).bind fun x13=>
   (jg x13.2).bind fun x15=>
   (lK x15.2).bind fun x17=>
   (jI x17.2).bind fun x22=>
   some (x13.1,x15.1,x17.1,x22.1)
noncomputable def bQ (n_0:Int) (JY:Int) (EZ:Int):Option Bool:=
 some ((decide (n_0≥JY))&&(decide (n_0≤EZ)))
noncomputable def dh (s_0:(List ae)) (v_1:ae) (dX:Int):Option (Int ⊕ (Unit ⊕ Int)):=
 if dX< (s_0.length:Int) then
  ((rd s_0 dX).bind fun x14=>
  if (v_1.X=x14.X∧v_1.Y=x14.Y) then
  (some (.inr (.inr dX)))
  else (some (.inl (w64 (dX+1)))))
  else (some (.inr (.inl ())))
noncomputable def fM (s_0:(List ae)) (v_1:ae):Option Int:=
 (aK (dh s_0 v_1) 0).bind fun o=>match o with
   | (.inl _)=>(some (-1))
   | (.inr r2)=>(some r2)
noncomputable def di (s_0:(List ae)) (v_1:ae):Option Bool:=
 (fM s_0 v_1).bind fun x7=>
   some (decide (x7≥0))
noncomputable def iZ (s_0:ByteArray) (uK:Int):Option (Int ⊕ (Unit ⊕ Bool)):=
 if uK< (s_0.size:Int) then
  ((bt s_0 uK).bind fun x30=>
  (if x30<97 then
  ((bt s_0 uK).bind fun x41=>
  if x41<48 then
  (some true)
  else ((bt s_0 uK).bind fun x46=>
  some (decide (x46>57))))
  else ((bt s_0 uK).bind fun x35=>
  if x35>122 then
  ((bt s_0 uK).bind fun x41=>
  if x41<48 then
  (some true)
  else ((bt s_0 uK).bind fun x46=>
  some (decide (x46>57))))
  else (some false))).bind fun KZ=>
  if KZ=true then
  (some (.inr (.inr false)))
  else (some (.inl (w64 (uK+1)))))
  else (some (.inr (.inl ())))
noncomputable def jX (s_0:ByteArray):Option Bool:=
 (if (s_0.size:Int) <1 then
   (some true)
   else (if (s_0.size:Int) >10 then
   (some true)
   else ((bt s_0 0).bind fun x14=>
   if x14<97 then
   (some true)
   else ((bt s_0 0).bind fun x19=>
   some (decide (x19>122)))))).bind fun La=>
   if La=true then
   (some false)
   else ((aK (iZ s_0) 0).bind fun o=>match o with
   | (.inl _)=>(some true)
   | (.inr r2)=>(some r2))
noncomputable def ik (rE:(List ae)) (xY:(List Int)) (s:(Int×(List ae))):Option ((Int×(List ae)) ⊕ ((List ae) ⊕ ((List ae)×Bool))):=
 match s with
  | (BI,yX)=>
  if BI< (xY.length:Int) then
  ((rd xY BI).bind fun x14=>
  (bQ x14 0 (w64 ((rE.length:Int) - 1))).bind fun x20=>
  if x20=true then
  ((rd rE x14).bind fun x25=>
  (apd 16 yX ([x25]:List ae)).bind fun x28=>
  some (.inl ((w64 (BI+1)),x28)))
  else (some (.inr (.inr (([]:List ae),false)))))
  else (some (.inr (.inl yX)))
noncomputable def iO (rE:(List ae)) (xY:(List Int)):Option ((List ae)×Bool):=
 (aK (ik rE xY) (0,([]:List ae))).bind fun o=>match o with
   | (.inl uu)=>(some (uu,true))
   | (.inr r2)=>(some r2)
noncomputable def kE (p_0:ae):Option Bool:=
 (bQ p_0.X 0 20000).bind fun x5=>
   (if x5=true then
   ((bQ p_0.Y 0 20000).bind fun x9=>
   some x9)
   else (some false)).bind fun OL=>
   some OL
noncomputable def dn (fO:(List ae)) (Dt:Int):Option (Int ⊕ (Unit ⊕ Bool)):=
 if Dt< (fO.length:Int) then
  ((rd fO Dt).bind fun x9=>
  (kE x9).bind fun x12=>
  if x12=true then
  (some (.inl (w64 (Dt+1))))
  else (some (.inr (.inr false))))
  else (some (.inr (.inl ())))
noncomputable def kR (fO:(List ae)):Option Bool:=
 (aK (dn fO) 0).bind fun o=>match o with
   | (.inl _)=>(some true)
   | (.inr r2)=>(some r2)
noncomputable def mW (a_0:ae) (b_1:ae) (c_2:ae):Option Int:=
 if (w64 ((w64 ((w64 (b_1.X - a_0.X)) * (w64 (c_2.Y - a_0.Y)))) - (w64 ((w64 (b_1.Y - a_0.Y)) * (w64 (c_2.X - a_0.X)))))) >0 then
  (some 1)
  else (if (w64 ((w64 ((w64 (b_1.X - a_0.X)) * (w64 (c_2.Y - a_0.Y)))) - (w64 ((w64 (b_1.Y - a_0.Y)) * (w64 (c_2.X - a_0.X)))))) <0 then
  (some (-1))
  else (some 0))
noncomputable def qw (a_0:ae) (b_1:ae) (p_2:ae):Option Bool:=
 (mW a_0 b_1 p_2).bind fun x10=>
   (if x10=0 then
   ((bQ p_2.X (min2 a_0.X b_1.X) (max2 a_0.X b_1.X)).bind fun x25=>
   if x25=true then
   ((bQ p_2.Y (min2 a_0.Y b_1.Y) (max2 a_0.Y b_1.Y)).bind fun x40=>
   some x40)
   else (some false))
   else (some false)).bind fun wW=>
   some wW
noncomputable def nY (a_0:ae) (b_1:ae) (c_2:ae) (d_3:ae):Option Bool:=
 (mW a_0 b_1 c_2).bind fun x12=>
   (mW a_0 b_1 d_3).bind fun x16=>
   (if (w64 (x12*x16)) <0 then
   ((mW c_2 d_3 a_0).bind fun x23=>
   (mW c_2 d_3 b_1).bind fun x27=>
   some (decide ((w64 (x23*x27)) <0)))
   else (some false)).bind fun Du=>
   some Du
noncomputable def iV (a_0:ae) (b_1:ae) (c_2:ae) (d_3:ae):Option Bool:=
 (nY a_0 b_1 c_2 d_3).bind fun x13=>
   (if x13=true then
   (some true)
   else ((qw a_0 b_1 c_2).bind fun x18=>
   if x18=true then
   (some true)
   else ((qw a_0 b_1 d_3).bind fun x24=>
   if x24=true then
   (some true)
   else ((qw c_2 d_3 a_0).bind fun x30=>
   if x30=true then
   (some true)
   else ((qw c_2 d_3 b_1).bind fun x36=>
   some x36))))).bind fun Du=>
   some Du
noncomputable def eY (p_0:(List ae)) (s:(Int×Int)):Option ((Int×Int) ⊕ Int):=
 match s with
  | (wX,xZ)=>
  if xZ< (p_0.length:Int) then
  ((rd p_0 xZ).bind fun x12=>
  (md (w64 (xZ+1)) (p_0.length:Int)).bind fun x19=>
  (rd p_0 x19).bind fun x20=>
  some (.inl ((w64 (wX+(w64 ((w64 (x12.X*x20.Y)) - (w64 (x12.Y*x20.X)))))),(w64 (xZ+1)))))
  else (some (.inr wX))
noncomputable def kK (p_0:(List ae)):Option Int:=
 (aK (eY p_0) (0,0)).bind fun zy=>
   some zy
noncomputable def aY (p_0:(List ae)) (jQ:Int) (x29:ae) (x36:ae) (vw:Int):Option (Int ⊕ (Unit ⊕ Bool)):=
 if vw< (p_0.length:Int) then
  ((md (w64 (vw+1)) (p_0.length:Int)).bind fun x70=>
  (if x70≠jQ then
  ((rd p_0 vw).bind fun x78=>
  (md (w64 (vw+1)) (p_0.length:Int)).bind fun x84=>
  (rd p_0 x84).bind fun x85=>
  (iV x29 x36 x78 x85).bind fun x87=>
  some x87)
  else (some false)).bind fun Ii=>
  if Ii=true then
  (some (.inr (.inr false)))
  else (some (.inl (w64 (vw+1)))))
  else (some (.inr (.inl ())))
noncomputable def bJ (p_0:(List ae)) (jQ:Int):Option (Int ⊕ (Unit ⊕ Bool)):=
 if jQ< (p_0.length:Int) then
  ((rd p_0 jQ).bind fun x29=>
  (md (w64 (jQ+1)) (p_0.length:Int)).bind fun x35=>
  (rd p_0 x35).bind fun x36=>
  (md (w64 (jQ+2)) (p_0.length:Int)).bind fun x42=>
  (rd p_0 x42).bind fun x43=>
  (if (x29.X=x36.X∧x29.Y=x36.Y) then
  (some true)
  else ((qw x29 x36 x43).bind fun x52=>
  if x52=true then
  (some true)
  else ((qw x36 x43 x29).bind fun x58=>
  some x58))).bind fun Lc=>
  if Lc=true then
  (some (.inr (.inr false)))
  else ((aK (aY p_0 jQ x29 x36) (w64 (jQ+2))).bind fun o=>match o with
  | (.inl _)=>(some (.inl (w64 (jQ+1))))
  | (.inr r2)=>(some (.inr (.inr r2)))))
  else (some (.inr (.inl ())))
noncomputable def fF (p_0:(List ae)):Option Bool:=
 (if (p_0.length:Int) <3 then
   (some true)
   else (if (p_0.length:Int) >24 then
   (some true)
   else ((kR p_0).bind fun x19=>
   some (!x19)))).bind fun Ld=>
   if Ld=true then
   (some false)
   else ((aK (bJ p_0) 0).bind fun o=>match o with
   | (.inl _)=>((kK p_0).bind fun x91=>
   some (decide (x91>0)))
   | (.inr r2)=>(some r2))
noncomputable def jy (d_0:aG) (nP:Int):Option (Int ⊕ (Unit ⊕ Bool)):=
 if nP< (d_0.aA.length:Int) then
  ((rd d_0.aA nP).bind fun x68=>
  (jX x68.Name).bind fun x72=>
  (if x72=true then
  (if nP>0 then
  ((rd d_0.aA (w64 (nP - 1))).bind fun x82=>
  some (!Op.bytesLess x82.Name.toList x68.Name.toList))
  else (some false))
  else (some true)).bind fun Ij=>
  if Ij=true then
  (some (.inr (.inr false)))
  else ((iO d_0.aH x68.Ring).bind fun x95=>
  (if x95.2=true then
  ((fF x95.1).bind fun x102=>
  some (!x102))
  else (some true)).bind fun E5=>
  if E5=true then
  (some (.inr (.inr false)))
  else (some (.inl (w64 (nP+1))))))
  else (some (.inr (.inl ())))
noncomputable def jY (d_0:aG) (tN:Int):Option (Int ⊕ (Unit ⊕ Bool)):=
 if tN< (d_0.aH.length:Int) then
  ((rd d_0.aH tN).bind fun x37=>
  (bQ x37.X 0 d_0.Width).bind fun x43=>
  (if x43=true then
  ((bQ x37.Y 0 d_0.Height).bind fun x50=>
  if x50=true then
  ((slc d_0.aH 0 tN).bind fun x57=>
  (di x57 x37).bind fun x59=>
  some x59)
  else (some true))
  else (some true)).bind fun Le=>
  if Le=true then
  (some (.inr (.inr false)))
  else (some (.inl (w64 (tN+1)))))
  else (some (.inr (.inl ())))
noncomputable def jZ (d_0:aG):Option Bool:=
 (bQ d_0.Width 10 20000).bind fun x11=>
   (if x11=true then
   ((bQ d_0.Height 10 20000).bind fun x16=>
   if x16=true then
   (if (d_0.aH.length:Int) >48 then
   (some true)
   else (some (decide ((d_0.aA.length:Int) >24))))
   else (some true))
   else (some true)).bind fun Lh=>
   if Lh=true then
   (some false)
   else ((aK (jY d_0) 0).bind fun o=>match o with
   | (.inl _)=>((aK (jy d_0) 0).bind fun o=>match o with
   | (.inl _)=>(some true)
   | (.inr r2)=>(some r2))
   | (.inr r2)=>(some r2))
noncomputable def kS (oC:ByteArray):Option (Int×Int×Int×Int):=
 if oC=(⟨#[97,115,104]⟩:ByteArray) then
  (some (20,40,310,0))
  else (if oC=(⟨#[98,101,101,99,104]⟩:ByteArray) then
  (some (35,45,410,0))
  else (if oC=(⟨#[98,105,114,99,104]⟩:ByteArray) then
  (some (15,33,280,0))
  else (if oC=(⟨#[99,104,101,114,114,121]⟩:ByteArray) then
  (some (50,36,240,0))
  else (if oC=(⟨#[101,98,111,110,121]⟩:ByteArray) then
  (some (95,85,270,0))
  else (if oC=(⟨#[104,111,108,108,121]⟩:ByteArray) then
  (some (5,35,370,0))
  else (if oC=(⟨#[109,97,112,108,101]⟩:ByteArray) then
  (some (10,42,290,0))
  else (if oC=(⟨#[111,97,107]⟩:ByteArray) then
  (some (40,40,330,0))
  else (if oC=(⟨#[114,111,115,101,119,111,111,100]⟩:ByteArray) then
  (some (80,60,220,0))
  else (if oC=(⟨#[119,97,108,110,117,116]⟩:ByteArray) then
  (some (70,38,260,0))
  else (some (0,0,0,3)))))))))))
noncomputable def fG (oC:ByteArray):Option (Int×Bool):=
 (kS oC).bind fun x10=>
   some (x10.1,(x10.2.2.2==0))
noncomputable def gY (v_0:ak):Option Bool:=
 (fG v_0.rf).bind fun x8=>
   (if x8.2=true then
   ((bQ v_0.iM 0 100).bind fun x15=>
   if x15=true then
   ((bQ (w64 (v_0.iM - x8.1)) (-15) 15).bind fun x22=>
   if x22=true then
   ((bQ v_0.dw 0 179).bind fun x27=>
   some x27)
   else (some false))
   else (some false))
   else (some false)).bind fun OO=>
   some OO
noncomputable def gI (v_0:ak):Option Bool:=
 (gY v_0).bind fun x4=>
   some (!x4)
noncomputable def bP (f_1:(ak→Option Bool)) (s_0:(List ak)) (dX:Int):Option (Int ⊕ (Unit ⊕ Int)):=
 if dX< (s_0.length:Int) then
  ((rd s_0 dX).bind fun x14=>
  (f_1 x14).bind fun x16=>
  if x16=true then
  (some (.inr (.inr dX)))
  else (some (.inl (w64 (dX+1)))))
  else (some (.inr (.inl ())))
noncomputable def dM (s_0:(List ak)) (f_1:(ak→Option Bool)):Option Int:=
 (aK (bP f_1 s_0) 0).bind fun o=>match o with
   | (.inl _)=>(some (-1))
   | (.inr r2)=>(some r2)
noncomputable def dm (s_0:(List ak)) (f_1:(ak→Option Bool)):Option Bool:=
 (dM s_0 f_1).bind fun x7=>
   some (decide (x7≥0))
noncomputable def lM (fO:(List ak)):Option Bool:=
 (dm fO (fun a0=>gI a0)).bind fun x4=>
   some (!x4)
noncomputable def fH (d_0:aG) (aI:(List ak)) (aP:Int) (jA:Int):Option Int:=
 (jZ d_0).bind fun x11=>
   (if x11=true then
   ((lM aI).bind fun x15=>
   some (!x15))
   else (some true)).bind fun OQ=>
   if OQ=true then
   (some 1)
   else ((if (aI.length:Int) <1 then
   (some true)
   else (if (aI.length:Int) >10 then
   (some true)
   else ((bQ aP 0 115).bind fun x29=>
   if x29=true then
   ((bQ jA 1 20000).bind fun x34=>
   some (!x34))
   else (some true)))).bind fun Lj=>
   if Lj=true then
   (some 2)
   else (some 0))
noncomputable def lN (uM:(List Int)) (s:(Int×(List bf))):Option ((Int×(List bf)) ⊕ (List bf)):=
 match s with
  | (zA,mV)=>
  if zA< (uM.length:Int) then
  ((rd uM zA).bind fun x13=>
  (md (w64 (zA+1)) (uM.length:Int)).bind fun x20=>
  (rd uM x20).bind fun x21=>
  (apd 16 mV ([(⟨(min2 x13 x21),(max2 x13 x21)⟩:bf)]:List bf)).bind fun x32=>
  some (.inl ((w64 (zA+1)),x32)))
  else (some (.inr mV))
noncomputable def oZ (uM:(List Int)):Option (List bf):=
 (aK (lN uM) (0,([]:List bf))).bind fun iw=>
   some iw
noncomputable def eu (s_0:(List bf)) (v_1:bf) (dX:Int):Option (Int ⊕ (Unit ⊕ Int)):=
 if dX< (s_0.length:Int) then
  ((rd s_0 dX).bind fun x14=>
  if (v_1.e0=x14.e0∧v_1.e1=x14.e1) then
  (some (.inr (.inr dX)))
  else (some (.inl (w64 (dX+1)))))
  else (some (.inr (.inl ())))
noncomputable def iE (s_0:(List bf)) (v_1:bf):Option Int:=
 (aK (eu s_0 v_1) 0).bind fun o=>match o with
   | (.inl _)=>(some (-1))
   | (.inr r2)=>(some r2)
noncomputable def eF (s_0:(List bf)) (v_1:bf):Option Bool:=
 (iE s_0 v_1).bind fun x7=>
   some (decide (x7≥0))
noncomputable def iI (e_0:bf) (Ll:(List (List bf))) (Lm:Int):Option Bool:=
 (rd Ll Lm).bind fun x7=>
   (eF x7 e_0).bind fun x10=>
   some x10
noncomputable def dD (f_1:(bf→Option Bool)) (s_0:(List bf)) (dX:Int):Option (Int ⊕ (Unit ⊕ Int)):=
 if dX< (s_0.length:Int) then
  ((rd s_0 dX).bind fun x14=>
  (f_1 x14).bind fun x16=>
  if x16=true then
  (some (.inr (.inr dX)))
  else (some (.inl (w64 (dX+1)))))
  else (some (.inr (.inl ())))
noncomputable def gp (s_0:(List bf)) (f_1:(bf→Option Bool)):Option Int:=
 (aK (dD f_1 s_0) 0).bind fun o=>match o with
   | (.inl _)=>(some (-1))
   | (.inr r2)=>(some r2)
noncomputable def dG (s_0:(List bf)) (f_1:(bf→Option Bool)):Option Bool:=
 (gp s_0 f_1).bind fun x7=>
   some (decide (x7≥0))
noncomputable def kG (iP:Int) (wY:(List (List Int))):Option ((Int×(List (List Int))) ⊕ (List (List Int))):=
 some (.inl ((w64 (iP+1)),wY))
noncomputable def kH (aW:(List (List bf))) (iF:Int) (s:(Int×(List (List Int)))):Option ((Int×(List (List Int))) ⊕ (List (List Int))):=
 match s with
  | (iP,jJ)=>
  if iP< (aW.length:Int) then
  ((if iF≠iP then
  ((rd aW iF).bind fun x43=>
  (dG x43 (fun a0=>iI a0 aW iP)).bind fun x46=>
  some x46)
  else (some false)).bind fun Ik=>
  if Ik=true then
  ((rd jJ iF).bind fun x52=>
  (apd 8 x52 ([iP]:List Int)).bind fun x56=>
  (rd jJ iF).bind fun x57=>
  kG iP (jJ.set iF.toNat x56))
  else (kG iP jJ))
  else (some (.inr jJ))
noncomputable def kW (aW:(List (List bf))) (s:(Int×(List (List Int)))):Option ((Int×(List (List Int))) ⊕ (List (List Int))):=
 match s with
  | (iF,yY)=>
  if iF< (aW.length:Int) then
  ((aK (kH aW iF) (0,yY)).bind fun vz=>
  some (.inl ((w64 (iF+1)),vz)))
  else (some (.inr yY))
noncomputable def kX (d_0:aG) (s:(Int×(List (List bf)))):Option ((Int×(List (List bf))) ⊕ (List (List bf))):=
 match s with
  | (xQ,qQ)=>
  if xQ< (d_0.aA.length:Int) then
  ((rd d_0.aA xQ).bind fun x15=>
  (oZ x15.Ring).bind fun x20=>
  (apd 24 qQ ([x20]:List (List bf))).bind fun x22=>
  some (.inl ((w64 (xQ+1)),x22)))
  else (some (.inr qQ))
noncomputable def jq (d_0:aG):Option (List (List Int)):=
 (aK (kX d_0) (0,([]:List (List bf)))).bind fun aW=>
   (mkl 24 (aW.length:Int) ([]:List Int)).bind fun x26=>
   (aK (kW aW) (0,x26)).bind fun xR=>
   some xR
noncomputable def gq (s_0:(List Int)) (v_1:Int) (dX:Int):Option (Int ⊕ (Unit ⊕ Int)):=
 if dX< (s_0.length:Int) then
  ((rd s_0 dX).bind fun x14=>
  if v_1=x14 then
  (some (.inr (.inr dX)))
  else (some (.inl (w64 (dX+1)))))
  else (some (.inr (.inl ())))
noncomputable def jR (s_0:(List Int)) (v_1:Int):Option Int:=
 (aK (gq s_0 v_1) 0).bind fun o=>match o with
   | (.inl _)=>(some (-1))
   | (.inr r2)=>(some r2)
noncomputable def dZ (s_0:(List Int)) (v_1:Int):Option Bool:=
 (jR s_0 v_1).bind fun x7=>
   some (decide (x7≥0))
noncomputable def qA (a_0:Int) (b_1:Int):Option (Int×Int):=
 (bQ a_0 0 179).bind fun x8=>
   (if x8=true then
   ((bQ b_1 0 179).bind fun x12=>
   some (!x12))
   else (some true)).bind fun Lp=>
   if Lp=true then
   (some (0,2))
   else (some ((min2 (max2 (w64 (a_0 - b_1)) (w64 (b_1 - a_0))) (w64 (180 - (max2 (w64 (a_0 - b_1)) (w64 (b_1 - a_0)))))),0))
noncomputable def nZ (a_0:ak) (b_1:ak):Option Int:=
 (qA a_0.dw b_1.dw).bind fun x12=>
   (dv .i64 x12.1 6).bind fun x27=>
   some (w64 ((max2 (w64 (a_0.iM - b_1.iM)) (w64 (b_1.iM - a_0.iM)))+x27))
noncomputable def dH (self:(aS×(List Int)×Int×Int)→Option ((List Int)×Int×aS)) (gu:Int) (wZ:(List (List Int))) (xe:(List ak)) (xg:Int):Option ((Int×(List (List Int))×(List ak)×Int) ⊕ (((List (List Int))×(List ak)×Int) ⊕ ((List Int)×Int×aS))):=
 some (.inl ((w64 (gu+1)),wZ,xe,xg))
noncomputable def fU (self:(aS×(List Int)×Int×Int)→Option ((List Int)×Int×aS)) (bn:(List Int)) (aP:Int) (gZ:(List ak)) (gu:Int) (x57:(List Int)) (s:(Bool×Int)):Option ((Bool×Int) ⊕ Bool):=
 match s with
  | (uw,xh)=>
  if xh< (x57.length:Int) then
  ((rd x57 xh).bind fun x62=>
  (if uw=true then
  (if x62≥(bn.length:Int) then
  (some true)
  else ((rd gZ gu).bind fun x75=>
  (rd bn x62).bind fun x83=>
  (rd gZ x83).bind fun x85=>
  (nZ x75 x85).bind fun x87=>
  some (decide (x87≥aP))))
  else (some false)).bind fun AU=>
  some (.inl (AU,(w64 (xh+1)))))
  else (some (.inr uw))
noncomputable def bV (self:(aS×(List Int)×Int×Int)→Option ((List Int)×Int×aS)) (bn:(List Int)) (aP:Int) (ja:Int) (s_0:aS) (x33:(List Int)) (s:(Int×(List (List Int))×(List ak)×Int)):Option ((Int×(List (List Int))×(List ak)×Int) ⊕ (((List (List Int))×(List ak)×Int) ⊕ ((List Int)×Int×aS))):=
 match s with
  | (gu,jh,gZ,ji)=>
  if gu< (s_0.gB.length:Int) then
  ((if (x33.length:Int)≥ja then
  ((dZ x33 gu).bind fun x49=>
  some (!x49))
  else (some false)).bind fun Il=>
  if Il=true then
  (dH self gu jh gZ ji)
  else ((rd jh (bn.length:Int)).bind fun x57=>
  (aK (fU self bn aP gZ gu x57) (true,0)).bind fun qm=>
  if qm=true then
  (if ji=0 then
  (some (.inr (.inr (([]:List Int),5,(⟨jh,gZ,ji⟩:aS)))))
  else ((apd 8 ([]:List Int) bn).bind fun UM=>
  (apd 8 UM ([gu]:List Int)).bind fun x113=>
  (self ((⟨jh,gZ,(w64 (ji - 1))⟩:aS),x113,aP,ja)).bind fun vC=>
  if vC.2.1≠3 then
  (some (.inr (.inr (vC.1,vC.2.1,vC.2.2))))
  else (dH self gu vC.2.2.near vC.2.2.gB vC.2.2.left)))
  else (dH self gu jh gZ ji)))
  else (some (.inr (.inl (jh,gZ,ji))))
noncomputable def dW (self:(aS×(List Int)×Int×Int)→Option ((List Int)×Int×aS)) (s_0:aS) (bn:(List Int)) (aP:Int) (ja:Int):Option ((List Int)×Int×aS):=
 if (bn.length:Int)=(s_0.near.length:Int) then
  (some (bn,0,s_0))
  else ((apd 8 ([]:List Int) bn).bind fun x29=>
  (ND x29).bind fun x31=>
  (UJ x31).bind fun x33=>
  (aK (bV self bn aP ja s_0 x33) (0,s_0.near,s_0.gB,s_0.left)).bind fun o=>match o with
  | (.inl (uy,uz,uA))=>(some (([]:List Int),3,(⟨uy,uz,uA⟩:aS)))
  | (.inr r2)=>(some r2))
noncomputable def fJ (s_0:aS) (bn:(List Int)) (aP:Int) (ja:Int):Option ((List Int)×Int×aS):=AB (fun self s=>match s with | (s_0,bn,aP,ja)=>dW self s_0 bn aP ja) (s_0,bn,aP,ja)
noncomputable def fP (d_0:aG) (aI:(List ak)) (aP:Int) (jA:Int):Option ((List Int)×Int):=
 (fH d_0 aI aP jA).bind fun x16=>
   if x16≠0 then
   (some (([]:List Int),x16))
   else ((jq d_0).bind fun x21=>
   (fJ (⟨x21,aI,jA⟩:aS) ([]:List Int) aP (aI.length:Int)).bind fun x30=>
   some (x30.1,x30.2.1))
noncomputable def bY (aP:Int) (aI:(List ak)) (s:(Int×(List (List Int))×(List ak)×Int)):Option ((Int×(List (List Int))×(List ak)×Int) ⊕ (Unit ⊕ ((List Int)×Int×Int))):=
 match s with
  | (xU,zB,zC,zD)=>
  if xU≤(aI.length:Int) then
  ((fJ (⟨zB,zC,zD⟩:aS) ([]:List Int) aP xU).bind fun x40=>
  if x40.2.1=0 then
  (some (.inr (.inr (x40.1,xU,0))))
  else (if x40.2.1≠3 then
  (some (.inr (.inr (([]:List Int),0,x40.2.1))))
  else (some (.inl ((w64 (xU+1)),x40.2.2.near,x40.2.2.gB,x40.2.2.left)))))
  else (some (.inr (.inl ())))
noncomputable def iJ (d_0:aG) (aI:(List ak)) (aP:Int) (jA:Int):Option ((List Int)×Int×Int):=
 (fH d_0 aI aP jA).bind fun x20=>
   if x20≠0 then
   (some (([]:List Int),0,x20))
   else ((jq d_0).bind fun x25=>
   (aK (bY aP aI) (0,x25,aI,jA)).bind fun o=>match o with
   | (.inl _)=>(some (([]:List Int),0,3))
   | (.inr r2)=>(some r2))
noncomputable def jk (dI:(List Int)) (aP:Int) (aI:(List ak)) (lQ:Int) (x47:(List Int)) (xk:Int):Option (Int ⊕ (Unit ⊕ Bool)):=
 if xk< (x47.length:Int) then
  ((rd x47 xk).bind fun x53=>
  (rd dI lQ).bind fun x58=>
  (rd aI x58).bind fun x60=>
  (rd dI x53).bind fun x65=>
  (rd aI x65).bind fun x67=>
  (nZ x60 x67).bind fun x69=>
  if x69<aP then
  (some (.inr (.inr false)))
  else (some (.inl (w64 (xk+1)))))
  else (some (.inr (.inl ())))
noncomputable def jl (dI:(List Int)) (aP:Int) (aI:(List ak)) (x42:(List (List Int))) (lQ:Int):Option (Int ⊕ (Unit ⊕ Bool)):=
 if lQ< (x42.length:Int) then
  ((rd x42 lQ).bind fun x47=>
  (aK (jk dI aP aI lQ x47) 0).bind fun o=>match o with
  | (.inl _)=>(some (.inl (w64 (lQ+1))))
  | (.inr r2)=>(some (.inr (.inr r2))))
  else (some (.inr (.inl ())))
noncomputable def jK (dI:(List Int)) (aI:(List ak)) (BJ:Int):Option (Int ⊕ (Unit ⊕ Bool)):=
 if BJ< (dI.length:Int) then
  ((rd dI BJ).bind fun x32=>
  (bQ x32 0 (w64 ((aI.length:Int) - 1))).bind fun x38=>
  if x38=true then
  (some (.inl (w64 (BJ+1))))
  else (some (.inr (.inr false))))
  else (some (.inr (.inl ())))
noncomputable def iG (d_0:aG) (aI:(List ak)) (aP:Int) (dI:(List Int)):Option Bool:=
 (fH d_0 aI aP 1).bind fun x18=>
   if (x18≠0∨(dI.length:Int)≠(d_0.aA.length:Int)) then
   (some false)
   else ((aK (jK dI aI) 0).bind fun o=>match o with
   | (.inl _)=>((jq d_0).bind fun x42=>
   (aK (jl dI aP aI x42) 0).bind fun o=>match o with
   | (.inl _)=>(some true)
   | (.inr r2)=>(some r2))
   | (.inr r2)=>(some r2))
noncomputable def o5 (fO:(List Int)) (x_1:Int) (E8:Int):Option (Int ⊕ (Unit ⊕ Bool)):=
 if E8< (fO.length:Int) then
  ((rd fO E8).bind fun x14=>
  if x14=x_1 then
  (some (.inr (.inr true)))
  else (some (.inl (w64 (E8+1)))))
  else (some (.inr (.inl ())))
noncomputable def uB (fO:(List Int)) (x_1:Int):Option Bool:=
 (aK (o5 fO x_1) 0).bind fun o=>match o with
   | (.inl _)=>(some false)
   | (.inr r2)=>(some r2)
noncomputable def mX (sQ:Int) (yZ:Int):Option ((Int×Int) ⊕ Int):=
 some (.inl (yZ,(w64 (sQ+1))))
noncomputable def mY (fO:(List Int)) (s:(Int×Int)):Option ((Int×Int) ⊕ Int):=
 match s with
  | (pV,sQ)=>
  if sQ< (fO.length:Int) then
  ((rd fO sQ).bind fun x16=>
  (slc fO 0 sQ).bind fun x13=>
  (uB x13 x16).bind fun x18=>
  if x18=true then
  (mX sQ pV)
  else (mX sQ (w64 (pV+1))))
  else (some (.inr pV))
noncomputable def og (fO:(List Int)):Option Int:=
 (aK (mY fO) (0,0)).bind fun xW=>
   some xW
noncomputable def fZ (jT:(List Int)):Option (aG×(List ak)×Int):=
 (pG jT).bind fun x9=>
   (pI x9).bind fun x11=>
   (jg x11.2).bind fun x13=>
   (jI x13.2).bind fun x17=>
   some (x11.1,x13.1,x17.1)
noncomputable def cO (aI:(List ak)) (s:(Int×(List (List Int))×(List ak)×Int)):Option ((Int×(List (List Int))×(List ak)×Int) ⊕ (Unit ⊕ ((List Int)×Int×Int))):=
 match s with
  | (nC,zF,zG,zH)=>
  if nC≥0 then
  ((fJ (⟨zF,zG,zH⟩:aS) ([]:List Int) nC (aI.length:Int)).bind fun x36=>
  if x36.2.1=0 then
  (some (.inr (.inr (x36.1,nC,0))))
  else (if x36.2.1≠3 then
  (some (.inr (.inr (([]:List Int),0,x36.2.1))))
  else (some (.inl ((w64 (nC - 1)),x36.2.2.near,x36.2.2.gB,x36.2.2.left)))))
  else (some (.inr (.inl ())))
noncomputable def jb (d_0:aG) (aI:(List ak)) (y5:Int):Option ((List Int)×Int×Int):=
 (fH d_0 aI 0 y5).bind fun x17=>
   if x17≠0 then
   (some (([]:List Int),0,x17))
   else ((jq d_0).bind fun x22=>
   (aK (cO aI) (115,x22,aI,y5)).bind fun o=>match o with
   | (.inl _)=>(some (([]:List Int),0,3))
   | (.inr r2)=>(some r2))
noncomputable def rF (jT:(List Int)) (rG:(List Int)):Option Bool:=
 (pF jT).bind fun x23=>
   (if x23=true then
   (some true)
   else ((pF rG).bind fun x26=>
   some x26)).bind fun rH=>
   if rH=true then
   (some true)
   else ((gW jT).bind fun x30=>
   (fP x30.1 x30.2.1 x30.2.2.1 x30.2.2.2).bind fun x40=>
   (iJ x30.1 x30.2.1 x30.2.2.1 x30.2.2.2).bind fun x48=>
   if (x40.2=1∨x40.2=2) then
   (some ((x48.2.2==x40.2)&&(((x40.1.length:Int)==0)&&((x48.1.length:Int)==0))))
   else ((if x40.2=0 then
   ((iG x30.1 x30.2.1 x30.2.2.1 x40.1).bind fun x78=>
   if x78=true then
   (if x48.2.2=0 then
   ((iG x30.1 x30.2.1 x30.2.2.1 x48.1).bind fun x89=>
   if x89=true then
   (if x48.2.2=3 then
   (some true)
   else (if x40.2=3 then
   (some (x48.2.2==0))
   else (some false)))
   else (some true))
   else (if x48.2.2=3 then
   (some true)
   else (if x40.2=3 then
   (some (x48.2.2==0))
   else (some false))))
   else (some true))
   else (if x48.2.2=0 then
   ((iG x30.1 x30.2.1 x30.2.2.1 x48.1).bind fun x89=>
   if x89=true then
   (if x40.2=3 then
   (some (x48.2.2==0))
   else (some false))
   else (some true))
   else (if x40.2=3 then
   (some (x48.2.2==0))
   else (some false)))).bind fun Io=>
   if Io=true then
   (some false)
   else ((if x48.2.2=0 then
   ((og x48.1).bind fun x114=>
   if x48.2.1≠x114 then
   (some true)
   else (if x40.2=0 then
   ((og x40.1).bind fun aaf=>
   some (decide (x48.2.1>aaf)))
   else (some false)))
   else (if x40.2=0 then
   (some false)
   else (some false))).bind fun Fa=>
   if Fa=true then
   (some false)
   else ((fZ rG).bind fun rM=>
   (jb rM.1 rM.2.1 rM.2.2).bind fun y7=>
   if y7.2.2≠0 then
   (some (((y7.1.length:Int)==0)&&(y7.2.1==0)))
   else ((iG rM.1 rM.2.1 y7.2.1 y7.1).bind fun x158=>
   if x158=true then
   (if y7.2.1=115 then
   (some true)
   else ((fP rM.1 rM.2.1 (w64 (y7.2.1+1)) rM.2.2).bind fun x168=>
   some (x168.2 != 0)))
   else (some false))))))
end Go.Pw
