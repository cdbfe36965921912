/- Plain functions that answer what the program's functions answer. Conditions: none; definitions alone. -/
import Derived.Test.YtdibfdcmbjaejaaSimPw
namespace Go.Pw
open Go.Sim (min2 max2)
set_option linter.unusedVariables false
def LD (k:IntKind) (a b:Int):Int:=k.wrap (BitVec.ofInt k.bits a &&& BitVec.ofInt k.bits b).toNat
structure ae where
 X:Int
 Y:Int
structure aj where
 Name:ByteArray
 Ring:(List Int)
structure aB where
 Width:Int
 Height:Int
 aI:(List ae)
 ai:(List aj)
structure aC where
 code:(List Int)
 at_:Int
 seed:Int
structure aF where
 Jd:ByteArray
 iC:Int
 dw:Int
structure aK where
 near:(List (List Int))
 bT:(List Int)
 least:Int
 left:Int
 found:Int
 first:(List Int)
 one:Bool
structure bJ where
 e0:Int
 e1:Int
structure aZ where
 pairs:(List (List Int))
 faces:Int
 nR:(List aF)
 least:Int
 shifts:(List Int)
 first:Bool
 best:(List Int)
 count:Int
 nodes:Int
 budget:Int
structure jO where
 qI:(List aF)
 Shifts:(List Int)
noncomputable def BM (gW:(List Int)) (vZ:(List Int)):Option Bool:=
 some ((decide ((gW.length:Int) >1048576))||(decide ((vZ.length:Int) >1048576)))
noncomputable def wo (gW:(List Int)):Option aC:=
 some (⟨gW,0,0⟩:aC)
noncomputable def jZ (s_0:aC) (xP:Int):Option (Int×aC):=
 if (w64 (s_0.at_+1))≤(s_0.code.length:Int) then
  (some (xP,(⟨s_0.code,(w64 (s_0.at_+1)),(IntKind.wrap .u64 ((IntKind.wrap .u64 ((IntKind.wrap .u64 (s_0.seed*6364136223846793005))+(IntKind.wrap .u64 (xP))))+1442695040888963407))⟩:aC)))
  else ((shr .u64 (IntKind.wrap .u64 ((IntKind.wrap .u64 ((IntKind.wrap .u64 (s_0.seed*6364136223846793005))+(IntKind.wrap .u64 (xP))))+1442695040888963407)) 40).bind fun x59=>
  some ((w64 ((LD .u64 x59 255))),(⟨s_0.code,(w64 (s_0.at_+1)),(IntKind.wrap .u64 ((IntKind.wrap .u64 ((IntKind.wrap .u64 (s_0.seed*6364136223846793005))+(IntKind.wrap .u64 (xP))))+1442695040888963407))⟩:aC)))
noncomputable def nC (s_0:aC):Option (Int×aC):=
 if s_0.at_< (s_0.code.length:Int) then
  ((rd s_0.code s_0.at_).bind fun x22=>
  jZ s_0 (w64 (x22)))
  else (jZ s_0 0)
noncomputable def ku (n_1:Int) (Nk:Int) (Df:(List Int)) (Dh:Int) (Di:Int):Option (Int×aC):=
 (md Nk n_1).bind fun x19=>
   some (x19,(⟨Df,Dh,Di⟩:aC))
noncomputable def bf (s_0:aC) (n_1:Int):Option (Int×aC):=
 if n_1≤1 then
  (some (0,s_0))
  else ((nC s_0).bind fun x9=>
  if n_1>200 then
  ((nC x9.2).bind fun x15=>
  ku n_1 (w64 ((w64 (x9.1*256))+x15.1)) x15.2.code x15.2.at_ x15.2.seed)
  else (ku n_1 x9.1 x9.2.code x9.2.at_ x9.2.seed))
noncomputable def iW (s_0:aC) (n_1:Int):Option (Bool×aC):=
 (bf s_0 n_1).bind fun x7=>
   some ((x7.1==0),x7.2)
noncomputable def pR (x13:(Int×aC)) (x18:(Int×aC)) (x63:(Bool×aC)) (x8:(Int×aC)) (zV:(List aj)):Option (aB×aC):=
 some ((⟨(w64 ((w64 ((w64 ((w64 ((w64 (20+x8.1))+20))+x13.1))+20))+x18.1)),(w64 ((w64 ((w64 ((w64 ((w64 (20+x8.1))+20))+x13.1))+20))+x18.1)),([(⟨0,0⟩:ae),(⟨(w64 ((w64 ((w64 ((w64 ((w64 (20+x8.1))+20))+x13.1))+20))+x18.1)),0⟩:ae),(⟨(w64 ((w64 ((w64 ((w64 ((w64 (20+x8.1))+20))+x13.1))+20))+x18.1)),(w64 ((w64 ((w64 ((w64 ((w64 (20+x8.1))+20))+x13.1))+20))+x18.1))⟩:ae),(⟨0,(w64 ((w64 ((w64 ((w64 ((w64 (20+x8.1))+20))+x13.1))+20))+x18.1))⟩:ae),(⟨(w64 (20+x8.1)),(w64 (20+x8.1))⟩:ae),(⟨(w64 ((w64 ((w64 (20+x8.1))+20))+x13.1)),(w64 (20+x8.1))⟩:ae),(⟨(w64 ((w64 ((w64 (20+x8.1))+20))+x13.1)),(w64 ((w64 ((w64 (20+x8.1))+20))+x13.1))⟩:ae),(⟨(w64 (20+x8.1)),(w64 ((w64 ((w64 (20+x8.1))+20))+x13.1))⟩:ae)]:List ae),zV⟩:aB),x63.2)
noncomputable def oG (x13:(Int×aC)) (x18:(Int×aC)) (x57:(Bool×aC)) (x8:(Int×aC)) (xQ:(List aj)):Option (aB×aC):=
 (iW x57.2 4).bind fun x63=>
   if x63.1=true then
   (pR x13 x18 x63 x8 ([(⟨(⟨#[101]⟩:ByteArray),([4,5,6,7]:List Int)⟩:aj)]:List aj))
   else (pR x13 x18 x63 x8 xQ)
noncomputable def wu (s_0:aC):Option (aB×aC):=
 (bf s_0 50).bind fun x8=>
   (bf x8.2 50).bind fun x13=>
   (bf x13.2 50).bind fun x18=>
   (iW x18.2 3).bind fun x57=>
   if x57.1=true then
   ((slc ([(⟨(⟨#[97]⟩:ByteArray),([0,1,5,4]:List Int)⟩:aj),(⟨(⟨#[98]⟩:ByteArray),([1,2,6,5]:List Int)⟩:aj),(⟨(⟨#[99]⟩:ByteArray),([2,3,7,6]:List Int)⟩:aj),(⟨(⟨#[100]⟩:ByteArray),([3,0,4,7]:List Int)⟩:aj),(⟨(⟨#[101]⟩:ByteArray),([4,5,6,7]:List Int)⟩:aj)]:List aj) 1 (([(⟨(⟨#[97]⟩:ByteArray),([0,1,5,4]:List Int)⟩:aj),(⟨(⟨#[98]⟩:ByteArray),([1,2,6,5]:List Int)⟩:aj),(⟨(⟨#[99]⟩:ByteArray),([2,3,7,6]:List Int)⟩:aj),(⟨(⟨#[100]⟩:ByteArray),([3,0,4,7]:List Int)⟩:aj),(⟨(⟨#[101]⟩:ByteArray),([4,5,6,7]:List Int)⟩:aj)]:List aj).length:Int)).bind fun x60=>
   oG x13 x18 x57 x8 ((([(⟨(⟨#[97]⟩:ByteArray),([0,1,5,4]:List Int)⟩:aj),(⟨(⟨#[98]⟩:ByteArray),([1,2,6,5]:List Int)⟩:aj),(⟨(⟨#[99]⟩:ByteArray),([2,3,7,6]:List Int)⟩:aj),(⟨(⟨#[100]⟩:ByteArray),([3,0,4,7]:List Int)⟩:aj),(⟨(⟨#[101]⟩:ByteArray),([4,5,6,7]:List Int)⟩:aj)]:List aj).take ((([(⟨(⟨#[97]⟩:ByteArray),([0,1,5,4]:List Int)⟩:aj),(⟨(⟨#[98]⟩:ByteArray),([1,2,6,5]:List Int)⟩:aj),(⟨(⟨#[99]⟩:ByteArray),([2,3,7,6]:List Int)⟩:aj),(⟨(⟨#[100]⟩:ByteArray),([3,0,4,7]:List Int)⟩:aj),(⟨(⟨#[101]⟩:ByteArray),([4,5,6,7]:List Int)⟩:aj)]:List aj).length:Int).toNat)).drop ((1:Int).toNat)))
   else (oG x13 x18 x57 x8 ([(⟨(⟨#[97]⟩:ByteArray),([0,1,5,4]:List Int)⟩:aj),(⟨(⟨#[98]⟩:ByteArray),([1,2,6,5]:List Int)⟩:aj),(⟨(⟨#[99]⟩:ByteArray),([2,3,7,6]:List Int)⟩:aj),(⟨(⟨#[100]⟩:ByteArray),([3,0,4,7]:List Int)⟩:aj),(⟨(⟨#[101]⟩:ByteArray),([4,5,6,7]:List Int)⟩:aj)]:List aj))
noncomputable def kD (lu:(List Int)) (s:(Int×(List Int))):Option ((Int×(List Int)) ⊕ (List Int)):=
 match s with
  | (Gv,zW)=>
  if Gv≥0 then
  ((rd lu Gv).bind fun x44=>
  (apd 1 zW ([x44]:List Int)).bind fun x47=>
  some (.inl ((w64 (Gv - 1)),x47)))
  else (some (.inr zW))
noncomputable def oH (lu:(List Int)):Option ByteArray:=
 (aP (kD lu) ((w64 ((lu.length:Int) - 1)),([]:List Int))).bind fun wz=>
   some (strOf wz)
noncomputable def uU (lC:(List Int)) (zX:Int) (D7:Int):Option ((Int×(List Int)) ⊕ (List Int)):=
 (apd 1 lC ([(IntKind.wrap .u8 ((w64 (48+D7))))]:List Int)).bind fun x27=>
   (dv .i64 zX 10).bind fun x15=>
   some (.inl (x15,x27))
noncomputable def jk (s:(Int×(List Int))):Option ((Int×(List Int)) ⊕ (List Int)):=
 match s with
  | (zX,lC)=>
  if zX≠0 then
  ((md zX 10).bind fun x17=>
  if x17<0 then
  (uU lC zX (w64 (0 - x17)))
  else (uU lC zX x17))
  else (some (.inr lC))
noncomputable def sW (n_0:Int):Option ByteArray:=
 if n_0=0 then
  (some (⟨#[48]⟩:ByteArray))
  else ((aP (jk) (n_0,([]:List Int))).bind fun pU=>
  if n_0<0 then
  ((apd 1 pU ([45]:List Int)).bind fun x32=>
  oH x32)
  else (oH pU))
noncomputable def kL (x16:(Int×aC)) (bH:Int) (s:(Int×(List aj))):Option ((Int×(List aj)) ⊕ (List aj)):=
 match s with
  | (bK,zY)=>
  if bK< (w64 (1+x16.1)) then
  ((sW bH).bind fun x107=>
  (cat (⟨#[102]⟩:ByteArray) x107).bind fun afb=>
  (sW bK).bind fun Zj=>
  (cat afb Zj).bind fun yX=>
  (apd 40 zY ([(⟨yX,([(w64 ((w64 (bH* (w64 ((w64 (1+x16.1))+1))))+bK)),(w64 ((w64 ((w64 (bH* (w64 ((w64 (1+x16.1))+1))))+bK))+1)),(w64 ((w64 ((w64 ((w64 (bH* (w64 ((w64 (1+x16.1))+1))))+bK))+(w64 (1+x16.1))))+2)),(w64 ((w64 ((w64 ((w64 (bH* (w64 ((w64 (1+x16.1))+1))))+bK))+(w64 (1+x16.1))))+1))]:List Int)⟩:aj)]:List aj)).bind fun adZ=>
  some (.inl ((w64 (bK+1)),adZ)))
  else (some (.inr zY))
noncomputable def kM (x16:(Int×aC)) (x19:(Int×aC)) (s:(Int×(List aj))):Option ((Int×(List aj)) ⊕ (List aj)):=
 match s with
  | (bH,zZ)=>
  if bH< (w64 (1+x19.1)) then
  ((aP (kL x16 bH) (0,zZ)).bind fun yA=>
  some (.inl ((w64 (bH+1)),yA)))
  else (some (.inr zZ))
noncomputable def kP (x16:(Int×aC)) (iG:(List Int)) (sZ:Int) (iQ:(List Int)) (s:(Int×(List ae))):Option ((Int×(List ae)) ⊕ (List ae)):=
 match s with
  | (Aa,Ac)=>
  if Aa≤(w64 (1+x16.1)) then
  ((rd iG Aa).bind fun x78=>
  (rd iQ sZ).bind fun x82=>
  (apd 16 Ac ([(⟨x78,x82⟩:ae)]:List ae)).bind fun x86=>
  some (.inl ((w64 (Aa+1)),x86)))
  else (some (.inr Ac))
noncomputable def kQ (x16:(Int×aC)) (x19:(Int×aC)) (iG:(List Int)) (iQ:(List Int)) (s:(Int×(List ae))):Option ((Int×(List ae)) ⊕ (List ae)):=
 match s with
  | (sZ,Ad)=>
  if sZ≤(w64 (1+x19.1)) then
  ((aP (kP x16 iG sZ iQ) (0,Ad)).bind fun zu=>
  some (.inl ((w64 (sZ+1)),zu)))
  else (some (.inr Ad))
noncomputable def xR (x19:(Int×aC)) (s:(Int×(List Int)×Int×Int×(List Int))):Option ((Int×(List Int)×Int×Int×(List Int)) ⊕ ((List Int)×Int×Int×(List Int))):=
 match s with
  | (D8,Ae,Af,Ag,zI)=>
  if D8< (w64 (1+x19.1)) then
  ((rd zI D8).bind fun x47=>
  (bf (⟨Ae,Af,Ag⟩:aC) 200).bind fun x51=>
  (apd 8 zI ([(w64 ((w64 (x47+20))+x51.1))]:List Int)).bind fun x54=>
  some (.inl ((w64 (D8+1)),x51.2.code,x51.2.at_,x51.2.seed,x54)))
  else (some (.inr (Ae,Af,Ag,zI)))
noncomputable def jm (x16:(Int×aC)) (s:(Int×(List Int)×Int×Int×(List Int))):Option ((Int×(List Int)×Int×Int×(List Int)) ⊕ ((List Int)×Int×Int×(List Int))):=
 match s with
  | (Hw,Dj,Dk,Dl,Dn)=>
  if Hw< (w64 (1+x16.1)) then
  ((rd Dn Hw).bind fun x31=>
  (bf (⟨Dj,Dk,Dl⟩:aC) 200).bind fun x35=>
  (apd 8 Dn ([(w64 ((w64 (x31+20))+x35.1))]:List Int)).bind fun x38=>
  some (.inl ((w64 (Hw+1)),x35.2.code,x35.2.at_,x35.2.seed,x38)))
  else (some (.inr (Dj,Dk,Dl,Dn)))
noncomputable def wB (s_0:aC):Option (aB×aC):=
 (bf s_0 3).bind fun x16=>
   (bf x16.2 3).bind fun x19=>
   (aP (jm x16) (0,x19.2.code,x19.2.at_,x19.2.seed,([0]:List Int))).bind fun o=>match o with
   | (yL,yM,yN,iG)=>
   (aP (xR x19) (0,yL,yM,yN,([0]:List Int))).bind fun o=>match o with
   | (gy,gz,gB,iQ)=>
   (rd iG (w64 (1+x16.1))).bind fun x57=>
   (rd iQ (w64 (1+x19.1))).bind fun x61=>
   (aP (kQ x16 x19 iG iQ) (0,([]:List ae))).bind fun mQ=>
   (aP (kM x16 x19) (0,([]:List aj))).bind fun zx=>
   some ((⟨x57,x61,mQ,zx⟩:aB),(⟨gy,gz,gB⟩:aC))
noncomputable def tq (vw:Int) (yO:(List aj)) (pV:(List Int)) (pW:Int) (pX:Int):Option ((Int×(List Int)×Int×Int×(List aj)) ⊕ ((List Int)×Int×Int×(List aj))):=
 some (.inl ((w64 (vw+1)),pV,pW,pX,yO))
noncomputable def nS (d_1:aB) (s:(Int×(List Int)×Int×Int×(List aj))):Option ((Int×(List Int)×Int×Int×(List aj)) ⊕ ((List Int)×Int×Int×(List aj))):=
 match s with
  | (vw,nD,nG,nH,qC)=>
  if vw< (d_1.ai.length:Int) then
  ((rd d_1.ai vw).bind fun x25=>
  (if (x25.Ring.length:Int)=4 then
  ((iW (⟨nD,nG,nH⟩:aC) 3).bind fun x33=>
  some (x33.1,x33.2.code,x33.2.at_,x33.2.seed))
  else (some (false,nD,nG,nH))).bind fun s=>match s with
  | (D9,vK,vM,vN)=>
  if D9=true then
  ((rd x25.Ring 0).bind fun x41=>
  (rd x25.Ring 1).bind fun x45=>
  (rd x25.Ring 2).bind fun x49=>
  (apd 40 qC ([(⟨x25.Name,([x41,x45,x49]:List Int)⟩:aj)]:List aj)).bind fun x54=>
  (rd x25.Ring 0).bind fun x63=>
  (rd x25.Ring 2).bind fun x67=>
  (rd x25.Ring 3).bind fun x71=>
  (cat x25.Name (⟨#[98]⟩:ByteArray)).bind fun x60=>
  (apd 40 x54 ([(⟨x60,([x63,x67,x71]:List Int)⟩:aj)]:List aj)).bind fun x76=>
  tq vw x76 vK vM vN)
  else ((apd 40 qC ([x25]:List aj)).bind fun x82=>
  tq vw x82 vK vM vN))
  else (some (.inr (nD,nG,nH,qC)))
noncomputable def BN (s_0:aC) (d_1:aB):Option (aB×aC):=
 (aP (nS d_1) (0,s_0.code,s_0.at_,s_0.seed,([]:List aj))).bind fun o=>match o with
   | (lH,lI,lJ,uK)=>
   some ((⟨d_1.Width,d_1.Height,d_1.aI,uK⟩:aB),(⟨lH,lI,lJ⟩:aC))
noncomputable def qY (pV:(List Int)) (pW:Int) (pX:Int) (Dp:Int) (Dq:Int) (Dt:(List ae)) (Du:(List aj)):Option (aB×aC):=
 some ((⟨Dp,Dq,Dt,Du⟩:aB),(⟨pV,pW,pX⟩:aC))
noncomputable def uh (s_0:aC):Option (aB×aC):=
 (wB s_0).bind fun x5=>
   (iW x5.2 2).bind fun x7=>
   if x7.1=true then
   ((BN x7.2 x5.1).bind fun x10=>
   qY x10.2.code x10.2.at_ x10.2.seed x10.1.Width x10.1.Height x10.1.aI x10.1.ai)
   else (qY x7.2.code x7.2.at_ x7.2.seed x5.1.Width x5.1.Height x5.1.aI x5.1.ai)
noncomputable def jP (s_0:aC) (xU:(List Int)):Option (Int×aC):=
 (bf s_0 (xU.length:Int)).bind fun x9=>
   (rd xU x9.1).bind fun x10=>
   some (x10,x9.2)
noncomputable def pY (s_0:aC) (xU:(List ByteArray)):Option (ByteArray×aC):=
 (bf s_0 (xU.length:Int)).bind fun x9=>
   (rd xU x9.1).bind fun x10=>
   some (x10,x9.2)
noncomputable def qf (s_0:aC):Option (ByteArray×aC):=
 (pY s_0 ([(⟨#[97]⟩:ByteArray),(⟨#[98]⟩:ByteArray),(⟨#[99]⟩:ByteArray),(⟨#[111,97,107]⟩:ByteArray),(⟨#[115,116,97,114,55]⟩:ByteArray),(⟨#[114,111,115,101]⟩:ByteArray),(⟨#[120,57]⟩:ByteArray),(⟨#[97,98,99,100,101,102,103,104,105,106]⟩:ByteArray),(⟨#[97,98,99,100,101,102,103,104,105,106,107]⟩:ByteArray),(⟨#[65]⟩:ByteArray),(⟨#[]⟩:ByteArray),(⟨#[49,97]⟩:ByteArray),(⟨#[97,45,98]⟩:ByteArray)]:List ByteArray)).bind fun x5=>
   some (x5.1,x5.2)
noncomputable def dX (Ah:(List Int)) (Ai:Int) (Aj:Int) (Ak:Int) (Am:Int) (Ap:(List ae)) (Aq:(List aj)):Option (aB×aC):=
 some ((⟨Ak,Am,Ap,Aq⟩:aB),(⟨Ah,Ai,Aj⟩:aC))
noncomputable def qg (eG:Int) (Ar:(List aj)) (Au:(List ae)):Option ((Int×(List ae)×(List aj)) ⊕ ((List ae)×(List aj))):=
 some (.inl ((w64 (eG+1)),Au,Ar))
noncomputable def kR (x91:(Int×aC)) (s:(Int×(List ae)×(List aj))):Option ((Int×(List ae)×(List aj)) ⊕ ((List ae)×(List aj))):=
 match s with
  | (eG,Aw,tu)=>
  if eG< (w64 (23+x91.1)) then
  ((apd 16 Aw ([(⟨(w64 (20*eG)),0⟩:ae),(⟨(w64 (20*eG)),10⟩:ae)]:List ae)).bind fun x107=>
  if eG>0 then
  ((cat (⟨#[102]⟩:ByteArray) (strOf ([(IntKind.wrap .u8 ((w64 (97+eG))))]:List Int))).bind fun aa7=>
  (apd 40 tu ([(⟨aa7,([(w64 ((w64 (2*eG)) - 2)),(w64 (2*eG)),(w64 ((w64 (2*eG))+1)),(w64 ((w64 (2*eG)) - 1))]:List Int)⟩:aj)]:List aj)).bind fun ad1=>
  qg eG ad1 x107)
  else (qg eG tu x107))
  else (some (.inr (Aw,tu)))
noncomputable def wC (s_0:aC):Option (aB×aC):=
 (uh s_0).bind fun x8=>
   (bf x8.2 16).bind fun x13=>
   if x13.1=0 then
   ((slc x8.1.ai 1 (x8.1.ai.length:Int)).bind fun x18=>
   dX x13.2.code x13.2.at_ x13.2.seed x8.1.Width x8.1.Height x8.1.aI ((x8.1.ai.take ((x8.1.ai.length:Int).toNat)).drop ((1:Int).toNat)))
   else (if x13.1=1 then
   ((apd 16 x8.1.aI ([(⟨7,3⟩:ae)]:List ae)).bind fun x26=>
   dX x13.2.code x13.2.at_ x13.2.seed x8.1.Width x8.1.Height x26 x8.1.ai)
   else (if x13.1=2 then
   ((jP x13.2 ([(w64 (x8.1.Width+5)),9,10,20000,20001]:List Int)).bind fun x35=>
   dX x35.2.code x35.2.at_ x35.2.seed x35.1 x8.1.Height x8.1.aI x8.1.ai)
   else (if x13.1=3 then
   ((bf x13.2 (x8.1.ai.length:Int)).bind fun x43=>
   (rd x8.1.ai x43.1).bind fun x49=>
   dX x43.2.code x43.2.at_ x43.2.seed x8.1.Width x8.1.Height x8.1.aI (x8.1.ai.set x43.1.toNat (⟨x49.Name,([0,1,(w64 ((x8.1.aI.length:Int) - 1))]:List Int)⟩:aj)))
   else (if x13.1=4 then
   ((bf x13.2 (x8.1.ai.length:Int)).bind fun x57=>
   (qf x57.2).bind fun x59=>
   (rd x8.1.ai x57.1).bind fun x60=>
   dX x59.2.code x59.2.at_ x59.2.seed x8.1.Width x8.1.Height x8.1.aI (x8.1.ai.set x57.1.toNat (⟨x59.1,x60.Ring⟩:aj)))
   else (if x13.1=5 then
   ((bf x13.2 (x8.1.ai.length:Int)).bind fun x68=>
   (jP x68.2 ([1,(-1),(x8.1.aI.length:Int)]:List Int)).bind fun x74=>
   (rd x8.1.ai x68.1).bind fun x76=>
   dX x74.2.code x74.2.at_ x74.2.seed x8.1.Width x8.1.Height x8.1.aI (x8.1.ai.set x68.1.toNat (⟨x76.Name,([0,x74.1]:List Int)⟩:aj)))
   else (if x13.1=6 then
   ((rd x8.1.aI 0).bind fun x84=>
   (rd x8.1.aI 1).bind fun x86=>
   dX x13.2.code x13.2.at_ x13.2.seed x8.1.Width x8.1.Height (x8.1.aI.set ((1:Int).toNat) x84) x8.1.ai)
   else (if x13.1=7 then
   ((bf x13.2 3).bind fun x91=>
   (aP (kR x91) (0,([]:List ae),([]:List aj))).bind fun o=>match o with
   | (uj,uk)=>
   dX x91.2.code x91.2.at_ x91.2.seed 480 20 uj uk)
   else (if x13.1=8 then
   ((bf x13.2 (x8.1.aI.length:Int)).bind fun Ut=>
   (rd x8.1.aI Ut.1).bind fun Zk=>
   (bf Ut.2 30).bind fun KN=>
   (rd x8.1.aI Ut.1).bind fun x150=>
   dX KN.2.code KN.2.at_ KN.2.seed x8.1.Width x8.1.Height (x8.1.aI.set Ut.1.toNat (⟨(w64 (Zk.X+KN.1)),x150.Y⟩:ae)) x8.1.ai)
   else (dX x13.2.code x13.2.at_ x13.2.seed x8.1.Width x8.1.Height x8.1.aI x8.1.ai)))))))))
noncomputable def wE (s_0:aC):Option (aB×aC):=
 (iW s_0 2).bind fun x4=>
   if x4.1=true then
   ((wu x4.2).bind fun x6=>
   some (x6.1,x6.2))
   else ((wC x4.2).bind fun x8=>
   some (x8.1,x8.2))
noncomputable def fJ (n_0:Int) (Dv:Int) (xW:Int):Option Bool:=
 some ((decide (n_0≥Dv))&&(decide (n_0≤xW)))
noncomputable def lT (d_0:aB) (dQ:Int) (Hy:Int):Option (Int ⊕ (Unit ⊕ Bool)):=
 if Hy<dQ then
  ((rd d_0.aI dQ).bind fun x60=>
  (rd d_0.aI Hy).bind fun x67=>
  if (x60.X=x67.X∧x60.Y=x67.Y) then
  (some (.inr (.inr false)))
  else (some (.inl (w64 (Hy+1)))))
  else (some (.inr (.inl ())))
noncomputable def lU (d_0:aB) (dQ:Int):Option (Int ⊕ (Unit ⊕ Bool)):=
 if dQ< (d_0.aI.length:Int) then
  ((rd d_0.aI dQ).bind fun x25=>
  (fJ x25.X 0 d_0.Width).bind fun x32=>
  (if x32=true then
  ((rd d_0.aI dQ).bind fun x40=>
  (fJ x40.Y 0 d_0.Height).bind fun x47=>
  some (!x47))
  else (some true)).bind fun Ea=>
  if Ea=true then
  (some (.inr (.inr false)))
  else ((aP (lT d_0 dQ) 0).bind fun o=>match o with
  | (.inl _)=>(some (.inl (w64 (dQ+1))))
  | (.inr r2)=>(some (.inr (.inr r2)))))
  else (some (.inr (.inl ())))
noncomputable def tC (d_0:aB):Option Bool:=
 if (d_0.aI.length:Int) >48 then
  (some false)
  else ((aP (lU d_0) 0).bind fun o=>match o with
  | (.inl _)=>(some true)
  | (.inr r2)=>(some r2))
noncomputable def o5 (c_0:Int):Option Bool:=
 some ((decide (c_0≥97))&&(decide (c_0≤122)))
noncomputable def uM (c_0:Int):Option Bool:=
 some ((decide (c_0≥48))&&(decide (c_0≤57)))
noncomputable def lZ (s_0:ByteArray) (dQ:Int):Option (Int ⊕ (Unit ⊕ Bool)):=
 if dQ< (s_0.size:Int) then
  ((bt s_0 dQ).bind fun x25=>
  (o5 x25).bind fun x26=>
  (if x26=true then
  (some false)
  else ((bt s_0 dQ).bind fun x31=>
  (uM x31).bind fun x32=>
  some (!x32))).bind fun D9=>
  if D9=true then
  (some (.inr (.inr false)))
  else (some (.inl (w64 (dQ+1)))))
  else (some (.inr (.inl ())))
noncomputable def um (s_0:ByteArray):Option Bool:=
 (if s_0=(⟨#[]⟩:ByteArray) then
   (some true)
   else (if (s_0.size:Int) >10 then
   (some true)
   else ((bt s_0 0).bind fun x13=>
   (o5 x13).bind fun x14=>
   some (!x14)))).bind fun Qs=>
   if Qs=true then
   (some false)
   else ((aP (lZ s_0) 0).bind fun o=>match o with
   | (.inl _)=>(some true)
   | (.inr r2)=>(some r2))
noncomputable def yY (d_0:aB) (nU:(List Int)) (s:(Int×(List ae))):Option ((Int×(List ae)) ⊕ ((List ae) ⊕ ((List ae)×Bool))):=
 match s with
  | (Eb,oI)=>
  if Eb< (nU.length:Int) then
  ((rd nU Eb).bind fun x17=>
  (fJ x17 0 (w64 ((d_0.aI.length:Int) - 1))).bind fun x25=>
  if x25=true then
  ((rd nU Eb).bind fun x34=>
  (rd d_0.aI x34).bind fun x36=>
  (apd 16 oI ([x36]:List ae)).bind fun x39=>
  some (.inl ((w64 (Eb+1)),x39)))
  else (some (.inr (.inr (([]:List ae),false)))))
  else (some (.inr (.inl oI)))
noncomputable def wF (d_0:aB) (nU:(List Int)):Option ((List ae)×Bool):=
 (aP (yY d_0 nU) (0,([]:List ae))).bind fun o=>match o with
   | (.inl lK)=>(some (lK,true))
   | (.inr r2)=>(some r2)
noncomputable def Hz (p_0:ae):Option Bool:=
 (fJ p_0.X 0 20000).bind fun x5=>
   (if x5=true then
   ((fJ p_0.Y 0 20000).bind fun x9=>
   some x9)
   else (some false)).bind fun jw=>
   some jw
noncomputable def yB (a_0:ae) (b_1:ae) (c_2:ae):Option Int:=
 some (w64 ((w64 ((w64 (b_1.X - a_0.X)) * (w64 (c_2.Y - a_0.Y)))) - (w64 ((w64 (b_1.Y - a_0.Y)) * (w64 (c_2.X - a_0.X))))))
noncomputable def mV (a_0:ae) (b_1:ae) (c_2:ae):Option Int:=
 (yB a_0 b_1 c_2).bind fun x11=>
   if x11>0 then
   (some 1)
   else (if x11<0 then
   (some (-1))
   else (some 0))
noncomputable def mX (a_0:Int) (b_1:Int):Option Int:=
 if a_0<b_1 then
  (some a_0)
  else (some b_1)
noncomputable def lM (a_0:Int) (b_1:Int):Option Int:=
 if a_0>b_1 then
  (some a_0)
  else (some b_1)
noncomputable def o6 (a_0:ae) (b_1:ae) (p_2:ae):Option Bool:=
 (mV a_0 b_1 p_2).bind fun x10=>
   (if x10=0 then
   ((mX a_0.X b_1.X).bind fun x19=>
   (lM a_0.X b_1.X).bind fun x24=>
   (fJ p_2.X x19 x24).bind fun x25=>
   if x25=true then
   ((mX a_0.Y b_1.Y).bind fun x34=>
   (lM a_0.Y b_1.Y).bind fun x39=>
   (fJ p_2.Y x34 x39).bind fun x40=>
   some x40)
   else (some false))
   else (some false)).bind fun nV=>
   some nV
noncomputable def qZ (a_0:ae) (b_1:ae) (c_2:ae) (d_3:ae):Option Bool:=
 (mV a_0 b_1 c_2).bind fun x12=>
   (mV a_0 b_1 d_3).bind fun x16=>
   (if (w64 (x12*x16)) <0 then
   ((mV c_2 d_3 a_0).bind fun x23=>
   (mV c_2 d_3 b_1).bind fun x27=>
   some (decide ((w64 (x23*x27)) <0)))
   else (some false)).bind fun vz=>
   some vz
noncomputable def wG (a_0:ae) (b_1:ae) (c_2:ae) (d_3:ae):Option Bool:=
 (qZ a_0 b_1 c_2 d_3).bind fun x13=>
   (if x13=true then
   (some true)
   else ((o6 a_0 b_1 c_2).bind fun x18=>
   if x18=true then
   (some true)
   else ((o6 a_0 b_1 d_3).bind fun x24=>
   if x24=true then
   (some true)
   else ((o6 c_2 d_3 a_0).bind fun x30=>
   if x30=true then
   (some true)
   else ((o6 c_2 d_3 b_1).bind fun x36=>
   some x36))))).bind fun vz=>
   some vz
noncomputable def yZ (p_0:(List ae)) (s:(Int×Int)):Option ((Int×Int) ⊕ Int):=
 match s with
  | (nX,fD)=>
  if fD< (p_0.length:Int) then
  ((md (w64 (fD+1)) (p_0.length:Int)).bind fun x17=>
  (rd p_0 x17).bind fun x18=>
  (rd p_0 fD).bind fun x23=>
  (rd p_0 fD).bind fun x31=>
  some (.inl ((w64 (nX+(w64 ((w64 (x23.X*x18.Y)) - (w64 (x31.Y*x18.X)))))),(w64 (fD+1)))))
  else (some (.inr nX))
noncomputable def wH (p_0:(List ae)):Option Int:=
 (aP (yZ p_0) (0,0)).bind fun qJ=>
   some qJ
noncomputable def wI (mW:Int) (p_0:(List ae)) (x36:ae) (x43:ae) (zy:Int):Option (Int ⊕ (Unit ⊕ Bool)):=
 if zy< (p_0.length:Int) then
  ((md (w64 (zy+1)) (p_0.length:Int)).bind fun x77=>
  (if x77≠mW then
  ((rd p_0 zy).bind fun x85=>
  (md (w64 (zy+1)) (p_0.length:Int)).bind fun x91=>
  (rd p_0 x91).bind fun x92=>
  (wG x36 x43 x85 x92).bind fun x94=>
  some x94)
  else (some false)).bind fun Nl=>
  if Nl=true then
  (some (.inr (.inr false)))
  else (some (.inl (w64 (zy+1)))))
  else (some (.inr (.inl ())))
noncomputable def wJ (p_0:(List ae)) (mW:Int):Option (Int ⊕ (Unit ⊕ Bool)):=
 if mW< (p_0.length:Int) then
  ((rd p_0 mW).bind fun x36=>
  (md (w64 (mW+1)) (p_0.length:Int)).bind fun x42=>
  (rd p_0 x42).bind fun x43=>
  (md (w64 (mW+2)) (p_0.length:Int)).bind fun x49=>
  (rd p_0 x49).bind fun x50=>
  (if (x36.X=x43.X∧x36.Y=x43.Y) then
  (some true)
  else ((o6 x36 x43 x50).bind fun x59=>
  if x59=true then
  (some true)
  else ((o6 x43 x50 x36).bind fun x65=>
  some x65))).bind fun Np=>
  if Np=true then
  (some (.inr (.inr false)))
  else ((aP (wI mW p_0 x36 x43) (w64 (mW+2))).bind fun o=>match o with
  | (.inl _)=>(some (.inl (w64 (mW+1))))
  | (.inr r2)=>(some (.inr (.inr r2)))))
  else (some (.inr (.inl ())))
noncomputable def Ci (p_0:(List ae)) (JG:Int):Option (Int ⊕ (Unit ⊕ Bool)):=
 if JG< (p_0.length:Int) then
  ((rd p_0 JG).bind fun x25=>
  (Hz x25).bind fun x27=>
  if x27=true then
  (some (.inl (w64 (JG+1))))
  else (some (.inr (.inr false))))
  else (some (.inr (.inl ())))
noncomputable def Az (p_0:(List ae)):Option Bool:=
 if ((p_0.length:Int) <3∨(p_0.length:Int) >24) then
  (some false)
  else ((aP (Ci p_0) 0).bind fun o=>match o with
  | (.inl _)=>((aP (wJ p_0) 0).bind fun o=>match o with
  | (.inl _)=>((wH p_0).bind fun x97=>
  some (decide (x97>0)))
  | (.inr r2)=>(some r2))
  | (.inr r2)=>(some r2))
noncomputable def rP (d_0:aB) (dQ:Int):Option (Int ⊕ (Unit ⊕ Bool)):=
 if dQ< (d_0.ai.length:Int) then
  ((rd d_0.ai dQ).bind fun x47=>
  (um x47.Name).bind fun x50=>
  (if x50=true then
  (if dQ>0 then
  ((rd d_0.ai (w64 (dQ - 1))).bind fun x62=>
  (rd d_0.ai dQ).bind fun x70=>
  some (!Op.bytesLess x62.Name.toList x70.Name.toList))
  else (some false))
  else (some true)).bind fun Qu=>
  if Qu=true then
  (some (.inr (.inr false)))
  else ((rd d_0.ai dQ).bind fun x83=>
  (wF d_0 x83.Ring).bind fun x86=>
  (if x86.2=true then
  ((Az x86.1).bind fun x93=>
  some (!x93))
  else (some true)).bind fun Je=>
  if Je=true then
  (some (.inr (.inr false)))
  else (some (.inl (w64 (dQ+1))))))
  else (some (.inr (.inl ())))
noncomputable def tH (d_0:aB):Option Bool:=
 (fJ d_0.Width 10 20000).bind fun x10=>
   (if x10=true then
   ((fJ d_0.Height 10 20000).bind fun x17=>
   if x17=true then
   ((tC d_0).bind fun x22=>
   if x22=true then
   (some (decide ((d_0.ai.length:Int) >24)))
   else (some true))
   else (some true))
   else (some true)).bind fun Qv=>
   if Qv=true then
   (some false)
   else ((aP (rP d_0) 0).bind fun o=>match o with
   | (.inl _)=>(some true)
   | (.inr r2)=>(some r2))
noncomputable def wK (gW:(List Int)):Option aB:=
 (wo gW).bind fun x6=>
   (wE x6).bind fun x8=>
   (tH x8.1).bind fun x9=>
   if x9=true then
   (some x8.1)
   else ((uh x8.2).bind fun x12=>
   some x12.1)
noncomputable def mY:Option (List (List Int)):=
 some ([([20,40,310]:List Int),([35,45,410]:List Int),([15,33,280]:List Int),([50,36,240]:List Int),([95,85,270]:List Int),([5,35,370]:List Int),([10,42,290]:List Int),([40,40,330]:List Int),([80,60,220]:List Int),([70,38,260]:List Int)]:List (List Int))
noncomputable def rQ:Option (List ByteArray):=
 some ([(⟨#[97,115,104]⟩:ByteArray),(⟨#[98,101,101,99,104]⟩:ByteArray),(⟨#[98,105,114,99,104]⟩:ByteArray),(⟨#[99,104,101,114,114,121]⟩:ByteArray),(⟨#[101,98,111,110,121]⟩:ByteArray),(⟨#[104,111,108,108,121]⟩:ByteArray),(⟨#[109,97,112,108,101]⟩:ByteArray),(⟨#[111,97,107]⟩:ByteArray),(⟨#[114,111,115,101,119,111,111,100]⟩:ByteArray),(⟨#[119,97,108,110,117,116]⟩:ByteArray)]:List ByteArray)
noncomputable def wL (s_0:aC):Option (aF×aC):=
 (bf s_0 10).bind fun x8=>
   (mY).bind fun x9=>
   (rd x9 x8.1).bind fun x11=>
   (rd x11 0).bind fun x13=>
   (bf x8.2 21).bind fun x16=>
   (rQ).bind fun x19=>
   (rd x19 x8.1).bind fun x21=>
   (lM 0 (w64 ((w64 (x13+x16.1)) - 10))).bind fun x24=>
   (mX 100 x24).bind fun x25=>
   (bf x16.2 180).bind fun x28=>
   (jP x28.2 ([x28.1,x28.1,0,90,45]:List Int)).bind fun x33=>
   some ((⟨x21,x25,x33.1⟩:aF),x33.2)
noncomputable def jh (s:(Int×(List Int)×Int×Int×(List aF))):Option ((Int×(List Int)×Int×Int×(List aF)) ⊕ ((List Int)×Int×Int×(List aF))):=
 match s with
  | (JH,nD,nG,nH,dG)=>
  if JH>0 then
  ((wL (⟨nD,nG,nH⟩:aC)).bind fun x15=>
  (apd 32 dG ([x15.1]:List aF)).bind fun x17=>
  some (.inl ((w64 (JH - 1)),x15.2.code,x15.2.at_,x15.2.seed,x17)))
  else (some (.inr (nD,nG,nH,dG)))
noncomputable def qK (s_0:aC):Option ((List aF)×aC):=
 (bf s_0 3).bind fun x7=>
   (aP (jh) ((w64 (1+x7.1)),x7.2.code,x7.2.at_,x7.2.seed,([]:List aF))).bind fun o=>match o with
   | (lH,lI,lJ,eP)=>
   some (eP,(⟨lH,lI,lJ⟩:aC))
noncomputable def uN (gW:(List Int)):Option (List aF):=
 (wo gW).bind fun x5=>
   (qK x5).bind fun x7=>
   some x7.1
noncomputable def Dw (gW:(List Int)) (k_1:Int) (n_2:Int):Option Int:=
 if (n_2≤1∨k_1≥(gW.length:Int)) then
  (some 0)
  else ((rd gW k_1).bind fun x17=>
  (md (w64 (x17)) n_2).bind fun x21=>
  some x21)
noncomputable def bW (n_0:Int) (Dv:Int) (xW:Int):Option Bool:=
 some ((decide (n_0≥Dv))&&(decide (n_0≤xW)))
noncomputable def bF (s_0:(List ae)) (v_1:ae) (fK:Int):Option (Int ⊕ (Unit ⊕ Int)):=
 if fK< (s_0.length:Int) then
  ((rd s_0 fK).bind fun x14=>
  if (v_1.X=x14.X∧v_1.Y=x14.Y) then
  (some (.inr (.inr fK)))
  else (some (.inl (w64 (fK+1)))))
  else (some (.inr (.inl ())))
noncomputable def eu (s_0:(List ae)) (v_1:ae):Option Int:=
 (aP (bF s_0 v_1) 0).bind fun o=>match o with
   | (.inl _)=>(some (-1))
   | (.inr r2)=>(some r2)
noncomputable def bG (s_0:(List ae)) (v_1:ae):Option Bool:=
 (eu s_0 v_1).bind fun x7=>
   some (decide (x7≥0))
noncomputable def jQ (s_0:ByteArray) (dQ:Int):Option (Int ⊕ (Unit ⊕ Bool)):=
 if dQ< (s_0.size:Int) then
  ((bt s_0 dQ).bind fun x30=>
  (if x30<97 then
  ((bt s_0 dQ).bind fun x41=>
  if x41<48 then
  (some true)
  else ((bt s_0 dQ).bind fun x46=>
  some (decide (x46>57))))
  else ((bt s_0 dQ).bind fun x35=>
  if x35>122 then
  ((bt s_0 dQ).bind fun x41=>
  if x41<48 then
  (some true)
  else ((bt s_0 dQ).bind fun x46=>
  some (decide (x46>57))))
  else (some false))).bind fun Ea=>
  if Ea=true then
  (some (.inr (.inr false)))
  else (some (.inl (w64 (dQ+1)))))
  else (some (.inr (.inl ())))
noncomputable def kE (s_0:ByteArray):Option Bool:=
 (if (s_0.size:Int) <1 then
   (some true)
   else (if (s_0.size:Int) >10 then
   (some true)
   else ((bt s_0 0).bind fun x14=>
   if x14<97 then
   (some true)
   else ((bt s_0 0).bind fun x19=>
   some (decide (x19>122)))))).bind fun Qw=>
   if Qw=true then
   (some false)
   else ((aP (jQ s_0) 0).bind fun o=>match o with
   | (.inl _)=>(some true)
   | (.inr r2)=>(some r2))
noncomputable def iD (wM:(List ae)) (nU:(List Int)) (s:(Int×(List ae))):Option ((Int×(List ae)) ⊕ ((List ae) ⊕ ((List ae)×Bool))):=
 match s with
  | (fQ,oI)=>
  if fQ< (nU.length:Int) then
  ((rd nU fQ).bind fun x14=>
  (bW x14 0 (w64 ((wM.length:Int) - 1))).bind fun x20=>
  if x20=true then
  ((rd wM x14).bind fun x25=>
  (apd 16 oI ([x25]:List ae)).bind fun x28=>
  some (.inl ((w64 (fQ+1)),x28)))
  else (some (.inr (.inr (([]:List ae),false)))))
  else (some (.inr (.inl oI)))
noncomputable def gJ (wM:(List ae)) (nU:(List Int)):Option ((List ae)×Bool):=
 (aP (iD wM nU) (0,([]:List ae))).bind fun o=>match o with
   | (.inl lK)=>(some (lK,true))
   | (.inr r2)=>(some r2)
noncomputable def l9 (p_0:ae):Option Bool:=
 (bW p_0.X 0 20000).bind fun x5=>
   (if x5=true then
   ((bW p_0.Y 0 20000).bind fun x9=>
   some x9)
   else (some false)).bind fun jw=>
   some jw
noncomputable def dK (dM:(List ae)) (HY:Int):Option (Int ⊕ (Unit ⊕ Bool)):=
 if HY< (dM.length:Int) then
  ((rd dM HY).bind fun x9=>
  (l9 x9).bind fun x12=>
  if x12=true then
  (some (.inl (w64 (HY+1))))
  else (some (.inr (.inr false))))
  else (some (.inr (.inl ())))
noncomputable def nI (dM:(List ae)):Option Bool:=
 (aP (dK dM) 0).bind fun o=>match o with
   | (.inl _)=>(some true)
   | (.inr r2)=>(some r2)
noncomputable def nJ (a_0:ae) (b_1:ae) (c_2:ae):Option Int:=
 if (w64 ((w64 ((w64 (b_1.X - a_0.X)) * (w64 (c_2.Y - a_0.Y)))) - (w64 ((w64 (b_1.Y - a_0.Y)) * (w64 (c_2.X - a_0.X)))))) >0 then
  (some 1)
  else (if (w64 ((w64 ((w64 (b_1.X - a_0.X)) * (w64 (c_2.Y - a_0.Y)))) - (w64 ((w64 (b_1.Y - a_0.Y)) * (w64 (c_2.X - a_0.X)))))) <0 then
  (some (-1))
  else (some 0))
noncomputable def sG (a_0:ae) (b_1:ae) (p_2:ae):Option Bool:=
 (nJ a_0 b_1 p_2).bind fun x10=>
   (if x10=0 then
   ((bW p_2.X (min2 a_0.X b_1.X) (max2 a_0.X b_1.X)).bind fun x25=>
   if x25=true then
   ((bW p_2.Y (min2 a_0.Y b_1.Y) (max2 a_0.Y b_1.Y)).bind fun x40=>
   some x40)
   else (some false))
   else (some false)).bind fun nV=>
   some nV
noncomputable def mZ (a_0:ae) (b_1:ae) (c_2:ae) (d_3:ae):Option Bool:=
 (nJ a_0 b_1 c_2).bind fun x12=>
   (nJ a_0 b_1 d_3).bind fun x16=>
   (if (w64 (x12*x16)) <0 then
   ((nJ c_2 d_3 a_0).bind fun x23=>
   (nJ c_2 d_3 b_1).bind fun x27=>
   some (decide ((w64 (x23*x27)) <0)))
   else (some false)).bind fun vz=>
   some vz
noncomputable def iY (a_0:ae) (b_1:ae) (c_2:ae) (d_3:ae):Option Bool:=
 (mZ a_0 b_1 c_2 d_3).bind fun x13=>
   (if x13=true then
   (some true)
   else ((sG a_0 b_1 c_2).bind fun x18=>
   if x18=true then
   (some true)
   else ((sG a_0 b_1 d_3).bind fun x24=>
   if x24=true then
   (some true)
   else ((sG c_2 d_3 a_0).bind fun x30=>
   if x30=true then
   (some true)
   else ((sG c_2 d_3 b_1).bind fun x36=>
   some x36))))).bind fun vz=>
   some vz
noncomputable def fB (p_0:(List ae)) (s:(Int×Int)):Option ((Int×Int) ⊕ Int):=
 match s with
  | (nX,Cj)=>
  if Cj< (p_0.length:Int) then
  ((rd p_0 Cj).bind fun x12=>
  (md (w64 (Cj+1)) (p_0.length:Int)).bind fun x19=>
  (rd p_0 x19).bind fun x20=>
  some (.inl ((w64 (nX+(w64 ((w64 (x12.X*x20.Y)) - (w64 (x12.Y*x20.X)))))),(w64 (Cj+1)))))
  else (some (.inr nX))
noncomputable def jR (p_0:(List ae)):Option Int:=
 (aP (fB p_0) (0,0)).bind fun qJ=>
   some qJ
noncomputable def aX (p_0:(List ae)) (lD:Int) (x29:ae) (x36:ae) (zA:Int):Option (Int ⊕ (Unit ⊕ Bool)):=
 if zA< (p_0.length:Int) then
  ((md (w64 (zA+1)) (p_0.length:Int)).bind fun x70=>
  (if x70≠lD then
  ((rd p_0 zA).bind fun x78=>
  (md (w64 (zA+1)) (p_0.length:Int)).bind fun x84=>
  (rd p_0 x84).bind fun x85=>
  (iY x29 x36 x78 x85).bind fun x87=>
  some x87)
  else (some false)).bind fun Nq=>
  if Nq=true then
  (some (.inr (.inr false)))
  else (some (.inl (w64 (zA+1)))))
  else (some (.inr (.inl ())))
noncomputable def bM (p_0:(List ae)) (lD:Int):Option (Int ⊕ (Unit ⊕ Bool)):=
 if lD< (p_0.length:Int) then
  ((rd p_0 lD).bind fun x29=>
  (md (w64 (lD+1)) (p_0.length:Int)).bind fun x35=>
  (rd p_0 x35).bind fun x36=>
  (md (w64 (lD+2)) (p_0.length:Int)).bind fun x42=>
  (rd p_0 x42).bind fun x43=>
  (if (x29.X=x36.X∧x29.Y=x36.Y) then
  (some true)
  else ((sG x29 x36 x43).bind fun x52=>
  if x52=true then
  (some true)
  else ((sG x36 x43 x29).bind fun x58=>
  some x58))).bind fun Qx=>
  if Qx=true then
  (some (.inr (.inr false)))
  else ((aP (aX p_0 lD x29 x36) (w64 (lD+2))).bind fun o=>match o with
  | (.inl _)=>(some (.inl (w64 (lD+1))))
  | (.inr r2)=>(some (.inr (.inr r2)))))
  else (some (.inr (.inl ())))
noncomputable def fE (p_0:(List ae)):Option Bool:=
 (if (p_0.length:Int) <3 then
   (some true)
   else (if (p_0.length:Int) >24 then
   (some true)
   else ((nI p_0).bind fun x19=>
   some (!x19)))).bind fun Qy=>
   if Qy=true then
   (some false)
   else ((aP (bM p_0) 0).bind fun o=>match o with
   | (.inl _)=>((jR p_0).bind fun x91=>
   some (decide (x91>0)))
   | (.inr r2)=>(some r2))
noncomputable def dO (d_0:aB) (rf:Int):Option (Int ⊕ (Unit ⊕ Bool)):=
 if rf< (d_0.ai.length:Int) then
  ((rd d_0.ai rf).bind fun x68=>
  (kE x68.Name).bind fun x72=>
  (if x72=true then
  (if rf>0 then
  ((rd d_0.ai (w64 (rf - 1))).bind fun x82=>
  some (!Op.bytesLess x82.Name.toList x68.Name.toList))
  else (some false))
  else (some true)).bind fun Nr=>
  if Nr=true then
  (some (.inr (.inr false)))
  else ((gJ d_0.aI x68.Ring).bind fun x95=>
  (if x95.2=true then
  ((fE x95.1).bind fun x102=>
  some (!x102))
  else (some true)).bind fun Dx=>
  if Dx=true then
  (some (.inr (.inr false)))
  else (some (.inl (w64 (rf+1))))))
  else (some (.inr (.inl ())))
noncomputable def dS (d_0:aB) (yC:Int):Option (Int ⊕ (Unit ⊕ Bool)):=
 if yC< (d_0.aI.length:Int) then
  ((rd d_0.aI yC).bind fun x37=>
  (bW x37.X 0 d_0.Width).bind fun x43=>
  (if x43=true then
  ((bW x37.Y 0 d_0.Height).bind fun x50=>
  if x50=true then
  ((slc d_0.aI 0 yC).bind fun x57=>
  (bG x57 x37).bind fun x59=>
  some x59)
  else (some true))
  else (some true)).bind fun Qz=>
  if Qz=true then
  (some (.inr (.inr false)))
  else (some (.inl (w64 (yC+1)))))
  else (some (.inr (.inl ())))
noncomputable def iJ (d_0:aB):Option Bool:=
 (bW d_0.Width 10 20000).bind fun x11=>
   (if x11=true then
   ((bW d_0.Height 10 20000).bind fun x16=>
   if x16=true then
   (if (d_0.aI.length:Int) >48 then
   (some true)
   else (some (decide ((d_0.ai.length:Int) >24))))
   else (some true))
   else (some true)).bind fun QA=>
   if QA=true then
   (some false)
   else ((aP (dS d_0) 0).bind fun o=>match o with
   | (.inl _)=>((aP (dO d_0) 0).bind fun o=>match o with
   | (.inl _)=>(some true)
   | (.inr r2)=>(some r2))
   | (.inr r2)=>(some r2))
noncomputable def nK (kS:ByteArray):Option (Int×Int×Int×Int):=
 if kS=(⟨#[97,115,104]⟩:ByteArray) then
  (some (20,40,310,0))
  else (if kS=(⟨#[98,101,101,99,104]⟩:ByteArray) then
  (some (35,45,410,0))
  else (if kS=(⟨#[98,105,114,99,104]⟩:ByteArray) then
  (some (15,33,280,0))
  else (if kS=(⟨#[99,104,101,114,114,121]⟩:ByteArray) then
  (some (50,36,240,0))
  else (if kS=(⟨#[101,98,111,110,121]⟩:ByteArray) then
  (some (95,85,270,0))
  else (if kS=(⟨#[104,111,108,108,121]⟩:ByteArray) then
  (some (5,35,370,0))
  else (if kS=(⟨#[109,97,112,108,101]⟩:ByteArray) then
  (some (10,42,290,0))
  else (if kS=(⟨#[111,97,107]⟩:ByteArray) then
  (some (40,40,330,0))
  else (if kS=(⟨#[114,111,115,101,119,111,111,100]⟩:ByteArray) then
  (some (80,60,220,0))
  else (if kS=(⟨#[119,97,108,110,117,116]⟩:ByteArray) then
  (some (70,38,260,0))
  else (some (0,0,0,3)))))))))))
noncomputable def dZ (kS:ByteArray):Option (Int×Bool):=
 (nK kS).bind fun x10=>
   some (x10.1,(x10.2.2.2==0))
noncomputable def jC (v_0:aF):Option Bool:=
 (dZ v_0.Jd).bind fun x8=>
   (if x8.2=true then
   ((bW v_0.iC 0 100).bind fun x15=>
   if x15=true then
   ((bW (w64 (v_0.iC - x8.1)) (-15) 15).bind fun x22=>
   if x22=true then
   ((bW v_0.dw 0 179).bind fun x27=>
   some x27)
   else (some false))
   else (some false))
   else (some false)).bind fun Uu=>
   some Uu
noncomputable def iT (v_0:aF):Option Bool:=
 (jC v_0).bind fun x4=>
   some (!x4)
noncomputable def dA (f_1:(aF→Option Bool)) (s_0:(List aF)) (fK:Int):Option (Int ⊕ (Unit ⊕ Int)):=
 if fK< (s_0.length:Int) then
  ((rd s_0 fK).bind fun x14=>
  (f_1 x14).bind fun x16=>
  if x16=true then
  (some (.inr (.inr fK)))
  else (some (.inl (w64 (fK+1)))))
  else (some (.inr (.inl ())))
noncomputable def eH (s_0:(List aF)) (f_1:(aF→Option Bool)):Option Int:=
 (aP (dA f_1 s_0) 0).bind fun o=>match o with
   | (.inl _)=>(some (-1))
   | (.inr r2)=>(some r2)
noncomputable def dP (s_0:(List aF)) (f_1:(aF→Option Bool)):Option Bool:=
 (eH s_0 f_1).bind fun x7=>
   some (decide (x7≥0))
noncomputable def oN (dM:(List aF)):Option Bool:=
 (dP dM (fun a0=>iT a0)).bind fun x4=>
   some (!x4)
noncomputable def iw (aO:(List aF)):Option Bool:=
 (bW (aO.length:Int) 1 8).bind fun x5=>
   (if x5=true then
   ((oN aO).bind fun x8=>
   some x8)
   else (some false)).bind fun jw=>
   some jw
noncomputable def oO (mg:(List Int)) (s:(Int×(List bJ))):Option ((Int×(List bJ)) ⊕ (List bJ)):=
 match s with
  | (Ec,dG)=>
  if Ec< (mg.length:Int) then
  ((rd mg Ec).bind fun x13=>
  (md (w64 (Ec+1)) (mg.length:Int)).bind fun x20=>
  (rd mg x20).bind fun x21=>
  (apd 16 dG ([(⟨(min2 x13 x21),(max2 x13 x21)⟩:bJ)]:List bJ)).bind fun x32=>
  some (.inl ((w64 (Ec+1)),x32)))
  else (some (.inr dG))
noncomputable def tJ (mg:(List Int)):Option (List bJ):=
 (aP (oO mg) (0,([]:List bJ))).bind fun eP=>
   some eP
noncomputable def fU (s_0:(List bJ)) (v_1:bJ) (fK:Int):Option (Int ⊕ (Unit ⊕ Int)):=
 if fK< (s_0.length:Int) then
  ((rd s_0 fK).bind fun x14=>
  if (v_1.e0=x14.e0∧v_1.e1=x14.e1) then
  (some (.inr (.inr fK)))
  else (some (.inl (w64 (fK+1)))))
  else (some (.inr (.inl ())))
noncomputable def jo (s_0:(List bJ)) (v_1:bJ):Option Int:=
 (aP (fU s_0 v_1) 0).bind fun o=>match o with
   | (.inl _)=>(some (-1))
   | (.inr r2)=>(some r2)
noncomputable def fV (s_0:(List bJ)) (v_1:bJ):Option Bool:=
 (jo s_0 v_1).bind fun x7=>
   some (decide (x7≥0))
noncomputable def jy (e_0:bJ) (Ed:(List (List bJ))) (QB:Int):Option Bool:=
 (rd Ed QB).bind fun x7=>
   (fV x7 e_0).bind fun x10=>
   some x10
noncomputable def dV (f_1:(bJ→Option Bool)) (s_0:(List bJ)) (fK:Int):Option (Int ⊕ (Unit ⊕ Int)):=
 if fK< (s_0.length:Int) then
  ((rd s_0 fK).bind fun x14=>
  (f_1 x14).bind fun x16=>
  if x16=true then
  (some (.inr (.inr fK)))
  else (some (.inl (w64 (fK+1)))))
  else (some (.inr (.inl ())))
noncomputable def iK (s_0:(List bJ)) (f_1:(bJ→Option Bool)):Option Int:=
 (aP (dV f_1 s_0) 0).bind fun o=>match o with
   | (.inl _)=>(some (-1))
   | (.inr r2)=>(some r2)
noncomputable def dW (s_0:(List bJ)) (f_1:(bJ→Option Bool)):Option Bool:=
 (iK s_0 f_1).bind fun x7=>
   some (decide (x7≥0))
noncomputable def mG (jD:Int) (AA:(List (List Int))):Option ((Int×(List (List Int))) ⊕ (List (List Int))):=
 some (.inl ((w64 (jD+1)),AA))
noncomputable def mJ (bu:(List (List bJ))) (jq:Int) (s:(Int×(List (List Int)))):Option ((Int×(List (List Int))) ⊕ (List (List Int))):=
 match s with
  | (jD,kT)=>
  if jD< (bu.length:Int) then
  ((if jq≠jD then
  ((rd bu jq).bind fun x43=>
  (dW x43 (fun a0=>jy a0 bu jD)).bind fun x46=>
  some x46)
  else (some false)).bind fun Ns=>
  if Ns=true then
  ((rd kT jq).bind fun x52=>
  (apd 8 x52 ([jD]:List Int)).bind fun x56=>
  (rd kT jq).bind fun x57=>
  mG jD (kT.set jq.toNat x56))
  else (mG jD kT))
  else (some (.inr kT))
noncomputable def nY (bu:(List (List bJ))) (s:(Int×(List (List Int)))):Option ((Int×(List (List Int))) ⊕ (List (List Int))):=
 match s with
  | (jq,Dy)=>
  if jq< (bu.length:Int) then
  ((aP (mJ bu jq) (0,Dy)).bind fun zB=>
  some (.inl ((w64 (jq+1)),zB)))
  else (some (.inr Dy))
noncomputable def nZ (d_0:aB) (s:(Int×(List (List bJ)))):Option ((Int×(List (List bJ))) ⊕ (List (List bJ))):=
 match s with
  | (BO,vO)=>
  if BO< (d_0.ai.length:Int) then
  ((rd d_0.ai BO).bind fun x15=>
  (tJ x15.Ring).bind fun x20=>
  (apd 24 vO ([x20]:List (List bJ))).bind fun x22=>
  some (.inl ((w64 (BO+1)),x22)))
  else (some (.inr vO))
noncomputable def oJ (d_0:aB):Option (List (List Int)):=
 (aP (nZ d_0) (0,([]:List (List bJ)))).bind fun bu=>
   (mkl 24 (bu.length:Int) ([]:List Int)).bind fun x26=>
   (aP (nY bu) (0,x26)).bind fun BP=>
   some BP
noncomputable def uV (a_0:Int) (b_1:Int):Option (Int×Int):=
 (bW a_0 0 179).bind fun x8=>
   (if x8=true then
   ((bW b_1 0 179).bind fun x12=>
   some (!x12))
   else (some true)).bind fun qL=>
   if qL=true then
   (some (0,2))
   else (some ((min2 (max2 (w64 (a_0 - b_1)) (w64 (b_1 - a_0))) (w64 (180 - (max2 (w64 (a_0 - b_1)) (w64 (b_1 - a_0)))))),0))
noncomputable def uO (a_0:aF) (b_1:aF):Option Int:=
 (uV a_0.dw b_1.dw).bind fun x12=>
   (dv .i64 x12.1 6).bind fun x27=>
   some (w64 ((max2 (w64 (a_0.iC - b_1.iC)) (w64 (b_1.iC - a_0.iC)))+x27))
noncomputable def jE (lV:Int) (yP:Int):Option ((Int×Int) ⊕ Int):=
 some (.inl (yP,(w64 (lV+1))))
noncomputable def jS (aO:(List aF)) (fQ:Int) (s:(Int×Int)):Option ((Int×Int) ⊕ Int):=
 match s with
  | (ig,lV)=>
  if lV< (aO.length:Int) then
  ((rd aO lV).bind fun x20=>
  (md (w64 (lV+fQ)) (aO.length:Int)).bind fun x29=>
  (rd aO x29).bind fun x30=>
  (uO x20 x30).bind fun x32=>
  if (ig<0∨x32<ig) then
  (jE lV x32)
  else (jE lV ig))
  else (some (.inr ig))
noncomputable def jT (aO:(List aF)) (s:(Int×(List Int))):Option ((Int×(List Int)) ⊕ (List Int)):=
 match s with
  | (fQ,dG)=>
  if fQ< (aO.length:Int) then
  ((aP (jS aO fQ) ((-1),0)).bind fun uq=>
  (apd 8 dG ([uq]:List Int)).bind fun x45=>
  some (.inl ((w64 (fQ+1)),x45)))
  else (some (.inr dG))
noncomputable def kz (aO:(List aF)):Option (List Int):=
 (aP (jT aO) (0,([]:List Int))).bind fun eP=>
   some eP
noncomputable def eU (self:(aK×(List Int))→Option (Bool×aK)) (s_0:aK) (zJ:(List Int)):Option (Bool×aK):=
 some (s_0.one,(⟨s_0.near,s_0.bT,s_0.least,(w64 (s_0.left - 1)),(w64 (s_0.found+1)),zJ,s_0.one⟩:aK))
noncomputable def iy (self:(aK×(List Int))→Option (Bool×aK)) (s_0:aK) (kU:(List Int)) (kV:Int) (dh:(List Int)) (kJ:Int) (x66:(List Int)) (s:(Bool×Int)):Option ((Bool×Int) ⊕ Bool):=
 match s with
  | (AB,AL)=>
  if AL< (x66.length:Int) then
  ((rd x66 AL).bind fun x71=>
  (if AB=true then
  (if x71> (dh.length:Int) then
  (some true)
  else ((rd dh x71).bind fun x86=>
  (md (w64 ((w64 (kJ - x86))+(s_0.bT.length:Int))) (s_0.bT.length:Int)).bind fun x92=>
  (rd kU x92).bind fun x93=>
  some (decide (x93≥kV))))
  else (some false)).bind fun H6=>
  some (.inl (H6,(w64 (AL+1)))))
  else (some (.inr AB))
noncomputable def aG (self:(aK×(List Int))→Option (Bool×aK)) (s_0:aK) (dh:(List Int)) (s:(Int×(List (List Int))×(List Int)×Int×Int×Int×(List Int)×Bool)):Option ((Int×(List (List Int))×(List Int)×Int×Int×Int×(List Int)×Bool) ⊕ (((List (List Int))×(List Int)×Int×Int×Int×(List Int)×Bool) ⊕ (Bool×aK))):=
 match s with
  | (kJ,og,kU,kV,o7,o8,o9,pg)=>
  if kJ< (s_0.bT.length:Int) then
  ((rd og (dh.length:Int)).bind fun x66=>
  (aP (iy self s_0 kU kV dh kJ x66) (true,0)).bind fun zC=>
  (if zC=true then
  ((apd 8 ([]:List Int) dh).bind fun x107=>
  (apd 8 x107 ([kJ]:List Int)).bind fun Zj=>
  (self ((⟨og,kU,kV,o7,o8,o9,pg⟩:aK),Zj)).bind fun yX=>
  some (yX.1,yX.2.near,yX.2.bT,yX.2.least,yX.2.left,yX.2.found,yX.2.first,yX.2.one))
  else (some (false,og,kU,kV,o7,o8,o9,pg))).bind fun s=>match s with
  | (JI,Ee,Ef,Eg,Eh,Ei,Ej,Em)=>
  if JI=true then
  (some (.inr (.inr (true,(⟨Ee,Ef,Eg,Eh,Ei,Ej,Em⟩:aK)))))
  else (some (.inl ((w64 (kJ+1)),Ee,Ef,Eg,Eh,Ei,Ej,Em))))
  else (some (.inr (.inl (og,kU,kV,o7,o8,o9,pg))))
noncomputable def bZ (self:(aK×(List Int))→Option (Bool×aK)) (s_0:aK) (dh:(List Int)):Option (Bool×aK):=
 if (w64 (s_0.left - 1)) <0 then
  (some (true,(⟨s_0.near,s_0.bT,s_0.least,(w64 (s_0.left - 1)),s_0.found,s_0.first,s_0.one⟩:aK)))
  else (if (dh.length:Int)=(s_0.near.length:Int) then
  (if s_0.found=0 then
  (eU self s_0 dh)
  else (eU self s_0 s_0.first))
  else ((aP (aG self s_0 dh) (0,s_0.near,s_0.bT,s_0.least,(w64 (s_0.left - 1)),s_0.found,s_0.first,s_0.one)).bind fun o=>match o with
  | (.inl (wO,wP,wQ,wR,wS,wU,wV))=>(some (false,(⟨wO,wP,wQ,wR,wS,wU,wV⟩:aK)))
  | (.inr r2)=>(some r2)))
noncomputable def bC (s_0:aK) (dh:(List Int)):Option (Bool×aK):=DZ (fun self s=>match s with | (s_0,dh)=>bZ self s_0 dh) (s_0,dh)
noncomputable def je (d_0:aB) (cO:(List aF)) (fF:Int) (dI:Int) (KF:Bool):Option ((Option aK)×Int):=
 (iJ d_0).bind fun x15=>
   (if x15=true then
   ((iw cO).bind fun x19=>
   some (!x19))
   else (some true)).bind fun QC=>
   if QC=true then
   (some (none,1))
   else ((bW dI 1 20000).bind fun x24=>
   (if x24=true then
   ((bW fF 0 200).bind fun x28=>
   some (!x28))
   else (some true)).bind fun QD=>
   if QD=true then
   (some (none,2))
   else ((oJ d_0).bind fun x32=>
   (kz cO).bind fun x34=>
   (bC (⟨x32,x34,fF,dI,0,([]:List Int),KF⟩:aK) ([]:List Int)).bind fun x41=>
   if x41.2.left<0 then
   (some (none,5))
   else (some ((some x41.2),0))))
noncomputable def iE (x17:((Option aK)×Int)) (xX:Int):Option ((List Int)×Int):=
 if xX≠0 then
  (some (([]:List Int),xX))
  else (match x17.1 with
  | none=>(none)
  | some afc=>(some (afc.first,0)))
noncomputable def gK (d_0:aB) (cO:(List aF)) (fF:Int) (dI:Int):Option ((List Int)×Int):=
 (je d_0 cO fF dI true).bind fun x17=>
   (if x17.2=0 then
   (match x17.1 with
   | none=>(none)
   | some QE=>(some (QE.found==0)))
   else (some false)).bind fun QF=>
   if QF=true then
   (iE x17 3)
   else (iE x17 x17.2)
noncomputable def rq (kS:ByteArray) (x5:(List ByteArray)) (fD:Int):Option (Int ⊕ (Unit ⊕ Int)):=
 if fD< (x5.length:Int) then
  ((rd x5 fD).bind fun x14=>
  if x14=kS then
  (some (.inr (.inr fD)))
  else (some (.inl (w64 (fD+1)))))
  else (some (.inr (.inl ())))
noncomputable def uu (kS:ByteArray):Option Int:=
 (rQ).bind fun x5=>
   (aP (rq kS x5) 0).bind fun o=>match o with
   | (.inl _)=>(some (-1))
   | (.inr r2)=>(some r2)
noncomputable def yD (g_0:Int):Option Bool:=
 (fJ g_0 0 179).bind fun x4=>
   some x4
noncomputable def vC (v_0:aF):Option Bool:=
 (uu v_0.Jd).bind fun x9=>
   (if x9<0 then
   (some true)
   else ((fJ v_0.iC 0 100).bind fun x17=>
   some (!x17))).bind fun QG=>
   if QG=true then
   (some false)
   else ((mY).bind fun x20=>
   (rd x20 x9).bind fun x22=>
   (rd x22 0).bind fun x24=>
   (fJ v_0.iC (w64 (x24 - 15)) (w64 (x24+15))).bind fun x34=>
   (if x34=true then
   ((yD v_0.dw).bind fun x40=>
   some x40)
   else (some false)).bind fun Uw=>
   some Uw)
noncomputable def oP (dM:(List aF)) (JJ:Int):Option (Int ⊕ (Unit ⊕ Bool)):=
 if JJ< (dM.length:Int) then
  ((rd dM JJ).bind fun x12=>
  (vC x12).bind fun x13=>
  if x13=true then
  (some (.inl (w64 (JJ+1))))
  else (some (.inr (.inr false))))
  else (some (.inr (.inl ())))
noncomputable def lN (dM:(List aF)):Option Bool:=
 (aP (oP dM) 0).bind fun o=>match o with
   | (.inl _)=>(some ((decide ((dM.length:Int)≥1))&&(decide ((dM.length:Int)≤8))))
   | (.inr r2)=>(some r2)
noncomputable def oh (i_1:Int) (k_2:Int) (mg:(List Int)) (FK:Int):Option (Int ⊕ (Unit ⊕ Bool)):=
 if FK< (mg.length:Int) then
  ((rd mg FK).bind fun x18=>
  (md (w64 (FK+1)) (mg.length:Int)).bind fun x25=>
  (rd mg x25).bind fun x26=>
  (if x18=i_1 then
  (if x26=k_2 then
  (some true)
  else (if x18=k_2 then
  (some (x26==i_1))
  else (some false)))
  else (if x18=k_2 then
  (some (x26==i_1))
  else (some false))).bind fun QH=>
  if QH=true then
  (some (.inr (.inr true)))
  else (some (.inl (w64 (FK+1)))))
  else (some (.inr (.inl ())))
noncomputable def ru (mg:(List Int)) (i_1:Int) (k_2:Int):Option Bool:=
 (aP (oh i_1 k_2 mg) 0).bind fun o=>match o with
   | (.inl _)=>(some false)
   | (.inr r2)=>(some r2)
noncomputable def rC (kW:Int) (Dz:(List Int)):Option ((Int×(List Int)) ⊕ (List Int)):=
 some (.inl ((w64 (kW+1)),Dz))
noncomputable def rD (d_0:aB) (kW:Int) (x16:aj) (s:(Bool×Int)):Option ((Bool×Int) ⊕ Bool):=
 match s with
  | (AO,FM)=>
  if FM< (x16.Ring.length:Int) then
  ((if AO=true then
  (some true)
  else ((rd d_0.ai kW).bind fun x41=>
  (rd x16.Ring FM).bind fun x46=>
  (md (w64 (FM+1)) (x16.Ring.length:Int)).bind fun x53=>
  (rd x16.Ring x53).bind fun x54=>
  (ru x41.Ring x46 x54).bind fun x56=>
  some x56)).bind fun FN=>
  some (.inl (FN,(w64 (FM+1)))))
  else (some (.inr AO))
noncomputable def rE (d_0:aB) (k_1:Int) (x16:aj) (s:(Int×(List Int))):Option ((Int×(List Int)) ⊕ (List Int)):=
 match s with
  | (kW,kX)=>
  if kW< (d_0.ai.length:Int) then
  ((aP (rD d_0 kW x16) (false,0)).bind fun uw=>
  if (kW≠k_1∧uw=true) then
  ((apd 8 kX ([kW]:List Int)).bind fun x67=>
  rC kW x67)
  else (rC kW kX))
  else (some (.inr kX))
noncomputable def wW (d_0:aB) (k_1:Int):Option (List Int):=
 (rd d_0.ai k_1).bind fun x16=>
   (aP (rE d_0 k_1 x16) (0,([]:List Int))).bind fun BQ=>
   some BQ
noncomputable def qh (y5:Int) (DC:(List (List Int))):Option ((Int×(List (List Int))) ⊕ (List (List Int))):=
 some (.inl ((w64 (y5+1)),DC))
noncomputable def nM (fD:Int) (x19:(List Int)) (s:(Int×(List (List Int)))):Option ((Int×(List (List Int))) ⊕ (List (List Int))):=
 match s with
  | (y5,xY)=>
  if y5< (x19.length:Int) then
  ((rd x19 y5).bind fun x28=>
  if x28>fD then
  ((rd x19 y5).bind fun x36=>
  (apd 24 xY ([([fD,x36]:List Int)]:List (List Int))).bind fun x40=>
  qh y5 x40)
  else (qh y5 xY))
  else (some (.inr xY))
noncomputable def qi (d_0:aB) (s:(Int×(List (List Int)))):Option ((Int×(List (List Int))) ⊕ (List (List Int))):=
 match s with
  | (fD,dG)=>
  if fD< (d_0.ai.length:Int) then
  ((wW d_0 fD).bind fun x19=>
  (aP (nM fD x19) (0,dG)).bind fun BR=>
  some (.inl ((w64 (fD+1)),BR)))
  else (some (.inr dG))
noncomputable def uP (d_0:aB):Option (List (List Int)):=
 (aP (qi d_0) (0,([]:List (List Int)))).bind fun eP=>
   some eP
noncomputable def vP (dM:(List Int)):Option (List Int):=
 (apd 8 ([]:List Int) dM).bind fun x5=>
   some x5
noncomputable def yE (a_0:Int) (b_1:Int):Option Int:=
 (lM (w64 (a_0 - b_1)) (w64 (b_1 - a_0))).bind fun x12=>
   (mX x12 (w64 (180 - x12))).bind fun x16=>
   some x16
noncomputable def qj (a_0:aF) (b_1:aF):Option Int:=
 (lM (w64 (a_0.iC - b_1.iC)) (w64 (b_1.iC - a_0.iC))).bind fun x23=>
   (yE a_0.dw b_1.dw).bind fun x32=>
   (dv .i64 x32 6).bind fun x33=>
   some (w64 (x23+x33))
noncomputable def mM (pq:Int) (AP:Int):Option ((Int×Int) ⊕ Int):=
 some (.inl (AP,(w64 (pq+1))))
noncomputable def mO (a_1:Int) (b_2:Int) (aO:(List aF)) (s:(Int×Int)):Option ((Int×Int) ⊕ Int):=
 match s with
  | (jA,pq)=>
  if pq< (aO.length:Int) then
  ((md (w64 (pq+a_1)) (aO.length:Int)).bind fun x23=>
  (rd aO x23).bind fun x24=>
  (md (w64 (pq+b_2)) (aO.length:Int)).bind fun x30=>
  (rd aO x30).bind fun x31=>
  (qj x24 x31).bind fun x32=>
  if (pq=0∨x32<jA) then
  (mM pq x32)
  else (mM pq jA))
  else (some (.inr jA))
noncomputable def ql (aO:(List aF)) (a_1:Int) (b_2:Int):Option Int:=
 (aP (mO a_1 b_2 aO) (0,0)).bind fun zD=>
   some zD
noncomputable def jU (AQ:aZ) (fD:Int):Option (Int ⊕ (Unit ⊕ Bool)):=
 if fD< (AQ.pairs.length:Int) then
  ((rd AQ.pairs fD).bind fun x25=>
  (rd x25 1).bind fun x27=>
  (if x27=(w64 ((AQ.shifts.length:Int) - 1)) then
  ((rd AQ.pairs fD).bind fun x45=>
  (rd x45 0).bind fun x47=>
  (rd AQ.shifts x47).bind fun x49=>
  (rd AQ.shifts (w64 ((AQ.shifts.length:Int) - 1))).bind fun x56=>
  (ql AQ.nR x49 x56).bind fun x58=>
  some (decide (x58<AQ.least)))
  else (some false)).bind fun QI=>
  if QI=true then
  (some (.inr (.inr false)))
  else (some (.inl (w64 (fD+1)))))
  else (some (.inr (.inl ())))
noncomputable def mP (x_0:(Option aZ)):Option Bool:=
 match x_0 with
  | none=>(none)
  | some AQ=>((aP (jU AQ) 0).bind fun o=>match o with
  | (.inl _)=>(some true)
  | (.inr r2)=>(some r2))
noncomputable def gQ (self:aZ→Option (Bool×aZ)) (x_0:aZ) (DD:(List Int)):Option (Bool×aZ):=
 some ((!x_0.first),(⟨x_0.pairs,x_0.faces,x_0.nR,x_0.least,x_0.shifts,x_0.first,DD,(w64 (x_0.count+1)),(w64 (x_0.nodes+1)),x_0.budget⟩:aZ))
noncomputable def dB (self:aZ→Option (Bool×aZ)) (s:(Int×(List (List Int))×Int×(List aF)×Int×(List Int)×Bool×(List Int)×Int×Int×Int)):Option ((Int×(List (List Int))×Int×(List aF)×Int×(List Int)×Bool×(List Int)×Int×Int×Int) ⊕ (((List (List Int))×Int×(List aF)×Int×(List Int)×Bool×(List Int)×Int×Int×Int) ⊕ (Bool×aZ))):=
 match s with
  | (wX,qM,qN,pz,qO,AU,qP,qQ,qR,qU,qV)=>
  if wX< (pz.length:Int) then
  ((apd 8 AU ([wX]:List Int)).bind fun x72=>
  (mP (some (⟨qM,qN,pz,qO,x72,qP,qQ,qR,qU,qV⟩:aZ))).bind fun x76=>
  (if x76=true then
  ((self (⟨qM,qN,pz,qO,x72,qP,qQ,qR,qU,qV⟩:aZ)).bind fun x80=>
  some (x80.1,x80.2.pairs,x80.2.faces,x80.2.nR,x80.2.least,x80.2.shifts,x80.2.first,x80.2.best,x80.2.count,x80.2.nodes,x80.2.budget))
  else (some (true,qM,qN,pz,qO,x72,qP,qQ,qR,qU,qV))).bind fun s=>match s with
  | (uQ,AX,AY,AZ,A7,pF,A8,Ba,Bc,Bd,Be)=>
  (slc pF 0 (w64 ((pF.length:Int) - 1))).bind fun x93=>
  if uQ=true then
  (some (.inl ((w64 (wX+1)),AX,AY,AZ,A7,((pF.take ((w64 ((pF.length:Int) - 1)).toNat)).drop 0),A8,Ba,Bc,Bd,Be)))
  else (some (.inr (.inr (false,(⟨AX,AY,AZ,A7,((pF.take ((w64 ((pF.length:Int) - 1)).toNat)).drop 0),A8,Ba,Bc,Bd,Be⟩:aZ))))))
  else (some (.inr (.inl (qM,qN,pz,qO,AU,qP,qQ,qR,qU,qV))))
noncomputable def fG (self:aZ→Option (Bool×aZ)) (x_0:aZ):Option (Bool×aZ):=
 if (w64 (x_0.nodes+1)) >x_0.budget then
  (some (false,(⟨x_0.pairs,x_0.faces,x_0.nR,x_0.least,x_0.shifts,x_0.first,x_0.best,x_0.count,(w64 (x_0.nodes+1)),x_0.budget⟩:aZ)))
  else (if (x_0.shifts.length:Int)=x_0.faces then
  (if (w64 (x_0.count+1))=1 then
  ((vP x_0.shifts).bind fun x48=>
  gQ self x_0 x48)
  else (gQ self x_0 x_0.best))
  else ((aP (dB self) (0,x_0.pairs,x_0.faces,x_0.nR,x_0.least,x_0.shifts,x_0.first,x_0.best,x_0.count,(w64 (x_0.nodes+1)),x_0.budget)).bind fun o=>match o with
  | (.inl (wY,wZ,xe,xg,xh,xk,xm,xu,xw,xx))=>(some (true,(⟨wY,wZ,xe,xg,xh,xk,xm,xu,xw,xx⟩:aZ)))
  | (.inr r2)=>(some r2)))
noncomputable def dL (x_0:aZ):Option (Bool×aZ):=DZ (fun self x_0=>fG self x_0) x_0
noncomputable def yQ (d_0:aB) (cO:(List aF)) (fF:Int) (dI:Int) (BU:Bool):Option ((Option aZ)×Int):=
 (tH d_0).bind fun x14=>
   (if x14=true then
   ((lN cO).bind fun x18=>
   some (!x18))
   else (some true)).bind fun QJ=>
   if QJ=true then
   (some (none,1))
   else ((fJ dI 1 20000).bind fun x22=>
   (if x22=true then
   ((fJ fF 0 200).bind fun x26=>
   some (!x26))
   else (some true)).bind fun QK=>
   if QK=true then
   (some (none,2))
   else ((uP d_0).bind fun x30=>
   (dL (⟨x30,(d_0.ai.length:Int),cO,fF,([]:List Int),BU,([]:List Int),0,0,dI⟩:aZ)).bind fun x43=>
   if x43.2.nodes>dI then
   (some (none,5))
   else (some ((some x43.2),0))))
noncomputable def qm (d_0:aB) (cO:(List aF)) (fF:Int) (dI:Int):Option ((List Int)×Int):=
 (yQ d_0 cO fF dI true).bind fun x16=>
   if x16.2≠0 then
   (some (([]:List Int),x16.2))
   else (match x16.1 with
   | none=>(none)
   | some QE=>(if QE.count=0 then
   (some (([]:List Int),3))
   else ((vP QE.best).bind fun x31=>
   some (x31,0))))
noncomputable def ja (d_0:aB) (cO:(List aF)) (fF:Int) (dI:Int):Option (Int×Int):=
 (je d_0 cO fF dI false).bind fun x17=>
   if x17.2≠0 then
   (some (0,x17.2))
   else (match x17.1 with
   | none=>(none)
   | some QE=>(some (QE.found,0)))
noncomputable def iF (s_0:Int) (Ed:(List aF)) (Ux:(List Int)):Option Bool:=
 (bW s_0 0 (w64 ((Ed.length:Int) - 1))).bind fun x9=>
   some (!x9)
noncomputable def fZ (f_1:(Int→Option Bool)) (s_0:(List Int)) (fK:Int):Option (Int ⊕ (Unit ⊕ Int)):=
 if fK< (s_0.length:Int) then
  ((rd s_0 fK).bind fun x14=>
  (f_1 x14).bind fun x16=>
  if x16=true then
  (some (.inr (.inr fK)))
  else (some (.inl (w64 (fK+1)))))
  else (some (.inr (.inl ())))
noncomputable def jr (s_0:(List Int)) (f_1:(Int→Option Bool)):Option Int:=
 (aP (fZ f_1 s_0) 0).bind fun o=>match o with
   | (.inl _)=>(some (-1))
   | (.inr r2)=>(some r2)
noncomputable def gm (s_0:(List Int)) (f_1:(Int→Option Bool)):Option Bool:=
 (jr s_0 f_1).bind fun x7=>
   some (decide (x7≥0))
noncomputable def qo (p_0:jO):Option Bool:=
 (iw p_0.qI).bind fun x5=>
   if (¬(x5=true)∨(p_0.Shifts.length:Int) >24) then
   (some false)
   else ((gm p_0.Shifts (fun a0=>iF a0 p_0.qI p_0.Shifts)).bind fun x16=>
   some (!x16))
noncomputable def jV (lQ:Int) (yR:Int):Option ((Int×Int) ⊕ Int):=
 some (.inl (yR,(w64 (lQ+1))))
noncomputable def ik (p_1:jO) (jf:Int) (x33:(List Int)) (x43:(List Int)) (s:(Int×Int)):Option ((Int×Int) ⊕ Int):=
 match s with
  | (gu,lQ)=>
  if lQ< (x43.length:Int) then
  ((rd x43 lQ).bind fun x49=>
  (rd p_1.Shifts x49).bind fun x55=>
  (rd p_1.Shifts jf).bind fun x60=>
  (md (w64 ((w64 (x55 - x60))+(p_1.qI.length:Int))) (p_1.qI.length:Int)).bind fun x66=>
  (rd x33 x66).bind fun x67=>
  if (gu<0∨x67<gu) then
  (jV lQ x67)
  else (jV lQ gu))
  else (some (.inr gu))
noncomputable def iH (p_1:jO) (x33:(List Int)) (x38:(List (List Int))) (s:(Int×Int)):Option ((Int×Int) ⊕ Int):=
 match s with
  | (Bf,jf)=>
  if jf< (x38.length:Int) then
  ((rd x38 jf).bind fun x43=>
  (aP (ik p_1 jf x33 x43) (Bf,0)).bind fun yF=>
  some (.inl (yF,(w64 (jf+1)))))
  else (some (.inr Bf))
noncomputable def oq (d_0:aB) (p_1:jO):Option (Int×Int):=
 (iJ d_0).bind fun x16=>
   (if x16=true then
   ((qo p_1).bind fun x20=>
   some (!x20))
   else (some true)).bind fun qL=>
   if qL=true then
   (some (0,1))
   else (if (d_0.ai.length:Int)≠(p_1.Shifts.length:Int) then
   (some (0,7))
   else ((kz p_1.qI).bind fun x33=>
   (oJ d_0).bind fun x38=>
   (aP (iH p_1 x33 x38) ((-1),0)).bind fun xy=>
   if xy<0 then
   (some (0,6))
   else (some (xy,0))))
noncomputable def oQ (dM:(List Int)) (cO:Int) (JK:Int):Option (Int ⊕ (Unit ⊕ Bool)):=
 if JK< (dM.length:Int) then
  ((rd dM JK).bind fun x14=>
  (fJ x14 0 (w64 (cO - 1))).bind fun x18=>
  if x18=true then
  (some (.inl (w64 (JK+1))))
  else (some (.inr (.inr false))))
  else (some (.inr (.inl ())))
noncomputable def xA (dM:(List Int)) (cO:Int):Option Bool:=
 (aP (oQ dM cO) 0).bind fun o=>match o with
   | (.inl _)=>(some (decide ((dM.length:Int)≤24)))
   | (.inr r2)=>(some r2)
noncomputable def En (p_0:jO):Option Bool:=
 (lN p_0.qI).bind fun x7=>
   (if x7=true then
   ((xA p_0.Shifts (p_0.qI.length:Int)).bind fun x18=>
   some x18)
   else (some false)).bind fun jw=>
   some jw
noncomputable def qp (p_0:jO):Option Bool:=
 (En p_0).bind fun x3=>
   some x3
noncomputable def uX (gW:(List Int)) (vZ:(List Int)):Option Bool:=
 (BM gW vZ).bind fun x19=>
   if x19=true then
   (some true)
   else ((wK gW).bind fun x21=>
   (uN vZ).bind fun x23=>
   (Dw vZ 0 60).bind fun x25=>
   (gK x21 x23 x25 2000).bind fun x30=>
   (qm x21 x23 x25 2000).bind fun x37=>
   if x30.2≠x37.2 then
   (some false)
   else ((ja x21 x23 x25 2000).bind fun x47=>
   (if x47.2=0 then
   (if (x30.2==0)=(decide (x47.1>0)) then
   (if x30.2≠0 then
   (if x30.2≠3 then
   (if x30.2≠5 then
   (some true)
   else (if x30.2=5 then
   (some (x47.2 != 5))
   else (some false)))
   else (if x30.2=5 then
   (some (x47.2 != 5))
   else (some false)))
   else (if x30.2=5 then
   (some (x47.2 != 5))
   else (some false)))
   else (some true))
   else (if x30.2≠0 then
   (if x30.2≠3 then
   (if x30.2≠5 then
   (some true)
   else (if x30.2=5 then
   (some (x47.2 != 5))
   else (some false)))
   else (if x30.2=5 then
   (some (x47.2 != 5))
   else (some false)))
   else (if x30.2=5 then
   (some (x47.2 != 5))
   else (some false)))).bind fun Nu=>
   if Nu=true then
   (some false)
   else (if x30.2≠0 then
   (some true)
   else (if (x30.1.length:Int)≠(x21.ai.length:Int) then
   (some false)
   else ((oq x21 (⟨x23,x30.1⟩:jO)).bind fun x93=>
   (qp (⟨x23,x30.1⟩:jO)).bind fun x97=>
   (if x97=true then
   (if x93.2=0 then
   (if x93.1≥x25 then
   (some true)
   else (some (x93.2==6)))
   else (some (x93.2==6)))
   else (some false)).bind fun QL=>
   some QL)))))
end Go.Pw
