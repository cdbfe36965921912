/- Plain functions that answer what the program's functions answer. Conditions: none; definitions alone. -/
import Derived.Test.YtdibfdcmbjaejaaSimPw
namespace Go.Pw
open Go.Sim (min2 max2)
set_option linter.unusedVariables false
def bit_and (k:IntKind) (a b:Int):Int:=k.wrap (BitVec.ofInt k.bits a &&& BitVec.ofInt k.bits b).toNat
structure S_Point where
 X:Int
 Y:Int
structure S_Face where
 Name:ByteArray
 Ring:(List Int)
structure S_Drawing where
 Width:Int
 Height:Int
 Points:(List S_Point)
 Faces:(List S_Face)
structure S_l00Src where
 code:(List Int)
 at_:Int
 seed:Int
structure S_sides where
 near:(List (List Int))
 border:(List Bool)
structure Ar2_Int where
 e0:Int
 e1:Int
structure S_assemblySearch where
 sides:S_sides
 left:Int
 found:Int
 first:(List Int)
 one:Bool
noncomputable def spec_l00From (code_0:(List Int)):Option S_l00Src:=
 some (⟨code_0,0,0⟩:S_l00Src)
noncomputable def spec_l00Src_next_k4 (s_0:S_l00Src) (b_3_r4:Int):Option (Int×S_l00Src):=
 if (w64 (s_0.at_+1))≤(s_0.code.length:Int) then
  (some (b_3_r4,(⟨s_0.code,(w64 (s_0.at_+1)),(IntKind.wrap .u64 ((IntKind.wrap .u64 ((IntKind.wrap .u64 (s_0.seed*6364136223846793005))+(IntKind.wrap .u64 (b_3_r4))))+1442695040888963407))⟩:S_l00Src)))
  else ((shr .u64 (IntKind.wrap .u64 ((IntKind.wrap .u64 ((IntKind.wrap .u64 (s_0.seed*6364136223846793005))+(IntKind.wrap .u64 (b_3_r4))))+1442695040888963407)) 40).bind fun x59=>
  some ((w64 ((bit_and .u64 x59 255))),(⟨s_0.code,(w64 (s_0.at_+1)),(IntKind.wrap .u64 ((IntKind.wrap .u64 ((IntKind.wrap .u64 (s_0.seed*6364136223846793005))+(IntKind.wrap .u64 (b_3_r4))))+1442695040888963407))⟩:S_l00Src)))
noncomputable def spec_l00Src_next (s_0:S_l00Src):Option (Int×S_l00Src):=
 if s_0.at_< (s_0.code.length:Int) then
  ((rd s_0.code s_0.at_).bind fun x22=>
  spec_l00Src_next_k4 s_0 (w64 (x22)))
  else (spec_l00Src_next_k4 s_0 0)
noncomputable def spec_l00Src_pick_k6 (n_1:Int) (x_5_r6:Int) (s_o0_0_r6:(List Int)) (s_o0_1_r6:Int) (s_o0_2_r6:Int):Option (Int×S_l00Src):=
 (md x_5_r6 n_1).bind fun x19=>
   some (x19,(⟨s_o0_0_r6,s_o0_1_r6,s_o0_2_r6⟩:S_l00Src))
noncomputable def spec_l00Src_pick (s_0:S_l00Src) (n_1:Int):Option (Int×S_l00Src):=
 if n_1≤1 then
  (some (0,s_0))
  else ((spec_l00Src_next s_0).bind fun x9=>
  if n_1>200 then
  ((spec_l00Src_next x9.2).bind fun x15=>
  spec_l00Src_pick_k6 n_1 (w64 ((w64 (x9.1*256))+x15.1)) x15.2.code x15.2.at_ x15.2.seed)
  else (spec_l00Src_pick_k6 n_1 x9.1 x9.2.code x9.2.at_ x9.2.seed))
noncomputable def spec_l00Src_one (s_0:S_l00Src) (n_1:Int):Option (Bool×S_l00Src):=
 (spec_l00Src_pick s_0 n_1).bind fun x7=>
   some ((x7.1==0),x7.2)
noncomputable def spec_l23Ring_k10 (x13:(Int×S_l00Src)) (x18:(Int×S_l00Src)) (x63:(Bool×S_l00Src)) (x8:(Int×S_l00Src)) (d_o6_3_r10:(List S_Face)):Option (S_Drawing×S_l00Src):=
 some ((⟨(w64 ((w64 ((w64 ((w64 ((w64 (20+x8.1))+20))+x13.1))+20))+x18.1)),(w64 ((w64 ((w64 ((w64 ((w64 (20+x8.1))+20))+x13.1))+20))+x18.1)),([(⟨0,0⟩:S_Point),(⟨(w64 ((w64 ((w64 ((w64 ((w64 (20+x8.1))+20))+x13.1))+20))+x18.1)),0⟩:S_Point),(⟨(w64 ((w64 ((w64 ((w64 ((w64 (20+x8.1))+20))+x13.1))+20))+x18.1)),(w64 ((w64 ((w64 ((w64 ((w64 (20+x8.1))+20))+x13.1))+20))+x18.1))⟩:S_Point),(⟨0,(w64 ((w64 ((w64 ((w64 ((w64 (20+x8.1))+20))+x13.1))+20))+x18.1))⟩:S_Point),(⟨(w64 (20+x8.1)),(w64 (20+x8.1))⟩:S_Point),(⟨(w64 ((w64 ((w64 (20+x8.1))+20))+x13.1)),(w64 (20+x8.1))⟩:S_Point),(⟨(w64 ((w64 ((w64 (20+x8.1))+20))+x13.1)),(w64 ((w64 ((w64 (20+x8.1))+20))+x13.1))⟩:S_Point),(⟨(w64 (20+x8.1)),(w64 ((w64 ((w64 (20+x8.1))+20))+x13.1))⟩:S_Point)]:List S_Point),d_o6_3_r10⟩:S_Drawing),x63.2)
noncomputable def spec_l23Ring_k8 (x13:(Int×S_l00Src)) (x18:(Int×S_l00Src)) (x57:(Bool×S_l00Src)) (x8:(Int×S_l00Src)) (d_o6_3_r8:(List S_Face)):Option (S_Drawing×S_l00Src):=
 (spec_l00Src_one x57.2 4).bind fun x63=>
   if x63.1=true then
   (spec_l23Ring_k10 x13 x18 x63 x8 ([(⟨(⟨#[101]⟩:ByteArray),([4,5,6,7]:List Int)⟩:S_Face)]:List S_Face))
   else (spec_l23Ring_k10 x13 x18 x63 x8 d_o6_3_r8)
noncomputable def spec_l23Ring (s_0:S_l00Src):Option (S_Drawing×S_l00Src):=
 (spec_l00Src_pick s_0 50).bind fun x8=>
   (spec_l00Src_pick x8.2 50).bind fun x13=>
   (spec_l00Src_pick x13.2 50).bind fun x18=>
   (spec_l00Src_one x18.2 3).bind fun x57=>
   if x57.1=true then
   ((slc ([(⟨(⟨#[97]⟩:ByteArray),([0,1,5,4]:List Int)⟩:S_Face),(⟨(⟨#[98]⟩:ByteArray),([1,2,6,5]:List Int)⟩:S_Face),(⟨(⟨#[99]⟩:ByteArray),([2,3,7,6]:List Int)⟩:S_Face),(⟨(⟨#[100]⟩:ByteArray),([3,0,4,7]:List Int)⟩:S_Face),(⟨(⟨#[101]⟩:ByteArray),([4,5,6,7]:List Int)⟩:S_Face)]:List S_Face) 1 (([(⟨(⟨#[97]⟩:ByteArray),([0,1,5,4]:List Int)⟩:S_Face),(⟨(⟨#[98]⟩:ByteArray),([1,2,6,5]:List Int)⟩:S_Face),(⟨(⟨#[99]⟩:ByteArray),([2,3,7,6]:List Int)⟩:S_Face),(⟨(⟨#[100]⟩:ByteArray),([3,0,4,7]:List Int)⟩:S_Face),(⟨(⟨#[101]⟩:ByteArray),([4,5,6,7]:List Int)⟩:S_Face)]:List S_Face).length:Int)).bind fun x60=>
   spec_l23Ring_k8 x13 x18 x57 x8 ((([(⟨(⟨#[97]⟩:ByteArray),([0,1,5,4]:List Int)⟩:S_Face),(⟨(⟨#[98]⟩:ByteArray),([1,2,6,5]:List Int)⟩:S_Face),(⟨(⟨#[99]⟩:ByteArray),([2,3,7,6]:List Int)⟩:S_Face),(⟨(⟨#[100]⟩:ByteArray),([3,0,4,7]:List Int)⟩:S_Face),(⟨(⟨#[101]⟩:ByteArray),([4,5,6,7]:List Int)⟩:S_Face)]:List S_Face).take ((([(⟨(⟨#[97]⟩:ByteArray),([0,1,5,4]:List Int)⟩:S_Face),(⟨(⟨#[98]⟩:ByteArray),([1,2,6,5]:List Int)⟩:S_Face),(⟨(⟨#[99]⟩:ByteArray),([2,3,7,6]:List Int)⟩:S_Face),(⟨(⟨#[100]⟩:ByteArray),([3,0,4,7]:List Int)⟩:S_Face),(⟨(⟨#[101]⟩:ByteArray),([4,5,6,7]:List Int)⟩:S_Face)]:List S_Face).length:Int).toNat)).drop ((1:Int).toNat)))
   else (spec_l23Ring_k8 x13 x18 x57 x8 ([(⟨(⟨#[97]⟩:ByteArray),([0,1,5,4]:List Int)⟩:S_Face),(⟨(⟨#[98]⟩:ByteArray),([1,2,6,5]:List Int)⟩:S_Face),(⟨(⟨#[99]⟩:ByteArray),([2,3,7,6]:List Int)⟩:S_Face),(⟨(⟨#[100]⟩:ByteArray),([3,0,4,7]:List Int)⟩:S_Face),(⟨(⟨#[101]⟩:ByteArray),([4,5,6,7]:List Int)⟩:S_Face)]:List S_Face))
noncomputable def spec_l01Dec_l15 (digits_o3_r13:(List Int)) (s:(Int×(List Int))):Option ((Int×(List Int)) ⊕ (List Int)):=
 match s with
  | (i_7_l15,out_o6_l15)=>
  if i_7_l15≥0 then
  ((rd digits_o3_r13 i_7_l15).bind fun x44=>
  (apd 1 out_o6_l15 ([x44]:List Int)).bind fun x47=>
  some (.inl ((w64 (i_7_l15 - 1)),x47)))
  else (some (.inr out_o6_l15))
noncomputable def spec_l01Dec_k13 (digits_o3_r13:(List Int)):Option ByteArray:=
 (loopO (spec_l01Dec_l15 digits_o3_r13) ((w64 ((digits_o3_r13.length:Int) - 1)),([]:List Int))).bind fun out_o6_e2_15=>
   some (strOf out_o6_e2_15)
noncomputable def spec_l01Dec_k10 (digits_o3_l5:(List Int)) (m_4_l5:Int) (d_5_r10:Int):Option ((Int×(List Int)) ⊕ (List Int)):=
 (apd 1 digits_o3_l5 ([(IntKind.wrap .u8 ((w64 (48+d_5_r10))))]:List Int)).bind fun x27=>
   (dv .i64 m_4_l5 10).bind fun x15=>
   some (.inl (x15,x27))
noncomputable def spec_l01Dec_l5 (s:(Int×(List Int))):Option ((Int×(List Int)) ⊕ (List Int)):=
 match s with
  | (m_4_l5,digits_o3_l5)=>
  if m_4_l5≠0 then
  ((md m_4_l5 10).bind fun x17=>
  if x17<0 then
  (spec_l01Dec_k10 digits_o3_l5 m_4_l5 (w64 (0 - x17)))
  else (spec_l01Dec_k10 digits_o3_l5 m_4_l5 x17))
  else (some (.inr digits_o3_l5))
noncomputable def spec_l01Dec (n_0:Int):Option ByteArray:=
 if n_0=0 then
  (some (⟨#[48]⟩:ByteArray))
  else ((loopO (spec_l01Dec_l5) (n_0,([]:List Int))).bind fun digits_o3_e0_5=>
  if n_0<0 then
  ((apd 1 digits_o3_e0_5 ([45]:List Int)).bind fun x32=>
  spec_l01Dec_k13 x32)
  else (spec_l01Dec_k13 digits_o3_e0_5))
noncomputable def spec_l05Grid_l25 (x16:(Int×S_l00Src)) (y_12_l22:Int) (s:(Int×(List S_Face))):Option ((Int×(List S_Face)) ⊕ (List S_Face)):=
 match s with
  | (x_13_l25,d_o9_3_l25)=>
  if x_13_l25< (w64 (1+x16.1)) then
  ((spec_l01Dec y_12_l22).bind fun x107=>
  (cat (⟨#[102]⟩:ByteArray) x107).bind fun x108=>
  (spec_l01Dec x_13_l25).bind fun x110=>
  (cat x108 x110).bind fun x111=>
  (apd 40 d_o9_3_l25 ([(⟨x111,([(w64 ((w64 (y_12_l22* (w64 ((w64 (1+x16.1))+1))))+x_13_l25)),(w64 ((w64 ((w64 (y_12_l22* (w64 ((w64 (1+x16.1))+1))))+x_13_l25))+1)),(w64 ((w64 ((w64 ((w64 (y_12_l22* (w64 ((w64 (1+x16.1))+1))))+x_13_l25))+(w64 (1+x16.1))))+2)),(w64 ((w64 ((w64 ((w64 (y_12_l22* (w64 ((w64 (1+x16.1))+1))))+x_13_l25))+(w64 (1+x16.1))))+1))]:List Int)⟩:S_Face)]:List S_Face)).bind fun x126=>
  some (.inl ((w64 (x_13_l25+1)),x126)))
  else (some (.inr d_o9_3_l25))
noncomputable def spec_l05Grid_l22 (x16:(Int×S_l00Src)) (x19:(Int×S_l00Src)) (s:(Int×(List S_Face))):Option ((Int×(List S_Face)) ⊕ (List S_Face)):=
 match s with
  | (y_12_l22,d_o9_3_l22)=>
  if y_12_l22< (w64 (1+x19.1)) then
  ((loopO (spec_l05Grid_l25 x16 y_12_l22) (0,d_o9_3_l22)).bind fun d_o9_3_e10_25=>
  some (.inl ((w64 (y_12_l22+1)),d_o9_3_e10_25)))
  else (some (.inr d_o9_3_l22))
noncomputable def spec_l05Grid_l18 (x16:(Int×S_l00Src)) (xs_o5_e0_6:(List Int)) (y_10_l15:Int) (ys_o6_e2_10:(List Int)) (s:(Int×(List S_Point))):Option ((Int×(List S_Point)) ⊕ (List S_Point)):=
 match s with
  | (x_11_l18,d_o9_2_l18)=>
  if x_11_l18≤(w64 (1+x16.1)) then
  ((rd xs_o5_e0_6 x_11_l18).bind fun x78=>
  (rd ys_o6_e2_10 y_10_l15).bind fun x82=>
  (apd 16 d_o9_2_l18 ([(⟨x78,x82⟩:S_Point)]:List S_Point)).bind fun x86=>
  some (.inl ((w64 (x_11_l18+1)),x86)))
  else (some (.inr d_o9_2_l18))
noncomputable def spec_l05Grid_l15 (x16:(Int×S_l00Src)) (x19:(Int×S_l00Src)) (xs_o5_e0_6:(List Int)) (ys_o6_e2_10:(List Int)) (s:(Int×(List S_Point))):Option ((Int×(List S_Point)) ⊕ (List S_Point)):=
 match s with
  | (y_10_l15,d_o9_2_l15)=>
  if y_10_l15≤(w64 (1+x19.1)) then
  ((loopO (spec_l05Grid_l18 x16 xs_o5_e0_6 y_10_l15 ys_o6_e2_10) (0,d_o9_2_l15)).bind fun d_o9_2_e6_18=>
  some (.inl ((w64 (y_10_l15+1)),d_o9_2_e6_18)))
  else (some (.inr d_o9_2_l15))
noncomputable def spec_l05Grid_l10 (x19:(Int×S_l00Src)) (s:(Int×(List Int)×Int×Int×(List Int))):Option ((Int×(List Int)×Int×Int×(List Int)) ⊕ ((List Int)×Int×Int×(List Int))):=
 match s with
  | (i_8_l10,s_o0_0_l10,s_o0_1_l10,s_o0_2_l10,ys_o6_l10)=>
  if i_8_l10< (w64 (1+x19.1)) then
  ((rd ys_o6_l10 i_8_l10).bind fun x47=>
  (spec_l00Src_pick (⟨s_o0_0_l10,s_o0_1_l10,s_o0_2_l10⟩:S_l00Src) 200).bind fun x51=>
  (apd 8 ys_o6_l10 ([(w64 ((w64 (x47+20))+x51.1))]:List Int)).bind fun x54=>
  some (.inl ((w64 (i_8_l10+1)),x51.2.code,x51.2.at_,x51.2.seed,x54)))
  else (some (.inr (s_o0_0_l10,s_o0_1_l10,s_o0_2_l10,ys_o6_l10)))
noncomputable def spec_l05Grid_l6 (x16:(Int×S_l00Src)) (s:(Int×(List Int)×Int×Int×(List Int))):Option ((Int×(List Int)×Int×Int×(List Int)) ⊕ ((List Int)×Int×Int×(List Int))):=
 match s with
  | (i_7_l6,s_o0_0_l6,s_o0_1_l6,s_o0_2_l6,xs_o5_l6)=>
  if i_7_l6< (w64 (1+x16.1)) then
  ((rd xs_o5_l6 i_7_l6).bind fun x31=>
  (spec_l00Src_pick (⟨s_o0_0_l6,s_o0_1_l6,s_o0_2_l6⟩:S_l00Src) 200).bind fun x35=>
  (apd 8 xs_o5_l6 ([(w64 ((w64 (x31+20))+x35.1))]:List Int)).bind fun x38=>
  some (.inl ((w64 (i_7_l6+1)),x35.2.code,x35.2.at_,x35.2.seed,x38)))
  else (some (.inr (s_o0_0_l6,s_o0_1_l6,s_o0_2_l6,xs_o5_l6)))
noncomputable def spec_l05Grid (s_0:S_l00Src):Option (S_Drawing×S_l00Src):=
 (spec_l00Src_pick s_0 3).bind fun x16=>
   (spec_l00Src_pick x16.2 3).bind fun x19=>
   (loopO (spec_l05Grid_l6 x16) (0,x19.2.code,x19.2.at_,x19.2.seed,([0]:List Int))).bind fun o=>match o with
   | (s_o0_0_e0_6,s_o0_1_e0_6,s_o0_2_e0_6,xs_o5_e0_6)=>
   (loopO (spec_l05Grid_l10 x19) (0,s_o0_0_e0_6,s_o0_1_e0_6,s_o0_2_e0_6,([0]:List Int))).bind fun o=>match o with
   | (s_o0_0_e2_10,s_o0_1_e2_10,s_o0_2_e2_10,ys_o6_e2_10)=>
   (rd xs_o5_e0_6 (w64 (1+x16.1))).bind fun x57=>
   (rd ys_o6_e2_10 (w64 (1+x19.1))).bind fun x61=>
   (loopO (spec_l05Grid_l15 x16 x19 xs_o5_e0_6 ys_o6_e2_10) (0,([]:List S_Point))).bind fun d_o9_2_e4_15=>
   (loopO (spec_l05Grid_l22 x16 x19) (0,([]:List S_Face))).bind fun d_o9_3_e8_22=>
   some ((⟨x57,x61,d_o9_2_e4_15,d_o9_3_e8_22⟩:S_Drawing),(⟨s_o0_0_e2_10,s_o0_1_e2_10,s_o0_2_e2_10⟩:S_l00Src))
noncomputable def spec_l05Cut_k4 (i_6_l3:Int) (out_o5_3_r4:(List S_Face)) (s_o0_0_r4:(List Int)) (s_o0_1_r4:Int) (s_o0_2_r4:Int):Option ((Int×(List Int)×Int×Int×(List S_Face)) ⊕ ((List Int)×Int×Int×(List S_Face))):=
 some (.inl ((w64 (i_6_l3+1)),s_o0_0_r4,s_o0_1_r4,s_o0_2_r4,out_o5_3_r4))
noncomputable def spec_l05Cut_l3 (d_1:S_Drawing) (s:(Int×(List Int)×Int×Int×(List S_Face))):Option ((Int×(List Int)×Int×Int×(List S_Face)) ⊕ ((List Int)×Int×Int×(List S_Face))):=
 match s with
  | (i_6_l3,s_o0_0_l3,s_o0_1_l3,s_o0_2_l3,out_o5_3_l3)=>
  if i_6_l3< (d_1.Faces.length:Int) then
  ((rd d_1.Faces i_6_l3).bind fun x25=>
  (if (x25.Ring.length:Int)=4 then
  ((spec_l00Src_one (⟨s_o0_0_l3,s_o0_1_l3,s_o0_2_l3⟩:S_l00Src) 3).bind fun x33=>
  some (x33.1,x33.2.code,x33.2.at_,x33.2.seed))
  else (some (false,s_o0_0_l3,s_o0_1_l3,s_o0_2_l3))).bind fun s=>match s with
  | (t_34_m6,s_o0_0_m6,s_o0_1_m6,s_o0_2_m6)=>
  if t_34_m6=true then
  ((rd x25.Ring 0).bind fun x41=>
  (rd x25.Ring 1).bind fun x45=>
  (rd x25.Ring 2).bind fun x49=>
  (apd 40 out_o5_3_l3 ([(⟨x25.Name,([x41,x45,x49]:List Int)⟩:S_Face)]:List S_Face)).bind fun x54=>
  (rd x25.Ring 0).bind fun x63=>
  (rd x25.Ring 2).bind fun x67=>
  (rd x25.Ring 3).bind fun x71=>
  (cat x25.Name (⟨#[98]⟩:ByteArray)).bind fun x60=>
  (apd 40 x54 ([(⟨x60,([x63,x67,x71]:List Int)⟩:S_Face)]:List S_Face)).bind fun x76=>
  spec_l05Cut_k4 i_6_l3 x76 s_o0_0_m6 s_o0_1_m6 s_o0_2_m6)
  else ((apd 40 out_o5_3_l3 ([x25]:List S_Face)).bind fun x82=>
  spec_l05Cut_k4 i_6_l3 x82 s_o0_0_m6 s_o0_1_m6 s_o0_2_m6))
  else (some (.inr (s_o0_0_l3,s_o0_1_l3,s_o0_2_l3,out_o5_3_l3)))
noncomputable def spec_l05Cut (s_0:S_l00Src) (d_1:S_Drawing):Option (S_Drawing×S_l00Src):=
 (loopO (spec_l05Cut_l3 d_1) (0,s_0.code,s_0.at_,s_0.seed,([]:List S_Face))).bind fun o=>match o with
   | (s_o0_0_e0_3,s_o0_1_e0_3,s_o0_2_e0_3,out_o5_3_e0_3)=>
   some ((⟨d_1.Width,d_1.Height,d_1.Points,out_o5_3_e0_3⟩:S_Drawing),(⟨s_o0_0_e0_3,s_o0_1_e0_3,s_o0_2_e0_3⟩:S_l00Src))
noncomputable def spec_l05Draw_k4 (s_o0_0_r4:(List Int)) (s_o0_1_r4:Int) (s_o0_2_r4:Int) (d_o3_0_r4:Int) (d_o3_1_r4:Int) (d_o3_2_r4:(List S_Point)) (d_o3_3_r4:(List S_Face)):Option (S_Drawing×S_l00Src):=
 some ((⟨d_o3_0_r4,d_o3_1_r4,d_o3_2_r4,d_o3_3_r4⟩:S_Drawing),(⟨s_o0_0_r4,s_o0_1_r4,s_o0_2_r4⟩:S_l00Src))
noncomputable def spec_l05Draw (s_0:S_l00Src):Option (S_Drawing×S_l00Src):=
 (spec_l05Grid s_0).bind fun x5=>
   (spec_l00Src_one x5.2 2).bind fun x7=>
   if x7.1=true then
   ((spec_l05Cut x7.2 x5.1).bind fun x10=>
   spec_l05Draw_k4 x10.2.code x10.2.at_ x10.2.seed x10.1.Width x10.1.Height x10.1.Points x10.1.Faces)
   else (spec_l05Draw_k4 x7.2.code x7.2.at_ x7.2.seed x5.1.Width x5.1.Height x5.1.Points x5.1.Faces)
noncomputable def spec_l00Src_among (s_0:S_l00Src) (list_1:(List Int)):Option (Int×S_l00Src):=
 (spec_l00Src_pick s_0 (list_1.length:Int)).bind fun x9=>
   (rd list_1 x9.1).bind fun x10=>
   some (x10,x9.2)
noncomputable def spec_l00Src_text (s_0:S_l00Src) (list_1:(List ByteArray)):Option (ByteArray×S_l00Src):=
 (spec_l00Src_pick s_0 (list_1.length:Int)).bind fun x9=>
   (rd list_1 x9.1).bind fun x10=>
   some (x10,x9.2)
noncomputable def spec_l01DrawName (s_0:S_l00Src):Option (ByteArray×S_l00Src):=
 (spec_l00Src_text s_0 ([(⟨#[97]⟩:ByteArray),(⟨#[98]⟩:ByteArray),(⟨#[99]⟩:ByteArray),(⟨#[111,97,107]⟩:ByteArray),(⟨#[115,116,97,114,55]⟩:ByteArray),(⟨#[114,111,115,101]⟩:ByteArray),(⟨#[120,57]⟩:ByteArray),(⟨#[97,98,99,100,101,102,103,104,105,106]⟩:ByteArray),(⟨#[97,98,99,100,101,102,103,104,105,106,107]⟩:ByteArray),(⟨#[65]⟩:ByteArray),(⟨#[]⟩:ByteArray),(⟨#[49,97]⟩:ByteArray),(⟨#[97,45,98]⟩:ByteArray)]:List ByteArray)).bind fun x5=>
   some (x5.1,x5.2)
noncomputable def spec_l05Bent_k29 (s_o0_0_r29:(List Int)) (s_o0_1_r29:Int) (s_o0_2_r29:Int) (d_o3_0_r29:Int) (d_o3_1_r29:Int) (d_o3_2_r29:(List S_Point)) (d_o3_3_r29:(List S_Face)):Option (S_Drawing×S_l00Src):=
 some ((⟨d_o3_0_r29,d_o3_1_r29,d_o3_2_r29,d_o3_3_r29⟩:S_Drawing),(⟨s_o0_0_r29,s_o0_1_r29,s_o0_2_r29⟩:S_l00Src))
noncomputable def spec_l05Bent_k23 (k_6_l22:Int) (d_o3_3_r23:(List S_Face)) (d_o3_2_r23:(List S_Point)):Option ((Int×(List S_Point)×(List S_Face)) ⊕ ((List S_Point)×(List S_Face))):=
 some (.inl ((w64 (k_6_l22+1)),d_o3_2_r23,d_o3_3_r23))
noncomputable def spec_l05Bent_l22 (x91:(Int×S_l00Src)) (s:(Int×(List S_Point)×(List S_Face))):Option ((Int×(List S_Point)×(List S_Face)) ⊕ ((List S_Point)×(List S_Face))):=
 match s with
  | (k_6_l22,d_o3_2_l22,d_o3_3_l22)=>
  if k_6_l22< (w64 (23+x91.1)) then
  ((apd 16 d_o3_2_l22 ([(⟨(w64 (20*k_6_l22)),0⟩:S_Point),(⟨(w64 (20*k_6_l22)),10⟩:S_Point)]:List S_Point)).bind fun x107=>
  if k_6_l22>0 then
  ((cat (⟨#[102]⟩:ByteArray) (strOf ([(IntKind.wrap .u8 ((w64 (97+k_6_l22))))]:List Int))).bind fun x118=>
  (apd 40 d_o3_3_l22 ([(⟨x118,([(w64 ((w64 (2*k_6_l22)) - 2)),(w64 (2*k_6_l22)),(w64 ((w64 (2*k_6_l22))+1)),(w64 ((w64 (2*k_6_l22)) - 1))]:List Int)⟩:S_Face)]:List S_Face)).bind fun x133=>
  spec_l05Bent_k23 k_6_l22 x133 x107)
  else (spec_l05Bent_k23 k_6_l22 d_o3_3_l22 x107))
  else (some (.inr (d_o3_2_l22,d_o3_3_l22)))
noncomputable def spec_l05Bent (s_0:S_l00Src):Option (S_Drawing×S_l00Src):=
 (spec_l05Draw s_0).bind fun x8=>
   (spec_l00Src_pick x8.2 16).bind fun x13=>
   if x13.1=0 then
   ((slc x8.1.Faces 1 (x8.1.Faces.length:Int)).bind fun x18=>
   spec_l05Bent_k29 x13.2.code x13.2.at_ x13.2.seed x8.1.Width x8.1.Height x8.1.Points ((x8.1.Faces.take ((x8.1.Faces.length:Int).toNat)).drop ((1:Int).toNat)))
   else (if x13.1=1 then
   ((apd 16 x8.1.Points ([(⟨7,3⟩:S_Point)]:List S_Point)).bind fun x26=>
   spec_l05Bent_k29 x13.2.code x13.2.at_ x13.2.seed x8.1.Width x8.1.Height x26 x8.1.Faces)
   else (if x13.1=2 then
   ((spec_l00Src_among x13.2 ([(w64 (x8.1.Width+5)),9,10,20000,20001]:List Int)).bind fun x35=>
   spec_l05Bent_k29 x35.2.code x35.2.at_ x35.2.seed x35.1 x8.1.Height x8.1.Points x8.1.Faces)
   else (if x13.1=3 then
   ((spec_l00Src_pick x13.2 (x8.1.Faces.length:Int)).bind fun x43=>
   (rd x8.1.Faces x43.1).bind fun x49=>
   spec_l05Bent_k29 x43.2.code x43.2.at_ x43.2.seed x8.1.Width x8.1.Height x8.1.Points (x8.1.Faces.set x43.1.toNat (⟨x49.Name,([0,1,(w64 ((x8.1.Points.length:Int) - 1))]:List Int)⟩:S_Face)))
   else (if x13.1=4 then
   ((spec_l00Src_pick x13.2 (x8.1.Faces.length:Int)).bind fun x57=>
   (spec_l01DrawName x57.2).bind fun x59=>
   (rd x8.1.Faces x57.1).bind fun x60=>
   spec_l05Bent_k29 x59.2.code x59.2.at_ x59.2.seed x8.1.Width x8.1.Height x8.1.Points (x8.1.Faces.set x57.1.toNat (⟨x59.1,x60.Ring⟩:S_Face)))
   else (if x13.1=5 then
   ((spec_l00Src_pick x13.2 (x8.1.Faces.length:Int)).bind fun x68=>
   (spec_l00Src_among x68.2 ([1,(-1),(x8.1.Points.length:Int)]:List Int)).bind fun x74=>
   (rd x8.1.Faces x68.1).bind fun x76=>
   spec_l05Bent_k29 x74.2.code x74.2.at_ x74.2.seed x8.1.Width x8.1.Height x8.1.Points (x8.1.Faces.set x68.1.toNat (⟨x76.Name,([0,x74.1]:List Int)⟩:S_Face)))
   else (if x13.1=6 then
   ((rd x8.1.Points 0).bind fun x84=>
   (rd x8.1.Points 1).bind fun x86=>
   spec_l05Bent_k29 x13.2.code x13.2.at_ x13.2.seed x8.1.Width x8.1.Height (x8.1.Points.set ((1:Int).toNat) x84) x8.1.Faces)
   else (if x13.1=7 then
   ((spec_l00Src_pick x13.2 3).bind fun x91=>
   (loopO (spec_l05Bent_l22 x91) (0,([]:List S_Point),([]:List S_Face))).bind fun o=>match o with
   | (d_o3_2_e1_22,d_o3_3_e1_22)=>
   spec_l05Bent_k29 x91.2.code x91.2.at_ x91.2.seed 480 20 d_o3_2_e1_22 d_o3_3_e1_22)
   else (if x13.1=8 then
   ((spec_l00Src_pick x13.2 (x8.1.Points.length:Int)).bind fun x143=>
   (rd x8.1.Points x143.1).bind fun x144=>
   (spec_l00Src_pick x143.2 30).bind fun x148=>
   (rd x8.1.Points x143.1).bind fun x150=>
   spec_l05Bent_k29 x148.2.code x148.2.at_ x148.2.seed x8.1.Width x8.1.Height (x8.1.Points.set x143.1.toNat (⟨(w64 (x144.X+x148.1)),x150.Y⟩:S_Point)) x8.1.Faces)
   else (spec_l05Bent_k29 x13.2.code x13.2.at_ x13.2.seed x8.1.Width x8.1.Height x8.1.Points x8.1.Faces)))))))))
noncomputable def spec_l23Draw (s_0:S_l00Src):Option (S_Drawing×S_l00Src):=
 (spec_l00Src_one s_0 2).bind fun x4=>
   if x4.1=true then
   ((spec_l23Ring x4.2).bind fun x6=>
   some (x6.1,x6.2))
   else ((spec_l05Bent x4.2).bind fun x8=>
   some (x8.1,x8.2))
noncomputable def spec_l00In (n_0:Int) (low_1:Int) (high_2:Int):Option Bool:=
 some ((decide (n_0≥low_1))&&(decide (n_0≤high_2)))
noncomputable def spec_l05Points_l9 (d_0:S_Drawing) (i_3_l4:Int) (k_4_l9:Int):Option (Int ⊕ (Unit ⊕ Bool)):=
 if k_4_l9<i_3_l4 then
  ((rd d_0.Points i_3_l4).bind fun x60=>
  (rd d_0.Points k_4_l9).bind fun x67=>
  if (x60.X=x67.X∧x60.Y=x67.Y) then
  (some (.inr (.inr false)))
  else (some (.inl (w64 (k_4_l9+1)))))
  else (some (.inr (.inl ())))
noncomputable def spec_l05Points_l4 (d_0:S_Drawing) (i_3_l4:Int):Option (Int ⊕ (Unit ⊕ Bool)):=
 if i_3_l4< (d_0.Points.length:Int) then
  ((rd d_0.Points i_3_l4).bind fun x25=>
  (spec_l00In x25.X 0 d_0.Width).bind fun x32=>
  (if x32=true then
  ((rd d_0.Points i_3_l4).bind fun x40=>
  (spec_l00In x40.Y 0 d_0.Height).bind fun x47=>
  some (!x47))
  else (some true)).bind fun t_49_m6=>
  if t_49_m6=true then
  (some (.inr (.inr false)))
  else ((loopO (spec_l05Points_l9 d_0 i_3_l4) 0).bind fun o=>match o with
  | (.inl _)=>(some (.inl (w64 (i_3_l4+1))))
  | (.inr r2)=>(some (.inr (.inr r2)))))
  else (some (.inr (.inl ())))
noncomputable def spec_l05Points (d_0:S_Drawing):Option Bool:=
 if (d_0.Points.length:Int) >48 then
  (some false)
  else ((loopO (spec_l05Points_l4 d_0) 0).bind fun o=>match o with
  | (.inl _)=>(some true)
  | (.inr r2)=>(some r2))
noncomputable def spec_l01Small (c_0:Int):Option Bool:=
 some ((decide (c_0≥97))&&(decide (c_0≤122)))
noncomputable def spec_l01Digit (c_0:Int):Option Bool:=
 some ((decide (c_0≥48))&&(decide (c_0≤57)))
noncomputable def spec_l01Name_l4 (s_0:ByteArray) (i_3_l4:Int):Option (Int ⊕ (Unit ⊕ Bool)):=
 if i_3_l4< (s_0.size:Int) then
  ((bt s_0 i_3_l4).bind fun x25=>
  (spec_l01Small x25).bind fun x26=>
  (if x26=true then
  (some false)
  else ((bt s_0 i_3_l4).bind fun x31=>
  (spec_l01Digit x31).bind fun x32=>
  some (!x32))).bind fun t_34_m6=>
  if t_34_m6=true then
  (some (.inr (.inr false)))
  else (some (.inl (w64 (i_3_l4+1)))))
  else (some (.inr (.inl ())))
noncomputable def spec_l01Name (s_0:ByteArray):Option Bool:=
 (if s_0=(⟨#[]⟩:ByteArray) then
   (some true)
   else (if (s_0.size:Int) >10 then
   (some true)
   else ((bt s_0 0).bind fun x13=>
   (spec_l01Small x13).bind fun x14=>
   some (!x14)))).bind fun t_16_m1=>
   if t_16_m1=true then
   (some false)
   else ((loopO (spec_l01Name_l4 s_0) 0).bind fun o=>match o with
   | (.inl _)=>(some true)
   | (.inr r2)=>(some r2))
noncomputable def spec_l05Ring_l3 (d_0:S_Drawing) (ring_1:(List Int)) (s:(Int×(List S_Point))):Option ((Int×(List S_Point)) ⊕ ((List S_Point) ⊕ ((List S_Point)×Bool))):=
 match s with
  | (i_7_l3,out_o6_l3)=>
  if i_7_l3< (ring_1.length:Int) then
  ((rd ring_1 i_7_l3).bind fun x17=>
  (spec_l00In x17 0 (w64 ((d_0.Points.length:Int) - 1))).bind fun x25=>
  if x25=true then
  ((rd ring_1 i_7_l3).bind fun x34=>
  (rd d_0.Points x34).bind fun x36=>
  (apd 16 out_o6_l3 ([x36]:List S_Point)).bind fun x39=>
  some (.inl ((w64 (i_7_l3+1)),x39)))
  else (some (.inr (.inr (([]:List S_Point),false)))))
  else (some (.inr (.inl out_o6_l3)))
noncomputable def spec_l05Ring (d_0:S_Drawing) (ring_1:(List Int)):Option ((List S_Point)×Bool):=
 (loopO (spec_l05Ring_l3 d_0 ring_1) (0,([]:List S_Point))).bind fun o=>match o with
   | (.inl out_o6_e0_3)=>(some (out_o6_e0_3,true))
   | (.inr r2)=>(some r2)
noncomputable def spec_l02Ok (p_0:S_Point):Option Bool:=
 (spec_l00In p_0.X 0 20000).bind fun x5=>
   (if x5=true then
   ((spec_l00In p_0.Y 0 20000).bind fun x9=>
   some x9)
   else (some false)).bind fun t_2_m1=>
   some t_2_m1
noncomputable def spec_l02Cross (a_0:S_Point) (b_1:S_Point) (c_2:S_Point):Option Int:=
 some (w64 ((w64 ((w64 (b_1.X - a_0.X)) * (w64 (c_2.Y - a_0.Y)))) - (w64 ((w64 (b_1.Y - a_0.Y)) * (w64 (c_2.X - a_0.X))))))
noncomputable def spec_l02Side (a_0:S_Point) (b_1:S_Point) (c_2:S_Point):Option Int:=
 (spec_l02Cross a_0 b_1 c_2).bind fun x11=>
   if x11>0 then
   (some 1)
   else (if x11<0 then
   (some (-1))
   else (some 0))
noncomputable def spec_l00Min (a_0:Int) (b_1:Int):Option Int:=
 if a_0<b_1 then
  (some a_0)
  else (some b_1)
noncomputable def spec_l00Max (a_0:Int) (b_1:Int):Option Int:=
 if a_0>b_1 then
  (some a_0)
  else (some b_1)
noncomputable def spec_l02On (a_0:S_Point) (b_1:S_Point) (p_2:S_Point):Option Bool:=
 (spec_l02Side a_0 b_1 p_2).bind fun x10=>
   (if x10=0 then
   ((spec_l00Min a_0.X b_1.X).bind fun x19=>
   (spec_l00Max a_0.X b_1.X).bind fun x24=>
   (spec_l00In p_2.X x19 x24).bind fun x25=>
   if x25=true then
   ((spec_l00Min a_0.Y b_1.Y).bind fun x34=>
   (spec_l00Max a_0.Y b_1.Y).bind fun x39=>
   (spec_l00In p_2.Y x34 x39).bind fun x40=>
   some x40)
   else (some false))
   else (some false)).bind fun t_6_m1=>
   some t_6_m1
noncomputable def spec_l02Crosses (a_0:S_Point) (b_1:S_Point) (c_2:S_Point) (d_3:S_Point):Option Bool:=
 (spec_l02Side a_0 b_1 c_2).bind fun x12=>
   (spec_l02Side a_0 b_1 d_3).bind fun x16=>
   (if (w64 (x12*x16)) <0 then
   ((spec_l02Side c_2 d_3 a_0).bind fun x23=>
   (spec_l02Side c_2 d_3 b_1).bind fun x27=>
   some (decide ((w64 (x23*x27)) <0)))
   else (some false)).bind fun t_8_m1=>
   some t_8_m1
noncomputable def spec_l03Meet (a_0:S_Point) (b_1:S_Point) (c_2:S_Point) (d_3:S_Point):Option Bool:=
 (spec_l02Crosses a_0 b_1 c_2 d_3).bind fun x13=>
   (if x13=true then
   (some true)
   else ((spec_l02On a_0 b_1 c_2).bind fun x18=>
   if x18=true then
   (some true)
   else ((spec_l02On a_0 b_1 d_3).bind fun x24=>
   if x24=true then
   (some true)
   else ((spec_l02On c_2 d_3 a_0).bind fun x30=>
   if x30=true then
   (some true)
   else ((spec_l02On c_2 d_3 b_1).bind fun x36=>
   some x36))))).bind fun t_8_m1=>
   some t_8_m1
noncomputable def spec_l03Area_l3 (p_0:(List S_Point)) (s:(Int×Int)):Option ((Int×Int) ⊕ Int):=
 match s with
  | (sum_3_l3,i_4_l3)=>
  if i_4_l3< (p_0.length:Int) then
  ((md (w64 (i_4_l3+1)) (p_0.length:Int)).bind fun x17=>
  (rd p_0 x17).bind fun x18=>
  (rd p_0 i_4_l3).bind fun x23=>
  (rd p_0 i_4_l3).bind fun x31=>
  some (.inl ((w64 (sum_3_l3+(w64 ((w64 (x23.X*x18.Y)) - (w64 (x31.Y*x18.X)))))),(w64 (i_4_l3+1)))))
  else (some (.inr sum_3_l3))
noncomputable def spec_l03Area (p_0:(List S_Point)):Option Int:=
 (loopO (spec_l03Area_l3 p_0) (0,0)).bind fun sum_3_e0_3=>
   some sum_3_e0_3
noncomputable def spec_l03Ok_l18 (i_5_l10:Int) (p_0:(List S_Point)) (x36:S_Point) (x43:S_Point) (k_9_l18:Int):Option (Int ⊕ (Unit ⊕ Bool)):=
 if k_9_l18< (p_0.length:Int) then
  ((md (w64 (k_9_l18+1)) (p_0.length:Int)).bind fun x77=>
  (if x77≠i_5_l10 then
  ((rd p_0 k_9_l18).bind fun x85=>
  (md (w64 (k_9_l18+1)) (p_0.length:Int)).bind fun x91=>
  (rd p_0 x91).bind fun x92=>
  (spec_l03Meet x36 x43 x85 x92).bind fun x94=>
  some x94)
  else (some false)).bind fun t_95_m20=>
  if t_95_m20=true then
  (some (.inr (.inr false)))
  else (some (.inl (w64 (k_9_l18+1)))))
  else (some (.inr (.inl ())))
noncomputable def spec_l03Ok_l10 (p_0:(List S_Point)) (i_5_l10:Int):Option (Int ⊕ (Unit ⊕ Bool)):=
 if i_5_l10< (p_0.length:Int) then
  ((rd p_0 i_5_l10).bind fun x36=>
  (md (w64 (i_5_l10+1)) (p_0.length:Int)).bind fun x42=>
  (rd p_0 x42).bind fun x43=>
  (md (w64 (i_5_l10+2)) (p_0.length:Int)).bind fun x49=>
  (rd p_0 x49).bind fun x50=>
  (if (x36.X=x43.X∧x36.Y=x43.Y) then
  (some true)
  else ((spec_l02On x36 x43 x50).bind fun x59=>
  if x59=true then
  (some true)
  else ((spec_l02On x43 x50 x36).bind fun x65=>
  some x65))).bind fun t_66_m15=>
  if t_66_m15=true then
  (some (.inr (.inr false)))
  else ((loopO (spec_l03Ok_l18 i_5_l10 p_0 x36 x43) (w64 (i_5_l10+2))).bind fun o=>match o with
  | (.inl _)=>(some (.inl (w64 (i_5_l10+1))))
  | (.inr r2)=>(some (.inr (.inr r2)))))
  else (some (.inr (.inl ())))
noncomputable def spec_l03Ok_l5 (p_0:(List S_Point)) (i_4_l5:Int):Option (Int ⊕ (Unit ⊕ Bool)):=
 if i_4_l5< (p_0.length:Int) then
  ((rd p_0 i_4_l5).bind fun x25=>
  (spec_l02Ok x25).bind fun x27=>
  if x27=true then
  (some (.inl (w64 (i_4_l5+1))))
  else (some (.inr (.inr false))))
  else (some (.inr (.inl ())))
noncomputable def spec_l03Ok (p_0:(List S_Point)):Option Bool:=
 if ((p_0.length:Int) <3∨(p_0.length:Int) >24) then
  (some false)
  else ((loopO (spec_l03Ok_l5 p_0) 0).bind fun o=>match o with
  | (.inl _)=>((loopO (spec_l03Ok_l10 p_0) 0).bind fun o=>match o with
  | (.inl _)=>((spec_l03Area p_0).bind fun x97=>
  some (decide (x97>0)))
  | (.inr r2)=>(some r2))
  | (.inr r2)=>(some r2))
noncomputable def spec_l05Ok_l4 (d_0:S_Drawing) (i_3_l4:Int):Option (Int ⊕ (Unit ⊕ Bool)):=
 if i_3_l4< (d_0.Faces.length:Int) then
  ((rd d_0.Faces i_3_l4).bind fun x47=>
  (spec_l01Name x47.Name).bind fun x50=>
  (if x50=true then
  (if i_3_l4>0 then
  ((rd d_0.Faces (w64 (i_3_l4 - 1))).bind fun x62=>
  (rd d_0.Faces i_3_l4).bind fun x70=>
  some (!Op.bytesLess x62.Name.toList x70.Name.toList))
  else (some false))
  else (some true)).bind fun t_75_m6=>
  if t_75_m6=true then
  (some (.inr (.inr false)))
  else ((rd d_0.Faces i_3_l4).bind fun x83=>
  (spec_l05Ring d_0 x83.Ring).bind fun x86=>
  (if x86.2=true then
  ((spec_l03Ok x86.1).bind fun x93=>
  some (!x93))
  else (some true)).bind fun t_95_m9=>
  if t_95_m9=true then
  (some (.inr (.inr false)))
  else (some (.inl (w64 (i_3_l4+1))))))
  else (some (.inr (.inl ())))
noncomputable def spec_l05Ok (d_0:S_Drawing):Option Bool:=
 (spec_l00In d_0.Width 10 20000).bind fun x10=>
   (if x10=true then
   ((spec_l00In d_0.Height 10 20000).bind fun x17=>
   if x17=true then
   ((spec_l05Points d_0).bind fun x22=>
   if x22=true then
   (some (decide ((d_0.Faces.length:Int) >24)))
   else (some true))
   else (some true))
   else (some true)).bind fun t_32_m1=>
   if t_32_m1=true then
   (some false)
   else ((loopO (spec_l05Ok_l4 d_0) 0).bind fun o=>match o with
   | (.inl _)=>(some true)
   | (.inr r2)=>(some r2))
noncomputable def spec_R8Panel (code_0:(List Int)):Option S_Drawing:=
 (spec_l00From code_0).bind fun x6=>
   (spec_l23Draw x6).bind fun x8=>
   (spec_l05Ok x8.1).bind fun x9=>
   if x9=true then
   (some x8.1)
   else ((spec_l05Draw x8.2).bind fun x12=>
   some x12.1)
noncomputable def impl_within (n_0:Int) (low_1:Int) (high_2:Int):Option Bool:=
 some ((decide (n_0≥low_1))&&(decide (n_0≤high_2)))
noncomputable def slices_Index_impl_Point_impl_Point_l2 (s_0:(List S_Point)) (v_1:S_Point) (t_8_l2:Int):Option (Int ⊕ (Unit ⊕ Int)):=
 if t_8_l2< (s_0.length:Int) then
  ((rd s_0 t_8_l2).bind fun x14=>
  if (v_1.X=x14.X∧v_1.Y=x14.Y) then
  (some (.inr (.inr t_8_l2)))
  else (some (.inl (w64 (t_8_l2+1)))))
  else (some (.inr (.inl ())))
noncomputable def slices_Index_impl_Point_impl_Point (s_0:(List S_Point)) (v_1:S_Point):Option Int:=
 (loopO (slices_Index_impl_Point_impl_Point_l2 s_0 v_1) 0).bind fun o=>match o with
   | (.inl _)=>(some (-1))
   | (.inr r2)=>(some r2)
noncomputable def slices_Contains_impl_Point_impl_Point (s_0:(List S_Point)) (v_1:S_Point):Option Bool:=
 (slices_Index_impl_Point_impl_Point s_0 v_1).bind fun x7=>
   some (decide (x7≥0))
noncomputable def impl_IsName_l4 (s_0:ByteArray) (i_3_l4:Int):Option (Int ⊕ (Unit ⊕ Bool)):=
 if i_3_l4< (s_0.size:Int) then
  ((bt s_0 i_3_l4).bind fun x30=>
  (if x30<97 then
  ((bt s_0 i_3_l4).bind fun x41=>
  if x41<48 then
  (some true)
  else ((bt s_0 i_3_l4).bind fun x46=>
  some (decide (x46>57))))
  else ((bt s_0 i_3_l4).bind fun x35=>
  if x35>122 then
  ((bt s_0 i_3_l4).bind fun x41=>
  if x41<48 then
  (some true)
  else ((bt s_0 i_3_l4).bind fun x46=>
  some (decide (x46>57))))
  else (some false))).bind fun t_49_m6=>
  if t_49_m6=true then
  (some (.inr (.inr false)))
  else (some (.inl (w64 (i_3_l4+1)))))
  else (some (.inr (.inl ())))
noncomputable def impl_IsName (s_0:ByteArray):Option Bool:=
 (if (s_0.size:Int) <1 then
   (some true)
   else (if (s_0.size:Int) >10 then
   (some true)
   else ((bt s_0 0).bind fun x14=>
   if x14<97 then
   (some true)
   else ((bt s_0 0).bind fun x19=>
   some (decide (x19>122)))))).bind fun t_21_m1=>
   if t_21_m1=true then
   (some false)
   else ((loopO (impl_IsName_l4 s_0) 0).bind fun o=>match o with
   | (.inl _)=>(some true)
   | (.inr r2)=>(some r2))
noncomputable def impl_ringPolygon_l3 (points_0:(List S_Point)) (ring_1:(List Int)) (s:(Int×(List S_Point))):Option ((Int×(List S_Point)) ⊕ ((List S_Point) ⊕ ((List S_Point)×Bool))):=
 match s with
  | (t_12_l3,out_o6_l3)=>
  if t_12_l3< (ring_1.length:Int) then
  ((rd ring_1 t_12_l3).bind fun x14=>
  (impl_within x14 0 (w64 ((points_0.length:Int) - 1))).bind fun x20=>
  if x20=true then
  ((rd points_0 x14).bind fun x25=>
  (apd 16 out_o6_l3 ([x25]:List S_Point)).bind fun x28=>
  some (.inl ((w64 (t_12_l3+1)),x28)))
  else (some (.inr (.inr (([]:List S_Point),false)))))
  else (some (.inr (.inl out_o6_l3)))
noncomputable def impl_ringPolygon (points_0:(List S_Point)) (ring_1:(List Int)):Option ((List S_Point)×Bool):=
 (loopO (impl_ringPolygon_l3 points_0 ring_1) (0,([]:List S_Point))).bind fun o=>match o with
   | (.inl out_o6_e0_3)=>(some (out_o6_e0_3,true))
   | (.inr r2)=>(some r2)
noncomputable def impl_ValidPoint (p_0:S_Point):Option Bool:=
 (impl_within p_0.X 0 20000).bind fun x5=>
   (if x5=true then
   ((impl_within p_0.Y 0 20000).bind fun x9=>
   some x9)
   else (some false)).bind fun t_2_m1=>
   some t_2_m1
noncomputable def impl_validPoints_l2 (list_0:(List S_Point)) (t_7_l2:Int):Option (Int ⊕ (Unit ⊕ Bool)):=
 if t_7_l2< (list_0.length:Int) then
  ((rd list_0 t_7_l2).bind fun x9=>
  (impl_ValidPoint x9).bind fun x12=>
  if x12=true then
  (some (.inl (w64 (t_7_l2+1))))
  else (some (.inr (.inr false))))
  else (some (.inr (.inl ())))
noncomputable def impl_validPoints (list_0:(List S_Point)):Option Bool:=
 (loopO (impl_validPoints_l2 list_0) 0).bind fun o=>match o with
   | (.inl _)=>(some true)
   | (.inr r2)=>(some r2)
noncomputable def impl_side (a_0:S_Point) (b_1:S_Point) (c_2:S_Point):Option Int:=
 if (w64 ((w64 ((w64 (b_1.X - a_0.X)) * (w64 (c_2.Y - a_0.Y)))) - (w64 ((w64 (b_1.Y - a_0.Y)) * (w64 (c_2.X - a_0.X)))))) >0 then
  (some 1)
  else (if (w64 ((w64 ((w64 (b_1.X - a_0.X)) * (w64 (c_2.Y - a_0.Y)))) - (w64 ((w64 (b_1.Y - a_0.Y)) * (w64 (c_2.X - a_0.X)))))) <0 then
  (some (-1))
  else (some 0))
noncomputable def impl_on (a_0:S_Point) (b_1:S_Point) (p_2:S_Point):Option Bool:=
 (impl_side a_0 b_1 p_2).bind fun x10=>
   (if x10=0 then
   ((impl_within p_2.X (min2 a_0.X b_1.X) (max2 a_0.X b_1.X)).bind fun x25=>
   if x25=true then
   ((impl_within p_2.Y (min2 a_0.Y b_1.Y) (max2 a_0.Y b_1.Y)).bind fun x40=>
   some x40)
   else (some false))
   else (some false)).bind fun t_6_m1=>
   some t_6_m1
noncomputable def impl_crossing (a_0:S_Point) (b_1:S_Point) (c_2:S_Point) (d_3:S_Point):Option Bool:=
 (impl_side a_0 b_1 c_2).bind fun x12=>
   (impl_side a_0 b_1 d_3).bind fun x16=>
   (if (w64 (x12*x16)) <0 then
   ((impl_side c_2 d_3 a_0).bind fun x23=>
   (impl_side c_2 d_3 b_1).bind fun x27=>
   some (decide ((w64 (x23*x27)) <0)))
   else (some false)).bind fun t_8_m1=>
   some t_8_m1
noncomputable def impl_touching (a_0:S_Point) (b_1:S_Point) (c_2:S_Point) (d_3:S_Point):Option Bool:=
 (impl_crossing a_0 b_1 c_2 d_3).bind fun x13=>
   (if x13=true then
   (some true)
   else ((impl_on a_0 b_1 c_2).bind fun x18=>
   if x18=true then
   (some true)
   else ((impl_on a_0 b_1 d_3).bind fun x24=>
   if x24=true then
   (some true)
   else ((impl_on c_2 d_3 a_0).bind fun x30=>
   if x30=true then
   (some true)
   else ((impl_on c_2 d_3 b_1).bind fun x36=>
   some x36))))).bind fun t_8_m1=>
   some t_8_m1
noncomputable def impl_doubled_l3 (p_0:(List S_Point)) (s:(Int×Int)):Option ((Int×Int) ⊕ Int):=
 match s with
  | (sum_3_l3,t_9_l3)=>
  if t_9_l3< (p_0.length:Int) then
  ((rd p_0 t_9_l3).bind fun x12=>
  (md (w64 (t_9_l3+1)) (p_0.length:Int)).bind fun x19=>
  (rd p_0 x19).bind fun x20=>
  some (.inl ((w64 (sum_3_l3+(w64 ((w64 (x12.X*x20.Y)) - (w64 (x12.Y*x20.X)))))),(w64 (t_9_l3+1)))))
  else (some (.inr sum_3_l3))
noncomputable def impl_doubled (p_0:(List S_Point)):Option Int:=
 (loopO (impl_doubled_l3 p_0) (0,0)).bind fun sum_3_e0_3=>
   some sum_3_e0_3
noncomputable def impl_ValidPolygon_l11 (p_0:(List S_Point)) (t_24_l5:Int) (x29:S_Point) (x36:S_Point) (k_8_l11:Int):Option (Int ⊕ (Unit ⊕ Bool)):=
 if k_8_l11< (p_0.length:Int) then
  ((md (w64 (k_8_l11+1)) (p_0.length:Int)).bind fun x70=>
  (if x70≠t_24_l5 then
  ((rd p_0 k_8_l11).bind fun x78=>
  (md (w64 (k_8_l11+1)) (p_0.length:Int)).bind fun x84=>
  (rd p_0 x84).bind fun x85=>
  (impl_touching x29 x36 x78 x85).bind fun x87=>
  some x87)
  else (some false)).bind fun t_88_m13=>
  if t_88_m13=true then
  (some (.inr (.inr false)))
  else (some (.inl (w64 (k_8_l11+1)))))
  else (some (.inr (.inl ())))
noncomputable def impl_ValidPolygon_l5 (p_0:(List S_Point)) (t_24_l5:Int):Option (Int ⊕ (Unit ⊕ Bool)):=
 if t_24_l5< (p_0.length:Int) then
  ((rd p_0 t_24_l5).bind fun x29=>
  (md (w64 (t_24_l5+1)) (p_0.length:Int)).bind fun x35=>
  (rd p_0 x35).bind fun x36=>
  (md (w64 (t_24_l5+2)) (p_0.length:Int)).bind fun x42=>
  (rd p_0 x42).bind fun x43=>
  (if (x29.X=x36.X∧x29.Y=x36.Y) then
  (some true)
  else ((impl_on x29 x36 x43).bind fun x52=>
  if x52=true then
  (some true)
  else ((impl_on x36 x43 x29).bind fun x58=>
  some x58))).bind fun t_59_m8=>
  if t_59_m8=true then
  (some (.inr (.inr false)))
  else ((loopO (impl_ValidPolygon_l11 p_0 t_24_l5 x29 x36) (w64 (t_24_l5+2))).bind fun o=>match o with
  | (.inl _)=>(some (.inl (w64 (t_24_l5+1))))
  | (.inr r2)=>(some (.inr (.inr r2)))))
  else (some (.inr (.inl ())))
noncomputable def impl_ValidPolygon (p_0:(List S_Point)):Option Bool:=
 (if (p_0.length:Int) <3 then
   (some true)
   else (if (p_0.length:Int) >24 then
   (some true)
   else ((impl_validPoints p_0).bind fun x19=>
   some (!x19)))).bind fun t_21_m2=>
   if t_21_m2=true then
   (some false)
   else ((loopO (impl_ValidPolygon_l5 p_0) 0).bind fun o=>match o with
   | (.inl _)=>((impl_doubled p_0).bind fun x91=>
   some (decide (x91>0)))
   | (.inr r2)=>(some r2))
noncomputable def impl_ValidDrawing_l10 (d_0:S_Drawing) (t_65_l10:Int):Option (Int ⊕ (Unit ⊕ Bool)):=
 if t_65_l10< (d_0.Faces.length:Int) then
  ((rd d_0.Faces t_65_l10).bind fun x68=>
  (impl_IsName x68.Name).bind fun x72=>
  (if x72=true then
  (if t_65_l10>0 then
  ((rd d_0.Faces (w64 (t_65_l10 - 1))).bind fun x82=>
  some (!Op.bytesLess x82.Name.toList x68.Name.toList))
  else (some false))
  else (some true)).bind fun t_89_m12=>
  if t_89_m12=true then
  (some (.inr (.inr false)))
  else ((impl_ringPolygon d_0.Points x68.Ring).bind fun x95=>
  (if x95.2=true then
  ((impl_ValidPolygon x95.1).bind fun x102=>
  some (!x102))
  else (some true)).bind fun t_104_m15=>
  if t_104_m15=true then
  (some (.inr (.inr false)))
  else (some (.inl (w64 (t_65_l10+1))))))
  else (some (.inr (.inl ())))
noncomputable def impl_ValidDrawing_l4 (d_0:S_Drawing) (t_34_l4:Int):Option (Int ⊕ (Unit ⊕ Bool)):=
 if t_34_l4< (d_0.Points.length:Int) then
  ((rd d_0.Points t_34_l4).bind fun x37=>
  (impl_within x37.X 0 d_0.Width).bind fun x43=>
  (if x43=true then
  ((impl_within x37.Y 0 d_0.Height).bind fun x50=>
  if x50=true then
  ((slc d_0.Points 0 t_34_l4).bind fun x57=>
  (slices_Contains_impl_Point_impl_Point x57 x37).bind fun x59=>
  some x59)
  else (some true))
  else (some true)).bind fun t_60_m6=>
  if t_60_m6=true then
  (some (.inr (.inr false)))
  else (some (.inl (w64 (t_34_l4+1)))))
  else (some (.inr (.inl ())))
noncomputable def impl_ValidDrawing (d_0:S_Drawing):Option Bool:=
 (impl_within d_0.Width 10 20000).bind fun x11=>
   (if x11=true then
   ((impl_within d_0.Height 10 20000).bind fun x16=>
   if x16=true then
   (if (d_0.Points.length:Int) >48 then
   (some true)
   else (some (decide ((d_0.Faces.length:Int) >24))))
   else (some true))
   else (some true)).bind fun t_30_m1=>
   if t_30_m1=true then
   (some false)
   else ((loopO (impl_ValidDrawing_l4 d_0) 0).bind fun o=>match o with
   | (.inl _)=>((loopO (impl_ValidDrawing_l10 d_0) 0).bind fun o=>match o with
   | (.inl _)=>(some true)
   | (.inr r2)=>(some r2))
   | (.inr r2)=>(some r2))
noncomputable def impl_ringEdges_l3 (ring_0:(List Int)) (s:(Int×(List Ar2_Int))):Option ((Int×(List Ar2_Int)) ⊕ (List Ar2_Int)):=
 match s with
  | (t_10_l3,out_o3_l3)=>
  if t_10_l3< (ring_0.length:Int) then
  ((rd ring_0 t_10_l3).bind fun x13=>
  (md (w64 (t_10_l3+1)) (ring_0.length:Int)).bind fun x20=>
  (rd ring_0 x20).bind fun x21=>
  (apd 16 out_o3_l3 ([(⟨(min2 x13 x21),(max2 x13 x21)⟩:Ar2_Int)]:List Ar2_Int)).bind fun x32=>
  some (.inl ((w64 (t_10_l3+1)),x32)))
  else (some (.inr out_o3_l3))
noncomputable def impl_ringEdges (ring_0:(List Int)):Option (List Ar2_Int):=
 (loopO (impl_ringEdges_l3 ring_0) (0,([]:List Ar2_Int))).bind fun out_o3_e0_3=>
   some out_o3_e0_3
noncomputable def slices_Index_2_int64_2_int64_l2 (s_0:(List Ar2_Int)) (v_1:Ar2_Int) (t_8_l2:Int):Option (Int ⊕ (Unit ⊕ Int)):=
 if t_8_l2< (s_0.length:Int) then
  ((rd s_0 t_8_l2).bind fun x14=>
  if (v_1.e0=x14.e0∧v_1.e1=x14.e1) then
  (some (.inr (.inr t_8_l2)))
  else (some (.inl (w64 (t_8_l2+1)))))
  else (some (.inr (.inl ())))
noncomputable def slices_Index_2_int64_2_int64 (s_0:(List Ar2_Int)) (v_1:Ar2_Int):Option Int:=
 (loopO (slices_Index_2_int64_2_int64_l2 s_0 v_1) 0).bind fun o=>match o with
   | (.inl _)=>(some (-1))
   | (.inr r2)=>(some r2)
noncomputable def slices_Contains_2_int64_2_int64 (s_0:(List Ar2_Int)) (v_1:Ar2_Int):Option Bool:=
 (slices_Index_2_int64_2_int64 s_0 v_1).bind fun x7=>
   some (decide (x7≥0))
noncomputable def impl_neighbours_c1 (e_0:Ar2_Int) (cap0_0:(List (List Ar2_Int))) (cap1_0:Int):Option Bool:=
 (rd cap0_0 cap1_0).bind fun x7=>
   (slices_Contains_2_int64_2_int64 x7 e_0).bind fun x10=>
   some x10
noncomputable def slices_IndexFunc_2_int64_2_int64_l2 (f_1:(Ar2_Int→Option Bool)) (s_0:(List Ar2_Int)) (t_8_l2:Int):Option (Int ⊕ (Unit ⊕ Int)):=
 if t_8_l2< (s_0.length:Int) then
  ((rd s_0 t_8_l2).bind fun x14=>
  (f_1 x14).bind fun x16=>
  if x16=true then
  (some (.inr (.inr t_8_l2)))
  else (some (.inl (w64 (t_8_l2+1)))))
  else (some (.inr (.inl ())))
noncomputable def slices_IndexFunc_2_int64_2_int64 (s_0:(List Ar2_Int)) (f_1:(Ar2_Int→Option Bool)):Option Int:=
 (loopO (slices_IndexFunc_2_int64_2_int64_l2 f_1 s_0) 0).bind fun o=>match o with
   | (.inl _)=>(some (-1))
   | (.inr r2)=>(some r2)
noncomputable def slices_ContainsFunc_2_int64_2_int64 (s_0:(List Ar2_Int)) (f_1:(Ar2_Int→Option Bool)):Option Bool:=
 (slices_IndexFunc_2_int64_2_int64 s_0 f_1).bind fun x7=>
   some (decide (x7≥0))
noncomputable def impl_neighbours_k16 (t_34_l12:Int) (out_o6_r16:(List (List Int))):Option ((Int×(List (List Int))) ⊕ (List (List Int))):=
 some (.inl ((w64 (t_34_l12+1)),out_o6_r16))
noncomputable def impl_neighbours_l12 (edges_o3_e0_3:(List (List Ar2_Int))) (t_29_l9:Int) (s:(Int×(List (List Int)))):Option ((Int×(List (List Int))) ⊕ (List (List Int))):=
 match s with
  | (t_34_l12,out_o6_l12)=>
  if t_34_l12< (edges_o3_e0_3.length:Int) then
  ((if t_29_l9≠t_34_l12 then
  ((rd edges_o3_e0_3 t_29_l9).bind fun x43=>
  (slices_ContainsFunc_2_int64_2_int64 x43 (fun a0=>impl_neighbours_c1 a0 edges_o3_e0_3 t_34_l12)).bind fun x46=>
  some x46)
  else (some false)).bind fun t_47_m14=>
  if t_47_m14=true then
  ((rd out_o6_l12 t_29_l9).bind fun x52=>
  (apd 8 x52 ([t_34_l12]:List Int)).bind fun x56=>
  (rd out_o6_l12 t_29_l9).bind fun x57=>
  impl_neighbours_k16 t_34_l12 (out_o6_l12.set t_29_l9.toNat x56))
  else (impl_neighbours_k16 t_34_l12 out_o6_l12))
  else (some (.inr out_o6_l12))
noncomputable def impl_neighbours_l9 (edges_o3_e0_3:(List (List Ar2_Int))) (s:(Int×(List (List Int)))):Option ((Int×(List (List Int))) ⊕ (List (List Int))):=
 match s with
  | (t_29_l9,out_o6_l9)=>
  if t_29_l9< (edges_o3_e0_3.length:Int) then
  ((loopO (impl_neighbours_l12 edges_o3_e0_3 t_29_l9) (0,out_o6_l9)).bind fun out_o6_e4_12=>
  some (.inl ((w64 (t_29_l9+1)),out_o6_e4_12)))
  else (some (.inr out_o6_l9))
noncomputable def impl_neighbours_l3 (d_0:S_Drawing) (s:(Int×(List (List Ar2_Int)))):Option ((Int×(List (List Ar2_Int))) ⊕ (List (List Ar2_Int))):=
 match s with
  | (t_13_l3,edges_o3_l3)=>
  if t_13_l3< (d_0.Faces.length:Int) then
  ((rd d_0.Faces t_13_l3).bind fun x15=>
  (impl_ringEdges x15.Ring).bind fun x20=>
  (apd 24 edges_o3_l3 ([x20]:List (List Ar2_Int))).bind fun x22=>
  some (.inl ((w64 (t_13_l3+1)),x22)))
  else (some (.inr edges_o3_l3))
noncomputable def impl_neighbours (d_0:S_Drawing):Option (List (List Int)):=
 (loopO (impl_neighbours_l3 d_0) (0,([]:List (List Ar2_Int)))).bind fun edges_o3_e0_3=>
   (mkl 24 (edges_o3_e0_3.length:Int) ([]:List Int)).bind fun x26=>
   (loopO (impl_neighbours_l9 edges_o3_e0_3) (0,x26)).bind fun out_o6_e2_9=>
   some out_o6_e2_9
noncomputable def impl_facePolygon (d_0:S_Drawing) (k_1:Int):Option (List S_Point):=
 (rd d_0.Faces k_1).bind fun x13=>
   (impl_ringPolygon d_0.Points x13.Ring).bind fun x16=>
   some x16.1
noncomputable def impl_sidesOf_k12 (t_27_l7:Int) (out_o3_1_r12:(List Bool)):Option ((Int×(List Bool)) ⊕ (List Bool)):=
 some (.inl ((w64 (t_27_l7+1)),out_o3_1_r12))
noncomputable def impl_sidesOf_l7 (d_0:S_Drawing) (t_19_l3:Int) (x24:(List S_Point)) (s:(Int×(List Bool))):Option ((Int×(List Bool)) ⊕ (List Bool)):=
 match s with
  | (t_27_l7,out_o3_1_l7)=>
  if t_27_l7< (x24.length:Int) then
  ((rd x24 t_27_l7).bind fun x30=>
  (md (w64 (t_27_l7+1)) (x24.length:Int)).bind fun x37=>
  (rd x24 x37).bind fun x38=>
  (if x30.X=x38.X then
  (if x30.X=0 then
  (some true)
  else (if x30.X=d_0.Width then
  (some true)
  else (if x30.Y=x38.Y then
  (if x30.Y=0 then
  (some true)
  else (some (x30.Y==d_0.Height)))
  else (some false))))
  else (if x30.Y=x38.Y then
  (if x30.Y=0 then
  (some true)
  else (some (x30.Y==d_0.Height)))
  else (some false))).bind fun t_75_m10=>
  if t_75_m10=true then
  ((rd out_o3_1_l7 t_19_l3).bind fun x79=>
  impl_sidesOf_k12 t_27_l7 (out_o3_1_l7.set t_19_l3.toNat true))
  else (impl_sidesOf_k12 t_27_l7 out_o3_1_l7))
  else (some (.inr out_o3_1_l7))
noncomputable def impl_sidesOf_l3 (d_0:S_Drawing) (s:(Int×(List Bool))):Option ((Int×(List Bool)) ⊕ (List Bool)):=
 match s with
  | (t_19_l3,out_o3_1_l3)=>
  if t_19_l3< (d_0.Faces.length:Int) then
  ((impl_facePolygon d_0 t_19_l3).bind fun x24=>
  (loopO (impl_sidesOf_l7 d_0 t_19_l3 x24) (0,out_o3_1_l3)).bind fun out_o3_1_e2_7=>
  some (.inl ((w64 (t_19_l3+1)),out_o3_1_e2_7)))
  else (some (.inr out_o3_1_l3))
noncomputable def impl_sidesOf (d_0:S_Drawing):Option S_sides:=
 (impl_neighbours d_0).bind fun x10=>
   (mkl 1 (d_0.Faces.length:Int) false).bind fun x14=>
   (loopO (impl_sidesOf_l3 d_0) (0,x14)).bind fun out_o3_1_e0_3=>
   some (⟨x10,out_o3_1_e0_3⟩:S_sides)
noncomputable def slices_Index_int64_int64_l2 (s_0:(List Int)) (v_1:Int) (t_8_l2:Int):Option (Int ⊕ (Unit ⊕ Int)):=
 if t_8_l2< (s_0.length:Int) then
  ((rd s_0 t_8_l2).bind fun x14=>
  if v_1=x14 then
  (some (.inr (.inr t_8_l2)))
  else (some (.inl (w64 (t_8_l2+1)))))
  else (some (.inr (.inl ())))
noncomputable def slices_Index_int64_int64 (s_0:(List Int)) (v_1:Int):Option Int:=
 (loopO (slices_Index_int64_int64_l2 s_0 v_1) 0).bind fun o=>match o with
   | (.inl _)=>(some (-1))
   | (.inr r2)=>(some r2)
noncomputable def slices_Contains_int64_int64 (s_0:(List Int)) (v_1:Int):Option Bool:=
 (slices_Index_int64_int64 s_0 v_1).bind fun x7=>
   some (decide (x7≥0))
noncomputable def impl_SafeOrder_c1 (m_0:Int) (cap0_0:(List Int)):Option Bool:=
 (slices_Contains_int64_int64 cap0_0 m_0).bind fun x6=>
   some x6
noncomputable def slices_IndexFunc_int64_int64_l2 (f_1:(Int→Option Bool)) (s_0:(List Int)) (t_8_l2:Int):Option (Int ⊕ (Unit ⊕ Int)):=
 if t_8_l2< (s_0.length:Int) then
  ((rd s_0 t_8_l2).bind fun x14=>
  (f_1 x14).bind fun x16=>
  if x16=true then
  (some (.inr (.inr t_8_l2)))
  else (some (.inl (w64 (t_8_l2+1)))))
  else (some (.inr (.inl ())))
noncomputable def slices_IndexFunc_int64_int64 (s_0:(List Int)) (f_1:(Int→Option Bool)):Option Int:=
 (loopO (slices_IndexFunc_int64_int64_l2 f_1 s_0) 0).bind fun o=>match o with
   | (.inl _)=>(some (-1))
   | (.inr r2)=>(some r2)
noncomputable def slices_ContainsFunc_int64_int64 (s_0:(List Int)) (f_1:(Int→Option Bool)):Option Bool:=
 (slices_IndexFunc_int64_int64 s_0 f_1).bind fun x7=>
   some (decide (x7≥0))
noncomputable def slices_Reverse_int64_int64_l1 (s:(Int×Int×(List Int))):Option ((Int×Int×(List Int)) ⊕ (List Int)):=
 match s with
  | (i_2_l1,j_3_l1,s_o0_l1)=>
  if i_2_l1<j_3_l1 then
  ((rd s_o0_l1 j_3_l1).bind fun x20=>
  (rd s_o0_l1 i_2_l1).bind fun x24=>
  (rd s_o0_l1 i_2_l1).bind fun x26=>
  (rd (s_o0_l1.set i_2_l1.toNat x20) j_3_l1).bind fun x27=>
  some (.inl ((w64 (i_2_l1+1)),(w64 (j_3_l1 - 1)),((s_o0_l1.set i_2_l1.toNat x20).set j_3_l1.toNat x24))))
  else (some (.inr s_o0_l1))
noncomputable def slices_Reverse_int64_int64 (s_0:(List Int)):Option (List Int):=
 (loopO (slices_Reverse_int64_int64_l1) (0,(w64 ((s_0.length:Int) - 1)),s_0)).bind fun r2=>
   some r2
noncomputable def impl_SafeOrder_l6 (taken_o5_l4:(List Int)) (x11:S_sides) (next_6_l6:Int):Option (Int ⊕ Int):=
 (if next_6_l6≥0 then
   ((slices_Contains_int64_int64 taken_o5_l4 next_6_l6).bind fun x28=>
   if x28=true then
   (some true)
   else ((rd x11.border next_6_l6).bind fun x33=>
   if x33=true then
   (some false)
   else ((rd x11.near next_6_l6).bind fun x40=>
   (slices_ContainsFunc_int64_int64 x40 (fun a0=>impl_SafeOrder_c1 a0 taken_o5_l4)).bind fun x43=>
   some (!x43))))
   else (some false)).bind fun t_47_m6=>
   if t_47_m6=true then
   (some (.inl (w64 (next_6_l6 - 1))))
   else (some (.inr next_6_l6))
noncomputable def impl_SafeOrder_l4 (d_0:S_Drawing) (x11:S_sides) (taken_o5_l4:(List Int)):Option ((List Int) ⊕ ((List Int) ⊕ ((List Int)×Int))):=
 if (taken_o5_l4.length:Int) < (d_0.Faces.length:Int) then
  ((loopO (impl_SafeOrder_l6 taken_o5_l4 x11) (w64 ((d_0.Faces.length:Int) - 1))).bind fun next_6_e2_6=>
  if next_6_e2_6<0 then
  (some (.inr (.inr (([]:List Int),3))))
  else ((apd 8 taken_o5_l4 ([next_6_e2_6]:List Int)).bind fun x55=>
  some (.inl x55)))
  else (some (.inr (.inl taken_o5_l4)))
noncomputable def impl_SafeOrder (d_0:S_Drawing):Option ((List Int)×Int):=
 (impl_ValidDrawing d_0).bind fun x8=>
   if x8=true then
   ((impl_sidesOf d_0).bind fun x11=>
   (loopO (impl_SafeOrder_l4 d_0 x11) ([]:List Int)).bind fun o=>match o with
   | (.inl taken_o5_e0_4)=>((slices_Reverse_int64_int64 taken_o5_e0_4).bind fun x57=>
   some (x57,0))
   | (.inr r2)=>(some r2))
   else (some (([]:List Int),1))
noncomputable def impl_BorderFaces_k9 (t_15_l5:Int) (out_o4_r9:(List Int)):Option ((Int×(List Int)) ⊕ (List Int)):=
 some (.inl ((w64 (t_15_l5+1)),out_o4_r9))
noncomputable def impl_BorderFaces_l5 (x12:S_sides) (s:(Int×(List Int))):Option ((Int×(List Int)) ⊕ (List Int)):=
 match s with
  | (t_15_l5,out_o4_l5)=>
  if t_15_l5< (x12.border.length:Int) then
  ((rd x12.border t_15_l5).bind fun x18=>
  if x18=true then
  ((apd 8 out_o4_l5 ([t_15_l5]:List Int)).bind fun x24=>
  impl_BorderFaces_k9 t_15_l5 x24)
  else (impl_BorderFaces_k9 t_15_l5 out_o4_l5))
  else (some (.inr out_o4_l5))
noncomputable def impl_BorderFaces (d_0:S_Drawing):Option ((List Int)×Int):=
 (impl_ValidDrawing d_0).bind fun x8=>
   if x8=true then
   ((impl_sidesOf d_0).bind fun x12=>
   (loopO (impl_BorderFaces_l5 x12) (0,([]:List Int))).bind fun out_o4_e0_5=>
   some (out_o4_e0_5,0))
   else (some (([]:List Int),1))
noncomputable def impl_EnclosedFaces_k20 (t_53_l16:Int) (out_o10_r20:(List Int)):Option ((Int×(List Int)) ⊕ (List Int)):=
 some (.inl ((w64 (t_53_l16+1)),out_o10_r20))
noncomputable def impl_EnclosedFaces_l16 (d_0:S_Drawing) (queue_o4_e0_6:(List Int)) (s:(Int×(List Int))):Option ((Int×(List Int)) ⊕ (List Int)):=
 match s with
  | (t_53_l16,out_o10_l16)=>
  if t_53_l16< (d_0.Faces.length:Int) then
  ((slices_Contains_int64_int64 queue_o4_e0_6 t_53_l16).bind fun x58=>
  if x58=true then
  (impl_EnclosedFaces_k20 t_53_l16 out_o10_l16)
  else ((apd 8 out_o10_l16 ([t_53_l16]:List Int)).bind fun x63=>
  impl_EnclosedFaces_k20 t_53_l16 x63))
  else (some (.inr out_o10_l16))
noncomputable def impl_EnclosedFaces_k13 (t_36_l9:Int) (queue_o4_r13:(List Int)):Option ((Int×(List Int)) ⊕ (List Int)):=
 some (.inl ((w64 (t_36_l9+1)),queue_o4_r13))
noncomputable def impl_EnclosedFaces_l9 (x33:(List Int)) (s:(Int×(List Int))):Option ((Int×(List Int)) ⊕ (List Int)):=
 match s with
  | (t_36_l9,queue_o4_l9)=>
  if t_36_l9< (x33.length:Int) then
  ((rd x33 t_36_l9).bind fun x38=>
  (slices_Contains_int64_int64 queue_o4_l9 x38).bind fun x42=>
  if x42=true then
  (impl_EnclosedFaces_k13 t_36_l9 queue_o4_l9)
  else ((apd 8 queue_o4_l9 ([x38]:List Int)).bind fun x47=>
  impl_EnclosedFaces_k13 t_36_l9 x47))
  else (some (.inr queue_o4_l9))
noncomputable def impl_EnclosedFaces_l6 (x21:(List (List Int))) (s:(Int×(List Int))):Option ((Int×(List Int)) ⊕ (List Int)):=
 match s with
  | (i_7_l6,queue_o4_l6)=>
  if i_7_l6< (queue_o4_l6.length:Int) then
  ((rd queue_o4_l6 i_7_l6).bind fun x31=>
  (rd x21 x31).bind fun x33=>
  (loopO (impl_EnclosedFaces_l9 x33) (0,queue_o4_l6)).bind fun queue_o4_e2_9=>
  some (.inl ((w64 (i_7_l6+1)),queue_o4_e2_9)))
  else (some (.inr queue_o4_l6))
noncomputable def impl_EnclosedFaces (d_0:S_Drawing):Option ((List Int)×Int):=
 (impl_BorderFaces d_0).bind fun x14=>
   if x14.2≠0 then
   (some (([]:List Int),x14.2))
   else ((impl_neighbours d_0).bind fun x21=>
   (loopO (impl_EnclosedFaces_l6 x21) (0,x14.1)).bind fun queue_o4_e0_6=>
   (loopO (impl_EnclosedFaces_l16 d_0 queue_o4_e0_6) (0,([]:List Int))).bind fun out_o10_e4_16=>
   some (out_o10_e4_16,0))
noncomputable def impl_sides__held_c1 (m_0:Int) (cap0_0:(List Int)):Option Bool:=
 (slices_Contains_int64_int64 cap0_0 m_0).bind fun x6=>
   some x6
noncomputable def impl_sides_held (s_0:S_sides) (placed_1:(List Int)) (k_2:Int):Option Bool:=
 (if (placed_1.length:Int)=0 then
   (some true)
   else ((rd s_0.near k_2).bind fun x14=>
   (slices_ContainsFunc_int64_int64 x14 (fun a0=>impl_sides__held_c1 a0 placed_1)).bind fun x17=>
   some x17)).bind fun t_6_m1=>
   some t_6_m1
noncomputable def impl_sides__trapped_c1 (m_0:Int) (cap0_0:(List Int)):Option Bool:=
 (slices_Contains_int64_int64 cap0_0 m_0).bind fun x6=>
   some (!x6)
noncomputable def impl_sides_trapped (s_0:S_sides) (placed_1:(List Int)) (k_2:Int):Option Bool:=
 (rd s_0.border k_2).bind fun x10=>
   (if x10=true then
   (some false)
   else ((rd s_0.near k_2).bind fun x17=>
   (slices_ContainsFunc_int64_int64 x17 (fun a0=>impl_sides__trapped_c1 a0 placed_1)).bind fun x20=>
   some (!x20))).bind fun t_6_m1=>
   some t_6_m1
noncomputable def impl_sides_fault (s_0:S_sides) (placed_1:(List Int)) (k_2:Int):Option Int:=
 (impl_sides_held s_0 placed_1 k_2).bind fun x11=>
   if x11=true then
   ((impl_sides_trapped s_0 placed_1 k_2).bind fun x17=>
   if x17=true then
   (some 2)
   else (some 0))
   else (some 1)
noncomputable def impl_sides_next_k7 (t_11_l3:Int) (out_o5_r7:(List Int)):Option ((Int×(List Int)) ⊕ (List Int)):=
 some (.inl ((w64 (t_11_l3+1)),out_o5_r7))
noncomputable def impl_sides_next_l3 (placed_1:(List Int)) (s_0:S_sides) (s:(Int×(List Int))):Option ((Int×(List Int)) ⊕ (List Int)):=
 match s with
  | (t_11_l3,out_o5_l3)=>
  if t_11_l3< (s_0.near.length:Int) then
  ((slices_Contains_int64_int64 placed_1 t_11_l3).bind fun x16=>
  (if x16=true then
  (some false)
  else ((impl_sides_fault s_0 placed_1 t_11_l3).bind fun x22=>
  some (x22==0))).bind fun t_24_m5=>
  if t_24_m5=true then
  ((apd 8 out_o5_l3 ([t_11_l3]:List Int)).bind fun x28=>
  impl_sides_next_k7 t_11_l3 x28)
  else (impl_sides_next_k7 t_11_l3 out_o5_l3))
  else (some (.inr out_o5_l3))
noncomputable def impl_sides_next (s_0:S_sides) (placed_1:(List Int)):Option (List Int):=
 (loopO (impl_sides_next_l3 placed_1 s_0) (0,([]:List Int))).bind fun out_o5_e0_3=>
   some out_o5_e0_3
noncomputable def impl_assemblySearch_run_k7 (self:(S_assemblySearch×(List Int))→Option (Bool×S_assemblySearch)) (s_0:S_assemblySearch) (s_o0_4_r7:(List Int)):Option (Bool×S_assemblySearch):=
 some (s_0.one,(⟨s_0.sides,(w64 (s_0.left - 1)),(w64 (s_0.found+1)),s_o0_4_r7,s_0.one⟩:S_assemblySearch))
noncomputable def impl_assemblySearch_run_l10 (self:(S_assemblySearch×(List Int))→Option (Bool×S_assemblySearch)) (order_1:(List Int)) (x53:(List Int)) (s:(Int×(List (List Int))×(List Bool)×Int×Int×(List Int)×Bool)):Option ((Int×(List (List Int))×(List Bool)×Int×Int×(List Int)×Bool) ⊕ (((List (List Int))×(List Bool)×Int×Int×(List Int)×Bool) ⊕ (Bool×S_assemblySearch))):=
 match s with
  | (t_55_l10,s_o0_0_l10,s_o0_1_l10,s_o0_2_l10,s_o0_3_l10,s_o0_4_l10,s_o0_5_l10)=>
  if t_55_l10< (x53.length:Int) then
  ((rd x53 t_55_l10).bind fun x57=>
  (apd 8 ([]:List Int) order_1).bind fun x61=>
  (apd 8 x61 ([x57]:List Int)).bind fun x64=>
  (self ((⟨(⟨s_o0_0_l10,s_o0_1_l10⟩:S_sides),s_o0_2_l10,s_o0_3_l10,s_o0_4_l10,s_o0_5_l10⟩:S_assemblySearch),x64)).bind fun x65=>
  if x65.1=true then
  (some (.inr (.inr (true,x65.2))))
  else (some (.inl ((w64 (t_55_l10+1)),x65.2.sides.near,x65.2.sides.border,x65.2.left,x65.2.found,x65.2.first,x65.2.one))))
  else (some (.inr (.inl (s_o0_0_l10,s_o0_1_l10,s_o0_2_l10,s_o0_3_l10,s_o0_4_l10,s_o0_5_l10))))
noncomputable def impl_assemblySearch_run_F (self:(S_assemblySearch×(List Int))→Option (Bool×S_assemblySearch)) (s_0:S_assemblySearch) (order_1:(List Int)):Option (Bool×S_assemblySearch):=
 if (w64 (s_0.left - 1)) <0 then
  (some (true,(⟨s_0.sides,(w64 (s_0.left - 1)),s_0.found,s_0.first,s_0.one⟩:S_assemblySearch)))
  else (if (order_1.length:Int)=(s_0.sides.near.length:Int) then
  (if s_0.found=0 then
  (impl_assemblySearch_run_k7 self s_0 order_1)
  else (impl_assemblySearch_run_k7 self s_0 s_0.first))
  else ((impl_sides_next s_0.sides order_1).bind fun x53=>
  (loopO (impl_assemblySearch_run_l10 self order_1 x53) (0,s_0.sides.near,s_0.sides.border,(w64 (s_0.left - 1)),s_0.found,s_0.first,s_0.one)).bind fun o=>match o with
  | (.inl (s_o0_0_e0_10,s_o0_1_e0_10,s_o0_2_e0_10,s_o0_3_e0_10,s_o0_4_e0_10,s_o0_5_e0_10))=>(some (false,(⟨(⟨s_o0_0_e0_10,s_o0_1_e0_10⟩:S_sides),s_o0_2_e0_10,s_o0_3_e0_10,s_o0_4_e0_10,s_o0_5_e0_10⟩:S_assemblySearch)))
  | (.inr r2)=>(some r2)))
noncomputable def impl_assemblySearch_run (s_0:S_assemblySearch) (order_1:(List Int)):Option (Bool×S_assemblySearch):=fixO (fun self s=>match s with | (s_0,order_1)=>impl_assemblySearch_run_F self s_0 order_1) (s_0,order_1)
noncomputable def impl_searchAssemblies (d_0:S_Drawing) (budget_1:Int) (one_2:Bool):Option ((Option S_assemblySearch)×Int):=
 (impl_ValidDrawing d_0).bind fun x11=>
   if x11=true then
   ((impl_within budget_1 1 20000).bind fun x15=>
   if x15=true then
   ((impl_sidesOf d_0).bind fun x18=>
   (impl_assemblySearch_run (⟨x18,budget_1,0,([]:List Int),one_2⟩:S_assemblySearch) ([]:List Int)).bind fun x24=>
   if x24.2.left<0 then
   (some (none,5))
   else (some ((some x24.2),0)))
   else (some (none,2)))
   else (some (none,1))
noncomputable def impl_FirstAssembly_k4 (x11:((Option S_assemblySearch)×Int)) (code_7_r4:Int):Option ((List Int)×Int):=
 if code_7_r4≠0 then
  (some (([]:List Int),code_7_r4))
  else (match x11.1 with
  | none=>(none)
  | some ohc5=>(some (ohc5.first,0)))
noncomputable def impl_FirstAssembly (d_0:S_Drawing) (budget_1:Int):Option ((List Int)×Int):=
 (impl_searchAssemblies d_0 budget_1 true).bind fun x11=>
   (if x11.2=0 then
   (match x11.1 with
   | none=>(none)
   | some ohc2=>(some (ohc2.found==0)))
   else (some false)).bind fun t_22_m2=>
   if t_22_m2=true then
   (impl_FirstAssembly_k4 x11 3)
   else (impl_FirstAssembly_k4 x11 x11.2)
noncomputable def laws_r8Has_l2 (list_0:(List Int)) (n_1:Int) (i_5_l2:Int):Option (Int ⊕ (Unit ⊕ Bool)):=
 if i_5_l2< (list_0.length:Int) then
  ((rd list_0 i_5_l2).bind fun x14=>
  if x14=n_1 then
  (some (.inr (.inr true)))
  else (some (.inl (w64 (i_5_l2+1)))))
  else (some (.inr (.inl ())))
noncomputable def laws_r8Has (list_0:(List Int)) (n_1:Int):Option Bool:=
 (loopO (laws_r8Has_l2 list_0 n_1) 0).bind fun o=>match o with
   | (.inl _)=>(some false)
   | (.inr r2)=>(some r2)
noncomputable def impl_isFaceOrder_l2 (list_0:(List Int)) (n_1:Int) (t_9_l2:Int):Option (Int ⊕ (Unit ⊕ Bool)):=
 if t_9_l2< (list_0.length:Int) then
  ((rd list_0 t_9_l2).bind fun x12=>
  (impl_within x12 0 (w64 (n_1 - 1))).bind fun x17=>
  (if x17=true then
  ((slc list_0 0 t_9_l2).bind fun x22=>
  (slices_Contains_int64_int64 x22 x12).bind fun x24=>
  some x24)
  else (some true)).bind fun t_25_m4=>
  if t_25_m4=true then
  (some (.inr (.inr false)))
  else (some (.inl (w64 (t_9_l2+1)))))
  else (some (.inr (.inl ())))
noncomputable def impl_isFaceOrder (list_0:(List Int)) (n_1:Int):Option Bool:=
 (loopO (impl_isFaceOrder_l2 list_0 n_1) 0).bind fun o=>match o with
   | (.inl _)=>(some true)
   | (.inr r2)=>(some r2)
noncomputable def impl_canAsk (d_0:S_Drawing) (placed_1:(List Int)) (k_2:Int):Option Bool:=
 (impl_ValidDrawing d_0).bind fun x12=>
   (if x12=true then
   ((impl_isFaceOrder placed_1 (d_0.Faces.length:Int)).bind fun x16=>
   if x16=true then
   ((impl_within k_2 0 (w64 ((d_0.Faces.length:Int) - 1))).bind fun x22=>
   if x22=true then
   ((slices_Contains_int64_int64 placed_1 k_2).bind fun x27=>
   some (!x27))
   else (some false))
   else (some false))
   else (some false)).bind fun t_6_m2=>
   some t_6_m2
noncomputable def impl_IsTrapped (d_0:S_Drawing) (placed_1:(List Int)) (k_2:Int):Option Bool:=
 (impl_canAsk d_0 placed_1 k_2).bind fun x10=>
   (if x10=true then
   ((impl_sidesOf d_0).bind fun x13=>
   (impl_sides_trapped x13 placed_1 k_2).bind fun x16=>
   some x16)
   else (some false)).bind fun t_6_m1=>
   some t_6_m1
noncomputable def laws_FnTrapped_l15 (x17:S_Drawing) (x20:((List Int)×Int)) (x30:((List Int)×Int)) (i_12_l15:Int):Option (Int ⊕ (Unit ⊕ Bool)):=
 if i_12_l15< (x20.1.length:Int) then
  ((rd x20.1 i_12_l15).bind fun x87=>
  (if x87<0 then
  (some true)
  else ((rd x20.1 i_12_l15).bind fun x93=>
  if x93≥(x17.Faces.length:Int) then
  (some true)
  else ((rd x20.1 i_12_l15).bind fun x106=>
  (slc x20.1 0 i_12_l15).bind fun x103=>
  (laws_r8Has ((x20.1.take i_12_l15.toNat).drop 0) x106).bind fun x108=>
  if x108=true then
  (some true)
  else ((rd x20.1 i_12_l15).bind fun x117=>
  (slc x20.1 0 i_12_l15).bind fun x114=>
  (impl_IsTrapped x17 ((x20.1.take i_12_l15.toNat).drop 0) x117).bind fun x119=>
  some x119)))).bind fun t_120_m17=>
  if t_120_m17=true then
  (some (.inr (.inr false)))
  else ((rd x20.1 i_12_l15).bind fun x124=>
  (laws_r8Has x30.1 x124).bind fun x126=>
  (if x126=true then
  ((rd x20.1 i_12_l15).bind fun x134=>
  (slc x20.1 0 i_12_l15).bind fun x131=>
  (impl_IsTrapped x17 ((x20.1.take i_12_l15.toNat).drop 0) x134).bind fun x136=>
  some x136)
  else (some false)).bind fun t_137_m19=>
  if t_137_m19=true then
  (some (.inr (.inr false)))
  else (some (.inl (w64 (i_12_l15+1))))))
  else (some (.inr (.inl ())))
noncomputable def laws_FnTrapped (code_0:(List Int)):Option Bool:=
 if (code_0.length:Int) >1048576 then
  (some true)
  else ((spec_R8Panel code_0).bind fun x17=>
  (impl_SafeOrder x17).bind fun x20=>
  (impl_EnclosedFaces x17).bind fun x25=>
  (impl_BorderFaces x17).bind fun x30=>
  if (x25.2≠0∨(x30.2≠0∨(w64 ((x30.1.length:Int)+(x25.1.length:Int))) > (x17.Faces.length:Int))) then
  (some false)
  else (if x20.2≠0 then
  ((impl_FirstAssembly x17 2000).bind fun x54=>
  some ((x20.2==3)&&((decide ((x25.1.length:Int) >0))&&(x54.2 != 0))))
  else (if ((x25.1.length:Int)≠0∨(x20.1.length:Int)≠(x17.Faces.length:Int)) then
  (some false)
  else ((loopO (laws_FnTrapped_l15 x17 x20 x30) 0).bind fun o=>match o with
  | (.inl _)=>(some true)
  | (.inr r2)=>(some r2)))))
end Go.Pw
