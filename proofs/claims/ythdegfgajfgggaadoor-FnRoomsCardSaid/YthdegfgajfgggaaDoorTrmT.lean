/- Plain functions that answer what the program's functions answer. Conditions: none; definitions alone. -/
import Derived.Test.YthdegfgajfgggaaDoorSimPw
import Derived.Test.YthdegfgajfgggaaDoorSimPs
namespace Go.Pw
open Go.Sim (min2 max2)
set_option linter.unusedVariables false
def bit_and (k:IntKind) (a b:Int):Int:=k.wrap (BitVec.ofInt k.bits a &&& BitVec.ofInt k.bits b).toNat
structure S_Room where
 Width:Int
 Length:Int
structure S_Stock where
 Board:Int
 Wide:Int
 Least:Int
 Stagger:Int
structure S_l00Src where
 code:(List Int)
 at_:Int
 seed:Int
structure S_row where
 pieces:(List Int)
 joints:(List Int)
 last:Int
noncomputable def laws_b10Long (code_0:(List Int)):Option Bool:=
 some (decide ((code_0.length:Int) >1048576))
noncomputable def spec_l00From (code_0:(List Int)):Option S_l00Src:=
 some (⟨code_0,0,0⟩:S_l00Src)
noncomputable def spec_l00Src_next_k4 (s_0:S_l00Src) (b_3_r4:Int):Option (Int×S_l00Src):=
 if (w64 (s_0.at_+1))≤(s_0.code.length:Int) then
  (some (b_3_r4,(⟨s_0.code,(w64 (s_0.at_+1)),(IntKind.wrap .u64 ((IntKind.wrap .u64 ((IntKind.wrap .u64 (s_0.seed*6364136223846793005))+(IntKind.wrap .u64 (b_3_r4))))+1442695040888963407))⟩:S_l00Src)))
  else ((shr .u64 (IntKind.wrap .u64 ((IntKind.wrap .u64 ((IntKind.wrap .u64 (s_0.seed*6364136223846793005))+(IntKind.wrap .u64 (b_3_r4))))+1442695040888963407)) 40).bind fun x59=>
  some ((w64 ((bit_and .u64 x59 255))),(⟨s_0.code,(w64 (s_0.at_+1)),(IntKind.wrap .u64 ((IntKind.wrap .u64 ((IntKind.wrap .u64 (s_0.seed*6364136223846793005))+(IntKind.wrap .u64 (b_3_r4))))+1442695040888963407))⟩:S_l00Src)))
noncomputable def spec_l00Src_next (s_0:S_l00Src):Option (Int×S_l00Src):=
 if s_0.at_< (s_0.code.length:Int) then
  ((rd s_0.code s_0.at_).bind fun x22=>
  spec_l00Src_next_k4 s_0 (w64 (x22)))
  else (spec_l00Src_next_k4 s_0 0)
noncomputable def spec_l00Src_pick_k6 (n_1:Int) (x_5_r6:Int) (s_o0_0_r6:(List Int)) (s_o0_1_r6:Int) (s_o0_2_r6:Int):Option (Int×S_l00Src):=
 (md x_5_r6 n_1).bind fun x19=>
   some (x19,(⟨s_o0_0_r6,s_o0_1_r6,s_o0_2_r6⟩:S_l00Src))
noncomputable def spec_l00Src_pick (s_0:S_l00Src) (n_1:Int):Option (Int×S_l00Src):=
 if n_1≤1 then
  (some (0,s_0))
  else ((spec_l00Src_next s_0).bind fun x9=>
  if n_1>200 then
  ((spec_l00Src_next x9.2).bind fun x15=>
  spec_l00Src_pick_k6 n_1 (w64 ((w64 (x9.1*256))+x15.1)) x15.2.code x15.2.at_ x15.2.seed)
  else (spec_l00Src_pick_k6 n_1 x9.1 x9.2.code x9.2.at_ x9.2.seed))
noncomputable def spec_l00Src_among (s_0:S_l00Src) (list_1:(List Int)):Option (Int×S_l00Src):=
 (spec_l00Src_pick s_0 (list_1.length:Int)).bind fun x9=>
   (rd list_1 x9.1).bind fun x10=>
   some (x10,x9.2)
noncomputable def spec_l30DrawRoom_k8 (s_o0_0_r8:(List Int)) (s_o0_1_r8:Int) (s_o0_2_r8:Int) (r_o3_0_r8:Int) (r_o3_1_r8:Int):Option (S_Room×S_l00Src):=
 some ((⟨r_o3_0_r8,r_o3_1_r8⟩:S_Room),(⟨s_o0_0_r8,s_o0_1_r8,s_o0_2_r8⟩:S_l00Src))
noncomputable def spec_l30DrawRoom (s_0:S_l00Src):Option (S_Room×S_l00Src):=
 (spec_l00Src_pick s_0 400).bind fun x5=>
   (spec_l00Src_pick x5.2 80).bind fun x9=>
   (spec_l00Src_pick x9.2 24).bind fun x13=>
   if x13.1=0 then
   ((spec_l00Src_among x13.2 ([0,1,20000,20001]:List Int)).bind fun x18=>
   spec_l30DrawRoom_k8 x18.2.code x18.2.at_ x18.2.seed x18.1 (w64 (10+x9.1)))
   else (if x13.1=1 then
   ((spec_l00Src_among x13.2 ([0,1,400,401,20001]:List Int)).bind fun x24=>
   spec_l30DrawRoom_k8 x24.2.code x24.2.at_ x24.2.seed (w64 (20+x5.1)) x24.1)
   else (spec_l30DrawRoom_k8 x13.2.code x13.2.at_ x13.2.seed (w64 (20+x5.1)) (w64 (10+x9.1))))
noncomputable def spec_l30DrawStock_k13 (s_o0_0_r13:(List Int)) (s_o0_1_r13:Int) (s_o0_2_r13:Int) (k_o3_0_r13:Int) (k_o3_1_r13:Int) (k_o3_2_r13:Int) (k_o3_3_r13:Int):Option (S_Stock×S_l00Src):=
 some ((⟨k_o3_0_r13,k_o3_1_r13,k_o3_2_r13,k_o3_3_r13⟩:S_Stock),(⟨s_o0_0_r13,s_o0_1_r13,s_o0_2_r13⟩:S_l00Src))
noncomputable def spec_l30DrawStock (s_0:S_l00Src):Option (S_Stock×S_l00Src):=
 (spec_l00Src_pick s_0 80).bind fun x5=>
   (spec_l00Src_pick x5.2 10).bind fun x8=>
   (spec_l00Src_pick x8.2 12).bind fun x12=>
   (dv .i64 (w64 (20+x5.1)) 2).bind fun x18=>
   (spec_l00Src_among x12.2 ([0,3,5,x18,8]:List Int)).bind fun x20=>
   (spec_l00Src_pick x20.2 24).bind fun x23=>
   if x23.1=0 then
   ((spec_l00Src_among x23.2 ([9,10,5000,5001]:List Int)).bind fun x28=>
   spec_l30DrawStock_k13 x28.2.code x28.2.at_ x28.2.seed x28.1 (w64 (10+x8.1)) (w64 (1+x12.1)) x20.1)
   else (if x23.1=1 then
   ((spec_l00Src_among x23.2 ([9,1000,1001]:List Int)).bind fun x34=>
   spec_l30DrawStock_k13 x34.2.code x34.2.at_ x34.2.seed (w64 (20+x5.1)) x34.1 (w64 (1+x12.1)) x20.1)
   else (if x23.1=2 then
   ((spec_l00Src_among x23.2 ([0,(w64 (20+x5.1)),(w64 ((w64 (20+x5.1))+1))]:List Int)).bind fun x45=>
   spec_l30DrawStock_k13 x45.2.code x45.2.at_ x45.2.seed (w64 (20+x5.1)) (w64 (10+x8.1)) x45.1 x20.1)
   else (if x23.1=3 then
   ((dv .i64 (w64 (20+x5.1)) 2).bind fun x52=>
   (spec_l00Src_among x23.2 ([(-1),(w64 (x52+1))]:List Int)).bind fun x55=>
   spec_l30DrawStock_k13 x55.2.code x55.2.at_ x55.2.seed (w64 (20+x5.1)) (w64 (10+x8.1)) (w64 (1+x12.1)) x55.1)
   else (spec_l30DrawStock_k13 x23.2.code x23.2.at_ x23.2.seed (w64 (20+x5.1)) (w64 (10+x8.1)) (w64 (1+x12.1)) x20.1))))
noncomputable def spec_l00Src_one (s_0:S_l00Src) (n_1:Int):Option (Bool×S_l00Src):=
 (spec_l00Src_pick s_0 n_1).bind fun x7=>
   some ((x7.1==0),x7.2)
noncomputable def spec_l00Max (a_0:Int) (b_1:Int):Option Int:=
 if a_0>b_1 then
  (some a_0)
  else (some b_1)
noncomputable def spec_l30DrawFirst (s_0:S_l00Src) (k_1:S_Stock):Option (Int×S_l00Src):=
 (spec_l00Src_one s_0 8).bind fun x6=>
   if x6.1=true then
   ((spec_l00Src_among x6.2 ([(w64 (k_1.Least - 1)),k_1.Least,k_1.Board,(w64 (k_1.Board+1))]:List Int)).bind fun x27=>
   some (x27.1,x27.2))
   else ((spec_l00Max 1 k_1.Board).bind fun x37=>
   (spec_l00Src_pick x6.2 x37).bind fun x38=>
   some ((w64 (k_1.Board - x38.1)),x38.2))
noncomputable def spec_DrawRowPieces (code_0:(List Int)):Option (S_Room×S_Stock×Int):=
 (spec_l00From code_0).bind fun x9=>
   (spec_l30DrawRoom x9).bind fun x11=>
   (spec_l30DrawStock x11.2).bind fun x13=>
   (spec_l30DrawFirst x13.2 x13.1).bind fun x17=>
   some (x11.1,x13.1,x17.1)
noncomputable def impl_within (n_0:Int) (low_1:Int) (high_2:Int):Option Bool:=
 some ((decide (n_0≥low_1))&&(decide (n_0≤high_2)))
noncomputable def impl_ValidRoom (r_0:S_Room):Option Bool:=
 (impl_within r_0.Width 1 20000).bind fun x5=>
   (if x5=true then
   ((impl_within r_0.Length 1 20000).bind fun x9=>
   some x9)
   else (some false)).bind fun t_2_m1=>
   some t_2_m1
noncomputable def impl_ValidStock (k_0:S_Stock):Option Bool:=
 (impl_within k_0.Board 10 5000).bind fun x5=>
   (if x5=true then
   ((impl_within k_0.Wide 10 1000).bind fun x9=>
   if x9=true then
   ((impl_within k_0.Least 1 k_0.Board).bind fun x16=>
   if x16=true then
   ((dv .i64 k_0.Board 2).bind fun x23=>
   (impl_within k_0.Stagger 0 x23).bind fun x24=>
   some x24)
   else (some false))
   else (some false))
   else (some false)).bind fun t_2_m1=>
   some t_2_m1
noncomputable def impl_roomCode (r_0:S_Room) (k_1:S_Stock):Option Int:=
 (impl_ValidRoom r_0).bind fun x6=>
   (if x6=true then
   ((impl_ValidStock k_1).bind fun x10=>
   some (!x10))
   else (some true)).bind fun t_12_m1=>
   if t_12_m1=true then
   (some 1)
   else (some 0)
noncomputable def impl_makeRow_l7 (k_1:S_Stock) (r_0:S_Room) (s:(Int×(List Int)×(List Int)×Int)):Option ((Int×(List Int)×(List Int)×Int) ⊕ ((List Int)×(List Int)×Int)):=
 match s with
  | (at_9_l7,out_o8_0_l7,out_o8_1_l7,out_o8_2_l7)=>
  if at_9_l7<r_0.Width then
  ((apd 8 out_o8_1_l7 ([at_9_l7]:List Int)).bind fun x40=>
  (apd 8 out_o8_0_l7 ([(min2 (w64 (r_0.Width - at_9_l7)) k_1.Board)]:List Int)).bind fun x55=>
  some (.inl ((w64 (at_9_l7+(min2 (w64 (r_0.Width - at_9_l7)) k_1.Board))),x55,x40,(min2 (w64 (r_0.Width - at_9_l7)) k_1.Board))))
  else (some (.inr (out_o8_0_l7,out_o8_1_l7,out_o8_2_l7)))
noncomputable def impl_makeRow (r_0:S_Room) (k_1:S_Stock) (first_2:Int):Option (S_row×Int):=
 (impl_within first_2 k_1.Least k_1.Board).bind fun x15=>
   if x15=true then
   (if r_0.Width≤first_2 then
   (some ((⟨([r_0.Width]:List Int),([]:List Int),r_0.Width⟩:S_row),0))
   else ((loopO (impl_makeRow_l7 k_1 r_0) (first_2,([first_2]:List Int),([]:List Int),0)).bind fun o=>match o with
   | (out_o8_0_e0_7,out_o8_1_e0_7,out_o8_2_e0_7)=>
   if out_o8_2_e0_7<k_1.Least then
   (some ((⟨([]:List Int),([]:List Int),0⟩:S_row),6))
   else (some ((⟨out_o8_0_e0_7,out_o8_1_e0_7,out_o8_2_e0_7⟩:S_row),0))))
   else (some ((⟨([]:List Int),([]:List Int),0⟩:S_row),2))
noncomputable def impl_RowPieces (r_0:S_Room) (k_1:S_Stock) (first_2:Int):Option ((List Int)×Int):=
 (impl_roomCode r_0 k_1).bind fun x13=>
   if x13≠0 then
   (some (([]:List Int),x13))
   else ((impl_makeRow r_0 k_1 first_2).bind fun x21=>
   some (x21.1.pieces,x21.2))
noncomputable def impl_RowJoints (r_0:S_Room) (k_1:S_Stock) (first_2:Int):Option ((List Int)×Int):=
 (impl_roomCode r_0 k_1).bind fun x13=>
   if x13≠0 then
   (some (([]:List Int),x13))
   else ((impl_makeRow r_0 k_1 first_2).bind fun x21=>
   some (x21.1.joints,x21.2))
noncomputable def laws_b10Sum_l3 (list_0:(List Int)) (s:(Int×Int)):Option ((Int×Int) ⊕ Int):=
 match s with
  | (sum_3_l3,i_4_l3)=>
  if i_4_l3< (list_0.length:Int) then
  ((rd list_0 i_4_l3).bind fun x14=>
  some (.inl ((w64 (sum_3_l3+x14)),(w64 (i_4_l3+1)))))
  else (some (.inr sum_3_l3))
noncomputable def laws_b10Sum (list_0:(List Int)):Option Int:=
 (loopO (laws_b10Sum_l3 list_0) (0,0)).bind fun sum_3_e0_3=>
   some sum_3_e0_3
noncomputable def spec_DrawStaggered (code_0:(List Int)):Option (S_Room×S_Stock×Int×Int):=
 (spec_l00From code_0).bind fun x11=>
   (spec_l30DrawRoom x11).bind fun x13=>
   (spec_l30DrawStock x13.2).bind fun x15=>
   (spec_l30DrawFirst x15.2 x15.1).bind fun x17=>
   (spec_l30DrawFirst x17.2 x15.1).bind fun x22=>
   some (x13.1,x15.1,x17.1,x22.1)
noncomputable def impl_absolute (n_0:Int):Option Int:=
 some (max2 n_0 (w64 (0 - n_0)))
noncomputable def impl_staggered_l2 (a_0:S_row) (b_1:S_row) (k_2:S_Stock) (s:(Int×Int)):Option ((Int×Int) ⊕ (Unit ⊕ Bool)):=
 match s with
  | (i_7_l2,n_8_l2)=>
  if (i_7_l2< (a_0.joints.length:Int)∧n_8_l2< (b_1.joints.length:Int)) then
  ((rd a_0.joints i_7_l2).bind fun x24=>
  (rd b_1.joints n_8_l2).bind fun x29=>
  (impl_absolute (w64 (x24 - x29))).bind fun x32=>
  if x32<k_2.Stagger then
  (some (.inr (.inr false)))
  else ((rd a_0.joints i_7_l2).bind fun x39=>
  (rd b_1.joints n_8_l2).bind fun x44=>
  if x39<x44 then
  (some (.inl ((w64 (i_7_l2+1)),n_8_l2)))
  else (some (.inl (i_7_l2,(w64 (n_8_l2+1)))))))
  else (some (.inr (.inl ())))
noncomputable def impl_staggered (a_0:S_row) (b_1:S_row) (k_2:S_Stock):Option Bool:=
 (loopO (impl_staggered_l2 a_0 b_1 k_2) (0,0)).bind fun o=>match o with
   | (.inl _)=>(some true)
   | (.inr r2)=>(some r2)
noncomputable def impl_Staggered (r_0:S_Room) (k_1:S_Stock) (a_2:Int) (b_3:Int):Option Bool:=
 (impl_roomCode r_0 k_1).bind fun x15=>
   if x15≠0 then
   (some false)
   else ((impl_makeRow r_0 k_1 a_2).bind fun x21=>
   (impl_makeRow r_0 k_1 b_3).bind fun x28=>
   (if x21.2=0 then
   (if x28.2=0 then
   ((impl_staggered x21.1 x28.1 k_1).bind fun x41=>
   some x41)
   else (some false))
   else (some false)).bind fun t_8_m5=>
   some t_8_m5)
noncomputable def impl_Decimal (n_0:Int):Option ByteArray:=
 (fmtI n_0).bind fun x4=>
   some x4
noncomputable def impl_RoomText (r_0:S_Room):Option ByteArray:=
 (impl_ValidRoom r_0).bind fun x4=>
   if x4=true then
   ((impl_Decimal r_0.Width).bind fun x8=>
   (cat x8 (⟨#[120]⟩:ByteArray)).bind fun x9=>
   (impl_Decimal r_0.Length).bind fun x12=>
   (cat x9 x12).bind fun x13=>
   some x13)
   else (some (⟨#[]⟩:ByteArray))
noncomputable def stringslite_HasPrefix (s_0:ByteArray) (prefix_1:ByteArray):Option Bool:=
 (if (s_0.size:Int)≥(prefix_1.size:Int) then
   ((slcS s_0 0 (prefix_1.size:Int)).bind fun x14=>
   some (x14.toList==prefix_1.toList))
   else (some false)).bind fun t_4_m1=>
   some t_4_m1
noncomputable def strings_HasPrefix (s_0:ByteArray) (prefix_1:ByteArray):Option Bool:=
 (stringslite_HasPrefix s_0 prefix_1).bind fun x7=>
   some x7
noncomputable def impl_ReadDecimal_k15 (s_0:ByteArray) (n_5_r15:Int):Option (Int×Bool):=
 (impl_Decimal n_5_r15).bind fun x52=>
   if ¬(x52=s_0) then
   (some (0,false))
   else (some (n_5_r15,true))
noncomputable def impl_ReadDecimal_l8 (digits_4_r4:ByteArray) (s:(Int×Int)):Option ((Int×Int) ⊕ (Int ⊕ (Int×Bool))):=
 match s with
  | (n_5_l8,i_6_l8)=>
  if i_6_l8< (digits_4_r4.size:Int) then
  ((bt digits_4_r4 i_6_l8).bind fun x28=>
  (if x28<48 then
  (some true)
  else ((bt digits_4_r4 i_6_l8).bind fun x33=>
  some (decide (x33>57)))).bind fun t_35_m10=>
  if t_35_m10=true then
  (some (.inr (.inr (0,false))))
  else ((bt digits_4_r4 i_6_l8).bind fun x40=>
  some (.inl ((w64 ((w64 (n_5_l8*10))+(w64 ((IntKind.wrap .u8 (x40 - 48)))))),(w64 (i_6_l8+1))))))
  else (some (.inr (.inl n_5_l8)))
noncomputable def impl_ReadDecimal_k4 (s_0:ByteArray) (digits_4_r4:ByteArray):Option (Int×Bool):=
 if ((digits_4_r4.size:Int) <1∨(digits_4_r4.size:Int) >18) then
  (some (0,false))
  else ((loopO (impl_ReadDecimal_l8 digits_4_r4) (0,0)).bind fun o=>match o with
  | (.inl n_5_e0_8)=>(if (digits_4_r4.size:Int) < (s_0.size:Int) then
  (impl_ReadDecimal_k15 s_0 (w64 (0 - n_5_e0_8)))
  else (impl_ReadDecimal_k15 s_0 n_5_e0_8))
  | (.inr r2)=>(some r2))
noncomputable def impl_ReadDecimal (s_0:ByteArray):Option (Int×Bool):=
 (strings_HasPrefix s_0 (⟨#[45]⟩:ByteArray)).bind fun x9=>
   if x9=true then
   ((slcS s_0 1 (s_0.size:Int)).bind fun x11=>
   impl_ReadDecimal_k4 s_0 x11)
   else (impl_ReadDecimal_k4 s_0 s_0)
noncomputable def impl_readSize (s_0:ByteArray):Option (Int×Int×Bool):=
 (cutS s_0 (⟨#[120]⟩:ByteArray)).bind fun x14=>
   (impl_ReadDecimal x14.1).bind fun x20=>
   (impl_ReadDecimal x14.2.1).bind fun x25=>
   some (x20.1,x25.1,(x14.2.2&&(x20.2&&x25.2)))
noncomputable def impl_ReadRoom (s_0:ByteArray):Option (S_Room×Bool):=
 (impl_readSize s_0).bind fun x10=>
   (if x10.2.2=true then
   ((impl_ValidRoom (⟨x10.1,x10.2.1⟩:S_Room)).bind fun x21=>
   some (!x21))
   else (some true)).bind fun t_23_m3=>
   if t_23_m3=true then
   (some ((⟨0,0⟩:S_Room),false))
   else (some ((⟨x10.1,x10.2.1⟩:S_Room),true))
noncomputable def spec_l00In (n_0:Int) (low_1:Int) (high_2:Int):Option Bool:=
 some ((decide (n_0≥low_1))&&(decide (n_0≤high_2)))
noncomputable def spec_l30Room (r_0:S_Room):Option Bool:=
 (spec_l00In r_0.Width 1 20000).bind fun x7=>
   (if x7=true then
   ((spec_l00In r_0.Length 1 20000).bind fun x13=>
   some x13)
   else (some false)).bind fun t_2_m1=>
   some t_2_m1
noncomputable def spec_ValidRoom (r_0:S_Room):Option Bool:=
 (spec_l30Room r_0).bind fun x3=>
   some x3
noncomputable def laws_FnRooms_k16 (more_1:(List Int)) (x27:(S_Room×S_Stock×Int)):Option Bool:=
 (spec_DrawStaggered more_1).bind fun x99=>
   (impl_Staggered x99.1 x99.2.1 x99.2.2.1 x99.2.2.2).bind fun x108=>
   (impl_Staggered x99.1 x99.2.1 x99.2.2.2 x99.2.2.1).bind fun x113=>
   if x108=x113 then
   ((impl_RoomText x27.1).bind fun x117=>
   (impl_ReadRoom x117).bind fun x118=>
   (spec_ValidRoom x27.1).bind fun x123=>
   some ((x118.2==x123)&&((!x118.2)||((x118.1.Width==x27.1.Width)&&(x118.1.Length==x27.1.Length)))))
   else (some false)
noncomputable def laws_FnRooms_l12 (x27:(S_Room×S_Stock×Int)) (x35:((List Int)×Int)) (i_12_l12:Int):Option (Int ⊕ (Unit ⊕ Bool)):=
 if i_12_l12< (x35.1.length:Int) then
  ((rd x35.1 i_12_l12).bind fun x71=>
  (if x71>x27.2.1.Board then
  (some true)
  else (if (x35.1.length:Int) >1 then
  ((rd x35.1 i_12_l12).bind fun x83=>
  if x83<x27.2.1.Least then
  (some true)
  else ((rd x35.1 i_12_l12).bind fun x93=>
  some (decide (x93<1))))
  else ((rd x35.1 i_12_l12).bind fun x93=>
  some (decide (x93<1))))).bind fun t_96_m14=>
  if t_96_m14=true then
  (some (.inr (.inr false)))
  else (some (.inl (w64 (i_12_l12+1)))))
  else (some (.inr (.inl ())))
noncomputable def laws_FnRooms (code_0:(List Int)) (more_1:(List Int)):Option Bool:=
 (laws_b10Long code_0).bind fun x20=>
   (if x20=true then
   (some true)
   else ((laws_b10Long more_1).bind fun x23=>
   some x23)).bind fun t_24_m1=>
   if t_24_m1=true then
   (some true)
   else ((spec_DrawRowPieces code_0).bind fun x27=>
   (impl_RowPieces x27.1 x27.2.1 x27.2.2).bind fun x35=>
   (impl_RowJoints x27.1 x27.2.1 x27.2.2).bind fun x42=>
   if x35.2≠x42.2 then
   (some false)
   else (if x35.2=0 then
   ((laws_b10Sum x35.1).bind fun x51=>
   if (x51≠x27.1.Width∨(x42.1.length:Int)≠(w64 ((x35.1.length:Int) - 1))) then
   (some false)
   else ((loopO (laws_FnRooms_l12 x27 x35) 0).bind fun o=>match o with
   | (.inl _)=>(laws_FnRooms_k16 more_1 x27)
   | (.inr r2)=>(some r2)))
   else (laws_FnRooms_k16 more_1 x27)))
end Go.Pw
