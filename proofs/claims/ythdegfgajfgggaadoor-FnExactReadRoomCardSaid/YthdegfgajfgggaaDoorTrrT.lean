/- Plain functions that answer what the program's functions answer. Conditions: none; definitions alone. -/
import Derived.Test.YthdegfgajfgggaaDoorSimPw
import Derived.Test.YthdegfgajfgggaaDoorSimPs
namespace Go.Pw
open Go.Sim (min2 max2)
set_option linter.unusedVariables false
structure S_Room where
 Width:Int
 Length:Int
noncomputable def spec_l01Split_k5 (i_7_l4:Int) (from_6_r5:Int) (out_o5_r5:(List ByteArray)):Option ((Int×Int×(List ByteArray)) ⊕ (Int×(List ByteArray))):=
 some (.inl (from_6_r5,(w64 (i_7_l4+1)),out_o5_r5))
noncomputable def spec_l01Split_l4 (by_1:Int) (s_0:ByteArray) (s:(Int×Int×(List ByteArray))):Option ((Int×Int×(List ByteArray)) ⊕ (Int×(List ByteArray))):=
 match s with
  | (from_6_l4,i_7_l4,out_o5_l4)=>
  if i_7_l4< (s_0.size:Int) then
  ((bt s_0 i_7_l4).bind fun x17=>
  if x17=by_1 then
  ((slcS s_0 from_6_l4 i_7_l4).bind fun x24=>
  (apd 16 out_o5_l4 ([x24]:List ByteArray)).bind fun x26=>
  spec_l01Split_k5 i_7_l4 (w64 (i_7_l4+1)) x26)
  else (spec_l01Split_k5 i_7_l4 from_6_l4 out_o5_l4))
  else (some (.inr (from_6_l4,out_o5_l4)))
noncomputable def spec_l01Split (s_0:ByteArray) (by_1:Int):Option (List ByteArray):=
 (loopO (spec_l01Split_l4 by_1 s_0) (0,0,([]:List ByteArray))).bind fun o=>match o with
   | (from_6_e0_4,out_o5_e0_4)=>
   (slcS s_0 from_6_e0_4 (s_0.size:Int)).bind fun x32=>
   (apd 16 out_o5_e0_4 ([x32]:List ByteArray)).bind fun x34=>
   some x34
noncomputable def spec_l01Digit (c_0:Int):Option Bool:=
 some ((decide (c_0≥48))&&(decide (c_0≤57)))
noncomputable def spec_l01Number_k15 (n_5_r15:Int):Option (Int×Bool):=
 some (n_5_r15,true)
noncomputable def spec_l01Number_l8 (s_0:ByteArray) (s:(Int×Int)):Option ((Int×Int) ⊕ (Int ⊕ (Int×Bool))):=
 match s with
  | (n_5_l8,i_6_l8)=>
  if i_6_l8< (s_0.size:Int) then
  ((bt s_0 i_6_l8).bind fun x46=>
  (spec_l01Digit x46).bind fun x47=>
  if x47=true then
  ((bt s_0 i_6_l8).bind fun x53=>
  some (.inl ((w64 ((w64 (10*n_5_l8))+(w64 ((IntKind.wrap .u8 (x53 - 48)))))),(w64 (i_6_l8+1)))))
  else (some (.inr (.inr (0,false)))))
  else (some (.inr (.inl n_5_l8)))
noncomputable def spec_l01Number_k4 (s_0:ByteArray) (at_4_r4:Int):Option (Int×Bool):=
 (if (s_0.size:Int)=at_4_r4 then
   (some true)
   else (if (w64 ((s_0.size:Int) - at_4_r4)) >18 then
   (some true)
   else ((bt s_0 at_4_r4).bind fun x29=>
   if x29=48 then
   (some (decide ((s_0.size:Int) >1)))
   else (some false)))).bind fun t_36_m4=>
   if t_36_m4=true then
   (some (0,false))
   else ((loopO (spec_l01Number_l8 s_0) (0,at_4_r4)).bind fun o=>match o with
   | (.inl n_5_e0_8)=>(if at_4_r4=1 then
   (spec_l01Number_k15 (w64 (0 - n_5_e0_8)))
   else (spec_l01Number_k15 n_5_e0_8))
   | (.inr r2)=>(some r2))
noncomputable def spec_l01Number (s_0:ByteArray):Option (Int×Bool):=
 (if (s_0.size:Int) >0 then
   ((bt s_0 0).bind fun x12=>
   some (x12==45))
   else (some false)).bind fun t_14_m2=>
   if t_14_m2=true then
   (spec_l01Number_k4 s_0 1)
   else (spec_l01Number_k4 s_0 0)
noncomputable def spec_l00In (n_0:Int) (low_1:Int) (high_2:Int):Option Bool:=
 some ((decide (n_0≥low_1))&&(decide (n_0≤high_2)))
noncomputable def spec_l30Room (r_0:S_Room):Option Bool:=
 (spec_l00In r_0.Width 1 20000).bind fun x7=>
   (if x7=true then
   ((spec_l00In r_0.Length 1 20000).bind fun x13=>
   some x13)
   else (some false)).bind fun t_2_m1=>
   some t_2_m1
noncomputable def spec_l30Read (s_0:ByteArray):Option (S_Room×Bool):=
 (spec_l01Split s_0 120).bind fun x11=>
   if (x11.length:Int)≠2 then
   (some ((⟨0,0⟩:S_Room),false))
   else ((rd x11 0).bind fun x18=>
   (spec_l01Number x18).bind fun x20=>
   (rd x11 1).bind fun x25=>
   (spec_l01Number x25).bind fun x27=>
   (if x20.2=true then
   (if x27.2=true then
   ((spec_l30Room (⟨x20.1,x27.1⟩:S_Room)).bind fun x40=>
   some (!x40))
   else (some true))
   else (some true)).bind fun t_42_m7=>
   if t_42_m7=true then
   (some ((⟨0,0⟩:S_Room),false))
   else (some ((⟨x20.1,x27.1⟩:S_Room),true)))
noncomputable def spec_ReadRoom (s_0:ByteArray):Option (S_Room×Bool):=
 (spec_l30Read s_0).bind fun x5=>
   some (x5.1,x5.2)
noncomputable def stringslite_HasPrefix (s_0:ByteArray) (prefix_1:ByteArray):Option Bool:=
 (if (s_0.size:Int)≥(prefix_1.size:Int) then
   ((slcS s_0 0 (prefix_1.size:Int)).bind fun x14=>
   some (x14.toList==prefix_1.toList))
   else (some false)).bind fun t_4_m1=>
   some t_4_m1
noncomputable def strings_HasPrefix (s_0:ByteArray) (prefix_1:ByteArray):Option Bool:=
 (stringslite_HasPrefix s_0 prefix_1).bind fun x7=>
   some x7
noncomputable def impl_Decimal (n_0:Int):Option ByteArray:=
 (fmtI n_0).bind fun x4=>
   some x4
noncomputable def impl_ReadDecimal_k15 (s_0:ByteArray) (n_5_r15:Int):Option (Int×Bool):=
 (impl_Decimal n_5_r15).bind fun x52=>
   if ¬(x52=s_0) then
   (some (0,false))
   else (some (n_5_r15,true))
noncomputable def impl_ReadDecimal_l8 (digits_4_r4:ByteArray) (s:(Int×Int)):Option ((Int×Int) ⊕ (Int ⊕ (Int×Bool))):=
 match s with
  | (n_5_l8,i_6_l8)=>
  if i_6_l8< (digits_4_r4.size:Int) then
  ((bt digits_4_r4 i_6_l8).bind fun x28=>
  (if x28<48 then
  (some true)
  else ((bt digits_4_r4 i_6_l8).bind fun x33=>
  some (decide (x33>57)))).bind fun t_35_m10=>
  if t_35_m10=true then
  (some (.inr (.inr (0,false))))
  else ((bt digits_4_r4 i_6_l8).bind fun x40=>
  some (.inl ((w64 ((w64 (n_5_l8*10))+(w64 ((IntKind.wrap .u8 (x40 - 48)))))),(w64 (i_6_l8+1))))))
  else (some (.inr (.inl n_5_l8)))
noncomputable def impl_ReadDecimal_k4 (s_0:ByteArray) (digits_4_r4:ByteArray):Option (Int×Bool):=
 if ((digits_4_r4.size:Int) <1∨(digits_4_r4.size:Int) >18) then
  (some (0,false))
  else ((loopO (impl_ReadDecimal_l8 digits_4_r4) (0,0)).bind fun o=>match o with
  | (.inl n_5_e0_8)=>(if (digits_4_r4.size:Int) < (s_0.size:Int) then
  (impl_ReadDecimal_k15 s_0 (w64 (0 - n_5_e0_8)))
  else (impl_ReadDecimal_k15 s_0 n_5_e0_8))
  | (.inr r2)=>(some r2))
noncomputable def impl_ReadDecimal (s_0:ByteArray):Option (Int×Bool):=
 (strings_HasPrefix s_0 (⟨#[45]⟩:ByteArray)).bind fun x9=>
   if x9=true then
   ((slcS s_0 1 (s_0.size:Int)).bind fun x11=>
   impl_ReadDecimal_k4 s_0 x11)
   else (impl_ReadDecimal_k4 s_0 s_0)
noncomputable def impl_readSize (s_0:ByteArray):Option (Int×Int×Bool):=
 (cutS s_0 (⟨#[120]⟩:ByteArray)).bind fun x14=>
   (impl_ReadDecimal x14.1).bind fun x20=>
   (impl_ReadDecimal x14.2.1).bind fun x25=>
   some (x20.1,x25.1,(x14.2.2&&(x20.2&&x25.2)))
noncomputable def impl_within (n_0:Int) (low_1:Int) (high_2:Int):Option Bool:=
 some ((decide (n_0≥low_1))&&(decide (n_0≤high_2)))
noncomputable def impl_ValidRoom (r_0:S_Room):Option Bool:=
 (impl_within r_0.Width 1 20000).bind fun x5=>
   (if x5=true then
   ((impl_within r_0.Length 1 20000).bind fun x9=>
   some x9)
   else (some false)).bind fun t_2_m1=>
   some t_2_m1
noncomputable def impl_ReadRoom (s_0:ByteArray):Option (S_Room×Bool):=
 (impl_readSize s_0).bind fun x10=>
   (if x10.2.2=true then
   ((impl_ValidRoom (⟨x10.1,x10.2.1⟩:S_Room)).bind fun x21=>
   some (!x21))
   else (some true)).bind fun t_23_m3=>
   if t_23_m3=true then
   (some ((⟨0,0⟩:S_Room),false))
   else (some ((⟨x10.1,x10.2.1⟩:S_Room),true))
noncomputable def laws_eqRoom (a_0:S_Room) (b_1:S_Room):Option Bool:=
 if a_0.Width≠b_1.Width then
  (some false)
  else (if a_0.Length≠b_1.Length then
  (some false)
  else (some true))
noncomputable def laws_FnExactReadRoom (aS_0:ByteArray):Option Bool:=
 if (aS_0.size:Int) >1048576 then
  (some true)
  else ((spec_ReadRoom aS_0).bind fun x12=>
  (impl_ReadRoom aS_0).bind fun x17=>
  (laws_eqRoom x17.1 x12.1).bind fun x22=>
  if (¬(x22=true)∨¬(x17.2=x12.2)) then
  (some false)
  else (some true))
end Go.Pw
