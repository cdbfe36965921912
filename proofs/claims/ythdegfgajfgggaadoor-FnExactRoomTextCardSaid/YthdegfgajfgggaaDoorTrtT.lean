/- Plain functions that answer what the program's functions answer. Conditions: none; definitions alone. -/
import Derived.Test.YthdegfgajfgggaaDoorSimPw
import Derived.Test.YthdegfgajfgggaaDoorSimPs
namespace Go.Pw
open Go.Sim (min2 max2)
set_option linter.unusedVariables false
structure S_Room where
 Width:Int
 Length:Int
noncomputable def laws_toRoom (a_0:S_Room):Option S_Room:=
 some a_0
noncomputable def spec_l00In (n_0:Int) (low_1:Int) (high_2:Int):Option Bool:=
 some ((decide (n_0≥low_1))&&(decide (n_0≤high_2)))
noncomputable def spec_l30Room (r_0:S_Room):Option Bool:=
 (spec_l00In r_0.Width 1 20000).bind fun x7=>
   (if x7=true then
   ((spec_l00In r_0.Length 1 20000).bind fun x13=>
   some x13)
   else (some false)).bind fun t_2_m1=>
   some t_2_m1
noncomputable def spec_l01Dec_l15 (digits_o3_r13:(List Int)) (s:(Int×(List Int))):Option ((Int×(List Int)) ⊕ (List Int)):=
 match s with
  | (i_7_l15,out_o6_l15)=>
  if i_7_l15≥0 then
  ((rd digits_o3_r13 i_7_l15).bind fun x44=>
  (apd 1 out_o6_l15 ([x44]:List Int)).bind fun x47=>
  some (.inl ((w64 (i_7_l15 - 1)),x47)))
  else (some (.inr out_o6_l15))
noncomputable def spec_l01Dec_k13 (digits_o3_r13:(List Int)):Option ByteArray:=
 (loopO (spec_l01Dec_l15 digits_o3_r13) ((w64 ((digits_o3_r13.length:Int) - 1)),([]:List Int))).bind fun out_o6_e2_15=>
   some (strOf out_o6_e2_15)
noncomputable def spec_l01Dec_k10 (digits_o3_l5:(List Int)) (m_4_l5:Int) (d_5_r10:Int):Option ((Int×(List Int)) ⊕ (List Int)):=
 (apd 1 digits_o3_l5 ([(IntKind.wrap .u8 ((w64 (48+d_5_r10))))]:List Int)).bind fun x27=>
   (dv .i64 m_4_l5 10).bind fun x15=>
   some (.inl (x15,x27))
noncomputable def spec_l01Dec_l5 (s:(Int×(List Int))):Option ((Int×(List Int)) ⊕ (List Int)):=
 match s with
  | (m_4_l5,digits_o3_l5)=>
  if m_4_l5≠0 then
  ((md m_4_l5 10).bind fun x17=>
  if x17<0 then
  (spec_l01Dec_k10 digits_o3_l5 m_4_l5 (w64 (0 - x17)))
  else (spec_l01Dec_k10 digits_o3_l5 m_4_l5 x17))
  else (some (.inr digits_o3_l5))
noncomputable def spec_l01Dec (n_0:Int):Option ByteArray:=
 if n_0=0 then
  (some (⟨#[48]⟩:ByteArray))
  else ((loopO (spec_l01Dec_l5) (n_0,([]:List Int))).bind fun digits_o3_e0_5=>
  if n_0<0 then
  ((apd 1 digits_o3_e0_5 ([45]:List Int)).bind fun x32=>
  spec_l01Dec_k13 x32)
  else (spec_l01Dec_k13 digits_o3_e0_5))
noncomputable def spec_l30Text (r_0:S_Room):Option ByteArray:=
 (spec_l01Dec r_0.Width).bind fun x7=>
   (cat x7 (⟨#[120]⟩:ByteArray)).bind fun x8=>
   (spec_l01Dec r_0.Length).bind fun x13=>
   (cat x8 x13).bind fun x14=>
   some x14
noncomputable def spec_RoomText (r_0:S_Room):Option ByteArray:=
 (spec_l30Room r_0).bind fun x3=>
   if x3=true then
   ((spec_l30Text r_0).bind fun x5=>
   some x5)
   else (some (⟨#[]⟩:ByteArray))
noncomputable def impl_within (n_0:Int) (low_1:Int) (high_2:Int):Option Bool:=
 some ((decide (n_0≥low_1))&&(decide (n_0≤high_2)))
noncomputable def impl_ValidRoom (r_0:S_Room):Option Bool:=
 (impl_within r_0.Width 1 20000).bind fun x5=>
   (if x5=true then
   ((impl_within r_0.Length 1 20000).bind fun x9=>
   some x9)
   else (some false)).bind fun t_2_m1=>
   some t_2_m1
noncomputable def impl_Decimal (n_0:Int):Option ByteArray:=
 (fmtI n_0).bind fun x4=>
   some x4
noncomputable def impl_RoomText (r_0:S_Room):Option ByteArray:=
 (impl_ValidRoom r_0).bind fun x4=>
   if x4=true then
   ((impl_Decimal r_0.Width).bind fun x8=>
   (cat x8 (⟨#[120]⟩:ByteArray)).bind fun x9=>
   (impl_Decimal r_0.Length).bind fun x12=>
   (cat x9 x12).bind fun x13=>
   some x13)
   else (some (⟨#[]⟩:ByteArray))
noncomputable def laws_FnExactRoomText (aR_0:S_Room):Option Bool:=
 (laws_toRoom aR_0).bind fun x6=>
   (spec_RoomText x6).bind fun x7=>
   (laws_toRoom aR_0).bind fun x9=>
   (impl_RoomText x9).bind fun x10=>
   if ¬(x10=x7) then
   (some false)
   else (some true)
end Go.Pw
