/- Plain functions that answer what the program's functions answer. Conditions: none; definitions alone. -/
import Derived.Test.YthdegfgajfgggaaSimPw
namespace Go.Pw
open Go.Sim (min2 max2)
set_option linter.unusedVariables false
structure S_Feature where
 Id:ByteArray
 Values:(List Int)
structure S_l26Search where
 targets:(List S_Feature)
 stock:(List S_Feature)
 chosen:(List Int)
 sum:Int
 best:(List Int)
 least:Int
 nodes:Int
 budget:Int
 full:Bool
structure S_matchSearch where
 targets:(List S_Feature)
 stock:(List S_Feature)
 left:Int
 found:Bool
 best:(List Int)
 least:Int
noncomputable def laws_szInt64S (a_0:(List Int)) (left_1:Int):Option Int:=
 if (w64 (left_1 - (a_0.length:Int))) <0 then
  (some (-1))
  else (some (w64 (left_1 - (a_0.length:Int))))
noncomputable def laws_szFeature (a_0:S_Feature) (left_1:Int):Option Int:=
 if (w64 (left_1 - (a_0.Id.size:Int))) <0 then
  (some (-1))
  else ((laws_szInt64S a_0.Values (w64 (left_1 - (a_0.Id.size:Int)))).bind fun x15=>
  if x15<0 then
  (some (-1))
  else (some x15))
noncomputable def laws_szFeatureS_l5 (a_0:(List S_Feature)) (s:(Int×Int)):Option ((Int×Int) ⊕ (Int ⊕ Int)):=
 match s with
  | (left_1_l5,i_5_l5)=>
  if i_5_l5< (a_0.length:Int) then
  ((rd a_0 i_5_l5).bind fun x20=>
  (laws_szFeature x20 left_1_l5).bind fun x23=>
  if x23<0 then
  (some (.inr (.inr (-1))))
  else (some (.inl (x23,(w64 (i_5_l5+1))))))
  else (some (.inr (.inl left_1_l5)))
noncomputable def laws_szFeatureS (a_0:(List S_Feature)) (left_1:Int):Option Int:=
 if (w64 (left_1 - (a_0.length:Int))) <0 then
  (some (-1))
  else ((loopO (laws_szFeatureS_l5 a_0) ((w64 (left_1 - (a_0.length:Int))),0)).bind fun o=>match o with
  | (.inl left_1_e0_5)=>(some left_1_e0_5)
  | (.inr r2)=>(some r2))
noncomputable def laws_toInt64S_l3 (a_0:(List Int)) (s:(Int×(List Int))):Option ((Int×(List Int)) ⊕ (List Int)):=
 match s with
  | (i_4_l3,out_o3_l3)=>
  if i_4_l3< (a_0.length:Int) then
  ((rd a_0 i_4_l3).bind fun x18=>
  (rd out_o3_l3 i_4_l3).bind fun x20=>
  some (.inl ((w64 (i_4_l3+1)),(out_o3_l3.set i_4_l3.toNat x18))))
  else (some (.inr out_o3_l3))
noncomputable def laws_toInt64S (a_0:(List Int)):Option (List Int):=
 (mkl 8 (a_0.length:Int) 0).bind fun x7=>
   (loopO (laws_toInt64S_l3 a_0) (0,x7)).bind fun out_o3_e0_3=>
   some out_o3_e0_3
noncomputable def laws_toFeature (a_0:S_Feature):Option S_Feature:=
 (laws_toInt64S a_0.Values).bind fun x9=>
   some (⟨a_0.Id,x9⟩:S_Feature)
noncomputable def laws_toFeatureS_l3 (a_0:(List S_Feature)) (s:(Int×(List S_Feature))):Option ((Int×(List S_Feature)) ⊕ (List S_Feature)):=
 match s with
  | (i_4_l3,out_o3_l3)=>
  if i_4_l3< (a_0.length:Int) then
  ((rd a_0 i_4_l3).bind fun x18=>
  (laws_toFeature x18).bind fun x20=>
  (rd out_o3_l3 i_4_l3).bind fun x21=>
  some (.inl ((w64 (i_4_l3+1)),(out_o3_l3.set i_4_l3.toNat x20))))
  else (some (.inr out_o3_l3))
noncomputable def laws_toFeatureS (a_0:(List S_Feature)):Option (List S_Feature):=
 (mkl 40 (a_0.length:Int) (⟨(⟨#[]⟩:ByteArray),([]:List Int)⟩:S_Feature)).bind fun x7=>
   (loopO (laws_toFeatureS_l3 a_0) (0,x7)).bind fun out_o3_e0_3=>
   some out_o3_e0_3
noncomputable def spec_l01Small (c_0:Int):Option Bool:=
 some ((decide (c_0≥97))&&(decide (c_0≤122)))
noncomputable def spec_l01Digit (c_0:Int):Option Bool:=
 some ((decide (c_0≥48))&&(decide (c_0≤57)))
noncomputable def spec_l01Name_l4 (s_0:ByteArray) (i_3_l4:Int):Option (Int ⊕ (Unit ⊕ Bool)):=
 if i_3_l4< (s_0.size:Int) then
  ((bt s_0 i_3_l4).bind fun x25=>
  (spec_l01Small x25).bind fun x26=>
  (if x26=true then
  (some false)
  else ((bt s_0 i_3_l4).bind fun x31=>
  (spec_l01Digit x31).bind fun x32=>
  some (!x32))).bind fun t_34_m6=>
  if t_34_m6=true then
  (some (.inr (.inr false)))
  else (some (.inl (w64 (i_3_l4+1)))))
  else (some (.inr (.inl ())))
noncomputable def spec_l01Name (s_0:ByteArray):Option Bool:=
 (if s_0=(⟨#[]⟩:ByteArray) then
   (some true)
   else (if (s_0.size:Int) >10 then
   (some true)
   else ((bt s_0 0).bind fun x13=>
   (spec_l01Small x13).bind fun x14=>
   some (!x14)))).bind fun t_16_m1=>
   if t_16_m1=true then
   (some false)
   else ((loopO (spec_l01Name_l4 s_0) 0).bind fun o=>match o with
   | (.inl _)=>(some true)
   | (.inr r2)=>(some r2))
noncomputable def spec_l00In (n_0:Int) (low_1:Int) (high_2:Int):Option Bool:=
 some ((decide (n_0≥low_1))&&(decide (n_0≤high_2)))
noncomputable def spec_l26One_l4 (f_0:S_Feature) (i_3_l4:Int):Option (Int ⊕ (Unit ⊕ Bool)):=
 if i_3_l4< (f_0.Values.length:Int) then
  ((rd f_0.Values i_3_l4).bind fun x32=>
  (spec_l00In x32 0 255).bind fun x34=>
  if x34=true then
  (some (.inl (w64 (i_3_l4+1))))
  else (some (.inr (.inr false))))
  else (some (.inr (.inl ())))
noncomputable def spec_l26One (f_0:S_Feature):Option Bool:=
 (spec_l01Name f_0.Id).bind fun x8=>
   if (¬(x8=true)∨(f_0.Values.length:Int)≠6) then
   (some false)
   else ((loopO (spec_l26One_l4 f_0) 0).bind fun o=>match o with
   | (.inl _)=>(some true)
   | (.inr r2)=>(some r2))
noncomputable def spec_l26Ok_l2 (list_0:(List S_Feature)) (i_3_l2:Int):Option (Int ⊕ (Unit ⊕ Bool)):=
 if i_3_l2< (list_0.length:Int) then
  ((rd list_0 i_3_l2).bind fun x12=>
  (spec_l26One x12).bind fun x13=>
  (if x13=true then
  (if i_3_l2>0 then
  ((rd list_0 (w64 (i_3_l2 - 1))).bind fun x22=>
  (rd list_0 i_3_l2).bind fun x27=>
  some (!Op.bytesLess x22.Id.toList x27.Id.toList))
  else (some false))
  else (some true)).bind fun t_32_m4=>
  if t_32_m4=true then
  (some (.inr (.inr false)))
  else (some (.inl (w64 (i_3_l2+1)))))
  else (some (.inr (.inl ())))
noncomputable def spec_l26Ok (list_0:(List S_Feature)):Option Bool:=
 (loopO (spec_l26Ok_l2 list_0) 0).bind fun o=>match o with
   | (.inl _)=>(some (decide ((list_0.length:Int)≤16)))
   | (.inr r2)=>(some r2)
noncomputable def spec_l00Own (list_0:(List Int)):Option (List Int):=
 (apd 8 ([]:List Int) list_0).bind fun x5=>
   some x5
noncomputable def spec_l00Max (a_0:Int) (b_1:Int):Option Int:=
 if a_0>b_1 then
  (some a_0)
  else (some b_1)
noncomputable def spec_l26Away_l3 (a_0:S_Feature) (b_1:S_Feature) (s:(Int×Int)):Option ((Int×Int) ⊕ Int):=
 match s with
  | (sum_5_l3,i_6_l3)=>
  if i_6_l3<6 then
  ((rd a_0.Values i_6_l3).bind fun x17=>
  (rd b_1.Values i_6_l3).bind fun x24=>
  (rd b_1.Values i_6_l3).bind fun x32=>
  (rd a_0.Values i_6_l3).bind fun x39=>
  (spec_l00Max (w64 (x17 - x24)) (w64 (x32 - x39))).bind fun x42=>
  some (.inl ((w64 (sum_5_l3+x42)),(w64 (i_6_l3+1)))))
  else (some (.inr sum_5_l3))
noncomputable def spec_l26Away (a_0:S_Feature) (b_1:S_Feature):Option Int:=
 (loopO (spec_l26Away_l3 a_0 b_1) (0,0)).bind fun sum_5_e0_3=>
   some sum_5_e0_3
noncomputable def spec_l00Has_l2 (list_0:(List Int)) (n_1:Int) (i_5_l2:Int):Option (Int ⊕ (Unit ⊕ Bool)):=
 if i_5_l2< (list_0.length:Int) then
  ((rd list_0 i_5_l2).bind fun x14=>
  if x14=n_1 then
  (some (.inr (.inr true)))
  else (some (.inl (w64 (i_5_l2+1)))))
  else (some (.inr (.inl ())))
noncomputable def spec_l00Has (list_0:(List Int)) (n_1:Int):Option Bool:=
 (loopO (spec_l00Has_l2 list_0 n_1) 0).bind fun o=>match o with
   | (.inl _)=>(some false)
   | (.inr r2)=>(some r2)
noncomputable def spec_l26Search_run_k6 (self:S_l26Search→Option S_l26Search) (k_3_l5:Int) (x_o0_0_r6:(List S_Feature)) (x_o0_1_r6:(List S_Feature)) (x_o0_2_r6:(List Int)) (x_o0_3_r6:Int) (x_o0_4_r6:(List Int)) (x_o0_5_r6:Int) (x_o0_6_r6:Int) (x_o0_7_r6:Int) (x_o0_8_r6:Bool):Option ((Int×(List S_Feature)×(List S_Feature)×(List Int)×Int×(List Int)×Int×Int×Int×Bool) ⊕ (S_l26Search ⊕ S_l26Search)):=
 some (.inl ((w64 (k_3_l5+1)),x_o0_0_r6,x_o0_1_r6,x_o0_2_r6,x_o0_3_r6,x_o0_4_r6,x_o0_5_r6,x_o0_6_r6,x_o0_7_r6,x_o0_8_r6))
noncomputable def spec_l26Search_run_l5 (self:S_l26Search→Option S_l26Search) (x_0:S_l26Search) (s:(Int×(List S_Feature)×(List S_Feature)×(List Int)×Int×(List Int)×Int×Int×Int×Bool)):Option ((Int×(List S_Feature)×(List S_Feature)×(List Int)×Int×(List Int)×Int×Int×Int×Bool) ⊕ (S_l26Search ⊕ S_l26Search)):=
 match s with
  | (k_3_l5,x_o0_0_l5,x_o0_1_l5,x_o0_2_l5,x_o0_3_l5,x_o0_4_l5,x_o0_5_l5,x_o0_6_l5,x_o0_7_l5,x_o0_8_l5)=>
  if (k_3_l5< (x_o0_1_l5.length:Int)∧¬(x_o0_8_l5=true)) then
  ((rd x_o0_0_l5 (x_0.chosen.length:Int)).bind fun x53=>
  (rd x_o0_1_l5 k_3_l5).bind fun x59=>
  (spec_l26Away x53 x59).bind fun x60=>
  (spec_l00Has x_o0_2_l5 k_3_l5).bind fun x66=>
  if (x66=true∨(x_o0_5_l5≥0∧(w64 (x_o0_3_l5+x60))≥x_o0_5_l5)) then
  (spec_l26Search_run_k6 self k_3_l5 x_o0_0_l5 x_o0_1_l5 x_o0_2_l5 x_o0_3_l5 x_o0_4_l5 x_o0_5_l5 x_o0_6_l5 x_o0_7_l5 x_o0_8_l5)
  else (if x_o0_6_l5=x_o0_7_l5 then
  (some (.inr (.inr (⟨x_o0_0_l5,x_o0_1_l5,x_o0_2_l5,x_o0_3_l5,x_o0_4_l5,x_o0_5_l5,x_o0_6_l5,x_o0_7_l5,true⟩:S_l26Search))))
  else ((apd 8 x_o0_2_l5 ([k_3_l5]:List Int)).bind fun x113=>
  (self (⟨x_o0_0_l5,x_o0_1_l5,x113,(w64 (x_o0_3_l5+x60)),x_o0_4_l5,x_o0_5_l5,(w64 (x_o0_6_l5+1)),x_o0_7_l5,x_o0_8_l5⟩:S_l26Search)).bind fun x125=>
  (slc x125.chosen 0 (x_0.chosen.length:Int)).bind fun x132=>
  spec_l26Search_run_k6 self k_3_l5 x125.targets x125.stock ((x125.chosen.take ((x_0.chosen.length:Int).toNat)).drop 0) (w64 (x125.sum - x60)) x125.best x125.least x125.nodes x125.budget x125.full)))
  else (some (.inr (.inl (⟨x_o0_0_l5,x_o0_1_l5,x_o0_2_l5,x_o0_3_l5,x_o0_4_l5,x_o0_5_l5,x_o0_6_l5,x_o0_7_l5,x_o0_8_l5⟩:S_l26Search))))
noncomputable def spec_l26Search_run_F (self:S_l26Search→Option S_l26Search) (x_0:S_l26Search):Option S_l26Search:=
 if (x_0.chosen.length:Int)=(x_0.targets.length:Int) then
  ((spec_l00Own x_0.chosen).bind fun x29=>
  some (⟨x_0.targets,x_0.stock,x_0.chosen,x_0.sum,x29,x_0.sum,x_0.nodes,x_0.budget,x_0.full⟩:S_l26Search))
  else ((loopO (spec_l26Search_run_l5 self x_0) (0,x_0.targets,x_0.stock,x_0.chosen,x_0.sum,x_0.best,x_0.least,x_0.nodes,x_0.budget,x_0.full)).bind fun o=>match o with
  | (.inl r2)=>(some r2)
  | (.inr r2)=>(some r2))
noncomputable def spec_l26Search_run (x_0:S_l26Search):Option S_l26Search:=fixO (fun self x_0=>spec_l26Search_run_F self x_0) x_0
noncomputable def spec_BestMatches (targets_0:(List S_Feature)) (stock_1:(List S_Feature)) (budget_2:Int):Option ((List Int)×Int×Int):=
 (spec_l26Ok targets_0).bind fun x11=>
   (if x11=true then
   ((spec_l26Ok stock_1).bind fun x15=>
   some (!x15))
   else (some true)).bind fun t_17_m1=>
   if t_17_m1=true then
   (some (([]:List Int),0,1))
   else ((spec_l00In budget_2 1 20000).bind fun x19=>
   if x19=true then
   (if (targets_0.length:Int) > (stock_1.length:Int) then
   (some (([]:List Int),0,6))
   else ((spec_l26Search_run (⟨targets_0,stock_1,([]:List Int),0,([]:List Int),(-1),0,budget_2,false⟩:S_l26Search)).bind fun x32=>
   if x32.full=true then
   (some (([]:List Int),0,5))
   else (some (x32.best,x32.least,0))))
   else (some (([]:List Int),0,2)))
noncomputable def impl_IsName_l4 (s_0:ByteArray) (i_3_l4:Int):Option (Int ⊕ (Unit ⊕ Bool)):=
 if i_3_l4< (s_0.size:Int) then
  ((bt s_0 i_3_l4).bind fun x30=>
  (if x30<97 then
  ((bt s_0 i_3_l4).bind fun x41=>
  if x41<48 then
  (some true)
  else ((bt s_0 i_3_l4).bind fun x46=>
  some (decide (x46>57))))
  else ((bt s_0 i_3_l4).bind fun x35=>
  if x35>122 then
  ((bt s_0 i_3_l4).bind fun x41=>
  if x41<48 then
  (some true)
  else ((bt s_0 i_3_l4).bind fun x46=>
  some (decide (x46>57))))
  else (some false))).bind fun t_49_m6=>
  if t_49_m6=true then
  (some (.inr (.inr false)))
  else (some (.inl (w64 (i_3_l4+1)))))
  else (some (.inr (.inl ())))
noncomputable def impl_IsName (s_0:ByteArray):Option Bool:=
 (if (s_0.size:Int) <1 then
   (some true)
   else (if (s_0.size:Int) >10 then
   (some true)
   else ((bt s_0 0).bind fun x14=>
   if x14<97 then
   (some true)
   else ((bt s_0 0).bind fun x19=>
   some (decide (x19>122)))))).bind fun t_21_m1=>
   if t_21_m1=true then
   (some false)
   else ((loopO (impl_IsName_l4 s_0) 0).bind fun o=>match o with
   | (.inl _)=>(some true)
   | (.inr r2)=>(some r2))
noncomputable def impl_within (n_0:Int) (low_1:Int) (high_2:Int):Option Bool:=
 some ((decide (n_0≥low_1))&&(decide (n_0≤high_2)))
noncomputable def impl_ValidFeature_c1 (n_0:Int):Option Bool:=
 (impl_within n_0 0 255).bind fun x4=>
   some (!x4)
noncomputable def slices_IndexFunc_int64_int64_l2 (f_1:(Int→Option Bool)) (s_0:(List Int)) (t_8_l2:Int):Option (Int ⊕ (Unit ⊕ Int)):=
 if t_8_l2< (s_0.length:Int) then
  ((rd s_0 t_8_l2).bind fun x14=>
  (f_1 x14).bind fun x16=>
  if x16=true then
  (some (.inr (.inr t_8_l2)))
  else (some (.inl (w64 (t_8_l2+1)))))
  else (some (.inr (.inl ())))
noncomputable def slices_IndexFunc_int64_int64 (s_0:(List Int)) (f_1:(Int→Option Bool)):Option Int:=
 (loopO (slices_IndexFunc_int64_int64_l2 f_1 s_0) 0).bind fun o=>match o with
   | (.inl _)=>(some (-1))
   | (.inr r2)=>(some r2)
noncomputable def slices_ContainsFunc_int64_int64 (s_0:(List Int)) (f_1:(Int→Option Bool)):Option Bool:=
 (slices_IndexFunc_int64_int64 s_0 f_1).bind fun x7=>
   some (decide (x7≥0))
noncomputable def impl_ValidFeature (f_0:S_Feature):Option Bool:=
 (impl_IsName f_0.Id).bind fun x5=>
   (if x5=true then
   (if (f_0.Values.length:Int)=6 then
   ((slices_ContainsFunc_int64_int64 f_0.Values (fun a0=>impl_ValidFeature_c1 a0)).bind fun x15=>
   some (!x15))
   else (some false))
   else (some false)).bind fun t_2_m1=>
   some t_2_m1
noncomputable def impl_ValidFeatures_l2 (list_0:(List S_Feature)) (t_7_l2:Int):Option (Int ⊕ (Unit ⊕ Bool)):=
 if t_7_l2< (list_0.length:Int) then
  ((rd list_0 t_7_l2).bind fun x10=>
  (impl_ValidFeature x10).bind fun x13=>
  (if x13=true then
  (if t_7_l2>0 then
  ((rd list_0 (w64 (t_7_l2 - 1))).bind fun x22=>
  some (!Op.bytesLess x22.Id.toList x10.Id.toList))
  else (some false))
  else (some true)).bind fun t_29_m4=>
  if t_29_m4=true then
  (some (.inr (.inr false)))
  else (some (.inl (w64 (t_7_l2+1)))))
  else (some (.inr (.inl ())))
noncomputable def impl_ValidFeatures (list_0:(List S_Feature)):Option Bool:=
 (loopO (impl_ValidFeatures_l2 list_0) 0).bind fun o=>match o with
   | (.inl _)=>(some (decide ((list_0.length:Int)≤16)))
   | (.inr r2)=>(some r2)
noncomputable def impl_matchesCode (targets_0:(List S_Feature)) (stock_1:(List S_Feature)) (budget_2:Int):Option Int:=
 (impl_ValidFeatures targets_0).bind fun x9=>
   (if x9=true then
   ((impl_ValidFeatures stock_1).bind fun x13=>
   some (!x13))
   else (some true)).bind fun t_7_m1=>
   if t_7_m1=true then
   (some 1)
   else ((impl_within budget_2 1 20000).bind fun x18=>
   if x18=true then
   (if (targets_0.length:Int) > (stock_1.length:Int) then
   (some 6)
   else (some 0))
   else (some 2))
noncomputable def slices_Index_int64_int64_l2 (s_0:(List Int)) (v_1:Int) (t_8_l2:Int):Option (Int ⊕ (Unit ⊕ Int)):=
 if t_8_l2< (s_0.length:Int) then
  ((rd s_0 t_8_l2).bind fun x14=>
  if v_1=x14 then
  (some (.inr (.inr t_8_l2)))
  else (some (.inl (w64 (t_8_l2+1)))))
  else (some (.inr (.inl ())))
noncomputable def slices_Index_int64_int64 (s_0:(List Int)) (v_1:Int):Option Int:=
 (loopO (slices_Index_int64_int64_l2 s_0 v_1) 0).bind fun o=>match o with
   | (.inl _)=>(some (-1))
   | (.inr r2)=>(some r2)
noncomputable def slices_Contains_int64_int64 (s_0:(List Int)) (v_1:Int):Option Bool:=
 (slices_Index_int64_int64 s_0 v_1).bind fun x7=>
   some (decide (x7≥0))
noncomputable def impl_absolute (n_0:Int):Option Int:=
 some (max2 n_0 (w64 (0 - n_0)))
noncomputable def impl_featureDistance_l3 (a_0:S_Feature) (b_1:S_Feature) (s:(Int×Int)):Option ((Int×Int) ⊕ Int):=
 match s with
  | (sum_5_l3,t_11_l3)=>
  if t_11_l3< (a_0.Values.length:Int) then
  ((rd a_0.Values t_11_l3).bind fun x14=>
  (rd b_1.Values t_11_l3).bind fun x21=>
  (impl_absolute (w64 (x14 - x21))).bind fun x24=>
  some (.inl ((w64 (sum_5_l3+x24)),(w64 (t_11_l3+1)))))
  else (some (.inr sum_5_l3))
noncomputable def impl_featureDistance (a_0:S_Feature) (b_1:S_Feature):Option Int:=
 (loopO (impl_featureDistance_l3 a_0 b_1) (0,0)).bind fun sum_5_e0_3=>
   some sum_5_e0_3
noncomputable def impl_matchSearch_run_k15 (self:(S_matchSearch×(List Int)×Int)→Option (Bool×S_matchSearch)) (t_34_l5:Int) (s_o0_0_r15:(List S_Feature)) (s_o0_1_r15:(List S_Feature)) (s_o0_2_r15:Int) (s_o0_3_r15:Bool) (s_o0_4_r15:(List Int)) (s_o0_5_r15:Int):Option ((Int×(List S_Feature)×(List S_Feature)×Int×Bool×(List Int)×Int) ⊕ (((List S_Feature)×(List S_Feature)×Int×Bool×(List Int)×Int) ⊕ (Bool×S_matchSearch))):=
 some (.inl ((w64 (t_34_l5+1)),s_o0_0_r15,s_o0_1_r15,s_o0_2_r15,s_o0_3_r15,s_o0_4_r15,s_o0_5_r15))
noncomputable def impl_matchSearch_run_l5 (self:(S_matchSearch×(List Int)×Int)→Option (Bool×S_matchSearch)) (matches_1:(List Int)) (s_0:S_matchSearch) (sum_2:Int) (s:(Int×(List S_Feature)×(List S_Feature)×Int×Bool×(List Int)×Int)):Option ((Int×(List S_Feature)×(List S_Feature)×Int×Bool×(List Int)×Int) ⊕ (((List S_Feature)×(List S_Feature)×Int×Bool×(List Int)×Int) ⊕ (Bool×S_matchSearch))):=
 match s with
  | (t_34_l5,s_o0_0_l5,s_o0_1_l5,s_o0_2_l5,s_o0_3_l5,s_o0_4_l5,s_o0_5_l5)=>
  if t_34_l5< (s_0.stock.length:Int) then
  ((rd s_0.stock t_34_l5).bind fun x37=>
  (slices_Contains_int64_int64 matches_1 t_34_l5).bind fun x41=>
  if x41=true then
  (impl_matchSearch_run_k15 self t_34_l5 s_o0_0_l5 s_o0_1_l5 s_o0_2_l5 s_o0_3_l5 s_o0_4_l5 s_o0_5_l5)
  else ((rd s_o0_0_l5 (matches_1.length:Int)).bind fun x49=>
  (impl_featureDistance x49 x37).bind fun x52=>
  if (s_o0_3_l5=true∧(w64 (sum_2+x52))≥s_o0_5_l5) then
  (impl_matchSearch_run_k15 self t_34_l5 s_o0_0_l5 s_o0_1_l5 s_o0_2_l5 s_o0_3_l5 s_o0_4_l5 s_o0_5_l5)
  else (if s_o0_2_l5=0 then
  (some (.inr (.inr (true,(⟨s_o0_0_l5,s_o0_1_l5,s_o0_2_l5,s_o0_3_l5,s_o0_4_l5,s_o0_5_l5⟩:S_matchSearch)))))
  else ((apd 8 ([]:List Int) matches_1).bind fun x80=>
  (apd 8 x80 ([t_34_l5]:List Int)).bind fun x83=>
  (self ((⟨s_o0_0_l5,s_o0_1_l5,(w64 (s_o0_2_l5 - 1)),s_o0_3_l5,s_o0_4_l5,s_o0_5_l5⟩:S_matchSearch),x83,(w64 (sum_2+x52)))).bind fun x85=>
  if x85.1=true then
  (some (.inr (.inr (true,x85.2))))
  else (impl_matchSearch_run_k15 self t_34_l5 x85.2.targets x85.2.stock x85.2.left x85.2.found x85.2.best x85.2.least)))))
  else (some (.inr (.inl (s_o0_0_l5,s_o0_1_l5,s_o0_2_l5,s_o0_3_l5,s_o0_4_l5,s_o0_5_l5))))
noncomputable def impl_matchSearch_run_F (self:(S_matchSearch×(List Int)×Int)→Option (Bool×S_matchSearch)) (s_0:S_matchSearch) (matches_1:(List Int)) (sum_2:Int):Option (Bool×S_matchSearch):=
 if (matches_1.length:Int)=(s_0.targets.length:Int) then
  (some (false,(⟨s_0.targets,s_0.stock,s_0.left,true,matches_1,sum_2⟩:S_matchSearch)))
  else ((loopO (impl_matchSearch_run_l5 self matches_1 s_0 sum_2) (0,s_0.targets,s_0.stock,s_0.left,s_0.found,s_0.best,s_0.least)).bind fun o=>match o with
  | (.inl (s_o0_0_e0_5,s_o0_1_e0_5,s_o0_2_e0_5,s_o0_3_e0_5,s_o0_4_e0_5,s_o0_5_e0_5))=>(some (false,(⟨s_o0_0_e0_5,s_o0_1_e0_5,s_o0_2_e0_5,s_o0_3_e0_5,s_o0_4_e0_5,s_o0_5_e0_5⟩:S_matchSearch)))
  | (.inr r2)=>(some r2))
noncomputable def impl_matchSearch_run (s_0:S_matchSearch) (matches_1:(List Int)) (sum_2:Int):Option (Bool×S_matchSearch):=fixO (fun self s=>match s with | (s_0,matches_1,sum_2)=>impl_matchSearch_run_F self s_0 matches_1 sum_2) (s_0,matches_1,sum_2)
noncomputable def impl_BestMatches (targets_0:(List S_Feature)) (stock_1:(List S_Feature)) (budget_2:Int):Option ((List Int)×Int×Int):=
 (impl_matchesCode targets_0 stock_1 budget_2).bind fun x14=>
   if x14≠0 then
   (some (([]:List Int),0,x14))
   else ((impl_matchSearch_run (⟨targets_0,stock_1,budget_2,false,([]:List Int),0⟩:S_matchSearch) ([]:List Int) 0).bind fun x24=>
   if x24.1=true then
   (some (([]:List Int),0,5))
   else (some (x24.2.best,x24.2.least,0)))
noncomputable def laws_eqInt64S_l4 (a_0:(List Int)) (b_1:(List Int)) (i_5_l4:Int):Option (Int ⊕ (Unit ⊕ Bool)):=
 if i_5_l4< (a_0.length:Int) then
  ((rd a_0 i_5_l4).bind fun x19=>
  (rd b_1 i_5_l4).bind fun x23=>
  if x19≠x23 then
  (some (.inr (.inr false)))
  else (some (.inl (w64 (i_5_l4+1)))))
  else (some (.inr (.inl ())))
noncomputable def laws_eqInt64S (a_0:(List Int)) (b_1:(List Int)):Option Bool:=
 if (a_0.length:Int)≠(b_1.length:Int) then
  (some false)
  else ((loopO (laws_eqInt64S_l4 a_0 b_1) 0).bind fun o=>match o with
  | (.inl _)=>(some true)
  | (.inr r2)=>(some r2))
noncomputable def laws_eqFeature (a_0:S_Feature) (b_1:S_Feature):Option Bool:=
 if ¬(a_0.Id=b_1.Id) then
  (some false)
  else ((laws_eqInt64S a_0.Values b_1.Values).bind fun x14=>
  if x14=true then
  (some true)
  else (some false))
noncomputable def laws_eqFeatureS_l4 (a_0:(List S_Feature)) (b_1:(List S_Feature)) (i_5_l4:Int):Option (Int ⊕ (Unit ⊕ Bool)):=
 if i_5_l4< (a_0.length:Int) then
  ((rd a_0 i_5_l4).bind fun x19=>
  (rd b_1 i_5_l4).bind fun x23=>
  (laws_eqFeature x19 x23).bind fun x25=>
  if x25=true then
  (some (.inl (w64 (i_5_l4+1))))
  else (some (.inr (.inr false))))
  else (some (.inr (.inl ())))
noncomputable def laws_eqFeatureS (a_0:(List S_Feature)) (b_1:(List S_Feature)):Option Bool:=
 if (a_0.length:Int)≠(b_1.length:Int) then
  (some false)
  else ((loopO (laws_eqFeatureS_l4 a_0 b_1) 0).bind fun o=>match o with
  | (.inl _)=>(some true)
  | (.inr r2)=>(some r2))
noncomputable def laws_markText_l4 (s:(Int×ByteArray)):Option ((Int×ByteArray) ⊕ ByteArray):=
 match s with
  | (k_0_l4,out_3_l4)=>
  if k_0_l4>0 then
  ((md k_0_l4 10).bind fun x9=>
  (cat (strOf ([(IntKind.wrap .u8 ((w64 (48+x9))))]:List Int)) out_3_l4).bind fun x15=>
  (dv .i64 k_0_l4 10).bind fun x17=>
  some (.inl (x17,x15)))
  else (some (.inr out_3_l4))
noncomputable def laws_markText (k_0:Int):Option ByteArray:=
 if k_0≤0 then
  (some (⟨#[109,48]⟩:ByteArray))
  else ((loopO (laws_markText_l4) (k_0,(⟨#[]⟩:ByteArray))).bind fun out_3_e0_4=>
  (cat (⟨#[109]⟩:ByteArray) out_3_e0_4).bind fun x19=>
  some x19)
noncomputable def laws_markInt64S_ws_l2 (a_0:(List Int)) (s:(Int×Int)):Option ((Int×Int) ⊕ Int):=
 match s with
  | (k_1_l2,i_5_l2)=>
  if i_5_l2< (a_0.length:Int) then
  ((rd a_0 i_5_l2).bind fun x15=>
  some (.inl ((w64 (k_1_l2+1)),(w64 (i_5_l2+1)))))
  else (some (.inr k_1_l2))
noncomputable def laws_markInt64S_ws (a_0:(List Int)) (k_1:Int):Option Int:=
 (loopO (laws_markInt64S_ws_l2 a_0) (k_1,0)).bind fun k_1_e0_2=>
   some k_1_e0_2
noncomputable def laws_markFeatureS_l2 (a_0:(List S_Feature)) (s:(Int×Int)):Option ((Int×Int) ⊕ Int):=
 match s with
  | (k_1_l2,i_5_l2)=>
  if i_5_l2< (a_0.length:Int) then
  ((laws_markText k_1_l2).bind fun x15=>
  (rd a_0 i_5_l2).bind fun x16=>
  (rd a_0 i_5_l2).bind fun x22=>
  (laws_markInt64S_ws x22.Values (w64 (k_1_l2+1))).bind fun x26=>
  some (.inl (x26,(w64 (i_5_l2+1)))))
  else (some (.inr k_1_l2))
noncomputable def laws_markFeatureS (a_0:(List S_Feature)) (k_1:Int):Option Int:=
 (loopO (laws_markFeatureS_l2 a_0) (k_1,0)).bind fun k_1_e0_2=>
   some k_1_e0_2
noncomputable def laws_markInt64S_l2 (s:(Int×Int×(List Int))):Option ((Int×Int×(List Int)) ⊕ (Int×(List Int))):=
 match s with
  | (k_1_l2,i_5_l2,a_o0_l2)=>
  if i_5_l2< (a_o0_l2.length:Int) then
  ((rd a_o0_l2 i_5_l2).bind fun x15=>
  some (.inl ((w64 (k_1_l2+1)),(w64 (i_5_l2+1)),(a_o0_l2.set i_5_l2.toNat k_1_l2))))
  else (some (.inr (k_1_l2,a_o0_l2)))
noncomputable def laws_markInt64S (a_0:(List Int)) (k_1:Int):Option (Int×(List Int)):=
 (loopO (laws_markInt64S_l2) (k_1,0,a_0)).bind fun o=>match o with
   | (k_1_e0_2,a_o0_e0_2)=>
   some (k_1_e0_2,a_o0_e0_2)
noncomputable def laws_heldInt64S_l2 (a_0:(List Int)) (s:(Int×Int)):Option ((Int×Int) ⊕ (Int ⊕ Int)):=
 match s with
  | (k_1_l2,i_5_l2)=>
  if i_5_l2< (a_0.length:Int) then
  ((rd a_0 i_5_l2).bind fun x14=>
  if x14≠k_1_l2 then
  (some (.inr (.inr (-1))))
  else (some (.inl ((w64 (k_1_l2+1)),(w64 (i_5_l2+1))))))
  else (some (.inr (.inl k_1_l2)))
noncomputable def laws_heldInt64S (a_0:(List Int)) (k_1:Int):Option Int:=
 (loopO (laws_heldInt64S_l2 a_0) (k_1,0)).bind fun o=>match o with
   | (.inl k_1_e0_2)=>(some k_1_e0_2)
   | (.inr r2)=>(some r2)
noncomputable def laws_FnExactBestMatches (aTargets_0:(List S_Feature)) (aStock_1:(List S_Feature)) (aBudget_2:Int):Option Bool:=
 (laws_szFeatureS aTargets_0 1048576).bind fun x24=>
   if x24<0 then
   (some true)
   else ((laws_szFeatureS aStock_1 x24).bind fun x29=>
   if x29<0 then
   (some true)
   else ((laws_toFeatureS aTargets_0).bind fun x34=>
   (laws_toFeatureS aStock_1).bind fun x36=>
   (spec_BestMatches x34 x36 aBudget_2).bind fun x38=>
   (laws_toFeatureS aTargets_0).bind fun x43=>
   (laws_toFeatureS aStock_1).bind fun x45=>
   (impl_BestMatches x43 x45 aBudget_2).bind fun x50=>
   (laws_eqInt64S x50.1 x38.1).bind fun x56=>
   if (¬(x56=true)∨(x50.2.1≠x38.2.1∨x50.2.2≠x38.2.2)) then
   (some false)
   else ((laws_toFeatureS aTargets_0).bind fun x70=>
   (laws_eqFeatureS x43 x70).bind fun x71=>
   if x71=true then
   ((laws_toFeatureS aStock_1).bind fun x75=>
   (laws_eqFeatureS x45 x75).bind fun x76=>
   if x76=true then
   ((laws_markFeatureS x43 1).bind fun x80=>
   (laws_markFeatureS x45 x80).bind fun x83=>
   (if x83<0 then
   (some true)
   else ((laws_eqInt64S x50.1 x38.1).bind fun x89=>
   if x89=true then
   (if x50.2.1≠x38.2.1 then
   (some true)
   else (some (x50.2.2 != x38.2.2)))
   else (some true))).bind fun t_101_m21=>
   if t_101_m21=true then
   (some false)
   else ((laws_markInt64S x50.1 1).bind fun x104=>
   (laws_heldInt64S x104.2 1).bind fun x107=>
   if x107<0 then
   (some false)
   else (if x107≠x104.1 then
   (some false)
   else ((laws_toFeatureS aTargets_0).bind fun x115=>
   (laws_toFeatureS aStock_1).bind fun x117=>
   (impl_BestMatches x115 x117 aBudget_2).bind fun x119=>
   (laws_eqInt64S x119.1 x38.1).bind fun x125=>
   if (¬(x125=true)∨(x119.2.1≠x38.2.1∨x119.2.2≠x38.2.2)) then
   (some false)
   else ((laws_heldInt64S x104.2 1).bind fun x139=>
   if x139<0 then
   (some false)
   else (if x139≠x104.1 then
   (some false)
   else (some true)))))))
   else (some false))
   else (some false))))
end Go.Pw
