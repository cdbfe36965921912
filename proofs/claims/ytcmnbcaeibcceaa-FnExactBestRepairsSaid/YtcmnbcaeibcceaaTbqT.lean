/- Plain functions that answer what the program's functions answer. Conditions: none; definitions alone. -/
import Derived.Test.YtcmnbcaeibcceaaSimPw
namespace Go.Pw
open Go.Sim (min2 max2)
set_option linter.unusedVariables false
structure S_Veneer where
 Species:ByteArray
 Shade:Int
 Grain:Int
structure S_Loss where
 Name:ByteArray
 Veneer:S_Veneer
 Area:Int
 Priority:Int
 Cost:Int
 Minutes:Int
structure S_l25Search where
 list:(List S_Loss)
 chosen:(List Int)
 best:(List Int)
 most:Int
 nodes:Int
 budget:Int
structure S_repairSearch where
 list:(List S_Loss)
 left:Int
 best:(List Int)
 most:Int
noncomputable def laws_szVeneer (a_0:S_Veneer) (left_1:Int):Option Int:=
 if (w64 (left_1 - (a_0.Species.size:Int))) <0 then
  (some (-1))
  else (some (w64 (left_1 - (a_0.Species.size:Int))))
noncomputable def laws_szLoss (a_0:S_Loss) (left_1:Int):Option Int:=
 if (w64 (left_1 - (a_0.Name.size:Int))) <0 then
  (some (-1))
  else ((laws_szVeneer a_0.Veneer (w64 (left_1 - (a_0.Name.size:Int)))).bind fun x15=>
  if x15<0 then
  (some (-1))
  else (some x15))
noncomputable def laws_szLossS_l5 (a_0:(List S_Loss)) (s:(Int×Int)):Option ((Int×Int) ⊕ (Int ⊕ Int)):=
 match s with
  | (left_1_l5,i_5_l5)=>
  if i_5_l5< (a_0.length:Int) then
  ((rd a_0 i_5_l5).bind fun x20=>
  (laws_szLoss x20 left_1_l5).bind fun x23=>
  if x23<0 then
  (some (.inr (.inr (-1))))
  else (some (.inl (x23,(w64 (i_5_l5+1))))))
  else (some (.inr (.inl left_1_l5)))
noncomputable def laws_szLossS (a_0:(List S_Loss)) (left_1:Int):Option Int:=
 if (w64 (left_1 - (a_0.length:Int))) <0 then
  (some (-1))
  else ((loopO (laws_szLossS_l5 a_0) ((w64 (left_1 - (a_0.length:Int))),0)).bind fun o=>match o with
  | (.inl left_1_e0_5)=>(some left_1_e0_5)
  | (.inr r2)=>(some r2))
noncomputable def laws_toVeneer (a_0:S_Veneer):Option S_Veneer:=
 some a_0
noncomputable def laws_toLoss (a_0:S_Loss):Option S_Loss:=
 (laws_toVeneer a_0.Veneer).bind fun x9=>
   some (⟨a_0.Name,x9,a_0.Area,a_0.Priority,a_0.Cost,a_0.Minutes⟩:S_Loss)
noncomputable def laws_toLossS_l3 (a_0:(List S_Loss)) (s:(Int×(List S_Loss))):Option ((Int×(List S_Loss)) ⊕ (List S_Loss)):=
 match s with
  | (i_4_l3,out_o3_l3)=>
  if i_4_l3< (a_0.length:Int) then
  ((rd a_0 i_4_l3).bind fun x18=>
  (laws_toLoss x18).bind fun x20=>
  (rd out_o3_l3 i_4_l3).bind fun x21=>
  some (.inl ((w64 (i_4_l3+1)),(out_o3_l3.set i_4_l3.toNat x20))))
  else (some (.inr out_o3_l3))
noncomputable def laws_toLossS (a_0:(List S_Loss)):Option (List S_Loss):=
 (mkl 80 (a_0.length:Int) (⟨(⟨#[]⟩:ByteArray),(⟨(⟨#[]⟩:ByteArray),0,0⟩:S_Veneer),0,0,0,0⟩:S_Loss)).bind fun x7=>
   (loopO (laws_toLossS_l3 a_0) (0,x7)).bind fun out_o3_e0_3=>
   some out_o3_e0_3
noncomputable def spec_l01Small (c_0:Int):Option Bool:=
 some ((decide (c_0≥97))&&(decide (c_0≤122)))
noncomputable def spec_l01Digit (c_0:Int):Option Bool:=
 some ((decide (c_0≥48))&&(decide (c_0≤57)))
noncomputable def spec_l01Name_l4 (s_0:ByteArray) (i_3_l4:Int):Option (Int ⊕ (Unit ⊕ Bool)):=
 if i_3_l4< (s_0.size:Int) then
  ((bt s_0 i_3_l4).bind fun x25=>
  (spec_l01Small x25).bind fun x26=>
  (if x26=true then
  (some false)
  else ((bt s_0 i_3_l4).bind fun x31=>
  (spec_l01Digit x31).bind fun x32=>
  some (!x32))).bind fun t_34_m6=>
  if t_34_m6=true then
  (some (.inr (.inr false)))
  else (some (.inl (w64 (i_3_l4+1)))))
  else (some (.inr (.inl ())))
noncomputable def spec_l01Name (s_0:ByteArray):Option Bool:=
 (if s_0=(⟨#[]⟩:ByteArray) then
   (some true)
   else (if (s_0.size:Int) >10 then
   (some true)
   else ((bt s_0 0).bind fun x13=>
   (spec_l01Small x13).bind fun x14=>
   some (!x14)))).bind fun t_16_m1=>
   if t_16_m1=true then
   (some false)
   else ((loopO (spec_l01Name_l4 s_0) 0).bind fun o=>match o with
   | (.inl _)=>(some true)
   | (.inr r2)=>(some r2))
noncomputable def spec_l07Names:Option (List ByteArray):=
 some ([(⟨#[97,115,104]⟩:ByteArray),(⟨#[98,101,101,99,104]⟩:ByteArray),(⟨#[98,105,114,99,104]⟩:ByteArray),(⟨#[99,104,101,114,114,121]⟩:ByteArray),(⟨#[101,98,111,110,121]⟩:ByteArray),(⟨#[104,111,108,108,121]⟩:ByteArray),(⟨#[109,97,112,108,101]⟩:ByteArray),(⟨#[111,97,107]⟩:ByteArray),(⟨#[114,111,115,101,119,111,111,100]⟩:ByteArray),(⟨#[119,97,108,110,117,116]⟩:ByteArray)]:List ByteArray)
noncomputable def spec_l07Find_l3 (name_0:ByteArray) (x5:(List ByteArray)) (i_4_l3:Int):Option (Int ⊕ (Unit ⊕ Int)):=
 if i_4_l3< (x5.length:Int) then
  ((rd x5 i_4_l3).bind fun x14=>
  if x14=name_0 then
  (some (.inr (.inr i_4_l3)))
  else (some (.inl (w64 (i_4_l3+1)))))
  else (some (.inr (.inl ())))
noncomputable def spec_l07Find (name_0:ByteArray):Option Int:=
 (spec_l07Names).bind fun x5=>
   (loopO (spec_l07Find_l3 name_0 x5) 0).bind fun o=>match o with
   | (.inl _)=>(some (-1))
   | (.inr r2)=>(some r2)
noncomputable def spec_l00In (n_0:Int) (low_1:Int) (high_2:Int):Option Bool:=
 some ((decide (n_0≥low_1))&&(decide (n_0≤high_2)))
noncomputable def spec_l07Table:Option (List (List Int)):=
 some ([([20,40,310]:List Int),([35,45,410]:List Int),([15,33,280]:List Int),([50,36,240]:List Int),([95,85,270]:List Int),([5,35,370]:List Int),([10,42,290]:List Int),([40,40,330]:List Int),([80,60,220]:List Int),([70,38,260]:List Int)]:List (List Int))
noncomputable def spec_l07Grain (g_0:Int):Option Bool:=
 (spec_l00In g_0 0 179).bind fun x4=>
   some x4
noncomputable def spec_l07Ok (v_0:S_Veneer):Option Bool:=
 (spec_l07Find v_0.Species).bind fun x9=>
   (if x9<0 then
   (some true)
   else ((spec_l00In v_0.Shade 0 100).bind fun x17=>
   some (!x17))).bind fun t_19_m2=>
   if t_19_m2=true then
   (some false)
   else ((spec_l07Table).bind fun x20=>
   (rd x20 x9).bind fun x22=>
   (rd x22 0).bind fun x24=>
   (spec_l00In v_0.Shade (w64 (x24 - 15)) (w64 (x24+15))).bind fun x34=>
   (if x34=true then
   ((spec_l07Grain v_0.Grain).bind fun x40=>
   some x40)
   else (some false)).bind fun t_2_m5=>
   some t_2_m5)
noncomputable def spec_l25One (x_0:S_Loss):Option Bool:=
 (spec_l01Name x_0.Name).bind fun x7=>
   (if x7=true then
   ((spec_l07Ok x_0.Veneer).bind fun x12=>
   if x12=true then
   ((spec_l00In x_0.Area 1 400000000).bind fun x19=>
   if x19=true then
   ((spec_l00In x_0.Priority 1 9).bind fun x26=>
   if x26=true then
   ((spec_l00In x_0.Cost 0 1000000).bind fun x33=>
   if x33=true then
   ((spec_l00In x_0.Minutes 0 10000).bind fun x40=>
   some x40)
   else (some false))
   else (some false))
   else (some false))
   else (some false))
   else (some false)).bind fun t_2_m1=>
   some t_2_m1
noncomputable def spec_l25Ok_l2 (list_0:(List S_Loss)) (i_3_l2:Int):Option (Int ⊕ (Unit ⊕ Bool)):=
 if i_3_l2< (list_0.length:Int) then
  ((rd list_0 i_3_l2).bind fun x12=>
  (spec_l25One x12).bind fun x13=>
  (if x13=true then
  (if i_3_l2>0 then
  ((rd list_0 (w64 (i_3_l2 - 1))).bind fun x22=>
  (rd list_0 i_3_l2).bind fun x27=>
  some (!Op.bytesLess x22.Name.toList x27.Name.toList))
  else (some false))
  else (some true)).bind fun t_32_m4=>
  if t_32_m4=true then
  (some (.inr (.inr false)))
  else (some (.inl (w64 (i_3_l2+1)))))
  else (some (.inr (.inl ())))
noncomputable def spec_l25Ok (list_0:(List S_Loss)):Option Bool:=
 (loopO (spec_l25Ok_l2 list_0) 0).bind fun o=>match o with
   | (.inl _)=>(some (decide ((list_0.length:Int)≤16)))
   | (.inr r2)=>(some r2)
noncomputable def spec_l25Limits (money_0:Int) (minutes_1:Int):Option Bool:=
 (spec_l00In money_0 0 16000000).bind fun x6=>
   (if x6=true then
   ((spec_l00In minutes_1 0 160000).bind fun x9=>
   some x9)
   else (some false)).bind fun t_4_m1=>
   some t_4_m1
noncomputable def spec_l00Own (list_0:(List Int)):Option (List Int):=
 (apd 8 ([]:List Int) list_0).bind fun x5=>
   some x5
noncomputable def spec_l25Search_visit_k7 (self:(S_l25Search×Int×Int×Int×Int)→Option S_l25Search) (i_10_l6:Int) (x_o0_0_r7:(List S_Loss)) (x_o0_1_r7:(List Int)) (x_o0_2_r7:(List Int)) (x_o0_3_r7:Int) (x_o0_4_r7:Int) (x_o0_5_r7:Int):Option ((Int×(List S_Loss)×(List Int)×(List Int)×Int×Int×Int) ⊕ S_l25Search):=
 some (.inl ((w64 (i_10_l6+1)),x_o0_0_r7,x_o0_1_r7,x_o0_2_r7,x_o0_3_r7,x_o0_4_r7,x_o0_5_r7))
noncomputable def spec_l25Search_visit_l6 (self:(S_l25Search×Int×Int×Int×Int)→Option S_l25Search) (minutes_4:Int) (money_3:Int) (sum_2:Int) (s:(Int×(List S_Loss)×(List Int)×(List Int)×Int×Int×Int)):Option ((Int×(List S_Loss)×(List Int)×(List Int)×Int×Int×Int) ⊕ S_l25Search):=
 match s with
  | (i_10_l6,x_o0_0_l6,x_o0_1_l6,x_o0_2_l6,x_o0_3_l6,x_o0_4_l6,x_o0_5_l6)=>
  if i_10_l6< (x_o0_0_l6.length:Int) then
  ((rd x_o0_0_l6 i_10_l6).bind fun x61=>
  if (x61.Cost>money_3∨x61.Minutes>minutes_4) then
  (spec_l25Search_visit_k7 self i_10_l6 x_o0_0_l6 x_o0_1_l6 x_o0_2_l6 x_o0_3_l6 x_o0_4_l6 x_o0_5_l6)
  else ((apd 8 x_o0_1_l6 ([i_10_l6]:List Int)).bind fun x80=>
  (self ((⟨x_o0_0_l6,x80,x_o0_2_l6,x_o0_3_l6,x_o0_4_l6,x_o0_5_l6⟩:S_l25Search),(w64 (i_10_l6+1)),(w64 (sum_2+x61.Priority)),(w64 (money_3 - x61.Cost)),(w64 (minutes_4 - x61.Minutes)))).bind fun x98=>
  (slc x98.chosen 0 (w64 ((x98.chosen.length:Int) - 1))).bind fun x110=>
  spec_l25Search_visit_k7 self i_10_l6 x98.list ((x98.chosen.take ((w64 ((x98.chosen.length:Int) - 1)).toNat)).drop 0) x98.best x98.most x98.nodes x98.budget))
  else (some (.inr (⟨x_o0_0_l6,x_o0_1_l6,x_o0_2_l6,x_o0_3_l6,x_o0_4_l6,x_o0_5_l6⟩:S_l25Search)))
noncomputable def spec_l25Search_visit_k5 (self:(S_l25Search×Int×Int×Int×Int)→Option S_l25Search) (from_1:Int) (minutes_4:Int) (money_3:Int) (sum_2:Int) (x_0:S_l25Search) (x_o0_2_r5:(List Int)) (x_o0_3_r5:Int):Option S_l25Search:=
 (loopO (spec_l25Search_visit_l6 self minutes_4 money_3 sum_2) (from_1,x_0.list,x_0.chosen,x_o0_2_r5,x_o0_3_r5,(w64 (x_0.nodes+1)),x_0.budget)).bind fun r2=>
   some r2
noncomputable def spec_l25Search_visit_F (self:(S_l25Search×Int×Int×Int×Int)→Option S_l25Search) (x_0:S_l25Search) (from_1:Int) (sum_2:Int) (money_3:Int) (minutes_4:Int):Option S_l25Search:=
 if (w64 (x_0.nodes+1)) >x_0.budget then
  (some (⟨x_0.list,x_0.chosen,x_0.best,x_0.most,(w64 (x_0.nodes+1)),x_0.budget⟩:S_l25Search))
  else (if sum_2>x_0.most then
  ((spec_l00Own x_0.chosen).bind fun x43=>
  spec_l25Search_visit_k5 self from_1 minutes_4 money_3 sum_2 x_0 x43 sum_2)
  else (spec_l25Search_visit_k5 self from_1 minutes_4 money_3 sum_2 x_0 x_0.best x_0.most))
noncomputable def spec_l25Search_visit (x_0:S_l25Search) (from_1:Int) (sum_2:Int) (money_3:Int) (minutes_4:Int):Option S_l25Search:=fixO (fun self s=>match s with | (x_0,from_1,sum_2,money_3,minutes_4)=>spec_l25Search_visit_F self x_0 from_1 sum_2 money_3 minutes_4) (x_0,from_1,sum_2,money_3,minutes_4)
noncomputable def spec_BestRepairs (list_0:(List S_Loss)) (money_1:Int) (minutes_2:Int) (budget_3:Int):Option ((List Int)×Int×Int):=
 (spec_l25Ok list_0).bind fun x13=>
   if x13=true then
   ((spec_l00In budget_3 1 20000).bind fun x16=>
   (if x16=true then
   ((spec_l25Limits money_1 minutes_2).bind fun x21=>
   some (!x21))
   else (some true)).bind fun t_23_m3=>
   if t_23_m3=true then
   (some (([]:List Int),0,2))
   else ((spec_l25Search_visit (⟨list_0,([]:List Int),([]:List Int),0,0,budget_3⟩:S_l25Search) 0 0 money_1 minutes_2).bind fun x31=>
   if x31.nodes>budget_3 then
   (some (([]:List Int),0,5))
   else ((spec_l00Own x31.best).bind fun x42=>
   some (x42,x31.most,0))))
   else (some (([]:List Int),0,1))
noncomputable def impl_IsName_l4 (s_0:ByteArray) (i_3_l4:Int):Option (Int ⊕ (Unit ⊕ Bool)):=
 if i_3_l4< (s_0.size:Int) then
  ((bt s_0 i_3_l4).bind fun x30=>
  (if x30<97 then
  ((bt s_0 i_3_l4).bind fun x41=>
  if x41<48 then
  (some true)
  else ((bt s_0 i_3_l4).bind fun x46=>
  some (decide (x46>57))))
  else ((bt s_0 i_3_l4).bind fun x35=>
  if x35>122 then
  ((bt s_0 i_3_l4).bind fun x41=>
  if x41<48 then
  (some true)
  else ((bt s_0 i_3_l4).bind fun x46=>
  some (decide (x46>57))))
  else (some false))).bind fun t_49_m6=>
  if t_49_m6=true then
  (some (.inr (.inr false)))
  else (some (.inl (w64 (i_3_l4+1)))))
  else (some (.inr (.inl ())))
noncomputable def impl_IsName (s_0:ByteArray):Option Bool:=
 (if (s_0.size:Int) <1 then
   (some true)
   else (if (s_0.size:Int) >10 then
   (some true)
   else ((bt s_0 0).bind fun x14=>
   if x14<97 then
   (some true)
   else ((bt s_0 0).bind fun x19=>
   some (decide (x19>122)))))).bind fun t_21_m1=>
   if t_21_m1=true then
   (some false)
   else ((loopO (impl_IsName_l4 s_0) 0).bind fun o=>match o with
   | (.inl _)=>(some true)
   | (.inr r2)=>(some r2))
noncomputable def impl_SpeciesData (name_0:ByteArray):Option (Int×Int×Int×Int):=
 if name_0=(⟨#[97,115,104]⟩:ByteArray) then
  (some (20,40,310,0))
  else (if name_0=(⟨#[98,101,101,99,104]⟩:ByteArray) then
  (some (35,45,410,0))
  else (if name_0=(⟨#[98,105,114,99,104]⟩:ByteArray) then
  (some (15,33,280,0))
  else (if name_0=(⟨#[99,104,101,114,114,121]⟩:ByteArray) then
  (some (50,36,240,0))
  else (if name_0=(⟨#[101,98,111,110,121]⟩:ByteArray) then
  (some (95,85,270,0))
  else (if name_0=(⟨#[104,111,108,108,121]⟩:ByteArray) then
  (some (5,35,370,0))
  else (if name_0=(⟨#[109,97,112,108,101]⟩:ByteArray) then
  (some (10,42,290,0))
  else (if name_0=(⟨#[111,97,107]⟩:ByteArray) then
  (some (40,40,330,0))
  else (if name_0=(⟨#[114,111,115,101,119,111,111,100]⟩:ByteArray) then
  (some (80,60,220,0))
  else (if name_0=(⟨#[119,97,108,110,117,116]⟩:ByteArray) then
  (some (70,38,260,0))
  else (some (0,0,0,3)))))))))))
noncomputable def impl_speciesShade (name_0:ByteArray):Option (Int×Bool):=
 (impl_SpeciesData name_0).bind fun x10=>
   some (x10.1,(x10.2.2.2==0))
noncomputable def impl_within (n_0:Int) (low_1:Int) (high_2:Int):Option Bool:=
 some ((decide (n_0≥low_1))&&(decide (n_0≤high_2)))
noncomputable def impl_ValidVeneer (v_0:S_Veneer):Option Bool:=
 (impl_speciesShade v_0.Species).bind fun x8=>
   (if x8.2=true then
   ((impl_within v_0.Shade 0 100).bind fun x15=>
   if x15=true then
   ((impl_within (w64 (v_0.Shade - x8.1)) (-15) 15).bind fun x22=>
   if x22=true then
   ((impl_within v_0.Grain 0 179).bind fun x27=>
   some x27)
   else (some false))
   else (some false))
   else (some false)).bind fun t_2_m2=>
   some t_2_m2
noncomputable def impl_ValidLoss (x_0:S_Loss):Option Bool:=
 (impl_IsName x_0.Name).bind fun x5=>
   (if x5=true then
   ((impl_ValidVeneer x_0.Veneer).bind fun x9=>
   if x9=true then
   ((impl_within x_0.Area 1 400000000).bind fun x14=>
   if x14=true then
   ((impl_within x_0.Priority 1 9).bind fun x19=>
   if x19=true then
   ((impl_within x_0.Cost 0 1000000).bind fun x24=>
   if x24=true then
   ((impl_within x_0.Minutes 0 10000).bind fun x29=>
   some x29)
   else (some false))
   else (some false))
   else (some false))
   else (some false))
   else (some false)).bind fun t_2_m1=>
   some t_2_m1
noncomputable def impl_ValidLosses_l2 (list_0:(List S_Loss)) (t_7_l2:Int):Option (Int ⊕ (Unit ⊕ Bool)):=
 if t_7_l2< (list_0.length:Int) then
  ((rd list_0 t_7_l2).bind fun x10=>
  (impl_ValidLoss x10).bind fun x13=>
  (if x13=true then
  (if t_7_l2>0 then
  ((rd list_0 (w64 (t_7_l2 - 1))).bind fun x22=>
  some (!Op.bytesLess x22.Name.toList x10.Name.toList))
  else (some false))
  else (some true)).bind fun t_29_m4=>
  if t_29_m4=true then
  (some (.inr (.inr false)))
  else (some (.inl (w64 (t_7_l2+1)))))
  else (some (.inr (.inl ())))
noncomputable def impl_ValidLosses (list_0:(List S_Loss)):Option Bool:=
 (loopO (impl_ValidLosses_l2 list_0) 0).bind fun o=>match o with
   | (.inl _)=>(some (decide ((list_0.length:Int)≤16)))
   | (.inr r2)=>(some r2)
noncomputable def impl_repairsCode (list_0:(List S_Loss)) (money_1:Int) (minutes_2:Int) (budget_3:Int):Option Int:=
 (impl_ValidLosses list_0).bind fun x11=>
   if x11=true then
   ((impl_within budget_3 1 20000).bind fun x15=>
   (if x15=true then
   ((impl_within money_1 0 16000000).bind fun x19=>
   if x19=true then
   ((impl_within minutes_2 0 160000).bind fun x24=>
   some (!x24))
   else (some true))
   else (some true)).bind fun t_13_m3=>
   if t_13_m3=true then
   (some 2)
   else (some 0))
   else (some 1)
noncomputable def impl_repairSearch_run_k8 (self:(S_repairSearch×(List Int)×Int×Int×Int×Int)→Option (Bool×S_repairSearch)) (k_13_l7:Int) (s_o0_0_r8:(List S_Loss)) (s_o0_1_r8:Int) (s_o0_2_r8:(List Int)) (s_o0_3_r8:Int):Option ((Int×(List S_Loss)×Int×(List Int)×Int) ⊕ (((List S_Loss)×Int×(List Int)×Int) ⊕ (Bool×S_repairSearch))):=
 some (.inl ((w64 (k_13_l7+1)),s_o0_0_r8,s_o0_1_r8,s_o0_2_r8,s_o0_3_r8))
noncomputable def impl_repairSearch_run_l7 (self:(S_repairSearch×(List Int)×Int×Int×Int×Int)→Option (Bool×S_repairSearch)) (choice_1:(List Int)) (minutes_5:Int) (money_4:Int) (priority_3:Int) (s:(Int×(List S_Loss)×Int×(List Int)×Int)):Option ((Int×(List S_Loss)×Int×(List Int)×Int) ⊕ (((List S_Loss)×Int×(List Int)×Int) ⊕ (Bool×S_repairSearch))):=
 match s with
  | (k_13_l7,s_o0_0_l7,s_o0_1_l7,s_o0_2_l7,s_o0_3_l7)=>
  if k_13_l7< (s_o0_0_l7.length:Int) then
  ((rd s_o0_0_l7 k_13_l7).bind fun x56=>
  if (x56.Cost>money_4∨x56.Minutes>minutes_5) then
  (impl_repairSearch_run_k8 self k_13_l7 s_o0_0_l7 s_o0_1_l7 s_o0_2_l7 s_o0_3_l7)
  else ((apd 8 ([]:List Int) choice_1).bind fun x70=>
  (apd 8 x70 ([k_13_l7]:List Int)).bind fun x73=>
  (self ((⟨s_o0_0_l7,s_o0_1_l7,s_o0_2_l7,s_o0_3_l7⟩:S_repairSearch),x73,(w64 (k_13_l7+1)),(w64 (priority_3+x56.Priority)),(w64 (money_4 - x56.Cost)),(w64 (minutes_5 - x56.Minutes)))).bind fun x88=>
  if x88.1=true then
  (some (.inr (.inr (true,x88.2))))
  else (impl_repairSearch_run_k8 self k_13_l7 x88.2.list x88.2.left x88.2.best x88.2.most)))
  else (some (.inr (.inl (s_o0_0_l7,s_o0_1_l7,s_o0_2_l7,s_o0_3_l7))))
noncomputable def impl_repairSearch_run_k6 (self:(S_repairSearch×(List Int)×Int×Int×Int×Int)→Option (Bool×S_repairSearch)) (choice_1:(List Int)) (from_2:Int) (minutes_5:Int) (money_4:Int) (priority_3:Int) (s_0:S_repairSearch) (s_o0_2_r6:(List Int)) (s_o0_3_r6:Int):Option (Bool×S_repairSearch):=
 (loopO (impl_repairSearch_run_l7 self choice_1 minutes_5 money_4 priority_3) (from_2,s_0.list,(w64 (s_0.left - 1)),s_o0_2_r6,s_o0_3_r6)).bind fun o=>match o with
   | (.inl (s_o0_0_e0_7,s_o0_1_e0_7,s_o0_2_e0_7,s_o0_3_e0_7))=>(some (false,(⟨s_o0_0_e0_7,s_o0_1_e0_7,s_o0_2_e0_7,s_o0_3_e0_7⟩:S_repairSearch)))
   | (.inr r2)=>(some r2)
noncomputable def impl_repairSearch_run_F (self:(S_repairSearch×(List Int)×Int×Int×Int×Int)→Option (Bool×S_repairSearch)) (s_0:S_repairSearch) (choice_1:(List Int)) (from_2:Int) (priority_3:Int) (money_4:Int) (minutes_5:Int):Option (Bool×S_repairSearch):=
 if s_0.left=0 then
  (some (true,s_0))
  else (if priority_3>s_0.most then
  (impl_repairSearch_run_k6 self choice_1 from_2 minutes_5 money_4 priority_3 s_0 choice_1 priority_3)
  else (impl_repairSearch_run_k6 self choice_1 from_2 minutes_5 money_4 priority_3 s_0 s_0.best s_0.most))
noncomputable def impl_repairSearch_run (s_0:S_repairSearch) (choice_1:(List Int)) (from_2:Int) (priority_3:Int) (money_4:Int) (minutes_5:Int):Option (Bool×S_repairSearch):=fixO (fun self s=>match s with | (s_0,choice_1,from_2,priority_3,money_4,minutes_5)=>impl_repairSearch_run_F self s_0 choice_1 from_2 priority_3 money_4 minutes_5) (s_0,choice_1,from_2,priority_3,money_4,minutes_5)
noncomputable def impl_BestRepairs (list_0:(List S_Loss)) (money_1:Int) (minutes_2:Int) (budget_3:Int):Option ((List Int)×Int×Int):=
 (impl_repairsCode list_0 money_1 minutes_2 budget_3).bind fun x17=>
   if x17≠0 then
   (some (([]:List Int),0,x17))
   else ((impl_repairSearch_run (⟨list_0,budget_3,([]:List Int),0⟩:S_repairSearch) ([]:List Int) 0 0 money_1 minutes_2).bind fun x28=>
   if x28.1=true then
   (some (([]:List Int),0,5))
   else (some (x28.2.best,x28.2.most,0)))
noncomputable def laws_eqInt64S_l4 (a_0:(List Int)) (b_1:(List Int)) (i_5_l4:Int):Option (Int ⊕ (Unit ⊕ Bool)):=
 if i_5_l4< (a_0.length:Int) then
  ((rd a_0 i_5_l4).bind fun x19=>
  (rd b_1 i_5_l4).bind fun x23=>
  if x19≠x23 then
  (some (.inr (.inr false)))
  else (some (.inl (w64 (i_5_l4+1)))))
  else (some (.inr (.inl ())))
noncomputable def laws_eqInt64S (a_0:(List Int)) (b_1:(List Int)):Option Bool:=
 if (a_0.length:Int)≠(b_1.length:Int) then
  (some false)
  else ((loopO (laws_eqInt64S_l4 a_0 b_1) 0).bind fun o=>match o with
  | (.inl _)=>(some true)
  | (.inr r2)=>(some r2))
noncomputable def laws_eqVeneer (a_0:S_Veneer) (b_1:S_Veneer):Option Bool:=
 if ¬(a_0.Species=b_1.Species) then
  (some false)
  else (if a_0.Shade≠b_1.Shade then
  (some false)
  else (if a_0.Grain≠b_1.Grain then
  (some false)
  else (some true)))
noncomputable def laws_eqLoss (a_0:S_Loss) (b_1:S_Loss):Option Bool:=
 if ¬(a_0.Name=b_1.Name) then
  (some false)
  else ((laws_eqVeneer a_0.Veneer b_1.Veneer).bind fun x14=>
  if x14=true then
  (if a_0.Area≠b_1.Area then
  (some false)
  else (if a_0.Priority≠b_1.Priority then
  (some false)
  else (if a_0.Cost≠b_1.Cost then
  (some false)
  else (if a_0.Minutes≠b_1.Minutes then
  (some false)
  else (some true)))))
  else (some false))
noncomputable def laws_eqLossS_l4 (a_0:(List S_Loss)) (b_1:(List S_Loss)) (i_5_l4:Int):Option (Int ⊕ (Unit ⊕ Bool)):=
 if i_5_l4< (a_0.length:Int) then
  ((rd a_0 i_5_l4).bind fun x19=>
  (rd b_1 i_5_l4).bind fun x23=>
  (laws_eqLoss x19 x23).bind fun x25=>
  if x25=true then
  (some (.inl (w64 (i_5_l4+1))))
  else (some (.inr (.inr false))))
  else (some (.inr (.inl ())))
noncomputable def laws_eqLossS (a_0:(List S_Loss)) (b_1:(List S_Loss)):Option Bool:=
 if (a_0.length:Int)≠(b_1.length:Int) then
  (some false)
  else ((loopO (laws_eqLossS_l4 a_0 b_1) 0).bind fun o=>match o with
  | (.inl _)=>(some true)
  | (.inr r2)=>(some r2))
noncomputable def laws_markText_l4 (s:(Int×ByteArray)):Option ((Int×ByteArray) ⊕ ByteArray):=
 match s with
  | (k_0_l4,out_3_l4)=>
  if k_0_l4>0 then
  ((md k_0_l4 10).bind fun x9=>
  (cat (strOf ([(IntKind.wrap .u8 ((w64 (48+x9))))]:List Int)) out_3_l4).bind fun x15=>
  (dv .i64 k_0_l4 10).bind fun x17=>
  some (.inl (x17,x15)))
  else (some (.inr out_3_l4))
noncomputable def laws_markText (k_0:Int):Option ByteArray:=
 if k_0≤0 then
  (some (⟨#[109,48]⟩:ByteArray))
  else ((loopO (laws_markText_l4) (k_0,(⟨#[]⟩:ByteArray))).bind fun out_3_e0_4=>
  (cat (⟨#[109]⟩:ByteArray) out_3_e0_4).bind fun x19=>
  some x19)
noncomputable def laws_markLossS_l2 (s:(Int×Int×(List S_Loss))):Option ((Int×Int×(List S_Loss)) ⊕ (Int×(List S_Loss))):=
 match s with
  | (k_1_l2,i_5_l2,a_o0_l2)=>
  if i_5_l2< (a_o0_l2.length:Int) then
  ((laws_markText k_1_l2).bind fun x15=>
  (rd a_o0_l2 i_5_l2).bind fun x16=>
  (laws_markText (w64 (k_1_l2+1))).bind fun x23=>
  (rd (a_o0_l2.set i_5_l2.toNat (⟨x15,x16.Veneer,x16.Area,x16.Priority,x16.Cost,x16.Minutes⟩:S_Loss)) i_5_l2).bind fun x24=>
  (rd ((a_o0_l2.set i_5_l2.toNat (⟨x15,x16.Veneer,x16.Area,x16.Priority,x16.Cost,x16.Minutes⟩:S_Loss)).set i_5_l2.toNat (⟨x24.Name,(⟨x23,x24.Veneer.Shade,x24.Veneer.Grain⟩:S_Veneer),x24.Area,x24.Priority,x24.Cost,x24.Minutes⟩:S_Loss)) i_5_l2).bind fun x32=>
  (rd (((a_o0_l2.set i_5_l2.toNat (⟨x15,x16.Veneer,x16.Area,x16.Priority,x16.Cost,x16.Minutes⟩:S_Loss)).set i_5_l2.toNat (⟨x24.Name,(⟨x23,x24.Veneer.Shade,x24.Veneer.Grain⟩:S_Veneer),x24.Area,x24.Priority,x24.Cost,x24.Minutes⟩:S_Loss)).set i_5_l2.toNat (⟨x32.Name,(⟨x32.Veneer.Species,(w64 ((w64 (k_1_l2+1))+1)),x32.Veneer.Grain⟩:S_Veneer),x32.Area,x32.Priority,x32.Cost,x32.Minutes⟩:S_Loss)) i_5_l2).bind fun x40=>
  (rd ((((a_o0_l2.set i_5_l2.toNat (⟨x15,x16.Veneer,x16.Area,x16.Priority,x16.Cost,x16.Minutes⟩:S_Loss)).set i_5_l2.toNat (⟨x24.Name,(⟨x23,x24.Veneer.Shade,x24.Veneer.Grain⟩:S_Veneer),x24.Area,x24.Priority,x24.Cost,x24.Minutes⟩:S_Loss)).set i_5_l2.toNat (⟨x32.Name,(⟨x32.Veneer.Species,(w64 ((w64 (k_1_l2+1))+1)),x32.Veneer.Grain⟩:S_Veneer),x32.Area,x32.Priority,x32.Cost,x32.Minutes⟩:S_Loss)).set i_5_l2.toNat (⟨x40.Name,(⟨x40.Veneer.Species,x40.Veneer.Shade,(w64 ((w64 ((w64 (k_1_l2+1))+1))+1))⟩:S_Veneer),x40.Area,x40.Priority,x40.Cost,x40.Minutes⟩:S_Loss)) i_5_l2).bind fun x48=>
  (rd (((((a_o0_l2.set i_5_l2.toNat (⟨x15,x16.Veneer,x16.Area,x16.Priority,x16.Cost,x16.Minutes⟩:S_Loss)).set i_5_l2.toNat (⟨x24.Name,(⟨x23,x24.Veneer.Shade,x24.Veneer.Grain⟩:S_Veneer),x24.Area,x24.Priority,x24.Cost,x24.Minutes⟩:S_Loss)).set i_5_l2.toNat (⟨x32.Name,(⟨x32.Veneer.Species,(w64 ((w64 (k_1_l2+1))+1)),x32.Veneer.Grain⟩:S_Veneer),x32.Area,x32.Priority,x32.Cost,x32.Minutes⟩:S_Loss)).set i_5_l2.toNat (⟨x40.Name,(⟨x40.Veneer.Species,x40.Veneer.Shade,(w64 ((w64 ((w64 (k_1_l2+1))+1))+1))⟩:S_Veneer),x40.Area,x40.Priority,x40.Cost,x40.Minutes⟩:S_Loss)).set i_5_l2.toNat (⟨x48.Name,x48.Veneer,(w64 ((w64 ((w64 ((w64 (k_1_l2+1))+1))+1))+1)),x48.Priority,x48.Cost,x48.Minutes⟩:S_Loss)) i_5_l2).bind fun x55=>
  (rd ((((((a_o0_l2.set i_5_l2.toNat (⟨x15,x16.Veneer,x16.Area,x16.Priority,x16.Cost,x16.Minutes⟩:S_Loss)).set i_5_l2.toNat (⟨x24.Name,(⟨x23,x24.Veneer.Shade,x24.Veneer.Grain⟩:S_Veneer),x24.Area,x24.Priority,x24.Cost,x24.Minutes⟩:S_Loss)).set i_5_l2.toNat (⟨x32.Name,(⟨x32.Veneer.Species,(w64 ((w64 (k_1_l2+1))+1)),x32.Veneer.Grain⟩:S_Veneer),x32.Area,x32.Priority,x32.Cost,x32.Minutes⟩:S_Loss)).set i_5_l2.toNat (⟨x40.Name,(⟨x40.Veneer.Species,x40.Veneer.Shade,(w64 ((w64 ((w64 (k_1_l2+1))+1))+1))⟩:S_Veneer),x40.Area,x40.Priority,x40.Cost,x40.Minutes⟩:S_Loss)).set i_5_l2.toNat (⟨x48.Name,x48.Veneer,(w64 ((w64 ((w64 ((w64 (k_1_l2+1))+1))+1))+1)),x48.Priority,x48.Cost,x48.Minutes⟩:S_Loss)).set i_5_l2.toNat (⟨x55.Name,x55.Veneer,x55.Area,(w64 ((w64 ((w64 ((w64 ((w64 (k_1_l2+1))+1))+1))+1))+1)),x55.Cost,x55.Minutes⟩:S_Loss)) i_5_l2).bind fun x62=>
  (rd (((((((a_o0_l2.set i_5_l2.toNat (⟨x15,x16.Veneer,x16.Area,x16.Priority,x16.Cost,x16.Minutes⟩:S_Loss)).set i_5_l2.toNat (⟨x24.Name,(⟨x23,x24.Veneer.Shade,x24.Veneer.Grain⟩:S_Veneer),x24.Area,x24.Priority,x24.Cost,x24.Minutes⟩:S_Loss)).set i_5_l2.toNat (⟨x32.Name,(⟨x32.Veneer.Species,(w64 ((w64 (k_1_l2+1))+1)),x32.Veneer.Grain⟩:S_Veneer),x32.Area,x32.Priority,x32.Cost,x32.Minutes⟩:S_Loss)).set i_5_l2.toNat (⟨x40.Name,(⟨x40.Veneer.Species,x40.Veneer.Shade,(w64 ((w64 ((w64 (k_1_l2+1))+1))+1))⟩:S_Veneer),x40.Area,x40.Priority,x40.Cost,x40.Minutes⟩:S_Loss)).set i_5_l2.toNat (⟨x48.Name,x48.Veneer,(w64 ((w64 ((w64 ((w64 (k_1_l2+1))+1))+1))+1)),x48.Priority,x48.Cost,x48.Minutes⟩:S_Loss)).set i_5_l2.toNat (⟨x55.Name,x55.Veneer,x55.Area,(w64 ((w64 ((w64 ((w64 ((w64 (k_1_l2+1))+1))+1))+1))+1)),x55.Cost,x55.Minutes⟩:S_Loss)).set i_5_l2.toNat (⟨x62.Name,x62.Veneer,x62.Area,x62.Priority,(w64 ((w64 ((w64 ((w64 ((w64 ((w64 (k_1_l2+1))+1))+1))+1))+1))+1)),x62.Minutes⟩:S_Loss)) i_5_l2).bind fun x69=>
  some (.inl ((w64 ((w64 ((w64 ((w64 ((w64 ((w64 ((w64 ((w64 (k_1_l2+1))+1))+1))+1))+1))+1))+1))+1)),(w64 (i_5_l2+1)),((((((((a_o0_l2.set i_5_l2.toNat (⟨x15,x16.Veneer,x16.Area,x16.Priority,x16.Cost,x16.Minutes⟩:S_Loss)).set i_5_l2.toNat (⟨x24.Name,(⟨x23,x24.Veneer.Shade,x24.Veneer.Grain⟩:S_Veneer),x24.Area,x24.Priority,x24.Cost,x24.Minutes⟩:S_Loss)).set i_5_l2.toNat (⟨x32.Name,(⟨x32.Veneer.Species,(w64 ((w64 (k_1_l2+1))+1)),x32.Veneer.Grain⟩:S_Veneer),x32.Area,x32.Priority,x32.Cost,x32.Minutes⟩:S_Loss)).set i_5_l2.toNat (⟨x40.Name,(⟨x40.Veneer.Species,x40.Veneer.Shade,(w64 ((w64 ((w64 (k_1_l2+1))+1))+1))⟩:S_Veneer),x40.Area,x40.Priority,x40.Cost,x40.Minutes⟩:S_Loss)).set i_5_l2.toNat (⟨x48.Name,x48.Veneer,(w64 ((w64 ((w64 ((w64 (k_1_l2+1))+1))+1))+1)),x48.Priority,x48.Cost,x48.Minutes⟩:S_Loss)).set i_5_l2.toNat (⟨x55.Name,x55.Veneer,x55.Area,(w64 ((w64 ((w64 ((w64 ((w64 (k_1_l2+1))+1))+1))+1))+1)),x55.Cost,x55.Minutes⟩:S_Loss)).set i_5_l2.toNat (⟨x62.Name,x62.Veneer,x62.Area,x62.Priority,(w64 ((w64 ((w64 ((w64 ((w64 ((w64 (k_1_l2+1))+1))+1))+1))+1))+1)),x62.Minutes⟩:S_Loss)).set i_5_l2.toNat (⟨x69.Name,x69.Veneer,x69.Area,x69.Priority,x69.Cost,(w64 ((w64 ((w64 ((w64 ((w64 ((w64 ((w64 (k_1_l2+1))+1))+1))+1))+1))+1))+1))⟩:S_Loss)))))
  else (some (.inr (k_1_l2,a_o0_l2)))
noncomputable def laws_markLossS (a_0:(List S_Loss)) (k_1:Int):Option (Int×(List S_Loss)):=
 (loopO (laws_markLossS_l2) (k_1,0,a_0)).bind fun o=>match o with
   | (k_1_e0_2,a_o0_e0_2)=>
   some (k_1_e0_2,a_o0_e0_2)
noncomputable def laws_markInt64S_l2 (s:(Int×Int×(List Int))):Option ((Int×Int×(List Int)) ⊕ (Int×(List Int))):=
 match s with
  | (k_1_l2,i_5_l2,a_o0_l2)=>
  if i_5_l2< (a_o0_l2.length:Int) then
  ((rd a_o0_l2 i_5_l2).bind fun x15=>
  some (.inl ((w64 (k_1_l2+1)),(w64 (i_5_l2+1)),(a_o0_l2.set i_5_l2.toNat k_1_l2))))
  else (some (.inr (k_1_l2,a_o0_l2)))
noncomputable def laws_markInt64S (a_0:(List Int)) (k_1:Int):Option (Int×(List Int)):=
 (loopO (laws_markInt64S_l2) (k_1,0,a_0)).bind fun o=>match o with
   | (k_1_e0_2,a_o0_e0_2)=>
   some (k_1_e0_2,a_o0_e0_2)
noncomputable def laws_heldInt64S_l2 (a_0:(List Int)) (s:(Int×Int)):Option ((Int×Int) ⊕ (Int ⊕ Int)):=
 match s with
  | (k_1_l2,i_5_l2)=>
  if i_5_l2< (a_0.length:Int) then
  ((rd a_0 i_5_l2).bind fun x14=>
  if x14≠k_1_l2 then
  (some (.inr (.inr (-1))))
  else (some (.inl ((w64 (k_1_l2+1)),(w64 (i_5_l2+1))))))
  else (some (.inr (.inl k_1_l2)))
noncomputable def laws_heldInt64S (a_0:(List Int)) (k_1:Int):Option Int:=
 (loopO (laws_heldInt64S_l2 a_0) (k_1,0)).bind fun o=>match o with
   | (.inl k_1_e0_2)=>(some k_1_e0_2)
   | (.inr r2)=>(some r2)
noncomputable def laws_FnExactBestRepairs (aList_0:(List S_Loss)) (aMoney_1:Int) (aMinutes_2:Int) (aBudget_3:Int):Option Bool:=
 (laws_szLossS aList_0 1048576).bind fun x25=>
   if x25<0 then
   (some true)
   else ((laws_toLossS aList_0).bind fun x30=>
   (spec_BestRepairs x30 aMoney_1 aMinutes_2 aBudget_3).bind fun x34=>
   (laws_toLossS aList_0).bind fun x39=>
   (impl_BestRepairs x39 aMoney_1 aMinutes_2 aBudget_3).bind fun x45=>
   (laws_eqInt64S x45.1 x34.1).bind fun x51=>
   if (¬(x51=true)∨(x45.2.1≠x34.2.1∨x45.2.2≠x34.2.2)) then
   (some false)
   else ((laws_toLossS aList_0).bind fun x65=>
   (laws_eqLossS x39 x65).bind fun x66=>
   if x66=true then
   ((laws_markLossS x39 1).bind fun x70=>
   (if x70.1<0 then
   (some true)
   else ((laws_eqInt64S x45.1 x34.1).bind fun x76=>
   if x76=true then
   (if x45.2.1≠x34.2.1 then
   (some true)
   else (some (x45.2.2 != x34.2.2)))
   else (some true))).bind fun t_88_m14=>
   if t_88_m14=true then
   (some false)
   else ((laws_markInt64S x45.1 1).bind fun x91=>
   (laws_heldInt64S x91.2 1).bind fun x94=>
   if x94<0 then
   (some false)
   else (if x94≠x91.1 then
   (some false)
   else ((laws_toLossS aList_0).bind fun x102=>
   (impl_BestRepairs x102 aMoney_1 aMinutes_2 aBudget_3).bind fun x106=>
   (laws_eqInt64S x106.1 x34.1).bind fun x112=>
   if (¬(x112=true)∨(x106.2.1≠x34.2.1∨x106.2.2≠x34.2.2)) then
   (some false)
   else ((laws_heldInt64S x91.2 1).bind fun x126=>
   if x126<0 then
   (some false)
   else (if x126≠x91.1 then
   (some false)
   else (some true)))))))
   else (some false)))
end Go.Pw
