/- Plain functions that answer what the program's functions answer. Conditions: none; definitions alone. -/
import Derived.Test.YtfjmlccolihpmaaSimPw
namespace Go.Pw
open Go.Sim (min2 max2)
set_option linter.unusedVariables false
structure S_Point where
 X:Int
 Y:Int
structure S_Face where
 Name:ByteArray
 Ring:(List Int)
structure S_Drawing where
 Width:Int
 Height:Int
 Points:(List S_Point)
 Faces:(List S_Face)
structure S_Veneer where
 Species:ByteArray
 Shade:Int
 Grain:Int
structure S_l15Search where
 pairs:(List (List Int))
 faces:Int
 sheets:(List S_Veneer)
 least:Int
 shifts:(List Int)
 first:Bool
 best:(List Int)
 count:Int
 nodes:Int
 budget:Int
structure S_shiftSearch where
 near:(List (List Int))
 contrasts:(List Int)
 least:Int
 left:Int
 found:Int
 first:(List Int)
 one:Bool
structure Ar2_Int where
 e0:Int
 e1:Int
noncomputable def laws_szPointS (a_0:(List S_Point)) (left_1:Int):Option Int:=
 if (w64 (left_1 - (a_0.length:Int))) <0 then
  (some (-1))
  else (some (w64 (left_1 - (a_0.length:Int))))
noncomputable def laws_szInt64S (a_0:(List Int)) (left_1:Int):Option Int:=
 if (w64 (left_1 - (a_0.length:Int))) <0 then
  (some (-1))
  else (some (w64 (left_1 - (a_0.length:Int))))
noncomputable def laws_szFace (a_0:S_Face) (left_1:Int):Option Int:=
 if (w64 (left_1 - (a_0.Name.size:Int))) <0 then
  (some (-1))
  else ((laws_szInt64S a_0.Ring (w64 (left_1 - (a_0.Name.size:Int)))).bind fun x15=>
  if x15<0 then
  (some (-1))
  else (some x15))
noncomputable def laws_szFaceS_l5 (a_0:(List S_Face)) (s:(Int×Int)):Option ((Int×Int) ⊕ (Int ⊕ Int)):=
 match s with
  | (left_1_l5,i_5_l5)=>
  if i_5_l5< (a_0.length:Int) then
  ((rd a_0 i_5_l5).bind fun x20=>
  (laws_szFace x20 left_1_l5).bind fun x23=>
  if x23<0 then
  (some (.inr (.inr (-1))))
  else (some (.inl (x23,(w64 (i_5_l5+1))))))
  else (some (.inr (.inl left_1_l5)))
noncomputable def laws_szFaceS (a_0:(List S_Face)) (left_1:Int):Option Int:=
 if (w64 (left_1 - (a_0.length:Int))) <0 then
  (some (-1))
  else ((loopO (laws_szFaceS_l5 a_0) ((w64 (left_1 - (a_0.length:Int))),0)).bind fun o=>match o with
  | (.inl left_1_e0_5)=>(some left_1_e0_5)
  | (.inr r2)=>(some r2))
noncomputable def laws_szDrawing (a_0:S_Drawing) (left_1:Int):Option Int:=
 (laws_szPointS a_0.Points left_1).bind fun x8=>
   if x8<0 then
   (some (-1))
   else ((laws_szFaceS a_0.Faces x8).bind fun x14=>
   if x14<0 then
   (some (-1))
   else (some x14))
noncomputable def laws_szVeneer (a_0:S_Veneer) (left_1:Int):Option Int:=
 if (w64 (left_1 - (a_0.Species.size:Int))) <0 then
  (some (-1))
  else (some (w64 (left_1 - (a_0.Species.size:Int))))
noncomputable def laws_szVeneerS_l5 (a_0:(List S_Veneer)) (s:(Int×Int)):Option ((Int×Int) ⊕ (Int ⊕ Int)):=
 match s with
  | (left_1_l5,i_5_l5)=>
  if i_5_l5< (a_0.length:Int) then
  ((rd a_0 i_5_l5).bind fun x20=>
  (laws_szVeneer x20 left_1_l5).bind fun x23=>
  if x23<0 then
  (some (.inr (.inr (-1))))
  else (some (.inl (x23,(w64 (i_5_l5+1))))))
  else (some (.inr (.inl left_1_l5)))
noncomputable def laws_szVeneerS (a_0:(List S_Veneer)) (left_1:Int):Option Int:=
 if (w64 (left_1 - (a_0.length:Int))) <0 then
  (some (-1))
  else ((loopO (laws_szVeneerS_l5 a_0) ((w64 (left_1 - (a_0.length:Int))),0)).bind fun o=>match o with
  | (.inl left_1_e0_5)=>(some left_1_e0_5)
  | (.inr r2)=>(some r2))
noncomputable def laws_toPoint (a_0:S_Point):Option S_Point:=
 some a_0
noncomputable def laws_toPointS_l3 (a_0:(List S_Point)) (s:(Int×(List S_Point))):Option ((Int×(List S_Point)) ⊕ (List S_Point)):=
 match s with
  | (i_4_l3,out_o3_l3)=>
  if i_4_l3< (a_0.length:Int) then
  ((rd a_0 i_4_l3).bind fun x18=>
  (laws_toPoint x18).bind fun x20=>
  (rd out_o3_l3 i_4_l3).bind fun x21=>
  some (.inl ((w64 (i_4_l3+1)),(out_o3_l3.set i_4_l3.toNat x20))))
  else (some (.inr out_o3_l3))
noncomputable def laws_toPointS (a_0:(List S_Point)):Option (List S_Point):=
 (mkl 16 (a_0.length:Int) (⟨0,0⟩:S_Point)).bind fun x7=>
   (loopO (laws_toPointS_l3 a_0) (0,x7)).bind fun out_o3_e0_3=>
   some out_o3_e0_3
noncomputable def laws_toInt64S_l3 (a_0:(List Int)) (s:(Int×(List Int))):Option ((Int×(List Int)) ⊕ (List Int)):=
 match s with
  | (i_4_l3,out_o3_l3)=>
  if i_4_l3< (a_0.length:Int) then
  ((rd a_0 i_4_l3).bind fun x18=>
  (rd out_o3_l3 i_4_l3).bind fun x20=>
  some (.inl ((w64 (i_4_l3+1)),(out_o3_l3.set i_4_l3.toNat x18))))
  else (some (.inr out_o3_l3))
noncomputable def laws_toInt64S (a_0:(List Int)):Option (List Int):=
 (mkl 8 (a_0.length:Int) 0).bind fun x7=>
   (loopO (laws_toInt64S_l3 a_0) (0,x7)).bind fun out_o3_e0_3=>
   some out_o3_e0_3
noncomputable def laws_toFace (a_0:S_Face):Option S_Face:=
 (laws_toInt64S a_0.Ring).bind fun x9=>
   some (⟨a_0.Name,x9⟩:S_Face)
noncomputable def laws_toFaceS_l3 (a_0:(List S_Face)) (s:(Int×(List S_Face))):Option ((Int×(List S_Face)) ⊕ (List S_Face)):=
 match s with
  | (i_4_l3,out_o3_l3)=>
  if i_4_l3< (a_0.length:Int) then
  ((rd a_0 i_4_l3).bind fun x18=>
  (laws_toFace x18).bind fun x20=>
  (rd out_o3_l3 i_4_l3).bind fun x21=>
  some (.inl ((w64 (i_4_l3+1)),(out_o3_l3.set i_4_l3.toNat x20))))
  else (some (.inr out_o3_l3))
noncomputable def laws_toFaceS (a_0:(List S_Face)):Option (List S_Face):=
 (mkl 40 (a_0.length:Int) (⟨(⟨#[]⟩:ByteArray),([]:List Int)⟩:S_Face)).bind fun x7=>
   (loopO (laws_toFaceS_l3 a_0) (0,x7)).bind fun out_o3_e0_3=>
   some out_o3_e0_3
noncomputable def laws_toDrawing (a_0:S_Drawing):Option S_Drawing:=
 (laws_toPointS a_0.Points).bind fun x12=>
   (laws_toFaceS a_0.Faces).bind fun x16=>
   some (⟨a_0.Width,a_0.Height,x12,x16⟩:S_Drawing)
noncomputable def laws_toVeneer (a_0:S_Veneer):Option S_Veneer:=
 some a_0
noncomputable def laws_toVeneerS_l3 (a_0:(List S_Veneer)) (s:(Int×(List S_Veneer))):Option ((Int×(List S_Veneer)) ⊕ (List S_Veneer)):=
 match s with
  | (i_4_l3,out_o3_l3)=>
  if i_4_l3< (a_0.length:Int) then
  ((rd a_0 i_4_l3).bind fun x18=>
  (laws_toVeneer x18).bind fun x20=>
  (rd out_o3_l3 i_4_l3).bind fun x21=>
  some (.inl ((w64 (i_4_l3+1)),(out_o3_l3.set i_4_l3.toNat x20))))
  else (some (.inr out_o3_l3))
noncomputable def laws_toVeneerS (a_0:(List S_Veneer)):Option (List S_Veneer):=
 (mkl 32 (a_0.length:Int) (⟨(⟨#[]⟩:ByteArray),0,0⟩:S_Veneer)).bind fun x7=>
   (loopO (laws_toVeneerS_l3 a_0) (0,x7)).bind fun out_o3_e0_3=>
   some out_o3_e0_3
noncomputable def spec_l00In (n_0:Int) (low_1:Int) (high_2:Int):Option Bool:=
 some ((decide (n_0≥low_1))&&(decide (n_0≤high_2)))
noncomputable def spec_l05Points_l9 (d_0:S_Drawing) (i_3_l4:Int) (k_4_l9:Int):Option (Int ⊕ (Unit ⊕ Bool)):=
 if k_4_l9<i_3_l4 then
  ((rd d_0.Points i_3_l4).bind fun x60=>
  (rd d_0.Points k_4_l9).bind fun x67=>
  if (x60.X=x67.X∧x60.Y=x67.Y) then
  (some (.inr (.inr false)))
  else (some (.inl (w64 (k_4_l9+1)))))
  else (some (.inr (.inl ())))
noncomputable def spec_l05Points_l4 (d_0:S_Drawing) (i_3_l4:Int):Option (Int ⊕ (Unit ⊕ Bool)):=
 if i_3_l4< (d_0.Points.length:Int) then
  ((rd d_0.Points i_3_l4).bind fun x25=>
  (spec_l00In x25.X 0 d_0.Width).bind fun x32=>
  (if x32=true then
  ((rd d_0.Points i_3_l4).bind fun x40=>
  (spec_l00In x40.Y 0 d_0.Height).bind fun x47=>
  some (!x47))
  else (some true)).bind fun t_49_m6=>
  if t_49_m6=true then
  (some (.inr (.inr false)))
  else ((loopO (spec_l05Points_l9 d_0 i_3_l4) 0).bind fun o=>match o with
  | (.inl _)=>(some (.inl (w64 (i_3_l4+1))))
  | (.inr r2)=>(some (.inr (.inr r2)))))
  else (some (.inr (.inl ())))
noncomputable def spec_l05Points (d_0:S_Drawing):Option Bool:=
 if (d_0.Points.length:Int) >48 then
  (some false)
  else ((loopO (spec_l05Points_l4 d_0) 0).bind fun o=>match o with
  | (.inl _)=>(some true)
  | (.inr r2)=>(some r2))
noncomputable def spec_l01Small (c_0:Int):Option Bool:=
 some ((decide (c_0≥97))&&(decide (c_0≤122)))
noncomputable def spec_l01Digit (c_0:Int):Option Bool:=
 some ((decide (c_0≥48))&&(decide (c_0≤57)))
noncomputable def spec_l01Name_l4 (s_0:ByteArray) (i_3_l4:Int):Option (Int ⊕ (Unit ⊕ Bool)):=
 if i_3_l4< (s_0.size:Int) then
  ((bt s_0 i_3_l4).bind fun x25=>
  (spec_l01Small x25).bind fun x26=>
  (if x26=true then
  (some false)
  else ((bt s_0 i_3_l4).bind fun x31=>
  (spec_l01Digit x31).bind fun x32=>
  some (!x32))).bind fun t_34_m6=>
  if t_34_m6=true then
  (some (.inr (.inr false)))
  else (some (.inl (w64 (i_3_l4+1)))))
  else (some (.inr (.inl ())))
noncomputable def spec_l01Name (s_0:ByteArray):Option Bool:=
 (if s_0=(⟨#[]⟩:ByteArray) then
   (some true)
   else (if (s_0.size:Int) >10 then
   (some true)
   else ((bt s_0 0).bind fun x13=>
   (spec_l01Small x13).bind fun x14=>
   some (!x14)))).bind fun t_16_m1=>
   if t_16_m1=true then
   (some false)
   else ((loopO (spec_l01Name_l4 s_0) 0).bind fun o=>match o with
   | (.inl _)=>(some true)
   | (.inr r2)=>(some r2))
noncomputable def spec_l05Ring_l3 (d_0:S_Drawing) (ring_1:(List Int)) (s:(Int×(List S_Point))):Option ((Int×(List S_Point)) ⊕ ((List S_Point) ⊕ ((List S_Point)×Bool))):=
 match s with
  | (i_7_l3,out_o6_l3)=>
  if i_7_l3< (ring_1.length:Int) then
  ((rd ring_1 i_7_l3).bind fun x17=>
  (spec_l00In x17 0 (w64 ((d_0.Points.length:Int) - 1))).bind fun x25=>
  if x25=true then
  ((rd ring_1 i_7_l3).bind fun x34=>
  (rd d_0.Points x34).bind fun x36=>
  (apd 16 out_o6_l3 ([x36]:List S_Point)).bind fun x39=>
  some (.inl ((w64 (i_7_l3+1)),x39)))
  else (some (.inr (.inr (([]:List S_Point),false)))))
  else (some (.inr (.inl out_o6_l3)))
noncomputable def spec_l05Ring (d_0:S_Drawing) (ring_1:(List Int)):Option ((List S_Point)×Bool):=
 (loopO (spec_l05Ring_l3 d_0 ring_1) (0,([]:List S_Point))).bind fun o=>match o with
   | (.inl out_o6_e0_3)=>(some (out_o6_e0_3,true))
   | (.inr r2)=>(some r2)
noncomputable def spec_l02Ok (p_0:S_Point):Option Bool:=
 (spec_l00In p_0.X 0 20000).bind fun x5=>
   (if x5=true then
   ((spec_l00In p_0.Y 0 20000).bind fun x9=>
   some x9)
   else (some false)).bind fun t_2_m1=>
   some t_2_m1
noncomputable def spec_l02Cross (a_0:S_Point) (b_1:S_Point) (c_2:S_Point):Option Int:=
 some (w64 ((w64 ((w64 (b_1.X - a_0.X)) * (w64 (c_2.Y - a_0.Y)))) - (w64 ((w64 (b_1.Y - a_0.Y)) * (w64 (c_2.X - a_0.X))))))
noncomputable def spec_l02Side (a_0:S_Point) (b_1:S_Point) (c_2:S_Point):Option Int:=
 (spec_l02Cross a_0 b_1 c_2).bind fun x11=>
   if x11>0 then
   (some 1)
   else (if x11<0 then
   (some (-1))
   else (some 0))
noncomputable def spec_l00Min (a_0:Int) (b_1:Int):Option Int:=
 if a_0<b_1 then
  (some a_0)
  else (some b_1)
noncomputable def spec_l00Max (a_0:Int) (b_1:Int):Option Int:=
 if a_0>b_1 then
  (some a_0)
  else (some b_1)
noncomputable def spec_l02On (a_0:S_Point) (b_1:S_Point) (p_2:S_Point):Option Bool:=
 (spec_l02Side a_0 b_1 p_2).bind fun x10=>
   (if x10=0 then
   ((spec_l00Min a_0.X b_1.X).bind fun x19=>
   (spec_l00Max a_0.X b_1.X).bind fun x24=>
   (spec_l00In p_2.X x19 x24).bind fun x25=>
   if x25=true then
   ((spec_l00Min a_0.Y b_1.Y).bind fun x34=>
   (spec_l00Max a_0.Y b_1.Y).bind fun x39=>
   (spec_l00In p_2.Y x34 x39).bind fun x40=>
   some x40)
   else (some false))
   else (some false)).bind fun t_6_m1=>
   some t_6_m1
noncomputable def spec_l02Crosses (a_0:S_Point) (b_1:S_Point) (c_2:S_Point) (d_3:S_Point):Option Bool:=
 (spec_l02Side a_0 b_1 c_2).bind fun x12=>
   (spec_l02Side a_0 b_1 d_3).bind fun x16=>
   (if (w64 (x12*x16)) <0 then
   ((spec_l02Side c_2 d_3 a_0).bind fun x23=>
   (spec_l02Side c_2 d_3 b_1).bind fun x27=>
   some (decide ((w64 (x23*x27)) <0)))
   else (some false)).bind fun t_8_m1=>
   some t_8_m1
noncomputable def spec_l03Meet (a_0:S_Point) (b_1:S_Point) (c_2:S_Point) (d_3:S_Point):Option Bool:=
 (spec_l02Crosses a_0 b_1 c_2 d_3).bind fun x13=>
   (if x13=true then
   (some true)
   else ((spec_l02On a_0 b_1 c_2).bind fun x18=>
   if x18=true then
   (some true)
   else ((spec_l02On a_0 b_1 d_3).bind fun x24=>
   if x24=true then
   (some true)
   else ((spec_l02On c_2 d_3 a_0).bind fun x30=>
   if x30=true then
   (some true)
   else ((spec_l02On c_2 d_3 b_1).bind fun x36=>
   some x36))))).bind fun t_8_m1=>
   some t_8_m1
noncomputable def spec_l03Area_l3 (p_0:(List S_Point)) (s:(Int×Int)):Option ((Int×Int) ⊕ Int):=
 match s with
  | (sum_3_l3,i_4_l3)=>
  if i_4_l3< (p_0.length:Int) then
  ((md (w64 (i_4_l3+1)) (p_0.length:Int)).bind fun x17=>
  (rd p_0 x17).bind fun x18=>
  (rd p_0 i_4_l3).bind fun x23=>
  (rd p_0 i_4_l3).bind fun x31=>
  some (.inl ((w64 (sum_3_l3+(w64 ((w64 (x23.X*x18.Y)) - (w64 (x31.Y*x18.X)))))),(w64 (i_4_l3+1)))))
  else (some (.inr sum_3_l3))
noncomputable def spec_l03Area (p_0:(List S_Point)):Option Int:=
 (loopO (spec_l03Area_l3 p_0) (0,0)).bind fun sum_3_e0_3=>
   some sum_3_e0_3
noncomputable def spec_l03Ok_l18 (i_5_l10:Int) (p_0:(List S_Point)) (x36:S_Point) (x43:S_Point) (k_9_l18:Int):Option (Int ⊕ (Unit ⊕ Bool)):=
 if k_9_l18< (p_0.length:Int) then
  ((md (w64 (k_9_l18+1)) (p_0.length:Int)).bind fun x77=>
  (if x77≠i_5_l10 then
  ((rd p_0 k_9_l18).bind fun x85=>
  (md (w64 (k_9_l18+1)) (p_0.length:Int)).bind fun x91=>
  (rd p_0 x91).bind fun x92=>
  (spec_l03Meet x36 x43 x85 x92).bind fun x94=>
  some x94)
  else (some false)).bind fun t_95_m20=>
  if t_95_m20=true then
  (some (.inr (.inr false)))
  else (some (.inl (w64 (k_9_l18+1)))))
  else (some (.inr (.inl ())))
noncomputable def spec_l03Ok_l10 (p_0:(List S_Point)) (i_5_l10:Int):Option (Int ⊕ (Unit ⊕ Bool)):=
 if i_5_l10< (p_0.length:Int) then
  ((rd p_0 i_5_l10).bind fun x36=>
  (md (w64 (i_5_l10+1)) (p_0.length:Int)).bind fun x42=>
  (rd p_0 x42).bind fun x43=>
  (md (w64 (i_5_l10+2)) (p_0.length:Int)).bind fun x49=>
  (rd p_0 x49).bind fun x50=>
  (if (x36.X=x43.X∧x36.Y=x43.Y) then
  (some true)
  else ((spec_l02On x36 x43 x50).bind fun x59=>
  if x59=true then
  (some true)
  else ((spec_l02On x43 x50 x36).bind fun x65=>
  some x65))).bind fun t_66_m15=>
  if t_66_m15=true then
  (some (.inr (.inr false)))
  else ((loopO (spec_l03Ok_l18 i_5_l10 p_0 x36 x43) (w64 (i_5_l10+2))).bind fun o=>match o with
  | (.inl _)=>(some (.inl (w64 (i_5_l10+1))))
  | (.inr r2)=>(some (.inr (.inr r2)))))
  else (some (.inr (.inl ())))
noncomputable def spec_l03Ok_l5 (p_0:(List S_Point)) (i_4_l5:Int):Option (Int ⊕ (Unit ⊕ Bool)):=
 if i_4_l5< (p_0.length:Int) then
  ((rd p_0 i_4_l5).bind fun x25=>
  (spec_l02Ok x25).bind fun x27=>
  if x27=true then
  (some (.inl (w64 (i_4_l5+1))))
  else (some (.inr (.inr false))))
  else (some (.inr (.inl ())))
noncomputable def spec_l03Ok (p_0:(List S_Point)):Option Bool:=
 if ((p_0.length:Int) <3∨(p_0.length:Int) >24) then
  (some false)
  else ((loopO (spec_l03Ok_l5 p_0) 0).bind fun o=>match o with
  | (.inl _)=>((loopO (spec_l03Ok_l10 p_0) 0).bind fun o=>match o with
  | (.inl _)=>((spec_l03Area p_0).bind fun x97=>
  some (decide (x97>0)))
  | (.inr r2)=>(some r2))
  | (.inr r2)=>(some r2))
noncomputable def spec_l05Ok_l4 (d_0:S_Drawing) (i_3_l4:Int):Option (Int ⊕ (Unit ⊕ Bool)):=
 if i_3_l4< (d_0.Faces.length:Int) then
  ((rd d_0.Faces i_3_l4).bind fun x47=>
  (spec_l01Name x47.Name).bind fun x50=>
  (if x50=true then
  (if i_3_l4>0 then
  ((rd d_0.Faces (w64 (i_3_l4 - 1))).bind fun x62=>
  (rd d_0.Faces i_3_l4).bind fun x70=>
  some (!Op.bytesLess x62.Name.toList x70.Name.toList))
  else (some false))
  else (some true)).bind fun t_75_m6=>
  if t_75_m6=true then
  (some (.inr (.inr false)))
  else ((rd d_0.Faces i_3_l4).bind fun x83=>
  (spec_l05Ring d_0 x83.Ring).bind fun x86=>
  (if x86.2=true then
  ((spec_l03Ok x86.1).bind fun x93=>
  some (!x93))
  else (some true)).bind fun t_95_m9=>
  if t_95_m9=true then
  (some (.inr (.inr false)))
  else (some (.inl (w64 (i_3_l4+1))))))
  else (some (.inr (.inl ())))
noncomputable def spec_l05Ok (d_0:S_Drawing):Option Bool:=
 (spec_l00In d_0.Width 10 20000).bind fun x10=>
   (if x10=true then
   ((spec_l00In d_0.Height 10 20000).bind fun x17=>
   if x17=true then
   ((spec_l05Points d_0).bind fun x22=>
   if x22=true then
   (some (decide ((d_0.Faces.length:Int) >24)))
   else (some true))
   else (some true))
   else (some true)).bind fun t_32_m1=>
   if t_32_m1=true then
   (some false)
   else ((loopO (spec_l05Ok_l4 d_0) 0).bind fun o=>match o with
   | (.inl _)=>(some true)
   | (.inr r2)=>(some r2))
noncomputable def spec_l07Names:Option (List ByteArray):=
 some ([(⟨#[97,115,104]⟩:ByteArray),(⟨#[98,101,101,99,104]⟩:ByteArray),(⟨#[98,105,114,99,104]⟩:ByteArray),(⟨#[99,104,101,114,114,121]⟩:ByteArray),(⟨#[101,98,111,110,121]⟩:ByteArray),(⟨#[104,111,108,108,121]⟩:ByteArray),(⟨#[109,97,112,108,101]⟩:ByteArray),(⟨#[111,97,107]⟩:ByteArray),(⟨#[114,111,115,101,119,111,111,100]⟩:ByteArray),(⟨#[119,97,108,110,117,116]⟩:ByteArray)]:List ByteArray)
noncomputable def spec_l07Find_l3 (name_0:ByteArray) (x5:(List ByteArray)) (i_4_l3:Int):Option (Int ⊕ (Unit ⊕ Int)):=
 if i_4_l3< (x5.length:Int) then
  ((rd x5 i_4_l3).bind fun x14=>
  if x14=name_0 then
  (some (.inr (.inr i_4_l3)))
  else (some (.inl (w64 (i_4_l3+1)))))
  else (some (.inr (.inl ())))
noncomputable def spec_l07Find (name_0:ByteArray):Option Int:=
 (spec_l07Names).bind fun x5=>
   (loopO (spec_l07Find_l3 name_0 x5) 0).bind fun o=>match o with
   | (.inl _)=>(some (-1))
   | (.inr r2)=>(some r2)
noncomputable def spec_l07Table:Option (List (List Int)):=
 some ([([20,40,310]:List Int),([35,45,410]:List Int),([15,33,280]:List Int),([50,36,240]:List Int),([95,85,270]:List Int),([5,35,370]:List Int),([10,42,290]:List Int),([40,40,330]:List Int),([80,60,220]:List Int),([70,38,260]:List Int)]:List (List Int))
noncomputable def spec_l07Grain (g_0:Int):Option Bool:=
 (spec_l00In g_0 0 179).bind fun x4=>
   some x4
noncomputable def spec_l07Ok (v_0:S_Veneer):Option Bool:=
 (spec_l07Find v_0.Species).bind fun x9=>
   (if x9<0 then
   (some true)
   else ((spec_l00In v_0.Shade 0 100).bind fun x17=>
   some (!x17))).bind fun t_19_m2=>
   if t_19_m2=true then
   (some false)
   else ((spec_l07Table).bind fun x20=>
   (rd x20 x9).bind fun x22=>
   (rd x22 0).bind fun x24=>
   (spec_l00In v_0.Shade (w64 (x24 - 15)) (w64 (x24+15))).bind fun x34=>
   (if x34=true then
   ((spec_l07Grain v_0.Grain).bind fun x40=>
   some x40)
   else (some false)).bind fun t_2_m5=>
   some t_2_m5)
noncomputable def spec_l15Sheets_l2 (list_0:(List S_Veneer)) (i_3_l2:Int):Option (Int ⊕ (Unit ⊕ Bool)):=
 if i_3_l2< (list_0.length:Int) then
  ((rd list_0 i_3_l2).bind fun x12=>
  (spec_l07Ok x12).bind fun x13=>
  if x13=true then
  (some (.inl (w64 (i_3_l2+1))))
  else (some (.inr (.inr false))))
  else (some (.inr (.inl ())))
noncomputable def spec_l15Sheets (list_0:(List S_Veneer)):Option Bool:=
 (loopO (spec_l15Sheets_l2 list_0) 0).bind fun o=>match o with
   | (.inl _)=>(some ((decide ((list_0.length:Int)≥1))&&(decide ((list_0.length:Int)≤8))))
   | (.inr r2)=>(some r2)
noncomputable def spec_l05HasEdge_l2 (i_1:Int) (k_2:Int) (ring_0:(List Int)) (j_7_l2:Int):Option (Int ⊕ (Unit ⊕ Bool)):=
 if j_7_l2< (ring_0.length:Int) then
  ((rd ring_0 j_7_l2).bind fun x18=>
  (md (w64 (j_7_l2+1)) (ring_0.length:Int)).bind fun x25=>
  (rd ring_0 x25).bind fun x26=>
  (if x18=i_1 then
  (if x26=k_2 then
  (some true)
  else (if x18=k_2 then
  (some (x26==i_1))
  else (some false)))
  else (if x18=k_2 then
  (some (x26==i_1))
  else (some false))).bind fun t_45_m6=>
  if t_45_m6=true then
  (some (.inr (.inr true)))
  else (some (.inl (w64 (j_7_l2+1)))))
  else (some (.inr (.inl ())))
noncomputable def spec_l05HasEdge (ring_0:(List Int)) (i_1:Int) (k_2:Int):Option Bool:=
 (loopO (spec_l05HasEdge_l2 i_1 k_2 ring_0) 0).bind fun o=>match o with
   | (.inl _)=>(some false)
   | (.inr r2)=>(some r2)
noncomputable def spec_l05Near_k5 (f_7_l4:Int) (out_o5_r5:(List Int)):Option ((Int×(List Int)) ⊕ (List Int)):=
 some (.inl ((w64 (f_7_l4+1)),out_o5_r5))
noncomputable def spec_l05Near_l8 (d_0:S_Drawing) (f_7_l4:Int) (x16:S_Face) (s:(Bool×Int)):Option ((Bool×Int) ⊕ Bool):=
 match s with
  | (found_8_l8,j_9_l8)=>
  if j_9_l8< (x16.Ring.length:Int) then
  ((if found_8_l8=true then
  (some true)
  else ((rd d_0.Faces f_7_l4).bind fun x41=>
  (rd x16.Ring j_9_l8).bind fun x46=>
  (md (w64 (j_9_l8+1)) (x16.Ring.length:Int)).bind fun x53=>
  (rd x16.Ring x53).bind fun x54=>
  (spec_l05HasEdge x41.Ring x46 x54).bind fun x56=>
  some x56)).bind fun found_8_m10=>
  some (.inl (found_8_m10,(w64 (j_9_l8+1)))))
  else (some (.inr found_8_l8))
noncomputable def spec_l05Near_l4 (d_0:S_Drawing) (k_1:Int) (x16:S_Face) (s:(Int×(List Int))):Option ((Int×(List Int)) ⊕ (List Int)):=
 match s with
  | (f_7_l4,out_o5_l4)=>
  if f_7_l4< (d_0.Faces.length:Int) then
  ((loopO (spec_l05Near_l8 d_0 f_7_l4 x16) (false,0)).bind fun found_8_e2_8=>
  if (f_7_l4≠k_1∧found_8_e2_8=true) then
  ((apd 8 out_o5_l4 ([f_7_l4]:List Int)).bind fun x67=>
  spec_l05Near_k5 f_7_l4 x67)
  else (spec_l05Near_k5 f_7_l4 out_o5_l4))
  else (some (.inr out_o5_l4))
noncomputable def spec_l05Near (d_0:S_Drawing) (k_1:Int):Option (List Int):=
 (rd d_0.Faces k_1).bind fun x16=>
   (loopO (spec_l05Near_l4 d_0 k_1 x16) (0,([]:List Int))).bind fun out_o5_e0_4=>
   some out_o5_e0_4
noncomputable def spec_l15Pairs_k8 (k_6_l7:Int) (out_o3_r8:(List (List Int))):Option ((Int×(List (List Int))) ⊕ (List (List Int))):=
 some (.inl ((w64 (k_6_l7+1)),out_o3_r8))
noncomputable def spec_l15Pairs_l7 (i_4_l3:Int) (x19:(List Int)) (s:(Int×(List (List Int)))):Option ((Int×(List (List Int))) ⊕ (List (List Int))):=
 match s with
  | (k_6_l7,out_o3_l7)=>
  if k_6_l7< (x19.length:Int) then
  ((rd x19 k_6_l7).bind fun x28=>
  if x28>i_4_l3 then
  ((rd x19 k_6_l7).bind fun x36=>
  (apd 24 out_o3_l7 ([([i_4_l3,x36]:List Int)]:List (List Int))).bind fun x40=>
  spec_l15Pairs_k8 k_6_l7 x40)
  else (spec_l15Pairs_k8 k_6_l7 out_o3_l7))
  else (some (.inr out_o3_l7))
noncomputable def spec_l15Pairs_l3 (d_0:S_Drawing) (s:(Int×(List (List Int)))):Option ((Int×(List (List Int))) ⊕ (List (List Int))):=
 match s with
  | (i_4_l3,out_o3_l3)=>
  if i_4_l3< (d_0.Faces.length:Int) then
  ((spec_l05Near d_0 i_4_l3).bind fun x19=>
  (loopO (spec_l15Pairs_l7 i_4_l3 x19) (0,out_o3_l3)).bind fun out_o3_e2_7=>
  some (.inl ((w64 (i_4_l3+1)),out_o3_e2_7)))
  else (some (.inr out_o3_l3))
noncomputable def spec_l15Pairs (d_0:S_Drawing):Option (List (List Int)):=
 (loopO (spec_l15Pairs_l3 d_0) (0,([]:List (List Int)))).bind fun out_o3_e0_3=>
   some out_o3_e0_3
noncomputable def spec_l00Own (list_0:(List Int)):Option (List Int):=
 (apd 8 ([]:List Int) list_0).bind fun x5=>
   some x5
noncomputable def spec_l07Angle (a_0:Int) (b_1:Int):Option Int:=
 (spec_l00Max (w64 (a_0 - b_1)) (w64 (b_1 - a_0))).bind fun x12=>
   (spec_l00Min x12 (w64 (180 - x12))).bind fun x16=>
   some x16
noncomputable def spec_l07Contrast (a_0:S_Veneer) (b_1:S_Veneer):Option Int:=
 (spec_l00Max (w64 (a_0.Shade - b_1.Shade)) (w64 (b_1.Shade - a_0.Shade))).bind fun x23=>
   (spec_l07Angle a_0.Grain b_1.Grain).bind fun x32=>
   (dv .i64 x32 6).bind fun x33=>
   some (w64 (x23+x33))
noncomputable def spec_l15Contrast_k5 (i_9_l4:Int) (least_8_r5:Int):Option ((Int×Int) ⊕ Int):=
 some (.inl (least_8_r5,(w64 (i_9_l4+1))))
noncomputable def spec_l15Contrast_l4 (a_1:Int) (b_2:Int) (sheets_0:(List S_Veneer)) (s:(Int×Int)):Option ((Int×Int) ⊕ Int):=
 match s with
  | (least_8_l4,i_9_l4)=>
  if i_9_l4< (sheets_0.length:Int) then
  ((md (w64 (i_9_l4+a_1)) (sheets_0.length:Int)).bind fun x23=>
  (rd sheets_0 x23).bind fun x24=>
  (md (w64 (i_9_l4+b_2)) (sheets_0.length:Int)).bind fun x30=>
  (rd sheets_0 x30).bind fun x31=>
  (spec_l07Contrast x24 x31).bind fun x32=>
  if (i_9_l4=0∨x32<least_8_l4) then
  (spec_l15Contrast_k5 i_9_l4 x32)
  else (spec_l15Contrast_k5 i_9_l4 least_8_l4))
  else (some (.inr least_8_l4))
noncomputable def spec_l15Contrast (sheets_0:(List S_Veneer)) (a_1:Int) (b_2:Int):Option Int:=
 (loopO (spec_l15Contrast_l4 a_1 b_2 sheets_0) (0,0)).bind fun least_8_e0_4=>
   some least_8_e0_4
noncomputable def spec_l15Search_fits_l3 (ohc1:S_l15Search) (i_4_l3:Int):Option (Int ⊕ (Unit ⊕ Bool)):=
 if i_4_l3< (ohc1.pairs.length:Int) then
  ((rd ohc1.pairs i_4_l3).bind fun x25=>
  (rd x25 1).bind fun x27=>
  (if x27=(w64 ((ohc1.shifts.length:Int) - 1)) then
  ((rd ohc1.pairs i_4_l3).bind fun x45=>
  (rd x45 0).bind fun x47=>
  (rd ohc1.shifts x47).bind fun x49=>
  (rd ohc1.shifts (w64 ((ohc1.shifts.length:Int) - 1))).bind fun x56=>
  (spec_l15Contrast ohc1.sheets x49 x56).bind fun x58=>
  some (decide (x58<ohc1.least)))
  else (some false)).bind fun t_64_m5=>
  if t_64_m5=true then
  (some (.inr (.inr false)))
  else (some (.inl (w64 (i_4_l3+1)))))
  else (some (.inr (.inl ())))
noncomputable def spec_l15Search_fits (x_0:(Option S_l15Search)):Option Bool:=
 match x_0 with
  | none=>(none)
  | some ohc1=>((loopO (spec_l15Search_fits_l3 ohc1) 0).bind fun o=>match o with
  | (.inl _)=>(some true)
  | (.inr r2)=>(some r2))
noncomputable def spec_l15Search_visit_k8 (self:S_l15Search→Option (Bool×S_l15Search)) (x_0:S_l15Search) (x_o0_6_r8:(List Int)):Option (Bool×S_l15Search):=
 some ((!x_0.first),(⟨x_0.pairs,x_0.faces,x_0.sheets,x_0.least,x_0.shifts,x_0.first,x_o0_6_r8,(w64 (x_0.count+1)),(w64 (x_0.nodes+1)),x_0.budget⟩:S_l15Search))
noncomputable def spec_l15Search_visit_l10 (self:S_l15Search→Option (Bool×S_l15Search)) (s:(Int×(List (List Int))×Int×(List S_Veneer)×Int×(List Int)×Bool×(List Int)×Int×Int×Int)):Option ((Int×(List (List Int))×Int×(List S_Veneer)×Int×(List Int)×Bool×(List Int)×Int×Int×Int) ⊕ (((List (List Int))×Int×(List S_Veneer)×Int×(List Int)×Bool×(List Int)×Int×Int×Int) ⊕ (Bool×S_l15Search))):=
 match s with
  | (s_3_l10,x_o0_0_l10,x_o0_1_l10,x_o0_2_l10,x_o0_3_l10,x_o0_4_l10,x_o0_5_l10,x_o0_6_l10,x_o0_7_l10,x_o0_8_l10,x_o0_9_l10)=>
  if s_3_l10< (x_o0_2_l10.length:Int) then
  ((apd 8 x_o0_4_l10 ([s_3_l10]:List Int)).bind fun x72=>
  (spec_l15Search_fits (some (⟨x_o0_0_l10,x_o0_1_l10,x_o0_2_l10,x_o0_3_l10,x72,x_o0_5_l10,x_o0_6_l10,x_o0_7_l10,x_o0_8_l10,x_o0_9_l10⟩:S_l15Search))).bind fun x76=>
  (if x76=true then
  ((self (⟨x_o0_0_l10,x_o0_1_l10,x_o0_2_l10,x_o0_3_l10,x72,x_o0_5_l10,x_o0_6_l10,x_o0_7_l10,x_o0_8_l10,x_o0_9_l10⟩:S_l15Search)).bind fun x80=>
  some (x80.1,x80.2.pairs,x80.2.faces,x80.2.sheets,x80.2.least,x80.2.shifts,x80.2.first,x80.2.best,x80.2.count,x80.2.nodes,x80.2.budget))
  else (some (true,x_o0_0_l10,x_o0_1_l10,x_o0_2_l10,x_o0_3_l10,x72,x_o0_5_l10,x_o0_6_l10,x_o0_7_l10,x_o0_8_l10,x_o0_9_l10))).bind fun s=>match s with
  | (further_4_m13,x_o0_0_m13,x_o0_1_m13,x_o0_2_m13,x_o0_3_m13,x_o0_4_m13,x_o0_5_m13,x_o0_6_m13,x_o0_7_m13,x_o0_8_m13,x_o0_9_m13)=>
  (slc x_o0_4_m13 0 (w64 ((x_o0_4_m13.length:Int) - 1))).bind fun x93=>
  if further_4_m13=true then
  (some (.inl ((w64 (s_3_l10+1)),x_o0_0_m13,x_o0_1_m13,x_o0_2_m13,x_o0_3_m13,((x_o0_4_m13.take ((w64 ((x_o0_4_m13.length:Int) - 1)).toNat)).drop 0),x_o0_5_m13,x_o0_6_m13,x_o0_7_m13,x_o0_8_m13,x_o0_9_m13)))
  else (some (.inr (.inr (false,(⟨x_o0_0_m13,x_o0_1_m13,x_o0_2_m13,x_o0_3_m13,((x_o0_4_m13.take ((w64 ((x_o0_4_m13.length:Int) - 1)).toNat)).drop 0),x_o0_5_m13,x_o0_6_m13,x_o0_7_m13,x_o0_8_m13,x_o0_9_m13⟩:S_l15Search))))))
  else (some (.inr (.inl (x_o0_0_l10,x_o0_1_l10,x_o0_2_l10,x_o0_3_l10,x_o0_4_l10,x_o0_5_l10,x_o0_6_l10,x_o0_7_l10,x_o0_8_l10,x_o0_9_l10))))
noncomputable def spec_l15Search_visit_F (self:S_l15Search→Option (Bool×S_l15Search)) (x_0:S_l15Search):Option (Bool×S_l15Search):=
 if (w64 (x_0.nodes+1)) >x_0.budget then
  (some (false,(⟨x_0.pairs,x_0.faces,x_0.sheets,x_0.least,x_0.shifts,x_0.first,x_0.best,x_0.count,(w64 (x_0.nodes+1)),x_0.budget⟩:S_l15Search)))
  else (if (x_0.shifts.length:Int)=x_0.faces then
  (if (w64 (x_0.count+1))=1 then
  ((spec_l00Own x_0.shifts).bind fun x48=>
  spec_l15Search_visit_k8 self x_0 x48)
  else (spec_l15Search_visit_k8 self x_0 x_0.best))
  else ((loopO (spec_l15Search_visit_l10 self) (0,x_0.pairs,x_0.faces,x_0.sheets,x_0.least,x_0.shifts,x_0.first,x_0.best,x_0.count,(w64 (x_0.nodes+1)),x_0.budget)).bind fun o=>match o with
  | (.inl (x_o0_0_e0_10,x_o0_1_e0_10,x_o0_2_e0_10,x_o0_3_e0_10,x_o0_4_e0_10,x_o0_5_e0_10,x_o0_6_e0_10,x_o0_7_e0_10,x_o0_8_e0_10,x_o0_9_e0_10))=>(some (true,(⟨x_o0_0_e0_10,x_o0_1_e0_10,x_o0_2_e0_10,x_o0_3_e0_10,x_o0_4_e0_10,x_o0_5_e0_10,x_o0_6_e0_10,x_o0_7_e0_10,x_o0_8_e0_10,x_o0_9_e0_10⟩:S_l15Search)))
  | (.inr r2)=>(some r2)))
noncomputable def spec_l15Search_visit (x_0:S_l15Search):Option (Bool×S_l15Search):=fixO (fun self x_0=>spec_l15Search_visit_F self x_0) x_0
noncomputable def spec_l15Run (d_0:S_Drawing) (sheets_1:(List S_Veneer)) (least_2:Int) (budget_3:Int) (first_4:Bool):Option ((Option S_l15Search)×Int):=
 (spec_l05Ok d_0).bind fun x14=>
   (if x14=true then
   ((spec_l15Sheets sheets_1).bind fun x18=>
   some (!x18))
   else (some true)).bind fun t_20_m1=>
   if t_20_m1=true then
   (some (none,1))
   else ((spec_l00In budget_3 1 20000).bind fun x22=>
   (if x22=true then
   ((spec_l00In least_2 0 200).bind fun x26=>
   some (!x26))
   else (some true)).bind fun t_28_m3=>
   if t_28_m3=true then
   (some (none,2))
   else ((spec_l15Pairs d_0).bind fun x30=>
   (spec_l15Search_visit (⟨x30,(d_0.Faces.length:Int),sheets_1,least_2,([]:List Int),first_4,([]:List Int),0,0,budget_3⟩:S_l15Search)).bind fun x43=>
   if x43.2.nodes>budget_3 then
   (some (none,5))
   else (some ((some x43.2),0))))
noncomputable def spec_FirstShifts (d_0:S_Drawing) (sheets_1:(List S_Veneer)) (least_2:Int) (budget_3:Int):Option ((List Int)×Int):=
 (spec_l15Run d_0 sheets_1 least_2 budget_3 true).bind fun x16=>
   if x16.2≠0 then
   (some (([]:List Int),x16.2))
   else (match x16.1 with
   | none=>(none)
   | some ohc2=>(if ohc2.count=0 then
   (some (([]:List Int),3))
   else ((spec_l00Own ohc2.best).bind fun x31=>
   some (x31,0))))
noncomputable def impl_within (n_0:Int) (low_1:Int) (high_2:Int):Option Bool:=
 some ((decide (n_0≥low_1))&&(decide (n_0≤high_2)))
noncomputable def slices_Index_impl_Point_impl_Point_l2 (s_0:(List S_Point)) (v_1:S_Point) (t_8_l2:Int):Option (Int ⊕ (Unit ⊕ Int)):=
 if t_8_l2< (s_0.length:Int) then
  ((rd s_0 t_8_l2).bind fun x14=>
  if (v_1.X=x14.X∧v_1.Y=x14.Y) then
  (some (.inr (.inr t_8_l2)))
  else (some (.inl (w64 (t_8_l2+1)))))
  else (some (.inr (.inl ())))
noncomputable def slices_Index_impl_Point_impl_Point (s_0:(List S_Point)) (v_1:S_Point):Option Int:=
 (loopO (slices_Index_impl_Point_impl_Point_l2 s_0 v_1) 0).bind fun o=>match o with
   | (.inl _)=>(some (-1))
   | (.inr r2)=>(some r2)
noncomputable def slices_Contains_impl_Point_impl_Point (s_0:(List S_Point)) (v_1:S_Point):Option Bool:=
 (slices_Index_impl_Point_impl_Point s_0 v_1).bind fun x7=>
   some (decide (x7≥0))
noncomputable def impl_IsName_l4 (s_0:ByteArray) (i_3_l4:Int):Option (Int ⊕ (Unit ⊕ Bool)):=
 if i_3_l4< (s_0.size:Int) then
  ((bt s_0 i_3_l4).bind fun x30=>
  (if x30<97 then
  ((bt s_0 i_3_l4).bind fun x41=>
  if x41<48 then
  (some true)
  else ((bt s_0 i_3_l4).bind fun x46=>
  some (decide (x46>57))))
  else ((bt s_0 i_3_l4).bind fun x35=>
  if x35>122 then
  ((bt s_0 i_3_l4).bind fun x41=>
  if x41<48 then
  (some true)
  else ((bt s_0 i_3_l4).bind fun x46=>
  some (decide (x46>57))))
  else (some false))).bind fun t_49_m6=>
  if t_49_m6=true then
  (some (.inr (.inr false)))
  else (some (.inl (w64 (i_3_l4+1)))))
  else (some (.inr (.inl ())))
noncomputable def impl_IsName (s_0:ByteArray):Option Bool:=
 (if (s_0.size:Int) <1 then
   (some true)
   else (if (s_0.size:Int) >10 then
   (some true)
   else ((bt s_0 0).bind fun x14=>
   if x14<97 then
   (some true)
   else ((bt s_0 0).bind fun x19=>
   some (decide (x19>122)))))).bind fun t_21_m1=>
   if t_21_m1=true then
   (some false)
   else ((loopO (impl_IsName_l4 s_0) 0).bind fun o=>match o with
   | (.inl _)=>(some true)
   | (.inr r2)=>(some r2))
noncomputable def impl_ringPolygon_l3 (points_0:(List S_Point)) (ring_1:(List Int)) (s:(Int×(List S_Point))):Option ((Int×(List S_Point)) ⊕ ((List S_Point) ⊕ ((List S_Point)×Bool))):=
 match s with
  | (t_12_l3,out_o6_l3)=>
  if t_12_l3< (ring_1.length:Int) then
  ((rd ring_1 t_12_l3).bind fun x14=>
  (impl_within x14 0 (w64 ((points_0.length:Int) - 1))).bind fun x20=>
  if x20=true then
  ((rd points_0 x14).bind fun x25=>
  (apd 16 out_o6_l3 ([x25]:List S_Point)).bind fun x28=>
  some (.inl ((w64 (t_12_l3+1)),x28)))
  else (some (.inr (.inr (([]:List S_Point),false)))))
  else (some (.inr (.inl out_o6_l3)))
noncomputable def impl_ringPolygon (points_0:(List S_Point)) (ring_1:(List Int)):Option ((List S_Point)×Bool):=
 (loopO (impl_ringPolygon_l3 points_0 ring_1) (0,([]:List S_Point))).bind fun o=>match o with
   | (.inl out_o6_e0_3)=>(some (out_o6_e0_3,true))
   | (.inr r2)=>(some r2)
noncomputable def impl_ValidPoint (p_0:S_Point):Option Bool:=
 (impl_within p_0.X 0 20000).bind fun x5=>
   (if x5=true then
   ((impl_within p_0.Y 0 20000).bind fun x9=>
   some x9)
   else (some false)).bind fun t_2_m1=>
   some t_2_m1
noncomputable def impl_validPoints_l2 (list_0:(List S_Point)) (t_7_l2:Int):Option (Int ⊕ (Unit ⊕ Bool)):=
 if t_7_l2< (list_0.length:Int) then
  ((rd list_0 t_7_l2).bind fun x9=>
  (impl_ValidPoint x9).bind fun x12=>
  if x12=true then
  (some (.inl (w64 (t_7_l2+1))))
  else (some (.inr (.inr false))))
  else (some (.inr (.inl ())))
noncomputable def impl_validPoints (list_0:(List S_Point)):Option Bool:=
 (loopO (impl_validPoints_l2 list_0) 0).bind fun o=>match o with
   | (.inl _)=>(some true)
   | (.inr r2)=>(some r2)
noncomputable def impl_side (a_0:S_Point) (b_1:S_Point) (c_2:S_Point):Option Int:=
 if (w64 ((w64 ((w64 (b_1.X - a_0.X)) * (w64 (c_2.Y - a_0.Y)))) - (w64 ((w64 (b_1.Y - a_0.Y)) * (w64 (c_2.X - a_0.X)))))) >0 then
  (some 1)
  else (if (w64 ((w64 ((w64 (b_1.X - a_0.X)) * (w64 (c_2.Y - a_0.Y)))) - (w64 ((w64 (b_1.Y - a_0.Y)) * (w64 (c_2.X - a_0.X)))))) <0 then
  (some (-1))
  else (some 0))
noncomputable def impl_on (a_0:S_Point) (b_1:S_Point) (p_2:S_Point):Option Bool:=
 (impl_side a_0 b_1 p_2).bind fun x10=>
   (if x10=0 then
   ((impl_within p_2.X (min2 a_0.X b_1.X) (max2 a_0.X b_1.X)).bind fun x25=>
   if x25=true then
   ((impl_within p_2.Y (min2 a_0.Y b_1.Y) (max2 a_0.Y b_1.Y)).bind fun x40=>
   some x40)
   else (some false))
   else (some false)).bind fun t_6_m1=>
   some t_6_m1
noncomputable def impl_crossing (a_0:S_Point) (b_1:S_Point) (c_2:S_Point) (d_3:S_Point):Option Bool:=
 (impl_side a_0 b_1 c_2).bind fun x12=>
   (impl_side a_0 b_1 d_3).bind fun x16=>
   (if (w64 (x12*x16)) <0 then
   ((impl_side c_2 d_3 a_0).bind fun x23=>
   (impl_side c_2 d_3 b_1).bind fun x27=>
   some (decide ((w64 (x23*x27)) <0)))
   else (some false)).bind fun t_8_m1=>
   some t_8_m1
noncomputable def impl_touching (a_0:S_Point) (b_1:S_Point) (c_2:S_Point) (d_3:S_Point):Option Bool:=
 (impl_crossing a_0 b_1 c_2 d_3).bind fun x13=>
   (if x13=true then
   (some true)
   else ((impl_on a_0 b_1 c_2).bind fun x18=>
   if x18=true then
   (some true)
   else ((impl_on a_0 b_1 d_3).bind fun x24=>
   if x24=true then
   (some true)
   else ((impl_on c_2 d_3 a_0).bind fun x30=>
   if x30=true then
   (some true)
   else ((impl_on c_2 d_3 b_1).bind fun x36=>
   some x36))))).bind fun t_8_m1=>
   some t_8_m1
noncomputable def impl_doubled_l3 (p_0:(List S_Point)) (s:(Int×Int)):Option ((Int×Int) ⊕ Int):=
 match s with
  | (sum_3_l3,t_9_l3)=>
  if t_9_l3< (p_0.length:Int) then
  ((rd p_0 t_9_l3).bind fun x12=>
  (md (w64 (t_9_l3+1)) (p_0.length:Int)).bind fun x19=>
  (rd p_0 x19).bind fun x20=>
  some (.inl ((w64 (sum_3_l3+(w64 ((w64 (x12.X*x20.Y)) - (w64 (x12.Y*x20.X)))))),(w64 (t_9_l3+1)))))
  else (some (.inr sum_3_l3))
noncomputable def impl_doubled (p_0:(List S_Point)):Option Int:=
 (loopO (impl_doubled_l3 p_0) (0,0)).bind fun sum_3_e0_3=>
   some sum_3_e0_3
noncomputable def impl_ValidPolygon_l11 (p_0:(List S_Point)) (t_24_l5:Int) (x29:S_Point) (x36:S_Point) (k_8_l11:Int):Option (Int ⊕ (Unit ⊕ Bool)):=
 if k_8_l11< (p_0.length:Int) then
  ((md (w64 (k_8_l11+1)) (p_0.length:Int)).bind fun x70=>
  (if x70≠t_24_l5 then
  ((rd p_0 k_8_l11).bind fun x78=>
  (md (w64 (k_8_l11+1)) (p_0.length:Int)).bind fun x84=>
  (rd p_0 x84).bind fun x85=>
  (impl_touching x29 x36 x78 x85).bind fun x87=>
  some x87)
  else (some false)).bind fun t_88_m13=>
  if t_88_m13=true then
  (some (.inr (.inr false)))
  else (some (.inl (w64 (k_8_l11+1)))))
  else (some (.inr (.inl ())))
noncomputable def impl_ValidPolygon_l5 (p_0:(List S_Point)) (t_24_l5:Int):Option (Int ⊕ (Unit ⊕ Bool)):=
 if t_24_l5< (p_0.length:Int) then
  ((rd p_0 t_24_l5).bind fun x29=>
  (md (w64 (t_24_l5+1)) (p_0.length:Int)).bind fun x35=>
  (rd p_0 x35).bind fun x36=>
  (md (w64 (t_24_l5+2)) (p_0.length:Int)).bind fun x42=>
  (rd p_0 x42).bind fun x43=>
  (if (x29.X=x36.X∧x29.Y=x36.Y) then
  (some true)
  else ((impl_on x29 x36 x43).bind fun x52=>
  if x52=true then
  (some true)
  else ((impl_on x36 x43 x29).bind fun x58=>
  some x58))).bind fun t_59_m8=>
  if t_59_m8=true then
  (some (.inr (.inr false)))
  else ((loopO (impl_ValidPolygon_l11 p_0 t_24_l5 x29 x36) (w64 (t_24_l5+2))).bind fun o=>match o with
  | (.inl _)=>(some (.inl (w64 (t_24_l5+1))))
  | (.inr r2)=>(some (.inr (.inr r2)))))
  else (some (.inr (.inl ())))
noncomputable def impl_ValidPolygon (p_0:(List S_Point)):Option Bool:=
 (if (p_0.length:Int) <3 then
   (some true)
   else (if (p_0.length:Int) >24 then
   (some true)
   else ((impl_validPoints p_0).bind fun x19=>
   some (!x19)))).bind fun t_21_m2=>
   if t_21_m2=true then
   (some false)
   else ((loopO (impl_ValidPolygon_l5 p_0) 0).bind fun o=>match o with
   | (.inl _)=>((impl_doubled p_0).bind fun x91=>
   some (decide (x91>0)))
   | (.inr r2)=>(some r2))
noncomputable def impl_ValidDrawing_l10 (d_0:S_Drawing) (t_65_l10:Int):Option (Int ⊕ (Unit ⊕ Bool)):=
 if t_65_l10< (d_0.Faces.length:Int) then
  ((rd d_0.Faces t_65_l10).bind fun x68=>
  (impl_IsName x68.Name).bind fun x72=>
  (if x72=true then
  (if t_65_l10>0 then
  ((rd d_0.Faces (w64 (t_65_l10 - 1))).bind fun x82=>
  some (!Op.bytesLess x82.Name.toList x68.Name.toList))
  else (some false))
  else (some true)).bind fun t_89_m12=>
  if t_89_m12=true then
  (some (.inr (.inr false)))
  else ((impl_ringPolygon d_0.Points x68.Ring).bind fun x95=>
  (if x95.2=true then
  ((impl_ValidPolygon x95.1).bind fun x102=>
  some (!x102))
  else (some true)).bind fun t_104_m15=>
  if t_104_m15=true then
  (some (.inr (.inr false)))
  else (some (.inl (w64 (t_65_l10+1))))))
  else (some (.inr (.inl ())))
noncomputable def impl_ValidDrawing_l4 (d_0:S_Drawing) (t_34_l4:Int):Option (Int ⊕ (Unit ⊕ Bool)):=
 if t_34_l4< (d_0.Points.length:Int) then
  ((rd d_0.Points t_34_l4).bind fun x37=>
  (impl_within x37.X 0 d_0.Width).bind fun x43=>
  (if x43=true then
  ((impl_within x37.Y 0 d_0.Height).bind fun x50=>
  if x50=true then
  ((slc d_0.Points 0 t_34_l4).bind fun x57=>
  (slices_Contains_impl_Point_impl_Point x57 x37).bind fun x59=>
  some x59)
  else (some true))
  else (some true)).bind fun t_60_m6=>
  if t_60_m6=true then
  (some (.inr (.inr false)))
  else (some (.inl (w64 (t_34_l4+1)))))
  else (some (.inr (.inl ())))
noncomputable def impl_ValidDrawing (d_0:S_Drawing):Option Bool:=
 (impl_within d_0.Width 10 20000).bind fun x11=>
   (if x11=true then
   ((impl_within d_0.Height 10 20000).bind fun x16=>
   if x16=true then
   (if (d_0.Points.length:Int) >48 then
   (some true)
   else (some (decide ((d_0.Faces.length:Int) >24))))
   else (some true))
   else (some true)).bind fun t_30_m1=>
   if t_30_m1=true then
   (some false)
   else ((loopO (impl_ValidDrawing_l4 d_0) 0).bind fun o=>match o with
   | (.inl _)=>((loopO (impl_ValidDrawing_l10 d_0) 0).bind fun o=>match o with
   | (.inl _)=>(some true)
   | (.inr r2)=>(some r2))
   | (.inr r2)=>(some r2))
noncomputable def impl_SpeciesData (name_0:ByteArray):Option (Int×Int×Int×Int):=
 if name_0=(⟨#[97,115,104]⟩:ByteArray) then
  (some (20,40,310,0))
  else (if name_0=(⟨#[98,101,101,99,104]⟩:ByteArray) then
  (some (35,45,410,0))
  else (if name_0=(⟨#[98,105,114,99,104]⟩:ByteArray) then
  (some (15,33,280,0))
  else (if name_0=(⟨#[99,104,101,114,114,121]⟩:ByteArray) then
  (some (50,36,240,0))
  else (if name_0=(⟨#[101,98,111,110,121]⟩:ByteArray) then
  (some (95,85,270,0))
  else (if name_0=(⟨#[104,111,108,108,121]⟩:ByteArray) then
  (some (5,35,370,0))
  else (if name_0=(⟨#[109,97,112,108,101]⟩:ByteArray) then
  (some (10,42,290,0))
  else (if name_0=(⟨#[111,97,107]⟩:ByteArray) then
  (some (40,40,330,0))
  else (if name_0=(⟨#[114,111,115,101,119,111,111,100]⟩:ByteArray) then
  (some (80,60,220,0))
  else (if name_0=(⟨#[119,97,108,110,117,116]⟩:ByteArray) then
  (some (70,38,260,0))
  else (some (0,0,0,3)))))))))))
noncomputable def impl_speciesShade (name_0:ByteArray):Option (Int×Bool):=
 (impl_SpeciesData name_0).bind fun x10=>
   some (x10.1,(x10.2.2.2==0))
noncomputable def impl_ValidVeneer (v_0:S_Veneer):Option Bool:=
 (impl_speciesShade v_0.Species).bind fun x8=>
   (if x8.2=true then
   ((impl_within v_0.Shade 0 100).bind fun x15=>
   if x15=true then
   ((impl_within (w64 (v_0.Shade - x8.1)) (-15) 15).bind fun x22=>
   if x22=true then
   ((impl_within v_0.Grain 0 179).bind fun x27=>
   some x27)
   else (some false))
   else (some false))
   else (some false)).bind fun t_2_m2=>
   some t_2_m2
noncomputable def impl_validVeneers_c1 (v_0:S_Veneer):Option Bool:=
 (impl_ValidVeneer v_0).bind fun x4=>
   some (!x4)
noncomputable def slices_IndexFunc_impl_Veneer_impl_Veneer_l2 (f_1:(S_Veneer→Option Bool)) (s_0:(List S_Veneer)) (t_8_l2:Int):Option (Int ⊕ (Unit ⊕ Int)):=
 if t_8_l2< (s_0.length:Int) then
  ((rd s_0 t_8_l2).bind fun x14=>
  (f_1 x14).bind fun x16=>
  if x16=true then
  (some (.inr (.inr t_8_l2)))
  else (some (.inl (w64 (t_8_l2+1)))))
  else (some (.inr (.inl ())))
noncomputable def slices_IndexFunc_impl_Veneer_impl_Veneer (s_0:(List S_Veneer)) (f_1:(S_Veneer→Option Bool)):Option Int:=
 (loopO (slices_IndexFunc_impl_Veneer_impl_Veneer_l2 f_1 s_0) 0).bind fun o=>match o with
   | (.inl _)=>(some (-1))
   | (.inr r2)=>(some r2)
noncomputable def slices_ContainsFunc_impl_Veneer_impl_Veneer (s_0:(List S_Veneer)) (f_1:(S_Veneer→Option Bool)):Option Bool:=
 (slices_IndexFunc_impl_Veneer_impl_Veneer s_0 f_1).bind fun x7=>
   some (decide (x7≥0))
noncomputable def impl_validVeneers (list_0:(List S_Veneer)):Option Bool:=
 (slices_ContainsFunc_impl_Veneer_impl_Veneer list_0 (fun a0=>impl_validVeneers_c1 a0)).bind fun x4=>
   some (!x4)
noncomputable def impl_validSheets (sheets_0:(List S_Veneer)):Option Bool:=
 (impl_within (sheets_0.length:Int) 1 8).bind fun x5=>
   (if x5=true then
   ((impl_validVeneers sheets_0).bind fun x8=>
   some x8)
   else (some false)).bind fun t_2_m1=>
   some t_2_m1
noncomputable def impl_ringEdges_l3 (ring_0:(List Int)) (s:(Int×(List Ar2_Int))):Option ((Int×(List Ar2_Int)) ⊕ (List Ar2_Int)):=
 match s with
  | (t_10_l3,out_o3_l3)=>
  if t_10_l3< (ring_0.length:Int) then
  ((rd ring_0 t_10_l3).bind fun x13=>
  (md (w64 (t_10_l3+1)) (ring_0.length:Int)).bind fun x20=>
  (rd ring_0 x20).bind fun x21=>
  (apd 16 out_o3_l3 ([(⟨(min2 x13 x21),(max2 x13 x21)⟩:Ar2_Int)]:List Ar2_Int)).bind fun x32=>
  some (.inl ((w64 (t_10_l3+1)),x32)))
  else (some (.inr out_o3_l3))
noncomputable def impl_ringEdges (ring_0:(List Int)):Option (List Ar2_Int):=
 (loopO (impl_ringEdges_l3 ring_0) (0,([]:List Ar2_Int))).bind fun out_o3_e0_3=>
   some out_o3_e0_3
noncomputable def slices_Index_2_int64_2_int64_l2 (s_0:(List Ar2_Int)) (v_1:Ar2_Int) (t_8_l2:Int):Option (Int ⊕ (Unit ⊕ Int)):=
 if t_8_l2< (s_0.length:Int) then
  ((rd s_0 t_8_l2).bind fun x14=>
  if (v_1.e0=x14.e0∧v_1.e1=x14.e1) then
  (some (.inr (.inr t_8_l2)))
  else (some (.inl (w64 (t_8_l2+1)))))
  else (some (.inr (.inl ())))
noncomputable def slices_Index_2_int64_2_int64 (s_0:(List Ar2_Int)) (v_1:Ar2_Int):Option Int:=
 (loopO (slices_Index_2_int64_2_int64_l2 s_0 v_1) 0).bind fun o=>match o with
   | (.inl _)=>(some (-1))
   | (.inr r2)=>(some r2)
noncomputable def slices_Contains_2_int64_2_int64 (s_0:(List Ar2_Int)) (v_1:Ar2_Int):Option Bool:=
 (slices_Index_2_int64_2_int64 s_0 v_1).bind fun x7=>
   some (decide (x7≥0))
noncomputable def impl_neighbours_c1 (e_0:Ar2_Int) (cap0_0:(List (List Ar2_Int))) (cap1_0:Int):Option Bool:=
 (rd cap0_0 cap1_0).bind fun x7=>
   (slices_Contains_2_int64_2_int64 x7 e_0).bind fun x10=>
   some x10
noncomputable def slices_IndexFunc_2_int64_2_int64_l2 (f_1:(Ar2_Int→Option Bool)) (s_0:(List Ar2_Int)) (t_8_l2:Int):Option (Int ⊕ (Unit ⊕ Int)):=
 if t_8_l2< (s_0.length:Int) then
  ((rd s_0 t_8_l2).bind fun x14=>
  (f_1 x14).bind fun x16=>
  if x16=true then
  (some (.inr (.inr t_8_l2)))
  else (some (.inl (w64 (t_8_l2+1)))))
  else (some (.inr (.inl ())))
noncomputable def slices_IndexFunc_2_int64_2_int64 (s_0:(List Ar2_Int)) (f_1:(Ar2_Int→Option Bool)):Option Int:=
 (loopO (slices_IndexFunc_2_int64_2_int64_l2 f_1 s_0) 0).bind fun o=>match o with
   | (.inl _)=>(some (-1))
   | (.inr r2)=>(some r2)
noncomputable def slices_ContainsFunc_2_int64_2_int64 (s_0:(List Ar2_Int)) (f_1:(Ar2_Int→Option Bool)):Option Bool:=
 (slices_IndexFunc_2_int64_2_int64 s_0 f_1).bind fun x7=>
   some (decide (x7≥0))
noncomputable def impl_neighbours_k16 (t_34_l12:Int) (out_o6_r16:(List (List Int))):Option ((Int×(List (List Int))) ⊕ (List (List Int))):=
 some (.inl ((w64 (t_34_l12+1)),out_o6_r16))
noncomputable def impl_neighbours_l12 (edges_o3_e0_3:(List (List Ar2_Int))) (t_29_l9:Int) (s:(Int×(List (List Int)))):Option ((Int×(List (List Int))) ⊕ (List (List Int))):=
 match s with
  | (t_34_l12,out_o6_l12)=>
  if t_34_l12< (edges_o3_e0_3.length:Int) then
  ((if t_29_l9≠t_34_l12 then
  ((rd edges_o3_e0_3 t_29_l9).bind fun x43=>
  (slices_ContainsFunc_2_int64_2_int64 x43 (fun a0=>impl_neighbours_c1 a0 edges_o3_e0_3 t_34_l12)).bind fun x46=>
  some x46)
  else (some false)).bind fun t_47_m14=>
  if t_47_m14=true then
  ((rd out_o6_l12 t_29_l9).bind fun x52=>
  (apd 8 x52 ([t_34_l12]:List Int)).bind fun x56=>
  (rd out_o6_l12 t_29_l9).bind fun x57=>
  impl_neighbours_k16 t_34_l12 (out_o6_l12.set t_29_l9.toNat x56))
  else (impl_neighbours_k16 t_34_l12 out_o6_l12))
  else (some (.inr out_o6_l12))
noncomputable def impl_neighbours_l9 (edges_o3_e0_3:(List (List Ar2_Int))) (s:(Int×(List (List Int)))):Option ((Int×(List (List Int))) ⊕ (List (List Int))):=
 match s with
  | (t_29_l9,out_o6_l9)=>
  if t_29_l9< (edges_o3_e0_3.length:Int) then
  ((loopO (impl_neighbours_l12 edges_o3_e0_3 t_29_l9) (0,out_o6_l9)).bind fun out_o6_e4_12=>
  some (.inl ((w64 (t_29_l9+1)),out_o6_e4_12)))
  else (some (.inr out_o6_l9))
noncomputable def impl_neighbours_l3 (d_0:S_Drawing) (s:(Int×(List (List Ar2_Int)))):Option ((Int×(List (List Ar2_Int))) ⊕ (List (List Ar2_Int))):=
 match s with
  | (t_13_l3,edges_o3_l3)=>
  if t_13_l3< (d_0.Faces.length:Int) then
  ((rd d_0.Faces t_13_l3).bind fun x15=>
  (impl_ringEdges x15.Ring).bind fun x20=>
  (apd 24 edges_o3_l3 ([x20]:List (List Ar2_Int))).bind fun x22=>
  some (.inl ((w64 (t_13_l3+1)),x22)))
  else (some (.inr edges_o3_l3))
noncomputable def impl_neighbours (d_0:S_Drawing):Option (List (List Int)):=
 (loopO (impl_neighbours_l3 d_0) (0,([]:List (List Ar2_Int)))).bind fun edges_o3_e0_3=>
   (mkl 24 (edges_o3_e0_3.length:Int) ([]:List Int)).bind fun x26=>
   (loopO (impl_neighbours_l9 edges_o3_e0_3) (0,x26)).bind fun out_o6_e2_9=>
   some out_o6_e2_9
noncomputable def impl_GrainAngle (a_0:Int) (b_1:Int):Option (Int×Int):=
 (impl_within a_0 0 179).bind fun x8=>
   (if x8=true then
   ((impl_within b_1 0 179).bind fun x12=>
   some (!x12))
   else (some true)).bind fun t_14_m1=>
   if t_14_m1=true then
   (some (0,2))
   else (some ((min2 (max2 (w64 (a_0 - b_1)) (w64 (b_1 - a_0))) (w64 (180 - (max2 (w64 (a_0 - b_1)) (w64 (b_1 - a_0)))))),0))
noncomputable def impl_contrast (a_0:S_Veneer) (b_1:S_Veneer):Option Int:=
 (impl_GrainAngle a_0.Grain b_1.Grain).bind fun x12=>
   (dv .i64 x12.1 6).bind fun x27=>
   some (w64 ((max2 (w64 (a_0.Shade - b_1.Shade)) (w64 (b_1.Shade - a_0.Shade)))+x27))
noncomputable def impl_sheetContrasts_k12 (t_17_l7:Int) (least_5_r12:Int):Option ((Int×Int) ⊕ Int):=
 some (.inl (least_5_r12,(w64 (t_17_l7+1))))
noncomputable def impl_sheetContrasts_l7 (sheets_0:(List S_Veneer)) (t_12_l3:Int) (s:(Int×Int)):Option ((Int×Int) ⊕ Int):=
 match s with
  | (least_5_l7,t_17_l7)=>
  if t_17_l7< (sheets_0.length:Int) then
  ((rd sheets_0 t_17_l7).bind fun x20=>
  (md (w64 (t_17_l7+t_12_l3)) (sheets_0.length:Int)).bind fun x29=>
  (rd sheets_0 x29).bind fun x30=>
  (impl_contrast x20 x30).bind fun x32=>
  if (least_5_l7<0∨x32<least_5_l7) then
  (impl_sheetContrasts_k12 t_17_l7 x32)
  else (impl_sheetContrasts_k12 t_17_l7 least_5_l7))
  else (some (.inr least_5_l7))
noncomputable def impl_sheetContrasts_l3 (sheets_0:(List S_Veneer)) (s:(Int×(List Int))):Option ((Int×(List Int)) ⊕ (List Int)):=
 match s with
  | (t_12_l3,out_o3_l3)=>
  if t_12_l3< (sheets_0.length:Int) then
  ((loopO (impl_sheetContrasts_l7 sheets_0 t_12_l3) ((-1),0)).bind fun least_5_e2_7=>
  (apd 8 out_o3_l3 ([least_5_e2_7]:List Int)).bind fun x45=>
  some (.inl ((w64 (t_12_l3+1)),x45)))
  else (some (.inr out_o3_l3))
noncomputable def impl_sheetContrasts (sheets_0:(List S_Veneer)):Option (List Int):=
 (loopO (impl_sheetContrasts_l3 sheets_0) (0,([]:List Int))).bind fun out_o3_e0_3=>
   some out_o3_e0_3
noncomputable def impl_shiftSearch_run_k8 (self:(S_shiftSearch×(List Int))→Option (Bool×S_shiftSearch)) (s_0:S_shiftSearch) (s_o0_5_r8:(List Int)):Option (Bool×S_shiftSearch):=
 some (s_0.one,(⟨s_0.near,s_0.contrasts,s_0.least,(w64 (s_0.left - 1)),(w64 (s_0.found+1)),s_o0_5_r8,s_0.one⟩:S_shiftSearch))
noncomputable def impl_shiftSearch_run_l15 (self:(S_shiftSearch×(List Int))→Option (Bool×S_shiftSearch)) (s_0:S_shiftSearch) (s_o0_1_l11:(List Int)) (s_o0_2_l11:Int) (shifts_1:(List Int)) (t_58_l11:Int) (x66:(List Int)) (s:(Bool×Int)):Option ((Bool×Int) ⊕ Bool):=
 match s with
  | (good_8_l15,t_69_l15)=>
  if t_69_l15< (x66.length:Int) then
  ((rd x66 t_69_l15).bind fun x71=>
  (if good_8_l15=true then
  (if x71> (shifts_1.length:Int) then
  (some true)
  else ((rd shifts_1 x71).bind fun x86=>
  (md (w64 ((w64 (t_58_l11 - x86))+(s_0.contrasts.length:Int))) (s_0.contrasts.length:Int)).bind fun x92=>
  (rd s_o0_1_l11 x92).bind fun x93=>
  some (decide (x93≥s_o0_2_l11))))
  else (some false)).bind fun good_8_m17=>
  some (.inl (good_8_m17,(w64 (t_69_l15+1)))))
  else (some (.inr good_8_l15))
noncomputable def impl_shiftSearch_run_l11 (self:(S_shiftSearch×(List Int))→Option (Bool×S_shiftSearch)) (s_0:S_shiftSearch) (shifts_1:(List Int)) (s:(Int×(List (List Int))×(List Int)×Int×Int×Int×(List Int)×Bool)):Option ((Int×(List (List Int))×(List Int)×Int×Int×Int×(List Int)×Bool) ⊕ (((List (List Int))×(List Int)×Int×Int×Int×(List Int)×Bool) ⊕ (Bool×S_shiftSearch))):=
 match s with
  | (t_58_l11,s_o0_0_l11,s_o0_1_l11,s_o0_2_l11,s_o0_3_l11,s_o0_4_l11,s_o0_5_l11,s_o0_6_l11)=>
  if t_58_l11< (s_0.contrasts.length:Int) then
  ((rd s_o0_0_l11 (shifts_1.length:Int)).bind fun x66=>
  (loopO (impl_shiftSearch_run_l15 self s_0 s_o0_1_l11 s_o0_2_l11 shifts_1 t_58_l11 x66) (true,0)).bind fun good_8_e2_15=>
  (if good_8_e2_15=true then
  ((apd 8 ([]:List Int) shifts_1).bind fun x107=>
  (apd 8 x107 ([t_58_l11]:List Int)).bind fun x110=>
  (self ((⟨s_o0_0_l11,s_o0_1_l11,s_o0_2_l11,s_o0_3_l11,s_o0_4_l11,s_o0_5_l11,s_o0_6_l11⟩:S_shiftSearch),x110)).bind fun x111=>
  some (x111.1,x111.2.near,x111.2.contrasts,x111.2.least,x111.2.left,x111.2.found,x111.2.first,x111.2.one))
  else (some (false,s_o0_0_l11,s_o0_1_l11,s_o0_2_l11,s_o0_3_l11,s_o0_4_l11,s_o0_5_l11,s_o0_6_l11))).bind fun s=>match s with
  | (t_112_m19,s_o0_0_m19,s_o0_1_m19,s_o0_2_m19,s_o0_3_m19,s_o0_4_m19,s_o0_5_m19,s_o0_6_m19)=>
  if t_112_m19=true then
  (some (.inr (.inr (true,(⟨s_o0_0_m19,s_o0_1_m19,s_o0_2_m19,s_o0_3_m19,s_o0_4_m19,s_o0_5_m19,s_o0_6_m19⟩:S_shiftSearch)))))
  else (some (.inl ((w64 (t_58_l11+1)),s_o0_0_m19,s_o0_1_m19,s_o0_2_m19,s_o0_3_m19,s_o0_4_m19,s_o0_5_m19,s_o0_6_m19))))
  else (some (.inr (.inl (s_o0_0_l11,s_o0_1_l11,s_o0_2_l11,s_o0_3_l11,s_o0_4_l11,s_o0_5_l11,s_o0_6_l11))))
noncomputable def impl_shiftSearch_run_F (self:(S_shiftSearch×(List Int))→Option (Bool×S_shiftSearch)) (s_0:S_shiftSearch) (shifts_1:(List Int)):Option (Bool×S_shiftSearch):=
 if (w64 (s_0.left - 1)) <0 then
  (some (true,(⟨s_0.near,s_0.contrasts,s_0.least,(w64 (s_0.left - 1)),s_0.found,s_0.first,s_0.one⟩:S_shiftSearch)))
  else (if (shifts_1.length:Int)=(s_0.near.length:Int) then
  (if s_0.found=0 then
  (impl_shiftSearch_run_k8 self s_0 shifts_1)
  else (impl_shiftSearch_run_k8 self s_0 s_0.first))
  else ((loopO (impl_shiftSearch_run_l11 self s_0 shifts_1) (0,s_0.near,s_0.contrasts,s_0.least,(w64 (s_0.left - 1)),s_0.found,s_0.first,s_0.one)).bind fun o=>match o with
  | (.inl (s_o0_0_e0_11,s_o0_1_e0_11,s_o0_2_e0_11,s_o0_3_e0_11,s_o0_4_e0_11,s_o0_5_e0_11,s_o0_6_e0_11))=>(some (false,(⟨s_o0_0_e0_11,s_o0_1_e0_11,s_o0_2_e0_11,s_o0_3_e0_11,s_o0_4_e0_11,s_o0_5_e0_11,s_o0_6_e0_11⟩:S_shiftSearch)))
  | (.inr r2)=>(some r2)))
noncomputable def impl_shiftSearch_run (s_0:S_shiftSearch) (shifts_1:(List Int)):Option (Bool×S_shiftSearch):=fixO (fun self s=>match s with | (s_0,shifts_1)=>impl_shiftSearch_run_F self s_0 shifts_1) (s_0,shifts_1)
noncomputable def impl_searchShifts (d_0:S_Drawing) (sheets_1:(List S_Veneer)) (least_2:Int) (budget_3:Int) (one_4:Bool):Option ((Option S_shiftSearch)×Int):=
 (impl_ValidDrawing d_0).bind fun x15=>
   (if x15=true then
   ((impl_validSheets sheets_1).bind fun x19=>
   some (!x19))
   else (some true)).bind fun t_13_m1=>
   if t_13_m1=true then
   (some (none,1))
   else ((impl_within budget_3 1 20000).bind fun x24=>
   (if x24=true then
   ((impl_within least_2 0 200).bind fun x28=>
   some (!x28))
   else (some true)).bind fun t_22_m3=>
   if t_22_m3=true then
   (some (none,2))
   else ((impl_neighbours d_0).bind fun x32=>
   (impl_sheetContrasts sheets_1).bind fun x34=>
   (impl_shiftSearch_run (⟨x32,x34,least_2,budget_3,0,([]:List Int),one_4⟩:S_shiftSearch) ([]:List Int)).bind fun x41=>
   if x41.2.left<0 then
   (some (none,5))
   else (some ((some x41.2),0))))
noncomputable def impl_FirstShifts_k4 (x17:((Option S_shiftSearch)×Int)) (code_11_r4:Int):Option ((List Int)×Int):=
 if code_11_r4≠0 then
  (some (([]:List Int),code_11_r4))
  else (match x17.1 with
  | none=>(none)
  | some ohc5=>(some (ohc5.first,0)))
noncomputable def impl_FirstShifts (d_0:S_Drawing) (sheets_1:(List S_Veneer)) (least_2:Int) (budget_3:Int):Option ((List Int)×Int):=
 (impl_searchShifts d_0 sheets_1 least_2 budget_3 true).bind fun x17=>
   (if x17.2=0 then
   (match x17.1 with
   | none=>(none)
   | some ohc2=>(some (ohc2.found==0)))
   else (some false)).bind fun t_28_m2=>
   if t_28_m2=true then
   (impl_FirstShifts_k4 x17 3)
   else (impl_FirstShifts_k4 x17 x17.2)
noncomputable def laws_eqInt64S_l4 (a_0:(List Int)) (b_1:(List Int)) (i_5_l4:Int):Option (Int ⊕ (Unit ⊕ Bool)):=
 if i_5_l4< (a_0.length:Int) then
  ((rd a_0 i_5_l4).bind fun x19=>
  (rd b_1 i_5_l4).bind fun x23=>
  if x19≠x23 then
  (some (.inr (.inr false)))
  else (some (.inl (w64 (i_5_l4+1)))))
  else (some (.inr (.inl ())))
noncomputable def laws_eqInt64S (a_0:(List Int)) (b_1:(List Int)):Option Bool:=
 if (a_0.length:Int)≠(b_1.length:Int) then
  (some false)
  else ((loopO (laws_eqInt64S_l4 a_0 b_1) 0).bind fun o=>match o with
  | (.inl _)=>(some true)
  | (.inr r2)=>(some r2))
noncomputable def laws_eqPoint (a_0:S_Point) (b_1:S_Point):Option Bool:=
 if a_0.X≠b_1.X then
  (some false)
  else (if a_0.Y≠b_1.Y then
  (some false)
  else (some true))
noncomputable def laws_eqPointS_l4 (a_0:(List S_Point)) (b_1:(List S_Point)) (i_5_l4:Int):Option (Int ⊕ (Unit ⊕ Bool)):=
 if i_5_l4< (a_0.length:Int) then
  ((rd a_0 i_5_l4).bind fun x19=>
  (rd b_1 i_5_l4).bind fun x23=>
  (laws_eqPoint x19 x23).bind fun x25=>
  if x25=true then
  (some (.inl (w64 (i_5_l4+1))))
  else (some (.inr (.inr false))))
  else (some (.inr (.inl ())))
noncomputable def laws_eqPointS (a_0:(List S_Point)) (b_1:(List S_Point)):Option Bool:=
 if (a_0.length:Int)≠(b_1.length:Int) then
  (some false)
  else ((loopO (laws_eqPointS_l4 a_0 b_1) 0).bind fun o=>match o with
  | (.inl _)=>(some true)
  | (.inr r2)=>(some r2))
noncomputable def laws_eqFace (a_0:S_Face) (b_1:S_Face):Option Bool:=
 if ¬(a_0.Name=b_1.Name) then
  (some false)
  else ((laws_eqInt64S a_0.Ring b_1.Ring).bind fun x14=>
  if x14=true then
  (some true)
  else (some false))
noncomputable def laws_eqFaceS_l4 (a_0:(List S_Face)) (b_1:(List S_Face)) (i_5_l4:Int):Option (Int ⊕ (Unit ⊕ Bool)):=
 if i_5_l4< (a_0.length:Int) then
  ((rd a_0 i_5_l4).bind fun x19=>
  (rd b_1 i_5_l4).bind fun x23=>
  (laws_eqFace x19 x23).bind fun x25=>
  if x25=true then
  (some (.inl (w64 (i_5_l4+1))))
  else (some (.inr (.inr false))))
  else (some (.inr (.inl ())))
noncomputable def laws_eqFaceS (a_0:(List S_Face)) (b_1:(List S_Face)):Option Bool:=
 if (a_0.length:Int)≠(b_1.length:Int) then
  (some false)
  else ((loopO (laws_eqFaceS_l4 a_0 b_1) 0).bind fun o=>match o with
  | (.inl _)=>(some true)
  | (.inr r2)=>(some r2))
noncomputable def laws_eqDrawing (a_0:S_Drawing) (b_1:S_Drawing):Option Bool:=
 if a_0.Width≠b_1.Width then
  (some false)
  else (if a_0.Height≠b_1.Height then
  (some false)
  else ((laws_eqPointS a_0.Points b_1.Points).bind fun x19=>
  if x19=true then
  ((laws_eqFaceS a_0.Faces b_1.Faces).bind fun x25=>
  if x25=true then
  (some true)
  else (some false))
  else (some false)))
noncomputable def laws_eqVeneer (a_0:S_Veneer) (b_1:S_Veneer):Option Bool:=
 if ¬(a_0.Species=b_1.Species) then
  (some false)
  else (if a_0.Shade≠b_1.Shade then
  (some false)
  else (if a_0.Grain≠b_1.Grain then
  (some false)
  else (some true)))
noncomputable def laws_eqVeneerS_l4 (a_0:(List S_Veneer)) (b_1:(List S_Veneer)) (i_5_l4:Int):Option (Int ⊕ (Unit ⊕ Bool)):=
 if i_5_l4< (a_0.length:Int) then
  ((rd a_0 i_5_l4).bind fun x19=>
  (rd b_1 i_5_l4).bind fun x23=>
  (laws_eqVeneer x19 x23).bind fun x25=>
  if x25=true then
  (some (.inl (w64 (i_5_l4+1))))
  else (some (.inr (.inr false))))
  else (some (.inr (.inl ())))
noncomputable def laws_eqVeneerS (a_0:(List S_Veneer)) (b_1:(List S_Veneer)):Option Bool:=
 if (a_0.length:Int)≠(b_1.length:Int) then
  (some false)
  else ((loopO (laws_eqVeneerS_l4 a_0 b_1) 0).bind fun o=>match o with
  | (.inl _)=>(some true)
  | (.inr r2)=>(some r2))
noncomputable def laws_markPointS_ws_l2 (a_0:(List S_Point)) (s:(Int×Int)):Option ((Int×Int) ⊕ Int):=
 match s with
  | (k_1_l2,i_5_l2)=>
  if i_5_l2< (a_0.length:Int) then
  ((rd a_0 i_5_l2).bind fun x15=>
  (rd a_0 i_5_l2).bind fun x22=>
  some (.inl ((w64 ((w64 (k_1_l2+1))+1)),(w64 (i_5_l2+1)))))
  else (some (.inr k_1_l2))
noncomputable def laws_markPointS_ws (a_0:(List S_Point)) (k_1:Int):Option Int:=
 (loopO (laws_markPointS_ws_l2 a_0) (k_1,0)).bind fun k_1_e0_2=>
   some k_1_e0_2
noncomputable def laws_markText_l4 (s:(Int×ByteArray)):Option ((Int×ByteArray) ⊕ ByteArray):=
 match s with
  | (k_0_l4,out_3_l4)=>
  if k_0_l4>0 then
  ((md k_0_l4 10).bind fun x9=>
  (cat (strOf ([(IntKind.wrap .u8 ((w64 (48+x9))))]:List Int)) out_3_l4).bind fun x15=>
  (dv .i64 k_0_l4 10).bind fun x17=>
  some (.inl (x17,x15)))
  else (some (.inr out_3_l4))
noncomputable def laws_markText (k_0:Int):Option ByteArray:=
 if k_0≤0 then
  (some (⟨#[109,48]⟩:ByteArray))
  else ((loopO (laws_markText_l4) (k_0,(⟨#[]⟩:ByteArray))).bind fun out_3_e0_4=>
  (cat (⟨#[109]⟩:ByteArray) out_3_e0_4).bind fun x19=>
  some x19)
noncomputable def laws_markInt64S_ws_l2 (a_0:(List Int)) (s:(Int×Int)):Option ((Int×Int) ⊕ Int):=
 match s with
  | (k_1_l2,i_5_l2)=>
  if i_5_l2< (a_0.length:Int) then
  ((rd a_0 i_5_l2).bind fun x15=>
  some (.inl ((w64 (k_1_l2+1)),(w64 (i_5_l2+1)))))
  else (some (.inr k_1_l2))
noncomputable def laws_markInt64S_ws (a_0:(List Int)) (k_1:Int):Option Int:=
 (loopO (laws_markInt64S_ws_l2 a_0) (k_1,0)).bind fun k_1_e0_2=>
   some k_1_e0_2
noncomputable def laws_markFaceS_l2 (a_0:(List S_Face)) (s:(Int×Int)):Option ((Int×Int) ⊕ Int):=
 match s with
  | (k_1_l2,i_5_l2)=>
  if i_5_l2< (a_0.length:Int) then
  ((laws_markText k_1_l2).bind fun x15=>
  (rd a_0 i_5_l2).bind fun x16=>
  (rd a_0 i_5_l2).bind fun x22=>
  (laws_markInt64S_ws x22.Ring (w64 (k_1_l2+1))).bind fun x26=>
  some (.inl (x26,(w64 (i_5_l2+1)))))
  else (some (.inr k_1_l2))
noncomputable def laws_markFaceS (a_0:(List S_Face)) (k_1:Int):Option Int:=
 (loopO (laws_markFaceS_l2 a_0) (k_1,0)).bind fun k_1_e0_2=>
   some k_1_e0_2
noncomputable def laws_markDrawing (a_0:S_Drawing) (k_1:Int):Option Int:=
 (laws_markPointS_ws a_0.Points k_1).bind fun x8=>
   (laws_markFaceS a_0.Faces x8).bind fun x12=>
   some x12
noncomputable def laws_markVeneerS_l2 (s:(Int×Int×(List S_Veneer))):Option ((Int×Int×(List S_Veneer)) ⊕ (Int×(List S_Veneer))):=
 match s with
  | (k_1_l2,i_5_l2,a_o0_l2)=>
  if i_5_l2< (a_o0_l2.length:Int) then
  ((laws_markText k_1_l2).bind fun x15=>
  (rd a_o0_l2 i_5_l2).bind fun x16=>
  (rd (a_o0_l2.set i_5_l2.toNat (⟨x15,x16.Shade,x16.Grain⟩:S_Veneer)) i_5_l2).bind fun x23=>
  (rd ((a_o0_l2.set i_5_l2.toNat (⟨x15,x16.Shade,x16.Grain⟩:S_Veneer)).set i_5_l2.toNat (⟨x23.Species,(w64 (k_1_l2+1)),x23.Grain⟩:S_Veneer)) i_5_l2).bind fun x30=>
  some (.inl ((w64 ((w64 ((w64 (k_1_l2+1))+1))+1)),(w64 (i_5_l2+1)),(((a_o0_l2.set i_5_l2.toNat (⟨x15,x16.Shade,x16.Grain⟩:S_Veneer)).set i_5_l2.toNat (⟨x23.Species,(w64 (k_1_l2+1)),x23.Grain⟩:S_Veneer)).set i_5_l2.toNat (⟨x30.Species,x30.Shade,(w64 ((w64 (k_1_l2+1))+1))⟩:S_Veneer)))))
  else (some (.inr (k_1_l2,a_o0_l2)))
noncomputable def laws_markVeneerS (a_0:(List S_Veneer)) (k_1:Int):Option (Int×(List S_Veneer)):=
 (loopO (laws_markVeneerS_l2) (k_1,0,a_0)).bind fun o=>match o with
   | (k_1_e0_2,a_o0_e0_2)=>
   some (k_1_e0_2,a_o0_e0_2)
noncomputable def laws_markInt64S_l2 (s:(Int×Int×(List Int))):Option ((Int×Int×(List Int)) ⊕ (Int×(List Int))):=
 match s with
  | (k_1_l2,i_5_l2,a_o0_l2)=>
  if i_5_l2< (a_o0_l2.length:Int) then
  ((rd a_o0_l2 i_5_l2).bind fun x15=>
  some (.inl ((w64 (k_1_l2+1)),(w64 (i_5_l2+1)),(a_o0_l2.set i_5_l2.toNat k_1_l2))))
  else (some (.inr (k_1_l2,a_o0_l2)))
noncomputable def laws_markInt64S (a_0:(List Int)) (k_1:Int):Option (Int×(List Int)):=
 (loopO (laws_markInt64S_l2) (k_1,0,a_0)).bind fun o=>match o with
   | (k_1_e0_2,a_o0_e0_2)=>
   some (k_1_e0_2,a_o0_e0_2)
noncomputable def laws_heldInt64S_l2 (a_0:(List Int)) (s:(Int×Int)):Option ((Int×Int) ⊕ (Int ⊕ Int)):=
 match s with
  | (k_1_l2,i_5_l2)=>
  if i_5_l2< (a_0.length:Int) then
  ((rd a_0 i_5_l2).bind fun x14=>
  if x14≠k_1_l2 then
  (some (.inr (.inr (-1))))
  else (some (.inl ((w64 (k_1_l2+1)),(w64 (i_5_l2+1))))))
  else (some (.inr (.inl k_1_l2)))
noncomputable def laws_heldInt64S (a_0:(List Int)) (k_1:Int):Option Int:=
 (loopO (laws_heldInt64S_l2 a_0) (k_1,0)).bind fun o=>match o with
   | (.inl k_1_e0_2)=>(some k_1_e0_2)
   | (.inr r2)=>(some r2)
noncomputable def laws_FnExactFirstShifts (aD_0:S_Drawing) (aSheets_1:(List S_Veneer)) (aLeast_2:Int) (aBudget_3:Int):Option Bool:=
 (laws_szDrawing aD_0 1048576).bind fun x23=>
   if x23<0 then
   (some true)
   else ((laws_szVeneerS aSheets_1 x23).bind fun x28=>
   if x28<0 then
   (some true)
   else ((laws_toDrawing aD_0).bind fun x33=>
   (laws_toVeneerS aSheets_1).bind fun x35=>
   (spec_FirstShifts x33 x35 aLeast_2 aBudget_3).bind fun x38=>
   (laws_toDrawing aD_0).bind fun x42=>
   (laws_toVeneerS aSheets_1).bind fun x44=>
   (impl_FirstShifts x42 x44 aLeast_2 aBudget_3).bind fun x50=>
   (laws_eqInt64S x50.1 x38.1).bind fun x55=>
   if (¬(x55=true)∨x50.2≠x38.2) then
   (some false)
   else ((laws_toDrawing aD_0).bind fun x64=>
   (laws_eqDrawing x42 x64).bind fun x65=>
   if x65=true then
   ((laws_toVeneerS aSheets_1).bind fun x69=>
   (laws_eqVeneerS x44 x69).bind fun x70=>
   if x70=true then
   ((laws_markDrawing x42 1).bind fun x74=>
   (laws_markVeneerS x44 x74).bind fun x77=>
   (if x77.1<0 then
   (some true)
   else ((laws_eqInt64S x50.1 x38.1).bind fun x83=>
   if x83=true then
   (some (x50.2 != x38.2))
   else (some true))).bind fun t_90_m21=>
   if t_90_m21=true then
   (some false)
   else ((laws_markInt64S x50.1 1).bind fun x93=>
   (laws_heldInt64S x93.2 1).bind fun x96=>
   if x96<0 then
   (some false)
   else (if x96≠x93.1 then
   (some false)
   else ((laws_toDrawing aD_0).bind fun x104=>
   (laws_toVeneerS aSheets_1).bind fun x106=>
   (impl_FirstShifts x104 x106 aLeast_2 aBudget_3).bind fun x109=>
   (laws_eqInt64S x109.1 x38.1).bind fun x114=>
   if (¬(x114=true)∨x109.2≠x38.2) then
   (some false)
   else ((laws_heldInt64S x93.2 1).bind fun x123=>
   if x123<0 then
   (some false)
   else (if x123≠x93.1 then
   (some false)
   else (some true)))))))
   else (some false))
   else (some false))))
end Go.Pw
