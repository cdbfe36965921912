/- Plain functions that answer what the program's functions answer. Conditions: none; definitions alone. -/
import Derived.Test.YtambonpepalofaaSimPw
namespace Go.Pw
open Go.Sim (min2 max2)
set_option linter.unusedVariables false
structure S_Point where
 X:Int
 Y:Int
structure S_Face where
 Name:ByteArray
 Ring:(List Int)
structure S_Drawing where
 Width:Int
 Height:Int
 Points:(List S_Point)
 Faces:(List S_Face)
structure S_Veneer where
 Species:ByteArray
 Shade:Int
 Grain:Int
structure S_Picture where
 Drawing:S_Drawing
 Veneers:(List S_Veneer)
structure S_Box where
 X:Int
 Y:Int
 Width:Int
 Length:Int
structure S_Leaf where
 Id:ByteArray
 Flitch:ByteArray
 Number:Int
 Veneer:S_Veneer
 Width:Int
 Length:Int
 Defects:(List S_Box)
structure S_Placement where
 Face:Int
 Leaf:Int
 X:Int
 Y:Int
 Turn:Int
structure S_Rules where
 Spacing:Int
 Margin:Int
 Angle:Int
 Shade:Int
structure S_Job where
 Picture:S_Picture
 Leaves:(List S_Leaf)
 Placements:(List S_Placement)
 Rules:S_Rules
 Thickness:Int
 Kerf:Int
 Bevel:Int
 Gap:Int
 Order:(List Int)
 Cuts:(List Int)
structure S_Bond where
 Name:ByteArray
 Spread:Int
 Open:Int
 Press:Int
structure S_Coat where
 Name:ByteArray
 Work:Int
 Dry:Int
 Wait:Int
structure S_Rates where
 Hour:Int
 Edge:Int
 Face:Int
 Waste:Int
 Margin:Int
structure S_Desk where
 Job:S_Job
 Bonds:(List S_Bond)
 Coats:(List S_Coat)
 Rates:S_Rates
noncomputable def laws_szPointS (a_0:(List S_Point)) (left_1:Int):Option Int:=
 if (w64 (left_1 - (a_0.length:Int))) <0 then
  (some (-1))
  else (some (w64 (left_1 - (a_0.length:Int))))
noncomputable def laws_szInt64S (a_0:(List Int)) (left_1:Int):Option Int:=
 if (w64 (left_1 - (a_0.length:Int))) <0 then
  (some (-1))
  else (some (w64 (left_1 - (a_0.length:Int))))
noncomputable def laws_szFace (a_0:S_Face) (left_1:Int):Option Int:=
 if (w64 (left_1 - (a_0.Name.size:Int))) <0 then
  (some (-1))
  else ((laws_szInt64S a_0.Ring (w64 (left_1 - (a_0.Name.size:Int)))).bind fun x15=>
  if x15<0 then
  (some (-1))
  else (some x15))
noncomputable def laws_szFaceS_l5 (a_0:(List S_Face)) (s:(Int×Int)):Option ((Int×Int) ⊕ (Int ⊕ Int)):=
 match s with
  | (left_1_l5,i_5_l5)=>
  if i_5_l5< (a_0.length:Int) then
  ((rd a_0 i_5_l5).bind fun x20=>
  (laws_szFace x20 left_1_l5).bind fun x23=>
  if x23<0 then
  (some (.inr (.inr (-1))))
  else (some (.inl (x23,(w64 (i_5_l5+1))))))
  else (some (.inr (.inl left_1_l5)))
noncomputable def laws_szFaceS (a_0:(List S_Face)) (left_1:Int):Option Int:=
 if (w64 (left_1 - (a_0.length:Int))) <0 then
  (some (-1))
  else ((loopO (laws_szFaceS_l5 a_0) ((w64 (left_1 - (a_0.length:Int))),0)).bind fun o=>match o with
  | (.inl left_1_e0_5)=>(some left_1_e0_5)
  | (.inr r2)=>(some r2))
noncomputable def laws_szDrawing (a_0:S_Drawing) (left_1:Int):Option Int:=
 (laws_szPointS a_0.Points left_1).bind fun x8=>
   if x8<0 then
   (some (-1))
   else ((laws_szFaceS a_0.Faces x8).bind fun x14=>
   if x14<0 then
   (some (-1))
   else (some x14))
noncomputable def laws_szVeneer (a_0:S_Veneer) (left_1:Int):Option Int:=
 if (w64 (left_1 - (a_0.Species.size:Int))) <0 then
  (some (-1))
  else (some (w64 (left_1 - (a_0.Species.size:Int))))
noncomputable def laws_szVeneerS_l5 (a_0:(List S_Veneer)) (s:(Int×Int)):Option ((Int×Int) ⊕ (Int ⊕ Int)):=
 match s with
  | (left_1_l5,i_5_l5)=>
  if i_5_l5< (a_0.length:Int) then
  ((rd a_0 i_5_l5).bind fun x20=>
  (laws_szVeneer x20 left_1_l5).bind fun x23=>
  if x23<0 then
  (some (.inr (.inr (-1))))
  else (some (.inl (x23,(w64 (i_5_l5+1))))))
  else (some (.inr (.inl left_1_l5)))
noncomputable def laws_szVeneerS (a_0:(List S_Veneer)) (left_1:Int):Option Int:=
 if (w64 (left_1 - (a_0.length:Int))) <0 then
  (some (-1))
  else ((loopO (laws_szVeneerS_l5 a_0) ((w64 (left_1 - (a_0.length:Int))),0)).bind fun o=>match o with
  | (.inl left_1_e0_5)=>(some left_1_e0_5)
  | (.inr r2)=>(some r2))
noncomputable def laws_szPicture (a_0:S_Picture) (left_1:Int):Option Int:=
 (laws_szDrawing a_0.Drawing left_1).bind fun x8=>
   if x8<0 then
   (some (-1))
   else ((laws_szVeneerS a_0.Veneers x8).bind fun x14=>
   if x14<0 then
   (some (-1))
   else (some x14))
noncomputable def laws_szBoxS (a_0:(List S_Box)) (left_1:Int):Option Int:=
 if (w64 (left_1 - (a_0.length:Int))) <0 then
  (some (-1))
  else (some (w64 (left_1 - (a_0.length:Int))))
noncomputable def laws_szLeaf (a_0:S_Leaf) (left_1:Int):Option Int:=
 if (w64 (left_1 - (a_0.Id.size:Int))) <0 then
  (some (-1))
  else (if (w64 ((w64 (left_1 - (a_0.Id.size:Int))) - (a_0.Flitch.size:Int))) <0 then
  (some (-1))
  else ((laws_szVeneer a_0.Veneer (w64 ((w64 (left_1 - (a_0.Id.size:Int))) - (a_0.Flitch.size:Int)))).bind fun x22=>
  if x22<0 then
  (some (-1))
  else ((laws_szBoxS a_0.Defects x22).bind fun x28=>
  if x28<0 then
  (some (-1))
  else (some x28))))
noncomputable def laws_szLeafS_l5 (a_0:(List S_Leaf)) (s:(Int×Int)):Option ((Int×Int) ⊕ (Int ⊕ Int)):=
 match s with
  | (left_1_l5,i_5_l5)=>
  if i_5_l5< (a_0.length:Int) then
  ((rd a_0 i_5_l5).bind fun x20=>
  (laws_szLeaf x20 left_1_l5).bind fun x23=>
  if x23<0 then
  (some (.inr (.inr (-1))))
  else (some (.inl (x23,(w64 (i_5_l5+1))))))
  else (some (.inr (.inl left_1_l5)))
noncomputable def laws_szLeafS (a_0:(List S_Leaf)) (left_1:Int):Option Int:=
 if (w64 (left_1 - (a_0.length:Int))) <0 then
  (some (-1))
  else ((loopO (laws_szLeafS_l5 a_0) ((w64 (left_1 - (a_0.length:Int))),0)).bind fun o=>match o with
  | (.inl left_1_e0_5)=>(some left_1_e0_5)
  | (.inr r2)=>(some r2))
noncomputable def laws_szPlacementS (a_0:(List S_Placement)) (left_1:Int):Option Int:=
 if (w64 (left_1 - (a_0.length:Int))) <0 then
  (some (-1))
  else (some (w64 (left_1 - (a_0.length:Int))))
noncomputable def laws_szJob (a_0:S_Job) (left_1:Int):Option Int:=
 (laws_szPicture a_0.Picture left_1).bind fun x8=>
   if x8<0 then
   (some (-1))
   else ((laws_szLeafS a_0.Leaves x8).bind fun x14=>
   if x14<0 then
   (some (-1))
   else ((laws_szPlacementS a_0.Placements x14).bind fun x20=>
   if x20<0 then
   (some (-1))
   else ((laws_szInt64S a_0.Order x20).bind fun x26=>
   if x26<0 then
   (some (-1))
   else ((laws_szInt64S a_0.Cuts x26).bind fun x32=>
   if x32<0 then
   (some (-1))
   else (some x32)))))
noncomputable def laws_szBond (a_0:S_Bond) (left_1:Int):Option Int:=
 if (w64 (left_1 - (a_0.Name.size:Int))) <0 then
  (some (-1))
  else (some (w64 (left_1 - (a_0.Name.size:Int))))
noncomputable def laws_szBondS_l5 (a_0:(List S_Bond)) (s:(Int×Int)):Option ((Int×Int) ⊕ (Int ⊕ Int)):=
 match s with
  | (left_1_l5,i_5_l5)=>
  if i_5_l5< (a_0.length:Int) then
  ((rd a_0 i_5_l5).bind fun x20=>
  (laws_szBond x20 left_1_l5).bind fun x23=>
  if x23<0 then
  (some (.inr (.inr (-1))))
  else (some (.inl (x23,(w64 (i_5_l5+1))))))
  else (some (.inr (.inl left_1_l5)))
noncomputable def laws_szBondS (a_0:(List S_Bond)) (left_1:Int):Option Int:=
 if (w64 (left_1 - (a_0.length:Int))) <0 then
  (some (-1))
  else ((loopO (laws_szBondS_l5 a_0) ((w64 (left_1 - (a_0.length:Int))),0)).bind fun o=>match o with
  | (.inl left_1_e0_5)=>(some left_1_e0_5)
  | (.inr r2)=>(some r2))
noncomputable def laws_szCoat (a_0:S_Coat) (left_1:Int):Option Int:=
 if (w64 (left_1 - (a_0.Name.size:Int))) <0 then
  (some (-1))
  else (some (w64 (left_1 - (a_0.Name.size:Int))))
noncomputable def laws_szCoatS_l5 (a_0:(List S_Coat)) (s:(Int×Int)):Option ((Int×Int) ⊕ (Int ⊕ Int)):=
 match s with
  | (left_1_l5,i_5_l5)=>
  if i_5_l5< (a_0.length:Int) then
  ((rd a_0 i_5_l5).bind fun x20=>
  (laws_szCoat x20 left_1_l5).bind fun x23=>
  if x23<0 then
  (some (.inr (.inr (-1))))
  else (some (.inl (x23,(w64 (i_5_l5+1))))))
  else (some (.inr (.inl left_1_l5)))
noncomputable def laws_szCoatS (a_0:(List S_Coat)) (left_1:Int):Option Int:=
 if (w64 (left_1 - (a_0.length:Int))) <0 then
  (some (-1))
  else ((loopO (laws_szCoatS_l5 a_0) ((w64 (left_1 - (a_0.length:Int))),0)).bind fun o=>match o with
  | (.inl left_1_e0_5)=>(some left_1_e0_5)
  | (.inr r2)=>(some r2))
noncomputable def laws_szDesk (a_0:S_Desk) (left_1:Int):Option Int:=
 (laws_szJob a_0.Job left_1).bind fun x8=>
   if x8<0 then
   (some (-1))
   else ((laws_szBondS a_0.Bonds x8).bind fun x14=>
   if x14<0 then
   (some (-1))
   else ((laws_szCoatS a_0.Coats x14).bind fun x20=>
   if x20<0 then
   (some (-1))
   else (some x20)))
noncomputable def laws_toPoint (a_0:S_Point):Option S_Point:=
 some a_0
noncomputable def laws_toPointS_l3 (a_0:(List S_Point)) (s:(Int×(List S_Point))):Option ((Int×(List S_Point)) ⊕ (List S_Point)):=
 match s with
  | (i_4_l3,out_o3_l3)=>
  if i_4_l3< (a_0.length:Int) then
  ((rd a_0 i_4_l3).bind fun x18=>
  (laws_toPoint x18).bind fun x20=>
  (rd out_o3_l3 i_4_l3).bind fun x21=>
  some (.inl ((w64 (i_4_l3+1)),(out_o3_l3.set i_4_l3.toNat x20))))
  else (some (.inr out_o3_l3))
noncomputable def laws_toPointS (a_0:(List S_Point)):Option (List S_Point):=
 (mkl 16 (a_0.length:Int) (⟨0,0⟩:S_Point)).bind fun x7=>
   (loopO (laws_toPointS_l3 a_0) (0,x7)).bind fun out_o3_e0_3=>
   some out_o3_e0_3
noncomputable def laws_toInt64S_l3 (a_0:(List Int)) (s:(Int×(List Int))):Option ((Int×(List Int)) ⊕ (List Int)):=
 match s with
  | (i_4_l3,out_o3_l3)=>
  if i_4_l3< (a_0.length:Int) then
  ((rd a_0 i_4_l3).bind fun x18=>
  (rd out_o3_l3 i_4_l3).bind fun x20=>
  some (.inl ((w64 (i_4_l3+1)),(out_o3_l3.set i_4_l3.toNat x18))))
  else (some (.inr out_o3_l3))
noncomputable def laws_toInt64S (a_0:(List Int)):Option (List Int):=
 (mkl 8 (a_0.length:Int) 0).bind fun x7=>
   (loopO (laws_toInt64S_l3 a_0) (0,x7)).bind fun out_o3_e0_3=>
   some out_o3_e0_3
noncomputable def laws_toFace (a_0:S_Face):Option S_Face:=
 (laws_toInt64S a_0.Ring).bind fun x9=>
   some (⟨a_0.Name,x9⟩:S_Face)
noncomputable def laws_toFaceS_l3 (a_0:(List S_Face)) (s:(Int×(List S_Face))):Option ((Int×(List S_Face)) ⊕ (List S_Face)):=
 match s with
  | (i_4_l3,out_o3_l3)=>
  if i_4_l3< (a_0.length:Int) then
  ((rd a_0 i_4_l3).bind fun x18=>
  (laws_toFace x18).bind fun x20=>
  (rd out_o3_l3 i_4_l3).bind fun x21=>
  some (.inl ((w64 (i_4_l3+1)),(out_o3_l3.set i_4_l3.toNat x20))))
  else (some (.inr out_o3_l3))
noncomputable def laws_toFaceS (a_0:(List S_Face)):Option (List S_Face):=
 (mkl 40 (a_0.length:Int) (⟨(⟨#[]⟩:ByteArray),([]:List Int)⟩:S_Face)).bind fun x7=>
   (loopO (laws_toFaceS_l3 a_0) (0,x7)).bind fun out_o3_e0_3=>
   some out_o3_e0_3
noncomputable def laws_toDrawing (a_0:S_Drawing):Option S_Drawing:=
 (laws_toPointS a_0.Points).bind fun x12=>
   (laws_toFaceS a_0.Faces).bind fun x16=>
   some (⟨a_0.Width,a_0.Height,x12,x16⟩:S_Drawing)
noncomputable def laws_toVeneer (a_0:S_Veneer):Option S_Veneer:=
 some a_0
noncomputable def laws_toVeneerS_l3 (a_0:(List S_Veneer)) (s:(Int×(List S_Veneer))):Option ((Int×(List S_Veneer)) ⊕ (List S_Veneer)):=
 match s with
  | (i_4_l3,out_o3_l3)=>
  if i_4_l3< (a_0.length:Int) then
  ((rd a_0 i_4_l3).bind fun x18=>
  (laws_toVeneer x18).bind fun x20=>
  (rd out_o3_l3 i_4_l3).bind fun x21=>
  some (.inl ((w64 (i_4_l3+1)),(out_o3_l3.set i_4_l3.toNat x20))))
  else (some (.inr out_o3_l3))
noncomputable def laws_toVeneerS (a_0:(List S_Veneer)):Option (List S_Veneer):=
 (mkl 32 (a_0.length:Int) (⟨(⟨#[]⟩:ByteArray),0,0⟩:S_Veneer)).bind fun x7=>
   (loopO (laws_toVeneerS_l3 a_0) (0,x7)).bind fun out_o3_e0_3=>
   some out_o3_e0_3
noncomputable def laws_toPicture (a_0:S_Picture):Option S_Picture:=
 (laws_toDrawing a_0.Drawing).bind fun x6=>
   (laws_toVeneerS a_0.Veneers).bind fun x10=>
   some (⟨x6,x10⟩:S_Picture)
noncomputable def laws_toBox (a_0:S_Box):Option S_Box:=
 some a_0
noncomputable def laws_toBoxS_l3 (a_0:(List S_Box)) (s:(Int×(List S_Box))):Option ((Int×(List S_Box)) ⊕ (List S_Box)):=
 match s with
  | (i_4_l3,out_o3_l3)=>
  if i_4_l3< (a_0.length:Int) then
  ((rd a_0 i_4_l3).bind fun x18=>
  (laws_toBox x18).bind fun x20=>
  (rd out_o3_l3 i_4_l3).bind fun x21=>
  some (.inl ((w64 (i_4_l3+1)),(out_o3_l3.set i_4_l3.toNat x20))))
  else (some (.inr out_o3_l3))
noncomputable def laws_toBoxS (a_0:(List S_Box)):Option (List S_Box):=
 (mkl 32 (a_0.length:Int) (⟨0,0,0,0⟩:S_Box)).bind fun x7=>
   (loopO (laws_toBoxS_l3 a_0) (0,x7)).bind fun out_o3_e0_3=>
   some out_o3_e0_3
noncomputable def laws_toLeaf (a_0:S_Leaf):Option S_Leaf:=
 (laws_toVeneer a_0.Veneer).bind fun x15=>
   (laws_toBoxS a_0.Defects).bind fun x25=>
   some (⟨a_0.Id,a_0.Flitch,a_0.Number,x15,a_0.Width,a_0.Length,x25⟩:S_Leaf)
noncomputable def laws_toLeafS_l3 (a_0:(List S_Leaf)) (s:(Int×(List S_Leaf))):Option ((Int×(List S_Leaf)) ⊕ (List S_Leaf)):=
 match s with
  | (i_4_l3,out_o3_l3)=>
  if i_4_l3< (a_0.length:Int) then
  ((rd a_0 i_4_l3).bind fun x18=>
  (laws_toLeaf x18).bind fun x20=>
  (rd out_o3_l3 i_4_l3).bind fun x21=>
  some (.inl ((w64 (i_4_l3+1)),(out_o3_l3.set i_4_l3.toNat x20))))
  else (some (.inr out_o3_l3))
noncomputable def laws_toLeafS (a_0:(List S_Leaf)):Option (List S_Leaf):=
 (mkl 112 (a_0.length:Int) (⟨(⟨#[]⟩:ByteArray),(⟨#[]⟩:ByteArray),0,(⟨(⟨#[]⟩:ByteArray),0,0⟩:S_Veneer),0,0,([]:List S_Box)⟩:S_Leaf)).bind fun x7=>
   (loopO (laws_toLeafS_l3 a_0) (0,x7)).bind fun out_o3_e0_3=>
   some out_o3_e0_3
noncomputable def laws_toPlacement (a_0:S_Placement):Option S_Placement:=
 some a_0
noncomputable def laws_toPlacementS_l3 (a_0:(List S_Placement)) (s:(Int×(List S_Placement))):Option ((Int×(List S_Placement)) ⊕ (List S_Placement)):=
 match s with
  | (i_4_l3,out_o3_l3)=>
  if i_4_l3< (a_0.length:Int) then
  ((rd a_0 i_4_l3).bind fun x18=>
  (laws_toPlacement x18).bind fun x20=>
  (rd out_o3_l3 i_4_l3).bind fun x21=>
  some (.inl ((w64 (i_4_l3+1)),(out_o3_l3.set i_4_l3.toNat x20))))
  else (some (.inr out_o3_l3))
noncomputable def laws_toPlacementS (a_0:(List S_Placement)):Option (List S_Placement):=
 (mkl 40 (a_0.length:Int) (⟨0,0,0,0,0⟩:S_Placement)).bind fun x7=>
   (loopO (laws_toPlacementS_l3 a_0) (0,x7)).bind fun out_o3_e0_3=>
   some out_o3_e0_3
noncomputable def laws_toRules (a_0:S_Rules):Option S_Rules:=
 some a_0
noncomputable def laws_toJob (a_0:S_Job):Option S_Job:=
 (laws_toPicture a_0.Picture).bind fun x6=>
   (laws_toLeafS a_0.Leaves).bind fun x10=>
   (laws_toPlacementS a_0.Placements).bind fun x14=>
   (laws_toRules a_0.Rules).bind fun x18=>
   (laws_toInt64S a_0.Order).bind fun x34=>
   (laws_toInt64S a_0.Cuts).bind fun x38=>
   some (⟨x6,x10,x14,x18,a_0.Thickness,a_0.Kerf,a_0.Bevel,a_0.Gap,x34,x38⟩:S_Job)
noncomputable def laws_toBond (a_0:S_Bond):Option S_Bond:=
 some a_0
noncomputable def laws_toBondS_l3 (a_0:(List S_Bond)) (s:(Int×(List S_Bond))):Option ((Int×(List S_Bond)) ⊕ (List S_Bond)):=
 match s with
  | (i_4_l3,out_o3_l3)=>
  if i_4_l3< (a_0.length:Int) then
  ((rd a_0 i_4_l3).bind fun x18=>
  (laws_toBond x18).bind fun x20=>
  (rd out_o3_l3 i_4_l3).bind fun x21=>
  some (.inl ((w64 (i_4_l3+1)),(out_o3_l3.set i_4_l3.toNat x20))))
  else (some (.inr out_o3_l3))
noncomputable def laws_toBondS (a_0:(List S_Bond)):Option (List S_Bond):=
 (mkl 40 (a_0.length:Int) (⟨(⟨#[]⟩:ByteArray),0,0,0⟩:S_Bond)).bind fun x7=>
   (loopO (laws_toBondS_l3 a_0) (0,x7)).bind fun out_o3_e0_3=>
   some out_o3_e0_3
noncomputable def laws_toCoat (a_0:S_Coat):Option S_Coat:=
 some a_0
noncomputable def laws_toCoatS_l3 (a_0:(List S_Coat)) (s:(Int×(List S_Coat))):Option ((Int×(List S_Coat)) ⊕ (List S_Coat)):=
 match s with
  | (i_4_l3,out_o3_l3)=>
  if i_4_l3< (a_0.length:Int) then
  ((rd a_0 i_4_l3).bind fun x18=>
  (laws_toCoat x18).bind fun x20=>
  (rd out_o3_l3 i_4_l3).bind fun x21=>
  some (.inl ((w64 (i_4_l3+1)),(out_o3_l3.set i_4_l3.toNat x20))))
  else (some (.inr out_o3_l3))
noncomputable def laws_toCoatS (a_0:(List S_Coat)):Option (List S_Coat):=
 (mkl 40 (a_0.length:Int) (⟨(⟨#[]⟩:ByteArray),0,0,0⟩:S_Coat)).bind fun x7=>
   (loopO (laws_toCoatS_l3 a_0) (0,x7)).bind fun out_o3_e0_3=>
   some out_o3_e0_3
noncomputable def laws_toRates (a_0:S_Rates):Option S_Rates:=
 some a_0
noncomputable def laws_toDesk (a_0:S_Desk):Option S_Desk:=
 (laws_toJob a_0.Job).bind fun x6=>
   (laws_toBondS a_0.Bonds).bind fun x10=>
   (laws_toCoatS a_0.Coats).bind fun x14=>
   (laws_toRates a_0.Rates).bind fun x18=>
   some (⟨x6,x10,x14,x18⟩:S_Desk)
noncomputable def spec_l03Equal_l4 (a_0:(List S_Point)) (b_1:(List S_Point)) (i_5_l4:Int):Option (Int ⊕ (Unit ⊕ Bool)):=
 if i_5_l4< (a_0.length:Int) then
  ((rd a_0 i_5_l4).bind fun x19=>
  (rd b_1 i_5_l4).bind fun x23=>
  if (x19.X=x23.X∧x19.Y=x23.Y) then
  (some (.inl (w64 (i_5_l4+1))))
  else (some (.inr (.inr false))))
  else (some (.inr (.inl ())))
noncomputable def spec_l03Equal (a_0:(List S_Point)) (b_1:(List S_Point)):Option Bool:=
 if (a_0.length:Int)≠(b_1.length:Int) then
  (some false)
  else ((loopO (spec_l03Equal_l4 a_0 b_1) 0).bind fun o=>match o with
  | (.inl _)=>(some true)
  | (.inr r2)=>(some r2))
noncomputable def spec_l00Same_l4 (a_0:(List Int)) (b_1:(List Int)) (i_5_l4:Int):Option (Int ⊕ (Unit ⊕ Bool)):=
 if i_5_l4< (a_0.length:Int) then
  ((rd a_0 i_5_l4).bind fun x19=>
  (rd b_1 i_5_l4).bind fun x23=>
  if x19≠x23 then
  (some (.inr (.inr false)))
  else (some (.inl (w64 (i_5_l4+1)))))
  else (some (.inr (.inl ())))
noncomputable def spec_l00Same (a_0:(List Int)) (b_1:(List Int)):Option Bool:=
 if (a_0.length:Int)≠(b_1.length:Int) then
  (some false)
  else ((loopO (spec_l00Same_l4 a_0 b_1) 0).bind fun o=>match o with
  | (.inl _)=>(some true)
  | (.inr r2)=>(some r2))
noncomputable def spec_l05Same_l4 (a_0:S_Drawing) (b_1:S_Drawing) (i_5_l4:Int):Option (Int ⊕ (Unit ⊕ Bool)):=
 if i_5_l4< (a_0.Faces.length:Int) then
  ((rd a_0.Faces i_5_l4).bind fun x65=>
  (rd b_1.Faces i_5_l4).bind fun x73=>
  (if ¬(x65.Name=x73.Name) then
  (some true)
  else ((rd a_0.Faces i_5_l4).bind fun x83=>
  (rd b_1.Faces i_5_l4).bind fun x91=>
  (spec_l00Same x83.Ring x91.Ring).bind fun x94=>
  some (!x94))).bind fun t_96_m6=>
  if t_96_m6=true then
  (some (.inr (.inr false)))
  else (some (.inl (w64 (i_5_l4+1)))))
  else (some (.inr (.inl ())))
noncomputable def spec_l05Same (a_0:S_Drawing) (b_1:S_Drawing):Option Bool:=
 (if a_0.Width≠b_1.Width then
   (some true)
   else (if a_0.Height≠b_1.Height then
   (some true)
   else ((spec_l03Equal a_0.Points b_1.Points).bind fun x35=>
   if x35=true then
   (some ((a_0.Faces.length:Int) != (b_1.Faces.length:Int)))
   else (some true)))).bind fun t_50_m1=>
   if t_50_m1=true then
   (some false)
   else ((loopO (spec_l05Same_l4 a_0 b_1) 0).bind fun o=>match o with
   | (.inl _)=>(some true)
   | (.inr r2)=>(some r2))
noncomputable def spec_l08Same_l4 (a_0:S_Picture) (b_1:S_Picture) (i_5_l4:Int):Option (Int ⊕ (Unit ⊕ Bool)):=
 if i_5_l4< (a_0.Veneers.length:Int) then
  ((rd a_0.Veneers i_5_l4).bind fun x41=>
  (rd b_1.Veneers i_5_l4).bind fun x48=>
  if (x41.Species=x48.Species∧(x41.Shade=x48.Shade∧x41.Grain=x48.Grain)) then
  (some (.inl (w64 (i_5_l4+1))))
  else (some (.inr (.inr false))))
  else (some (.inr (.inl ())))
noncomputable def spec_l08Same (a_0:S_Picture) (b_1:S_Picture):Option Bool:=
 (spec_l05Same a_0.Drawing b_1.Drawing).bind fun x12=>
   if (¬(x12=true)∨(a_0.Veneers.length:Int)≠(b_1.Veneers.length:Int)) then
   (some false)
   else ((loopO (spec_l08Same_l4 a_0 b_1) 0).bind fun o=>match o with
   | (.inl _)=>(some true)
   | (.inr r2)=>(some r2))
noncomputable def spec_l09Same_l4 (a_0:S_Leaf) (b_1:S_Leaf) (i_5_l4:Int):Option (Int ⊕ (Unit ⊕ Bool)):=
 if i_5_l4< (a_0.Defects.length:Int) then
  ((rd a_0.Defects i_5_l4).bind fun x97=>
  (rd b_1.Defects i_5_l4).bind fun x104=>
  if (x97.X=x104.X∧(x97.Y=x104.Y∧(x97.Width=x104.Width∧x97.Length=x104.Length))) then
  (some (.inl (w64 (i_5_l4+1))))
  else (some (.inr (.inr false))))
  else (some (.inr (.inl ())))
noncomputable def spec_l09Same (a_0:S_Leaf) (b_1:S_Leaf):Option Bool:=
 if (¬(a_0.Id=b_1.Id)∨(¬(a_0.Flitch=b_1.Flitch)∨(a_0.Number≠b_1.Number∨(¬((a_0.Veneer.Species=b_1.Veneer.Species∧(a_0.Veneer.Shade=b_1.Veneer.Shade∧a_0.Veneer.Grain=b_1.Veneer.Grain)))∨(a_0.Width≠b_1.Width∨(a_0.Length≠b_1.Length∨(a_0.Defects.length:Int)≠(b_1.Defects.length:Int))))))) then
  (some false)
  else ((loopO (spec_l09Same_l4 a_0 b_1) 0).bind fun o=>match o with
  | (.inl _)=>(some true)
  | (.inr r2)=>(some r2))
noncomputable def spec_l32Job_l9 (a_0:S_Job) (b_1:S_Job) (i_6_l9:Int):Option (Int ⊕ (Unit ⊕ Bool)):=
 if i_6_l9< (a_0.Placements.length:Int) then
  ((rd a_0.Placements i_6_l9).bind fun x133=>
  (rd b_1.Placements i_6_l9).bind fun x140=>
  if (x133.Face=x140.Face∧(x133.Leaf=x140.Leaf∧(x133.X=x140.X∧(x133.Y=x140.Y∧x133.Turn=x140.Turn)))) then
  (some (.inl (w64 (i_6_l9+1))))
  else (some (.inr (.inr false))))
  else (some (.inr (.inl ())))
noncomputable def spec_l32Job_l4 (a_0:S_Job) (b_1:S_Job) (i_5_l4:Int):Option (Int ⊕ (Unit ⊕ Bool)):=
 if i_5_l4< (a_0.Leaves.length:Int) then
  ((rd a_0.Leaves i_5_l4).bind fun x110=>
  (rd b_1.Leaves i_5_l4).bind fun x116=>
  (spec_l09Same x110 x116).bind fun x117=>
  if x117=true then
  (some (.inl (w64 (i_5_l4+1))))
  else (some (.inr (.inr false))))
  else (some (.inr (.inl ())))
noncomputable def spec_l32Job (a_0:S_Job) (b_1:S_Job):Option Bool:=
 (spec_l08Same a_0.Picture b_1.Picture).bind fun x13=>
   if (¬(x13=true)∨((a_0.Leaves.length:Int)≠(b_1.Leaves.length:Int)∨((a_0.Placements.length:Int)≠(b_1.Placements.length:Int)∨(¬((a_0.Rules.Spacing=b_1.Rules.Spacing∧(a_0.Rules.Margin=b_1.Rules.Margin∧(a_0.Rules.Angle=b_1.Rules.Angle∧a_0.Rules.Shade=b_1.Rules.Shade))))∨(a_0.Thickness≠b_1.Thickness∨(a_0.Kerf≠b_1.Kerf∨(a_0.Bevel≠b_1.Bevel∨a_0.Gap≠b_1.Gap))))))) then
   (some false)
   else ((loopO (spec_l32Job_l4 a_0 b_1) 0).bind fun o=>match o with
   | (.inl _)=>((loopO (spec_l32Job_l9 a_0 b_1) 0).bind fun o=>match o with
   | (.inl _)=>((spec_l00Same a_0.Order b_1.Order).bind fun x151=>
   (if x151=true then
   ((spec_l00Same a_0.Cuts b_1.Cuts).bind fun x161=>
   some x161)
   else (some false)).bind fun t_4_m13=>
   some t_4_m13)
   | (.inr r2)=>(some r2))
   | (.inr r2)=>(some r2))
noncomputable def spec_SameDesk_l9 (a_0:S_Desk) (b_1:S_Desk) (i_6_l9:Int):Option (Int ⊕ (Unit ⊕ Bool)):=
 if i_6_l9< (a_0.Coats.length:Int) then
  ((rd a_0.Coats i_6_l9).bind fun x64=>
  (rd b_1.Coats i_6_l9).bind fun x69=>
  if (x64.Name=x69.Name∧(x64.Work=x69.Work∧(x64.Dry=x69.Dry∧x64.Wait=x69.Wait))) then
  (some (.inl (w64 (i_6_l9+1))))
  else (some (.inr (.inr false))))
  else (some (.inr (.inl ())))
noncomputable def spec_SameDesk_l4 (a_0:S_Desk) (b_1:S_Desk) (i_5_l4:Int):Option (Int ⊕ (Unit ⊕ Bool)):=
 if i_5_l4< (a_0.Bonds.length:Int) then
  ((rd a_0.Bonds i_5_l4).bind fun x46=>
  (rd b_1.Bonds i_5_l4).bind fun x51=>
  if (x46.Name=x51.Name∧(x46.Spread=x51.Spread∧(x46.Open=x51.Open∧x46.Press=x51.Press))) then
  (some (.inl (w64 (i_5_l4+1))))
  else (some (.inr (.inr false))))
  else (some (.inr (.inl ())))
noncomputable def spec_SameDesk (a_0:S_Desk) (b_1:S_Desk):Option Bool:=
 (spec_l32Job a_0.Job b_1.Job).bind fun x9=>
   if (¬(x9=true)∨(¬((a_0.Rates.Hour=b_1.Rates.Hour∧(a_0.Rates.Edge=b_1.Rates.Edge∧(a_0.Rates.Face=b_1.Rates.Face∧(a_0.Rates.Waste=b_1.Rates.Waste∧a_0.Rates.Margin=b_1.Rates.Margin)))))∨((a_0.Bonds.length:Int)≠(b_1.Bonds.length:Int)∨(a_0.Coats.length:Int)≠(b_1.Coats.length:Int)))) then
   (some false)
   else ((loopO (spec_SameDesk_l4 a_0 b_1) 0).bind fun o=>match o with
   | (.inl _)=>((loopO (spec_SameDesk_l9 a_0 b_1) 0).bind fun o=>match o with
   | (.inl _)=>(some true)
   | (.inr r2)=>(some r2))
   | (.inr r2)=>(some r2))
noncomputable def slices_Equal_impl_Point_impl_Point_l4 (s1_0:(List S_Point)) (s2_1:(List S_Point)) (t_13_l4:Int):Option (Int ⊕ (Unit ⊕ Bool)):=
 if t_13_l4< (s1_0.length:Int) then
  ((rd s1_0 t_13_l4).bind fun x18=>
  (rd s2_1 t_13_l4).bind fun x22=>
  if (x18.X=x22.X∧x18.Y=x22.Y) then
  (some (.inl (w64 (t_13_l4+1))))
  else (some (.inr (.inr false))))
  else (some (.inr (.inl ())))
noncomputable def slices_Equal_impl_Point_impl_Point (s1_0:(List S_Point)) (s2_1:(List S_Point)):Option Bool:=
 if (s1_0.length:Int)≠(s2_1.length:Int) then
  (some false)
  else ((loopO (slices_Equal_impl_Point_impl_Point_l4 s1_0 s2_1) 0).bind fun o=>match o with
  | (.inl _)=>(some true)
  | (.inr r2)=>(some r2))
noncomputable def slices_Equal_int64_int64_l4 (s1_0:(List Int)) (s2_1:(List Int)) (t_13_l4:Int):Option (Int ⊕ (Unit ⊕ Bool)):=
 if t_13_l4< (s1_0.length:Int) then
  ((rd s1_0 t_13_l4).bind fun x18=>
  (rd s2_1 t_13_l4).bind fun x22=>
  if x18≠x22 then
  (some (.inr (.inr false)))
  else (some (.inl (w64 (t_13_l4+1)))))
  else (some (.inr (.inl ())))
noncomputable def slices_Equal_int64_int64 (s1_0:(List Int)) (s2_1:(List Int)):Option Bool:=
 if (s1_0.length:Int)≠(s2_1.length:Int) then
  (some false)
  else ((loopO (slices_Equal_int64_int64_l4 s1_0 s2_1) 0).bind fun o=>match o with
  | (.inl _)=>(some true)
  | (.inr r2)=>(some r2))
noncomputable def impl_SameDrawing_c1 (f_0:S_Face) (g_1:S_Face):Option Bool:=
 (if f_0.Name=g_1.Name then
   ((slices_Equal_int64_int64 f_0.Ring g_1.Ring).bind fun x15=>
   some x15)
   else (some false)).bind fun t_4_m1=>
   some t_4_m1
noncomputable def slices_EqualFunc_impl_Face_impl_Face_impl_Face_impl_Face_l4 (eq_2:(S_Face→S_Face→Option Bool)) (s1_0:(List S_Face)) (s2_1:(List S_Face)) (t_17_l4:Int):Option (Int ⊕ (Unit ⊕ Bool)):=
 if t_17_l4< (s1_0.length:Int) then
  ((rd s1_0 t_17_l4).bind fun x20=>
  (rd s2_1 t_17_l4).bind fun x24=>
  (eq_2 x20 x24).bind fun x29=>
  if x29=true then
  (some (.inl (w64 (t_17_l4+1))))
  else (some (.inr (.inr false))))
  else (some (.inr (.inl ())))
noncomputable def slices_EqualFunc_impl_Face_impl_Face_impl_Face_impl_Face (s1_0:(List S_Face)) (s2_1:(List S_Face)) (eq_2:(S_Face→S_Face→Option Bool)):Option Bool:=
 if (s1_0.length:Int)≠(s2_1.length:Int) then
  (some false)
  else ((loopO (slices_EqualFunc_impl_Face_impl_Face_impl_Face_impl_Face_l4 eq_2 s1_0 s2_1) 0).bind fun o=>match o with
  | (.inl _)=>(some true)
  | (.inr r2)=>(some r2))
noncomputable def impl_SameDrawing (a_0:S_Drawing) (b_1:S_Drawing):Option Bool:=
 (if a_0.Width=b_1.Width then
   (if a_0.Height=b_1.Height then
   ((slices_Equal_impl_Point_impl_Point a_0.Points b_1.Points).bind fun x22=>
   if x22=true then
   ((slices_EqualFunc_impl_Face_impl_Face_impl_Face_impl_Face a_0.Faces b_1.Faces (fun a0 a1=>impl_SameDrawing_c1 a0 a1)).bind fun x29=>
   some x29)
   else (some false))
   else (some false))
   else (some false)).bind fun t_4_m1=>
   some t_4_m1
noncomputable def slices_Equal_impl_Veneer_impl_Veneer_l4 (s1_0:(List S_Veneer)) (s2_1:(List S_Veneer)) (t_13_l4:Int):Option (Int ⊕ (Unit ⊕ Bool)):=
 if t_13_l4< (s1_0.length:Int) then
  ((rd s1_0 t_13_l4).bind fun x18=>
  (rd s2_1 t_13_l4).bind fun x22=>
  if (x18.Species=x22.Species∧(x18.Shade=x22.Shade∧x18.Grain=x22.Grain)) then
  (some (.inl (w64 (t_13_l4+1))))
  else (some (.inr (.inr false))))
  else (some (.inr (.inl ())))
noncomputable def slices_Equal_impl_Veneer_impl_Veneer (s1_0:(List S_Veneer)) (s2_1:(List S_Veneer)):Option Bool:=
 if (s1_0.length:Int)≠(s2_1.length:Int) then
  (some false)
  else ((loopO (slices_Equal_impl_Veneer_impl_Veneer_l4 s1_0 s2_1) 0).bind fun o=>match o with
  | (.inl _)=>(some true)
  | (.inr r2)=>(some r2))
noncomputable def impl_SamePicture (a_0:S_Picture) (b_1:S_Picture):Option Bool:=
 (impl_SameDrawing a_0.Drawing b_1.Drawing).bind fun x9=>
   (if x9=true then
   ((slices_Equal_impl_Veneer_impl_Veneer a_0.Veneers b_1.Veneers).bind fun x15=>
   some x15)
   else (some false)).bind fun t_4_m1=>
   some t_4_m1
noncomputable def slices_Equal_impl_Box_impl_Box_l4 (s1_0:(List S_Box)) (s2_1:(List S_Box)) (t_13_l4:Int):Option (Int ⊕ (Unit ⊕ Bool)):=
 if t_13_l4< (s1_0.length:Int) then
  ((rd s1_0 t_13_l4).bind fun x18=>
  (rd s2_1 t_13_l4).bind fun x22=>
  if (x18.X=x22.X∧(x18.Y=x22.Y∧(x18.Width=x22.Width∧x18.Length=x22.Length))) then
  (some (.inl (w64 (t_13_l4+1))))
  else (some (.inr (.inr false))))
  else (some (.inr (.inl ())))
noncomputable def slices_Equal_impl_Box_impl_Box (s1_0:(List S_Box)) (s2_1:(List S_Box)):Option Bool:=
 if (s1_0.length:Int)≠(s2_1.length:Int) then
  (some false)
  else ((loopO (slices_Equal_impl_Box_impl_Box_l4 s1_0 s2_1) 0).bind fun o=>match o with
  | (.inl _)=>(some true)
  | (.inr r2)=>(some r2))
noncomputable def impl_SameLeaf (a_0:S_Leaf) (b_1:S_Leaf):Option Bool:=
 (if a_0.Id=b_1.Id then
   (if a_0.Flitch=b_1.Flitch then
   (if a_0.Number=b_1.Number then
   (if (a_0.Veneer.Species=b_1.Veneer.Species∧(a_0.Veneer.Shade=b_1.Veneer.Shade∧a_0.Veneer.Grain=b_1.Veneer.Grain)) then
   (if a_0.Width=b_1.Width then
   (if a_0.Length=b_1.Length then
   ((slices_Equal_impl_Box_impl_Box a_0.Defects b_1.Defects).bind fun x50=>
   some x50)
   else (some false))
   else (some false))
   else (some false))
   else (some false))
   else (some false))
   else (some false)).bind fun t_4_m1=>
   some t_4_m1
noncomputable def slices_EqualFunc_impl_Leaf_impl_Leaf_impl_Leaf_impl_Leaf_l4 (eq_2:(S_Leaf→S_Leaf→Option Bool)) (s1_0:(List S_Leaf)) (s2_1:(List S_Leaf)) (t_17_l4:Int):Option (Int ⊕ (Unit ⊕ Bool)):=
 if t_17_l4< (s1_0.length:Int) then
  ((rd s1_0 t_17_l4).bind fun x20=>
  (rd s2_1 t_17_l4).bind fun x24=>
  (eq_2 x20 x24).bind fun x29=>
  if x29=true then
  (some (.inl (w64 (t_17_l4+1))))
  else (some (.inr (.inr false))))
  else (some (.inr (.inl ())))
noncomputable def slices_EqualFunc_impl_Leaf_impl_Leaf_impl_Leaf_impl_Leaf (s1_0:(List S_Leaf)) (s2_1:(List S_Leaf)) (eq_2:(S_Leaf→S_Leaf→Option Bool)):Option Bool:=
 if (s1_0.length:Int)≠(s2_1.length:Int) then
  (some false)
  else ((loopO (slices_EqualFunc_impl_Leaf_impl_Leaf_impl_Leaf_impl_Leaf_l4 eq_2 s1_0 s2_1) 0).bind fun o=>match o with
  | (.inl _)=>(some true)
  | (.inr r2)=>(some r2))
noncomputable def slices_Equal_impl_Placement_impl_Placement_l4 (s1_0:(List S_Placement)) (s2_1:(List S_Placement)) (t_13_l4:Int):Option (Int ⊕ (Unit ⊕ Bool)):=
 if t_13_l4< (s1_0.length:Int) then
  ((rd s1_0 t_13_l4).bind fun x18=>
  (rd s2_1 t_13_l4).bind fun x22=>
  if (x18.Face=x22.Face∧(x18.Leaf=x22.Leaf∧(x18.X=x22.X∧(x18.Y=x22.Y∧x18.Turn=x22.Turn)))) then
  (some (.inl (w64 (t_13_l4+1))))
  else (some (.inr (.inr false))))
  else (some (.inr (.inl ())))
noncomputable def slices_Equal_impl_Placement_impl_Placement (s1_0:(List S_Placement)) (s2_1:(List S_Placement)):Option Bool:=
 if (s1_0.length:Int)≠(s2_1.length:Int) then
  (some false)
  else ((loopO (slices_Equal_impl_Placement_impl_Placement_l4 s1_0 s2_1) 0).bind fun o=>match o with
  | (.inl _)=>(some true)
  | (.inr r2)=>(some r2))
noncomputable def impl_sameJob (a_0:S_Job) (b_1:S_Job):Option Bool:=
 (impl_SamePicture a_0.Picture b_1.Picture).bind fun x9=>
   (if x9=true then
   ((slices_EqualFunc_impl_Leaf_impl_Leaf_impl_Leaf_impl_Leaf a_0.Leaves b_1.Leaves (fun a0 a1=>impl_SameLeaf a0 a1)).bind fun x15=>
   if x15=true then
   ((slices_Equal_impl_Placement_impl_Placement a_0.Placements b_1.Placements).bind fun x22=>
   if x22=true then
   (if (a_0.Rules.Spacing=b_1.Rules.Spacing∧(a_0.Rules.Margin=b_1.Rules.Margin∧(a_0.Rules.Angle=b_1.Rules.Angle∧a_0.Rules.Shade=b_1.Rules.Shade))) then
   (if a_0.Thickness=b_1.Thickness then
   (if a_0.Kerf=b_1.Kerf then
   (if a_0.Bevel=b_1.Bevel then
   (if a_0.Gap=b_1.Gap then
   ((slices_Equal_int64_int64 a_0.Order b_1.Order).bind fun x64=>
   if x64=true then
   ((slices_Equal_int64_int64 a_0.Cuts b_1.Cuts).bind fun x71=>
   some x71)
   else (some false))
   else (some false))
   else (some false))
   else (some false))
   else (some false))
   else (some false))
   else (some false))
   else (some false))
   else (some false)).bind fun t_4_m1=>
   some t_4_m1
noncomputable def slices_Equal_impl_Bond_impl_Bond_l4 (s1_0:(List S_Bond)) (s2_1:(List S_Bond)) (t_13_l4:Int):Option (Int ⊕ (Unit ⊕ Bool)):=
 if t_13_l4< (s1_0.length:Int) then
  ((rd s1_0 t_13_l4).bind fun x18=>
  (rd s2_1 t_13_l4).bind fun x22=>
  if (x18.Name=x22.Name∧(x18.Spread=x22.Spread∧(x18.Open=x22.Open∧x18.Press=x22.Press))) then
  (some (.inl (w64 (t_13_l4+1))))
  else (some (.inr (.inr false))))
  else (some (.inr (.inl ())))
noncomputable def slices_Equal_impl_Bond_impl_Bond (s1_0:(List S_Bond)) (s2_1:(List S_Bond)):Option Bool:=
 if (s1_0.length:Int)≠(s2_1.length:Int) then
  (some false)
  else ((loopO (slices_Equal_impl_Bond_impl_Bond_l4 s1_0 s2_1) 0).bind fun o=>match o with
  | (.inl _)=>(some true)
  | (.inr r2)=>(some r2))
noncomputable def slices_Equal_impl_Coat_impl_Coat_l4 (s1_0:(List S_Coat)) (s2_1:(List S_Coat)) (t_13_l4:Int):Option (Int ⊕ (Unit ⊕ Bool)):=
 if t_13_l4< (s1_0.length:Int) then
  ((rd s1_0 t_13_l4).bind fun x18=>
  (rd s2_1 t_13_l4).bind fun x22=>
  if (x18.Name=x22.Name∧(x18.Work=x22.Work∧(x18.Dry=x22.Dry∧x18.Wait=x22.Wait))) then
  (some (.inl (w64 (t_13_l4+1))))
  else (some (.inr (.inr false))))
  else (some (.inr (.inl ())))
noncomputable def slices_Equal_impl_Coat_impl_Coat (s1_0:(List S_Coat)) (s2_1:(List S_Coat)):Option Bool:=
 if (s1_0.length:Int)≠(s2_1.length:Int) then
  (some false)
  else ((loopO (slices_Equal_impl_Coat_impl_Coat_l4 s1_0 s2_1) 0).bind fun o=>match o with
  | (.inl _)=>(some true)
  | (.inr r2)=>(some r2))
noncomputable def impl_SameDesk (a_0:S_Desk) (b_1:S_Desk):Option Bool:=
 (impl_sameJob a_0.Job b_1.Job).bind fun x9=>
   (if x9=true then
   ((slices_Equal_impl_Bond_impl_Bond a_0.Bonds b_1.Bonds).bind fun x15=>
   if x15=true then
   ((slices_Equal_impl_Coat_impl_Coat a_0.Coats b_1.Coats).bind fun x22=>
   if x22=true then
   (some ((a_0.Rates.Hour==b_1.Rates.Hour)&&((a_0.Rates.Edge==b_1.Rates.Edge)&&((a_0.Rates.Face==b_1.Rates.Face)&&((a_0.Rates.Waste==b_1.Rates.Waste)&&(a_0.Rates.Margin==b_1.Rates.Margin))))))
   else (some false))
   else (some false))
   else (some false)).bind fun t_4_m1=>
   some t_4_m1
noncomputable def laws_eqPoint (a_0:S_Point) (b_1:S_Point):Option Bool:=
 if a_0.X≠b_1.X then
  (some false)
  else (if a_0.Y≠b_1.Y then
  (some false)
  else (some true))
noncomputable def laws_eqPointS_l4 (a_0:(List S_Point)) (b_1:(List S_Point)) (i_5_l4:Int):Option (Int ⊕ (Unit ⊕ Bool)):=
 if i_5_l4< (a_0.length:Int) then
  ((rd a_0 i_5_l4).bind fun x19=>
  (rd b_1 i_5_l4).bind fun x23=>
  (laws_eqPoint x19 x23).bind fun x25=>
  if x25=true then
  (some (.inl (w64 (i_5_l4+1))))
  else (some (.inr (.inr false))))
  else (some (.inr (.inl ())))
noncomputable def laws_eqPointS (a_0:(List S_Point)) (b_1:(List S_Point)):Option Bool:=
 if (a_0.length:Int)≠(b_1.length:Int) then
  (some false)
  else ((loopO (laws_eqPointS_l4 a_0 b_1) 0).bind fun o=>match o with
  | (.inl _)=>(some true)
  | (.inr r2)=>(some r2))
noncomputable def laws_eqInt64S_l4 (a_0:(List Int)) (b_1:(List Int)) (i_5_l4:Int):Option (Int ⊕ (Unit ⊕ Bool)):=
 if i_5_l4< (a_0.length:Int) then
  ((rd a_0 i_5_l4).bind fun x19=>
  (rd b_1 i_5_l4).bind fun x23=>
  if x19≠x23 then
  (some (.inr (.inr false)))
  else (some (.inl (w64 (i_5_l4+1)))))
  else (some (.inr (.inl ())))
noncomputable def laws_eqInt64S (a_0:(List Int)) (b_1:(List Int)):Option Bool:=
 if (a_0.length:Int)≠(b_1.length:Int) then
  (some false)
  else ((loopO (laws_eqInt64S_l4 a_0 b_1) 0).bind fun o=>match o with
  | (.inl _)=>(some true)
  | (.inr r2)=>(some r2))
noncomputable def laws_eqFace (a_0:S_Face) (b_1:S_Face):Option Bool:=
 if ¬(a_0.Name=b_1.Name) then
  (some false)
  else ((laws_eqInt64S a_0.Ring b_1.Ring).bind fun x14=>
  if x14=true then
  (some true)
  else (some false))
noncomputable def laws_eqFaceS_l4 (a_0:(List S_Face)) (b_1:(List S_Face)) (i_5_l4:Int):Option (Int ⊕ (Unit ⊕ Bool)):=
 if i_5_l4< (a_0.length:Int) then
  ((rd a_0 i_5_l4).bind fun x19=>
  (rd b_1 i_5_l4).bind fun x23=>
  (laws_eqFace x19 x23).bind fun x25=>
  if x25=true then
  (some (.inl (w64 (i_5_l4+1))))
  else (some (.inr (.inr false))))
  else (some (.inr (.inl ())))
noncomputable def laws_eqFaceS (a_0:(List S_Face)) (b_1:(List S_Face)):Option Bool:=
 if (a_0.length:Int)≠(b_1.length:Int) then
  (some false)
  else ((loopO (laws_eqFaceS_l4 a_0 b_1) 0).bind fun o=>match o with
  | (.inl _)=>(some true)
  | (.inr r2)=>(some r2))
noncomputable def laws_eqDrawing (a_0:S_Drawing) (b_1:S_Drawing):Option Bool:=
 if a_0.Width≠b_1.Width then
  (some false)
  else (if a_0.Height≠b_1.Height then
  (some false)
  else ((laws_eqPointS a_0.Points b_1.Points).bind fun x19=>
  if x19=true then
  ((laws_eqFaceS a_0.Faces b_1.Faces).bind fun x25=>
  if x25=true then
  (some true)
  else (some false))
  else (some false)))
noncomputable def laws_eqVeneer (a_0:S_Veneer) (b_1:S_Veneer):Option Bool:=
 if ¬(a_0.Species=b_1.Species) then
  (some false)
  else (if a_0.Shade≠b_1.Shade then
  (some false)
  else (if a_0.Grain≠b_1.Grain then
  (some false)
  else (some true)))
noncomputable def laws_eqVeneerS_l4 (a_0:(List S_Veneer)) (b_1:(List S_Veneer)) (i_5_l4:Int):Option (Int ⊕ (Unit ⊕ Bool)):=
 if i_5_l4< (a_0.length:Int) then
  ((rd a_0 i_5_l4).bind fun x19=>
  (rd b_1 i_5_l4).bind fun x23=>
  (laws_eqVeneer x19 x23).bind fun x25=>
  if x25=true then
  (some (.inl (w64 (i_5_l4+1))))
  else (some (.inr (.inr false))))
  else (some (.inr (.inl ())))
noncomputable def laws_eqVeneerS (a_0:(List S_Veneer)) (b_1:(List S_Veneer)):Option Bool:=
 if (a_0.length:Int)≠(b_1.length:Int) then
  (some false)
  else ((loopO (laws_eqVeneerS_l4 a_0 b_1) 0).bind fun o=>match o with
  | (.inl _)=>(some true)
  | (.inr r2)=>(some r2))
noncomputable def laws_eqPicture (a_0:S_Picture) (b_1:S_Picture):Option Bool:=
 (laws_eqDrawing a_0.Drawing b_1.Drawing).bind fun x9=>
   if x9=true then
   ((laws_eqVeneerS a_0.Veneers b_1.Veneers).bind fun x15=>
   if x15=true then
   (some true)
   else (some false))
   else (some false)
noncomputable def laws_eqBox (a_0:S_Box) (b_1:S_Box):Option Bool:=
 if a_0.X≠b_1.X then
  (some false)
  else (if a_0.Y≠b_1.Y then
  (some false)
  else (if a_0.Width≠b_1.Width then
  (some false)
  else (if a_0.Length≠b_1.Length then
  (some false)
  else (some true))))
noncomputable def laws_eqBoxS_l4 (a_0:(List S_Box)) (b_1:(List S_Box)) (i_5_l4:Int):Option (Int ⊕ (Unit ⊕ Bool)):=
 if i_5_l4< (a_0.length:Int) then
  ((rd a_0 i_5_l4).bind fun x19=>
  (rd b_1 i_5_l4).bind fun x23=>
  (laws_eqBox x19 x23).bind fun x25=>
  if x25=true then
  (some (.inl (w64 (i_5_l4+1))))
  else (some (.inr (.inr false))))
  else (some (.inr (.inl ())))
noncomputable def laws_eqBoxS (a_0:(List S_Box)) (b_1:(List S_Box)):Option Bool:=
 if (a_0.length:Int)≠(b_1.length:Int) then
  (some false)
  else ((loopO (laws_eqBoxS_l4 a_0 b_1) 0).bind fun o=>match o with
  | (.inl _)=>(some true)
  | (.inr r2)=>(some r2))
noncomputable def laws_eqLeaf (a_0:S_Leaf) (b_1:S_Leaf):Option Bool:=
 if ¬(a_0.Id=b_1.Id) then
  (some false)
  else (if ¬(a_0.Flitch=b_1.Flitch) then
  (some false)
  else (if a_0.Number≠b_1.Number then
  (some false)
  else ((laws_eqVeneer a_0.Veneer b_1.Veneer).bind fun x24=>
  if x24=true then
  (if a_0.Width≠b_1.Width then
  (some false)
  else (if a_0.Length≠b_1.Length then
  (some false)
  else ((laws_eqBoxS a_0.Defects b_1.Defects).bind fun x40=>
  if x40=true then
  (some true)
  else (some false))))
  else (some false))))
noncomputable def laws_eqLeafS_l4 (a_0:(List S_Leaf)) (b_1:(List S_Leaf)) (i_5_l4:Int):Option (Int ⊕ (Unit ⊕ Bool)):=
 if i_5_l4< (a_0.length:Int) then
  ((rd a_0 i_5_l4).bind fun x19=>
  (rd b_1 i_5_l4).bind fun x23=>
  (laws_eqLeaf x19 x23).bind fun x25=>
  if x25=true then
  (some (.inl (w64 (i_5_l4+1))))
  else (some (.inr (.inr false))))
  else (some (.inr (.inl ())))
noncomputable def laws_eqLeafS (a_0:(List S_Leaf)) (b_1:(List S_Leaf)):Option Bool:=
 if (a_0.length:Int)≠(b_1.length:Int) then
  (some false)
  else ((loopO (laws_eqLeafS_l4 a_0 b_1) 0).bind fun o=>match o with
  | (.inl _)=>(some true)
  | (.inr r2)=>(some r2))
noncomputable def laws_eqPlacement (a_0:S_Placement) (b_1:S_Placement):Option Bool:=
 if a_0.Face≠b_1.Face then
  (some false)
  else (if a_0.Leaf≠b_1.Leaf then
  (some false)
  else (if a_0.X≠b_1.X then
  (some false)
  else (if a_0.Y≠b_1.Y then
  (some false)
  else (if a_0.Turn≠b_1.Turn then
  (some false)
  else (some true)))))
noncomputable def laws_eqPlacementS_l4 (a_0:(List S_Placement)) (b_1:(List S_Placement)) (i_5_l4:Int):Option (Int ⊕ (Unit ⊕ Bool)):=
 if i_5_l4< (a_0.length:Int) then
  ((rd a_0 i_5_l4).bind fun x19=>
  (rd b_1 i_5_l4).bind fun x23=>
  (laws_eqPlacement x19 x23).bind fun x25=>
  if x25=true then
  (some (.inl (w64 (i_5_l4+1))))
  else (some (.inr (.inr false))))
  else (some (.inr (.inl ())))
noncomputable def laws_eqPlacementS (a_0:(List S_Placement)) (b_1:(List S_Placement)):Option Bool:=
 if (a_0.length:Int)≠(b_1.length:Int) then
  (some false)
  else ((loopO (laws_eqPlacementS_l4 a_0 b_1) 0).bind fun o=>match o with
  | (.inl _)=>(some true)
  | (.inr r2)=>(some r2))
noncomputable def laws_eqRules (a_0:S_Rules) (b_1:S_Rules):Option Bool:=
 if a_0.Spacing≠b_1.Spacing then
  (some false)
  else (if a_0.Margin≠b_1.Margin then
  (some false)
  else (if a_0.Angle≠b_1.Angle then
  (some false)
  else (if a_0.Shade≠b_1.Shade then
  (some false)
  else (some true))))
noncomputable def laws_eqJob (a_0:S_Job) (b_1:S_Job):Option Bool:=
 (laws_eqPicture a_0.Picture b_1.Picture).bind fun x9=>
   if x9=true then
   ((laws_eqLeafS a_0.Leaves b_1.Leaves).bind fun x15=>
   if x15=true then
   ((laws_eqPlacementS a_0.Placements b_1.Placements).bind fun x21=>
   if x21=true then
   ((laws_eqRules a_0.Rules b_1.Rules).bind fun x27=>
   if x27=true then
   (if a_0.Thickness≠b_1.Thickness then
   (some false)
   else (if a_0.Kerf≠b_1.Kerf then
   (some false)
   else (if a_0.Bevel≠b_1.Bevel then
   (some false)
   else (if a_0.Gap≠b_1.Gap then
   (some false)
   else ((laws_eqInt64S a_0.Order b_1.Order).bind fun x53=>
   if x53=true then
   ((laws_eqInt64S a_0.Cuts b_1.Cuts).bind fun x59=>
   if x59=true then
   (some true)
   else (some false))
   else (some false))))))
   else (some false))
   else (some false))
   else (some false))
   else (some false)
noncomputable def laws_eqBond (a_0:S_Bond) (b_1:S_Bond):Option Bool:=
 if ¬(a_0.Name=b_1.Name) then
  (some false)
  else (if a_0.Spread≠b_1.Spread then
  (some false)
  else (if a_0.Open≠b_1.Open then
  (some false)
  else (if a_0.Press≠b_1.Press then
  (some false)
  else (some true))))
noncomputable def laws_eqBondS_l4 (a_0:(List S_Bond)) (b_1:(List S_Bond)) (i_5_l4:Int):Option (Int ⊕ (Unit ⊕ Bool)):=
 if i_5_l4< (a_0.length:Int) then
  ((rd a_0 i_5_l4).bind fun x19=>
  (rd b_1 i_5_l4).bind fun x23=>
  (laws_eqBond x19 x23).bind fun x25=>
  if x25=true then
  (some (.inl (w64 (i_5_l4+1))))
  else (some (.inr (.inr false))))
  else (some (.inr (.inl ())))
noncomputable def laws_eqBondS (a_0:(List S_Bond)) (b_1:(List S_Bond)):Option Bool:=
 if (a_0.length:Int)≠(b_1.length:Int) then
  (some false)
  else ((loopO (laws_eqBondS_l4 a_0 b_1) 0).bind fun o=>match o with
  | (.inl _)=>(some true)
  | (.inr r2)=>(some r2))
noncomputable def laws_eqCoat (a_0:S_Coat) (b_1:S_Coat):Option Bool:=
 if ¬(a_0.Name=b_1.Name) then
  (some false)
  else (if a_0.Work≠b_1.Work then
  (some false)
  else (if a_0.Dry≠b_1.Dry then
  (some false)
  else (if a_0.Wait≠b_1.Wait then
  (some false)
  else (some true))))
noncomputable def laws_eqCoatS_l4 (a_0:(List S_Coat)) (b_1:(List S_Coat)) (i_5_l4:Int):Option (Int ⊕ (Unit ⊕ Bool)):=
 if i_5_l4< (a_0.length:Int) then
  ((rd a_0 i_5_l4).bind fun x19=>
  (rd b_1 i_5_l4).bind fun x23=>
  (laws_eqCoat x19 x23).bind fun x25=>
  if x25=true then
  (some (.inl (w64 (i_5_l4+1))))
  else (some (.inr (.inr false))))
  else (some (.inr (.inl ())))
noncomputable def laws_eqCoatS (a_0:(List S_Coat)) (b_1:(List S_Coat)):Option Bool:=
 if (a_0.length:Int)≠(b_1.length:Int) then
  (some false)
  else ((loopO (laws_eqCoatS_l4 a_0 b_1) 0).bind fun o=>match o with
  | (.inl _)=>(some true)
  | (.inr r2)=>(some r2))
noncomputable def laws_eqRates (a_0:S_Rates) (b_1:S_Rates):Option Bool:=
 if a_0.Hour≠b_1.Hour then
  (some false)
  else (if a_0.Edge≠b_1.Edge then
  (some false)
  else (if a_0.Face≠b_1.Face then
  (some false)
  else (if a_0.Waste≠b_1.Waste then
  (some false)
  else (if a_0.Margin≠b_1.Margin then
  (some false)
  else (some true)))))
noncomputable def laws_eqDesk (a_0:S_Desk) (b_1:S_Desk):Option Bool:=
 (laws_eqJob a_0.Job b_1.Job).bind fun x9=>
   if x9=true then
   ((laws_eqBondS a_0.Bonds b_1.Bonds).bind fun x15=>
   if x15=true then
   ((laws_eqCoatS a_0.Coats b_1.Coats).bind fun x21=>
   if x21=true then
   ((laws_eqRates a_0.Rates b_1.Rates).bind fun x27=>
   if x27=true then
   (some true)
   else (some false))
   else (some false))
   else (some false))
   else (some false)
noncomputable def laws_FnExactSameDesk (aA_0:S_Desk) (aB_1:S_Desk):Option Bool:=
 (laws_szDesk aA_0 1048576).bind fun x12=>
   if x12<0 then
   (some true)
   else ((laws_szDesk aB_1 x12).bind fun x17=>
   if x17<0 then
   (some true)
   else ((laws_toDesk aA_0).bind fun x21=>
   (laws_toDesk aB_1).bind fun x23=>
   (spec_SameDesk x21 x23).bind fun x24=>
   (laws_toDesk aA_0).bind fun x26=>
   (laws_toDesk aB_1).bind fun x28=>
   (impl_SameDesk x26 x28).bind fun x31=>
   if x31=x24 then
   ((laws_toDesk aA_0).bind fun x37=>
   (laws_eqDesk x26 x37).bind fun x38=>
   if x38=true then
   ((laws_toDesk aB_1).bind fun x42=>
   (laws_eqDesk x28 x42).bind fun x43=>
   if x43=true then
   (some true)
   else (some false))
   else (some false))
   else (some false)))
end Go.Pw
