/- Plain functions that answer what the program's functions answer. Conditions: none; definitions alone. -/
import Derived.Test.YtonnimmkimccfaaGreatSimPw
namespace Go.Pw
open Go.Sim (min2 max2)
set_option linter.unusedVariables false
structure S_Point where
 X:Int
 Y:Int
structure S_Face where
 Name:ByteArray
 Ring:(List Int)
structure S_Drawing where
 Width:Int
 Height:Int
 Points:(List S_Point)
 Faces:(List S_Face)
structure S_Veneer where
 Species:ByteArray
 Shade:Int
 Grain:Int
structure S_Picture where
 Drawing:S_Drawing
 Veneers:(List S_Veneer)
structure S_Box where
 X:Int
 Y:Int
 Width:Int
 Length:Int
structure S_Leaf where
 Id:ByteArray
 Flitch:ByteArray
 Number:Int
 Veneer:S_Veneer
 Width:Int
 Length:Int
 Defects:(List S_Box)
structure S_Placement where
 Face:Int
 Leaf:Int
 X:Int
 Y:Int
 Turn:Int
structure S_Rules where
 Spacing:Int
 Margin:Int
 Angle:Int
 Shade:Int
structure S_Job where
 Picture:S_Picture
 Leaves:(List S_Leaf)
 Placements:(List S_Placement)
 Rules:S_Rules
 Thickness:Int
 Kerf:Int
 Bevel:Int
 Gap:Int
 Order:(List Int)
 Cuts:(List Int)
structure S_Bond where
 Name:ByteArray
 Spread:Int
 Open:Int
 Press:Int
structure S_Coat where
 Name:ByteArray
 Work:Int
 Dry:Int
 Wait:Int
structure S_Rates where
 Hour:Int
 Edge:Int
 Face:Int
 Waste:Int
 Margin:Int
structure S_Desk where
 Job:S_Job
 Bonds:(List S_Bond)
 Coats:(List S_Coat)
 Rates:S_Rates
noncomputable def laws_szPointS (a_0:(List S_Point)) (left_1:Int):Option Int:=
 if (w64 (left_1 - (a_0.length:Int))) <0 then
  (some (-1))
  else (some (w64 (left_1 - (a_0.length:Int))))
noncomputable def laws_szInt64S (a_0:(List Int)) (left_1:Int):Option Int:=
 if (w64 (left_1 - (a_0.length:Int))) <0 then
  (some (-1))
  else (some (w64 (left_1 - (a_0.length:Int))))
noncomputable def laws_szFace (a_0:S_Face) (left_1:Int):Option Int:=
 if (w64 (left_1 - (a_0.Name.size:Int))) <0 then
  (some (-1))
  else ((laws_szInt64S a_0.Ring (w64 (left_1 - (a_0.Name.size:Int)))).bind fun x15=>
  if x15<0 then
  (some (-1))
  else (some x15))
noncomputable def laws_szFaceS_l5 (a_0:(List S_Face)) (s:(Int×Int)):Option ((Int×Int) ⊕ (Int ⊕ Int)):=
 match s with
  | (left_1_l5,i_5_l5)=>
  if i_5_l5< (a_0.length:Int) then
  ((rd a_0 i_5_l5).bind fun x20=>
  (laws_szFace x20 left_1_l5).bind fun x23=>
  if x23<0 then
  (some (.inr (.inr (-1))))
  else (some (.inl (x23,(w64 (i_5_l5+1))))))
  else (some (.inr (.inl left_1_l5)))
noncomputable def laws_szFaceS (a_0:(List S_Face)) (left_1:Int):Option Int:=
 if (w64 (left_1 - (a_0.length:Int))) <0 then
  (some (-1))
  else ((loopO (laws_szFaceS_l5 a_0) ((w64 (left_1 - (a_0.length:Int))),0)).bind fun o=>match o with
  | (.inl left_1_e0_5)=>(some left_1_e0_5)
  | (.inr r2)=>(some r2))
noncomputable def laws_szDrawing (a_0:S_Drawing) (left_1:Int):Option Int:=
 (laws_szPointS a_0.Points left_1).bind fun x8=>
   if x8<0 then
   (some (-1))
   else ((laws_szFaceS a_0.Faces x8).bind fun x14=>
   if x14<0 then
   (some (-1))
   else (some x14))
noncomputable def laws_szVeneer (a_0:S_Veneer) (left_1:Int):Option Int:=
 if (w64 (left_1 - (a_0.Species.size:Int))) <0 then
  (some (-1))
  else (some (w64 (left_1 - (a_0.Species.size:Int))))
noncomputable def laws_szVeneerS_l5 (a_0:(List S_Veneer)) (s:(Int×Int)):Option ((Int×Int) ⊕ (Int ⊕ Int)):=
 match s with
  | (left_1_l5,i_5_l5)=>
  if i_5_l5< (a_0.length:Int) then
  ((rd a_0 i_5_l5).bind fun x20=>
  (laws_szVeneer x20 left_1_l5).bind fun x23=>
  if x23<0 then
  (some (.inr (.inr (-1))))
  else (some (.inl (x23,(w64 (i_5_l5+1))))))
  else (some (.inr (.inl left_1_l5)))
noncomputable def laws_szVeneerS (a_0:(List S_Veneer)) (left_1:Int):Option Int:=
 if (w64 (left_1 - (a_0.length:Int))) <0 then
  (some (-1))
  else ((loopO (laws_szVeneerS_l5 a_0) ((w64 (left_1 - (a_0.length:Int))),0)).bind fun o=>match o with
  | (.inl left_1_e0_5)=>(some left_1_e0_5)
  | (.inr r2)=>(some r2))
noncomputable def laws_szPicture (a_0:S_Picture) (left_1:Int):Option Int:=
 (laws_szDrawing a_0.Drawing left_1).bind fun x8=>
   if x8<0 then
   (some (-1))
   else ((laws_szVeneerS a_0.Veneers x8).bind fun x14=>
   if x14<0 then
   (some (-1))
   else (some x14))
noncomputable def laws_szBoxS (a_0:(List S_Box)) (left_1:Int):Option Int:=
 if (w64 (left_1 - (a_0.length:Int))) <0 then
  (some (-1))
  else (some (w64 (left_1 - (a_0.length:Int))))
noncomputable def laws_szLeaf (a_0:S_Leaf) (left_1:Int):Option Int:=
 if (w64 (left_1 - (a_0.Id.size:Int))) <0 then
  (some (-1))
  else (if (w64 ((w64 (left_1 - (a_0.Id.size:Int))) - (a_0.Flitch.size:Int))) <0 then
  (some (-1))
  else ((laws_szVeneer a_0.Veneer (w64 ((w64 (left_1 - (a_0.Id.size:Int))) - (a_0.Flitch.size:Int)))).bind fun x22=>
  if x22<0 then
  (some (-1))
  else ((laws_szBoxS a_0.Defects x22).bind fun x28=>
  if x28<0 then
  (some (-1))
  else (some x28))))
noncomputable def laws_szLeafS_l5 (a_0:(List S_Leaf)) (s:(Int×Int)):Option ((Int×Int) ⊕ (Int ⊕ Int)):=
 match s with
  | (left_1_l5,i_5_l5)=>
  if i_5_l5< (a_0.length:Int) then
  ((rd a_0 i_5_l5).bind fun x20=>
  (laws_szLeaf x20 left_1_l5).bind fun x23=>
  if x23<0 then
  (some (.inr (.inr (-1))))
  else (some (.inl (x23,(w64 (i_5_l5+1))))))
  else (some (.inr (.inl left_1_l5)))
noncomputable def laws_szLeafS (a_0:(List S_Leaf)) (left_1:Int):Option Int:=
 if (w64 (left_1 - (a_0.length:Int))) <0 then
  (some (-1))
  else ((loopO (laws_szLeafS_l5 a_0) ((w64 (left_1 - (a_0.length:Int))),0)).bind fun o=>match o with
  | (.inl left_1_e0_5)=>(some left_1_e0_5)
  | (.inr r2)=>(some r2))
noncomputable def laws_szPlacementS (a_0:(List S_Placement)) (left_1:Int):Option Int:=
 if (w64 (left_1 - (a_0.length:Int))) <0 then
  (some (-1))
  else (some (w64 (left_1 - (a_0.length:Int))))
noncomputable def laws_szJob (a_0:S_Job) (left_1:Int):Option Int:=
 (laws_szPicture a_0.Picture left_1).bind fun x8=>
   if x8<0 then
   (some (-1))
   else ((laws_szLeafS a_0.Leaves x8).bind fun x14=>
   if x14<0 then
   (some (-1))
   else ((laws_szPlacementS a_0.Placements x14).bind fun x20=>
   if x20<0 then
   (some (-1))
   else ((laws_szInt64S a_0.Order x20).bind fun x26=>
   if x26<0 then
   (some (-1))
   else ((laws_szInt64S a_0.Cuts x26).bind fun x32=>
   if x32<0 then
   (some (-1))
   else (some x32)))))
noncomputable def laws_szBond (a_0:S_Bond) (left_1:Int):Option Int:=
 if (w64 (left_1 - (a_0.Name.size:Int))) <0 then
  (some (-1))
  else (some (w64 (left_1 - (a_0.Name.size:Int))))
noncomputable def laws_szBondS_l5 (a_0:(List S_Bond)) (s:(Int×Int)):Option ((Int×Int) ⊕ (Int ⊕ Int)):=
 match s with
  | (left_1_l5,i_5_l5)=>
  if i_5_l5< (a_0.length:Int) then
  ((rd a_0 i_5_l5).bind fun x20=>
  (laws_szBond x20 left_1_l5).bind fun x23=>
  if x23<0 then
  (some (.inr (.inr (-1))))
  else (some (.inl (x23,(w64 (i_5_l5+1))))))
  else (some (.inr (.inl left_1_l5)))
noncomputable def laws_szBondS (a_0:(List S_Bond)) (left_1:Int):Option Int:=
 if (w64 (left_1 - (a_0.length:Int))) <0 then
  (some (-1))
  else ((loopO (laws_szBondS_l5 a_0) ((w64 (left_1 - (a_0.length:Int))),0)).bind fun o=>match o with
  | (.inl left_1_e0_5)=>(some left_1_e0_5)
  | (.inr r2)=>(some r2))
noncomputable def laws_szCoat (a_0:S_Coat) (left_1:Int):Option Int:=
 if (w64 (left_1 - (a_0.Name.size:Int))) <0 then
  (some (-1))
  else (some (w64 (left_1 - (a_0.Name.size:Int))))
noncomputable def laws_szCoatS_l5 (a_0:(List S_Coat)) (s:(Int×Int)):Option ((Int×Int) ⊕ (Int ⊕ Int)):=
 match s with
  | (left_1_l5,i_5_l5)=>
  if i_5_l5< (a_0.length:Int) then
  ((rd a_0 i_5_l5).bind fun x20=>
  (laws_szCoat x20 left_1_l5).bind fun x23=>
  if x23<0 then
  (some (.inr (.inr (-1))))
  else (some (.inl (x23,(w64 (i_5_l5+1))))))
  else (some (.inr (.inl left_1_l5)))
noncomputable def laws_szCoatS (a_0:(List S_Coat)) (left_1:Int):Option Int:=
 if (w64 (left_1 - (a_0.length:Int))) <0 then
  (some (-1))
  else ((loopO (laws_szCoatS_l5 a_0) ((w64 (left_1 - (a_0.length:Int))),0)).bind fun o=>match o with
  | (.inl left_1_e0_5)=>(some left_1_e0_5)
  | (.inr r2)=>(some r2))
noncomputable def laws_szDesk (a_0:S_Desk) (left_1:Int):Option Int:=
 (laws_szJob a_0.Job left_1).bind fun x8=>
   if x8<0 then
   (some (-1))
   else ((laws_szBondS a_0.Bonds x8).bind fun x14=>
   if x14<0 then
   (some (-1))
   else ((laws_szCoatS a_0.Coats x14).bind fun x20=>
   if x20<0 then
   (some (-1))
   else (some x20)))
noncomputable def laws_toPoint (a_0:S_Point):Option S_Point:=
 some a_0
noncomputable def laws_toPointS_l3 (a_0:(List S_Point)) (s:(Int×(List S_Point))):Option ((Int×(List S_Point)) ⊕ (List S_Point)):=
 match s with
  | (i_4_l3,out_o3_l3)=>
  if i_4_l3< (a_0.length:Int) then
  ((rd a_0 i_4_l3).bind fun x18=>
  (laws_toPoint x18).bind fun x20=>
  (rd out_o3_l3 i_4_l3).bind fun x21=>
  some (.inl ((w64 (i_4_l3+1)),(out_o3_l3.set i_4_l3.toNat x20))))
  else (some (.inr out_o3_l3))
noncomputable def laws_toPointS (a_0:(List S_Point)):Option (List S_Point):=
 (mkl 16 (a_0.length:Int) (⟨0,0⟩:S_Point)).bind fun x7=>
   (loopO (laws_toPointS_l3 a_0) (0,x7)).bind fun out_o3_e0_3=>
   some out_o3_e0_3
noncomputable def laws_toInt64S_l3 (a_0:(List Int)) (s:(Int×(List Int))):Option ((Int×(List Int)) ⊕ (List Int)):=
 match s with
  | (i_4_l3,out_o3_l3)=>
  if i_4_l3< (a_0.length:Int) then
  ((rd a_0 i_4_l3).bind fun x18=>
  (rd out_o3_l3 i_4_l3).bind fun x20=>
  some (.inl ((w64 (i_4_l3+1)),(out_o3_l3.set i_4_l3.toNat x18))))
  else (some (.inr out_o3_l3))
noncomputable def laws_toInt64S (a_0:(List Int)):Option (List Int):=
 (mkl 8 (a_0.length:Int) 0).bind fun x7=>
   (loopO (laws_toInt64S_l3 a_0) (0,x7)).bind fun out_o3_e0_3=>
   some out_o3_e0_3
noncomputable def laws_toFace (a_0:S_Face):Option S_Face:=
 (laws_toInt64S a_0.Ring).bind fun x9=>
   some (⟨a_0.Name,x9⟩:S_Face)
noncomputable def laws_toFaceS_l3 (a_0:(List S_Face)) (s:(Int×(List S_Face))):Option ((Int×(List S_Face)) ⊕ (List S_Face)):=
 match s with
  | (i_4_l3,out_o3_l3)=>
  if i_4_l3< (a_0.length:Int) then
  ((rd a_0 i_4_l3).bind fun x18=>
  (laws_toFace x18).bind fun x20=>
  (rd out_o3_l3 i_4_l3).bind fun x21=>
  some (.inl ((w64 (i_4_l3+1)),(out_o3_l3.set i_4_l3.toNat x20))))
  else (some (.inr out_o3_l3))
noncomputable def laws_toFaceS (a_0:(List S_Face)):Option (List S_Face):=
 (mkl 40 (a_0.length:Int) (⟨(⟨#[]⟩:ByteArray),([]:List Int)⟩:S_Face)).bind fun x7=>
   (loopO (laws_toFaceS_l3 a_0) (0,x7)).bind fun out_o3_e0_3=>
   some out_o3_e0_3
noncomputable def laws_toDrawing (a_0:S_Drawing):Option S_Drawing:=
 (laws_toPointS a_0.Points).bind fun x12=>
   (laws_toFaceS a_0.Faces).bind fun x16=>
   some (⟨a_0.Width,a_0.Height,x12,x16⟩:S_Drawing)
noncomputable def laws_toVeneer (a_0:S_Veneer):Option S_Veneer:=
 some a_0
noncomputable def laws_toVeneerS_l3 (a_0:(List S_Veneer)) (s:(Int×(List S_Veneer))):Option ((Int×(List S_Veneer)) ⊕ (List S_Veneer)):=
 match s with
  | (i_4_l3,out_o3_l3)=>
  if i_4_l3< (a_0.length:Int) then
  ((rd a_0 i_4_l3).bind fun x18=>
  (laws_toVeneer x18).bind fun x20=>
  (rd out_o3_l3 i_4_l3).bind fun x21=>
  some (.inl ((w64 (i_4_l3+1)),(out_o3_l3.set i_4_l3.toNat x20))))
  else (some (.inr out_o3_l3))
noncomputable def laws_toVeneerS (a_0:(List S_Veneer)):Option (List S_Veneer):=
 (mkl 32 (a_0.length:Int) (⟨(⟨#[]⟩:ByteArray),0,0⟩:S_Veneer)).bind fun x7=>
   (loopO (laws_toVeneerS_l3 a_0) (0,x7)).bind fun out_o3_e0_3=>
   some out_o3_e0_3
noncomputable def laws_toPicture (a_0:S_Picture):Option S_Picture:=
 (laws_toDrawing a_0.Drawing).bind fun x6=>
   (laws_toVeneerS a_0.Veneers).bind fun x10=>
   some (⟨x6,x10⟩:S_Picture)
noncomputable def laws_toBox (a_0:S_Box):Option S_Box:=
 some a_0
noncomputable def laws_toBoxS_l3 (a_0:(List S_Box)) (s:(Int×(List S_Box))):Option ((Int×(List S_Box)) ⊕ (List S_Box)):=
 match s with
  | (i_4_l3,out_o3_l3)=>
  if i_4_l3< (a_0.length:Int) then
  ((rd a_0 i_4_l3).bind fun x18=>
  (laws_toBox x18).bind fun x20=>
  (rd out_o3_l3 i_4_l3).bind fun x21=>
  some (.inl ((w64 (i_4_l3+1)),(out_o3_l3.set i_4_l3.toNat x20))))
  else (some (.inr out_o3_l3))
noncomputable def laws_toBoxS (a_0:(List S_Box)):Option (List S_Box):=
 (mkl 32 (a_0.length:Int) (⟨0,0,0,0⟩:S_Box)).bind fun x7=>
   (loopO (laws_toBoxS_l3 a_0) (0,x7)).bind fun out_o3_e0_3=>
   some out_o3_e0_3
noncomputable def laws_toLeaf (a_0:S_Leaf):Option S_Leaf:=
 (laws_toVeneer a_0.Veneer).bind fun x15=>
   (laws_toBoxS a_0.Defects).bind fun x25=>
   some (⟨a_0.Id,a_0.Flitch,a_0.Number,x15,a_0.Width,a_0.Length,x25⟩:S_Leaf)
noncomputable def laws_toLeafS_l3 (a_0:(List S_Leaf)) (s:(Int×(List S_Leaf))):Option ((Int×(List S_Leaf)) ⊕ (List S_Leaf)):=
 match s with
  | (i_4_l3,out_o3_l3)=>
  if i_4_l3< (a_0.length:Int) then
  ((rd a_0 i_4_l3).bind fun x18=>
  (laws_toLeaf x18).bind fun x20=>
  (rd out_o3_l3 i_4_l3).bind fun x21=>
  some (.inl ((w64 (i_4_l3+1)),(out_o3_l3.set i_4_l3.toNat x20))))
  else (some (.inr out_o3_l3))
noncomputable def laws_toLeafS (a_0:(List S_Leaf)):Option (List S_Leaf):=
 (mkl 112 (a_0.length:Int) (⟨(⟨#[]⟩:ByteArray),(⟨#[]⟩:ByteArray),0,(⟨(⟨#[]⟩:ByteArray),0,0⟩:S_Veneer),0,0,([]:List S_Box)⟩:S_Leaf)).bind fun x7=>
   (loopO (laws_toLeafS_l3 a_0) (0,x7)).bind fun out_o3_e0_3=>
   some out_o3_e0_3
noncomputable def laws_toPlacement (a_0:S_Placement):Option S_Placement:=
 some a_0
noncomputable def laws_toPlacementS_l3 (a_0:(List S_Placement)) (s:(Int×(List S_Placement))):Option ((Int×(List S_Placement)) ⊕ (List S_Placement)):=
 match s with
  | (i_4_l3,out_o3_l3)=>
  if i_4_l3< (a_0.length:Int) then
  ((rd a_0 i_4_l3).bind fun x18=>
  (laws_toPlacement x18).bind fun x20=>
  (rd out_o3_l3 i_4_l3).bind fun x21=>
  some (.inl ((w64 (i_4_l3+1)),(out_o3_l3.set i_4_l3.toNat x20))))
  else (some (.inr out_o3_l3))
noncomputable def laws_toPlacementS (a_0:(List S_Placement)):Option (List S_Placement):=
 (mkl 40 (a_0.length:Int) (⟨0,0,0,0,0⟩:S_Placement)).bind fun x7=>
   (loopO (laws_toPlacementS_l3 a_0) (0,x7)).bind fun out_o3_e0_3=>
   some out_o3_e0_3
noncomputable def laws_toRules (a_0:S_Rules):Option S_Rules:=
 some a_0
noncomputable def laws_toJob (a_0:S_Job):Option S_Job:=
 (laws_toPicture a_0.Picture).bind fun x6=>
   (laws_toLeafS a_0.Leaves).bind fun x10=>
   (laws_toPlacementS a_0.Placements).bind fun x14=>
   (laws_toRules a_0.Rules).bind fun x18=>
   (laws_toInt64S a_0.Order).bind fun x34=>
   (laws_toInt64S a_0.Cuts).bind fun x38=>
   some (⟨x6,x10,x14,x18,a_0.Thickness,a_0.Kerf,a_0.Bevel,a_0.Gap,x34,x38⟩:S_Job)
noncomputable def laws_toBond (a_0:S_Bond):Option S_Bond:=
 some a_0
noncomputable def laws_toBondS_l3 (a_0:(List S_Bond)) (s:(Int×(List S_Bond))):Option ((Int×(List S_Bond)) ⊕ (List S_Bond)):=
 match s with
  | (i_4_l3,out_o3_l3)=>
  if i_4_l3< (a_0.length:Int) then
  ((rd a_0 i_4_l3).bind fun x18=>
  (laws_toBond x18).bind fun x20=>
  (rd out_o3_l3 i_4_l3).bind fun x21=>
  some (.inl ((w64 (i_4_l3+1)),(out_o3_l3.set i_4_l3.toNat x20))))
  else (some (.inr out_o3_l3))
noncomputable def laws_toBondS (a_0:(List S_Bond)):Option (List S_Bond):=
 (mkl 40 (a_0.length:Int) (⟨(⟨#[]⟩:ByteArray),0,0,0⟩:S_Bond)).bind fun x7=>
   (loopO (laws_toBondS_l3 a_0) (0,x7)).bind fun out_o3_e0_3=>
   some out_o3_e0_3
noncomputable def laws_toCoat (a_0:S_Coat):Option S_Coat:=
 some a_0
noncomputable def laws_toCoatS_l3 (a_0:(List S_Coat)) (s:(Int×(List S_Coat))):Option ((Int×(List S_Coat)) ⊕ (List S_Coat)):=
 match s with
  | (i_4_l3,out_o3_l3)=>
  if i_4_l3< (a_0.length:Int) then
  ((rd a_0 i_4_l3).bind fun x18=>
  (laws_toCoat x18).bind fun x20=>
  (rd out_o3_l3 i_4_l3).bind fun x21=>
  some (.inl ((w64 (i_4_l3+1)),(out_o3_l3.set i_4_l3.toNat x20))))
  else (some (.inr out_o3_l3))
noncomputable def laws_toCoatS (a_0:(List S_Coat)):Option (List S_Coat):=
 (mkl 40 (a_0.length:Int) (⟨(⟨#[]⟩:ByteArray),0,0,0⟩:S_Coat)).bind fun x7=>
   (loopO (laws_toCoatS_l3 a_0) (0,x7)).bind fun out_o3_e0_3=>
   some out_o3_e0_3
noncomputable def laws_toRates (a_0:S_Rates):Option S_Rates:=
 some a_0
noncomputable def laws_toDesk (a_0:S_Desk):Option S_Desk:=
 (laws_toJob a_0.Job).bind fun x6=>
   (laws_toBondS a_0.Bonds).bind fun x10=>
   (laws_toCoatS a_0.Coats).bind fun x14=>
   (laws_toRates a_0.Rates).bind fun x18=>
   some (⟨x6,x10,x14,x18⟩:S_Desk)
noncomputable def spec_l00In (n_0:Int) (low_1:Int) (high_2:Int):Option Bool:=
 some ((decide (n_0≥low_1))&&(decide (n_0≤high_2)))
noncomputable def spec_l05Points_l9 (d_0:S_Drawing) (i_3_l4:Int) (k_4_l9:Int):Option (Int ⊕ (Unit ⊕ Bool)):=
 if k_4_l9<i_3_l4 then
  ((rd d_0.Points i_3_l4).bind fun x60=>
  (rd d_0.Points k_4_l9).bind fun x67=>
  if (x60.X=x67.X∧x60.Y=x67.Y) then
  (some (.inr (.inr false)))
  else (some (.inl (w64 (k_4_l9+1)))))
  else (some (.inr (.inl ())))
noncomputable def spec_l05Points_l4 (d_0:S_Drawing) (i_3_l4:Int):Option (Int ⊕ (Unit ⊕ Bool)):=
 if i_3_l4< (d_0.Points.length:Int) then
  ((rd d_0.Points i_3_l4).bind fun x25=>
  (spec_l00In x25.X 0 d_0.Width).bind fun x32=>
  (if x32=true then
  ((rd d_0.Points i_3_l4).bind fun x40=>
  (spec_l00In x40.Y 0 d_0.Height).bind fun x47=>
  some (!x47))
  else (some true)).bind fun t_49_m6=>
  if t_49_m6=true then
  (some (.inr (.inr false)))
  else ((loopO (spec_l05Points_l9 d_0 i_3_l4) 0).bind fun o=>match o with
  | (.inl _)=>(some (.inl (w64 (i_3_l4+1))))
  | (.inr r2)=>(some (.inr (.inr r2)))))
  else (some (.inr (.inl ())))
noncomputable def spec_l05Points (d_0:S_Drawing):Option Bool:=
 if (d_0.Points.length:Int) >48 then
  (some false)
  else ((loopO (spec_l05Points_l4 d_0) 0).bind fun o=>match o with
  | (.inl _)=>(some true)
  | (.inr r2)=>(some r2))
noncomputable def spec_l01Small (c_0:Int):Option Bool:=
 some ((decide (c_0≥97))&&(decide (c_0≤122)))
noncomputable def spec_l01Digit (c_0:Int):Option Bool:=
 some ((decide (c_0≥48))&&(decide (c_0≤57)))
noncomputable def spec_l01Name_l4 (s_0:ByteArray) (i_3_l4:Int):Option (Int ⊕ (Unit ⊕ Bool)):=
 if i_3_l4< (s_0.size:Int) then
  ((bt s_0 i_3_l4).bind fun x25=>
  (spec_l01Small x25).bind fun x26=>
  (if x26=true then
  (some false)
  else ((bt s_0 i_3_l4).bind fun x31=>
  (spec_l01Digit x31).bind fun x32=>
  some (!x32))).bind fun t_34_m6=>
  if t_34_m6=true then
  (some (.inr (.inr false)))
  else (some (.inl (w64 (i_3_l4+1)))))
  else (some (.inr (.inl ())))
noncomputable def spec_l01Name (s_0:ByteArray):Option Bool:=
 (if s_0=(⟨#[]⟩:ByteArray) then
   (some true)
   else (if (s_0.size:Int) >10 then
   (some true)
   else ((bt s_0 0).bind fun x13=>
   (spec_l01Small x13).bind fun x14=>
   some (!x14)))).bind fun t_16_m1=>
   if t_16_m1=true then
   (some false)
   else ((loopO (spec_l01Name_l4 s_0) 0).bind fun o=>match o with
   | (.inl _)=>(some true)
   | (.inr r2)=>(some r2))
noncomputable def spec_l05Ring_l3 (d_0:S_Drawing) (ring_1:(List Int)) (s:(Int×(List S_Point))):Option ((Int×(List S_Point)) ⊕ ((List S_Point) ⊕ ((List S_Point)×Bool))):=
 match s with
  | (i_7_l3,out_o6_l3)=>
  if i_7_l3< (ring_1.length:Int) then
  ((rd ring_1 i_7_l3).bind fun x17=>
  (spec_l00In x17 0 (w64 ((d_0.Points.length:Int) - 1))).bind fun x25=>
  if x25=true then
  ((rd ring_1 i_7_l3).bind fun x34=>
  (rd d_0.Points x34).bind fun x36=>
  (apd 16 out_o6_l3 ([x36]:List S_Point)).bind fun x39=>
  some (.inl ((w64 (i_7_l3+1)),x39)))
  else (some (.inr (.inr (([]:List S_Point),false)))))
  else (some (.inr (.inl out_o6_l3)))
noncomputable def spec_l05Ring (d_0:S_Drawing) (ring_1:(List Int)):Option ((List S_Point)×Bool):=
 (loopO (spec_l05Ring_l3 d_0 ring_1) (0,([]:List S_Point))).bind fun o=>match o with
   | (.inl out_o6_e0_3)=>(some (out_o6_e0_3,true))
   | (.inr r2)=>(some r2)
noncomputable def spec_l02Ok (p_0:S_Point):Option Bool:=
 (spec_l00In p_0.X 0 20000).bind fun x5=>
   (if x5=true then
   ((spec_l00In p_0.Y 0 20000).bind fun x9=>
   some x9)
   else (some false)).bind fun t_2_m1=>
   some t_2_m1
noncomputable def spec_l02Cross (a_0:S_Point) (b_1:S_Point) (c_2:S_Point):Option Int:=
 some (w64 ((w64 ((w64 (b_1.X - a_0.X)) * (w64 (c_2.Y - a_0.Y)))) - (w64 ((w64 (b_1.Y - a_0.Y)) * (w64 (c_2.X - a_0.X))))))
noncomputable def spec_l02Side (a_0:S_Point) (b_1:S_Point) (c_2:S_Point):Option Int:=
 (spec_l02Cross a_0 b_1 c_2).bind fun x11=>
   if x11>0 then
   (some 1)
   else (if x11<0 then
   (some (-1))
   else (some 0))
noncomputable def spec_l00Min (a_0:Int) (b_1:Int):Option Int:=
 if a_0<b_1 then
  (some a_0)
  else (some b_1)
noncomputable def spec_l00Max (a_0:Int) (b_1:Int):Option Int:=
 if a_0>b_1 then
  (some a_0)
  else (some b_1)
noncomputable def spec_l02On (a_0:S_Point) (b_1:S_Point) (p_2:S_Point):Option Bool:=
 (spec_l02Side a_0 b_1 p_2).bind fun x10=>
   (if x10=0 then
   ((spec_l00Min a_0.X b_1.X).bind fun x19=>
   (spec_l00Max a_0.X b_1.X).bind fun x24=>
   (spec_l00In p_2.X x19 x24).bind fun x25=>
   if x25=true then
   ((spec_l00Min a_0.Y b_1.Y).bind fun x34=>
   (spec_l00Max a_0.Y b_1.Y).bind fun x39=>
   (spec_l00In p_2.Y x34 x39).bind fun x40=>
   some x40)
   else (some false))
   else (some false)).bind fun t_6_m1=>
   some t_6_m1
noncomputable def spec_l02Crosses (a_0:S_Point) (b_1:S_Point) (c_2:S_Point) (d_3:S_Point):Option Bool:=
 (spec_l02Side a_0 b_1 c_2).bind fun x12=>
   (spec_l02Side a_0 b_1 d_3).bind fun x16=>
   (if (w64 (x12*x16)) <0 then
   ((spec_l02Side c_2 d_3 a_0).bind fun x23=>
   (spec_l02Side c_2 d_3 b_1).bind fun x27=>
   some (decide ((w64 (x23*x27)) <0)))
   else (some false)).bind fun t_8_m1=>
   some t_8_m1
noncomputable def spec_l03Meet (a_0:S_Point) (b_1:S_Point) (c_2:S_Point) (d_3:S_Point):Option Bool:=
 (spec_l02Crosses a_0 b_1 c_2 d_3).bind fun x13=>
   (if x13=true then
   (some true)
   else ((spec_l02On a_0 b_1 c_2).bind fun x18=>
   if x18=true then
   (some true)
   else ((spec_l02On a_0 b_1 d_3).bind fun x24=>
   if x24=true then
   (some true)
   else ((spec_l02On c_2 d_3 a_0).bind fun x30=>
   if x30=true then
   (some true)
   else ((spec_l02On c_2 d_3 b_1).bind fun x36=>
   some x36))))).bind fun t_8_m1=>
   some t_8_m1
noncomputable def spec_l03Area_l3 (p_0:(List S_Point)) (s:(Int×Int)):Option ((Int×Int) ⊕ Int):=
 match s with
  | (sum_3_l3,i_4_l3)=>
  if i_4_l3< (p_0.length:Int) then
  ((md (w64 (i_4_l3+1)) (p_0.length:Int)).bind fun x17=>
  (rd p_0 x17).bind fun x18=>
  (rd p_0 i_4_l3).bind fun x23=>
  (rd p_0 i_4_l3).bind fun x31=>
  some (.inl ((w64 (sum_3_l3+(w64 ((w64 (x23.X*x18.Y)) - (w64 (x31.Y*x18.X)))))),(w64 (i_4_l3+1)))))
  else (some (.inr sum_3_l3))
noncomputable def spec_l03Area (p_0:(List S_Point)):Option Int:=
 (loopO (spec_l03Area_l3 p_0) (0,0)).bind fun sum_3_e0_3=>
   some sum_3_e0_3
noncomputable def spec_l03Ok_l18 (i_5_l10:Int) (p_0:(List S_Point)) (x36:S_Point) (x43:S_Point) (k_9_l18:Int):Option (Int ⊕ (Unit ⊕ Bool)):=
 if k_9_l18< (p_0.length:Int) then
  ((md (w64 (k_9_l18+1)) (p_0.length:Int)).bind fun x77=>
  (if x77≠i_5_l10 then
  ((rd p_0 k_9_l18).bind fun x85=>
  (md (w64 (k_9_l18+1)) (p_0.length:Int)).bind fun x91=>
  (rd p_0 x91).bind fun x92=>
  (spec_l03Meet x36 x43 x85 x92).bind fun x94=>
  some x94)
  else (some false)).bind fun t_95_m20=>
  if t_95_m20=true then
  (some (.inr (.inr false)))
  else (some (.inl (w64 (k_9_l18+1)))))
  else (some (.inr (.inl ())))
noncomputable def spec_l03Ok_l10 (p_0:(List S_Point)) (i_5_l10:Int):Option (Int ⊕ (Unit ⊕ Bool)):=
 if i_5_l10< (p_0.length:Int) then
  ((rd p_0 i_5_l10).bind fun x36=>
  (md (w64 (i_5_l10+1)) (p_0.length:Int)).bind fun x42=>
  (rd p_0 x42).bind fun x43=>
  (md (w64 (i_5_l10+2)) (p_0.length:Int)).bind fun x49=>
  (rd p_0 x49).bind fun x50=>
  (if (x36.X=x43.X∧x36.Y=x43.Y) then
  (some true)
  else ((spec_l02On x36 x43 x50).bind fun x59=>
  if x59=true then
  (some true)
  else ((spec_l02On x43 x50 x36).bind fun x65=>
  some x65))).bind fun t_66_m15=>
  if t_66_m15=true then
  (some (.inr (.inr false)))
  else ((loopO (spec_l03Ok_l18 i_5_l10 p_0 x36 x43) (w64 (i_5_l10+2))).bind fun o=>match o with
  | (.inl _)=>(some (.inl (w64 (i_5_l10+1))))
  | (.inr r2)=>(some (.inr (.inr r2)))))
  else (some (.inr (.inl ())))
noncomputable def spec_l03Ok_l5 (p_0:(List S_Point)) (i_4_l5:Int):Option (Int ⊕ (Unit ⊕ Bool)):=
 if i_4_l5< (p_0.length:Int) then
  ((rd p_0 i_4_l5).bind fun x25=>
  (spec_l02Ok x25).bind fun x27=>
  if x27=true then
  (some (.inl (w64 (i_4_l5+1))))
  else (some (.inr (.inr false))))
  else (some (.inr (.inl ())))
noncomputable def spec_l03Ok (p_0:(List S_Point)):Option Bool:=
 if ((p_0.length:Int) <3∨(p_0.length:Int) >24) then
  (some false)
  else ((loopO (spec_l03Ok_l5 p_0) 0).bind fun o=>match o with
  | (.inl _)=>((loopO (spec_l03Ok_l10 p_0) 0).bind fun o=>match o with
  | (.inl _)=>((spec_l03Area p_0).bind fun x97=>
  some (decide (x97>0)))
  | (.inr r2)=>(some r2))
  | (.inr r2)=>(some r2))
noncomputable def spec_l05Ok_l4 (d_0:S_Drawing) (i_3_l4:Int):Option (Int ⊕ (Unit ⊕ Bool)):=
 if i_3_l4< (d_0.Faces.length:Int) then
  ((rd d_0.Faces i_3_l4).bind fun x47=>
  (spec_l01Name x47.Name).bind fun x50=>
  (if x50=true then
  (if i_3_l4>0 then
  ((rd d_0.Faces (w64 (i_3_l4 - 1))).bind fun x62=>
  (rd d_0.Faces i_3_l4).bind fun x70=>
  some (!Op.bytesLess x62.Name.toList x70.Name.toList))
  else (some false))
  else (some true)).bind fun t_75_m6=>
  if t_75_m6=true then
  (some (.inr (.inr false)))
  else ((rd d_0.Faces i_3_l4).bind fun x83=>
  (spec_l05Ring d_0 x83.Ring).bind fun x86=>
  (if x86.2=true then
  ((spec_l03Ok x86.1).bind fun x93=>
  some (!x93))
  else (some true)).bind fun t_95_m9=>
  if t_95_m9=true then
  (some (.inr (.inr false)))
  else (some (.inl (w64 (i_3_l4+1))))))
  else (some (.inr (.inl ())))
noncomputable def spec_l05Ok (d_0:S_Drawing):Option Bool:=
 (spec_l00In d_0.Width 10 20000).bind fun x10=>
   (if x10=true then
   ((spec_l00In d_0.Height 10 20000).bind fun x17=>
   if x17=true then
   ((spec_l05Points d_0).bind fun x22=>
   if x22=true then
   (some (decide ((d_0.Faces.length:Int) >24)))
   else (some true))
   else (some true))
   else (some true)).bind fun t_32_m1=>
   if t_32_m1=true then
   (some false)
   else ((loopO (spec_l05Ok_l4 d_0) 0).bind fun o=>match o with
   | (.inl _)=>(some true)
   | (.inr r2)=>(some r2))
noncomputable def spec_l07Names:Option (List ByteArray):=
 some ([(⟨#[97,115,104]⟩:ByteArray),(⟨#[98,101,101,99,104]⟩:ByteArray),(⟨#[98,105,114,99,104]⟩:ByteArray),(⟨#[99,104,101,114,114,121]⟩:ByteArray),(⟨#[101,98,111,110,121]⟩:ByteArray),(⟨#[104,111,108,108,121]⟩:ByteArray),(⟨#[109,97,112,108,101]⟩:ByteArray),(⟨#[111,97,107]⟩:ByteArray),(⟨#[114,111,115,101,119,111,111,100]⟩:ByteArray),(⟨#[119,97,108,110,117,116]⟩:ByteArray)]:List ByteArray)
noncomputable def spec_l07Find_l3 (name_0:ByteArray) (x5:(List ByteArray)) (i_4_l3:Int):Option (Int ⊕ (Unit ⊕ Int)):=
 if i_4_l3< (x5.length:Int) then
  ((rd x5 i_4_l3).bind fun x14=>
  if x14=name_0 then
  (some (.inr (.inr i_4_l3)))
  else (some (.inl (w64 (i_4_l3+1)))))
  else (some (.inr (.inl ())))
noncomputable def spec_l07Find (name_0:ByteArray):Option Int:=
 (spec_l07Names).bind fun x5=>
   (loopO (spec_l07Find_l3 name_0 x5) 0).bind fun o=>match o with
   | (.inl _)=>(some (-1))
   | (.inr r2)=>(some r2)
noncomputable def spec_l07Table:Option (List (List Int)):=
 some ([([20,40,310]:List Int),([35,45,410]:List Int),([15,33,280]:List Int),([50,36,240]:List Int),([95,85,270]:List Int),([5,35,370]:List Int),([10,42,290]:List Int),([40,40,330]:List Int),([80,60,220]:List Int),([70,38,260]:List Int)]:List (List Int))
noncomputable def spec_l07Grain (g_0:Int):Option Bool:=
 (spec_l00In g_0 0 179).bind fun x4=>
   some x4
noncomputable def spec_l07Ok (v_0:S_Veneer):Option Bool:=
 (spec_l07Find v_0.Species).bind fun x9=>
   (if x9<0 then
   (some true)
   else ((spec_l00In v_0.Shade 0 100).bind fun x17=>
   some (!x17))).bind fun t_19_m2=>
   if t_19_m2=true then
   (some false)
   else ((spec_l07Table).bind fun x20=>
   (rd x20 x9).bind fun x22=>
   (rd x22 0).bind fun x24=>
   (spec_l00In v_0.Shade (w64 (x24 - 15)) (w64 (x24+15))).bind fun x34=>
   (if x34=true then
   ((spec_l07Grain v_0.Grain).bind fun x40=>
   some x40)
   else (some false)).bind fun t_2_m5=>
   some t_2_m5)
noncomputable def spec_l08Veneers_l2 (list_0:(List S_Veneer)) (i_3_l2:Int):Option (Int ⊕ (Unit ⊕ Bool)):=
 if i_3_l2< (list_0.length:Int) then
  ((rd list_0 i_3_l2).bind fun x12=>
  (spec_l07Ok x12).bind fun x13=>
  if x13=true then
  (some (.inl (w64 (i_3_l2+1))))
  else (some (.inr (.inr false))))
  else (some (.inr (.inl ())))
noncomputable def spec_l08Veneers (list_0:(List S_Veneer)):Option Bool:=
 (loopO (spec_l08Veneers_l2 list_0) 0).bind fun o=>match o with
   | (.inl _)=>(some true)
   | (.inr r2)=>(some r2)
noncomputable def spec_l08Ok (p_0:S_Picture):Option Bool:=
 (spec_l05Ok p_0.Drawing).bind fun x6=>
   (if x6=true then
   ((spec_l08Veneers p_0.Veneers).bind fun x12=>
   if x12=true then
   (some ((p_0.Veneers.length:Int)==(p_0.Drawing.Faces.length:Int)))
   else (some false))
   else (some false)).bind fun t_2_m1=>
   some t_2_m1
noncomputable def spec_l09Box (b_0:S_Box) (width_1:Int) (length_2:Int):Option Bool:=
 (spec_l00In b_0.X 0 width_1).bind fun x12=>
   (if x12=true then
   ((spec_l00In b_0.Y 0 length_2).bind fun x19=>
   if x19=true then
   ((spec_l00In b_0.Width 1 (w64 (width_1 - b_0.X))).bind fun x32=>
   if x32=true then
   ((spec_l00In b_0.Length 1 (w64 (length_2 - b_0.Y))).bind fun x45=>
   some x45)
   else (some false))
   else (some false))
   else (some false)).bind fun t_6_m1=>
   some t_6_m1
noncomputable def spec_l09One_l6 (l_0:S_Leaf) (i_3_l6:Int):Option (Int ⊕ (Unit ⊕ Bool)):=
 if i_3_l6< (l_0.Defects.length:Int) then
  ((rd l_0.Defects i_3_l6).bind fun x69=>
  (spec_l09Box x69 l_0.Width l_0.Length).bind fun x78=>
  if x78=true then
  (some (.inl (w64 (i_3_l6+1))))
  else (some (.inr (.inr false))))
  else (some (.inr (.inl ())))
noncomputable def spec_l09One (l_0:S_Leaf):Option Bool:=
 (spec_l01Name l_0.Id).bind fun x8=>
   (if x8=true then
   ((spec_l01Name l_0.Flitch).bind fun x15=>
   if x15=true then
   ((spec_l00In l_0.Number 0 999).bind fun x23=>
   if x23=true then
   ((spec_l07Ok l_0.Veneer).bind fun x30=>
   some (!x30))
   else (some true))
   else (some true))
   else (some true)).bind fun t_32_m1=>
   if t_32_m1=true then
   (some false)
   else ((spec_l00In l_0.Width 10 20000).bind fun x37=>
   (if x37=true then
   ((spec_l00In l_0.Length 10 20000).bind fun x44=>
   if x44=true then
   (some (decide ((l_0.Defects.length:Int) >6)))
   else (some true))
   else (some true)).bind fun t_54_m3=>
   if t_54_m3=true then
   (some false)
   else ((loopO (spec_l09One_l6 l_0) 0).bind fun o=>match o with
   | (.inl _)=>(some true)
   | (.inr r2)=>(some r2)))
noncomputable def spec_l09Ok_l2 (list_0:(List S_Leaf)) (i_3_l2:Int):Option (Int ⊕ (Unit ⊕ Bool)):=
 if i_3_l2< (list_0.length:Int) then
  ((rd list_0 i_3_l2).bind fun x12=>
  (spec_l09One x12).bind fun x13=>
  (if x13=true then
  (if i_3_l2>0 then
  ((rd list_0 (w64 (i_3_l2 - 1))).bind fun x22=>
  (rd list_0 i_3_l2).bind fun x27=>
  some (!Op.bytesLess x22.Id.toList x27.Id.toList))
  else (some false))
  else (some true)).bind fun t_32_m4=>
  if t_32_m4=true then
  (some (.inr (.inr false)))
  else (some (.inl (w64 (i_3_l2+1)))))
  else (some (.inr (.inl ())))
noncomputable def spec_l09Ok (list_0:(List S_Leaf)):Option Bool:=
 (loopO (spec_l09Ok_l2 list_0) 0).bind fun o=>match o with
   | (.inl _)=>(some (decide ((list_0.length:Int)≤16)))
   | (.inr r2)=>(some r2)
noncomputable def spec_l03Turn (turn_0:Int):Option Bool:=
 (spec_l00In turn_0 0 7).bind fun x4=>
   some x4
noncomputable def spec_l11One (p_0:S_Placement):Option Bool:=
 (spec_l00In p_0.Face 0 23).bind fun x7=>
   (if x7=true then
   ((spec_l00In p_0.Leaf 0 15).bind fun x13=>
   if x13=true then
   ((spec_l00In p_0.X 0 20000).bind fun x20=>
   if x20=true then
   ((spec_l00In p_0.Y 0 20000).bind fun x27=>
   if x27=true then
   ((spec_l03Turn p_0.Turn).bind fun x34=>
   some x34)
   else (some false))
   else (some false))
   else (some false))
   else (some false)).bind fun t_2_m1=>
   some t_2_m1
noncomputable def spec_l11Ok_l2 (list_0:(List S_Placement)) (i_3_l2:Int):Option (Int ⊕ (Unit ⊕ Bool)):=
 if i_3_l2< (list_0.length:Int) then
  ((rd list_0 i_3_l2).bind fun x12=>
  (spec_l11One x12).bind fun x13=>
  (if x13=true then
  (if i_3_l2>0 then
  ((rd list_0 (w64 (i_3_l2 - 1))).bind fun x22=>
  (rd list_0 i_3_l2).bind fun x27=>
  some (decide (x22.Face≥x27.Face)))
  else (some false))
  else (some true)).bind fun t_32_m4=>
  if t_32_m4=true then
  (some (.inr (.inr false)))
  else (some (.inl (w64 (i_3_l2+1)))))
  else (some (.inr (.inl ())))
noncomputable def spec_l11Ok (list_0:(List S_Placement)):Option Bool:=
 (loopO (spec_l11Ok_l2 list_0) 0).bind fun o=>match o with
   | (.inl _)=>(some (decide ((list_0.length:Int)≤24)))
   | (.inr r2)=>(some r2)
noncomputable def spec_l05Face (d_0:S_Drawing) (k_1:Int):Option Bool:=
 (spec_l00In k_1 0 (w64 ((d_0.Faces.length:Int) - 1))).bind fun x12=>
   some x12
noncomputable def spec_l11Fits_l2 (list_1:(List S_Placement)) (pic_0:S_Picture) (i_5_l2:Int):Option (Int ⊕ (Unit ⊕ Bool)):=
 if i_5_l2< (list_1.length:Int) then
  ((rd list_1 i_5_l2).bind fun x17=>
  (spec_l05Face pic_0.Drawing x17.Face).bind fun x20=>
  if x20=true then
  (some (.inl (w64 (i_5_l2+1))))
  else (some (.inr (.inr false))))
  else (some (.inr (.inl ())))
noncomputable def spec_l11Fits (pic_0:S_Picture) (list_1:(List S_Placement)):Option Bool:=
 (loopO (spec_l11Fits_l2 list_1 pic_0) 0).bind fun o=>match o with
   | (.inl _)=>(some true)
   | (.inr r2)=>(some r2)
noncomputable def spec_l11Rules (r_0:S_Rules):Option Bool:=
 (spec_l00In r_0.Spacing 0 500).bind fun x7=>
   (if x7=true then
   ((spec_l00In r_0.Margin 0 500).bind fun x13=>
   if x13=true then
   ((spec_l00In r_0.Angle 0 90).bind fun x20=>
   if x20=true then
   ((spec_l00In r_0.Shade 0 100).bind fun x27=>
   some x27)
   else (some false))
   else (some false))
   else (some false)).bind fun t_2_m1=>
   some t_2_m1
noncomputable def spec_l13Sheet (thickness_0:Int) (kerf_1:Int):Option Bool:=
 (spec_l00In thickness_0 1 1000).bind fun x6=>
   (if x6=true then
   ((spec_l00In kerf_1 0 200).bind fun x9=>
   some x9)
   else (some false)).bind fun t_4_m1=>
   some t_4_m1
noncomputable def spec_l13Angle (d_0:Int):Option Bool:=
 (spec_l00In d_0 0 30).bind fun x4=>
   some x4
noncomputable def spec_l13Tolerance (n_0:Int):Option Bool:=
 (spec_l00In n_0 0 200).bind fun x4=>
   some x4
noncomputable def spec_l00Has_l2 (list_0:(List Int)) (n_1:Int) (i_5_l2:Int):Option (Int ⊕ (Unit ⊕ Bool)):=
 if i_5_l2< (list_0.length:Int) then
  ((rd list_0 i_5_l2).bind fun x14=>
  if x14=n_1 then
  (some (.inr (.inr true)))
  else (some (.inl (w64 (i_5_l2+1)))))
  else (some (.inr (.inl ())))
noncomputable def spec_l00Has (list_0:(List Int)) (n_1:Int):Option Bool:=
 (loopO (spec_l00Has_l2 list_0 n_1) 0).bind fun o=>match o with
   | (.inl _)=>(some false)
   | (.inr r2)=>(some r2)
noncomputable def spec_l23Order_l2 (d_0:S_Drawing) (order_1:(List Int)) (i_5_l2:Int):Option (Int ⊕ (Unit ⊕ Bool)):=
 if i_5_l2< (order_1.length:Int) then
  ((rd order_1 i_5_l2).bind fun x15=>
  (spec_l05Face d_0 x15).bind fun x17=>
  (if x17=true then
  ((rd order_1 i_5_l2).bind fun x25=>
  (slc order_1 0 i_5_l2).bind fun x22=>
  (spec_l00Has x22 x25).bind fun x27=>
  some x27)
  else (some true)).bind fun t_28_m4=>
  if t_28_m4=true then
  (some (.inr (.inr false)))
  else (some (.inl (w64 (i_5_l2+1)))))
  else (some (.inr (.inl ())))
noncomputable def spec_l23Order (d_0:S_Drawing) (order_1:(List Int)):Option Bool:=
 (loopO (spec_l23Order_l2 d_0 order_1) 0).bind fun o=>match o with
   | (.inl _)=>(some true)
   | (.inr r2)=>(some r2)
noncomputable def spec_l31Ok (j_0:S_Job):Option Bool:=
 (spec_l08Ok j_0.Picture).bind fun x6=>
   (if x6=true then
   ((spec_l09Ok j_0.Leaves).bind fun x13=>
   if x13=true then
   ((spec_l11Ok j_0.Placements).bind fun x21=>
   if x21=true then
   ((spec_l11Fits j_0.Picture j_0.Placements).bind fun x32=>
   if x32=true then
   ((spec_l11Rules j_0.Rules).bind fun x39=>
   some (!x39))
   else (some true))
   else (some true))
   else (some true))
   else (some true)).bind fun t_41_m1=>
   if t_41_m1=true then
   (some false)
   else ((spec_l13Sheet j_0.Thickness j_0.Kerf).bind fun x50=>
   (if x50=true then
   ((spec_l13Angle j_0.Bevel).bind fun x56=>
   if x56=true then
   ((spec_l13Tolerance j_0.Gap).bind fun x63=>
   if x63=true then
   ((spec_l23Order j_0.Picture.Drawing j_0.Order).bind fun x74=>
   some x74)
   else (some false))
   else (some false))
   else (some false)).bind fun t_2_m3=>
   some t_2_m3)
noncomputable def spec_l24One (b_0:S_Bond):Option Bool:=
 (spec_l01Name b_0.Name).bind fun x7=>
   (if x7=true then
   ((spec_l00In b_0.Spread 1 120).bind fun x13=>
   if x13=true then
   ((spec_l00In b_0.Open b_0.Spread 240).bind fun x24=>
   if x24=true then
   ((spec_l00In b_0.Press 1 1440).bind fun x31=>
   some x31)
   else (some false))
   else (some false))
   else (some false)).bind fun t_2_m1=>
   some t_2_m1
noncomputable def spec_l24Ok_l2 (list_0:(List S_Bond)) (i_3_l2:Int):Option (Int ⊕ (Unit ⊕ Bool)):=
 if i_3_l2< (list_0.length:Int) then
  ((rd list_0 i_3_l2).bind fun x12=>
  (spec_l24One x12).bind fun x13=>
  (if x13=true then
  (if i_3_l2>0 then
  ((rd list_0 (w64 (i_3_l2 - 1))).bind fun x22=>
  (rd list_0 i_3_l2).bind fun x27=>
  some (!Op.bytesLess x22.Name.toList x27.Name.toList))
  else (some false))
  else (some true)).bind fun t_32_m4=>
  if t_32_m4=true then
  (some (.inr (.inr false)))
  else (some (.inl (w64 (i_3_l2+1)))))
  else (some (.inr (.inl ())))
noncomputable def spec_l24Ok (list_0:(List S_Bond)):Option Bool:=
 (loopO (spec_l24Ok_l2 list_0) 0).bind fun o=>match o with
   | (.inl _)=>(some (decide ((list_0.length:Int)≤12)))
   | (.inr r2)=>(some r2)
noncomputable def spec_l22One (c_0:S_Coat):Option Bool:=
 (spec_l01Name c_0.Name).bind fun x7=>
   (if x7=true then
   ((spec_l00In c_0.Work 1 32).bind fun x13=>
   if x13=true then
   ((spec_l00In c_0.Dry 0 400).bind fun x20=>
   if x20=true then
   ((spec_l00In c_0.Wait c_0.Dry 800).bind fun x31=>
   some x31)
   else (some false))
   else (some false))
   else (some false)).bind fun t_2_m1=>
   some t_2_m1
noncomputable def spec_l22Ok_l2 (list_0:(List S_Coat)) (i_3_l2:Int):Option (Int ⊕ (Unit ⊕ Bool)):=
 if i_3_l2< (list_0.length:Int) then
  ((rd list_0 i_3_l2).bind fun x12=>
  (spec_l22One x12).bind fun x13=>
  if x13=true then
  (some (.inl (w64 (i_3_l2+1))))
  else (some (.inr (.inr false))))
  else (some (.inr (.inl ())))
noncomputable def spec_l22Ok (list_0:(List S_Coat)):Option Bool:=
 (loopO (spec_l22Ok_l2 list_0) 0).bind fun o=>match o with
   | (.inl _)=>(some (decide ((list_0.length:Int)≤8)))
   | (.inr r2)=>(some r2)
noncomputable def spec_l28Ok (r_0:S_Rates):Option Bool:=
 (spec_l00In r_0.Hour 0 100000).bind fun x7=>
   (if x7=true then
   ((spec_l00In r_0.Edge 0 1000).bind fun x13=>
   if x13=true then
   ((spec_l00In r_0.Face 0 1000).bind fun x20=>
   if x20=true then
   ((spec_l00In r_0.Waste 0 300).bind fun x27=>
   if x27=true then
   ((spec_l00In r_0.Margin 0 200).bind fun x34=>
   some x34)
   else (some false))
   else (some false))
   else (some false))
   else (some false)).bind fun t_2_m1=>
   some t_2_m1
noncomputable def spec_l32Ok (d_0:S_Desk):Option Bool:=
 (spec_l31Ok d_0.Job).bind fun x6=>
   (if x6=true then
   ((spec_l24Ok d_0.Bonds).bind fun x12=>
   if x12=true then
   ((spec_l22Ok d_0.Coats).bind fun x19=>
   if x19=true then
   ((spec_l28Ok d_0.Rates).bind fun x25=>
   some x25)
   else (some false))
   else (some false))
   else (some false)).bind fun t_2_m1=>
   some t_2_m1
noncomputable def spec_ValidDesk (d_0:S_Desk):Option Bool:=
 (spec_l32Ok d_0).bind fun x3=>
   some x3
noncomputable def impl_within (n_0:Int) (low_1:Int) (high_2:Int):Option Bool:=
 some ((decide (n_0≥low_1))&&(decide (n_0≤high_2)))
noncomputable def slices_Index_impl_Point_impl_Point_l2 (s_0:(List S_Point)) (v_1:S_Point) (t_8_l2:Int):Option (Int ⊕ (Unit ⊕ Int)):=
 if t_8_l2< (s_0.length:Int) then
  ((rd s_0 t_8_l2).bind fun x14=>
  if (v_1.X=x14.X∧v_1.Y=x14.Y) then
  (some (.inr (.inr t_8_l2)))
  else (some (.inl (w64 (t_8_l2+1)))))
  else (some (.inr (.inl ())))
noncomputable def slices_Index_impl_Point_impl_Point (s_0:(List S_Point)) (v_1:S_Point):Option Int:=
 (loopO (slices_Index_impl_Point_impl_Point_l2 s_0 v_1) 0).bind fun o=>match o with
   | (.inl _)=>(some (-1))
   | (.inr r2)=>(some r2)
noncomputable def slices_Contains_impl_Point_impl_Point (s_0:(List S_Point)) (v_1:S_Point):Option Bool:=
 (slices_Index_impl_Point_impl_Point s_0 v_1).bind fun x7=>
   some (decide (x7≥0))
noncomputable def impl_IsName_l4 (s_0:ByteArray) (i_3_l4:Int):Option (Int ⊕ (Unit ⊕ Bool)):=
 if i_3_l4< (s_0.size:Int) then
  ((bt s_0 i_3_l4).bind fun x30=>
  (if x30<97 then
  ((bt s_0 i_3_l4).bind fun x41=>
  if x41<48 then
  (some true)
  else ((bt s_0 i_3_l4).bind fun x46=>
  some (decide (x46>57))))
  else ((bt s_0 i_3_l4).bind fun x35=>
  if x35>122 then
  ((bt s_0 i_3_l4).bind fun x41=>
  if x41<48 then
  (some true)
  else ((bt s_0 i_3_l4).bind fun x46=>
  some (decide (x46>57))))
  else (some false))).bind fun t_49_m6=>
  if t_49_m6=true then
  (some (.inr (.inr false)))
  else (some (.inl (w64 (i_3_l4+1)))))
  else (some (.inr (.inl ())))
noncomputable def impl_IsName (s_0:ByteArray):Option Bool:=
 (if (s_0.size:Int) <1 then
   (some true)
   else (if (s_0.size:Int) >10 then
   (some true)
   else ((bt s_0 0).bind fun x14=>
   if x14<97 then
   (some true)
   else ((bt s_0 0).bind fun x19=>
   some (decide (x19>122)))))).bind fun t_21_m1=>
   if t_21_m1=true then
   (some false)
   else ((loopO (impl_IsName_l4 s_0) 0).bind fun o=>match o with
   | (.inl _)=>(some true)
   | (.inr r2)=>(some r2))
noncomputable def impl_ringPolygon_l3 (points_0:(List S_Point)) (ring_1:(List Int)) (s:(Int×(List S_Point))):Option ((Int×(List S_Point)) ⊕ ((List S_Point) ⊕ ((List S_Point)×Bool))):=
 match s with
  | (t_12_l3,out_o6_l3)=>
  if t_12_l3< (ring_1.length:Int) then
  ((rd ring_1 t_12_l3).bind fun x14=>
  (impl_within x14 0 (w64 ((points_0.length:Int) - 1))).bind fun x20=>
  if x20=true then
  ((rd points_0 x14).bind fun x25=>
  (apd 16 out_o6_l3 ([x25]:List S_Point)).bind fun x28=>
  some (.inl ((w64 (t_12_l3+1)),x28)))
  else (some (.inr (.inr (([]:List S_Point),false)))))
  else (some (.inr (.inl out_o6_l3)))
noncomputable def impl_ringPolygon (points_0:(List S_Point)) (ring_1:(List Int)):Option ((List S_Point)×Bool):=
 (loopO (impl_ringPolygon_l3 points_0 ring_1) (0,([]:List S_Point))).bind fun o=>match o with
   | (.inl out_o6_e0_3)=>(some (out_o6_e0_3,true))
   | (.inr r2)=>(some r2)
noncomputable def impl_ValidPoint (p_0:S_Point):Option Bool:=
 (impl_within p_0.X 0 20000).bind fun x5=>
   (if x5=true then
   ((impl_within p_0.Y 0 20000).bind fun x9=>
   some x9)
   else (some false)).bind fun t_2_m1=>
   some t_2_m1
noncomputable def impl_validPoints_l2 (list_0:(List S_Point)) (t_7_l2:Int):Option (Int ⊕ (Unit ⊕ Bool)):=
 if t_7_l2< (list_0.length:Int) then
  ((rd list_0 t_7_l2).bind fun x9=>
  (impl_ValidPoint x9).bind fun x12=>
  if x12=true then
  (some (.inl (w64 (t_7_l2+1))))
  else (some (.inr (.inr false))))
  else (some (.inr (.inl ())))
noncomputable def impl_validPoints (list_0:(List S_Point)):Option Bool:=
 (loopO (impl_validPoints_l2 list_0) 0).bind fun o=>match o with
   | (.inl _)=>(some true)
   | (.inr r2)=>(some r2)
noncomputable def impl_side (a_0:S_Point) (b_1:S_Point) (c_2:S_Point):Option Int:=
 if (w64 ((w64 ((w64 (b_1.X - a_0.X)) * (w64 (c_2.Y - a_0.Y)))) - (w64 ((w64 (b_1.Y - a_0.Y)) * (w64 (c_2.X - a_0.X)))))) >0 then
  (some 1)
  else (if (w64 ((w64 ((w64 (b_1.X - a_0.X)) * (w64 (c_2.Y - a_0.Y)))) - (w64 ((w64 (b_1.Y - a_0.Y)) * (w64 (c_2.X - a_0.X)))))) <0 then
  (some (-1))
  else (some 0))
noncomputable def impl_on (a_0:S_Point) (b_1:S_Point) (p_2:S_Point):Option Bool:=
 (impl_side a_0 b_1 p_2).bind fun x10=>
   (if x10=0 then
   ((impl_within p_2.X (min2 a_0.X b_1.X) (max2 a_0.X b_1.X)).bind fun x25=>
   if x25=true then
   ((impl_within p_2.Y (min2 a_0.Y b_1.Y) (max2 a_0.Y b_1.Y)).bind fun x40=>
   some x40)
   else (some false))
   else (some false)).bind fun t_6_m1=>
   some t_6_m1
noncomputable def impl_crossing (a_0:S_Point) (b_1:S_Point) (c_2:S_Point) (d_3:S_Point):Option Bool:=
 (impl_side a_0 b_1 c_2).bind fun x12=>
   (impl_side a_0 b_1 d_3).bind fun x16=>
   (if (w64 (x12*x16)) <0 then
   ((impl_side c_2 d_3 a_0).bind fun x23=>
   (impl_side c_2 d_3 b_1).bind fun x27=>
   some (decide ((w64 (x23*x27)) <0)))
   else (some false)).bind fun t_8_m1=>
   some t_8_m1
noncomputable def impl_touching (a_0:S_Point) (b_1:S_Point) (c_2:S_Point) (d_3:S_Point):Option Bool:=
 (impl_crossing a_0 b_1 c_2 d_3).bind fun x13=>
   (if x13=true then
   (some true)
   else ((impl_on a_0 b_1 c_2).bind fun x18=>
   if x18=true then
   (some true)
   else ((impl_on a_0 b_1 d_3).bind fun x24=>
   if x24=true then
   (some true)
   else ((impl_on c_2 d_3 a_0).bind fun x30=>
   if x30=true then
   (some true)
   else ((impl_on c_2 d_3 b_1).bind fun x36=>
   some x36))))).bind fun t_8_m1=>
   some t_8_m1
noncomputable def impl_doubled_l3 (p_0:(List S_Point)) (s:(Int×Int)):Option ((Int×Int) ⊕ Int):=
 match s with
  | (sum_3_l3,t_9_l3)=>
  if t_9_l3< (p_0.length:Int) then
  ((rd p_0 t_9_l3).bind fun x12=>
  (md (w64 (t_9_l3+1)) (p_0.length:Int)).bind fun x19=>
  (rd p_0 x19).bind fun x20=>
  some (.inl ((w64 (sum_3_l3+(w64 ((w64 (x12.X*x20.Y)) - (w64 (x12.Y*x20.X)))))),(w64 (t_9_l3+1)))))
  else (some (.inr sum_3_l3))
noncomputable def impl_doubled (p_0:(List S_Point)):Option Int:=
 (loopO (impl_doubled_l3 p_0) (0,0)).bind fun sum_3_e0_3=>
   some sum_3_e0_3
noncomputable def impl_ValidPolygon_l11 (p_0:(List S_Point)) (t_24_l5:Int) (x29:S_Point) (x36:S_Point) (k_8_l11:Int):Option (Int ⊕ (Unit ⊕ Bool)):=
 if k_8_l11< (p_0.length:Int) then
  ((md (w64 (k_8_l11+1)) (p_0.length:Int)).bind fun x70=>
  (if x70≠t_24_l5 then
  ((rd p_0 k_8_l11).bind fun x78=>
  (md (w64 (k_8_l11+1)) (p_0.length:Int)).bind fun x84=>
  (rd p_0 x84).bind fun x85=>
  (impl_touching x29 x36 x78 x85).bind fun x87=>
  some x87)
  else (some false)).bind fun t_88_m13=>
  if t_88_m13=true then
  (some (.inr (.inr false)))
  else (some (.inl (w64 (k_8_l11+1)))))
  else (some (.inr (.inl ())))
noncomputable def impl_ValidPolygon_l5 (p_0:(List S_Point)) (t_24_l5:Int):Option (Int ⊕ (Unit ⊕ Bool)):=
 if t_24_l5< (p_0.length:Int) then
  ((rd p_0 t_24_l5).bind fun x29=>
  (md (w64 (t_24_l5+1)) (p_0.length:Int)).bind fun x35=>
  (rd p_0 x35).bind fun x36=>
  (md (w64 (t_24_l5+2)) (p_0.length:Int)).bind fun x42=>
  (rd p_0 x42).bind fun x43=>
  (if (x29.X=x36.X∧x29.Y=x36.Y) then
  (some true)
  else ((impl_on x29 x36 x43).bind fun x52=>
  if x52=true then
  (some true)
  else ((impl_on x36 x43 x29).bind fun x58=>
  some x58))).bind fun t_59_m8=>
  if t_59_m8=true then
  (some (.inr (.inr false)))
  else ((loopO (impl_ValidPolygon_l11 p_0 t_24_l5 x29 x36) (w64 (t_24_l5+2))).bind fun o=>match o with
  | (.inl _)=>(some (.inl (w64 (t_24_l5+1))))
  | (.inr r2)=>(some (.inr (.inr r2)))))
  else (some (.inr (.inl ())))
noncomputable def impl_ValidPolygon (p_0:(List S_Point)):Option Bool:=
 (if (p_0.length:Int) <3 then
   (some true)
   else (if (p_0.length:Int) >24 then
   (some true)
   else ((impl_validPoints p_0).bind fun x19=>
   some (!x19)))).bind fun t_21_m2=>
   if t_21_m2=true then
   (some false)
   else ((loopO (impl_ValidPolygon_l5 p_0) 0).bind fun o=>match o with
   | (.inl _)=>((impl_doubled p_0).bind fun x91=>
   some (decide (x91>0)))
   | (.inr r2)=>(some r2))
noncomputable def impl_ValidDrawing_l10 (d_0:S_Drawing) (t_65_l10:Int):Option (Int ⊕ (Unit ⊕ Bool)):=
 if t_65_l10< (d_0.Faces.length:Int) then
  ((rd d_0.Faces t_65_l10).bind fun x68=>
  (impl_IsName x68.Name).bind fun x72=>
  (if x72=true then
  (if t_65_l10>0 then
  ((rd d_0.Faces (w64 (t_65_l10 - 1))).bind fun x82=>
  some (!Op.bytesLess x82.Name.toList x68.Name.toList))
  else (some false))
  else (some true)).bind fun t_89_m12=>
  if t_89_m12=true then
  (some (.inr (.inr false)))
  else ((impl_ringPolygon d_0.Points x68.Ring).bind fun x95=>
  (if x95.2=true then
  ((impl_ValidPolygon x95.1).bind fun x102=>
  some (!x102))
  else (some true)).bind fun t_104_m15=>
  if t_104_m15=true then
  (some (.inr (.inr false)))
  else (some (.inl (w64 (t_65_l10+1))))))
  else (some (.inr (.inl ())))
noncomputable def impl_ValidDrawing_l4 (d_0:S_Drawing) (t_34_l4:Int):Option (Int ⊕ (Unit ⊕ Bool)):=
 if t_34_l4< (d_0.Points.length:Int) then
  ((rd d_0.Points t_34_l4).bind fun x37=>
  (impl_within x37.X 0 d_0.Width).bind fun x43=>
  (if x43=true then
  ((impl_within x37.Y 0 d_0.Height).bind fun x50=>
  if x50=true then
  ((slc d_0.Points 0 t_34_l4).bind fun x57=>
  (slices_Contains_impl_Point_impl_Point x57 x37).bind fun x59=>
  some x59)
  else (some true))
  else (some true)).bind fun t_60_m6=>
  if t_60_m6=true then
  (some (.inr (.inr false)))
  else (some (.inl (w64 (t_34_l4+1)))))
  else (some (.inr (.inl ())))
noncomputable def impl_ValidDrawing (d_0:S_Drawing):Option Bool:=
 (impl_within d_0.Width 10 20000).bind fun x11=>
   (if x11=true then
   ((impl_within d_0.Height 10 20000).bind fun x16=>
   if x16=true then
   (if (d_0.Points.length:Int) >48 then
   (some true)
   else (some (decide ((d_0.Faces.length:Int) >24))))
   else (some true))
   else (some true)).bind fun t_30_m1=>
   if t_30_m1=true then
   (some false)
   else ((loopO (impl_ValidDrawing_l4 d_0) 0).bind fun o=>match o with
   | (.inl _)=>((loopO (impl_ValidDrawing_l10 d_0) 0).bind fun o=>match o with
   | (.inl _)=>(some true)
   | (.inr r2)=>(some r2))
   | (.inr r2)=>(some r2))
noncomputable def impl_SpeciesData (name_0:ByteArray):Option (Int×Int×Int×Int):=
 if name_0=(⟨#[97,115,104]⟩:ByteArray) then
  (some (20,40,310,0))
  else (if name_0=(⟨#[98,101,101,99,104]⟩:ByteArray) then
  (some (35,45,410,0))
  else (if name_0=(⟨#[98,105,114,99,104]⟩:ByteArray) then
  (some (15,33,280,0))
  else (if name_0=(⟨#[99,104,101,114,114,121]⟩:ByteArray) then
  (some (50,36,240,0))
  else (if name_0=(⟨#[101,98,111,110,121]⟩:ByteArray) then
  (some (95,85,270,0))
  else (if name_0=(⟨#[104,111,108,108,121]⟩:ByteArray) then
  (some (5,35,370,0))
  else (if name_0=(⟨#[109,97,112,108,101]⟩:ByteArray) then
  (some (10,42,290,0))
  else (if name_0=(⟨#[111,97,107]⟩:ByteArray) then
  (some (40,40,330,0))
  else (if name_0=(⟨#[114,111,115,101,119,111,111,100]⟩:ByteArray) then
  (some (80,60,220,0))
  else (if name_0=(⟨#[119,97,108,110,117,116]⟩:ByteArray) then
  (some (70,38,260,0))
  else (some (0,0,0,3)))))))))))
noncomputable def impl_speciesShade (name_0:ByteArray):Option (Int×Bool):=
 (impl_SpeciesData name_0).bind fun x10=>
   some (x10.1,(x10.2.2.2==0))
noncomputable def impl_ValidVeneer (v_0:S_Veneer):Option Bool:=
 (impl_speciesShade v_0.Species).bind fun x8=>
   (if x8.2=true then
   ((impl_within v_0.Shade 0 100).bind fun x15=>
   if x15=true then
   ((impl_within (w64 (v_0.Shade - x8.1)) (-15) 15).bind fun x22=>
   if x22=true then
   ((impl_within v_0.Grain 0 179).bind fun x27=>
   some x27)
   else (some false))
   else (some false))
   else (some false)).bind fun t_2_m2=>
   some t_2_m2
noncomputable def impl_validVeneers_c1 (v_0:S_Veneer):Option Bool:=
 (impl_ValidVeneer v_0).bind fun x4=>
   some (!x4)
noncomputable def slices_IndexFunc_impl_Veneer_impl_Veneer_l2 (f_1:(S_Veneer→Option Bool)) (s_0:(List S_Veneer)) (t_8_l2:Int):Option (Int ⊕ (Unit ⊕ Int)):=
 if t_8_l2< (s_0.length:Int) then
  ((rd s_0 t_8_l2).bind fun x14=>
  (f_1 x14).bind fun x16=>
  if x16=true then
  (some (.inr (.inr t_8_l2)))
  else (some (.inl (w64 (t_8_l2+1)))))
  else (some (.inr (.inl ())))
noncomputable def slices_IndexFunc_impl_Veneer_impl_Veneer (s_0:(List S_Veneer)) (f_1:(S_Veneer→Option Bool)):Option Int:=
 (loopO (slices_IndexFunc_impl_Veneer_impl_Veneer_l2 f_1 s_0) 0).bind fun o=>match o with
   | (.inl _)=>(some (-1))
   | (.inr r2)=>(some r2)
noncomputable def slices_ContainsFunc_impl_Veneer_impl_Veneer (s_0:(List S_Veneer)) (f_1:(S_Veneer→Option Bool)):Option Bool:=
 (slices_IndexFunc_impl_Veneer_impl_Veneer s_0 f_1).bind fun x7=>
   some (decide (x7≥0))
noncomputable def impl_validVeneers (list_0:(List S_Veneer)):Option Bool:=
 (slices_ContainsFunc_impl_Veneer_impl_Veneer list_0 (fun a0=>impl_validVeneers_c1 a0)).bind fun x4=>
   some (!x4)
noncomputable def impl_ValidPicture (p_0:S_Picture):Option Bool:=
 (impl_ValidDrawing p_0.Drawing).bind fun x5=>
   (if x5=true then
   (if (p_0.Veneers.length:Int)=(p_0.Drawing.Faces.length:Int) then
   ((impl_validVeneers p_0.Veneers).bind fun x19=>
   some x19)
   else (some false))
   else (some false)).bind fun t_2_m1=>
   some t_2_m1
noncomputable def impl_boxWithin (b_0:S_Box) (width_1:Int) (length_2:Int):Option Bool:=
 (impl_within b_0.X 0 width_1).bind fun x10=>
   (if x10=true then
   ((impl_within b_0.Y 0 length_2).bind fun x15=>
   if x15=true then
   ((impl_within b_0.Width 1 (w64 (width_1 - b_0.X))).bind fun x24=>
   if x24=true then
   ((impl_within b_0.Length 1 (w64 (length_2 - b_0.Y))).bind fun x33=>
   some x33)
   else (some false))
   else (some false))
   else (some false)).bind fun t_6_m1=>
   some t_6_m1
noncomputable def impl_ValidLeaf_c1 (b_0:S_Box) (cap0_0:ByteArray) (cap0_1:ByteArray) (cap0_2:Int) (cap0_3:ByteArray) (cap0_4:Int) (cap0_5:Int) (cap0_6:Int) (cap0_7:Int) (cap0_8:(List S_Box)):Option Bool:=
 (impl_boxWithin b_0 cap0_6 cap0_7).bind fun x9=>
   some (!x9)
noncomputable def slices_IndexFunc_impl_Box_impl_Box_l2 (f_1:(S_Box→Option Bool)) (s_0:(List S_Box)) (t_8_l2:Int):Option (Int ⊕ (Unit ⊕ Int)):=
 if t_8_l2< (s_0.length:Int) then
  ((rd s_0 t_8_l2).bind fun x14=>
  (f_1 x14).bind fun x16=>
  if x16=true then
  (some (.inr (.inr t_8_l2)))
  else (some (.inl (w64 (t_8_l2+1)))))
  else (some (.inr (.inl ())))
noncomputable def slices_IndexFunc_impl_Box_impl_Box (s_0:(List S_Box)) (f_1:(S_Box→Option Bool)):Option Int:=
 (loopO (slices_IndexFunc_impl_Box_impl_Box_l2 f_1 s_0) 0).bind fun o=>match o with
   | (.inl _)=>(some (-1))
   | (.inr r2)=>(some r2)
noncomputable def slices_ContainsFunc_impl_Box_impl_Box (s_0:(List S_Box)) (f_1:(S_Box→Option Bool)):Option Bool:=
 (slices_IndexFunc_impl_Box_impl_Box s_0 f_1).bind fun x7=>
   some (decide (x7≥0))
noncomputable def impl_ValidLeaf (l_0:S_Leaf):Option Bool:=
 (impl_IsName l_0.Id).bind fun x5=>
   (if x5=true then
   ((impl_IsName l_0.Flitch).bind fun x10=>
   if x10=true then
   ((impl_within l_0.Number 0 999).bind fun x16=>
   if x16=true then
   ((impl_ValidVeneer l_0.Veneer).bind fun x22=>
   some (!x22))
   else (some true))
   else (some true))
   else (some true)).bind fun t_24_m1=>
   if t_24_m1=true then
   (some false)
   else ((impl_within l_0.Width 10 20000).bind fun x27=>
   (if x27=true then
   ((impl_within l_0.Length 10 20000).bind fun x32=>
   if x32=true then
   (some (decide ((l_0.Defects.length:Int) >6)))
   else (some true))
   else (some true)).bind fun t_40_m3=>
   if t_40_m3=true then
   (some false)
   else ((slices_ContainsFunc_impl_Box_impl_Box l_0.Defects (fun a0=>impl_ValidLeaf_c1 a0 l_0.Id l_0.Flitch l_0.Number l_0.Veneer.Species l_0.Veneer.Shade l_0.Veneer.Grain l_0.Width l_0.Length l_0.Defects)).bind fun x44=>
   some (!x44)))
noncomputable def impl_ValidLeaves_l2 (list_0:(List S_Leaf)) (t_7_l2:Int):Option (Int ⊕ (Unit ⊕ Bool)):=
 if t_7_l2< (list_0.length:Int) then
  ((rd list_0 t_7_l2).bind fun x10=>
  (impl_ValidLeaf x10).bind fun x13=>
  (if x13=true then
  (if t_7_l2>0 then
  ((rd list_0 (w64 (t_7_l2 - 1))).bind fun x22=>
  some (!Op.bytesLess x22.Id.toList x10.Id.toList))
  else (some false))
  else (some true)).bind fun t_29_m4=>
  if t_29_m4=true then
  (some (.inr (.inr false)))
  else (some (.inl (w64 (t_7_l2+1)))))
  else (some (.inr (.inl ())))
noncomputable def impl_ValidLeaves (list_0:(List S_Leaf)):Option Bool:=
 (loopO (impl_ValidLeaves_l2 list_0) 0).bind fun o=>match o with
   | (.inl _)=>(some (decide ((list_0.length:Int)≤16)))
   | (.inr r2)=>(some r2)
noncomputable def impl_validPlacement (p_0:S_Placement):Option Bool:=
 (impl_within p_0.Face 0 23).bind fun x5=>
   (if x5=true then
   ((impl_within p_0.Leaf 0 15).bind fun x9=>
   if x9=true then
   ((impl_within p_0.X 0 20000).bind fun x14=>
   if x14=true then
   ((impl_within p_0.Y 0 20000).bind fun x19=>
   if x19=true then
   ((impl_within p_0.Turn 0 7).bind fun x24=>
   some x24)
   else (some false))
   else (some false))
   else (some false))
   else (some false)).bind fun t_2_m1=>
   some t_2_m1
noncomputable def impl_ValidPlacements_l2 (list_0:(List S_Placement)) (t_7_l2:Int):Option (Int ⊕ (Unit ⊕ Bool)):=
 if t_7_l2< (list_0.length:Int) then
  ((rd list_0 t_7_l2).bind fun x10=>
  (impl_validPlacement x10).bind fun x13=>
  (if x13=true then
  (if t_7_l2>0 then
  ((rd list_0 (w64 (t_7_l2 - 1))).bind fun x22=>
  some (decide (x22.Face≥x10.Face)))
  else (some false))
  else (some true)).bind fun t_29_m4=>
  if t_29_m4=true then
  (some (.inr (.inr false)))
  else (some (.inl (w64 (t_7_l2+1)))))
  else (some (.inr (.inl ())))
noncomputable def impl_ValidPlacements (list_0:(List S_Placement)):Option Bool:=
 (loopO (impl_ValidPlacements_l2 list_0) 0).bind fun o=>match o with
   | (.inl _)=>(some (decide ((list_0.length:Int)≤24)))
   | (.inr r2)=>(some r2)
noncomputable def impl_ValidRules (r_0:S_Rules):Option Bool:=
 (impl_within r_0.Spacing 0 500).bind fun x5=>
   (if x5=true then
   ((impl_within r_0.Margin 0 500).bind fun x9=>
   if x9=true then
   ((impl_within r_0.Angle 0 90).bind fun x14=>
   if x14=true then
   ((impl_within r_0.Shade 0 100).bind fun x19=>
   some x19)
   else (some false))
   else (some false))
   else (some false)).bind fun t_2_m1=>
   some t_2_m1
noncomputable def slices_Index_int64_int64_l2 (s_0:(List Int)) (v_1:Int) (t_8_l2:Int):Option (Int ⊕ (Unit ⊕ Int)):=
 if t_8_l2< (s_0.length:Int) then
  ((rd s_0 t_8_l2).bind fun x14=>
  if v_1=x14 then
  (some (.inr (.inr t_8_l2)))
  else (some (.inl (w64 (t_8_l2+1)))))
  else (some (.inr (.inl ())))
noncomputable def slices_Index_int64_int64 (s_0:(List Int)) (v_1:Int):Option Int:=
 (loopO (slices_Index_int64_int64_l2 s_0 v_1) 0).bind fun o=>match o with
   | (.inl _)=>(some (-1))
   | (.inr r2)=>(some r2)
noncomputable def slices_Contains_int64_int64 (s_0:(List Int)) (v_1:Int):Option Bool:=
 (slices_Index_int64_int64 s_0 v_1).bind fun x7=>
   some (decide (x7≥0))
noncomputable def impl_isFaceOrder_l2 (list_0:(List Int)) (n_1:Int) (t_9_l2:Int):Option (Int ⊕ (Unit ⊕ Bool)):=
 if t_9_l2< (list_0.length:Int) then
  ((rd list_0 t_9_l2).bind fun x12=>
  (impl_within x12 0 (w64 (n_1 - 1))).bind fun x17=>
  (if x17=true then
  ((slc list_0 0 t_9_l2).bind fun x22=>
  (slices_Contains_int64_int64 x22 x12).bind fun x24=>
  some x24)
  else (some true)).bind fun t_25_m4=>
  if t_25_m4=true then
  (some (.inr (.inr false)))
  else (some (.inl (w64 (t_9_l2+1)))))
  else (some (.inr (.inl ())))
noncomputable def impl_isFaceOrder (list_0:(List Int)) (n_1:Int):Option Bool:=
 (loopO (impl_isFaceOrder_l2 list_0 n_1) 0).bind fun o=>match o with
   | (.inl _)=>(some true)
   | (.inr r2)=>(some r2)
noncomputable def impl_ValidJob (j_0:S_Job):Option Bool:=
 (impl_ValidPicture j_0.Picture).bind fun x7=>
   (if x7=true then
   ((impl_ValidLeaves j_0.Leaves).bind fun x12=>
   if x12=true then
   ((impl_ValidPlacements j_0.Placements).bind fun x18=>
   if x18=true then
   ((impl_ValidRules j_0.Rules).bind fun x24=>
   some (!x24))
   else (some true))
   else (some true))
   else (some true)).bind fun t_26_m1=>
   if t_26_m1=true then
   (some false)
   else ((if (j_0.Placements.length:Int) >0 then
   ((rd j_0.Placements (w64 ((j_0.Placements.length:Int) - 1))).bind fun x41=>
   some (decide (x41.Face≥(j_0.Picture.Veneers.length:Int))))
   else (some false)).bind fun t_46_m5=>
   if t_46_m5=true then
   (some false)
   else ((impl_within j_0.Thickness 1 1000).bind fun x49=>
   (if x49=true then
   ((impl_within j_0.Kerf 0 200).bind fun x53=>
   if x53=true then
   ((impl_within j_0.Bevel 0 30).bind fun x58=>
   if x58=true then
   ((impl_within j_0.Gap 0 200).bind fun x63=>
   if x63=true then
   ((impl_isFaceOrder j_0.Order (j_0.Picture.Veneers.length:Int)).bind fun x69=>
   some x69)
   else (some false))
   else (some false))
   else (some false))
   else (some false)).bind fun t_2_m7=>
   some t_2_m7))
noncomputable def impl_ValidBond (b_0:S_Bond):Option Bool:=
 (impl_IsName b_0.Name).bind fun x5=>
   (if x5=true then
   ((impl_within b_0.Spread 1 120).bind fun x9=>
   if x9=true then
   ((impl_within b_0.Open b_0.Spread 240).bind fun x16=>
   if x16=true then
   ((impl_within b_0.Press 1 1440).bind fun x21=>
   some x21)
   else (some false))
   else (some false))
   else (some false)).bind fun t_2_m1=>
   some t_2_m1
noncomputable def impl_ValidBonds_l2 (list_0:(List S_Bond)) (t_7_l2:Int):Option (Int ⊕ (Unit ⊕ Bool)):=
 if t_7_l2< (list_0.length:Int) then
  ((rd list_0 t_7_l2).bind fun x10=>
  (impl_ValidBond x10).bind fun x13=>
  (if x13=true then
  (if t_7_l2>0 then
  ((rd list_0 (w64 (t_7_l2 - 1))).bind fun x22=>
  some (!Op.bytesLess x22.Name.toList x10.Name.toList))
  else (some false))
  else (some true)).bind fun t_29_m4=>
  if t_29_m4=true then
  (some (.inr (.inr false)))
  else (some (.inl (w64 (t_7_l2+1)))))
  else (some (.inr (.inl ())))
noncomputable def impl_ValidBonds (list_0:(List S_Bond)):Option Bool:=
 (loopO (impl_ValidBonds_l2 list_0) 0).bind fun o=>match o with
   | (.inl _)=>(some (decide ((list_0.length:Int)≤12)))
   | (.inr r2)=>(some r2)
noncomputable def impl_ValidCoat (c_0:S_Coat):Option Bool:=
 (impl_IsName c_0.Name).bind fun x5=>
   (if x5=true then
   ((impl_within c_0.Work 1 32).bind fun x9=>
   if x9=true then
   ((impl_within c_0.Dry 0 400).bind fun x14=>
   if x14=true then
   ((impl_within c_0.Wait c_0.Dry 800).bind fun x21=>
   some x21)
   else (some false))
   else (some false))
   else (some false)).bind fun t_2_m1=>
   some t_2_m1
noncomputable def impl_ValidCoats_c1 (c_0:S_Coat):Option Bool:=
 (impl_ValidCoat c_0).bind fun x4=>
   some (!x4)
noncomputable def slices_IndexFunc_impl_Coat_impl_Coat_l2 (f_1:(S_Coat→Option Bool)) (s_0:(List S_Coat)) (t_8_l2:Int):Option (Int ⊕ (Unit ⊕ Int)):=
 if t_8_l2< (s_0.length:Int) then
  ((rd s_0 t_8_l2).bind fun x14=>
  (f_1 x14).bind fun x16=>
  if x16=true then
  (some (.inr (.inr t_8_l2)))
  else (some (.inl (w64 (t_8_l2+1)))))
  else (some (.inr (.inl ())))
noncomputable def slices_IndexFunc_impl_Coat_impl_Coat (s_0:(List S_Coat)) (f_1:(S_Coat→Option Bool)):Option Int:=
 (loopO (slices_IndexFunc_impl_Coat_impl_Coat_l2 f_1 s_0) 0).bind fun o=>match o with
   | (.inl _)=>(some (-1))
   | (.inr r2)=>(some r2)
noncomputable def slices_ContainsFunc_impl_Coat_impl_Coat (s_0:(List S_Coat)) (f_1:(S_Coat→Option Bool)):Option Bool:=
 (slices_IndexFunc_impl_Coat_impl_Coat s_0 f_1).bind fun x7=>
   some (decide (x7≥0))
noncomputable def impl_ValidCoats (list_0:(List S_Coat)):Option Bool:=
 (if (list_0.length:Int)≤8 then
   ((slices_ContainsFunc_impl_Coat_impl_Coat list_0 (fun a0=>impl_ValidCoats_c1 a0)).bind fun x8=>
   some (!x8))
   else (some false)).bind fun t_2_m1=>
   some t_2_m1
noncomputable def impl_ValidRates (r_0:S_Rates):Option Bool:=
 (impl_within r_0.Hour 0 100000).bind fun x5=>
   (if x5=true then
   ((impl_within r_0.Edge 0 1000).bind fun x9=>
   if x9=true then
   ((impl_within r_0.Face 0 1000).bind fun x14=>
   if x14=true then
   ((impl_within r_0.Waste 0 300).bind fun x19=>
   if x19=true then
   ((impl_within r_0.Margin 0 200).bind fun x24=>
   some x24)
   else (some false))
   else (some false))
   else (some false))
   else (some false)).bind fun t_2_m1=>
   some t_2_m1
noncomputable def impl_ValidDesk (d_0:S_Desk):Option Bool:=
 (impl_ValidJob d_0.Job).bind fun x5=>
   (if x5=true then
   ((impl_ValidBonds d_0.Bonds).bind fun x9=>
   if x9=true then
   ((impl_ValidCoats d_0.Coats).bind fun x14=>
   if x14=true then
   ((impl_ValidRates d_0.Rates).bind fun x19=>
   some x19)
   else (some false))
   else (some false))
   else (some false)).bind fun t_2_m1=>
   some t_2_m1
noncomputable def laws_eqPoint (a_0:S_Point) (b_1:S_Point):Option Bool:=
 if a_0.X≠b_1.X then
  (some false)
  else (if a_0.Y≠b_1.Y then
  (some false)
  else (some true))
noncomputable def laws_eqPointS_l4 (a_0:(List S_Point)) (b_1:(List S_Point)) (i_5_l4:Int):Option (Int ⊕ (Unit ⊕ Bool)):=
 if i_5_l4< (a_0.length:Int) then
  ((rd a_0 i_5_l4).bind fun x19=>
  (rd b_1 i_5_l4).bind fun x23=>
  (laws_eqPoint x19 x23).bind fun x25=>
  if x25=true then
  (some (.inl (w64 (i_5_l4+1))))
  else (some (.inr (.inr false))))
  else (some (.inr (.inl ())))
noncomputable def laws_eqPointS (a_0:(List S_Point)) (b_1:(List S_Point)):Option Bool:=
 if (a_0.length:Int)≠(b_1.length:Int) then
  (some false)
  else ((loopO (laws_eqPointS_l4 a_0 b_1) 0).bind fun o=>match o with
  | (.inl _)=>(some true)
  | (.inr r2)=>(some r2))
noncomputable def laws_eqInt64S_l4 (a_0:(List Int)) (b_1:(List Int)) (i_5_l4:Int):Option (Int ⊕ (Unit ⊕ Bool)):=
 if i_5_l4< (a_0.length:Int) then
  ((rd a_0 i_5_l4).bind fun x19=>
  (rd b_1 i_5_l4).bind fun x23=>
  if x19≠x23 then
  (some (.inr (.inr false)))
  else (some (.inl (w64 (i_5_l4+1)))))
  else (some (.inr (.inl ())))
noncomputable def laws_eqInt64S (a_0:(List Int)) (b_1:(List Int)):Option Bool:=
 if (a_0.length:Int)≠(b_1.length:Int) then
  (some false)
  else ((loopO (laws_eqInt64S_l4 a_0 b_1) 0).bind fun o=>match o with
  | (.inl _)=>(some true)
  | (.inr r2)=>(some r2))
noncomputable def laws_eqFace (a_0:S_Face) (b_1:S_Face):Option Bool:=
 if ¬(a_0.Name=b_1.Name) then
  (some false)
  else ((laws_eqInt64S a_0.Ring b_1.Ring).bind fun x14=>
  if x14=true then
  (some true)
  else (some false))
noncomputable def laws_eqFaceS_l4 (a_0:(List S_Face)) (b_1:(List S_Face)) (i_5_l4:Int):Option (Int ⊕ (Unit ⊕ Bool)):=
 if i_5_l4< (a_0.length:Int) then
  ((rd a_0 i_5_l4).bind fun x19=>
  (rd b_1 i_5_l4).bind fun x23=>
  (laws_eqFace x19 x23).bind fun x25=>
  if x25=true then
  (some (.inl (w64 (i_5_l4+1))))
  else (some (.inr (.inr false))))
  else (some (.inr (.inl ())))
noncomputable def laws_eqFaceS (a_0:(List S_Face)) (b_1:(List S_Face)):Option Bool:=
 if (a_0.length:Int)≠(b_1.length:Int) then
  (some false)
  else ((loopO (laws_eqFaceS_l4 a_0 b_1) 0).bind fun o=>match o with
  | (.inl _)=>(some true)
  | (.inr r2)=>(some r2))
noncomputable def laws_eqDrawing (a_0:S_Drawing) (b_1:S_Drawing):Option Bool:=
 if a_0.Width≠b_1.Width then
  (some false)
  else (if a_0.Height≠b_1.Height then
  (some false)
  else ((laws_eqPointS a_0.Points b_1.Points).bind fun x19=>
  if x19=true then
  ((laws_eqFaceS a_0.Faces b_1.Faces).bind fun x25=>
  if x25=true then
  (some true)
  else (some false))
  else (some false)))
noncomputable def laws_eqVeneer (a_0:S_Veneer) (b_1:S_Veneer):Option Bool:=
 if ¬(a_0.Species=b_1.Species) then
  (some false)
  else (if a_0.Shade≠b_1.Shade then
  (some false)
  else (if a_0.Grain≠b_1.Grain then
  (some false)
  else (some true)))
noncomputable def laws_eqVeneerS_l4 (a_0:(List S_Veneer)) (b_1:(List S_Veneer)) (i_5_l4:Int):Option (Int ⊕ (Unit ⊕ Bool)):=
 if i_5_l4< (a_0.length:Int) then
  ((rd a_0 i_5_l4).bind fun x19=>
  (rd b_1 i_5_l4).bind fun x23=>
  (laws_eqVeneer x19 x23).bind fun x25=>
  if x25=true then
  (some (.inl (w64 (i_5_l4+1))))
  else (some (.inr (.inr false))))
  else (some (.inr (.inl ())))
noncomputable def laws_eqVeneerS (a_0:(List S_Veneer)) (b_1:(List S_Veneer)):Option Bool:=
 if (a_0.length:Int)≠(b_1.length:Int) then
  (some false)
  else ((loopO (laws_eqVeneerS_l4 a_0 b_1) 0).bind fun o=>match o with
  | (.inl _)=>(some true)
  | (.inr r2)=>(some r2))
noncomputable def laws_eqPicture (a_0:S_Picture) (b_1:S_Picture):Option Bool:=
 (laws_eqDrawing a_0.Drawing b_1.Drawing).bind fun x9=>
   if x9=true then
   ((laws_eqVeneerS a_0.Veneers b_1.Veneers).bind fun x15=>
   if x15=true then
   (some true)
   else (some false))
   else (some false)
noncomputable def laws_eqBox (a_0:S_Box) (b_1:S_Box):Option Bool:=
 if a_0.X≠b_1.X then
  (some false)
  else (if a_0.Y≠b_1.Y then
  (some false)
  else (if a_0.Width≠b_1.Width then
  (some false)
  else (if a_0.Length≠b_1.Length then
  (some false)
  else (some true))))
noncomputable def laws_eqBoxS_l4 (a_0:(List S_Box)) (b_1:(List S_Box)) (i_5_l4:Int):Option (Int ⊕ (Unit ⊕ Bool)):=
 if i_5_l4< (a_0.length:Int) then
  ((rd a_0 i_5_l4).bind fun x19=>
  (rd b_1 i_5_l4).bind fun x23=>
  (laws_eqBox x19 x23).bind fun x25=>
  if x25=true then
  (some (.inl (w64 (i_5_l4+1))))
  else (some (.inr (.inr false))))
  else (some (.inr (.inl ())))
noncomputable def laws_eqBoxS (a_0:(List S_Box)) (b_1:(List S_Box)):Option Bool:=
 if (a_0.length:Int)≠(b_1.length:Int) then
  (some false)
  else ((loopO (laws_eqBoxS_l4 a_0 b_1) 0).bind fun o=>match o with
  | (.inl _)=>(some true)
  | (.inr r2)=>(some r2))
noncomputable def laws_eqLeaf (a_0:S_Leaf) (b_1:S_Leaf):Option Bool:=
 if ¬(a_0.Id=b_1.Id) then
  (some false)
  else (if ¬(a_0.Flitch=b_1.Flitch) then
  (some false)
  else (if a_0.Number≠b_1.Number then
  (some false)
  else ((laws_eqVeneer a_0.Veneer b_1.Veneer).bind fun x24=>
  if x24=true then
  (if a_0.Width≠b_1.Width then
  (some false)
  else (if a_0.Length≠b_1.Length then
  (some false)
  else ((laws_eqBoxS a_0.Defects b_1.Defects).bind fun x40=>
  if x40=true then
  (some true)
  else (some false))))
  else (some false))))
noncomputable def laws_eqLeafS_l4 (a_0:(List S_Leaf)) (b_1:(List S_Leaf)) (i_5_l4:Int):Option (Int ⊕ (Unit ⊕ Bool)):=
 if i_5_l4< (a_0.length:Int) then
  ((rd a_0 i_5_l4).bind fun x19=>
  (rd b_1 i_5_l4).bind fun x23=>
  (laws_eqLeaf x19 x23).bind fun x25=>
  if x25=true then
  (some (.inl (w64 (i_5_l4+1))))
  else (some (.inr (.inr false))))
  else (some (.inr (.inl ())))
noncomputable def laws_eqLeafS (a_0:(List S_Leaf)) (b_1:(List S_Leaf)):Option Bool:=
 if (a_0.length:Int)≠(b_1.length:Int) then
  (some false)
  else ((loopO (laws_eqLeafS_l4 a_0 b_1) 0).bind fun o=>match o with
  | (.inl _)=>(some true)
  | (.inr r2)=>(some r2))
noncomputable def laws_eqPlacement (a_0:S_Placement) (b_1:S_Placement):Option Bool:=
 if a_0.Face≠b_1.Face then
  (some false)
  else (if a_0.Leaf≠b_1.Leaf then
  (some false)
  else (if a_0.X≠b_1.X then
  (some false)
  else (if a_0.Y≠b_1.Y then
  (some false)
  else (if a_0.Turn≠b_1.Turn then
  (some false)
  else (some true)))))
noncomputable def laws_eqPlacementS_l4 (a_0:(List S_Placement)) (b_1:(List S_Placement)) (i_5_l4:Int):Option (Int ⊕ (Unit ⊕ Bool)):=
 if i_5_l4< (a_0.length:Int) then
  ((rd a_0 i_5_l4).bind fun x19=>
  (rd b_1 i_5_l4).bind fun x23=>
  (laws_eqPlacement x19 x23).bind fun x25=>
  if x25=true then
  (some (.inl (w64 (i_5_l4+1))))
  else (some (.inr (.inr false))))
  else (some (.inr (.inl ())))
noncomputable def laws_eqPlacementS (a_0:(List S_Placement)) (b_1:(List S_Placement)):Option Bool:=
 if (a_0.length:Int)≠(b_1.length:Int) then
  (some false)
  else ((loopO (laws_eqPlacementS_l4 a_0 b_1) 0).bind fun o=>match o with
  | (.inl _)=>(some true)
  | (.inr r2)=>(some r2))
noncomputable def laws_eqRules (a_0:S_Rules) (b_1:S_Rules):Option Bool:=
 if a_0.Spacing≠b_1.Spacing then
  (some false)
  else (if a_0.Margin≠b_1.Margin then
  (some false)
  else (if a_0.Angle≠b_1.Angle then
  (some false)
  else (if a_0.Shade≠b_1.Shade then
  (some false)
  else (some true))))
noncomputable def laws_eqJob (a_0:S_Job) (b_1:S_Job):Option Bool:=
 (laws_eqPicture a_0.Picture b_1.Picture).bind fun x9=>
   if x9=true then
   ((laws_eqLeafS a_0.Leaves b_1.Leaves).bind fun x15=>
   if x15=true then
   ((laws_eqPlacementS a_0.Placements b_1.Placements).bind fun x21=>
   if x21=true then
   ((laws_eqRules a_0.Rules b_1.Rules).bind fun x27=>
   if x27=true then
   (if a_0.Thickness≠b_1.Thickness then
   (some false)
   else (if a_0.Kerf≠b_1.Kerf then
   (some false)
   else (if a_0.Bevel≠b_1.Bevel then
   (some false)
   else (if a_0.Gap≠b_1.Gap then
   (some false)
   else ((laws_eqInt64S a_0.Order b_1.Order).bind fun x53=>
   if x53=true then
   ((laws_eqInt64S a_0.Cuts b_1.Cuts).bind fun x59=>
   if x59=true then
   (some true)
   else (some false))
   else (some false))))))
   else (some false))
   else (some false))
   else (some false))
   else (some false)
noncomputable def laws_eqBond (a_0:S_Bond) (b_1:S_Bond):Option Bool:=
 if ¬(a_0.Name=b_1.Name) then
  (some false)
  else (if a_0.Spread≠b_1.Spread then
  (some false)
  else (if a_0.Open≠b_1.Open then
  (some false)
  else (if a_0.Press≠b_1.Press then
  (some false)
  else (some true))))
noncomputable def laws_eqBondS_l4 (a_0:(List S_Bond)) (b_1:(List S_Bond)) (i_5_l4:Int):Option (Int ⊕ (Unit ⊕ Bool)):=
 if i_5_l4< (a_0.length:Int) then
  ((rd a_0 i_5_l4).bind fun x19=>
  (rd b_1 i_5_l4).bind fun x23=>
  (laws_eqBond x19 x23).bind fun x25=>
  if x25=true then
  (some (.inl (w64 (i_5_l4+1))))
  else (some (.inr (.inr false))))
  else (some (.inr (.inl ())))
noncomputable def laws_eqBondS (a_0:(List S_Bond)) (b_1:(List S_Bond)):Option Bool:=
 if (a_0.length:Int)≠(b_1.length:Int) then
  (some false)
  else ((loopO (laws_eqBondS_l4 a_0 b_1) 0).bind fun o=>match o with
  | (.inl _)=>(some true)
  | (.inr r2)=>(some r2))
noncomputable def laws_eqCoat (a_0:S_Coat) (b_1:S_Coat):Option Bool:=
 if ¬(a_0.Name=b_1.Name) then
  (some false)
  else (if a_0.Work≠b_1.Work then
  (some false)
  else (if a_0.Dry≠b_1.Dry then
  (some false)
  else (if a_0.Wait≠b_1.Wait then
  (some false)
  else (some true))))
noncomputable def laws_eqCoatS_l4 (a_0:(List S_Coat)) (b_1:(List S_Coat)) (i_5_l4:Int):Option (Int ⊕ (Unit ⊕ Bool)):=
 if i_5_l4< (a_0.length:Int) then
  ((rd a_0 i_5_l4).bind fun x19=>
  (rd b_1 i_5_l4).bind fun x23=>
  (laws_eqCoat x19 x23).bind fun x25=>
  if x25=true then
  (some (.inl (w64 (i_5_l4+1))))
  else (some (.inr (.inr false))))
  else (some (.inr (.inl ())))
noncomputable def laws_eqCoatS (a_0:(List S_Coat)) (b_1:(List S_Coat)):Option Bool:=
 if (a_0.length:Int)≠(b_1.length:Int) then
  (some false)
  else ((loopO (laws_eqCoatS_l4 a_0 b_1) 0).bind fun o=>match o with
  | (.inl _)=>(some true)
  | (.inr r2)=>(some r2))
noncomputable def laws_eqRates (a_0:S_Rates) (b_1:S_Rates):Option Bool:=
 if a_0.Hour≠b_1.Hour then
  (some false)
  else (if a_0.Edge≠b_1.Edge then
  (some false)
  else (if a_0.Face≠b_1.Face then
  (some false)
  else (if a_0.Waste≠b_1.Waste then
  (some false)
  else (if a_0.Margin≠b_1.Margin then
  (some false)
  else (some true)))))
noncomputable def laws_eqDesk (a_0:S_Desk) (b_1:S_Desk):Option Bool:=
 (laws_eqJob a_0.Job b_1.Job).bind fun x9=>
   if x9=true then
   ((laws_eqBondS a_0.Bonds b_1.Bonds).bind fun x15=>
   if x15=true then
   ((laws_eqCoatS a_0.Coats b_1.Coats).bind fun x21=>
   if x21=true then
   ((laws_eqRates a_0.Rates b_1.Rates).bind fun x27=>
   if x27=true then
   (some true)
   else (some false))
   else (some false))
   else (some false))
   else (some false)
noncomputable def laws_FnExactValidDesk (aD_0:S_Desk):Option Bool:=
 (laws_szDesk aD_0 1048576).bind fun x9=>
   if x9<0 then
   (some true)
   else ((laws_toDesk aD_0).bind fun x13=>
   (spec_ValidDesk x13).bind fun x14=>
   (laws_toDesk aD_0).bind fun x16=>
   (impl_ValidDesk x16).bind fun x18=>
   if x18=x14 then
   ((laws_toDesk aD_0).bind fun x24=>
   (laws_eqDesk x16 x24).bind fun x25=>
   if x25=true then
   (some true)
   else (some false))
   else (some false))
end Go.Pw
