/- Plain functions that answer what the program's functions answer. Conditions: none; definitions alone. -/
import Derived.Test.YteglmkbkjaeijaaSimPw
namespace Go.Pw
open Go.Sim (min2 max2)
set_option linter.unusedVariables false

structure S_Finding where
  Kind : Int
  Who : ByteArray
  What : ByteArray

noncomputable def laws_szFinding (a_0 : S_Finding) (left_1 : Int) : Option Int :=
  if (w64 (left_1 - (a_0.Who.size : Int))) < 0 then
    (some (-1))
    else (if (w64 ((w64 (left_1 - (a_0.Who.size : Int))) - (a_0.What.size : Int))) < 0 then
    (some (-1))
    else (some (w64 ((w64 (left_1 - (a_0.Who.size : Int))) - (a_0.What.size : Int)))))
noncomputable def laws_szFindingS_l5 (a_0 : (List S_Finding)) (s : (Int × Int)) : Option ((Int × Int) ⊕ (Int ⊕ Int)) :=
  match s with
    | (left_1_l5, i_5_l5) =>
    if i_5_l5 < (a_0.length : Int) then
    ((rd a_0 i_5_l5).bind fun x20 =>
    (laws_szFinding x20 left_1_l5).bind fun x23 =>
    if x23 < 0 then
    (some (.inr (.inr (-1))))
    else (some (.inl (x23, (w64 (i_5_l5 + 1))))))
    else (some (.inr (.inl left_1_l5)))
noncomputable def laws_szFindingS (a_0 : (List S_Finding)) (left_1 : Int) : Option Int :=
  if (w64 (left_1 - (a_0.length : Int))) < 0 then
    (some (-1))
    else ((loopO (laws_szFindingS_l5 a_0) ((w64 (left_1 - (a_0.length : Int))), 0)).bind fun o => match o with
    | (.inl left_1_e0_5) => (some left_1_e0_5)
    | (.inr r2) => (some r2))
noncomputable def laws_toFinding (a_0 : S_Finding) : Option S_Finding :=
  some a_0
noncomputable def laws_toFindingS_l3 (a_0 : (List S_Finding)) (s : (Int × (List S_Finding))) : Option ((Int × (List S_Finding)) ⊕ (List S_Finding)) :=
  match s with
    | (i_4_l3, out_o3_l3) =>
    if i_4_l3 < (a_0.length : Int) then
    ((rd a_0 i_4_l3).bind fun x18 =>
    (laws_toFinding x18).bind fun x20 =>
    (rd out_o3_l3 i_4_l3).bind fun x21 =>
    some (.inl ((w64 (i_4_l3 + 1)), (out_o3_l3.set i_4_l3.toNat x20))))
    else (some (.inr out_o3_l3))
noncomputable def laws_toFindingS (a_0 : (List S_Finding)) : Option (List S_Finding) :=
  (mkl 40 (a_0.length : Int) (⟨0, (⟨#[]⟩ : ByteArray), (⟨#[]⟩ : ByteArray)⟩ : S_Finding)).bind fun x7 =>
    (loopO (laws_toFindingS_l3 a_0) (0, x7)).bind fun out_o3_e0_3 =>
    some out_o3_e0_3
noncomputable def spec_l00In (n_0 : Int) (low_1 : Int) (high_2 : Int) : Option Bool :=
  some ((decide (n_0 ≥ low_1)) && (decide (n_0 ≤ high_2)))
noncomputable def spec_l31Kind (kind_0 : Int) : Option Bool :=
  (spec_l00In kind_0 1 5).bind fun x4 =>
    some x4
noncomputable def spec_CountFindings_k4 (i_4_l3 : Int) (out_o3_r4 : (List Int)) : Option ((Int × (List Int)) ⊕ (List Int)) :=
  some (.inl ((w64 (i_4_l3 + 1)), out_o3_r4))
noncomputable def spec_CountFindings_l3 (list_0 : (List S_Finding)) (s : (Int × (List Int))) : Option ((Int × (List Int)) ⊕ (List Int)) :=
  match s with
    | (i_4_l3, out_o3_l3) =>
    if i_4_l3 < (list_0.length : Int) then
    ((rd list_0 i_4_l3).bind fun x14 =>
    (spec_l31Kind x14.Kind).bind fun x17 =>
    if x17 = true then
    ((rd list_0 i_4_l3).bind fun x21 =>
    (rd out_o3_l3 x21.Kind).bind fun x24 =>
    (rd out_o3_l3 x21.Kind).bind fun x27 =>
    (rd (out_o3_l3.set x21.Kind.toNat (w64 (x24 + 1))) 0).bind fun x29 =>
    (rd (out_o3_l3.set x21.Kind.toNat (w64 (x24 + 1))) 0).bind fun x32 =>
    spec_CountFindings_k4 i_4_l3 ((out_o3_l3.set x21.Kind.toNat (w64 (x24 + 1))).set ((0 : Int).toNat) (w64 (x29 + 1))))
    else (spec_CountFindings_k4 i_4_l3 out_o3_l3))
    else (some (.inr out_o3_l3))
noncomputable def spec_CountFindings (list_0 : (List S_Finding)) : Option (List Int) :=
  (mkl 8 6 0).bind fun x5 =>
    (loopO (spec_CountFindings_l3 list_0) (0, x5)).bind fun out_o3_e0_3 =>
    some out_o3_e0_3
noncomputable def impl_within (n_0 : Int) (low_1 : Int) (high_2 : Int) : Option Bool :=
  some ((decide (n_0 ≥ low_1)) && (decide (n_0 ≤ high_2)))
noncomputable def impl_CountFindings_k8 (t_9_l3 : Int) (out_o3_r8 : (List Int)) : Option ((Int × (List Int)) ⊕ (List Int)) :=
  some (.inl ((w64 (t_9_l3 + 1)), out_o3_r8))
noncomputable def impl_CountFindings_l3 (list_0 : (List S_Finding)) (s : (Int × (List Int))) : Option ((Int × (List Int)) ⊕ (List Int)) :=
  match s with
    | (t_9_l3, out_o3_l3) =>
    if t_9_l3 < (list_0.length : Int) then
    ((rd list_0 t_9_l3).bind fun x11 =>
    (impl_within x11.Kind 1 5).bind fun x15 =>
    if x15 = true then
    ((rd out_o3_l3 0).bind fun x17 =>
    (rd out_o3_l3 0).bind fun x20 =>
    (rd (out_o3_l3.set ((0 : Int).toNat) (w64 (x17 + 1))) x11.Kind).bind fun x24 =>
    (rd (out_o3_l3.set ((0 : Int).toNat) (w64 (x17 + 1))) x11.Kind).bind fun x27 =>
    impl_CountFindings_k8 t_9_l3 ((out_o3_l3.set ((0 : Int).toNat) (w64 (x17 + 1))).set x11.Kind.toNat (w64 (x24 + 1))))
    else (impl_CountFindings_k8 t_9_l3 out_o3_l3))
    else (some (.inr out_o3_l3))
noncomputable def impl_CountFindings (list_0 : (List S_Finding)) : Option (List Int) :=
  (mkl 8 6 0).bind fun x6 =>
    (loopO (impl_CountFindings_l3 list_0) (0, x6)).bind fun out_o3_e0_3 =>
    some out_o3_e0_3
noncomputable def laws_eqInt64S_l4 (a_0 : (List Int)) (b_1 : (List Int)) (i_5_l4 : Int) : Option (Int ⊕ (Unit ⊕ Bool)) :=
  if i_5_l4 < (a_0.length : Int) then
    ((rd a_0 i_5_l4).bind fun x19 =>
    (rd b_1 i_5_l4).bind fun x23 =>
    if x19 ≠ x23 then
    (some (.inr (.inr false)))
    else (some (.inl (w64 (i_5_l4 + 1)))))
    else (some (.inr (.inl ())))
noncomputable def laws_eqInt64S (a_0 : (List Int)) (b_1 : (List Int)) : Option Bool :=
  if (a_0.length : Int) ≠ (b_1.length : Int) then
    (some false)
    else ((loopO (laws_eqInt64S_l4 a_0 b_1) 0).bind fun o => match o with
    | (.inl _) => (some true)
    | (.inr r2) => (some r2))
noncomputable def laws_eqFinding (a_0 : S_Finding) (b_1 : S_Finding) : Option Bool :=
  if a_0.Kind ≠ b_1.Kind then
    (some false)
    else (if ¬ (a_0.Who = b_1.Who) then
    (some false)
    else (if ¬ (a_0.What = b_1.What) then
    (some false)
    else (some true)))
noncomputable def laws_eqFindingS_l4 (a_0 : (List S_Finding)) (b_1 : (List S_Finding)) (i_5_l4 : Int) : Option (Int ⊕ (Unit ⊕ Bool)) :=
  if i_5_l4 < (a_0.length : Int) then
    ((rd a_0 i_5_l4).bind fun x19 =>
    (rd b_1 i_5_l4).bind fun x23 =>
    (laws_eqFinding x19 x23).bind fun x25 =>
    if x25 = true then
    (some (.inl (w64 (i_5_l4 + 1))))
    else (some (.inr (.inr false))))
    else (some (.inr (.inl ())))
noncomputable def laws_eqFindingS (a_0 : (List S_Finding)) (b_1 : (List S_Finding)) : Option Bool :=
  if (a_0.length : Int) ≠ (b_1.length : Int) then
    (some false)
    else ((loopO (laws_eqFindingS_l4 a_0 b_1) 0).bind fun o => match o with
    | (.inl _) => (some true)
    | (.inr r2) => (some r2))
noncomputable def laws_markText_l4 (s : (Int × ByteArray)) : Option ((Int × ByteArray) ⊕ ByteArray) :=
  match s with
    | (k_0_l4, out_3_l4) =>
    if k_0_l4 > 0 then
    ((md k_0_l4 10).bind fun x9 =>
    (cat (strOf ([(IntKind.wrap .u8 ((w64 (48 + x9))))] : List Int)) out_3_l4).bind fun x15 =>
    (dv .i64 k_0_l4 10).bind fun x17 =>
    some (.inl (x17, x15)))
    else (some (.inr out_3_l4))
noncomputable def laws_markText (k_0 : Int) : Option ByteArray :=
  if k_0 ≤ 0 then
    (some (⟨#[109, 48]⟩ : ByteArray))
    else ((loopO (laws_markText_l4) (k_0, (⟨#[]⟩ : ByteArray))).bind fun out_3_e0_4 =>
    (cat (⟨#[109]⟩ : ByteArray) out_3_e0_4).bind fun x19 =>
    some x19)
noncomputable def laws_markFindingS_l2 (s : (Int × Int × (List S_Finding))) : Option ((Int × Int × (List S_Finding)) ⊕ (Int × (List S_Finding))) :=
  match s with
    | (k_1_l2, i_5_l2, a_o0_l2) =>
    if i_5_l2 < (a_o0_l2.length : Int) then
    ((rd a_o0_l2 i_5_l2).bind fun x15 =>
    (laws_markText (w64 (k_1_l2 + 1))).bind fun x22 =>
    (rd (a_o0_l2.set i_5_l2.toNat (⟨k_1_l2, x15.Who, x15.What⟩ : S_Finding)) i_5_l2).bind fun x23 =>
    (laws_markText (w64 ((w64 (k_1_l2 + 1)) + 1))).bind fun x30 =>
    (rd ((a_o0_l2.set i_5_l2.toNat (⟨k_1_l2, x15.Who, x15.What⟩ : S_Finding)).set i_5_l2.toNat (⟨x23.Kind, x22, x23.What⟩ : S_Finding)) i_5_l2).bind fun x31 =>
    some (.inl ((w64 ((w64 ((w64 (k_1_l2 + 1)) + 1)) + 1)), (w64 (i_5_l2 + 1)), (((a_o0_l2.set i_5_l2.toNat (⟨k_1_l2, x15.Who, x15.What⟩ : S_Finding)).set i_5_l2.toNat (⟨x23.Kind, x22, x23.What⟩ : S_Finding)).set i_5_l2.toNat (⟨x31.Kind, x31.Who, x30⟩ : S_Finding)))))
    else (some (.inr (k_1_l2, a_o0_l2)))
noncomputable def laws_markFindingS (a_0 : (List S_Finding)) (k_1 : Int) : Option (Int × (List S_Finding)) :=
  (loopO (laws_markFindingS_l2) (k_1, 0, a_0)).bind fun o => match o with
    | (k_1_e0_2, a_o0_e0_2) =>
    some (k_1_e0_2, a_o0_e0_2)
noncomputable def laws_markInt64S_l2 (s : (Int × Int × (List Int))) : Option ((Int × Int × (List Int)) ⊕ (Int × (List Int))) :=
  match s with
    | (k_1_l2, i_5_l2, a_o0_l2) =>
    if i_5_l2 < (a_o0_l2.length : Int) then
    ((rd a_o0_l2 i_5_l2).bind fun x15 =>
    some (.inl ((w64 (k_1_l2 + 1)), (w64 (i_5_l2 + 1)), (a_o0_l2.set i_5_l2.toNat k_1_l2))))
    else (some (.inr (k_1_l2, a_o0_l2)))
noncomputable def laws_markInt64S (a_0 : (List Int)) (k_1 : Int) : Option (Int × (List Int)) :=
  (loopO (laws_markInt64S_l2) (k_1, 0, a_0)).bind fun o => match o with
    | (k_1_e0_2, a_o0_e0_2) =>
    some (k_1_e0_2, a_o0_e0_2)
noncomputable def laws_heldInt64S_l2 (a_0 : (List Int)) (s : (Int × Int)) : Option ((Int × Int) ⊕ (Int ⊕ Int)) :=
  match s with
    | (k_1_l2, i_5_l2) =>
    if i_5_l2 < (a_0.length : Int) then
    ((rd a_0 i_5_l2).bind fun x14 =>
    if x14 ≠ k_1_l2 then
    (some (.inr (.inr (-1))))
    else (some (.inl ((w64 (k_1_l2 + 1)), (w64 (i_5_l2 + 1))))))
    else (some (.inr (.inl k_1_l2)))
noncomputable def laws_heldInt64S (a_0 : (List Int)) (k_1 : Int) : Option Int :=
  (loopO (laws_heldInt64S_l2 a_0) (k_1, 0)).bind fun o => match o with
    | (.inl k_1_e0_2) => (some k_1_e0_2)
    | (.inr r2) => (some r2)
noncomputable def laws_FnExactCountFindings (aList_0 : (List S_Finding)) : Option Bool :=
  (laws_szFindingS aList_0 1048576).bind fun x13 =>
    if x13 < 0 then
    (some true)
    else ((laws_toFindingS aList_0).bind fun x17 =>
    (spec_CountFindings x17).bind fun x18 =>
    (laws_toFindingS aList_0).bind fun x20 =>
    (impl_CountFindings x20).bind fun x22 =>
    (laws_eqInt64S x22 x18).bind fun x25 =>
    if x25 = true then
    ((laws_toFindingS aList_0).bind fun x29 =>
    (laws_eqFindingS x20 x29).bind fun x30 =>
    if x30 = true then
    ((laws_markFindingS x20 1).bind fun x34 =>
    (if x34.1 < 0 then
    (some true)
    else ((laws_eqInt64S x22 x18).bind fun x40 =>
    some (!x40))).bind fun t_42_m14 =>
    if t_42_m14 = true then
    (some false)
    else ((laws_markInt64S x22 1).bind fun x45 =>
    (laws_heldInt64S x45.2 1).bind fun x48 =>
    if x48 < 0 then
    (some false)
    else (if x48 ≠ x45.1 then
    (some false)
    else ((laws_toFindingS aList_0).bind fun x55 =>
    (impl_CountFindings x55).bind fun x56 =>
    (laws_eqInt64S x56 x18).bind fun x59 =>
    if x59 = true then
    ((laws_heldInt64S x45.2 1).bind fun x63 =>
    if x63 < 0 then
    (some false)
    else (if x63 ≠ x45.1 then
    (some false)
    else (some true)))
    else (some false)))))
    else (some false))
    else (some false))

end Go.Pw
