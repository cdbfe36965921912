/- Plain functions that answer what the program's functions answer. Conditions: none; definitions alone. -/
import Derived.Test.YtigjhjlkdamncaaSimPw
namespace Go.Pw
open Go.Sim (min2 max2)
set_option linter.unusedVariables false

structure S_Coat where
  Name : ByteArray
  Work : Int
  Dry : Int
  Wait : Int

structure S_l22Search where
  list : (List S_Coat)
  start : Int
  open_ : Int
  end_ : Int
  begins : (List Int)
  nodes : Int
  budget : Int
  full : Bool

structure S_coatSearch where
  list : (List S_Coat)
  open_ : Int
  end_ : Int
  left : Int

noncomputable def laws_szCoat (a_0 : S_Coat) (left_1 : Int) : Option Int :=
  if (w64 (left_1 - (a_0.Name.size : Int))) < 0 then
    (some (-1))
    else (some (w64 (left_1 - (a_0.Name.size : Int))))
noncomputable def laws_szCoatS_l5 (a_0 : (List S_Coat)) (s : (Int × Int)) : Option ((Int × Int) ⊕ (Int ⊕ Int)) :=
  match s with
    | (left_1_l5, i_5_l5) =>
    if i_5_l5 < (a_0.length : Int) then
    ((rd a_0 i_5_l5).bind fun x20 =>
    (laws_szCoat x20 left_1_l5).bind fun x23 =>
    if x23 < 0 then
    (some (.inr (.inr (-1))))
    else (some (.inl (x23, (w64 (i_5_l5 + 1))))))
    else (some (.inr (.inl left_1_l5)))
noncomputable def laws_szCoatS (a_0 : (List S_Coat)) (left_1 : Int) : Option Int :=
  if (w64 (left_1 - (a_0.length : Int))) < 0 then
    (some (-1))
    else ((loopO (laws_szCoatS_l5 a_0) ((w64 (left_1 - (a_0.length : Int))), 0)).bind fun o => match o with
    | (.inl left_1_e0_5) => (some left_1_e0_5)
    | (.inr r2) => (some r2))
noncomputable def laws_toCoat (a_0 : S_Coat) : Option S_Coat :=
  some a_0
noncomputable def laws_toCoatS_l3 (a_0 : (List S_Coat)) (s : (Int × (List S_Coat))) : Option ((Int × (List S_Coat)) ⊕ (List S_Coat)) :=
  match s with
    | (i_4_l3, out_o3_l3) =>
    if i_4_l3 < (a_0.length : Int) then
    ((rd a_0 i_4_l3).bind fun x18 =>
    (laws_toCoat x18).bind fun x20 =>
    (rd out_o3_l3 i_4_l3).bind fun x21 =>
    some (.inl ((w64 (i_4_l3 + 1)), (out_o3_l3.set i_4_l3.toNat x20))))
    else (some (.inr out_o3_l3))
noncomputable def laws_toCoatS (a_0 : (List S_Coat)) : Option (List S_Coat) :=
  (mkl 40 (a_0.length : Int) (⟨(⟨#[]⟩ : ByteArray), 0, 0, 0⟩ : S_Coat)).bind fun x7 =>
    (loopO (laws_toCoatS_l3 a_0) (0, x7)).bind fun out_o3_e0_3 =>
    some out_o3_e0_3
noncomputable def spec_l01Small (c_0 : Int) : Option Bool :=
  some ((decide (c_0 ≥ 97)) && (decide (c_0 ≤ 122)))
noncomputable def spec_l01Digit (c_0 : Int) : Option Bool :=
  some ((decide (c_0 ≥ 48)) && (decide (c_0 ≤ 57)))
noncomputable def spec_l01Name_l4 (s_0 : ByteArray) (i_3_l4 : Int) : Option (Int ⊕ (Unit ⊕ Bool)) :=
  if i_3_l4 < (s_0.size : Int) then
    ((bt s_0 i_3_l4).bind fun x25 =>
    (spec_l01Small x25).bind fun x26 =>
    (if x26 = true then
    (some false)
    else ((bt s_0 i_3_l4).bind fun x31 =>
    (spec_l01Digit x31).bind fun x32 =>
    some (!x32))).bind fun t_34_m6 =>
    if t_34_m6 = true then
    (some (.inr (.inr false)))
    else (some (.inl (w64 (i_3_l4 + 1)))))
    else (some (.inr (.inl ())))
noncomputable def spec_l01Name (s_0 : ByteArray) : Option Bool :=
  (if s_0 = (⟨#[]⟩ : ByteArray) then
    (some true)
    else (if (s_0.size : Int) > 10 then
    (some true)
    else ((bt s_0 0).bind fun x13 =>
    (spec_l01Small x13).bind fun x14 =>
    some (!x14)))).bind fun t_16_m1 =>
    if t_16_m1 = true then
    (some false)
    else ((loopO (spec_l01Name_l4 s_0) 0).bind fun o => match o with
    | (.inl _) => (some true)
    | (.inr r2) => (some r2))
noncomputable def spec_l00In (n_0 : Int) (low_1 : Int) (high_2 : Int) : Option Bool :=
  some ((decide (n_0 ≥ low_1)) && (decide (n_0 ≤ high_2)))
noncomputable def spec_l22One (c_0 : S_Coat) : Option Bool :=
  (spec_l01Name c_0.Name).bind fun x7 =>
    (if x7 = true then
    ((spec_l00In c_0.Work 1 32).bind fun x13 =>
    if x13 = true then
    ((spec_l00In c_0.Dry 0 400).bind fun x20 =>
    if x20 = true then
    ((spec_l00In c_0.Wait c_0.Dry 800).bind fun x31 =>
    some x31)
    else (some false))
    else (some false))
    else (some false)).bind fun t_2_m1 =>
    some t_2_m1
noncomputable def spec_l22Ok_l2 (list_0 : (List S_Coat)) (i_3_l2 : Int) : Option (Int ⊕ (Unit ⊕ Bool)) :=
  if i_3_l2 < (list_0.length : Int) then
    ((rd list_0 i_3_l2).bind fun x12 =>
    (spec_l22One x12).bind fun x13 =>
    if x13 = true then
    (some (.inl (w64 (i_3_l2 + 1))))
    else (some (.inr (.inr false))))
    else (some (.inr (.inl ())))
noncomputable def spec_l22Ok (list_0 : (List S_Coat)) : Option Bool :=
  (loopO (spec_l22Ok_l2 list_0) 0).bind fun o => match o with
    | (.inl _) => (some (decide ((list_0.length : Int) ≤ 8)))
    | (.inr r2) => (some r2)
noncomputable def spec_l22Time (t_0 : Int) : Option Bool :=
  (spec_l00In t_0 0 100000).bind fun x4 =>
    some x4
noncomputable def spec_l22Hours (open_0 : Int) (end_1 : Int) : Option Bool :=
  (spec_l00In open_0 0 96).bind fun x6 =>
    (if x6 = true then
    ((spec_l00In end_1 (w64 (open_0 + 1)) 96).bind fun x11 =>
    some x11)
    else (some false)).bind fun t_4_m1 =>
    some t_4_m1
noncomputable def spec_l22Ask (list_0 : (List S_Coat)) (start_1 : Int) (open_2 : Int) (end_3 : Int) : Option Int :=
  (spec_l22Ok list_0).bind fun x10 =>
    if x10 = true then
    ((spec_l22Time start_1).bind fun x13 =>
    (if x13 = true then
    ((spec_l22Hours open_2 end_3).bind fun x18 =>
    some (!x18))
    else (some true)).bind fun t_20_m3 =>
    if t_20_m3 = true then
    (some 2)
    else (some 0))
    else (some 1)
noncomputable def spec_l22Long_l2 (end_2 : Int) (list_0 : (List S_Coat)) (open_1 : Int) (i_7_l2 : Int) : Option (Int ⊕ (Unit ⊕ Bool)) :=
  if i_7_l2 < (list_0.length : Int) then
    ((rd list_0 i_7_l2).bind fun x16 =>
    if x16.Work > (w64 (end_2 - open_1)) then
    (some (.inr (.inr true)))
    else (some (.inl (w64 (i_7_l2 + 1)))))
    else (some (.inr (.inl ())))
noncomputable def spec_l22Long (list_0 : (List S_Coat)) (open_1 : Int) (end_2 : Int) : Option Bool :=
  (loopO (spec_l22Long_l2 end_2 list_0 open_1) 0).bind fun o => match o with
    | (.inl _) => (some false)
    | (.inr r2) => (some r2)
noncomputable def spec_l22Can (t_0 : Int) (open_1 : Int) (end_2 : Int) (work_3 : Int) : Option Bool :=
  (md t_0 96).bind fun x11 =>
    some ((decide (x11 ≥ open_1)) && (decide ((w64 (x11 + work_3)) ≤ end_2)))
noncomputable def spec_l22Search_run_k12 (self : S_l22Search → Option (Bool × S_l22Search)) (t_7_l11 : Int) (x_o0_0_r12 : (List S_Coat)) (x_o0_1_r12 : Int) (x_o0_2_r12 : Int) (x_o0_3_r12 : Int) (x_o0_4_r12 : (List Int)) (x_o0_5_r12 : Int) (x_o0_6_r12 : Int) (x_o0_7_r12 : Bool) : Option ((Int × (List S_Coat) × Int × Int × Int × (List Int) × Int × Int × Bool) ⊕ (((List S_Coat) × Int × Int × Int × (List Int) × Int × Int × Bool) ⊕ (Bool × S_l22Search))) :=
  some (.inl ((w64 (t_7_l11 + 1)), x_o0_0_r12, x_o0_1_r12, x_o0_2_r12, x_o0_3_r12, x_o0_4_r12, x_o0_5_r12, x_o0_6_r12, x_o0_7_r12))
noncomputable def spec_l22Search_run_k16 (self : S_l22Search → Option (Bool × S_l22Search)) (t_7_l11 : Int) (x_0 : S_l22Search) (x_o0_0_l11 : (List S_Coat)) (x_o0_1_l11 : Int) (x_o0_2_l11 : Int) (x_o0_3_l11 : Int) (x_o0_4_l11 : (List Int)) (x_o0_5_l11 : Int) (x_o0_6_l11 : Int) (x_o0_7_r16 : Bool) : Option ((Int × (List S_Coat) × Int × Int × Int × (List Int) × Int × Int × Bool) ⊕ (((List S_Coat) × Int × Int × Int × (List Int) × Int × Int × Bool) ⊕ (Bool × S_l22Search))) :=
  if x_o0_7_r16 = true then
    (some (.inr (.inr (false, (⟨x_o0_0_l11, x_o0_1_l11, x_o0_2_l11, x_o0_3_l11, x_o0_4_l11, x_o0_5_l11, x_o0_6_l11, x_o0_7_r16⟩ : S_l22Search)))))
    else ((apd 8 x_o0_4_l11 ([t_7_l11] : List Int)).bind fun x127 =>
    (self (⟨x_o0_0_l11, x_o0_1_l11, x_o0_2_l11, x_o0_3_l11, x127, (w64 (x_o0_5_l11 + 1)), x_o0_6_l11, x_o0_7_r16⟩ : S_l22Search)).bind fun x131 =>
    if x131.1 = true then
    (some (.inr (.inr (true, x131.2))))
    else ((slc x131.2.begins 0 (x_0.begins.length : Int)).bind fun x138 =>
    spec_l22Search_run_k12 self t_7_l11 x131.2.list x131.2.start x131.2.open_ x131.2.end_ ((x131.2.begins.take ((x_0.begins.length : Int).toNat)).drop 0) x131.2.nodes x131.2.budget x131.2.full))
noncomputable def spec_l22Search_run_l11 (self : S_l22Search → Option (Bool × S_l22Search)) (high_5_r10 : Int) (x_0 : S_l22Search) (s : (Int × (List S_Coat) × Int × Int × Int × (List Int) × Int × Int × Bool)) : Option ((Int × (List S_Coat) × Int × Int × Int × (List Int) × Int × Int × Bool) ⊕ (((List S_Coat) × Int × Int × Int × (List Int) × Int × Int × Bool) ⊕ (Bool × S_l22Search))) :=
  match s with
    | (t_7_l11, x_o0_0_l11, x_o0_1_l11, x_o0_2_l11, x_o0_3_l11, x_o0_4_l11, x_o0_5_l11, x_o0_6_l11, x_o0_7_l11) =>
    if t_7_l11 ≤ high_5_r10 then
    ((rd x_o0_0_l11 (x_0.begins.length : Int)).bind fun x92 =>
    (spec_l22Can t_7_l11 x_o0_2_l11 x_o0_3_l11 x92.Work).bind fun x95 =>
    if x95 = true then
    (if x_o0_5_l11 = x_o0_6_l11 then
    (spec_l22Search_run_k16 self t_7_l11 x_0 x_o0_0_l11 x_o0_1_l11 x_o0_2_l11 x_o0_3_l11 x_o0_4_l11 x_o0_5_l11 x_o0_6_l11 true)
    else (spec_l22Search_run_k16 self t_7_l11 x_0 x_o0_0_l11 x_o0_1_l11 x_o0_2_l11 x_o0_3_l11 x_o0_4_l11 x_o0_5_l11 x_o0_6_l11 x_o0_7_l11))
    else (spec_l22Search_run_k12 self t_7_l11 x_o0_0_l11 x_o0_1_l11 x_o0_2_l11 x_o0_3_l11 x_o0_4_l11 x_o0_5_l11 x_o0_6_l11 x_o0_7_l11))
    else (some (.inr (.inl (x_o0_0_l11, x_o0_1_l11, x_o0_2_l11, x_o0_3_l11, x_o0_4_l11, x_o0_5_l11, x_o0_6_l11, x_o0_7_l11))))
noncomputable def spec_l22Search_run_k10 (self : S_l22Search → Option (Bool × S_l22Search)) (x_0 : S_l22Search) (low_4_r10 : Int) (high_5_r10 : Int) : Option (Bool × S_l22Search) :=
  (loopO (spec_l22Search_run_l11 self high_5_r10 x_0) (low_4_r10, x_0.list, x_0.start, x_0.open_, x_0.end_, x_0.begins, x_0.nodes, x_0.budget, x_0.full)).bind fun o => match o with
    | (.inl (x_o0_0_e0_11, x_o0_1_e0_11, x_o0_2_e0_11, x_o0_3_e0_11, x_o0_4_e0_11, x_o0_5_e0_11, x_o0_6_e0_11, x_o0_7_e0_11)) => (some (false, (⟨x_o0_0_e0_11, x_o0_1_e0_11, x_o0_2_e0_11, x_o0_3_e0_11, x_o0_4_e0_11, x_o0_5_e0_11, x_o0_6_e0_11, x_o0_7_e0_11⟩ : S_l22Search)))
    | (.inr r2) => (some r2)
noncomputable def spec_l22Search_run_F (self : S_l22Search → Option (Bool × S_l22Search)) (x_0 : S_l22Search) : Option (Bool × S_l22Search) :=
  if (x_0.begins.length : Int) = (x_0.list.length : Int) then
    (some (true, x_0))
    else (if (x_0.begins.length : Int) > 0 then
    ((rd x_0.begins (w64 ((x_0.begins.length : Int) - 1))).bind fun x38 =>
    (rd x_0.list (w64 ((x_0.begins.length : Int) - 1))).bind fun x46 =>
    (rd x_0.list (w64 ((x_0.begins.length : Int) - 1))).bind fun x57 =>
    (rd x_0.list (w64 ((x_0.begins.length : Int) - 1))).bind fun x68 =>
    spec_l22Search_run_k10 self x_0 (w64 ((w64 (x38 + x46.Work)) + x57.Dry)) (w64 ((w64 (x38 + x46.Work)) + x68.Wait)))
    else (spec_l22Search_run_k10 self x_0 x_0.start (w64 ((w64 (x_0.start + 192)) - 1))))
noncomputable def spec_l22Search_run (x_0 : S_l22Search) : Option (Bool × S_l22Search) := fixO (fun self x_0 => spec_l22Search_run_F self x_0) x_0
noncomputable def spec_l00Own (list_0 : (List Int)) : Option (List Int) :=
  (apd 8 ([] : List Int) list_0).bind fun x5 =>
    some x5
noncomputable def spec_FirstCoatPlan_k4 (budget_4 : Int) (end_3 : Int) (list_0 : (List S_Coat)) (open_2 : Int) (start_1 : Int) (code_12_r4 : Int) : Option ((List Int) × Int) :=
  if code_12_r4 ≠ 0 then
    (some (([] : List Int), code_12_r4))
    else ((spec_l22Long list_0 open_2 end_3).bind fun x32 =>
    if x32 = true then
    (some (([] : List Int), 3))
    else ((spec_l22Search_run (⟨list_0, start_1, open_2, end_3, ([] : List Int), 0, budget_4, false⟩ : S_l22Search)).bind fun x41 =>
    if x41.1 = true then
    ((spec_l00Own x41.2.begins).bind fun x46 =>
    some (x46, 0))
    else (if x41.2.full = true then
    (some (([] : List Int), 5))
    else (some (([] : List Int), 3)))))
noncomputable def spec_FirstCoatPlan (list_0 : (List S_Coat)) (start_1 : Int) (open_2 : Int) (end_3 : Int) (budget_4 : Int) : Option ((List Int) × Int) :=
  (spec_l22Ask list_0 start_1 open_2 end_3).bind fun x18 =>
    (if x18 = 0 then
    ((spec_l00In budget_4 1 20000).bind fun x23 =>
    some (!x23))
    else (some false)).bind fun t_25_m2 =>
    if t_25_m2 = true then
    (spec_FirstCoatPlan_k4 budget_4 end_3 list_0 open_2 start_1 2)
    else (spec_FirstCoatPlan_k4 budget_4 end_3 list_0 open_2 start_1 x18)
noncomputable def impl_IsName_l4 (s_0 : ByteArray) (i_3_l4 : Int) : Option (Int ⊕ (Unit ⊕ Bool)) :=
  if i_3_l4 < (s_0.size : Int) then
    ((bt s_0 i_3_l4).bind fun x30 =>
    (if x30 < 97 then
    ((bt s_0 i_3_l4).bind fun x41 =>
    if x41 < 48 then
    (some true)
    else ((bt s_0 i_3_l4).bind fun x46 =>
    some (decide (x46 > 57))))
    else ((bt s_0 i_3_l4).bind fun x35 =>
    if x35 > 122 then
    ((bt s_0 i_3_l4).bind fun x41 =>
    if x41 < 48 then
    (some true)
    else ((bt s_0 i_3_l4).bind fun x46 =>
    some (decide (x46 > 57))))
    else (some false))).bind fun t_49_m6 =>
    if t_49_m6 = true then
    (some (.inr (.inr false)))
    else (some (.inl (w64 (i_3_l4 + 1)))))
    else (some (.inr (.inl ())))
noncomputable def impl_IsName (s_0 : ByteArray) : Option Bool :=
  (if (s_0.size : Int) < 1 then
    (some true)
    else (if (s_0.size : Int) > 10 then
    (some true)
    else ((bt s_0 0).bind fun x14 =>
    if x14 < 97 then
    (some true)
    else ((bt s_0 0).bind fun x19 =>
    some (decide (x19 > 122)))))).bind fun t_21_m1 =>
    if t_21_m1 = true then
    (some false)
    else ((loopO (impl_IsName_l4 s_0) 0).bind fun o => match o with
    | (.inl _) => (some true)
    | (.inr r2) => (some r2))
noncomputable def impl_within (n_0 : Int) (low_1 : Int) (high_2 : Int) : Option Bool :=
  some ((decide (n_0 ≥ low_1)) && (decide (n_0 ≤ high_2)))
noncomputable def impl_ValidCoat (c_0 : S_Coat) : Option Bool :=
  (impl_IsName c_0.Name).bind fun x5 =>
    (if x5 = true then
    ((impl_within c_0.Work 1 32).bind fun x9 =>
    if x9 = true then
    ((impl_within c_0.Dry 0 400).bind fun x14 =>
    if x14 = true then
    ((impl_within c_0.Wait c_0.Dry 800).bind fun x21 =>
    some x21)
    else (some false))
    else (some false))
    else (some false)).bind fun t_2_m1 =>
    some t_2_m1
noncomputable def impl_ValidCoats_c1 (c_0 : S_Coat) : Option Bool :=
  (impl_ValidCoat c_0).bind fun x4 =>
    some (!x4)
noncomputable def slices_IndexFunc_impl_Coat_impl_Coat_l2 (f_1 : (S_Coat → Option Bool)) (s_0 : (List S_Coat)) (t_8_l2 : Int) : Option (Int ⊕ (Unit ⊕ Int)) :=
  if t_8_l2 < (s_0.length : Int) then
    ((rd s_0 t_8_l2).bind fun x14 =>
    (f_1 x14).bind fun x16 =>
    if x16 = true then
    (some (.inr (.inr t_8_l2)))
    else (some (.inl (w64 (t_8_l2 + 1)))))
    else (some (.inr (.inl ())))
noncomputable def slices_IndexFunc_impl_Coat_impl_Coat (s_0 : (List S_Coat)) (f_1 : (S_Coat → Option Bool)) : Option Int :=
  (loopO (slices_IndexFunc_impl_Coat_impl_Coat_l2 f_1 s_0) 0).bind fun o => match o with
    | (.inl _) => (some (-1))
    | (.inr r2) => (some r2)
noncomputable def slices_ContainsFunc_impl_Coat_impl_Coat (s_0 : (List S_Coat)) (f_1 : (S_Coat → Option Bool)) : Option Bool :=
  (slices_IndexFunc_impl_Coat_impl_Coat s_0 f_1).bind fun x7 =>
    some (decide (x7 ≥ 0))
noncomputable def impl_ValidCoats (list_0 : (List S_Coat)) : Option Bool :=
  (if (list_0.length : Int) ≤ 8 then
    ((slices_ContainsFunc_impl_Coat_impl_Coat list_0 (fun a0 => impl_ValidCoats_c1 a0)).bind fun x8 =>
    some (!x8))
    else (some false)).bind fun t_2_m1 =>
    some t_2_m1
noncomputable def impl_areHours (open_0 : Int) (end_1 : Int) : Option Bool :=
  some ((decide (0 ≤ open_0)) && ((decide (open_0 < end_1)) && (decide (end_1 ≤ 96))))
noncomputable def impl_coatsCode_c1 (c_0 : S_Coat) (cap0_0 : Int) (cap1_0 : Int) : Option Bool :=
  some (decide (c_0.Work > (w64 (cap0_0 - cap1_0))))
noncomputable def impl_coatsCode (list_0 : (List S_Coat)) (start_1 : Int) (open_2 : Int) (end_3 : Int) (budget_4 : Int) : Option Int :=
  (impl_ValidCoats list_0).bind fun x13 =>
    if x13 = true then
    ((impl_within budget_4 1 20000).bind fun x17 =>
    (if x17 = true then
    ((impl_within start_1 0 100000).bind fun x21 =>
    if x21 = true then
    ((impl_areHours open_2 end_3).bind fun x27 =>
    some (!x27))
    else (some true))
    else (some true)).bind fun t_15_m3 =>
    if t_15_m3 = true then
    (some 2)
    else ((slices_ContainsFunc_impl_Coat_impl_Coat list_0 (fun a0 => impl_coatsCode_c1 a0 end_3 open_2)).bind fun x33 =>
    if x33 = true then
    (some 3)
    else (some 0)))
    else (some 1)
noncomputable def impl_inHours (time_0 : Int) (open_1 : Int) (end_2 : Int) (work_3 : Int) : Option Bool :=
  (md time_0 96).bind fun x10 =>
    (if x10 ≥ open_1 then
    ((md time_0 96).bind fun x15 =>
    some (decide ((w64 (x15 + work_3)) ≤ end_2)))
    else (some false)).bind fun t_8_m1 =>
    some t_8_m1
noncomputable def impl_coatSearch_run_k6 (self : (S_coatSearch × (List Int) × Int × Int) → Option ((List Int) × Int × S_coatSearch)) (begin_11_l5 : Int) (s_o0_0_r6 : (List S_Coat)) (s_o0_1_r6 : Int) (s_o0_2_r6 : Int) (s_o0_3_r6 : Int) : Option ((Int × (List S_Coat) × Int × Int × Int) ⊕ (((List S_Coat) × Int × Int × Int) ⊕ ((List Int) × Int × S_coatSearch))) :=
  some (.inl ((w64 (begin_11_l5 + 1)), s_o0_0_r6, s_o0_1_r6, s_o0_2_r6, s_o0_3_r6))
noncomputable def impl_coatSearch_run_l5 (self : (S_coatSearch × (List Int) × Int × Int) → Option ((List Int) × Int × S_coatSearch)) (begins_1 : (List Int)) (latest_3 : Int) (x29 : S_Coat) (s : (Int × (List S_Coat) × Int × Int × Int)) : Option ((Int × (List S_Coat) × Int × Int × Int) ⊕ (((List S_Coat) × Int × Int × Int) ⊕ ((List Int) × Int × S_coatSearch))) :=
  match s with
    | (begin_11_l5, s_o0_0_l5, s_o0_1_l5, s_o0_2_l5, s_o0_3_l5) =>
    if begin_11_l5 ≤ latest_3 then
    ((impl_inHours begin_11_l5 s_o0_1_l5 s_o0_2_l5 x29.Work).bind fun x48 =>
    if x48 = true then
    (if s_o0_3_l5 = 0 then
    (some (.inr (.inr (([] : List Int), 5, (⟨s_o0_0_l5, s_o0_1_l5, s_o0_2_l5, s_o0_3_l5⟩ : S_coatSearch)))))
    else ((apd 8 ([] : List Int) begins_1).bind fun x65 =>
    (apd 8 x65 ([begin_11_l5] : List Int)).bind fun x68 =>
    (self ((⟨s_o0_0_l5, s_o0_1_l5, s_o0_2_l5, (w64 (s_o0_3_l5 - 1))⟩ : S_coatSearch), x68, (w64 ((w64 (begin_11_l5 + x29.Work)) + x29.Dry)), (w64 ((w64 (begin_11_l5 + x29.Work)) + x29.Wait)))).bind fun x83 =>
    if x83.2.1 ≠ 3 then
    (some (.inr (.inr (x83.1, x83.2.1, x83.2.2))))
    else (impl_coatSearch_run_k6 self begin_11_l5 x83.2.2.list x83.2.2.open_ x83.2.2.end_ x83.2.2.left)))
    else (impl_coatSearch_run_k6 self begin_11_l5 s_o0_0_l5 s_o0_1_l5 s_o0_2_l5 s_o0_3_l5))
    else (some (.inr (.inl (s_o0_0_l5, s_o0_1_l5, s_o0_2_l5, s_o0_3_l5))))
noncomputable def impl_coatSearch_run_F (self : (S_coatSearch × (List Int) × Int × Int) → Option ((List Int) × Int × S_coatSearch)) (s_0 : S_coatSearch) (begins_1 : (List Int)) (least_2 : Int) (latest_3 : Int) : Option ((List Int) × Int × S_coatSearch) :=
  if (begins_1.length : Int) = (s_0.list.length : Int) then
    (some (begins_1, 0, s_0))
    else ((rd s_0.list (begins_1.length : Int)).bind fun x29 =>
    (loopO (impl_coatSearch_run_l5 self begins_1 latest_3 x29) (least_2, s_0.list, s_0.open_, s_0.end_, s_0.left)).bind fun o => match o with
    | (.inl (s_o0_0_e0_5, s_o0_1_e0_5, s_o0_2_e0_5, s_o0_3_e0_5)) => (some (([] : List Int), 3, (⟨s_o0_0_e0_5, s_o0_1_e0_5, s_o0_2_e0_5, s_o0_3_e0_5⟩ : S_coatSearch)))
    | (.inr r2) => (some r2))
noncomputable def impl_coatSearch_run (s_0 : S_coatSearch) (begins_1 : (List Int)) (least_2 : Int) (latest_3 : Int) : Option ((List Int) × Int × S_coatSearch) := fixO (fun self s => match s with | (s_0, begins_1, least_2, latest_3) => impl_coatSearch_run_F self s_0 begins_1 least_2 latest_3) (s_0, begins_1, least_2, latest_3)
noncomputable def impl_FirstCoatPlan (list_0 : (List S_Coat)) (start_1 : Int) (open_2 : Int) (end_3 : Int) (budget_4 : Int) : Option ((List Int) × Int) :=
  (impl_coatsCode list_0 start_1 open_2 end_3 budget_4).bind fun x19 =>
    if x19 ≠ 0 then
    (some (([] : List Int), x19))
    else ((impl_coatSearch_run (⟨list_0, open_2, end_3, budget_4⟩ : S_coatSearch) ([] : List Int) start_1 (w64 ((w64 (start_1 + 192)) - 1))).bind fun x34 =>
    some (x34.1, x34.2.1))
noncomputable def laws_eqInt64S_l4 (a_0 : (List Int)) (b_1 : (List Int)) (i_5_l4 : Int) : Option (Int ⊕ (Unit ⊕ Bool)) :=
  if i_5_l4 < (a_0.length : Int) then
    ((rd a_0 i_5_l4).bind fun x19 =>
    (rd b_1 i_5_l4).bind fun x23 =>
    if x19 ≠ x23 then
    (some (.inr (.inr false)))
    else (some (.inl (w64 (i_5_l4 + 1)))))
    else (some (.inr (.inl ())))
noncomputable def laws_eqInt64S (a_0 : (List Int)) (b_1 : (List Int)) : Option Bool :=
  if (a_0.length : Int) ≠ (b_1.length : Int) then
    (some false)
    else ((loopO (laws_eqInt64S_l4 a_0 b_1) 0).bind fun o => match o with
    | (.inl _) => (some true)
    | (.inr r2) => (some r2))
noncomputable def laws_eqCoat (a_0 : S_Coat) (b_1 : S_Coat) : Option Bool :=
  if ¬ (a_0.Name = b_1.Name) then
    (some false)
    else (if a_0.Work ≠ b_1.Work then
    (some false)
    else (if a_0.Dry ≠ b_1.Dry then
    (some false)
    else (if a_0.Wait ≠ b_1.Wait then
    (some false)
    else (some true))))
noncomputable def laws_eqCoatS_l4 (a_0 : (List S_Coat)) (b_1 : (List S_Coat)) (i_5_l4 : Int) : Option (Int ⊕ (Unit ⊕ Bool)) :=
  if i_5_l4 < (a_0.length : Int) then
    ((rd a_0 i_5_l4).bind fun x19 =>
    (rd b_1 i_5_l4).bind fun x23 =>
    (laws_eqCoat x19 x23).bind fun x25 =>
    if x25 = true then
    (some (.inl (w64 (i_5_l4 + 1))))
    else (some (.inr (.inr false))))
    else (some (.inr (.inl ())))
noncomputable def laws_eqCoatS (a_0 : (List S_Coat)) (b_1 : (List S_Coat)) : Option Bool :=
  if (a_0.length : Int) ≠ (b_1.length : Int) then
    (some false)
    else ((loopO (laws_eqCoatS_l4 a_0 b_1) 0).bind fun o => match o with
    | (.inl _) => (some true)
    | (.inr r2) => (some r2))
noncomputable def laws_markText_l4 (s : (Int × ByteArray)) : Option ((Int × ByteArray) ⊕ ByteArray) :=
  match s with
    | (k_0_l4, out_3_l4) =>
    if k_0_l4 > 0 then
    ((md k_0_l4 10).bind fun x9 =>
    (cat (strOf ([(IntKind.wrap .u8 ((w64 (48 + x9))))] : List Int)) out_3_l4).bind fun x15 =>
    (dv .i64 k_0_l4 10).bind fun x17 =>
    some (.inl (x17, x15)))
    else (some (.inr out_3_l4))
noncomputable def laws_markText (k_0 : Int) : Option ByteArray :=
  if k_0 ≤ 0 then
    (some (⟨#[109, 48]⟩ : ByteArray))
    else ((loopO (laws_markText_l4) (k_0, (⟨#[]⟩ : ByteArray))).bind fun out_3_e0_4 =>
    (cat (⟨#[109]⟩ : ByteArray) out_3_e0_4).bind fun x19 =>
    some x19)
noncomputable def laws_markCoatS_l2 (s : (Int × Int × (List S_Coat))) : Option ((Int × Int × (List S_Coat)) ⊕ (Int × (List S_Coat))) :=
  match s with
    | (k_1_l2, i_5_l2, a_o0_l2) =>
    if i_5_l2 < (a_o0_l2.length : Int) then
    ((laws_markText k_1_l2).bind fun x15 =>
    (rd a_o0_l2 i_5_l2).bind fun x16 =>
    (rd (a_o0_l2.set i_5_l2.toNat (⟨x15, x16.Work, x16.Dry, x16.Wait⟩ : S_Coat)) i_5_l2).bind fun x23 =>
    (rd ((a_o0_l2.set i_5_l2.toNat (⟨x15, x16.Work, x16.Dry, x16.Wait⟩ : S_Coat)).set i_5_l2.toNat (⟨x23.Name, (w64 (k_1_l2 + 1)), x23.Dry, x23.Wait⟩ : S_Coat)) i_5_l2).bind fun x30 =>
    (rd (((a_o0_l2.set i_5_l2.toNat (⟨x15, x16.Work, x16.Dry, x16.Wait⟩ : S_Coat)).set i_5_l2.toNat (⟨x23.Name, (w64 (k_1_l2 + 1)), x23.Dry, x23.Wait⟩ : S_Coat)).set i_5_l2.toNat (⟨x30.Name, x30.Work, (w64 ((w64 (k_1_l2 + 1)) + 1)), x30.Wait⟩ : S_Coat)) i_5_l2).bind fun x37 =>
    some (.inl ((w64 ((w64 ((w64 ((w64 (k_1_l2 + 1)) + 1)) + 1)) + 1)), (w64 (i_5_l2 + 1)), ((((a_o0_l2.set i_5_l2.toNat (⟨x15, x16.Work, x16.Dry, x16.Wait⟩ : S_Coat)).set i_5_l2.toNat (⟨x23.Name, (w64 (k_1_l2 + 1)), x23.Dry, x23.Wait⟩ : S_Coat)).set i_5_l2.toNat (⟨x30.Name, x30.Work, (w64 ((w64 (k_1_l2 + 1)) + 1)), x30.Wait⟩ : S_Coat)).set i_5_l2.toNat (⟨x37.Name, x37.Work, x37.Dry, (w64 ((w64 ((w64 (k_1_l2 + 1)) + 1)) + 1))⟩ : S_Coat)))))
    else (some (.inr (k_1_l2, a_o0_l2)))
noncomputable def laws_markCoatS (a_0 : (List S_Coat)) (k_1 : Int) : Option (Int × (List S_Coat)) :=
  (loopO (laws_markCoatS_l2) (k_1, 0, a_0)).bind fun o => match o with
    | (k_1_e0_2, a_o0_e0_2) =>
    some (k_1_e0_2, a_o0_e0_2)
noncomputable def laws_markInt64S_l2 (s : (Int × Int × (List Int))) : Option ((Int × Int × (List Int)) ⊕ (Int × (List Int))) :=
  match s with
    | (k_1_l2, i_5_l2, a_o0_l2) =>
    if i_5_l2 < (a_o0_l2.length : Int) then
    ((rd a_o0_l2 i_5_l2).bind fun x15 =>
    some (.inl ((w64 (k_1_l2 + 1)), (w64 (i_5_l2 + 1)), (a_o0_l2.set i_5_l2.toNat k_1_l2))))
    else (some (.inr (k_1_l2, a_o0_l2)))
noncomputable def laws_markInt64S (a_0 : (List Int)) (k_1 : Int) : Option (Int × (List Int)) :=
  (loopO (laws_markInt64S_l2) (k_1, 0, a_0)).bind fun o => match o with
    | (k_1_e0_2, a_o0_e0_2) =>
    some (k_1_e0_2, a_o0_e0_2)
noncomputable def laws_heldInt64S_l2 (a_0 : (List Int)) (s : (Int × Int)) : Option ((Int × Int) ⊕ (Int ⊕ Int)) :=
  match s with
    | (k_1_l2, i_5_l2) =>
    if i_5_l2 < (a_0.length : Int) then
    ((rd a_0 i_5_l2).bind fun x14 =>
    if x14 ≠ k_1_l2 then
    (some (.inr (.inr (-1))))
    else (some (.inl ((w64 (k_1_l2 + 1)), (w64 (i_5_l2 + 1))))))
    else (some (.inr (.inl k_1_l2)))
noncomputable def laws_heldInt64S (a_0 : (List Int)) (k_1 : Int) : Option Int :=
  (loopO (laws_heldInt64S_l2 a_0) (k_1, 0)).bind fun o => match o with
    | (.inl k_1_e0_2) => (some k_1_e0_2)
    | (.inr r2) => (some r2)
noncomputable def laws_FnExactFirstCoatPlan (aList_0 : (List S_Coat)) (aStart_1 : Int) (aOpen_2 : Int) (aEnd_3 : Int) (aBudget_4 : Int) : Option Bool :=
  (laws_szCoatS aList_0 1048576).bind fun x24 =>
    if x24 < 0 then
    (some true)
    else ((laws_toCoatS aList_0).bind fun x29 =>
    (spec_FirstCoatPlan x29 aStart_1 aOpen_2 aEnd_3 aBudget_4).bind fun x34 =>
    (laws_toCoatS aList_0).bind fun x38 =>
    (impl_FirstCoatPlan x38 aStart_1 aOpen_2 aEnd_3 aBudget_4).bind fun x45 =>
    (laws_eqInt64S x45.1 x34.1).bind fun x50 =>
    if (¬ (x50 = true) ∨ x45.2 ≠ x34.2) then
    (some false)
    else ((laws_toCoatS aList_0).bind fun x59 =>
    (laws_eqCoatS x38 x59).bind fun x60 =>
    if x60 = true then
    ((laws_markCoatS x38 1).bind fun x64 =>
    (if x64.1 < 0 then
    (some true)
    else ((laws_eqInt64S x45.1 x34.1).bind fun x70 =>
    if x70 = true then
    (some (x45.2 != x34.2))
    else (some true))).bind fun t_77_m14 =>
    if t_77_m14 = true then
    (some false)
    else ((laws_markInt64S x45.1 1).bind fun x80 =>
    (laws_heldInt64S x80.2 1).bind fun x83 =>
    if x83 < 0 then
    (some false)
    else (if x83 ≠ x80.1 then
    (some false)
    else ((laws_toCoatS aList_0).bind fun x91 =>
    (impl_FirstCoatPlan x91 aStart_1 aOpen_2 aEnd_3 aBudget_4).bind fun x96 =>
    (laws_eqInt64S x96.1 x34.1).bind fun x101 =>
    if (¬ (x101 = true) ∨ x96.2 ≠ x34.2) then
    (some false)
    else ((laws_heldInt64S x80.2 1).bind fun x110 =>
    if x110 < 0 then
    (some false)
    else (if x110 ≠ x80.1 then
    (some false)
    else (some true)))))))
    else (some false)))

end Go.Pw
