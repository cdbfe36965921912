/- Plain functions that answer what the program's functions answer. Conditions: none; definitions alone. -/
import Derived.Test.YtigjhjlkdamncaaSimPw
namespace Go.Pw
open Go.Sim (min2 max2)
set_option linter.unusedVariables false

structure S_Blade where
  Name : ByteArray
  Life : Int
  Price : Int
  Speed : Int

structure S_Cutting where
  Name : ByteArray
  Length : Int
  Hardness : Int

structure S_l16Search where
  wears : (List Int)
  life : Int
  most : Int
  blades : (List Int)
  left : (List Int)
  nodes : Int
  budget : Int
  full : Bool

structure S_bladeSearch where
  wears : (List Int)
  life : Int
  left : Int

noncomputable def laws_szBlade (a_0 : S_Blade) (left_1 : Int) : Option Int :=
  if (w64 (left_1 - (a_0.Name.size : Int))) < 0 then
    (some (-1))
    else (some (w64 (left_1 - (a_0.Name.size : Int))))
noncomputable def laws_szCutting (a_0 : S_Cutting) (left_1 : Int) : Option Int :=
  if (w64 (left_1 - (a_0.Name.size : Int))) < 0 then
    (some (-1))
    else (some (w64 (left_1 - (a_0.Name.size : Int))))
noncomputable def laws_szCuttingS_l5 (a_0 : (List S_Cutting)) (s : (Int × Int)) : Option ((Int × Int) ⊕ (Int ⊕ Int)) :=
  match s with
    | (left_1_l5, i_5_l5) =>
    if i_5_l5 < (a_0.length : Int) then
    ((rd a_0 i_5_l5).bind fun x20 =>
    (laws_szCutting x20 left_1_l5).bind fun x23 =>
    if x23 < 0 then
    (some (.inr (.inr (-1))))
    else (some (.inl (x23, (w64 (i_5_l5 + 1))))))
    else (some (.inr (.inl left_1_l5)))
noncomputable def laws_szCuttingS (a_0 : (List S_Cutting)) (left_1 : Int) : Option Int :=
  if (w64 (left_1 - (a_0.length : Int))) < 0 then
    (some (-1))
    else ((loopO (laws_szCuttingS_l5 a_0) ((w64 (left_1 - (a_0.length : Int))), 0)).bind fun o => match o with
    | (.inl left_1_e0_5) => (some left_1_e0_5)
    | (.inr r2) => (some r2))
noncomputable def laws_toBlade (a_0 : S_Blade) : Option S_Blade :=
  some a_0
noncomputable def laws_toCutting (a_0 : S_Cutting) : Option S_Cutting :=
  some a_0
noncomputable def laws_toCuttingS_l3 (a_0 : (List S_Cutting)) (s : (Int × (List S_Cutting))) : Option ((Int × (List S_Cutting)) ⊕ (List S_Cutting)) :=
  match s with
    | (i_4_l3, out_o3_l3) =>
    if i_4_l3 < (a_0.length : Int) then
    ((rd a_0 i_4_l3).bind fun x18 =>
    (laws_toCutting x18).bind fun x20 =>
    (rd out_o3_l3 i_4_l3).bind fun x21 =>
    some (.inl ((w64 (i_4_l3 + 1)), (out_o3_l3.set i_4_l3.toNat x20))))
    else (some (.inr out_o3_l3))
noncomputable def laws_toCuttingS (a_0 : (List S_Cutting)) : Option (List S_Cutting) :=
  (mkl 32 (a_0.length : Int) (⟨(⟨#[]⟩ : ByteArray), 0, 0⟩ : S_Cutting)).bind fun x7 =>
    (loopO (laws_toCuttingS_l3 a_0) (0, x7)).bind fun out_o3_e0_3 =>
    some out_o3_e0_3
noncomputable def spec_l01Small (c_0 : Int) : Option Bool :=
  some ((decide (c_0 ≥ 97)) && (decide (c_0 ≤ 122)))
noncomputable def spec_l01Digit (c_0 : Int) : Option Bool :=
  some ((decide (c_0 ≥ 48)) && (decide (c_0 ≤ 57)))
noncomputable def spec_l01Name_l4 (s_0 : ByteArray) (i_3_l4 : Int) : Option (Int ⊕ (Unit ⊕ Bool)) :=
  if i_3_l4 < (s_0.size : Int) then
    ((bt s_0 i_3_l4).bind fun x25 =>
    (spec_l01Small x25).bind fun x26 =>
    (if x26 = true then
    (some false)
    else ((bt s_0 i_3_l4).bind fun x31 =>
    (spec_l01Digit x31).bind fun x32 =>
    some (!x32))).bind fun t_34_m6 =>
    if t_34_m6 = true then
    (some (.inr (.inr false)))
    else (some (.inl (w64 (i_3_l4 + 1)))))
    else (some (.inr (.inl ())))
noncomputable def spec_l01Name (s_0 : ByteArray) : Option Bool :=
  (if s_0 = (⟨#[]⟩ : ByteArray) then
    (some true)
    else (if (s_0.size : Int) > 10 then
    (some true)
    else ((bt s_0 0).bind fun x13 =>
    (spec_l01Small x13).bind fun x14 =>
    some (!x14)))).bind fun t_16_m1 =>
    if t_16_m1 = true then
    (some false)
    else ((loopO (spec_l01Name_l4 s_0) 0).bind fun o => match o with
    | (.inl _) => (some true)
    | (.inr r2) => (some r2))
noncomputable def spec_l00In (n_0 : Int) (low_1 : Int) (high_2 : Int) : Option Bool :=
  some ((decide (n_0 ≥ low_1)) && (decide (n_0 ≤ high_2)))
noncomputable def spec_l16Ok (b_0 : S_Blade) : Option Bool :=
  (spec_l01Name b_0.Name).bind fun x7 =>
    (if x7 = true then
    ((spec_l00In b_0.Life 1 1000000).bind fun x13 =>
    if x13 = true then
    ((spec_l00In b_0.Price 0 1000000).bind fun x20 =>
    if x20 = true then
    ((spec_l00In b_0.Speed 1 10000).bind fun x27 =>
    some x27)
    else (some false))
    else (some false))
    else (some false)).bind fun t_2_m1 =>
    some t_2_m1
noncomputable def spec_l16One (c_0 : S_Cutting) : Option Bool :=
  (spec_l01Name c_0.Name).bind fun x7 =>
    (if x7 = true then
    ((spec_l00In c_0.Length 1 1000000).bind fun x13 =>
    if x13 = true then
    ((spec_l00In c_0.Hardness 1 100).bind fun x20 =>
    some x20)
    else (some false))
    else (some false)).bind fun t_2_m1 =>
    some t_2_m1
noncomputable def spec_l16List_l2 (list_0 : (List S_Cutting)) (i_3_l2 : Int) : Option (Int ⊕ (Unit ⊕ Bool)) :=
  if i_3_l2 < (list_0.length : Int) then
    ((rd list_0 i_3_l2).bind fun x12 =>
    (spec_l16One x12).bind fun x13 =>
    (if x13 = true then
    (if i_3_l2 > 0 then
    ((rd list_0 (w64 (i_3_l2 - 1))).bind fun x22 =>
    (rd list_0 i_3_l2).bind fun x27 =>
    some (!Op.bytesLess x22.Name.toList x27.Name.toList))
    else (some false))
    else (some true)).bind fun t_32_m4 =>
    if t_32_m4 = true then
    (some (.inr (.inr false)))
    else (some (.inl (w64 (i_3_l2 + 1)))))
    else (some (.inr (.inl ())))
noncomputable def spec_l16List (list_0 : (List S_Cutting)) : Option Bool :=
  (loopO (spec_l16List_l2 list_0) 0).bind fun o => match o with
    | (.inl _) => (some (decide ((list_0.length : Int) ≤ 16)))
    | (.inr r2) => (some r2)
noncomputable def spec_l16Wear (c_0 : S_Cutting) : Option Int :=
  (dv .i64 (w64 ((w64 (c_0.Length * c_0.Hardness)) + 39)) 40).bind fun x13 =>
    some x13
noncomputable def spec_l16Ask_l4 (b_0 : S_Blade) (list_1 : (List S_Cutting)) (i_5_l4 : Int) : Option (Int ⊕ (Unit ⊕ Int)) :=
  if i_5_l4 < (list_1.length : Int) then
    ((rd list_1 i_5_l4).bind fun x22 =>
    (spec_l16Wear x22).bind fun x23 =>
    if x23 > b_0.Life then
    (some (.inr (.inr 6)))
    else (some (.inl (w64 (i_5_l4 + 1)))))
    else (some (.inr (.inl ())))
noncomputable def spec_l16Ask (b_0 : S_Blade) (list_1 : (List S_Cutting)) : Option Int :=
  (spec_l16Ok b_0).bind fun x7 =>
    (if x7 = true then
    ((spec_l16List list_1).bind fun x11 =>
    some (!x11))
    else (some true)).bind fun t_13_m1 =>
    if t_13_m1 = true then
    (some 1)
    else ((loopO (spec_l16Ask_l4 b_0 list_1) 0).bind fun o => match o with
    | (.inl _) => (some 0)
    | (.inr r2) => (some r2))
noncomputable def spec_l16Wears_l3 (list_0 : (List S_Cutting)) (s : (Int × (List Int))) : Option ((Int × (List Int)) ⊕ (List Int)) :=
  match s with
    | (i_4_l3, out_o3_l3) =>
    if i_4_l3 < (list_0.length : Int) then
    ((rd list_0 i_4_l3).bind fun x15 =>
    (spec_l16Wear x15).bind fun x16 =>
    (apd 8 out_o3_l3 ([x16] : List Int)).bind fun x18 =>
    some (.inl ((w64 (i_4_l3 + 1)), x18)))
    else (some (.inr out_o3_l3))
noncomputable def spec_l16Wears (list_0 : (List S_Cutting)) : Option (List Int) :=
  (loopO (spec_l16Wears_l3 list_0) (0, ([] : List Int))).bind fun out_o3_e0_3 =>
    some out_o3_e0_3
noncomputable def spec_l16Search_run_k6 (self : S_l16Search → Option (Bool × S_l16Search)) (b_4_l5 : Int) (x_o0_0_r6 : (List Int)) (x_o0_1_r6 : Int) (x_o0_2_r6 : Int) (x_o0_3_r6 : (List Int)) (x_o0_4_r6 : (List Int)) (x_o0_5_r6 : Int) (x_o0_6_r6 : Int) (x_o0_7_r6 : Bool) : Option ((Int × (List Int) × Int × Int × (List Int) × (List Int) × Int × Int × Bool) ⊕ (((List Int) × Int × Int × (List Int) × (List Int) × Int × Int × Bool) ⊕ (Bool × S_l16Search))) :=
  some (.inl ((w64 (b_4_l5 + 1)), x_o0_0_r6, x_o0_1_r6, x_o0_2_r6, x_o0_3_r6, x_o0_4_r6, x_o0_5_r6, x_o0_6_r6, x_o0_7_r6))
noncomputable def spec_l16Search_run_k16 (self : S_l16Search → Option (Bool × S_l16Search)) (b_4_l5 : Int) (x_0 : S_l16Search) (x_o0_0_l5 : (List Int)) (x_o0_1_l5 : Int) (x_o0_2_l5 : Int) (x_o0_3_l5 : (List Int)) (x_o0_4_l5 : (List Int)) (x_o0_5_l5 : Int) (x_o0_6_l5 : Int) (x_o0_7_r11 : Bool) (x_o0_4_r16 : (List Int)) : Option ((Int × (List Int) × Int × Int × (List Int) × (List Int) × Int × Int × Bool) ⊕ (((List Int) × Int × Int × (List Int) × (List Int) × Int × Int × Bool) ⊕ (Bool × S_l16Search))) :=
  (rd x_o0_4_r16 b_4_l5).bind fun x103 =>
    (rd x_o0_0_l5 (x_0.blades.length : Int)).bind fun x110 =>
    (rd x_o0_4_r16 b_4_l5).bind fun x113 =>
    (apd 8 x_o0_3_l5 ([b_4_l5] : List Int)).bind fun x121 =>
    (self (⟨x_o0_0_l5, x_o0_1_l5, x_o0_2_l5, x121, (x_o0_4_r16.set b_4_l5.toNat (w64 (x103 - x110))), (w64 (x_o0_5_l5 + 1)), x_o0_6_l5, x_o0_7_r11⟩ : S_l16Search)).bind fun x125 =>
    if x125.1 = true then
    (some (.inr (.inr (true, x125.2))))
    else ((slc x125.2.blades 0 (x_0.blades.length : Int)).bind fun x132 =>
    (rd x125.2.left b_4_l5).bind fun x140 =>
    (rd x125.2.wears (x_0.blades.length : Int)).bind fun x147 =>
    (rd x125.2.left b_4_l5).bind fun x150 =>
    if b_4_l5 = (x_o0_4_l5.length : Int) then
    ((slc (x125.2.left.set b_4_l5.toNat (w64 (x140 + x147))) 0 b_4_l5).bind fun x158 =>
    spec_l16Search_run_k6 self b_4_l5 x125.2.wears x125.2.life x125.2.most ((x125.2.blades.take ((x_0.blades.length : Int).toNat)).drop 0) (((x125.2.left.set b_4_l5.toNat (w64 (x140 + x147))).take b_4_l5.toNat).drop 0) x125.2.nodes x125.2.budget x125.2.full)
    else (spec_l16Search_run_k6 self b_4_l5 x125.2.wears x125.2.life x125.2.most ((x125.2.blades.take ((x_0.blades.length : Int).toNat)).drop 0) (x125.2.left.set b_4_l5.toNat (w64 (x140 + x147))) x125.2.nodes x125.2.budget x125.2.full))
noncomputable def spec_l16Search_run_k11 (self : S_l16Search → Option (Bool × S_l16Search)) (b_4_l5 : Int) (x_0 : S_l16Search) (x_o0_0_l5 : (List Int)) (x_o0_1_l5 : Int) (x_o0_2_l5 : Int) (x_o0_3_l5 : (List Int)) (x_o0_4_l5 : (List Int)) (x_o0_5_l5 : Int) (x_o0_6_l5 : Int) (x_o0_7_r11 : Bool) : Option ((Int × (List Int) × Int × Int × (List Int) × (List Int) × Int × Int × Bool) ⊕ (((List Int) × Int × Int × (List Int) × (List Int) × Int × Int × Bool) ⊕ (Bool × S_l16Search))) :=
  if x_o0_7_r11 = true then
    (some (.inr (.inr (false, (⟨x_o0_0_l5, x_o0_1_l5, x_o0_2_l5, x_o0_3_l5, x_o0_4_l5, x_o0_5_l5, x_o0_6_l5, x_o0_7_r11⟩ : S_l16Search)))))
    else (if b_4_l5 = (x_o0_4_l5.length : Int) then
    ((apd 8 x_o0_4_l5 ([x_o0_1_l5] : List Int)).bind fun x95 =>
    spec_l16Search_run_k16 self b_4_l5 x_0 x_o0_0_l5 x_o0_1_l5 x_o0_2_l5 x_o0_3_l5 x_o0_4_l5 x_o0_5_l5 x_o0_6_l5 x_o0_7_r11 x95)
    else (spec_l16Search_run_k16 self b_4_l5 x_0 x_o0_0_l5 x_o0_1_l5 x_o0_2_l5 x_o0_3_l5 x_o0_4_l5 x_o0_5_l5 x_o0_6_l5 x_o0_7_r11 x_o0_4_l5))
noncomputable def spec_l16Search_run_l5 (self : S_l16Search → Option (Bool × S_l16Search)) (x_0 : S_l16Search) (s : (Int × (List Int) × Int × Int × (List Int) × (List Int) × Int × Int × Bool)) : Option ((Int × (List Int) × Int × Int × (List Int) × (List Int) × Int × Int × Bool) ⊕ (((List Int) × Int × Int × (List Int) × (List Int) × Int × Int × Bool) ⊕ (Bool × S_l16Search))) :=
  match s with
    | (b_4_l5, x_o0_0_l5, x_o0_1_l5, x_o0_2_l5, x_o0_3_l5, x_o0_4_l5, x_o0_5_l5, x_o0_6_l5, x_o0_7_l5) =>
    if (b_4_l5 < x_o0_2_l5 ∧ b_4_l5 ≤ (x_o0_4_l5.length : Int)) then
    ((if b_4_l5 = (x_o0_4_l5.length : Int) then
    (some false)
    else ((rd x_o0_4_l5 b_4_l5).bind fun x50 =>
    (rd x_o0_0_l5 (x_0.blades.length : Int)).bind fun x57 =>
    some (decide (x50 < x57)))).bind fun t_60_m8 =>
    if t_60_m8 = true then
    (spec_l16Search_run_k6 self b_4_l5 x_o0_0_l5 x_o0_1_l5 x_o0_2_l5 x_o0_3_l5 x_o0_4_l5 x_o0_5_l5 x_o0_6_l5 x_o0_7_l5)
    else (if x_o0_5_l5 = x_o0_6_l5 then
    (spec_l16Search_run_k11 self b_4_l5 x_0 x_o0_0_l5 x_o0_1_l5 x_o0_2_l5 x_o0_3_l5 x_o0_4_l5 x_o0_5_l5 x_o0_6_l5 true)
    else (spec_l16Search_run_k11 self b_4_l5 x_0 x_o0_0_l5 x_o0_1_l5 x_o0_2_l5 x_o0_3_l5 x_o0_4_l5 x_o0_5_l5 x_o0_6_l5 x_o0_7_l5)))
    else (some (.inr (.inl (x_o0_0_l5, x_o0_1_l5, x_o0_2_l5, x_o0_3_l5, x_o0_4_l5, x_o0_5_l5, x_o0_6_l5, x_o0_7_l5))))
noncomputable def spec_l16Search_run_F (self : S_l16Search → Option (Bool × S_l16Search)) (x_0 : S_l16Search) : Option (Bool × S_l16Search) :=
  if (x_0.blades.length : Int) = (x_0.wears.length : Int) then
    (some (true, x_0))
    else ((loopO (spec_l16Search_run_l5 self x_0) (0, x_0.wears, x_0.life, x_0.most, x_0.blades, x_0.left, x_0.nodes, x_0.budget, x_0.full)).bind fun o => match o with
    | (.inl (x_o0_0_e0_5, x_o0_1_e0_5, x_o0_2_e0_5, x_o0_3_e0_5, x_o0_4_e0_5, x_o0_5_e0_5, x_o0_6_e0_5, x_o0_7_e0_5)) => (some (false, (⟨x_o0_0_e0_5, x_o0_1_e0_5, x_o0_2_e0_5, x_o0_3_e0_5, x_o0_4_e0_5, x_o0_5_e0_5, x_o0_6_e0_5, x_o0_7_e0_5⟩ : S_l16Search)))
    | (.inr r2) => (some r2))
noncomputable def spec_l16Search_run (x_0 : S_l16Search) : Option (Bool × S_l16Search) := fixO (fun self x_0 => spec_l16Search_run_F self x_0) x_0
noncomputable def spec_l00Own (list_0 : (List Int)) : Option (List Int) :=
  (apd 8 ([] : List Int) list_0).bind fun x5 =>
    some x5
noncomputable def spec_FewestBlades_l8 (list_1 : (List S_Cutting)) (s : (Int × (List Int) × Int × Int × (List Int) × (List Int) × Int × Int × Bool)) : Option ((Int × (List Int) × Int × Int × (List Int) × (List Int) × Int × Int × Bool) ⊕ (Unit ⊕ ((List Int) × Int × Int))) :=
  match s with
    | (m_11_l8, o_o30_0_l8, o_o30_1_l8, o_o30_2_l8, o_o30_3_l8, o_o30_4_l8, o_o30_5_l8, o_o30_6_l8, o_o30_7_l8) =>
    if m_11_l8 ≤ (list_1.length : Int) then
    ((spec_l16Search_run (⟨o_o30_0_l8, o_o30_1_l8, m_11_l8, o_o30_3_l8, o_o30_4_l8, o_o30_5_l8, o_o30_6_l8, o_o30_7_l8⟩ : S_l16Search)).bind fun x42 =>
    if x42.1 = true then
    ((spec_l00Own x42.2.blades).bind fun x47 =>
    some (.inr (.inr (x47, m_11_l8, 0))))
    else (if x42.2.full = true then
    (some (.inr (.inl ())))
    else (some (.inl ((w64 (m_11_l8 + 1)), x42.2.wears, x42.2.life, x42.2.most, x42.2.blades, x42.2.left, x42.2.nodes, x42.2.budget, x42.2.full)))))
    else (some (.inr (.inl ())))
noncomputable def spec_FewestBlades_k4 (b_0 : S_Blade) (budget_2 : Int) (list_1 : (List S_Cutting)) (code_9_r4 : Int) : Option ((List Int) × Int × Int) :=
  if code_9_r4 ≠ 0 then
    (some (([] : List Int), 0, code_9_r4))
    else ((spec_l16Wears list_1).bind fun x25 =>
    (loopO (spec_FewestBlades_l8 list_1) (0, x25, b_0.Life, 0, ([] : List Int), ([] : List Int), 0, budget_2, false)).bind fun o => match o with
    | (.inl _) => (some (([] : List Int), 0, 5))
    | (.inr r2) => (some r2))
noncomputable def spec_FewestBlades (b_0 : S_Blade) (list_1 : (List S_Cutting)) (budget_2 : Int) : Option ((List Int) × Int × Int) :=
  (spec_l16Ask b_0 list_1).bind fun x13 =>
    (if x13 = 0 then
    ((spec_l00In budget_2 1 20000).bind fun x18 =>
    some (!x18))
    else (some false)).bind fun t_20_m2 =>
    if t_20_m2 = true then
    (spec_FewestBlades_k4 b_0 budget_2 list_1 2)
    else (spec_FewestBlades_k4 b_0 budget_2 list_1 x13)
noncomputable def impl_IsName_l4 (s_0 : ByteArray) (i_3_l4 : Int) : Option (Int ⊕ (Unit ⊕ Bool)) :=
  if i_3_l4 < (s_0.size : Int) then
    ((bt s_0 i_3_l4).bind fun x30 =>
    (if x30 < 97 then
    ((bt s_0 i_3_l4).bind fun x41 =>
    if x41 < 48 then
    (some true)
    else ((bt s_0 i_3_l4).bind fun x46 =>
    some (decide (x46 > 57))))
    else ((bt s_0 i_3_l4).bind fun x35 =>
    if x35 > 122 then
    ((bt s_0 i_3_l4).bind fun x41 =>
    if x41 < 48 then
    (some true)
    else ((bt s_0 i_3_l4).bind fun x46 =>
    some (decide (x46 > 57))))
    else (some false))).bind fun t_49_m6 =>
    if t_49_m6 = true then
    (some (.inr (.inr false)))
    else (some (.inl (w64 (i_3_l4 + 1)))))
    else (some (.inr (.inl ())))
noncomputable def impl_IsName (s_0 : ByteArray) : Option Bool :=
  (if (s_0.size : Int) < 1 then
    (some true)
    else (if (s_0.size : Int) > 10 then
    (some true)
    else ((bt s_0 0).bind fun x14 =>
    if x14 < 97 then
    (some true)
    else ((bt s_0 0).bind fun x19 =>
    some (decide (x19 > 122)))))).bind fun t_21_m1 =>
    if t_21_m1 = true then
    (some false)
    else ((loopO (impl_IsName_l4 s_0) 0).bind fun o => match o with
    | (.inl _) => (some true)
    | (.inr r2) => (some r2))
noncomputable def impl_within (n_0 : Int) (low_1 : Int) (high_2 : Int) : Option Bool :=
  some ((decide (n_0 ≥ low_1)) && (decide (n_0 ≤ high_2)))
noncomputable def impl_ValidBlade (b_0 : S_Blade) : Option Bool :=
  (impl_IsName b_0.Name).bind fun x5 =>
    (if x5 = true then
    ((impl_within b_0.Life 1 1000000).bind fun x9 =>
    if x9 = true then
    ((impl_within b_0.Price 0 1000000).bind fun x14 =>
    if x14 = true then
    ((impl_within b_0.Speed 1 10000).bind fun x19 =>
    some x19)
    else (some false))
    else (some false))
    else (some false)).bind fun t_2_m1 =>
    some t_2_m1
noncomputable def impl_validCutting (c_0 : S_Cutting) : Option Bool :=
  (impl_IsName c_0.Name).bind fun x5 =>
    (if x5 = true then
    ((impl_within c_0.Length 1 1000000).bind fun x9 =>
    if x9 = true then
    ((impl_within c_0.Hardness 1 100).bind fun x14 =>
    some x14)
    else (some false))
    else (some false)).bind fun t_2_m1 =>
    some t_2_m1
noncomputable def impl_ValidCuttings_l2 (list_0 : (List S_Cutting)) (t_7_l2 : Int) : Option (Int ⊕ (Unit ⊕ Bool)) :=
  if t_7_l2 < (list_0.length : Int) then
    ((rd list_0 t_7_l2).bind fun x10 =>
    (impl_validCutting x10).bind fun x13 =>
    (if x13 = true then
    (if t_7_l2 > 0 then
    ((rd list_0 (w64 (t_7_l2 - 1))).bind fun x22 =>
    some (!Op.bytesLess x22.Name.toList x10.Name.toList))
    else (some false))
    else (some true)).bind fun t_29_m4 =>
    if t_29_m4 = true then
    (some (.inr (.inr false)))
    else (some (.inl (w64 (t_7_l2 + 1)))))
    else (some (.inr (.inl ())))
noncomputable def impl_ValidCuttings (list_0 : (List S_Cutting)) : Option Bool :=
  (loopO (impl_ValidCuttings_l2 list_0) 0).bind fun o => match o with
    | (.inl _) => (some (decide ((list_0.length : Int) ≤ 16)))
    | (.inr r2) => (some r2)
noncomputable def impl_upDiv (a_0 : Int) (b_1 : Int) : Option Int :=
  (dv .i64 (w64 ((w64 (a_0 + b_1)) - 1)) b_1).bind fun x10 =>
    some x10
noncomputable def impl_wear (c_0 : S_Cutting) : Option Int :=
  (impl_upDiv (w64 (c_0.Length * c_0.Hardness)) 40).bind fun x8 =>
    some x8
noncomputable def impl_wears_l5 (b_0 : S_Blade) (list_1 : (List S_Cutting)) (s : (Int × (List Int))) : Option ((Int × (List Int)) ⊕ ((List Int) ⊕ ((List Int) × Int))) :=
  match s with
    | (t_20_l5, out_o6_l5) =>
    if t_20_l5 < (list_1.length : Int) then
    ((rd list_1 t_20_l5).bind fun x22 =>
    (impl_wear x22).bind fun x25 =>
    if x25 > b_0.Life then
    (some (.inr (.inr (([] : List Int), 6))))
    else ((impl_wear x22).bind fun x31 =>
    (apd 8 out_o6_l5 ([x31] : List Int)).bind fun x33 =>
    some (.inl ((w64 (t_20_l5 + 1)), x33))))
    else (some (.inr (.inl out_o6_l5)))
noncomputable def impl_wears (b_0 : S_Blade) (list_1 : (List S_Cutting)) : Option ((List Int) × Int) :=
  (impl_ValidBlade b_0).bind fun x10 =>
    (if x10 = true then
    ((impl_ValidCuttings list_1).bind fun x14 =>
    some (!x14))
    else (some true)).bind fun t_16_m1 =>
    if t_16_m1 = true then
    (some (([] : List Int), 1))
    else ((loopO (impl_wears_l5 b_0 list_1) (0, ([] : List Int))).bind fun o => match o with
    | (.inl out_o6_e0_5) => (some (out_o6_e0_5, 0))
    | (.inr r2) => (some r2))
noncomputable def impl_bladeSearch_run_k6 (self : (S_bladeSearch × (List Int) × (List Int) × Int) → Option ((List Int) × Int × S_bladeSearch)) (k_11_l5 : Int) (s_o0_0_r6 : (List Int)) (s_o0_1_r6 : Int) (s_o0_2_r6 : Int) : Option ((Int × (List Int) × Int × Int) ⊕ (((List Int) × Int × Int) ⊕ ((List Int) × Int × S_bladeSearch))) :=
  some (.inl ((w64 (k_11_l5 + 1)), s_o0_0_r6, s_o0_1_r6, s_o0_2_r6))
noncomputable def impl_bladeSearch_run_k10 (self : (S_bladeSearch × (List Int) × (List Int) × Int) → Option ((List Int) × Int × S_bladeSearch)) (choice_1 : (List Int)) (k_11_l5 : Int) (most_3 : Int) (s_o0_0_l5 : (List Int)) (s_o0_1_l5 : Int) (s_o0_2_l5 : Int) (x30 : Int) (next_o12_r10 : (List Int)) : Option ((Int × (List Int) × Int × Int) ⊕ (((List Int) × Int × Int) ⊕ ((List Int) × Int × S_bladeSearch))) :=
  (rd next_o12_r10 k_11_l5).bind fun x54 =>
    if (w64 (x54 + x30)) > s_o0_1_l5 then
    (impl_bladeSearch_run_k6 self k_11_l5 s_o0_0_l5 s_o0_1_l5 s_o0_2_l5)
    else (if s_o0_2_l5 = 0 then
    (some (.inr (.inr (([] : List Int), 5, (⟨s_o0_0_l5, s_o0_1_l5, s_o0_2_l5⟩ : S_bladeSearch)))))
    else ((rd next_o12_r10 k_11_l5).bind fun x77 =>
    (rd next_o12_r10 k_11_l5).bind fun x81 =>
    (apd 8 ([] : List Int) choice_1).bind fun x85 =>
    (apd 8 x85 ([k_11_l5] : List Int)).bind fun x88 =>
    (self ((⟨s_o0_0_l5, s_o0_1_l5, (w64 (s_o0_2_l5 - 1))⟩ : S_bladeSearch), x88, (next_o12_r10.set k_11_l5.toNat (w64 (x77 + x30))), most_3)).bind fun x91 =>
    if x91.2.1 ≠ 3 then
    (some (.inr (.inr (x91.1, x91.2.1, x91.2.2))))
    else (impl_bladeSearch_run_k6 self k_11_l5 x91.2.2.wears x91.2.2.life x91.2.2.left)))
noncomputable def impl_bladeSearch_run_l5 (self : (S_bladeSearch × (List Int) × (List Int) × Int) → Option ((List Int) × Int × S_bladeSearch)) (choice_1 : (List Int)) (most_3 : Int) (used_2 : (List Int)) (x30 : Int) (s : (Int × (List Int) × Int × Int)) : Option ((Int × (List Int) × Int × Int) ⊕ (((List Int) × Int × Int) ⊕ ((List Int) × Int × S_bladeSearch))) :=
  match s with
    | (k_11_l5, s_o0_0_l5, s_o0_1_l5, s_o0_2_l5) =>
    if (k_11_l5 ≤ (used_2.length : Int) ∧ k_11_l5 < most_3) then
    ((apd 8 ([] : List Int) used_2).bind fun x44 =>
    if k_11_l5 = (used_2.length : Int) then
    ((apd 8 x44 ([0] : List Int)).bind fun x51 =>
    impl_bladeSearch_run_k10 self choice_1 k_11_l5 most_3 s_o0_0_l5 s_o0_1_l5 s_o0_2_l5 x30 x51)
    else (impl_bladeSearch_run_k10 self choice_1 k_11_l5 most_3 s_o0_0_l5 s_o0_1_l5 s_o0_2_l5 x30 x44))
    else (some (.inr (.inl (s_o0_0_l5, s_o0_1_l5, s_o0_2_l5))))
noncomputable def impl_bladeSearch_run_F (self : (S_bladeSearch × (List Int) × (List Int) × Int) → Option ((List Int) × Int × S_bladeSearch)) (s_0 : S_bladeSearch) (choice_1 : (List Int)) (used_2 : (List Int)) (most_3 : Int) : Option ((List Int) × Int × S_bladeSearch) :=
  if (choice_1.length : Int) = (s_0.wears.length : Int) then
    (some (choice_1, 0, s_0))
    else ((rd s_0.wears (choice_1.length : Int)).bind fun x30 =>
    (loopO (impl_bladeSearch_run_l5 self choice_1 most_3 used_2 x30) (0, s_0.wears, s_0.life, s_0.left)).bind fun o => match o with
    | (.inl (s_o0_0_e0_5, s_o0_1_e0_5, s_o0_2_e0_5)) => (some (([] : List Int), 3, (⟨s_o0_0_e0_5, s_o0_1_e0_5, s_o0_2_e0_5⟩ : S_bladeSearch)))
    | (.inr r2) => (some r2))
noncomputable def impl_bladeSearch_run (s_0 : S_bladeSearch) (choice_1 : (List Int)) (used_2 : (List Int)) (most_3 : Int) : Option ((List Int) × Int × S_bladeSearch) := fixO (fun self s => match s with | (s_0, choice_1, used_2, most_3) => impl_bladeSearch_run_F self s_0 choice_1 used_2 most_3) (s_0, choice_1, used_2, most_3)
noncomputable def impl_FewestBlades_l9 (s : (Int × (List Int) × Int × Int)) : Option ((Int × (List Int) × Int × Int) ⊕ ((List Int) × Int × Int)) :=
  match s with
    | (m_12_l9, o_o36_0_l9, o_o36_1_l9, o_o36_2_l9) =>
    (impl_bladeSearch_run (⟨o_o36_0_l9, o_o36_1_l9, o_o36_2_l9⟩ : S_bladeSearch) ([] : List Int) ([] : List Int) m_12_l9).bind fun x42 =>
    if x42.2.1 = 0 then
    (some (.inr (x42.1, m_12_l9, 0)))
    else (if x42.2.1 ≠ 3 then
    (some (.inr (([] : List Int), 0, x42.2.1)))
    else (some (.inl ((w64 (m_12_l9 + 1)), x42.2.2.wears, x42.2.2.life, x42.2.2.left))))
noncomputable def impl_FewestBlades_k4 (b_0 : S_Blade) (budget_2 : Int) (x18 : ((List Int) × Int)) (code_10_r4 : Int) : Option ((List Int) × Int × Int) :=
  if code_10_r4 ≠ 0 then
    (some (([] : List Int), 0, code_10_r4))
    else ((loopO (impl_FewestBlades_l9) (0, x18.1, b_0.Life, budget_2)).bind fun r2 =>
    some r2)
noncomputable def impl_FewestBlades (b_0 : S_Blade) (list_1 : (List S_Cutting)) (budget_2 : Int) : Option ((List Int) × Int × Int) :=
  (impl_wears b_0 list_1).bind fun x18 =>
    (if x18.2 = 0 then
    ((impl_within budget_2 1 20000).bind fun x25 =>
    some (!x25))
    else (some false)).bind fun t_27_m2 =>
    if t_27_m2 = true then
    (impl_FewestBlades_k4 b_0 budget_2 x18 2)
    else (impl_FewestBlades_k4 b_0 budget_2 x18 x18.2)
noncomputable def laws_eqInt64S_l4 (a_0 : (List Int)) (b_1 : (List Int)) (i_5_l4 : Int) : Option (Int ⊕ (Unit ⊕ Bool)) :=
  if i_5_l4 < (a_0.length : Int) then
    ((rd a_0 i_5_l4).bind fun x19 =>
    (rd b_1 i_5_l4).bind fun x23 =>
    if x19 ≠ x23 then
    (some (.inr (.inr false)))
    else (some (.inl (w64 (i_5_l4 + 1)))))
    else (some (.inr (.inl ())))
noncomputable def laws_eqInt64S (a_0 : (List Int)) (b_1 : (List Int)) : Option Bool :=
  if (a_0.length : Int) ≠ (b_1.length : Int) then
    (some false)
    else ((loopO (laws_eqInt64S_l4 a_0 b_1) 0).bind fun o => match o with
    | (.inl _) => (some true)
    | (.inr r2) => (some r2))
noncomputable def laws_eqCutting (a_0 : S_Cutting) (b_1 : S_Cutting) : Option Bool :=
  if ¬ (a_0.Name = b_1.Name) then
    (some false)
    else (if a_0.Length ≠ b_1.Length then
    (some false)
    else (if a_0.Hardness ≠ b_1.Hardness then
    (some false)
    else (some true)))
noncomputable def laws_eqCuttingS_l4 (a_0 : (List S_Cutting)) (b_1 : (List S_Cutting)) (i_5_l4 : Int) : Option (Int ⊕ (Unit ⊕ Bool)) :=
  if i_5_l4 < (a_0.length : Int) then
    ((rd a_0 i_5_l4).bind fun x19 =>
    (rd b_1 i_5_l4).bind fun x23 =>
    (laws_eqCutting x19 x23).bind fun x25 =>
    if x25 = true then
    (some (.inl (w64 (i_5_l4 + 1))))
    else (some (.inr (.inr false))))
    else (some (.inr (.inl ())))
noncomputable def laws_eqCuttingS (a_0 : (List S_Cutting)) (b_1 : (List S_Cutting)) : Option Bool :=
  if (a_0.length : Int) ≠ (b_1.length : Int) then
    (some false)
    else ((loopO (laws_eqCuttingS_l4 a_0 b_1) 0).bind fun o => match o with
    | (.inl _) => (some true)
    | (.inr r2) => (some r2))
noncomputable def laws_markText_l4 (s : (Int × ByteArray)) : Option ((Int × ByteArray) ⊕ ByteArray) :=
  match s with
    | (k_0_l4, out_3_l4) =>
    if k_0_l4 > 0 then
    ((md k_0_l4 10).bind fun x9 =>
    (cat (strOf ([(IntKind.wrap .u8 ((w64 (48 + x9))))] : List Int)) out_3_l4).bind fun x15 =>
    (dv .i64 k_0_l4 10).bind fun x17 =>
    some (.inl (x17, x15)))
    else (some (.inr out_3_l4))
noncomputable def laws_markText (k_0 : Int) : Option ByteArray :=
  if k_0 ≤ 0 then
    (some (⟨#[109, 48]⟩ : ByteArray))
    else ((loopO (laws_markText_l4) (k_0, (⟨#[]⟩ : ByteArray))).bind fun out_3_e0_4 =>
    (cat (⟨#[109]⟩ : ByteArray) out_3_e0_4).bind fun x19 =>
    some x19)
noncomputable def laws_markCuttingS_l2 (s : (Int × Int × (List S_Cutting))) : Option ((Int × Int × (List S_Cutting)) ⊕ (Int × (List S_Cutting))) :=
  match s with
    | (k_1_l2, i_5_l2, a_o0_l2) =>
    if i_5_l2 < (a_o0_l2.length : Int) then
    ((laws_markText k_1_l2).bind fun x15 =>
    (rd a_o0_l2 i_5_l2).bind fun x16 =>
    (rd (a_o0_l2.set i_5_l2.toNat (⟨x15, x16.Length, x16.Hardness⟩ : S_Cutting)) i_5_l2).bind fun x23 =>
    (rd ((a_o0_l2.set i_5_l2.toNat (⟨x15, x16.Length, x16.Hardness⟩ : S_Cutting)).set i_5_l2.toNat (⟨x23.Name, (w64 (k_1_l2 + 1)), x23.Hardness⟩ : S_Cutting)) i_5_l2).bind fun x30 =>
    some (.inl ((w64 ((w64 ((w64 (k_1_l2 + 1)) + 1)) + 1)), (w64 (i_5_l2 + 1)), (((a_o0_l2.set i_5_l2.toNat (⟨x15, x16.Length, x16.Hardness⟩ : S_Cutting)).set i_5_l2.toNat (⟨x23.Name, (w64 (k_1_l2 + 1)), x23.Hardness⟩ : S_Cutting)).set i_5_l2.toNat (⟨x30.Name, x30.Length, (w64 ((w64 (k_1_l2 + 1)) + 1))⟩ : S_Cutting)))))
    else (some (.inr (k_1_l2, a_o0_l2)))
noncomputable def laws_markCuttingS (a_0 : (List S_Cutting)) (k_1 : Int) : Option (Int × (List S_Cutting)) :=
  (loopO (laws_markCuttingS_l2) (k_1, 0, a_0)).bind fun o => match o with
    | (k_1_e0_2, a_o0_e0_2) =>
    some (k_1_e0_2, a_o0_e0_2)
noncomputable def laws_markInt64S_l2 (s : (Int × Int × (List Int))) : Option ((Int × Int × (List Int)) ⊕ (Int × (List Int))) :=
  match s with
    | (k_1_l2, i_5_l2, a_o0_l2) =>
    if i_5_l2 < (a_o0_l2.length : Int) then
    ((rd a_o0_l2 i_5_l2).bind fun x15 =>
    some (.inl ((w64 (k_1_l2 + 1)), (w64 (i_5_l2 + 1)), (a_o0_l2.set i_5_l2.toNat k_1_l2))))
    else (some (.inr (k_1_l2, a_o0_l2)))
noncomputable def laws_markInt64S (a_0 : (List Int)) (k_1 : Int) : Option (Int × (List Int)) :=
  (loopO (laws_markInt64S_l2) (k_1, 0, a_0)).bind fun o => match o with
    | (k_1_e0_2, a_o0_e0_2) =>
    some (k_1_e0_2, a_o0_e0_2)
noncomputable def laws_heldInt64S_l2 (a_0 : (List Int)) (s : (Int × Int)) : Option ((Int × Int) ⊕ (Int ⊕ Int)) :=
  match s with
    | (k_1_l2, i_5_l2) =>
    if i_5_l2 < (a_0.length : Int) then
    ((rd a_0 i_5_l2).bind fun x14 =>
    if x14 ≠ k_1_l2 then
    (some (.inr (.inr (-1))))
    else (some (.inl ((w64 (k_1_l2 + 1)), (w64 (i_5_l2 + 1))))))
    else (some (.inr (.inl k_1_l2)))
noncomputable def laws_heldInt64S (a_0 : (List Int)) (k_1 : Int) : Option Int :=
  (loopO (laws_heldInt64S_l2 a_0) (k_1, 0)).bind fun o => match o with
    | (.inl k_1_e0_2) => (some k_1_e0_2)
    | (.inr r2) => (some r2)
noncomputable def laws_FnExactFewestBlades (aB_0 : S_Blade) (aList_1 : (List S_Cutting)) (aBudget_2 : Int) : Option Bool :=
  (laws_szBlade aB_0 1048576).bind fun x23 =>
    if x23 < 0 then
    (some true)
    else ((laws_szCuttingS aList_1 x23).bind fun x28 =>
    if x28 < 0 then
    (some true)
    else ((laws_toBlade aB_0).bind fun x33 =>
    (laws_toCuttingS aList_1).bind fun x35 =>
    (spec_FewestBlades x33 x35 aBudget_2).bind fun x37 =>
    (laws_toCuttingS aList_1).bind fun x42 =>
    (laws_toBlade aB_0).bind fun x45 =>
    (impl_FewestBlades x45 x42 aBudget_2).bind fun x48 =>
    (laws_eqInt64S x48.1 x37.1).bind fun x54 =>
    if (¬ (x54 = true) ∨ (x48.2.1 ≠ x37.2.1 ∨ x48.2.2 ≠ x37.2.2)) then
    (some false)
    else ((laws_toCuttingS aList_1).bind fun x68 =>
    (laws_eqCuttingS x42 x68).bind fun x69 =>
    if x69 = true then
    ((laws_markCuttingS x42 1).bind fun x73 =>
    (if x73.1 < 0 then
    (some true)
    else ((laws_eqInt64S x48.1 x37.1).bind fun x79 =>
    if x79 = true then
    (if x48.2.1 ≠ x37.2.1 then
    (some true)
    else (some (x48.2.2 != x37.2.2)))
    else (some true))).bind fun t_91_m17 =>
    if t_91_m17 = true then
    (some false)
    else ((laws_markInt64S x48.1 1).bind fun x94 =>
    (laws_heldInt64S x94.2 1).bind fun x97 =>
    if x97 < 0 then
    (some false)
    else (if x97 ≠ x94.1 then
    (some false)
    else ((laws_toBlade aB_0).bind fun x105 =>
    (laws_toCuttingS aList_1).bind fun x107 =>
    (impl_FewestBlades x105 x107 aBudget_2).bind fun x109 =>
    (laws_eqInt64S x109.1 x37.1).bind fun x115 =>
    if (¬ (x115 = true) ∨ (x109.2.1 ≠ x37.2.1 ∨ x109.2.2 ≠ x37.2.2)) then
    (some false)
    else ((laws_heldInt64S x94.2 1).bind fun x129 =>
    if x129 < 0 then
    (some false)
    else (if x129 ≠ x94.1 then
    (some false)
    else (some true)))))))
    else (some false))))

end Go.Pw
