/- Plain functions that answer what the program's functions answer. Conditions: none; definitions alone. -/
import Derived.Test.YtigjhjlkdamncaaSimPz
namespace Go.Pw
open Go.Sim (min2 max2)
set_option linter.unusedVariables false

structure S_Bond where
  Name : ByteArray
  Spread : Int
  Open : Int
  Press : Int

structure S_l24Search where
  list : (List S_Bond)
  presses : Int
  order : (List Int)
  best : (List Int)
  least : Int
  nodes : Int
  budget : Int
  full : Bool

structure S_glueSearch where
  list : (List S_Bond)
  presses : Int
  left : Int
  found : Bool
  best : (List Int)
  least : Int

structure Ar4_Int where
  e0 : Int
  e1 : Int
  e2 : Int
  e3 : Int

structure S_gluing where
  ready : Int
  free : Ar4_Int
  end_ : Int

structure S_glued where
  start : Int
  press : Int
  begin : Int
  end_ : Int

noncomputable def laws_szBond (a_0 : S_Bond) (left_1 : Int) : Option Int :=
  if (w64 (left_1 - (a_0.Name.size : Int))) < 0 then
    (some (-1))
    else (some (w64 (left_1 - (a_0.Name.size : Int))))
noncomputable def laws_szBondS_l5 (a_0 : (List S_Bond)) (s : (Int × Int)) : Option ((Int × Int) ⊕ (Int ⊕ Int)) :=
  match s with
    | (left_1_l5, i_5_l5) =>
    if i_5_l5 < (a_0.length : Int) then
    ((rd a_0 i_5_l5).bind fun x20 =>
    (laws_szBond x20 left_1_l5).bind fun x23 =>
    if x23 < 0 then
    (some (.inr (.inr (-1))))
    else (some (.inl (x23, (w64 (i_5_l5 + 1))))))
    else (some (.inr (.inl left_1_l5)))
noncomputable def laws_szBondS (a_0 : (List S_Bond)) (left_1 : Int) : Option Int :=
  if (w64 (left_1 - (a_0.length : Int))) < 0 then
    (some (-1))
    else ((loopO (laws_szBondS_l5 a_0) ((w64 (left_1 - (a_0.length : Int))), 0)).bind fun o => match o with
    | (.inl left_1_e0_5) => (some left_1_e0_5)
    | (.inr r2) => (some r2))
noncomputable def laws_toBond (a_0 : S_Bond) : Option S_Bond :=
  some a_0
noncomputable def laws_toBondS_l3 (a_0 : (List S_Bond)) (s : (Int × (List S_Bond))) : Option ((Int × (List S_Bond)) ⊕ (List S_Bond)) :=
  match s with
    | (i_4_l3, out_o3_l3) =>
    if i_4_l3 < (a_0.length : Int) then
    ((rd a_0 i_4_l3).bind fun x18 =>
    (laws_toBond x18).bind fun x20 =>
    (rd out_o3_l3 i_4_l3).bind fun x21 =>
    some (.inl ((w64 (i_4_l3 + 1)), (out_o3_l3.set i_4_l3.toNat x20))))
    else (some (.inr out_o3_l3))
noncomputable def laws_toBondS (a_0 : (List S_Bond)) : Option (List S_Bond) :=
  (mkl 40 (a_0.length : Int) (⟨(⟨#[]⟩ : ByteArray), 0, 0, 0⟩ : S_Bond)).bind fun x7 =>
    (loopO (laws_toBondS_l3 a_0) (0, x7)).bind fun out_o3_e0_3 =>
    some out_o3_e0_3
noncomputable def spec_l01Small (c_0 : Int) : Option Bool :=
  some ((decide (c_0 ≥ 97)) && (decide (c_0 ≤ 122)))
noncomputable def spec_l01Digit (c_0 : Int) : Option Bool :=
  some ((decide (c_0 ≥ 48)) && (decide (c_0 ≤ 57)))
noncomputable def spec_l01Name_l4 (s_0 : ByteArray) (i_3_l4 : Int) : Option (Int ⊕ (Unit ⊕ Bool)) :=
  if i_3_l4 < (s_0.size : Int) then
    ((bt s_0 i_3_l4).bind fun x25 =>
    (spec_l01Small x25).bind fun x26 =>
    (if x26 = true then
    (some false)
    else ((bt s_0 i_3_l4).bind fun x31 =>
    (spec_l01Digit x31).bind fun x32 =>
    some (!x32))).bind fun t_34_m6 =>
    if t_34_m6 = true then
    (some (.inr (.inr false)))
    else (some (.inl (w64 (i_3_l4 + 1)))))
    else (some (.inr (.inl ())))
noncomputable def spec_l01Name (s_0 : ByteArray) : Option Bool :=
  (if s_0 = (⟨#[]⟩ : ByteArray) then
    (some true)
    else (if (s_0.size : Int) > 10 then
    (some true)
    else ((bt s_0 0).bind fun x13 =>
    (spec_l01Small x13).bind fun x14 =>
    some (!x14)))).bind fun t_16_m1 =>
    if t_16_m1 = true then
    (some false)
    else ((loopO (spec_l01Name_l4 s_0) 0).bind fun o => match o with
    | (.inl _) => (some true)
    | (.inr r2) => (some r2))
noncomputable def spec_l00In (n_0 : Int) (low_1 : Int) (high_2 : Int) : Option Bool :=
  some ((decide (n_0 ≥ low_1)) && (decide (n_0 ≤ high_2)))
noncomputable def spec_l24One (b_0 : S_Bond) : Option Bool :=
  (spec_l01Name b_0.Name).bind fun x7 =>
    (if x7 = true then
    ((spec_l00In b_0.Spread 1 120).bind fun x13 =>
    if x13 = true then
    ((spec_l00In b_0.Open b_0.Spread 240).bind fun x24 =>
    if x24 = true then
    ((spec_l00In b_0.Press 1 1440).bind fun x31 =>
    some x31)
    else (some false))
    else (some false))
    else (some false)).bind fun t_2_m1 =>
    some t_2_m1
noncomputable def spec_l24Ok_l2 (list_0 : (List S_Bond)) (i_3_l2 : Int) : Option (Int ⊕ (Unit ⊕ Bool)) :=
  if i_3_l2 < (list_0.length : Int) then
    ((rd list_0 i_3_l2).bind fun x12 =>
    (spec_l24One x12).bind fun x13 =>
    (if x13 = true then
    (if i_3_l2 > 0 then
    ((rd list_0 (w64 (i_3_l2 - 1))).bind fun x22 =>
    (rd list_0 i_3_l2).bind fun x27 =>
    some (!Op.bytesLess x22.Name.toList x27.Name.toList))
    else (some false))
    else (some true)).bind fun t_32_m4 =>
    if t_32_m4 = true then
    (some (.inr (.inr false)))
    else (some (.inl (w64 (i_3_l2 + 1)))))
    else (some (.inr (.inl ())))
noncomputable def spec_l24Ok (list_0 : (List S_Bond)) : Option Bool :=
  (loopO (spec_l24Ok_l2 list_0) 0).bind fun o => match o with
    | (.inl _) => (some (decide ((list_0.length : Int) ≤ 12)))
    | (.inr r2) => (some r2)
noncomputable def spec_l00Max (a_0 : Int) (b_1 : Int) : Option Int :=
  if a_0 > b_1 then
    (some a_0)
    else (some b_1)
noncomputable def spec_l24Times_k11 (k_13_l10 : Int) (press_12_r11 : Int) : Option ((Int × Int) ⊕ Int) :=
  some (.inl (press_12_r11, (w64 (k_13_l10 + 1))))
noncomputable def spec_l24Times_l10 (free_o7_l5 : (List Int)) (presses_2 : Int) (s : (Int × Int)) : Option ((Int × Int) ⊕ Int) :=
  match s with
    | (press_12_l10, k_13_l10) =>
    if k_13_l10 < presses_2 then
    ((rd free_o7_l5 k_13_l10).bind fun x39 =>
    (rd free_o7_l5 press_12_l10).bind fun x43 =>
    if x39 < x43 then
    (spec_l24Times_k11 k_13_l10 k_13_l10)
    else (spec_l24Times_k11 k_13_l10 press_12_l10))
    else (some (.inr press_12_l10))
noncomputable def spec_l24Times_l5 (list_0 : (List S_Bond)) (order_1 : (List Int)) (presses_2 : Int) (s : (Int × Int × (List Int) × (List (List Int)))) : Option ((Int × Int × (List Int) × (List (List Int))) ⊕ (List (List Int))) :=
  match s with
    | (worker_8_l5, i_10_l5, free_o7_l5, out_o9_l5) =>
    if i_10_l5 < (order_1.length : Int) then
    ((rd order_1 i_10_l5).bind fun x28 =>
    (rd list_0 x28).bind fun x30 =>
    (loopO (spec_l24Times_l10 free_o7_l5 presses_2) (0, 1)).bind fun press_12_e2_10 =>
    (rd free_o7_l5 press_12_e2_10).bind fun x50 =>
    (spec_l00Max worker_8_l5 (w64 (x50 - x30.Open))).bind fun x55 =>
    (rd free_o7_l5 press_12_e2_10).bind fun x62 =>
    (spec_l00Max (w64 (x55 + x30.Spread)) x62).bind fun x64 =>
    (rd free_o7_l5 press_12_e2_10).bind fun x75 =>
    (apd 24 out_o9_l5 ([([x55, press_12_e2_10, x64, (w64 (x64 + x30.Press))] : List Int)] : List (List Int))).bind fun x86 =>
    some (.inl ((w64 (x55 + x30.Spread)), (w64 (i_10_l5 + 1)), (free_o7_l5.set press_12_e2_10.toNat (w64 (x64 + x30.Press))), x86)))
    else (some (.inr out_o9_l5))
noncomputable def spec_l24Times (list_0 : (List S_Bond)) (order_1 : (List Int)) (presses_2 : Int) : Option (List (List Int)) :=
  (mkl 8 presses_2 0).bind fun x17 =>
    (loopO (spec_l24Times_l5 list_0 order_1 presses_2) (0, 0, x17, ([] : List (List Int)))).bind fun out_o9_e0_5 =>
    some out_o9_e0_5
noncomputable def spec_l24End_l3 (times_0 : (List (List Int))) (s : (Int × Int)) : Option ((Int × Int) ⊕ Int) :=
  match s with
    | (end_3_l3, i_4_l3) =>
    if i_4_l3 < (times_0.length : Int) then
    ((rd times_0 i_4_l3).bind fun x14 =>
    (rd x14 3).bind fun x16 =>
    (spec_l00Max end_3_l3 x16).bind fun x18 =>
    some (.inl (x18, (w64 (i_4_l3 + 1)))))
    else (some (.inr end_3_l3))
noncomputable def spec_l24End (times_0 : (List (List Int))) : Option Int :=
  (loopO (spec_l24End_l3 times_0) (0, 0)).bind fun end_3_e0_3 =>
    some end_3_e0_3
noncomputable def spec_l00Own (list_0 : (List Int)) : Option (List Int) :=
  (apd 8 ([] : List Int) list_0).bind fun x5 =>
    some x5
noncomputable def spec_l00Has_l2 (list_0 : (List Int)) (n_1 : Int) (i_5_l2 : Int) : Option (Int ⊕ (Unit ⊕ Bool)) :=
  if i_5_l2 < (list_0.length : Int) then
    ((rd list_0 i_5_l2).bind fun x14 =>
    if x14 = n_1 then
    (some (.inr (.inr true)))
    else (some (.inl (w64 (i_5_l2 + 1)))))
    else (some (.inr (.inl ())))
noncomputable def spec_l00Has (list_0 : (List Int)) (n_1 : Int) : Option Bool :=
  (loopO (spec_l00Has_l2 list_0 n_1) 0).bind fun o => match o with
    | (.inl _) => (some false)
    | (.inr r2) => (some r2)
noncomputable def spec_l24Search_run_k6 (self : S_l24Search → Option S_l24Search) (k_3_l5 : Int) (x_o0_0_r6 : (List S_Bond)) (x_o0_1_r6 : Int) (x_o0_2_r6 : (List Int)) (x_o0_3_r6 : (List Int)) (x_o0_4_r6 : Int) (x_o0_5_r6 : Int) (x_o0_6_r6 : Int) (x_o0_7_r6 : Bool) : Option ((Int × (List S_Bond) × Int × (List Int) × (List Int) × Int × Int × Int × Bool) ⊕ S_l24Search) :=
  some (.inl ((w64 (k_3_l5 + 1)), x_o0_0_r6, x_o0_1_r6, x_o0_2_r6, x_o0_3_r6, x_o0_4_r6, x_o0_5_r6, x_o0_6_r6, x_o0_7_r6))
noncomputable def spec_l24Search_run_k14 (self : S_l24Search → Option S_l24Search) (k_3_l5 : Int) (x_0 : S_l24Search) (x_o0_0_r14 : (List S_Bond)) (x_o0_1_r14 : Int) (x_o0_2_r14 : (List Int)) (x_o0_3_r14 : (List Int)) (x_o0_4_r14 : Int) (x_o0_5_r14 : Int) (x_o0_6_r14 : Int) (x_o0_7_r14 : Bool) : Option ((Int × (List S_Bond) × Int × (List Int) × (List Int) × Int × Int × Int × Bool) ⊕ S_l24Search) :=
  (slc x_o0_2_r14 0 (x_0.order.length : Int)).bind fun x130 =>
    spec_l24Search_run_k6 self k_3_l5 x_o0_0_r14 x_o0_1_r14 ((x_o0_2_r14.take ((x_0.order.length : Int).toNat)).drop 0) x_o0_3_r14 x_o0_4_r14 x_o0_5_r14 x_o0_6_r14 x_o0_7_r14
noncomputable def spec_l24Search_run_l5 (self : S_l24Search → Option S_l24Search) (x_0 : S_l24Search) (s : (Int × (List S_Bond) × Int × (List Int) × (List Int) × Int × Int × Int × Bool)) : Option ((Int × (List S_Bond) × Int × (List Int) × (List Int) × Int × Int × Int × Bool) ⊕ S_l24Search) :=
  match s with
    | (k_3_l5, x_o0_0_l5, x_o0_1_l5, x_o0_2_l5, x_o0_3_l5, x_o0_4_l5, x_o0_5_l5, x_o0_6_l5, x_o0_7_l5) =>
    if (k_3_l5 < (x_o0_0_l5.length : Int) ∧ ¬ (x_o0_7_l5 = true)) then
    ((spec_l00Has x_o0_2_l5 k_3_l5).bind fun x66 =>
    if x66 = true then
    (spec_l24Search_run_k6 self k_3_l5 x_o0_0_l5 x_o0_1_l5 x_o0_2_l5 x_o0_3_l5 x_o0_4_l5 x_o0_5_l5 x_o0_6_l5 x_o0_7_l5)
    else ((apd 8 x_o0_2_l5 ([k_3_l5] : List Int)).bind fun x74 =>
    (if x_o0_4_l5 < 0 then
    (some true)
    else ((spec_l24Times x_o0_0_l5 x74 x_o0_1_l5).bind fun x95 =>
    (spec_l24End x95).bind fun x96 =>
    some (decide (x96 < x_o0_4_l5)))).bind fun t_102_m9 =>
    if t_102_m9 = true then
    (if x_o0_5_l5 = x_o0_6_l5 then
    (spec_l24Search_run_k14 self k_3_l5 x_0 x_o0_0_l5 x_o0_1_l5 x74 x_o0_3_l5 x_o0_4_l5 x_o0_5_l5 x_o0_6_l5 true)
    else ((self (⟨x_o0_0_l5, x_o0_1_l5, x74, x_o0_3_l5, x_o0_4_l5, (w64 (x_o0_5_l5 + 1)), x_o0_6_l5, x_o0_7_l5⟩ : S_l24Search)).bind fun x123 =>
    spec_l24Search_run_k14 self k_3_l5 x_0 x123.list x123.presses x123.order x123.best x123.least x123.nodes x123.budget x123.full))
    else (spec_l24Search_run_k14 self k_3_l5 x_0 x_o0_0_l5 x_o0_1_l5 x74 x_o0_3_l5 x_o0_4_l5 x_o0_5_l5 x_o0_6_l5 x_o0_7_l5)))
    else (some (.inr (⟨x_o0_0_l5, x_o0_1_l5, x_o0_2_l5, x_o0_3_l5, x_o0_4_l5, x_o0_5_l5, x_o0_6_l5, x_o0_7_l5⟩ : S_l24Search)))
noncomputable def spec_l24Search_run_F (self : S_l24Search → Option S_l24Search) (x_0 : S_l24Search) : Option S_l24Search :=
  if (x_0.order.length : Int) = (x_0.list.length : Int) then
    ((spec_l24Times x_0.list x_0.order x_0.presses).bind fun x28 =>
    (spec_l24End x28).bind fun x29 =>
    (spec_l00Own x_0.order).bind fun x37 =>
    some (⟨x_0.list, x_0.presses, x_0.order, x37, x29, x_0.nodes, x_0.budget, x_0.full⟩ : S_l24Search))
    else ((loopO (spec_l24Search_run_l5 self x_0) (0, x_0.list, x_0.presses, x_0.order, x_0.best, x_0.least, x_0.nodes, x_0.budget, x_0.full)).bind fun r2 =>
    some r2)
noncomputable def spec_l24Search_run (x_0 : S_l24Search) : Option S_l24Search := fixO (fun self x_0 => spec_l24Search_run_F self x_0) x_0
noncomputable def spec_BestGlueOrder (list_0 : (List S_Bond)) (presses_1 : Int) (budget_2 : Int) : Option ((List Int) × Int × Int) :=
  (spec_l24Ok list_0).bind fun x11 =>
    if x11 = true then
    ((spec_l00In presses_1 1 4).bind fun x14 =>
    (if x14 = true then
    ((spec_l00In budget_2 1 20000).bind fun x18 =>
    some (!x18))
    else (some true)).bind fun t_20_m3 =>
    if t_20_m3 = true then
    (some (([] : List Int), 0, 2))
    else ((spec_l24Search_run (⟨list_0, presses_1, ([] : List Int), ([] : List Int), (-1), 0, budget_2, false⟩ : S_l24Search)).bind fun x27 =>
    if x27.full = true then
    (some (([] : List Int), 0, 5))
    else (some (x27.best, x27.least, 0))))
    else (some (([] : List Int), 0, 1))
noncomputable def impl_IsName_l4 (s_0 : ByteArray) (i_3_l4 : Int) : Option (Int ⊕ (Unit ⊕ Bool)) :=
  if i_3_l4 < (s_0.size : Int) then
    ((bt s_0 i_3_l4).bind fun x30 =>
    (if x30 < 97 then
    ((bt s_0 i_3_l4).bind fun x41 =>
    if x41 < 48 then
    (some true)
    else ((bt s_0 i_3_l4).bind fun x46 =>
    some (decide (x46 > 57))))
    else ((bt s_0 i_3_l4).bind fun x35 =>
    if x35 > 122 then
    ((bt s_0 i_3_l4).bind fun x41 =>
    if x41 < 48 then
    (some true)
    else ((bt s_0 i_3_l4).bind fun x46 =>
    some (decide (x46 > 57))))
    else (some false))).bind fun t_49_m6 =>
    if t_49_m6 = true then
    (some (.inr (.inr false)))
    else (some (.inl (w64 (i_3_l4 + 1)))))
    else (some (.inr (.inl ())))
noncomputable def impl_IsName (s_0 : ByteArray) : Option Bool :=
  (if (s_0.size : Int) < 1 then
    (some true)
    else (if (s_0.size : Int) > 10 then
    (some true)
    else ((bt s_0 0).bind fun x14 =>
    if x14 < 97 then
    (some true)
    else ((bt s_0 0).bind fun x19 =>
    some (decide (x19 > 122)))))).bind fun t_21_m1 =>
    if t_21_m1 = true then
    (some false)
    else ((loopO (impl_IsName_l4 s_0) 0).bind fun o => match o with
    | (.inl _) => (some true)
    | (.inr r2) => (some r2))
noncomputable def impl_within (n_0 : Int) (low_1 : Int) (high_2 : Int) : Option Bool :=
  some ((decide (n_0 ≥ low_1)) && (decide (n_0 ≤ high_2)))
noncomputable def impl_ValidBond (b_0 : S_Bond) : Option Bool :=
  (impl_IsName b_0.Name).bind fun x5 =>
    (if x5 = true then
    ((impl_within b_0.Spread 1 120).bind fun x9 =>
    if x9 = true then
    ((impl_within b_0.Open b_0.Spread 240).bind fun x16 =>
    if x16 = true then
    ((impl_within b_0.Press 1 1440).bind fun x21 =>
    some x21)
    else (some false))
    else (some false))
    else (some false)).bind fun t_2_m1 =>
    some t_2_m1
noncomputable def impl_ValidBonds_l2 (list_0 : (List S_Bond)) (t_7_l2 : Int) : Option (Int ⊕ (Unit ⊕ Bool)) :=
  if t_7_l2 < (list_0.length : Int) then
    ((rd list_0 t_7_l2).bind fun x10 =>
    (impl_ValidBond x10).bind fun x13 =>
    (if x13 = true then
    (if t_7_l2 > 0 then
    ((rd list_0 (w64 (t_7_l2 - 1))).bind fun x22 =>
    some (!Op.bytesLess x22.Name.toList x10.Name.toList))
    else (some false))
    else (some true)).bind fun t_29_m4 =>
    if t_29_m4 = true then
    (some (.inr (.inr false)))
    else (some (.inl (w64 (t_7_l2 + 1)))))
    else (some (.inr (.inl ())))
noncomputable def impl_ValidBonds (list_0 : (List S_Bond)) : Option Bool :=
  (loopO (impl_ValidBonds_l2 list_0) 0).bind fun o => match o with
    | (.inl _) => (some (decide ((list_0.length : Int) ≤ 12)))
    | (.inr r2) => (some r2)
noncomputable def impl_pressCode (list_0 : (List S_Bond)) (presses_1 : Int) : Option Int :=
  (impl_ValidBonds list_0).bind fun x7 =>
    if x7 = true then
    ((impl_within presses_1 1 4).bind fun x11 =>
    if x11 = true then
    (some 0)
    else (some 2))
    else (some 1)
noncomputable def slices_Index_int64_int64_l2 (s_0 : (List Int)) (v_1 : Int) (t_8_l2 : Int) : Option (Int ⊕ (Unit ⊕ Int)) :=
  if t_8_l2 < (s_0.length : Int) then
    ((rd s_0 t_8_l2).bind fun x14 =>
    if v_1 = x14 then
    (some (.inr (.inr t_8_l2)))
    else (some (.inl (w64 (t_8_l2 + 1)))))
    else (some (.inr (.inl ())))
noncomputable def slices_Index_int64_int64 (s_0 : (List Int)) (v_1 : Int) : Option Int :=
  (loopO (slices_Index_int64_int64_l2 s_0 v_1) 0).bind fun o => match o with
    | (.inl _) => (some (-1))
    | (.inr r2) => (some r2)
noncomputable def slices_Contains_int64_int64 (s_0 : (List Int)) (v_1 : Int) : Option Bool :=
  (slices_Index_int64_int64 s_0 v_1).bind fun x7 =>
    some (decide (x7 ≥ 0))
noncomputable def impl_gluing_add_k7 (t_12_l3 : Int) (press_7_r7 : Int) : Option ((Int × Int) ⊕ Int) :=
  some (.inl (press_7_r7, (w64 (t_12_l3 + 1))))
noncomputable def impl_gluing_add_l3 (g_0 : S_gluing) (presses_2 : Int) (s : (Int × Int)) : Option ((Int × Int) ⊕ Int) :=
  match s with
    | (press_7_l3, t_12_l3) =>
    if t_12_l3 < presses_2 then
    ((ix 4 t_12_l3).bind fun x19 =>
    (rd ([g_0.free.e0, g_0.free.e1, g_0.free.e2, g_0.free.e3] : List Int) t_12_l3).bind fun x20 =>
    (ix 4 press_7_l3).bind fun x25 =>
    (rd ([g_0.free.e0, g_0.free.e1, g_0.free.e2, g_0.free.e3] : List Int) press_7_l3).bind fun x26 =>
    if x20 < x26 then
    (impl_gluing_add_k7 t_12_l3 t_12_l3)
    else (impl_gluing_add_k7 t_12_l3 press_7_l3))
    else (some (.inr press_7_l3))
noncomputable def impl_gluing_add (g_0 : S_gluing) (b_1 : S_Bond) (presses_2 : Int) : Option (S_glued × S_gluing) :=
  (loopO (impl_gluing_add_l3 g_0 presses_2) (0, 0)).bind fun press_7_e0_3 =>
    (ix 4 press_7_e0_3).bind fun x34 =>
    (rd ([g_0.free.e0, g_0.free.e1, g_0.free.e2, g_0.free.e3] : List Int) press_7_e0_3).bind fun x35 =>
    (ix 4 press_7_e0_3).bind fun x75 =>
    (if press_7_e0_3 = 0 then
    (some ((w64 ((max2 (w64 ((max2 g_0.ready (w64 (x35 - b_1.Open))) + b_1.Spread)) x35) + b_1.Press)), g_0.free.e1, g_0.free.e2, g_0.free.e3))
    else (if press_7_e0_3 = 1 then
    (some (g_0.free.e0, (w64 ((max2 (w64 ((max2 g_0.ready (w64 (x35 - b_1.Open))) + b_1.Spread)) x35) + b_1.Press)), g_0.free.e2, g_0.free.e3))
    else (if press_7_e0_3 = 2 then
    (some (g_0.free.e0, g_0.free.e1, (w64 ((max2 (w64 ((max2 g_0.ready (w64 (x35 - b_1.Open))) + b_1.Spread)) x35) + b_1.Press)), g_0.free.e3))
    else (some (g_0.free.e0, g_0.free.e1, g_0.free.e2, (w64 ((max2 (w64 ((max2 g_0.ready (w64 (x35 - b_1.Open))) + b_1.Spread)) x35) + b_1.Press))))))).bind fun s => match s with
    | (g_o0_1_m13, g_o0_2_m13, g_o0_3_m13, g_o0_4_m13) =>
    some ((⟨(max2 g_0.ready (w64 (x35 - b_1.Open))), press_7_e0_3, (max2 (w64 ((max2 g_0.ready (w64 (x35 - b_1.Open))) + b_1.Spread)) x35), (w64 ((max2 (w64 ((max2 g_0.ready (w64 (x35 - b_1.Open))) + b_1.Spread)) x35) + b_1.Press))⟩ : S_glued), (⟨(w64 ((max2 g_0.ready (w64 (x35 - b_1.Open))) + b_1.Spread)), (⟨g_o0_1_m13, g_o0_2_m13, g_o0_3_m13, g_o0_4_m13⟩ : Ar4_Int), (max2 g_0.end_ (w64 ((max2 (w64 ((max2 g_0.ready (w64 (x35 - b_1.Open))) + b_1.Spread)) x35) + b_1.Press)))⟩ : S_gluing))
noncomputable def impl_glueSearch_run_k16 (self : (S_glueSearch × (List Int) × S_gluing) → Option (Bool × S_glueSearch)) (t_34_l5 : Int) (s_o0_0_r16 : (List S_Bond)) (s_o0_1_r16 : Int) (s_o0_2_r16 : Int) (s_o0_3_r16 : Bool) (s_o0_4_r16 : (List Int)) (s_o0_5_r16 : Int) : Option ((Int × (List S_Bond) × Int × Int × Bool × (List Int) × Int) ⊕ (((List S_Bond) × Int × Int × Bool × (List Int) × Int) ⊕ (Bool × S_glueSearch))) :=
  some (.inl ((w64 (t_34_l5 + 1)), s_o0_0_r16, s_o0_1_r16, s_o0_2_r16, s_o0_3_r16, s_o0_4_r16, s_o0_5_r16))
noncomputable def impl_glueSearch_run_l5 (self : (S_glueSearch × (List Int) × S_gluing) → Option (Bool × S_glueSearch)) (g_2 : S_gluing) (order_1 : (List Int)) (s_0 : S_glueSearch) (s : (Int × (List S_Bond) × Int × Int × Bool × (List Int) × Int)) : Option ((Int × (List S_Bond) × Int × Int × Bool × (List Int) × Int) ⊕ (((List S_Bond) × Int × Int × Bool × (List Int) × Int) ⊕ (Bool × S_glueSearch))) :=
  match s with
    | (t_34_l5, s_o0_0_l5, s_o0_1_l5, s_o0_2_l5, s_o0_3_l5, s_o0_4_l5, s_o0_5_l5) =>
    if t_34_l5 < (s_0.list.length : Int) then
    ((slices_Contains_int64_int64 order_1 t_34_l5).bind fun x39 =>
    if x39 = true then
    (impl_glueSearch_run_k16 self t_34_l5 s_o0_0_l5 s_o0_1_l5 s_o0_2_l5 s_o0_3_l5 s_o0_4_l5 s_o0_5_l5)
    else ((rd s_o0_0_l5 t_34_l5).bind fun x46 =>
    (impl_gluing_add g_2 x46 s_o0_1_l5).bind fun x52 =>
    if (s_o0_3_l5 = true ∧ x52.2.end_ ≥ s_o0_5_l5) then
    (impl_glueSearch_run_k16 self t_34_l5 s_o0_0_l5 s_o0_1_l5 s_o0_2_l5 s_o0_3_l5 s_o0_4_l5 s_o0_5_l5)
    else (if s_o0_2_l5 = 0 then
    (some (.inr (.inr (true, (⟨s_o0_0_l5, s_o0_1_l5, s_o0_2_l5, s_o0_3_l5, s_o0_4_l5, s_o0_5_l5⟩ : S_glueSearch)))))
    else ((apd 8 ([] : List Int) order_1).bind fun x80 =>
    (apd 8 x80 ([t_34_l5] : List Int)).bind fun x83 =>
    (self ((⟨s_o0_0_l5, s_o0_1_l5, (w64 (s_o0_2_l5 - 1)), s_o0_3_l5, s_o0_4_l5, s_o0_5_l5⟩ : S_glueSearch), x83, x52.2)).bind fun x85 =>
    if x85.1 = true then
    (some (.inr (.inr (true, x85.2))))
    else (impl_glueSearch_run_k16 self t_34_l5 x85.2.list x85.2.presses x85.2.left x85.2.found x85.2.best x85.2.least)))))
    else (some (.inr (.inl (s_o0_0_l5, s_o0_1_l5, s_o0_2_l5, s_o0_3_l5, s_o0_4_l5, s_o0_5_l5))))
noncomputable def impl_glueSearch_run_F (self : (S_glueSearch × (List Int) × S_gluing) → Option (Bool × S_glueSearch)) (s_0 : S_glueSearch) (order_1 : (List Int)) (g_2 : S_gluing) : Option (Bool × S_glueSearch) :=
  if (order_1.length : Int) = (s_0.list.length : Int) then
    (some (false, (⟨s_0.list, s_0.presses, s_0.left, true, order_1, g_2.end_⟩ : S_glueSearch)))
    else ((loopO (impl_glueSearch_run_l5 self g_2 order_1 s_0) (0, s_0.list, s_0.presses, s_0.left, s_0.found, s_0.best, s_0.least)).bind fun o => match o with
    | (.inl (s_o0_0_e0_5, s_o0_1_e0_5, s_o0_2_e0_5, s_o0_3_e0_5, s_o0_4_e0_5, s_o0_5_e0_5)) => (some (false, (⟨s_o0_0_e0_5, s_o0_1_e0_5, s_o0_2_e0_5, s_o0_3_e0_5, s_o0_4_e0_5, s_o0_5_e0_5⟩ : S_glueSearch)))
    | (.inr r2) => (some r2))
noncomputable def impl_glueSearch_run (s_0 : S_glueSearch) (order_1 : (List Int)) (g_2 : S_gluing) : Option (Bool × S_glueSearch) := fixO (fun self s => match s with | (s_0, order_1, g_2) => impl_glueSearch_run_F self s_0 order_1 g_2) (s_0, order_1, g_2)
noncomputable def impl_BestGlueOrder_k4 (budget_2 : Int) (list_0 : (List S_Bond)) (presses_1 : Int) (code_9_r4 : Int) : Option ((List Int) × Int × Int) :=
  if code_9_r4 ≠ 0 then
    (some (([] : List Int), 0, code_9_r4))
    else ((impl_glueSearch_run (⟨list_0, presses_1, budget_2, false, ([] : List Int), 0⟩ : S_glueSearch) ([] : List Int) (⟨0, (⟨0, 0, 0, 0⟩ : Ar4_Int), 0⟩ : S_gluing)).bind fun x31 =>
    if x31.1 = true then
    (some (([] : List Int), 0, 5))
    else (some (x31.2.best, x31.2.least, 0)))
noncomputable def impl_BestGlueOrder (list_0 : (List S_Bond)) (presses_1 : Int) (budget_2 : Int) : Option ((List Int) × Int × Int) :=
  (impl_pressCode list_0 presses_1).bind fun x13 =>
    (if x13 = 0 then
    ((impl_within budget_2 1 20000).bind fun x18 =>
    some (!x18))
    else (some false)).bind fun t_20_m2 =>
    if t_20_m2 = true then
    (impl_BestGlueOrder_k4 budget_2 list_0 presses_1 2)
    else (impl_BestGlueOrder_k4 budget_2 list_0 presses_1 x13)
noncomputable def laws_eqInt64S_l4 (a_0 : (List Int)) (b_1 : (List Int)) (i_5_l4 : Int) : Option (Int ⊕ (Unit ⊕ Bool)) :=
  if i_5_l4 < (a_0.length : Int) then
    ((rd a_0 i_5_l4).bind fun x19 =>
    (rd b_1 i_5_l4).bind fun x23 =>
    if x19 ≠ x23 then
    (some (.inr (.inr false)))
    else (some (.inl (w64 (i_5_l4 + 1)))))
    else (some (.inr (.inl ())))
noncomputable def laws_eqInt64S (a_0 : (List Int)) (b_1 : (List Int)) : Option Bool :=
  if (a_0.length : Int) ≠ (b_1.length : Int) then
    (some false)
    else ((loopO (laws_eqInt64S_l4 a_0 b_1) 0).bind fun o => match o with
    | (.inl _) => (some true)
    | (.inr r2) => (some r2))
noncomputable def laws_eqBond (a_0 : S_Bond) (b_1 : S_Bond) : Option Bool :=
  if ¬ (a_0.Name = b_1.Name) then
    (some false)
    else (if a_0.Spread ≠ b_1.Spread then
    (some false)
    else (if a_0.Open ≠ b_1.Open then
    (some false)
    else (if a_0.Press ≠ b_1.Press then
    (some false)
    else (some true))))
noncomputable def laws_eqBondS_l4 (a_0 : (List S_Bond)) (b_1 : (List S_Bond)) (i_5_l4 : Int) : Option (Int ⊕ (Unit ⊕ Bool)) :=
  if i_5_l4 < (a_0.length : Int) then
    ((rd a_0 i_5_l4).bind fun x19 =>
    (rd b_1 i_5_l4).bind fun x23 =>
    (laws_eqBond x19 x23).bind fun x25 =>
    if x25 = true then
    (some (.inl (w64 (i_5_l4 + 1))))
    else (some (.inr (.inr false))))
    else (some (.inr (.inl ())))
noncomputable def laws_eqBondS (a_0 : (List S_Bond)) (b_1 : (List S_Bond)) : Option Bool :=
  if (a_0.length : Int) ≠ (b_1.length : Int) then
    (some false)
    else ((loopO (laws_eqBondS_l4 a_0 b_1) 0).bind fun o => match o with
    | (.inl _) => (some true)
    | (.inr r2) => (some r2))
noncomputable def laws_markText_l4 (s : (Int × ByteArray)) : Option ((Int × ByteArray) ⊕ ByteArray) :=
  match s with
    | (k_0_l4, out_3_l4) =>
    if k_0_l4 > 0 then
    ((md k_0_l4 10).bind fun x9 =>
    (cat (strOf ([(IntKind.wrap .u8 ((w64 (48 + x9))))] : List Int)) out_3_l4).bind fun x15 =>
    (dv .i64 k_0_l4 10).bind fun x17 =>
    some (.inl (x17, x15)))
    else (some (.inr out_3_l4))
noncomputable def laws_markText (k_0 : Int) : Option ByteArray :=
  if k_0 ≤ 0 then
    (some (⟨#[109, 48]⟩ : ByteArray))
    else ((loopO (laws_markText_l4) (k_0, (⟨#[]⟩ : ByteArray))).bind fun out_3_e0_4 =>
    (cat (⟨#[109]⟩ : ByteArray) out_3_e0_4).bind fun x19 =>
    some x19)
noncomputable def laws_markBondS_l2 (s : (Int × Int × (List S_Bond))) : Option ((Int × Int × (List S_Bond)) ⊕ (Int × (List S_Bond))) :=
  match s with
    | (k_1_l2, i_5_l2, a_o0_l2) =>
    if i_5_l2 < (a_o0_l2.length : Int) then
    ((laws_markText k_1_l2).bind fun x15 =>
    (rd a_o0_l2 i_5_l2).bind fun x16 =>
    (rd (a_o0_l2.set i_5_l2.toNat (⟨x15, x16.Spread, x16.Open, x16.Press⟩ : S_Bond)) i_5_l2).bind fun x23 =>
    (rd ((a_o0_l2.set i_5_l2.toNat (⟨x15, x16.Spread, x16.Open, x16.Press⟩ : S_Bond)).set i_5_l2.toNat (⟨x23.Name, (w64 (k_1_l2 + 1)), x23.Open, x23.Press⟩ : S_Bond)) i_5_l2).bind fun x30 =>
    (rd (((a_o0_l2.set i_5_l2.toNat (⟨x15, x16.Spread, x16.Open, x16.Press⟩ : S_Bond)).set i_5_l2.toNat (⟨x23.Name, (w64 (k_1_l2 + 1)), x23.Open, x23.Press⟩ : S_Bond)).set i_5_l2.toNat (⟨x30.Name, x30.Spread, (w64 ((w64 (k_1_l2 + 1)) + 1)), x30.Press⟩ : S_Bond)) i_5_l2).bind fun x37 =>
    some (.inl ((w64 ((w64 ((w64 ((w64 (k_1_l2 + 1)) + 1)) + 1)) + 1)), (w64 (i_5_l2 + 1)), ((((a_o0_l2.set i_5_l2.toNat (⟨x15, x16.Spread, x16.Open, x16.Press⟩ : S_Bond)).set i_5_l2.toNat (⟨x23.Name, (w64 (k_1_l2 + 1)), x23.Open, x23.Press⟩ : S_Bond)).set i_5_l2.toNat (⟨x30.Name, x30.Spread, (w64 ((w64 (k_1_l2 + 1)) + 1)), x30.Press⟩ : S_Bond)).set i_5_l2.toNat (⟨x37.Name, x37.Spread, x37.Open, (w64 ((w64 ((w64 (k_1_l2 + 1)) + 1)) + 1))⟩ : S_Bond)))))
    else (some (.inr (k_1_l2, a_o0_l2)))
noncomputable def laws_markBondS (a_0 : (List S_Bond)) (k_1 : Int) : Option (Int × (List S_Bond)) :=
  (loopO (laws_markBondS_l2) (k_1, 0, a_0)).bind fun o => match o with
    | (k_1_e0_2, a_o0_e0_2) =>
    some (k_1_e0_2, a_o0_e0_2)
noncomputable def laws_markInt64S_l2 (s : (Int × Int × (List Int))) : Option ((Int × Int × (List Int)) ⊕ (Int × (List Int))) :=
  match s with
    | (k_1_l2, i_5_l2, a_o0_l2) =>
    if i_5_l2 < (a_o0_l2.length : Int) then
    ((rd a_o0_l2 i_5_l2).bind fun x15 =>
    some (.inl ((w64 (k_1_l2 + 1)), (w64 (i_5_l2 + 1)), (a_o0_l2.set i_5_l2.toNat k_1_l2))))
    else (some (.inr (k_1_l2, a_o0_l2)))
noncomputable def laws_markInt64S (a_0 : (List Int)) (k_1 : Int) : Option (Int × (List Int)) :=
  (loopO (laws_markInt64S_l2) (k_1, 0, a_0)).bind fun o => match o with
    | (k_1_e0_2, a_o0_e0_2) =>
    some (k_1_e0_2, a_o0_e0_2)
noncomputable def laws_heldInt64S_l2 (a_0 : (List Int)) (s : (Int × Int)) : Option ((Int × Int) ⊕ (Int ⊕ Int)) :=
  match s with
    | (k_1_l2, i_5_l2) =>
    if i_5_l2 < (a_0.length : Int) then
    ((rd a_0 i_5_l2).bind fun x14 =>
    if x14 ≠ k_1_l2 then
    (some (.inr (.inr (-1))))
    else (some (.inl ((w64 (k_1_l2 + 1)), (w64 (i_5_l2 + 1))))))
    else (some (.inr (.inl k_1_l2)))
noncomputable def laws_heldInt64S (a_0 : (List Int)) (k_1 : Int) : Option Int :=
  (loopO (laws_heldInt64S_l2 a_0) (k_1, 0)).bind fun o => match o with
    | (.inl k_1_e0_2) => (some k_1_e0_2)
    | (.inr r2) => (some r2)
noncomputable def laws_FnExactBestGlueOrder (aList_0 : (List S_Bond)) (aPresses_1 : Int) (aBudget_2 : Int) : Option Bool :=
  (laws_szBondS aList_0 1048576).bind fun x23 =>
    if x23 < 0 then
    (some true)
    else ((laws_toBondS aList_0).bind fun x28 =>
    (spec_BestGlueOrder x28 aPresses_1 aBudget_2).bind fun x31 =>
    (laws_toBondS aList_0).bind fun x36 =>
    (impl_BestGlueOrder x36 aPresses_1 aBudget_2).bind fun x41 =>
    (laws_eqInt64S x41.1 x31.1).bind fun x47 =>
    if (¬ (x47 = true) ∨ (x41.2.1 ≠ x31.2.1 ∨ x41.2.2 ≠ x31.2.2)) then
    (some false)
    else ((laws_toBondS aList_0).bind fun x61 =>
    (laws_eqBondS x36 x61).bind fun x62 =>
    if x62 = true then
    ((laws_markBondS x36 1).bind fun x66 =>
    (if x66.1 < 0 then
    (some true)
    else ((laws_eqInt64S x41.1 x31.1).bind fun x72 =>
    if x72 = true then
    (if x41.2.1 ≠ x31.2.1 then
    (some true)
    else (some (x41.2.2 != x31.2.2)))
    else (some true))).bind fun t_84_m14 =>
    if t_84_m14 = true then
    (some false)
    else ((laws_markInt64S x41.1 1).bind fun x87 =>
    (laws_heldInt64S x87.2 1).bind fun x90 =>
    if x90 < 0 then
    (some false)
    else (if x90 ≠ x87.1 then
    (some false)
    else ((laws_toBondS aList_0).bind fun x98 =>
    (impl_BestGlueOrder x98 aPresses_1 aBudget_2).bind fun x101 =>
    (laws_eqInt64S x101.1 x31.1).bind fun x107 =>
    if (¬ (x107 = true) ∨ (x101.2.1 ≠ x31.2.1 ∨ x101.2.2 ≠ x31.2.2)) then
    (some false)
    else ((laws_heldInt64S x87.2 1).bind fun x121 =>
    if x121 < 0 then
    (some false)
    else (if x121 ≠ x87.1 then
    (some false)
    else (some true)))))))
    else (some false)))

end Go.Pw
