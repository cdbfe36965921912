/- Plain functions that answer what the program's functions answer. Conditions: none; definitions alone. -/
import Derived.Test.YtigjhjlkdamncaaSimPw
namespace Go.Pw
open Go.Sim (min2 max2)
set_option linter.unusedVariables false

structure S_Step where
  Kind : Int
  A : Int
  B : Int

structure S_l21Search where
  hardness : Int
  target : Int
  tolerance : Int
  menu : (List S_Step)
  steps : (List S_Step)
  depth : Int
  nodes : Int
  budget : Int

structure S_stepSearch where
  species : ByteArray
  target : Int
  tolerance : Int
  menu : (List S_Step)
  left : Int

noncomputable def laws_szStepS (a_0 : (List S_Step)) (left_1 : Int) : Option Int :=
  if (w64 (left_1 - (a_0.length : Int))) < 0 then
    (some (-1))
    else (some (w64 (left_1 - (a_0.length : Int))))
noncomputable def laws_toStep (a_0 : S_Step) : Option S_Step :=
  some a_0
noncomputable def laws_toStepS_l3 (a_0 : (List S_Step)) (s : (Int × (List S_Step))) : Option ((Int × (List S_Step)) ⊕ (List S_Step)) :=
  match s with
    | (i_4_l3, out_o3_l3) =>
    if i_4_l3 < (a_0.length : Int) then
    ((rd a_0 i_4_l3).bind fun x18 =>
    (laws_toStep x18).bind fun x20 =>
    (rd out_o3_l3 i_4_l3).bind fun x21 =>
    some (.inl ((w64 (i_4_l3 + 1)), (out_o3_l3.set i_4_l3.toNat x20))))
    else (some (.inr out_o3_l3))
noncomputable def laws_toStepS (a_0 : (List S_Step)) : Option (List S_Step) :=
  (mkl 24 (a_0.length : Int) (⟨0, 0, 0⟩ : S_Step)).bind fun x7 =>
    (loopO (laws_toStepS_l3 a_0) (0, x7)).bind fun out_o3_e0_3 =>
    some out_o3_e0_3
noncomputable def spec_l00In (n_0 : Int) (low_1 : Int) (high_2 : Int) : Option Bool :=
  some ((decide (n_0 ≥ low_1)) && (decide (n_0 ≤ high_2)))
noncomputable def spec_l21Heat (heat_0 : Int) (seconds_1 : Int) : Option Bool :=
  (spec_l00In heat_0 100 300).bind fun x6 =>
    (if x6 = true then
    ((spec_l00In seconds_1 0 600).bind fun x9 =>
    some x9)
    else (some false)).bind fun t_4_m1 =>
    some t_4_m1
noncomputable def spec_l21Step (x_0 : S_Step) : Option Bool :=
  if x_0.Kind = 1 then
    ((spec_l21Heat x_0.A x_0.B).bind fun x17 =>
    some x17)
    else (if x_0.Kind = 2 then
    ((spec_l00In x_0.A 0 100).bind fun x24 =>
    (if x24 = true then
    ((spec_l00In x_0.B 0 100).bind fun x30 =>
    some x30)
    else (some false)).bind fun t_2_m5 =>
    some t_2_m5)
    else (if x_0.Kind = 3 then
    ((spec_l00In x_0.A 0 600).bind fun x38 =>
    some (x38 && (x_0.B == 0)))
    else (some false)))
noncomputable def spec_l21Steps_l2 (list_0 : (List S_Step)) (i_3_l2 : Int) : Option (Int ⊕ (Unit ⊕ Bool)) :=
  if i_3_l2 < (list_0.length : Int) then
    ((rd list_0 i_3_l2).bind fun x12 =>
    (spec_l21Step x12).bind fun x13 =>
    if x13 = true then
    (some (.inl (w64 (i_3_l2 + 1))))
    else (some (.inr (.inr false))))
    else (some (.inr (.inl ())))
noncomputable def spec_l21Steps (list_0 : (List S_Step)) : Option Bool :=
  (loopO (spec_l21Steps_l2 list_0) 0).bind fun o => match o with
    | (.inl _) => (some (decide ((list_0.length : Int) ≤ 8)))
    | (.inr r2) => (some r2)
noncomputable def spec_l07Names  : Option (List ByteArray) :=
  some ([(⟨#[97, 115, 104]⟩ : ByteArray), (⟨#[98, 101, 101, 99, 104]⟩ : ByteArray), (⟨#[98, 105, 114, 99, 104]⟩ : ByteArray), (⟨#[99, 104, 101, 114, 114, 121]⟩ : ByteArray), (⟨#[101, 98, 111, 110, 121]⟩ : ByteArray), (⟨#[104, 111, 108, 108, 121]⟩ : ByteArray), (⟨#[109, 97, 112, 108, 101]⟩ : ByteArray), (⟨#[111, 97, 107]⟩ : ByteArray), (⟨#[114, 111, 115, 101, 119, 111, 111, 100]⟩ : ByteArray), (⟨#[119, 97, 108, 110, 117, 116]⟩ : ByteArray)] : List ByteArray)
noncomputable def spec_l07Find_l3 (name_0 : ByteArray) (x5 : (List ByteArray)) (i_4_l3 : Int) : Option (Int ⊕ (Unit ⊕ Int)) :=
  if i_4_l3 < (x5.length : Int) then
    ((rd x5 i_4_l3).bind fun x14 =>
    if x14 = name_0 then
    (some (.inr (.inr i_4_l3)))
    else (some (.inl (w64 (i_4_l3 + 1)))))
    else (some (.inr (.inl ())))
noncomputable def spec_l07Find (name_0 : ByteArray) : Option Int :=
  (spec_l07Names).bind fun x5 =>
    (loopO (spec_l07Find_l3 name_0 x5) 0).bind fun o => match o with
    | (.inl _) => (some (-1))
    | (.inr r2) => (some r2)
noncomputable def spec_l07Table  : Option (List (List Int)) :=
  some ([([20, 40, 310] : List Int), ([35, 45, 410] : List Int), ([15, 33, 280] : List Int), ([50, 36, 240] : List Int), ([95, 85, 270] : List Int), ([5, 35, 370] : List Int), ([10, 42, 290] : List Int), ([40, 40, 330] : List Int), ([80, 60, 220] : List Int), ([70, 38, 260] : List Int)] : List (List Int))
noncomputable def spec_l21Hardness (species_0 : ByteArray) : Option Int :=
  (spec_l07Table).bind fun x3 =>
    (spec_l07Find species_0).bind fun x5 =>
    (rd x3 x5).bind fun x6 =>
    (rd x6 1).bind fun x8 =>
    some x8
noncomputable def spec_l21Gain (hardness_0 : Int) (heat_1 : Int) (seconds_2 : Int) : Option Int :=
  (dv .i64 (w64 ((w64 (heat_1 - 100)) * seconds_2)) (w64 (10 * hardness_0))).bind fun x13 =>
    some x13
noncomputable def spec_l00Min (a_0 : Int) (b_1 : Int) : Option Int :=
  if a_0 < b_1 then
    (some a_0)
    else (some b_1)
noncomputable def spec_l01Div_k4 (a_0_r4 : Int) (b_1_r4 : Int) : Option Int :=
  if a_0_r4 < 0 then
    ((dv .i64 (w64 (b_1_r4 - (w64 (2 * a_0_r4)))) (w64 (2 * b_1_r4))).bind fun x19 =>
    some (w64 (0 - x19)))
    else ((dv .i64 (w64 ((w64 (2 * a_0_r4)) + b_1_r4)) (w64 (2 * b_1_r4))).bind fun x27 =>
    some x27)
noncomputable def spec_l01Div (a_0 : Int) (b_1 : Int) : Option Int :=
  if b_1 < 0 then
    (spec_l01Div_k4 (w64 (0 - a_0)) (w64 (0 - b_1)))
    else (spec_l01Div_k4 a_0 b_1)
noncomputable def spec_l00Max (a_0 : Int) (b_1 : Int) : Option Int :=
  if a_0 > b_1 then
    (some a_0)
    else (some b_1)
noncomputable def spec_l21Shade (hardness_0 : Int) (shade_1 : Int) (x_2 : S_Step) : Option Int :=
  if x_2.Kind = 1 then
    ((spec_l21Gain hardness_0 x_2.A x_2.B).bind fun x23 =>
    (spec_l00Min 100 (w64 (shade_1 + x23))).bind fun x25 =>
    some x25)
    else (if x_2.Kind = 2 then
    ((spec_l01Div (w64 ((w64 (x_2.A - shade_1)) * x_2.B)) 100).bind fun x40 =>
    some (w64 (shade_1 + x40)))
    else ((dv .i64 x_2.A 10).bind fun x47 =>
    (spec_l00Max 0 (w64 (shade_1 - x47))).bind fun x49 =>
    some x49))
noncomputable def spec_l21Search_visit_l7 (self : (S_l21Search × Int) → Option (Bool × S_l21Search)) (shade_1 : Int) (s : (Int × Int × Int × Int × (List S_Step) × (List S_Step) × Int × Int × Int)) : Option ((Int × Int × Int × Int × (List S_Step) × (List S_Step) × Int × Int × Int) ⊕ ((Int × Int × Int × (List S_Step) × (List S_Step) × Int × Int × Int) ⊕ (Bool × S_l21Search))) :=
  match s with
    | (i_5_l7, x_o0_0_l7, x_o0_1_l7, x_o0_2_l7, x_o0_3_l7, x_o0_4_l7, x_o0_5_l7, x_o0_6_l7, x_o0_7_l7) =>
    if i_5_l7 < (x_o0_3_l7.length : Int) then
    ((rd x_o0_3_l7 i_5_l7).bind fun x71 =>
    (apd 24 x_o0_4_l7 ([x71] : List S_Step)).bind fun x74 =>
    (rd x_o0_3_l7 i_5_l7).bind fun x88 =>
    (spec_l21Shade x_o0_0_l7 shade_1 x88).bind fun x89 =>
    (self ((⟨x_o0_0_l7, x_o0_1_l7, x_o0_2_l7, x_o0_3_l7, x74, x_o0_5_l7, x_o0_6_l7, x_o0_7_l7⟩ : S_l21Search), x89)).bind fun x90 =>
    if x90.1 = true then
    (some (.inr (.inr (true, x90.2))))
    else ((slc x90.2.steps 0 (w64 ((x90.2.steps.length : Int) - 1))).bind fun x102 =>
    some (.inl ((w64 (i_5_l7 + 1)), x90.2.hardness, x90.2.target, x90.2.tolerance, x90.2.menu, ((x90.2.steps.take ((w64 ((x90.2.steps.length : Int) - 1)).toNat)).drop 0), x90.2.depth, x90.2.nodes, x90.2.budget))))
    else (some (.inr (.inl (x_o0_0_l7, x_o0_1_l7, x_o0_2_l7, x_o0_3_l7, x_o0_4_l7, x_o0_5_l7, x_o0_6_l7, x_o0_7_l7))))
noncomputable def spec_l21Search_visit_F (self : (S_l21Search × Int) → Option (Bool × S_l21Search)) (x_0 : S_l21Search) (shade_1 : Int) : Option (Bool × S_l21Search) :=
  if (w64 (x_0.nodes + 1)) > x_0.budget then
    (some (true, (⟨x_0.hardness, x_0.target, x_0.tolerance, x_0.menu, x_0.steps, x_0.depth, (w64 (x_0.nodes + 1)), x_0.budget⟩ : S_l21Search)))
    else (if (x_0.steps.length : Int) = x_0.depth then
    ((spec_l00In shade_1 (w64 (x_0.target - x_0.tolerance)) (w64 (x_0.target + x_0.tolerance))).bind fun x51 =>
    some (x51, (⟨x_0.hardness, x_0.target, x_0.tolerance, x_0.menu, x_0.steps, x_0.depth, (w64 (x_0.nodes + 1)), x_0.budget⟩ : S_l21Search)))
    else ((loopO (spec_l21Search_visit_l7 self shade_1) (0, x_0.hardness, x_0.target, x_0.tolerance, x_0.menu, x_0.steps, x_0.depth, (w64 (x_0.nodes + 1)), x_0.budget)).bind fun o => match o with
    | (.inl (x_o0_0_e0_7, x_o0_1_e0_7, x_o0_2_e0_7, x_o0_3_e0_7, x_o0_4_e0_7, x_o0_5_e0_7, x_o0_6_e0_7, x_o0_7_e0_7)) => (some (false, (⟨x_o0_0_e0_7, x_o0_1_e0_7, x_o0_2_e0_7, x_o0_3_e0_7, x_o0_4_e0_7, x_o0_5_e0_7, x_o0_6_e0_7, x_o0_7_e0_7⟩ : S_l21Search)))
    | (.inr r2) => (some r2)))
noncomputable def spec_l21Search_visit (x_0 : S_l21Search) (shade_1 : Int) : Option (Bool × S_l21Search) := fixO (fun self s => match s with | (x_0, shade_1) => spec_l21Search_visit_F self x_0 shade_1) (x_0, shade_1)
noncomputable def spec_FewestSteps_l9 (budget_5 : Int) (shade_1 : Int) (s : (Int × Int × Int × (List S_Step) × (List S_Step) × Int × Int × Int)) : Option ((Int × Int × Int × (List S_Step) × (List S_Step) × Int × Int × Int) ⊕ (Unit ⊕ ((List S_Step) × Int))) :=
  match s with
    | (o_o47_0_l9, o_o47_1_l9, o_o47_2_l9, o_o47_3_l9, o_o47_4_l9, o_o47_5_l9, o_o47_6_l9, o_o47_7_l9) =>
    if o_o47_5_l9 ≤ 8 then
    ((spec_l21Search_visit (⟨o_o47_0_l9, o_o47_1_l9, o_o47_2_l9, o_o47_3_l9, ([] : List S_Step), o_o47_5_l9, o_o47_6_l9, o_o47_7_l9⟩ : S_l21Search) shade_1).bind fun x69 =>
    if x69.2.nodes > budget_5 then
    (some (.inr (.inr (([] : List S_Step), 5))))
    else (if x69.1 = true then
    ((apd 24 ([] : List S_Step) x69.2.steps).bind fun x82 =>
    some (.inr (.inr (x82, 0))))
    else (some (.inl (x69.2.hardness, x69.2.target, x69.2.tolerance, x69.2.menu, x69.2.steps, (w64 (x69.2.depth + 1)), x69.2.nodes, x69.2.budget)))))
    else (some (.inr (.inl ())))
noncomputable def spec_FewestSteps (species_0 : ByteArray) (shade_1 : Int) (target_2 : Int) (tolerance_3 : Int) (menu_4 : (List S_Step)) (budget_5 : Int) : Option ((List S_Step) × Int) :=
  (spec_l21Steps menu_4).bind fun x17 =>
    if x17 = true then
    ((spec_l00In budget_5 1 20000).bind fun x20 =>
    (if x20 = true then
    ((spec_l00In shade_1 0 100).bind fun x24 =>
    if x24 = true then
    ((spec_l00In target_2 0 100).bind fun x29 =>
    if x29 = true then
    ((spec_l00In tolerance_3 0 100).bind fun x34 =>
    some (!x34))
    else (some true))
    else (some true))
    else (some true)).bind fun t_36_m3 =>
    if t_36_m3 = true then
    (some (([] : List S_Step), 2))
    else ((spec_l07Find species_0).bind fun x38 =>
    if x38 < 0 then
    (some (([] : List S_Step), 3))
    else ((spec_l21Hardness species_0).bind fun x41 =>
    (loopO (spec_FewestSteps_l9 budget_5 shade_1) (x41, target_2, tolerance_3, menu_4, ([] : List S_Step), 0, 0, budget_5)).bind fun o => match o with
    | (.inl _) => (some (([] : List S_Step), 3))
    | (.inr r2) => (some r2))))
    else (some (([] : List S_Step), 1))
noncomputable def impl_within (n_0 : Int) (low_1 : Int) (high_2 : Int) : Option Bool :=
  some ((decide (n_0 ≥ low_1)) && (decide (n_0 ≤ high_2)))
noncomputable def impl_ValidStep (x_0 : S_Step) : Option Bool :=
  if x_0.Kind = 1 then
    ((impl_within x_0.A 100 300).bind fun x9 =>
    (if x9 = true then
    ((impl_within x_0.B 0 600).bind fun x13 =>
    some x13)
    else (some false)).bind fun t_2_m3 =>
    some t_2_m3)
    else (if x_0.Kind = 2 then
    ((impl_within x_0.A 0 100).bind fun x19 =>
    (if x19 = true then
    ((impl_within x_0.B 0 100).bind fun x23 =>
    some x23)
    else (some false)).bind fun t_2_m5 =>
    some t_2_m5)
    else (if x_0.Kind = 3 then
    ((impl_within x_0.A 0 600).bind fun x29 =>
    some (x29 && (x_0.B == 0)))
    else (some false)))
noncomputable def impl_validSteps_c1 (x_0 : S_Step) : Option Bool :=
  (impl_ValidStep x_0).bind fun x4 =>
    some (!x4)
noncomputable def slices_IndexFunc_impl_Step_impl_Step_l2 (f_1 : (S_Step → Option Bool)) (s_0 : (List S_Step)) (t_8_l2 : Int) : Option (Int ⊕ (Unit ⊕ Int)) :=
  if t_8_l2 < (s_0.length : Int) then
    ((rd s_0 t_8_l2).bind fun x14 =>
    (f_1 x14).bind fun x16 =>
    if x16 = true then
    (some (.inr (.inr t_8_l2)))
    else (some (.inl (w64 (t_8_l2 + 1)))))
    else (some (.inr (.inl ())))
noncomputable def slices_IndexFunc_impl_Step_impl_Step (s_0 : (List S_Step)) (f_1 : (S_Step → Option Bool)) : Option Int :=
  (loopO (slices_IndexFunc_impl_Step_impl_Step_l2 f_1 s_0) 0).bind fun o => match o with
    | (.inl _) => (some (-1))
    | (.inr r2) => (some r2)
noncomputable def slices_ContainsFunc_impl_Step_impl_Step (s_0 : (List S_Step)) (f_1 : (S_Step → Option Bool)) : Option Bool :=
  (slices_IndexFunc_impl_Step_impl_Step s_0 f_1).bind fun x7 =>
    some (decide (x7 ≥ 0))
noncomputable def impl_validSteps (list_0 : (List S_Step)) : Option Bool :=
  (if (list_0.length : Int) ≤ 8 then
    ((slices_ContainsFunc_impl_Step_impl_Step list_0 (fun a0 => impl_validSteps_c1 a0)).bind fun x8 =>
    some (!x8))
    else (some false)).bind fun t_2_m1 =>
    some t_2_m1
noncomputable def impl_SpeciesData (name_0 : ByteArray) : Option (Int × Int × Int × Int) :=
  if name_0 = (⟨#[97, 115, 104]⟩ : ByteArray) then
    (some (20, 40, 310, 0))
    else (if name_0 = (⟨#[98, 101, 101, 99, 104]⟩ : ByteArray) then
    (some (35, 45, 410, 0))
    else (if name_0 = (⟨#[98, 105, 114, 99, 104]⟩ : ByteArray) then
    (some (15, 33, 280, 0))
    else (if name_0 = (⟨#[99, 104, 101, 114, 114, 121]⟩ : ByteArray) then
    (some (50, 36, 240, 0))
    else (if name_0 = (⟨#[101, 98, 111, 110, 121]⟩ : ByteArray) then
    (some (95, 85, 270, 0))
    else (if name_0 = (⟨#[104, 111, 108, 108, 121]⟩ : ByteArray) then
    (some (5, 35, 370, 0))
    else (if name_0 = (⟨#[109, 97, 112, 108, 101]⟩ : ByteArray) then
    (some (10, 42, 290, 0))
    else (if name_0 = (⟨#[111, 97, 107]⟩ : ByteArray) then
    (some (40, 40, 330, 0))
    else (if name_0 = (⟨#[114, 111, 115, 101, 119, 111, 111, 100]⟩ : ByteArray) then
    (some (80, 60, 220, 0))
    else (if name_0 = (⟨#[119, 97, 108, 110, 117, 116]⟩ : ByteArray) then
    (some (70, 38, 260, 0))
    else (some (0, 0, 0, 3)))))))))))
noncomputable def impl_speciesShade (name_0 : ByteArray) : Option (Int × Bool) :=
  (impl_SpeciesData name_0).bind fun x10 =>
    some (x10.1, (x10.2.2.2 == 0))
noncomputable def impl_isSpecies (name_0 : ByteArray) : Option Bool :=
  (impl_speciesShade name_0).bind fun x7 =>
    some x7.2
noncomputable def impl_absolute (n_0 : Int) : Option Int :=
  some (max2 n_0 (w64 (0 - n_0)))
noncomputable def impl_gain (species_0 : ByteArray) (heat_1 : Int) (seconds_2 : Int) : Option Int :=
  (impl_SpeciesData species_0).bind fun x13 =>
    (dv .i64 (w64 ((w64 (heat_1 - 100)) * seconds_2)) (w64 (10 * x13.2.1))).bind fun x24 =>
    some x24
noncomputable def impl_nearest_k9 (a_0 : Int) (b_1 : Int) (out_6_r9 : Int) : Option Int :=
  if (decide (a_0 < 0)) = (decide (b_1 < 0)) then
    (some out_6_r9)
    else (some (w64 (0 - out_6_r9)))
noncomputable def impl_nearest (a_0 : Int) (b_1 : Int) : Option Int :=
  if b_1 = 0 then
    (some 0)
    else ((dv .i64 (max2 a_0 (w64 (0 - a_0))) (max2 b_1 (w64 (0 - b_1)))).bind fun x25 =>
    (md (max2 a_0 (w64 (0 - a_0))) (max2 b_1 (w64 (0 - b_1)))).bind fun x28 =>
    if x28 ≥ (w64 ((max2 b_1 (w64 (0 - b_1))) - x28)) then
    (impl_nearest_k9 a_0 b_1 (w64 (x25 + 1)))
    else (impl_nearest_k9 a_0 b_1 x25))
noncomputable def impl_stepShade (species_0 : ByteArray) (shade_1 : Int) (x_2 : S_Step) : Option Int :=
  if x_2.Kind = 1 then
    ((impl_gain species_0 x_2.A x_2.B).bind fun x17 =>
    some (min2 (w64 (shade_1 + x17)) 100))
    else (if x_2.Kind = 2 then
    ((impl_nearest (w64 ((w64 (x_2.A - shade_1)) * x_2.B)) 100).bind fun x30 =>
    some (w64 (shade_1 + x30)))
    else ((dv .i64 x_2.A 10).bind fun x35 =>
    some (max2 (w64 (shade_1 - x35)) 0)))
noncomputable def impl_stepSearch_run_l9 (self : (S_stepSearch × (List S_Step) × Int × Int) → Option ((List S_Step) × Int × S_stepSearch)) (n_3 : Int) (s_0 : S_stepSearch) (shade_2 : Int) (steps_1 : (List S_Step)) (s : (Int × ByteArray × Int × Int × (List S_Step) × Int)) : Option ((Int × ByteArray × Int × Int × (List S_Step) × Int) ⊕ ((ByteArray × Int × Int × (List S_Step) × Int) ⊕ ((List S_Step) × Int × S_stepSearch))) :=
  match s with
    | (t_48_l9, s_o0_0_l9, s_o0_1_l9, s_o0_2_l9, s_o0_3_l9, s_o0_4_l9) =>
    if t_48_l9 < (s_0.menu.length : Int) then
    ((rd s_0.menu t_48_l9).bind fun x50 =>
    (apd 24 ([] : List S_Step) steps_1).bind fun x55 =>
    (apd 24 x55 ([x50] : List S_Step)).bind fun x58 =>
    (impl_stepShade s_o0_0_l9 shade_2 x50).bind fun x65 =>
    (self ((⟨s_o0_0_l9, s_o0_1_l9, s_o0_2_l9, s_o0_3_l9, s_o0_4_l9⟩ : S_stepSearch), x58, x65, n_3)).bind fun x67 =>
    if x67.2.1 ≠ 3 then
    (some (.inr (.inr (x67.1, x67.2.1, x67.2.2))))
    else (some (.inl ((w64 (t_48_l9 + 1)), x67.2.2.species, x67.2.2.target, x67.2.2.tolerance, x67.2.2.menu, x67.2.2.left))))
    else (some (.inr (.inl (s_o0_0_l9, s_o0_1_l9, s_o0_2_l9, s_o0_3_l9, s_o0_4_l9))))
noncomputable def impl_stepSearch_run_F (self : (S_stepSearch × (List S_Step) × Int × Int) → Option ((List S_Step) × Int × S_stepSearch)) (s_0 : S_stepSearch) (steps_1 : (List S_Step)) (shade_2 : Int) (n_3 : Int) : Option ((List S_Step) × Int × S_stepSearch) :=
  if s_0.left = 0 then
    (some (([] : List S_Step), 5, s_0))
    else (if (steps_1.length : Int) = n_3 then
    ((impl_absolute (w64 (shade_2 - s_0.target))).bind fun x36 =>
    if x36 ≤ s_0.tolerance then
    (some (steps_1, 0, (⟨s_0.species, s_0.target, s_0.tolerance, s_0.menu, (w64 (s_0.left - 1))⟩ : S_stepSearch)))
    else (some (([] : List S_Step), 3, (⟨s_0.species, s_0.target, s_0.tolerance, s_0.menu, (w64 (s_0.left - 1))⟩ : S_stepSearch))))
    else ((loopO (impl_stepSearch_run_l9 self n_3 s_0 shade_2 steps_1) (0, s_0.species, s_0.target, s_0.tolerance, s_0.menu, (w64 (s_0.left - 1)))).bind fun o => match o with
    | (.inl (s_o0_0_e0_9, s_o0_1_e0_9, s_o0_2_e0_9, s_o0_3_e0_9, s_o0_4_e0_9)) => (some (([] : List S_Step), 3, (⟨s_o0_0_e0_9, s_o0_1_e0_9, s_o0_2_e0_9, s_o0_3_e0_9, s_o0_4_e0_9⟩ : S_stepSearch)))
    | (.inr r2) => (some r2)))
noncomputable def impl_stepSearch_run (s_0 : S_stepSearch) (steps_1 : (List S_Step)) (shade_2 : Int) (n_3 : Int) : Option ((List S_Step) × Int × S_stepSearch) := fixO (fun self s => match s with | (s_0, steps_1, shade_2, n_3) => impl_stepSearch_run_F self s_0 steps_1 shade_2 n_3) (s_0, steps_1, shade_2, n_3)
noncomputable def impl_FewestSteps_l9 (shade_1 : Int) (s : (Int × ByteArray × Int × Int × (List S_Step) × Int)) : Option ((Int × ByteArray × Int × Int × (List S_Step) × Int) ⊕ (Unit ⊕ ((List S_Step) × Int))) :=
  match s with
    | (t_52_l9, o_o51_0_l9, o_o51_1_l9, o_o51_2_l9, o_o51_3_l9, o_o51_4_l9) =>
    if t_52_l9 < 9 then
    ((impl_stepSearch_run (⟨o_o51_0_l9, o_o51_1_l9, o_o51_2_l9, o_o51_3_l9, o_o51_4_l9⟩ : S_stepSearch) ([] : List S_Step) shade_1 t_52_l9).bind fun x59 =>
    if x59.2.1 ≠ 3 then
    (some (.inr (.inr (x59.1, x59.2.1))))
    else (some (.inl ((w64 (t_52_l9 + 1)), x59.2.2.species, x59.2.2.target, x59.2.2.tolerance, x59.2.2.menu, x59.2.2.left))))
    else (some (.inr (.inl ())))
noncomputable def impl_FewestSteps (species_0 : ByteArray) (shade_1 : Int) (target_2 : Int) (tolerance_3 : Int) (menu_4 : (List S_Step)) (budget_5 : Int) : Option ((List S_Step) × Int) :=
  (impl_validSteps menu_4).bind fun x20 =>
    if x20 = true then
    ((impl_within budget_5 1 20000).bind fun x24 =>
    (if x24 = true then
    ((impl_within shade_1 0 100).bind fun x28 =>
    if x28 = true then
    ((impl_within target_2 0 100).bind fun x33 =>
    if x33 = true then
    ((impl_within tolerance_3 0 100).bind fun x38 =>
    some (!x38))
    else (some true))
    else (some true))
    else (some true)).bind fun t_22_m3 =>
    if t_22_m3 = true then
    (some (([] : List S_Step), 2))
    else ((impl_isSpecies species_0).bind fun x43 =>
    if x43 = true then
    ((loopO (impl_FewestSteps_l9 shade_1) (0, species_0, target_2, tolerance_3, menu_4, budget_5)).bind fun o => match o with
    | (.inl _) => (some (([] : List S_Step), 3))
    | (.inr r2) => (some r2))
    else (some (([] : List S_Step), 3))))
    else (some (([] : List S_Step), 1))
noncomputable def laws_eqStep (a_0 : S_Step) (b_1 : S_Step) : Option Bool :=
  if a_0.Kind ≠ b_1.Kind then
    (some false)
    else (if a_0.A ≠ b_1.A then
    (some false)
    else (if a_0.B ≠ b_1.B then
    (some false)
    else (some true)))
noncomputable def laws_eqStepS_l4 (a_0 : (List S_Step)) (b_1 : (List S_Step)) (i_5_l4 : Int) : Option (Int ⊕ (Unit ⊕ Bool)) :=
  if i_5_l4 < (a_0.length : Int) then
    ((rd a_0 i_5_l4).bind fun x19 =>
    (rd b_1 i_5_l4).bind fun x23 =>
    (laws_eqStep x19 x23).bind fun x25 =>
    if x25 = true then
    (some (.inl (w64 (i_5_l4 + 1))))
    else (some (.inr (.inr false))))
    else (some (.inr (.inl ())))
noncomputable def laws_eqStepS (a_0 : (List S_Step)) (b_1 : (List S_Step)) : Option Bool :=
  if (a_0.length : Int) ≠ (b_1.length : Int) then
    (some false)
    else ((loopO (laws_eqStepS_l4 a_0 b_1) 0).bind fun o => match o with
    | (.inl _) => (some true)
    | (.inr r2) => (some r2))
noncomputable def laws_markStepS_l2 (s : (Int × Int × (List S_Step))) : Option ((Int × Int × (List S_Step)) ⊕ (Int × (List S_Step))) :=
  match s with
    | (k_1_l2, i_5_l2, a_o0_l2) =>
    if i_5_l2 < (a_o0_l2.length : Int) then
    ((rd a_o0_l2 i_5_l2).bind fun x15 =>
    (rd (a_o0_l2.set i_5_l2.toNat (⟨k_1_l2, x15.A, x15.B⟩ : S_Step)) i_5_l2).bind fun x22 =>
    (rd ((a_o0_l2.set i_5_l2.toNat (⟨k_1_l2, x15.A, x15.B⟩ : S_Step)).set i_5_l2.toNat (⟨x22.Kind, (w64 (k_1_l2 + 1)), x22.B⟩ : S_Step)) i_5_l2).bind fun x29 =>
    some (.inl ((w64 ((w64 ((w64 (k_1_l2 + 1)) + 1)) + 1)), (w64 (i_5_l2 + 1)), (((a_o0_l2.set i_5_l2.toNat (⟨k_1_l2, x15.A, x15.B⟩ : S_Step)).set i_5_l2.toNat (⟨x22.Kind, (w64 (k_1_l2 + 1)), x22.B⟩ : S_Step)).set i_5_l2.toNat (⟨x29.Kind, x29.A, (w64 ((w64 (k_1_l2 + 1)) + 1))⟩ : S_Step)))))
    else (some (.inr (k_1_l2, a_o0_l2)))
noncomputable def laws_markStepS (a_0 : (List S_Step)) (k_1 : Int) : Option (Int × (List S_Step)) :=
  (loopO (laws_markStepS_l2) (k_1, 0, a_0)).bind fun o => match o with
    | (k_1_e0_2, a_o0_e0_2) =>
    some (k_1_e0_2, a_o0_e0_2)
noncomputable def laws_heldStepS_l2 (a_0 : (List S_Step)) (s : (Int × Int)) : Option ((Int × Int) ⊕ (Int ⊕ Int)) :=
  match s with
    | (k_1_l2, i_5_l2) =>
    if i_5_l2 < (a_0.length : Int) then
    ((rd a_0 i_5_l2).bind fun x14 =>
    if x14.Kind ≠ k_1_l2 then
    (some (.inr (.inr (-1))))
    else ((rd a_0 i_5_l2).bind fun x23 =>
    if x23.A ≠ (w64 (k_1_l2 + 1)) then
    (some (.inr (.inr (-1))))
    else ((rd a_0 i_5_l2).bind fun x32 =>
    if x32.B ≠ (w64 ((w64 (k_1_l2 + 1)) + 1)) then
    (some (.inr (.inr (-1))))
    else (some (.inl ((w64 ((w64 ((w64 (k_1_l2 + 1)) + 1)) + 1)), (w64 (i_5_l2 + 1))))))))
    else (some (.inr (.inl k_1_l2)))
noncomputable def laws_heldStepS (a_0 : (List S_Step)) (k_1 : Int) : Option Int :=
  (loopO (laws_heldStepS_l2 a_0) (k_1, 0)).bind fun o => match o with
    | (.inl k_1_e0_2) => (some k_1_e0_2)
    | (.inr r2) => (some r2)
noncomputable def laws_FnExactFewestSteps (aSpecies_0 : ByteArray) (aShade_1 : Int) (aTarget_2 : Int) (aTolerance_3 : Int) (aMenu_4 : (List S_Step)) (aBudget_5 : Int) : Option Bool :=
  if (aSpecies_0.size : Int) > 1048576 then
    (some true)
    else ((laws_szStepS aMenu_4 1048576).bind fun x29 =>
    if x29 < 0 then
    (some true)
    else ((laws_toStepS aMenu_4).bind fun x38 =>
    (spec_FewestSteps aSpecies_0 aShade_1 aTarget_2 aTolerance_3 x38 aBudget_5).bind fun x40 =>
    (laws_toStepS aMenu_4).bind fun x44 =>
    (impl_FewestSteps aSpecies_0 aShade_1 aTarget_2 aTolerance_3 x44 aBudget_5).bind fun x52 =>
    (laws_eqStepS x52.1 x40.1).bind fun x57 =>
    if (¬ (x57 = true) ∨ x52.2 ≠ x40.2) then
    (some false)
    else ((laws_toStepS aMenu_4).bind fun x66 =>
    (laws_eqStepS x44 x66).bind fun x67 =>
    if x67 = true then
    ((laws_markStepS x44 1).bind fun x71 =>
    (if x71.1 < 0 then
    (some true)
    else ((laws_eqStepS x52.1 x40.1).bind fun x77 =>
    if x77 = true then
    (some (x52.2 != x40.2))
    else (some true))).bind fun t_84_m16 =>
    if t_84_m16 = true then
    (some false)
    else ((laws_markStepS x52.1 1).bind fun x87 =>
    (laws_heldStepS x87.2 1).bind fun x90 =>
    if x90 < 0 then
    (some false)
    else (if x90 ≠ x87.1 then
    (some false)
    else ((laws_toStepS aMenu_4).bind fun x102 =>
    (impl_FewestSteps aSpecies_0 aShade_1 aTarget_2 aTolerance_3 x102 aBudget_5).bind fun x104 =>
    (laws_eqStepS x104.1 x40.1).bind fun x109 =>
    if (¬ (x109 = true) ∨ x104.2 ≠ x40.2) then
    (some false)
    else ((laws_heldStepS x87.2 1).bind fun x118 =>
    if x118 < 0 then
    (some false)
    else (if x118 ≠ x87.1 then
    (some false)
    else (some true)))))))
    else (some false))))

end Go.Pw
