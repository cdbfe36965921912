/- Plain functions that answer what the program's functions answer. Conditions: none; definitions alone. -/
import Derived.Test.YtigjhjlkdamncaaSimPw
namespace Go.Pw
open Go.Sim (min2 max2)
set_option linter.unusedVariables false
def bit_and (k : IntKind) (a b : Int) : Int := k.wrap (BitVec.ofInt k.bits a &&& BitVec.ofInt k.bits b).toNat

structure S_Blade where
  Name : ByteArray
  Life : Int
  Price : Int
  Speed : Int

structure S_Cutting where
  Name : ByteArray
  Length : Int
  Hardness : Int

structure S_l00Src where
  code : (List Int)
  at_ : Int
  seed : Int

structure S_bladeSearch where
  wears : (List Int)
  life : Int
  left : Int

noncomputable def laws_b10Long (code_0 : (List Int)) : Option Bool :=
  some (decide ((code_0.length : Int) > 1048576))
noncomputable def spec_l00From (code_0 : (List Int)) : Option S_l00Src :=
  some (⟨code_0, 0, 0⟩ : S_l00Src)
noncomputable def spec_l00Src_next_k4 (s_0 : S_l00Src) (b_3_r4 : Int) : Option (Int × S_l00Src) :=
  if (w64 (s_0.at_ + 1)) ≤ (s_0.code.length : Int) then
    (some (b_3_r4, (⟨s_0.code, (w64 (s_0.at_ + 1)), (IntKind.wrap .u64 ((IntKind.wrap .u64 ((IntKind.wrap .u64 (s_0.seed * 6364136223846793005)) + (IntKind.wrap .u64 (b_3_r4)))) + 1442695040888963407))⟩ : S_l00Src)))
    else ((shr .u64 (IntKind.wrap .u64 ((IntKind.wrap .u64 ((IntKind.wrap .u64 (s_0.seed * 6364136223846793005)) + (IntKind.wrap .u64 (b_3_r4)))) + 1442695040888963407)) 40).bind fun x59 =>
    some ((w64 ((bit_and .u64 x59 255))), (⟨s_0.code, (w64 (s_0.at_ + 1)), (IntKind.wrap .u64 ((IntKind.wrap .u64 ((IntKind.wrap .u64 (s_0.seed * 6364136223846793005)) + (IntKind.wrap .u64 (b_3_r4)))) + 1442695040888963407))⟩ : S_l00Src)))
noncomputable def spec_l00Src_next (s_0 : S_l00Src) : Option (Int × S_l00Src) :=
  if s_0.at_ < (s_0.code.length : Int) then
    ((rd s_0.code s_0.at_).bind fun x22 =>
    spec_l00Src_next_k4 s_0 (w64 (x22)))
    else (spec_l00Src_next_k4 s_0 0)
noncomputable def spec_l00Src_pick_k6 (n_1 : Int) (x_5_r6 : Int) (s_o0_0_r6 : (List Int)) (s_o0_1_r6 : Int) (s_o0_2_r6 : Int) : Option (Int × S_l00Src) :=
  (md x_5_r6 n_1).bind fun x19 =>
    some (x19, (⟨s_o0_0_r6, s_o0_1_r6, s_o0_2_r6⟩ : S_l00Src))
noncomputable def spec_l00Src_pick (s_0 : S_l00Src) (n_1 : Int) : Option (Int × S_l00Src) :=
  if n_1 ≤ 1 then
    (some (0, s_0))
    else ((spec_l00Src_next s_0).bind fun x9 =>
    if n_1 > 200 then
    ((spec_l00Src_next x9.2).bind fun x15 =>
    spec_l00Src_pick_k6 n_1 (w64 ((w64 (x9.1 * 256)) + x15.1)) x15.2.code x15.2.at_ x15.2.seed)
    else (spec_l00Src_pick_k6 n_1 x9.1 x9.2.code x9.2.at_ x9.2.seed))
noncomputable def spec_l00Src_text (s_0 : S_l00Src) (list_1 : (List ByteArray)) : Option (ByteArray × S_l00Src) :=
  (spec_l00Src_pick s_0 (list_1.length : Int)).bind fun x9 =>
    (rd list_1 x9.1).bind fun x10 =>
    some (x10, x9.2)
noncomputable def spec_l00Src_among (s_0 : S_l00Src) (list_1 : (List Int)) : Option (Int × S_l00Src) :=
  (spec_l00Src_pick s_0 (list_1.length : Int)).bind fun x9 =>
    (rd list_1 x9.1).bind fun x10 =>
    some (x10, x9.2)
noncomputable def spec_l16DrawOk (s_0 : S_l00Src) : Option (S_Blade × S_l00Src) :=
  (spec_l00Src_text s_0 ([(⟨#[102, 105, 110, 101]⟩ : ByteArray), (⟨#[99, 111, 97, 114, 115, 101]⟩ : ByteArray), (⟨#[98, 49]⟩ : ByteArray)] : List ByteArray)).bind fun x6 =>
    (spec_l00Src_pick x6.2 3000).bind fun x9 =>
    (spec_l00Src_pick x9.2 400).bind fun x13 =>
    (spec_l00Src_among x13.2 ([1, 30, 100, 10000] : List Int)).bind fun x17 =>
    some ((⟨x6.1, (w64 (500 + x9.1)), x13.1, x17.1⟩ : S_Blade), x17.2)
noncomputable def spec_l16Draw_k11 (s_o0_0_r11 : (List Int)) (s_o0_1_r11 : Int) (s_o0_2_r11 : Int) (b_o3_0_r11 : ByteArray) (b_o3_1_r11 : Int) (b_o3_2_r11 : Int) (b_o3_3_r11 : Int) : Option (S_Blade × S_l00Src) :=
  some ((⟨b_o3_0_r11, b_o3_1_r11, b_o3_2_r11, b_o3_3_r11⟩ : S_Blade), (⟨s_o0_0_r11, s_o0_1_r11, s_o0_2_r11⟩ : S_l00Src))
noncomputable def spec_l16Draw (s_0 : S_l00Src) : Option (S_Blade × S_l00Src) :=
  (spec_l16DrawOk s_0).bind fun x5 =>
    (spec_l00Src_pick x5.2 22).bind fun x7 =>
    if x7.1 = 0 then
    ((spec_l00Src_among x7.2 ([0, 1, 1000000, 1000001] : List Int)).bind fun x12 =>
    spec_l16Draw_k11 x12.2.code x12.2.at_ x12.2.seed x5.1.Name x12.1 x5.1.Price x5.1.Speed)
    else (if x7.1 = 1 then
    ((spec_l00Src_among x7.2 ([(-1), 1000001] : List Int)).bind fun x18 =>
    spec_l16Draw_k11 x18.2.code x18.2.at_ x18.2.seed x5.1.Name x5.1.Life x18.1 x5.1.Speed)
    else (if x7.1 = 2 then
    ((spec_l00Src_among x7.2 ([0, 10001] : List Int)).bind fun x24 =>
    spec_l16Draw_k11 x24.2.code x24.2.at_ x24.2.seed x5.1.Name x5.1.Life x5.1.Price x24.1)
    else (if x7.1 = 3 then
    ((spec_l00Src_text x7.2 ([(⟨#[]⟩ : ByteArray), (⟨#[66]⟩ : ByteArray)] : List ByteArray)).bind fun x30 =>
    spec_l16Draw_k11 x30.2.code x30.2.at_ x30.2.seed x30.1 x5.1.Life x5.1.Price x5.1.Speed)
    else (spec_l16Draw_k11 x7.2.code x7.2.at_ x7.2.seed x5.1.Name x5.1.Life x5.1.Price x5.1.Speed))))
noncomputable def spec_l00Src_one (s_0 : S_l00Src) (n_1 : Int) : Option (Bool × S_l00Src) :=
  (spec_l00Src_pick s_0 n_1).bind fun x7 =>
    some ((x7.1 == 0), x7.2)
noncomputable def spec_l16DrawCutting (s_0 : S_l00Src) (name_1 : ByteArray) : Option (S_Cutting × S_l00Src) :=
  (spec_l00Src_pick s_0 900).bind fun x8 =>
    (spec_l00Src_among x8.2 ([40, 33, 60, 85, 1, 100] : List Int)).bind fun x13 =>
    some ((⟨name_1, (w64 (1 + x8.1)), x13.1⟩ : S_Cutting), x13.2)
noncomputable def spec_l16DrawList_k20 (s_o0_0_r20 : (List Int)) (s_o0_1_r20 : Int) (s_o0_2_r20 : Int) (out_o4_r20 : (List S_Cutting)) : Option ((List S_Cutting) × S_l00Src) :=
  some (out_o4_r20, (⟨s_o0_0_r20, s_o0_1_r20, s_o0_2_r20⟩ : S_l00Src))
noncomputable def spec_l16DrawList_l15 (x42 : (Int × S_l00Src)) (s : (Int × (List S_Cutting))) : Option ((Int × (List S_Cutting)) ⊕ (List S_Cutting)) :=
  match s with
    | (k_7_l15, out_o4_l15) =>
    if k_7_l15 < x42.1 then
    ((cat (⟨#[110]⟩ : ByteArray) (strOf ([(IntKind.wrap .u8 ((w64 (97 + k_7_l15))))] : List Int))).bind fun x55 =>
    (apd 32 out_o4_l15 ([(⟨x55, 20, 40⟩ : S_Cutting)] : List S_Cutting)).bind fun x58 =>
    some (.inl ((w64 (k_7_l15 + 1)), x58)))
    else (some (.inr out_o4_l15))
noncomputable def spec_l16DrawList_k5 (k_5_l4 : Int) (s_o0_0_r5 : (List Int)) (s_o0_1_r5 : Int) (s_o0_2_r5 : Int) (out_o4_r5 : (List S_Cutting)) : Option ((Int × (List Int) × Int × Int × (List S_Cutting)) ⊕ ((List Int) × Int × Int × (List S_Cutting))) :=
  some (.inl ((w64 (k_5_l4 + 1)), s_o0_0_r5, s_o0_1_r5, s_o0_2_r5, out_o4_r5))
noncomputable def spec_l16DrawList_l4 (s : (Int × (List Int) × Int × Int × (List S_Cutting))) : Option ((Int × (List Int) × Int × Int × (List S_Cutting)) ⊕ ((List Int) × Int × Int × (List S_Cutting))) :=
  match s with
    | (k_5_l4, s_o0_0_l4, s_o0_1_l4, s_o0_2_l4, out_o4_l4) =>
    if k_5_l4 < (([(⟨#[97]⟩ : ByteArray), (⟨#[98]⟩ : ByteArray), (⟨#[99]⟩ : ByteArray), (⟨#[100]⟩ : ByteArray), (⟨#[101]⟩ : ByteArray), (⟨#[102]⟩ : ByteArray), (⟨#[103]⟩ : ByteArray)] : List ByteArray).length : Int) then
    ((spec_l00Src_one (⟨s_o0_0_l4, s_o0_1_l4, s_o0_2_l4⟩ : S_l00Src) 2).bind fun x17 =>
    if x17.1 = true then
    ((rd ([(⟨#[97]⟩ : ByteArray), (⟨#[98]⟩ : ByteArray), (⟨#[99]⟩ : ByteArray), (⟨#[100]⟩ : ByteArray), (⟨#[101]⟩ : ByteArray), (⟨#[102]⟩ : ByteArray), (⟨#[103]⟩ : ByteArray)] : List ByteArray) k_5_l4).bind fun x22 =>
    (spec_l16DrawCutting x17.2 x22).bind fun x24 =>
    (apd 32 out_o4_l4 ([x24.1] : List S_Cutting)).bind fun x26 =>
    spec_l16DrawList_k5 k_5_l4 x24.2.code x24.2.at_ x24.2.seed x26)
    else (spec_l16DrawList_k5 k_5_l4 x17.2.code x17.2.at_ x17.2.seed out_o4_l4))
    else (some (.inr (s_o0_0_l4, s_o0_1_l4, s_o0_2_l4, out_o4_l4)))
noncomputable def spec_l16DrawList (s_0 : S_l00Src) : Option ((List S_Cutting) × S_l00Src) :=
  (loopO (spec_l16DrawList_l4) (0, s_0.code, s_0.at_, s_0.seed, ([] : List S_Cutting))).bind fun o => match o with
    | (s_o0_0_e0_4, s_o0_1_e0_4, s_o0_2_e0_4, out_o4_e0_4) =>
    (spec_l00Src_pick (⟨s_o0_0_e0_4, s_o0_1_e0_4, s_o0_2_e0_4⟩ : S_l00Src) 22).bind fun x28 =>
    if x28.1 = 0 then
    ((spec_l00Src_among x28.2 ([0, 1000000, 1000001] : List Int)).bind fun x34 =>
    (apd 32 out_o4_e0_4 ([(⟨(⟨#[122, 122]⟩ : ByteArray), x34.1, 1⟩ : S_Cutting)] : List S_Cutting)).bind fun x37 =>
    spec_l16DrawList_k20 x34.2.code x34.2.at_ x34.2.seed x37)
    else (if x28.1 = 1 then
    ((spec_l00Src_among x28.2 ([16, 17] : List Int)).bind fun x42 =>
    (loopO (spec_l16DrawList_l15 x42) (0, ([] : List S_Cutting))).bind fun out_o4_e3_15 =>
    spec_l16DrawList_k20 x42.2.code x42.2.at_ x42.2.seed out_o4_e3_15)
    else (if x28.1 = 2 then
    ((apd 32 out_o4_e0_4 ([(⟨(⟨#[97]⟩ : ByteArray), 1, 101⟩ : S_Cutting)] : List S_Cutting)).bind fun x64 =>
    spec_l16DrawList_k20 x28.2.code x28.2.at_ x28.2.seed x64)
    else (spec_l16DrawList_k20 x28.2.code x28.2.at_ x28.2.seed out_o4_e0_4)))
noncomputable def spec_l08DrawBudget (s_0 : S_l00Src) : Option (Int × S_l00Src) :=
  (spec_l00Src_one s_0 6).bind fun x4 =>
    if x4.1 = true then
    ((spec_l00Src_among x4.2 ([0, 1, 5, 20000, 20001] : List Int)).bind fun x7 =>
    some (x7.1, x7.2))
    else ((spec_l00Src_pick x4.2 400).bind fun x9 =>
    some ((w64 (x9.1 + 1)), x9.2))
noncomputable def spec_DrawFewestBlades (code_0 : (List Int)) : Option (S_Blade × (List S_Cutting) × Int) :=
  (spec_l00From code_0).bind fun x9 =>
    (spec_l16Draw x9).bind fun x11 =>
    (spec_l16DrawList x11.2).bind fun x13 =>
    (spec_l08DrawBudget x13.2).bind fun x17 =>
    some (x11.1, x13.1, x17.1)
noncomputable def impl_IsName_l4 (s_0 : ByteArray) (i_3_l4 : Int) : Option (Int ⊕ (Unit ⊕ Bool)) :=
  if i_3_l4 < (s_0.size : Int) then
    ((bt s_0 i_3_l4).bind fun x30 =>
    (if x30 < 97 then
    ((bt s_0 i_3_l4).bind fun x41 =>
    if x41 < 48 then
    (some true)
    else ((bt s_0 i_3_l4).bind fun x46 =>
    some (decide (x46 > 57))))
    else ((bt s_0 i_3_l4).bind fun x35 =>
    if x35 > 122 then
    ((bt s_0 i_3_l4).bind fun x41 =>
    if x41 < 48 then
    (some true)
    else ((bt s_0 i_3_l4).bind fun x46 =>
    some (decide (x46 > 57))))
    else (some false))).bind fun t_49_m6 =>
    if t_49_m6 = true then
    (some (.inr (.inr false)))
    else (some (.inl (w64 (i_3_l4 + 1)))))
    else (some (.inr (.inl ())))
noncomputable def impl_IsName (s_0 : ByteArray) : Option Bool :=
  (if (s_0.size : Int) < 1 then
    (some true)
    else (if (s_0.size : Int) > 10 then
    (some true)
    else ((bt s_0 0).bind fun x14 =>
    if x14 < 97 then
    (some true)
    else ((bt s_0 0).bind fun x19 =>
    some (decide (x19 > 122)))))).bind fun t_21_m1 =>
    if t_21_m1 = true then
    (some false)
    else ((loopO (impl_IsName_l4 s_0) 0).bind fun o => match o with
    | (.inl _) => (some true)
    | (.inr r2) => (some r2))
noncomputable def impl_within (n_0 : Int) (low_1 : Int) (high_2 : Int) : Option Bool :=
  some ((decide (n_0 ≥ low_1)) && (decide (n_0 ≤ high_2)))
noncomputable def impl_ValidBlade (b_0 : S_Blade) : Option Bool :=
  (impl_IsName b_0.Name).bind fun x5 =>
    (if x5 = true then
    ((impl_within b_0.Life 1 1000000).bind fun x9 =>
    if x9 = true then
    ((impl_within b_0.Price 0 1000000).bind fun x14 =>
    if x14 = true then
    ((impl_within b_0.Speed 1 10000).bind fun x19 =>
    some x19)
    else (some false))
    else (some false))
    else (some false)).bind fun t_2_m1 =>
    some t_2_m1
noncomputable def impl_validCutting (c_0 : S_Cutting) : Option Bool :=
  (impl_IsName c_0.Name).bind fun x5 =>
    (if x5 = true then
    ((impl_within c_0.Length 1 1000000).bind fun x9 =>
    if x9 = true then
    ((impl_within c_0.Hardness 1 100).bind fun x14 =>
    some x14)
    else (some false))
    else (some false)).bind fun t_2_m1 =>
    some t_2_m1
noncomputable def impl_ValidCuttings_l2 (list_0 : (List S_Cutting)) (t_7_l2 : Int) : Option (Int ⊕ (Unit ⊕ Bool)) :=
  if t_7_l2 < (list_0.length : Int) then
    ((rd list_0 t_7_l2).bind fun x10 =>
    (impl_validCutting x10).bind fun x13 =>
    (if x13 = true then
    (if t_7_l2 > 0 then
    ((rd list_0 (w64 (t_7_l2 - 1))).bind fun x22 =>
    some (!Op.bytesLess x22.Name.toList x10.Name.toList))
    else (some false))
    else (some true)).bind fun t_29_m4 =>
    if t_29_m4 = true then
    (some (.inr (.inr false)))
    else (some (.inl (w64 (t_7_l2 + 1)))))
    else (some (.inr (.inl ())))
noncomputable def impl_ValidCuttings (list_0 : (List S_Cutting)) : Option Bool :=
  (loopO (impl_ValidCuttings_l2 list_0) 0).bind fun o => match o with
    | (.inl _) => (some (decide ((list_0.length : Int) ≤ 16)))
    | (.inr r2) => (some r2)
noncomputable def impl_upDiv (a_0 : Int) (b_1 : Int) : Option Int :=
  (dv .i64 (w64 ((w64 (a_0 + b_1)) - 1)) b_1).bind fun x10 =>
    some x10
noncomputable def impl_wear (c_0 : S_Cutting) : Option Int :=
  (impl_upDiv (w64 (c_0.Length * c_0.Hardness)) 40).bind fun x8 =>
    some x8
noncomputable def impl_wears_l5 (b_0 : S_Blade) (list_1 : (List S_Cutting)) (s : (Int × (List Int))) : Option ((Int × (List Int)) ⊕ ((List Int) ⊕ ((List Int) × Int))) :=
  match s with
    | (t_20_l5, out_o6_l5) =>
    if t_20_l5 < (list_1.length : Int) then
    ((rd list_1 t_20_l5).bind fun x22 =>
    (impl_wear x22).bind fun x25 =>
    if x25 > b_0.Life then
    (some (.inr (.inr (([] : List Int), 6))))
    else ((impl_wear x22).bind fun x31 =>
    (apd 8 out_o6_l5 ([x31] : List Int)).bind fun x33 =>
    some (.inl ((w64 (t_20_l5 + 1)), x33))))
    else (some (.inr (.inl out_o6_l5)))
noncomputable def impl_wears (b_0 : S_Blade) (list_1 : (List S_Cutting)) : Option ((List Int) × Int) :=
  (impl_ValidBlade b_0).bind fun x10 =>
    (if x10 = true then
    ((impl_ValidCuttings list_1).bind fun x14 =>
    some (!x14))
    else (some true)).bind fun t_16_m1 =>
    if t_16_m1 = true then
    (some (([] : List Int), 1))
    else ((loopO (impl_wears_l5 b_0 list_1) (0, ([] : List Int))).bind fun o => match o with
    | (.inl out_o6_e0_5) => (some (out_o6_e0_5, 0))
    | (.inr r2) => (some r2))
noncomputable def impl_bladeSearch_run_k6 (self : (S_bladeSearch × (List Int) × (List Int) × Int) → Option ((List Int) × Int × S_bladeSearch)) (k_11_l5 : Int) (s_o0_0_r6 : (List Int)) (s_o0_1_r6 : Int) (s_o0_2_r6 : Int) : Option ((Int × (List Int) × Int × Int) ⊕ (((List Int) × Int × Int) ⊕ ((List Int) × Int × S_bladeSearch))) :=
  some (.inl ((w64 (k_11_l5 + 1)), s_o0_0_r6, s_o0_1_r6, s_o0_2_r6))
noncomputable def impl_bladeSearch_run_k10 (self : (S_bladeSearch × (List Int) × (List Int) × Int) → Option ((List Int) × Int × S_bladeSearch)) (choice_1 : (List Int)) (k_11_l5 : Int) (most_3 : Int) (s_o0_0_l5 : (List Int)) (s_o0_1_l5 : Int) (s_o0_2_l5 : Int) (x30 : Int) (next_o12_r10 : (List Int)) : Option ((Int × (List Int) × Int × Int) ⊕ (((List Int) × Int × Int) ⊕ ((List Int) × Int × S_bladeSearch))) :=
  (rd next_o12_r10 k_11_l5).bind fun x54 =>
    if (w64 (x54 + x30)) > s_o0_1_l5 then
    (impl_bladeSearch_run_k6 self k_11_l5 s_o0_0_l5 s_o0_1_l5 s_o0_2_l5)
    else (if s_o0_2_l5 = 0 then
    (some (.inr (.inr (([] : List Int), 5, (⟨s_o0_0_l5, s_o0_1_l5, s_o0_2_l5⟩ : S_bladeSearch)))))
    else ((rd next_o12_r10 k_11_l5).bind fun x77 =>
    (rd next_o12_r10 k_11_l5).bind fun x81 =>
    (apd 8 ([] : List Int) choice_1).bind fun x85 =>
    (apd 8 x85 ([k_11_l5] : List Int)).bind fun x88 =>
    (self ((⟨s_o0_0_l5, s_o0_1_l5, (w64 (s_o0_2_l5 - 1))⟩ : S_bladeSearch), x88, (next_o12_r10.set k_11_l5.toNat (w64 (x77 + x30))), most_3)).bind fun x91 =>
    if x91.2.1 ≠ 3 then
    (some (.inr (.inr (x91.1, x91.2.1, x91.2.2))))
    else (impl_bladeSearch_run_k6 self k_11_l5 x91.2.2.wears x91.2.2.life x91.2.2.left)))
noncomputable def impl_bladeSearch_run_l5 (self : (S_bladeSearch × (List Int) × (List Int) × Int) → Option ((List Int) × Int × S_bladeSearch)) (choice_1 : (List Int)) (most_3 : Int) (used_2 : (List Int)) (x30 : Int) (s : (Int × (List Int) × Int × Int)) : Option ((Int × (List Int) × Int × Int) ⊕ (((List Int) × Int × Int) ⊕ ((List Int) × Int × S_bladeSearch))) :=
  match s with
    | (k_11_l5, s_o0_0_l5, s_o0_1_l5, s_o0_2_l5) =>
    if (k_11_l5 ≤ (used_2.length : Int) ∧ k_11_l5 < most_3) then
    ((apd 8 ([] : List Int) used_2).bind fun x44 =>
    if k_11_l5 = (used_2.length : Int) then
    ((apd 8 x44 ([0] : List Int)).bind fun x51 =>
    impl_bladeSearch_run_k10 self choice_1 k_11_l5 most_3 s_o0_0_l5 s_o0_1_l5 s_o0_2_l5 x30 x51)
    else (impl_bladeSearch_run_k10 self choice_1 k_11_l5 most_3 s_o0_0_l5 s_o0_1_l5 s_o0_2_l5 x30 x44))
    else (some (.inr (.inl (s_o0_0_l5, s_o0_1_l5, s_o0_2_l5))))
noncomputable def impl_bladeSearch_run_F (self : (S_bladeSearch × (List Int) × (List Int) × Int) → Option ((List Int) × Int × S_bladeSearch)) (s_0 : S_bladeSearch) (choice_1 : (List Int)) (used_2 : (List Int)) (most_3 : Int) : Option ((List Int) × Int × S_bladeSearch) :=
  if (choice_1.length : Int) = (s_0.wears.length : Int) then
    (some (choice_1, 0, s_0))
    else ((rd s_0.wears (choice_1.length : Int)).bind fun x30 =>
    (loopO (impl_bladeSearch_run_l5 self choice_1 most_3 used_2 x30) (0, s_0.wears, s_0.life, s_0.left)).bind fun o => match o with
    | (.inl (s_o0_0_e0_5, s_o0_1_e0_5, s_o0_2_e0_5)) => (some (([] : List Int), 3, (⟨s_o0_0_e0_5, s_o0_1_e0_5, s_o0_2_e0_5⟩ : S_bladeSearch)))
    | (.inr r2) => (some r2))
noncomputable def impl_bladeSearch_run (s_0 : S_bladeSearch) (choice_1 : (List Int)) (used_2 : (List Int)) (most_3 : Int) : Option ((List Int) × Int × S_bladeSearch) := fixO (fun self s => match s with | (s_0, choice_1, used_2, most_3) => impl_bladeSearch_run_F self s_0 choice_1 used_2 most_3) (s_0, choice_1, used_2, most_3)
noncomputable def impl_FewestBlades_l9 (s : (Int × (List Int) × Int × Int)) : Option ((Int × (List Int) × Int × Int) ⊕ ((List Int) × Int × Int)) :=
  match s with
    | (m_12_l9, o_o36_0_l9, o_o36_1_l9, o_o36_2_l9) =>
    (impl_bladeSearch_run (⟨o_o36_0_l9, o_o36_1_l9, o_o36_2_l9⟩ : S_bladeSearch) ([] : List Int) ([] : List Int) m_12_l9).bind fun x42 =>
    if x42.2.1 = 0 then
    (some (.inr (x42.1, m_12_l9, 0)))
    else (if x42.2.1 ≠ 3 then
    (some (.inr (([] : List Int), 0, x42.2.1)))
    else (some (.inl ((w64 (m_12_l9 + 1)), x42.2.2.wears, x42.2.2.life, x42.2.2.left))))
noncomputable def impl_FewestBlades_k4 (b_0 : S_Blade) (budget_2 : Int) (x18 : ((List Int) × Int)) (code_10_r4 : Int) : Option ((List Int) × Int × Int) :=
  if code_10_r4 ≠ 0 then
    (some (([] : List Int), 0, code_10_r4))
    else ((loopO (impl_FewestBlades_l9) (0, x18.1, b_0.Life, budget_2)).bind fun r2 =>
    some r2)
noncomputable def impl_FewestBlades (b_0 : S_Blade) (list_1 : (List S_Cutting)) (budget_2 : Int) : Option ((List Int) × Int × Int) :=
  (impl_wears b_0 list_1).bind fun x18 =>
    (if x18.2 = 0 then
    ((impl_within budget_2 1 20000).bind fun x25 =>
    some (!x25))
    else (some false)).bind fun t_27_m2 =>
    if t_27_m2 = true then
    (impl_FewestBlades_k4 b_0 budget_2 x18 2)
    else (impl_FewestBlades_k4 b_0 budget_2 x18 x18.2)
noncomputable def impl_DecreasingBlades_c1 (i_0 : Int) (k_1 : Int) (cap0_0 : (List Int)) : Option Int :=
  (rd cap0_0 k_1).bind fun x8 =>
    (rd cap0_0 i_0).bind fun x12 =>
    some (w64 (x8 - x12))
noncomputable def slices_insertionSortCmpFunc_int_l4 (a_1 : Int) (cmp_3 : (Int → Int → Option Int)) (s : (Int × (List Int))) : Option ((Int × (List Int)) ⊕ (List Int)) :=
  match s with
    | (j_9_l4, data_o0_l4) =>
    (if j_9_l4 > a_1 then
    ((rd data_o0_l4 j_9_l4).bind fun x25 =>
    (rd data_o0_l4 (w64 (j_9_l4 - 1))).bind fun x30 =>
    (cmp_3 x25 x30).bind fun x32 =>
    some (decide (x32 < 0)))
    else (some false)).bind fun t_34_m4 =>
    if t_34_m4 = true then
    ((rd data_o0_l4 (w64 (j_9_l4 - 1))).bind fun x45 =>
    (rd data_o0_l4 j_9_l4).bind fun x49 =>
    (rd data_o0_l4 j_9_l4).bind fun x51 =>
    (rd (data_o0_l4.set j_9_l4.toNat x45) (w64 (j_9_l4 - 1))).bind fun x52 =>
    some (.inl ((w64 (j_9_l4 - 1)), ((data_o0_l4.set j_9_l4.toNat x45).set ((w64 (j_9_l4 - 1)).toNat) x49))))
    else (some (.inr data_o0_l4))
noncomputable def slices_insertionSortCmpFunc_int_l1 (a_1 : Int) (b_2 : Int) (cmp_3 : (Int → Int → Option Int)) (s : (Int × (List Int))) : Option ((Int × (List Int)) ⊕ (List Int)) :=
  match s with
    | (i_8_l1, data_o0_l1) =>
    if i_8_l1 < b_2 then
    ((loopO (slices_insertionSortCmpFunc_int_l4 a_1 cmp_3) (i_8_l1, data_o0_l1)).bind fun data_o0_e2_4 =>
    some (.inl ((w64 (i_8_l1 + 1)), data_o0_e2_4)))
    else (some (.inr data_o0_l1))
noncomputable def slices_insertionSortCmpFunc_int (data_0 : (List Int)) (a_1 : Int) (b_2 : Int) (cmp_3 : (Int → Int → Option Int)) : Option (List Int) :=
  (loopO (slices_insertionSortCmpFunc_int_l1 a_1 b_2 cmp_3) ((w64 (a_1 + 1)), data_0)).bind fun r2 =>
    some r2
noncomputable def slices_swapRangeCmpFunc_int_l1 (a_1 : Int) (b_2 : Int) (n_3 : Int) (s : (Int × (List Int))) : Option ((Int × (List Int)) ⊕ (List Int)) :=
  match s with
    | (i_10_l1, data_o0_l1) =>
    if i_10_l1 < n_3 then
    ((rd data_o0_l1 (w64 (b_2 + i_10_l1))).bind fun x28 =>
    (rd data_o0_l1 (w64 (a_1 + i_10_l1))).bind fun x34 =>
    (rd data_o0_l1 (w64 (a_1 + i_10_l1))).bind fun x36 =>
    (rd (data_o0_l1.set ((w64 (a_1 + i_10_l1)).toNat) x28) (w64 (b_2 + i_10_l1))).bind fun x37 =>
    some (.inl ((w64 (i_10_l1 + 1)), ((data_o0_l1.set ((w64 (a_1 + i_10_l1)).toNat) x28).set ((w64 (b_2 + i_10_l1)).toNat) x34))))
    else (some (.inr data_o0_l1))
noncomputable def slices_swapRangeCmpFunc_int (data_0 : (List Int)) (a_1 : Int) (b_2 : Int) (n_3 : Int) (cmp_4 : (Int → Int → Option Int)) : Option (List Int) :=
  (loopO (slices_swapRangeCmpFunc_int_l1 a_1 b_2 n_3) (0, data_0)).bind fun r2 =>
    some r2
noncomputable def slices_rotateCmpFunc_int_l2 (cmp_4 : (Int → Int → Option Int)) (m_2 : Int) (s : (Int × Int × (List Int))) : Option ((Int × Int × (List Int)) ⊕ (Int × (List Int))) :=
  match s with
    | (i_10_l2, j_11_l2, data_o0_l2) =>
    if i_10_l2 ≠ j_11_l2 then
    (if i_10_l2 > j_11_l2 then
    ((slices_swapRangeCmpFunc_int data_o0_l2 (w64 (m_2 - i_10_l2)) m_2 j_11_l2 cmp_4).bind fun x31 =>
    some (.inl ((w64 (i_10_l2 - j_11_l2)), j_11_l2, x31)))
    else ((slices_swapRangeCmpFunc_int data_o0_l2 (w64 (m_2 - i_10_l2)) (w64 ((w64 (m_2 + j_11_l2)) - i_10_l2)) i_10_l2 cmp_4).bind fun x46 =>
    some (.inl (i_10_l2, (w64 (j_11_l2 - i_10_l2)), x46))))
    else (some (.inr (i_10_l2, data_o0_l2)))
noncomputable def slices_rotateCmpFunc_int (data_0 : (List Int)) (a_1 : Int) (m_2 : Int) (b_3 : Int) (cmp_4 : (Int → Int → Option Int)) : Option (List Int) :=
  (loopO (slices_rotateCmpFunc_int_l2 cmp_4 m_2) ((w64 (m_2 - a_1)), (w64 (b_3 - m_2)), data_0)).bind fun o => match o with
    | (i_10_e0_2, data_o0_e0_2) =>
    (slices_swapRangeCmpFunc_int data_o0_e0_2 (w64 (m_2 - i_10_e0_2)) m_2 i_10_e0_2 cmp_4).bind fun x57 =>
    some x57
noncomputable def slices_symMergeCmpFunc_int_l9 (self : ((List Int) × Int × Int × Int × (Int → Int → Option Int)) → Option (List Int)) (i_10_e0_3 : Int) (s : (Int × (List Int))) : Option ((Int × (List Int)) ⊕ (List Int)) :=
  match s with
    | (k_13_l9, data_o0_l9) =>
    if k_13_l9 < (w64 (i_10_e0_3 - 1)) then
    ((rd data_o0_l9 (w64 (k_13_l9 + 1))).bind fun x69 =>
    (rd data_o0_l9 k_13_l9).bind fun x73 =>
    (rd data_o0_l9 k_13_l9).bind fun x75 =>
    (rd (data_o0_l9.set k_13_l9.toNat x69) (w64 (k_13_l9 + 1))).bind fun x76 =>
    some (.inl ((w64 (k_13_l9 + 1)), ((data_o0_l9.set k_13_l9.toNat x69).set ((w64 (k_13_l9 + 1)).toNat) x73))))
    else (some (.inr data_o0_l9))
noncomputable def slices_symMergeCmpFunc_int_l3 (self : ((List Int) × Int × Int × Int × (Int → Int → Option Int)) → Option (List Int)) (a_1 : Int) (cmp_4 : (Int → Int → Option Int)) (data_0 : (List Int)) (s : (Int × Int)) : Option ((Int × Int) ⊕ Int) :=
  match s with
    | (i_10_l3, j_11_l3) =>
    if i_10_l3 < j_11_l3 then
    ((shr .u64 (IntKind.wrap .u64 ((w64 (i_10_l3 + j_11_l3)))) 1).bind fun x38 =>
    (rd data_0 (w64 (x38))).bind fun x43 =>
    (rd data_0 a_1).bind fun x47 =>
    (cmp_4 x43 x47).bind fun x49 =>
    if x49 < 0 then
    (some (.inl ((w64 ((w64 (x38)) + 1)), j_11_l3)))
    else (some (.inl (i_10_l3, (w64 (x38))))))
    else (some (.inr i_10_l3))
noncomputable def slices_symMergeCmpFunc_int_l21 (self : ((List Int) × Int × Int × Int × (Int → Int → Option Int)) → Option (List Int)) (i_14_e4_15 : Int) (s : (Int × (List Int))) : Option ((Int × (List Int)) ⊕ (List Int)) :=
  match s with
    | (k_17_l21, data_o0_l21) =>
    if k_17_l21 > i_14_e4_15 then
    ((rd data_o0_l21 (w64 (k_17_l21 - 1))).bind fun x121 =>
    (rd data_o0_l21 k_17_l21).bind fun x125 =>
    (rd data_o0_l21 k_17_l21).bind fun x127 =>
    (rd (data_o0_l21.set k_17_l21.toNat x121) (w64 (k_17_l21 - 1))).bind fun x128 =>
    some (.inl ((w64 (k_17_l21 - 1)), ((data_o0_l21.set k_17_l21.toNat x121).set ((w64 (k_17_l21 - 1)).toNat) x125))))
    else (some (.inr data_o0_l21))
noncomputable def slices_symMergeCmpFunc_int_l15 (self : ((List Int) × Int × Int × Int × (Int → Int → Option Int)) → Option (List Int)) (cmp_4 : (Int → Int → Option Int)) (data_0 : (List Int)) (m_2 : Int) (s : (Int × Int)) : Option ((Int × Int) ⊕ Int) :=
  match s with
    | (i_14_l15, j_15_l15) =>
    if i_14_l15 < j_15_l15 then
    ((shr .u64 (IntKind.wrap .u64 ((w64 (i_14_l15 + j_15_l15)))) 1).bind fun x90 =>
    (rd data_0 m_2).bind fun x95 =>
    (rd data_0 (w64 (x90))).bind fun x99 =>
    (cmp_4 x95 x99).bind fun x101 =>
    if x101 < 0 then
    (some (.inl (i_14_l15, (w64 (x90)))))
    else (some (.inl ((w64 ((w64 (x90)) + 1)), j_15_l15))))
    else (some (.inr i_14_l15))
noncomputable def slices_symMergeCmpFunc_int_k43 (self : ((List Int) × Int × Int × Int × (Int → Int → Option Int)) → Option (List Int)) (b_3 : Int) (cmp_4 : (Int → Int → Option Int)) (m_2 : Int) (start_20_e8_33 : Int) (x133 : Int) (data_o0_r43 : (List Int)) : Option (List Int) :=
  if ((w64 (x133)) < (w64 ((w64 ((w64 (x133)) + m_2)) - start_20_e8_33)) ∧ (w64 ((w64 ((w64 (x133)) + m_2)) - start_20_e8_33)) < b_3) then
    ((self (data_o0_r43, (w64 (x133)), (w64 ((w64 ((w64 (x133)) + m_2)) - start_20_e8_33)), b_3, cmp_4)).bind fun x219 =>
    some x219)
    else (some data_o0_r43)
noncomputable def slices_symMergeCmpFunc_int_k41 (self : ((List Int) × Int × Int × Int × (Int → Int → Option Int)) → Option (List Int)) (a_1 : Int) (b_3 : Int) (cmp_4 : (Int → Int → Option Int)) (m_2 : Int) (start_20_e8_33 : Int) (x133 : Int) (data_o0_r41 : (List Int)) : Option (List Int) :=
  if (a_1 < start_20_e8_33 ∧ start_20_e8_33 < (w64 (x133))) then
    ((self (data_o0_r41, a_1, start_20_e8_33, (w64 (x133)), cmp_4)).bind fun x205 =>
    slices_symMergeCmpFunc_int_k43 self b_3 cmp_4 m_2 start_20_e8_33 x133 x205)
    else (slices_symMergeCmpFunc_int_k43 self b_3 cmp_4 m_2 start_20_e8_33 x133 data_o0_r41)
noncomputable def slices_symMergeCmpFunc_int_l33 (self : ((List Int) × Int × Int × Int × (Int → Int → Option Int)) → Option (List Int)) (cmp_4 : (Int → Int → Option Int)) (data_0 : (List Int)) (m_2 : Int) (x133 : Int) (s : (Int × Int)) : Option ((Int × Int) ⊕ Int) :=
  match s with
    | (start_20_l33, r_21_l33) =>
    if start_20_l33 < r_21_l33 then
    ((shr .u64 (IntKind.wrap .u64 ((w64 (start_20_l33 + r_21_l33)))) 1).bind fun x156 =>
    (rd data_0 (w64 ((w64 ((w64 ((w64 (x133)) + m_2)) - 1)) - (w64 (x156))))).bind fun x163 =>
    (rd data_0 (w64 (x156))).bind fun x167 =>
    (cmp_4 x163 x167).bind fun x169 =>
    if x169 < 0 then
    (some (.inl (start_20_l33, (w64 (x156)))))
    else (some (.inl ((w64 ((w64 (x156)) + 1)), r_21_l33))))
    else (some (.inr start_20_l33))
noncomputable def slices_symMergeCmpFunc_int_k32 (self : ((List Int) × Int × Int × Int × (Int → Int → Option Int)) → Option (List Int)) (a_1 : Int) (b_3 : Int) (cmp_4 : (Int → Int → Option Int)) (data_0 : (List Int)) (m_2 : Int) (x133 : Int) (start_20_r32 : Int) (r_21_r32 : Int) : Option (List Int) :=
  (loopO (slices_symMergeCmpFunc_int_l33 self cmp_4 data_0 m_2 x133) (start_20_r32, r_21_r32)).bind fun start_20_e8_33 =>
    if (start_20_e8_33 < m_2 ∧ m_2 < (w64 ((w64 ((w64 (x133)) + m_2)) - start_20_e8_33))) then
    ((slices_rotateCmpFunc_int data_0 start_20_e8_33 m_2 (w64 ((w64 ((w64 (x133)) + m_2)) - start_20_e8_33)) cmp_4).bind fun x191 =>
    slices_symMergeCmpFunc_int_k41 self a_1 b_3 cmp_4 m_2 start_20_e8_33 x133 x191)
    else (slices_symMergeCmpFunc_int_k41 self a_1 b_3 cmp_4 m_2 start_20_e8_33 x133 data_0)
noncomputable def slices_symMergeCmpFunc_int_F (self : ((List Int) × Int × Int × Int × (Int → Int → Option Int)) → Option (List Int)) (data_0 : (List Int)) (a_1 : Int) (m_2 : Int) (b_3 : Int) (cmp_4 : (Int → Int → Option Int)) : Option (List Int) :=
  if (w64 (m_2 - a_1)) = 1 then
    ((loopO (slices_symMergeCmpFunc_int_l3 self a_1 cmp_4 data_0) (m_2, b_3)).bind fun i_10_e0_3 =>
    (loopO (slices_symMergeCmpFunc_int_l9 self i_10_e0_3) (a_1, data_0)).bind fun r2 =>
    some r2)
    else (if (w64 (b_3 - m_2)) = 1 then
    ((loopO (slices_symMergeCmpFunc_int_l15 self cmp_4 data_0 m_2) (a_1, m_2)).bind fun i_14_e4_15 =>
    (loopO (slices_symMergeCmpFunc_int_l21 self i_14_e4_15) (m_2, data_0)).bind fun r2 =>
    some r2)
    else ((shr .u64 (IntKind.wrap .u64 ((w64 (a_1 + b_3)))) 1).bind fun x133 =>
    if m_2 > (w64 (x133)) then
    (slices_symMergeCmpFunc_int_k32 self a_1 b_3 cmp_4 data_0 m_2 x133 (w64 ((w64 ((w64 (x133)) + m_2)) - b_3)) (w64 (x133)))
    else (slices_symMergeCmpFunc_int_k32 self a_1 b_3 cmp_4 data_0 m_2 x133 a_1 m_2)))
noncomputable def slices_symMergeCmpFunc_int (data_0 : (List Int)) (a_1 : Int) (m_2 : Int) (b_3 : Int) (cmp_4 : (Int → Int → Option Int)) : Option (List Int) := fixO (fun self s => match s with | (data_0, a_1, m_2, b_3, cmp_4) => slices_symMergeCmpFunc_int_F self data_0 a_1 m_2 b_3 cmp_4) (data_0, a_1, m_2, b_3, cmp_4)
noncomputable def slices_stableCmpFunc_int_k16 (blockSize_6_l7 : Int) (data_o0_r16 : (List Int)) : Option ((Int × (List Int)) ⊕ (List Int)) :=
  some (.inl ((w64 (blockSize_6_l7 * 2)), data_o0_r16))
noncomputable def slices_stableCmpFunc_int_l9 (blockSize_6_l7 : Int) (cmp_2 : (Int → Int → Option Int)) (n_1 : Int) (s : (Int × Int × (List Int))) : Option ((Int × Int × (List Int)) ⊕ (Int × (List Int))) :=
  match s with
    | (a_7_l9, b_8_l9, data_o0_l9) =>
    if b_8_l9 ≤ n_1 then
    ((slices_symMergeCmpFunc_int data_o0_l9 a_7_l9 (w64 (a_7_l9 + blockSize_6_l7)) b_8_l9 cmp_2).bind fun x43 =>
    some (.inl (b_8_l9, (w64 (b_8_l9 + (w64 (2 * blockSize_6_l7)))), x43)))
    else (some (.inr (a_7_l9, data_o0_l9)))
noncomputable def slices_stableCmpFunc_int_l7 (cmp_2 : (Int → Int → Option Int)) (n_1 : Int) (s : (Int × (List Int))) : Option ((Int × (List Int)) ⊕ (List Int)) :=
  match s with
    | (blockSize_6_l7, data_o0_l7) =>
    if blockSize_6_l7 < n_1 then
    ((loopO (slices_stableCmpFunc_int_l9 blockSize_6_l7 cmp_2 n_1) (0, (w64 (2 * blockSize_6_l7)), data_o0_l7)).bind fun o => match o with
    | (a_7_e4_9, data_o0_e4_9) =>
    if (w64 (a_7_e4_9 + blockSize_6_l7)) < n_1 then
    ((slices_symMergeCmpFunc_int data_o0_e4_9 a_7_e4_9 (w64 (a_7_e4_9 + blockSize_6_l7)) n_1 cmp_2).bind fun x60 =>
    slices_stableCmpFunc_int_k16 blockSize_6_l7 x60)
    else (slices_stableCmpFunc_int_k16 blockSize_6_l7 data_o0_e4_9))
    else (some (.inr data_o0_l7))
noncomputable def slices_stableCmpFunc_int_l2 (cmp_2 : (Int → Int → Option Int)) (n_1 : Int) (s : (Int × Int × (List Int))) : Option ((Int × Int × (List Int)) ⊕ (Int × (List Int))) :=
  match s with
    | (a_7_l2, b_8_l2, data_o0_l2) =>
    if b_8_l2 ≤ n_1 then
    ((slices_insertionSortCmpFunc_int data_o0_l2 a_7_l2 b_8_l2 cmp_2).bind fun x18 =>
    some (.inl (b_8_l2, (w64 (b_8_l2 + 20)), x18)))
    else (some (.inr (a_7_l2, data_o0_l2)))
noncomputable def slices_stableCmpFunc_int (data_0 : (List Int)) (n_1 : Int) (cmp_2 : (Int → Int → Option Int)) : Option (List Int) :=
  (loopO (slices_stableCmpFunc_int_l2 cmp_2 n_1) (0, 20, data_0)).bind fun o => match o with
    | (a_7_e0_2, data_o0_e0_2) =>
    (slices_insertionSortCmpFunc_int data_o0_e0_2 a_7_e0_2 n_1 cmp_2).bind fun x27 =>
    (loopO (slices_stableCmpFunc_int_l7 cmp_2 n_1) (20, x27)).bind fun r2 =>
    some r2
noncomputable def slices_SortStableFunc_int_int (x_0 : (List Int)) (cmp_1 : (Int → Int → Option Int)) : Option (List Int) :=
  (slices_stableCmpFunc_int x_0 (x_0.length : Int) cmp_1).bind fun x8 =>
    some x8
noncomputable def impl_DecreasingBlades_c2 (u_0 : Int) (cap0_0 : (List Int)) (cap1_0 : Int) (cap2_0 : ByteArray) (cap2_1 : Int) (cap2_2 : Int) (cap2_3 : Int) : Option Bool :=
  (rd cap0_0 cap1_0).bind fun x9 =>
    some (decide ((w64 (u_0 + x9)) ≤ cap2_1))
noncomputable def slices_IndexFunc_int64_int64_l2 (f_1 : (Int → Option Bool)) (s_0 : (List Int)) (t_8_l2 : Int) : Option (Int ⊕ (Unit ⊕ Int)) :=
  if t_8_l2 < (s_0.length : Int) then
    ((rd s_0 t_8_l2).bind fun x14 =>
    (f_1 x14).bind fun x16 =>
    if x16 = true then
    (some (.inr (.inr t_8_l2)))
    else (some (.inl (w64 (t_8_l2 + 1)))))
    else (some (.inr (.inl ())))
noncomputable def slices_IndexFunc_int64_int64 (s_0 : (List Int)) (f_1 : (Int → Option Bool)) : Option Int :=
  (loopO (slices_IndexFunc_int64_int64_l2 f_1 s_0) 0).bind fun o => match o with
    | (.inl _) => (some (-1))
    | (.inr r2) => (some r2)
noncomputable def impl_DecreasingBlades_k19 (out_o11_l13 : (List Int)) (t_45_l13 : Int) (x19 : ((List Int) × Int)) (x47 : Int) (k_15_r19 : Int) (used_o12_r19 : (List Int)) : Option ((Int × (List Int) × (List Int)) ⊕ ((List Int) × (List Int))) :=
  (rd used_o12_r19 k_15_r19).bind fun x61 =>
    (rd x19.1 x47).bind fun x65 =>
    (rd used_o12_r19 k_15_r19).bind fun x68 =>
    (rd out_o11_l13 x47).bind fun x72 =>
    some (.inl ((w64 (t_45_l13 + 1)), (out_o11_l13.set x47.toNat k_15_r19), (used_o12_r19.set k_15_r19.toNat (w64 (x61 + x65)))))
noncomputable def impl_DecreasingBlades_l13 (b_0 : S_Blade) (x19 : ((List Int) × Int)) (x38 : (List Int)) (s : (Int × (List Int) × (List Int))) : Option ((Int × (List Int) × (List Int)) ⊕ ((List Int) × (List Int))) :=
  match s with
    | (t_45_l13, out_o11_l13, used_o12_l13) =>
    if t_45_l13 < (x38.length : Int) then
    ((rd x38 t_45_l13).bind fun x47 =>
    (slices_IndexFunc_int64_int64 used_o12_l13 (fun a0 => impl_DecreasingBlades_c2 a0 x19.1 x47 b_0.Name b_0.Life b_0.Price b_0.Speed)).bind fun x51 =>
    if x51 < 0 then
    ((apd 8 used_o12_l13 ([0] : List Int)).bind fun x58 =>
    impl_DecreasingBlades_k19 out_o11_l13 t_45_l13 x19 x47 (used_o12_l13.length : Int) x58)
    else (impl_DecreasingBlades_k19 out_o11_l13 t_45_l13 x19 x47 x51 used_o12_l13))
    else (some (.inr (out_o11_l13, used_o12_l13)))
noncomputable def impl_DecreasingBlades_l6 (x19 : ((List Int) × Int)) (s : (Int × (List Int))) : Option ((Int × (List Int)) ⊕ (List Int)) :=
  match s with
    | (t_28_l6, order_o9_l6) =>
    if t_28_l6 < (x19.1.length : Int) then
    ((apd 8 order_o9_l6 ([t_28_l6] : List Int)).bind fun x34 =>
    some (.inl ((w64 (t_28_l6 + 1)), x34)))
    else (some (.inr order_o9_l6))
noncomputable def impl_DecreasingBlades (b_0 : S_Blade) (list_1 : (List S_Cutting)) : Option ((List Int) × Int × Int) :=
  (impl_wears b_0 list_1).bind fun x19 =>
    if x19.2 ≠ 0 then
    (some (([] : List Int), 0, x19.2))
    else ((loopO (impl_DecreasingBlades_l6 x19) (0, ([] : List Int))).bind fun order_o9_e0_6 =>
    (slices_SortStableFunc_int_int order_o9_e0_6 (fun a0 a1 => impl_DecreasingBlades_c1 a0 a1 x19.1)).bind fun x38 =>
    (mkl 8 (x19.1.length : Int) 0).bind fun x41 =>
    (loopO (impl_DecreasingBlades_l13 b_0 x19 x38) (0, x41, ([] : List Int))).bind fun o => match o with
    | (out_o11_e2_13, used_o12_e2_13) =>
    some (out_o11_e2_13, (used_o12_e2_13.length : Int), 0))
noncomputable def impl_sumOf_l3 (list_0 : (List Int)) (s : (Int × Int)) : Option ((Int × Int) ⊕ Int) :=
  match s with
    | (sum_3_l3, t_8_l3) =>
    if t_8_l3 < (list_0.length : Int) then
    ((rd list_0 t_8_l3).bind fun x10 =>
    some (.inl ((w64 (sum_3_l3 + x10)), (w64 (t_8_l3 + 1)))))
    else (some (.inr sum_3_l3))
noncomputable def impl_sumOf (list_0 : (List Int)) : Option Int :=
  (loopO (impl_sumOf_l3 list_0) (0, 0)).bind fun sum_3_e0_3 =>
    some sum_3_e0_3
noncomputable def impl_BladesBound (b_0 : S_Blade) (list_1 : (List S_Cutting)) : Option (Int × Int) :=
  (impl_wears b_0 list_1).bind fun x11 =>
    if x11.2 ≠ 0 then
    (some (0, x11.2))
    else ((impl_sumOf x11.1).bind fun x18 =>
    (impl_upDiv x18 b_0.Life).bind fun x21 =>
    some (x21, 0))
noncomputable def spec_l01Small (c_0 : Int) : Option Bool :=
  some ((decide (c_0 ≥ 97)) && (decide (c_0 ≤ 122)))
noncomputable def spec_l01Digit (c_0 : Int) : Option Bool :=
  some ((decide (c_0 ≥ 48)) && (decide (c_0 ≤ 57)))
noncomputable def spec_l01Name_l4 (s_0 : ByteArray) (i_3_l4 : Int) : Option (Int ⊕ (Unit ⊕ Bool)) :=
  if i_3_l4 < (s_0.size : Int) then
    ((bt s_0 i_3_l4).bind fun x25 =>
    (spec_l01Small x25).bind fun x26 =>
    (if x26 = true then
    (some false)
    else ((bt s_0 i_3_l4).bind fun x31 =>
    (spec_l01Digit x31).bind fun x32 =>
    some (!x32))).bind fun t_34_m6 =>
    if t_34_m6 = true then
    (some (.inr (.inr false)))
    else (some (.inl (w64 (i_3_l4 + 1)))))
    else (some (.inr (.inl ())))
noncomputable def spec_l01Name (s_0 : ByteArray) : Option Bool :=
  (if s_0 = (⟨#[]⟩ : ByteArray) then
    (some true)
    else (if (s_0.size : Int) > 10 then
    (some true)
    else ((bt s_0 0).bind fun x13 =>
    (spec_l01Small x13).bind fun x14 =>
    some (!x14)))).bind fun t_16_m1 =>
    if t_16_m1 = true then
    (some false)
    else ((loopO (spec_l01Name_l4 s_0) 0).bind fun o => match o with
    | (.inl _) => (some true)
    | (.inr r2) => (some r2))
noncomputable def spec_l00In (n_0 : Int) (low_1 : Int) (high_2 : Int) : Option Bool :=
  some ((decide (n_0 ≥ low_1)) && (decide (n_0 ≤ high_2)))
noncomputable def spec_l16One (c_0 : S_Cutting) : Option Bool :=
  (spec_l01Name c_0.Name).bind fun x7 =>
    (if x7 = true then
    ((spec_l00In c_0.Length 1 1000000).bind fun x13 =>
    if x13 = true then
    ((spec_l00In c_0.Hardness 1 100).bind fun x20 =>
    some x20)
    else (some false))
    else (some false)).bind fun t_2_m1 =>
    some t_2_m1
noncomputable def spec_l16Wear (c_0 : S_Cutting) : Option Int :=
  (dv .i64 (w64 ((w64 (c_0.Length * c_0.Hardness)) + 39)) 40).bind fun x13 =>
    some x13
noncomputable def spec_WearOf (c_0 : S_Cutting) : Option (Int × Int) :=
  (spec_l16One c_0).bind fun x4 =>
    if x4 = true then
    ((spec_l16Wear c_0).bind fun x6 =>
    some (x6, 0))
    else (some (0, 1))
noncomputable def laws_b10Bins_k10 (i_12_l9 : Int) (sum_10_r10 : Int) (many_11_r10 : Int) : Option ((Int × Int × Int) ⊕ ((Int × Int) ⊕ Bool)) :=
  some (.inl (sum_10_r10, many_11_r10, (w64 (i_12_l9 + 1))))
noncomputable def laws_b10Bins_l9 (blades_2 : (List Int)) (k_9_l4 : Int) (list_1 : (List S_Cutting)) (n_3 : Int) (s : (Int × Int × Int)) : Option ((Int × Int × Int) ⊕ ((Int × Int) ⊕ Bool)) :=
  match s with
    | (sum_10_l9, many_11_l9, i_12_l9) =>
    if i_12_l9 < (blades_2.length : Int) then
    ((rd blades_2 i_12_l9).bind fun x39 =>
    (if x39 < 0 then
    (some true)
    else ((rd blades_2 i_12_l9).bind fun x45 =>
    some (decide (x45 ≥ n_3)))).bind fun t_49_m11 =>
    if t_49_m11 = true then
    (some (.inr (.inr false)))
    else ((rd blades_2 i_12_l9).bind fun x52 =>
    if x52 = k_9_l4 then
    ((rd list_1 i_12_l9).bind fun x59 =>
    (spec_WearOf x59).bind fun x61 =>
    if x61.2 ≠ 0 then
    (some (.inr (.inr false)))
    else (laws_b10Bins_k10 i_12_l9 (w64 (sum_10_l9 + x61.1)) (w64 (many_11_l9 + 1))))
    else (laws_b10Bins_k10 i_12_l9 sum_10_l9 many_11_l9)))
    else (some (.inr (.inl (sum_10_l9, many_11_l9))))
noncomputable def laws_b10Bins_l4 (b_0 : S_Blade) (blades_2 : (List Int)) (list_1 : (List S_Cutting)) (n_3 : Int) (k_9_l4 : Int) : Option (Int ⊕ (Unit ⊕ Bool)) :=
  if k_9_l4 < n_3 then
    ((loopO (laws_b10Bins_l9 blades_2 k_9_l4 list_1 n_3) (0, 0, 0)).bind fun o => match o with
    | (.inl (sum_10_e2_9, many_11_e2_9)) => (if (sum_10_e2_9 > b_0.Life ∨ many_11_e2_9 = 0) then
    (some (.inr (.inr false)))
    else (some (.inl (w64 (k_9_l4 + 1)))))
    | (.inr r2) => (some (.inr (.inr r2))))
    else (some (.inr (.inl ())))
noncomputable def laws_b10Bins (b_0 : S_Blade) (list_1 : (List S_Cutting)) (blades_2 : (List Int)) (n_3 : Int) : Option Bool :=
  if ((blades_2.length : Int) ≠ (list_1.length : Int) ∨ n_3 > (list_1.length : Int)) then
    (some false)
    else ((loopO (laws_b10Bins_l4 b_0 blades_2 list_1 n_3) 0).bind fun o => match o with
    | (.inl _) => (some true)
    | (.inr r2) => (some r2))
noncomputable def laws_FnBins (code_0 : (List Int)) : Option Bool :=
  (laws_b10Long code_0).bind fun x15 =>
    if x15 = true then
    (some true)
    else ((spec_DrawFewestBlades code_0).bind fun x18 =>
    (impl_FewestBlades x18.1 x18.2.1 x18.2.2).bind fun x26 =>
    (impl_DecreasingBlades x18.1 x18.2.1).bind fun x33 =>
    if (x26.2.2 = 1 ∨ x26.2.2 = 6) then
    (some ((x33.2.2 == x26.2.2) && (((x26.1.length : Int) == 0) && ((x33.1.length : Int) == 0))))
    else ((impl_BladesBound x18.1 x18.2.1).bind fun x59 =>
    (if x33.2.2 ≠ 0 then
    (some true)
    else (if x59.2 ≠ 0 then
    (some true)
    else (if x33.2.1 < x59.1 then
    (some true)
    else ((laws_b10Bins x18.1 x18.2.1 x33.1 x33.2.1).bind fun x78 =>
    some (!x78))))).bind fun t_80_m9 =>
    if t_80_m9 = true then
    (some false)
    else (if x26.2.2 ≠ 0 then
    (some (((x26.1.length : Int) == 0) && (x26.2.1 == 0)))
    else ((if x26.2.1 ≤ x33.2.1 then
    (if x26.2.1 ≥ x59.1 then
    ((laws_b10Bins x18.1 x18.2.1 x26.1 x26.2.1).bind fun x103 =>
    some x103)
    else (some false))
    else (some false)).bind fun t_2_m13 =>
    some t_2_m13))))

end Go.Pw
