/- Plain functions that answer what the program's functions answer. Conditions: none; definitions alone. -/
import Derived.Test.YtigjhjlkdamncaaSimPw
namespace Go.Pw
open Go.Sim (min2 max2)
set_option linter.unusedVariables false
def bit_and (k : IntKind) (a b : Int) : Int := k.wrap (BitVec.ofInt k.bits a &&& BitVec.ofInt k.bits b).toNat

structure S_Coat where
  Name : ByteArray
  Work : Int
  Dry : Int
  Wait : Int

structure S_l00Src where
  code : (List Int)
  at_ : Int
  seed : Int

structure S_coatSearch where
  list : (List S_Coat)
  open_ : Int
  end_ : Int
  left : Int

noncomputable def laws_b10Long (code_0 : (List Int)) : Option Bool :=
  some (decide ((code_0.length : Int) > 1048576))
noncomputable def spec_l00From (code_0 : (List Int)) : Option S_l00Src :=
  some (⟨code_0, 0, 0⟩ : S_l00Src)
noncomputable def spec_l00Src_next_k4 (s_0 : S_l00Src) (b_3_r4 : Int) : Option (Int × S_l00Src) :=
  if (w64 (s_0.at_ + 1)) ≤ (s_0.code.length : Int) then
    (some (b_3_r4, (⟨s_0.code, (w64 (s_0.at_ + 1)), (IntKind.wrap .u64 ((IntKind.wrap .u64 ((IntKind.wrap .u64 (s_0.seed * 6364136223846793005)) + (IntKind.wrap .u64 (b_3_r4)))) + 1442695040888963407))⟩ : S_l00Src)))
    else ((shr .u64 (IntKind.wrap .u64 ((IntKind.wrap .u64 ((IntKind.wrap .u64 (s_0.seed * 6364136223846793005)) + (IntKind.wrap .u64 (b_3_r4)))) + 1442695040888963407)) 40).bind fun x59 =>
    some ((w64 ((bit_and .u64 x59 255))), (⟨s_0.code, (w64 (s_0.at_ + 1)), (IntKind.wrap .u64 ((IntKind.wrap .u64 ((IntKind.wrap .u64 (s_0.seed * 6364136223846793005)) + (IntKind.wrap .u64 (b_3_r4)))) + 1442695040888963407))⟩ : S_l00Src)))
noncomputable def spec_l00Src_next (s_0 : S_l00Src) : Option (Int × S_l00Src) :=
  if s_0.at_ < (s_0.code.length : Int) then
    ((rd s_0.code s_0.at_).bind fun x22 =>
    spec_l00Src_next_k4 s_0 (w64 (x22)))
    else (spec_l00Src_next_k4 s_0 0)
noncomputable def spec_l00Src_pick_k6 (n_1 : Int) (x_5_r6 : Int) (s_o0_0_r6 : (List Int)) (s_o0_1_r6 : Int) (s_o0_2_r6 : Int) : Option (Int × S_l00Src) :=
  (md x_5_r6 n_1).bind fun x19 =>
    some (x19, (⟨s_o0_0_r6, s_o0_1_r6, s_o0_2_r6⟩ : S_l00Src))
noncomputable def spec_l00Src_pick (s_0 : S_l00Src) (n_1 : Int) : Option (Int × S_l00Src) :=
  if n_1 ≤ 1 then
    (some (0, s_0))
    else ((spec_l00Src_next s_0).bind fun x9 =>
    if n_1 > 200 then
    ((spec_l00Src_next x9.2).bind fun x15 =>
    spec_l00Src_pick_k6 n_1 (w64 ((w64 (x9.1 * 256)) + x15.1)) x15.2.code x15.2.at_ x15.2.seed)
    else (spec_l00Src_pick_k6 n_1 x9.1 x9.2.code x9.2.at_ x9.2.seed))
noncomputable def spec_l00Src_text (s_0 : S_l00Src) (list_1 : (List ByteArray)) : Option (ByteArray × S_l00Src) :=
  (spec_l00Src_pick s_0 (list_1.length : Int)).bind fun x9 =>
    (rd list_1 x9.1).bind fun x10 =>
    some (x10, x9.2)
noncomputable def spec_l00Src_among (s_0 : S_l00Src) (list_1 : (List Int)) : Option (Int × S_l00Src) :=
  (spec_l00Src_pick s_0 (list_1.length : Int)).bind fun x9 =>
    (rd list_1 x9.1).bind fun x10 =>
    some (x10, x9.2)
noncomputable def spec_l22DrawOne_k13 (s_o0_0_r13 : (List Int)) (s_o0_1_r13 : Int) (s_o0_2_r13 : Int) (c_o3_0_r13 : ByteArray) (c_o3_1_r13 : Int) (c_o3_2_r13 : Int) (c_o3_3_r13 : Int) : Option (S_Coat × S_l00Src) :=
  some ((⟨c_o3_0_r13, c_o3_1_r13, c_o3_2_r13, c_o3_3_r13⟩ : S_Coat), (⟨s_o0_0_r13, s_o0_1_r13, s_o0_2_r13⟩ : S_l00Src))
noncomputable def spec_l22DrawOne (s_0 : S_l00Src) : Option (S_Coat × S_l00Src) :=
  (spec_l00Src_text s_0 ([(⟨#[111, 105, 108]⟩ : ByteArray), (⟨#[119, 97, 120]⟩ : ByteArray), (⟨#[115, 104, 101, 108, 108, 97, 99]⟩ : ByteArray)] : List ByteArray)).bind fun x6 =>
    (spec_l00Src_pick x6.2 9).bind fun x8 =>
    (spec_l00Src_among x8.2 ([0, 4, 16, 48, 80, 20] : List Int)).bind fun x13 =>
    (spec_l00Src_among x13.2 ([0, 8, 40, 96, 60] : List Int)).bind fun x19 =>
    (spec_l00Src_pick x19.2 50).bind fun x23 =>
    if x23.1 = 0 then
    ((spec_l00Src_among x23.2 ([0, 32, 33] : List Int)).bind fun x28 =>
    spec_l22DrawOne_k13 x28.2.code x28.2.at_ x28.2.seed x6.1 x28.1 x13.1 (w64 (x13.1 + x19.1)))
    else (if x23.1 = 1 then
    ((spec_l00Src_among x23.2 ([(-1), 400, 401] : List Int)).bind fun x34 =>
    spec_l22DrawOne_k13 x34.2.code x34.2.at_ x34.2.seed x6.1 (w64 (1 + x8.1)) x34.1 (w64 (x13.1 + x19.1)))
    else (if x23.1 = 2 then
    ((spec_l00Src_among x23.2 ([(w64 (x13.1 - 1)), 800, 801] : List Int)).bind fun x43 =>
    spec_l22DrawOne_k13 x43.2.code x43.2.at_ x43.2.seed x6.1 (w64 (1 + x8.1)) x13.1 x43.1)
    else (if x23.1 = 3 then
    ((spec_l00Src_text x23.2 ([(⟨#[]⟩ : ByteArray), (⟨#[87]⟩ : ByteArray)] : List ByteArray)).bind fun x49 =>
    spec_l22DrawOne_k13 x49.2.code x49.2.at_ x49.2.seed x49.1 (w64 (1 + x8.1)) x13.1 (w64 (x13.1 + x19.1)))
    else (spec_l22DrawOne_k13 x23.2.code x23.2.at_ x23.2.seed x6.1 (w64 (1 + x8.1)) x13.1 (w64 (x13.1 + x19.1))))))
noncomputable def spec_l00Src_one (s_0 : S_l00Src) (n_1 : Int) : Option (Bool × S_l00Src) :=
  (spec_l00Src_pick s_0 n_1).bind fun x7 =>
    some ((x7.1 == 0), x7.2)
noncomputable def spec_l22DrawList_k13 (s_o0_0_r13 : (List Int)) (s_o0_1_r13 : Int) (s_o0_2_r13 : Int) (out_o3_r13 : (List S_Coat)) : Option ((List S_Coat) × S_l00Src) :=
  some (out_o3_r13, (⟨s_o0_0_r13, s_o0_1_r13, s_o0_2_r13⟩ : S_l00Src))
noncomputable def spec_l22DrawList_l10 (x23 : (Int × S_l00Src)) (s : (Int × (List S_Coat))) : Option ((Int × (List S_Coat)) ⊕ (List S_Coat)) :=
  match s with
    | (k_6_l10, out_o3_l10) =>
    if k_6_l10 < x23.1 then
    ((apd 40 out_o3_l10 ([(⟨(⟨#[111, 105, 108]⟩ : ByteArray), 1, 2, 99⟩ : S_Coat)] : List S_Coat)).bind fun x33 =>
    some (.inl ((w64 (k_6_l10 + 1)), x33)))
    else (some (.inr out_o3_l10))
noncomputable def spec_l22DrawList_l3 (s : (Int × (List Int) × Int × Int × (List S_Coat))) : Option ((Int × (List Int) × Int × Int × (List S_Coat)) ⊕ ((List Int) × Int × Int × (List S_Coat))) :=
  match s with
    | (k_4_l3, s_o0_0_l3, s_o0_1_l3, s_o0_2_l3, out_o3_l3) =>
    if k_4_l3 > 0 then
    ((spec_l22DrawOne (⟨s_o0_0_l3, s_o0_1_l3, s_o0_2_l3⟩ : S_l00Src)).bind fun x16 =>
    (apd 40 out_o3_l3 ([x16.1] : List S_Coat)).bind fun x18 =>
    some (.inl ((w64 (k_4_l3 - 1)), x16.2.code, x16.2.at_, x16.2.seed, x18)))
    else (some (.inr (s_o0_0_l3, s_o0_1_l3, s_o0_2_l3, out_o3_l3)))
noncomputable def spec_l22DrawList (s_0 : S_l00Src) : Option ((List S_Coat) × S_l00Src) :=
  (spec_l00Src_pick s_0 5).bind fun x9 =>
    (loopO (spec_l22DrawList_l3) (x9.1, x9.2.code, x9.2.at_, x9.2.seed, ([] : List S_Coat))).bind fun o => match o with
    | (s_o0_0_e0_3, s_o0_1_e0_3, s_o0_2_e0_3, out_o3_e0_3) =>
    (spec_l00Src_one (⟨s_o0_0_e0_3, s_o0_1_e0_3, s_o0_2_e0_3⟩ : S_l00Src) 20).bind fun x20 =>
    if x20.1 = true then
    ((spec_l00Src_among x20.2 ([8, 9] : List Int)).bind fun x23 =>
    (loopO (spec_l22DrawList_l10 x23) (0, ([] : List S_Coat))).bind fun out_o3_e2_10 =>
    spec_l22DrawList_k13 x23.2.code x23.2.at_ x23.2.seed out_o3_e2_10)
    else (spec_l22DrawList_k13 x20.2.code x20.2.at_ x20.2.seed out_o3_e0_3)
noncomputable def spec_l22DrawTime (s_0 : S_l00Src) : Option (Int × S_l00Src) :=
  (spec_l00Src_one s_0 9).bind fun x4 =>
    if x4.1 = true then
    ((spec_l00Src_among x4.2 ([(-1), 0, 100000, 100001] : List Int)).bind fun x7 =>
    some (x7.1, x7.2))
    else ((spec_l00Src_pick x4.2 300).bind fun x9 =>
    some (x9.1, x9.2))
noncomputable def spec_l22DrawHours (s_0 : S_l00Src) : Option (Int × Int × S_l00Src) :=
  (spec_l00Src_one s_0 9).bind fun x7 =>
    if x7.1 = true then
    ((spec_l00Src_among x7.2 ([(-1), 0, 40, 95, 96] : List Int)).bind fun x10 =>
    (spec_l00Src_among x10.2 ([40, 96, 97, 0] : List Int)).bind fun x14 =>
    some (x10.1, x14.1, x14.2))
    else ((spec_l00Src_pick x7.2 8).bind fun x16 =>
    (spec_l00Src_pick x16.2 36).bind fun x22 =>
    some ((w64 (28 + x16.1)), (w64 ((w64 ((w64 (28 + x16.1)) + 8)) + x22.1)), x22.2))
noncomputable def spec_l22Draw (s_0 : S_l00Src) : Option ((List S_Coat) × Int × Int × Int × S_l00Src) :=
  (spec_l22DrawList s_0).bind fun x11 =>
    (spec_l22DrawTime x11.2).bind fun x13 =>
    (spec_l22DrawHours x13.2).bind fun x16 =>
    some (x11.1, x13.1, x16.1, x16.2.1, x16.2.2)
noncomputable def spec_l08DrawBudget (s_0 : S_l00Src) : Option (Int × S_l00Src) :=
  (spec_l00Src_one s_0 6).bind fun x4 =>
    if x4.1 = true then
    ((spec_l00Src_among x4.2 ([0, 1, 5, 20000, 20001] : List Int)).bind fun x7 =>
    some (x7.1, x7.2))
    else ((spec_l00Src_pick x4.2 400).bind fun x9 =>
    some ((w64 (x9.1 + 1)), x9.2))
noncomputable def spec_DrawFirstCoatPlan (code_0 : (List Int)) : Option ((List S_Coat) × Int × Int × Int × Int) :=
  (spec_l00From code_0).bind fun x13 =>
    (spec_l22Draw x13).bind fun x16 =>
    (spec_l08DrawBudget x16.2.2.2.2).bind fun x26 =>
    some (x16.1, x16.2.1, x16.2.2.1, x16.2.2.2.1, x26.1)
noncomputable def impl_IsName_l4 (s_0 : ByteArray) (i_3_l4 : Int) : Option (Int ⊕ (Unit ⊕ Bool)) :=
  if i_3_l4 < (s_0.size : Int) then
    ((bt s_0 i_3_l4).bind fun x30 =>
    (if x30 < 97 then
    ((bt s_0 i_3_l4).bind fun x41 =>
    if x41 < 48 then
    (some true)
    else ((bt s_0 i_3_l4).bind fun x46 =>
    some (decide (x46 > 57))))
    else ((bt s_0 i_3_l4).bind fun x35 =>
    if x35 > 122 then
    ((bt s_0 i_3_l4).bind fun x41 =>
    if x41 < 48 then
    (some true)
    else ((bt s_0 i_3_l4).bind fun x46 =>
    some (decide (x46 > 57))))
    else (some false))).bind fun t_49_m6 =>
    if t_49_m6 = true then
    (some (.inr (.inr false)))
    else (some (.inl (w64 (i_3_l4 + 1)))))
    else (some (.inr (.inl ())))
noncomputable def impl_IsName (s_0 : ByteArray) : Option Bool :=
  (if (s_0.size : Int) < 1 then
    (some true)
    else (if (s_0.size : Int) > 10 then
    (some true)
    else ((bt s_0 0).bind fun x14 =>
    if x14 < 97 then
    (some true)
    else ((bt s_0 0).bind fun x19 =>
    some (decide (x19 > 122)))))).bind fun t_21_m1 =>
    if t_21_m1 = true then
    (some false)
    else ((loopO (impl_IsName_l4 s_0) 0).bind fun o => match o with
    | (.inl _) => (some true)
    | (.inr r2) => (some r2))
noncomputable def impl_within (n_0 : Int) (low_1 : Int) (high_2 : Int) : Option Bool :=
  some ((decide (n_0 ≥ low_1)) && (decide (n_0 ≤ high_2)))
noncomputable def impl_ValidCoat (c_0 : S_Coat) : Option Bool :=
  (impl_IsName c_0.Name).bind fun x5 =>
    (if x5 = true then
    ((impl_within c_0.Work 1 32).bind fun x9 =>
    if x9 = true then
    ((impl_within c_0.Dry 0 400).bind fun x14 =>
    if x14 = true then
    ((impl_within c_0.Wait c_0.Dry 800).bind fun x21 =>
    some x21)
    else (some false))
    else (some false))
    else (some false)).bind fun t_2_m1 =>
    some t_2_m1
noncomputable def impl_ValidCoats_c1 (c_0 : S_Coat) : Option Bool :=
  (impl_ValidCoat c_0).bind fun x4 =>
    some (!x4)
noncomputable def slices_IndexFunc_impl_Coat_impl_Coat_l2 (f_1 : (S_Coat → Option Bool)) (s_0 : (List S_Coat)) (t_8_l2 : Int) : Option (Int ⊕ (Unit ⊕ Int)) :=
  if t_8_l2 < (s_0.length : Int) then
    ((rd s_0 t_8_l2).bind fun x14 =>
    (f_1 x14).bind fun x16 =>
    if x16 = true then
    (some (.inr (.inr t_8_l2)))
    else (some (.inl (w64 (t_8_l2 + 1)))))
    else (some (.inr (.inl ())))
noncomputable def slices_IndexFunc_impl_Coat_impl_Coat (s_0 : (List S_Coat)) (f_1 : (S_Coat → Option Bool)) : Option Int :=
  (loopO (slices_IndexFunc_impl_Coat_impl_Coat_l2 f_1 s_0) 0).bind fun o => match o with
    | (.inl _) => (some (-1))
    | (.inr r2) => (some r2)
noncomputable def slices_ContainsFunc_impl_Coat_impl_Coat (s_0 : (List S_Coat)) (f_1 : (S_Coat → Option Bool)) : Option Bool :=
  (slices_IndexFunc_impl_Coat_impl_Coat s_0 f_1).bind fun x7 =>
    some (decide (x7 ≥ 0))
noncomputable def impl_ValidCoats (list_0 : (List S_Coat)) : Option Bool :=
  (if (list_0.length : Int) ≤ 8 then
    ((slices_ContainsFunc_impl_Coat_impl_Coat list_0 (fun a0 => impl_ValidCoats_c1 a0)).bind fun x8 =>
    some (!x8))
    else (some false)).bind fun t_2_m1 =>
    some t_2_m1
noncomputable def impl_areHours (open_0 : Int) (end_1 : Int) : Option Bool :=
  some ((decide (0 ≤ open_0)) && ((decide (open_0 < end_1)) && (decide (end_1 ≤ 96))))
noncomputable def impl_coatsCode_c1 (c_0 : S_Coat) (cap0_0 : Int) (cap1_0 : Int) : Option Bool :=
  some (decide (c_0.Work > (w64 (cap0_0 - cap1_0))))
noncomputable def impl_coatsCode (list_0 : (List S_Coat)) (start_1 : Int) (open_2 : Int) (end_3 : Int) (budget_4 : Int) : Option Int :=
  (impl_ValidCoats list_0).bind fun x13 =>
    if x13 = true then
    ((impl_within budget_4 1 20000).bind fun x17 =>
    (if x17 = true then
    ((impl_within start_1 0 100000).bind fun x21 =>
    if x21 = true then
    ((impl_areHours open_2 end_3).bind fun x27 =>
    some (!x27))
    else (some true))
    else (some true)).bind fun t_15_m3 =>
    if t_15_m3 = true then
    (some 2)
    else ((slices_ContainsFunc_impl_Coat_impl_Coat list_0 (fun a0 => impl_coatsCode_c1 a0 end_3 open_2)).bind fun x33 =>
    if x33 = true then
    (some 3)
    else (some 0)))
    else (some 1)
noncomputable def impl_nextOpen (time_0 : Int) (open_1 : Int) (end_2 : Int) (work_3 : Int) : Option Int :=
  (dv .i64 time_0 96).bind fun x12 =>
    (md time_0 96).bind fun x15 =>
    if x15 ≤ open_1 then
    (some (w64 ((w64 (x12 * 96)) + open_1)))
    else (if (w64 (x15 + work_3)) ≤ end_2 then
    (some time_0)
    else (some (w64 ((w64 ((w64 (x12 * 96)) + 96)) + open_1))))
noncomputable def impl_EarlyPlan_l6 (end_3 : Int) (list_0 : (List S_Coat)) (open_2 : Int) (s : (Int × Int × Int × (List Int))) : Option ((Int × Int × Int × (List Int)) ⊕ ((List Int) ⊕ ((List Int) × Int))) :=
  match s with
    | (least_12_l6, latest_13_l6, t_29_l6, out_o11_l6) =>
    if t_29_l6 < (list_0.length : Int) then
    ((rd list_0 t_29_l6).bind fun x31 =>
    (impl_nextOpen least_12_l6 open_2 end_3 x31.Work).bind fun x38 =>
    if (latest_13_l6 ≥ 0 ∧ x38 > latest_13_l6) then
    (some (.inr (.inr (([] : List Int), 6))))
    else ((apd 8 out_o11_l6 ([x38] : List Int)).bind fun x49 =>
    some (.inl ((w64 ((w64 (x38 + x31.Work)) + x31.Dry)), (w64 ((w64 (x38 + x31.Work)) + x31.Wait)), (w64 (t_29_l6 + 1)), x49))))
    else (some (.inr (.inl out_o11_l6)))
noncomputable def impl_EarlyPlan (list_0 : (List S_Coat)) (start_1 : Int) (open_2 : Int) (end_3 : Int) : Option ((List Int) × Int) :=
  (impl_coatsCode list_0 start_1 open_2 end_3 1).bind fun x21 =>
    if x21 ≠ 0 then
    (some (([] : List Int), x21))
    else ((loopO (impl_EarlyPlan_l6 end_3 list_0 open_2) (start_1, (-1), 0, ([] : List Int))).bind fun o => match o with
    | (.inl out_o11_e0_6) => (some (out_o11_e0_6, 0))
    | (.inr r2) => (some r2))
noncomputable def impl_inHours (time_0 : Int) (open_1 : Int) (end_2 : Int) (work_3 : Int) : Option Bool :=
  (md time_0 96).bind fun x10 =>
    (if x10 ≥ open_1 then
    ((md time_0 96).bind fun x15 =>
    some (decide ((w64 (x15 + work_3)) ≤ end_2)))
    else (some false)).bind fun t_8_m1 =>
    some t_8_m1
noncomputable def impl_coatSearch_run_k6 (self : (S_coatSearch × (List Int) × Int × Int) → Option ((List Int) × Int × S_coatSearch)) (begin_11_l5 : Int) (s_o0_0_r6 : (List S_Coat)) (s_o0_1_r6 : Int) (s_o0_2_r6 : Int) (s_o0_3_r6 : Int) : Option ((Int × (List S_Coat) × Int × Int × Int) ⊕ (((List S_Coat) × Int × Int × Int) ⊕ ((List Int) × Int × S_coatSearch))) :=
  some (.inl ((w64 (begin_11_l5 + 1)), s_o0_0_r6, s_o0_1_r6, s_o0_2_r6, s_o0_3_r6))
noncomputable def impl_coatSearch_run_l5 (self : (S_coatSearch × (List Int) × Int × Int) → Option ((List Int) × Int × S_coatSearch)) (begins_1 : (List Int)) (latest_3 : Int) (x29 : S_Coat) (s : (Int × (List S_Coat) × Int × Int × Int)) : Option ((Int × (List S_Coat) × Int × Int × Int) ⊕ (((List S_Coat) × Int × Int × Int) ⊕ ((List Int) × Int × S_coatSearch))) :=
  match s with
    | (begin_11_l5, s_o0_0_l5, s_o0_1_l5, s_o0_2_l5, s_o0_3_l5) =>
    if begin_11_l5 ≤ latest_3 then
    ((impl_inHours begin_11_l5 s_o0_1_l5 s_o0_2_l5 x29.Work).bind fun x48 =>
    if x48 = true then
    (if s_o0_3_l5 = 0 then
    (some (.inr (.inr (([] : List Int), 5, (⟨s_o0_0_l5, s_o0_1_l5, s_o0_2_l5, s_o0_3_l5⟩ : S_coatSearch)))))
    else ((apd 8 ([] : List Int) begins_1).bind fun x65 =>
    (apd 8 x65 ([begin_11_l5] : List Int)).bind fun x68 =>
    (self ((⟨s_o0_0_l5, s_o0_1_l5, s_o0_2_l5, (w64 (s_o0_3_l5 - 1))⟩ : S_coatSearch), x68, (w64 ((w64 (begin_11_l5 + x29.Work)) + x29.Dry)), (w64 ((w64 (begin_11_l5 + x29.Work)) + x29.Wait)))).bind fun x83 =>
    if x83.2.1 ≠ 3 then
    (some (.inr (.inr (x83.1, x83.2.1, x83.2.2))))
    else (impl_coatSearch_run_k6 self begin_11_l5 x83.2.2.list x83.2.2.open_ x83.2.2.end_ x83.2.2.left)))
    else (impl_coatSearch_run_k6 self begin_11_l5 s_o0_0_l5 s_o0_1_l5 s_o0_2_l5 s_o0_3_l5))
    else (some (.inr (.inl (s_o0_0_l5, s_o0_1_l5, s_o0_2_l5, s_o0_3_l5))))
noncomputable def impl_coatSearch_run_F (self : (S_coatSearch × (List Int) × Int × Int) → Option ((List Int) × Int × S_coatSearch)) (s_0 : S_coatSearch) (begins_1 : (List Int)) (least_2 : Int) (latest_3 : Int) : Option ((List Int) × Int × S_coatSearch) :=
  if (begins_1.length : Int) = (s_0.list.length : Int) then
    (some (begins_1, 0, s_0))
    else ((rd s_0.list (begins_1.length : Int)).bind fun x29 =>
    (loopO (impl_coatSearch_run_l5 self begins_1 latest_3 x29) (least_2, s_0.list, s_0.open_, s_0.end_, s_0.left)).bind fun o => match o with
    | (.inl (s_o0_0_e0_5, s_o0_1_e0_5, s_o0_2_e0_5, s_o0_3_e0_5)) => (some (([] : List Int), 3, (⟨s_o0_0_e0_5, s_o0_1_e0_5, s_o0_2_e0_5, s_o0_3_e0_5⟩ : S_coatSearch)))
    | (.inr r2) => (some r2))
noncomputable def impl_coatSearch_run (s_0 : S_coatSearch) (begins_1 : (List Int)) (least_2 : Int) (latest_3 : Int) : Option ((List Int) × Int × S_coatSearch) := fixO (fun self s => match s with | (s_0, begins_1, least_2, latest_3) => impl_coatSearch_run_F self s_0 begins_1 least_2 latest_3) (s_0, begins_1, least_2, latest_3)
noncomputable def impl_FirstCoatPlan (list_0 : (List S_Coat)) (start_1 : Int) (open_2 : Int) (end_3 : Int) (budget_4 : Int) : Option ((List Int) × Int) :=
  (impl_coatsCode list_0 start_1 open_2 end_3 budget_4).bind fun x19 =>
    if x19 ≠ 0 then
    (some (([] : List Int), x19))
    else ((impl_coatSearch_run (⟨list_0, open_2, end_3, budget_4⟩ : S_coatSearch) ([] : List Int) start_1 (w64 ((w64 (start_1 + 192)) - 1))).bind fun x34 =>
    some (x34.1, x34.2.1))
noncomputable def impl_IsCoatPlan_k12 (t_37_l4 : Int) : Option (Int ⊕ (Unit ⊕ Bool)) :=
  some (.inl (w64 (t_37_l4 + 1)))
noncomputable def impl_IsCoatPlan_l4 (begins_1 : (List Int)) (end_4 : Int) (list_0 : (List S_Coat)) (open_3 : Int) (start_2 : Int) (t_37_l4 : Int) : Option (Int ⊕ (Unit ⊕ Bool)) :=
  if t_37_l4 < (begins_1.length : Int) then
    ((rd begins_1 t_37_l4).bind fun x40 =>
    (if x40 < start_2 then
    (some true)
    else ((rd list_0 t_37_l4).bind fun x51 =>
    (impl_inHours x40 open_3 end_4 x51.Work).bind fun x54 =>
    some (!x54))).bind fun t_56_m6 =>
    if t_56_m6 = true then
    (some (.inr (.inr false)))
    else (if t_37_l4 > 0 then
    ((rd list_0 (w64 (t_37_l4 - 1))).bind fun x62 =>
    (rd begins_1 (w64 (t_37_l4 - 1))).bind fun x68 =>
    (impl_within (w64 (x40 - x68)) (w64 (x62.Work + x62.Dry)) (w64 (x62.Work + x62.Wait))).bind fun x81 =>
    if x81 = true then
    (impl_IsCoatPlan_k12 t_37_l4)
    else (some (.inr (.inr false))))
    else (impl_IsCoatPlan_k12 t_37_l4)))
    else (some (.inr (.inl ())))
noncomputable def impl_IsCoatPlan (list_0 : (List S_Coat)) (begins_1 : (List Int)) (start_2 : Int) (open_3 : Int) (end_4 : Int) : Option Bool :=
  (impl_ValidCoats list_0).bind fun x15 =>
    (if x15 = true then
    ((impl_within start_2 0 100000).bind fun x19 =>
    if x19 = true then
    ((impl_areHours open_3 end_4).bind fun x25 =>
    if x25 = true then
    (some ((begins_1.length : Int) != (list_0.length : Int)))
    else (some true))
    else (some true))
    else (some true)).bind fun t_34_m1 =>
    if t_34_m1 = true then
    (some false)
    else ((loopO (impl_IsCoatPlan_l4 begins_1 end_4 list_0 open_3 start_2) 0).bind fun o => match o with
    | (.inl _) => (some true)
    | (.inr r2) => (some r2))
noncomputable def laws_b10Nums_l4 (a_0 : (List Int)) (b_1 : (List Int)) (i_5_l4 : Int) : Option (Int ⊕ (Unit ⊕ Bool)) :=
  if i_5_l4 < (a_0.length : Int) then
    ((rd a_0 i_5_l4).bind fun x19 =>
    (rd b_1 i_5_l4).bind fun x23 =>
    if x19 ≠ x23 then
    (some (.inr (.inr false)))
    else (some (.inl (w64 (i_5_l4 + 1)))))
    else (some (.inr (.inl ())))
noncomputable def laws_b10Nums (a_0 : (List Int)) (b_1 : (List Int)) : Option Bool :=
  if (a_0.length : Int) ≠ (b_1.length : Int) then
    (some false)
    else ((loopO (laws_b10Nums_l4 a_0 b_1) 0).bind fun o => match o with
    | (.inl _) => (some true)
    | (.inr r2) => (some r2))
noncomputable def impl_PlanEnd_c1 (n_0 : Int) : Option Bool :=
  (impl_within n_0 0 100000).bind fun x4 =>
    some (!x4)
noncomputable def slices_IndexFunc_int64_int64_l2 (f_1 : (Int → Option Bool)) (s_0 : (List Int)) (t_8_l2 : Int) : Option (Int ⊕ (Unit ⊕ Int)) :=
  if t_8_l2 < (s_0.length : Int) then
    ((rd s_0 t_8_l2).bind fun x14 =>
    (f_1 x14).bind fun x16 =>
    if x16 = true then
    (some (.inr (.inr t_8_l2)))
    else (some (.inl (w64 (t_8_l2 + 1)))))
    else (some (.inr (.inl ())))
noncomputable def slices_IndexFunc_int64_int64 (s_0 : (List Int)) (f_1 : (Int → Option Bool)) : Option Int :=
  (loopO (slices_IndexFunc_int64_int64_l2 f_1 s_0) 0).bind fun o => match o with
    | (.inl _) => (some (-1))
    | (.inr r2) => (some r2)
noncomputable def slices_ContainsFunc_int64_int64 (s_0 : (List Int)) (f_1 : (Int → Option Bool)) : Option Bool :=
  (slices_IndexFunc_int64_int64 s_0 f_1).bind fun x7 =>
    some (decide (x7 ≥ 0))
noncomputable def impl_PlanEnd (list_0 : (List S_Coat)) (begins_1 : (List Int)) : Option (Int × Int) :=
  (impl_ValidCoats list_0).bind fun x8 =>
    if x8 = true then
    ((if (begins_1.length : Int) ≠ (list_0.length : Int) then
    (some true)
    else ((slices_ContainsFunc_int64_int64 begins_1 (fun a0 => impl_PlanEnd_c1 a0)).bind fun x17 =>
    some x17)).bind fun t_18_m3 =>
    if t_18_m3 = true then
    (some (0, 2))
    else (if (list_0.length : Int) = 0 then
    (some (0, 0))
    else ((rd begins_1 (w64 ((list_0.length : Int) - 1))).bind fun x27 =>
    (rd list_0 (w64 ((list_0.length : Int) - 1))).bind fun x31 =>
    some ((w64 (x27 + x31.Work)), 0))))
    else (some (0, 1))
noncomputable def impl_WorkingTime_l5 (list_0 : (List S_Coat)) (s : (Int × Int)) : Option ((Int × Int) ⊕ Int) :=
  match s with
    | (sum_4_l5, t_12_l5) =>
    if t_12_l5 < (list_0.length : Int) then
    ((rd list_0 t_12_l5).bind fun x14 =>
    some (.inl ((w64 (sum_4_l5 + x14.Work)), (w64 (t_12_l5 + 1)))))
    else (some (.inr sum_4_l5))
noncomputable def impl_WorkingTime (list_0 : (List S_Coat)) : Option (Int × Int) :=
  (impl_ValidCoats list_0).bind fun x8 =>
    if x8 = true then
    ((loopO (impl_WorkingTime_l5 list_0) (0, 0)).bind fun sum_4_e0_5 =>
    some (sum_4_e0_5, 0))
    else (some (0, 1))
noncomputable def spec_DrawNextOpen (code_0 : (List Int)) : Option (Int × Int × Int × Int) :=
  (spec_l00From code_0).bind fun x11 =>
    (spec_l22DrawTime x11).bind fun x13 =>
    (spec_l22DrawHours x13.2).bind fun x16 =>
    (spec_l00Src_among x16.2.2 ([1, 4, 9, 32, 33, 0] : List Int)).bind fun x24 =>
    some (x13.1, x16.1, x16.2.1, x24.1)
noncomputable def impl_NextOpen (time_0 : Int) (open_1 : Int) (end_2 : Int) (work_3 : Int) : Option (Int × Int) :=
  (impl_within time_0 0 100000).bind fun x12 =>
    (if x12 = true then
    ((impl_areHours open_1 end_2).bind fun x17 =>
    if x17 = true then
    ((impl_within work_3 1 32).bind fun x22 =>
    some (!x22))
    else (some true))
    else (some true)).bind fun t_10_m1 =>
    if t_10_m1 = true then
    (some (0, 2))
    else (if (w64 (end_2 - open_1)) < work_3 then
    (some (0, 3))
    else ((impl_nextOpen time_0 open_1 end_2 work_3).bind fun x35 =>
    some (x35, 0)))
noncomputable def laws_FnPolish_k15 (more_1 : (List Int)) : Option Bool :=
  (spec_DrawNextOpen more_1).bind fun x128 =>
    (impl_NextOpen x128.1 x128.2.1 x128.2.2.1 x128.2.2.2).bind fun x138 =>
    if x138.2 ≠ 0 then
    (some (x138.1 == 0))
    else ((if x138.1 ≥ x128.1 then
    (if x138.1 < (w64 (x128.1 + 192)) then
    ((md x138.1 96).bind fun x156 =>
    if x156 ≥ x128.2.1 then
    ((md x138.1 96).bind fun x162 =>
    some (decide ((w64 (x162 + x128.2.2.2)) ≤ x128.2.2.1)))
    else (some false))
    else (some false))
    else (some false)).bind fun t_4_m19 =>
    some t_4_m19)
noncomputable def laws_FnPolish (code_0 : (List Int)) (more_1 : (List Int)) : Option Bool :=
  (laws_b10Long code_0).bind fun x25 =>
    (if x25 = true then
    (some true)
    else ((laws_b10Long more_1).bind fun x28 =>
    some x28)).bind fun t_29_m1 =>
    if t_29_m1 = true then
    (some true)
    else ((spec_DrawFirstCoatPlan code_0).bind fun x32 =>
    (impl_EarlyPlan x32.1 x32.2.1 x32.2.2.1 x32.2.2.2.1).bind fun x43 =>
    (impl_FirstCoatPlan x32.1 x32.2.1 x32.2.2.1 x32.2.2.2.1 x32.2.2.2.2).bind fun x52 =>
    (if x43.2 = 0 then
    ((impl_IsCoatPlan x32.1 x43.1 x32.2.1 x32.2.2.1 x32.2.2.2.1).bind fun x63 =>
    if x63 = true then
    (if x52.2 = 0 then
    ((impl_IsCoatPlan x32.1 x52.1 x32.2.1 x32.2.2.1 x32.2.2.2.1).bind fun x75 =>
    some (!x75))
    else (some false))
    else (some true))
    else (if x52.2 = 0 then
    ((impl_IsCoatPlan x32.1 x52.1 x32.2.1 x32.2.2.1 x32.2.2.2.1).bind fun x75 =>
    some (!x75))
    else (some false))).bind fun t_78_m6 =>
    if t_78_m6 = true then
    (some false)
    else ((if x43.2 = 0 then
    (if x52.2 = 3 then
    (some true)
    else (if x52.2 = 0 then
    ((laws_b10Nums x52.1 x43.1).bind fun x90 =>
    some (!x90))
    else (some false)))
    else (some false)).bind fun t_94_m8 =>
    if t_94_m8 = true then
    (some false)
    else (if x52.2 = 0 then
    ((impl_PlanEnd x32.1 x52.1).bind fun x100 =>
    (impl_WorkingTime x32.1).bind fun x105 =>
    if (x105.2 ≠ 0 ∨ (x100.2 = 0 ∧ ((x32.1.length : Int) > 0 ∧ x100.1 < (w64 (x32.2.1 + x105.1))))) then
    (some false)
    else (laws_FnPolish_k15 more_1))
    else (laws_FnPolish_k15 more_1))))

end Go.Pw
