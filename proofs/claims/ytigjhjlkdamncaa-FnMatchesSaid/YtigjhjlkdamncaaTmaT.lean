/- Plain functions that answer what the program's functions answer. Conditions: none; definitions alone. -/
import Derived.Test.YtigjhjlkdamncaaSimPw
namespace Go.Pw
open Go.Sim (min2 max2)
set_option linter.unusedVariables false
def bit_and (k : IntKind) (a b : Int) : Int := k.wrap (BitVec.ofInt k.bits a &&& BitVec.ofInt k.bits b).toNat

structure S_Feature where
  Id : ByteArray
  Values : (List Int)

structure S_l00Src where
  code : (List Int)
  at_ : Int
  seed : Int

structure S_matchSearch where
  targets : (List S_Feature)
  stock : (List S_Feature)
  left : Int
  found : Bool
  best : (List Int)
  least : Int

noncomputable def laws_b10Long (code_0 : (List Int)) : Option Bool :=
  some (decide ((code_0.length : Int) > 1048576))
noncomputable def spec_l00From (code_0 : (List Int)) : Option S_l00Src :=
  some (⟨code_0, 0, 0⟩ : S_l00Src)
noncomputable def spec_l00Src_next_k4 (s_0 : S_l00Src) (b_3_r4 : Int) : Option (Int × S_l00Src) :=
  if (w64 (s_0.at_ + 1)) ≤ (s_0.code.length : Int) then
    (some (b_3_r4, (⟨s_0.code, (w64 (s_0.at_ + 1)), (IntKind.wrap .u64 ((IntKind.wrap .u64 ((IntKind.wrap .u64 (s_0.seed * 6364136223846793005)) + (IntKind.wrap .u64 (b_3_r4)))) + 1442695040888963407))⟩ : S_l00Src)))
    else ((shr .u64 (IntKind.wrap .u64 ((IntKind.wrap .u64 ((IntKind.wrap .u64 (s_0.seed * 6364136223846793005)) + (IntKind.wrap .u64 (b_3_r4)))) + 1442695040888963407)) 40).bind fun x59 =>
    some ((w64 ((bit_and .u64 x59 255))), (⟨s_0.code, (w64 (s_0.at_ + 1)), (IntKind.wrap .u64 ((IntKind.wrap .u64 ((IntKind.wrap .u64 (s_0.seed * 6364136223846793005)) + (IntKind.wrap .u64 (b_3_r4)))) + 1442695040888963407))⟩ : S_l00Src)))
noncomputable def spec_l00Src_next (s_0 : S_l00Src) : Option (Int × S_l00Src) :=
  if s_0.at_ < (s_0.code.length : Int) then
    ((rd s_0.code s_0.at_).bind fun x22 =>
    spec_l00Src_next_k4 s_0 (w64 (x22)))
    else (spec_l00Src_next_k4 s_0 0)
noncomputable def spec_l00Src_pick_k6 (n_1 : Int) (x_5_r6 : Int) (s_o0_0_r6 : (List Int)) (s_o0_1_r6 : Int) (s_o0_2_r6 : Int) : Option (Int × S_l00Src) :=
  (md x_5_r6 n_1).bind fun x19 =>
    some (x19, (⟨s_o0_0_r6, s_o0_1_r6, s_o0_2_r6⟩ : S_l00Src))
noncomputable def spec_l00Src_pick (s_0 : S_l00Src) (n_1 : Int) : Option (Int × S_l00Src) :=
  if n_1 ≤ 1 then
    (some (0, s_0))
    else ((spec_l00Src_next s_0).bind fun x9 =>
    if n_1 > 200 then
    ((spec_l00Src_next x9.2).bind fun x15 =>
    spec_l00Src_pick_k6 n_1 (w64 ((w64 (x9.1 * 256)) + x15.1)) x15.2.code x15.2.at_ x15.2.seed)
    else (spec_l00Src_pick_k6 n_1 x9.1 x9.2.code x9.2.at_ x9.2.seed))
noncomputable def spec_l00Src_one (s_0 : S_l00Src) (n_1 : Int) : Option (Bool × S_l00Src) :=
  (spec_l00Src_pick s_0 n_1).bind fun x7 =>
    some ((x7.1 == 0), x7.2)
noncomputable def spec_l00Src_among (s_0 : S_l00Src) (list_1 : (List Int)) : Option (Int × S_l00Src) :=
  (spec_l00Src_pick s_0 (list_1.length : Int)).bind fun x9 =>
    (rd list_1 x9.1).bind fun x10 =>
    some (x10, x9.2)
noncomputable def spec_l26DrawOk_l3 (s : (Int × (List Int) × Int × Int × (List Int))) : Option ((Int × (List Int) × Int × Int × (List Int)) ⊕ ((List Int) × Int × Int × (List Int))) :=
  match s with
    | (k_6_l3, s_o0_0_l3, s_o0_1_l3, s_o0_2_l3, f_o5_1_l3) =>
    if k_6_l3 < 6 then
    ((spec_l00Src_among (⟨s_o0_0_l3, s_o0_1_l3, s_o0_2_l3⟩ : S_l00Src) ([0, 10, 50, 100, 255, 20, 30, 12] : List Int)).bind fun x17 =>
    (apd 8 f_o5_1_l3 ([x17.1] : List Int)).bind fun x19 =>
    some (.inl ((w64 (k_6_l3 + 1)), x17.2.code, x17.2.at_, x17.2.seed, x19)))
    else (some (.inr (s_o0_0_l3, s_o0_1_l3, s_o0_2_l3, f_o5_1_l3)))
noncomputable def spec_l26DrawOk (s_0 : S_l00Src) (id_1 : ByteArray) : Option (S_Feature × S_l00Src) :=
  (loopO (spec_l26DrawOk_l3) (0, s_0.code, s_0.at_, s_0.seed, ([] : List Int))).bind fun o => match o with
    | (s_o0_0_e0_3, s_o0_1_e0_3, s_o0_2_e0_3, f_o5_1_e0_3) =>
    some ((⟨id_1, f_o5_1_e0_3⟩ : S_Feature), (⟨s_o0_0_e0_3, s_o0_1_e0_3, s_o0_2_e0_3⟩ : S_l00Src))
noncomputable def spec_l00Src_text (s_0 : S_l00Src) (list_1 : (List ByteArray)) : Option (ByteArray × S_l00Src) :=
  (spec_l00Src_pick s_0 (list_1.length : Int)).bind fun x9 =>
    (rd list_1 x9.1).bind fun x10 =>
    some (x10, x9.2)
noncomputable def spec_l26DrawOne_k9 (s_o0_0_r9 : (List Int)) (s_o0_1_r9 : Int) (s_o0_2_r9 : Int) (f_o3_0_r9 : ByteArray) (f_o3_1_r9 : (List Int)) : Option (S_Feature × S_l00Src) :=
  some ((⟨f_o3_0_r9, f_o3_1_r9⟩ : S_Feature), (⟨s_o0_0_r9, s_o0_1_r9, s_o0_2_r9⟩ : S_l00Src))
noncomputable def spec_l26DrawOne (s_0 : S_l00Src) : Option (S_Feature × S_l00Src) :=
  (spec_l00Src_text s_0 ([(⟨#[97]⟩ : ByteArray), (⟨#[98]⟩ : ByteArray), (⟨#[111, 97, 107, 49]⟩ : ByteArray)] : List ByteArray)).bind fun x7 =>
    (spec_l26DrawOk x7.2 x7.1).bind fun x8 =>
    (spec_l00Src_pick x8.2 18).bind fun x10 =>
    if x10.1 = 0 then
    ((spec_l00Src_among x10.2 ([(-1), 255, 256] : List Int)).bind fun x17 =>
    (rd x8.1.Values 3).bind fun x18 =>
    spec_l26DrawOne_k9 x17.2.code x17.2.at_ x17.2.seed x8.1.Id (x8.1.Values.set ((3 : Int).toNat) x17.1))
    else (if x10.1 = 1 then
    ((slc x8.1.Values 1 (x8.1.Values.length : Int)).bind fun x23 =>
    spec_l26DrawOne_k9 x10.2.code x10.2.at_ x10.2.seed x8.1.Id ((x8.1.Values.take ((x8.1.Values.length : Int).toNat)).drop ((1 : Int).toNat)))
    else (if x10.1 = 2 then
    ((spec_l00Src_text x10.2 ([(⟨#[]⟩ : ByteArray), (⟨#[65]⟩ : ByteArray)] : List ByteArray)).bind fun x29 =>
    spec_l26DrawOne_k9 x29.2.code x29.2.at_ x29.2.seed x29.1 x8.1.Values)
    else (spec_l26DrawOne_k9 x10.2.code x10.2.at_ x10.2.seed x8.1.Id x8.1.Values)))
noncomputable def spec_l26DrawList_k18 (s_o0_0_r18 : (List Int)) (s_o0_1_r18 : Int) (s_o0_2_r18 : Int) (out_o4_r18 : (List S_Feature)) : Option ((List S_Feature) × S_l00Src) :=
  some (out_o4_r18, (⟨s_o0_0_r18, s_o0_1_r18, s_o0_2_r18⟩ : S_l00Src))
noncomputable def spec_l26DrawList_l15 (x40 : (Int × S_l00Src)) (s : (Int × (List S_Feature))) : Option ((Int × (List S_Feature)) ⊕ (List S_Feature)) :=
  match s with
    | (k_7_l15, out_o4_l15) =>
    if k_7_l15 < x40.1 then
    ((cat (⟨#[110]⟩ : ByteArray) (strOf ([(IntKind.wrap .u8 ((w64 (97 + k_7_l15))))] : List Int))).bind fun x53 =>
    (apd 40 out_o4_l15 ([(⟨x53, ([k_7_l15, (w64 (2 * k_7_l15)), 0, 0, 0, 0] : List Int)⟩ : S_Feature)] : List S_Feature)).bind fun x60 =>
    some (.inl ((w64 (k_7_l15 + 1)), x60)))
    else (some (.inr out_o4_l15))
noncomputable def spec_l26DrawList_k5 (k_5_l4 : Int) (s_o0_0_r5 : (List Int)) (s_o0_1_r5 : Int) (s_o0_2_r5 : Int) (out_o4_r5 : (List S_Feature)) : Option ((Int × (List Int) × Int × Int × (List S_Feature)) ⊕ ((List Int) × Int × Int × (List S_Feature))) :=
  some (.inl ((w64 (k_5_l4 + 1)), s_o0_0_r5, s_o0_1_r5, s_o0_2_r5, out_o4_r5))
noncomputable def spec_l26DrawList_l4 (s : (Int × (List Int) × Int × Int × (List S_Feature))) : Option ((Int × (List Int) × Int × Int × (List S_Feature)) ⊕ ((List Int) × Int × Int × (List S_Feature))) :=
  match s with
    | (k_5_l4, s_o0_0_l4, s_o0_1_l4, s_o0_2_l4, out_o4_l4) =>
    if k_5_l4 < (([(⟨#[97]⟩ : ByteArray), (⟨#[98]⟩ : ByteArray), (⟨#[99]⟩ : ByteArray), (⟨#[100]⟩ : ByteArray), (⟨#[101]⟩ : ByteArray), (⟨#[102]⟩ : ByteArray), (⟨#[103]⟩ : ByteArray)] : List ByteArray).length : Int) then
    ((spec_l00Src_one (⟨s_o0_0_l4, s_o0_1_l4, s_o0_2_l4⟩ : S_l00Src) 2).bind fun x17 =>
    if x17.1 = true then
    ((rd ([(⟨#[97]⟩ : ByteArray), (⟨#[98]⟩ : ByteArray), (⟨#[99]⟩ : ByteArray), (⟨#[100]⟩ : ByteArray), (⟨#[101]⟩ : ByteArray), (⟨#[102]⟩ : ByteArray), (⟨#[103]⟩ : ByteArray)] : List ByteArray) k_5_l4).bind fun x22 =>
    (spec_l26DrawOk x17.2 x22).bind fun x24 =>
    (apd 40 out_o4_l4 ([x24.1] : List S_Feature)).bind fun x26 =>
    spec_l26DrawList_k5 k_5_l4 x24.2.code x24.2.at_ x24.2.seed x26)
    else (spec_l26DrawList_k5 k_5_l4 x17.2.code x17.2.at_ x17.2.seed out_o4_l4))
    else (some (.inr (s_o0_0_l4, s_o0_1_l4, s_o0_2_l4, out_o4_l4)))
noncomputable def spec_l26DrawList (s_0 : S_l00Src) : Option ((List S_Feature) × S_l00Src) :=
  (loopO (spec_l26DrawList_l4) (0, s_0.code, s_0.at_, s_0.seed, ([] : List S_Feature))).bind fun o => match o with
    | (s_o0_0_e0_4, s_o0_1_e0_4, s_o0_2_e0_4, out_o4_e0_4) =>
    (spec_l00Src_pick (⟨s_o0_0_e0_4, s_o0_1_e0_4, s_o0_2_e0_4⟩ : S_l00Src) 24).bind fun x28 =>
    if x28.1 = 0 then
    ((spec_l26DrawOne x28.2).bind fun x33 =>
    (apd 40 out_o4_e0_4 ([x33.1] : List S_Feature)).bind fun x35 =>
    spec_l26DrawList_k18 x33.2.code x33.2.at_ x33.2.seed x35)
    else (if x28.1 = 1 then
    ((spec_l00Src_among x28.2 ([16, 17] : List Int)).bind fun x40 =>
    (loopO (spec_l26DrawList_l15 x40) (0, ([] : List S_Feature))).bind fun out_o4_e3_15 =>
    spec_l26DrawList_k18 x40.2.code x40.2.at_ x40.2.seed out_o4_e3_15)
    else (spec_l26DrawList_k18 x28.2.code x28.2.at_ x28.2.seed out_o4_e0_4))
noncomputable def spec_l08DrawBudget (s_0 : S_l00Src) : Option (Int × S_l00Src) :=
  (spec_l00Src_one s_0 6).bind fun x4 =>
    if x4.1 = true then
    ((spec_l00Src_among x4.2 ([0, 1, 5, 20000, 20001] : List Int)).bind fun x7 =>
    some (x7.1, x7.2))
    else ((spec_l00Src_pick x4.2 400).bind fun x9 =>
    some ((w64 (x9.1 + 1)), x9.2))
noncomputable def spec_DrawBestMatches (code_0 : (List Int)) : Option ((List S_Feature) × (List S_Feature) × Int) :=
  (spec_l00From code_0).bind fun x9 =>
    (spec_l26DrawList x9).bind fun x11 =>
    (spec_l26DrawList x11.2).bind fun x13 =>
    (spec_l08DrawBudget x13.2).bind fun x17 =>
    some (x11.1, x13.1, x17.1)
noncomputable def impl_IsName_l4 (s_0 : ByteArray) (i_3_l4 : Int) : Option (Int ⊕ (Unit ⊕ Bool)) :=
  if i_3_l4 < (s_0.size : Int) then
    ((bt s_0 i_3_l4).bind fun x30 =>
    (if x30 < 97 then
    ((bt s_0 i_3_l4).bind fun x41 =>
    if x41 < 48 then
    (some true)
    else ((bt s_0 i_3_l4).bind fun x46 =>
    some (decide (x46 > 57))))
    else ((bt s_0 i_3_l4).bind fun x35 =>
    if x35 > 122 then
    ((bt s_0 i_3_l4).bind fun x41 =>
    if x41 < 48 then
    (some true)
    else ((bt s_0 i_3_l4).bind fun x46 =>
    some (decide (x46 > 57))))
    else (some false))).bind fun t_49_m6 =>
    if t_49_m6 = true then
    (some (.inr (.inr false)))
    else (some (.inl (w64 (i_3_l4 + 1)))))
    else (some (.inr (.inl ())))
noncomputable def impl_IsName (s_0 : ByteArray) : Option Bool :=
  (if (s_0.size : Int) < 1 then
    (some true)
    else (if (s_0.size : Int) > 10 then
    (some true)
    else ((bt s_0 0).bind fun x14 =>
    if x14 < 97 then
    (some true)
    else ((bt s_0 0).bind fun x19 =>
    some (decide (x19 > 122)))))).bind fun t_21_m1 =>
    if t_21_m1 = true then
    (some false)
    else ((loopO (impl_IsName_l4 s_0) 0).bind fun o => match o with
    | (.inl _) => (some true)
    | (.inr r2) => (some r2))
noncomputable def impl_within (n_0 : Int) (low_1 : Int) (high_2 : Int) : Option Bool :=
  some ((decide (n_0 ≥ low_1)) && (decide (n_0 ≤ high_2)))
noncomputable def impl_ValidFeature_c1 (n_0 : Int) : Option Bool :=
  (impl_within n_0 0 255).bind fun x4 =>
    some (!x4)
noncomputable def slices_IndexFunc_int64_int64_l2 (f_1 : (Int → Option Bool)) (s_0 : (List Int)) (t_8_l2 : Int) : Option (Int ⊕ (Unit ⊕ Int)) :=
  if t_8_l2 < (s_0.length : Int) then
    ((rd s_0 t_8_l2).bind fun x14 =>
    (f_1 x14).bind fun x16 =>
    if x16 = true then
    (some (.inr (.inr t_8_l2)))
    else (some (.inl (w64 (t_8_l2 + 1)))))
    else (some (.inr (.inl ())))
noncomputable def slices_IndexFunc_int64_int64 (s_0 : (List Int)) (f_1 : (Int → Option Bool)) : Option Int :=
  (loopO (slices_IndexFunc_int64_int64_l2 f_1 s_0) 0).bind fun o => match o with
    | (.inl _) => (some (-1))
    | (.inr r2) => (some r2)
noncomputable def slices_ContainsFunc_int64_int64 (s_0 : (List Int)) (f_1 : (Int → Option Bool)) : Option Bool :=
  (slices_IndexFunc_int64_int64 s_0 f_1).bind fun x7 =>
    some (decide (x7 ≥ 0))
noncomputable def impl_ValidFeature (f_0 : S_Feature) : Option Bool :=
  (impl_IsName f_0.Id).bind fun x5 =>
    (if x5 = true then
    (if (f_0.Values.length : Int) = 6 then
    ((slices_ContainsFunc_int64_int64 f_0.Values (fun a0 => impl_ValidFeature_c1 a0)).bind fun x15 =>
    some (!x15))
    else (some false))
    else (some false)).bind fun t_2_m1 =>
    some t_2_m1
noncomputable def impl_ValidFeatures_l2 (list_0 : (List S_Feature)) (t_7_l2 : Int) : Option (Int ⊕ (Unit ⊕ Bool)) :=
  if t_7_l2 < (list_0.length : Int) then
    ((rd list_0 t_7_l2).bind fun x10 =>
    (impl_ValidFeature x10).bind fun x13 =>
    (if x13 = true then
    (if t_7_l2 > 0 then
    ((rd list_0 (w64 (t_7_l2 - 1))).bind fun x22 =>
    some (!Op.bytesLess x22.Id.toList x10.Id.toList))
    else (some false))
    else (some true)).bind fun t_29_m4 =>
    if t_29_m4 = true then
    (some (.inr (.inr false)))
    else (some (.inl (w64 (t_7_l2 + 1)))))
    else (some (.inr (.inl ())))
noncomputable def impl_ValidFeatures (list_0 : (List S_Feature)) : Option Bool :=
  (loopO (impl_ValidFeatures_l2 list_0) 0).bind fun o => match o with
    | (.inl _) => (some (decide ((list_0.length : Int) ≤ 16)))
    | (.inr r2) => (some r2)
noncomputable def impl_matchesCode (targets_0 : (List S_Feature)) (stock_1 : (List S_Feature)) (budget_2 : Int) : Option Int :=
  (impl_ValidFeatures targets_0).bind fun x9 =>
    (if x9 = true then
    ((impl_ValidFeatures stock_1).bind fun x13 =>
    some (!x13))
    else (some true)).bind fun t_7_m1 =>
    if t_7_m1 = true then
    (some 1)
    else ((impl_within budget_2 1 20000).bind fun x18 =>
    if x18 = true then
    (if (targets_0.length : Int) > (stock_1.length : Int) then
    (some 6)
    else (some 0))
    else (some 2))
noncomputable def slices_Index_int64_int64_l2 (s_0 : (List Int)) (v_1 : Int) (t_8_l2 : Int) : Option (Int ⊕ (Unit ⊕ Int)) :=
  if t_8_l2 < (s_0.length : Int) then
    ((rd s_0 t_8_l2).bind fun x14 =>
    if v_1 = x14 then
    (some (.inr (.inr t_8_l2)))
    else (some (.inl (w64 (t_8_l2 + 1)))))
    else (some (.inr (.inl ())))
noncomputable def slices_Index_int64_int64 (s_0 : (List Int)) (v_1 : Int) : Option Int :=
  (loopO (slices_Index_int64_int64_l2 s_0 v_1) 0).bind fun o => match o with
    | (.inl _) => (some (-1))
    | (.inr r2) => (some r2)
noncomputable def slices_Contains_int64_int64 (s_0 : (List Int)) (v_1 : Int) : Option Bool :=
  (slices_Index_int64_int64 s_0 v_1).bind fun x7 =>
    some (decide (x7 ≥ 0))
noncomputable def impl_absolute (n_0 : Int) : Option Int :=
  some (max2 n_0 (w64 (0 - n_0)))
noncomputable def impl_featureDistance_l3 (a_0 : S_Feature) (b_1 : S_Feature) (s : (Int × Int)) : Option ((Int × Int) ⊕ Int) :=
  match s with
    | (sum_5_l3, t_11_l3) =>
    if t_11_l3 < (a_0.Values.length : Int) then
    ((rd a_0.Values t_11_l3).bind fun x14 =>
    (rd b_1.Values t_11_l3).bind fun x21 =>
    (impl_absolute (w64 (x14 - x21))).bind fun x24 =>
    some (.inl ((w64 (sum_5_l3 + x24)), (w64 (t_11_l3 + 1)))))
    else (some (.inr sum_5_l3))
noncomputable def impl_featureDistance (a_0 : S_Feature) (b_1 : S_Feature) : Option Int :=
  (loopO (impl_featureDistance_l3 a_0 b_1) (0, 0)).bind fun sum_5_e0_3 =>
    some sum_5_e0_3
noncomputable def impl_matchSearch_run_k15 (self : (S_matchSearch × (List Int) × Int) → Option (Bool × S_matchSearch)) (t_34_l5 : Int) (s_o0_0_r15 : (List S_Feature)) (s_o0_1_r15 : (List S_Feature)) (s_o0_2_r15 : Int) (s_o0_3_r15 : Bool) (s_o0_4_r15 : (List Int)) (s_o0_5_r15 : Int) : Option ((Int × (List S_Feature) × (List S_Feature) × Int × Bool × (List Int) × Int) ⊕ (((List S_Feature) × (List S_Feature) × Int × Bool × (List Int) × Int) ⊕ (Bool × S_matchSearch))) :=
  some (.inl ((w64 (t_34_l5 + 1)), s_o0_0_r15, s_o0_1_r15, s_o0_2_r15, s_o0_3_r15, s_o0_4_r15, s_o0_5_r15))
noncomputable def impl_matchSearch_run_l5 (self : (S_matchSearch × (List Int) × Int) → Option (Bool × S_matchSearch)) (matches_1 : (List Int)) (s_0 : S_matchSearch) (sum_2 : Int) (s : (Int × (List S_Feature) × (List S_Feature) × Int × Bool × (List Int) × Int)) : Option ((Int × (List S_Feature) × (List S_Feature) × Int × Bool × (List Int) × Int) ⊕ (((List S_Feature) × (List S_Feature) × Int × Bool × (List Int) × Int) ⊕ (Bool × S_matchSearch))) :=
  match s with
    | (t_34_l5, s_o0_0_l5, s_o0_1_l5, s_o0_2_l5, s_o0_3_l5, s_o0_4_l5, s_o0_5_l5) =>
    if t_34_l5 < (s_0.stock.length : Int) then
    ((rd s_0.stock t_34_l5).bind fun x37 =>
    (slices_Contains_int64_int64 matches_1 t_34_l5).bind fun x41 =>
    if x41 = true then
    (impl_matchSearch_run_k15 self t_34_l5 s_o0_0_l5 s_o0_1_l5 s_o0_2_l5 s_o0_3_l5 s_o0_4_l5 s_o0_5_l5)
    else ((rd s_o0_0_l5 (matches_1.length : Int)).bind fun x49 =>
    (impl_featureDistance x49 x37).bind fun x52 =>
    if (s_o0_3_l5 = true ∧ (w64 (sum_2 + x52)) ≥ s_o0_5_l5) then
    (impl_matchSearch_run_k15 self t_34_l5 s_o0_0_l5 s_o0_1_l5 s_o0_2_l5 s_o0_3_l5 s_o0_4_l5 s_o0_5_l5)
    else (if s_o0_2_l5 = 0 then
    (some (.inr (.inr (true, (⟨s_o0_0_l5, s_o0_1_l5, s_o0_2_l5, s_o0_3_l5, s_o0_4_l5, s_o0_5_l5⟩ : S_matchSearch)))))
    else ((apd 8 ([] : List Int) matches_1).bind fun x80 =>
    (apd 8 x80 ([t_34_l5] : List Int)).bind fun x83 =>
    (self ((⟨s_o0_0_l5, s_o0_1_l5, (w64 (s_o0_2_l5 - 1)), s_o0_3_l5, s_o0_4_l5, s_o0_5_l5⟩ : S_matchSearch), x83, (w64 (sum_2 + x52)))).bind fun x85 =>
    if x85.1 = true then
    (some (.inr (.inr (true, x85.2))))
    else (impl_matchSearch_run_k15 self t_34_l5 x85.2.targets x85.2.stock x85.2.left x85.2.found x85.2.best x85.2.least)))))
    else (some (.inr (.inl (s_o0_0_l5, s_o0_1_l5, s_o0_2_l5, s_o0_3_l5, s_o0_4_l5, s_o0_5_l5))))
noncomputable def impl_matchSearch_run_F (self : (S_matchSearch × (List Int) × Int) → Option (Bool × S_matchSearch)) (s_0 : S_matchSearch) (matches_1 : (List Int)) (sum_2 : Int) : Option (Bool × S_matchSearch) :=
  if (matches_1.length : Int) = (s_0.targets.length : Int) then
    (some (false, (⟨s_0.targets, s_0.stock, s_0.left, true, matches_1, sum_2⟩ : S_matchSearch)))
    else ((loopO (impl_matchSearch_run_l5 self matches_1 s_0 sum_2) (0, s_0.targets, s_0.stock, s_0.left, s_0.found, s_0.best, s_0.least)).bind fun o => match o with
    | (.inl (s_o0_0_e0_5, s_o0_1_e0_5, s_o0_2_e0_5, s_o0_3_e0_5, s_o0_4_e0_5, s_o0_5_e0_5)) => (some (false, (⟨s_o0_0_e0_5, s_o0_1_e0_5, s_o0_2_e0_5, s_o0_3_e0_5, s_o0_4_e0_5, s_o0_5_e0_5⟩ : S_matchSearch)))
    | (.inr r2) => (some r2))
noncomputable def impl_matchSearch_run (s_0 : S_matchSearch) (matches_1 : (List Int)) (sum_2 : Int) : Option (Bool × S_matchSearch) := fixO (fun self s => match s with | (s_0, matches_1, sum_2) => impl_matchSearch_run_F self s_0 matches_1 sum_2) (s_0, matches_1, sum_2)
noncomputable def impl_BestMatches (targets_0 : (List S_Feature)) (stock_1 : (List S_Feature)) (budget_2 : Int) : Option ((List Int) × Int × Int) :=
  (impl_matchesCode targets_0 stock_1 budget_2).bind fun x14 =>
    if x14 ≠ 0 then
    (some (([] : List Int), 0, x14))
    else ((impl_matchSearch_run (⟨targets_0, stock_1, budget_2, false, ([] : List Int), 0⟩ : S_matchSearch) ([] : List Int) 0).bind fun x24 =>
    if x24.1 = true then
    (some (([] : List Int), 0, 5))
    else (some (x24.2.best, x24.2.least, 0)))
noncomputable def impl_RankedFeatures_c1 (i_0 : Int) (k_1 : Int) (cap0_0 : (List S_Feature)) (cap1_0 : ByteArray) (cap1_1 : (List Int)) : Option Int :=
  (rd cap0_0 i_0).bind fun x9 =>
    (rd cap0_0 k_1).bind fun x15 =>
    (impl_featureDistance x9 (⟨cap1_0, cap1_1⟩ : S_Feature)).bind fun x12 =>
    (impl_featureDistance x15 (⟨cap1_0, cap1_1⟩ : S_Feature)).bind fun x18 =>
    some (w64 (x12 - x18))
noncomputable def slices_insertionSortCmpFunc_int64_l4 (a_1 : Int) (cmp_3 : (Int → Int → Option Int)) (s : (Int × (List Int))) : Option ((Int × (List Int)) ⊕ (List Int)) :=
  match s with
    | (j_9_l4, data_o0_l4) =>
    (if j_9_l4 > a_1 then
    ((rd data_o0_l4 j_9_l4).bind fun x25 =>
    (rd data_o0_l4 (w64 (j_9_l4 - 1))).bind fun x30 =>
    (cmp_3 x25 x30).bind fun x32 =>
    some (decide (x32 < 0)))
    else (some false)).bind fun t_34_m4 =>
    if t_34_m4 = true then
    ((rd data_o0_l4 (w64 (j_9_l4 - 1))).bind fun x45 =>
    (rd data_o0_l4 j_9_l4).bind fun x49 =>
    (rd data_o0_l4 j_9_l4).bind fun x51 =>
    (rd (data_o0_l4.set j_9_l4.toNat x45) (w64 (j_9_l4 - 1))).bind fun x52 =>
    some (.inl ((w64 (j_9_l4 - 1)), ((data_o0_l4.set j_9_l4.toNat x45).set ((w64 (j_9_l4 - 1)).toNat) x49))))
    else (some (.inr data_o0_l4))
noncomputable def slices_insertionSortCmpFunc_int64_l1 (a_1 : Int) (b_2 : Int) (cmp_3 : (Int → Int → Option Int)) (s : (Int × (List Int))) : Option ((Int × (List Int)) ⊕ (List Int)) :=
  match s with
    | (i_8_l1, data_o0_l1) =>
    if i_8_l1 < b_2 then
    ((loopO (slices_insertionSortCmpFunc_int64_l4 a_1 cmp_3) (i_8_l1, data_o0_l1)).bind fun data_o0_e2_4 =>
    some (.inl ((w64 (i_8_l1 + 1)), data_o0_e2_4)))
    else (some (.inr data_o0_l1))
noncomputable def slices_insertionSortCmpFunc_int64 (data_0 : (List Int)) (a_1 : Int) (b_2 : Int) (cmp_3 : (Int → Int → Option Int)) : Option (List Int) :=
  (loopO (slices_insertionSortCmpFunc_int64_l1 a_1 b_2 cmp_3) ((w64 (a_1 + 1)), data_0)).bind fun r2 =>
    some r2
noncomputable def slices_swapRangeCmpFunc_int64_l1 (a_1 : Int) (b_2 : Int) (n_3 : Int) (s : (Int × (List Int))) : Option ((Int × (List Int)) ⊕ (List Int)) :=
  match s with
    | (i_10_l1, data_o0_l1) =>
    if i_10_l1 < n_3 then
    ((rd data_o0_l1 (w64 (b_2 + i_10_l1))).bind fun x28 =>
    (rd data_o0_l1 (w64 (a_1 + i_10_l1))).bind fun x34 =>
    (rd data_o0_l1 (w64 (a_1 + i_10_l1))).bind fun x36 =>
    (rd (data_o0_l1.set ((w64 (a_1 + i_10_l1)).toNat) x28) (w64 (b_2 + i_10_l1))).bind fun x37 =>
    some (.inl ((w64 (i_10_l1 + 1)), ((data_o0_l1.set ((w64 (a_1 + i_10_l1)).toNat) x28).set ((w64 (b_2 + i_10_l1)).toNat) x34))))
    else (some (.inr data_o0_l1))
noncomputable def slices_swapRangeCmpFunc_int64 (data_0 : (List Int)) (a_1 : Int) (b_2 : Int) (n_3 : Int) (cmp_4 : (Int → Int → Option Int)) : Option (List Int) :=
  (loopO (slices_swapRangeCmpFunc_int64_l1 a_1 b_2 n_3) (0, data_0)).bind fun r2 =>
    some r2
noncomputable def slices_rotateCmpFunc_int64_l2 (cmp_4 : (Int → Int → Option Int)) (m_2 : Int) (s : (Int × Int × (List Int))) : Option ((Int × Int × (List Int)) ⊕ (Int × (List Int))) :=
  match s with
    | (i_10_l2, j_11_l2, data_o0_l2) =>
    if i_10_l2 ≠ j_11_l2 then
    (if i_10_l2 > j_11_l2 then
    ((slices_swapRangeCmpFunc_int64 data_o0_l2 (w64 (m_2 - i_10_l2)) m_2 j_11_l2 cmp_4).bind fun x31 =>
    some (.inl ((w64 (i_10_l2 - j_11_l2)), j_11_l2, x31)))
    else ((slices_swapRangeCmpFunc_int64 data_o0_l2 (w64 (m_2 - i_10_l2)) (w64 ((w64 (m_2 + j_11_l2)) - i_10_l2)) i_10_l2 cmp_4).bind fun x46 =>
    some (.inl (i_10_l2, (w64 (j_11_l2 - i_10_l2)), x46))))
    else (some (.inr (i_10_l2, data_o0_l2)))
noncomputable def slices_rotateCmpFunc_int64 (data_0 : (List Int)) (a_1 : Int) (m_2 : Int) (b_3 : Int) (cmp_4 : (Int → Int → Option Int)) : Option (List Int) :=
  (loopO (slices_rotateCmpFunc_int64_l2 cmp_4 m_2) ((w64 (m_2 - a_1)), (w64 (b_3 - m_2)), data_0)).bind fun o => match o with
    | (i_10_e0_2, data_o0_e0_2) =>
    (slices_swapRangeCmpFunc_int64 data_o0_e0_2 (w64 (m_2 - i_10_e0_2)) m_2 i_10_e0_2 cmp_4).bind fun x57 =>
    some x57
noncomputable def slices_symMergeCmpFunc_int64_l9 (self : ((List Int) × Int × Int × Int × (Int → Int → Option Int)) → Option (List Int)) (i_10_e0_3 : Int) (s : (Int × (List Int))) : Option ((Int × (List Int)) ⊕ (List Int)) :=
  match s with
    | (k_13_l9, data_o0_l9) =>
    if k_13_l9 < (w64 (i_10_e0_3 - 1)) then
    ((rd data_o0_l9 (w64 (k_13_l9 + 1))).bind fun x69 =>
    (rd data_o0_l9 k_13_l9).bind fun x73 =>
    (rd data_o0_l9 k_13_l9).bind fun x75 =>
    (rd (data_o0_l9.set k_13_l9.toNat x69) (w64 (k_13_l9 + 1))).bind fun x76 =>
    some (.inl ((w64 (k_13_l9 + 1)), ((data_o0_l9.set k_13_l9.toNat x69).set ((w64 (k_13_l9 + 1)).toNat) x73))))
    else (some (.inr data_o0_l9))
noncomputable def slices_symMergeCmpFunc_int64_l3 (self : ((List Int) × Int × Int × Int × (Int → Int → Option Int)) → Option (List Int)) (a_1 : Int) (cmp_4 : (Int → Int → Option Int)) (data_0 : (List Int)) (s : (Int × Int)) : Option ((Int × Int) ⊕ Int) :=
  match s with
    | (i_10_l3, j_11_l3) =>
    if i_10_l3 < j_11_l3 then
    ((shr .u64 (IntKind.wrap .u64 ((w64 (i_10_l3 + j_11_l3)))) 1).bind fun x38 =>
    (rd data_0 (w64 (x38))).bind fun x43 =>
    (rd data_0 a_1).bind fun x47 =>
    (cmp_4 x43 x47).bind fun x49 =>
    if x49 < 0 then
    (some (.inl ((w64 ((w64 (x38)) + 1)), j_11_l3)))
    else (some (.inl (i_10_l3, (w64 (x38))))))
    else (some (.inr i_10_l3))
noncomputable def slices_symMergeCmpFunc_int64_l21 (self : ((List Int) × Int × Int × Int × (Int → Int → Option Int)) → Option (List Int)) (i_14_e4_15 : Int) (s : (Int × (List Int))) : Option ((Int × (List Int)) ⊕ (List Int)) :=
  match s with
    | (k_17_l21, data_o0_l21) =>
    if k_17_l21 > i_14_e4_15 then
    ((rd data_o0_l21 (w64 (k_17_l21 - 1))).bind fun x121 =>
    (rd data_o0_l21 k_17_l21).bind fun x125 =>
    (rd data_o0_l21 k_17_l21).bind fun x127 =>
    (rd (data_o0_l21.set k_17_l21.toNat x121) (w64 (k_17_l21 - 1))).bind fun x128 =>
    some (.inl ((w64 (k_17_l21 - 1)), ((data_o0_l21.set k_17_l21.toNat x121).set ((w64 (k_17_l21 - 1)).toNat) x125))))
    else (some (.inr data_o0_l21))
noncomputable def slices_symMergeCmpFunc_int64_l15 (self : ((List Int) × Int × Int × Int × (Int → Int → Option Int)) → Option (List Int)) (cmp_4 : (Int → Int → Option Int)) (data_0 : (List Int)) (m_2 : Int) (s : (Int × Int)) : Option ((Int × Int) ⊕ Int) :=
  match s with
    | (i_14_l15, j_15_l15) =>
    if i_14_l15 < j_15_l15 then
    ((shr .u64 (IntKind.wrap .u64 ((w64 (i_14_l15 + j_15_l15)))) 1).bind fun x90 =>
    (rd data_0 m_2).bind fun x95 =>
    (rd data_0 (w64 (x90))).bind fun x99 =>
    (cmp_4 x95 x99).bind fun x101 =>
    if x101 < 0 then
    (some (.inl (i_14_l15, (w64 (x90)))))
    else (some (.inl ((w64 ((w64 (x90)) + 1)), j_15_l15))))
    else (some (.inr i_14_l15))
noncomputable def slices_symMergeCmpFunc_int64_k43 (self : ((List Int) × Int × Int × Int × (Int → Int → Option Int)) → Option (List Int)) (b_3 : Int) (cmp_4 : (Int → Int → Option Int)) (m_2 : Int) (start_20_e8_33 : Int) (x133 : Int) (data_o0_r43 : (List Int)) : Option (List Int) :=
  if ((w64 (x133)) < (w64 ((w64 ((w64 (x133)) + m_2)) - start_20_e8_33)) ∧ (w64 ((w64 ((w64 (x133)) + m_2)) - start_20_e8_33)) < b_3) then
    ((self (data_o0_r43, (w64 (x133)), (w64 ((w64 ((w64 (x133)) + m_2)) - start_20_e8_33)), b_3, cmp_4)).bind fun x219 =>
    some x219)
    else (some data_o0_r43)
noncomputable def slices_symMergeCmpFunc_int64_k41 (self : ((List Int) × Int × Int × Int × (Int → Int → Option Int)) → Option (List Int)) (a_1 : Int) (b_3 : Int) (cmp_4 : (Int → Int → Option Int)) (m_2 : Int) (start_20_e8_33 : Int) (x133 : Int) (data_o0_r41 : (List Int)) : Option (List Int) :=
  if (a_1 < start_20_e8_33 ∧ start_20_e8_33 < (w64 (x133))) then
    ((self (data_o0_r41, a_1, start_20_e8_33, (w64 (x133)), cmp_4)).bind fun x205 =>
    slices_symMergeCmpFunc_int64_k43 self b_3 cmp_4 m_2 start_20_e8_33 x133 x205)
    else (slices_symMergeCmpFunc_int64_k43 self b_3 cmp_4 m_2 start_20_e8_33 x133 data_o0_r41)
noncomputable def slices_symMergeCmpFunc_int64_l33 (self : ((List Int) × Int × Int × Int × (Int → Int → Option Int)) → Option (List Int)) (cmp_4 : (Int → Int → Option Int)) (data_0 : (List Int)) (m_2 : Int) (x133 : Int) (s : (Int × Int)) : Option ((Int × Int) ⊕ Int) :=
  match s with
    | (start_20_l33, r_21_l33) =>
    if start_20_l33 < r_21_l33 then
    ((shr .u64 (IntKind.wrap .u64 ((w64 (start_20_l33 + r_21_l33)))) 1).bind fun x156 =>
    (rd data_0 (w64 ((w64 ((w64 ((w64 (x133)) + m_2)) - 1)) - (w64 (x156))))).bind fun x163 =>
    (rd data_0 (w64 (x156))).bind fun x167 =>
    (cmp_4 x163 x167).bind fun x169 =>
    if x169 < 0 then
    (some (.inl (start_20_l33, (w64 (x156)))))
    else (some (.inl ((w64 ((w64 (x156)) + 1)), r_21_l33))))
    else (some (.inr start_20_l33))
noncomputable def slices_symMergeCmpFunc_int64_k32 (self : ((List Int) × Int × Int × Int × (Int → Int → Option Int)) → Option (List Int)) (a_1 : Int) (b_3 : Int) (cmp_4 : (Int → Int → Option Int)) (data_0 : (List Int)) (m_2 : Int) (x133 : Int) (start_20_r32 : Int) (r_21_r32 : Int) : Option (List Int) :=
  (loopO (slices_symMergeCmpFunc_int64_l33 self cmp_4 data_0 m_2 x133) (start_20_r32, r_21_r32)).bind fun start_20_e8_33 =>
    if (start_20_e8_33 < m_2 ∧ m_2 < (w64 ((w64 ((w64 (x133)) + m_2)) - start_20_e8_33))) then
    ((slices_rotateCmpFunc_int64 data_0 start_20_e8_33 m_2 (w64 ((w64 ((w64 (x133)) + m_2)) - start_20_e8_33)) cmp_4).bind fun x191 =>
    slices_symMergeCmpFunc_int64_k41 self a_1 b_3 cmp_4 m_2 start_20_e8_33 x133 x191)
    else (slices_symMergeCmpFunc_int64_k41 self a_1 b_3 cmp_4 m_2 start_20_e8_33 x133 data_0)
noncomputable def slices_symMergeCmpFunc_int64_F (self : ((List Int) × Int × Int × Int × (Int → Int → Option Int)) → Option (List Int)) (data_0 : (List Int)) (a_1 : Int) (m_2 : Int) (b_3 : Int) (cmp_4 : (Int → Int → Option Int)) : Option (List Int) :=
  if (w64 (m_2 - a_1)) = 1 then
    ((loopO (slices_symMergeCmpFunc_int64_l3 self a_1 cmp_4 data_0) (m_2, b_3)).bind fun i_10_e0_3 =>
    (loopO (slices_symMergeCmpFunc_int64_l9 self i_10_e0_3) (a_1, data_0)).bind fun r2 =>
    some r2)
    else (if (w64 (b_3 - m_2)) = 1 then
    ((loopO (slices_symMergeCmpFunc_int64_l15 self cmp_4 data_0 m_2) (a_1, m_2)).bind fun i_14_e4_15 =>
    (loopO (slices_symMergeCmpFunc_int64_l21 self i_14_e4_15) (m_2, data_0)).bind fun r2 =>
    some r2)
    else ((shr .u64 (IntKind.wrap .u64 ((w64 (a_1 + b_3)))) 1).bind fun x133 =>
    if m_2 > (w64 (x133)) then
    (slices_symMergeCmpFunc_int64_k32 self a_1 b_3 cmp_4 data_0 m_2 x133 (w64 ((w64 ((w64 (x133)) + m_2)) - b_3)) (w64 (x133)))
    else (slices_symMergeCmpFunc_int64_k32 self a_1 b_3 cmp_4 data_0 m_2 x133 a_1 m_2)))
noncomputable def slices_symMergeCmpFunc_int64 (data_0 : (List Int)) (a_1 : Int) (m_2 : Int) (b_3 : Int) (cmp_4 : (Int → Int → Option Int)) : Option (List Int) := fixO (fun self s => match s with | (data_0, a_1, m_2, b_3, cmp_4) => slices_symMergeCmpFunc_int64_F self data_0 a_1 m_2 b_3 cmp_4) (data_0, a_1, m_2, b_3, cmp_4)
noncomputable def slices_stableCmpFunc_int64_k16 (blockSize_6_l7 : Int) (data_o0_r16 : (List Int)) : Option ((Int × (List Int)) ⊕ (List Int)) :=
  some (.inl ((w64 (blockSize_6_l7 * 2)), data_o0_r16))
noncomputable def slices_stableCmpFunc_int64_l9 (blockSize_6_l7 : Int) (cmp_2 : (Int → Int → Option Int)) (n_1 : Int) (s : (Int × Int × (List Int))) : Option ((Int × Int × (List Int)) ⊕ (Int × (List Int))) :=
  match s with
    | (a_7_l9, b_8_l9, data_o0_l9) =>
    if b_8_l9 ≤ n_1 then
    ((slices_symMergeCmpFunc_int64 data_o0_l9 a_7_l9 (w64 (a_7_l9 + blockSize_6_l7)) b_8_l9 cmp_2).bind fun x43 =>
    some (.inl (b_8_l9, (w64 (b_8_l9 + (w64 (2 * blockSize_6_l7)))), x43)))
    else (some (.inr (a_7_l9, data_o0_l9)))
noncomputable def slices_stableCmpFunc_int64_l7 (cmp_2 : (Int → Int → Option Int)) (n_1 : Int) (s : (Int × (List Int))) : Option ((Int × (List Int)) ⊕ (List Int)) :=
  match s with
    | (blockSize_6_l7, data_o0_l7) =>
    if blockSize_6_l7 < n_1 then
    ((loopO (slices_stableCmpFunc_int64_l9 blockSize_6_l7 cmp_2 n_1) (0, (w64 (2 * blockSize_6_l7)), data_o0_l7)).bind fun o => match o with
    | (a_7_e4_9, data_o0_e4_9) =>
    if (w64 (a_7_e4_9 + blockSize_6_l7)) < n_1 then
    ((slices_symMergeCmpFunc_int64 data_o0_e4_9 a_7_e4_9 (w64 (a_7_e4_9 + blockSize_6_l7)) n_1 cmp_2).bind fun x60 =>
    slices_stableCmpFunc_int64_k16 blockSize_6_l7 x60)
    else (slices_stableCmpFunc_int64_k16 blockSize_6_l7 data_o0_e4_9))
    else (some (.inr data_o0_l7))
noncomputable def slices_stableCmpFunc_int64_l2 (cmp_2 : (Int → Int → Option Int)) (n_1 : Int) (s : (Int × Int × (List Int))) : Option ((Int × Int × (List Int)) ⊕ (Int × (List Int))) :=
  match s with
    | (a_7_l2, b_8_l2, data_o0_l2) =>
    if b_8_l2 ≤ n_1 then
    ((slices_insertionSortCmpFunc_int64 data_o0_l2 a_7_l2 b_8_l2 cmp_2).bind fun x18 =>
    some (.inl (b_8_l2, (w64 (b_8_l2 + 20)), x18)))
    else (some (.inr (a_7_l2, data_o0_l2)))
noncomputable def slices_stableCmpFunc_int64 (data_0 : (List Int)) (n_1 : Int) (cmp_2 : (Int → Int → Option Int)) : Option (List Int) :=
  (loopO (slices_stableCmpFunc_int64_l2 cmp_2 n_1) (0, 20, data_0)).bind fun o => match o with
    | (a_7_e0_2, data_o0_e0_2) =>
    (slices_insertionSortCmpFunc_int64 data_o0_e0_2 a_7_e0_2 n_1 cmp_2).bind fun x27 =>
    (loopO (slices_stableCmpFunc_int64_l7 cmp_2 n_1) (20, x27)).bind fun r2 =>
    some r2
noncomputable def slices_SortStableFunc_int64_int64 (x_0 : (List Int)) (cmp_1 : (Int → Int → Option Int)) : Option (List Int) :=
  (slices_stableCmpFunc_int64 x_0 (x_0.length : Int) cmp_1).bind fun x8 =>
    some x8
noncomputable def impl_RankedFeatures_l5 (list_0 : (List S_Feature)) (s : (Int × (List Int))) : Option ((Int × (List Int)) ⊕ (List Int)) :=
  match s with
    | (t_19_l5, out_o6_l5) =>
    if t_19_l5 < (list_0.length : Int) then
    ((apd 8 out_o6_l5 ([t_19_l5] : List Int)).bind fun x25 =>
    some (.inl ((w64 (t_19_l5 + 1)), x25)))
    else (some (.inr out_o6_l5))
noncomputable def impl_RankedFeatures (list_0 : (List S_Feature)) (f_1 : S_Feature) : Option ((List Int) × Int) :=
  (impl_ValidFeatures list_0).bind fun x9 =>
    (if x9 = true then
    ((impl_ValidFeature f_1).bind fun x13 =>
    some (!x13))
    else (some true)).bind fun t_15_m1 =>
    if t_15_m1 = true then
    (some (([] : List Int), 1))
    else ((loopO (impl_RankedFeatures_l5 list_0) (0, ([] : List Int))).bind fun out_o6_e0_5 =>
    (slices_SortStableFunc_int64_int64 out_o6_e0_5 (fun a0 a1 => impl_RankedFeatures_c1 a0 a1 list_0 f_1.Id f_1.Values)).bind fun x29 =>
    some (x29, 0))
noncomputable def impl_GreedyMatches_c1 (k_0 : Int) (cap0_0 : (List Int)) : Option Bool :=
  (slices_Contains_int64_int64 cap0_0 k_0).bind fun x6 =>
    some (!x6)
noncomputable def impl_GreedyMatches_l6 (stock_1 : (List S_Feature)) (targets_0 : (List S_Feature)) (s : (Int × (List Int))) : Option ((Int × (List Int)) ⊕ (List Int)) :=
  match s with
    | (t_22_l6, out_o7_l6) =>
    if t_22_l6 < (targets_0.length : Int) then
    ((rd targets_0 t_22_l6).bind fun x24 =>
    (impl_RankedFeatures stock_1 x24).bind fun x29 =>
    (slices_IndexFunc_int64_int64 x29.1 (fun a0 => impl_GreedyMatches_c1 a0 out_o7_l6)).bind fun x34 =>
    (rd x29.1 x34).bind fun x38 =>
    (apd 8 out_o7_l6 ([x38] : List Int)).bind fun x41 =>
    some (.inl ((w64 (t_22_l6 + 1)), x41)))
    else (some (.inr out_o7_l6))
noncomputable def impl_GreedyMatches (targets_0 : (List S_Feature)) (stock_1 : (List S_Feature)) : Option ((List Int) × Int) :=
  (impl_matchesCode targets_0 stock_1 1).bind fun x15 =>
    if x15 ≠ 0 then
    (some (([] : List Int), x15))
    else ((loopO (impl_GreedyMatches_l6 stock_1 targets_0) (0, ([] : List Int))).bind fun out_o7_e0_6 =>
    some (out_o7_e0_6, 0))
noncomputable def impl_isFaceOrder_l2 (list_0 : (List Int)) (n_1 : Int) (t_9_l2 : Int) : Option (Int ⊕ (Unit ⊕ Bool)) :=
  if t_9_l2 < (list_0.length : Int) then
    ((rd list_0 t_9_l2).bind fun x12 =>
    (impl_within x12 0 (w64 (n_1 - 1))).bind fun x17 =>
    (if x17 = true then
    ((slc list_0 0 t_9_l2).bind fun x22 =>
    (slices_Contains_int64_int64 x22 x12).bind fun x24 =>
    some x24)
    else (some true)).bind fun t_25_m4 =>
    if t_25_m4 = true then
    (some (.inr (.inr false)))
    else (some (.inl (w64 (t_9_l2 + 1)))))
    else (some (.inr (.inl ())))
noncomputable def impl_isFaceOrder (list_0 : (List Int)) (n_1 : Int) : Option Bool :=
  (loopO (impl_isFaceOrder_l2 list_0 n_1) 0).bind fun o => match o with
    | (.inl _) => (some true)
    | (.inr r2) => (some r2)
noncomputable def impl_MatchesScore_l7 (matches_2 : (List Int)) (stock_1 : (List S_Feature)) (targets_0 : (List S_Feature)) (s : (Int × Int)) : Option ((Int × Int) ⊕ Int) :=
  match s with
    | (sum_8_l7, t_35_l7) =>
    if t_35_l7 < (matches_2.length : Int) then
    ((rd matches_2 t_35_l7).bind fun x38 =>
    (rd targets_0 t_35_l7).bind fun x43 =>
    (rd stock_1 x38).bind fun x47 =>
    (impl_featureDistance x43 x47).bind fun x49 =>
    some (.inl ((w64 (sum_8_l7 + x49)), (w64 (t_35_l7 + 1)))))
    else (some (.inr sum_8_l7))
noncomputable def impl_MatchesScore (targets_0 : (List S_Feature)) (stock_1 : (List S_Feature)) (matches_2 : (List Int)) : Option (Int × Int) :=
  (impl_ValidFeatures targets_0).bind fun x13 =>
    (if x13 = true then
    ((impl_ValidFeatures stock_1).bind fun x17 =>
    some (!x17))
    else (some true)).bind fun t_11_m1 =>
    if t_11_m1 = true then
    (some (0, 1))
    else ((if (matches_2.length : Int) ≠ (targets_0.length : Int) then
    (some true)
    else ((impl_isFaceOrder matches_2 (stock_1.length : Int)).bind fun x30 =>
    some (!x30))).bind fun t_20_m3 =>
    if t_20_m3 = true then
    (some (0, 2))
    else ((loopO (impl_MatchesScore_l7 matches_2 stock_1 targets_0) (0, 0)).bind fun sum_8_e1_7 =>
    some (sum_8_e1_7, 0)))
noncomputable def laws_FnMatches (code_0 : (List Int)) : Option Bool :=
  (laws_b10Long code_0).bind fun x16 =>
    if x16 = true then
    (some true)
    else ((spec_DrawBestMatches code_0).bind fun x19 =>
    (impl_BestMatches x19.1 x19.2.1 x19.2.2).bind fun x27 =>
    (impl_GreedyMatches x19.1 x19.2.1).bind fun x34 =>
    if x27.2.2 ≠ 0 then
    (some (((x27.1.length : Int) == 0) && (x27.2.1 == 0)))
    else ((impl_MatchesScore x19.1 x19.2.1 x27.1).bind fun x50 =>
    (impl_MatchesScore x19.1 x19.2.1 x34.1).bind fun x57 =>
    some ((x34.2 == 0) && ((x50.2 == 0) && ((x50.1 == x27.2.1) && ((x57.2 == 0) && (decide (x27.2.1 ≤ x57.1))))))))

end Go.Pw
