/- Plain functions that answer what the program's functions answer. Conditions: none; definitions alone. -/
import Derived.Test.YtigjhjlkdamncaaSimPz
namespace Go.Pw
open Go.Sim (min2 max2)
set_option linter.unusedVariables false
def bit_and (k : IntKind) (a b : Int) : Int := k.wrap (BitVec.ofInt k.bits a &&& BitVec.ofInt k.bits b).toNat

structure S_Bond where
  Name : ByteArray
  Spread : Int
  Open : Int
  Press : Int

structure S_l00Src where
  code : (List Int)
  at_ : Int
  seed : Int

structure S_glueSearch where
  list : (List S_Bond)
  presses : Int
  left : Int
  found : Bool
  best : (List Int)
  least : Int

structure Ar4_Int where
  e0 : Int
  e1 : Int
  e2 : Int
  e3 : Int

structure S_gluing where
  ready : Int
  free : Ar4_Int
  end_ : Int

structure S_glued where
  start : Int
  press : Int
  begin : Int
  end_ : Int

noncomputable def laws_b10Long (code_0 : (List Int)) : Option Bool :=
  some (decide ((code_0.length : Int) > 1048576))
noncomputable def spec_l00From (code_0 : (List Int)) : Option S_l00Src :=
  some (⟨code_0, 0, 0⟩ : S_l00Src)
noncomputable def spec_l00Src_next_k4 (s_0 : S_l00Src) (b_3_r4 : Int) : Option (Int × S_l00Src) :=
  if (w64 (s_0.at_ + 1)) ≤ (s_0.code.length : Int) then
    (some (b_3_r4, (⟨s_0.code, (w64 (s_0.at_ + 1)), (IntKind.wrap .u64 ((IntKind.wrap .u64 ((IntKind.wrap .u64 (s_0.seed * 6364136223846793005)) + (IntKind.wrap .u64 (b_3_r4)))) + 1442695040888963407))⟩ : S_l00Src)))
    else ((shr .u64 (IntKind.wrap .u64 ((IntKind.wrap .u64 ((IntKind.wrap .u64 (s_0.seed * 6364136223846793005)) + (IntKind.wrap .u64 (b_3_r4)))) + 1442695040888963407)) 40).bind fun x59 =>
    some ((w64 ((bit_and .u64 x59 255))), (⟨s_0.code, (w64 (s_0.at_ + 1)), (IntKind.wrap .u64 ((IntKind.wrap .u64 ((IntKind.wrap .u64 (s_0.seed * 6364136223846793005)) + (IntKind.wrap .u64 (b_3_r4)))) + 1442695040888963407))⟩ : S_l00Src)))
noncomputable def spec_l00Src_next (s_0 : S_l00Src) : Option (Int × S_l00Src) :=
  if s_0.at_ < (s_0.code.length : Int) then
    ((rd s_0.code s_0.at_).bind fun x22 =>
    spec_l00Src_next_k4 s_0 (w64 (x22)))
    else (spec_l00Src_next_k4 s_0 0)
noncomputable def spec_l00Src_pick_k6 (n_1 : Int) (x_5_r6 : Int) (s_o0_0_r6 : (List Int)) (s_o0_1_r6 : Int) (s_o0_2_r6 : Int) : Option (Int × S_l00Src) :=
  (md x_5_r6 n_1).bind fun x19 =>
    some (x19, (⟨s_o0_0_r6, s_o0_1_r6, s_o0_2_r6⟩ : S_l00Src))
noncomputable def spec_l00Src_pick (s_0 : S_l00Src) (n_1 : Int) : Option (Int × S_l00Src) :=
  if n_1 ≤ 1 then
    (some (0, s_0))
    else ((spec_l00Src_next s_0).bind fun x9 =>
    if n_1 > 200 then
    ((spec_l00Src_next x9.2).bind fun x15 =>
    spec_l00Src_pick_k6 n_1 (w64 ((w64 (x9.1 * 256)) + x15.1)) x15.2.code x15.2.at_ x15.2.seed)
    else (spec_l00Src_pick_k6 n_1 x9.1 x9.2.code x9.2.at_ x9.2.seed))
noncomputable def spec_l00Src_one (s_0 : S_l00Src) (n_1 : Int) : Option (Bool × S_l00Src) :=
  (spec_l00Src_pick s_0 n_1).bind fun x7 =>
    some ((x7.1 == 0), x7.2)
noncomputable def spec_l00Src_among (s_0 : S_l00Src) (list_1 : (List Int)) : Option (Int × S_l00Src) :=
  (spec_l00Src_pick s_0 (list_1.length : Int)).bind fun x9 =>
    (rd list_1 x9.1).bind fun x10 =>
    some (x10, x9.2)
noncomputable def spec_l24DrawOne (s_0 : S_l00Src) (name_1 : ByteArray) : Option (S_Bond × S_l00Src) :=
  (spec_l00Src_pick s_0 20).bind fun x8 =>
    (spec_l00Src_among x8.2 ([0, 5, 20, 100] : List Int)).bind fun x15 =>
    (spec_l00Src_among x15.2 ([10, 30, 60, 45, 1, 90] : List Int)).bind fun x20 =>
    some ((⟨name_1, (w64 (1 + x8.1)), (w64 ((w64 (1 + x8.1)) + x15.1)), x20.1⟩ : S_Bond), x20.2)
noncomputable def spec_l00Src_text (s_0 : S_l00Src) (list_1 : (List ByteArray)) : Option (ByteArray × S_l00Src) :=
  (spec_l00Src_pick s_0 (list_1.length : Int)).bind fun x9 =>
    (rd list_1 x9.1).bind fun x10 =>
    some (x10, x9.2)
noncomputable def spec_l24Bend_k10 (s_o0_0_r10 : (List Int)) (s_o0_1_r10 : Int) (s_o0_2_r10 : Int) (b_o3_0_r10 : ByteArray) (b_o3_1_r10 : Int) (b_o3_2_r10 : Int) (b_o3_3_r10 : Int) : Option (S_Bond × S_l00Src) :=
  some ((⟨b_o3_0_r10, b_o3_1_r10, b_o3_2_r10, b_o3_3_r10⟩ : S_Bond), (⟨s_o0_0_r10, s_o0_1_r10, s_o0_2_r10⟩ : S_l00Src))
noncomputable def spec_l24Bend (s_0 : S_l00Src) (b_1 : S_Bond) : Option (S_Bond × S_l00Src) :=
  (spec_l00Src_pick s_0 20).bind fun x6 =>
    if x6.1 = 0 then
    ((spec_l00Src_among x6.2 ([0, 120, 121] : List Int)).bind fun x11 =>
    spec_l24Bend_k10 x11.2.code x11.2.at_ x11.2.seed b_1.Name x11.1 b_1.Open b_1.Press)
    else (if x6.1 = 1 then
    ((spec_l00Src_among x6.2 ([(w64 (b_1.Spread - 1)), 240, 241] : List Int)).bind fun x20 =>
    spec_l24Bend_k10 x20.2.code x20.2.at_ x20.2.seed b_1.Name b_1.Spread x20.1 b_1.Press)
    else (if x6.1 = 2 then
    ((spec_l00Src_among x6.2 ([0, 1440, 1441] : List Int)).bind fun x26 =>
    spec_l24Bend_k10 x26.2.code x26.2.at_ x26.2.seed b_1.Name b_1.Spread b_1.Open x26.1)
    else (if x6.1 = 3 then
    ((spec_l00Src_text x6.2 ([(⟨#[]⟩ : ByteArray), (⟨#[66]⟩ : ByteArray)] : List ByteArray)).bind fun x32 =>
    spec_l24Bend_k10 x32.2.code x32.2.at_ x32.2.seed x32.1 b_1.Spread b_1.Open b_1.Press)
    else (spec_l24Bend_k10 x6.2.code x6.2.at_ x6.2.seed b_1.Name b_1.Spread b_1.Open b_1.Press))))
noncomputable def spec_l24DrawList_k18 (s_o0_0_r18 : (List Int)) (s_o0_1_r18 : Int) (s_o0_2_r18 : Int) (out_o4_r18 : (List S_Bond)) : Option ((List S_Bond) × S_l00Src) :=
  some (out_o4_r18, (⟨s_o0_0_r18, s_o0_1_r18, s_o0_2_r18⟩ : S_l00Src))
noncomputable def spec_l24DrawList_l15 (x42 : (Int × S_l00Src)) (s : (Int × (List S_Bond))) : Option ((Int × (List S_Bond)) ⊕ (List S_Bond)) :=
  match s with
    | (k_7_l15, out_o4_l15) =>
    if k_7_l15 < x42.1 then
    ((cat (⟨#[110]⟩ : ByteArray) (strOf ([(IntKind.wrap .u8 ((w64 (97 + k_7_l15))))] : List Int))).bind fun x55 =>
    (apd 40 out_o4_l15 ([(⟨x55, 2, 9, 20⟩ : S_Bond)] : List S_Bond)).bind fun x58 =>
    some (.inl ((w64 (k_7_l15 + 1)), x58)))
    else (some (.inr out_o4_l15))
noncomputable def spec_l24DrawList_k5 (k_5_l4 : Int) (s_o0_0_r5 : (List Int)) (s_o0_1_r5 : Int) (s_o0_2_r5 : Int) (out_o4_r5 : (List S_Bond)) : Option ((Int × (List Int) × Int × Int × (List S_Bond)) ⊕ ((List Int) × Int × Int × (List S_Bond))) :=
  some (.inl ((w64 (k_5_l4 + 1)), s_o0_0_r5, s_o0_1_r5, s_o0_2_r5, out_o4_r5))
noncomputable def spec_l24DrawList_l4 (s : (Int × (List Int) × Int × Int × (List S_Bond))) : Option ((Int × (List Int) × Int × Int × (List S_Bond)) ⊕ ((List Int) × Int × Int × (List S_Bond))) :=
  match s with
    | (k_5_l4, s_o0_0_l4, s_o0_1_l4, s_o0_2_l4, out_o4_l4) =>
    if k_5_l4 < (([(⟨#[97]⟩ : ByteArray), (⟨#[98]⟩ : ByteArray), (⟨#[99]⟩ : ByteArray), (⟨#[100]⟩ : ByteArray), (⟨#[101]⟩ : ByteArray), (⟨#[102]⟩ : ByteArray)] : List ByteArray).length : Int) then
    ((spec_l00Src_one (⟨s_o0_0_l4, s_o0_1_l4, s_o0_2_l4⟩ : S_l00Src) 2).bind fun x17 =>
    if x17.1 = true then
    ((rd ([(⟨#[97]⟩ : ByteArray), (⟨#[98]⟩ : ByteArray), (⟨#[99]⟩ : ByteArray), (⟨#[100]⟩ : ByteArray), (⟨#[101]⟩ : ByteArray), (⟨#[102]⟩ : ByteArray)] : List ByteArray) k_5_l4).bind fun x22 =>
    (spec_l24DrawOne x17.2 x22).bind fun x24 =>
    (apd 40 out_o4_l4 ([x24.1] : List S_Bond)).bind fun x26 =>
    spec_l24DrawList_k5 k_5_l4 x24.2.code x24.2.at_ x24.2.seed x26)
    else (spec_l24DrawList_k5 k_5_l4 x17.2.code x17.2.at_ x17.2.seed out_o4_l4))
    else (some (.inr (s_o0_0_l4, s_o0_1_l4, s_o0_2_l4, out_o4_l4)))
noncomputable def spec_l24DrawList (s_0 : S_l00Src) : Option ((List S_Bond) × S_l00Src) :=
  (loopO (spec_l24DrawList_l4) (0, s_0.code, s_0.at_, s_0.seed, ([] : List S_Bond))).bind fun o => match o with
    | (s_o0_0_e0_4, s_o0_1_e0_4, s_o0_2_e0_4, out_o4_e0_4) =>
    (spec_l00Src_pick (⟨s_o0_0_e0_4, s_o0_1_e0_4, s_o0_2_e0_4⟩ : S_l00Src) 20).bind fun x28 =>
    if x28.1 = 0 then
    ((spec_l24DrawOne x28.2 (⟨#[97]⟩ : ByteArray)).bind fun x34 =>
    (spec_l24Bend x34.2 x34.1).bind fun x35 =>
    (apd 40 out_o4_e0_4 ([x35.1] : List S_Bond)).bind fun x37 =>
    spec_l24DrawList_k18 x35.2.code x35.2.at_ x35.2.seed x37)
    else (if x28.1 = 1 then
    ((spec_l00Src_among x28.2 ([12, 13] : List Int)).bind fun x42 =>
    (loopO (spec_l24DrawList_l15 x42) (0, ([] : List S_Bond))).bind fun out_o4_e3_15 =>
    spec_l24DrawList_k18 x42.2.code x42.2.at_ x42.2.seed out_o4_e3_15)
    else (spec_l24DrawList_k18 x28.2.code x28.2.at_ x28.2.seed out_o4_e0_4))
noncomputable def spec_l24DrawPresses (s_0 : S_l00Src) : Option (Int × S_l00Src) :=
  (spec_l00Src_one s_0 9).bind fun x4 =>
    if x4.1 = true then
    ((spec_l00Src_among x4.2 ([0, 4, 5] : List Int)).bind fun x7 =>
    some (x7.1, x7.2))
    else ((spec_l00Src_pick x4.2 3).bind fun x9 =>
    some ((w64 (x9.1 + 1)), x9.2))
noncomputable def spec_l08DrawBudget (s_0 : S_l00Src) : Option (Int × S_l00Src) :=
  (spec_l00Src_one s_0 6).bind fun x4 =>
    if x4.1 = true then
    ((spec_l00Src_among x4.2 ([0, 1, 5, 20000, 20001] : List Int)).bind fun x7 =>
    some (x7.1, x7.2))
    else ((spec_l00Src_pick x4.2 400).bind fun x9 =>
    some ((w64 (x9.1 + 1)), x9.2))
noncomputable def spec_DrawBestGlueOrder (code_0 : (List Int)) : Option ((List S_Bond) × Int × Int) :=
  (spec_l00From code_0).bind fun x9 =>
    (spec_l24DrawList x9).bind fun x11 =>
    (spec_l24DrawPresses x11.2).bind fun x13 =>
    (spec_l08DrawBudget x13.2).bind fun x17 =>
    some (x11.1, x13.1, x17.1)
noncomputable def impl_IsName_l4 (s_0 : ByteArray) (i_3_l4 : Int) : Option (Int ⊕ (Unit ⊕ Bool)) :=
  if i_3_l4 < (s_0.size : Int) then
    ((bt s_0 i_3_l4).bind fun x30 =>
    (if x30 < 97 then
    ((bt s_0 i_3_l4).bind fun x41 =>
    if x41 < 48 then
    (some true)
    else ((bt s_0 i_3_l4).bind fun x46 =>
    some (decide (x46 > 57))))
    else ((bt s_0 i_3_l4).bind fun x35 =>
    if x35 > 122 then
    ((bt s_0 i_3_l4).bind fun x41 =>
    if x41 < 48 then
    (some true)
    else ((bt s_0 i_3_l4).bind fun x46 =>
    some (decide (x46 > 57))))
    else (some false))).bind fun t_49_m6 =>
    if t_49_m6 = true then
    (some (.inr (.inr false)))
    else (some (.inl (w64 (i_3_l4 + 1)))))
    else (some (.inr (.inl ())))
noncomputable def impl_IsName (s_0 : ByteArray) : Option Bool :=
  (if (s_0.size : Int) < 1 then
    (some true)
    else (if (s_0.size : Int) > 10 then
    (some true)
    else ((bt s_0 0).bind fun x14 =>
    if x14 < 97 then
    (some true)
    else ((bt s_0 0).bind fun x19 =>
    some (decide (x19 > 122)))))).bind fun t_21_m1 =>
    if t_21_m1 = true then
    (some false)
    else ((loopO (impl_IsName_l4 s_0) 0).bind fun o => match o with
    | (.inl _) => (some true)
    | (.inr r2) => (some r2))
noncomputable def impl_within (n_0 : Int) (low_1 : Int) (high_2 : Int) : Option Bool :=
  some ((decide (n_0 ≥ low_1)) && (decide (n_0 ≤ high_2)))
noncomputable def impl_ValidBond (b_0 : S_Bond) : Option Bool :=
  (impl_IsName b_0.Name).bind fun x5 =>
    (if x5 = true then
    ((impl_within b_0.Spread 1 120).bind fun x9 =>
    if x9 = true then
    ((impl_within b_0.Open b_0.Spread 240).bind fun x16 =>
    if x16 = true then
    ((impl_within b_0.Press 1 1440).bind fun x21 =>
    some x21)
    else (some false))
    else (some false))
    else (some false)).bind fun t_2_m1 =>
    some t_2_m1
noncomputable def impl_ValidBonds_l2 (list_0 : (List S_Bond)) (t_7_l2 : Int) : Option (Int ⊕ (Unit ⊕ Bool)) :=
  if t_7_l2 < (list_0.length : Int) then
    ((rd list_0 t_7_l2).bind fun x10 =>
    (impl_ValidBond x10).bind fun x13 =>
    (if x13 = true then
    (if t_7_l2 > 0 then
    ((rd list_0 (w64 (t_7_l2 - 1))).bind fun x22 =>
    some (!Op.bytesLess x22.Name.toList x10.Name.toList))
    else (some false))
    else (some true)).bind fun t_29_m4 =>
    if t_29_m4 = true then
    (some (.inr (.inr false)))
    else (some (.inl (w64 (t_7_l2 + 1)))))
    else (some (.inr (.inl ())))
noncomputable def impl_ValidBonds (list_0 : (List S_Bond)) : Option Bool :=
  (loopO (impl_ValidBonds_l2 list_0) 0).bind fun o => match o with
    | (.inl _) => (some (decide ((list_0.length : Int) ≤ 12)))
    | (.inr r2) => (some r2)
noncomputable def impl_pressCode (list_0 : (List S_Bond)) (presses_1 : Int) : Option Int :=
  (impl_ValidBonds list_0).bind fun x7 =>
    if x7 = true then
    ((impl_within presses_1 1 4).bind fun x11 =>
    if x11 = true then
    (some 0)
    else (some 2))
    else (some 1)
noncomputable def slices_Index_int64_int64_l2 (s_0 : (List Int)) (v_1 : Int) (t_8_l2 : Int) : Option (Int ⊕ (Unit ⊕ Int)) :=
  if t_8_l2 < (s_0.length : Int) then
    ((rd s_0 t_8_l2).bind fun x14 =>
    if v_1 = x14 then
    (some (.inr (.inr t_8_l2)))
    else (some (.inl (w64 (t_8_l2 + 1)))))
    else (some (.inr (.inl ())))
noncomputable def slices_Index_int64_int64 (s_0 : (List Int)) (v_1 : Int) : Option Int :=
  (loopO (slices_Index_int64_int64_l2 s_0 v_1) 0).bind fun o => match o with
    | (.inl _) => (some (-1))
    | (.inr r2) => (some r2)
noncomputable def slices_Contains_int64_int64 (s_0 : (List Int)) (v_1 : Int) : Option Bool :=
  (slices_Index_int64_int64 s_0 v_1).bind fun x7 =>
    some (decide (x7 ≥ 0))
noncomputable def impl_gluing_add_k7 (t_12_l3 : Int) (press_7_r7 : Int) : Option ((Int × Int) ⊕ Int) :=
  some (.inl (press_7_r7, (w64 (t_12_l3 + 1))))
noncomputable def impl_gluing_add_l3 (g_0 : S_gluing) (presses_2 : Int) (s : (Int × Int)) : Option ((Int × Int) ⊕ Int) :=
  match s with
    | (press_7_l3, t_12_l3) =>
    if t_12_l3 < presses_2 then
    ((ix 4 t_12_l3).bind fun x19 =>
    (rd ([g_0.free.e0, g_0.free.e1, g_0.free.e2, g_0.free.e3] : List Int) t_12_l3).bind fun x20 =>
    (ix 4 press_7_l3).bind fun x25 =>
    (rd ([g_0.free.e0, g_0.free.e1, g_0.free.e2, g_0.free.e3] : List Int) press_7_l3).bind fun x26 =>
    if x20 < x26 then
    (impl_gluing_add_k7 t_12_l3 t_12_l3)
    else (impl_gluing_add_k7 t_12_l3 press_7_l3))
    else (some (.inr press_7_l3))
noncomputable def impl_gluing_add (g_0 : S_gluing) (b_1 : S_Bond) (presses_2 : Int) : Option (S_glued × S_gluing) :=
  (loopO (impl_gluing_add_l3 g_0 presses_2) (0, 0)).bind fun press_7_e0_3 =>
    (ix 4 press_7_e0_3).bind fun x34 =>
    (rd ([g_0.free.e0, g_0.free.e1, g_0.free.e2, g_0.free.e3] : List Int) press_7_e0_3).bind fun x35 =>
    (ix 4 press_7_e0_3).bind fun x75 =>
    (if press_7_e0_3 = 0 then
    (some ((w64 ((max2 (w64 ((max2 g_0.ready (w64 (x35 - b_1.Open))) + b_1.Spread)) x35) + b_1.Press)), g_0.free.e1, g_0.free.e2, g_0.free.e3))
    else (if press_7_e0_3 = 1 then
    (some (g_0.free.e0, (w64 ((max2 (w64 ((max2 g_0.ready (w64 (x35 - b_1.Open))) + b_1.Spread)) x35) + b_1.Press)), g_0.free.e2, g_0.free.e3))
    else (if press_7_e0_3 = 2 then
    (some (g_0.free.e0, g_0.free.e1, (w64 ((max2 (w64 ((max2 g_0.ready (w64 (x35 - b_1.Open))) + b_1.Spread)) x35) + b_1.Press)), g_0.free.e3))
    else (some (g_0.free.e0, g_0.free.e1, g_0.free.e2, (w64 ((max2 (w64 ((max2 g_0.ready (w64 (x35 - b_1.Open))) + b_1.Spread)) x35) + b_1.Press))))))).bind fun s => match s with
    | (g_o0_1_m13, g_o0_2_m13, g_o0_3_m13, g_o0_4_m13) =>
    some ((⟨(max2 g_0.ready (w64 (x35 - b_1.Open))), press_7_e0_3, (max2 (w64 ((max2 g_0.ready (w64 (x35 - b_1.Open))) + b_1.Spread)) x35), (w64 ((max2 (w64 ((max2 g_0.ready (w64 (x35 - b_1.Open))) + b_1.Spread)) x35) + b_1.Press))⟩ : S_glued), (⟨(w64 ((max2 g_0.ready (w64 (x35 - b_1.Open))) + b_1.Spread)), (⟨g_o0_1_m13, g_o0_2_m13, g_o0_3_m13, g_o0_4_m13⟩ : Ar4_Int), (max2 g_0.end_ (w64 ((max2 (w64 ((max2 g_0.ready (w64 (x35 - b_1.Open))) + b_1.Spread)) x35) + b_1.Press)))⟩ : S_gluing))
noncomputable def impl_glueSearch_run_k16 (self : (S_glueSearch × (List Int) × S_gluing) → Option (Bool × S_glueSearch)) (t_34_l5 : Int) (s_o0_0_r16 : (List S_Bond)) (s_o0_1_r16 : Int) (s_o0_2_r16 : Int) (s_o0_3_r16 : Bool) (s_o0_4_r16 : (List Int)) (s_o0_5_r16 : Int) : Option ((Int × (List S_Bond) × Int × Int × Bool × (List Int) × Int) ⊕ (((List S_Bond) × Int × Int × Bool × (List Int) × Int) ⊕ (Bool × S_glueSearch))) :=
  some (.inl ((w64 (t_34_l5 + 1)), s_o0_0_r16, s_o0_1_r16, s_o0_2_r16, s_o0_3_r16, s_o0_4_r16, s_o0_5_r16))
noncomputable def impl_glueSearch_run_l5 (self : (S_glueSearch × (List Int) × S_gluing) → Option (Bool × S_glueSearch)) (g_2 : S_gluing) (order_1 : (List Int)) (s_0 : S_glueSearch) (s : (Int × (List S_Bond) × Int × Int × Bool × (List Int) × Int)) : Option ((Int × (List S_Bond) × Int × Int × Bool × (List Int) × Int) ⊕ (((List S_Bond) × Int × Int × Bool × (List Int) × Int) ⊕ (Bool × S_glueSearch))) :=
  match s with
    | (t_34_l5, s_o0_0_l5, s_o0_1_l5, s_o0_2_l5, s_o0_3_l5, s_o0_4_l5, s_o0_5_l5) =>
    if t_34_l5 < (s_0.list.length : Int) then
    ((slices_Contains_int64_int64 order_1 t_34_l5).bind fun x39 =>
    if x39 = true then
    (impl_glueSearch_run_k16 self t_34_l5 s_o0_0_l5 s_o0_1_l5 s_o0_2_l5 s_o0_3_l5 s_o0_4_l5 s_o0_5_l5)
    else ((rd s_o0_0_l5 t_34_l5).bind fun x46 =>
    (impl_gluing_add g_2 x46 s_o0_1_l5).bind fun x52 =>
    if (s_o0_3_l5 = true ∧ x52.2.end_ ≥ s_o0_5_l5) then
    (impl_glueSearch_run_k16 self t_34_l5 s_o0_0_l5 s_o0_1_l5 s_o0_2_l5 s_o0_3_l5 s_o0_4_l5 s_o0_5_l5)
    else (if s_o0_2_l5 = 0 then
    (some (.inr (.inr (true, (⟨s_o0_0_l5, s_o0_1_l5, s_o0_2_l5, s_o0_3_l5, s_o0_4_l5, s_o0_5_l5⟩ : S_glueSearch)))))
    else ((apd 8 ([] : List Int) order_1).bind fun x80 =>
    (apd 8 x80 ([t_34_l5] : List Int)).bind fun x83 =>
    (self ((⟨s_o0_0_l5, s_o0_1_l5, (w64 (s_o0_2_l5 - 1)), s_o0_3_l5, s_o0_4_l5, s_o0_5_l5⟩ : S_glueSearch), x83, x52.2)).bind fun x85 =>
    if x85.1 = true then
    (some (.inr (.inr (true, x85.2))))
    else (impl_glueSearch_run_k16 self t_34_l5 x85.2.list x85.2.presses x85.2.left x85.2.found x85.2.best x85.2.least)))))
    else (some (.inr (.inl (s_o0_0_l5, s_o0_1_l5, s_o0_2_l5, s_o0_3_l5, s_o0_4_l5, s_o0_5_l5))))
noncomputable def impl_glueSearch_run_F (self : (S_glueSearch × (List Int) × S_gluing) → Option (Bool × S_glueSearch)) (s_0 : S_glueSearch) (order_1 : (List Int)) (g_2 : S_gluing) : Option (Bool × S_glueSearch) :=
  if (order_1.length : Int) = (s_0.list.length : Int) then
    (some (false, (⟨s_0.list, s_0.presses, s_0.left, true, order_1, g_2.end_⟩ : S_glueSearch)))
    else ((loopO (impl_glueSearch_run_l5 self g_2 order_1 s_0) (0, s_0.list, s_0.presses, s_0.left, s_0.found, s_0.best, s_0.least)).bind fun o => match o with
    | (.inl (s_o0_0_e0_5, s_o0_1_e0_5, s_o0_2_e0_5, s_o0_3_e0_5, s_o0_4_e0_5, s_o0_5_e0_5)) => (some (false, (⟨s_o0_0_e0_5, s_o0_1_e0_5, s_o0_2_e0_5, s_o0_3_e0_5, s_o0_4_e0_5, s_o0_5_e0_5⟩ : S_glueSearch)))
    | (.inr r2) => (some r2))
noncomputable def impl_glueSearch_run (s_0 : S_glueSearch) (order_1 : (List Int)) (g_2 : S_gluing) : Option (Bool × S_glueSearch) := fixO (fun self s => match s with | (s_0, order_1, g_2) => impl_glueSearch_run_F self s_0 order_1 g_2) (s_0, order_1, g_2)
noncomputable def impl_BestGlueOrder_k4 (budget_2 : Int) (list_0 : (List S_Bond)) (presses_1 : Int) (code_9_r4 : Int) : Option ((List Int) × Int × Int) :=
  if code_9_r4 ≠ 0 then
    (some (([] : List Int), 0, code_9_r4))
    else ((impl_glueSearch_run (⟨list_0, presses_1, budget_2, false, ([] : List Int), 0⟩ : S_glueSearch) ([] : List Int) (⟨0, (⟨0, 0, 0, 0⟩ : Ar4_Int), 0⟩ : S_gluing)).bind fun x31 =>
    if x31.1 = true then
    (some (([] : List Int), 0, 5))
    else (some (x31.2.best, x31.2.least, 0)))
noncomputable def impl_BestGlueOrder (list_0 : (List S_Bond)) (presses_1 : Int) (budget_2 : Int) : Option ((List Int) × Int × Int) :=
  (impl_pressCode list_0 presses_1).bind fun x13 =>
    (if x13 = 0 then
    ((impl_within budget_2 1 20000).bind fun x18 =>
    some (!x18))
    else (some false)).bind fun t_20_m2 =>
    if t_20_m2 = true then
    (impl_BestGlueOrder_k4 budget_2 list_0 presses_1 2)
    else (impl_BestGlueOrder_k4 budget_2 list_0 presses_1 x13)
noncomputable def impl_LongestFirst_c1 (i_0 : Int) (k_1 : Int) (cap0_0 : (List S_Bond)) : Option Int :=
  (rd cap0_0 k_1).bind fun x8 =>
    (rd cap0_0 i_0).bind fun x13 =>
    some (w64 (x8.Press - x13.Press))
noncomputable def slices_insertionSortCmpFunc_int64_l4 (a_1 : Int) (cmp_3 : (Int → Int → Option Int)) (s : (Int × (List Int))) : Option ((Int × (List Int)) ⊕ (List Int)) :=
  match s with
    | (j_9_l4, data_o0_l4) =>
    (if j_9_l4 > a_1 then
    ((rd data_o0_l4 j_9_l4).bind fun x25 =>
    (rd data_o0_l4 (w64 (j_9_l4 - 1))).bind fun x30 =>
    (cmp_3 x25 x30).bind fun x32 =>
    some (decide (x32 < 0)))
    else (some false)).bind fun t_34_m4 =>
    if t_34_m4 = true then
    ((rd data_o0_l4 (w64 (j_9_l4 - 1))).bind fun x45 =>
    (rd data_o0_l4 j_9_l4).bind fun x49 =>
    (rd data_o0_l4 j_9_l4).bind fun x51 =>
    (rd (data_o0_l4.set j_9_l4.toNat x45) (w64 (j_9_l4 - 1))).bind fun x52 =>
    some (.inl ((w64 (j_9_l4 - 1)), ((data_o0_l4.set j_9_l4.toNat x45).set ((w64 (j_9_l4 - 1)).toNat) x49))))
    else (some (.inr data_o0_l4))
noncomputable def slices_insertionSortCmpFunc_int64_l1 (a_1 : Int) (b_2 : Int) (cmp_3 : (Int → Int → Option Int)) (s : (Int × (List Int))) : Option ((Int × (List Int)) ⊕ (List Int)) :=
  match s with
    | (i_8_l1, data_o0_l1) =>
    if i_8_l1 < b_2 then
    ((loopO (slices_insertionSortCmpFunc_int64_l4 a_1 cmp_3) (i_8_l1, data_o0_l1)).bind fun data_o0_e2_4 =>
    some (.inl ((w64 (i_8_l1 + 1)), data_o0_e2_4)))
    else (some (.inr data_o0_l1))
noncomputable def slices_insertionSortCmpFunc_int64 (data_0 : (List Int)) (a_1 : Int) (b_2 : Int) (cmp_3 : (Int → Int → Option Int)) : Option (List Int) :=
  (loopO (slices_insertionSortCmpFunc_int64_l1 a_1 b_2 cmp_3) ((w64 (a_1 + 1)), data_0)).bind fun r2 =>
    some r2
noncomputable def slices_swapRangeCmpFunc_int64_l1 (a_1 : Int) (b_2 : Int) (n_3 : Int) (s : (Int × (List Int))) : Option ((Int × (List Int)) ⊕ (List Int)) :=
  match s with
    | (i_10_l1, data_o0_l1) =>
    if i_10_l1 < n_3 then
    ((rd data_o0_l1 (w64 (b_2 + i_10_l1))).bind fun x28 =>
    (rd data_o0_l1 (w64 (a_1 + i_10_l1))).bind fun x34 =>
    (rd data_o0_l1 (w64 (a_1 + i_10_l1))).bind fun x36 =>
    (rd (data_o0_l1.set ((w64 (a_1 + i_10_l1)).toNat) x28) (w64 (b_2 + i_10_l1))).bind fun x37 =>
    some (.inl ((w64 (i_10_l1 + 1)), ((data_o0_l1.set ((w64 (a_1 + i_10_l1)).toNat) x28).set ((w64 (b_2 + i_10_l1)).toNat) x34))))
    else (some (.inr data_o0_l1))
noncomputable def slices_swapRangeCmpFunc_int64 (data_0 : (List Int)) (a_1 : Int) (b_2 : Int) (n_3 : Int) (cmp_4 : (Int → Int → Option Int)) : Option (List Int) :=
  (loopO (slices_swapRangeCmpFunc_int64_l1 a_1 b_2 n_3) (0, data_0)).bind fun r2 =>
    some r2
noncomputable def slices_rotateCmpFunc_int64_l2 (cmp_4 : (Int → Int → Option Int)) (m_2 : Int) (s : (Int × Int × (List Int))) : Option ((Int × Int × (List Int)) ⊕ (Int × (List Int))) :=
  match s with
    | (i_10_l2, j_11_l2, data_o0_l2) =>
    if i_10_l2 ≠ j_11_l2 then
    (if i_10_l2 > j_11_l2 then
    ((slices_swapRangeCmpFunc_int64 data_o0_l2 (w64 (m_2 - i_10_l2)) m_2 j_11_l2 cmp_4).bind fun x31 =>
    some (.inl ((w64 (i_10_l2 - j_11_l2)), j_11_l2, x31)))
    else ((slices_swapRangeCmpFunc_int64 data_o0_l2 (w64 (m_2 - i_10_l2)) (w64 ((w64 (m_2 + j_11_l2)) - i_10_l2)) i_10_l2 cmp_4).bind fun x46 =>
    some (.inl (i_10_l2, (w64 (j_11_l2 - i_10_l2)), x46))))
    else (some (.inr (i_10_l2, data_o0_l2)))
noncomputable def slices_rotateCmpFunc_int64 (data_0 : (List Int)) (a_1 : Int) (m_2 : Int) (b_3 : Int) (cmp_4 : (Int → Int → Option Int)) : Option (List Int) :=
  (loopO (slices_rotateCmpFunc_int64_l2 cmp_4 m_2) ((w64 (m_2 - a_1)), (w64 (b_3 - m_2)), data_0)).bind fun o => match o with
    | (i_10_e0_2, data_o0_e0_2) =>
    (slices_swapRangeCmpFunc_int64 data_o0_e0_2 (w64 (m_2 - i_10_e0_2)) m_2 i_10_e0_2 cmp_4).bind fun x57 =>
    some x57
noncomputable def slices_symMergeCmpFunc_int64_l9 (self : ((List Int) × Int × Int × Int × (Int → Int → Option Int)) → Option (List Int)) (i_10_e0_3 : Int) (s : (Int × (List Int))) : Option ((Int × (List Int)) ⊕ (List Int)) :=
  match s with
    | (k_13_l9, data_o0_l9) =>
    if k_13_l9 < (w64 (i_10_e0_3 - 1)) then
    ((rd data_o0_l9 (w64 (k_13_l9 + 1))).bind fun x69 =>
    (rd data_o0_l9 k_13_l9).bind fun x73 =>
    (rd data_o0_l9 k_13_l9).bind fun x75 =>
    (rd (data_o0_l9.set k_13_l9.toNat x69) (w64 (k_13_l9 + 1))).bind fun x76 =>
    some (.inl ((w64 (k_13_l9 + 1)), ((data_o0_l9.set k_13_l9.toNat x69).set ((w64 (k_13_l9 + 1)).toNat) x73))))
    else (some (.inr data_o0_l9))
noncomputable def slices_symMergeCmpFunc_int64_l3 (self : ((List Int) × Int × Int × Int × (Int → Int → Option Int)) → Option (List Int)) (a_1 : Int) (cmp_4 : (Int → Int → Option Int)) (data_0 : (List Int)) (s : (Int × Int)) : Option ((Int × Int) ⊕ Int) :=
  match s with
    | (i_10_l3, j_11_l3) =>
    if i_10_l3 < j_11_l3 then
    ((shr .u64 (IntKind.wrap .u64 ((w64 (i_10_l3 + j_11_l3)))) 1).bind fun x38 =>
    (rd data_0 (w64 (x38))).bind fun x43 =>
    (rd data_0 a_1).bind fun x47 =>
    (cmp_4 x43 x47).bind fun x49 =>
    if x49 < 0 then
    (some (.inl ((w64 ((w64 (x38)) + 1)), j_11_l3)))
    else (some (.inl (i_10_l3, (w64 (x38))))))
    else (some (.inr i_10_l3))
noncomputable def slices_symMergeCmpFunc_int64_l21 (self : ((List Int) × Int × Int × Int × (Int → Int → Option Int)) → Option (List Int)) (i_14_e4_15 : Int) (s : (Int × (List Int))) : Option ((Int × (List Int)) ⊕ (List Int)) :=
  match s with
    | (k_17_l21, data_o0_l21) =>
    if k_17_l21 > i_14_e4_15 then
    ((rd data_o0_l21 (w64 (k_17_l21 - 1))).bind fun x121 =>
    (rd data_o0_l21 k_17_l21).bind fun x125 =>
    (rd data_o0_l21 k_17_l21).bind fun x127 =>
    (rd (data_o0_l21.set k_17_l21.toNat x121) (w64 (k_17_l21 - 1))).bind fun x128 =>
    some (.inl ((w64 (k_17_l21 - 1)), ((data_o0_l21.set k_17_l21.toNat x121).set ((w64 (k_17_l21 - 1)).toNat) x125))))
    else (some (.inr data_o0_l21))
noncomputable def slices_symMergeCmpFunc_int64_l15 (self : ((List Int) × Int × Int × Int × (Int → Int → Option Int)) → Option (List Int)) (cmp_4 : (Int → Int → Option Int)) (data_0 : (List Int)) (m_2 : Int) (s : (Int × Int)) : Option ((Int × Int) ⊕ Int) :=
  match s with
    | (i_14_l15, j_15_l15) =>
    if i_14_l15 < j_15_l15 then
    ((shr .u64 (IntKind.wrap .u64 ((w64 (i_14_l15 + j_15_l15)))) 1).bind fun x90 =>
    (rd data_0 m_2).bind fun x95 =>
    (rd data_0 (w64 (x90))).bind fun x99 =>
    (cmp_4 x95 x99).bind fun x101 =>
    if x101 < 0 then
    (some (.inl (i_14_l15, (w64 (x90)))))
    else (some (.inl ((w64 ((w64 (x90)) + 1)), j_15_l15))))
    else (some (.inr i_14_l15))
noncomputable def slices_symMergeCmpFunc_int64_k43 (self : ((List Int) × Int × Int × Int × (Int → Int → Option Int)) → Option (List Int)) (b_3 : Int) (cmp_4 : (Int → Int → Option Int)) (m_2 : Int) (start_20_e8_33 : Int) (x133 : Int) (data_o0_r43 : (List Int)) : Option (List Int) :=
  if ((w64 (x133)) < (w64 ((w64 ((w64 (x133)) + m_2)) - start_20_e8_33)) ∧ (w64 ((w64 ((w64 (x133)) + m_2)) - start_20_e8_33)) < b_3) then
    ((self (data_o0_r43, (w64 (x133)), (w64 ((w64 ((w64 (x133)) + m_2)) - start_20_e8_33)), b_3, cmp_4)).bind fun x219 =>
    some x219)
    else (some data_o0_r43)
noncomputable def slices_symMergeCmpFunc_int64_k41 (self : ((List Int) × Int × Int × Int × (Int → Int → Option Int)) → Option (List Int)) (a_1 : Int) (b_3 : Int) (cmp_4 : (Int → Int → Option Int)) (m_2 : Int) (start_20_e8_33 : Int) (x133 : Int) (data_o0_r41 : (List Int)) : Option (List Int) :=
  if (a_1 < start_20_e8_33 ∧ start_20_e8_33 < (w64 (x133))) then
    ((self (data_o0_r41, a_1, start_20_e8_33, (w64 (x133)), cmp_4)).bind fun x205 =>
    slices_symMergeCmpFunc_int64_k43 self b_3 cmp_4 m_2 start_20_e8_33 x133 x205)
    else (slices_symMergeCmpFunc_int64_k43 self b_3 cmp_4 m_2 start_20_e8_33 x133 data_o0_r41)
noncomputable def slices_symMergeCmpFunc_int64_l33 (self : ((List Int) × Int × Int × Int × (Int → Int → Option Int)) → Option (List Int)) (cmp_4 : (Int → Int → Option Int)) (data_0 : (List Int)) (m_2 : Int) (x133 : Int) (s : (Int × Int)) : Option ((Int × Int) ⊕ Int) :=
  match s with
    | (start_20_l33, r_21_l33) =>
    if start_20_l33 < r_21_l33 then
    ((shr .u64 (IntKind.wrap .u64 ((w64 (start_20_l33 + r_21_l33)))) 1).bind fun x156 =>
    (rd data_0 (w64 ((w64 ((w64 ((w64 (x133)) + m_2)) - 1)) - (w64 (x156))))).bind fun x163 =>
    (rd data_0 (w64 (x156))).bind fun x167 =>
    (cmp_4 x163 x167).bind fun x169 =>
    if x169 < 0 then
    (some (.inl (start_20_l33, (w64 (x156)))))
    else (some (.inl ((w64 ((w64 (x156)) + 1)), r_21_l33))))
    else (some (.inr start_20_l33))
noncomputable def slices_symMergeCmpFunc_int64_k32 (self : ((List Int) × Int × Int × Int × (Int → Int → Option Int)) → Option (List Int)) (a_1 : Int) (b_3 : Int) (cmp_4 : (Int → Int → Option Int)) (data_0 : (List Int)) (m_2 : Int) (x133 : Int) (start_20_r32 : Int) (r_21_r32 : Int) : Option (List Int) :=
  (loopO (slices_symMergeCmpFunc_int64_l33 self cmp_4 data_0 m_2 x133) (start_20_r32, r_21_r32)).bind fun start_20_e8_33 =>
    if (start_20_e8_33 < m_2 ∧ m_2 < (w64 ((w64 ((w64 (x133)) + m_2)) - start_20_e8_33))) then
    ((slices_rotateCmpFunc_int64 data_0 start_20_e8_33 m_2 (w64 ((w64 ((w64 (x133)) + m_2)) - start_20_e8_33)) cmp_4).bind fun x191 =>
    slices_symMergeCmpFunc_int64_k41 self a_1 b_3 cmp_4 m_2 start_20_e8_33 x133 x191)
    else (slices_symMergeCmpFunc_int64_k41 self a_1 b_3 cmp_4 m_2 start_20_e8_33 x133 data_0)
noncomputable def slices_symMergeCmpFunc_int64_F (self : ((List Int) × Int × Int × Int × (Int → Int → Option Int)) → Option (List Int)) (data_0 : (List Int)) (a_1 : Int) (m_2 : Int) (b_3 : Int) (cmp_4 : (Int → Int → Option Int)) : Option (List Int) :=
  if (w64 (m_2 - a_1)) = 1 then
    ((loopO (slices_symMergeCmpFunc_int64_l3 self a_1 cmp_4 data_0) (m_2, b_3)).bind fun i_10_e0_3 =>
    (loopO (slices_symMergeCmpFunc_int64_l9 self i_10_e0_3) (a_1, data_0)).bind fun r2 =>
    some r2)
    else (if (w64 (b_3 - m_2)) = 1 then
    ((loopO (slices_symMergeCmpFunc_int64_l15 self cmp_4 data_0 m_2) (a_1, m_2)).bind fun i_14_e4_15 =>
    (loopO (slices_symMergeCmpFunc_int64_l21 self i_14_e4_15) (m_2, data_0)).bind fun r2 =>
    some r2)
    else ((shr .u64 (IntKind.wrap .u64 ((w64 (a_1 + b_3)))) 1).bind fun x133 =>
    if m_2 > (w64 (x133)) then
    (slices_symMergeCmpFunc_int64_k32 self a_1 b_3 cmp_4 data_0 m_2 x133 (w64 ((w64 ((w64 (x133)) + m_2)) - b_3)) (w64 (x133)))
    else (slices_symMergeCmpFunc_int64_k32 self a_1 b_3 cmp_4 data_0 m_2 x133 a_1 m_2)))
noncomputable def slices_symMergeCmpFunc_int64 (data_0 : (List Int)) (a_1 : Int) (m_2 : Int) (b_3 : Int) (cmp_4 : (Int → Int → Option Int)) : Option (List Int) := fixO (fun self s => match s with | (data_0, a_1, m_2, b_3, cmp_4) => slices_symMergeCmpFunc_int64_F self data_0 a_1 m_2 b_3 cmp_4) (data_0, a_1, m_2, b_3, cmp_4)
noncomputable def slices_stableCmpFunc_int64_k16 (blockSize_6_l7 : Int) (data_o0_r16 : (List Int)) : Option ((Int × (List Int)) ⊕ (List Int)) :=
  some (.inl ((w64 (blockSize_6_l7 * 2)), data_o0_r16))
noncomputable def slices_stableCmpFunc_int64_l9 (blockSize_6_l7 : Int) (cmp_2 : (Int → Int → Option Int)) (n_1 : Int) (s : (Int × Int × (List Int))) : Option ((Int × Int × (List Int)) ⊕ (Int × (List Int))) :=
  match s with
    | (a_7_l9, b_8_l9, data_o0_l9) =>
    if b_8_l9 ≤ n_1 then
    ((slices_symMergeCmpFunc_int64 data_o0_l9 a_7_l9 (w64 (a_7_l9 + blockSize_6_l7)) b_8_l9 cmp_2).bind fun x43 =>
    some (.inl (b_8_l9, (w64 (b_8_l9 + (w64 (2 * blockSize_6_l7)))), x43)))
    else (some (.inr (a_7_l9, data_o0_l9)))
noncomputable def slices_stableCmpFunc_int64_l7 (cmp_2 : (Int → Int → Option Int)) (n_1 : Int) (s : (Int × (List Int))) : Option ((Int × (List Int)) ⊕ (List Int)) :=
  match s with
    | (blockSize_6_l7, data_o0_l7) =>
    if blockSize_6_l7 < n_1 then
    ((loopO (slices_stableCmpFunc_int64_l9 blockSize_6_l7 cmp_2 n_1) (0, (w64 (2 * blockSize_6_l7)), data_o0_l7)).bind fun o => match o with
    | (a_7_e4_9, data_o0_e4_9) =>
    if (w64 (a_7_e4_9 + blockSize_6_l7)) < n_1 then
    ((slices_symMergeCmpFunc_int64 data_o0_e4_9 a_7_e4_9 (w64 (a_7_e4_9 + blockSize_6_l7)) n_1 cmp_2).bind fun x60 =>
    slices_stableCmpFunc_int64_k16 blockSize_6_l7 x60)
    else (slices_stableCmpFunc_int64_k16 blockSize_6_l7 data_o0_e4_9))
    else (some (.inr data_o0_l7))
noncomputable def slices_stableCmpFunc_int64_l2 (cmp_2 : (Int → Int → Option Int)) (n_1 : Int) (s : (Int × Int × (List Int))) : Option ((Int × Int × (List Int)) ⊕ (Int × (List Int))) :=
  match s with
    | (a_7_l2, b_8_l2, data_o0_l2) =>
    if b_8_l2 ≤ n_1 then
    ((slices_insertionSortCmpFunc_int64 data_o0_l2 a_7_l2 b_8_l2 cmp_2).bind fun x18 =>
    some (.inl (b_8_l2, (w64 (b_8_l2 + 20)), x18)))
    else (some (.inr (a_7_l2, data_o0_l2)))
noncomputable def slices_stableCmpFunc_int64 (data_0 : (List Int)) (n_1 : Int) (cmp_2 : (Int → Int → Option Int)) : Option (List Int) :=
  (loopO (slices_stableCmpFunc_int64_l2 cmp_2 n_1) (0, 20, data_0)).bind fun o => match o with
    | (a_7_e0_2, data_o0_e0_2) =>
    (slices_insertionSortCmpFunc_int64 data_o0_e0_2 a_7_e0_2 n_1 cmp_2).bind fun x27 =>
    (loopO (slices_stableCmpFunc_int64_l7 cmp_2 n_1) (20, x27)).bind fun r2 =>
    some r2
noncomputable def slices_SortStableFunc_int64_int64 (x_0 : (List Int)) (cmp_1 : (Int → Int → Option Int)) : Option (List Int) :=
  (slices_stableCmpFunc_int64 x_0 (x_0.length : Int) cmp_1).bind fun x8 =>
    some x8
noncomputable def impl_glueAll_l3 (list_0 : (List S_Bond)) (order_1 : (List Int)) (presses_2 : Int) (s : (Int × Int × Int × Int × Int × Int × Int × (List S_glued))) : Option ((Int × Int × Int × Int × Int × Int × Int × (List S_glued)) ⊕ (Int × Int × Int × Int × Int × Int × (List S_glued))) :=
  match s with
    | (t_18_l3, g_o8_0_l3, g_o8_1_l3, g_o8_2_l3, g_o8_3_l3, g_o8_4_l3, g_o8_5_l3, out_o9_l3) =>
    if t_18_l3 < (order_1.length : Int) then
    ((rd order_1 t_18_l3).bind fun x20 =>
    (rd list_0 x20).bind fun x26 =>
    (impl_gluing_add (⟨g_o8_0_l3, (⟨g_o8_1_l3, g_o8_2_l3, g_o8_3_l3, g_o8_4_l3⟩ : Ar4_Int), g_o8_5_l3⟩ : S_gluing) x26 presses_2).bind fun x29 =>
    (rd out_o9_l3 x20).bind fun x30 =>
    some (.inl ((w64 (t_18_l3 + 1)), x29.2.ready, x29.2.free.e0, x29.2.free.e1, x29.2.free.e2, x29.2.free.e3, x29.2.end_, (out_o9_l3.set x20.toNat x29.1))))
    else (some (.inr (g_o8_0_l3, g_o8_1_l3, g_o8_2_l3, g_o8_3_l3, g_o8_4_l3, g_o8_5_l3, out_o9_l3)))
noncomputable def impl_glueAll (list_0 : (List S_Bond)) (order_1 : (List Int)) (presses_2 : Int) : Option ((List S_glued) × Int) :=
  (mkl 32 (list_0.length : Int) (⟨0, 0, 0, 0⟩ : S_glued)).bind fun x15 =>
    (loopO (impl_glueAll_l3 list_0 order_1 presses_2) (0, 0, 0, 0, 0, 0, 0, x15)).bind fun o => match o with
    | (g_o8_0_e0_3, g_o8_1_e0_3, g_o8_2_e0_3, g_o8_3_e0_3, g_o8_4_e0_3, g_o8_5_e0_3, out_o9_e0_3) =>
    some (out_o9_e0_3, g_o8_5_e0_3)
noncomputable def impl_LongestFirst_l6 (list_0 : (List S_Bond)) (s : (Int × (List Int))) : Option ((Int × (List Int)) ⊕ (List Int)) :=
  match s with
    | (t_21_l6, order_o8_l6) =>
    if t_21_l6 < (list_0.length : Int) then
    ((apd 8 order_o8_l6 ([t_21_l6] : List Int)).bind fun x27 =>
    some (.inl ((w64 (t_21_l6 + 1)), x27)))
    else (some (.inr order_o8_l6))
noncomputable def impl_LongestFirst (list_0 : (List S_Bond)) (presses_1 : Int) : Option ((List Int) × Int × Int) :=
  (impl_pressCode list_0 presses_1).bind fun x14 =>
    if x14 ≠ 0 then
    (some (([] : List Int), 0, x14))
    else ((loopO (impl_LongestFirst_l6 list_0) (0, ([] : List Int))).bind fun order_o8_e0_6 =>
    (slices_SortStableFunc_int64_int64 order_o8_e0_6 (fun a0 a1 => impl_LongestFirst_c1 a0 a1 list_0)).bind fun x31 =>
    (impl_glueAll list_0 x31 presses_1).bind fun x36 =>
    some (x31, x36.2, 0))
noncomputable def impl_isOrder_l5 (n_1 : Int) (order_0 : (List Int)) (s : (Int × (List Bool))) : Option ((Int × (List Bool)) ⊕ (Unit ⊕ Bool)) :=
  match s with
    | (t_16_l5, met_o5_l5) =>
    if t_16_l5 < (order_0.length : Int) then
    ((rd order_0 t_16_l5).bind fun x18 =>
    (impl_within x18 0 (w64 (n_1 - 1))).bind fun x23 =>
    (if x23 = true then
    ((rd met_o5_l5 x18).bind fun x28 =>
    some x28)
    else (some true)).bind fun t_30_m7 =>
    if t_30_m7 = true then
    (some (.inr (.inr false)))
    else ((rd met_o5_l5 x18).bind fun x33 =>
    some (.inl ((w64 (t_16_l5 + 1)), (met_o5_l5.set x18.toNat true)))))
    else (some (.inr (.inl ())))
noncomputable def impl_isOrder (order_0 : (List Int)) (n_1 : Int) : Option Bool :=
  if (order_0.length : Int) ≠ n_1 then
    (some false)
    else ((mkl 1 n_1 false).bind fun x13 =>
    (loopO (impl_isOrder_l5 n_1 order_0) (0, x13)).bind fun o => match o with
    | (.inl _) => (some true)
    | (.inr r2) => (some r2))
noncomputable def impl_glueCode (list_0 : (List S_Bond)) (order_1 : (List Int)) (presses_2 : Int) : Option Int :=
  (impl_ValidBonds list_0).bind fun x9 =>
    if x9 = true then
    ((impl_within presses_2 1 4).bind fun x13 =>
    (if x13 = true then
    ((impl_isOrder order_1 (list_0.length : Int)).bind fun x19 =>
    some (!x19))
    else (some true)).bind fun t_11_m3 =>
    if t_11_m3 = true then
    (some 2)
    else (some 0))
    else (some 1)
noncomputable def impl_GlueEnd (list_0 : (List S_Bond)) (order_1 : (List Int)) (presses_2 : Int) : Option (Int × Int) :=
  (impl_glueCode list_0 order_1 presses_2).bind fun x14 =>
    if x14 ≠ 0 then
    (some (0, x14))
    else ((impl_glueAll list_0 order_1 presses_2).bind fun x22 =>
    some (x22.2, 0))
noncomputable def impl_OpenWaste_l7 (list_0 : (List S_Bond)) (x25 : ((List S_glued) × Int)) (s : (Int × Int)) : Option ((Int × Int) ⊕ Int) :=
  match s with
    | (sum_11_l7, t_30_l7) =>
    if t_30_l7 < (x25.1.length : Int) then
    ((rd x25.1 t_30_l7).bind fun x33 =>
    (rd list_0 t_30_l7).bind fun x43 =>
    some (.inl ((w64 (sum_11_l7 + (w64 ((w64 (x33.begin - x33.start)) - x43.Spread)))), (w64 (t_30_l7 + 1)))))
    else (some (.inr sum_11_l7))
noncomputable def impl_OpenWaste (list_0 : (List S_Bond)) (order_1 : (List Int)) (presses_2 : Int) : Option (Int × Int) :=
  (impl_glueCode list_0 order_1 presses_2).bind fun x17 =>
    if x17 ≠ 0 then
    (some (0, x17))
    else ((impl_glueAll list_0 order_1 presses_2).bind fun x25 =>
    (loopO (impl_OpenWaste_l7 list_0 x25) (0, 0)).bind fun sum_11_e0_7 =>
    some (sum_11_e0_7, 0))
noncomputable def spec_l24Draw_k17 (x13 : ((List S_Bond) × S_l00Src)) (x58 : (Bool × S_l00Src)) (order_o6_r17 : (List Int)) : Option ((List S_Bond) × (List Int) × Int × S_l00Src) :=
  (spec_l24DrawPresses x58.2).bind fun x65 =>
    some (x13.1, order_o6_r17, x65.1, x65.2)
noncomputable def spec_l24Draw_l9 (x13 : ((List S_Bond) × S_l00Src)) (s : (Int × (List Int) × Int × Int × (List Int))) : Option ((Int × (List Int) × Int × Int × (List Int)) ⊕ ((List Int) × Int × Int × (List Int))) :=
  match s with
    | (k_9_l9, s_o0_0_l9, s_o0_1_l9, s_o0_2_l9, order_o6_l9) =>
    if (k_9_l9 > 0 ∧ (x13.1.length : Int) > 1) then
    ((spec_l00Src_pick (⟨s_o0_0_l9, s_o0_1_l9, s_o0_2_l9⟩ : S_l00Src) (w64 ((x13.1.length : Int) - 1))).bind fun x39 =>
    (rd order_o6_l9 x39.1).bind fun x42 =>
    (rd order_o6_l9 (w64 (x39.1 + 1))).bind fun x49 =>
    (rd order_o6_l9 x39.1).bind fun x51 =>
    (rd (order_o6_l9.set x39.1.toNat x49) (w64 (x39.1 + 1))).bind fun x56 =>
    some (.inl ((w64 (k_9_l9 - 1)), x39.2.code, x39.2.at_, x39.2.seed, ((order_o6_l9.set x39.1.toNat x49).set ((w64 (x39.1 + 1)).toNat) x42))))
    else (some (.inr (s_o0_0_l9, s_o0_1_l9, s_o0_2_l9, order_o6_l9)))
noncomputable def spec_l24Draw_l5 (x13 : ((List S_Bond) × S_l00Src)) (s : (Int × (List Int))) : Option ((Int × (List Int)) ⊕ (List Int)) :=
  match s with
    | (k_8_l5, order_o6_l5) =>
    if k_8_l5 < (x13.1.length : Int) then
    ((apd 8 order_o6_l5 ([k_8_l5] : List Int)).bind fun x25 =>
    some (.inl ((w64 (k_8_l5 + 1)), x25)))
    else (some (.inr order_o6_l5))
noncomputable def spec_l24Draw (s_0 : S_l00Src) : Option ((List S_Bond) × (List Int) × Int × S_l00Src) :=
  (spec_l24DrawList s_0).bind fun x13 =>
    (loopO (spec_l24Draw_l5 x13) (0, ([] : List Int))).bind fun order_o6_e0_5 =>
    (spec_l00Src_pick x13.2 4).bind fun x27 =>
    (loopO (spec_l24Draw_l9 x13) (x27.1, x27.2.code, x27.2.at_, x27.2.seed, order_o6_e0_5)).bind fun o => match o with
    | (s_o0_0_e2_9, s_o0_1_e2_9, s_o0_2_e2_9, order_o6_e2_9) =>
    (spec_l00Src_one (⟨s_o0_0_e2_9, s_o0_1_e2_9, s_o0_2_e2_9⟩ : S_l00Src) 10).bind fun x58 =>
    if x58.1 = true then
    ((apd 8 order_o6_e2_9 ([0] : List Int)).bind fun x61 =>
    spec_l24Draw_k17 x13 x58 x61)
    else (spec_l24Draw_k17 x13 x58 order_o6_e2_9)
noncomputable def spec_DrawPressesFor (code_0 : (List Int)) : Option ((List S_Bond) × (List Int) × Int) :=
  (spec_l00From code_0).bind fun x10 =>
    (spec_l24Draw x10).bind fun x13 =>
    (spec_l00Src_among x13.2.2.2 ([(-1), 0, 40, 90, 150, 400] : List Int)).bind fun x21 =>
    some (x13.1, x13.2.1, x21.1)
noncomputable def impl_PressesFor_l7 (latest_2 : Int) (list_0 : (List S_Bond)) (order_1 : (List Int)) (presses_9_l7 : Int) : Option (Int ⊕ (Unit ⊕ (Int × Int))) :=
  if presses_9_l7 ≤ 4 then
    ((impl_glueAll list_0 order_1 presses_9_l7).bind fun x32 =>
    if x32.2 ≤ latest_2 then
    (some (.inr (.inr (presses_9_l7, 0))))
    else (some (.inl (w64 (presses_9_l7 + 1)))))
    else (some (.inr (.inl ())))
noncomputable def impl_PressesFor_k4 (latest_2 : Int) (list_0 : (List S_Bond)) (order_1 : (List Int)) (code_8_r4 : Int) : Option (Int × Int) :=
  if code_8_r4 ≠ 0 then
    (some (0, code_8_r4))
    else ((loopO (impl_PressesFor_l7 latest_2 list_0 order_1) 1).bind fun o => match o with
    | (.inl _) => (some (0, 3))
    | (.inr r2) => (some r2))
noncomputable def impl_PressesFor (list_0 : (List S_Bond)) (order_1 : (List Int)) (latest_2 : Int) : Option (Int × Int) :=
  (impl_glueCode list_0 order_1 1).bind fun x14 =>
    if (x14 = 0 ∧ latest_2 < 0) then
    (impl_PressesFor_k4 latest_2 list_0 order_1 2)
    else (impl_PressesFor_k4 latest_2 list_0 order_1 x14)
noncomputable def laws_FnGlueOrder (code_0 : (List Int)) (more_1 : (List Int)) : Option Bool :=
  (laws_b10Long code_0).bind fun x30 =>
    (if x30 = true then
    (some true)
    else ((laws_b10Long more_1).bind fun x33 =>
    some x33)).bind fun t_34_m1 =>
    if t_34_m1 = true then
    (some true)
    else ((spec_DrawBestGlueOrder code_0).bind fun x37 =>
    (impl_BestGlueOrder x37.1 x37.2.1 x37.2.2).bind fun x45 =>
    (impl_LongestFirst x37.1 x37.2.1).bind fun x52 =>
    if x45.2.2 ≠ 0 then
    (some (((x45.1.length : Int) == 0) && (x45.2.1 == 0)))
    else ((impl_GlueEnd x37.1 x45.1 x37.2.1).bind fun x69 =>
    (impl_GlueEnd x37.1 x52.1 x37.2.1).bind fun x76 =>
    (impl_OpenWaste x37.1 x45.1 x37.2.1).bind fun x83 =>
    if (x52.2.2 ≠ 0 ∨ (x69.2 ≠ 0 ∨ (x69.1 ≠ x45.2.1 ∨ (x76.2 ≠ 0 ∨ (x76.1 ≠ x52.2.1 ∨ (x45.2.1 > x52.2.1 ∨ (x83.2 ≠ 0 ∨ x83.1 < 0))))))) then
    (some false)
    else ((spec_DrawPressesFor more_1).bind fun x121 =>
    (impl_PressesFor x121.1 x121.2.1 x121.2.2).bind fun x129 =>
    if x129.2 ≠ 0 then
    (some (x129.1 == 0))
    else ((impl_GlueEnd x121.1 x121.2.1 x129.1).bind fun x140 =>
    if (x140.2 ≠ 0 ∨ x140.1 > x121.2.2) then
    (some false)
    else (if x129.1 = 1 then
    (some true)
    else ((impl_GlueEnd x121.1 x121.2.1 (w64 (x129.1 - 1))).bind fun x157 =>
    some ((x157.2 == 0) && (decide (x157.1 > x121.2.2)))))))))

end Go.Pw
