/- Plain functions that answer what the program's functions answer. Conditions: none; definitions alone. -/
import Derived.Test.YtigjhjlkdamncaaSimPw
namespace Go.Pw
open Go.Sim (min2 max2)
set_option linter.unusedVariables false
def bit_and (k : IntKind) (a b : Int) : Int := k.wrap (BitVec.ofInt k.bits a &&& BitVec.ofInt k.bits b).toNat

structure S_Room where
  Width : Int
  Length : Int

structure S_Stock where
  Board : Int
  Wide : Int
  Least : Int
  Stagger : Int

structure S_l00Src where
  code : (List Int)
  at_ : Int
  seed : Int

structure S_floorSearch where
  room : S_Room
  stock : S_Stock
  step : Int
  rows : Int
  left : Int
  found : Bool
  best : (List Int)
  least : Int

structure S_row where
  pieces : (List Int)
  joints : (List Int)
  last : Int

noncomputable def laws_b10Long (code_0 : (List Int)) : Option Bool :=
  some (decide ((code_0.length : Int) > 1048576))
noncomputable def spec_l00From (code_0 : (List Int)) : Option S_l00Src :=
  some (⟨code_0, 0, 0⟩ : S_l00Src)
noncomputable def spec_l00Src_next_k4 (s_0 : S_l00Src) (b_3_r4 : Int) : Option (Int × S_l00Src) :=
  if (w64 (s_0.at_ + 1)) ≤ (s_0.code.length : Int) then
    (some (b_3_r4, (⟨s_0.code, (w64 (s_0.at_ + 1)), (IntKind.wrap .u64 ((IntKind.wrap .u64 ((IntKind.wrap .u64 (s_0.seed * 6364136223846793005)) + (IntKind.wrap .u64 (b_3_r4)))) + 1442695040888963407))⟩ : S_l00Src)))
    else ((shr .u64 (IntKind.wrap .u64 ((IntKind.wrap .u64 ((IntKind.wrap .u64 (s_0.seed * 6364136223846793005)) + (IntKind.wrap .u64 (b_3_r4)))) + 1442695040888963407)) 40).bind fun x59 =>
    some ((w64 ((bit_and .u64 x59 255))), (⟨s_0.code, (w64 (s_0.at_ + 1)), (IntKind.wrap .u64 ((IntKind.wrap .u64 ((IntKind.wrap .u64 (s_0.seed * 6364136223846793005)) + (IntKind.wrap .u64 (b_3_r4)))) + 1442695040888963407))⟩ : S_l00Src)))
noncomputable def spec_l00Src_next (s_0 : S_l00Src) : Option (Int × S_l00Src) :=
  if s_0.at_ < (s_0.code.length : Int) then
    ((rd s_0.code s_0.at_).bind fun x22 =>
    spec_l00Src_next_k4 s_0 (w64 (x22)))
    else (spec_l00Src_next_k4 s_0 0)
noncomputable def spec_l00Src_pick_k6 (n_1 : Int) (x_5_r6 : Int) (s_o0_0_r6 : (List Int)) (s_o0_1_r6 : Int) (s_o0_2_r6 : Int) : Option (Int × S_l00Src) :=
  (md x_5_r6 n_1).bind fun x19 =>
    some (x19, (⟨s_o0_0_r6, s_o0_1_r6, s_o0_2_r6⟩ : S_l00Src))
noncomputable def spec_l00Src_pick (s_0 : S_l00Src) (n_1 : Int) : Option (Int × S_l00Src) :=
  if n_1 ≤ 1 then
    (some (0, s_0))
    else ((spec_l00Src_next s_0).bind fun x9 =>
    if n_1 > 200 then
    ((spec_l00Src_next x9.2).bind fun x15 =>
    spec_l00Src_pick_k6 n_1 (w64 ((w64 (x9.1 * 256)) + x15.1)) x15.2.code x15.2.at_ x15.2.seed)
    else (spec_l00Src_pick_k6 n_1 x9.1 x9.2.code x9.2.at_ x9.2.seed))
noncomputable def spec_l00Src_among (s_0 : S_l00Src) (list_1 : (List Int)) : Option (Int × S_l00Src) :=
  (spec_l00Src_pick s_0 (list_1.length : Int)).bind fun x9 =>
    (rd list_1 x9.1).bind fun x10 =>
    some (x10, x9.2)
noncomputable def spec_l30DrawRoom_k8 (s_o0_0_r8 : (List Int)) (s_o0_1_r8 : Int) (s_o0_2_r8 : Int) (r_o3_0_r8 : Int) (r_o3_1_r8 : Int) : Option (S_Room × S_l00Src) :=
  some ((⟨r_o3_0_r8, r_o3_1_r8⟩ : S_Room), (⟨s_o0_0_r8, s_o0_1_r8, s_o0_2_r8⟩ : S_l00Src))
noncomputable def spec_l30DrawRoom (s_0 : S_l00Src) : Option (S_Room × S_l00Src) :=
  (spec_l00Src_pick s_0 400).bind fun x5 =>
    (spec_l00Src_pick x5.2 80).bind fun x9 =>
    (spec_l00Src_pick x9.2 24).bind fun x13 =>
    if x13.1 = 0 then
    ((spec_l00Src_among x13.2 ([0, 1, 20000, 20001] : List Int)).bind fun x18 =>
    spec_l30DrawRoom_k8 x18.2.code x18.2.at_ x18.2.seed x18.1 (w64 (10 + x9.1)))
    else (if x13.1 = 1 then
    ((spec_l00Src_among x13.2 ([0, 1, 400, 401, 20001] : List Int)).bind fun x24 =>
    spec_l30DrawRoom_k8 x24.2.code x24.2.at_ x24.2.seed (w64 (20 + x5.1)) x24.1)
    else (spec_l30DrawRoom_k8 x13.2.code x13.2.at_ x13.2.seed (w64 (20 + x5.1)) (w64 (10 + x9.1))))
noncomputable def spec_l30DrawStock_k13 (s_o0_0_r13 : (List Int)) (s_o0_1_r13 : Int) (s_o0_2_r13 : Int) (k_o3_0_r13 : Int) (k_o3_1_r13 : Int) (k_o3_2_r13 : Int) (k_o3_3_r13 : Int) : Option (S_Stock × S_l00Src) :=
  some ((⟨k_o3_0_r13, k_o3_1_r13, k_o3_2_r13, k_o3_3_r13⟩ : S_Stock), (⟨s_o0_0_r13, s_o0_1_r13, s_o0_2_r13⟩ : S_l00Src))
noncomputable def spec_l30DrawStock (s_0 : S_l00Src) : Option (S_Stock × S_l00Src) :=
  (spec_l00Src_pick s_0 80).bind fun x5 =>
    (spec_l00Src_pick x5.2 10).bind fun x8 =>
    (spec_l00Src_pick x8.2 12).bind fun x12 =>
    (dv .i64 (w64 (20 + x5.1)) 2).bind fun x18 =>
    (spec_l00Src_among x12.2 ([0, 3, 5, x18, 8] : List Int)).bind fun x20 =>
    (spec_l00Src_pick x20.2 24).bind fun x23 =>
    if x23.1 = 0 then
    ((spec_l00Src_among x23.2 ([9, 10, 5000, 5001] : List Int)).bind fun x28 =>
    spec_l30DrawStock_k13 x28.2.code x28.2.at_ x28.2.seed x28.1 (w64 (10 + x8.1)) (w64 (1 + x12.1)) x20.1)
    else (if x23.1 = 1 then
    ((spec_l00Src_among x23.2 ([9, 1000, 1001] : List Int)).bind fun x34 =>
    spec_l30DrawStock_k13 x34.2.code x34.2.at_ x34.2.seed (w64 (20 + x5.1)) x34.1 (w64 (1 + x12.1)) x20.1)
    else (if x23.1 = 2 then
    ((spec_l00Src_among x23.2 ([0, (w64 (20 + x5.1)), (w64 ((w64 (20 + x5.1)) + 1))] : List Int)).bind fun x45 =>
    spec_l30DrawStock_k13 x45.2.code x45.2.at_ x45.2.seed (w64 (20 + x5.1)) (w64 (10 + x8.1)) x45.1 x20.1)
    else (if x23.1 = 3 then
    ((dv .i64 (w64 (20 + x5.1)) 2).bind fun x52 =>
    (spec_l00Src_among x23.2 ([(-1), (w64 (x52 + 1))] : List Int)).bind fun x55 =>
    spec_l30DrawStock_k13 x55.2.code x55.2.at_ x55.2.seed (w64 (20 + x5.1)) (w64 (10 + x8.1)) (w64 (1 + x12.1)) x55.1)
    else (spec_l30DrawStock_k13 x23.2.code x23.2.at_ x23.2.seed (w64 (20 + x5.1)) (w64 (10 + x8.1)) (w64 (1 + x12.1)) x20.1))))
noncomputable def spec_l00Src_one (s_0 : S_l00Src) (n_1 : Int) : Option (Bool × S_l00Src) :=
  (spec_l00Src_pick s_0 n_1).bind fun x7 =>
    some ((x7.1 == 0), x7.2)
noncomputable def spec_l08DrawBudget (s_0 : S_l00Src) : Option (Int × S_l00Src) :=
  (spec_l00Src_one s_0 6).bind fun x4 =>
    if x4.1 = true then
    ((spec_l00Src_among x4.2 ([0, 1, 5, 20000, 20001] : List Int)).bind fun x7 =>
    some (x7.1, x7.2))
    else ((spec_l00Src_pick x4.2 400).bind fun x9 =>
    some ((w64 (x9.1 + 1)), x9.2))
noncomputable def spec_DrawBestFloor (code_0 : (List Int)) : Option (S_Room × S_Stock × Int × Int) :=
  (spec_l00From code_0).bind fun x11 =>
    (spec_l30DrawRoom x11).bind fun x13 =>
    (spec_l30DrawStock x13.2).bind fun x15 =>
    (spec_l00Src_among x15.2 ([5, 7, 10, 1, x15.1.Board, (w64 (x15.1.Board + 1)), 0] : List Int)).bind fun x23 =>
    (spec_l08DrawBudget x23.2).bind fun x28 =>
    some (x13.1, x15.1, x23.1, x28.1)
noncomputable def impl_within (n_0 : Int) (low_1 : Int) (high_2 : Int) : Option Bool :=
  some ((decide (n_0 ≥ low_1)) && (decide (n_0 ≤ high_2)))
noncomputable def impl_ValidRoom (r_0 : S_Room) : Option Bool :=
  (impl_within r_0.Width 1 20000).bind fun x5 =>
    (if x5 = true then
    ((impl_within r_0.Length 1 20000).bind fun x9 =>
    some x9)
    else (some false)).bind fun t_2_m1 =>
    some t_2_m1
noncomputable def impl_ValidStock (k_0 : S_Stock) : Option Bool :=
  (impl_within k_0.Board 10 5000).bind fun x5 =>
    (if x5 = true then
    ((impl_within k_0.Wide 10 1000).bind fun x9 =>
    if x9 = true then
    ((impl_within k_0.Least 1 k_0.Board).bind fun x16 =>
    if x16 = true then
    ((dv .i64 k_0.Board 2).bind fun x23 =>
    (impl_within k_0.Stagger 0 x23).bind fun x24 =>
    some x24)
    else (some false))
    else (some false))
    else (some false)).bind fun t_2_m1 =>
    some t_2_m1
noncomputable def impl_roomCode (r_0 : S_Room) (k_1 : S_Stock) : Option Int :=
  (impl_ValidRoom r_0).bind fun x6 =>
    (if x6 = true then
    ((impl_ValidStock k_1).bind fun x10 =>
    some (!x10))
    else (some true)).bind fun t_12_m1 =>
    if t_12_m1 = true then
    (some 1)
    else (some 0)
noncomputable def impl_upDiv (a_0 : Int) (b_1 : Int) : Option Int :=
  (dv .i64 (w64 ((w64 (a_0 + b_1)) - 1)) b_1).bind fun x10 =>
    some x10
noncomputable def impl_rows (r_0 : S_Room) (k_1 : S_Stock) : Option Int :=
  (impl_upDiv r_0.Length k_1.Wide).bind fun x9 =>
    some x9
noncomputable def impl_RowCount (r_0 : S_Room) (k_1 : S_Stock) : Option (Int × Int) :=
  (impl_roomCode r_0 k_1).bind fun x9 =>
    if x9 ≠ 0 then
    (some (0, 1))
    else ((impl_rows r_0 k_1).bind fun x14 =>
    if x14 > 40 then
    (some (0, 5))
    else ((impl_rows r_0 k_1).bind fun x18 =>
    some (x18, 0)))
noncomputable def impl_makeRow_l7 (k_1 : S_Stock) (r_0 : S_Room) (s : (Int × (List Int) × (List Int) × Int)) : Option ((Int × (List Int) × (List Int) × Int) ⊕ ((List Int) × (List Int) × Int)) :=
  match s with
    | (at_9_l7, out_o8_0_l7, out_o8_1_l7, out_o8_2_l7) =>
    if at_9_l7 < r_0.Width then
    ((apd 8 out_o8_1_l7 ([at_9_l7] : List Int)).bind fun x40 =>
    (apd 8 out_o8_0_l7 ([(min2 (w64 (r_0.Width - at_9_l7)) k_1.Board)] : List Int)).bind fun x55 =>
    some (.inl ((w64 (at_9_l7 + (min2 (w64 (r_0.Width - at_9_l7)) k_1.Board))), x55, x40, (min2 (w64 (r_0.Width - at_9_l7)) k_1.Board))))
    else (some (.inr (out_o8_0_l7, out_o8_1_l7, out_o8_2_l7)))
noncomputable def impl_makeRow (r_0 : S_Room) (k_1 : S_Stock) (first_2 : Int) : Option (S_row × Int) :=
  (impl_within first_2 k_1.Least k_1.Board).bind fun x15 =>
    if x15 = true then
    (if r_0.Width ≤ first_2 then
    (some ((⟨([r_0.Width] : List Int), ([] : List Int), r_0.Width⟩ : S_row), 0))
    else ((loopO (impl_makeRow_l7 k_1 r_0) (first_2, ([first_2] : List Int), ([] : List Int), 0)).bind fun o => match o with
    | (out_o8_0_e0_7, out_o8_1_e0_7, out_o8_2_e0_7) =>
    if out_o8_2_e0_7 < k_1.Least then
    (some ((⟨([] : List Int), ([] : List Int), 0⟩ : S_row), 6))
    else (some ((⟨out_o8_0_e0_7, out_o8_1_e0_7, out_o8_2_e0_7⟩ : S_row), 0))))
    else (some ((⟨([] : List Int), ([] : List Int), 0⟩ : S_row), 2))
noncomputable def impl_absolute (n_0 : Int) : Option Int :=
  some (max2 n_0 (w64 (0 - n_0)))
noncomputable def impl_staggered_l2 (a_0 : S_row) (b_1 : S_row) (k_2 : S_Stock) (s : (Int × Int)) : Option ((Int × Int) ⊕ (Unit ⊕ Bool)) :=
  match s with
    | (i_7_l2, n_8_l2) =>
    if (i_7_l2 < (a_0.joints.length : Int) ∧ n_8_l2 < (b_1.joints.length : Int)) then
    ((rd a_0.joints i_7_l2).bind fun x24 =>
    (rd b_1.joints n_8_l2).bind fun x29 =>
    (impl_absolute (w64 (x24 - x29))).bind fun x32 =>
    if x32 < k_2.Stagger then
    (some (.inr (.inr false)))
    else ((rd a_0.joints i_7_l2).bind fun x39 =>
    (rd b_1.joints n_8_l2).bind fun x44 =>
    if x39 < x44 then
    (some (.inl ((w64 (i_7_l2 + 1)), n_8_l2)))
    else (some (.inl (i_7_l2, (w64 (n_8_l2 + 1)))))))
    else (some (.inr (.inl ())))
noncomputable def impl_staggered (a_0 : S_row) (b_1 : S_row) (k_2 : S_Stock) : Option Bool :=
  (loopO (impl_staggered_l2 a_0 b_1 k_2) (0, 0)).bind fun o => match o with
    | (.inl _) => (some true)
    | (.inr r2) => (some r2)
noncomputable def impl_possible (r_0 : S_Room) (k_1 : S_Stock) (before_2 : (Option S_row)) (first_3 : Int) : Option (S_row × Bool) :=
  (impl_makeRow r_0 k_1 first_3).bind fun x16 =>
    (if x16.2 = 0 then
    (match before_2 with
    | none => (some true)
    | some ohc2 => ((impl_staggered ohc2 x16.1 k_1).bind fun x31 =>
    some x31))
    else (some false)).bind fun t_9_m2 =>
    some (x16.1, t_9_m2)
noncomputable def impl_row_left (x_0 : S_row) (k_1 : S_Stock) : Option Int :=
  if (x_0.pieces.length : Int) = 1 then
    (some 0)
    else (some (w64 (k_1.Board - x_0.last)))
noncomputable def impl_boards_k4 (out_7_r4 : Int) : Option Int :=
  some out_7_r4
noncomputable def impl_boards (before_0 : S_row) (x_1 : S_row) (k_2 : S_Stock) : Option Int :=
  (rd x_1.pieces 0).bind fun x13 =>
    (impl_row_left before_0 k_2).bind fun x17 =>
    if x13 ≤ x17 then
    (impl_boards_k4 (w64 ((x_1.pieces.length : Int) - 1)))
    else (impl_boards_k4 (x_1.pieces.length : Int))
noncomputable def impl_floorSearch_run_k6 (self : (S_floorSearch × (List Int) × (Option S_row) × Int) → Option (Bool × S_floorSearch)) (first_9_l5 : Int) (s_o0_0_r6 : Int) (s_o0_1_r6 : Int) (s_o0_2_r6 : Int) (s_o0_3_r6 : Int) (s_o0_4_r6 : Int) (s_o0_5_r6 : Int) (s_o0_6_r6 : Int) (s_o0_7_r6 : Int) (s_o0_8_r6 : Int) (s_o0_9_r6 : Bool) (s_o0_10_r6 : (List Int)) (s_o0_11_r6 : Int) : Option ((Int × Int × Int × Int × Int × Int × Int × Int × Int × Int × Bool × (List Int) × Int) ⊕ ((Int × Int × Int × Int × Int × Int × Int × Int × Int × Bool × (List Int) × Int) ⊕ (Bool × S_floorSearch))) :=
  some (.inl ((w64 (first_9_l5 - s_o0_6_r6)), s_o0_0_r6, s_o0_1_r6, s_o0_2_r6, s_o0_3_r6, s_o0_4_r6, s_o0_5_r6, s_o0_6_r6, s_o0_7_r6, s_o0_8_r6, s_o0_9_r6, s_o0_10_r6, s_o0_11_r6))
noncomputable def impl_floorSearch_run_k12 (self : (S_floorSearch × (List Int) × (Option S_row) × Int) → Option (Bool × S_floorSearch)) (first_9_l5 : Int) (firsts_1 : (List Int)) (s_o0_0_l5 : Int) (s_o0_10_l5 : (List Int)) (s_o0_11_l5 : Int) (s_o0_1_l5 : Int) (s_o0_2_l5 : Int) (s_o0_3_l5 : Int) (s_o0_4_l5 : Int) (s_o0_5_l5 : Int) (s_o0_6_l5 : Int) (s_o0_7_l5 : Int) (s_o0_8_l5 : Int) (s_o0_9_l5 : Bool) (x60 : (S_row × Bool)) (own_12_r12 : Int) : Option ((Int × Int × Int × Int × Int × Int × Int × Int × Int × Int × Bool × (List Int) × Int) ⊕ ((Int × Int × Int × Int × Int × Int × Int × Int × Int × Bool × (List Int) × Int) ⊕ (Bool × S_floorSearch))) :=
  if (s_o0_9_l5 = true ∧ own_12_r12 ≥ s_o0_11_l5) then
    (impl_floorSearch_run_k6 self first_9_l5 s_o0_0_l5 s_o0_1_l5 s_o0_2_l5 s_o0_3_l5 s_o0_4_l5 s_o0_5_l5 s_o0_6_l5 s_o0_7_l5 s_o0_8_l5 s_o0_9_l5 s_o0_10_l5 s_o0_11_l5)
    else (if s_o0_8_l5 = 0 then
    (some (.inr (.inr (true, (⟨(⟨s_o0_0_l5, s_o0_1_l5⟩ : S_Room), (⟨s_o0_2_l5, s_o0_3_l5, s_o0_4_l5, s_o0_5_l5⟩ : S_Stock), s_o0_6_l5, s_o0_7_l5, s_o0_8_l5, s_o0_9_l5, s_o0_10_l5, s_o0_11_l5⟩ : S_floorSearch)))))
    else ((apd 8 ([] : List Int) firsts_1).bind fun x109 =>
    (apd 8 x109 ([first_9_l5] : List Int)).bind fun x112 =>
    (self ((⟨(⟨s_o0_0_l5, s_o0_1_l5⟩ : S_Room), (⟨s_o0_2_l5, s_o0_3_l5, s_o0_4_l5, s_o0_5_l5⟩ : S_Stock), s_o0_6_l5, s_o0_7_l5, (w64 (s_o0_8_l5 - 1)), s_o0_9_l5, s_o0_10_l5, s_o0_11_l5⟩ : S_floorSearch), x112, (some x60.1), own_12_r12)).bind fun x114 =>
    if x114.1 = true then
    (some (.inr (.inr (true, x114.2))))
    else (impl_floorSearch_run_k6 self first_9_l5 x114.2.room.Width x114.2.room.Length x114.2.stock.Board x114.2.stock.Wide x114.2.stock.Least x114.2.stock.Stagger x114.2.step x114.2.rows x114.2.left x114.2.found x114.2.best x114.2.least)))
noncomputable def impl_floorSearch_run_l5 (self : (S_floorSearch × (List Int) × (Option S_row) × Int) → Option (Bool × S_floorSearch)) (before_2 : (Option S_row)) (firsts_1 : (List Int)) (sum_3 : Int) (s : (Int × Int × Int × Int × Int × Int × Int × Int × Int × Int × Bool × (List Int) × Int)) : Option ((Int × Int × Int × Int × Int × Int × Int × Int × Int × Int × Bool × (List Int) × Int) ⊕ ((Int × Int × Int × Int × Int × Int × Int × Int × Int × Bool × (List Int) × Int) ⊕ (Bool × S_floorSearch))) :=
  match s with
    | (first_9_l5, s_o0_0_l5, s_o0_1_l5, s_o0_2_l5, s_o0_3_l5, s_o0_4_l5, s_o0_5_l5, s_o0_6_l5, s_o0_7_l5, s_o0_8_l5, s_o0_9_l5, s_o0_10_l5, s_o0_11_l5) =>
    if first_9_l5 ≥ s_o0_4_l5 then
    ((impl_possible (⟨s_o0_0_l5, s_o0_1_l5⟩ : S_Room) (⟨s_o0_2_l5, s_o0_3_l5, s_o0_4_l5, s_o0_5_l5⟩ : S_Stock) before_2 first_9_l5).bind fun x60 =>
    if x60.2 = true then
    ((match before_2 with
    | none => (some false)
    | some ohc34 => (some true)).bind fun t_71_m10 =>
    if t_71_m10 = true then
    (match before_2 with
    | none => (none)
    | some ohc43 => ((impl_boards ohc43 x60.1 (⟨s_o0_2_l5, s_o0_3_l5, s_o0_4_l5, s_o0_5_l5⟩ : S_Stock)).bind fun x81 =>
    impl_floorSearch_run_k12 self first_9_l5 firsts_1 s_o0_0_l5 s_o0_10_l5 s_o0_11_l5 s_o0_1_l5 s_o0_2_l5 s_o0_3_l5 s_o0_4_l5 s_o0_5_l5 s_o0_6_l5 s_o0_7_l5 s_o0_8_l5 s_o0_9_l5 x60 (w64 (sum_3 + x81))))
    else (impl_floorSearch_run_k12 self first_9_l5 firsts_1 s_o0_0_l5 s_o0_10_l5 s_o0_11_l5 s_o0_1_l5 s_o0_2_l5 s_o0_3_l5 s_o0_4_l5 s_o0_5_l5 s_o0_6_l5 s_o0_7_l5 s_o0_8_l5 s_o0_9_l5 x60 (w64 (sum_3 + (x60.1.pieces.length : Int)))))
    else (impl_floorSearch_run_k6 self first_9_l5 s_o0_0_l5 s_o0_1_l5 s_o0_2_l5 s_o0_3_l5 s_o0_4_l5 s_o0_5_l5 s_o0_6_l5 s_o0_7_l5 s_o0_8_l5 s_o0_9_l5 s_o0_10_l5 s_o0_11_l5))
    else (some (.inr (.inl (s_o0_0_l5, s_o0_1_l5, s_o0_2_l5, s_o0_3_l5, s_o0_4_l5, s_o0_5_l5, s_o0_6_l5, s_o0_7_l5, s_o0_8_l5, s_o0_9_l5, s_o0_10_l5, s_o0_11_l5))))
noncomputable def impl_floorSearch_run_F (self : (S_floorSearch × (List Int) × (Option S_row) × Int) → Option (Bool × S_floorSearch)) (s_0 : S_floorSearch) (firsts_1 : (List Int)) (before_2 : (Option S_row)) (sum_3 : Int) : Option (Bool × S_floorSearch) :=
  if (firsts_1.length : Int) = s_0.rows then
    (some (false, (⟨s_0.room, s_0.stock, s_0.step, s_0.rows, s_0.left, true, firsts_1, sum_3⟩ : S_floorSearch)))
    else ((loopO (impl_floorSearch_run_l5 self before_2 firsts_1 sum_3) (s_0.stock.Board, s_0.room.Width, s_0.room.Length, s_0.stock.Board, s_0.stock.Wide, s_0.stock.Least, s_0.stock.Stagger, s_0.step, s_0.rows, s_0.left, s_0.found, s_0.best, s_0.least)).bind fun o => match o with
    | (.inl (s_o0_0_e0_5, s_o0_1_e0_5, s_o0_2_e0_5, s_o0_3_e0_5, s_o0_4_e0_5, s_o0_5_e0_5, s_o0_6_e0_5, s_o0_7_e0_5, s_o0_8_e0_5, s_o0_9_e0_5, s_o0_10_e0_5, s_o0_11_e0_5)) => (some (false, (⟨(⟨s_o0_0_e0_5, s_o0_1_e0_5⟩ : S_Room), (⟨s_o0_2_e0_5, s_o0_3_e0_5, s_o0_4_e0_5, s_o0_5_e0_5⟩ : S_Stock), s_o0_6_e0_5, s_o0_7_e0_5, s_o0_8_e0_5, s_o0_9_e0_5, s_o0_10_e0_5, s_o0_11_e0_5⟩ : S_floorSearch)))
    | (.inr r2) => (some r2))
noncomputable def impl_floorSearch_run (s_0 : S_floorSearch) (firsts_1 : (List Int)) (before_2 : (Option S_row)) (sum_3 : Int) : Option (Bool × S_floorSearch) := fixO (fun self s => match s with | (s_0, firsts_1, before_2, sum_3) => impl_floorSearch_run_F self s_0 firsts_1 before_2 sum_3) (s_0, firsts_1, before_2, sum_3)
noncomputable def impl_BestFloor_k4 (budget_3 : Int) (k_1 : S_Stock) (r_0 : S_Room) (step_2 : Int) (x17 : (Int × Int)) (code_12_r4 : Int) : Option ((List Int) × Int × Int) :=
  if code_12_r4 ≠ 0 then
    (some (([] : List Int), 0, code_12_r4))
    else ((impl_floorSearch_run (⟨r_0, k_1, step_2, x17.1, budget_3, false, ([] : List Int), 0⟩ : S_floorSearch) ([] : List Int) none 0).bind fun x46 =>
    if x46.1 = true then
    (some (([] : List Int), 0, 5))
    else (if x46.2.found = true then
    (some (x46.2.best, x46.2.least, 0))
    else (some (([] : List Int), 0, 3))))
noncomputable def impl_BestFloor (r_0 : S_Room) (k_1 : S_Stock) (step_2 : Int) (budget_3 : Int) : Option ((List Int) × Int × Int) :=
  (impl_RowCount r_0 k_1).bind fun x17 =>
    (if x17.2 = 0 then
    ((impl_within step_2 1 k_1.Board).bind fun x26 =>
    if x26 = true then
    ((impl_within budget_3 1 20000).bind fun x30 =>
    some (!x30))
    else (some true))
    else (some false)).bind fun t_33_m2 =>
    if t_33_m2 = true then
    (impl_BestFloor_k4 budget_3 k_1 r_0 step_2 x17 2)
    else (impl_BestFloor_k4 budget_3 k_1 r_0 step_2 x17 x17.2)
noncomputable def impl_GreedyFloor_l17 (before_9_l7 : (Option S_row)) (candidates_o10_e2_12 : (List Int)) (k_1 : S_Stock) (out_o8_l7 : (List Int)) (r_0 : S_Room) (t_55_l17 : Int) : Option (Int ⊕ ((Option S_row) × Bool × (List Int))) :=
  if t_55_l17 < (candidates_o10_e2_12.length : Int) then
    ((rd candidates_o10_e2_12 t_55_l17).bind fun x57 =>
    (impl_possible r_0 k_1 before_9_l7 x57).bind fun x64 =>
    if x64.2 = true then
    ((apd 8 out_o8_l7 ([x57] : List Int)).bind fun x71 =>
    some (.inr ((some x64.1), true, x71)))
    else (some (.inl (w64 (t_55_l17 + 1)))))
    else (some (.inr (before_9_l7, false, out_o8_l7)))
noncomputable def impl_GreedyFloor_l12 (k_1 : S_Stock) (s : (Int × (List Int))) : Option ((Int × (List Int)) ⊕ (List Int)) :=
  match s with
    | (first_11_l12, candidates_o10_l12) =>
    if first_11_l12 ≥ k_1.Least then
    ((apd 8 candidates_o10_l12 ([first_11_l12] : List Int)).bind fun x52 =>
    some (.inl ((w64 (first_11_l12 - 1)), x52)))
    else (some (.inr candidates_o10_l12))
noncomputable def impl_GreedyFloor_k11 (before_9_l7 : (Option S_row)) (k_1 : S_Stock) (out_o8_l7 : (List Int)) (r_0 : S_Room) (t_28_l7 : Int) (candidates_o10_r11 : (List Int)) : Option (((Option S_row) × Int × (List Int)) ⊕ ((List Int) ⊕ ((List Int) × Int))) :=
  (loopO (impl_GreedyFloor_l12 k_1) (k_1.Board, candidates_o10_r11)).bind fun candidates_o10_e2_12 =>
    (loopO (impl_GreedyFloor_l17 before_9_l7 candidates_o10_e2_12 k_1 out_o8_l7 r_0) 0).bind fun o => match o with
    | (before_9_e4_17, found_12_e4_17, out_o8_e4_17) =>
    if found_12_e4_17 = true then
    (some (.inl (before_9_e4_17, (w64 (t_28_l7 + 1)), out_o8_e4_17)))
    else (some (.inr (.inr (([] : List Int), 3))))
noncomputable def impl_GreedyFloor_l7 (k_1 : S_Stock) (r_0 : S_Room) (x20 : (Int × Int)) (s : ((Option S_row) × Int × (List Int))) : Option (((Option S_row) × Int × (List Int)) ⊕ ((List Int) ⊕ ((List Int) × Int))) :=
  match s with
    | (before_9_l7, t_28_l7, out_o8_l7) =>
    if t_28_l7 < x20.1 then
    ((match before_9_l7 with
    | none => (some false)
    | some ohc23 => (some true)).bind fun t_32_m9 =>
    if t_32_m9 = true then
    (match before_9_l7 with
    | none => (none)
    | some ohc38 => ((impl_row_left ohc38 k_1).bind fun x38 =>
    (apd 8 ([] : List Int) ([x38] : List Int)).bind fun x40 =>
    impl_GreedyFloor_k11 before_9_l7 k_1 out_o8_l7 r_0 t_28_l7 x40))
    else (impl_GreedyFloor_k11 before_9_l7 k_1 out_o8_l7 r_0 t_28_l7 ([] : List Int)))
    else (some (.inr (.inl out_o8_l7)))
noncomputable def impl_GreedyFloor (r_0 : S_Room) (k_1 : S_Stock) : Option ((List Int) × Int) :=
  (impl_RowCount r_0 k_1).bind fun x20 =>
    if x20.2 ≠ 0 then
    (some (([] : List Int), x20.2))
    else ((loopO (impl_GreedyFloor_l7 k_1 r_0 x20) (none, 0, ([] : List Int))).bind fun o => match o with
    | (.inl out_o8_e0_7) => (some (out_o8_e0_7, 0))
    | (.inr r2) => (some r2))
noncomputable def impl_floorRows_l5 (firsts_2 : (List Int)) (k_1 : S_Stock) (r_0 : S_Room) (s : (Int × (List S_row))) : Option ((Int × (List S_row)) ⊕ ((List S_row) ⊕ ((List S_row) × Bool))) :=
  match s with
    | (t_22_l5, out_o8_l5) =>
    if t_22_l5 < (firsts_2.length : Int) then
    ((rd firsts_2 t_22_l5).bind fun x25 =>
    (impl_makeRow r_0 k_1 x25).bind fun x31 =>
    (if x31.2 ≠ 0 then
    (some true)
    else (if t_22_l5 > 0 then
    ((rd out_o8_l5 (w64 (t_22_l5 - 1))).bind fun x43 =>
    (impl_staggered x43 x31.1 k_1).bind fun x47 =>
    some (!x47))
    else (some false))).bind fun t_50_m8 =>
    if t_50_m8 = true then
    (some (.inr (.inr (([] : List S_row), false))))
    else ((apd 56 out_o8_l5 ([x31.1] : List S_row)).bind fun x54 =>
    some (.inl ((w64 (t_22_l5 + 1)), x54))))
    else (some (.inr (.inl out_o8_l5)))
noncomputable def impl_floorRows (r_0 : S_Room) (k_1 : S_Stock) (firsts_2 : (List Int)) : Option ((List S_row) × Bool) :=
  (impl_rows r_0 k_1).bind fun x17 =>
    if (firsts_2.length : Int) ≠ x17 then
    (some (([] : List S_row), false))
    else ((loopO (impl_floorRows_l5 firsts_2 k_1 r_0) (0, ([] : List S_row))).bind fun o => match o with
    | (.inl out_o8_e0_5) => (some (out_o8_e0_5, true))
    | (.inr r2) => (some r2))
noncomputable def impl_IsFloor (r_0 : S_Room) (k_1 : S_Stock) (firsts_2 : (List Int)) : Option Bool :=
  (impl_roomCode r_0 k_1).bind fun x11 =>
    if x11 ≠ 0 then
    (some false)
    else ((impl_floorRows r_0 k_1 firsts_2).bind fun x17 =>
    some x17.2)
noncomputable def impl_BoardsFor_l9 (k_1 : S_Stock) (x25 : ((List S_row) × Bool)) (s : (Int × Int × (List Int) × (List Int) × Int)) : Option ((Int × Int × (List Int) × (List Int) × Int) ⊕ Int) :=
  match s with
    | (sum_11_l9, t_34_l9, before_o12_0_l9, before_o12_1_l9, before_o12_2_l9) =>
    if t_34_l9 < (x25.1.length : Int) then
    ((rd x25.1 t_34_l9).bind fun x36 =>
    (impl_boards (⟨before_o12_0_l9, before_o12_1_l9, before_o12_2_l9⟩ : S_row) x36 k_1).bind fun x42 =>
    some (.inl ((w64 (sum_11_l9 + x42)), (w64 (t_34_l9 + 1)), x36.pieces, x36.joints, x36.last)))
    else (some (.inr sum_11_l9))
noncomputable def impl_BoardsFor (r_0 : S_Room) (k_1 : S_Stock) (firsts_2 : (List Int)) : Option (Int × Int) :=
  (impl_roomCode r_0 k_1).bind fun x17 =>
    if x17 ≠ 0 then
    (some (0, x17))
    else ((impl_floorRows r_0 k_1 firsts_2).bind fun x25 =>
    if x25.2 = true then
    ((loopO (impl_BoardsFor_l9 k_1 x25) (0, 0, ([0] : List Int), ([] : List Int), 0)).bind fun sum_11_e0_9 =>
    some (sum_11_e0_9, 0))
    else (some (0, 2)))
noncomputable def impl_floorDiv_k4 (out_5_r4 : Int) : Option Int :=
  some out_5_r4
noncomputable def impl_floorDiv (a_0 : Int) (b_1 : Int) : Option Int :=
  (dv .i64 a_0 b_1).bind fun x8 =>
    (md a_0 b_1).bind fun x11 =>
    if x11 < 0 then
    (impl_floorDiv_k4 (w64 (x8 - 1)))
    else (impl_floorDiv_k4 x8)
noncomputable def impl_WasteShare (r_0 : S_Room) (k_1 : S_Stock) (firsts_2 : (List Int)) : Option (Int × Int) :=
  (impl_BoardsFor r_0 k_1 firsts_2).bind fun x15 =>
    if x15.2 ≠ 0 then
    (some (0, x15.2))
    else ((impl_floorDiv (w64 ((w64 ((w64 ((w64 (x15.1 * k_1.Board)) * k_1.Wide)) - (w64 (r_0.Width * r_0.Length)))) * 1000)) (w64 ((w64 (x15.1 * k_1.Board)) * k_1.Wide))).bind fun x37 =>
    some (x37, 0))
noncomputable def spec_l00In (n_0 : Int) (low_1 : Int) (high_2 : Int) : Option Bool :=
  some ((decide (n_0 ≥ low_1)) && (decide (n_0 ≤ high_2)))
noncomputable def spec_l30Room (r_0 : S_Room) : Option Bool :=
  (spec_l00In r_0.Width 1 20000).bind fun x7 =>
    (if x7 = true then
    ((spec_l00In r_0.Length 1 20000).bind fun x13 =>
    some x13)
    else (some false)).bind fun t_2_m1 =>
    some t_2_m1
noncomputable def spec_l30Stock (k_0 : S_Stock) : Option Bool :=
  (spec_l00In k_0.Board 10 5000).bind fun x7 =>
    (if x7 = true then
    ((spec_l00In k_0.Wide 10 1000).bind fun x13 =>
    if x13 = true then
    ((spec_l00In k_0.Least 1 k_0.Board).bind fun x24 =>
    if x24 = true then
    ((dv .i64 k_0.Board 2).bind fun x35 =>
    (spec_l00In k_0.Stagger 0 x35).bind fun x36 =>
    some x36)
    else (some false))
    else (some false))
    else (some false)).bind fun t_2_m1 =>
    some t_2_m1
noncomputable def spec_l30Ok (r_0 : S_Room) (k_1 : S_Stock) : Option Bool :=
  (spec_l30Room r_0).bind fun x6 =>
    (if x6 = true then
    ((spec_l30Stock k_1).bind fun x9 =>
    some x9)
    else (some false)).bind fun t_4_m1 =>
    some t_4_m1
noncomputable def spec_l28Up (a_0 : Int) (b_1 : Int) : Option Int :=
  (dv .i64 (w64 ((w64 (a_0 + b_1)) - 1)) b_1).bind fun x10 =>
    some x10
noncomputable def spec_l30Rows (r_0 : S_Room) (k_1 : S_Stock) : Option Int :=
  (spec_l28Up r_0.Length k_1.Wide).bind fun x13 =>
    some x13
noncomputable def spec_l30Left (k_0 : S_Stock) (pieces_1 : (List Int)) : Option Int :=
  if (pieces_1.length : Int) < 2 then
    (some 0)
    else ((rd pieces_1 (w64 ((pieces_1.length : Int) - 1))).bind fun x16 =>
    some (w64 (k_0.Board - x16)))
noncomputable def spec_l30Pieces_l7 (k_1 : S_Stock) (s : (Int × (List Int))) : Option ((Int × (List Int)) ⊕ (Int × (List Int))) :=
  match s with
    | (rest_9_l7, out_o8_l7) =>
    if rest_9_l7 > k_1.Board then
    ((apd 8 out_o8_l7 ([k_1.Board] : List Int)).bind fun x52 =>
    some (.inl ((w64 (rest_9_l7 - k_1.Board)), x52)))
    else (some (.inr (rest_9_l7, out_o8_l7)))
noncomputable def spec_l30Pieces (r_0 : S_Room) (k_1 : S_Stock) (first_2 : Int) : Option ((List Int) × Int) :=
  (spec_l00In first_2 k_1.Least k_1.Board).bind fun x19 =>
    if x19 = true then
    (if r_0.Width ≤ first_2 then
    (some (([r_0.Width] : List Int), 0))
    else ((loopO (spec_l30Pieces_l7 k_1) ((w64 (r_0.Width - first_2)), ([first_2] : List Int))).bind fun o => match o with
    | (rest_9_e0_7, out_o8_e0_7) =>
    if rest_9_e0_7 < k_1.Least then
    (some (([] : List Int), 6))
    else ((apd 8 out_o8_e0_7 ([rest_9_e0_7] : List Int)).bind fun x68 =>
    some (x68, 0))))
    else (some (([] : List Int), 2))
noncomputable def spec_l30Joints_l4 (pieces_0 : (List Int)) (s : (Int × Int × (List Int))) : Option ((Int × Int × (List Int)) ⊕ (List Int)) :=
  match s with
    | (at_4_l4, i_5_l4, out_o3_l4) =>
    if (w64 (i_5_l4 + 1)) < (pieces_0.length : Int) then
    ((rd pieces_0 i_5_l4).bind fun x17 =>
    (apd 8 out_o3_l4 ([(w64 (at_4_l4 + x17))] : List Int)).bind fun x23 =>
    some (.inl ((w64 (at_4_l4 + x17)), (w64 (i_5_l4 + 1)), x23)))
    else (some (.inr out_o3_l4))
noncomputable def spec_l30Joints (pieces_0 : (List Int)) : Option (List Int) :=
  (loopO (spec_l30Joints_l4 pieces_0) (0, 0, ([] : List Int))).bind fun out_o3_e0_4 =>
    some out_o3_e0_4
noncomputable def spec_l00Max (a_0 : Int) (b_1 : Int) : Option Int :=
  if a_0 > b_1 then
    (some a_0)
    else (some b_1)
noncomputable def spec_l30Apart_l5 (k_0 : S_Stock) (x12 : (List Int)) (x14 : (List Int)) (s : (Int × Int)) : Option ((Int × Int) ⊕ (Unit ⊕ Bool)) :=
  match s with
    | (i_9_l5, j_10_l5) =>
    if (i_9_l5 < (x12.length : Int) ∧ j_10_l5 < (x14.length : Int)) then
    ((rd x12 i_9_l5).bind fun x27 =>
    (rd x14 j_10_l5).bind fun x31 =>
    (rd x14 j_10_l5).bind fun x36 =>
    (rd x12 i_9_l5).bind fun x40 =>
    (spec_l00Max (w64 (x27 - x31)) (w64 (x36 - x40))).bind fun x43 =>
    if x43 < k_0.Stagger then
    (some (.inr (.inr false)))
    else ((rd x12 i_9_l5).bind fun x51 =>
    (rd x14 j_10_l5).bind fun x55 =>
    if x51 < x55 then
    (some (.inl ((w64 (i_9_l5 + 1)), j_10_l5)))
    else (some (.inl (i_9_l5, (w64 (j_10_l5 + 1)))))))
    else (some (.inr (.inl ())))
noncomputable def spec_l30Apart (k_0 : S_Stock) (a_1 : (List Int)) (b_2 : (List Int)) : Option Bool :=
  (spec_l30Joints a_1).bind fun x12 =>
    (spec_l30Joints b_2).bind fun x14 =>
    (loopO (spec_l30Apart_l5 k_0 x12 x14) (0, 0)).bind fun o => match o with
    | (.inl _) => (some true)
    | (.inr r2) => (some r2)
noncomputable def spec_GreedyFloor_k18 (f_14_l17 : Int) (best_10_r18 : Int) : Option ((Int × Int) ⊕ Int) :=
  some (.inl (best_10_r18, (w64 (f_14_l17 - 1))))
noncomputable def spec_GreedyFloor_l17 (k_1 : S_Stock) (last_o8_l9 : (List Int)) (r_0 : S_Room) (s : (Int × Int)) : Option ((Int × Int) ⊕ Int) :=
  match s with
    | (best_10_l17, f_14_l17) =>
    if (f_14_l17 ≥ k_1.Least ∧ best_10_l17 < 0) then
    ((spec_l30Pieces r_0 k_1 f_14_l17).bind fun x56 =>
    (if x56.2 = 0 then
    ((spec_l30Apart k_1 last_o8_l9 x56.1).bind fun x64 =>
    some x64)
    else (some false)).bind fun t_65_m20 =>
    if t_65_m20 = true then
    (spec_GreedyFloor_k18 f_14_l17 f_14_l17)
    else (spec_GreedyFloor_k18 f_14_l17 best_10_l17))
    else (some (.inr best_10_l17))
noncomputable def spec_GreedyFloor_k16 (i_9_l9 : Int) (k_1 : S_Stock) (last_o8_l9 : (List Int)) (out_o7_l9 : (List Int)) (r_0 : S_Room) (best_10_r16 : Int) : Option ((Int × (List Int) × (List Int)) ⊕ ((List Int) ⊕ ((List Int) × Int))) :=
  (loopO (spec_GreedyFloor_l17 k_1 last_o8_l9 r_0) (best_10_r16, k_1.Board)).bind fun best_10_e2_17 =>
    if best_10_e2_17 < 0 then
    (some (.inr (.inr (([] : List Int), 3))))
    else ((spec_l30Pieces r_0 k_1 best_10_e2_17).bind fun x71 =>
    (apd 8 out_o7_l9 ([best_10_e2_17] : List Int)).bind fun x77 =>
    some (.inl ((w64 (i_9_l9 + 1)), x77, x71.1)))
noncomputable def spec_GreedyFloor_l9 (k_1 : S_Stock) (r_0 : S_Room) (x17 : Int) (s : (Int × (List Int) × (List Int))) : Option ((Int × (List Int) × (List Int)) ⊕ ((List Int) ⊕ ((List Int) × Int))) :=
  match s with
    | (i_9_l9, out_o7_l9, last_o8_l9) =>
    if i_9_l9 < x17 then
    ((spec_l30Left k_1 last_o8_l9).bind fun x28 =>
    (spec_l30Pieces r_0 k_1 x28).bind fun x31 =>
    (if x31.2 = 0 then
    ((spec_l30Apart k_1 last_o8_l9 x31.1).bind fun x39 =>
    some x39)
    else (some false)).bind fun t_40_m14 =>
    if t_40_m14 = true then
    (spec_GreedyFloor_k16 i_9_l9 k_1 last_o8_l9 out_o7_l9 r_0 x28)
    else (spec_GreedyFloor_k16 i_9_l9 k_1 last_o8_l9 out_o7_l9 r_0 (-1)))
    else (some (.inr (.inl out_o7_l9)))
noncomputable def spec_GreedyFloor (r_0 : S_Room) (k_1 : S_Stock) : Option ((List Int) × Int) :=
  (spec_l30Ok r_0 k_1).bind fun x15 =>
    if x15 = true then
    ((spec_l30Rows r_0 k_1).bind fun x17 =>
    if x17 > 40 then
    (some (([] : List Int), 5))
    else ((loopO (spec_GreedyFloor_l9 k_1 r_0 x17) (0, ([] : List Int), ([] : List Int))).bind fun o => match o with
    | (.inl out_o7_e0_9) => (some (out_o7_e0_9, 0))
    | (.inr r2) => (some r2)))
    else (some (([] : List Int), 1))
noncomputable def spec_l30DrawFirst (s_0 : S_l00Src) (k_1 : S_Stock) : Option (Int × S_l00Src) :=
  (spec_l00Src_one s_0 8).bind fun x6 =>
    if x6.1 = true then
    ((spec_l00Src_among x6.2 ([(w64 (k_1.Least - 1)), k_1.Least, k_1.Board, (w64 (k_1.Board + 1))] : List Int)).bind fun x27 =>
    some (x27.1, x27.2))
    else ((spec_l00Max 1 k_1.Board).bind fun x37 =>
    (spec_l00Src_pick x6.2 x37).bind fun x38 =>
    some ((w64 (k_1.Board - x38.1)), x38.2))
noncomputable def spec_l30DrawFloor_k9 (x11 : (S_Room × S_l00Src)) (x13 : (S_Stock × S_l00Src)) (s_o0_0_r9 : (List Int)) (s_o0_1_r9 : Int) (s_o0_2_r9 : Int) (firsts_o7_r9 : (List Int)) : Option (S_Room × S_Stock × (List Int) × S_l00Src) :=
  some (x11.1, x13.1, firsts_o7_r9, (⟨s_o0_0_r9, s_o0_1_r9, s_o0_2_r9⟩ : S_l00Src))
noncomputable def spec_l30DrawFloor_k6 (x11 : (S_Room × S_l00Src)) (x13 : (S_Stock × S_l00Src)) (firsts_o7_r6 : (List Int)) : Option (S_Room × S_Stock × (List Int) × S_l00Src) :=
  (if (firsts_o7_r6.length : Int) > 0 then
    ((spec_l00Src_one x13.2 3).bind fun x30 =>
    some (x30.1, x30.2.code, x30.2.at_, x30.2.seed))
    else (some (false, x13.2.code, x13.2.at_, x13.2.seed))).bind fun s => match s with
    | (t_31_m6, s_o0_0_m6, s_o0_1_m6, s_o0_2_m6) =>
    if t_31_m6 = true then
    ((spec_l00Src_pick (⟨s_o0_0_m6, s_o0_1_m6, s_o0_2_m6⟩ : S_l00Src) (firsts_o7_r6.length : Int)).bind fun x35 =>
    (spec_l30DrawFirst x35.2 x13.1).bind fun x39 =>
    (rd firsts_o7_r6 x35.1).bind fun x40 =>
    spec_l30DrawFloor_k9 x11 x13 x39.2.code x39.2.at_ x39.2.seed (firsts_o7_r6.set x35.1.toNat x39.1))
    else (spec_l30DrawFloor_k9 x11 x13 s_o0_0_m6 s_o0_1_m6 s_o0_2_m6 firsts_o7_r6)
noncomputable def spec_l30DrawFloor (s_0 : S_l00Src) : Option (S_Room × S_Stock × (List Int) × S_l00Src) :=
  (spec_l30DrawRoom s_0).bind fun x11 =>
    (spec_l30DrawStock x11.2).bind fun x13 =>
    (spec_GreedyFloor x11.1 x13.1).bind fun x17 =>
    if x17.2 ≠ 0 then
    (spec_l30DrawFloor_k6 x11 x13 ([x13.1.Board] : List Int))
    else (spec_l30DrawFloor_k6 x11 x13 x17.1)
noncomputable def spec_DrawBoardsFor (code_0 : (List Int)) : Option (S_Room × S_Stock × (List Int)) :=
  (spec_l00From code_0).bind fun x7 =>
    (spec_l30DrawFloor x7).bind fun x9 =>
    some (x9.1, x9.2.1, x9.2.2.1)
noncomputable def laws_FnFloors_k13 (more_1 : (List Int)) : Option Bool :=
  (spec_DrawBoardsFor more_1).bind fun x119 =>
    (impl_BoardsFor x119.1 x119.2.1 x119.2.2).bind fun x127 =>
    (impl_IsFloor x119.1 x119.2.1 x119.2.2).bind fun x135 =>
    some (((x127.2 == 0) == x135) && ((x127.2 != 0) || (decide (x127.1 ≥ 1))))
noncomputable def laws_FnFloors (code_0 : (List Int)) (more_1 : (List Int)) : Option Bool :=
  (laws_b10Long code_0).bind fun x24 =>
    (if x24 = true then
    (some true)
    else ((laws_b10Long more_1).bind fun x27 =>
    some x27)).bind fun t_28_m1 =>
    if t_28_m1 = true then
    (some true)
    else ((spec_DrawBestFloor code_0).bind fun x31 =>
    (impl_BestFloor x31.1 x31.2.1 x31.2.2.1 x31.2.2.2).bind fun x41 =>
    (impl_GreedyFloor x31.1 x31.2.1).bind fun x48 =>
    (if x48.2 = 0 then
    ((impl_IsFloor x31.1 x31.2.1 x48.1).bind fun x57 =>
    some (!x57))
    else (some false)).bind fun t_59_m6 =>
    if t_59_m6 = true then
    (some false)
    else (if x41.2.2 = 0 then
    ((impl_BoardsFor x31.1 x31.2.1 x41.1).bind fun x66 =>
    (impl_WasteShare x31.1 x31.2.1 x41.1).bind fun x73 =>
    (impl_IsFloor x31.1 x31.2.1 x41.1).bind fun x79 =>
    if (¬ (x79 = true) ∨ (x66.2 ≠ 0 ∨ (x66.1 ≠ x41.2.1 ∨ (x73.2 ≠ 0 ∨ (x73.1 < 0 ∨ (x73.1 > 999 ∨ (w64 ((w64 (x41.2.1 * x31.2.1.Board)) * x31.2.1.Wide)) < (w64 (x31.1.Width * x31.1.Length)))))))) then
    (some false)
    else (laws_FnFloors_k13 more_1))
    else (laws_FnFloors_k13 more_1)))

end Go.Pw
