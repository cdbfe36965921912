/- Plain functions that answer what the program's functions answer. Conditions: none; definitions alone. -/
import Derived.Test.YteglmkbkjaeijabSimPw
namespace Go.Pw
open Go.Sim (min2 max2)
set_option linter.unusedVariables false

structure S_Room where
  Width : Int
  Length : Int

structure S_Stock where
  Board : Int
  Wide : Int
  Least : Int
  Stagger : Int

structure S_row where
  pieces : (List Int)
  joints : (List Int)
  last : Int

noncomputable def laws_toRoom (a_0 : S_Room) : Option S_Room :=
  some a_0
noncomputable def laws_toStock (a_0 : S_Stock) : Option S_Stock :=
  some a_0
noncomputable def spec_l00In (n_0 : Int) (low_1 : Int) (high_2 : Int) : Option Bool :=
  some ((decide (n_0 ≥ low_1)) && (decide (n_0 ≤ high_2)))
noncomputable def spec_l30Room (r_0 : S_Room) : Option Bool :=
  (spec_l00In r_0.Width 1 20000).bind fun x7 =>
    (if x7 = true then
    ((spec_l00In r_0.Length 1 20000).bind fun x13 =>
    some x13)
    else (some false)).bind fun t_2_m1 =>
    some t_2_m1
noncomputable def spec_l30Stock (k_0 : S_Stock) : Option Bool :=
  (spec_l00In k_0.Board 10 5000).bind fun x7 =>
    (if x7 = true then
    ((spec_l00In k_0.Wide 10 1000).bind fun x13 =>
    if x13 = true then
    ((spec_l00In k_0.Least 1 k_0.Board).bind fun x24 =>
    if x24 = true then
    ((dv .i64 k_0.Board 2).bind fun x35 =>
    (spec_l00In k_0.Stagger 0 x35).bind fun x36 =>
    some x36)
    else (some false))
    else (some false))
    else (some false)).bind fun t_2_m1 =>
    some t_2_m1
noncomputable def spec_l30Ok (r_0 : S_Room) (k_1 : S_Stock) : Option Bool :=
  (spec_l30Room r_0).bind fun x6 =>
    (if x6 = true then
    ((spec_l30Stock k_1).bind fun x9 =>
    some x9)
    else (some false)).bind fun t_4_m1 =>
    some t_4_m1
noncomputable def spec_l28Up (a_0 : Int) (b_1 : Int) : Option Int :=
  (dv .i64 (w64 ((w64 (a_0 + b_1)) - 1)) b_1).bind fun x10 =>
    some x10
noncomputable def spec_l30Rows (r_0 : S_Room) (k_1 : S_Stock) : Option Int :=
  (spec_l28Up r_0.Length k_1.Wide).bind fun x13 =>
    some x13
noncomputable def spec_l30Left (k_0 : S_Stock) (pieces_1 : (List Int)) : Option Int :=
  if (pieces_1.length : Int) < 2 then
    (some 0)
    else ((rd pieces_1 (w64 ((pieces_1.length : Int) - 1))).bind fun x16 =>
    some (w64 (k_0.Board - x16)))
noncomputable def spec_l30Pieces_l7 (k_1 : S_Stock) (s : (Int × (List Int))) : Option ((Int × (List Int)) ⊕ (Int × (List Int))) :=
  match s with
    | (rest_9_l7, out_o8_l7) =>
    if rest_9_l7 > k_1.Board then
    ((apd 8 out_o8_l7 ([k_1.Board] : List Int)).bind fun x52 =>
    some (.inl ((w64 (rest_9_l7 - k_1.Board)), x52)))
    else (some (.inr (rest_9_l7, out_o8_l7)))
noncomputable def spec_l30Pieces (r_0 : S_Room) (k_1 : S_Stock) (first_2 : Int) : Option ((List Int) × Int) :=
  (spec_l00In first_2 k_1.Least k_1.Board).bind fun x19 =>
    if x19 = true then
    (if r_0.Width ≤ first_2 then
    (some (([r_0.Width] : List Int), 0))
    else ((loopO (spec_l30Pieces_l7 k_1) ((w64 (r_0.Width - first_2)), ([first_2] : List Int))).bind fun o => match o with
    | (rest_9_e0_7, out_o8_e0_7) =>
    if rest_9_e0_7 < k_1.Least then
    (some (([] : List Int), 6))
    else ((apd 8 out_o8_e0_7 ([rest_9_e0_7] : List Int)).bind fun x68 =>
    some (x68, 0))))
    else (some (([] : List Int), 2))
noncomputable def spec_l30Joints_l4 (pieces_0 : (List Int)) (s : (Int × Int × (List Int))) : Option ((Int × Int × (List Int)) ⊕ (List Int)) :=
  match s with
    | (at_4_l4, i_5_l4, out_o3_l4) =>
    if (w64 (i_5_l4 + 1)) < (pieces_0.length : Int) then
    ((rd pieces_0 i_5_l4).bind fun x17 =>
    (apd 8 out_o3_l4 ([(w64 (at_4_l4 + x17))] : List Int)).bind fun x23 =>
    some (.inl ((w64 (at_4_l4 + x17)), (w64 (i_5_l4 + 1)), x23)))
    else (some (.inr out_o3_l4))
noncomputable def spec_l30Joints (pieces_0 : (List Int)) : Option (List Int) :=
  (loopO (spec_l30Joints_l4 pieces_0) (0, 0, ([] : List Int))).bind fun out_o3_e0_4 =>
    some out_o3_e0_4
noncomputable def spec_l00Max (a_0 : Int) (b_1 : Int) : Option Int :=
  if a_0 > b_1 then
    (some a_0)
    else (some b_1)
noncomputable def spec_l30Apart_l5 (k_0 : S_Stock) (x12 : (List Int)) (x14 : (List Int)) (s : (Int × Int)) : Option ((Int × Int) ⊕ (Unit ⊕ Bool)) :=
  match s with
    | (i_9_l5, j_10_l5) =>
    if (i_9_l5 < (x12.length : Int) ∧ j_10_l5 < (x14.length : Int)) then
    ((rd x12 i_9_l5).bind fun x27 =>
    (rd x14 j_10_l5).bind fun x31 =>
    (rd x14 j_10_l5).bind fun x36 =>
    (rd x12 i_9_l5).bind fun x40 =>
    (spec_l00Max (w64 (x27 - x31)) (w64 (x36 - x40))).bind fun x43 =>
    if x43 < k_0.Stagger then
    (some (.inr (.inr false)))
    else ((rd x12 i_9_l5).bind fun x51 =>
    (rd x14 j_10_l5).bind fun x55 =>
    if x51 < x55 then
    (some (.inl ((w64 (i_9_l5 + 1)), j_10_l5)))
    else (some (.inl (i_9_l5, (w64 (j_10_l5 + 1)))))))
    else (some (.inr (.inl ())))
noncomputable def spec_l30Apart (k_0 : S_Stock) (a_1 : (List Int)) (b_2 : (List Int)) : Option Bool :=
  (spec_l30Joints a_1).bind fun x12 =>
    (spec_l30Joints b_2).bind fun x14 =>
    (loopO (spec_l30Apart_l5 k_0 x12 x14) (0, 0)).bind fun o => match o with
    | (.inl _) => (some true)
    | (.inr r2) => (some r2)
noncomputable def spec_GreedyFloor_k18 (f_14_l17 : Int) (best_10_r18 : Int) : Option ((Int × Int) ⊕ Int) :=
  some (.inl (best_10_r18, (w64 (f_14_l17 - 1))))
noncomputable def spec_GreedyFloor_l17 (k_1 : S_Stock) (last_o8_l9 : (List Int)) (r_0 : S_Room) (s : (Int × Int)) : Option ((Int × Int) ⊕ Int) :=
  match s with
    | (best_10_l17, f_14_l17) =>
    if (f_14_l17 ≥ k_1.Least ∧ best_10_l17 < 0) then
    ((spec_l30Pieces r_0 k_1 f_14_l17).bind fun x56 =>
    (if x56.2 = 0 then
    ((spec_l30Apart k_1 last_o8_l9 x56.1).bind fun x64 =>
    some x64)
    else (some false)).bind fun t_65_m20 =>
    if t_65_m20 = true then
    (spec_GreedyFloor_k18 f_14_l17 f_14_l17)
    else (spec_GreedyFloor_k18 f_14_l17 best_10_l17))
    else (some (.inr best_10_l17))
noncomputable def spec_GreedyFloor_k16 (i_9_l9 : Int) (k_1 : S_Stock) (last_o8_l9 : (List Int)) (out_o7_l9 : (List Int)) (r_0 : S_Room) (best_10_r16 : Int) : Option ((Int × (List Int) × (List Int)) ⊕ ((List Int) ⊕ ((List Int) × Int))) :=
  (loopO (spec_GreedyFloor_l17 k_1 last_o8_l9 r_0) (best_10_r16, k_1.Board)).bind fun best_10_e2_17 =>
    if best_10_e2_17 < 0 then
    (some (.inr (.inr (([] : List Int), 3))))
    else ((spec_l30Pieces r_0 k_1 best_10_e2_17).bind fun x71 =>
    (apd 8 out_o7_l9 ([best_10_e2_17] : List Int)).bind fun x77 =>
    some (.inl ((w64 (i_9_l9 + 1)), x77, x71.1)))
noncomputable def spec_GreedyFloor_l9 (k_1 : S_Stock) (r_0 : S_Room) (x17 : Int) (s : (Int × (List Int) × (List Int))) : Option ((Int × (List Int) × (List Int)) ⊕ ((List Int) ⊕ ((List Int) × Int))) :=
  match s with
    | (i_9_l9, out_o7_l9, last_o8_l9) =>
    if i_9_l9 < x17 then
    ((spec_l30Left k_1 last_o8_l9).bind fun x28 =>
    (spec_l30Pieces r_0 k_1 x28).bind fun x31 =>
    (if x31.2 = 0 then
    ((spec_l30Apart k_1 last_o8_l9 x31.1).bind fun x39 =>
    some x39)
    else (some false)).bind fun t_40_m14 =>
    if t_40_m14 = true then
    (spec_GreedyFloor_k16 i_9_l9 k_1 last_o8_l9 out_o7_l9 r_0 x28)
    else (spec_GreedyFloor_k16 i_9_l9 k_1 last_o8_l9 out_o7_l9 r_0 (-1)))
    else (some (.inr (.inl out_o7_l9)))
noncomputable def spec_GreedyFloor (r_0 : S_Room) (k_1 : S_Stock) : Option ((List Int) × Int) :=
  (spec_l30Ok r_0 k_1).bind fun x15 =>
    if x15 = true then
    ((spec_l30Rows r_0 k_1).bind fun x17 =>
    if x17 > 40 then
    (some (([] : List Int), 5))
    else ((loopO (spec_GreedyFloor_l9 k_1 r_0 x17) (0, ([] : List Int), ([] : List Int))).bind fun o => match o with
    | (.inl out_o7_e0_9) => (some (out_o7_e0_9, 0))
    | (.inr r2) => (some r2)))
    else (some (([] : List Int), 1))
noncomputable def impl_within (n_0 : Int) (low_1 : Int) (high_2 : Int) : Option Bool :=
  some ((decide (n_0 ≥ low_1)) && (decide (n_0 ≤ high_2)))
noncomputable def impl_ValidRoom (r_0 : S_Room) : Option Bool :=
  (impl_within r_0.Width 1 20000).bind fun x5 =>
    (if x5 = true then
    ((impl_within r_0.Length 1 20000).bind fun x9 =>
    some x9)
    else (some false)).bind fun t_2_m1 =>
    some t_2_m1
noncomputable def impl_ValidStock (k_0 : S_Stock) : Option Bool :=
  (impl_within k_0.Board 10 5000).bind fun x5 =>
    (if x5 = true then
    ((impl_within k_0.Wide 10 1000).bind fun x9 =>
    if x9 = true then
    ((impl_within k_0.Least 1 k_0.Board).bind fun x16 =>
    if x16 = true then
    ((dv .i64 k_0.Board 2).bind fun x23 =>
    (impl_within k_0.Stagger 0 x23).bind fun x24 =>
    some x24)
    else (some false))
    else (some false))
    else (some false)).bind fun t_2_m1 =>
    some t_2_m1
noncomputable def impl_roomCode (r_0 : S_Room) (k_1 : S_Stock) : Option Int :=
  (impl_ValidRoom r_0).bind fun x6 =>
    (if x6 = true then
    ((impl_ValidStock k_1).bind fun x10 =>
    some (!x10))
    else (some true)).bind fun t_12_m1 =>
    if t_12_m1 = true then
    (some 1)
    else (some 0)
noncomputable def impl_upDiv (a_0 : Int) (b_1 : Int) : Option Int :=
  (dv .i64 (w64 ((w64 (a_0 + b_1)) - 1)) b_1).bind fun x10 =>
    some x10
noncomputable def impl_rows (r_0 : S_Room) (k_1 : S_Stock) : Option Int :=
  (impl_upDiv r_0.Length k_1.Wide).bind fun x9 =>
    some x9
noncomputable def impl_RowCount (r_0 : S_Room) (k_1 : S_Stock) : Option (Int × Int) :=
  (impl_roomCode r_0 k_1).bind fun x9 =>
    if x9 ≠ 0 then
    (some (0, 1))
    else ((impl_rows r_0 k_1).bind fun x14 =>
    if x14 > 40 then
    (some (0, 5))
    else ((impl_rows r_0 k_1).bind fun x18 =>
    some (x18, 0)))
noncomputable def impl_makeRow_l7 (k_1 : S_Stock) (r_0 : S_Room) (s : (Int × (List Int) × (List Int) × Int)) : Option ((Int × (List Int) × (List Int) × Int) ⊕ ((List Int) × (List Int) × Int)) :=
  match s with
    | (at_9_l7, out_o8_0_l7, out_o8_1_l7, out_o8_2_l7) =>
    if at_9_l7 < r_0.Width then
    ((apd 8 out_o8_1_l7 ([at_9_l7] : List Int)).bind fun x40 =>
    (apd 8 out_o8_0_l7 ([(min2 (w64 (r_0.Width - at_9_l7)) k_1.Board)] : List Int)).bind fun x55 =>
    some (.inl ((w64 (at_9_l7 + (min2 (w64 (r_0.Width - at_9_l7)) k_1.Board))), x55, x40, (min2 (w64 (r_0.Width - at_9_l7)) k_1.Board))))
    else (some (.inr (out_o8_0_l7, out_o8_1_l7, out_o8_2_l7)))
noncomputable def impl_makeRow (r_0 : S_Room) (k_1 : S_Stock) (first_2 : Int) : Option (S_row × Int) :=
  (impl_within first_2 k_1.Least k_1.Board).bind fun x15 =>
    if x15 = true then
    (if r_0.Width ≤ first_2 then
    (some ((⟨([r_0.Width] : List Int), ([] : List Int), r_0.Width⟩ : S_row), 0))
    else ((loopO (impl_makeRow_l7 k_1 r_0) (first_2, ([first_2] : List Int), ([] : List Int), 0)).bind fun o => match o with
    | (out_o8_0_e0_7, out_o8_1_e0_7, out_o8_2_e0_7) =>
    if out_o8_2_e0_7 < k_1.Least then
    (some ((⟨([] : List Int), ([] : List Int), 0⟩ : S_row), 6))
    else (some ((⟨out_o8_0_e0_7, out_o8_1_e0_7, out_o8_2_e0_7⟩ : S_row), 0))))
    else (some ((⟨([] : List Int), ([] : List Int), 0⟩ : S_row), 2))
noncomputable def impl_absolute (n_0 : Int) : Option Int :=
  some (max2 n_0 (w64 (0 - n_0)))
noncomputable def impl_staggered_l2 (a_0 : S_row) (b_1 : S_row) (k_2 : S_Stock) (s : (Int × Int)) : Option ((Int × Int) ⊕ (Unit ⊕ Bool)) :=
  match s with
    | (i_7_l2, n_8_l2) =>
    if (i_7_l2 < (a_0.joints.length : Int) ∧ n_8_l2 < (b_1.joints.length : Int)) then
    ((rd a_0.joints i_7_l2).bind fun x24 =>
    (rd b_1.joints n_8_l2).bind fun x29 =>
    (impl_absolute (w64 (x24 - x29))).bind fun x32 =>
    if x32 < k_2.Stagger then
    (some (.inr (.inr false)))
    else ((rd a_0.joints i_7_l2).bind fun x39 =>
    (rd b_1.joints n_8_l2).bind fun x44 =>
    if x39 < x44 then
    (some (.inl ((w64 (i_7_l2 + 1)), n_8_l2)))
    else (some (.inl (i_7_l2, (w64 (n_8_l2 + 1)))))))
    else (some (.inr (.inl ())))
noncomputable def impl_staggered (a_0 : S_row) (b_1 : S_row) (k_2 : S_Stock) : Option Bool :=
  (loopO (impl_staggered_l2 a_0 b_1 k_2) (0, 0)).bind fun o => match o with
    | (.inl _) => (some true)
    | (.inr r2) => (some r2)
noncomputable def impl_possible (r_0 : S_Room) (k_1 : S_Stock) (before_2 : (Option S_row)) (first_3 : Int) : Option (S_row × Bool) :=
  (impl_makeRow r_0 k_1 first_3).bind fun x16 =>
    (if x16.2 = 0 then
    (match before_2 with
    | none => (some true)
    | some ohc2 => ((impl_staggered ohc2 x16.1 k_1).bind fun x31 =>
    some x31))
    else (some false)).bind fun t_9_m2 =>
    some (x16.1, t_9_m2)
noncomputable def impl_row_left (x_0 : S_row) (k_1 : S_Stock) : Option Int :=
  if (x_0.pieces.length : Int) = 1 then
    (some 0)
    else (some (w64 (k_1.Board - x_0.last)))
noncomputable def impl_GreedyFloor_l17 (before_9_l7 : (Option S_row)) (candidates_o10_e2_12 : (List Int)) (k_1 : S_Stock) (out_o8_l7 : (List Int)) (r_0 : S_Room) (t_55_l17 : Int) : Option (Int ⊕ ((Option S_row) × Bool × (List Int))) :=
  if t_55_l17 < (candidates_o10_e2_12.length : Int) then
    ((rd candidates_o10_e2_12 t_55_l17).bind fun x57 =>
    (impl_possible r_0 k_1 before_9_l7 x57).bind fun x64 =>
    if x64.2 = true then
    ((apd 8 out_o8_l7 ([x57] : List Int)).bind fun x71 =>
    some (.inr ((some x64.1), true, x71)))
    else (some (.inl (w64 (t_55_l17 + 1)))))
    else (some (.inr (before_9_l7, false, out_o8_l7)))
noncomputable def impl_GreedyFloor_l12 (k_1 : S_Stock) (s : (Int × (List Int))) : Option ((Int × (List Int)) ⊕ (List Int)) :=
  match s with
    | (first_11_l12, candidates_o10_l12) =>
    if first_11_l12 ≥ k_1.Least then
    ((apd 8 candidates_o10_l12 ([first_11_l12] : List Int)).bind fun x52 =>
    some (.inl ((w64 (first_11_l12 - 1)), x52)))
    else (some (.inr candidates_o10_l12))
noncomputable def impl_GreedyFloor_k11 (before_9_l7 : (Option S_row)) (k_1 : S_Stock) (out_o8_l7 : (List Int)) (r_0 : S_Room) (t_28_l7 : Int) (candidates_o10_r11 : (List Int)) : Option (((Option S_row) × Int × (List Int)) ⊕ ((List Int) ⊕ ((List Int) × Int))) :=
  (loopO (impl_GreedyFloor_l12 k_1) (k_1.Board, candidates_o10_r11)).bind fun candidates_o10_e2_12 =>
    (loopO (impl_GreedyFloor_l17 before_9_l7 candidates_o10_e2_12 k_1 out_o8_l7 r_0) 0).bind fun o => match o with
    | (before_9_e4_17, found_12_e4_17, out_o8_e4_17) =>
    if found_12_e4_17 = true then
    (some (.inl (before_9_e4_17, (w64 (t_28_l7 + 1)), out_o8_e4_17)))
    else (some (.inr (.inr (([] : List Int), 3))))
noncomputable def impl_GreedyFloor_l7 (k_1 : S_Stock) (r_0 : S_Room) (x20 : (Int × Int)) (s : ((Option S_row) × Int × (List Int))) : Option (((Option S_row) × Int × (List Int)) ⊕ ((List Int) ⊕ ((List Int) × Int))) :=
  match s with
    | (before_9_l7, t_28_l7, out_o8_l7) =>
    if t_28_l7 < x20.1 then
    ((match before_9_l7 with
    | none => (some false)
    | some ohc23 => (some true)).bind fun t_32_m9 =>
    if t_32_m9 = true then
    (match before_9_l7 with
    | none => (none)
    | some ohc38 => ((impl_row_left ohc38 k_1).bind fun x38 =>
    (apd 8 ([] : List Int) ([x38] : List Int)).bind fun x40 =>
    impl_GreedyFloor_k11 before_9_l7 k_1 out_o8_l7 r_0 t_28_l7 x40))
    else (impl_GreedyFloor_k11 before_9_l7 k_1 out_o8_l7 r_0 t_28_l7 ([] : List Int)))
    else (some (.inr (.inl out_o8_l7)))
noncomputable def impl_GreedyFloor (r_0 : S_Room) (k_1 : S_Stock) : Option ((List Int) × Int) :=
  (impl_RowCount r_0 k_1).bind fun x20 =>
    if x20.2 ≠ 0 then
    (some (([] : List Int), x20.2))
    else ((loopO (impl_GreedyFloor_l7 k_1 r_0 x20) (none, 0, ([] : List Int))).bind fun o => match o with
    | (.inl out_o8_e0_7) => (some (out_o8_e0_7, 0))
    | (.inr r2) => (some r2))
noncomputable def laws_eqInt64S_l4 (a_0 : (List Int)) (b_1 : (List Int)) (i_5_l4 : Int) : Option (Int ⊕ (Unit ⊕ Bool)) :=
  if i_5_l4 < (a_0.length : Int) then
    ((rd a_0 i_5_l4).bind fun x19 =>
    (rd b_1 i_5_l4).bind fun x23 =>
    if x19 ≠ x23 then
    (some (.inr (.inr false)))
    else (some (.inl (w64 (i_5_l4 + 1)))))
    else (some (.inr (.inl ())))
noncomputable def laws_eqInt64S (a_0 : (List Int)) (b_1 : (List Int)) : Option Bool :=
  if (a_0.length : Int) ≠ (b_1.length : Int) then
    (some false)
    else ((loopO (laws_eqInt64S_l4 a_0 b_1) 0).bind fun o => match o with
    | (.inl _) => (some true)
    | (.inr r2) => (some r2))
noncomputable def laws_markInt64S_l2 (s : (Int × Int × (List Int))) : Option ((Int × Int × (List Int)) ⊕ (Int × (List Int))) :=
  match s with
    | (k_1_l2, i_5_l2, a_o0_l2) =>
    if i_5_l2 < (a_o0_l2.length : Int) then
    ((rd a_o0_l2 i_5_l2).bind fun x15 =>
    some (.inl ((w64 (k_1_l2 + 1)), (w64 (i_5_l2 + 1)), (a_o0_l2.set i_5_l2.toNat k_1_l2))))
    else (some (.inr (k_1_l2, a_o0_l2)))
noncomputable def laws_markInt64S (a_0 : (List Int)) (k_1 : Int) : Option (Int × (List Int)) :=
  (loopO (laws_markInt64S_l2) (k_1, 0, a_0)).bind fun o => match o with
    | (k_1_e0_2, a_o0_e0_2) =>
    some (k_1_e0_2, a_o0_e0_2)
noncomputable def laws_heldInt64S_l2 (a_0 : (List Int)) (s : (Int × Int)) : Option ((Int × Int) ⊕ (Int ⊕ Int)) :=
  match s with
    | (k_1_l2, i_5_l2) =>
    if i_5_l2 < (a_0.length : Int) then
    ((rd a_0 i_5_l2).bind fun x14 =>
    if x14 ≠ k_1_l2 then
    (some (.inr (.inr (-1))))
    else (some (.inl ((w64 (k_1_l2 + 1)), (w64 (i_5_l2 + 1))))))
    else (some (.inr (.inl k_1_l2)))
noncomputable def laws_heldInt64S (a_0 : (List Int)) (k_1 : Int) : Option Int :=
  (loopO (laws_heldInt64S_l2 a_0) (k_1, 0)).bind fun o => match o with
    | (.inl k_1_e0_2) => (some k_1_e0_2)
    | (.inr r2) => (some r2)
noncomputable def laws_FnExactGreedyFloor (aR_0 : S_Room) (aK_1 : S_Stock) : Option Bool :=
  (laws_toRoom aR_0).bind fun x15 =>
    (laws_toStock aK_1).bind fun x17 =>
    (spec_GreedyFloor x15 x17).bind fun x18 =>
    (laws_toRoom aR_0).bind fun x23 =>
    (laws_toStock aK_1).bind fun x25 =>
    (impl_GreedyFloor x23 x25).bind fun x26 =>
    (laws_eqInt64S x26.1 x18.1).bind fun x31 =>
    if (¬ (x31 = true) ∨ x26.2 ≠ x18.2) then
    (some false)
    else ((laws_markInt64S x26.1 1).bind fun x40 =>
    (laws_heldInt64S x40.2 1).bind fun x43 =>
    if x43 < 0 then
    (some false)
    else (if x43 ≠ x40.1 then
    (some false)
    else ((laws_toRoom aR_0).bind fun x51 =>
    (laws_toStock aK_1).bind fun x53 =>
    (impl_GreedyFloor x51 x53).bind fun x54 =>
    (laws_eqInt64S x54.1 x18.1).bind fun x59 =>
    if (¬ (x59 = true) ∨ x54.2 ≠ x18.2) then
    (some false)
    else ((laws_heldInt64S x40.2 1).bind fun x68 =>
    if x68 < 0 then
    (some false)
    else (if x68 ≠ x40.1 then
    (some false)
    else (some true))))))

end Go.Pw
