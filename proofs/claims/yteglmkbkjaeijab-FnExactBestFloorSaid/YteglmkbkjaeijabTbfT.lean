/- Plain functions that answer what the program's functions answer. Conditions: none; definitions alone. -/
import Derived.Test.YteglmkbkjaeijabSimPw
namespace Go.Pw
open Go.Sim (min2 max2)
set_option linter.unusedVariables false

structure S_Room where
  Width : Int
  Length : Int

structure S_Stock where
  Board : Int
  Wide : Int
  Least : Int
  Stagger : Int

structure S_l30Search where
  r : S_Room
  k : S_Stock
  n : Int
  step : Int
  firsts : (List Int)
  best : (List Int)
  least : Int
  nodes : Int
  budget : Int
  full : Bool

structure S_floorSearch where
  room : S_Room
  stock : S_Stock
  step : Int
  rows : Int
  left : Int
  found : Bool
  best : (List Int)
  least : Int

structure S_row where
  pieces : (List Int)
  joints : (List Int)
  last : Int

noncomputable def laws_toRoom (a_0 : S_Room) : Option S_Room :=
  some a_0
noncomputable def laws_toStock (a_0 : S_Stock) : Option S_Stock :=
  some a_0
noncomputable def spec_l00In (n_0 : Int) (low_1 : Int) (high_2 : Int) : Option Bool :=
  some ((decide (n_0 ≥ low_1)) && (decide (n_0 ≤ high_2)))
noncomputable def spec_l30Room (r_0 : S_Room) : Option Bool :=
  (spec_l00In r_0.Width 1 20000).bind fun x7 =>
    (if x7 = true then
    ((spec_l00In r_0.Length 1 20000).bind fun x13 =>
    some x13)
    else (some false)).bind fun t_2_m1 =>
    some t_2_m1
noncomputable def spec_l30Stock (k_0 : S_Stock) : Option Bool :=
  (spec_l00In k_0.Board 10 5000).bind fun x7 =>
    (if x7 = true then
    ((spec_l00In k_0.Wide 10 1000).bind fun x13 =>
    if x13 = true then
    ((spec_l00In k_0.Least 1 k_0.Board).bind fun x24 =>
    if x24 = true then
    ((dv .i64 k_0.Board 2).bind fun x35 =>
    (spec_l00In k_0.Stagger 0 x35).bind fun x36 =>
    some x36)
    else (some false))
    else (some false))
    else (some false)).bind fun t_2_m1 =>
    some t_2_m1
noncomputable def spec_l30Ok (r_0 : S_Room) (k_1 : S_Stock) : Option Bool :=
  (spec_l30Room r_0).bind fun x6 =>
    (if x6 = true then
    ((spec_l30Stock k_1).bind fun x9 =>
    some x9)
    else (some false)).bind fun t_4_m1 =>
    some t_4_m1
noncomputable def spec_l28Up (a_0 : Int) (b_1 : Int) : Option Int :=
  (dv .i64 (w64 ((w64 (a_0 + b_1)) - 1)) b_1).bind fun x10 =>
    some x10
noncomputable def spec_l30Rows (r_0 : S_Room) (k_1 : S_Stock) : Option Int :=
  (spec_l28Up r_0.Length k_1.Wide).bind fun x13 =>
    some x13
noncomputable def spec_l00Own (list_0 : (List Int)) : Option (List Int) :=
  (apd 8 ([] : List Int) list_0).bind fun x5 =>
    some x5
noncomputable def spec_l30Pieces_l7 (k_1 : S_Stock) (s : (Int × (List Int))) : Option ((Int × (List Int)) ⊕ (Int × (List Int))) :=
  match s with
    | (rest_9_l7, out_o8_l7) =>
    if rest_9_l7 > k_1.Board then
    ((apd 8 out_o8_l7 ([k_1.Board] : List Int)).bind fun x52 =>
    some (.inl ((w64 (rest_9_l7 - k_1.Board)), x52)))
    else (some (.inr (rest_9_l7, out_o8_l7)))
noncomputable def spec_l30Pieces (r_0 : S_Room) (k_1 : S_Stock) (first_2 : Int) : Option ((List Int) × Int) :=
  (spec_l00In first_2 k_1.Least k_1.Board).bind fun x19 =>
    if x19 = true then
    (if r_0.Width ≤ first_2 then
    (some (([r_0.Width] : List Int), 0))
    else ((loopO (spec_l30Pieces_l7 k_1) ((w64 (r_0.Width - first_2)), ([first_2] : List Int))).bind fun o => match o with
    | (rest_9_e0_7, out_o8_e0_7) =>
    if rest_9_e0_7 < k_1.Least then
    (some (([] : List Int), 6))
    else ((apd 8 out_o8_e0_7 ([rest_9_e0_7] : List Int)).bind fun x68 =>
    some (x68, 0))))
    else (some (([] : List Int), 2))
noncomputable def spec_l30Joints_l4 (pieces_0 : (List Int)) (s : (Int × Int × (List Int))) : Option ((Int × Int × (List Int)) ⊕ (List Int)) :=
  match s with
    | (at_4_l4, i_5_l4, out_o3_l4) =>
    if (w64 (i_5_l4 + 1)) < (pieces_0.length : Int) then
    ((rd pieces_0 i_5_l4).bind fun x17 =>
    (apd 8 out_o3_l4 ([(w64 (at_4_l4 + x17))] : List Int)).bind fun x23 =>
    some (.inl ((w64 (at_4_l4 + x17)), (w64 (i_5_l4 + 1)), x23)))
    else (some (.inr out_o3_l4))
noncomputable def spec_l30Joints (pieces_0 : (List Int)) : Option (List Int) :=
  (loopO (spec_l30Joints_l4 pieces_0) (0, 0, ([] : List Int))).bind fun out_o3_e0_4 =>
    some out_o3_e0_4
noncomputable def spec_l00Max (a_0 : Int) (b_1 : Int) : Option Int :=
  if a_0 > b_1 then
    (some a_0)
    else (some b_1)
noncomputable def spec_l30Apart_l5 (k_0 : S_Stock) (x12 : (List Int)) (x14 : (List Int)) (s : (Int × Int)) : Option ((Int × Int) ⊕ (Unit ⊕ Bool)) :=
  match s with
    | (i_9_l5, j_10_l5) =>
    if (i_9_l5 < (x12.length : Int) ∧ j_10_l5 < (x14.length : Int)) then
    ((rd x12 i_9_l5).bind fun x27 =>
    (rd x14 j_10_l5).bind fun x31 =>
    (rd x14 j_10_l5).bind fun x36 =>
    (rd x12 i_9_l5).bind fun x40 =>
    (spec_l00Max (w64 (x27 - x31)) (w64 (x36 - x40))).bind fun x43 =>
    if x43 < k_0.Stagger then
    (some (.inr (.inr false)))
    else ((rd x12 i_9_l5).bind fun x51 =>
    (rd x14 j_10_l5).bind fun x55 =>
    if x51 < x55 then
    (some (.inl ((w64 (i_9_l5 + 1)), j_10_l5)))
    else (some (.inl (i_9_l5, (w64 (j_10_l5 + 1)))))))
    else (some (.inr (.inl ())))
noncomputable def spec_l30Apart (k_0 : S_Stock) (a_1 : (List Int)) (b_2 : (List Int)) : Option Bool :=
  (spec_l30Joints a_1).bind fun x12 =>
    (spec_l30Joints b_2).bind fun x14 =>
    (loopO (spec_l30Apart_l5 k_0 x12 x14) (0, 0)).bind fun o => match o with
    | (.inl _) => (some true)
    | (.inr r2) => (some r2)
noncomputable def spec_l30Left (k_0 : S_Stock) (pieces_1 : (List Int)) : Option Int :=
  if (pieces_1.length : Int) < 2 then
    (some 0)
    else ((rd pieces_1 (w64 ((pieces_1.length : Int) - 1))).bind fun x16 =>
    some (w64 (k_0.Board - x16)))
noncomputable def spec_l30Boards_k4 (n_7_r4 : Int) : Option Int :=
  some n_7_r4
noncomputable def spec_l30Boards (k_0 : S_Stock) (last_1 : (List Int)) (pieces_2 : (List Int)) : Option Int :=
  (rd pieces_2 0).bind fun x11 =>
    (spec_l30Left k_0 last_1).bind fun x15 =>
    if x11 ≤ x15 then
    (spec_l30Boards_k4 (w64 ((pieces_2.length : Int) - 1)))
    else (spec_l30Boards_k4 (pieces_2.length : Int))
noncomputable def spec_l30Search_run_k6 (self : (S_l30Search × (List Int) × Int) → Option S_l30Search) (f_7_l5 : Int) (x_o0_0_0_r6 : Int) (x_o0_0_1_r6 : Int) (x_o0_1_0_r6 : Int) (x_o0_1_1_r6 : Int) (x_o0_1_2_r6 : Int) (x_o0_1_3_r6 : Int) (x_o0_2_r6 : Int) (x_o0_3_r6 : Int) (x_o0_4_r6 : (List Int)) (x_o0_5_r6 : (List Int)) (x_o0_6_r6 : Int) (x_o0_7_r6 : Int) (x_o0_8_r6 : Int) (x_o0_9_r6 : Bool) : Option ((Int × Int × Int × Int × Int × Int × Int × Int × Int × (List Int) × (List Int) × Int × Int × Int × Bool) ⊕ (S_l30Search ⊕ S_l30Search)) :=
  some (.inl ((w64 (f_7_l5 - x_o0_3_r6)), x_o0_0_0_r6, x_o0_0_1_r6, x_o0_1_0_r6, x_o0_1_1_r6, x_o0_1_2_r6, x_o0_1_3_r6, x_o0_2_r6, x_o0_3_r6, x_o0_4_r6, x_o0_5_r6, x_o0_6_r6, x_o0_7_r6, x_o0_8_r6, x_o0_9_r6))
noncomputable def spec_l30Search_run_l5 (self : (S_l30Search × (List Int) × Int) → Option S_l30Search) (boards_2 : Int) (last_1 : (List Int)) (x_0 : S_l30Search) (s : (Int × Int × Int × Int × Int × Int × Int × Int × Int × (List Int) × (List Int) × Int × Int × Int × Bool)) : Option ((Int × Int × Int × Int × Int × Int × Int × Int × Int × (List Int) × (List Int) × Int × Int × Int × Bool) ⊕ (S_l30Search ⊕ S_l30Search)) :=
  match s with
    | (f_7_l5, x_o0_0_0_l5, x_o0_0_1_l5, x_o0_1_0_l5, x_o0_1_1_l5, x_o0_1_2_l5, x_o0_1_3_l5, x_o0_2_l5, x_o0_3_l5, x_o0_4_l5, x_o0_5_l5, x_o0_6_l5, x_o0_7_l5, x_o0_8_l5, x_o0_9_l5) =>
    if (f_7_l5 ≥ x_o0_1_2_l5 ∧ ¬ (x_o0_9_l5 = true)) then
    ((spec_l30Pieces (⟨x_o0_0_0_l5, x_o0_0_1_l5⟩ : S_Room) (⟨x_o0_1_0_l5, x_o0_1_1_l5, x_o0_1_2_l5, x_o0_1_3_l5⟩ : S_Stock) f_7_l5).bind fun x73 =>
    (if x73.2 ≠ 0 then
    (some true)
    else ((spec_l30Apart (⟨x_o0_1_0_l5, x_o0_1_1_l5, x_o0_1_2_l5, x_o0_1_3_l5⟩ : S_Stock) last_1 x73.1).bind fun x85 =>
    some (!x85))).bind fun t_87_m8 =>
    if t_87_m8 = true then
    (spec_l30Search_run_k6 self f_7_l5 x_o0_0_0_l5 x_o0_0_1_l5 x_o0_1_0_l5 x_o0_1_1_l5 x_o0_1_2_l5 x_o0_1_3_l5 x_o0_2_l5 x_o0_3_l5 x_o0_4_l5 x_o0_5_l5 x_o0_6_l5 x_o0_7_l5 x_o0_8_l5 x_o0_9_l5)
    else ((spec_l30Boards (⟨x_o0_1_0_l5, x_o0_1_1_l5, x_o0_1_2_l5, x_o0_1_3_l5⟩ : S_Stock) last_1 x73.1).bind fun x95 =>
    if (x_o0_6_l5 ≥ 0 ∧ (w64 (boards_2 + x95)) ≥ x_o0_6_l5) then
    (spec_l30Search_run_k6 self f_7_l5 x_o0_0_0_l5 x_o0_0_1_l5 x_o0_1_0_l5 x_o0_1_1_l5 x_o0_1_2_l5 x_o0_1_3_l5 x_o0_2_l5 x_o0_3_l5 x_o0_4_l5 x_o0_5_l5 x_o0_6_l5 x_o0_7_l5 x_o0_8_l5 x_o0_9_l5)
    else (if x_o0_7_l5 = x_o0_8_l5 then
    (some (.inr (.inr (⟨(⟨x_o0_0_0_l5, x_o0_0_1_l5⟩ : S_Room), (⟨x_o0_1_0_l5, x_o0_1_1_l5, x_o0_1_2_l5, x_o0_1_3_l5⟩ : S_Stock), x_o0_2_l5, x_o0_3_l5, x_o0_4_l5, x_o0_5_l5, x_o0_6_l5, x_o0_7_l5, x_o0_8_l5, true⟩ : S_l30Search))))
    else ((apd 8 x_o0_4_l5 ([f_7_l5] : List Int)).bind fun x136 =>
    (self ((⟨(⟨x_o0_0_0_l5, x_o0_0_1_l5⟩ : S_Room), (⟨x_o0_1_0_l5, x_o0_1_1_l5, x_o0_1_2_l5, x_o0_1_3_l5⟩ : S_Stock), x_o0_2_l5, x_o0_3_l5, x136, x_o0_5_l5, x_o0_6_l5, (w64 (x_o0_7_l5 + 1)), x_o0_8_l5, x_o0_9_l5⟩ : S_l30Search), x73.1, (w64 (boards_2 + x95)))).bind fun x142 =>
    (slc x142.firsts 0 (x_0.firsts.length : Int)).bind fun x149 =>
    spec_l30Search_run_k6 self f_7_l5 x142.r.Width x142.r.Length x142.k.Board x142.k.Wide x142.k.Least x142.k.Stagger x142.n x142.step ((x142.firsts.take ((x_0.firsts.length : Int).toNat)).drop 0) x142.best x142.least x142.nodes x142.budget x142.full))))
    else (some (.inr (.inl (⟨(⟨x_o0_0_0_l5, x_o0_0_1_l5⟩ : S_Room), (⟨x_o0_1_0_l5, x_o0_1_1_l5, x_o0_1_2_l5, x_o0_1_3_l5⟩ : S_Stock), x_o0_2_l5, x_o0_3_l5, x_o0_4_l5, x_o0_5_l5, x_o0_6_l5, x_o0_7_l5, x_o0_8_l5, x_o0_9_l5⟩ : S_l30Search))))
noncomputable def spec_l30Search_run_F (self : (S_l30Search × (List Int) × Int) → Option S_l30Search) (x_0 : S_l30Search) (last_1 : (List Int)) (boards_2 : Int) : Option S_l30Search :=
  if (x_0.firsts.length : Int) = x_0.n then
    ((spec_l00Own x_0.firsts).bind fun x31 =>
    some (⟨x_0.r, x_0.k, x_0.n, x_0.step, x_0.firsts, x31, boards_2, x_0.nodes, x_0.budget, x_0.full⟩ : S_l30Search))
    else ((loopO (spec_l30Search_run_l5 self boards_2 last_1 x_0) (x_0.k.Board, x_0.r.Width, x_0.r.Length, x_0.k.Board, x_0.k.Wide, x_0.k.Least, x_0.k.Stagger, x_0.n, x_0.step, x_0.firsts, x_0.best, x_0.least, x_0.nodes, x_0.budget, x_0.full)).bind fun o => match o with
    | (.inl r2) => (some r2)
    | (.inr r2) => (some r2))
noncomputable def spec_l30Search_run (x_0 : S_l30Search) (last_1 : (List Int)) (boards_2 : Int) : Option S_l30Search := fixO (fun self s => match s with | (x_0, last_1, boards_2) => spec_l30Search_run_F self x_0 last_1 boards_2) (x_0, last_1, boards_2)
noncomputable def spec_BestFloor (r_0 : S_Room) (k_1 : S_Stock) (step_2 : Int) (budget_3 : Int) : Option ((List Int) × Int × Int) :=
  (spec_l30Ok r_0 k_1).bind fun x13 =>
    if x13 = true then
    ((spec_l30Rows r_0 k_1).bind fun x15 =>
    if x15 > 40 then
    (some (([] : List Int), 0, 5))
    else ((spec_l00In step_2 1 k_1.Board).bind fun x21 =>
    (if x21 = true then
    ((spec_l00In budget_3 1 20000).bind fun x25 =>
    some (!x25))
    else (some true)).bind fun t_27_m6 =>
    if t_27_m6 = true then
    (some (([] : List Int), 0, 2))
    else ((spec_l30Search_run (⟨r_0, k_1, x15, step_2, ([] : List Int), ([] : List Int), (-1), 0, budget_3, false⟩ : S_l30Search) ([] : List Int) 0).bind fun x35 =>
    if x35.full = true then
    (some (([] : List Int), 0, 5))
    else (if x35.least < 0 then
    (some (([] : List Int), 0, 3))
    else (some (x35.best, x35.least, 0))))))
    else (some (([] : List Int), 0, 1))
noncomputable def impl_within (n_0 : Int) (low_1 : Int) (high_2 : Int) : Option Bool :=
  some ((decide (n_0 ≥ low_1)) && (decide (n_0 ≤ high_2)))
noncomputable def impl_ValidRoom (r_0 : S_Room) : Option Bool :=
  (impl_within r_0.Width 1 20000).bind fun x5 =>
    (if x5 = true then
    ((impl_within r_0.Length 1 20000).bind fun x9 =>
    some x9)
    else (some false)).bind fun t_2_m1 =>
    some t_2_m1
noncomputable def impl_ValidStock (k_0 : S_Stock) : Option Bool :=
  (impl_within k_0.Board 10 5000).bind fun x5 =>
    (if x5 = true then
    ((impl_within k_0.Wide 10 1000).bind fun x9 =>
    if x9 = true then
    ((impl_within k_0.Least 1 k_0.Board).bind fun x16 =>
    if x16 = true then
    ((dv .i64 k_0.Board 2).bind fun x23 =>
    (impl_within k_0.Stagger 0 x23).bind fun x24 =>
    some x24)
    else (some false))
    else (some false))
    else (some false)).bind fun t_2_m1 =>
    some t_2_m1
noncomputable def impl_roomCode (r_0 : S_Room) (k_1 : S_Stock) : Option Int :=
  (impl_ValidRoom r_0).bind fun x6 =>
    (if x6 = true then
    ((impl_ValidStock k_1).bind fun x10 =>
    some (!x10))
    else (some true)).bind fun t_12_m1 =>
    if t_12_m1 = true then
    (some 1)
    else (some 0)
noncomputable def impl_upDiv (a_0 : Int) (b_1 : Int) : Option Int :=
  (dv .i64 (w64 ((w64 (a_0 + b_1)) - 1)) b_1).bind fun x10 =>
    some x10
noncomputable def impl_rows (r_0 : S_Room) (k_1 : S_Stock) : Option Int :=
  (impl_upDiv r_0.Length k_1.Wide).bind fun x9 =>
    some x9
noncomputable def impl_RowCount (r_0 : S_Room) (k_1 : S_Stock) : Option (Int × Int) :=
  (impl_roomCode r_0 k_1).bind fun x9 =>
    if x9 ≠ 0 then
    (some (0, 1))
    else ((impl_rows r_0 k_1).bind fun x14 =>
    if x14 > 40 then
    (some (0, 5))
    else ((impl_rows r_0 k_1).bind fun x18 =>
    some (x18, 0)))
noncomputable def impl_makeRow_l7 (k_1 : S_Stock) (r_0 : S_Room) (s : (Int × (List Int) × (List Int) × Int)) : Option ((Int × (List Int) × (List Int) × Int) ⊕ ((List Int) × (List Int) × Int)) :=
  match s with
    | (at_9_l7, out_o8_0_l7, out_o8_1_l7, out_o8_2_l7) =>
    if at_9_l7 < r_0.Width then
    ((apd 8 out_o8_1_l7 ([at_9_l7] : List Int)).bind fun x40 =>
    (apd 8 out_o8_0_l7 ([(min2 (w64 (r_0.Width - at_9_l7)) k_1.Board)] : List Int)).bind fun x55 =>
    some (.inl ((w64 (at_9_l7 + (min2 (w64 (r_0.Width - at_9_l7)) k_1.Board))), x55, x40, (min2 (w64 (r_0.Width - at_9_l7)) k_1.Board))))
    else (some (.inr (out_o8_0_l7, out_o8_1_l7, out_o8_2_l7)))
noncomputable def impl_makeRow (r_0 : S_Room) (k_1 : S_Stock) (first_2 : Int) : Option (S_row × Int) :=
  (impl_within first_2 k_1.Least k_1.Board).bind fun x15 =>
    if x15 = true then
    (if r_0.Width ≤ first_2 then
    (some ((⟨([r_0.Width] : List Int), ([] : List Int), r_0.Width⟩ : S_row), 0))
    else ((loopO (impl_makeRow_l7 k_1 r_0) (first_2, ([first_2] : List Int), ([] : List Int), 0)).bind fun o => match o with
    | (out_o8_0_e0_7, out_o8_1_e0_7, out_o8_2_e0_7) =>
    if out_o8_2_e0_7 < k_1.Least then
    (some ((⟨([] : List Int), ([] : List Int), 0⟩ : S_row), 6))
    else (some ((⟨out_o8_0_e0_7, out_o8_1_e0_7, out_o8_2_e0_7⟩ : S_row), 0))))
    else (some ((⟨([] : List Int), ([] : List Int), 0⟩ : S_row), 2))
noncomputable def impl_absolute (n_0 : Int) : Option Int :=
  some (max2 n_0 (w64 (0 - n_0)))
noncomputable def impl_staggered_l2 (a_0 : S_row) (b_1 : S_row) (k_2 : S_Stock) (s : (Int × Int)) : Option ((Int × Int) ⊕ (Unit ⊕ Bool)) :=
  match s with
    | (i_7_l2, n_8_l2) =>
    if (i_7_l2 < (a_0.joints.length : Int) ∧ n_8_l2 < (b_1.joints.length : Int)) then
    ((rd a_0.joints i_7_l2).bind fun x24 =>
    (rd b_1.joints n_8_l2).bind fun x29 =>
    (impl_absolute (w64 (x24 - x29))).bind fun x32 =>
    if x32 < k_2.Stagger then
    (some (.inr (.inr false)))
    else ((rd a_0.joints i_7_l2).bind fun x39 =>
    (rd b_1.joints n_8_l2).bind fun x44 =>
    if x39 < x44 then
    (some (.inl ((w64 (i_7_l2 + 1)), n_8_l2)))
    else (some (.inl (i_7_l2, (w64 (n_8_l2 + 1)))))))
    else (some (.inr (.inl ())))
noncomputable def impl_staggered (a_0 : S_row) (b_1 : S_row) (k_2 : S_Stock) : Option Bool :=
  (loopO (impl_staggered_l2 a_0 b_1 k_2) (0, 0)).bind fun o => match o with
    | (.inl _) => (some true)
    | (.inr r2) => (some r2)
noncomputable def impl_possible (r_0 : S_Room) (k_1 : S_Stock) (before_2 : (Option S_row)) (first_3 : Int) : Option (S_row × Bool) :=
  (impl_makeRow r_0 k_1 first_3).bind fun x16 =>
    (if x16.2 = 0 then
    (match before_2 with
    | none => (some true)
    | some ohc2 => ((impl_staggered ohc2 x16.1 k_1).bind fun x31 =>
    some x31))
    else (some false)).bind fun t_9_m2 =>
    some (x16.1, t_9_m2)
noncomputable def impl_row_left (x_0 : S_row) (k_1 : S_Stock) : Option Int :=
  if (x_0.pieces.length : Int) = 1 then
    (some 0)
    else (some (w64 (k_1.Board - x_0.last)))
noncomputable def impl_boards_k4 (out_7_r4 : Int) : Option Int :=
  some out_7_r4
noncomputable def impl_boards (before_0 : S_row) (x_1 : S_row) (k_2 : S_Stock) : Option Int :=
  (rd x_1.pieces 0).bind fun x13 =>
    (impl_row_left before_0 k_2).bind fun x17 =>
    if x13 ≤ x17 then
    (impl_boards_k4 (w64 ((x_1.pieces.length : Int) - 1)))
    else (impl_boards_k4 (x_1.pieces.length : Int))
noncomputable def impl_floorSearch_run_k6 (self : (S_floorSearch × (List Int) × (Option S_row) × Int) → Option (Bool × S_floorSearch)) (first_9_l5 : Int) (s_o0_0_r6 : Int) (s_o0_1_r6 : Int) (s_o0_2_r6 : Int) (s_o0_3_r6 : Int) (s_o0_4_r6 : Int) (s_o0_5_r6 : Int) (s_o0_6_r6 : Int) (s_o0_7_r6 : Int) (s_o0_8_r6 : Int) (s_o0_9_r6 : Bool) (s_o0_10_r6 : (List Int)) (s_o0_11_r6 : Int) : Option ((Int × Int × Int × Int × Int × Int × Int × Int × Int × Int × Bool × (List Int) × Int) ⊕ ((Int × Int × Int × Int × Int × Int × Int × Int × Int × Bool × (List Int) × Int) ⊕ (Bool × S_floorSearch))) :=
  some (.inl ((w64 (first_9_l5 - s_o0_6_r6)), s_o0_0_r6, s_o0_1_r6, s_o0_2_r6, s_o0_3_r6, s_o0_4_r6, s_o0_5_r6, s_o0_6_r6, s_o0_7_r6, s_o0_8_r6, s_o0_9_r6, s_o0_10_r6, s_o0_11_r6))
noncomputable def impl_floorSearch_run_k12 (self : (S_floorSearch × (List Int) × (Option S_row) × Int) → Option (Bool × S_floorSearch)) (first_9_l5 : Int) (firsts_1 : (List Int)) (s_o0_0_l5 : Int) (s_o0_10_l5 : (List Int)) (s_o0_11_l5 : Int) (s_o0_1_l5 : Int) (s_o0_2_l5 : Int) (s_o0_3_l5 : Int) (s_o0_4_l5 : Int) (s_o0_5_l5 : Int) (s_o0_6_l5 : Int) (s_o0_7_l5 : Int) (s_o0_8_l5 : Int) (s_o0_9_l5 : Bool) (x60 : (S_row × Bool)) (own_12_r12 : Int) : Option ((Int × Int × Int × Int × Int × Int × Int × Int × Int × Int × Bool × (List Int) × Int) ⊕ ((Int × Int × Int × Int × Int × Int × Int × Int × Int × Bool × (List Int) × Int) ⊕ (Bool × S_floorSearch))) :=
  if (s_o0_9_l5 = true ∧ own_12_r12 ≥ s_o0_11_l5) then
    (impl_floorSearch_run_k6 self first_9_l5 s_o0_0_l5 s_o0_1_l5 s_o0_2_l5 s_o0_3_l5 s_o0_4_l5 s_o0_5_l5 s_o0_6_l5 s_o0_7_l5 s_o0_8_l5 s_o0_9_l5 s_o0_10_l5 s_o0_11_l5)
    else (if s_o0_8_l5 = 0 then
    (some (.inr (.inr (true, (⟨(⟨s_o0_0_l5, s_o0_1_l5⟩ : S_Room), (⟨s_o0_2_l5, s_o0_3_l5, s_o0_4_l5, s_o0_5_l5⟩ : S_Stock), s_o0_6_l5, s_o0_7_l5, s_o0_8_l5, s_o0_9_l5, s_o0_10_l5, s_o0_11_l5⟩ : S_floorSearch)))))
    else ((apd 8 ([] : List Int) firsts_1).bind fun x109 =>
    (apd 8 x109 ([first_9_l5] : List Int)).bind fun x112 =>
    (self ((⟨(⟨s_o0_0_l5, s_o0_1_l5⟩ : S_Room), (⟨s_o0_2_l5, s_o0_3_l5, s_o0_4_l5, s_o0_5_l5⟩ : S_Stock), s_o0_6_l5, s_o0_7_l5, (w64 (s_o0_8_l5 - 1)), s_o0_9_l5, s_o0_10_l5, s_o0_11_l5⟩ : S_floorSearch), x112, (some x60.1), own_12_r12)).bind fun x114 =>
    if x114.1 = true then
    (some (.inr (.inr (true, x114.2))))
    else (impl_floorSearch_run_k6 self first_9_l5 x114.2.room.Width x114.2.room.Length x114.2.stock.Board x114.2.stock.Wide x114.2.stock.Least x114.2.stock.Stagger x114.2.step x114.2.rows x114.2.left x114.2.found x114.2.best x114.2.least)))
noncomputable def impl_floorSearch_run_l5 (self : (S_floorSearch × (List Int) × (Option S_row) × Int) → Option (Bool × S_floorSearch)) (before_2 : (Option S_row)) (firsts_1 : (List Int)) (sum_3 : Int) (s : (Int × Int × Int × Int × Int × Int × Int × Int × Int × Int × Bool × (List Int) × Int)) : Option ((Int × Int × Int × Int × Int × Int × Int × Int × Int × Int × Bool × (List Int) × Int) ⊕ ((Int × Int × Int × Int × Int × Int × Int × Int × Int × Bool × (List Int) × Int) ⊕ (Bool × S_floorSearch))) :=
  match s with
    | (first_9_l5, s_o0_0_l5, s_o0_1_l5, s_o0_2_l5, s_o0_3_l5, s_o0_4_l5, s_o0_5_l5, s_o0_6_l5, s_o0_7_l5, s_o0_8_l5, s_o0_9_l5, s_o0_10_l5, s_o0_11_l5) =>
    if first_9_l5 ≥ s_o0_4_l5 then
    ((impl_possible (⟨s_o0_0_l5, s_o0_1_l5⟩ : S_Room) (⟨s_o0_2_l5, s_o0_3_l5, s_o0_4_l5, s_o0_5_l5⟩ : S_Stock) before_2 first_9_l5).bind fun x60 =>
    if x60.2 = true then
    ((match before_2 with
    | none => (some false)
    | some ohc34 => (some true)).bind fun t_71_m10 =>
    if t_71_m10 = true then
    (match before_2 with
    | none => (none)
    | some ohc43 => ((impl_boards ohc43 x60.1 (⟨s_o0_2_l5, s_o0_3_l5, s_o0_4_l5, s_o0_5_l5⟩ : S_Stock)).bind fun x81 =>
    impl_floorSearch_run_k12 self first_9_l5 firsts_1 s_o0_0_l5 s_o0_10_l5 s_o0_11_l5 s_o0_1_l5 s_o0_2_l5 s_o0_3_l5 s_o0_4_l5 s_o0_5_l5 s_o0_6_l5 s_o0_7_l5 s_o0_8_l5 s_o0_9_l5 x60 (w64 (sum_3 + x81))))
    else (impl_floorSearch_run_k12 self first_9_l5 firsts_1 s_o0_0_l5 s_o0_10_l5 s_o0_11_l5 s_o0_1_l5 s_o0_2_l5 s_o0_3_l5 s_o0_4_l5 s_o0_5_l5 s_o0_6_l5 s_o0_7_l5 s_o0_8_l5 s_o0_9_l5 x60 (w64 (sum_3 + (x60.1.pieces.length : Int)))))
    else (impl_floorSearch_run_k6 self first_9_l5 s_o0_0_l5 s_o0_1_l5 s_o0_2_l5 s_o0_3_l5 s_o0_4_l5 s_o0_5_l5 s_o0_6_l5 s_o0_7_l5 s_o0_8_l5 s_o0_9_l5 s_o0_10_l5 s_o0_11_l5))
    else (some (.inr (.inl (s_o0_0_l5, s_o0_1_l5, s_o0_2_l5, s_o0_3_l5, s_o0_4_l5, s_o0_5_l5, s_o0_6_l5, s_o0_7_l5, s_o0_8_l5, s_o0_9_l5, s_o0_10_l5, s_o0_11_l5))))
noncomputable def impl_floorSearch_run_F (self : (S_floorSearch × (List Int) × (Option S_row) × Int) → Option (Bool × S_floorSearch)) (s_0 : S_floorSearch) (firsts_1 : (List Int)) (before_2 : (Option S_row)) (sum_3 : Int) : Option (Bool × S_floorSearch) :=
  if (firsts_1.length : Int) = s_0.rows then
    (some (false, (⟨s_0.room, s_0.stock, s_0.step, s_0.rows, s_0.left, true, firsts_1, sum_3⟩ : S_floorSearch)))
    else ((loopO (impl_floorSearch_run_l5 self before_2 firsts_1 sum_3) (s_0.stock.Board, s_0.room.Width, s_0.room.Length, s_0.stock.Board, s_0.stock.Wide, s_0.stock.Least, s_0.stock.Stagger, s_0.step, s_0.rows, s_0.left, s_0.found, s_0.best, s_0.least)).bind fun o => match o with
    | (.inl (s_o0_0_e0_5, s_o0_1_e0_5, s_o0_2_e0_5, s_o0_3_e0_5, s_o0_4_e0_5, s_o0_5_e0_5, s_o0_6_e0_5, s_o0_7_e0_5, s_o0_8_e0_5, s_o0_9_e0_5, s_o0_10_e0_5, s_o0_11_e0_5)) => (some (false, (⟨(⟨s_o0_0_e0_5, s_o0_1_e0_5⟩ : S_Room), (⟨s_o0_2_e0_5, s_o0_3_e0_5, s_o0_4_e0_5, s_o0_5_e0_5⟩ : S_Stock), s_o0_6_e0_5, s_o0_7_e0_5, s_o0_8_e0_5, s_o0_9_e0_5, s_o0_10_e0_5, s_o0_11_e0_5⟩ : S_floorSearch)))
    | (.inr r2) => (some r2))
noncomputable def impl_floorSearch_run (s_0 : S_floorSearch) (firsts_1 : (List Int)) (before_2 : (Option S_row)) (sum_3 : Int) : Option (Bool × S_floorSearch) := fixO (fun self s => match s with | (s_0, firsts_1, before_2, sum_3) => impl_floorSearch_run_F self s_0 firsts_1 before_2 sum_3) (s_0, firsts_1, before_2, sum_3)
noncomputable def impl_BestFloor_k4 (budget_3 : Int) (k_1 : S_Stock) (r_0 : S_Room) (step_2 : Int) (x17 : (Int × Int)) (code_12_r4 : Int) : Option ((List Int) × Int × Int) :=
  if code_12_r4 ≠ 0 then
    (some (([] : List Int), 0, code_12_r4))
    else ((impl_floorSearch_run (⟨r_0, k_1, step_2, x17.1, budget_3, false, ([] : List Int), 0⟩ : S_floorSearch) ([] : List Int) none 0).bind fun x46 =>
    if x46.1 = true then
    (some (([] : List Int), 0, 5))
    else (if x46.2.found = true then
    (some (x46.2.best, x46.2.least, 0))
    else (some (([] : List Int), 0, 3))))
noncomputable def impl_BestFloor (r_0 : S_Room) (k_1 : S_Stock) (step_2 : Int) (budget_3 : Int) : Option ((List Int) × Int × Int) :=
  (impl_RowCount r_0 k_1).bind fun x17 =>
    (if x17.2 = 0 then
    ((impl_within step_2 1 k_1.Board).bind fun x26 =>
    if x26 = true then
    ((impl_within budget_3 1 20000).bind fun x30 =>
    some (!x30))
    else (some true))
    else (some false)).bind fun t_33_m2 =>
    if t_33_m2 = true then
    (impl_BestFloor_k4 budget_3 k_1 r_0 step_2 x17 2)
    else (impl_BestFloor_k4 budget_3 k_1 r_0 step_2 x17 x17.2)
noncomputable def laws_eqInt64S_l4 (a_0 : (List Int)) (b_1 : (List Int)) (i_5_l4 : Int) : Option (Int ⊕ (Unit ⊕ Bool)) :=
  if i_5_l4 < (a_0.length : Int) then
    ((rd a_0 i_5_l4).bind fun x19 =>
    (rd b_1 i_5_l4).bind fun x23 =>
    if x19 ≠ x23 then
    (some (.inr (.inr false)))
    else (some (.inl (w64 (i_5_l4 + 1)))))
    else (some (.inr (.inl ())))
noncomputable def laws_eqInt64S (a_0 : (List Int)) (b_1 : (List Int)) : Option Bool :=
  if (a_0.length : Int) ≠ (b_1.length : Int) then
    (some false)
    else ((loopO (laws_eqInt64S_l4 a_0 b_1) 0).bind fun o => match o with
    | (.inl _) => (some true)
    | (.inr r2) => (some r2))
noncomputable def laws_markInt64S_l2 (s : (Int × Int × (List Int))) : Option ((Int × Int × (List Int)) ⊕ (Int × (List Int))) :=
  match s with
    | (k_1_l2, i_5_l2, a_o0_l2) =>
    if i_5_l2 < (a_o0_l2.length : Int) then
    ((rd a_o0_l2 i_5_l2).bind fun x15 =>
    some (.inl ((w64 (k_1_l2 + 1)), (w64 (i_5_l2 + 1)), (a_o0_l2.set i_5_l2.toNat k_1_l2))))
    else (some (.inr (k_1_l2, a_o0_l2)))
noncomputable def laws_markInt64S (a_0 : (List Int)) (k_1 : Int) : Option (Int × (List Int)) :=
  (loopO (laws_markInt64S_l2) (k_1, 0, a_0)).bind fun o => match o with
    | (k_1_e0_2, a_o0_e0_2) =>
    some (k_1_e0_2, a_o0_e0_2)
noncomputable def laws_heldInt64S_l2 (a_0 : (List Int)) (s : (Int × Int)) : Option ((Int × Int) ⊕ (Int ⊕ Int)) :=
  match s with
    | (k_1_l2, i_5_l2) =>
    if i_5_l2 < (a_0.length : Int) then
    ((rd a_0 i_5_l2).bind fun x14 =>
    if x14 ≠ k_1_l2 then
    (some (.inr (.inr (-1))))
    else (some (.inl ((w64 (k_1_l2 + 1)), (w64 (i_5_l2 + 1))))))
    else (some (.inr (.inl k_1_l2)))
noncomputable def laws_heldInt64S (a_0 : (List Int)) (k_1 : Int) : Option Int :=
  (loopO (laws_heldInt64S_l2 a_0) (k_1, 0)).bind fun o => match o with
    | (.inl k_1_e0_2) => (some k_1_e0_2)
    | (.inr r2) => (some r2)
noncomputable def laws_FnExactBestFloor (aR_0 : S_Room) (aK_1 : S_Stock) (aStep_2 : Int) (aBudget_3 : Int) : Option Bool :=
  (laws_toRoom aR_0).bind fun x22 =>
    (laws_toStock aK_1).bind fun x24 =>
    (spec_BestFloor x22 x24 aStep_2 aBudget_3).bind fun x27 =>
    (laws_toRoom aR_0).bind fun x33 =>
    (laws_toStock aK_1).bind fun x35 =>
    (impl_BestFloor x33 x35 aStep_2 aBudget_3).bind fun x38 =>
    (laws_eqInt64S x38.1 x27.1).bind fun x44 =>
    if (¬ (x44 = true) ∨ (x38.2.1 ≠ x27.2.1 ∨ x38.2.2 ≠ x27.2.2)) then
    (some false)
    else ((laws_markInt64S x38.1 1).bind fun x58 =>
    (laws_heldInt64S x58.2 1).bind fun x61 =>
    if x61 < 0 then
    (some false)
    else (if x61 ≠ x58.1 then
    (some false)
    else ((laws_toRoom aR_0).bind fun x69 =>
    (laws_toStock aK_1).bind fun x71 =>
    (impl_BestFloor x69 x71 aStep_2 aBudget_3).bind fun x74 =>
    (laws_eqInt64S x74.1 x27.1).bind fun x80 =>
    if (¬ (x80 = true) ∨ (x74.2.1 ≠ x27.2.1 ∨ x74.2.2 ≠ x27.2.2)) then
    (some false)
    else ((laws_heldInt64S x58.2 1).bind fun x94 =>
    if x94 < 0 then
    (some false)
    else (if x94 ≠ x58.1 then
    (some false)
    else (some true))))))

end Go.Pw
