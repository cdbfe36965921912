/- The plain law of FnExactBestFloor. Conditions: none. -/
import Derived.Test.YteglmkbkjaeijabTbfT
import Derived.Test.YteglmkbkjaeijabSimPx
namespace Go.Pw
set_option linter.unusedVariables false
set_option linter.unusedSimpArgs false

def Rm (r : S_Room) : Prop := (1 ≤ r.Width ∧ r.Width ≤ 20000) ∧ (1 ≤ r.Length ∧ r.Length ≤ 20000)
def Sk (k : S_Stock) : Prop := (10 ≤ k.Board ∧ k.Board ≤ 5000) ∧ (10 ≤ k.Wide ∧ k.Wide ≤ 1000) ∧ (1 ≤ k.Least ∧ k.Least ≤ k.Board) ∧ (0 ≤ k.Stagger ∧ k.Stagger ≤ w64 (k.Board.tdiv 2))

theorem within_eq (n a b : Int) : impl_within n a b = some (decide (a ≤ n ∧ n ≤ b)) := by
  unfold impl_within
  rw [Bool.decide_and]
theorem in_eq (n a b : Int) : spec_l00In n a b = some (decide (a ≤ n ∧ n ≤ b)) := by
  unfold spec_l00In
  rw [Bool.decide_and]

open Classical in
theorem gf_spec (r : S_Room) (k : S_Stock) : spec_l30Ok r k = some (decide (Rm r ∧ Sk k)) := by
  unfold spec_l30Ok spec_l30Room spec_l30Stock Rm Sk
  simp only [in_eq, Option.bind_some, decide_eq_true_eq]
  have e2 : dv .i64 k.Board 2 = some (w64 (k.Board.tdiv 2)) := by unfold dv; rw [if_neg (by decide)]
  rw [e2]
  by_cases c1 : 1 ≤ r.Width ∧ r.Width ≤ 20000 <;> by_cases c2 : 1 ≤ r.Length ∧ r.Length ≤ 20000 <;> by_cases c3 : 10 ≤ k.Board ∧ k.Board ≤ 5000 <;> by_cases c4 : 10 ≤ k.Wide ∧ k.Wide ≤ 1000 <;> by_cases c5 : 1 ≤ k.Least ∧ k.Least ≤ k.Board <;> simp [c1, c2, c3, c4, c5]

open Classical in
theorem gf_impl (r : S_Room) (k : S_Stock) : impl_roomCode r k = some (if Rm r ∧ Sk k then 0 else 1) := by
  unfold impl_roomCode impl_ValidRoom impl_ValidStock Rm Sk
  simp only [within_eq, Option.bind_some, decide_eq_true_eq]
  have e2 : dv .i64 k.Board 2 = some (w64 (k.Board.tdiv 2)) := by unfold dv; rw [if_neg (by decide)]
  rw [e2]
  by_cases c1 : 1 ≤ r.Width ∧ r.Width ≤ 20000 <;> by_cases c2 : 1 ≤ r.Length ∧ r.Length ≤ 20000 <;> by_cases c3 : 10 ≤ k.Board ∧ k.Board ≤ 5000 <;> by_cases c4 : 10 ≤ k.Wide ∧ k.Wide ≤ 1000 <;> by_cases c5 : 1 ≤ k.Least ∧ k.Least ≤ k.Board <;> by_cases c6 : 0 ≤ k.Stagger ∧ k.Stagger ≤ w64 (k.Board.tdiv 2) <;> simp [c1, c2, c3, c4, c5, c6]

theorem apd0 {l : List Int} (h : l.length ≤ 1000000) : apd 8 ([] : List Int) l = some l := by
  unfold apd
  rw [if_pos (by simp; omega)]
  rfl
theorem apd1 {l : List Int} {x : Int} (h : l.length ≤ 1000000) : apd 8 l [x] = some (l ++ [x]) := by
  unfold apd
  rw [if_pos (by simp; omega)]

/-- How many whole boards a row takes behind its first piece. -/
theorem gf_q {w B : Int} (hw : 1 ≤ w) (hB : 1 ≤ B) : ∃ q : Nat, (q : Int) * B < w ∧ w ≤ (q : Int) * B + B ∧ (q : Int) ≤ w := by
  have h0 : 0 ≤ (w - 1) / B := Int.ediv_nonneg (by omega) (by omega)
  refine ⟨((w - 1) / B).toNat, ?_⟩
  rw [Int.toNat_of_nonneg h0]
  have h1 : (w - 1) / B * B ≤ w - 1 := Int.ediv_mul_le _ (by omega)
  have h2 : w - 1 < ((w - 1) / B + 1) * B := Int.lt_ediv_add_one_mul_self _ (by omega)
  have h3 : (w - 1) / B ≤ w - 1 := Int.ediv_le_self _ (by omega)
  rw [Int.add_mul, Int.one_mul] at h2
  omega

theorem mul_mono {i q : Nat} {B : Int} (hB : 0 ≤ B) (h : i ≤ q) : (i : Int) * B ≤ (q : Int) * B := Int.mul_le_mul_of_nonneg_right (by omega) hB

theorem gf_piecesL {k : S_Stock} {w f : Int} {q : Nat} (hB : 1 ≤ k.Board) (hB2 : k.Board ≤ 5000) (hw : w ≤ 20000) (h1 : (q : Int) * k.Board < w) (h2 : w ≤ (q : Int) * k.Board + k.Board) (hq : (q : Int) ≤ w) :
    loopO (spec_l30Pieces_l7 k) (w, [f]) = some (w - (q : Int) * k.Board, f :: List.replicate q k.Board) := by
  have := loopO_for (fun i : Nat => (w - (i : Int) * k.Board, f :: List.replicate i k.Board)) q (f := spec_l30Pieces_l7 k) (r := (w - (q : Int) * k.Board, f :: List.replicate q k.Board)) (fun i hi => ?_) ?_
  · simpa using this
  · unfold spec_l30Pieces_l7
    simp only
    have m1 := mul_mono (B := k.Board) (by omega) (show i + 1 ≤ q by omega)
    have m2 : ((i + 1 : Nat) : Int) * k.Board = (i : Int) * k.Board + k.Board := by rw [Int.natCast_add, Int.add_mul]; simp
    have m3 : 0 ≤ (i : Int) * k.Board := Int.mul_nonneg (by omega) (by omega)
    rw [if_pos (by omega), apd1 (by simp; omega), Option.bind_some, w64_id (by omega) (by omega), m2, List.replicate_succ', List.cons_append]
    congr 3
    omega
  · unfold spec_l30Pieces_l7
    simp only
    rw [if_neg (by omega)]

/-- The joints of a row. -/
def jts (f B : Int) (n : Nat) : List Int := (List.range n).map fun j : Nat => f + (j : Int) * B
theorem jts_succ (f B : Int) (n : Nat) : jts f B (n + 1) = jts f B n ++ [f + (n : Int) * B] := by
  unfold jts
  rw [List.range_succ, List.map_append]
  rfl
theorem jts_length (f B : Int) (n : Nat) : (jts f B n).length = n := by simp [jts]

theorem gf_rowL {k : S_Stock} {r : S_Room} {f : Int} {q : Nat} (hB : 1 ≤ k.Board) (hB2 : k.Board ≤ 5000) (hf : 1 ≤ f) (hW : r.Width ≤ 20000) (h1 : (q : Int) * k.Board < r.Width - f) (h2 : r.Width - f ≤ (q : Int) * k.Board + k.Board) (hq : (q : Int) ≤ r.Width - f) :
    loopO (impl_makeRow_l7 k r) (f, [f], [], 0) = some (f :: (List.replicate q k.Board ++ [r.Width - f - (q : Int) * k.Board]), jts f k.Board (q + 1), r.Width - f - (q : Int) * k.Board) := by
  have := loopO_for (fun i : Nat => if i ≤ q then (f + (i : Int) * k.Board, f :: List.replicate i k.Board, jts f k.Board i, if i = 0 then (0 : Int) else k.Board) else (r.Width, f :: (List.replicate q k.Board ++ [r.Width - f - (q : Int) * k.Board]), jts f k.Board (q + 1), r.Width - f - (q : Int) * k.Board))
    (q + 1) (f := impl_makeRow_l7 k r) (r := (f :: (List.replicate q k.Board ++ [r.Width - f - (q : Int) * k.Board]), jts f k.Board (q + 1), r.Width - f - (q : Int) * k.Board)) (fun i hi => ?_) ?_
  · simpa [jts] using this
  · have hiq : i ≤ q := by omega
    rw [if_pos hiq]
    unfold impl_makeRow_l7
    simp only
    have m0 := mul_mono (B := k.Board) (by omega) hiq
    have m3 : 0 ≤ (i : Int) * k.Board := Int.mul_nonneg (by omega) (by omega)
    have m2 : ((i + 1 : Nat) : Int) * k.Board = (i : Int) * k.Board + k.Board := by rw [Int.natCast_add, Int.add_mul]; simp
    have e1 : w64 (r.Width - (f + (i : Int) * k.Board)) = r.Width - f - (i : Int) * k.Board := by rw [w64_id (by omega) (by omega)]; omega
    rw [if_pos (by omega), apd1 (by rw [jts_length]; omega), Option.bind_some, apd1 (by simp; omega), Option.bind_some, e1, ← jts_succ]
    by_cases c : i < q
    · have m1 := mul_mono (B := k.Board) (by omega) (show i + 1 ≤ q by omega)
      have e2 : Go.Sim.min2 (r.Width - f - (i : Int) * k.Board) k.Board = k.Board := by unfold Go.Sim.min2; split <;> omega
      rw [e2, if_pos (by omega), w64_id (by omega) (by omega), m2, if_neg (by omega), List.cons_append, ← List.replicate_succ']
      congr 3
      omega
    · obtain rfl : i = q := by omega
      have e2 : Go.Sim.min2 (r.Width - f - (i : Int) * k.Board) k.Board = r.Width - f - (i : Int) * k.Board := by unfold Go.Sim.min2; split <;> omega
      rw [e2, if_neg (by omega), w64_id (by omega) (by omega), List.cons_append]
      congr 3
      omega
  · rw [if_neg (by omega)]
    unfold impl_makeRow_l7
    simp

theorem gf_joints {f B l : Int} {q : Nat} (hB : 1 ≤ B) (hB2 : B ≤ 5000) (hf : 0 ≤ f) (hf2 : f ≤ 20000) (hq : q ≤ 20000) (hb : (q : Int) * B ≤ 20000) :
    spec_l30Joints (f :: (List.replicate q B ++ [l])) = some (jts f B (q + 1)) := by
  unfold spec_l30Joints
  have hlen : (f :: (List.replicate q B ++ [l])).length = q + 2 := by simp
  have := loopO_for (fun i : Nat => ((if i = 0 then (0 : Int) else f + ((i - 1 : Nat) : Int) * B), (i : Int), jts f B i)) (q + 1) (f := spec_l30Joints_l4 (f :: (List.replicate q B ++ [l]))) (r := jts f B (q + 1)) (fun i hi => ?_) ?_
  · have h0 : ((0 : Int), (0 : Int), ([] : List Int)) = (fun i : Nat => ((if i = 0 then (0 : Int) else f + ((i - 1 : Nat) : Int) * B), (i : Int), jts f B i)) 0 := by simp [jts]
    rw [h0, this]
    rfl
  · unfold spec_l30Joints_l4
    simp only [hlen]
    have m0 := mul_mono (B := B) (by omega) (show i ≤ q by omega)
    have m3 : 0 ≤ (i : Int) * B := Int.mul_nonneg (by omega) (by omega)
    rw [w64_succ (by omega), if_pos (by omega), rd_nat]
    by_cases c : i = 0
    · subst c
      simp only [if_true, List.getElem?_cons_zero, Option.bind_some]
      rw [apd1 (by simp [jts]), Option.bind_some, w64_id (by omega) (by omega), jts_succ]
      simp
    · obtain ⟨j, rfl⟩ : ∃ j, i = j + 1 := ⟨i - 1, by omega⟩
      have hg : (f :: (List.replicate q B ++ [l]))[j + 1]? = some B := by
        rw [List.getElem?_cons_succ, List.getElem?_append_left (by simp; omega), List.getElem?_replicate, if_pos (by omega)]
      have m2 : ((j + 1 : Nat) : Int) * B = (j : Int) * B + B := by rw [Int.natCast_add, Int.add_mul]; simp
      rw [hg, Option.bind_some, if_neg (by omega), Nat.add_sub_cancel, apd1 (by rw [jts_length]; omega), Option.bind_some, w64_id (by omega) (by omega), jts_succ f B (j + 1), m2, if_neg (by omega), Nat.add_sub_cancel, m2]
      congr 3
      · omega
      · congr 1
        congr 1
        congr 1
        omega
  · unfold spec_l30Joints_l4
    simp only [hlen]
    rw [w64_succ (by omega), if_neg (by omega)]

/-- What a row of the program is, as the reference sees it. -/
structure Fits (k : S_Stock) (x : S_row) : Prop where
  joints : spec_l30Joints x.pieces = some x.joints
  small : ∀ y ∈ x.joints, 0 ≤ y ∧ y ≤ 40000
  few : x.joints.length ≤ 20001
  left : ∃ v, spec_l30Left k x.pieces = some v ∧ impl_row_left x k = some v
  head : ∃ p, x.pieces[0]? = some p ∧ 1 ≤ p
  len : x.pieces.length ≤ 20002

theorem gf_row {r : S_Room} {k : S_Stock} (hr : Rm r) (hk : Sk k) (f : Int) :
    ∃ (x : S_row) (c : Int), spec_l30Pieces r k f = some (x.pieces, c) ∧ impl_makeRow r k f = some (x, c) ∧ (c = 0 → Fits k x ∧ k.Least ≤ f ∧ f ≤ k.Board) := by
  obtain ⟨⟨w1, w2⟩, _⟩ := hr
  obtain ⟨⟨b1, b2⟩, _, ⟨l1, l2⟩, _⟩ := hk
  unfold spec_l30Pieces impl_makeRow
  simp only [in_eq, within_eq, Option.bind_some, decide_eq_true_eq]
  by_cases c1 : k.Least ≤ f ∧ f ≤ k.Board
  · rw [if_pos c1, if_pos c1]
    by_cases c2 : r.Width ≤ f
    · rw [if_pos c2, if_pos c2]
      refine ⟨_, _, rfl, rfl, fun _ => ⟨⟨?_, (fun y hy => by cases hy), Nat.zero_le _, ?_, ⟨r.Width, rfl, w1⟩, by simp⟩, c1⟩⟩
      · unfold spec_l30Joints
        rw [loopO_done (r := []) (by unfold spec_l30Joints_l4; simp [show w64 1 = 1 from w64_id (by omega) (by omega)])]
        rfl
      · exact ⟨0, by simp [spec_l30Left], by simp [impl_row_left]⟩
    · rw [if_neg c2, if_neg c2]
      obtain ⟨q, q1, q2, q3⟩ := gf_q (w := r.Width - f) (B := k.Board) (by omega) (by omega)
      rw [w64_id (by omega) (by omega), gf_piecesL (by omega) b2 (by omega) q1 q2 q3, gf_rowL (by omega) b2 (by omega) w2 q1 q2 q3]
      simp only [Option.bind_some]
      by_cases c3 : r.Width - f - (q : Int) * k.Board < k.Least
      · rw [if_pos c3, if_pos c3]
        exact ⟨_, _, rfl, rfl, fun h => by cases h⟩
      · rw [if_neg c3, if_neg c3, apd1 (by simp; omega), Option.bind_some]
        refine ⟨⟨f :: (List.replicate q k.Board ++ [r.Width - f - (q : Int) * k.Board]), jts f k.Board (q + 1), r.Width - f - (q : Int) * k.Board⟩, 0, by simp, rfl, fun _ => ⟨⟨?_, ?_, ?_, ?_, ⟨f, rfl, by omega⟩, by simp; omega⟩, c1⟩⟩
        · exact gf_joints (by omega) b2 (by omega) (by omega) (by omega) (by omega)
        · intro y hy
          obtain ⟨j, hj, rfl⟩ := List.mem_map.1 hy
          have hj := List.mem_range.1 hj
          have m1 := mul_mono (B := k.Board) (by omega) (show j ≤ q by omega)
          have m3 : 0 ≤ (j : Int) * k.Board := Int.mul_nonneg (by omega) (by omega)
          omega
        · show (jts f k.Board (q + 1)).length ≤ _
          rw [jts_length]; omega
        · refine ⟨w64 (k.Board - (r.Width - f - (q : Int) * k.Board)), ?_, ?_⟩
          · unfold spec_l30Left
            have hlen : (f :: (List.replicate q k.Board ++ [r.Width - f - (q : Int) * k.Board])).length = q + 2 := by simp
            simp only [hlen]
            rw [if_neg (by omega), w64_id (by omega) (by omega), show ((q + 2 : Nat) : Int) - 1 = ((q + 1 : Nat) : Int) by omega, rd_nat, List.getElem?_cons_succ, List.getElem?_append_right (by simp)]
            simp
          · unfold impl_row_left
            rw [if_neg (by simp; omega)]
  · rw [if_neg c1, if_neg c1]
    exact ⟨_, _, rfl, rfl, fun h => by cases h⟩

theorem gf_apartL {k : S_Stock} {a b : S_row} (ha : ∀ y ∈ a.joints, 0 ≤ y ∧ y ≤ 40000) (hb : ∀ y ∈ b.joints, 0 ≤ y ∧ y ≤ 40000) (la : a.joints.length ≤ 20001) (lb : b.joints.length ≤ 20001) :
    ∀ (n i j : Nat), (a.joints.length - i) + (b.joints.length - j) ≤ n → ∃ o, loopO (spec_l30Apart_l5 k a.joints b.joints) ((i : Int), (j : Int)) = some o ∧ loopO (impl_staggered_l2 a b k) ((i : Int), (j : Int)) = some o := by
  intro n
  induction n with
  | zero =>
    intro i j h
    refine ⟨.inl (), loopO_done ?_, loopO_done ?_⟩
    · unfold spec_l30Apart_l5
      simp only
      rw [if_neg (by omega)]
    · unfold impl_staggered_l2
      simp only
      rw [if_neg (by omega)]
  | succ n ih =>
    intro i j h
    by_cases c : i < a.joints.length ∧ j < b.joints.length
    · obtain ⟨hi, hj⟩ := c
      obtain ⟨x1, x2⟩ := ha _ (List.getElem_mem hi)
      obtain ⟨y1, y2⟩ := hb _ (List.getElem_mem hj)
      generalize hx : a.joints[i] = x at x1 x2
      generalize hy : b.joints[j] = y at y1 y2
      have e1 : w64 (x - y) = x - y := w64_id (by omega) (by omega)
      have e2 : w64 (y - x) = y - x := w64_id (by omega) (by omega)
      have e3 : w64 (0 - (x - y)) = y - x := by rw [w64_id (by omega) (by omega)]; omega
      obtain ⟨m, hm1, hm2⟩ : ∃ m, spec_l00Max (x - y) (y - x) = some m ∧ impl_absolute (x - y) = some m := by
        unfold spec_l00Max impl_absolute Go.Sim.max2
        rw [e3]
        by_cases c : x - y > y - x
        · rw [if_pos c, if_neg (by omega)]; exact ⟨_, rfl, rfl⟩
        · rw [if_neg c]
          by_cases c' : y - x > x - y
          · rw [if_pos c']; exact ⟨_, rfl, rfl⟩
          · rw [if_neg c', show x - y = y - x by omega]; exact ⟨_, rfl, rfl⟩
      have f1 : spec_l30Apart_l5 k a.joints b.joints ((i : Int), (j : Int)) = if m < k.Stagger then some (.inr (.inr false)) else if x < y then some (.inl (((i + 1 : Nat) : Int), (j : Int))) else some (.inl ((i : Int), ((j + 1 : Nat) : Int))) := by
        unfold spec_l30Apart_l5
        simp only [rd_lt hi, rd_lt hj, Option.bind_some, hx, hy, e1, e2, hm1]
        rw [if_pos (by omega), w64_succ (by omega), w64_succ (by omega)]
      have f2 : impl_staggered_l2 a b k ((i : Int), (j : Int)) = if m < k.Stagger then some (.inr (.inr false)) else if x < y then some (.inl (((i + 1 : Nat) : Int), (j : Int))) else some (.inl ((i : Int), ((j + 1 : Nat) : Int))) := by
        unfold impl_staggered_l2
        simp only [rd_lt hi, rd_lt hj, Option.bind_some, hx, hy, e1, e2, hm2]
        rw [if_pos (by omega), w64_succ (by omega), w64_succ (by omega)]
      by_cases c1 : m < k.Stagger
      · rw [if_pos c1] at f1 f2
        exact ⟨_, loopO_done f1, loopO_done f2⟩
      · rw [if_neg c1] at f1 f2
        by_cases c2 : x < y
        · rw [if_pos c2] at f1 f2
          obtain ⟨o, o1, o2⟩ := ih (i + 1) j (by omega)
          exact ⟨o, by rw [loopO_next f1]; exact o1, by rw [loopO_next f2]; exact o2⟩
        · rw [if_neg c2] at f1 f2
          obtain ⟨o, o1, o2⟩ := ih i (j + 1) (by omega)
          exact ⟨o, by rw [loopO_next f1]; exact o1, by rw [loopO_next f2]; exact o2⟩
    · refine ⟨.inl (), loopO_done ?_, loopO_done ?_⟩
      · unfold spec_l30Apart_l5
        simp only
        rw [if_neg (by omega)]
      · unfold impl_staggered_l2
        simp only
        rw [if_neg (by omega)]

theorem gf_apart {k : S_Stock} {a b : S_row} (ha : Fits k a) (hb : Fits k b) : ∃ v, spec_l30Apart k a.pieces b.pieces = some v ∧ impl_staggered a b k = some v := by
  obtain ⟨o, o1, o2⟩ := gf_apartL (k := k) ha.small hb.small ha.few hb.few _ 0 0 (Nat.le_refl _)
  unfold spec_l30Apart impl_staggered
  have o1' : loopO (spec_l30Apart_l5 k a.joints b.joints) (0, 0) = some o := o1
  have o2' : loopO (impl_staggered_l2 a b k) (0, 0) = some o := o2
  rw [ha.joints, hb.joints, Option.bind_some, Option.bind_some, o1', o2']
  cases o with
  | inl u => exact ⟨true, rfl, rfl⟩
  | inr v => exact ⟨v, rfl, rfl⟩

/-- Nothing is staggered against no row. -/
theorem gf_apart0 {k : S_Stock} {b : S_row} (hb : Fits k b) : spec_l30Apart k [] b.pieces = some true := by
  unfold spec_l30Apart
  have e : spec_l30Joints [] = some [] := by
    unfold spec_l30Joints
    rw [loopO_done (r := []) (by unfold spec_l30Joints_l4; simp [show w64 1 = 1 from w64_id (by omega) (by omega)])]
    rfl
  rw [e, hb.joints, Option.bind_some, Option.bind_some, loopO_done (r := .inl ()) (by unfold spec_l30Apart_l5; simp)]
  rfl

/-- The row before, as both sides hold it. -/
def Bef (k : S_Stock) (last : List Int) : Option S_row → Prop
  | none => last = []
  | some x => Fits k x ∧ last = x.pieces

/-- A first piece is tried. -/
theorem gf_try {r : S_Room} {k : S_Stock} (hr : Rm r) (hk : Sk k) {last : List Int} {bf : Option S_row} (hb : Bef k last bf) (f : Int) :
    ∃ (x : S_row) (c : Int) (v : Bool), spec_l30Pieces r k f = some (x.pieces, c) ∧ (if c = 0 then (spec_l30Apart k last x.pieces).bind fun y => some y else some false) = some v ∧ impl_possible r k bf f = some (x, v) ∧ (v = true → Fits k x ∧ k.Least ≤ f ∧ f ≤ k.Board) := by
  obtain ⟨x, c, h1, h2, h3⟩ := gf_row hr hk f
  unfold impl_possible
  rw [h2]
  simp only [Option.bind_some]
  by_cases hc : c = 0
  · obtain ⟨h4, h5⟩ := h3 hc
    rw [if_pos hc]
    cases bf with
    | none =>
      obtain rfl : last = [] := hb
      exact ⟨x, c, true, h1, by rw [if_pos hc, gf_apart0 h4]; rfl, rfl, fun _ => ⟨h4, h5⟩⟩
    | some y =>
      obtain ⟨hy, rfl⟩ := hb
      obtain ⟨v, v1, v2⟩ := gf_apart hy h4
      exact ⟨x, c, v, h1, by rw [if_pos hc, v1]; rfl, by simp only [v2, Option.bind_some], fun _ => ⟨h4, h5⟩⟩
  · rw [if_neg hc]
    exact ⟨x, c, false, h1, by rw [if_neg hc], rfl, fun h => by cases h⟩

/-- How many boards a row takes, on both sides. -/
theorem bf_boards {k : S_Stock} {last : List Int} {bf : Option S_row} {x : S_row} (hx : Fits k x) (hb : Bef k last bf) :
    ∃ c : Int, spec_l30Boards k last x.pieces = some c ∧ 0 ≤ c ∧ c ≤ 20002 ∧ (match (generalizing := false) bf with | none => c = x.pieces.length | some y => impl_boards y x k = some c) := by
  obtain ⟨p, hp, hp1⟩ := hx.head
  have hlen : 1 ≤ x.pieces.length := by
    have := (List.getElem?_eq_some_iff.1 hp).1
    omega
  have hl2 := hx.len
  have hr : rd x.pieces 0 = some p := by rw [← hp]; exact rd_nat _ 0
  cases bf with
  | none =>
    obtain rfl : last = [] := hb
    refine ⟨x.pieces.length, ?_, by omega, by omega, rfl⟩
    unfold spec_l30Boards spec_l30Boards_k4
    rw [hr, Option.bind_some, show spec_l30Left k [] = some 0 by simp [spec_l30Left], Option.bind_some, if_neg (by omega)]
  | some y =>
    obtain ⟨hy, rfl⟩ := hb
    obtain ⟨v, v1, v2⟩ := hy.left
    have e : w64 ((x.pieces.length : Int) - 1) = (x.pieces.length : Int) - 1 := w64_id (by omega) (by omega)
    refine ⟨if p ≤ v then (x.pieces.length : Int) - 1 else x.pieces.length, ?_, by split <;> omega, by split <;> omega, ?_⟩
    · unfold spec_l30Boards spec_l30Boards_k4
      rw [hr, Option.bind_some, v1, Option.bind_some, e]
      split <;> rfl
    · show impl_boards y x k = _
      unfold impl_boards impl_boards_k4
      rw [hr, Option.bind_some, v2, Option.bind_some, e]
      split <;> rfl

abbrev FS := (S_l30Search × List Int × Int) → Option S_l30Search
abbrev FI := (S_floorSearch × List Int × Option S_row × Int) → Option (Bool × S_floorSearch)

abbrev ss (r : S_Room) (k : S_Stock) (n step b : Int) (F best : List Int) (least nodes : Int) (full : Bool) : S_l30Search := ⟨r, k, n, step, F, best, least, nodes, b, full⟩
abbrev is (r : S_Room) (k : S_Stock) (n step left : Int) (found : Bool) (best : List Int) (lst : Int) : S_floorSearch := ⟨r, k, step, n, left, found, best, lst⟩
abbrev ts (r : S_Room) (k : S_Stock) (n step b f : Int) (F best : List Int) (least nodes : Int) (full : Bool) := (f, r.Width, r.Length, k.Board, k.Wide, k.Least, k.Stagger, n, step, F, best, least, nodes, b, full)
abbrev ti (r : S_Room) (k : S_Stock) (n step f left : Int) (found : Bool) (best : List Int) (lst : Int) := (f, r.Width, r.Length, k.Board, k.Wide, k.Least, k.Stagger, step, n, left, found, best, lst)
abbrev tu (r : S_Room) (k : S_Stock) (n step left : Int) (found : Bool) (best : List Int) (lst : Int) := (r.Width, r.Length, k.Board, k.Wide, k.Least, k.Stagger, step, n, left, found, best, lst)

section
variable {r : S_Room} {k : S_Stock} {n step b : Int}

theorem bf_sl (self : FS) (sum : Int) (last : List Int) (x0 : S_l30Search) (f : Int) (F best : List Int) (least nodes : Int) (full : Bool) :
    spec_l30Search_run_l5 self sum last x0 (ts r k n step b f F best least nodes full) =
    if (f ≥ k.Least ∧ ¬ (full = true)) then
      ((spec_l30Pieces r k f).bind fun x => (if x.2 ≠ 0 then (some true) else ((spec_l30Apart k last x.1).bind fun y => some (!y))).bind fun t =>
        if t = true then some (.inl (ts r k n step b (w64 (f - step)) F best least nodes full))
        else ((spec_l30Boards k last x.1).bind fun c =>
          if (least ≥ 0 ∧ (w64 (sum + c)) ≥ least) then some (.inl (ts r k n step b (w64 (f - step)) F best least nodes full))
          else (if nodes = b then some (.inr (.inr (ss r k n step b F best least nodes true)))
          else ((apd 8 F [f]).bind fun F2 => (self (ss r k n step b F2 best least (w64 (nodes + 1)) full, x.1, w64 (sum + c))).bind fun z =>
            (slc z.firsts 0 (x0.firsts.length : Int)).bind fun _ =>
              some (.inl (w64 (f - z.step), z.r.Width, z.r.Length, z.k.Board, z.k.Wide, z.k.Least, z.k.Stagger, z.n, z.step, ((z.firsts.take ((x0.firsts.length : Int).toNat)).drop 0), z.best, z.least, z.nodes, z.budget, z.full))))))
    else some (.inr (.inl (ss r k n step b F best least nodes full))) := rfl

/-- What comes behind the boards that a row takes. -/
abbrev bf_own (self : FI) (r : S_Room) (k : S_Stock) (n step : Int) (F : List Int) (f left : Int) (found : Bool) (best : List Int) (lst : Int) (x : S_row) (own : Int) : Option ((Int × Int × Int × Int × Int × Int × Int × Int × Int × Int × Bool × (List Int) × Int) ⊕ ((Int × Int × Int × Int × Int × Int × Int × Int × Int × Bool × (List Int) × Int) ⊕ (Bool × S_floorSearch))) :=
  if (found = true ∧ own ≥ lst) then some (.inl (ti r k n step (w64 (f - step)) left found best lst))
  else (if left = 0 then some (.inr (.inr (true, is r k n step left found best lst)))
  else ((apd 8 ([] : List Int) F).bind fun F1 => (apd 8 F1 [f]).bind fun F2 => (self (is r k n step (w64 (left - 1)) found best lst, F2, some x, own)).bind fun z =>
    if z.1 = true then some (.inr (.inr (true, z.2)))
    else some (.inl (w64 (f - z.2.step), z.2.room.Width, z.2.room.Length, z.2.stock.Board, z.2.stock.Wide, z.2.stock.Least, z.2.stock.Stagger, z.2.step, z.2.rows, z.2.left, z.2.found, z.2.best, z.2.least))))

theorem bf_il (self : FI) (bf : Option S_row) (F : List Int) (sum f left : Int) (found : Bool) (best : List Int) (lst : Int) :
    impl_floorSearch_run_l5 self bf F sum (ti r k n step f left found best lst) =
    if f ≥ k.Least then
      ((impl_possible r k bf f).bind fun x => if x.2 = true then
        ((match bf with | none => (some false) | some _ => (some true)).bind fun t =>
          if t = true then (match bf with | none => none | some y => ((impl_boards y x.1 k).bind fun c => bf_own self r k n step F f left found best lst x.1 (w64 (sum + c))))
          else bf_own self r k n step F f left found best lst x.1 (w64 (sum + (x.1.pieces.length : Int))))
        else some (.inl (ti r k n step (w64 (f - step)) left found best lst)))
    else some (.inr (.inl (tu r k n step left found best lst))) := by
  cases bf <;> rfl

theorem fs_spec (x : S_l30Search) (l : List Int) (c : Int) : Fs (fun self : FS => spec_l30Search_run_F self x l c) := by
  unfold spec_l30Search_run_F
  refine Fs.ite (Fs.const _) (Fs.bind (Fs.loop (fun s => ?_) _) fun o => ?_)
  · unfold spec_l30Search_run_l5 spec_l30Search_run_k6
    obtain ⟨a1, a2, a3, a4, a5, a6, a7, a8, a9, a10, a11, a12, a13, a14, a15⟩ := s
    exact Fs.ite (Fs.bind (Fs.const _) fun _ => Fs.bind (Fs.const _) fun _ => Fs.ite (Fs.const _) (Fs.bind (Fs.const _) fun _ => Fs.ite (Fs.const _) (Fs.ite (Fs.const _) (Fs.bind (Fs.const _) fun _ => Fs.bind (Fs.app _) fun _ => Fs.const _)))) (Fs.const _)
  · exact Fs.const _

theorem fs_impl (x : S_floorSearch) (F : List Int) (bf : Option S_row) (c : Int) : Fs (fun self : FI => impl_floorSearch_run_F self x F bf c) := by
  unfold impl_floorSearch_run_F
  refine Fs.ite (Fs.const _) (Fs.bind (Fs.loop (fun s => ?_) _) fun o => ?_)
  · unfold impl_floorSearch_run_l5 impl_floorSearch_run_k12 impl_floorSearch_run_k6
    obtain ⟨a1, a2, a3, a4, a5, a6, a7, a8, a9, a10, a11, a12, a13⟩ := s
    have own : ∀ (y : S_row) (w : Int), Fs (fun self : FI => bf_own self ⟨a2, a3⟩ ⟨a4, a5, a6, a7⟩ a9 a8 F a1 a10 a11 a12 a13 y w) := fun y w => Fs.ite (Fs.const _) (Fs.ite (Fs.const _) (Fs.bind (Fs.const _) fun _ => Fs.bind (Fs.const _) fun _ => Fs.bind (Fs.app _) fun z => by
      by_cases hz : z.1 = true
      · simp only [if_pos hz]; exact Fs.const _
      · simp only [if_neg hz]; exact Fs.const _))
    cases bf with
    | none => exact Fs.ite (Fs.bind (Fs.const _) fun x => Fs.ite (Fs.bind (Fs.const _) fun t => Fs.ite (Fs.const _) (own x.1 _)) (Fs.const _)) (Fs.const _)
    | some y => exact Fs.ite (Fs.bind (Fs.const _) fun x => Fs.ite (Fs.bind (Fs.const _) fun t => Fs.ite (Fs.bind (Fs.const _) fun _ => own x.1 _) (own x.1 _)) (Fs.const _)) (Fs.const _)
  · exact Fs.const _

theorem bf_specE (x : S_l30Search) (l : List Int) (c : Int) : spec_l30Search_run x l c = spec_l30Search_run_F (fun s => spec_l30Search_run s.1 s.2.1 s.2.2) x l c := by
  show fixO _ _ = _
  rw [fixO_eq]
  · rfl
  · rintro ⟨x, l, c⟩
    exact fs_spec x l c

theorem bf_implE (x : S_floorSearch) (F : List Int) (bf : Option S_row) (c : Int) : impl_floorSearch_run x F bf c = impl_floorSearch_run_F (fun s => impl_floorSearch_run s.1 s.2.1 s.2.2.1 s.2.2.2) x F bf c := by
  show fixO _ _ = _
  rw [fixO_eq]
  · rfl
  · rintro ⟨x, F, bf, c⟩
    exact fs_impl x F bf c
end

/-- What both searches know alike. -/
def Iv (b : Int) (best : List Int) (least nodes : Int) (found : Bool) (lst : Int) : Prop :=
  0 ≤ nodes ∧ nodes ≤ b ∧ best.length ≤ 40 ∧ (found = false ∧ least = -1 ∨ found = true ∧ least = lst ∧ 0 ≤ lst)

def Ot (r : S_Room) (k : S_Stock) (n step b : Int) (F : List Int) (s' : S_l30Search) (spent : Bool) (t' : S_floorSearch) : Prop :=
  ∃ best least nodes found lst, s' = ss r k n step b F best least nodes spent ∧ (spent = false → t' = is r k n step (b - nodes) found best lst ∧ Iv b best least nodes found lst)

noncomputable abbrev SS : FS := fun s => spec_l30Search_run s.1 s.2.1 s.2.2
noncomputable abbrev SI : FI := fun s => impl_floorSearch_run s.1 s.2.1 s.2.2.1 s.2.2.2

theorem bf_loop {r : S_Room} {k : S_Stock} (hr : Rm r) (hk : Sk k) {N : Nat} {step b : Int} (hN : N ≤ 40) (hs1 : 1 ≤ step) (hs2 : step ≤ 5000) (hb1 : 1 ≤ b) (hb2 : b ≤ 20000)
    {F : List Int} {last : List Int} {bf : Option S_row} {sum : Int} (hB : Bef k last bf) (hF : F.length + 1 ≤ N) (h0 : 0 ≤ sum) (h1 : sum ≤ 20002 * F.length) {x0 : S_l30Search} (hx0 : x0.firsts = F)
    (IH : ∀ (F' : List Int) (last : List Int) (bf : Option S_row) (sum : Int) (best : List Int) (least nodes : Int) (found : Bool) (lst : Int), F'.length = F.length + 1 → Bef k last bf → Iv b best least nodes found lst → 0 ≤ sum → sum ≤ 20002 * F'.length →
      ∃ s' spent t', spec_l30Search_run (ss r k N step b F' best least nodes false) last sum = some s' ∧ impl_floorSearch_run (is r k N step (b - nodes) found best lst) F' bf sum = some (spent, t') ∧ Ot r k N step b F' s' spent t') :
    ∀ (m : Nat) (f : Int) (best : List Int) (least nodes : Int) (found : Bool) (lst : Int), (f - k.Least + 1).toNat ≤ m → -5000 ≤ f → f ≤ 5000 → Iv b best least nodes found lst →
      (∃ best' least' nodes' found' lst', loopO (spec_l30Search_run_l5 SS sum last x0) (ts r k N step b f F best least nodes false) = some (.inl (ss r k N step b F best' least' nodes' false)) ∧
        loopO (impl_floorSearch_run_l5 SI bf F sum) (ti r k N step f (b - nodes) found best lst) = some (.inl (tu r k N step (b - nodes') found' best' lst')) ∧ Iv b best' least' nodes' found' lst') ∨
      (∃ best' least' nodes' t', (loopO (spec_l30Search_run_l5 SS sum last x0) (ts r k N step b f F best least nodes false) = some (.inl (ss r k N step b F best' least' nodes' true)) ∨
        loopO (spec_l30Search_run_l5 SS sum last x0) (ts r k N step b f F best least nodes false) = some (.inr (ss r k N step b F best' least' nodes' true))) ∧
        loopO (impl_floorSearch_run_l5 SI bf F sum) (ti r k N step f (b - nodes) found best lst) = some (.inr (true, t'))) := by
  obtain ⟨⟨b1, b2⟩, _, ⟨l1, l2⟩, _⟩ := id hk
  intro m
  induction m with
  | zero =>
    intro f best least nodes found lst hm hf1 hf2 hI
    refine .inl ⟨best, least, nodes, found, lst, loopO_done ?_, loopO_done ?_, hI⟩
    · rw [bf_sl, if_neg (by omega)]
    · rw [bf_il, if_neg (by omega)]
  | succ m ih =>
    intro f best least nodes found lst hm hf1 hf2 hI
    by_cases c0 : f ≥ k.Least
    · obtain ⟨x, c, v, t1, t2, t3, t4⟩ := gf_try hr hk hB f
      have e1 : w64 (f - step) = f - step := w64_id (by omega) (by omega)
      have hv : (if c ≠ 0 then (some true) else ((spec_l30Apart k last x.pieces).bind fun y => some (!y))) = some (!v) := by
        by_cases hc : c = 0
        · rw [if_pos hc] at t2
          rw [if_neg (by simpa using hc)]
          cases ha : spec_l30Apart k last x.pieces with
          | none => rw [ha] at t2; cases t2
          | some y => rw [ha] at t2; cases t2; rfl
        · rw [if_neg hc] at t2
          cases t2
          rw [if_pos hc]; rfl
      have S1 := bf_sl (r := r) (k := k) (n := N) (step := step) (b := b) SS sum last x0 f F best least nodes false
      rw [if_pos ⟨c0, by simp⟩, t1, Option.bind_some] at S1
      simp only [hv, Option.bind_some, e1] at S1
      have I1 := bf_il (r := r) (k := k) (n := N) (step := step) SI bf F sum f (b - nodes) found best lst
      rw [if_pos c0, t3, Option.bind_some] at I1
      cases v with
      | false =>
        simp only [Bool.not_false, if_true] at S1
        simp only [Bool.false_eq_true, if_false, e1] at I1
        rw [loopO_next S1, loopO_next I1]
        exact ih _ _ _ _ _ _ (by omega) (by omega) (by omega) hI
      | true =>
        obtain ⟨q1, q2, q3⟩ := t4 rfl
        obtain ⟨w, w1, w2, w3, w4⟩ := bf_boards q1 hB
        have e2 : w64 (sum + w) = sum + w := w64_id (by omega) (by omega)
        simp only [Bool.not_true, Bool.false_eq_true, if_false, w1, Option.bind_some, e2] at S1
        have I2 : impl_floorSearch_run_l5 SI bf F sum (ti r k N step f (b - nodes) found best lst) = bf_own SI r k N step F f (b - nodes) found best lst x (sum + w) := by
          rw [I1]
          cases bf with
          | none =>
            have w4 : w = x.pieces.length := w4
            simp only [if_true, Option.bind_some, Bool.false_eq_true, if_false, ← w4, e2]
          | some y =>
            have w4 : impl_boards y x k = some w := w4
            simp only [if_true, Option.bind_some, w4, e2]
        obtain ⟨i1, i2, i3, i4⟩ := id hI
        by_cases c1 : found = true ∧ sum + w ≥ lst
        · have c1' : least ≥ 0 ∧ sum + w ≥ least := by
            rcases i4 with ⟨i4, _⟩ | ⟨_, i5, i6⟩
            · rw [i4] at c1; cases c1.1
            · omega
          rw [if_pos c1'] at S1
          unfold bf_own at I2
          rw [if_pos c1, e1] at I2
          rw [loopO_next S1, loopO_next I2]
          exact ih _ _ _ _ _ _ (by omega) (by omega) (by omega) hI
        · have c1' : ¬ (least ≥ 0 ∧ sum + w ≥ least) := by
            rcases i4 with ⟨_, i5⟩ | ⟨i4, i5, i6⟩
            · omega
            · intro h
              exact c1 ⟨i4, by omega⟩
          rw [if_neg c1'] at S1
          unfold bf_own at I2
          rw [if_neg c1] at I2
          by_cases c2 : nodes = b
          · rw [if_pos c2] at S1
            rw [if_pos (by omega)] at I2
            exact .inr ⟨_, _, _, _, .inr (loopO_done S1), loopO_done I2⟩
          · rw [if_neg c2, apd1 (by omega), Option.bind_some] at S1
            rw [if_neg (by omega), apd0 (by omega), Option.bind_some, apd1 (by omega), Option.bind_some] at I2
            have e3 : w64 (nodes + 1) = nodes + 1 := w64_id (by omega) (by omega)
            have e4 : w64 (b - nodes - 1) = b - (nodes + 1) := by rw [w64_id (by omega) (by omega)]; omega
            obtain ⟨s', spent, t', r1, r2, best', least', nodes', found', lst', r3, r4⟩ := IH (F ++ [f]) x.pieces (some x) (sum + w) best least (nodes + 1) found lst (by simp) ⟨q1, rfl⟩ ⟨by omega, by omega, i3, i4⟩ (by omega) (by simp; omega)
            subst r3
            have r1' : SS (ss r k N step b (F ++ [f]) best least (nodes + 1) false, x.pieces, sum + w) = some (ss r k N step b (F ++ [f]) best' least' nodes' spent) := r1
            have r2' : SI (is r k N step (b - (nodes + 1)) found best lst, F ++ [f], some x, sum + w) = some (spent, t') := r2
            rw [e3, r1', Option.bind_some] at S1
            rw [e4, r2', Option.bind_some] at I2
            have e5 : slc (F ++ [f]) 0 (x0.firsts.length : Int) = some (((F ++ [f]).take ((x0.firsts.length : Int).toNat)).drop 0) := by
              unfold slc
              rw [if_pos ⟨by omega, by omega, by rw [hx0, List.length_append, List.length_singleton]; omega⟩]
              rfl
            have e6 : ((F ++ [f]).take ((x0.firsts.length : Int).toNat)).drop 0 = F := by
              rw [hx0, List.drop_zero, Int.toNat_natCast, List.take_left']
              rfl
            simp only [e5, e6, Option.bind_some, e1] at S1
            cases spent with
            | true =>
              simp only [if_true] at I2
              refine .inr ⟨best', least', nodes', t', .inl ?_, loopO_done I2⟩
              rw [loopO_next S1]
              refine loopO_done ?_
              show spec_l30Search_run_l5 SS sum last x0 (ts r k N step b (f - step) F best' least' nodes' true) = _
              rw [bf_sl, if_neg (by simp)]
            | false =>
              obtain ⟨r5, r6⟩ := r4 rfl
              subst r5
              simp only [Bool.false_eq_true, if_false, e1] at I2
              rw [loopO_next S1, loopO_next I2]
              exact ih _ _ _ _ _ _ (by omega) (by omega) (by omega) r6
    · refine .inl ⟨best, least, nodes, found, lst, loopO_done ?_, loopO_done ?_, hI⟩
      · rw [bf_sl, if_neg (by omega)]
      · rw [bf_il, if_neg (by omega)]

theorem bf_run {r : S_Room} {k : S_Stock} (hr : Rm r) (hk : Sk k) {N : Nat} {step b : Int} (hN : N ≤ 40) (hs1 : 1 ≤ step) (hs2 : step ≤ 5000) (hb1 : 1 ≤ b) (hb2 : b ≤ 20000) :
    ∀ (d : Nat) (F : List Int) (last : List Int) (bf : Option S_row) (sum : Int) (best : List Int) (least nodes : Int) (found : Bool) (lst : Int), F.length + d = N → Bef k last bf → Iv b best least nodes found lst → 0 ≤ sum → sum ≤ 20002 * F.length →
      ∃ s' spent t', spec_l30Search_run (ss r k N step b F best least nodes false) last sum = some s' ∧ impl_floorSearch_run (is r k N step (b - nodes) found best lst) F bf sum = some (spent, t') ∧ Ot r k N step b F s' spent t' := by
  intro d
  induction d with
  | zero =>
    intro F last bf sum best least nodes found lst hF hB hI h0 h1
    obtain ⟨i1, i2, i3, i4⟩ := id hI
    refine ⟨ss r k N step b F F sum nodes false, false, is r k N step (b - nodes) true F sum, ?_, ?_, F, sum, nodes, true, sum, rfl, fun _ => ⟨rfl, i1, i2, by omega, .inr ⟨rfl, rfl, h0⟩⟩⟩
    · rw [bf_specE]
      unfold spec_l30Search_run_F spec_l00Own
      rw [if_pos (by simp; omega)]
      have : apd 8 ([] : List Int) F = some F := by unfold apd; rw [if_pos (by simp; omega)]; rfl
      simp only [this, Option.bind_some]
    · rw [bf_implE]
      unfold impl_floorSearch_run_F
      rw [if_pos (by simp; omega)]
  | succ d ih =>
    intro F last bf sum best least nodes found lst hF hB hI h0 h1
    obtain ⟨⟨b1, b2⟩, _, ⟨l1, l2⟩, _⟩ := id hk
    have hl := bf_loop hr hk hN hs1 hs2 hb1 hb2 hB (by omega) h0 h1 (x0 := ss r k N step b F best least nodes false) rfl
      (fun F' last bf sum best least nodes found lst hF' => ih F' last bf sum best least nodes found lst (by omega)) _ k.Board best least nodes found lst (Nat.le_refl _) (by omega) (by omega) hI
    have e1 : ∀ o, loopO (spec_l30Search_run_l5 SS sum last (ss r k N step b F best least nodes false)) (ts r k N step b k.Board F best least nodes false) = some o → spec_l30Search_run (ss r k N step b F best least nodes false) last sum = some (match o with | .inl s => s | .inr s => s) := by
      intro o ho
      rw [bf_specE]
      unfold spec_l30Search_run_F
      rw [if_neg (by simp; omega)]
      have ho' : loopO (spec_l30Search_run_l5 (fun s => spec_l30Search_run s.1 s.2.1 s.2.2) sum last (ss r k N step b F best least nodes false)) (k.Board, r.Width, r.Length, k.Board, k.Wide, k.Least, k.Stagger, (N : Int), step, F, best, least, nodes, b, false) = some o := ho
      simp only [ho', Option.bind_some]
      cases o <;> rfl
    have e2 : ∀ o, loopO (impl_floorSearch_run_l5 SI bf F sum) (ti r k N step k.Board (b - nodes) found best lst) = some o → impl_floorSearch_run (is r k N step (b - nodes) found best lst) F bf sum =
        some (match o with | .inl (a1, a2, a3, a4, a5, a6, a7, a8, a9, a10, a11, a12) => (false, (⟨⟨a1, a2⟩, ⟨a3, a4, a5, a6⟩, a7, a8, a9, a10, a11, a12⟩ : S_floorSearch)) | .inr s => s) := by
      intro o ho
      rw [bf_implE]
      unfold impl_floorSearch_run_F
      rw [if_neg (by simp; omega)]
      have ho' : loopO (impl_floorSearch_run_l5 (fun s => impl_floorSearch_run s.1 s.2.1 s.2.2.1 s.2.2.2) bf F sum) (k.Board, r.Width, r.Length, k.Board, k.Wide, k.Least, k.Stagger, step, (N : Int), b - nodes, found, best, lst) = some o := ho
      simp only [ho', Option.bind_some]
      cases o with
      | inl t => obtain ⟨a1, a2, a3, a4, a5, a6, a7, a8, a9, a10, a11, a12⟩ := t; rfl
      | inr s => rfl
    rcases hl with ⟨best', least', nodes', found', lst', q1, q2, q3⟩ | ⟨best', least', nodes', t', q1, q2⟩
    · exact ⟨_, _, _, e1 _ q1, e2 _ q2, best', least', nodes', found', lst', rfl, fun _ => ⟨rfl, q3⟩⟩
    · rcases q1 with q1 | q1
      · exact ⟨_, _, _, e1 _ q1, e2 _ q2, best', least', nodes', true, 0, rfl, fun h => by cases h⟩
      · exact ⟨_, _, _, e1 _ q1, e2 _ q2, best', least', nodes', true, 0, rfl, fun h => by cases h⟩

theorem bf_same (r : S_Room) (k : S_Stock) (step b : Int) : ∃ (out : List Int) (l c : Int), out.length ≤ 100 ∧ spec_BestFloor r k step b = some (out, l, c) ∧ impl_BestFloor r k step b = some (out, l, c) := by
  classical
  unfold spec_BestFloor impl_BestFloor impl_RowCount
  rw [gf_spec, gf_impl, Option.bind_some, Option.bind_some]
  by_cases h : Rm r ∧ Sk k
  · obtain ⟨hr, hk⟩ := id h
    obtain ⟨_, ⟨l1, l2⟩⟩ := id hr
    obtain ⟨⟨b1, b2⟩, ⟨w1, w2⟩, _⟩ := id hk
    have e1 : w64 (r.Length + k.Wide) = r.Length + k.Wide := w64_id (by omega) (by omega)
    have e2 : w64 (r.Length + k.Wide - 1) = r.Length + k.Wide - 1 := w64_id (by omega) (by omega)
    have e3 : (r.Length + k.Wide - 1).tdiv k.Wide = (r.Length + k.Wide - 1) / k.Wide := Int.tdiv_eq_ediv_of_nonneg (by omega)
    have h0 : 0 ≤ (r.Length + k.Wide - 1) / k.Wide := Int.ediv_nonneg (by omega) (by omega)
    have h1 : (r.Length + k.Wide - 1) / k.Wide ≤ r.Length + k.Wide - 1 := Int.ediv_le_self _ (by omega)
    have e4 : w64 ((r.Length + k.Wide - 1) / k.Wide) = (r.Length + k.Wide - 1) / k.Wide := w64_id (by omega) (by omega)
    have hd : dv .i64 (r.Length + k.Wide - 1) k.Wide = some ((r.Length + k.Wide - 1) / k.Wide) := by
      unfold dv
      rw [if_neg (by omega), e3]
      exact congrArg some e4
    have hs : spec_l30Rows r k = some ((r.Length + k.Wide - 1) / k.Wide) := by
      unfold spec_l30Rows spec_l28Up
      rw [e1, e2, hd]; rfl
    have hi : impl_rows r k = some ((r.Length + k.Wide - 1) / k.Wide) := by
      unfold impl_rows impl_upDiv
      rw [e1, e2, hd]; rfl
    rw [if_pos (by simpa using h), hs, hi, if_pos h]
    simp only [Option.bind_some, ne_eq, not_true, if_false]
    obtain ⟨n, hn⟩ : ∃ n : Nat, (r.Length + k.Wide - 1) / k.Wide = (n : Int) := ⟨_, (Int.toNat_of_nonneg h0).symm⟩
    rw [hn]
    by_cases c : (n : Int) > 40
    · rw [if_pos c, if_pos c]
      exact ⟨[], 0, 5, by simp, rfl, rfl⟩
    · rw [if_neg c, if_neg c]
      simp only [Option.bind_some, if_true, in_eq, within_eq, decide_eq_true_eq]
      by_cases c1 : 1 ≤ step ∧ step ≤ k.Board
      · simp only [if_pos c1, Option.bind_some]
        by_cases c2 : 1 ≤ b ∧ b ≤ 20000
        · simp only [c2, decide_true, Bool.not_true, Bool.false_eq_true, if_false, and_self]
          obtain ⟨s', spent, t', r1, r2, best, least, nodes, found, lst, r3, r4⟩ := bf_run hr hk (N := n) (step := step) (b := b) (by omega) (by omega) (by omega) (by omega) (by omega) n [] [] none 0 [] (-1) 0 false 0 (by simp) rfl ⟨by omega, by omega, by simp, .inl ⟨rfl, rfl⟩⟩ (by omega) (by simp)
          subst r3
          have r2' : impl_floorSearch_run (⟨r, k, step, n, b, false, [], 0⟩ : S_floorSearch) [] none 0 = some (spent, t') := by
            have : b - 0 = b := by omega
            rw [this] at r2
            exact r2
          unfold impl_BestFloor_k4
          simp only [ne_eq, not_true, if_false]
          rw [r1, r2']
          simp only [Option.bind_some]
          cases spent with
          | true => exact ⟨[], 0, 5, by simp, rfl, rfl⟩
          | false =>
            obtain ⟨r5, i1, i2, i3, i4⟩ := r4 rfl
            subst r5
            simp only [Bool.false_eq_true, if_false]
            rcases i4 with ⟨i4, i5⟩ | ⟨i4, i5, i6⟩
            · subst i4 i5
              exact ⟨[], 0, 3, by simp, rfl, rfl⟩
            · subst i4 i5
              rw [if_neg (by omega)]
              exact ⟨best, least, 0, by omega, rfl, rfl⟩
        · simp only [c2, decide_false, Bool.not_false, if_true]
          exact ⟨[], 0, 2, by simp, rfl, rfl⟩
      · simp only [if_neg c1, Option.bind_some, if_true]
        exact ⟨[], 0, 2, by simp, rfl, rfl⟩
  · rw [if_neg (by simpa using h), if_neg h]
    exact ⟨[], 0, 1, by simp, rfl, rfl⟩

theorem gf_eqI (l : List Int) (h : l.length ≤ 1048576) : laws_eqInt64S l l = some true := by
  unfold laws_eqInt64S
  rw [if_neg (by simp), eqS_refl (n := l.length) (by omega) ?_ ?_]
  · rfl
  · intro i hi
    unfold laws_eqInt64S_l4
    rw [if_pos (by omega), rd_lt hi]
    simp
  · unfold laws_eqInt64S_l4
    simp

theorem gf_markI (l : List Int) (h : l.length ≤ 1048576) : laws_markInt64S l 1 = some (1 + (l.length : Int), iota 1 l.length) := by
  unfold laws_markInt64S
  rw [markInt (f := laws_markInt64S_l2) l (k := 1) (by omega) (by omega) ?_ ?_]
  · rfl
  · intro k i out hi
    unfold laws_markInt64S_l2
    simp only
    rw [if_pos (by omega), rd_lt hi]
    simp
  · intro k out
    unfold laws_markInt64S_l2
    simp

theorem gf_held (n : Nat) (h : n ≤ 1048576) : laws_heldInt64S (iota 1 n) 1 = some (1 + (n : Int)) := by
  unfold laws_heldInt64S
  rw [heldInt (f := laws_heldInt64S_l2 (iota 1 n)) (n := n) (k := 1) (by omega) (by omega) ?_ ?_]
  · rfl
  · intro i hi
    unfold laws_heldInt64S_l2
    simp only
    rw [if_pos (by rw [iota_length]; omega), rd_nat, iota_get _ _ _ hi]
    simp
  · unfold laws_heldInt64S_l2
    simp [iota_length]
theorem law_BestFloor (r : S_Room) (k : S_Stock) (step b : Int) : laws_FnExactBestFloor r k step b = some true := by
  obtain ⟨out, l, c, ho, h1, h2⟩ := bf_same r k step b
  unfold laws_FnExactBestFloor laws_toRoom laws_toStock
  simp only [Option.bind_some, h1, h2, gf_eqI out (by omega), gf_markI out (by omega), gf_held out.length (by omega), not_true, ne_eq, or_self, if_false]
  rw [if_neg (by omega), if_neg (by omega)]

end Go.Pw
