/- The plain law of FnExactGreedyFloor. Conditions: none. -/
import Derived.Test.YteglmkbkjaeijabTgfT
import Derived.Test.YteglmkbkjaeijabSimPx
namespace Go.Pw
set_option linter.unusedVariables false
set_option linter.unusedSimpArgs false

def Rm (r : S_Room) : Prop := (1 ≤ r.Width ∧ r.Width ≤ 20000) ∧ (1 ≤ r.Length ∧ r.Length ≤ 20000)
def Sk (k : S_Stock) : Prop := (10 ≤ k.Board ∧ k.Board ≤ 5000) ∧ (10 ≤ k.Wide ∧ k.Wide ≤ 1000) ∧ (1 ≤ k.Least ∧ k.Least ≤ k.Board) ∧ (0 ≤ k.Stagger ∧ k.Stagger ≤ w64 (k.Board.tdiv 2))

theorem within_eq (n a b : Int) : impl_within n a b = some (decide (a ≤ n ∧ n ≤ b)) := by
  unfold impl_within
  rw [Bool.decide_and]
theorem in_eq (n a b : Int) : spec_l00In n a b = some (decide (a ≤ n ∧ n ≤ b)) := by
  unfold spec_l00In
  rw [Bool.decide_and]

open Classical in
theorem gf_spec (r : S_Room) (k : S_Stock) : spec_l30Ok r k = some (decide (Rm r ∧ Sk k)) := by
  unfold spec_l30Ok spec_l30Room spec_l30Stock Rm Sk
  simp only [in_eq, Option.bind_some, decide_eq_true_eq]
  have e2 : dv .i64 k.Board 2 = some (w64 (k.Board.tdiv 2)) := by unfold dv; rw [if_neg (by decide)]
  rw [e2]
  by_cases c1 : 1 ≤ r.Width ∧ r.Width ≤ 20000 <;> by_cases c2 : 1 ≤ r.Length ∧ r.Length ≤ 20000 <;> by_cases c3 : 10 ≤ k.Board ∧ k.Board ≤ 5000 <;> by_cases c4 : 10 ≤ k.Wide ∧ k.Wide ≤ 1000 <;> by_cases c5 : 1 ≤ k.Least ∧ k.Least ≤ k.Board <;> simp [c1, c2, c3, c4, c5]

open Classical in
theorem gf_impl (r : S_Room) (k : S_Stock) : impl_roomCode r k = some (if Rm r ∧ Sk k then 0 else 1) := by
  unfold impl_roomCode impl_ValidRoom impl_ValidStock Rm Sk
  simp only [within_eq, Option.bind_some, decide_eq_true_eq]
  have e2 : dv .i64 k.Board 2 = some (w64 (k.Board.tdiv 2)) := by unfold dv; rw [if_neg (by decide)]
  rw [e2]
  by_cases c1 : 1 ≤ r.Width ∧ r.Width ≤ 20000 <;> by_cases c2 : 1 ≤ r.Length ∧ r.Length ≤ 20000 <;> by_cases c3 : 10 ≤ k.Board ∧ k.Board ≤ 5000 <;> by_cases c4 : 10 ≤ k.Wide ∧ k.Wide ≤ 1000 <;> by_cases c5 : 1 ≤ k.Least ∧ k.Least ≤ k.Board <;> by_cases c6 : 0 ≤ k.Stagger ∧ k.Stagger ≤ w64 (k.Board.tdiv 2) <;> simp [c1, c2, c3, c4, c5, c6]

theorem apd1 {l : List Int} {x : Int} (h : l.length ≤ 1000000) : apd 8 l [x] = some (l ++ [x]) := by
  unfold apd
  rw [if_pos (by simp; omega)]

/-- How many whole boards a row takes behind its first piece. -/
theorem gf_q {w B : Int} (hw : 1 ≤ w) (hB : 1 ≤ B) : ∃ q : Nat, (q : Int) * B < w ∧ w ≤ (q : Int) * B + B ∧ (q : Int) ≤ w := by
  have h0 : 0 ≤ (w - 1) / B := Int.ediv_nonneg (by omega) (by omega)
  refine ⟨((w - 1) / B).toNat, ?_⟩
  rw [Int.toNat_of_nonneg h0]
  have h1 : (w - 1) / B * B ≤ w - 1 := Int.ediv_mul_le _ (by omega)
  have h2 : w - 1 < ((w - 1) / B + 1) * B := Int.lt_ediv_add_one_mul_self _ (by omega)
  have h3 : (w - 1) / B ≤ w - 1 := Int.ediv_le_self _ (by omega)
  rw [Int.add_mul, Int.one_mul] at h2
  omega

theorem mul_mono {i q : Nat} {B : Int} (hB : 0 ≤ B) (h : i ≤ q) : (i : Int) * B ≤ (q : Int) * B := Int.mul_le_mul_of_nonneg_right (by omega) hB

theorem gf_piecesL {k : S_Stock} {w f : Int} {q : Nat} (hB : 1 ≤ k.Board) (hB2 : k.Board ≤ 5000) (hw : w ≤ 20000) (h1 : (q : Int) * k.Board < w) (h2 : w ≤ (q : Int) * k.Board + k.Board) (hq : (q : Int) ≤ w) :
    loopO (spec_l30Pieces_l7 k) (w, [f]) = some (w - (q : Int) * k.Board, f :: List.replicate q k.Board) := by
  have := loopO_for (fun i : Nat => (w - (i : Int) * k.Board, f :: List.replicate i k.Board)) q (f := spec_l30Pieces_l7 k) (r := (w - (q : Int) * k.Board, f :: List.replicate q k.Board)) (fun i hi => ?_) ?_
  · simpa using this
  · unfold spec_l30Pieces_l7
    simp only
    have m1 := mul_mono (B := k.Board) (by omega) (show i + 1 ≤ q by omega)
    have m2 : ((i + 1 : Nat) : Int) * k.Board = (i : Int) * k.Board + k.Board := by rw [Int.natCast_add, Int.add_mul]; simp
    have m3 : 0 ≤ (i : Int) * k.Board := Int.mul_nonneg (by omega) (by omega)
    rw [if_pos (by omega), apd1 (by simp; omega), Option.bind_some, w64_id (by omega) (by omega), m2, List.replicate_succ', List.cons_append]
    congr 3
    omega
  · unfold spec_l30Pieces_l7
    simp only
    rw [if_neg (by omega)]

/-- The joints of a row. -/
def jts (f B : Int) (n : Nat) : List Int := (List.range n).map fun j : Nat => f + (j : Int) * B
theorem jts_succ (f B : Int) (n : Nat) : jts f B (n + 1) = jts f B n ++ [f + (n : Int) * B] := by
  unfold jts
  rw [List.range_succ, List.map_append]
  rfl
theorem jts_length (f B : Int) (n : Nat) : (jts f B n).length = n := by simp [jts]

theorem gf_rowL {k : S_Stock} {r : S_Room} {f : Int} {q : Nat} (hB : 1 ≤ k.Board) (hB2 : k.Board ≤ 5000) (hf : 1 ≤ f) (hW : r.Width ≤ 20000) (h1 : (q : Int) * k.Board < r.Width - f) (h2 : r.Width - f ≤ (q : Int) * k.Board + k.Board) (hq : (q : Int) ≤ r.Width - f) :
    loopO (impl_makeRow_l7 k r) (f, [f], [], 0) = some (f :: (List.replicate q k.Board ++ [r.Width - f - (q : Int) * k.Board]), jts f k.Board (q + 1), r.Width - f - (q : Int) * k.Board) := by
  have := loopO_for (fun i : Nat => if i ≤ q then (f + (i : Int) * k.Board, f :: List.replicate i k.Board, jts f k.Board i, if i = 0 then (0 : Int) else k.Board) else (r.Width, f :: (List.replicate q k.Board ++ [r.Width - f - (q : Int) * k.Board]), jts f k.Board (q + 1), r.Width - f - (q : Int) * k.Board))
    (q + 1) (f := impl_makeRow_l7 k r) (r := (f :: (List.replicate q k.Board ++ [r.Width - f - (q : Int) * k.Board]), jts f k.Board (q + 1), r.Width - f - (q : Int) * k.Board)) (fun i hi => ?_) ?_
  · simpa [jts] using this
  · have hiq : i ≤ q := by omega
    rw [if_pos hiq]
    unfold impl_makeRow_l7
    simp only
    have m0 := mul_mono (B := k.Board) (by omega) hiq
    have m3 : 0 ≤ (i : Int) * k.Board := Int.mul_nonneg (by omega) (by omega)
    have m2 : ((i + 1 : Nat) : Int) * k.Board = (i : Int) * k.Board + k.Board := by rw [Int.natCast_add, Int.add_mul]; simp
    have e1 : w64 (r.Width - (f + (i : Int) * k.Board)) = r.Width - f - (i : Int) * k.Board := by rw [w64_id (by omega) (by omega)]; omega
    rw [if_pos (by omega), apd1 (by rw [jts_length]; omega), Option.bind_some, apd1 (by simp; omega), Option.bind_some, e1, ← jts_succ]
    by_cases c : i < q
    · have m1 := mul_mono (B := k.Board) (by omega) (show i + 1 ≤ q by omega)
      have e2 : Go.Sim.min2 (r.Width - f - (i : Int) * k.Board) k.Board = k.Board := by unfold Go.Sim.min2; split <;> omega
      rw [e2, if_pos (by omega), w64_id (by omega) (by omega), m2, if_neg (by omega), List.cons_append, ← List.replicate_succ']
      congr 3
      omega
    · obtain rfl : i = q := by omega
      have e2 : Go.Sim.min2 (r.Width - f - (i : Int) * k.Board) k.Board = r.Width - f - (i : Int) * k.Board := by unfold Go.Sim.min2; split <;> omega
      rw [e2, if_neg (by omega), w64_id (by omega) (by omega), List.cons_append]
      congr 3
      omega
  · rw [if_neg (by omega)]
    unfold impl_makeRow_l7
    simp

theorem gf_joints {f B l : Int} {q : Nat} (hB : 1 ≤ B) (hB2 : B ≤ 5000) (hf : 0 ≤ f) (hf2 : f ≤ 20000) (hq : q ≤ 20000) (hb : (q : Int) * B ≤ 20000) :
    spec_l30Joints (f :: (List.replicate q B ++ [l])) = some (jts f B (q + 1)) := by
  unfold spec_l30Joints
  have hlen : (f :: (List.replicate q B ++ [l])).length = q + 2 := by simp
  have := loopO_for (fun i : Nat => ((if i = 0 then (0 : Int) else f + ((i - 1 : Nat) : Int) * B), (i : Int), jts f B i)) (q + 1) (f := spec_l30Joints_l4 (f :: (List.replicate q B ++ [l]))) (r := jts f B (q + 1)) (fun i hi => ?_) ?_
  · have h0 : ((0 : Int), (0 : Int), ([] : List Int)) = (fun i : Nat => ((if i = 0 then (0 : Int) else f + ((i - 1 : Nat) : Int) * B), (i : Int), jts f B i)) 0 := by simp [jts]
    rw [h0, this]
    rfl
  · unfold spec_l30Joints_l4
    simp only [hlen]
    have m0 := mul_mono (B := B) (by omega) (show i ≤ q by omega)
    have m3 : 0 ≤ (i : Int) * B := Int.mul_nonneg (by omega) (by omega)
    rw [w64_succ (by omega), if_pos (by omega), rd_nat]
    by_cases c : i = 0
    · subst c
      simp only [if_true, List.getElem?_cons_zero, Option.bind_some]
      rw [apd1 (by simp [jts]), Option.bind_some, w64_id (by omega) (by omega), jts_succ]
      simp
    · obtain ⟨j, rfl⟩ : ∃ j, i = j + 1 := ⟨i - 1, by omega⟩
      have hg : (f :: (List.replicate q B ++ [l]))[j + 1]? = some B := by
        rw [List.getElem?_cons_succ, List.getElem?_append_left (by simp; omega), List.getElem?_replicate, if_pos (by omega)]
      have m2 : ((j + 1 : Nat) : Int) * B = (j : Int) * B + B := by rw [Int.natCast_add, Int.add_mul]; simp
      rw [hg, Option.bind_some, if_neg (by omega), Nat.add_sub_cancel, apd1 (by rw [jts_length]; omega), Option.bind_some, w64_id (by omega) (by omega), jts_succ f B (j + 1), m2, if_neg (by omega), Nat.add_sub_cancel, m2]
      congr 3
      · omega
      · congr 1
        congr 1
        congr 1
        omega
  · unfold spec_l30Joints_l4
    simp only [hlen]
    rw [w64_succ (by omega), if_neg (by omega)]

/-- What a row of the program is, as the reference sees it. -/
structure Fits (k : S_Stock) (x : S_row) : Prop where
  joints : spec_l30Joints x.pieces = some x.joints
  small : ∀ y ∈ x.joints, 0 ≤ y ∧ y ≤ 40000
  few : x.joints.length ≤ 20001
  left : ∃ v, spec_l30Left k x.pieces = some v ∧ impl_row_left x k = some v

theorem gf_row {r : S_Room} {k : S_Stock} (hr : Rm r) (hk : Sk k) (f : Int) :
    ∃ (x : S_row) (c : Int), spec_l30Pieces r k f = some (x.pieces, c) ∧ impl_makeRow r k f = some (x, c) ∧ (c = 0 → Fits k x ∧ k.Least ≤ f ∧ f ≤ k.Board) := by
  obtain ⟨⟨w1, w2⟩, _⟩ := hr
  obtain ⟨⟨b1, b2⟩, _, ⟨l1, l2⟩, _⟩ := hk
  unfold spec_l30Pieces impl_makeRow
  simp only [in_eq, within_eq, Option.bind_some, decide_eq_true_eq]
  by_cases c1 : k.Least ≤ f ∧ f ≤ k.Board
  · rw [if_pos c1, if_pos c1]
    by_cases c2 : r.Width ≤ f
    · rw [if_pos c2, if_pos c2]
      refine ⟨_, _, rfl, rfl, fun _ => ⟨⟨?_, (fun y hy => by cases hy), Nat.zero_le _, ?_⟩, c1⟩⟩
      · unfold spec_l30Joints
        rw [loopO_done (r := []) (by unfold spec_l30Joints_l4; simp [show w64 1 = 1 from w64_id (by omega) (by omega)])]
        rfl
      · exact ⟨0, by simp [spec_l30Left], by simp [impl_row_left]⟩
    · rw [if_neg c2, if_neg c2]
      obtain ⟨q, q1, q2, q3⟩ := gf_q (w := r.Width - f) (B := k.Board) (by omega) (by omega)
      rw [w64_id (by omega) (by omega), gf_piecesL (by omega) b2 (by omega) q1 q2 q3, gf_rowL (by omega) b2 (by omega) w2 q1 q2 q3]
      simp only [Option.bind_some]
      by_cases c3 : r.Width - f - (q : Int) * k.Board < k.Least
      · rw [if_pos c3, if_pos c3]
        exact ⟨_, _, rfl, rfl, fun h => by cases h⟩
      · rw [if_neg c3, if_neg c3, apd1 (by simp; omega), Option.bind_some]
        refine ⟨⟨f :: (List.replicate q k.Board ++ [r.Width - f - (q : Int) * k.Board]), jts f k.Board (q + 1), r.Width - f - (q : Int) * k.Board⟩, 0, by simp, rfl, fun _ => ⟨⟨?_, ?_, ?_, ?_⟩, c1⟩⟩
        · exact gf_joints (by omega) b2 (by omega) (by omega) (by omega) (by omega)
        · intro y hy
          obtain ⟨j, hj, rfl⟩ := List.mem_map.1 hy
          have hj := List.mem_range.1 hj
          have m1 := mul_mono (B := k.Board) (by omega) (show j ≤ q by omega)
          have m3 : 0 ≤ (j : Int) * k.Board := Int.mul_nonneg (by omega) (by omega)
          omega
        · show (jts f k.Board (q + 1)).length ≤ _
          rw [jts_length]; omega
        · refine ⟨w64 (k.Board - (r.Width - f - (q : Int) * k.Board)), ?_, ?_⟩
          · unfold spec_l30Left
            have hlen : (f :: (List.replicate q k.Board ++ [r.Width - f - (q : Int) * k.Board])).length = q + 2 := by simp
            simp only [hlen]
            rw [if_neg (by omega), w64_id (by omega) (by omega), show ((q + 2 : Nat) : Int) - 1 = ((q + 1 : Nat) : Int) by omega, rd_nat, List.getElem?_cons_succ, List.getElem?_append_right (by simp)]
            simp
          · unfold impl_row_left
            rw [if_neg (by simp; omega)]
  · rw [if_neg c1, if_neg c1]
    exact ⟨_, _, rfl, rfl, fun h => by cases h⟩

theorem gf_apartL {k : S_Stock} {a b : S_row} (ha : ∀ y ∈ a.joints, 0 ≤ y ∧ y ≤ 40000) (hb : ∀ y ∈ b.joints, 0 ≤ y ∧ y ≤ 40000) (la : a.joints.length ≤ 20001) (lb : b.joints.length ≤ 20001) :
    ∀ (n i j : Nat), (a.joints.length - i) + (b.joints.length - j) ≤ n → ∃ o, loopO (spec_l30Apart_l5 k a.joints b.joints) ((i : Int), (j : Int)) = some o ∧ loopO (impl_staggered_l2 a b k) ((i : Int), (j : Int)) = some o := by
  intro n
  induction n with
  | zero =>
    intro i j h
    refine ⟨.inl (), loopO_done ?_, loopO_done ?_⟩
    · unfold spec_l30Apart_l5
      simp only
      rw [if_neg (by omega)]
    · unfold impl_staggered_l2
      simp only
      rw [if_neg (by omega)]
  | succ n ih =>
    intro i j h
    by_cases c : i < a.joints.length ∧ j < b.joints.length
    · obtain ⟨hi, hj⟩ := c
      obtain ⟨x1, x2⟩ := ha _ (List.getElem_mem hi)
      obtain ⟨y1, y2⟩ := hb _ (List.getElem_mem hj)
      generalize hx : a.joints[i] = x at x1 x2
      generalize hy : b.joints[j] = y at y1 y2
      have e1 : w64 (x - y) = x - y := w64_id (by omega) (by omega)
      have e2 : w64 (y - x) = y - x := w64_id (by omega) (by omega)
      have e3 : w64 (0 - (x - y)) = y - x := by rw [w64_id (by omega) (by omega)]; omega
      obtain ⟨m, hm1, hm2⟩ : ∃ m, spec_l00Max (x - y) (y - x) = some m ∧ impl_absolute (x - y) = some m := by
        unfold spec_l00Max impl_absolute Go.Sim.max2
        rw [e3]
        by_cases c : x - y > y - x
        · rw [if_pos c, if_neg (by omega)]; exact ⟨_, rfl, rfl⟩
        · rw [if_neg c]
          by_cases c' : y - x > x - y
          · rw [if_pos c']; exact ⟨_, rfl, rfl⟩
          · rw [if_neg c', show x - y = y - x by omega]; exact ⟨_, rfl, rfl⟩
      have f1 : spec_l30Apart_l5 k a.joints b.joints ((i : Int), (j : Int)) = if m < k.Stagger then some (.inr (.inr false)) else if x < y then some (.inl (((i + 1 : Nat) : Int), (j : Int))) else some (.inl ((i : Int), ((j + 1 : Nat) : Int))) := by
        unfold spec_l30Apart_l5
        simp only [rd_lt hi, rd_lt hj, Option.bind_some, hx, hy, e1, e2, hm1]
        rw [if_pos (by omega), w64_succ (by omega), w64_succ (by omega)]
      have f2 : impl_staggered_l2 a b k ((i : Int), (j : Int)) = if m < k.Stagger then some (.inr (.inr false)) else if x < y then some (.inl (((i + 1 : Nat) : Int), (j : Int))) else some (.inl ((i : Int), ((j + 1 : Nat) : Int))) := by
        unfold impl_staggered_l2
        simp only [rd_lt hi, rd_lt hj, Option.bind_some, hx, hy, e1, e2, hm2]
        rw [if_pos (by omega), w64_succ (by omega), w64_succ (by omega)]
      by_cases c1 : m < k.Stagger
      · rw [if_pos c1] at f1 f2
        exact ⟨_, loopO_done f1, loopO_done f2⟩
      · rw [if_neg c1] at f1 f2
        by_cases c2 : x < y
        · rw [if_pos c2] at f1 f2
          obtain ⟨o, o1, o2⟩ := ih (i + 1) j (by omega)
          exact ⟨o, by rw [loopO_next f1]; exact o1, by rw [loopO_next f2]; exact o2⟩
        · rw [if_neg c2] at f1 f2
          obtain ⟨o, o1, o2⟩ := ih i (j + 1) (by omega)
          exact ⟨o, by rw [loopO_next f1]; exact o1, by rw [loopO_next f2]; exact o2⟩
    · refine ⟨.inl (), loopO_done ?_, loopO_done ?_⟩
      · unfold spec_l30Apart_l5
        simp only
        rw [if_neg (by omega)]
      · unfold impl_staggered_l2
        simp only
        rw [if_neg (by omega)]

theorem gf_apart {k : S_Stock} {a b : S_row} (ha : Fits k a) (hb : Fits k b) : ∃ v, spec_l30Apart k a.pieces b.pieces = some v ∧ impl_staggered a b k = some v := by
  obtain ⟨o, o1, o2⟩ := gf_apartL (k := k) ha.small hb.small ha.few hb.few _ 0 0 (Nat.le_refl _)
  unfold spec_l30Apart impl_staggered
  have o1' : loopO (spec_l30Apart_l5 k a.joints b.joints) (0, 0) = some o := o1
  have o2' : loopO (impl_staggered_l2 a b k) (0, 0) = some o := o2
  rw [ha.joints, hb.joints, Option.bind_some, Option.bind_some, o1', o2']
  cases o with
  | inl u => exact ⟨true, rfl, rfl⟩
  | inr v => exact ⟨v, rfl, rfl⟩

/-- Nothing is staggered against no row. -/
theorem gf_apart0 {k : S_Stock} {b : S_row} (hb : Fits k b) : spec_l30Apart k [] b.pieces = some true := by
  unfold spec_l30Apart
  have e : spec_l30Joints [] = some [] := by
    unfold spec_l30Joints
    rw [loopO_done (r := []) (by unfold spec_l30Joints_l4; simp [show w64 1 = 1 from w64_id (by omega) (by omega)])]
    rfl
  rw [e, hb.joints, Option.bind_some, Option.bind_some, loopO_done (r := .inl ()) (by unfold spec_l30Apart_l5; simp)]
  rfl

/-- The row before, as both sides hold it. -/
def Bef (k : S_Stock) (last : List Int) : Option S_row → Prop
  | none => last = []
  | some x => Fits k x ∧ last = x.pieces

/-- A first piece is tried. -/
theorem gf_try {r : S_Room} {k : S_Stock} (hr : Rm r) (hk : Sk k) {last : List Int} {bf : Option S_row} (hb : Bef k last bf) (f : Int) :
    ∃ (x : S_row) (c : Int) (v : Bool), spec_l30Pieces r k f = some (x.pieces, c) ∧ (if c = 0 then (spec_l30Apart k last x.pieces).bind fun y => some y else some false) = some v ∧ impl_possible r k bf f = some (x, v) ∧ (v = true → Fits k x ∧ k.Least ≤ f ∧ f ≤ k.Board) := by
  obtain ⟨x, c, h1, h2, h3⟩ := gf_row hr hk f
  unfold impl_possible
  rw [h2]
  simp only [Option.bind_some]
  by_cases hc : c = 0
  · obtain ⟨h4, h5⟩ := h3 hc
    rw [if_pos hc]
    cases bf with
    | none =>
      obtain rfl : last = [] := hb
      exact ⟨x, c, true, h1, by rw [if_pos hc, gf_apart0 h4]; rfl, rfl, fun _ => ⟨h4, h5⟩⟩
    | some y =>
      obtain ⟨hy, rfl⟩ := hb
      obtain ⟨v, v1, v2⟩ := gf_apart hy h4
      exact ⟨x, c, v, h1, by rw [if_pos hc, v1]; rfl, by simp only [v2, Option.bind_some], fun _ => ⟨h4, h5⟩⟩
  · rw [if_neg hc]
    exact ⟨x, c, false, h1, by rw [if_neg hc], rfl, fun h => by cases h⟩

/-- Lengths, from the greatest down. -/
def dn (B : Int) (n : Nat) : List Int := (List.range n).map fun j : Nat => B - (j : Int)
theorem dn_succ (B : Int) (n : Nat) : dn B (n + 1) = dn B n ++ [B - (n : Int)] := by
  unfold dn
  rw [List.range_succ, List.map_append]
  rfl
theorem dn_length (B : Int) (n : Nat) : (dn B n).length = n := by simp [dn]
theorem dn_get (B : Int) {n i : Nat} (h : i < n) : (dn B n)[i]? = some (B - (i : Int)) := by
  unfold dn
  rw [List.getElem?_map, List.getElem?_range h]
  rfl

theorem gf_cand {k : S_Stock} (hk : Sk k) {pre : List Int} (hp : pre.length ≤ 1) : loopO (impl_GreedyFloor_l12 k) (k.Board, pre) = some (pre ++ dn k.Board (k.Board - k.Least + 1).toNat) := by
  obtain ⟨⟨b1, b2⟩, _, ⟨l1, l2⟩, _⟩ := hk
  have := loopO_for (fun i : Nat => (k.Board - (i : Int), pre ++ dn k.Board i)) (k.Board - k.Least + 1).toNat (f := impl_GreedyFloor_l12 k) (r := pre ++ dn k.Board (k.Board - k.Least + 1).toNat) (fun i hi => ?_) ?_
  · simpa [dn] using this
  · unfold impl_GreedyFloor_l12
    simp only
    rw [if_pos (by omega), apd1 (by rw [List.length_append, dn_length]; omega), Option.bind_some, w64_id (by omega) (by omega), dn_succ, List.append_assoc]
    congr 3
    omega
  · unfold impl_GreedyFloor_l12
    simp only
    rw [if_neg (by omega)]

theorem gf_search {r : S_Room} {k : S_Stock} (hr : Rm r) (hk : Sk k) {last out pre : List Int} {bf : Option S_row} (hb : Bef k last bf) (ho : out.length ≤ 100) (hp : pre.length ≤ 1) :
    ∀ (m i : Nat), i + m = (k.Board - k.Least + 1).toNat →
      (∃ (f : Int) (x : S_row) (c : Int), loopO (spec_GreedyFloor_l17 k last r) (-1, k.Board - (i : Int)) = some f ∧ loopO (impl_GreedyFloor_l17 bf (pre ++ dn k.Board (k.Board - k.Least + 1).toNat) k out r) (((pre.length + i : Nat) : Int)) = some (some x, true, out ++ [f]) ∧ 0 ≤ f ∧ spec_l30Pieces r k f = some (x.pieces, c) ∧ Fits k x) ∨
      (loopO (spec_GreedyFloor_l17 k last r) (-1, k.Board - (i : Int)) = some (-1) ∧ loopO (impl_GreedyFloor_l17 bf (pre ++ dn k.Board (k.Board - k.Least + 1).toNat) k out r) (((pre.length + i : Nat) : Int)) = some (bf, false, out)) := by
  obtain ⟨⟨b1, b2⟩, _, ⟨l1, l2⟩, _⟩ := id hk
  intro m
  induction m with
  | zero =>
    intro i hi
    refine .inr ⟨loopO_done ?_, loopO_done ?_⟩
    · unfold spec_GreedyFloor_l17
      simp only
      rw [if_neg (by omega)]
    · unfold impl_GreedyFloor_l17
      rw [if_neg (by rw [List.length_append, dn_length]; omega)]
  | succ m ih =>
    intro i hi
    obtain ⟨x, c, v, h1, h2, h3, h4⟩ := gf_try hr hk hb (k.Board - (i : Int))
    have hg : rd (pre ++ dn k.Board (k.Board - k.Least + 1).toNat) ((pre.length + i : Nat) : Int) = some (k.Board - (i : Int)) := by
      rw [rd_nat, List.getElem?_append_right (by omega), Nat.add_sub_cancel_left, dn_get _ (by omega)]
    have e1 : w64 (k.Board - (i : Int) - 1) = k.Board - ((i + 1 : Nat) : Int) := by rw [w64_id (by omega) (by omega)]; omega
    have f1 : spec_GreedyFloor_l17 k last r (-1, k.Board - (i : Int)) = some (.inl (if v = true then k.Board - (i : Int) else -1, k.Board - ((i + 1 : Nat) : Int))) := by
      unfold spec_GreedyFloor_l17 spec_GreedyFloor_k18
      simp only
      rw [if_pos (by omega), h1, Option.bind_some]
      simp only [h2, Option.bind_some, e1]
      split <;> rfl
    have f2 : impl_GreedyFloor_l17 bf (pre ++ dn k.Board (k.Board - k.Least + 1).toNat) k out r ((pre.length + i : Nat) : Int) = if v = true then some (.inr (some x, true, out ++ [k.Board - (i : Int)])) else some (.inl (((pre.length + (i + 1) : Nat) : Int))) := by
      unfold impl_GreedyFloor_l17
      rw [if_pos (by rw [List.length_append, dn_length]; omega), hg, Option.bind_some, h3, Option.bind_some]
      simp only
      rw [apd1 (by omega), Option.bind_some, w64_succ (by omega)]
      rfl
    cases v with
    | true =>
      obtain ⟨q1, q2, q3⟩ := h4 rfl
      refine .inl ⟨k.Board - (i : Int), x, c, ?_, loopO_done (by rw [f2, if_pos rfl]), by omega, h1, q1⟩
      rw [loopO_next f1, if_pos rfl]
      refine loopO_done ?_
      unfold spec_GreedyFloor_l17
      simp only
      rw [if_neg (by omega)]
    | false =>
      have f1' : spec_GreedyFloor_l17 k last r (-1, k.Board - (i : Int)) = some (.inl (-1, k.Board - ((i + 1 : Nat) : Int))) := f1
      have f2' : impl_GreedyFloor_l17 bf (pre ++ dn k.Board (k.Board - k.Least + 1).toNat) k out r ((pre.length + i : Nat) : Int) = some (.inl (((pre.length + (i + 1) : Nat) : Int))) := by rw [f2]; rfl
      rw [loopO_next f1', loopO_next f2']
      exact ih (i + 1) (by omega)

/-- One row of the floor. -/
theorem gf_round {r : S_Room} {k : S_Stock} (hr : Rm r) (hk : Sk k) {last out : List Int} {bf : Option S_row} (hb : Bef k last bf) (ho : out.length ≤ 100) {n i : Nat} (hi : i < n) (hn : n ≤ 40) {z : Int} :
    (∃ (f : Int) (x : S_row), Fits k x ∧ spec_GreedyFloor_l9 k r (n : Int) ((i : Int), out, last) = some (.inl (((i + 1 : Nat) : Int), out ++ [f], x.pieces)) ∧ impl_GreedyFloor_l7 k r ((n : Int), z) (bf, (i : Int), out) = some (.inl (some x, ((i + 1 : Nat) : Int), out ++ [f]))) ∨
    (spec_GreedyFloor_l9 k r (n : Int) ((i : Int), out, last) = some (.inr (.inr ([], 3))) ∧ impl_GreedyFloor_l7 k r ((n : Int), z) (bf, (i : Int), out) = some (.inr (.inr ([], 3)))) := by
  obtain ⟨⟨b1, b2⟩, _, ⟨l1, l2⟩, _⟩ := id hk
  -- the search from the greatest one down
  have down : ∀ (pre : List Int), pre.length ≤ 1 → loopO (impl_GreedyFloor_l17 bf (pre ++ dn k.Board (k.Board - k.Least + 1).toNat) k out r) 0 = loopO (impl_GreedyFloor_l17 bf (pre ++ dn k.Board (k.Board - k.Least + 1).toNat) k out r) (((pre.length + 0 : Nat) : Int)) →
      (∃ (f : Int) (x : S_row), Fits k x ∧ spec_GreedyFloor_k16 (i : Int) k last out r (-1) = some (.inl (((i + 1 : Nat) : Int), out ++ [f], x.pieces)) ∧ impl_GreedyFloor_k11 bf k out r (i : Int) pre = some (.inl (some x, ((i + 1 : Nat) : Int), out ++ [f]))) ∨
      (spec_GreedyFloor_k16 (i : Int) k last out r (-1) = some (.inr (.inr ([], 3))) ∧ impl_GreedyFloor_k11 bf k out r (i : Int) pre = some (.inr (.inr ([], 3)))) := by
    intro pre hp h0
    have hs := gf_search hr hk hb ho hp (k.Board - k.Least + 1).toNat 0 (by omega)
    rw [show k.Board - ((0 : Nat) : Int) = k.Board by omega] at hs
    unfold spec_GreedyFloor_k16 impl_GreedyFloor_k11
    rw [gf_cand hk hp, Option.bind_some, h0]
    rcases hs with ⟨f, x, c, s1, s2, s3, s4, s5⟩ | ⟨s1, s2⟩
    · refine .inl ⟨f, x, s5, ?_, ?_⟩
      · rw [s1, Option.bind_some, if_neg (by omega), s4, Option.bind_some, apd1 (by omega), Option.bind_some, w64_succ (by omega)]
      · rw [s2, Option.bind_some]
        simp only [if_true]
        rw [w64_succ (by omega)]
    · refine .inr ⟨?_, ?_⟩
      · rw [s1, Option.bind_some, if_pos (by omega)]
      · rw [s2, Option.bind_some]
        rfl
  unfold spec_GreedyFloor_l9 impl_GreedyFloor_l7
  simp only
  rw [if_pos (by omega), if_pos (by omega)]
  cases bf with
  | none =>
    obtain rfl : last = [] := hb
    have hl : spec_l30Left k [] = some 0 := by simp [spec_l30Left]
    obtain ⟨x, c, v, h1, h2, h3, h4⟩ := gf_try hr hk (last := []) (bf := none) rfl 0
    have hv : v = false := by
      cases v with
      | false => rfl
      | true => have := (h4 rfl).2.1; omega
    subst hv
    rw [hl, Option.bind_some, h1, Option.bind_some]
    simp only [h2, Option.bind_some]
    exact down [] (by simp) rfl
  | some y =>
    obtain ⟨hy, rfl⟩ := id hb
    obtain ⟨w, w1, w2⟩ := hy.left
    obtain ⟨x, c, v, h1, h2, h3, h4⟩ := gf_try hr hk hb w
    rw [w1, Option.bind_some, h1, Option.bind_some]
    simp only [h2, Option.bind_some, if_true, w2]
    have ha : apd 8 ([] : List Int) [w] = some [w] := apd1 (by simp)
    rw [ha, Option.bind_some]
    have hg : rd ([w] ++ dn k.Board (k.Board - k.Least + 1).toNat) 0 = some w := rfl
    have hstep : impl_GreedyFloor_l17 (some y) ([w] ++ dn k.Board (k.Board - k.Least + 1).toNat) k out r 0 = if v = true then some (.inr (some x, true, out ++ [w])) else some (.inl 1) := by
      unfold impl_GreedyFloor_l17
      rw [if_pos (by rw [List.length_append, dn_length]; simp; omega), hg, Option.bind_some, h3, Option.bind_some]
      simp only
      rw [apd1 (by omega), Option.bind_some, show w64 (0 + 1) = 1 from w64_id (by omega) (by omega)]
    cases v with
    | true =>
      obtain ⟨q1, q2, q3⟩ := h4 rfl
      refine .inl ⟨w, x, q1, ?_, ?_⟩
      · rw [if_pos rfl]
        unfold spec_GreedyFloor_k16
        rw [loopO_done (r := w) (by unfold spec_GreedyFloor_l17; simp only; rw [if_neg (by omega)]), Option.bind_some, if_neg (by omega), h1, Option.bind_some, apd1 (by omega), Option.bind_some, w64_succ (by omega)]
      · unfold impl_GreedyFloor_k11
        rw [gf_cand hk (by simp), Option.bind_some, loopO_done (by rw [hstep, if_pos rfl]), Option.bind_some]
        simp only [if_true]
        rw [w64_succ (by omega)]
    | false =>
      have := down [w] (by simp) (by
        rw [loopO_next (s' := 1) (by rw [hstep]; rfl)]
        rfl)
      simpa using this

theorem gf_loops {r : S_Room} {k : S_Stock} (hr : Rm r) (hk : Sk k) {n : Nat} (hn : n ≤ 40) {z : Int} :
    ∀ (m i : Nat) (last out : List Int) (bf : Option S_row), i + m = n → Bef k last bf → out.length = i →
      ∃ o : List Int ⊕ (List Int × Int), loopO (spec_GreedyFloor_l9 k r (n : Int)) ((i : Int), out, last) = some o ∧ loopO (impl_GreedyFloor_l7 k r ((n : Int), z)) (bf, (i : Int), out) = some o ∧ (match o with | .inl l => l.length ≤ 100 | .inr l => l.1.length ≤ 100) := by
  intro m
  induction m with
  | zero =>
    intro i last out bf hi hb ho
    refine ⟨.inl out, loopO_done ?_, loopO_done ?_, by show out.length ≤ 100; omega⟩
    · unfold spec_GreedyFloor_l9
      simp only
      rw [if_neg (by omega)]
    · unfold impl_GreedyFloor_l7
      simp only
      rw [if_neg (by omega)]
  | succ m ih =>
    intro i last out bf hi hb ho
    rcases gf_round hr hk hb (out := out) (by omega) (show i < n by omega) hn (z := z) with ⟨f, x, q1, q2, q3⟩ | ⟨q2, q3⟩
    · obtain ⟨o, o1, o2, o3⟩ := ih (i + 1) x.pieces (out ++ [f]) (some x) (by omega) ⟨q1, rfl⟩ (by simp [ho])
      exact ⟨o, by rw [loopO_next q2]; exact o1, by rw [loopO_next q3]; exact o2, o3⟩
    · exact ⟨.inr ([], 3), loopO_done q2, loopO_done q3, by show (0 : Nat) ≤ 100; omega⟩

theorem gf_same (r : S_Room) (k : S_Stock) : ∃ (out : List Int) (c : Int), out.length ≤ 100 ∧ spec_GreedyFloor r k = some (out, c) ∧ impl_GreedyFloor r k = some (out, c) := by
  classical
  unfold spec_GreedyFloor impl_GreedyFloor impl_RowCount
  rw [gf_spec, gf_impl, Option.bind_some, Option.bind_some]
  by_cases h : Rm r ∧ Sk k
  · obtain ⟨hr, hk⟩ := id h
    obtain ⟨_, ⟨l1, l2⟩⟩ := id hr
    obtain ⟨_, ⟨w1, w2⟩, _⟩ := id hk
    have e1 : w64 (r.Length + k.Wide) = r.Length + k.Wide := w64_id (by omega) (by omega)
    have e2 : w64 (r.Length + k.Wide - 1) = r.Length + k.Wide - 1 := w64_id (by omega) (by omega)
    have e3 : (r.Length + k.Wide - 1).tdiv k.Wide = (r.Length + k.Wide - 1) / k.Wide := Int.tdiv_eq_ediv_of_nonneg (by omega)
    have h0 : 0 ≤ (r.Length + k.Wide - 1) / k.Wide := Int.ediv_nonneg (by omega) (by omega)
    have h1 : (r.Length + k.Wide - 1) / k.Wide ≤ r.Length + k.Wide - 1 := Int.ediv_le_self _ (by omega)
    have e4 : w64 ((r.Length + k.Wide - 1) / k.Wide) = (r.Length + k.Wide - 1) / k.Wide := w64_id (by omega) (by omega)
    have hd : dv .i64 (r.Length + k.Wide - 1) k.Wide = some ((r.Length + k.Wide - 1) / k.Wide) := by
      unfold dv
      rw [if_neg (by omega), e3]
      exact congrArg some e4
    have hs : spec_l30Rows r k = some ((r.Length + k.Wide - 1) / k.Wide) := by
      unfold spec_l30Rows spec_l28Up
      rw [e1, e2, hd]; rfl
    have hi : impl_rows r k = some ((r.Length + k.Wide - 1) / k.Wide) := by
      unfold impl_rows impl_upDiv
      rw [e1, e2, hd]; rfl
    rw [if_pos (by simpa using h), hs, hi, if_pos h]
    simp only [Option.bind_some, ne_eq, not_true, if_false]
    obtain ⟨n, hn⟩ : ∃ n : Nat, (r.Length + k.Wide - 1) / k.Wide = (n : Int) := ⟨_, (Int.toNat_of_nonneg h0).symm⟩
    rw [hn]
    by_cases c : (n : Int) > 40
    · rw [if_pos c, if_pos c]
      exact ⟨[], 5, by simp, rfl, rfl⟩
    · rw [if_neg c, if_neg c]
      obtain ⟨o, o1, o2, o3⟩ := gf_loops hr hk (n := n) (by omega) (z := 0) n 0 [] [] none (by omega) rfl rfl
      have o1' : loopO (spec_GreedyFloor_l9 k r (n : Int)) (0, [], []) = some o := o1
      have o2' : loopO (impl_GreedyFloor_l7 k r ((n : Int), 0)) (none, 0, []) = some o := o2
      rw [o1']
      simp only [Option.bind_some, not_true, if_false, ne_eq]
      rw [o2']
      cases o with
      | inl l => exact ⟨l, 0, o3, rfl, rfl⟩
      | inr l => exact ⟨l.1, l.2, o3, rfl, rfl⟩
  · rw [if_neg (by simpa using h), if_neg h]
    exact ⟨[], 1, by simp, rfl, rfl⟩

theorem gf_eqI (l : List Int) (h : l.length ≤ 1048576) : laws_eqInt64S l l = some true := by
  unfold laws_eqInt64S
  rw [if_neg (by simp), eqS_refl (n := l.length) (by omega) ?_ ?_]
  · rfl
  · intro i hi
    unfold laws_eqInt64S_l4
    rw [if_pos (by omega), rd_lt hi]
    simp
  · unfold laws_eqInt64S_l4
    simp

theorem gf_markI (l : List Int) (h : l.length ≤ 1048576) : laws_markInt64S l 1 = some (1 + (l.length : Int), iota 1 l.length) := by
  unfold laws_markInt64S
  rw [markInt (f := laws_markInt64S_l2) l (k := 1) (by omega) (by omega) ?_ ?_]
  · rfl
  · intro k i out hi
    unfold laws_markInt64S_l2
    simp only
    rw [if_pos (by omega), rd_lt hi]
    simp
  · intro k out
    unfold laws_markInt64S_l2
    simp

theorem gf_held (n : Nat) (h : n ≤ 1048576) : laws_heldInt64S (iota 1 n) 1 = some (1 + (n : Int)) := by
  unfold laws_heldInt64S
  rw [heldInt (f := laws_heldInt64S_l2 (iota 1 n)) (n := n) (k := 1) (by omega) (by omega) ?_ ?_]
  · rfl
  · intro i hi
    unfold laws_heldInt64S_l2
    simp only
    rw [if_pos (by rw [iota_length]; omega), rd_nat, iota_get _ _ _ hi]
    simp
  · unfold laws_heldInt64S_l2
    simp [iota_length]

theorem law_GreedyFloor (r : S_Room) (k : S_Stock) : laws_FnExactGreedyFloor r k = some true := by
  obtain ⟨out, c, ho, h1, h2⟩ := gf_same r k
  unfold laws_FnExactGreedyFloor laws_toRoom laws_toStock
  simp only [Option.bind_some, h1, h2, gf_eqI out (by omega), gf_markI out (by omega), gf_held out.length (by omega), not_true, ne_eq, or_self, if_false]
  rw [if_neg (by omega), if_neg (by omega)]

end Go.Pw
