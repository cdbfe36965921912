/- The plain law of FnFloors. Conditions: none. -/
import Derived.Test.YtigjhjlkdamncaaTflT
import Derived.Test.YtigjhjlkdamncaaSimPe
namespace Go.Pw
open Go.Sim (min2 max2)
set_option linter.unusedVariables false
set_option linter.unusedSimpArgs false

def Rm (r : S_Room) : Prop := (1 ≤ r.Width ∧ r.Width ≤ 20000) ∧ (1 ≤ r.Length ∧ r.Length ≤ 20000)
def Sk (k : S_Stock) : Prop := (10 ≤ k.Board ∧ k.Board ≤ 5000) ∧ (10 ≤ k.Wide ∧ k.Wide ≤ 1000) ∧ (1 ≤ k.Least ∧ k.Least ≤ k.Board) ∧ (0 ≤ k.Stagger ∧ k.Stagger ≤ w64 (k.Board.tdiv 2))

theorem within_eq (n a b : Int) : impl_within n a b = some (decide (a ≤ n ∧ n ≤ b)) := by
  unfold impl_within
  rw [Bool.decide_and]
theorem in_eq (n a b : Int) : spec_l00In n a b = some (decide (a ≤ n ∧ n ≤ b)) := by
  unfold spec_l00In
  rw [Bool.decide_and]

open Classical in
theorem gf_spec (r : S_Room) (k : S_Stock) : spec_l30Ok r k = some (decide (Rm r ∧ Sk k)) := by
  unfold spec_l30Ok spec_l30Room spec_l30Stock Rm Sk
  simp only [in_eq, Option.bind_some, decide_eq_true_eq]
  have e2 : dv .i64 k.Board 2 = some (w64 (k.Board.tdiv 2)) := by unfold dv; rw [if_neg (by decide)]
  rw [e2]
  by_cases c1 : 1 ≤ r.Width ∧ r.Width ≤ 20000 <;> by_cases c2 : 1 ≤ r.Length ∧ r.Length ≤ 20000 <;> by_cases c3 : 10 ≤ k.Board ∧ k.Board ≤ 5000 <;> by_cases c4 : 10 ≤ k.Wide ∧ k.Wide ≤ 1000 <;> by_cases c5 : 1 ≤ k.Least ∧ k.Least ≤ k.Board <;> simp [c1, c2, c3, c4, c5]

open Classical in
theorem gf_impl (r : S_Room) (k : S_Stock) : impl_roomCode r k = some (if Rm r ∧ Sk k then 0 else 1) := by
  unfold impl_roomCode impl_ValidRoom impl_ValidStock Rm Sk
  simp only [within_eq, Option.bind_some, decide_eq_true_eq]
  have e2 : dv .i64 k.Board 2 = some (w64 (k.Board.tdiv 2)) := by unfold dv; rw [if_neg (by decide)]
  rw [e2]
  by_cases c1 : 1 ≤ r.Width ∧ r.Width ≤ 20000 <;> by_cases c2 : 1 ≤ r.Length ∧ r.Length ≤ 20000 <;> by_cases c3 : 10 ≤ k.Board ∧ k.Board ≤ 5000 <;> by_cases c4 : 10 ≤ k.Wide ∧ k.Wide ≤ 1000 <;> by_cases c5 : 1 ≤ k.Least ∧ k.Least ≤ k.Board <;> by_cases c6 : 0 ≤ k.Stagger ∧ k.Stagger ≤ w64 (k.Board.tdiv 2) <;> simp [c1, c2, c3, c4, c5, c6]

theorem apd1 {l : List Int} {x : Int} (h : l.length ≤ 1000000) : apd 8 l [x] = some (l ++ [x]) := by
  unfold apd
  rw [if_pos (by simp; omega)]

/-- How many whole boards a row takes behind its first piece. -/
theorem gf_q {w B : Int} (hw : 1 ≤ w) (hB : 1 ≤ B) : ∃ q : Nat, (q : Int) * B < w ∧ w ≤ (q : Int) * B + B ∧ (q : Int) ≤ w := by
  have h0 : 0 ≤ (w - 1) / B := Int.ediv_nonneg (by omega) (by omega)
  refine ⟨((w - 1) / B).toNat, ?_⟩
  rw [Int.toNat_of_nonneg h0]
  have h1 : (w - 1) / B * B ≤ w - 1 := Int.ediv_mul_le _ (by omega)
  have h2 : w - 1 < ((w - 1) / B + 1) * B := Int.lt_ediv_add_one_mul_self _ (by omega)
  have h3 : (w - 1) / B ≤ w - 1 := Int.ediv_le_self _ (by omega)
  rw [Int.add_mul, Int.one_mul] at h2
  omega

theorem mul_mono {i q : Nat} {B : Int} (hB : 0 ≤ B) (h : i ≤ q) : (i : Int) * B ≤ (q : Int) * B := Int.mul_le_mul_of_nonneg_right (by omega) hB

theorem gf_piecesL {k : S_Stock} {w f : Int} {q : Nat} (hB : 1 ≤ k.Board) (hB2 : k.Board ≤ 5000) (hw : w ≤ 20000) (h1 : (q : Int) * k.Board < w) (h2 : w ≤ (q : Int) * k.Board + k.Board) (hq : (q : Int) ≤ w) :
    loopO (spec_l30Pieces_l7 k) (w, [f]) = some (w - (q : Int) * k.Board, f :: List.replicate q k.Board) := by
  have := loopO_for (fun i : Nat => (w - (i : Int) * k.Board, f :: List.replicate i k.Board)) q (f := spec_l30Pieces_l7 k) (r := (w - (q : Int) * k.Board, f :: List.replicate q k.Board)) (fun i hi => ?_) ?_
  · simpa using this
  · unfold spec_l30Pieces_l7
    simp only
    have m1 := mul_mono (B := k.Board) (by omega) (show i + 1 ≤ q by omega)
    have m2 : ((i + 1 : Nat) : Int) * k.Board = (i : Int) * k.Board + k.Board := by rw [Int.natCast_add, Int.add_mul]; simp
    have m3 : 0 ≤ (i : Int) * k.Board := Int.mul_nonneg (by omega) (by omega)
    rw [if_pos (by omega), apd1 (by simp; omega), Option.bind_some, w64_id (by omega) (by omega), m2, List.replicate_succ', List.cons_append]
    congr 3
    omega
  · unfold spec_l30Pieces_l7
    simp only
    rw [if_neg (by omega)]

/-- The joints of a row. -/
def jts (f B : Int) (n : Nat) : List Int := (List.range n).map fun j : Nat => f + (j : Int) * B
theorem jts_succ (f B : Int) (n : Nat) : jts f B (n + 1) = jts f B n ++ [f + (n : Int) * B] := by
  unfold jts
  rw [List.range_succ, List.map_append]
  rfl
theorem jts_length (f B : Int) (n : Nat) : (jts f B n).length = n := by simp [jts]

theorem gf_rowL {k : S_Stock} {r : S_Room} {f : Int} {q : Nat} (hB : 1 ≤ k.Board) (hB2 : k.Board ≤ 5000) (hf : 1 ≤ f) (hW : r.Width ≤ 20000) (h1 : (q : Int) * k.Board < r.Width - f) (h2 : r.Width - f ≤ (q : Int) * k.Board + k.Board) (hq : (q : Int) ≤ r.Width - f) :
    loopO (impl_makeRow_l7 k r) (f, [f], [], 0) = some (f :: (List.replicate q k.Board ++ [r.Width - f - (q : Int) * k.Board]), jts f k.Board (q + 1), r.Width - f - (q : Int) * k.Board) := by
  have := loopO_for (fun i : Nat => if i ≤ q then (f + (i : Int) * k.Board, f :: List.replicate i k.Board, jts f k.Board i, if i = 0 then (0 : Int) else k.Board) else (r.Width, f :: (List.replicate q k.Board ++ [r.Width - f - (q : Int) * k.Board]), jts f k.Board (q + 1), r.Width - f - (q : Int) * k.Board))
    (q + 1) (f := impl_makeRow_l7 k r) (r := (f :: (List.replicate q k.Board ++ [r.Width - f - (q : Int) * k.Board]), jts f k.Board (q + 1), r.Width - f - (q : Int) * k.Board)) (fun i hi => ?_) ?_
  · simpa [jts] using this
  · have hiq : i ≤ q := by omega
    rw [if_pos hiq]
    unfold impl_makeRow_l7
    simp only
    have m0 := mul_mono (B := k.Board) (by omega) hiq
    have m3 : 0 ≤ (i : Int) * k.Board := Int.mul_nonneg (by omega) (by omega)
    have m2 : ((i + 1 : Nat) : Int) * k.Board = (i : Int) * k.Board + k.Board := by rw [Int.natCast_add, Int.add_mul]; simp
    have e1 : w64 (r.Width - (f + (i : Int) * k.Board)) = r.Width - f - (i : Int) * k.Board := by rw [w64_id (by omega) (by omega)]; omega
    rw [if_pos (by omega), apd1 (by rw [jts_length]; omega), Option.bind_some, apd1 (by simp; omega), Option.bind_some, e1, ← jts_succ]
    by_cases c : i < q
    · have m1 := mul_mono (B := k.Board) (by omega) (show i + 1 ≤ q by omega)
      have e2 : Go.Sim.min2 (r.Width - f - (i : Int) * k.Board) k.Board = k.Board := by unfold Go.Sim.min2; split <;> omega
      rw [e2, if_pos (by omega), w64_id (by omega) (by omega), m2, if_neg (by omega), List.cons_append, ← List.replicate_succ']
      congr 3
      omega
    · obtain rfl : i = q := by omega
      have e2 : Go.Sim.min2 (r.Width - f - (i : Int) * k.Board) k.Board = r.Width - f - (i : Int) * k.Board := by unfold Go.Sim.min2; split <;> omega
      rw [e2, if_neg (by omega), w64_id (by omega) (by omega), List.cons_append]
      congr 3
      omega
  · rw [if_neg (by omega)]
    unfold impl_makeRow_l7
    simp

theorem gf_joints {f B l : Int} {q : Nat} (hB : 1 ≤ B) (hB2 : B ≤ 5000) (hf : 0 ≤ f) (hf2 : f ≤ 20000) (hq : q ≤ 20000) (hb : (q : Int) * B ≤ 20000) :
    spec_l30Joints (f :: (List.replicate q B ++ [l])) = some (jts f B (q + 1)) := by
  unfold spec_l30Joints
  have hlen : (f :: (List.replicate q B ++ [l])).length = q + 2 := by simp
  have := loopO_for (fun i : Nat => ((if i = 0 then (0 : Int) else f + ((i - 1 : Nat) : Int) * B), (i : Int), jts f B i)) (q + 1) (f := spec_l30Joints_l4 (f :: (List.replicate q B ++ [l]))) (r := jts f B (q + 1)) (fun i hi => ?_) ?_
  · have h0 : ((0 : Int), (0 : Int), ([] : List Int)) = (fun i : Nat => ((if i = 0 then (0 : Int) else f + ((i - 1 : Nat) : Int) * B), (i : Int), jts f B i)) 0 := by simp [jts]
    rw [h0, this]
    rfl
  · unfold spec_l30Joints_l4
    simp only [hlen]
    have m0 := mul_mono (B := B) (by omega) (show i ≤ q by omega)
    have m3 : 0 ≤ (i : Int) * B := Int.mul_nonneg (by omega) (by omega)
    rw [w64_succ (by omega), if_pos (by omega), rd_nat]
    by_cases c : i = 0
    · subst c
      simp only [if_true, List.getElem?_cons_zero, Option.bind_some]
      rw [apd1 (by simp [jts]), Option.bind_some, w64_id (by omega) (by omega), jts_succ]
      simp
    · obtain ⟨j, rfl⟩ : ∃ j, i = j + 1 := ⟨i - 1, by omega⟩
      have hg : (f :: (List.replicate q B ++ [l]))[j + 1]? = some B := by
        rw [List.getElem?_cons_succ, List.getElem?_append_left (by simp; omega), List.getElem?_replicate, if_pos (by omega)]
      have m2 : ((j + 1 : Nat) : Int) * B = (j : Int) * B + B := by rw [Int.natCast_add, Int.add_mul]; simp
      rw [hg, Option.bind_some, if_neg (by omega), Nat.add_sub_cancel, apd1 (by rw [jts_length]; omega), Option.bind_some, w64_id (by omega) (by omega), jts_succ f B (j + 1), m2, if_neg (by omega), Nat.add_sub_cancel, m2]
      congr 3
      · omega
      · congr 1
        congr 1
        congr 1
        omega
  · unfold spec_l30Joints_l4
    simp only [hlen]
    rw [w64_succ (by omega), if_neg (by omega)]

/-- What a row of the program is, as the reference sees it. -/
structure Fits (k : S_Stock) (x : S_row) : Prop where
  joints : spec_l30Joints x.pieces = some x.joints
  small : ∀ y ∈ x.joints, 0 ≤ y ∧ y ≤ 40000
  few : x.joints.length ≤ 20001
  left : ∃ v, spec_l30Left k x.pieces = some v ∧ impl_row_left x k = some v

theorem gf_row {r : S_Room} {k : S_Stock} (hr : Rm r) (hk : Sk k) (f : Int) :
    ∃ (x : S_row) (c : Int), spec_l30Pieces r k f = some (x.pieces, c) ∧ impl_makeRow r k f = some (x, c) ∧ (c = 0 → Fits k x ∧ k.Least ≤ f ∧ f ≤ k.Board) := by
  obtain ⟨⟨w1, w2⟩, _⟩ := hr
  obtain ⟨⟨b1, b2⟩, _, ⟨l1, l2⟩, _⟩ := hk
  unfold spec_l30Pieces impl_makeRow
  simp only [in_eq, within_eq, Option.bind_some, decide_eq_true_eq]
  by_cases c1 : k.Least ≤ f ∧ f ≤ k.Board
  · rw [if_pos c1, if_pos c1]
    by_cases c2 : r.Width ≤ f
    · rw [if_pos c2, if_pos c2]
      refine ⟨_, _, rfl, rfl, fun _ => ⟨⟨?_, (fun y hy => by cases hy), Nat.zero_le _, ?_⟩, c1⟩⟩
      · unfold spec_l30Joints
        rw [loopO_done (r := []) (by unfold spec_l30Joints_l4; simp [show w64 1 = 1 from w64_id (by omega) (by omega)])]
        rfl
      · exact ⟨0, by simp [spec_l30Left], by simp [impl_row_left]⟩
    · rw [if_neg c2, if_neg c2]
      obtain ⟨q, q1, q2, q3⟩ := gf_q (w := r.Width - f) (B := k.Board) (by omega) (by omega)
      rw [w64_id (by omega) (by omega), gf_piecesL (by omega) b2 (by omega) q1 q2 q3, gf_rowL (by omega) b2 (by omega) w2 q1 q2 q3]
      simp only [Option.bind_some]
      by_cases c3 : r.Width - f - (q : Int) * k.Board < k.Least
      · rw [if_pos c3, if_pos c3]
        exact ⟨_, _, rfl, rfl, fun h => by cases h⟩
      · rw [if_neg c3, if_neg c3, apd1 (by simp; omega), Option.bind_some]
        refine ⟨⟨f :: (List.replicate q k.Board ++ [r.Width - f - (q : Int) * k.Board]), jts f k.Board (q + 1), r.Width - f - (q : Int) * k.Board⟩, 0, by simp, rfl, fun _ => ⟨⟨?_, ?_, ?_, ?_⟩, c1⟩⟩
        · exact gf_joints (by omega) b2 (by omega) (by omega) (by omega) (by omega)
        · intro y hy
          obtain ⟨j, hj, rfl⟩ := List.mem_map.1 hy
          have hj := List.mem_range.1 hj
          have m1 := mul_mono (B := k.Board) (by omega) (show j ≤ q by omega)
          have m3 : 0 ≤ (j : Int) * k.Board := Int.mul_nonneg (by omega) (by omega)
          omega
        · show (jts f k.Board (q + 1)).length ≤ _
          rw [jts_length]; omega
        · refine ⟨w64 (k.Board - (r.Width - f - (q : Int) * k.Board)), ?_, ?_⟩
          · unfold spec_l30Left
            have hlen : (f :: (List.replicate q k.Board ++ [r.Width - f - (q : Int) * k.Board])).length = q + 2 := by simp
            simp only [hlen]
            rw [if_neg (by omega), w64_id (by omega) (by omega), show ((q + 2 : Nat) : Int) - 1 = ((q + 1 : Nat) : Int) by omega, rd_nat, List.getElem?_cons_succ, List.getElem?_append_right (by simp)]
            simp
          · unfold impl_row_left
            rw [if_neg (by simp; omega)]
  · rw [if_neg c1, if_neg c1]
    exact ⟨_, _, rfl, rfl, fun h => by cases h⟩

theorem gf_apartL {k : S_Stock} {a b : S_row} (ha : ∀ y ∈ a.joints, 0 ≤ y ∧ y ≤ 40000) (hb : ∀ y ∈ b.joints, 0 ≤ y ∧ y ≤ 40000) (la : a.joints.length ≤ 20001) (lb : b.joints.length ≤ 20001) :
    ∀ (n i j : Nat), (a.joints.length - i) + (b.joints.length - j) ≤ n → ∃ o, loopO (spec_l30Apart_l5 k a.joints b.joints) ((i : Int), (j : Int)) = some o ∧ loopO (impl_staggered_l2 a b k) ((i : Int), (j : Int)) = some o := by
  intro n
  induction n with
  | zero =>
    intro i j h
    refine ⟨.inl (), loopO_done ?_, loopO_done ?_⟩
    · unfold spec_l30Apart_l5
      simp only
      rw [if_neg (by omega)]
    · unfold impl_staggered_l2
      simp only
      rw [if_neg (by omega)]
  | succ n ih =>
    intro i j h
    by_cases c : i < a.joints.length ∧ j < b.joints.length
    · obtain ⟨hi, hj⟩ := c
      obtain ⟨x1, x2⟩ := ha _ (List.getElem_mem hi)
      obtain ⟨y1, y2⟩ := hb _ (List.getElem_mem hj)
      generalize hx : a.joints[i] = x at x1 x2
      generalize hy : b.joints[j] = y at y1 y2
      have e1 : w64 (x - y) = x - y := w64_id (by omega) (by omega)
      have e2 : w64 (y - x) = y - x := w64_id (by omega) (by omega)
      have e3 : w64 (0 - (x - y)) = y - x := by rw [w64_id (by omega) (by omega)]; omega
      obtain ⟨m, hm1, hm2⟩ : ∃ m, spec_l00Max (x - y) (y - x) = some m ∧ impl_absolute (x - y) = some m := by
        unfold spec_l00Max impl_absolute Go.Sim.max2
        rw [e3]
        by_cases c : x - y > y - x
        · rw [if_pos c, if_neg (by omega)]; exact ⟨_, rfl, rfl⟩
        · rw [if_neg c]
          by_cases c' : y - x > x - y
          · rw [if_pos c']; exact ⟨_, rfl, rfl⟩
          · rw [if_neg c', show x - y = y - x by omega]; exact ⟨_, rfl, rfl⟩
      have f1 : spec_l30Apart_l5 k a.joints b.joints ((i : Int), (j : Int)) = if m < k.Stagger then some (.inr (.inr false)) else if x < y then some (.inl (((i + 1 : Nat) : Int), (j : Int))) else some (.inl ((i : Int), ((j + 1 : Nat) : Int))) := by
        unfold spec_l30Apart_l5
        simp only [rd_lt hi, rd_lt hj, Option.bind_some, hx, hy, e1, e2, hm1]
        rw [if_pos (by omega), w64_succ (by omega), w64_succ (by omega)]
      have f2 : impl_staggered_l2 a b k ((i : Int), (j : Int)) = if m < k.Stagger then some (.inr (.inr false)) else if x < y then some (.inl (((i + 1 : Nat) : Int), (j : Int))) else some (.inl ((i : Int), ((j + 1 : Nat) : Int))) := by
        unfold impl_staggered_l2
        simp only [rd_lt hi, rd_lt hj, Option.bind_some, hx, hy, e1, e2, hm2]
        rw [if_pos (by omega), w64_succ (by omega), w64_succ (by omega)]
      by_cases c1 : m < k.Stagger
      · rw [if_pos c1] at f1 f2
        exact ⟨_, loopO_done f1, loopO_done f2⟩
      · rw [if_neg c1] at f1 f2
        by_cases c2 : x < y
        · rw [if_pos c2] at f1 f2
          obtain ⟨o, o1, o2⟩ := ih (i + 1) j (by omega)
          exact ⟨o, by rw [loopO_next f1]; exact o1, by rw [loopO_next f2]; exact o2⟩
        · rw [if_neg c2] at f1 f2
          obtain ⟨o, o1, o2⟩ := ih i (j + 1) (by omega)
          exact ⟨o, by rw [loopO_next f1]; exact o1, by rw [loopO_next f2]; exact o2⟩
    · refine ⟨.inl (), loopO_done ?_, loopO_done ?_⟩
      · unfold spec_l30Apart_l5
        simp only
        rw [if_neg (by omega)]
      · unfold impl_staggered_l2
        simp only
        rw [if_neg (by omega)]

theorem gf_apart {k : S_Stock} {a b : S_row} (ha : Fits k a) (hb : Fits k b) : ∃ v, spec_l30Apart k a.pieces b.pieces = some v ∧ impl_staggered a b k = some v := by
  obtain ⟨o, o1, o2⟩ := gf_apartL (k := k) ha.small hb.small ha.few hb.few _ 0 0 (Nat.le_refl _)
  unfold spec_l30Apart impl_staggered
  have o1' : loopO (spec_l30Apart_l5 k a.joints b.joints) (0, 0) = some o := o1
  have o2' : loopO (impl_staggered_l2 a b k) (0, 0) = some o := o2
  rw [ha.joints, hb.joints, Option.bind_some, Option.bind_some, o1', o2']
  cases o with
  | inl u => exact ⟨true, rfl, rfl⟩
  | inr v => exact ⟨v, rfl, rfl⟩

/-- Nothing is staggered against no row. -/
theorem gf_apart0 {k : S_Stock} {b : S_row} (hb : Fits k b) : spec_l30Apart k [] b.pieces = some true := by
  unfold spec_l30Apart
  have e : spec_l30Joints [] = some [] := by
    unfold spec_l30Joints
    rw [loopO_done (r := []) (by unfold spec_l30Joints_l4; simp [show w64 1 = 1 from w64_id (by omega) (by omega)])]
    rfl
  rw [e, hb.joints, Option.bind_some, Option.bind_some, loopO_done (r := .inl ()) (by unfold spec_l30Apart_l5; simp)]
  rfl

/-- The row before, as both sides hold it. -/
def Bef (k : S_Stock) (last : List Int) : Option S_row → Prop
  | none => last = []
  | some x => Fits k x ∧ last = x.pieces

/-- A first piece is tried. -/
theorem gf_try {r : S_Room} {k : S_Stock} (hr : Rm r) (hk : Sk k) {last : List Int} {bf : Option S_row} (hb : Bef k last bf) (f : Int) :
    ∃ (x : S_row) (c : Int) (v : Bool), spec_l30Pieces r k f = some (x.pieces, c) ∧ (if c = 0 then (spec_l30Apart k last x.pieces).bind fun y => some y else some false) = some v ∧ impl_possible r k bf f = some (x, v) ∧ (v = true → Fits k x ∧ k.Least ≤ f ∧ f ≤ k.Board) := by
  obtain ⟨x, c, h1, h2, h3⟩ := gf_row hr hk f
  unfold impl_possible
  rw [h2]
  simp only [Option.bind_some]
  by_cases hc : c = 0
  · obtain ⟨h4, h5⟩ := h3 hc
    rw [if_pos hc]
    cases bf with
    | none =>
      obtain rfl : last = [] := hb
      exact ⟨x, c, true, h1, by rw [if_pos hc, gf_apart0 h4]; rfl, rfl, fun _ => ⟨h4, h5⟩⟩
    | some y =>
      obtain ⟨hy, rfl⟩ := hb
      obtain ⟨v, v1, v2⟩ := gf_apart hy h4
      exact ⟨x, c, v, h1, by rw [if_pos hc, v1]; rfl, by simp only [v2, Option.bind_some], fun _ => ⟨h4, h5⟩⟩
  · rw [if_neg hc]
    exact ⟨x, c, false, h1, by rw [if_neg hc], rfl, fun h => by cases h⟩

/-- Lengths, from the greatest down. -/
def dn (B : Int) (n : Nat) : List Int := (List.range n).map fun j : Nat => B - (j : Int)
theorem dn_succ (B : Int) (n : Nat) : dn B (n + 1) = dn B n ++ [B - (n : Int)] := by
  unfold dn
  rw [List.range_succ, List.map_append]
  rfl
theorem dn_length (B : Int) (n : Nat) : (dn B n).length = n := by simp [dn]
theorem dn_get (B : Int) {n i : Nat} (h : i < n) : (dn B n)[i]? = some (B - (i : Int)) := by
  unfold dn
  rw [List.getElem?_map, List.getElem?_range h]
  rfl

theorem gf_cand {k : S_Stock} (hk : Sk k) {pre : List Int} (hp : pre.length ≤ 1) : loopO (impl_GreedyFloor_l12 k) (k.Board, pre) = some (pre ++ dn k.Board (k.Board - k.Least + 1).toNat) := by
  obtain ⟨⟨b1, b2⟩, _, ⟨l1, l2⟩, _⟩ := hk
  have := loopO_for (fun i : Nat => (k.Board - (i : Int), pre ++ dn k.Board i)) (k.Board - k.Least + 1).toNat (f := impl_GreedyFloor_l12 k) (r := pre ++ dn k.Board (k.Board - k.Least + 1).toNat) (fun i hi => ?_) ?_
  · simpa [dn] using this
  · unfold impl_GreedyFloor_l12
    simp only
    rw [if_pos (by omega), apd1 (by rw [List.length_append, dn_length]; omega), Option.bind_some, w64_id (by omega) (by omega), dn_succ, List.append_assoc]
    congr 3
    omega
  · unfold impl_GreedyFloor_l12
    simp only
    rw [if_neg (by omega)]

theorem gf_search {r : S_Room} {k : S_Stock} (hr : Rm r) (hk : Sk k) {last out pre : List Int} {bf : Option S_row} (hb : Bef k last bf) (ho : out.length ≤ 100) (hp : pre.length ≤ 1) :
    ∀ (m i : Nat), i + m = (k.Board - k.Least + 1).toNat →
      (∃ (f : Int) (x : S_row) (c : Int), loopO (spec_GreedyFloor_l17 k last r) (-1, k.Board - (i : Int)) = some f ∧ loopO (impl_GreedyFloor_l17 bf (pre ++ dn k.Board (k.Board - k.Least + 1).toNat) k out r) (((pre.length + i : Nat) : Int)) = some (some x, true, out ++ [f]) ∧ 0 ≤ f ∧ spec_l30Pieces r k f = some (x.pieces, c) ∧ Fits k x) ∨
      (loopO (spec_GreedyFloor_l17 k last r) (-1, k.Board - (i : Int)) = some (-1) ∧ loopO (impl_GreedyFloor_l17 bf (pre ++ dn k.Board (k.Board - k.Least + 1).toNat) k out r) (((pre.length + i : Nat) : Int)) = some (bf, false, out)) := by
  obtain ⟨⟨b1, b2⟩, _, ⟨l1, l2⟩, _⟩ := id hk
  intro m
  induction m with
  | zero =>
    intro i hi
    refine .inr ⟨loopO_done ?_, loopO_done ?_⟩
    · unfold spec_GreedyFloor_l17
      simp only
      rw [if_neg (by omega)]
    · unfold impl_GreedyFloor_l17
      rw [if_neg (by rw [List.length_append, dn_length]; omega)]
  | succ m ih =>
    intro i hi
    obtain ⟨x, c, v, h1, h2, h3, h4⟩ := gf_try hr hk hb (k.Board - (i : Int))
    have hg : rd (pre ++ dn k.Board (k.Board - k.Least + 1).toNat) ((pre.length + i : Nat) : Int) = some (k.Board - (i : Int)) := by
      rw [rd_nat, List.getElem?_append_right (by omega), Nat.add_sub_cancel_left, dn_get _ (by omega)]
    have e1 : w64 (k.Board - (i : Int) - 1) = k.Board - ((i + 1 : Nat) : Int) := by rw [w64_id (by omega) (by omega)]; omega
    have f1 : spec_GreedyFloor_l17 k last r (-1, k.Board - (i : Int)) = some (.inl (if v = true then k.Board - (i : Int) else -1, k.Board - ((i + 1 : Nat) : Int))) := by
      unfold spec_GreedyFloor_l17 spec_GreedyFloor_k18
      simp only
      rw [if_pos (by omega), h1, Option.bind_some]
      simp only [h2, Option.bind_some, e1]
      split <;> rfl
    have f2 : impl_GreedyFloor_l17 bf (pre ++ dn k.Board (k.Board - k.Least + 1).toNat) k out r ((pre.length + i : Nat) : Int) = if v = true then some (.inr (some x, true, out ++ [k.Board - (i : Int)])) else some (.inl (((pre.length + (i + 1) : Nat) : Int))) := by
      unfold impl_GreedyFloor_l17
      rw [if_pos (by rw [List.length_append, dn_length]; omega), hg, Option.bind_some, h3, Option.bind_some]
      simp only
      rw [apd1 (by omega), Option.bind_some, w64_succ (by omega)]
      rfl
    cases v with
    | true =>
      obtain ⟨q1, q2, q3⟩ := h4 rfl
      refine .inl ⟨k.Board - (i : Int), x, c, ?_, loopO_done (by rw [f2, if_pos rfl]), by omega, h1, q1⟩
      rw [loopO_next f1, if_pos rfl]
      refine loopO_done ?_
      unfold spec_GreedyFloor_l17
      simp only
      rw [if_neg (by omega)]
    | false =>
      have f1' : spec_GreedyFloor_l17 k last r (-1, k.Board - (i : Int)) = some (.inl (-1, k.Board - ((i + 1 : Nat) : Int))) := f1
      have f2' : impl_GreedyFloor_l17 bf (pre ++ dn k.Board (k.Board - k.Least + 1).toNat) k out r ((pre.length + i : Nat) : Int) = some (.inl (((pre.length + (i + 1) : Nat) : Int))) := by rw [f2]; rfl
      rw [loopO_next f1', loopO_next f2']
      exact ih (i + 1) (by omega)

/-- One row of the floor. -/
theorem gf_round {r : S_Room} {k : S_Stock} (hr : Rm r) (hk : Sk k) {last out : List Int} {bf : Option S_row} (hb : Bef k last bf) (ho : out.length ≤ 100) {n i : Nat} (hi : i < n) (hn : n ≤ 40) {z : Int} :
    (∃ (f : Int) (x : S_row), Fits k x ∧ spec_GreedyFloor_l9 k r (n : Int) ((i : Int), out, last) = some (.inl (((i + 1 : Nat) : Int), out ++ [f], x.pieces)) ∧ impl_GreedyFloor_l7 k r ((n : Int), z) (bf, (i : Int), out) = some (.inl (some x, ((i + 1 : Nat) : Int), out ++ [f]))) ∨
    (spec_GreedyFloor_l9 k r (n : Int) ((i : Int), out, last) = some (.inr (.inr ([], 3))) ∧ impl_GreedyFloor_l7 k r ((n : Int), z) (bf, (i : Int), out) = some (.inr (.inr ([], 3)))) := by
  obtain ⟨⟨b1, b2⟩, _, ⟨l1, l2⟩, _⟩ := id hk
  -- the search from the greatest one down
  have down : ∀ (pre : List Int), pre.length ≤ 1 → loopO (impl_GreedyFloor_l17 bf (pre ++ dn k.Board (k.Board - k.Least + 1).toNat) k out r) 0 = loopO (impl_GreedyFloor_l17 bf (pre ++ dn k.Board (k.Board - k.Least + 1).toNat) k out r) (((pre.length + 0 : Nat) : Int)) →
      (∃ (f : Int) (x : S_row), Fits k x ∧ spec_GreedyFloor_k16 (i : Int) k last out r (-1) = some (.inl (((i + 1 : Nat) : Int), out ++ [f], x.pieces)) ∧ impl_GreedyFloor_k11 bf k out r (i : Int) pre = some (.inl (some x, ((i + 1 : Nat) : Int), out ++ [f]))) ∨
      (spec_GreedyFloor_k16 (i : Int) k last out r (-1) = some (.inr (.inr ([], 3))) ∧ impl_GreedyFloor_k11 bf k out r (i : Int) pre = some (.inr (.inr ([], 3)))) := by
    intro pre hp h0
    have hs := gf_search hr hk hb ho hp (k.Board - k.Least + 1).toNat 0 (by omega)
    rw [show k.Board - ((0 : Nat) : Int) = k.Board by omega] at hs
    unfold spec_GreedyFloor_k16 impl_GreedyFloor_k11
    rw [gf_cand hk hp, Option.bind_some, h0]
    rcases hs with ⟨f, x, c, s1, s2, s3, s4, s5⟩ | ⟨s1, s2⟩
    · refine .inl ⟨f, x, s5, ?_, ?_⟩
      · rw [s1, Option.bind_some, if_neg (by omega), s4, Option.bind_some, apd1 (by omega), Option.bind_some, w64_succ (by omega)]
      · rw [s2, Option.bind_some]
        simp only [if_true]
        rw [w64_succ (by omega)]
    · refine .inr ⟨?_, ?_⟩
      · rw [s1, Option.bind_some, if_pos (by omega)]
      · rw [s2, Option.bind_some]
        rfl
  unfold spec_GreedyFloor_l9 impl_GreedyFloor_l7
  simp only
  rw [if_pos (by omega), if_pos (by omega)]
  cases bf with
  | none =>
    obtain rfl : last = [] := hb
    have hl : spec_l30Left k [] = some 0 := by simp [spec_l30Left]
    obtain ⟨x, c, v, h1, h2, h3, h4⟩ := gf_try hr hk (last := []) (bf := none) rfl 0
    have hv : v = false := by
      cases v with
      | false => rfl
      | true => have := (h4 rfl).2.1; omega
    subst hv
    rw [hl, Option.bind_some, h1, Option.bind_some]
    simp only [h2, Option.bind_some]
    exact down [] (by simp) rfl
  | some y =>
    obtain ⟨hy, rfl⟩ := id hb
    obtain ⟨w, w1, w2⟩ := hy.left
    obtain ⟨x, c, v, h1, h2, h3, h4⟩ := gf_try hr hk hb w
    rw [w1, Option.bind_some, h1, Option.bind_some]
    simp only [h2, Option.bind_some, if_true, w2]
    have ha : apd 8 ([] : List Int) [w] = some [w] := apd1 (by simp)
    rw [ha, Option.bind_some]
    have hg : rd ([w] ++ dn k.Board (k.Board - k.Least + 1).toNat) 0 = some w := rfl
    have hstep : impl_GreedyFloor_l17 (some y) ([w] ++ dn k.Board (k.Board - k.Least + 1).toNat) k out r 0 = if v = true then some (.inr (some x, true, out ++ [w])) else some (.inl 1) := by
      unfold impl_GreedyFloor_l17
      rw [if_pos (by rw [List.length_append, dn_length]; simp; omega), hg, Option.bind_some, h3, Option.bind_some]
      simp only
      rw [apd1 (by omega), Option.bind_some, show w64 (0 + 1) = 1 from w64_id (by omega) (by omega)]
    cases v with
    | true =>
      obtain ⟨q1, q2, q3⟩ := h4 rfl
      refine .inl ⟨w, x, q1, ?_, ?_⟩
      · rw [if_pos rfl]
        unfold spec_GreedyFloor_k16
        rw [loopO_done (r := w) (by unfold spec_GreedyFloor_l17; simp only; rw [if_neg (by omega)]), Option.bind_some, if_neg (by omega), h1, Option.bind_some, apd1 (by omega), Option.bind_some, w64_succ (by omega)]
      · unfold impl_GreedyFloor_k11
        rw [gf_cand hk (by simp), Option.bind_some, loopO_done (by rw [hstep, if_pos rfl]), Option.bind_some]
        simp only [if_true]
        rw [w64_succ (by omega)]
    | false =>
      have := down [w] (by simp) (by
        rw [loopO_next (s' := 1) (by rw [hstep]; rfl)]
        rfl)
      simpa using this

theorem gf_loops {r : S_Room} {k : S_Stock} (hr : Rm r) (hk : Sk k) {n : Nat} (hn : n ≤ 40) {z : Int} :
    ∀ (m i : Nat) (last out : List Int) (bf : Option S_row), i + m = n → Bef k last bf → out.length = i →
      ∃ o : List Int ⊕ (List Int × Int), loopO (spec_GreedyFloor_l9 k r (n : Int)) ((i : Int), out, last) = some o ∧ loopO (impl_GreedyFloor_l7 k r ((n : Int), z)) (bf, (i : Int), out) = some o ∧ (match o with | .inl l => l.length ≤ 100 | .inr l => l.1.length ≤ 100) := by
  intro m
  induction m with
  | zero =>
    intro i last out bf hi hb ho
    refine ⟨.inl out, loopO_done ?_, loopO_done ?_, by show out.length ≤ 100; omega⟩
    · unfold spec_GreedyFloor_l9
      simp only
      rw [if_neg (by omega)]
    · unfold impl_GreedyFloor_l7
      simp only
      rw [if_neg (by omega)]
  | succ m ih =>
    intro i last out bf hi hb ho
    rcases gf_round hr hk hb (out := out) (by omega) (show i < n by omega) hn (z := z) with ⟨f, x, q1, q2, q3⟩ | ⟨q2, q3⟩
    · obtain ⟨o, o1, o2, o3⟩ := ih (i + 1) x.pieces (out ++ [f]) (some x) (by omega) ⟨q1, rfl⟩ (by simp [ho])
      exact ⟨o, by rw [loopO_next q2]; exact o1, by rw [loopO_next q3]; exact o2, o3⟩
    · exact ⟨.inr ([], 3), loopO_done q2, loopO_done q3, by show (0 : Nat) ≤ 100; omega⟩

theorem gf_same (r : S_Room) (k : S_Stock) : ∃ (out : List Int) (c : Int), out.length ≤ 100 ∧ spec_GreedyFloor r k = some (out, c) ∧ impl_GreedyFloor r k = some (out, c) := by
  classical
  unfold spec_GreedyFloor impl_GreedyFloor impl_RowCount
  rw [gf_spec, gf_impl, Option.bind_some, Option.bind_some]
  by_cases h : Rm r ∧ Sk k
  · obtain ⟨hr, hk⟩ := id h
    obtain ⟨_, ⟨l1, l2⟩⟩ := id hr
    obtain ⟨_, ⟨w1, w2⟩, _⟩ := id hk
    have e1 : w64 (r.Length + k.Wide) = r.Length + k.Wide := w64_id (by omega) (by omega)
    have e2 : w64 (r.Length + k.Wide - 1) = r.Length + k.Wide - 1 := w64_id (by omega) (by omega)
    have e3 : (r.Length + k.Wide - 1).tdiv k.Wide = (r.Length + k.Wide - 1) / k.Wide := Int.tdiv_eq_ediv_of_nonneg (by omega)
    have h0 : 0 ≤ (r.Length + k.Wide - 1) / k.Wide := Int.ediv_nonneg (by omega) (by omega)
    have h1 : (r.Length + k.Wide - 1) / k.Wide ≤ r.Length + k.Wide - 1 := Int.ediv_le_self _ (by omega)
    have e4 : w64 ((r.Length + k.Wide - 1) / k.Wide) = (r.Length + k.Wide - 1) / k.Wide := w64_id (by omega) (by omega)
    have hd : dv .i64 (r.Length + k.Wide - 1) k.Wide = some ((r.Length + k.Wide - 1) / k.Wide) := by
      unfold dv
      rw [if_neg (by omega), e3]
      exact congrArg some e4
    have hs : spec_l30Rows r k = some ((r.Length + k.Wide - 1) / k.Wide) := by
      unfold spec_l30Rows spec_l28Up
      rw [e1, e2, hd]; rfl
    have hi : impl_rows r k = some ((r.Length + k.Wide - 1) / k.Wide) := by
      unfold impl_rows impl_upDiv
      rw [e1, e2, hd]; rfl
    rw [if_pos (by simpa using h), hs, hi, if_pos h]
    simp only [Option.bind_some, ne_eq, not_true, if_false]
    obtain ⟨n, hn⟩ : ∃ n : Nat, (r.Length + k.Wide - 1) / k.Wide = (n : Int) := ⟨_, (Int.toNat_of_nonneg h0).symm⟩
    rw [hn]
    by_cases c : (n : Int) > 40
    · rw [if_pos c, if_pos c]
      exact ⟨[], 5, by simp, rfl, rfl⟩
    · rw [if_neg c, if_neg c]
      obtain ⟨o, o1, o2, o3⟩ := gf_loops hr hk (n := n) (by omega) (z := 0) n 0 [] [] none (by omega) rfl rfl
      have o1' : loopO (spec_GreedyFloor_l9 k r (n : Int)) (0, [], []) = some o := o1
      have o2' : loopO (impl_GreedyFloor_l7 k r ((n : Int), 0)) (none, 0, []) = some o := o2
      rw [o1']
      simp only [Option.bind_some, not_true, if_false, ne_eq]
      rw [o2']
      cases o with
      | inl l => exact ⟨l, 0, o3, rfl, rfl⟩
      | inr l => exact ⟨l.1, l.2, o3, rfl, rfl⟩
  · rw [if_neg (by simpa using h), if_neg h]
    exact ⟨[], 1, by simp, rfl, rfl⟩

def Sr (c : List Int) (n : Int) (s : S_l00Src) : Prop := s.code = c ∧ 0 ≤ s.at_ ∧ s.at_ ≤ n

theorem Sr.mono {c : List Int} {n m : Int} {s : S_l00Src} (h : Sr c n s) (hm : n ≤ m) : Sr c m s := ⟨h.1, h.2.1, by have := h.2.2; omega⟩

theorem and255 (x : Int) : 0 ≤ bit_and .u64 x 255 ∧ bit_and .u64 x 255 ≤ 255 := by
  unfold bit_and
  have h1 : (BitVec.ofInt IntKind.u64.bits x &&& BitVec.ofInt IntKind.u64.bits 255).toNat ≤ 255 := by
    rw [BitVec.toNat_and]
    exact Nat.le_trans Nat.and_le_right (by decide)
  generalize (BitVec.ofInt IntKind.u64.bits x &&& BitVec.ofInt IntKind.u64.bits 255).toNat = k at h1
  have e : IntKind.wrap .u64 (k : Int) = (k : Int) := by
    simp only [IntKind.wrap, IntKind.signed, IntKind.bits]
    simp
    omega
  rw [e]
  omega

theorem next_ok {c : List Int} (hc : ∀ x ∈ c, 0 ≤ x ∧ x ≤ 255) {n : Int} (hn : n ≤ 1000000000) {s : S_l00Src} (h : Sr c n s) : ∃ v s', spec_l00Src_next s = some (v, s') ∧ 0 ≤ v ∧ v ≤ 255 ∧ Sr c (n + 1) s' := by
  obtain ⟨h1, h2, h3⟩ := h
  have e1 : w64 (s.at_ + 1) = s.at_ + 1 := w64_id (by omega) (by omega)
  have k4 : ∀ b, 0 ≤ b → b ≤ 255 → ∃ v s', spec_l00Src_next_k4 s b = some (v, s') ∧ 0 ≤ v ∧ v ≤ 255 ∧ Sr c (n + 1) s' := by
    intro b b1 b2
    unfold spec_l00Src_next_k4 shr
    rw [e1]
    by_cases q : s.at_ + 1 ≤ (s.code.length : Int)
    · rw [if_pos q]
      exact ⟨_, _, rfl, b1, b2, h1, by show 0 ≤ s.at_ + 1; omega, by show s.at_ + 1 ≤ n + 1; omega⟩
    · rw [if_neg q, if_neg (by decide)]
      simp only [Option.bind_some]
      have a := and255 (Int.fdiv (IntKind.wrap .u64 ((IntKind.wrap .u64 ((IntKind.wrap .u64 (s.seed * 6364136223846793005)) + (IntKind.wrap .u64 b))) + 1442695040888963407)) (2 ^ min (Int.toNat 40) IntKind.u64.bits))
      refine ⟨_, _, rfl, ?_, ?_, h1, by show 0 ≤ s.at_ + 1; omega, by show s.at_ + 1 ≤ n + 1; omega⟩
      · rw [w64_id (by omega) (by omega)]; exact a.1
      · rw [w64_id (by omega) (by omega)]; exact a.2
  unfold spec_l00Src_next
  by_cases q : s.at_ < (s.code.length : Int)
  · rw [if_pos q]
    obtain ⟨i, hi⟩ : ∃ i : Nat, s.at_ = (i : Int) := ⟨s.at_.toNat, by omega⟩
    have hlt : i < s.code.length := by omega
    rw [hi, rd_lt hlt, Option.bind_some]
    have hb := hc s.code[i] (by rw [← h1]; exact List.getElem_mem hlt)
    rw [w64_id (by omega) (by omega)]
    exact k4 _ hb.1 hb.2
  · rw [if_neg q]
    exact k4 0 (by omega) (by omega)

theorem pick_ok {c : List Int} (hc : ∀ x ∈ c, 0 ≤ x ∧ x ≤ 255) {n : Int} (hn : n ≤ 999999999) {s : S_l00Src} (h : Sr c n s) (m : Int) : ∃ v s', spec_l00Src_pick s m = some (v, s') ∧ 0 ≤ v ∧ (1 ≤ m → v < m) ∧ Sr c (n + 2) s' := by
  unfold spec_l00Src_pick
  by_cases q : m ≤ 1
  · rw [if_pos q]
    exact ⟨_, _, rfl, by omega, by omega, h.mono (by omega)⟩
  · rw [if_neg q]
    obtain ⟨v, s1, e1, v1, v2, h1⟩ := next_ok hc (by omega) h
    have k6 : ∀ (x : Int) (t : S_l00Src), 0 ≤ x → Sr c (n + 2) t → ∃ v s', spec_l00Src_pick_k6 m x t.code t.at_ t.seed = some (v, s') ∧ 0 ≤ v ∧ (1 ≤ m → v < m) ∧ Sr c (n + 2) s' := by
      intro x t hx ht
      unfold spec_l00Src_pick_k6 md
      rw [if_neg (by omega), Option.bind_some]
      have e : x.tmod m = x % m := Int.tmod_eq_emod_of_nonneg hx
      refine ⟨_, _, rfl, ?_, fun _ => ?_, ht⟩
      · rw [e]; exact Int.emod_nonneg _ (by omega)
      · rw [e]; exact Int.emod_lt_of_pos _ (by omega)
    simp only [e1, Option.bind_some]
    by_cases q2 : m > 200
    · rw [if_pos q2]
      obtain ⟨w, s2, e2, w1, w2, h2⟩ := next_ok hc (n := n + 1) (by omega) h1
      simp only [e2, Option.bind_some]
      have a1 : w64 (v * 256) = v * 256 := w64_id (by omega) (by omega)
      have a2 : w64 (v * 256 + w) = v * 256 + w := w64_id (by omega) (by omega)
      rw [a1, a2]
      exact k6 _ s2 (by omega) (h2.mono (by omega))
    · rw [if_neg q2]
      exact k6 v s1 v1 (h1.mono (by omega))

theorem one_ok {c : List Int} (hc : ∀ x ∈ c, 0 ≤ x ∧ x ≤ 255) {n : Int} (hn : n ≤ 999999999) {s : S_l00Src} (h : Sr c n s) (m : Int) : ∃ v s', spec_l00Src_one s m = some (v, s') ∧ Sr c (n + 2) s' := by
  obtain ⟨v, s', e, _, _, h'⟩ := pick_ok hc hn h m
  unfold spec_l00Src_one
  rw [e]
  exact ⟨_, _, rfl, h'⟩

theorem among_ok {c : List Int} (hc : ∀ x ∈ c, 0 ≤ x ∧ x ≤ 255) {n : Int} (hn : n ≤ 999999999) {s : S_l00Src} (h : Sr c n s) (l : List Int) (hl : 1 ≤ l.length) : ∃ v s', spec_l00Src_among s l = some (v, s') ∧ v ∈ l ∧ Sr c (n + 2) s' := by
  obtain ⟨v, s', e, v1, v2, h'⟩ := pick_ok hc hn h (l.length : Int)
  have v3 := v2 (by omega)
  obtain ⟨i, hi⟩ : ∃ i : Nat, v = (i : Int) := ⟨v.toNat, by omega⟩
  subst hi
  have hlt : i < l.length := by omega
  unfold spec_l00Src_among
  rw [e]
  simp only [Option.bind_some, rd_lt hlt]
  exact ⟨_, _, rfl, List.getElem_mem hlt, h'⟩

theorem from_ok (c : List Int) : ∃ s, spec_l00From c = some s ∧ Sr c 0 s := ⟨_, rfl, rfl, by show (0 : Int) ≤ 0; omega, by show (0 : Int) ≤ 0; omega⟩

theorem next_ev {c : List Int} (hc : ∀ x ∈ c, 0 ≤ x ∧ x ≤ 255) {n : Int} {s : S_l00Src} (h : Sr c n s) (hn : n ≤ 999999999) : Ev (spec_l00Src_next s) (fun r => 0 ≤ r.1 ∧ r.1 ≤ 255 ∧ Sr c (n + 1) r.2) := by
  obtain ⟨v, s', e, h1, h2, h3⟩ := next_ok hc (by omega) h
  exact ⟨_, e, h1, h2, h3⟩
theorem pick_ev {c : List Int} (hc : ∀ x ∈ c, 0 ≤ x ∧ x ≤ 255) {n : Int} {s : S_l00Src} (h : Sr c n s) (hn : n ≤ 999999999) (m : Int) : Ev (spec_l00Src_pick s m) (fun r => 0 ≤ r.1 ∧ (1 ≤ m → r.1 < m) ∧ Sr c (n + 2) r.2) := by
  obtain ⟨v, s', e, h1, h2, h3⟩ := pick_ok hc (by omega) h m
  exact ⟨_, e, h1, h2, h3⟩
theorem one_ev {c : List Int} (hc : ∀ x ∈ c, 0 ≤ x ∧ x ≤ 255) {n : Int} {s : S_l00Src} (h : Sr c n s) (hn : n ≤ 999999999) (m : Int) : Ev (spec_l00Src_one s m) (fun r => Sr c (n + 2) r.2) := by
  obtain ⟨v, s', e, h3⟩ := one_ok hc (by omega) h m
  exact ⟨_, e, h3⟩
theorem among_ev {c : List Int} (hc : ∀ x ∈ c, 0 ≤ x ∧ x ≤ 255) {n : Int} {s : S_l00Src} (h : Sr c n s) (hn : n ≤ 999999999) (l : List Int) (hl : 1 ≤ l.length) : Ev (spec_l00Src_among s l) (fun r => r.1 ∈ l ∧ Sr c (n + 2) r.2) := by
  obtain ⟨v, s', e, h1, h3⟩ := among_ok hc (by omega) h l hl
  exact ⟨_, e, h1, h3⟩
theorem from_ev (c : List Int) : Ev (spec_l00From c) (fun s => Sr c 0 s) := by
  obtain ⟨s, h1, h2⟩ := from_ok c
  exact ⟨s, h1, h2⟩

theorem budget_ok {c : List Int} (hc : ∀ x ∈ c, 0 ≤ x ∧ x ≤ 255) {n : Int} (hn : n ≤ 990000000) {s : S_l00Src} (h : Sr c n s) : ∃ v s', spec_l08DrawBudget s = some (v, s') ∧ Sr c (n + 4) s' := by
  unfold spec_l08DrawBudget
  obtain ⟨v1, s1, e1, h1⟩ := one_ok hc (by omega) h 6
  simp only [e1, Option.bind_some]
  by_cases c1 : v1 = true
  · rw [if_pos c1]
    obtain ⟨v2, s2, e2, _, h2⟩ := among_ok hc (by omega) h1 [0, 1, 5, 20000, 20001] (by decide)
    simp only [e2, Option.bind_some]
    exact ⟨_, _, rfl, h2.mono (by omega)⟩
  · rw [if_neg c1]
    obtain ⟨v2, s2, e2, _, _, h2⟩ := pick_ok hc (by omega) h1 400
    simp only [e2, Option.bind_some]
    exact ⟨_, _, rfl, h2.mono (by omega)⟩


theorem room_ev {c : List Int} (hc : ∀ x ∈ c, 0 ≤ x ∧ x ≤ 255) {n : Int} {s : S_l00Src} (h : Sr c n s) (hn : n ≤ 990000000) : Ev (spec_l30DrawRoom s) (fun r => Sr c (n + 10) r.2) := by
  unfold spec_l30DrawRoom
  refine Ev.bind (pick_ev hc h (by omega) _) fun r1 h1 => ?_
  refine Ev.bind (pick_ev hc h1.2.2 (by omega) _) fun r2 h2 => ?_
  refine Ev.bind (pick_ev hc h2.2.2 (by omega) _) fun r3 h3 => ?_
  have k : ∀ (t : S_l00Src) a b, Sr c (n + 10) t → Ev (spec_l30DrawRoom_k8 t.code t.at_ t.seed a b) (fun r => Sr c (n + 10) r.2) := fun t a b ht => Ev.ret ht
  refine Ev.ite (fun _ => Ev.bind (among_ev hc h3.2.2 (by omega) _ (by decide)) fun r h => k _ _ _ (h.2.mono (by omega))) fun _ => ?_
  refine Ev.ite (fun _ => Ev.bind (among_ev hc h3.2.2 (by omega) _ (by decide)) fun r h => k _ _ _ (h.2.mono (by omega))) fun _ => ?_
  exact k _ _ _ (h3.2.2.mono (by omega))

theorem half_ev (x : Int) : Ev (dv .i64 x 2) (fun _ => True) := by
  unfold dv
  rw [if_neg (by decide)]
  exact ⟨_, rfl, trivial⟩

theorem stock_ev {c : List Int} (hc : ∀ x ∈ c, 0 ≤ x ∧ x ≤ 255) {n : Int} {s : S_l00Src} (h : Sr c n s) (hn : n ≤ 990000000) : Ev (spec_l30DrawStock s) (fun r => Sr c (n + 20) r.2) := by
  unfold spec_l30DrawStock
  refine Ev.bind (pick_ev hc h (by omega) _) fun r1 h1 => ?_
  refine Ev.bind (pick_ev hc h1.2.2 (by omega) _) fun r2 h2 => ?_
  refine Ev.bind (pick_ev hc h2.2.2 (by omega) _) fun r3 h3 => ?_
  refine Ev.bind (half_ev _) fun z _ => ?_
  refine Ev.bind (among_ev hc h3.2.2 (by omega) _ (by simp)) fun r4 h4 => ?_
  refine Ev.bind (pick_ev hc h4.2 (by omega) _) fun r5 h5 => ?_
  have k : ∀ (t : S_l00Src) a b d e, Sr c (n + 20) t → Ev (spec_l30DrawStock_k13 t.code t.at_ t.seed a b d e) (fun r => Sr c (n + 20) r.2) := fun t a b d e ht => Ev.ret ht
  refine Ev.ite (fun _ => Ev.bind (among_ev hc h5.2.2 (by omega) _ (by decide)) fun r h => k _ _ _ _ _ (h.2.mono (by omega))) fun _ => ?_
  refine Ev.ite (fun _ => Ev.bind (among_ev hc h5.2.2 (by omega) _ (by decide)) fun r h => k _ _ _ _ _ (h.2.mono (by omega))) fun _ => ?_
  refine Ev.ite (fun _ => Ev.bind (among_ev hc h5.2.2 (by omega) _ (by simp)) fun r h => k _ _ _ _ _ (h.2.mono (by omega))) fun _ => ?_
  refine Ev.ite (fun _ => Ev.bind (half_ev _) fun z _ => Ev.bind (among_ev hc h5.2.2 (by omega) _ (by simp)) fun r h => k _ _ _ _ _ (h.2.mono (by omega))) fun _ => ?_
  exact k _ _ _ _ _ (h5.2.2.mono (by omega))

theorem drawn_ev {c : List Int} (hc : ∀ x ∈ c, 0 ≤ x ∧ x ≤ 255) : Ev (spec_DrawBestFloor c) (fun _ => True) := by
  unfold spec_DrawBestFloor
  refine Ev.bind (from_ev c) fun s h => ?_
  refine Ev.bind (room_ev hc h (by omega)) fun r1 h1 => ?_
  refine Ev.bind (stock_ev hc h1 (by omega)) fun r2 h2 => ?_
  refine Ev.bind (among_ev hc h2 (by omega) _ (by simp)) fun r3 h3 => ?_
  obtain ⟨b, s3, e3, h3⟩ := budget_ok hc (by omega) h3.2
  refine Ev.bind (Ev.eq e3) fun r3 _ => ?_
  exact Ev.ret trivial

theorem max_some (a b : Int) : ∃ v, spec_l00Max a b = some v := by
  unfold spec_l00Max
  split <;> exact ⟨_, rfl⟩

theorem first_ev {c : List Int} (hc : ∀ x ∈ c, 0 ≤ x ∧ x ≤ 255) {n : Int} {s : S_l00Src} (h : Sr c n s) (hn : n ≤ 990000000) (k : S_Stock) : Ev (spec_l30DrawFirst s k) (fun r => Sr c (n + 10) r.2) := by
  unfold spec_l30DrawFirst
  refine Ev.bind (one_ev hc h (by omega) _) fun r1 h1 => ?_
  refine Ev.ite (fun _ => Ev.bind (among_ev hc h1 (by omega) _ (by simp)) fun r h => Ev.ret (h.2.mono (by omega))) fun _ => ?_
  obtain ⟨v, hv⟩ := max_some 1 k.Board
  refine Ev.bind (Ev.eq hv) fun _ _ => ?_
  refine Ev.bind (pick_ev hc h1 (by omega) _) fun r2 h2 => ?_
  exact Ev.ret (h2.2.2.mono (by omega))

theorem drawn2_ev {c : List Int} (hc : ∀ x ∈ c, 0 ≤ x ∧ x ≤ 255) : Ev (spec_DrawBoardsFor c) (fun r => r.2.2.length ≤ 100) := by
  unfold spec_DrawBoardsFor
  refine Ev.bind (from_ev c) fun s h => ?_
  refine Ev.bind (P := fun r => r.2.2.1.length ≤ 100) ?_ fun r hr => Ev.ret hr
  unfold spec_l30DrawFloor
  refine Ev.bind (room_ev hc h (by omega)) fun r1 h1 => ?_
  refine Ev.bind (stock_ev hc h1 (by omega)) fun r2 h2 => ?_
  obtain ⟨out, cc, ho, hs, _⟩ := gf_same r1.1 r2.1
  refine Ev.bind (Ev.eq hs) fun r3 e3 => ?_
  subst e3
  have k6 : ∀ F : List Int, F.length ≤ 100 → Ev (spec_l30DrawFloor_k6 r1 r2 F) (fun r => r.2.2.1.length ≤ 100) := by
    intro F hF
    unfold spec_l30DrawFloor_k6
    refine Ev.bind (P := fun s => (s.1 = true → 0 < F.length) ∧ Sr c 200 ⟨s.2.1, s.2.2.1, s.2.2.2⟩) ?_ fun s hs => ?_
    · refine Ev.ite (fun hp => Ev.bind (one_ev hc h2 (by omega) _) fun r h => Ev.ret ⟨fun _ => by omega, h.mono (by omega)⟩) fun _ => Ev.ret ⟨fun h => (by cases h), h2.mono (by omega)⟩
    · obtain ⟨t, a1, a2, a3⟩ := s
      simp only at hs ⊢
      have k9 : ∀ b1 b2 b3 (F : List Int), F.length ≤ 100 → Ev (spec_l30DrawFloor_k9 r1 r2 b1 b2 b3 F) (fun r => r.2.2.1.length ≤ 100) := fun _ _ _ _ h => Ev.ret h
      refine Ev.ite (fun ht => ?_) fun _ => k9 _ _ _ _ hF
      refine Ev.bind (pick_ev hc hs.2 (by omega) _) fun r4 h4 => ?_
      refine Ev.bind (first_ev hc h4.2.2 (by omega) _) fun r5 h5 => ?_
      have := hs.1 ht
      refine Ev.bind (Ev.rd h4.1 (h4.2.1 (by omega))) fun x _ => ?_
      exact k9 _ _ _ _ (by rw [List.length_set]; exact hF)
  exact Ev.ite (fun _ => k6 _ (by simp)) fun _ => k6 _ ho

/-! Rows. -/
theorem apd0 {l : List Int} (h : l.length ≤ 1000000) : apd 8 ([] : List Int) l = some l := by
  unfold apd
  rw [if_pos (by simp; omega)]
  rfl

structure Rw (r : S_Room) (k : S_Stock) (x : S_row) : Prop where
  few : x.joints.length ≤ 20001
  len : 1 ≤ x.pieces.length ∧ x.pieces.length ≤ 20002
  num : ∃ f, rd x.pieces 0 = some f ∧ 1 ≤ f ∧ f ≤ k.Board ∧ ((x.pieces.length = 1 ∧ f = r.Width) ∨ (x.pieces.length ≠ 1 ∧ 1 ≤ x.last ∧ x.last ≤ k.Board ∧ ((x.pieces.length : Int) - 1) * k.Board = r.Width - f + (k.Board - x.last)))

section
variable {r : S_Room} {k : S_Stock}

theorem row_ok (hr : Rm r) (hk : Sk k) (f : Int) : ∃ x c, impl_makeRow r k f = some (x, c) ∧ (c = 0 → Rw r k x) := by
  obtain ⟨⟨w1, w2⟩, _⟩ := hr
  obtain ⟨⟨b1, b2⟩, _, ⟨l1, l2⟩, _⟩ := hk
  unfold impl_makeRow
  simp only [within_eq, Option.bind_some, decide_eq_true_eq]
  by_cases c1 : k.Least ≤ f ∧ f ≤ k.Board
  · rw [if_pos c1]
    by_cases c2 : r.Width ≤ f
    · rw [if_pos c2]
      exact ⟨_, _, rfl, fun _ => ⟨Nat.zero_le _, ⟨Nat.le_refl _, by show 1 ≤ 20002; omega⟩, r.Width, rfl, w1, by omega, .inl ⟨rfl, rfl⟩⟩⟩
    · rw [if_neg c2]
      obtain ⟨q, q1, q2, q3⟩ := gf_q (w := r.Width - f) (B := k.Board) (by omega) (by omega)
      rw [gf_rowL (by omega) b2 (by omega) w2 q1 q2 q3]
      simp only [Option.bind_some]
      by_cases c3 : r.Width - f - (q : Int) * k.Board < k.Least
      · rw [if_pos c3]
        exact ⟨_, _, rfl, fun h => by cases h⟩
      · rw [if_neg c3]
        refine ⟨_, _, rfl, fun _ => ⟨?_, ?_, f, rfl, by omega, by omega, .inr ⟨?_, ?_, ?_, ?_⟩⟩⟩
        · show (jts f k.Board (q + 1)).length ≤ _
          rw [jts_length]; omega
        · simp
          omega
        · simp
        · show 1 ≤ r.Width - f - (q : Int) * k.Board
          omega
        · show r.Width - f - (q : Int) * k.Board ≤ k.Board
          omega
        · have e : (((f :: (List.replicate q k.Board ++ [r.Width - f - (q : Int) * k.Board])).length : Int) - 1) = (q : Int) + 1 := by
            simp
          simp only
          rw [e, Int.add_mul, Int.one_mul]
          omega
  · rw [if_neg c1]
    exact ⟨_, _, rfl, fun h => by cases h⟩

theorem stag_ok {a b : S_row} (ha : a.joints.length ≤ 20001) (hb : b.joints.length ≤ 20001) : ∃ v, impl_staggered a b k = some v := by
  have : Ev (loopO (impl_staggered_l2 a b k) (0, 0)) (fun _ => True) := by
    refine Ev.loop (fun s => 0 ≤ s.1 ∧ s.1 ≤ 20001 ∧ 0 ≤ s.2 ∧ s.2 ≤ 20001) (fun s => (40010 - s.1 - s.2).toNat) ?_ ⟨by omega, by omega, by omega, by omega⟩
    rintro ⟨i, n⟩ ⟨i0, i1, n0, n1⟩
    unfold impl_staggered_l2 impl_absolute
    simp only at i0 i1 n0 n1 ⊢
    refine Ev.ite (fun hc => ?_) fun _ => Ev.ret trivial
    refine Ev.bind (Ev.rd i0 hc.1) fun x _ => ?_
    refine Ev.bind (Ev.rd n0 hc.2) fun y _ => ?_
    refine Ev.bind (Ev.ret (Q := fun _ => True) trivial) fun z _ => ?_
    refine Ev.ite (fun _ => Ev.ret trivial) fun _ => ?_
    refine Ev.bind (Ev.rd i0 hc.1) fun x _ => ?_
    refine Ev.bind (Ev.rd n0 hc.2) fun y _ => ?_
    rw [w64_id (n := i + 1) (by omega) (by omega), w64_id (n := n + 1) (by omega) (by omega)]
    exact Ev.ite (fun _ => Ev.ret ⟨⟨by simp only; omega, by simp only; omega, n0, n1⟩, by simp only; omega⟩) fun _ => Ev.ret ⟨⟨i0, i1, by simp only; omega, by simp only; omega⟩, by simp only; omega⟩
  obtain ⟨o, ho, _⟩ := this
  unfold impl_staggered
  rw [ho]
  cases o <;> exact ⟨_, rfl⟩

/-- What is left of a row's last board. -/
def Lf (k : S_Stock) (x : S_row) : Int := if x.pieces.length = 1 then 0 else k.Board - x.last
/-- The new boards of a row. -/
def bo (k : S_Stock) (y x : S_row) : Int := (x.pieces.length : Int) - if (rd x.pieces 0).getD 0 ≤ Lf k y then 1 else 0
def b0 : S_row := ⟨[0], [], 0⟩

/-- A row before: one of the floor, or what stands for none. -/
def Rb (r : S_Room) (k : S_Stock) (y : S_row) : Prop := y = b0 ∨ Rw r k y
theorem Lf_num (hk : Sk k) {y : S_row} (hy : Rb r k y) : 0 ≤ Lf k y ∧ Lf k y ≤ k.Board ∧ impl_row_left y k = some (Lf k y) := by
  obtain ⟨⟨b1, b2⟩, _⟩ := hk
  unfold Lf impl_row_left
  rcases hy with rfl | hy
  · simp [b0]
    omega
  · obtain ⟨f, _, _, _, h⟩ := hy.num
    rcases h with ⟨h, _⟩ | ⟨h, h1, h2, _⟩
    · rw [if_pos h, if_pos (by omega)]
      exact ⟨by omega, by omega, rfl⟩
    · rw [if_neg h, if_neg (by omega), w64_id (by omega) (by omega)]
      exact ⟨by omega, by omega, rfl⟩

theorem bo_num (hk : Sk k) {y x : S_row} (hy : Rb r k y) (hx : Rw r k x) : impl_boards y x k = some (bo k y x) ∧ 0 ≤ bo k y x ∧ bo k y x ≤ 20002 := by
  obtain ⟨h1, h2, h3⟩ := Lf_num hk hy
  obtain ⟨l1, l2⟩ := hx.len
  obtain ⟨f, f1, f2, f3, _⟩ := hx.num
  have e : w64 ((x.pieces.length : Int) - 1) = (x.pieces.length : Int) - 1 := w64_id (by omega) (by omega)
  unfold impl_boards impl_boards_k4 bo
  rw [f1, Option.bind_some, h3, Option.bind_some, e]
  simp only [Option.getD_some]
  by_cases c : f ≤ Lf k y
  · rw [if_pos c, if_pos c]
    exact ⟨rfl, by omega, by omega⟩
  · rw [if_neg c, if_neg c]
    exact ⟨by rw [Int.sub_zero], by omega, by omega⟩

theorem bo_first (hk : Sk k) {x : S_row} (hx : Rw r k x) : bo k b0 x = x.pieces.length := by
  obtain ⟨f, f1, f2, _⟩ := hx.num
  unfold bo
  rw [f1]
  have : Lf k b0 = 0 := by simp [Lf, b0]
  rw [this, if_neg (by simp; omega)]
  omega

theorem bo_area (hk : Sk k) {y x : S_row} (hy : Rb r k y) (hx : Rw r k x) : bo k y x * k.Board + Lf k y ≥ r.Width + Lf k x := by
  obtain ⟨h1, h2, _⟩ := Lf_num hk hy
  obtain ⟨⟨b1, b2⟩, _⟩ := hk
  obtain ⟨f, f1, f2, f3, h⟩ := hx.num
  unfold bo
  rw [f1]
  simp only [Option.getD_some]
  rcases h with ⟨h, e⟩ | ⟨h, g1, g2, g3⟩
  · have : Lf k x = 0 := by unfold Lf; rw [if_pos h]
    rw [this, h]
    by_cases c : f ≤ Lf k y
    · rw [if_pos c]
      have : (((1 : Nat) : Int) - 1) * k.Board = 0 := by simp
      omega
    · rw [if_neg c]
      have : (((1 : Nat) : Int) - 0) * k.Board = k.Board := by simp
      omega
  · have e : Lf k x = k.Board - x.last := by unfold Lf; rw [if_neg h]
    rw [e]
    by_cases c : f ≤ Lf k y
    · rw [if_pos c]
      omega
    · rw [if_neg c]
      have : ((x.pieces.length : Int) - 0) * k.Board = ((x.pieces.length : Int) - 1) * k.Board + k.Board := by
        rw [Int.sub_zero, Int.sub_mul, Int.one_mul]
        omega
      omega

/-- The boards of all rows. -/
def sb (k : S_Stock) : S_row → List S_row → Int
  | _, [] => 0
  | y, x :: X => bo k y x + sb k x X
def lastR : S_row → List S_row → S_row
  | y, [] => y
  | _, x :: X => lastR x X

theorem sb_snoc (y x : S_row) : ∀ X, sb k y (X ++ [x]) = sb k y X + bo k (lastR y X) x := by
  intro X
  induction X generalizing y with
  | nil => simp [sb, lastR]
  | cons z X ih =>
    simp only [List.cons_append, sb, lastR, ih]
    omega
theorem lastR_snoc (y x : S_row) : ∀ X, lastR y (X ++ [x]) = x := by
  intro X
  induction X generalizing y with
  | nil => rfl
  | cons z X ih => exact ih z

theorem lastR_last (y : S_row) {X : List S_row} {z : S_row} (h : X.getLast? = some z) : lastR y X = z := by
  obtain ⟨W, rfl⟩ := List.getLast?_eq_some_iff.1 h
  exact lastR_snoc y z W

theorem sb_area (hk : Sk k) : ∀ (X : List S_row) (y : S_row), Rb r k y → (∀ x ∈ X, Rw r k x) → sb k y X * k.Board + Lf k y ≥ X.length * r.Width + Lf k (lastR y X) := by
  intro X
  induction X with
  | nil => intro y _ _; simp [sb, lastR]
  | cons x X ih =>
    intro y hy hX
    have h1 := bo_area hk hy (hX x List.mem_cons_self)
    have h2 := ih x (.inr (hX x List.mem_cons_self)) (fun z hz => hX z (List.mem_cons_of_mem _ hz))
    have e1 : sb k y (x :: X) = bo k y x + sb k x X := rfl
    have e2 : lastR y (x :: X) = lastR x X := rfl
    have e3 : (((x :: X).length : Nat) : Int) * r.Width = (X.length : Int) * r.Width + r.Width := by
      rw [List.length_cons, show ((X.length + 1 : Nat) : Int) = (X.length : Int) + 1 by omega, Int.add_mul, Int.one_mul]
    rw [e1, e2, e3, Int.add_mul]
    omega

theorem sb_num (hk : Sk k) : ∀ (X : List S_row) (y : S_row), Rb r k y → (∀ x ∈ X, Rw r k x) → 0 ≤ sb k y X ∧ sb k y X ≤ 20002 * X.length := by
  intro X
  induction X with
  | nil => intro y _ _; simp [sb]
  | cons x X ih =>
    intro y hy hX
    obtain ⟨_, h1, h1'⟩ := bo_num hk hy (hX x List.mem_cons_self)
    have h2 := ih x (.inr (hX x List.mem_cons_self)) (fun z hz => hX z (List.mem_cons_of_mem _ hz))
    have e1 : sb k y (x :: X) = bo k y x + sb k x X := rfl
    rw [e1, List.length_cons]
    omega

/-- A floor's rows. -/
def Fl (r : S_Room) (k : S_Stock) (F : List Int) (X : List S_row) : Prop :=
  X.length = F.length ∧ (∀ x ∈ X, Rw r k x) ∧ ∀ i f x, F[i]? = some f → X[i]? = some x → impl_makeRow r k f = some (x, 0) ∧ ∀ y, 0 < i → X[i - 1]? = some y → impl_staggered y x k = some true

theorem Fl_nil : Fl r k [] [] := ⟨rfl, fun x hx => (by cases hx), fun i f x h => by simp at h⟩

theorem Fl_snoc {F : List Int} {X : List S_row} {f : Int} {x : S_row} (h : Fl r k F X) (hx : Rw r k x) (h1 : impl_makeRow r k f = some (x, 0)) (h2 : ∀ y, X.getLast? = some y → impl_staggered y x k = some true) : Fl r k (F ++ [f]) (X ++ [x]) := by
  obtain ⟨l, a, b⟩ := h
  refine ⟨by simp [l], fun z hz => ?_, fun i g z hg hz => ?_⟩
  · rcases List.mem_append.1 hz with hz | hz
    · exact a z hz
    · rw [List.mem_singleton] at hz; subst hz; exact hx
  · by_cases c : i < F.length
    · rw [List.getElem?_append_left c] at hg
      rw [List.getElem?_append_left (by omega)] at hz
      obtain ⟨q1, q2⟩ := b i g z hg hz
      refine ⟨q1, fun y hi hy => q2 y hi ?_⟩
      rwa [List.getElem?_append_left (by omega)] at hy
    · have hi : i = F.length := by
        have := (List.getElem?_eq_some_iff.1 hg).1
        simp at this
        omega
      subst hi
      rw [List.getElem?_append_right (Nat.le_refl _)] at hg
      rw [← l, List.getElem?_append_right (Nat.le_refl _)] at hz
      simp at hg hz
      subst hg hz
      refine ⟨h1, fun y hi hy => h2 y ?_⟩
      rw [List.getElem?_append_left (by omega)] at hy
      rw [List.getLast?_eq_getElem?, l]
      exact hy

theorem rows_eq (hr : Rm r) (hk : Sk k) : ∃ N : Nat, impl_rows r k = some (N : Int) ∧ 1 ≤ N ∧ (N : Int) * k.Wide ≥ r.Length := by
  obtain ⟨_, ⟨l1, l2⟩⟩ := hr
  obtain ⟨_, ⟨w1, w2⟩, _⟩ := hk
  have e1 : w64 (r.Length + k.Wide) = r.Length + k.Wide := w64_id (by omega) (by omega)
  have e2 : w64 (r.Length + k.Wide - 1) = r.Length + k.Wide - 1 := w64_id (by omega) (by omega)
  have e3 : (r.Length + k.Wide - 1).tdiv k.Wide = (r.Length + k.Wide - 1) / k.Wide := Int.tdiv_eq_ediv_of_nonneg (by omega)
  have h1 : (r.Length + k.Wide - 1) / k.Wide ≤ r.Length + k.Wide - 1 := Int.ediv_le_self _ (by omega)
  have h2 : 1 ≤ (r.Length + k.Wide - 1) / k.Wide := (Int.le_ediv_iff_mul_le (by omega)).2 (by omega)
  have e4 : w64 ((r.Length + k.Wide - 1) / k.Wide) = (r.Length + k.Wide - 1) / k.Wide := w64_id (by omega) (by omega)
  have h3 : r.Length + k.Wide - 1 < ((r.Length + k.Wide - 1) / k.Wide + 1) * k.Wide := Int.lt_ediv_add_one_mul_self _ (by omega)
  rw [Int.add_mul, Int.one_mul] at h3
  refine ⟨((r.Length + k.Wide - 1) / k.Wide).toNat, ?_, by omega, ?_⟩
  · unfold impl_rows impl_upDiv dv
    rw [e1, e2, if_neg (by omega), e3]
    simp only [Option.bind_some]
    have : IntKind.wrap .i64 ((r.Length + k.Wide - 1) / k.Wide) = (r.Length + k.Wide - 1) / k.Wide := e4
    rw [this, Int.toNat_of_nonneg (by omega)]
  · rw [Int.toNat_of_nonneg (by omega)]
    omega

theorem apr {l : List S_row} {x : S_row} (h : l.length ≤ 1000) : apd 56 l [x] = some (l ++ [x]) := by
  apply apdn
  simp
  omega

/-- The rows of first pieces. -/
theorem floor_ok (hr : Rm r) (hk : Sk k) {F : List Int} (hF : F.length ≤ 100) {N : Nat} (hN : impl_rows r k = some (N : Int)) :
    ∃ X b, impl_floorRows r k F = some (X, b) ∧ (b = true → F.length = N ∧ Fl r k F X) ∧ (∀ Y, F.length = N → Fl r k F Y → b = true ∧ X = Y) := by
  unfold impl_floorRows
  rw [hN, Option.bind_some]
  by_cases c : (F.length : Int) ≠ (N : Int)
  · rw [if_pos c]
    exact ⟨_, _, rfl, fun h => (by cases h), fun Y h => absurd h (by omega)⟩
  · rw [if_neg c]
    have key : ∀ (m i : Nat) (X : List S_row), i + m = F.length → Fl r k (F.take i) X → ∃ o, loopO (impl_floorRows_l5 F k r) ((i : Int), X) = some o ∧ ((∃ Y, o = .inl Y ∧ Fl r k F Y) ∨ (o = .inr ([], false))) ∧ (∀ Y, Fl r k F Y → X = Y.take i → o = .inl Y) := by
      intro m
      induction m with
      | zero =>
        intro i X hi hX
        obtain rfl : i = F.length := by omega
        rw [List.take_length] at hX
        refine ⟨.inl X, loopO_done ?_, .inl ⟨X, rfl, hX⟩, fun Y hY hXY => ?_⟩
        · unfold impl_floorRows_l5
          simp only
          rw [if_neg (by omega)]
        · rw [hXY, ← hY.1, List.take_length]
      | succ m ih =>
        intro i X hi hX
        have hi' : i < F.length := by omega
        obtain ⟨x, cc, x1, x2⟩ := row_ok hr hk F[i]
        have hXl : X.length = i := by rw [hX.1, List.length_take]; omega
        have stp : ∃ v : Bool, (if cc ≠ 0 then some true else (if (i : Int) > 0 then ((rd X (w64 ((i : Int) - 1))).bind fun x43 => (impl_staggered x43 x k).bind fun x47 => some (!x47)) else some false)) = some v ∧ (v = false → cc = 0 ∧ ∀ y, X.getLast? = some y → impl_staggered y x k = some true) ∧
            (v = true → ¬ ∃ Y, Fl r k F Y ∧ X = Y.take i) := by
          by_cases c1 : cc ≠ 0
          · rw [if_pos c1]
            refine ⟨true, rfl, fun h => (by cases h), fun _ ⟨Y, hY, _⟩ => ?_⟩
            have hYl := hY.1
            have := (hY.2.2 i F[i] (Y[i]'(by omega)) (List.getElem?_eq_getElem hi') (List.getElem?_eq_getElem _)).1
            rw [x1] at this
            cases this
            exact c1 rfl
          · rw [if_neg c1]
            have hc : cc = 0 := by omega
            by_cases c2 : (i : Int) > 0
            · rw [if_pos c2, w64_pred (by omega) (by omega), rd_lt (show i - 1 < X.length by omega), Option.bind_some]
              have hy := hX.2.1 _ (List.getElem_mem (show i - 1 < X.length by omega))
              obtain ⟨v, hv⟩ := stag_ok (k := k) hy.few (x2 hc).few
              rw [hv, Option.bind_some]
              refine ⟨_, rfl, fun h => ⟨hc, fun y hy => ?_⟩, fun h ⟨Y, hY, hXY⟩ => ?_⟩
              · rw [List.getLast?_eq_getElem?, hXl, List.getElem?_eq_getElem (show i - 1 < X.length by omega)] at hy
                cases hy
                rw [hv]
                cases v
                · cases h
                · rfl
              · have hYl := hY.1
                obtain ⟨q1, q2⟩ := hY.2.2 i F[i] (Y[i]'(by omega)) (List.getElem?_eq_getElem hi') (List.getElem?_eq_getElem _)
                rw [x1] at q1
                cases q1
                have := q2 (Y[i - 1]'(by omega)) (by omega) (List.getElem?_eq_getElem _)
                have e : X[i - 1]'(by omega) = Y[i - 1]'(by omega) := by
                  subst hXY
                  rw [List.getElem_take]
                rw [e, this] at hv
                cases hv
                cases h
            · rw [if_neg c2]
              refine ⟨false, rfl, fun _ => ⟨hc, fun y hy => ?_⟩, fun h => by cases h⟩
              rw [List.length_eq_zero_iff.1 (show X.length = 0 by omega)] at hy
              cases hy
        obtain ⟨v, v1, v2, v3⟩ := stp
        have S0 : impl_floorRows_l5 F k r ((i : Int), X) = if v = true then some (.inr (.inr ([], false))) else some (.inl (((i + 1 : Nat) : Int), X ++ [x])) := by
          unfold impl_floorRows_l5
          simp only
          rw [if_pos (by omega), rd_lt hi', Option.bind_some, x1, Option.bind_some]
          simp only
          rw [v1, Option.bind_some, apr (by omega), Option.bind_some, w64_succ (by omega)]
        cases v with
        | true =>
          rw [if_pos rfl] at S0
          exact ⟨_, loopO_done S0, .inr rfl, fun Y hY hXY => absurd ⟨Y, hY, hXY⟩ (v3 rfl)⟩
        | false =>
          rw [if_neg (by simp)] at S0
          obtain ⟨q1, q2⟩ := v2 rfl
          subst q1
          have hs := Fl_snoc hX (x2 rfl) x1 q2
          rw [← List.take_succ_eq_append_getElem hi'] at hs
          rw [loopO_next S0]
          obtain ⟨o, o1, o2, o3⟩ := ih (i + 1) (X ++ [x]) (by omega) hs
          refine ⟨o, o1, o2, fun Y hY hXY => o3 Y hY ?_⟩
          have hYl := hY.1
          obtain ⟨p1, _⟩ := hY.2.2 i F[i] (Y[i]'(by omega)) (List.getElem?_eq_getElem hi') (List.getElem?_eq_getElem _)
          rw [x1] at p1
          cases p1
          have hil : i < Y.length := by omega
          rw [List.take_succ_eq_append_getElem hil, ← hXY]
    obtain ⟨o, o1, o2, o3⟩ := key F.length 0 [] (by omega) (by rw [List.take_zero]; exact Fl_nil)
    have o1' : loopO (impl_floorRows_l5 F k r) (0, []) = some o := o1
    rw [o1', Option.bind_some]
    rcases o2 with ⟨Y, rfl, hY⟩ | rfl
    · refine ⟨Y, true, rfl, fun _ => ⟨by omega, hY⟩, fun Z _ hZ => ⟨rfl, ?_⟩⟩
      have := o3 Z hZ (by simp)
      cases this
      rfl
    · refine ⟨[], false, rfl, fun h => (by cases h), fun Z _ hZ => ?_⟩
      have := o3 Z hZ (by simp)
      cases this

theorem boards_ok (hr : Rm r) (hk : Sk k) {F : List Int} (hF : F.length ≤ 100) {N : Nat} (hN : impl_rows r k = some (N : Int)) :
    ∃ (b : Bool) (n : Int), impl_IsFloor r k F = some b ∧ impl_BoardsFor r k F = some (n, if b = true then 0 else 2) ∧ (b = true → F.length = N ∧ ∃ X, Fl r k F X ∧ n = sb k b0 X) ∧ (∀ Y, F.length = N → Fl r k F Y → b = true ∧ n = sb k b0 Y) := by
  obtain ⟨X, b, h1, h2, h3⟩ := floor_ok hr hk hF hN
  unfold impl_IsFloor impl_BoardsFor
  rw [gf_impl, if_pos ⟨hr, hk⟩, h1]
  simp only [Option.bind_some, ne_eq, not_true, if_false]
  cases b with
  | false => exact ⟨false, 0, rfl, rfl, fun h => (by cases h), fun Y g1 g2 => by cases (h3 Y g1 g2).1⟩
  | true =>
    obtain ⟨hl, hX⟩ := h2 rfl
    simp only [if_true]
    have key : ∀ (m i : Nat) (s : Int) (y : S_row), i + m = X.length → Rb r k y → 0 ≤ s → s ≤ 20002 * i → loopO (impl_BoardsFor_l9 k (X, true)) (s, (i : Int), y.pieces, y.joints, y.last) = some (s + sb k y (X.drop i)) := by
      intro m
      induction m with
      | zero =>
        intro i s y hi hy s0 s1
        obtain rfl : i = X.length := by omega
        rw [List.drop_length]
        refine loopO_done ?_
        unfold impl_BoardsFor_l9
        simp only
        rw [if_neg (by omega)]
        simp [sb]
      | succ m ih =>
        intro i s y hi hy s0 s1
        have hi' : i < X.length := by omega
        have hx := hX.2.1 _ (List.getElem_mem hi')
        obtain ⟨e1, e2, e3⟩ := bo_num hk hy hx
        have hX1 := hX.1
        have e1' : impl_boards ⟨y.pieces, y.joints, y.last⟩ X[i] k = some (bo k y X[i]) := e1
        have S1 : impl_BoardsFor_l9 k (X, true) (s, (i : Int), y.pieces, y.joints, y.last) = some (.inl (s + bo k y X[i], ((i + 1 : Nat) : Int), X[i].pieces, X[i].joints, X[i].last)) := by
          unfold impl_BoardsFor_l9
          simp only
          rw [if_pos (by omega), rd_lt hi', Option.bind_some, e1', Option.bind_some, w64_id (by omega) (by omega), w64_succ (by omega)]
        rw [loopO_next S1, ih (i + 1) _ X[i] (by omega) (.inr hx) (by omega) (by omega), List.drop_eq_getElem_cons hi']
        simp only [sb]
        congr 1
        omega
    have k0 : loopO (impl_BoardsFor_l9 k (X, true)) (0, 0, [0], [], 0) = some (0 + sb k b0 X) := key X.length 0 0 b0 (by omega) (.inl rfl) (by omega) (by omega)
    rw [k0, Int.zero_add]
    refine ⟨true, sb k b0 X, rfl, rfl, fun _ => ⟨hl, X, hX, rfl⟩, fun Y g1 g2 => ⟨rfl, ?_⟩⟩
    rw [(h3 Y g1 g2).2]

theorem possible_ok (hr : Rm r) (hk : Sk k) {X : List S_row} (hX : ∀ x ∈ X, Rw r k x) (f : Int) : ∃ x v, impl_possible r k X.getLast? f = some (x, v) ∧ (v = true → Rw r k x ∧ impl_makeRow r k f = some (x, 0) ∧ ∀ y, X.getLast? = some y → impl_staggered y x k = some true) := by
  obtain ⟨x, c, x1, x2⟩ := row_ok hr hk f
  unfold impl_possible
  rw [x1, Option.bind_some]
  simp only
  by_cases hc : c = 0
  · subst hc
    rw [if_pos rfl]
    cases hl : X.getLast? with
    | none => exact ⟨x, true, rfl, fun _ => ⟨x2 rfl, rfl, fun y hy => by cases hy⟩⟩
    | some z =>
      have hz := hX z (List.mem_of_getLast? hl)
      obtain ⟨v, hv⟩ := stag_ok (k := k) hz.few (x2 rfl).few
      simp only [hv, Option.bind_some]
      refine ⟨x, v, rfl, fun h => ⟨x2 rfl, rfl, fun y hy => ?_⟩⟩
      cases hy
      rw [hv, h]
  · rw [if_neg hc]
    exact ⟨x, false, rfl, fun h => by cases h⟩

/-! The greedy floor. -/
theorem greedy_ev (hr : Rm r) (hk : Sk k) {N : Nat} (hN40 : N ≤ 40) {z : Int} : Ev (loopO (impl_GreedyFloor_l7 k r ((N : Int), z)) (none, 0, [])) (fun o => (∃ F X, o = .inl F ∧ F.length = N ∧ Fl r k F X) ∨ o = .inr ([], 3)) := by
  obtain ⟨⟨b1, b2⟩, _, ⟨l1, l2⟩, _⟩ := id hk
  refine Ev.loop (fun s => ∃ (F : List Int) (X : List S_row), s = (X.getLast?, (F.length : Int), F) ∧ F.length ≤ N ∧ Fl r k F X) (fun s => (100 - s.2.1).toNat) ?_ ⟨[], [], rfl, by simp, Fl_nil⟩
  rintro _ ⟨F, X, rfl, hF, hX⟩
  have k11 : ∀ C : List Int, C.length ≤ 1 → Ev (impl_GreedyFloor_k11 X.getLast? k F r (F.length : Int) C) (fun o => match o with
      | .inl s' => (∃ (F : List Int) (X : List S_row), s' = (X.getLast?, (F.length : Int), F) ∧ F.length ≤ N ∧ Fl r k F X) ∧ (100 - s'.2.1).toNat < (100 - (F.length : Int)).toNat
      | .inr o => (∃ F X, o = .inl F ∧ F.length = N ∧ Fl r k F X) ∨ o = .inr ([], 3)) → F.length < N → True := fun _ _ _ _ => trivial
  unfold impl_GreedyFloor_l7
  simp only
  refine Ev.ite (fun hc => ?_) fun hc => Ev.ret (.inl ⟨F, X, rfl, by omega, hX⟩)
  have body : ∀ C : List Int, C.length ≤ 1 → Ev (impl_GreedyFloor_k11 X.getLast? k F r (F.length : Int) C) (fun o => (∃ f x, o = .inl (some x, ((F.length + 1 : Nat) : Int), F ++ [f]) ∧ Fl r k (F ++ [f]) (X ++ [x])) ∨ o = .inr (.inr ([], 3))) := by
    intro C hC
    unfold impl_GreedyFloor_k11
    refine Ev.bind (P := fun C => C.length ≤ 6000) (Ev.loop (fun s => s.1 ≤ k.Board ∧ 0 ≤ s.1 ∧ (s.2.length : Int) + s.1 ≤ 5001) (fun s => s.1.toNat) ?_ ⟨Int.le_refl _, by simp only; omega, by simp only; omega⟩) fun D hD => ?_
    · rintro ⟨f, D⟩ ⟨f1, f0, f2⟩
      unfold impl_GreedyFloor_l12
      simp only at f1 f0 f2 ⊢
      refine Ev.ite (fun hf => ?_) fun _ => Ev.ret (by simp only; omega)
      rw [apd1 (by omega), Option.bind_some, w64_id (by omega) (by omega)]
      exact Ev.ret ⟨⟨by simp only; omega, by simp only; omega, by simp only [List.length_append, List.length_singleton]; omega⟩, by simp only; omega⟩
    · refine Ev.bind (P := fun o => (o.2.1 = false) ∨ (∃ f x, o = (some x, true, F ++ [f]) ∧ Fl r k (F ++ [f]) (X ++ [x]))) (Ev.loop (fun s => 0 ≤ s ∧ s ≤ 6000) (fun s => (6000 - s).toNat) ?_ ⟨by omega, by omega⟩) ?_
      · intro t ht
        unfold impl_GreedyFloor_l17
        refine Ev.ite (fun hlt => ?_) fun _ => Ev.ret (.inl rfl)
        refine Ev.bind (Ev.rd ht.1 hlt) fun f _ => ?_
        obtain ⟨x, v, p1, p2⟩ := possible_ok hr hk hX.2.1 f
        rw [p1, Option.bind_some]
        refine Ev.ite (fun hv => ?_) fun _ => ?_
        · rw [apd1 (by omega), Option.bind_some]
          obtain ⟨q1, q2, q3⟩ := p2 hv
          exact Ev.ret (.inr ⟨f, x, rfl, Fl_snoc hX q1 q2 q3⟩)
        · rw [w64_id (by omega) (by omega)]
          exact Ev.ret ⟨⟨by omega, by omega⟩, by omega⟩
      · rintro ⟨bf, fd, out⟩ h
        simp only
        rcases h with h | ⟨f, x, h, hf⟩
        · simp only at h
          subst h
          exact Ev.ret (.inr rfl)
        · cases h
          simp only [if_true]
          rw [w64_succ (by omega)]
          exact Ev.ret (.inl ⟨f, x, rfl, hf⟩)
  have fin : ∀ C : List Int, C.length ≤ 1 → Ev (impl_GreedyFloor_k11 X.getLast? k F r (F.length : Int) C) (fun o => match o with
      | .inl s' => (∃ (F : List Int) (X : List S_row), s' = (X.getLast?, (F.length : Int), F) ∧ F.length ≤ N ∧ Fl r k F X) ∧ (100 - s'.2.1).toNat < (100 - (F.length : Int)).toNat
      | .inr o => (∃ F X, o = .inl F ∧ F.length = N ∧ Fl r k F X) ∨ o = .inr ([], 3)) := by
    intro C hC
    refine (body C hC).mono fun o ho => ?_
    rcases ho with ⟨f, x, rfl, h⟩ | rfl
    · exact ⟨⟨F ++ [f], X ++ [x], by simp, by simp; omega, h⟩, by simp only; omega⟩
    · exact .inr rfl
  cases hl : X.getLast? with
  | none =>
    rw [hl] at fin
    simp only [Option.bind_some, Bool.false_eq_true, if_false]
    exact (fin [] (by simp)).mono fun o h => by cases o <;> exact h
  | some y =>
    rw [hl] at fin
    simp only [Option.bind_some, if_true]
    have hy := hX.2.1 y (List.mem_of_getLast? hl)
    rw [(Lf_num hk (.inr hy)).2.2, Option.bind_some, apd0 (by simp), Option.bind_some]
    exact (fin _ (by simp)).mono fun o h => by cases o <;> exact h

/-! The search. -/
abbrev FI := (S_floorSearch × List Int × Option S_row × Int) → Option (Bool × S_floorSearch)
abbrev is (r : S_Room) (k : S_Stock) (n step left : Int) (found : Bool) (best : List Int) (lst : Int) : S_floorSearch := ⟨r, k, step, n, left, found, best, lst⟩
abbrev ti (r : S_Room) (k : S_Stock) (n step f left : Int) (found : Bool) (best : List Int) (lst : Int) := (f, r.Width, r.Length, k.Board, k.Wide, k.Least, k.Stagger, step, n, left, found, best, lst)
abbrev tu (r : S_Room) (k : S_Stock) (n step left : Int) (found : Bool) (best : List Int) (lst : Int) := (r.Width, r.Length, k.Board, k.Wide, k.Least, k.Stagger, step, n, left, found, best, lst)

abbrev bf_own (self : FI) (r : S_Room) (k : S_Stock) (n step : Int) (F : List Int) (f left : Int) (found : Bool) (best : List Int) (lst : Int) (x : S_row) (own : Int) : Option ((Int × Int × Int × Int × Int × Int × Int × Int × Int × Int × Bool × List Int × Int) ⊕ ((Int × Int × Int × Int × Int × Int × Int × Int × Int × Bool × List Int × Int) ⊕ (Bool × S_floorSearch))) :=
  if found = true ∧ own ≥ lst then some (.inl (ti r k n step (w64 (f - step)) left found best lst))
  else if left = 0 then some (.inr (.inr (true, is r k n step left found best lst)))
  else ((apd 8 ([] : List Int) F).bind fun a => (apd 8 a [f]).bind fun a' => (self (is r k n step (w64 (left - 1)) found best lst, a', some x, own)).bind fun z =>
    if z.1 = true then some (.inr (.inr (true, z.2)))
    else some (.inl (w64 (f - z.2.step), z.2.room.Width, z.2.room.Length, z.2.stock.Board, z.2.stock.Wide, z.2.stock.Least, z.2.stock.Stagger, z.2.step, z.2.rows, z.2.left, z.2.found, z.2.best, z.2.least)))

theorem bf_il (self : FI) (n step : Int) (bf : Option S_row) (F : List Int) (sum f left : Int) (found : Bool) (best : List Int) (lst : Int) :
    impl_floorSearch_run_l5 self bf F sum (ti r k n step f left found best lst) =
    if f ≥ k.Least then
      ((impl_possible r k bf f).bind fun x => if x.2 = true then
        ((match bf with | none => (some false) | some _ => (some true)).bind fun t =>
          if t = true then (match bf with | none => none | some y => ((impl_boards y x.1 k).bind fun c => bf_own self r k n step F f left found best lst x.1 (w64 (sum + c))))
          else bf_own self r k n step F f left found best lst x.1 (w64 (sum + (x.1.pieces.length : Int))))
        else some (.inl (ti r k n step (w64 (f - step)) left found best lst)))
    else some (.inr (.inl (tu r k n step left found best lst))) := by
  cases bf <;> rfl

theorem fs_impl (x : S_floorSearch) (F : List Int) (bf : Option S_row) (c : Int) : Fs (fun self : FI => impl_floorSearch_run_F self x F bf c) := by
  unfold impl_floorSearch_run_F
  refine Fs.ite (Fs.const _) (Fs.bind (Fs.loop (fun s => ?_) _) fun o => ?_)
  · unfold impl_floorSearch_run_l5 impl_floorSearch_run_k12 impl_floorSearch_run_k6
    obtain ⟨a1, a2, a3, a4, a5, a6, a7, a8, a9, a10, a11, a12, a13⟩ := s
    have own : ∀ (y : S_row) (w : Int), Fs (fun self : FI => bf_own self ⟨a2, a3⟩ ⟨a4, a5, a6, a7⟩ a9 a8 F a1 a10 a11 a12 a13 y w) := fun y w => Fs.ite (Fs.const _) (Fs.ite (Fs.const _) (Fs.bind (Fs.const _) fun _ => Fs.bind (Fs.const _) fun _ => Fs.bind (Fs.app _) fun z => by
      by_cases hz : z.1 = true
      · simp only [if_pos hz]; exact Fs.const _
      · simp only [if_neg hz]; exact Fs.const _))
    cases bf with
    | none => exact Fs.ite (Fs.bind (Fs.const _) fun x => Fs.ite (Fs.bind (Fs.const _) fun t => Fs.ite (Fs.const _) (own x.1 _)) (Fs.const _)) (Fs.const _)
    | some y => exact Fs.ite (Fs.bind (Fs.const _) fun x => Fs.ite (Fs.bind (Fs.const _) fun t => Fs.ite (Fs.bind (Fs.const _) fun _ => own x.1 _) (own x.1 _)) (Fs.const _)) (Fs.const _)
  · exact Fs.const _
noncomputable abbrev SI : FI := fun s => impl_floorSearch_run s.1 s.2.1 s.2.2.1 s.2.2.2
theorem bf_implE (x : S_floorSearch) (F : List Int) (bf : Option S_row) (c : Int) : impl_floorSearch_run x F bf c = impl_floorSearch_run_F SI x F bf c := by
  show fixO _ _ = _
  rw [fixO_eq]
  · rfl
  · rintro ⟨x, F, bf, c⟩
    exact fs_impl x F bf c

/-- What is known of the best so far. -/
def Bs (r : S_Room) (k : S_Stock) (N : Nat) (found : Bool) (best : List Int) (least : Int) : Prop := found = true → ∃ X, Fl r k best X ∧ best.length = N ∧ least = sb k b0 X

theorem run_ev (hr : Rm r) (hk : Sk k) {N : Nat} (hN : N ≤ 40) {step : Int} (hs1 : 1 ≤ step) (hs2 : step ≤ 5000) :
    ∀ (d : Nat) (F : List Int) (X : List S_row) (left : Int) (found : Bool) (best : List Int) (least : Int), F.length + d = N → Fl r k F X → 0 ≤ left → left ≤ 20000 → Bs r k N found best least →
      Ev (impl_floorSearch_run (is r k N step left found best least) F X.getLast? (sb k b0 X)) (fun p => p.1 = false → ∃ left' found' best' least', p.2 = is r k N step left' found' best' least' ∧ 0 ≤ left' ∧ left' ≤ 20000 ∧ Bs r k N found' best' least') := by
  obtain ⟨⟨b1, b2⟩, _, ⟨l1, l2⟩, _⟩ := id hk
  intro d
  induction d with
  | zero =>
    intro F X left found best least hF hX h0 h1 hB
    rw [bf_implE]
    unfold impl_floorSearch_run_F
    rw [if_pos (show (F.length : Int) = (N : Int) by omega)]
    exact Ev.ret fun _ => ⟨left, true, F, _, rfl, h0, h1, fun _ => ⟨X, hX, by omega, rfl⟩⟩
  | succ d ih =>
    intro F X left found best least hF hX h0 h1 hB
    have hXl := hX.1
    rw [bf_implE]
    unfold impl_floorSearch_run_F
    rw [if_neg (show ¬ (F.length : Int) = (N : Int) by omega)]
    refine Ev.bind (P := fun o => (∃ left' found' best' least', o = .inl (tu r k N step left' found' best' least') ∧ 0 ≤ left' ∧ left' ≤ 20000 ∧ Bs r k N found' best' least') ∨ (∃ t, o = .inr (true, t)))
      (Ev.loop (fun s => ∃ f left' found' best' least', s = ti r k N step f left' found' best' least' ∧ -5000 ≤ f ∧ f ≤ 5000 ∧ 0 ≤ left' ∧ left' ≤ 20000 ∧ Bs r k N found' best' least') (fun s => (s.1 - k.Least + 1).toNat) ?_ ⟨k.Board, left, found, best, least, rfl, by omega, by omega, h0, h1, hB⟩) ?_
    · rintro _ ⟨f, left', found', best', least', rfl, f0, f1, q0, q1, hB'⟩
      rw [bf_il]
      simp only
      refine Ev.ite (fun hf => ?_) fun _ => Ev.ret (.inl ⟨_, _, _, _, rfl, q0, q1, hB'⟩)
      obtain ⟨x, v, p1, p2⟩ := possible_ok hr hk hX.2.1 f
      have e1 : w64 (f - step) = f - step := w64_id (by omega) (by omega)
      rw [p1, Option.bind_some, e1]
      refine Ev.ite (fun hv => ?_) fun _ => Ev.ret ⟨⟨f - step, left', found', best', least', rfl, by omega, by omega, q0, q1, hB'⟩, by simp only; omega⟩
      obtain ⟨x1, x2, x3⟩ := p2 hv
      have hS := Fl_snoc hX x1 x2 x3
      have own : Ev (bf_own SI r k N step F f left' found' best' least' x (sb k b0 (X ++ [x]))) (fun o => match o with
          | .inl s' => (∃ f left' found' best' least', s' = ti r k N step f left' found' best' least' ∧ -5000 ≤ f ∧ f ≤ 5000 ∧ 0 ≤ left' ∧ left' ≤ 20000 ∧ Bs r k N found' best' least') ∧ (s'.1 - k.Least + 1).toNat < (f - k.Least + 1).toNat
          | .inr o => (∃ left' found' best' least', o = .inl (tu r k N step left' found' best' least') ∧ 0 ≤ left' ∧ left' ≤ 20000 ∧ Bs r k N found' best' least') ∨ (∃ t, o = .inr (true, t))) := by
        unfold bf_own
        rw [e1]
        refine Ev.ite (fun _ => Ev.ret ⟨⟨f - step, left', found', best', least', rfl, by omega, by omega, q0, q1, hB'⟩, by simp only; omega⟩) fun _ => ?_
        refine Ev.ite (fun _ => Ev.ret (.inr ⟨_, rfl⟩)) fun hz => ?_
        rw [apd0 (by omega), Option.bind_some, apd1 (by omega), Option.bind_some, w64_id (n := left' - 1) (by omega) (by omega)]
        have := ih (F ++ [f]) (X ++ [x]) (left' - 1) found' best' least' (by simp; omega) hS (by omega) (by omega) hB'
        rw [List.getLast?_concat] at this
        refine Ev.bind this fun p hp => ?_
        refine Ev.ite (fun _ => Ev.ret (.inr ⟨_, rfl⟩)) fun hf => ?_
        obtain ⟨l2, f2, bb2, t2, g1, g2, g3, g4⟩ := hp (by simpa using hf)
        rw [g1]
        simp only
        rw [e1]
        exact Ev.ret ⟨⟨f - step, l2, f2, bb2, t2, rfl, by omega, by omega, g2, g3, g4⟩, by simp only; omega⟩
      have hsum := sb_num hk (X ++ [x]) b0 (.inl rfl) hS.2.1
      have hlen : (X ++ [x]).length ≤ 41 := by simp; omega
      have esn := sb_snoc (k := k) b0 x X
      cases hl : X.getLast? with
      | none =>
        have hXn : X = [] := List.getLast?_eq_none_iff.1 hl
        simp only [Option.bind_some, Bool.false_eq_true, if_false]
        have : w64 (sb k b0 X + (x.pieces.length : Int)) = sb k b0 (X ++ [x]) := by
          have h2 : bo k (lastR b0 X) x = x.pieces.length := by
            rw [hXn]
            exact bo_first hk x1
          rw [esn, h2] at hsum ⊢
          exact w64_id (by omega) (by omega)
        rw [this]
        exact own.mono fun o h => by cases o <;> exact h
      | some y =>
        simp only [Option.bind_some, if_true]
        have hy := hX.2.1 y (List.mem_of_getLast? hl)
        have h2 : lastR b0 X = y := lastR_last b0 hl
        rw [(bo_num hk (.inr hy) x1).1, Option.bind_some]
        have : w64 (sb k b0 X + bo k y x) = sb k b0 (X ++ [x]) := by
          rw [esn, h2] at hsum ⊢
          exact w64_id (by omega) (by omega)
        rw [this]
        exact own.mono fun o h => by cases o <;> exact h
    · rintro o (⟨l2, f2, bb2, t2, rfl, g2, g3, g4⟩ | ⟨t, rfl⟩)
      · exact Ev.ret fun _ => ⟨l2, f2, bb2, t2, rfl, g2, g3, g4⟩
      · exact Ev.ret fun h => by cases h
end

theorem more_ok {m : List Int} (hm : ∀ x ∈ m, 0 ≤ x ∧ x ≤ 255) : laws_FnFloors_k13 m = some true := by
  unfold laws_FnFloors_k13
  obtain ⟨⟨r, k, F⟩, hd, hF⟩ := drawn2_ev hm
  simp only at hF
  rw [hd]
  simp only [Option.bind_some]
  by_cases h : Rm r ∧ Sk k
  · obtain ⟨N, n1, n2, n3⟩ := rows_eq h.1 h.2
    obtain ⟨b, n, q1, q2, q3, q4⟩ := boards_ok h.1 h.2 hF n1
    rw [q1, q2]
    simp only [Option.bind_some]
    cases b with
    | false => rfl
    | true =>
      obtain ⟨hl, X, hX, rfl⟩ := q3 rfl
      have : 1 ≤ sb k b0 X := by
        cases X with
        | nil => have := hX.1; simp at this; omega
        | cons x X =>
          have hx := hX.2.1 x List.mem_cons_self
          have h1 := bo_first h.2 hx
          have h2 := sb_num (r := r) h.2 X x (.inr hx) (fun z hz => hX.2.1 z (List.mem_cons_of_mem _ hz))
          have h3 := hx.len
          have e : sb k b0 (x :: X) = bo k b0 x + sb k x X := rfl
          omega
      simp
      omega
  · unfold impl_BoardsFor impl_IsFloor
    rw [gf_impl, if_neg h]
    rfl

theorem count_eq (r : S_Room) (k : S_Stock) : (∃ c, impl_RowCount r k = some (0, c) ∧ c ≠ 0) ∨ (Rm r ∧ Sk k ∧ ∃ N : Nat, impl_RowCount r k = some ((N : Int), 0) ∧ impl_rows r k = some (N : Int) ∧ N ≤ 40 ∧ 1 ≤ N ∧ (N : Int) * k.Wide ≥ r.Length) := by
  unfold impl_RowCount
  rw [gf_impl, Option.bind_some]
  by_cases h : Rm r ∧ Sk k
  · rw [if_pos h]
    obtain ⟨N, n1, n2, n3⟩ := rows_eq h.1 h.2
    simp only [ne_eq, not_true, if_false, n1, Option.bind_some]
    by_cases c : (N : Int) > 40
    · rw [if_pos c]
      exact .inl ⟨5, rfl, by decide⟩
    · rw [if_neg c]
      exact .inr ⟨h.1, h.2, N, rfl, rfl, by omega, n2, n3⟩
  · rw [if_neg h]
    exact .inl ⟨1, rfl, by decide⟩

theorem waste_ok {r : S_Room} {k : S_Stock} (hr : Rm r) (hk : Sk k) {N : Nat} (hN : N ≤ 40) (hW : (N : Int) * k.Wide ≥ r.Length) {X : List S_row} (hX : ∀ x ∈ X, Rw r k x) (hl : X.length = N) :
    w64 (w64 (sb k b0 X * k.Board) * k.Wide) ≥ w64 (r.Width * r.Length) ∧ ∃ w, impl_floorDiv (w64 (w64 (w64 (w64 (sb k b0 X * k.Board) * k.Wide) - w64 (r.Width * r.Length)) * 1000)) (w64 (w64 (sb k b0 X * k.Board) * k.Wide)) = some w ∧ 0 ≤ w ∧ w ≤ 999 := by
  obtain ⟨⟨w1, w2⟩, ⟨l1, l2⟩⟩ := id hr
  obtain ⟨⟨b1, b2⟩, ⟨d1, d2⟩, _⟩ := id hk
  have hs := sb_num (r := r) hk X b0 (.inl rfl) hX
  have ha := sb_area (r := r) hk X b0 (.inl rfl) hX
  have hlf : Lf k b0 = 0 := by simp [Lf, b0]
  have hll : 0 ≤ Lf k (lastR b0 X) := by
    cases hXe : X with
    | nil => rw [show lastR b0 [] = b0 from rfl, hlf]; exact Int.le_refl _
    | cons x Y =>
      have hne : X ≠ [] := by rw [hXe]; simp
      rw [← hXe, lastR_last b0 (List.getLast?_eq_some_getLast hne)]
      exact (Lf_num hk (.inr (hX _ (List.getLast_mem hne)))).1
  rw [hlf, hl] at ha
  generalize sb k b0 X = n at hs ha
  have hn : n ≤ 800080 := by omega
  have m1 : 0 ≤ n * k.Board := Int.mul_nonneg hs.1 (by omega)
  have m2 : n * k.Board ≤ 800080 * 5000 := Int.mul_le_mul hn b2 (by omega) (by omega)
  have e1 : w64 (n * k.Board) = n * k.Board := w64_id (by omega) (by omega)
  have m3 : 0 ≤ n * k.Board * k.Wide := Int.mul_nonneg m1 (by omega)
  have m4 : n * k.Board * k.Wide ≤ 800080 * 5000 * 1000 := Int.mul_le_mul m2 d2 (by omega) (by omega)
  have e2 : w64 (n * k.Board * k.Wide) = n * k.Board * k.Wide := w64_id (by omega) (by omega)
  have m5 : 1 * 1 ≤ r.Width * r.Length := Int.mul_le_mul w1 l1 (by omega) (by omega)
  have m6 : r.Width * r.Length ≤ 20000 * 20000 := Int.mul_le_mul w2 l2 (by omega) (by omega)
  have e3 : w64 (r.Width * r.Length) = r.Width * r.Length := w64_id (by omega) (by omega)
  have key : r.Width * r.Length ≤ n * k.Board * k.Wide := by
    have k1 : (N : Int) * r.Width * k.Wide ≤ n * k.Board * k.Wide := Int.mul_le_mul_of_nonneg_right (by omega) (by omega)
    have k2 : r.Width * r.Length ≤ r.Width * ((N : Int) * k.Wide) := Int.mul_le_mul_of_nonneg_left hW (by omega)
    have k3 : r.Width * ((N : Int) * k.Wide) = (N : Int) * r.Width * k.Wide := by
      rw [← Int.mul_assoc, Int.mul_comm r.Width]
    omega
  rw [e1, e2, e3]
  refine ⟨key, ?_⟩
  generalize n * k.Board * k.Wide = a at m3 m4 key
  generalize r.Width * r.Length = p at m5 m6 key
  have e4 : w64 (a - p) = a - p := w64_id (by omega) (by omega)
  have e5 : w64 ((a - p) * 1000) = (a - p) * 1000 := w64_id (by omega) (by omega)
  rw [e4, e5]
  unfold impl_floorDiv impl_floorDiv_k4 dv md
  rw [if_neg (by omega), if_neg (by omega), Int.tdiv_eq_ediv_of_nonneg (by omega), Int.tmod_eq_emod_of_nonneg (by omega)]
  have h0 : 0 ≤ (a - p) * 1000 / a := Int.ediv_nonneg (by omega) (by omega)
  have h1 : (a - p) * 1000 / a < 1000 := Int.ediv_lt_of_lt_mul (by omega) (by omega)
  have h2 : 0 ≤ (a - p) * 1000 % a := Int.emod_nonneg _ (by omega)
  have e6 : IntKind.wrap .i64 ((a - p) * 1000 / a) = (a - p) * 1000 / a := w64_id (by omega) (by omega)
  simp only [Option.bind_some, e6]
  rw [if_neg (by omega)]
  exact ⟨_, rfl, h0, by omega⟩

theorem law_Floors (c m : List Int) (hc : ∀ x ∈ c, 0 ≤ x ∧ x ≤ 255) (hm : ∀ x ∈ m, 0 ≤ x ∧ x ≤ 255) : laws_FnFloors c m = some true := by
  unfold laws_FnFloors laws_b10Long
  simp only [Option.bind_some]
  by_cases c1 : decide ((c.length : Int) > 1048576) = true
  · rw [if_pos c1]; rfl
  rw [if_neg c1]
  simp only [Option.bind_some]
  by_cases c2 : decide ((m.length : Int) > 1048576) = true
  · rw [if_pos c2]
  rw [if_neg c2]
  obtain ⟨⟨r, k, step, bud⟩, hd, _⟩ := drawn_ev hc
  rw [hd]
  simp only [Option.bind_some]
  unfold impl_BestFloor impl_GreedyFloor
  rcases count_eq r k with ⟨cc, e1, e2⟩ | ⟨hr, hk, N, e1, e2, e3, e4, e5⟩
  · rw [e1]
    simp only [Option.bind_some, if_neg e2, if_pos e2, impl_BestFloor_k4, Bool.false_eq_true, if_false, more_ok hm, ne_eq, e2, not_false_iff, if_true]
  · rw [e1]
    simp only [Option.bind_some, if_true, within_eq, decide_eq_true_eq, ne_eq, not_true, if_false]
    obtain ⟨o, g1, g2⟩ := greedy_ev hr hk e3 (z := 0)
    rw [g1]
    simp only [Option.bind_some]
    -- the greedy part
    have gr : ∃ F cc, (match o with | .inl F => some (F, (0 : Int)) | .inr r2 => some r2) = some (F, cc) ∧ (if cc = 0 then ((impl_IsFloor r k F).bind fun x57 => some (!x57)) else some false) = some false := by
      rcases g2 with ⟨F, X, rfl, hF, hX⟩ | rfl
      · obtain ⟨b, n, q1, q2, q3, q4⟩ := boards_ok hr hk (F := F) (by omega) e2
        obtain ⟨rfl, _⟩ := q4 X hF hX
        exact ⟨F, 0, rfl, by rw [if_pos rfl, q1]; rfl⟩
      · exact ⟨[], 3, rfl, by rw [if_neg (by omega)]⟩
    obtain ⟨F, cc, gr1, gr2⟩ := gr
    have tail : ∀ (best : List Int) (n code : Int), (code = 0 → ∃ X, Fl r k best X ∧ best.length = N ∧ n = sb k b0 X) →
        ((match o with | .inl F => some (F, (0 : Int)) | .inr r2 => some r2).bind fun x48 =>
    (if x48.2 = 0 then
    ((impl_IsFloor r k x48.1).bind fun x57 =>
    some (!x57))
    else (some false)).bind fun t_59_m6 =>
    if t_59_m6 = true then
    (some false)
    else (if code = 0 then
    ((impl_BoardsFor r k best).bind fun x66 =>
    (impl_WasteShare r k best).bind fun x73 =>
    (impl_IsFloor r k best).bind fun x79 =>
    if (¬ (x79 = true) ∨ (¬ x66.2 = 0 ∨ (¬ x66.1 = n ∨ (¬ x73.2 = 0 ∨ (x73.1 < 0 ∨ (x73.1 > 999 ∨ (w64 ((w64 (n * k.Board)) * k.Wide)) < (w64 (r.Width * r.Length)))))))) then
    (some false)
    else (laws_FnFloors_k13 m))
    else (laws_FnFloors_k13 m))) = some true := by
      intro best n code hcode
      rw [gr1]
      simp only [Option.bind_some, gr2, Bool.false_eq_true, if_false, more_ok hm]
      by_cases hz : code = 0
      · obtain ⟨X, hX, hb, rfl⟩ := hcode hz
        obtain ⟨b, n, q1, q2, q3, q4⟩ := boards_ok hr hk (F := best) (by omega) e2
        obtain ⟨rfl, rfl⟩ := q4 X hb hX
        obtain ⟨z1, w, z2, z3, z4⟩ := waste_ok hr hk e3 e5 hX.2.1 (by rw [hX.1]; exact hb)
        rw [if_pos hz]
        unfold impl_WasteShare
        rw [q1, q2]
        simp only [if_true, Option.bind_some, ne_eq, not_true, if_false, z2]
        rw [if_neg (by
          simp only [false_or, not_or]
          omega)]
      · rw [if_neg hz]
    by_cases s1 : 1 ≤ step ∧ step ≤ k.Board
    · rw [if_pos s1]
      by_cases s2 : 1 ≤ bud ∧ bud ≤ 20000
      · simp only [s2, and_self, decide_true, Bool.not_true, Option.bind_some, Bool.false_eq_true, if_false, impl_BestFloor_k4, ne_eq, not_true]
        obtain ⟨⟨b1, b2⟩, _⟩ := id hk
        obtain ⟨⟨spent, s'⟩, p1, p2⟩ := run_ev hr hk e3 (step := step) (by omega) (by omega) N [] [] bud false [] 0 (by simp) Fl_nil (by omega) (by omega) (fun h => by cases h)
        have p1' : impl_floorSearch_run ⟨r, k, step, (N : Int), bud, false, [], 0⟩ [] none 0 = some (spent, s') := p1
        rw [p1']
        simp only [Option.bind_some]
        cases spent with
        | true => exact tail [] 0 5 (fun h => by cases h)
        | false =>
          obtain ⟨left', found', best', least', q1, q2, q3, q4⟩ := p2 rfl
          simp only at q1
          subst q1
          simp only [Bool.false_eq_true, if_false]
          cases found' with
          | false => exact tail [] 0 3 (fun h => by cases h)
          | true => exact tail best' least' 0 (fun _ => q4 rfl)
      · simp only [s2, decide_false, Bool.not_false, Option.bind_some, if_true, impl_BestFloor_k4]
        exact tail [] 0 2 (fun h => by cases h)
    · rw [if_neg s1]
      simp only [Option.bind_some, if_true, impl_BestFloor_k4]
      exact tail [] 0 2 (fun h => by cases h)

end Go.Pw
