/- The plain law of FnExactFewestSteps. Conditions: none. -/
import Derived.Test.YtigjhjlkdamncaaTfsT
import Derived.Test.YtigjhjlkdamncaaSimPy
namespace Go.Pw
open Go.Sim (min2 max2)
set_option linter.unusedVariables false
set_option linter.unusedSimpArgs false

theorem within_eq (n a b : Int) : impl_within n a b = some (decide (a ≤ n ∧ n ≤ b)) := by
  unfold impl_within
  rw [Bool.decide_and]
theorem in_eq (n a b : Int) : spec_l00In n a b = some (decide (a ≤ n ∧ n ≤ b)) := by
  unfold spec_l00In
  rw [Bool.decide_and]

/-- A search for the first that is so. -/
theorem scanFind {α ρ : Type} {f : Int → Option (Int ⊕ (Unit ⊕ ρ))} (l : List α) (p : α → Bool) (R : Nat → ρ) (hl : l.length < 4611686018427387904)
    (h1 : ∀ (i : Nat) (hi : i < l.length), f (i : Int) = if p l[i] = true then some (.inr (.inr (R i))) else some (.inl (w64 ((i : Int) + 1)))) (h2 : f (l.length : Int) = some (.inr (.inl ()))) :
    ((∀ x ∈ l, p x = false) ∧ loopO f 0 = some (.inl ())) ∨ (∃ i, ∃ h : i < l.length, p l[i] = true ∧ loopO f 0 = some (.inr (R i))) := by
  have key : ∀ (m i : Nat), i + m = l.length → ((∀ x ∈ l.drop i, p x = false) ∧ loopO f (i : Int) = some (.inl ())) ∨ (∃ j, ∃ h : j < l.length, p l[j] = true ∧ loopO f (i : Int) = some (.inr (R j))) := by
    intro m
    induction m with
    | zero =>
      intro i hi
      obtain rfl : i = l.length := by omega
      exact .inl ⟨by rw [List.drop_length]; exact fun x hx => absurd hx List.not_mem_nil, loopO_done h2⟩
    | succ m ih =>
      intro i hi
      have hi' : i < l.length := by omega
      have hd : l.drop i = l[i] :: l.drop (i + 1) := List.drop_eq_getElem_cons hi'
      have h := h1 i hi'
      rw [w64_succ (by omega)] at h
      cases hp : p l[i] with
      | true =>
        rw [hp, if_pos rfl] at h
        exact .inr ⟨i, hi', hp, loopO_done h⟩
      | false =>
        rw [hp, if_neg (by decide)] at h
        rw [loopO_next h]
        rcases ih (i + 1) (by omega) with ⟨q1, q2⟩ | q
        · refine .inl ⟨?_, q2⟩
          rw [hd]
          intro x hx
          rcases List.mem_cons.1 hx with rfl | hx
          · exact hp
          · exact q1 x hx
        · exact .inr q
  have := key l.length 0 (by omega)
  simpa using this

/-- The species and their hardness. -/
theorem sp_find (name : ByteArray) : ∃ L : List ByteArray, spec_l07Names = some L ∧ L.length = 10 ∧ (((∀ x ∈ L, x ≠ name) ∧ spec_l07Find name = some (-1)) ∨ ∃ i, ∃ h : i < L.length, L[i] = name ∧ spec_l07Find name = some (i : Int)) := by
  unfold spec_l07Find
  obtain ⟨L, hL⟩ : ∃ L, spec_l07Names = some L := ⟨_, rfl⟩
  have h10 : L.length = 10 := by
    unfold spec_l07Names at hL
    cases hL
    rfl
  refine ⟨L, hL, h10, ?_⟩
  rw [hL]
  simp only [Option.bind_some]
  rcases scanFind (f := spec_l07Find_l3 name L) L (fun x => decide (x = name)) (fun i => (i : Int)) (by omega) (fun i hi => by
    unfold spec_l07Find_l3
    rw [if_pos (by omega), rd_lt hi, Option.bind_some]
    by_cases c : L[i] = name
    · rw [if_pos c, decide_eq_true c, if_pos rfl]
    · rw [if_neg c, decide_eq_false c, if_neg (by decide)]) (by unfold spec_l07Find_l3; rw [if_neg (by omega)]) with ⟨q1, q2⟩ | ⟨i, hi, q1, q2⟩
  · rw [q2]
    exact .inl ⟨fun x hx => of_decide_eq_false (q1 x hx), rfl⟩
  · rw [q2]
    exact .inr ⟨i, hi, of_decide_eq_true q1, rfl⟩

theorem species (name : ByteArray) : (spec_l07Find name = some (-1) ∧ impl_SpeciesData name = some (0, 0, 0, 3)) ∨
    ∃ i s h d : Int, spec_l07Find name = some i ∧ 0 ≤ i ∧ spec_l21Hardness name = some h ∧ impl_SpeciesData name = some (s, h, d, 0) ∧ 33 ≤ h ∧ h ≤ 85 := by
  obtain ⟨L, hL, h10, h⟩ := sp_find name
  unfold spec_l07Names at hL
  cases hL
  rcases h with ⟨h, q⟩ | ⟨i, hi, h, q⟩
  · refine .inl ⟨q, ?_⟩
    simp only [List.forall_mem_cons] at h
    obtain ⟨h0, h1, h2, h3, h4, h5, h6, h7, h8, h9, _⟩ := h
    unfold impl_SpeciesData
    rw [if_neg (Ne.symm h0), if_neg (Ne.symm h1), if_neg (Ne.symm h2), if_neg (Ne.symm h3), if_neg (Ne.symm h4), if_neg (Ne.symm h5), if_neg (Ne.symm h6), if_neg (Ne.symm h7), if_neg (Ne.symm h8), if_neg (Ne.symm h9)]
  · refine .inr ⟨(i : Int), ?_⟩
    have hh : ∀ (x : List Int) (v : Int), rd ([([20, 40, 310] : List Int), ([35, 45, 410] : List Int), ([15, 33, 280] : List Int), ([50, 36, 240] : List Int), ([95, 85, 270] : List Int), ([5, 35, 370] : List Int), ([10, 42, 290] : List Int), ([40, 40, 330] : List Int), ([80, 60, 220] : List Int), ([70, 38, 260] : List Int)] : List (List Int)) (i : Int) = some x → rd x 1 = some v → spec_l21Hardness name = some v := by
      intro x v h1 h2
      unfold spec_l21Hardness spec_l07Table
      simp only [q, Option.bind_some, h1, h2]
    match i, hi with
    | 0, _ => exact ⟨20, 40, 310, q, by omega, hh [20, 40, 310] 40 rfl rfl, by rw [← h]; rfl, by omega, by omega⟩
    | 1, _ => exact ⟨35, 45, 410, q, by omega, hh [35, 45, 410] 45 rfl rfl, by rw [← h]; rfl, by omega, by omega⟩
    | 2, _ => exact ⟨15, 33, 280, q, by omega, hh [15, 33, 280] 33 rfl rfl, by rw [← h]; rfl, by omega, by omega⟩
    | 3, _ => exact ⟨50, 36, 240, q, by omega, hh [50, 36, 240] 36 rfl rfl, by rw [← h]; rfl, by omega, by omega⟩
    | 4, _ => exact ⟨95, 85, 270, q, by omega, hh [95, 85, 270] 85 rfl rfl, by rw [← h]; rfl, by omega, by omega⟩
    | 5, _ => exact ⟨5, 35, 370, q, by omega, hh [5, 35, 370] 35 rfl rfl, by rw [← h]; rfl, by omega, by omega⟩
    | 6, _ => exact ⟨10, 42, 290, q, by omega, hh [10, 42, 290] 42 rfl rfl, by rw [← h]; rfl, by omega, by omega⟩
    | 7, _ => exact ⟨40, 40, 330, q, by omega, hh [40, 40, 330] 40 rfl rfl, by rw [← h]; rfl, by omega, by omega⟩
    | 8, _ => exact ⟨80, 60, 220, q, by omega, hh [80, 60, 220] 60 rfl rfl, by rw [← h]; rfl, by omega, by omega⟩
    | 9, _ => exact ⟨70, 38, 260, q, by omega, hh [70, 38, 260] 38 rfl rfl, by rw [← h]; rfl, by omega, by omega⟩
    | n + 10, hi => exact absurd hi (by rw [h10]; omega)

/-- What a valid step is. -/
def Sn (x : S_Step) : Prop := (x.Kind = 1 ∧ 100 ≤ x.A ∧ x.A ≤ 300 ∧ 0 ≤ x.B ∧ x.B ≤ 600) ∨ (x.Kind = 2 ∧ 0 ≤ x.A ∧ x.A ≤ 100 ∧ 0 ≤ x.B ∧ x.B ≤ 100) ∨ (x.Kind = 3 ∧ 0 ≤ x.A ∧ x.A ≤ 600)

theorem step_eq (c : S_Step) : ∃ v : Bool, spec_l21Step c = some v ∧ impl_ValidStep c = some v ∧ (v = true → Sn c) := by
  unfold spec_l21Step impl_ValidStep spec_l21Heat Sn
  simp only [in_eq, within_eq, Option.bind_some, decide_eq_true_eq]
  by_cases k1 : c.Kind = 1
  · simp only [if_pos k1]
    by_cases c1 : 100 ≤ c.A ∧ c.A ≤ 300
    · simp only [if_pos c1, Option.bind_some]
      exact ⟨_, rfl, rfl, fun h => .inl ⟨k1, c1.1, c1.2, (of_decide_eq_true h).1, (of_decide_eq_true h).2⟩⟩
    · simp only [if_neg c1, Option.bind_some]
      exact ⟨_, rfl, rfl, fun h => by cases h⟩
  · by_cases k2 : c.Kind = 2
    · simp only [if_neg k1, if_pos k2]
      by_cases c1 : 0 ≤ c.A ∧ c.A ≤ 100
      · simp only [if_pos c1, Option.bind_some]
        exact ⟨_, rfl, rfl, fun h => .inr (.inl ⟨k2, c1.1, c1.2, (of_decide_eq_true h).1, (of_decide_eq_true h).2⟩)⟩
      · simp only [if_neg c1, Option.bind_some]
        exact ⟨_, rfl, rfl, fun h => by cases h⟩
    · by_cases k3 : c.Kind = 3
      · simp only [if_neg k1, if_neg k2, if_pos k3]
        refine ⟨_, rfl, rfl, fun h => .inr (.inr ⟨k3, ?_⟩)⟩
        simp only [Bool.and_eq_true, decide_eq_true_eq] at h
        exact h.1
      · simp only [if_neg k1, if_neg k2, if_neg k3]
        exact ⟨_, rfl, rfl, fun h => by cases h⟩

noncomputable def Vc (c : S_Step) : Bool := Classical.choose (step_eq c)
theorem Vc_spec (c : S_Step) : spec_l21Step c = some (Vc c) := (Classical.choose_spec (step_eq c)).1
theorem Vc_impl (c : S_Step) : impl_ValidStep c = some (Vc c) := (Classical.choose_spec (step_eq c)).2.1
theorem Vc_num (c : S_Step) (h : Vc c = true) : Sn c := (Classical.choose_spec (step_eq c)).2.2 h

theorem ok_spec (l : List S_Step) (hl : l.length ≤ 1048576) : spec_l21Steps l = some (l.all Vc && decide (l.length ≤ 8)) := by
  unfold spec_l21Steps
  have k1 : ∀ (i : Nat) (hi : i < l.length), spec_l21Steps_l2 l (i : Int) = if Vc l[i] = true then some (.inl (w64 ((i : Int) + 1))) else some (.inr (.inr false)) := by
    intro i hi
    unfold spec_l21Steps_l2
    rw [if_pos (by omega), rd_lt hi, Option.bind_some, Vc_spec, Option.bind_some]
  have k2 : spec_l21Steps_l2 l (l.length : Int) = some (.inr (.inl ())) := by
    unfold spec_l21Steps_l2
    rw [if_neg (by omega)]
  rcases scanAll l Vc (fun _ => false) (by omega) k1 k2 with ⟨h1, h2⟩ | ⟨h1, i, hi, h2⟩
  · rw [h2, h1]
    have e : decide ((l.length : Int) ≤ 8) = decide (l.length ≤ 8) := decide_eq_decide.2 (by omega)
    simp only [Option.bind_some, e, Bool.true_and]
  · rw [h2, h1]
    rfl

theorem has_eq (l : List S_Step) (hl : l.length ≤ 1048576) {f : S_Step → Option Bool} {p : S_Step → Bool} (hp : ∀ c ∈ l, f c = some (p c)) : slices_ContainsFunc_impl_Step_impl_Step l f = some (!(l.all fun c => !p c)) := by
  unfold slices_ContainsFunc_impl_Step_impl_Step slices_IndexFunc_impl_Step_impl_Step
  have k1 : ∀ (i : Nat) (hi : i < l.length), slices_IndexFunc_impl_Step_impl_Step_l2 f l (i : Int) = if (!p l[i]) = true then some (.inl (w64 ((i : Int) + 1))) else some (.inr (.inr (i : Int))) := by
    intro i hi
    unfold slices_IndexFunc_impl_Step_impl_Step_l2
    rw [if_pos (by omega), rd_lt hi, Option.bind_some, hp _ (List.getElem_mem hi), Option.bind_some]
    cases p l[i] <;> rfl
  have k2 : slices_IndexFunc_impl_Step_impl_Step_l2 f l (l.length : Int) = some (.inr (.inl ())) := by
    unfold slices_IndexFunc_impl_Step_impl_Step_l2
    rw [if_neg (by omega)]
  rcases scanAll l (fun c => !p c) (fun i => (i : Int)) (by omega) k1 k2 with ⟨h1, h2⟩ | ⟨h1, i, hi, h2⟩
  · rw [h2, h1]
    rfl
  · rw [h2, h1]
    simp

theorem ok_impl (l : List S_Step) (hl : l.length ≤ 1048576) : impl_validSteps l = some (l.all Vc && decide (l.length ≤ 8)) := by
  unfold impl_validSteps
  rw [has_eq l hl (f := fun a0 => impl_validSteps_c1 a0) (p := fun c => !Vc c) (fun c _ => by unfold impl_validSteps_c1; rw [Vc_impl]; rfl)]
  simp only [Bool.not_not, Option.bind_some]
  have e : decide ((l.length : Int) ≤ 8) = decide (l.length ≤ 8) := decide_eq_decide.2 (by omega)
  by_cases c : (l.length : Int) ≤ 8
  · rw [if_pos c, ← e, decide_eq_true c, Bool.and_true]
    rfl
  · rw [if_neg c, ← e, decide_eq_false c, Bool.and_false]
    rfl

/-- The shade after a step. -/
theorem near_eq (p : Int) (h1 : -10000 ≤ p) (h2 : p ≤ 10000) : ∃ v, spec_l01Div p 100 = some v ∧ impl_nearest p 100 = some v ∧ (0 ≤ p → 100 * v ≤ p + 50 ∧ 0 ≤ v) ∧ (p ≤ 0 → p - 50 ≤ 100 * v ∧ v ≤ 0) := by
  have w1 : w64 (2 * (100 : Int)) = 200 := rfl
  unfold spec_l01Div spec_l01Div_k4 impl_nearest
  simp only [show ¬ ((100 : Int) < 0) by decide, show ¬ ((100 : Int) = 0) by decide, if_false, w1]
  by_cases c : p < 0
  · rw [if_pos c]
    have e1 : w64 (2 * p) = 2 * p := w64_id (by omega) (by omega)
    have e2 : w64 (100 - 2 * p) = 100 - 2 * p := w64_id (by omega) (by omega)
    have e3 : w64 (0 - p) = 0 - p := w64_id (by omega) (by omega)
    have e4 : w64 (0 - 100) = -100 := rfl
    have e5 : max2 p (0 - p) = 0 - p := by unfold max2; split <;> omega
    have e6 : max2 100 (-100) = 100 := by unfold max2; split <;> omega
    have e7 : (100 - 2 * p).tdiv 200 = (100 - 2 * p) / 200 := Int.tdiv_eq_ediv_of_nonneg (by omega)
    have e8 : (0 - p).tdiv 100 = (0 - p) / 100 := Int.tdiv_eq_ediv_of_nonneg (by omega)
    have e9 : (0 - p).tmod 100 = (0 - p) % 100 := Int.tmod_eq_emod_of_nonneg (by omega)
    simp only [e1, e2, e3, e4, e5, e6]
    unfold dv md impl_nearest_k9
    rw [if_neg (by decide), if_neg (by decide), if_neg (by decide)]
    simp only [Option.bind_some, e7, e8, e9]
    have f1 : IntKind.wrap .i64 ((100 - 2 * p) / 200) = (100 - 2 * p) / 200 := w64_id (by omega) (by omega)
    have f2 : IntKind.wrap .i64 ((0 - p) / 100) = (0 - p) / 100 := w64_id (by omega) (by omega)
    have f3 : w64 (100 - (0 - p) % 100) = 100 - (0 - p) % 100 := w64_id (by omega) (by omega)
    have f4 : w64 (0 - (100 - 2 * p) / 200) = - ((100 - 2 * p) / 200) := by rw [w64_id (by omega) (by omega)]; omega
    have f5 : w64 ((0 - p) / 100 + 1) = (0 - p) / 100 + 1 := w64_id (by omega) (by omega)
    have f6 : decide (p < 0) = true := decide_eq_true c
    have f7 : decide ((100 : Int) < 0) = false := by decide
    rw [f1, f2, f3, f4, f5, f6, f7]
    refine ⟨_, rfl, ?_, by omega, by omega⟩
    split
    · rw [if_neg (by decide), w64_id (by omega) (by omega)]
      congr 1
      omega
    · rw [if_neg (by decide), w64_id (by omega) (by omega)]
      congr 1
      omega
  · rw [if_neg c]
    have e1 : w64 (2 * p) = 2 * p := w64_id (by omega) (by omega)
    have e2 : w64 (2 * p + 100) = 2 * p + 100 := w64_id (by omega) (by omega)
    have e3 : w64 (0 - p) = 0 - p := w64_id (by omega) (by omega)
    have e4 : w64 (0 - 100) = -100 := rfl
    have e5 : max2 p (0 - p) = p := by unfold max2; split <;> omega
    have e6 : max2 100 (-100) = 100 := by unfold max2; split <;> omega
    have e7 : (2 * p + 100).tdiv 200 = (2 * p + 100) / 200 := Int.tdiv_eq_ediv_of_nonneg (by omega)
    have e8 : p.tdiv 100 = p / 100 := Int.tdiv_eq_ediv_of_nonneg (by omega)
    have e9 : p.tmod 100 = p % 100 := Int.tmod_eq_emod_of_nonneg (by omega)
    simp only [e1, e2, e3, e4, e5, e6]
    unfold dv md impl_nearest_k9
    rw [if_neg (by decide), if_neg (by decide), if_neg (by decide)]
    simp only [Option.bind_some, e7, e8, e9]
    have f1 : IntKind.wrap .i64 ((2 * p + 100) / 200) = (2 * p + 100) / 200 := w64_id (by omega) (by omega)
    have f2 : IntKind.wrap .i64 (p / 100) = p / 100 := w64_id (by omega) (by omega)
    have f3 : w64 (100 - p % 100) = 100 - p % 100 := w64_id (by omega) (by omega)
    have f5 : w64 (p / 100 + 1) = p / 100 + 1 := w64_id (by omega) (by omega)
    have f6 : decide (p < 0) = false := decide_eq_false c
    have f7 : decide ((100 : Int) < 0) = false := by decide
    rw [f1, f2, f3, f5, f6, f7]
    refine ⟨_, rfl, ?_, by omega, by omega⟩
    split
    · rw [if_pos rfl]
      congr 1
      omega
    · rw [if_pos rfl]
      congr 1
      omega

theorem shade_eq {sp : ByteArray} {h sh d0 t : Int} (hd : impl_SpeciesData sp = some (t, h, d0, 0)) (h1 : 33 ≤ h) (h2 : h ≤ 85) (s1 : 0 ≤ sh) (s2 : sh ≤ 100) (x : S_Step) (hx : Sn x) :
    ∃ v, spec_l21Shade h sh x = some v ∧ impl_stepShade sp sh x = some v ∧ 0 ≤ v ∧ v ≤ 100 := by
  unfold spec_l21Shade impl_stepShade
  rcases hx with ⟨k, a1, a2, b1, b2⟩ | ⟨k, a1, a2, b1, b2⟩ | ⟨k, a1, a2⟩
  · rw [if_pos k, if_pos k]
    unfold spec_l21Gain impl_gain
    rw [hd]
    simp only [Option.bind_some]
    have e1 : w64 (x.A - 100) = x.A - 100 := w64_id (by omega) (by omega)
    have p1 : 0 ≤ (x.A - 100) * x.B := Int.mul_nonneg (by omega) b1
    have p2 : (x.A - 100) * x.B ≤ 200 * 600 := Int.mul_le_mul (by omega) b2 b1 (by omega)
    have e2 : w64 ((x.A - 100) * x.B) = (x.A - 100) * x.B := w64_id (by omega) (by omega)
    have e3 : w64 (10 * h) = 10 * h := w64_id (by omega) (by omega)
    rw [e1, e2, e3]
    generalize (x.A - 100) * x.B = p at p1 p2
    have q1 : p.tdiv (10 * h) = p / (10 * h) := Int.tdiv_eq_ediv_of_nonneg p1
    have q2 : 0 ≤ p / (10 * h) := Int.ediv_nonneg p1 (by omega)
    have q3 : p / (10 * h) ≤ p := Int.ediv_le_self _ p1
    unfold dv
    rw [if_neg (by omega), q1]
    have e4 : IntKind.wrap .i64 (p / (10 * h)) = p / (10 * h) := w64_id (by omega) (by omega)
    rw [e4]
    generalize p / (10 * h) = g at q2 q3
    have e5 : w64 (sh + g) = sh + g := w64_id (by omega) (by omega)
    simp only [Option.bind_some, e5]
    unfold spec_l00Min min2
    by_cases c : 100 < sh + g
    · rw [if_pos c]
      exact ⟨_, rfl, by rw [if_pos c], by omega, by omega⟩
    · rw [if_neg c]
      refine ⟨_, rfl, ?_, by omega, by omega⟩
      congr 1
      split <;> omega
  · rw [if_neg (by omega), if_pos k, if_neg (by omega), if_pos k]
    have e1 : w64 (x.A - sh) = x.A - sh := w64_id (by omega) (by omega)
    have key : -10000 ≤ (x.A - sh) * x.B ∧ (x.A - sh) * x.B ≤ 10000 ∧ (sh ≤ x.A → 0 ≤ (x.A - sh) * x.B ∧ (x.A - sh) * x.B ≤ (x.A - sh) * 100) ∧ (x.A ≤ sh → (x.A - sh) * x.B ≤ 0 ∧ (x.A - sh) * 100 ≤ (x.A - sh) * x.B) := by
      have u1 : sh ≤ x.A → 0 ≤ (x.A - sh) * x.B ∧ (x.A - sh) * x.B ≤ (x.A - sh) * 100 := fun hh => ⟨Int.mul_nonneg (by omega) b1, Int.mul_le_mul_of_nonneg_left b2 (by omega)⟩
      have u2 : x.A ≤ sh → (x.A - sh) * x.B ≤ 0 ∧ (x.A - sh) * 100 ≤ (x.A - sh) * x.B := fun hh => ⟨Int.mul_nonpos_of_nonpos_of_nonneg (by omega) b1, Int.mul_le_mul_of_nonpos_left (by omega) b2⟩
      refine ⟨?_, ?_, u1, u2⟩
      · rcases Int.le_total sh x.A with hh | hh
        · have := u1 hh; omega
        · have := u2 hh; omega
      · rcases Int.le_total sh x.A with hh | hh
        · have := u1 hh; omega
        · have := u2 hh; omega
    obtain ⟨k1, k2, k3, k4⟩ := key
    have e2 : w64 ((x.A - sh) * x.B) = (x.A - sh) * x.B := w64_id (by omega) (by omega)
    rw [e1, e2]
    generalize (x.A - sh) * x.B = p at k1 k2 k3 k4
    obtain ⟨v, v1, v2, v3, v4⟩ := near_eq p k1 k2
    rw [v1, v2]
    simp only [Option.bind_some]
    have hv : 0 ≤ sh + v ∧ sh + v ≤ 100 := by
      rcases Int.le_total sh x.A with hh | hh
      · have a := k3 hh
        have b := v3 a.1
        omega
      · have a := k4 hh
        have b := v4 a.1
        omega
    exact ⟨_, rfl, rfl, by rw [w64_id (by omega) (by omega)]; exact hv.1, by rw [w64_id (by omega) (by omega)]; exact hv.2⟩
  · rw [if_neg (by omega), if_neg (by omega), if_neg (by omega), if_neg (by omega)]
    unfold dv
    rw [if_neg (by decide)]
    have q1 : x.A.tdiv 10 = x.A / 10 := Int.tdiv_eq_ediv_of_nonneg a1
    have e1 : IntKind.wrap .i64 (x.A.tdiv 10) = x.A / 10 := by rw [q1]; exact w64_id (by omega) (by omega)
    have e2 : w64 (sh - x.A / 10) = sh - x.A / 10 := w64_id (by omega) (by omega)
    simp only [e1, Option.bind_some, e2]
    unfold spec_l00Max max2
    by_cases c : 0 > sh - x.A / 10
    · rw [if_pos c]
      refine ⟨_, rfl, ?_, by omega, by omega⟩
      congr 1
      split <;> omega
    · rw [if_neg c]
      refine ⟨_, rfl, ?_, by omega, by omega⟩
      congr 1
      split <;> omega

abbrev FS := (S_l21Search × Int) → Option (Bool × S_l21Search)
abbrev FI := (S_stepSearch × List S_Step × Int × Int) → Option (List S_Step × Int × S_stepSearch)

theorem fs_spec (x : S_l21Search) (sh : Int) : Fs (fun self : FS => spec_l21Search_visit_F self x sh) := by
  unfold spec_l21Search_visit_F
  refine Fs.ite (Fs.const _) (Fs.ite (Fs.const _) (Fs.bind (Fs.loop (fun s => ?_) _) fun o => Fs.const _))
  obtain ⟨a1, a2, a3, a4, a5, a6, a7, a8, a9⟩ := s
  unfold spec_l21Search_visit_l7
  exact Fs.ite (Fs.bind (Fs.const _) fun _ => Fs.bind (Fs.const _) fun _ => Fs.bind (Fs.const _) fun _ => Fs.bind (Fs.const _) fun _ => Fs.bind (Fs.app _) fun _ => Fs.const _) (Fs.const _)

theorem fs_impl (x : S_stepSearch) (F : List S_Step) (a b : Int) : Fs (fun self : FI => impl_stepSearch_run_F self x F a b) := by
  unfold impl_stepSearch_run_F
  refine Fs.ite (Fs.const _) (Fs.ite (Fs.const _) (Fs.bind (Fs.loop (fun s => ?_) _) fun o => Fs.const _))
  obtain ⟨a1, a2, a3, a4, a5, a6⟩ := s
  unfold impl_stepSearch_run_l9
  exact Fs.ite (Fs.bind (Fs.const _) fun _ => Fs.bind (Fs.const _) fun _ => Fs.bind (Fs.const _) fun _ => Fs.bind (Fs.const _) fun _ => Fs.bind (Fs.app _) fun _ => Fs.const _) (Fs.const _)

noncomputable abbrev SS : FS := fun s => spec_l21Search_visit s.1 s.2
noncomputable abbrev SI : FI := fun s => impl_stepSearch_run s.1 s.2.1 s.2.2.1 s.2.2.2

theorem fs_specE (x : S_l21Search) (sh : Int) : spec_l21Search_visit x sh = spec_l21Search_visit_F SS x sh := by
  show fixO _ _ = _
  rw [fixO_eq]
  · rfl
  · rintro ⟨x, sh⟩
    exact fs_spec x sh

theorem fs_implE (x : S_stepSearch) (F : List S_Step) (a b : Int) : impl_stepSearch_run x F a b = impl_stepSearch_run_F SI x F a b := by
  show fixO _ _ = _
  rw [fixO_eq]
  · rfl
  · rintro ⟨x, F, a, b⟩
    exact fs_impl x F a b

section
variable {m : List S_Step} {sp : ByteArray} {h T tol b d : Int}

/-- What comes of a search on both sides. -/
def Ot (sp : ByteArray) (h T tol : Int) (m : List S_Step) (d b : Int) (F : List S_Step) (res : Bool) (s' : S_l21Search) (out : List S_Step) (code : Int) (t' : S_stepSearch) : Prop :=
  (res = true ∧ s'.nodes ≤ b ∧ code = 0 ∧ s'.steps = out ∧ out.length ≤ 8) ∨
  (res = false ∧ code = 3 ∧ ∃ nodes, s' = ⟨h, T, tol, m, F, d, nodes, b⟩ ∧ t' = ⟨sp, T, tol, m, b - nodes⟩ ∧ 0 ≤ nodes ∧ nodes ≤ b) ∨
  (res = true ∧ s'.nodes > b ∧ code = 5 ∧ out = [])

theorem fs_loop {t d0 : Int} (hd : impl_SpeciesData sp = some (t, h, d0, 0)) (h1 : 33 ≤ h) (h2 : h ≤ 85) (hm : ∀ x ∈ m, Sn x) (hl : m.length ≤ 8) (hb1 : 1 ≤ b) (hb2 : b ≤ 20000)
    {F : List S_Step} (hF : F.length ≤ 8) {sh : Int} (s1 : 0 ≤ sh) (s2 : sh ≤ 100) {x0 : S_stepSearch} (hx0 : x0.menu = m)
    (IH : ∀ (x : S_Step) (v nodes : Int), 0 ≤ v → v ≤ 100 → 0 ≤ nodes → nodes ≤ b →
      ∃ res s' out code t', spec_l21Search_visit ⟨h, T, tol, m, F ++ [x], d, nodes, b⟩ v = some (res, s') ∧ impl_stepSearch_run ⟨sp, T, tol, m, b - nodes⟩ (F ++ [x]) v d = some (out, code, t') ∧ Ot sp h T tol m d b (F ++ [x]) res s' out code t') :
    ∀ (n i : Nat) (nodes : Int), i + n = m.length → 0 ≤ nodes → nodes ≤ b →
      ∃ (r : ((Int × Int × Int × (List S_Step) × (List S_Step) × Int × Int × Int) ⊕ (Bool × S_l21Search))) (q : ((ByteArray × Int × Int × (List S_Step) × Int) ⊕ ((List S_Step) × Int × S_stepSearch))),
        loopO (spec_l21Search_visit_l7 SS sh) ((i : Int), h, T, tol, m, F, d, nodes, b) = some r ∧ loopO (impl_stepSearch_run_l9 SI d x0 sh F) ((i : Int), sp, T, tol, m, b - nodes) = some q ∧
        ((∃ s' out t', r = .inr (true, s') ∧ q = .inr (out, 0, t') ∧ s'.nodes ≤ b ∧ s'.steps = out ∧ out.length ≤ 8) ∨
         (∃ nodes', r = .inl (h, T, tol, m, F, d, nodes', b) ∧ q = .inl (sp, T, tol, m, b - nodes') ∧ 0 ≤ nodes' ∧ nodes' ≤ b) ∨
         (∃ s' t', r = .inr (true, s') ∧ q = .inr ([], 5, t') ∧ s'.nodes > b)) := by
  intro n
  induction n with
  | zero =>
    intro i nodes hi hn0 hn1
    refine ⟨_, _, loopO_done (r := .inl (h, T, tol, m, F, d, nodes, b)) ?_, loopO_done (r := .inl (sp, T, tol, m, b - nodes)) ?_, .inr (.inl ⟨nodes, rfl, rfl, hn0, hn1⟩)⟩
    · unfold spec_l21Search_visit_l7
      simp only
      rw [if_neg (by omega)]
    · unfold impl_stepSearch_run_l9
      simp only
      rw [if_neg (by rw [hx0]; omega)]
  | succ n ih =>
    intro i nodes hi hn0 hn1
    have hi' : i < m.length := by omega
    obtain ⟨v, v1, v2, v3, v4⟩ := shade_eq hd h1 h2 s1 s2 m[i] (hm _ (List.getElem_mem hi'))
    obtain ⟨res, s', out, code, t', r1, r2, r3⟩ := IH m[i] v nodes v3 v4 hn0 hn1
    have r1' : SS (⟨h, T, tol, m, F ++ [m[i]], d, nodes, b⟩, v) = some (res, s') := r1
    have r2' : SI (⟨sp, T, tol, m, b - nodes⟩, F ++ [m[i]], v, d) = some (out, code, t') := r2
    have a1 : apd 24 F [m[i]] = some (F ++ [m[i]]) := apdn (by simp; omega)
    have a2 : apd 24 ([] : List S_Step) F = some F := by rw [apdn (by simp; omega)]; rfl
    have S1 : spec_l21Search_visit_l7 SS sh ((i : Int), h, T, tol, m, F, d, nodes, b) = if res = true then some (.inr (.inr (true, s'))) else ((slc s'.steps 0 (w64 ((s'.steps.length : Int) - 1))).bind fun _ =>
        some (.inl ((w64 ((i : Int) + 1)), s'.hardness, s'.target, s'.tolerance, s'.menu, ((s'.steps.take ((w64 ((s'.steps.length : Int) - 1)).toNat)).drop 0), s'.depth, s'.nodes, s'.budget))) := by
      unfold spec_l21Search_visit_l7
      simp only
      rw [if_pos (by omega)]
      simp only [rd_lt hi', Option.bind_some, a1, v1, r1']
    have I1 : impl_stepSearch_run_l9 SI d x0 sh F ((i : Int), sp, T, tol, m, b - nodes) = if code ≠ 3 then some (.inr (.inr (out, code, t'))) else some (.inl ((w64 ((i : Int) + 1)), t'.species, t'.target, t'.tolerance, t'.menu, t'.left)) := by
      unfold impl_stepSearch_run_l9
      simp only
      rw [if_pos (by rw [hx0]; omega)]
      simp only [hx0, rd_lt hi', Option.bind_some, a2, a1, v2, r2']
    rcases r3 with ⟨rfl, r4, rfl, r5, r6⟩ | ⟨rfl, rfl, nodes', rfl, rfl, r6, r7⟩ | ⟨rfl, r4, rfl, rfl⟩
    · rw [if_pos rfl] at S1
      rw [if_pos (by decide)] at I1
      exact ⟨_, _, loopO_done S1, loopO_done I1, .inl ⟨s', out, t', rfl, rfl, r4, r5, r6⟩⟩
    · have q0 : w64 (((F ++ [m[i]]).length : Int) - 1) = (F.length : Int) := by
        rw [List.length_append, List.length_singleton, w64_id (by omega) (by omega)]; omega
      have q1 : slc (F ++ [m[i]]) 0 (F.length : Int) = some (((F ++ [m[i]]).take ((F.length : Int).toNat)).drop 0) := by
        unfold slc
        rw [if_pos ⟨by omega, by omega, by rw [List.length_append, List.length_singleton]; omega⟩]
        rfl
      have q2 : ((F ++ [m[i]]).take ((F.length : Int).toNat)).drop 0 = F := by
        rw [List.drop_zero, Int.toNat_natCast, List.take_left']
        rfl
      rw [if_neg (by decide)] at S1
      simp only [q0, q1, q2, Option.bind_some, w64_succ (show i < 9223372036854775807 by omega)] at S1
      rw [if_neg (by decide), w64_succ (show i < 9223372036854775807 by omega)] at I1
      rw [loopO_next S1, loopO_next I1]
      exact ih (i + 1) nodes' (by omega) r6 r7
    · rw [if_pos rfl] at S1
      rw [if_pos (by decide)] at I1
      exact ⟨_, _, loopO_done S1, loopO_done I1, .inr (.inr ⟨s', t', rfl, rfl, r4⟩)⟩

theorem fs_run {t d0 : Int} (hd : impl_SpeciesData sp = some (t, h, d0, 0)) (h1 : 33 ≤ h) (h2 : h ≤ 85) (hm : ∀ x ∈ m, Sn x) (hl : m.length ≤ 8) (hb1 : 1 ≤ b) (hb2 : b ≤ 20000) (hT : 0 ≤ T ∧ T ≤ 100) (htol : 0 ≤ tol ∧ tol ≤ 100) (hd8 : d ≤ 8) :
    ∀ (n : Nat) (F : List S_Step) (sh nodes : Int), (F.length : Int) + n = d → 0 ≤ sh → sh ≤ 100 → 0 ≤ nodes → nodes ≤ b →
      ∃ res s' out code t', spec_l21Search_visit ⟨h, T, tol, m, F, d, nodes, b⟩ sh = some (res, s') ∧ impl_stepSearch_run ⟨sp, T, tol, m, b - nodes⟩ F sh d = some (out, code, t') ∧ Ot sp h T tol m d b F res s' out code t' := by
  intro n
  induction n with
  | zero =>
    intro F sh nodes hF s1 s2 hn0 hn1
    rw [fs_specE, fs_implE]
    unfold spec_l21Search_visit_F impl_stepSearch_run_F
    have e1 : w64 (nodes + 1) = nodes + 1 := w64_id (by omega) (by omega)
    have e2 : w64 (b - nodes - 1) = b - (nodes + 1) := by rw [w64_id (by omega) (by omega)]; omega
    simp only [e1, e2]
    by_cases c : nodes = b
    · rw [if_pos (by omega), if_pos (by omega)]
      exact ⟨_, _, _, _, _, rfl, rfl, .inr (.inr ⟨rfl, by show nodes + 1 > b; omega, rfl, rfl⟩)⟩
    · rw [if_neg (by omega), if_pos (by omega), if_neg (by omega), if_pos (by omega), in_eq]
      unfold impl_absolute
      have e3 : w64 (T - tol) = T - tol := w64_id (by omega) (by omega)
      have e4 : w64 (T + tol) = T + tol := w64_id (by omega) (by omega)
      have e5 : w64 (sh - T) = sh - T := w64_id (by omega) (by omega)
      have e6 : w64 (0 - (sh - T)) = 0 - (sh - T) := w64_id (by omega) (by omega)
      simp only [e3, e4, e5, e6, Option.bind_some]
      have e7 : max2 (sh - T) (0 - (sh - T)) ≤ tol ↔ (T - tol ≤ sh ∧ sh ≤ T + tol) := by
        unfold max2
        split <;> omega
      by_cases c2 : T - tol ≤ sh ∧ sh ≤ T + tol
      · rw [if_pos (e7.2 c2)]
        exact ⟨_, _, _, _, _, rfl, rfl, .inl ⟨decide_eq_true c2, by show nodes + 1 ≤ b; omega, rfl, rfl, by omega⟩⟩
      · rw [if_neg (fun hh => c2 (e7.1 hh))]
        exact ⟨_, _, _, _, _, rfl, rfl, .inr (.inl ⟨decide_eq_false c2, rfl, nodes + 1, rfl, rfl, by omega, by omega⟩)⟩
  | succ n ih =>
    intro F sh nodes hF s1 s2 hn0 hn1
    rw [fs_specE, fs_implE]
    unfold spec_l21Search_visit_F impl_stepSearch_run_F
    have e1 : w64 (nodes + 1) = nodes + 1 := w64_id (by omega) (by omega)
    have e2 : w64 (b - nodes - 1) = b - (nodes + 1) := by rw [w64_id (by omega) (by omega)]; omega
    simp only [e1, e2]
    by_cases c : nodes = b
    · rw [if_pos (by omega), if_pos (by omega)]
      exact ⟨_, _, _, _, _, rfl, rfl, .inr (.inr ⟨rfl, by show nodes + 1 > b; omega, rfl, rfl⟩)⟩
    · rw [if_neg (by omega), if_neg (by omega), if_neg (by omega), if_neg (by omega)]
      have hF8 : F.length ≤ 8 := by omega
      obtain ⟨r, q, l1, l2, l3⟩ := fs_loop (T := T) (tol := tol) (d := d) (F := F) (x0 := ⟨sp, T, tol, m, b - nodes⟩) hd h1 h2 hm hl hb1 hb2 hF8 s1 s2 rfl (fun x v nd hv0 hv1 hd0 hd1 =>
        ih (F ++ [x]) v nd (by simp; omega) hv0 hv1 hd0 hd1) m.length 0 (nodes + 1) (by omega) (by omega) (by omega)
      have l1' : loopO (spec_l21Search_visit_l7 SS sh) (0, h, T, tol, m, F, d, nodes + 1, b) = some r := l1
      have l2' : loopO (impl_stepSearch_run_l9 SI d ⟨sp, T, tol, m, b - nodes⟩ sh F) (0, sp, T, tol, m, b - (nodes + 1)) = some q := l2
      rw [l1', l2']
      simp only [Option.bind_some]
      rcases l3 with ⟨s', out, t', rfl, rfl, r4, r5, r6⟩ | ⟨nodes', rfl, rfl, r4, r5⟩ | ⟨s', t', rfl, rfl, r4⟩
      · exact ⟨_, _, _, _, _, rfl, rfl, .inl ⟨rfl, r4, rfl, r5, r6⟩⟩
      · exact ⟨_, _, _, _, _, rfl, rfl, .inr (.inl ⟨rfl, rfl, nodes', rfl, rfl, r4, r5⟩)⟩
      · exact ⟨_, _, _, _, _, rfl, rfl, .inr (.inr ⟨rfl, r4, rfl, rfl⟩)⟩

/-- The depths one after the other. -/
theorem fs_deep {t d0 : Int} (hd : impl_SpeciesData sp = some (t, h, d0, 0)) (h1 : 33 ≤ h) (h2 : h ≤ 85) (hm : ∀ x ∈ m, Sn x) (hl : m.length ≤ 8) (hb1 : 1 ≤ b) (hb2 : b ≤ 20000) (hT : 0 ≤ T ∧ T ≤ 100) (htol : 0 ≤ tol ∧ tol ≤ 100) {sh : Int} (s1 : 0 ≤ sh) (s2 : sh ≤ 100) :
    ∀ (n k : Nat) (F : List S_Step) (nodes : Int), k + n = 9 → 0 ≤ nodes → nodes ≤ b →
      ∃ r : Unit ⊕ (List S_Step × Int), loopO (spec_FewestSteps_l9 b sh) (h, T, tol, m, F, (k : Int), nodes, b) = some r ∧ loopO (impl_FewestSteps_l9 sh) ((k : Int), sp, T, tol, m, b - nodes) = some r ∧ ∀ o c, r = .inr (o, c) → o.length ≤ 8 := by
  intro n
  induction n with
  | zero =>
    intro k F nodes hk hn0 hn1
    refine ⟨.inl (), loopO_done ?_, loopO_done ?_, fun o c hh => by cases hh⟩
    · unfold spec_FewestSteps_l9
      simp only
      rw [if_neg (by omega)]
    · unfold impl_FewestSteps_l9
      simp only
      rw [if_neg (by omega)]
  | succ n ih =>
    intro k F nodes hk hn0 hn1
    obtain ⟨res, s', out, code, t', r1, r2, r3⟩ := fs_run (d := (k : Int)) hd h1 h2 hm hl hb1 hb2 hT htol (by omega) k [] sh nodes (by simp) s1 s2 hn0 hn1
    have S1 : spec_FewestSteps_l9 b sh (h, T, tol, m, F, (k : Int), nodes, b) = if s'.nodes > b then some (.inr (.inr (([] : List S_Step), 5))) else (if res = true then ((apd 24 ([] : List S_Step) s'.steps).bind fun x82 => some (.inr (.inr (x82, 0)))) else
        some (.inl (s'.hardness, s'.target, s'.tolerance, s'.menu, s'.steps, (w64 (s'.depth + 1)), s'.nodes, s'.budget))) := by
      unfold spec_FewestSteps_l9
      simp only
      rw [if_pos (by omega), r1, Option.bind_some]
    have I1 : impl_FewestSteps_l9 sh ((k : Int), sp, T, tol, m, b - nodes) = if code ≠ 3 then some (.inr (.inr (out, code))) else some (.inl ((w64 ((k : Int) + 1)), t'.species, t'.target, t'.tolerance, t'.menu, t'.left)) := by
      unfold impl_FewestSteps_l9
      simp only
      rw [if_pos (by omega), r2, Option.bind_some]
    rcases r3 with ⟨rfl, r4, rfl, r5, r6⟩ | ⟨rfl, rfl, nodes', rfl, rfl, r6, r7⟩ | ⟨rfl, r4, rfl, rfl⟩
    · have a1 : apd 24 ([] : List S_Step) out = some out := by rw [apdn (by simp; omega)]; rfl
      rw [if_neg (by omega), if_pos rfl, r5, a1, Option.bind_some] at S1
      rw [if_pos (by decide)] at I1
      exact ⟨_, loopO_done S1, loopO_done I1, fun o c hh => by cases hh; exact r6⟩
    · simp only [w64_succ (show k < 9223372036854775807 by omega)] at S1 I1
      rw [if_neg (by omega), if_neg (by decide)] at S1
      rw [if_neg (by decide)] at I1
      rw [loopO_next S1, loopO_next I1]
      exact ih (k + 1) [] nodes' (by omega) r6 r7
    · rw [if_pos r4] at S1
      rw [if_pos (by decide)] at I1
      exact ⟨_, loopO_done S1, loopO_done I1, fun o c hh => by cases hh; simp⟩
end

theorem fs_same (sp : ByteArray) (sh T tol : Int) (m : List S_Step) (b : Int) (hl : m.length ≤ 1048576) : ∃ (out : List S_Step) (c : Int), out.length ≤ 8 ∧ spec_FewestSteps sp sh T tol m b = some (out, c) ∧ impl_FewestSteps sp sh T tol m b = some (out, c) := by
  unfold spec_FewestSteps impl_FewestSteps impl_isSpecies impl_speciesShade
  rw [ok_spec m hl, ok_impl m hl]
  simp only [in_eq, within_eq, Option.bind_some, decide_eq_true_eq]
  by_cases cA : (m.all Vc && decide (m.length ≤ 8)) = true
  · rw [if_pos cA, if_pos cA]
    by_cases cG : (if 1 ≤ b ∧ b ≤ 20000 then (if 0 ≤ sh ∧ sh ≤ 100 then (if 0 ≤ T ∧ T ≤ 100 then some (!decide (0 ≤ tol ∧ tol ≤ 100)) else some true) else some true) else some true) = some false
    · have g : (1 ≤ b ∧ b ≤ 20000) ∧ (0 ≤ sh ∧ sh ≤ 100) ∧ (0 ≤ T ∧ T ≤ 100) ∧ (0 ≤ tol ∧ tol ≤ 100) := by
        by_cases g1 : 1 ≤ b ∧ b ≤ 20000
        · by_cases g2 : 0 ≤ sh ∧ sh ≤ 100
          · by_cases g3 : 0 ≤ T ∧ T ≤ 100
            · by_cases g4 : 0 ≤ tol ∧ tol ≤ 100
              · exact ⟨g1, g2, g3, g4⟩
              · rw [if_pos g1, if_pos g2, if_pos g3, decide_eq_false g4] at cG; cases cG
            · rw [if_pos g1, if_pos g2, if_neg g3] at cG; cases cG
          · rw [if_pos g1, if_neg g2] at cG; cases cG
        · rw [if_neg g1] at cG; cases cG
      obtain ⟨g1, g2, g3, g4⟩ := g
      rw [cG]
      simp only [Option.bind_some]
      rw [if_neg (by decide), if_neg (by decide)]
      simp only [Bool.and_eq_true, decide_eq_true_eq] at cA
      obtain ⟨cA1, cA2⟩ := cA
      have hv : ∀ c ∈ m, Sn c := fun c hc => Vc_num c (List.all_eq_true.1 cA1 c hc)
      rcases species sp with ⟨q1, q2⟩ | ⟨i, s, h, d, q1, q2, q3, q4, q5, q6⟩
      · rw [q1, q2]
        exact ⟨[], 3, by simp, rfl, rfl⟩
      · rw [q1, q4]
        simp only [Option.bind_some]
        rw [if_neg (by omega), q3, if_pos (by decide)]
        simp only [Option.bind_some]
        obtain ⟨r, r1, r2, r3⟩ := fs_deep q4 q5 q6 hv cA2 g1.1 g1.2 g3 g4 g2.1 g2.2 9 0 [] 0 (by omega) (by omega) (by omega)
        have r1' : loopO (spec_FewestSteps_l9 b sh) (h, T, tol, m, [], 0, 0, b) = some r := r1
        have r2' : loopO (impl_FewestSteps_l9 sh) (0, sp, T, tol, m, b) = some r := by
          have : b - 0 = b := by omega
          rw [this] at r2
          exact r2
        rw [r1', r2']
        cases r with
        | inl u => exact ⟨[], 3, by simp, rfl, rfl⟩
        | inr r => exact ⟨r.1, r.2, r3 _ _ rfl, rfl, rfl⟩
    · have cT : (if 1 ≤ b ∧ b ≤ 20000 then (if 0 ≤ sh ∧ sh ≤ 100 then (if 0 ≤ T ∧ T ≤ 100 then some (!decide (0 ≤ tol ∧ tol ≤ 100)) else some true) else some true) else some true) = some true := by
        revert cG
        split
        · split
          · split
            · cases decide (0 ≤ tol ∧ tol ≤ 100) <;> simp
            · simp
          · simp
        · simp
      rw [cT]
      exact ⟨[], 2, by simp, rfl, rfl⟩
  · rw [if_neg cA, if_neg cA]
    exact ⟨[], 1, by simp, rfl, rfl⟩

/-- The elements of a list get marks that are told. -/
theorem fs_markE {α : Type} {f : Int × Int × List α → Option ((Int × Int × List α) ⊕ (Int × List α))} {c : Nat} (K : Int) (mk : Int → α)
    (h1 : ∀ (k : Int) (i : Nat) (out : List α), i < out.length → 0 ≤ k → k ≤ K → f (k, (i : Int), out) = some (.inl (k + c, w64 ((i : Int) + 1), out.set i (mk k))))
    (h2 : ∀ k out, f (k, (out.length : Int), out) = some (.inr (k, out))) (l : List α) {k0 : Int} (hk : 0 ≤ k0) (hK : k0 + ((c * l.length : Nat) : Int) ≤ K) (hl : l.length < 4611686018427387904) :
    ∃ out' : List α, loopO f (k0, 0, l) = some (k0 + ((c * l.length : Nat) : Int), out') ∧ out'.length = l.length ∧ ∀ i (h : i < out'.length), out'[i] = mk (k0 + ((c * i : Nat) : Int)) := by
  have key : ∀ (m i : Nat) (out : List α), i + m = l.length → out.length = l.length → (∀ j (h : j < out.length), j < i → out[j] = mk (k0 + ((c * j : Nat) : Int))) →
      ∃ out' : List α, loopO f (k0 + ((c * i : Nat) : Int), (i : Int), out) = some (k0 + ((c * l.length : Nat) : Int), out') ∧ out'.length = l.length ∧ ∀ i (h : i < out'.length), out'[i] = mk (k0 + ((c * i : Nat) : Int)) := by
    intro m
    induction m with
    | zero =>
      intro i out hi ho hj
      have e : i = out.length := by omega
      refine ⟨out, ?_, ho, fun j h => hj j h (by omega)⟩
      rw [show k0 + ((c * i : Nat) : Int) = k0 + ((c * l.length : Nat) : Int) by rw [show i = l.length by omega], e]
      exact loopO_done (h2 _ out)
    | succ m ih =>
      intro i out hi ho hj
      have m1 : c * i ≤ c * l.length := Nat.mul_le_mul_left c (by omega)
      have q := h1 (k0 + ((c * i : Nat) : Int)) i out (by omega) (by omega) (by omega)
      have m2 : c * (i + 1) = c * i + c := Nat.mul_succ c i
      rw [w64_succ (by omega), show k0 + ((c * i : Nat) : Int) + c = k0 + ((c * (i + 1) : Nat) : Int) by omega] at q
      rw [loopO_next q]
      refine ih (i + 1) _ (by omega) (by rw [List.length_set]; exact ho) fun j h hlt => ?_
      by_cases e : i = j
      · subst e
        rw [List.getElem_set_self]
      · rw [List.getElem_set_ne e]
        exact hj j (by rw [List.length_set] at h; exact h) (by omega)
  have := key l.length 0 l (by omega) rfl (fun j h hj => absurd hj (by omega))
  simpa using this

/-- Marks are held. -/
theorem fs_heldE {f : Int × Int → Option ((Int × Int) ⊕ (Int ⊕ Int))} {n c : Nat} {k0 : Int} (hn : n < 4611686018427387904)
    (h1 : ∀ (i : Nat), i < n → f (k0 + ((c * i : Nat) : Int), (i : Int)) = some (.inl (k0 + ((c * (i + 1) : Nat) : Int), w64 ((i : Int) + 1))))
    (h2 : f (k0 + ((c * n : Nat) : Int), (n : Int)) = some (.inr (.inl (k0 + ((c * n : Nat) : Int))))) : loopO f (k0, 0) = some (.inl (k0 + ((c * n : Nat) : Int))) := by
  have := loopO_for (fun i : Nat => (k0 + ((c * i : Nat) : Int), (i : Int))) n (f := f) (fun i hi => by rw [h1 i hi, w64_succ (by omega)]) h2
  simpa using this

theorem fs_szStepS (l : List S_Step) (hl : l.length ≤ 9223372036854775807) {left : Int} (h0 : 0 ≤ left) (h1 : left ≤ 1048576) :
    ∃ v, v ≤ left ∧ laws_szStepS l left = some v ∧ (v < 0 ∨ l.length ≤ 1048576) := by
  unfold laws_szStepS
  have e1 : w64 (left - (l.length : Int)) = left - (l.length : Int) := w64_id (by omega) (by omega)
  rw [e1]
  by_cases c1 : left - (l.length : Int) < 0
  · rw [if_pos c1]; exact ⟨_, by omega, rfl, .inl (by omega)⟩
  rw [if_neg c1]
  exact ⟨_, by omega, rfl, .inr (by omega)⟩

theorem fs_toStepS (l : List S_Step) (h : l.length ≤ 1048576) : laws_toStepS l = some l := by
  unfold laws_toStepS mkl
  rw [if_pos (by constructor <;> omega), Option.bind_some]
  rw [copyS (f := laws_toStepS_l3 l) l _ (by simp) (by omega) ?_ ?_]
  · rfl
  · intro i hi out ho
    unfold laws_toStepS_l3 laws_toStep
    simp only
    rw [if_pos (by omega), rd_lt hi, Option.bind_some, Option.bind_some, rd_lt (by omega : i < out.length), Option.bind_some]
    simp
  · intro out
    unfold laws_toStepS_l3
    simp

theorem fs_eqStepS (l : List S_Step) (h : l.length ≤ 1048576) : laws_eqStepS l l = some true := by
  unfold laws_eqStepS
  rw [if_neg (by simp), eqS_refl (n := l.length) (by omega) ?_ ?_]
  · rfl
  · intro i hi
    unfold laws_eqStepS_l4
    rw [if_pos (by omega), rd_lt hi]
    simp [laws_eqStep]
  · unfold laws_eqStepS_l4
    simp

theorem fs_markStepS (l : List S_Step) (h : l.length ≤ 1048576) {k0 : Int} (h0 : 0 ≤ k0) (h1 : k0 ≤ 1073741824 - 3 * 1048577) : ∃ k' out', laws_markStepS l k0 = some (k', out') ∧ k0 ≤ k' ∧ out'.length = l.length := by
  unfold laws_markStepS
  obtain ⟨k', out', q1, q2, q3⟩ := markL (f := laws_markStepS_l2) (c := 3) (1073741824 - 3) (fun k i out hi hk1 hk2 => by
      have w0 : w64 (k + 1) = k + 1 := by rw [w64_id (by omega) (by omega)]
      have w1 : w64 (k + 1 + 1) = k + 2 := by rw [w64_id (by omega) (by omega)]; omega
      have w2 : w64 (k + 2 + 1) = k + 3 := by rw [w64_id (by omega) (by omega)]; omega
      have hget : ∃ o2, laws_markStepS_l2 (k, (i : Int), out) = some (.inl (k + 3, w64 ((i : Int) + 1), o2)) ∧ o2.length = out.length := by
        unfold laws_markStepS_l2
        simp only
        rw [if_pos (by omega)]
        simp only [rd_nat, Int.toNat_natCast, List.length_set, List.getElem?_set_self, List.getElem?_eq_getElem hi, hi, Option.bind_some, w0, w1, w2]
        exact ⟨_, rfl, by simp⟩
      obtain ⟨o2, g1, g2⟩ := hget
      exact ⟨k + 3, o2, g2, by omega, by omega, g1⟩) (fun k out => by
      unfold laws_markStepS_l2
      simp only
      rw [if_neg (by omega)]) l h0 (by omega) (by omega)
  rw [q1]
  exact ⟨k', out', rfl, q2, q3⟩

theorem fs_markStepE (l : List S_Step) (h : l.length ≤ 1048576) {k0 : Int} (h0 : 0 ≤ k0) (h1 : k0 ≤ 1073741824 - 3 * 1048577) :
    ∃ out' : List S_Step, laws_markStepS l k0 = some (k0 + 3 * (l.length : Int), out') ∧ laws_heldStepS out' k0 = some (k0 + 3 * (l.length : Int)) := by
  obtain ⟨out', q1, q2, q3⟩ := fs_markE (f := laws_markStepS_l2) (c := 3) (1073741824 - 3) (fun k => (⟨k, k + 1, k + 2⟩ : S_Step)) (fun k i out hi hk1 hk2 => by
      have w0 : w64 (k + 1) = k + 1 := by rw [w64_id (by omega) (by omega)]
      have w1 : w64 (k + 1 + 1) = k + 2 := by rw [w64_id (by omega) (by omega)]; omega
      have w2 : w64 (k + 2 + 1) = k + 3 := by rw [w64_id (by omega) (by omega)]; omega
      unfold laws_markStepS_l2
      simp only
      rw [if_pos (by omega)]
      simp only [rd_nat, Int.toNat_natCast, List.length_set, List.getElem?_set_self, List.getElem?_eq_getElem hi, hi, Option.bind_some, w0, w1, w2, List.set_set]
      rfl) (fun k out => by
      unfold laws_markStepS_l2
      simp only
      rw [if_neg (by omega)]) l h0 (by omega) (by omega)
  have e : k0 + ((3 * l.length : Nat) : Int) = k0 + 3 * (l.length : Int) := by omega
  refine ⟨out', ?_, ?_⟩
  · unfold laws_markStepS
    rw [q1, e]
    rfl
  · unfold laws_heldStepS
    rw [fs_heldE (f := laws_heldStepS_l2 out') (n := l.length) (c := 3) (by omega) (fun i hi => by
      generalize hk : k0 + ((3 * i : Nat) : Int) = k
      have hk1 : 0 ≤ k := by omega
      have hk2 : k ≤ 1073741824 := by omega
      have w0 : w64 (k + 1) = k + 1 := by rw [w64_id (by omega) (by omega)]
      have w1 : w64 (k + 1 + 1) = k + 2 := by rw [w64_id (by omega) (by omega)]; omega
      have w2 : w64 (k + 2 + 1) = k + 3 := by rw [w64_id (by omega) (by omega)]; omega
      have w3 : k0 + ((3 * (i + 1) : Nat) : Int) = k + 3 := by omega
      have g := q3 i (by omega)
      rw [hk] at g
      unfold laws_heldStepS_l2
      simp only
      rw [if_pos (by omega)]
      simp only [rd_lt (show i < out'.length by omega), Option.bind_some, g, w0, w1, w2, w3, ne_eq, not_true, if_false]) (by
      unfold laws_heldStepS_l2
      simp only
      rw [if_neg (by omega)])]
    exact congrArg some e


theorem law_FewestSteps (sp : ByteArray) (sh T tol : Int) (l : List S_Step) (b : Int) (hl : l.length ≤ 9223372036854775807) : laws_FnExactFewestSteps sp sh T tol l b = some true := by
  unfold laws_FnExactFewestSteps
  by_cases c0 : (sp.size : Int) > 1048576
  · rw [if_pos c0]
  rw [if_neg c0]
  obtain ⟨v, _, hv, hc⟩ := fs_szStepS l hl (left := 1048576) (by omega) (by omega)
  rw [hv, Option.bind_some]
  by_cases cv : v < 0
  · rw [if_pos cv]
  · rw [if_neg cv]
    have hn : l.length ≤ 1048576 := by omega
    obtain ⟨r, c, r6, hs, hi⟩ := fs_same sp sh T tol l b hn
    obtain ⟨mo, hm, _⟩ := fs_markStepE l hn (k0 := 1) (by omega) (by omega)
    obtain ⟨m2, hm2, hh2⟩ := fs_markStepE r (by omega) (k0 := 1) (by omega) (by omega)
    have e1 := fs_eqStepS r (by omega)
    have hm' : ¬ (1 + 3 * (l.length : Int)) < 0 := by omega
    have h3 : ¬ (1 + 3 * (r.length : Int) < 0) := by omega
    simp only [fs_toStepS l hn, hs, hi, e1, fs_eqStepS l hn, hm, hm2, hh2, Option.bind_some, if_true, hm', h3, if_false]
    simp

end Go.Pw
