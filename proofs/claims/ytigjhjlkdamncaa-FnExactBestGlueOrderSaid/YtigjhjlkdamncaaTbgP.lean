/- The plain law of FnExactBestGlueOrder. Conditions: none. -/
import Derived.Test.YtigjhjlkdamncaaTbgT
import Derived.Test.YtigjhjlkdamncaaSimPy
namespace Go.Pw
open Go.Sim (min2 max2)
set_option linter.unusedVariables false
set_option linter.unusedSimpArgs false

theorem within_eq (n a b : Int) : impl_within n a b = some (decide (a ≤ n ∧ n ≤ b)) := by
  unfold impl_within
  rw [Bool.decide_and]
theorem in_eq (n a b : Int) : spec_l00In n a b = some (decide (a ≤ n ∧ n ≤ b)) := by
  unfold spec_l00In
  rw [Bool.decide_and]

/-- Names: both sides say the same. -/
theorem name_step (s : ByteArray) (i : Int) : impl_IsName_l4 s i = spec_l01Name_l4 s i := by
  unfold impl_IsName_l4 spec_l01Name_l4
  by_cases c : i < (s.size : Int)
  · rw [if_pos c, if_pos c]
    cases bt s i with
    | none => rfl
    | some x =>
      have d1 : decide (x ≥ 97) = !decide (x < 97) := by rw [← decide_not]; exact decide_eq_decide.2 (by omega)
      have d2 : decide (x ≤ 122) = !decide (x > 122) := by rw [← decide_not]; exact decide_eq_decide.2 (by omega)
      have d3 : decide (x ≥ 48) = !decide (x < 48) := by rw [← decide_not]; exact decide_eq_decide.2 (by omega)
      have d4 : decide (x ≤ 57) = !decide (x > 57) := by rw [← decide_not]; exact decide_eq_decide.2 (by omega)
      simp only [Option.bind_some, spec_l01Small, spec_l01Digit, d1, d2, d3, d4]
      by_cases c1 : x < 97 <;> by_cases c2 : x > 122 <;> by_cases c3 : x < 48 <;> by_cases c4 : x > 57 <;> simp [c1, c2, c3, c4]
  · rw [if_neg c, if_neg c]

theorem name_eq (s : ByteArray) : ∃ v, spec_l01Name s = some v ∧ impl_IsName s = some v := by
  unfold spec_l01Name impl_IsName
  by_cases c0 : s.size = 0
  · have hs := size_zero c0
    refine ⟨false, ?_, ?_⟩
    · rw [if_pos hs]; rfl
    · rw [if_pos (by omega)]; rfl
  · have hs : ¬ s = ⟨#[]⟩ := fun h => c0 (by rw [h]; rfl)
    rw [if_neg hs, if_neg (show ¬ ((s.size : Int) < 1) by omega)]
    by_cases c1 : (s.size : Int) > 10
    · rw [if_pos c1, if_pos c1]
      exact ⟨false, rfl, rfl⟩
    · rw [if_neg c1, if_neg c1]
      obtain ⟨b, hb, hb1, hb2⟩ := bt_some (s := s) (i := 0) (by omega)
      have hb' : bt s 0 = some b := hb
      rw [hb']
      have hloop : ∃ o, loopO (spec_l01Name_l4 s) 0 = some o := by
        refine scanEnds s.size (by omega) (fun i hi => ?_) ⟨.inl (), ?_⟩
        · obtain ⟨x, hx, _⟩ := bt_some (s := s) hi
          unfold spec_l01Name_l4
          rw [if_pos (by omega), hx]
          simp only [Option.bind_some, spec_l01Small, spec_l01Digit]
          split
          · simp
          · simp only [Option.bind_some]
            split
            · exact .inr ⟨_, rfl⟩
            · exact .inl rfl
        · unfold spec_l01Name_l4
          rw [if_neg (by omega)]
      obtain ⟨o, ho⟩ := hloop
      have ho2 : loopO (impl_IsName_l4 s) 0 = some o := by rw [loopO_congr (name_step s)]; exact ho
      rw [ho, ho2]
      have e : (if b < 97 then some true else some (decide (b > 122))) = some (!(decide (b ≥ 97) && decide (b ≤ 122))) := by
        have d1 : decide (b ≥ 97) = !decide (b < 97) := by rw [← decide_not]; exact decide_eq_decide.2 (by omega)
        have d2 : decide (b ≤ 122) = !decide (b > 122) := by rw [← decide_not]; exact decide_eq_decide.2 (by omega)
        rw [d1, d2]
        by_cases c2 : b < 97 <;> by_cases c3 : b > 122 <;> simp [c2, c3]
      simp only [Option.bind_some, spec_l01Small]
      rw [e]
      simp only [Option.bind_some]
      split
      · exact ⟨false, rfl, rfl⟩
      · cases o with
        | inl u => exact ⟨true, rfl, rfl⟩
        | inr r => exact ⟨r, rfl, rfl⟩


theorem nm (s : ByteArray) : impl_IsName s = spec_l01Name s := by
  obtain ⟨v, h1, h2⟩ := name_eq s
  rw [h1, h2]

/-- Whether a number is in a list: both sides. -/
theorem has_spec (l : List Int) (n : Int) (hl : l.length ≤ 1048576) : spec_l00Has l n = some (decide (n ∈ l)) := by
  unfold spec_l00Has
  rcases scanAll (f := spec_l00Has_l2 l n) l (fun x => !decide (x = n)) (fun _ => true) (by omega) (fun i hi => by
    unfold spec_l00Has_l2
    rw [if_pos (by omega), rd_lt hi, Option.bind_some]
    by_cases c : l[i] = n <;> simp [c]) (by unfold spec_l00Has_l2; rw [if_neg (by omega)]) with ⟨h1, h2⟩ | ⟨h1, i, hi, h2⟩
  · rw [h2]
    have : ¬ n ∈ l := fun h => by
      have := List.all_eq_true.1 h1 n h
      simp at this
    simp [this]
  · rw [h2]
    have : n ∈ l := by
      rw [List.all_eq_false] at h1
      obtain ⟨x, hx, h⟩ := h1
      simp at h
      exact h ▸ hx
    simp [this]

theorem has_impl (l : List Int) (n : Int) (hl : l.length ≤ 1048576) : slices_Contains_int64_int64 l n = some (decide (n ∈ l)) := by
  unfold slices_Contains_int64_int64 slices_Index_int64_int64
  rcases scanAll (f := slices_Index_int64_int64_l2 l n) l (fun x => !decide (n = x)) (fun i => (i : Int)) (by omega) (fun i hi => by
    unfold slices_Index_int64_int64_l2
    rw [if_pos (by omega), rd_lt hi, Option.bind_some]
    by_cases c : n = l[i] <;> simp [c]) (by unfold slices_Index_int64_int64_l2; rw [if_neg (by omega)]) with ⟨h1, h2⟩ | ⟨h1, i, hi, h2⟩
  · rw [h2]
    have : ¬ n ∈ l := fun h => by
      have := List.all_eq_true.1 h1 n h
      simp at this
    simp [this]
  · rw [h2]
    have : n ∈ l := by
      rw [List.all_eq_false] at h1
      obtain ⟨x, hx, h⟩ := h1
      simp at h
      exact h ▸ hx
    simp [this]

theorem apd1 {l : List Int} {x : Int} (h : l.length ≤ 1000000) : apd 8 l [x] = some (l ++ [x]) := by
  unfold apd
  rw [if_pos (by simp; omega)]
theorem apd0 {l : List Int} (h : l.length ≤ 1000000) : apd 8 ([] : List Int) l = some l := by
  unfold apd
  rw [if_pos (by simp; omega)]
  rfl


/-- What a valid bond is, in numbers. -/
def Bn (c : S_Bond) : Prop := (1 ≤ c.Spread ∧ c.Spread ≤ 120) ∧ (c.Spread ≤ c.Open ∧ c.Open ≤ 240) ∧ (1 ≤ c.Press ∧ c.Press ≤ 1440)

theorem one_eq (c : S_Bond) : impl_ValidBond c = spec_l24One c := by
  unfold impl_ValidBond spec_l24One
  rw [nm]
  rfl

theorem one_some (c : S_Bond) : ∃ v : Bool, spec_l24One c = some v ∧ (v = true → Bn c) := by
  obtain ⟨n, n1, _⟩ := name_eq c.Name
  unfold spec_l24One Bn
  simp only [n1, in_eq, Option.bind_some]
  cases n with
  | false => exact ⟨false, rfl, fun h => by cases h⟩
  | true =>
    simp only [if_true, decide_eq_true_eq]
    by_cases c1 : 1 ≤ c.Spread ∧ c.Spread ≤ 120
    · simp only [if_pos c1, Option.bind_some]
      by_cases c2 : c.Spread ≤ c.Open ∧ c.Open ≤ 240
      · simp only [if_pos c2, Option.bind_some]
        exact ⟨_, rfl, fun h => ⟨c1, c2, of_decide_eq_true h⟩⟩
      · simp only [if_neg c2, Option.bind_some]
        exact ⟨_, rfl, fun h => by cases h⟩
    · simp only [if_neg c1, Option.bind_some]
      exact ⟨_, rfl, fun h => by cases h⟩

theorem list_eq (l : List S_Bond) : impl_ValidBonds l = spec_l24Ok l := by
  unfold impl_ValidBonds spec_l24Ok
  have : ∀ i, impl_ValidBonds_l2 l i = spec_l24Ok_l2 l i := by
    intro i
    unfold impl_ValidBonds_l2 spec_l24Ok_l2
    split
    · cases h : rd l i with
      | none => rfl
      | some x =>
        simp only [Option.bind_some, one_eq]
    · rfl
  rw [loopO_congr this]

theorem list_some (l : List S_Bond) (hl : l.length ≤ 1048576) : ∃ v : Bool, spec_l24Ok l = some v ∧ (v = true → l.length ≤ 12 ∧ ∀ c ∈ l, Bn c) := by
  unfold spec_l24Ok
  have key : ∀ (m i : Nat), i + m = l.length → ∃ o, loopO (spec_l24Ok_l2 l) (i : Int) = some o ∧ ((∃ u, o = .inl u) → ∀ c ∈ l.drop i, Bn c) ∧ (∀ r, o = .inr r → r = false) := by
    intro m
    induction m with
    | zero =>
      intro i hi
      refine ⟨.inl (), loopO_done ?_, fun _ c hc => ?_, fun r h => by cases h⟩
      · unfold spec_l24Ok_l2
        rw [if_neg (by omega)]
      · rw [show i = l.length by omega, List.drop_length] at hc
        cases hc
    | succ m ih =>
      intro i hi
      have hi' : i < l.length := by omega
      obtain ⟨v, v1, v2⟩ := one_some l[i]
      obtain ⟨o, o1, o2, o3⟩ := ih (i + 1) (by omega)
      have hstep : spec_l24Ok_l2 l (i : Int) = some (.inl ((i + 1 : Nat) : Int)) ∧ v = true ∨ spec_l24Ok_l2 l (i : Int) = some (.inr (.inr false)) := by
        unfold spec_l24Ok_l2
        rw [if_pos (by omega), rd_lt hi']
        simp only [Option.bind_some, v1]
        cases v with
        | false => exact .inr rfl
        | true =>
          simp only [if_true]
          by_cases c0 : (i : Int) > 0
          · rw [if_pos c0]
            have e : w64 ((i : Int) - 1) = ((i - 1 : Nat) : Int) := by rw [w64_id (by omega) (by omega)]; omega
            rw [e, rd_lt (show i - 1 < l.length by omega)]
            simp only [Option.bind_some, w64_succ (show i < 9223372036854775807 by omega)]
            cases Op.bytesLess (l[i - 1]'(by omega)).Name.toList l[i].Name.toList with
            | true => exact .inl ⟨rfl, trivial⟩
            | false => exact .inr rfl
          · rw [if_neg c0]
            simp only [Option.bind_some, w64_succ (show i < 9223372036854775807 by omega)]
            exact .inl ⟨rfl, trivial⟩
      rcases hstep with ⟨h, hv⟩ | h
      · refine ⟨o, by rw [loopO_next h]; exact o1, fun hu c hc => ?_, o3⟩
        rw [List.drop_eq_getElem_cons hi'] at hc
        rcases List.mem_cons.1 hc with rfl | hc
        · exact v2 hv
        · exact o2 hu c hc
      · exact ⟨_, loopO_done h, fun ⟨u, hu⟩ => (by cases hu), fun r hr => by cases hr; rfl⟩
  obtain ⟨o, o1, o2, o3⟩ := key l.length 0 (by omega)
  have o1' : loopO (spec_l24Ok_l2 l) 0 = some o := o1
  rw [o1']
  cases o with
  | inl u =>
    refine ⟨_, rfl, fun h => ⟨?_, fun c hc => o2 ⟨u, rfl⟩ c hc⟩⟩
    have := of_decide_eq_true h
    omega
  | inr r =>
    obtain rfl := o3 r rfl
    exact ⟨false, rfl, fun h => by cases h⟩

/-- The press that is free first. -/
def bi (L : List Int) : Nat → Nat
  | 0 => 0
  | k + 1 => if L.getD k 0 < L.getD (bi L k) 0 then k else bi L k

theorem bi_lt (L : List Int) : ∀ k, 1 ≤ k → bi L k < k
  | 0, h => by omega
  | 1, _ => by unfold bi bi; split <;> omega
  | k + 2, _ => by
    have := bi_lt L (k + 1) (by omega)
    unfold bi
    split <;> omega

theorem bi_take (L : List Int) (p : Nat) : ∀ k, k ≤ p → bi (L.take p) k = bi L k
  | 0, _ => rfl
  | k + 1, h => by
    have ih := bi_take L p k (by omega)
    unfold bi
    rw [ih]
    by_cases c : k = 0
    · subst c
      have : bi L 0 = 0 := rfl
      rw [this]
      simp
    · have hb := bi_lt L k (by omega)
      have g : ∀ j, j < p → (L.take p).getD j 0 = L.getD j 0 := by
        intro j hj
        rw [List.getD_eq_getElem?_getD, List.getD_eq_getElem?_getD, List.getElem?_take_of_lt hj]
      rw [g k (by omega), g _ (by omega)]

theorem rd_getD {L : List Int} {j : Nat} (h : j < L.length) : rd L (j : Int) = some (L.getD j 0) := by
  rw [rd_lt h, List.getD_eq_getElem?_getD, List.getElem?_eq_getElem h]
  rfl

theorem bi_spec (fr : List Int) (p : Nat) (hp : 1 ≤ p) (hp4 : p ≤ 4) (hl : fr.length = p) : loopO (spec_l24Times_l10 fr (p : Int)) (0, 1) = some ((bi fr p : Nat) : Int) := by
  have key : ∀ (m k : Nat), k + m = p → 1 ≤ k → loopO (spec_l24Times_l10 fr (p : Int)) (((bi fr k : Nat) : Int), (k : Int)) = some ((bi fr p : Nat) : Int) := by
    intro m
    induction m with
    | zero =>
      intro k hk h1
      obtain rfl : k = p := by omega
      refine loopO_done ?_
      unfold spec_l24Times_l10
      simp only
      rw [if_neg (by omega)]
    | succ m ih =>
      intro k hk h1
      have hb := bi_lt fr k h1
      have : spec_l24Times_l10 fr (p : Int) (((bi fr k : Nat) : Int), (k : Int)) = some (.inl (((bi fr (k + 1) : Nat) : Int), ((k + 1 : Nat) : Int))) := by
        unfold spec_l24Times_l10 spec_l24Times_k11
        simp only
        rw [if_pos (by omega), rd_getD (by omega), Option.bind_some, rd_getD (by omega), Option.bind_some, w64_succ (by omega)]
        conv => rhs; unfold bi
        split <;> rfl
      rw [loopO_next this]
      exact ih (k + 1) (by omega) (by omega)
  have := key (p - 1) 1 (by omega) (by omega)
  have e : bi fr 1 = 0 := by have := bi_lt fr 1 (by omega); omega
  rw [e] at this
  exact this

def Al (A : Ar4_Int) : List Int := [A.e0, A.e1, A.e2, A.e3]
def As (A : Ar4_Int) (j : Nat) (e : Int) : Ar4_Int := if j = 0 then ⟨e, A.e1, A.e2, A.e3⟩ else if j = 1 then ⟨A.e0, e, A.e2, A.e3⟩ else if j = 2 then ⟨A.e0, A.e1, e, A.e3⟩ else ⟨A.e0, A.e1, A.e2, e⟩

theorem Al_set (A : Ar4_Int) (j : Nat) (e : Int) (h : j < 4) : Al (As A j e) = (Al A).set j e := by
  unfold As Al
  match j, h with
  | 0, _ => rfl
  | 1, _ => rfl
  | 2, _ => rfl
  | 3, _ => rfl

theorem Al_len (A : Ar4_Int) : (Al A).length = 4 := rfl

theorem ix4 {j : Nat} (h : j < 4) : ix 4 (j : Int) = some (j : Int) := by
  unfold ix
  rw [if_pos (by omega)]

theorem bi_impl (g : S_gluing) (p : Nat) (hp : 1 ≤ p) (hp4 : p ≤ 4) : loopO (impl_gluing_add_l3 g (p : Int)) (0, 0) = some ((bi (Al g.free) p : Nat) : Int) := by
  have key : ∀ (m k : Nat), k + m = p → loopO (impl_gluing_add_l3 g (p : Int)) (((bi (Al g.free) k : Nat) : Int), (k : Int)) = some ((bi (Al g.free) p : Nat) : Int) := by
    intro m
    induction m with
    | zero =>
      intro k hk
      obtain rfl : k = p := by omega
      refine loopO_done ?_
      unfold impl_gluing_add_l3
      simp only
      rw [if_neg (by omega)]
    | succ m ih =>
      intro k hk
      have hb : bi (Al g.free) k < 4 := by
        by_cases c : k = 0
        · subst c; show (0 : Nat) < 4; omega
        · have := bi_lt (Al g.free) k (by omega); omega
      have : impl_gluing_add_l3 g (p : Int) (((bi (Al g.free) k : Nat) : Int), (k : Int)) = some (.inl (((bi (Al g.free) (k + 1) : Nat) : Int), ((k + 1 : Nat) : Int))) := by
        unfold impl_gluing_add_l3 impl_gluing_add_k7
        simp only
        have e : ([g.free.e0, g.free.e1, g.free.e2, g.free.e3] : List Int) = Al g.free := rfl
        rw [if_pos (by omega), ix4 (by omega), Option.bind_some, e, rd_getD (by rw [Al_len]; omega), Option.bind_some, ix4 hb, Option.bind_some, rd_getD (by rw [Al_len]; omega), Option.bind_some, w64_succ (by omega)]
        conv => rhs; unfold bi
        split <;> rfl
      rw [loopO_next this]
      exact ih (k + 1) (by omega)
  exact key p 0 (by omega)

/-- One bond more. -/
def stp (p : Nat) (b : S_Bond) (g : S_gluing) : S_gluing :=
  let j := bi (Al g.free) p
  let f := (Al g.free).getD j 0
  let s := max2 g.ready (f - b.Open)
  let en := max2 (s + b.Spread) f + b.Press
  ⟨s + b.Spread, As g.free j en, max2 g.end_ en⟩

/-- What a state of gluing is after n bonds, in numbers. -/
def Gn (n : Nat) (g : S_gluing) : Prop := (0 ≤ g.ready ∧ g.ready ≤ 1560 * n) ∧ (∀ j, 0 ≤ (Al g.free).getD j 0 ∧ (Al g.free).getD j 0 ≤ 1560 * n) ∧ (0 ≤ g.end_ ∧ g.end_ ≤ 1560 * n)

theorem max2_cases (a b : Int) : (b > a ∧ max2 a b = b) ∨ (b ≤ a ∧ max2 a b = a) := by
  unfold max2
  split
  · exact .inl ⟨by omega, rfl⟩
  · exact .inr ⟨by omega, rfl⟩

theorem max_spec (a b : Int) : spec_l00Max a b = some (max2 b a) := by
  unfold spec_l00Max max2
  split <;> rfl
theorem max2_comm (a b : Int) : max2 a b = max2 b a := by
  have := max2_cases a b
  have := max2_cases b a
  omega

/-- The numbers of a step. -/
theorem stp_num {b : S_Bond} {g : S_gluing} {n p : Nat} (hb : Bn b) (hg : Gn n g) (hn : n ≤ 100) :
    ∃ f s bg en : Int, (Al g.free).getD (bi (Al g.free) p) 0 = f ∧ max2 g.ready (f - b.Open) = s ∧ max2 (s + b.Spread) f = bg ∧ bg + b.Press = en ∧ stp p b g = ⟨s + b.Spread, As g.free (bi (Al g.free) p) en, max2 g.end_ en⟩ ∧
      0 ≤ f ∧ f ≤ 1560 * n ∧ 0 ≤ s ∧ s ≤ 1560 * n ∧ 0 ≤ bg ∧ bg ≤ 1560 * n + 120 ∧ 0 ≤ en ∧ en ≤ 1560 * (n + 1) := by
  obtain ⟨⟨r1, r2⟩, hL, ⟨e1, e2⟩⟩ := hg
  obtain ⟨⟨b1, b2⟩, ⟨b3, b4⟩, ⟨b5, b6⟩⟩ := hb
  obtain ⟨f1, f2⟩ := hL (bi (Al g.free) p)
  refine ⟨_, _, _, _, rfl, rfl, rfl, rfl, rfl, ?_⟩
  have m1 := max2_cases g.ready ((Al g.free).getD (bi (Al g.free) p) 0 - b.Open)
  generalize max2 g.ready ((Al g.free).getD (bi (Al g.free) p) 0 - b.Open) = s at m1
  have m2 := max2_cases (s + b.Spread) ((Al g.free).getD (bi (Al g.free) p) 0)
  generalize max2 (s + b.Spread) ((Al g.free).getD (bi (Al g.free) p) 0) = bg at m2
  omega

theorem stp_ok {b : S_Bond} {g : S_gluing} {n p : Nat} (hb : Bn b) (hg : Gn n g) (hn : n ≤ 100) (hp : 1 ≤ p) (hp4 : p ≤ 4) : Gn (n + 1) (stp p b g) := by
  obtain ⟨f, s, bg, en, _, _, _, _, h, h1, h2, h3, h4, h5, h6, h7, h8⟩ := stp_num (p := p) hb hg hn
  rw [h]
  obtain ⟨⟨r1, r2⟩, hL, ⟨e1, e2⟩⟩ := hg
  obtain ⟨⟨b1, b2⟩, ⟨b3, b4⟩, ⟨b5, b6⟩⟩ := hb
  have m := max2_cases g.end_ en
  have hj := bi_lt (Al g.free) p hp
  refine ⟨by constructor <;> simp only <;> omega, fun i => ?_, by constructor <;> simp only <;> omega⟩
  simp only
  rw [Al_set _ _ _ (by omega), List.getD_eq_getElem?_getD, List.getElem?_set]
  split
  · split
    · simp only [Option.getD_some]; omega
    · simp only [Option.getD_none]; omega
  · have := hL i
    rw [List.getD_eq_getElem?_getD] at this
    omega

theorem add_impl {b : S_Bond} {g : S_gluing} {n p : Nat} (hb : Bn b) (hg : Gn n g) (hn : n ≤ 100) (hp : 1 ≤ p) (hp4 : p ≤ 4) : ∃ x, impl_gluing_add g b (p : Int) = some (x, stp p b g) := by
  obtain ⟨f, s, bg, en, q1, q2, q3, q4, h, h1, h2, h3, h4, h5, h6, h7, h8⟩ := stp_num (p := p) hb hg hn
  obtain ⟨⟨b1, b2⟩, ⟨b3, b4⟩, ⟨b5, b6⟩⟩ := hb
  have hj := bi_lt (Al g.free) p hp
  rw [h]
  unfold impl_gluing_add
  rw [bi_impl g p hp hp4, Option.bind_some, ix4 (by omega), Option.bind_some]
  have e : ([g.free.e0, g.free.e1, g.free.e2, g.free.e3] : List Int) = Al g.free := rfl
  rw [e, rd_getD (by rw [Al_len]; omega), q1]
  have w1 : w64 (f - b.Open) = f - b.Open := w64_id (by omega) (by omega)
  have w2 : w64 (s + b.Spread) = s + b.Spread := w64_id (by omega) (by omega)
  have w3 : w64 (bg + b.Press) = en := by rw [q4]; exact w64_id (by omega) (by omega)
  simp only [Option.bind_some, w1, q2, w2, q3, w3]
  generalize bi (Al g.free) p = j at hj
  match j, hj with
  | 0, _ => exact ⟨_, rfl⟩
  | 1, _ => exact ⟨_, rfl⟩
  | 2, _ => exact ⟨_, rfl⟩
  | 3, _ => exact ⟨_, rfl⟩
  | j + 4, h => omega

/-- The state after an order. -/
def bd (list : List S_Bond) (k : Int) : S_Bond := (list[k.toNat]?).getD ⟨⟨#[]⟩, 0, 0, 0⟩
def g0 : S_gluing := ⟨0, ⟨0, 0, 0, 0⟩, 0⟩
def Gl (p : Nat) (list : List S_Bond) (F : List Int) : S_gluing := F.foldl (fun g k => stp p (bd list k) g) g0

theorem Gl_add (p : Nat) (list : List S_Bond) (F : List Int) (k : Int) : Gl p list (F ++ [k]) = stp p (bd list k) (Gl p list F) := by
  unfold Gl
  rw [List.foldl_append]
  rfl

theorem g0_ok : Gn 0 g0 := by
  refine ⟨by constructor <;> show (0 : Int) ≤ _ <;> decide, fun j => ?_, by constructor <;> show (0 : Int) ≤ _ <;> decide⟩
  match j with
  | 0 => constructor <;> decide
  | 1 => constructor <;> decide
  | 2 => constructor <;> decide
  | 3 => constructor <;> decide
  | j + 4 => constructor <;> exact Int.le_refl 0

def Va (list : List S_Bond) (F : List Int) : Prop := ∀ k ∈ F, 0 ≤ k ∧ k < list.length

theorem bd_rd {list : List S_Bond} {k : Int} (h : 0 ≤ k ∧ k < list.length) : rd list k = some (bd list k) ∧ bd list k ∈ list := by
  have hk : k.toNat < list.length := by omega
  unfold bd rd
  rw [if_pos h.1, List.getElem?_eq_getElem hk]
  exact ⟨rfl, List.getElem_mem hk⟩

theorem Gl_ok {p : Nat} {list : List S_Bond} (hb : ∀ c ∈ list, Bn c) (hp : 1 ≤ p) (hp4 : p ≤ 4) : ∀ (n : Nat) (F : List Int), F.length = n → Va list F → n ≤ 100 → Gn n (Gl p list F) := by
  intro n
  induction n with
  | zero =>
    intro F h _ _
    rw [List.length_eq_zero_iff.1 h]
    exact g0_ok
  | succ n ih =>
    intro F h hv hn
    have hne : F ≠ [] := by intro e; rw [e] at h; simp at h
    have e := (List.dropLast_concat_getLast hne).symm
    rw [e, Gl_add]
    exact stp_ok (hb _ (bd_rd (hv _ (List.getLast_mem hne))).2) (ih _ (by rw [List.length_dropLast]; omega) (fun k hk => hv k (List.dropLast_subset _ hk)) (by omega)) (by omega) hp hp4

/-- The end of what has been told. -/
def Eo (out : List (List Int)) : Int := out.foldl (fun e x => max2 e (x.getD 3 0)) 0

theorem end_spec (out : List (List Int)) (h : ∀ x ∈ out, x.length = 4) (hl : out.length ≤ 1000) : spec_l24End out = some (Eo out) := by
  unfold spec_l24End
  have := loopO_for (fun i : Nat => (Eo (out.take i), (i : Int))) out.length (f := spec_l24End_l3 out) (r := Eo out) (fun i hi => by
    unfold spec_l24End_l3
    simp only
    have hx := h _ (List.getElem_mem hi)
    have e : rd out[i] 3 = some (out[i].getD 3 0) := rd_getD (j := 3) (by omega)
    rw [if_pos (by omega), rd_lt hi, Option.bind_some, e, Option.bind_some, max_spec, Option.bind_some, w64_succ (by omega), max2_comm]
    rw [List.take_succ_eq_append_getElem hi]
    unfold Eo
    rw [List.foldl_append]
    rfl) (by
    unfold spec_l24End_l3
    simp only
    rw [if_neg (by omega), List.take_length])
  have h0 : loopO (spec_l24End_l3 out) (0, 0) = some (Eo out) := this
  rw [h0]
  rfl

theorem times_spec {p : Nat} {list : List S_Bond} (hb : ∀ c ∈ list, Bn c) (hp : 1 ≤ p) (hp4 : p ≤ 4) (F : List Int) (hv : Va list F) (hF : F.length ≤ 100) :
    ∃ out, spec_l24Times list F (p : Int) = some out ∧ spec_l24End out = some (Gl p list F).end_ := by
  have key : ∀ (m i : Nat) (out : List (List Int)), i + m = F.length → out.length = i → (∀ x ∈ out, x.length = 4) → Eo out = (Gl p list (F.take i)).end_ →
      ∃ out', loopO (spec_l24Times_l5 list F (p : Int)) ((Gl p list (F.take i)).ready, (i : Int), (Al (Gl p list (F.take i)).free).take p, out) = some out' ∧ out'.length = F.length ∧ (∀ x ∈ out', x.length = 4) ∧ Eo out' = (Gl p list F).end_ := by
    intro m
    induction m with
    | zero =>
      intro i out hi h1 h2 h3
      obtain rfl : i = F.length := by omega
      refine ⟨out, loopO_done ?_, h1, h2, by rw [h3, List.take_length]⟩
      unfold spec_l24Times_l5
      simp only
      rw [if_neg (by omega)]
    | succ m ih =>
      intro i out hi h1 h2 h3
      have hi' : i < F.length := by omega
      obtain ⟨r1, r2⟩ := bd_rd (hv _ (List.getElem_mem hi'))
      have hg := Gl_ok hb hp hp4 i (F.take i) (by rw [List.length_take]; omega) (fun k hk => hv k (List.mem_of_mem_take hk)) (by omega)
      have e0 : F.take (i + 1) = F.take i ++ [F[i]] := List.take_succ_eq_append_getElem hi'
      have e1 : Gl p list (F.take (i + 1)) = stp p (bd list F[i]) (Gl p list (F.take i)) := by rw [e0, Gl_add]
      generalize hbb : bd list F[i] = b at r1 r2 e1
      have ih' := ih (i + 1)
      rw [e1] at ih'
      generalize Gl p list (F.take i) = g at hg h3 e1 ih'
      obtain ⟨f, s, bg, en, q1, q2, q3, q4, h, t1, t2, t3, t4, t5, t6, t7, t8⟩ := stp_num (p := p) (hb _ r2) hg (by omega)
      obtain ⟨⟨b1, b2⟩, ⟨b3, b4⟩, ⟨b5, b6⟩⟩ := hb _ r2
      have hj := bi_lt (Al g.free) p hp
      rw [h] at ih'
      simp only [Al_set _ _ _ (show bi (Al g.free) p < 4 by omega), List.take_set] at ih'
      have hlen : ((Al g.free).take p).length = p := by rw [List.length_take, Al_len]; omega
      have eb : bi ((Al g.free).take p) p = bi (Al g.free) p := bi_take _ _ _ (Nat.le_refl _)
      have ef : rd ((Al g.free).take p) ((bi (Al g.free) p : Nat) : Int) = some f := by
        rw [rd_getD (by omega), List.getD_eq_getElem?_getD, List.getElem?_take_of_lt hj, ← List.getD_eq_getElem?_getD, q1]
      have w1 : w64 (f - b.Open) = f - b.Open := w64_id (by omega) (by omega)
      have w2 : w64 (s + b.Spread) = s + b.Spread := w64_id (by omega) (by omega)
      have w3 : w64 (bg + b.Press) = en := by rw [q4]; exact w64_id (by omega) (by omega)
      have S1 : spec_l24Times_l5 list F (p : Int) (g.ready, (i : Int), (Al g.free).take p, out) = some (.inl (s + b.Spread, ((i + 1 : Nat) : Int), ((Al g.free).take p).set (bi (Al g.free) p) en, out ++ [[s, ((bi (Al g.free) p : Nat) : Int), bg, en]])) := by
        unfold spec_l24Times_l5
        simp only
        rw [if_pos (by omega), rd_lt hi', Option.bind_some, r1, Option.bind_some, bi_spec _ p hp hp4 hlen, Option.bind_some, eb, ef, Option.bind_some, w1, max_spec, max2_comm, q2]
        simp only [Option.bind_some, ef, w2]
        rw [max_spec, max2_comm, q3]
        simp only [Option.bind_some, w3]
        rw [apdn (by simp only [List.length_singleton]; omega)]
        simp only [Option.bind_some, w64_succ (show i < 9223372036854775807 by omega), Int.toNat_natCast]
      rw [loopO_next S1]
      refine ih' _ (by omega) (by simp; omega) ?_ ?_
      · intro x hx
        rcases List.mem_append.1 hx with hx | hx
        · exact h2 x hx
        · rw [List.mem_singleton] at hx; subst hx; rfl
      · unfold Eo at h3 ⊢
        rw [List.foldl_append, h3]
        rfl
  obtain ⟨out, o1, o2, o3, o4⟩ := key F.length 0 [] (by omega) rfl (fun x hx => by cases hx) rfl
  refine ⟨out, ?_, ?_⟩
  · unfold spec_l24Times mkl
    have e : (Al g0.free).take p = List.replicate p 0 := by
      match p, hp, hp4 with
      | 1, _, _ => rfl
      | 2, _, _ => rfl
      | 3, _, _ => rfl
      | 4, _, _ => rfl
    have o1' : loopO (spec_l24Times_l5 list F (p : Int)) (0, 0, List.replicate p 0, []) = some out := by rw [← e]; exact o1
    rw [if_pos (by omega), Option.bind_some, Int.toNat_natCast, o1']
    rfl
  · rw [end_spec out o3 (by omega), o4]

abbrev FS := S_l24Search → Option S_l24Search
abbrev FI := (S_glueSearch × List Int × S_gluing) → Option (Bool × S_glueSearch)

theorem fs_spec (x : S_l24Search) : Fs (fun self : FS => spec_l24Search_run_F self x) := by
  unfold spec_l24Search_run_F
  refine Fs.ite (Fs.const _) (Fs.bind (Fs.loop (fun s => ?_) _) fun o => Fs.const _)
  obtain ⟨a1, a2, a3, a4, a5, a6, a7, a8, a9⟩ := s
  unfold spec_l24Search_run_l5 spec_l24Search_run_k14 spec_l24Search_run_k6
  exact Fs.ite (Fs.bind (Fs.const _) fun _ => Fs.ite (Fs.const _) (Fs.bind (Fs.const _) fun _ => Fs.bind (Fs.const _) fun _ => Fs.ite (Fs.ite (Fs.const _) (Fs.bind (Fs.app _) fun _ => Fs.const _)) (Fs.const _))) (Fs.const _)

theorem fs_impl (x : S_glueSearch) (F : List Int) (g : S_gluing) : Fs (fun self : FI => impl_glueSearch_run_F self x F g) := by
  unfold impl_glueSearch_run_F
  refine Fs.ite (Fs.const _) (Fs.bind (Fs.loop (fun s => ?_) _) fun o => Fs.const _)
  obtain ⟨a1, a2, a3, a4, a5, a6, a7⟩ := s
  unfold impl_glueSearch_run_l5 impl_glueSearch_run_k16
  exact Fs.ite (Fs.bind (Fs.const _) fun _ => Fs.ite (Fs.const _) (Fs.bind (Fs.const _) fun _ => Fs.bind (Fs.const _) fun _ => Fs.ite (Fs.const _) (Fs.ite (Fs.const _) (Fs.bind (Fs.const _) fun _ => Fs.bind (Fs.const _) fun _ => Fs.bind (Fs.app _) fun z => Fs.ite (Fs.const _) (Fs.const _))))) (Fs.const _)

noncomputable abbrev SS : FS := fun s => spec_l24Search_run s
noncomputable abbrev SI : FI := fun s => impl_glueSearch_run s.1 s.2.1 s.2.2

theorem bg_specE (x : S_l24Search) : spec_l24Search_run x = spec_l24Search_run_F SS x := by
  show fixO _ _ = _
  rw [fixO_eq]
  · rfl
  · exact fs_spec

theorem bg_implE (x : S_glueSearch) (F : List Int) (g : S_gluing) : impl_glueSearch_run x F g = impl_glueSearch_run_F SI x F g := by
  show fixO _ _ = _
  rw [fixO_eq]
  · rfl
  · rintro ⟨x, F, g⟩
    exact fs_impl x F g

/-- What both searches know alike. -/
def Iv (b : Int) (best : List Int) (least nodes : Int) (found : Bool) (lst : Int) : Prop :=
  0 ≤ nodes ∧ nodes ≤ b ∧ best.length ≤ 12 ∧ (found = false ∧ least = -1 ∨ found = true ∧ least = lst ∧ 0 ≤ lst)

section
variable {list : List S_Bond} {p : Nat} {b : Int}

abbrev ss (list : List S_Bond) (p : Nat) (b : Int) (F best : List Int) (least nodes : Int) (full : Bool) : S_l24Search := ⟨list, p, F, best, least, nodes, b, full⟩
abbrev ts (list : List S_Bond) (p : Nat) (b k : Int) (F best : List Int) (least nodes : Int) (full : Bool) := (k, list, (p : Int), F, best, least, nodes, b, full)
abbrev is (list : List S_Bond) (p : Nat) (left : Int) (found : Bool) (best : List Int) (lst : Int) : S_glueSearch := ⟨list, p, left, found, best, lst⟩
abbrev ti (list : List S_Bond) (p : Nat) (k left : Int) (found : Bool) (best : List Int) (lst : Int) := (k, list, (p : Int), left, found, best, lst)
abbrev tu (list : List S_Bond) (p : Nat) (left : Int) (found : Bool) (best : List Int) (lst : Int) := (list, (p : Int), left, found, best, lst)

def Ot (list : List S_Bond) (p : Nat) (b : Int) (F : List Int) (s' : S_l24Search) (spent : Bool) (t' : S_glueSearch) : Prop :=
  ∃ best least nodes lst, s' = ss list p b F best least nodes spent ∧ (spent = false → t' = is list p (b - nodes) true best lst ∧ Iv b best least nodes true lst)

theorem pig : ∀ (n : Nat) (F : List Int), (∀ i : Nat, i < n → (i : Int) ∈ F) → n ≤ F.length := by
  intro n
  induction n with
  | zero => intro F _; omega
  | succ n ih =>
    intro F h
    have hn := h n (by omega)
    have := ih (F.erase (n : Int)) (fun i hi => (List.mem_erase_of_ne (by omega)).2 (h i (by omega)))
    rw [List.length_erase_of_mem hn] at this
    have := List.length_pos_of_mem hn
    omega

theorem bg_loop (hl : list.length ≤ 12) (hbn : ∀ c ∈ list, Bn c) (hp : 1 ≤ p) (hp4 : p ≤ 4) (hb1 : 1 ≤ b) (hb2 : b ≤ 20000)
    {F : List Int} (hF : F.length < list.length) (hv : Va list F) {x0 : S_l24Search} {t0 : S_glueSearch} (hx0 : x0.order = F) (ht0 : t0.list = list)
    (IH : ∀ (k : Int) (best : List Int) (least nodes : Int) (found : Bool) (lst : Int), 0 ≤ k → k < list.length → Iv b best least nodes found lst →
      ∃ s' spent t', spec_l24Search_run (ss list p b (F ++ [k]) best least nodes false) = some s' ∧ impl_glueSearch_run (is list p (b - nodes) found best lst) (F ++ [k]) (Gl p list (F ++ [k])) = some (spent, t') ∧ Ot list p b (F ++ [k]) s' spent t') :
    ∀ (m k : Nat) (best : List Int) (least nodes : Int) (found : Bool) (lst : Int), k + m = list.length → (found = true ∨ ∀ i : Nat, i < k → (i : Int) ∈ F) → Iv b best least nodes found lst →
      (∃ best' least' nodes' lst', loopO (spec_l24Search_run_l5 SS x0) (ts list p b (k : Int) F best least nodes false) = some (ss list p b F best' least' nodes' false) ∧
        loopO (impl_glueSearch_run_l5 SI (Gl p list F) F t0) (ti list p (k : Int) (b - nodes) found best lst) = some (.inl (tu list p (b - nodes') true best' lst')) ∧ Iv b best' least' nodes' true lst') ∨
      (∃ best' least' nodes' t', loopO (spec_l24Search_run_l5 SS x0) (ts list p b (k : Int) F best least nodes false) = some (ss list p b F best' least' nodes' true) ∧
        loopO (impl_glueSearch_run_l5 SI (Gl p list F) F t0) (ti list p (k : Int) (b - nodes) found best lst) = some (.inr (true, t'))) := by
  intro m
  induction m with
  | zero =>
    intro k best least nodes found lst hk hq hI
    have hq' : found = true := by
      rcases hq with hq | hq
      · exact hq
      · have := pig k F hq
        omega
    subst hq'
    refine .inl ⟨best, least, nodes, lst, loopO_done ?_, loopO_done ?_, hI⟩
    · unfold spec_l24Search_run_l5
      simp only
      rw [if_neg (by omega)]
    · unfold impl_glueSearch_run_l5
      simp only
      rw [if_neg (by rw [ht0]; omega)]
  | succ m ih =>
    intro k best least nodes found lst hk hq hI
    have hk' : k < list.length := by omega
    have wk : w64 ((k : Int) + 1) = ((k + 1 : Nat) : Int) := w64_succ (by omega)
    have S0 : spec_l24Search_run_l5 SS x0 (ts list p b (k : Int) F best least nodes false) = if decide ((k : Int) ∈ F) = true then some (.inl (ts list p b ((k + 1 : Nat) : Int) F best least nodes false)) else
        ((if least < 0 then some true else ((spec_l24Times list (F ++ [(k : Int)]) p).bind fun x95 => (spec_l24End x95).bind fun x96 => some (decide (x96 < least)))).bind fun t_102_m9 =>
        if t_102_m9 = true then (if nodes = b then (spec_l24Search_run_k14 SS (k : Int) x0 list p (F ++ [(k : Int)]) best least nodes b true) else
          ((SS (ss list p b (F ++ [(k : Int)]) best least (w64 (nodes + 1)) false)).bind fun x123 => spec_l24Search_run_k14 SS (k : Int) x0 x123.list x123.presses x123.order x123.best x123.least x123.nodes x123.budget x123.full))
        else (spec_l24Search_run_k14 SS (k : Int) x0 list p (F ++ [(k : Int)]) best least nodes b false)) := by
      unfold spec_l24Search_run_l5
      simp only
      rw [if_pos ⟨by omega, by simp⟩, has_spec _ _ (by omega), Option.bind_some]
      unfold spec_l24Search_run_k6
      rw [wk, apd1 (by omega)]
      rfl
    have I0 : impl_glueSearch_run_l5 SI (Gl p list F) F t0 (ti list p (k : Int) (b - nodes) found best lst) = if decide ((k : Int) ∈ F) = true then some (.inl (ti list p ((k + 1 : Nat) : Int) (b - nodes) found best lst)) else
        (if (found = true ∧ (Gl p list (F ++ [(k : Int)])).end_ ≥ lst) then some (.inl (ti list p ((k + 1 : Nat) : Int) (b - nodes) found best lst)) else
         (if b - nodes = 0 then some (.inr (.inr (true, is list p (b - nodes) found best lst))) else
          ((SI (is list p (w64 (b - nodes - 1)) found best lst, F ++ [(k : Int)], Gl p list (F ++ [(k : Int)]))).bind fun x85 => if x85.1 = true then some (.inr (.inr (true, x85.2))) else
            impl_glueSearch_run_k16 SI (k : Int) x85.2.list x85.2.presses x85.2.left x85.2.found x85.2.best x85.2.least))) := by
      obtain ⟨r1, r2⟩ := bd_rd (list := list) (k := (k : Int)) ⟨by omega, by omega⟩
      obtain ⟨x, hx⟩ := add_impl (hbn _ r2) (Gl_ok hbn hp hp4 F.length F rfl hv (by omega)) (by omega) hp hp4
      unfold impl_glueSearch_run_l5
      simp only
      rw [if_pos (by rw [ht0]; omega), has_impl _ _ (by omega), Option.bind_some, r1, Option.bind_some, hx, Option.bind_some]
      unfold impl_glueSearch_run_k16
      rw [wk, apd0 (by omega), Option.bind_some, apd1 (by omega), Option.bind_some, Gl_add]
    by_cases c0 : (k : Int) ∈ F
    · rw [if_pos (decide_eq_true c0)] at S0 I0
      rw [loopO_next S0, loopO_next I0]
      refine ih (k + 1) _ _ _ _ _ (by omega) (hq.imp_right fun hq i hi => ?_) hI
      by_cases e : i = k
      · rw [e]; exact c0
      · exact hq i (by omega)
    · rw [if_neg (by simpa using c0)] at S0 I0
      have hv' : Va list (F ++ [(k : Int)]) := by
        intro j hj
        rcases List.mem_append.1 hj with hj | hj
        · exact hv j hj
        · rw [List.mem_singleton] at hj; subst hj; omega
      have hlen : (F ++ [(k : Int)]).length = F.length + 1 := by simp
      obtain ⟨out, o1, o2⟩ := times_spec hbn hp hp4 (F ++ [(k : Int)]) hv' (by omega)
      obtain ⟨_, _, ⟨e1, e2⟩⟩ := Gl_ok hbn hp hp4 (F.length + 1) (F ++ [(k : Int)]) hlen hv' (by omega)
      obtain ⟨i1, i2, i3, i4⟩ := id hI
      have K14 : ∀ (bs : List Int) (ls nd : Int) (fl : Bool), spec_l24Search_run_k14 SS (k : Int) x0 list p (F ++ [(k : Int)]) bs ls nd b fl = some (.inl (ts list p b ((k + 1 : Nat) : Int) F bs ls nd fl)) := by
        intro bs ls nd fl
        unfold spec_l24Search_run_k14 spec_l24Search_run_k6
        have q1 : slc (F ++ [(k : Int)]) 0 (x0.order.length : Int) = some (((F ++ [(k : Int)]).take ((x0.order.length : Int).toNat)).drop 0) := by
          unfold slc
          rw [if_pos ⟨by omega, by omega, by rw [hx0, hlen]; omega⟩]
          rfl
        have q2 : ((F ++ [(k : Int)]).take ((x0.order.length : Int).toNat)).drop 0 = F := by
          rw [hx0, List.drop_zero, Int.toNat_natCast, List.take_left']
          rfl
        rw [q1, Option.bind_some, q2, wk]
      have hc : (if least < 0 then some true else ((spec_l24Times list (F ++ [(k : Int)]) p).bind fun x95 => (spec_l24End x95).bind fun x96 => some (decide (x96 < least)))) = some (!decide (found = true ∧ (Gl p list (F ++ [(k : Int)])).end_ ≥ lst)) := by
        rcases i4 with ⟨i4, i5⟩ | ⟨i4, i5, i6⟩
        · rw [if_pos (by omega), i4]
          simp
        · rw [if_neg (by omega), o1, Option.bind_some, o2, Option.bind_some, i4, i5]
          simp only [true_and]
          rw [← decide_not]
          congr 1
          exact decide_eq_decide.2 (by omega)
      rw [hc, Option.bind_some] at S0
      by_cases c1 : found = true ∧ (Gl p list (F ++ [(k : Int)])).end_ ≥ lst
      · rw [decide_eq_true c1, if_neg (by decide), K14] at S0
        rw [if_pos c1] at I0
        rw [loopO_next S0, loopO_next I0]
        exact ih (k + 1) _ _ _ _ _ (by omega) (.inl c1.1) hI
      · rw [decide_eq_false c1, if_pos (by decide)] at S0
        rw [if_neg c1] at I0
        by_cases c2 : nodes = b
        · rw [if_pos c2, K14] at S0
          rw [if_pos (by omega)] at I0
          refine .inr ⟨best, least, nodes, _, ?_, loopO_done I0⟩
          rw [loopO_next S0]
          refine loopO_done ?_
          unfold spec_l24Search_run_l5
          simp
        · rw [if_neg c2] at S0
          rw [if_neg (by omega)] at I0
          have e3 : w64 (nodes + 1) = nodes + 1 := w64_id (by omega) (by omega)
          have e4 : w64 (b - nodes - 1) = b - (nodes + 1) := by rw [w64_id (by omega) (by omega)]; omega
          obtain ⟨s', spent, t', r1, r2, best', least', nodes', lst', r3, r4⟩ := IH (k : Int) best least (nodes + 1) found lst (by omega) (by omega) ⟨by omega, by omega, i3, i4⟩
          subst r3
          have r1' : SS (ss list p b (F ++ [(k : Int)]) best least (nodes + 1) false) = some (ss list p b (F ++ [(k : Int)]) best' least' nodes' spent) := r1
          have r2' : SI (is list p (b - (nodes + 1)) found best lst, F ++ [(k : Int)], Gl p list (F ++ [(k : Int)])) = some (spent, t') := r2
          rw [e3, r1', Option.bind_some, K14] at S0
          rw [e4, r2', Option.bind_some] at I0
          cases spent with
          | true =>
            rw [if_pos rfl] at I0
            refine .inr ⟨best', least', nodes', t', ?_, loopO_done I0⟩
            rw [loopO_next S0]
            refine loopO_done ?_
            unfold spec_l24Search_run_l5
            simp
          | false =>
            obtain ⟨r5, r6⟩ := r4 rfl
            subst r5
            unfold impl_glueSearch_run_k16 at I0
            rw [if_neg (by simp), wk] at I0
            rw [loopO_next S0, loopO_next I0]
            exact ih (k + 1) _ _ _ _ _ (by omega) (.inl rfl) r6

theorem bg_run (hl : list.length ≤ 12) (hbn : ∀ c ∈ list, Bn c) (hp : 1 ≤ p) (hp4 : p ≤ 4) (hb1 : 1 ≤ b) (hb2 : b ≤ 20000) :
    ∀ (d : Nat) (F best : List Int) (least nodes : Int) (found : Bool) (lst : Int), F.length + d = list.length → Va list F → Iv b best least nodes found lst →
      ∃ s' spent t', spec_l24Search_run (ss list p b F best least nodes false) = some s' ∧ impl_glueSearch_run (is list p (b - nodes) found best lst) F (Gl p list F) = some (spent, t') ∧ Ot list p b F s' spent t' := by
  intro d
  induction d with
  | zero =>
    intro F best least nodes found lst hF hv hI
    obtain ⟨i1, i2, i3, i4⟩ := id hI
    obtain ⟨out, o1, o2⟩ := times_spec hbn hp hp4 F hv (by omega)
    obtain ⟨_, _, ⟨e1, e2⟩⟩ := Gl_ok hbn hp hp4 F.length F rfl hv (by omega)
    refine ⟨ss list p b F F (Gl p list F).end_ nodes false, false, is list p (b - nodes) true F (Gl p list F).end_, ?_, ?_, F, (Gl p list F).end_, nodes, (Gl p list F).end_, rfl, fun _ => ⟨rfl, i1, i2, by omega, .inr ⟨rfl, rfl, e1⟩⟩⟩
    · rw [bg_specE]
      unfold spec_l24Search_run_F spec_l00Own
      rw [if_pos (show (F.length : Int) = (list.length : Int) by omega)]
      simp only [o1, Option.bind_some, o2, apd0 (show F.length ≤ 1000000 by omega)]
    · rw [bg_implE]
      unfold impl_glueSearch_run_F
      rw [if_pos (show (F.length : Int) = (list.length : Int) by omega)]
  | succ d ih =>
    intro F best least nodes found lst hF hv hI
    have hlp := bg_loop hl hbn hp hp4 hb1 hb2 (F := F) (by omega) hv (x0 := ss list p b F best least nodes false) (t0 := is list p (b - nodes) found best lst) rfl rfl
      (fun k best least nodes found lst hk1 hk2 hI => ih (F ++ [k]) best least nodes found lst (by simp; omega) (by
        intro j hj
        rcases List.mem_append.1 hj with hj | hj
        · exact hv j hj
        · rw [List.mem_singleton] at hj; subst hj; exact ⟨hk1, hk2⟩) hI) list.length 0 best least nodes found lst (by omega) (.inr fun i hi => by omega) hI
    have hne : ¬ (F.length : Int) = (list.length : Int) := by omega
    rw [bg_specE, bg_implE]
    unfold spec_l24Search_run_F impl_glueSearch_run_F
    rw [if_neg hne, if_neg hne]
    rcases hlp with ⟨best', least', nodes', lst', q1, q2, q3⟩ | ⟨best', least', nodes', t', q1, q2⟩
    · have q1' : loopO (spec_l24Search_run_l5 SS (ss list p b F best least nodes false)) (0, list, (p : Int), F, best, least, nodes, b, false) = some (ss list p b F best' least' nodes' false) := q1
      have q2' : loopO (impl_glueSearch_run_l5 SI (Gl p list F) F (is list p (b - nodes) found best lst)) (0, list, (p : Int), b - nodes, found, best, lst) = some (.inl (tu list p (b - nodes') true best' lst')) := q2
      simp only [q1', q2', Option.bind_some]
      exact ⟨_, _, _, rfl, rfl, best', least', nodes', lst', rfl, fun _ => ⟨rfl, q3⟩⟩
    · have q1' : loopO (spec_l24Search_run_l5 SS (ss list p b F best least nodes false)) (0, list, (p : Int), F, best, least, nodes, b, false) = some (ss list p b F best' least' nodes' true) := q1
      have q2' : loopO (impl_glueSearch_run_l5 SI (Gl p list F) F (is list p (b - nodes) found best lst)) (0, list, (p : Int), b - nodes, found, best, lst) = some (.inr (true, t')) := q2
      simp only [q1', q2', Option.bind_some]
      exact ⟨_, _, _, rfl, rfl, best', least', nodes', 0, rfl, fun h => by cases h⟩
end

theorem bg_same (list : List S_Bond) (pr b : Int) (hl : list.length ≤ 1048576) : ∃ (out : List Int) (l c : Int), out.length ≤ 12 ∧ spec_BestGlueOrder list pr b = some (out, l, c) ∧ impl_BestGlueOrder list pr b = some (out, l, c) := by
  obtain ⟨v, v1, v2⟩ := list_some list hl
  unfold spec_BestGlueOrder impl_BestGlueOrder impl_pressCode
  rw [list_eq, v1]
  simp only [in_eq, within_eq, Option.bind_some, decide_eq_true_eq]
  cases v with
  | false =>
    simp only [Bool.false_eq_true, if_false, Option.bind_some, impl_BestGlueOrder_k4]
    exact ⟨[], 0, 1, by simp, rfl, rfl⟩
  | true =>
    obtain ⟨h12, hbn⟩ := v2 rfl
    simp only [if_true]
    by_cases c1 : 1 ≤ pr ∧ pr ≤ 4
    · simp only [if_pos c1, Option.bind_some]
      by_cases c2 : 1 ≤ b ∧ b ≤ 20000
      · simp only [c2, and_self, decide_true, Bool.not_true, Bool.false_eq_true, if_false, if_true, Option.bind_some]
        obtain ⟨p, rfl⟩ : ∃ p : Nat, pr = (p : Int) := ⟨pr.toNat, by omega⟩
        obtain ⟨s', spent, t', r1, r2, best, least, nodes, lst, r3, r4⟩ := bg_run (p := p) (b := b) h12 hbn (by omega) (by omega) c2.1 c2.2 list.length [] [] (-1) 0 false 0 (by simp) (fun k hk => by cases hk) ⟨by omega, by omega, by simp, .inl ⟨rfl, rfl⟩⟩
        subst r3
        have r2' : impl_glueSearch_run (⟨list, p, b, false, [], 0⟩ : S_glueSearch) [] ⟨0, ⟨0, 0, 0, 0⟩, 0⟩ = some (spent, t') := by
          have : b - 0 = b := by omega
          rw [this] at r2
          exact r2
        unfold impl_BestGlueOrder_k4
        rw [r1, r2']
        simp only [Option.bind_some, ne_eq, not_true, if_false]
        cases spent with
        | true => exact ⟨[], 0, 5, by simp, rfl, rfl⟩
        | false =>
          obtain ⟨r5, i1, i2, i3, i4⟩ := r4 rfl
          subst r5
          simp only [Bool.false_eq_true, if_false]
          rcases i4 with ⟨i4, i5⟩ | ⟨i4, i5, i6⟩
          · cases i4
          · subst i5
            exact ⟨best, least, 0, i3, rfl, rfl⟩
      · simp only [c2, decide_false, Bool.not_false, if_true, Option.bind_some, impl_BestGlueOrder_k4]
        exact ⟨[], 0, 2, by simp, rfl, rfl⟩
    · simp only [if_neg c1, Option.bind_some, if_true, impl_BestGlueOrder_k4]
      exact ⟨[], 0, 2, by simp, rfl, rfl⟩


theorem bg_eqI (l : List Int) (h : l.length ≤ 1048576) : laws_eqInt64S l l = some true := by
  unfold laws_eqInt64S
  rw [if_neg (by simp), eqS_refl (n := l.length) (by omega) ?_ ?_]
  · rfl
  · intro i hi
    unfold laws_eqInt64S_l4
    rw [if_pos (by omega), rd_lt hi]
    simp
  · unfold laws_eqInt64S_l4
    simp

theorem bg_markI (l : List Int) (k : Int) (hk : 0 ≤ k) (h : k + l.length ≤ 1073741824) : laws_markInt64S l k = some (k + (l.length : Int), iota k l.length) := by
  unfold laws_markInt64S
  rw [markInt (f := laws_markInt64S_l2) l (k := k) (by omega) (by omega) ?_ ?_]
  · rfl
  · intro k i out hi
    unfold laws_markInt64S_l2
    simp only
    rw [if_pos (by omega), rd_lt hi]
    simp
  · intro k out
    unfold laws_markInt64S_l2
    simp

theorem bg_held (n : Nat) (k : Int) (hk : 0 ≤ k) (h : k + n ≤ 1073741824) : laws_heldInt64S (iota k n) k = some (k + (n : Int)) := by
  unfold laws_heldInt64S
  rw [heldInt (f := laws_heldInt64S_l2 (iota k n)) (n := n) (k := k) (by omega) (by omega) ?_ ?_]
  · rfl
  · intro i hi
    unfold laws_heldInt64S_l2
    simp only
    rw [if_pos (by rw [iota_length]; omega), rd_nat, iota_get _ _ _ hi]
    simp
  · unfold laws_heldInt64S_l2
    simp [iota_length]

theorem bg_markTextL : ∀ (n : Nat) (k : Int) (out : ByteArray), k.toNat ≤ n → out.size + k.toNat ≤ 4611686018427387904 → ∃ r, loopO laws_markText_l4 (k, out) = some r ∧ r.size ≤ out.size + k.toNat := by
  intro n
  induction n with
  | zero =>
    intro k out h1 h2
    refine ⟨out, loopO_done ?_, by omega⟩
    unfold laws_markText_l4
    simp only
    rw [if_neg (by omega)]
  | succ n ih =>
    intro k out h1 h2
    by_cases c : k > 0
    · have e1 : w64 (k.tdiv 10) = k.tdiv 10 := by
        rw [Int.tdiv_eq_ediv_of_nonneg (by omega)]
        exact w64_id (by omega) (by omega)
      have e2 : k.tdiv 10 = k / 10 := Int.tdiv_eq_ediv_of_nonneg (by omega)
      have hs : ∀ x : Int, (strOf [x]).size = 1 := fun x => rfl
      obtain ⟨r, hr, hr2⟩ := ih (k / 10) (strOf [IntKind.wrap .u8 (w64 (48 + k.tmod 10))] ++ out) (by omega) (by rw [ByteArray.size_append, hs]; omega)
      refine ⟨r, ?_, ?_⟩
      · rw [loopO_next (s' := (k / 10, strOf [IntKind.wrap .u8 (w64 (48 + k.tmod 10))] ++ out)) ?_]
        · exact hr
        · unfold laws_markText_l4 md dv
          simp only
          rw [if_pos c, if_neg (by decide), Option.bind_some, cat_some (by rw [hs]; omega), Option.bind_some, if_neg (by decide), Option.bind_some]
          have e3 : IntKind.wrap .i64 (k.tdiv 10) = k / 10 := by rw [← e2]; exact e1
          rw [e3]
      · rw [ByteArray.size_append, hs] at hr2
        omega
    · refine ⟨out, loopO_done ?_, by omega⟩
      unfold laws_markText_l4
      simp only
      rw [if_neg c]

theorem bg_markText (k : Int) (h : k ≤ 1073741824) : ∃ r, laws_markText k = some r := by
  unfold laws_markText
  split
  · exact ⟨_, rfl⟩
  · obtain ⟨r, hr, hr2⟩ := bg_markTextL k.toNat k ⟨#[]⟩ (Nat.le_refl _) (by show 0 + _ ≤ _; omega)
    have h0 : (⟨#[]⟩ : ByteArray).size = 0 := rfl
    have h1 : (⟨#[109]⟩ : ByteArray).size = 1 := rfl
    rw [hr, Option.bind_some, cat_some (by rw [h1]; omega), Option.bind_some]
    exact ⟨_, rfl⟩

theorem bg_szBond (x : S_Bond) (left : Int) (h0 : x.Name.size ≤ 9223372036854775807) (h3 : 0 ≤ left) (h4 : left ≤ 1048576) : ∃ v, v ≤ left ∧ laws_szBond x left = some v := by
  unfold laws_szBond
  have e0 : w64 (left - (x.Name.size : Int)) = left - (x.Name.size : Int) := w64_id (by omega) (by omega)
  rw [e0]
  by_cases c0 : left - (x.Name.size : Int) < 0
  · rw [if_pos c0]; exact ⟨_, by omega, rfl⟩
  rw [if_neg c0]
  exact ⟨_, by omega, rfl⟩

theorem bg_szBondS (l : List S_Bond) (hl : l.length ≤ 9223372036854775807) (h : ∀ x ∈ l, x.Name.size ≤ 9223372036854775807) {left : Int} (h0 : 0 ≤ left) (h1 : left ≤ 1048576) :
    ∃ v, v ≤ left ∧ laws_szBondS l left = some v ∧ (v < 0 ∨ l.length ≤ 1048576) := by
  unfold laws_szBondS
  have e1 : w64 (left - (l.length : Int)) = left - (l.length : Int) := w64_id (by omega) (by omega)
  rw [e1]
  by_cases c1 : left - (l.length : Int) < 0
  · rw [if_pos c1]; exact ⟨_, by omega, rfl, .inl (by omega)⟩
  rw [if_neg c1]
  obtain ⟨r, r1, r2⟩ := szL (f := laws_szBondS_l5 l) l (by omega) 1048576 (fun i hi u hu1 hu2 => by
    have hx := h _ (List.getElem_mem hi)
    obtain ⟨v, v1, v2⟩ := bg_szBond l[i] u hx hu1 hu2
    refine ⟨v, v1, ?_⟩
    unfold laws_szBondS_l5
    simp only
    rw [if_pos (by omega), rd_lt hi, Option.bind_some, v2, Option.bind_some]) (fun u => by
    unfold laws_szBondS_l5
    simp only
    rw [if_neg (by omega)]) (left := left - (l.length : Int)) (by omega) (by omega)
  rw [r1]
  rcases r2 with rfl | ⟨v, rfl, r3, r4⟩
  · exact ⟨_, by omega, rfl, .inl (by omega)⟩
  · exact ⟨_, by omega, rfl, .inr (by omega)⟩

theorem bg_toBondS (l : List S_Bond) (h : l.length ≤ 1048576) : laws_toBondS l = some l := by
  unfold laws_toBondS mkl
  rw [if_pos (by constructor <;> omega), Option.bind_some]
  rw [copyS (f := laws_toBondS_l3 l) l _ (by simp) (by omega) ?_ ?_]
  · rfl
  · intro i hi out ho
    unfold laws_toBondS_l3 laws_toBond
    simp only
    rw [if_pos (by omega), rd_lt hi, Option.bind_some, Option.bind_some, rd_lt (by omega : i < out.length), Option.bind_some]
    simp
  · intro out
    unfold laws_toBondS_l3
    simp

theorem bg_eqBondS (l : List S_Bond) (h : l.length ≤ 1048576) : laws_eqBondS l l = some true := by
  unfold laws_eqBondS
  rw [if_neg (by simp), eqS_refl (n := l.length) (by omega) ?_ ?_]
  · rfl
  · intro i hi
    unfold laws_eqBondS_l4
    rw [if_pos (by omega), rd_lt hi]
    simp [laws_eqBond]
  · unfold laws_eqBondS_l4
    simp

theorem bg_markBondS (l : List S_Bond) (h : l.length ≤ 1048576) {k0 : Int} (h0 : 0 ≤ k0) (h1 : k0 ≤ 1073741824 - 4 * 1048577) : ∃ k' out', laws_markBondS l k0 = some (k', out') ∧ k0 ≤ k' ∧ out'.length = l.length := by
  unfold laws_markBondS
  obtain ⟨k', out', q1, q2, q3⟩ := markL (f := laws_markBondS_l2) (c := 4) (1073741824 - 4) (fun k i out hi hk1 hk2 => by
      have w0 : w64 (k + 1) = k + 1 := by rw [w64_id (by omega) (by omega)]
      have w1 : w64 (k + 1 + 1) = k + 2 := by rw [w64_id (by omega) (by omega)]; omega
      have w2 : w64 (k + 2 + 1) = k + 3 := by rw [w64_id (by omega) (by omega)]; omega
      have w3 : w64 (k + 3 + 1) = k + 4 := by rw [w64_id (by omega) (by omega)]; omega
      obtain ⟨r0, hr0⟩ := bg_markText (k) (by omega)
      have hget : ∃ o2, laws_markBondS_l2 (k, (i : Int), out) = some (.inl (k + 4, w64 ((i : Int) + 1), o2)) ∧ o2.length = out.length := by
        unfold laws_markBondS_l2
        simp only
        rw [if_pos (by omega)]
        simp only [rd_nat, Int.toNat_natCast, List.length_set, List.getElem?_set_self, List.getElem?_eq_getElem hi, hi, Option.bind_some, w0, w1, w2, w3, hr0]
        exact ⟨_, rfl, by simp⟩
      obtain ⟨o2, g1, g2⟩ := hget
      exact ⟨k + 4, o2, g2, by omega, by omega, g1⟩) (fun k out => by
      unfold laws_markBondS_l2
      simp only
      rw [if_neg (by omega)]) l h0 (by omega) (by omega)
  rw [q1]
  exact ⟨k', out', rfl, q2, q3⟩



theorem law_BestGlueOrder (l : List S_Bond) (pr b : Int) (hl : l.length ≤ 9223372036854775807) (h : ∀ x ∈ l, x.Name.size ≤ 9223372036854775807) : laws_FnExactBestGlueOrder l pr b = some true := by
  unfold laws_FnExactBestGlueOrder
  obtain ⟨v, _, hv, hc⟩ := bg_szBondS l hl h (left := 1048576) (by omega) (by omega)
  rw [hv, Option.bind_some]
  by_cases cv : v < 0
  · rw [if_pos cv]
  · rw [if_neg cv]
    have hn : l.length ≤ 1048576 := by omega
    obtain ⟨r, s, c, r6, hs, hi⟩ := bg_same l pr b hn
    obtain ⟨mo, hm, hm1, hm2, hm3⟩ := bg_markBondS l hn (k0 := 1) (by omega) (by omega)
    have hm4 := bg_markI r 1 (by omega) (by omega)
    have hh := bg_held r.length 1 (by omega) (by omega)
    have e1 := bg_eqI r (by omega)
    have hm' : ¬ mo < 0 := by omega
    have h3 : ¬ (1 + (r.length : Int) < 0) := by omega
    simp only [bg_toBondS l hn, hs, hi, e1, bg_eqBondS l hn, hm1, hm4, hh, Option.bind_some, if_true, hm', h3, if_false]
    simp

end Go.Pw
