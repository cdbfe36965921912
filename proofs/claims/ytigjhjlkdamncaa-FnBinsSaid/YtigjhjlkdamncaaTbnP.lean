/- The plain law of FnBins. Conditions: none. -/
import Derived.Test.YtigjhjlkdamncaaTbnT
import Derived.Test.YtigjhjlkdamncaaSimPe
namespace Go.Pw
open Go.Sim (min2 max2)
set_option linter.unusedVariables false
set_option linter.unusedSimpArgs false

theorem within_eq (n a b : Int) : impl_within n a b = some (decide (a ≤ n ∧ n ≤ b)) := by
  unfold impl_within
  rw [Bool.decide_and]
theorem in_eq (n a b : Int) : spec_l00In n a b = some (decide (a ≤ n ∧ n ≤ b)) := by
  unfold spec_l00In
  rw [Bool.decide_and]

/-- Names: both sides say the same. -/
theorem name_step (s : ByteArray) (i : Int) : impl_IsName_l4 s i = spec_l01Name_l4 s i := by
  unfold impl_IsName_l4 spec_l01Name_l4
  by_cases c : i < (s.size : Int)
  · rw [if_pos c, if_pos c]
    cases bt s i with
    | none => rfl
    | some x =>
      have d1 : decide (x ≥ 97) = !decide (x < 97) := by rw [← decide_not]; exact decide_eq_decide.2 (by omega)
      have d2 : decide (x ≤ 122) = !decide (x > 122) := by rw [← decide_not]; exact decide_eq_decide.2 (by omega)
      have d3 : decide (x ≥ 48) = !decide (x < 48) := by rw [← decide_not]; exact decide_eq_decide.2 (by omega)
      have d4 : decide (x ≤ 57) = !decide (x > 57) := by rw [← decide_not]; exact decide_eq_decide.2 (by omega)
      simp only [Option.bind_some, spec_l01Small, spec_l01Digit, d1, d2, d3, d4]
      by_cases c1 : x < 97 <;> by_cases c2 : x > 122 <;> by_cases c3 : x < 48 <;> by_cases c4 : x > 57 <;> simp [c1, c2, c3, c4]
  · rw [if_neg c, if_neg c]

theorem name_eq (s : ByteArray) : ∃ v, spec_l01Name s = some v ∧ impl_IsName s = some v := by
  unfold spec_l01Name impl_IsName
  by_cases c0 : s.size = 0
  · have hs := size_zero c0
    refine ⟨false, ?_, ?_⟩
    · rw [if_pos hs]; rfl
    · rw [if_pos (by omega)]; rfl
  · have hs : ¬ s = ⟨#[]⟩ := fun h => c0 (by rw [h]; rfl)
    rw [if_neg hs, if_neg (show ¬ ((s.size : Int) < 1) by omega)]
    by_cases c1 : (s.size : Int) > 10
    · rw [if_pos c1, if_pos c1]
      exact ⟨false, rfl, rfl⟩
    · rw [if_neg c1, if_neg c1]
      obtain ⟨b, hb, hb1, hb2⟩ := bt_some (s := s) (i := 0) (by omega)
      have hb' : bt s 0 = some b := hb
      rw [hb']
      have hloop : ∃ o, loopO (spec_l01Name_l4 s) 0 = some o := by
        refine scanEnds s.size (by omega) (fun i hi => ?_) ⟨.inl (), ?_⟩
        · obtain ⟨x, hx, _⟩ := bt_some (s := s) hi
          unfold spec_l01Name_l4
          rw [if_pos (by omega), hx]
          simp only [Option.bind_some, spec_l01Small, spec_l01Digit]
          split
          · simp
          · simp only [Option.bind_some]
            split
            · exact .inr ⟨_, rfl⟩
            · exact .inl rfl
        · unfold spec_l01Name_l4
          rw [if_neg (by omega)]
      obtain ⟨o, ho⟩ := hloop
      have ho2 : loopO (impl_IsName_l4 s) 0 = some o := by rw [loopO_congr (name_step s)]; exact ho
      rw [ho, ho2]
      have e : (if b < 97 then some true else some (decide (b > 122))) = some (!(decide (b ≥ 97) && decide (b ≤ 122))) := by
        have d1 : decide (b ≥ 97) = !decide (b < 97) := by rw [← decide_not]; exact decide_eq_decide.2 (by omega)
        have d2 : decide (b ≤ 122) = !decide (b > 122) := by rw [← decide_not]; exact decide_eq_decide.2 (by omega)
        rw [d1, d2]
        by_cases c2 : b < 97 <;> by_cases c3 : b > 122 <;> simp [c2, c3]
      simp only [Option.bind_some, spec_l01Small]
      rw [e]
      simp only [Option.bind_some]
      split
      · exact ⟨false, rfl, rfl⟩
      · cases o with
        | inl u => exact ⟨true, rfl, rfl⟩
        | inr r => exact ⟨r, rfl, rfl⟩


theorem nm (s : ByteArray) : impl_IsName s = spec_l01Name s := by
  obtain ⟨v, h1, h2⟩ := name_eq s
  rw [h1, h2]

def Sr (c : List Int) (n : Int) (s : S_l00Src) : Prop := s.code = c ∧ 0 ≤ s.at_ ∧ s.at_ ≤ n

theorem Sr.mono {c : List Int} {n m : Int} {s : S_l00Src} (h : Sr c n s) (hm : n ≤ m) : Sr c m s := ⟨h.1, h.2.1, by have := h.2.2; omega⟩

theorem and255 (x : Int) : 0 ≤ bit_and .u64 x 255 ∧ bit_and .u64 x 255 ≤ 255 := by
  unfold bit_and
  have h1 : (BitVec.ofInt IntKind.u64.bits x &&& BitVec.ofInt IntKind.u64.bits 255).toNat ≤ 255 := by
    rw [BitVec.toNat_and]
    exact Nat.le_trans Nat.and_le_right (by decide)
  generalize (BitVec.ofInt IntKind.u64.bits x &&& BitVec.ofInt IntKind.u64.bits 255).toNat = k at h1
  have e : IntKind.wrap .u64 (k : Int) = (k : Int) := by
    simp only [IntKind.wrap, IntKind.signed, IntKind.bits]
    simp
    omega
  rw [e]
  omega

theorem next_ok {c : List Int} (hc : ∀ x ∈ c, 0 ≤ x ∧ x ≤ 255) {n : Int} (hn : n ≤ 1000000000) {s : S_l00Src} (h : Sr c n s) : ∃ v s', spec_l00Src_next s = some (v, s') ∧ 0 ≤ v ∧ v ≤ 255 ∧ Sr c (n + 1) s' := by
  obtain ⟨h1, h2, h3⟩ := h
  have e1 : w64 (s.at_ + 1) = s.at_ + 1 := w64_id (by omega) (by omega)
  have k4 : ∀ b, 0 ≤ b → b ≤ 255 → ∃ v s', spec_l00Src_next_k4 s b = some (v, s') ∧ 0 ≤ v ∧ v ≤ 255 ∧ Sr c (n + 1) s' := by
    intro b b1 b2
    unfold spec_l00Src_next_k4 shr
    rw [e1]
    by_cases q : s.at_ + 1 ≤ (s.code.length : Int)
    · rw [if_pos q]
      exact ⟨_, _, rfl, b1, b2, h1, by show 0 ≤ s.at_ + 1; omega, by show s.at_ + 1 ≤ n + 1; omega⟩
    · rw [if_neg q, if_neg (by decide)]
      simp only [Option.bind_some]
      have a := and255 (Int.fdiv (IntKind.wrap .u64 ((IntKind.wrap .u64 ((IntKind.wrap .u64 (s.seed * 6364136223846793005)) + (IntKind.wrap .u64 b))) + 1442695040888963407)) (2 ^ min (Int.toNat 40) IntKind.u64.bits))
      refine ⟨_, _, rfl, ?_, ?_, h1, by show 0 ≤ s.at_ + 1; omega, by show s.at_ + 1 ≤ n + 1; omega⟩
      · rw [w64_id (by omega) (by omega)]; exact a.1
      · rw [w64_id (by omega) (by omega)]; exact a.2
  unfold spec_l00Src_next
  by_cases q : s.at_ < (s.code.length : Int)
  · rw [if_pos q]
    obtain ⟨i, hi⟩ : ∃ i : Nat, s.at_ = (i : Int) := ⟨s.at_.toNat, by omega⟩
    have hlt : i < s.code.length := by omega
    rw [hi, rd_lt hlt, Option.bind_some]
    have hb := hc s.code[i] (by rw [← h1]; exact List.getElem_mem hlt)
    rw [w64_id (by omega) (by omega)]
    exact k4 _ hb.1 hb.2
  · rw [if_neg q]
    exact k4 0 (by omega) (by omega)

theorem pick_ok {c : List Int} (hc : ∀ x ∈ c, 0 ≤ x ∧ x ≤ 255) {n : Int} (hn : n ≤ 999999999) {s : S_l00Src} (h : Sr c n s) (m : Int) : ∃ v s', spec_l00Src_pick s m = some (v, s') ∧ 0 ≤ v ∧ (1 ≤ m → v < m) ∧ Sr c (n + 2) s' := by
  unfold spec_l00Src_pick
  by_cases q : m ≤ 1
  · rw [if_pos q]
    exact ⟨_, _, rfl, by omega, by omega, h.mono (by omega)⟩
  · rw [if_neg q]
    obtain ⟨v, s1, e1, v1, v2, h1⟩ := next_ok hc (by omega) h
    have k6 : ∀ (x : Int) (t : S_l00Src), 0 ≤ x → Sr c (n + 2) t → ∃ v s', spec_l00Src_pick_k6 m x t.code t.at_ t.seed = some (v, s') ∧ 0 ≤ v ∧ (1 ≤ m → v < m) ∧ Sr c (n + 2) s' := by
      intro x t hx ht
      unfold spec_l00Src_pick_k6 md
      rw [if_neg (by omega), Option.bind_some]
      have e : x.tmod m = x % m := Int.tmod_eq_emod_of_nonneg hx
      refine ⟨_, _, rfl, ?_, fun _ => ?_, ht⟩
      · rw [e]; exact Int.emod_nonneg _ (by omega)
      · rw [e]; exact Int.emod_lt_of_pos _ (by omega)
    simp only [e1, Option.bind_some]
    by_cases q2 : m > 200
    · rw [if_pos q2]
      obtain ⟨w, s2, e2, w1, w2, h2⟩ := next_ok hc (n := n + 1) (by omega) h1
      simp only [e2, Option.bind_some]
      have a1 : w64 (v * 256) = v * 256 := w64_id (by omega) (by omega)
      have a2 : w64 (v * 256 + w) = v * 256 + w := w64_id (by omega) (by omega)
      rw [a1, a2]
      exact k6 _ s2 (by omega) (h2.mono (by omega))
    · rw [if_neg q2]
      exact k6 v s1 v1 (h1.mono (by omega))

theorem one_ok {c : List Int} (hc : ∀ x ∈ c, 0 ≤ x ∧ x ≤ 255) {n : Int} (hn : n ≤ 999999999) {s : S_l00Src} (h : Sr c n s) (m : Int) : ∃ v s', spec_l00Src_one s m = some (v, s') ∧ Sr c (n + 2) s' := by
  obtain ⟨v, s', e, _, _, h'⟩ := pick_ok hc hn h m
  unfold spec_l00Src_one
  rw [e]
  exact ⟨_, _, rfl, h'⟩

theorem among_ok {c : List Int} (hc : ∀ x ∈ c, 0 ≤ x ∧ x ≤ 255) {n : Int} (hn : n ≤ 999999999) {s : S_l00Src} (h : Sr c n s) (l : List Int) (hl : 1 ≤ l.length) : ∃ v s', spec_l00Src_among s l = some (v, s') ∧ v ∈ l ∧ Sr c (n + 2) s' := by
  obtain ⟨v, s', e, v1, v2, h'⟩ := pick_ok hc hn h (l.length : Int)
  have v3 := v2 (by omega)
  obtain ⟨i, hi⟩ : ∃ i : Nat, v = (i : Int) := ⟨v.toNat, by omega⟩
  subst hi
  have hlt : i < l.length := by omega
  unfold spec_l00Src_among
  rw [e]
  simp only [Option.bind_some, rd_lt hlt]
  exact ⟨_, _, rfl, List.getElem_mem hlt, h'⟩

theorem text_ok {c : List Int} (hc : ∀ x ∈ c, 0 ≤ x ∧ x ≤ 255) {n : Int} (hn : n ≤ 999999999) {s : S_l00Src} (h : Sr c n s) (l : List ByteArray) (hl : 1 ≤ l.length) : ∃ v s', spec_l00Src_text s l = some (v, s') ∧ Sr c (n + 2) s' := by
  obtain ⟨v, s', e, v1, v2, h'⟩ := pick_ok hc hn h (l.length : Int)
  have v3 := v2 (by omega)
  obtain ⟨i, hi⟩ : ∃ i : Nat, v = (i : Int) := ⟨v.toNat, by omega⟩
  subst hi
  have hlt : i < l.length := by omega
  unfold spec_l00Src_text
  rw [e]
  simp only [Option.bind_some, rd_lt hlt]
  exact ⟨_, _, rfl, h'⟩

theorem from_ok (c : List Int) : ∃ s, spec_l00From c = some s ∧ Sr c 0 s := ⟨_, rfl, rfl, by show (0 : Int) ≤ 0; omega, by show (0 : Int) ≤ 0; omega⟩

theorem next_ev {c : List Int} (hc : ∀ x ∈ c, 0 ≤ x ∧ x ≤ 255) {n : Int} {s : S_l00Src} (h : Sr c n s) (hn : n ≤ 999999999) : Ev (spec_l00Src_next s) (fun r => 0 ≤ r.1 ∧ r.1 ≤ 255 ∧ Sr c (n + 1) r.2) := by
  obtain ⟨v, s', e, h1, h2, h3⟩ := next_ok hc (by omega) h
  exact ⟨_, e, h1, h2, h3⟩
theorem pick_ev {c : List Int} (hc : ∀ x ∈ c, 0 ≤ x ∧ x ≤ 255) {n : Int} {s : S_l00Src} (h : Sr c n s) (hn : n ≤ 999999999) (m : Int) : Ev (spec_l00Src_pick s m) (fun r => 0 ≤ r.1 ∧ (1 ≤ m → r.1 < m) ∧ Sr c (n + 2) r.2) := by
  obtain ⟨v, s', e, h1, h2, h3⟩ := pick_ok hc (by omega) h m
  exact ⟨_, e, h1, h2, h3⟩
theorem one_ev {c : List Int} (hc : ∀ x ∈ c, 0 ≤ x ∧ x ≤ 255) {n : Int} {s : S_l00Src} (h : Sr c n s) (hn : n ≤ 999999999) (m : Int) : Ev (spec_l00Src_one s m) (fun r => Sr c (n + 2) r.2) := by
  obtain ⟨v, s', e, h3⟩ := one_ok hc (by omega) h m
  exact ⟨_, e, h3⟩
theorem among_ev {c : List Int} (hc : ∀ x ∈ c, 0 ≤ x ∧ x ≤ 255) {n : Int} {s : S_l00Src} (h : Sr c n s) (hn : n ≤ 999999999) (l : List Int) (hl : 1 ≤ l.length) : Ev (spec_l00Src_among s l) (fun r => r.1 ∈ l ∧ Sr c (n + 2) r.2) := by
  obtain ⟨v, s', e, h1, h3⟩ := among_ok hc (by omega) h l hl
  exact ⟨_, e, h1, h3⟩
theorem text_ev {c : List Int} (hc : ∀ x ∈ c, 0 ≤ x ∧ x ≤ 255) {n : Int} {s : S_l00Src} (h : Sr c n s) (hn : n ≤ 999999999) (l : List ByteArray) (hl : 1 ≤ l.length) : Ev (spec_l00Src_text s l) (fun r => Sr c (n + 2) r.2) := by
  obtain ⟨v, s', e, h3⟩ := text_ok hc (by omega) h l hl
  exact ⟨_, e, h3⟩
theorem from_ev (c : List Int) : Ev (spec_l00From c) (fun s => Sr c 0 s) := by
  obtain ⟨s, h1, h2⟩ := from_ok c
  exact ⟨s, h1, h2⟩

theorem budget_ok {c : List Int} (hc : ∀ x ∈ c, 0 ≤ x ∧ x ≤ 255) {n : Int} (hn : n ≤ 990000000) {s : S_l00Src} (h : Sr c n s) : ∃ v s', spec_l08DrawBudget s = some (v, s') ∧ Sr c (n + 4) s' := by
  unfold spec_l08DrawBudget
  obtain ⟨v1, s1, e1, h1⟩ := one_ok hc (by omega) h 6
  simp only [e1, Option.bind_some]
  by_cases c1 : v1 = true
  · rw [if_pos c1]
    obtain ⟨v2, s2, e2, _, h2⟩ := among_ok hc (by omega) h1 [0, 1, 5, 20000, 20001] (by decide)
    simp only [e2, Option.bind_some]
    exact ⟨_, _, rfl, h2.mono (by omega)⟩
  · rw [if_neg c1]
    obtain ⟨v2, s2, e2, _, _, h2⟩ := pick_ok hc (by omega) h1 400
    simp only [e2, Option.bind_some]
    exact ⟨_, _, rfl, h2.mono (by omega)⟩

theorem apd1 {l : List Int} {x : Int} (h : l.length ≤ 1000000) : apd 8 l [x] = some (l ++ [x]) := by
  unfold apd
  rw [if_pos (by simp; omega)]
theorem apd0 {l : List Int} (h : l.length ≤ 1000000) : apd 8 ([] : List Int) l = some l := by
  unfold apd
  rw [if_pos (by simp; omega)]
  rfl

/-- One element is brought to its place: the others are kept. -/
theorem ins_in {cmp : Int → Int → Option Int} : ∀ (j : Nat) (l : List Int), j < l.length → l.length ≤ 1048576 → (∀ x ∈ l, ∀ y ∈ l, ∃ v, cmp x y = some v) →
    ∃ l', loopO (slices_insertionSortCmpFunc_int_l4 0 cmp) ((j : Int), l) = some l' ∧ l'.Perm l := by
  intro j
  induction j with
  | zero =>
    intro l hj hl hc
    refine ⟨l, loopO_done ?_, List.Perm.refl _⟩
    unfold slices_insertionSortCmpFunc_int_l4
    simp only
    rw [if_neg (by omega)]
    simp
  | succ j ih =>
    intro l hj hl hc
    have hp : w64 (((j + 1 : Nat) : Int) - 1) = ((j : Nat) : Int) := by rw [w64_id (by omega) (by omega)]; omega
    have hj' : j < l.length := by omega
    obtain ⟨v, hv⟩ := hc l[j + 1] (List.getElem_mem hj) l[j] (List.getElem_mem hj')
    by_cases c : v < 0
    · have S1 : slices_insertionSortCmpFunc_int_l4 0 cmp (((j + 1 : Nat) : Int), l) = some (.inl ((j : Int), (l.set (j + 1) l[j]).set j l[j + 1])) := by
        unfold slices_insertionSortCmpFunc_int_l4
        simp only
        rw [if_pos (by omega), rd_lt hj, Option.bind_some, hp, rd_lt hj', Option.bind_some, hv]
        simp only [Option.bind_some, decide_eq_true_eq]
        rw [if_pos c, rd_lt (show j < (l.set ((j + 1 : Nat) : Int).toNat l[j]).length by rw [List.length_set]; exact hj')]
        rfl
      rw [loopO_next S1]
      have pm : ((l.set (j + 1) l[j]).set j l[j + 1]).Perm l := List.set_set_perm hj hj'
      obtain ⟨l', h1, h2⟩ := ih _ (by simp; omega) (by simp; omega) (fun x hx y hy => hc x (pm.mem_iff.1 hx) y (pm.mem_iff.1 hy))
      exact ⟨l', h1, h2.trans pm⟩
    · refine ⟨l, loopO_done ?_, List.Perm.refl _⟩
      unfold slices_insertionSortCmpFunc_int_l4
      simp only
      rw [if_pos (by omega), rd_lt hj, Option.bind_some, hp, rd_lt hj', Option.bind_some, hv]
      simp only [Option.bind_some, decide_eq_true_eq]
      rw [if_neg c]

/-- The elements one after the other. -/
theorem ins_out {cmp : Int → Int → Option Int} : ∀ (m i : Nat) (l : List Int), i + m = l.length → l.length ≤ 1048576 → (∀ x ∈ l, ∀ y ∈ l, ∃ v, cmp x y = some v) →
    ∃ l', loopO (slices_insertionSortCmpFunc_int_l1 0 (l.length : Int) cmp) ((i : Int), l) = some l' ∧ l'.Perm l := by
  intro m
  induction m with
  | zero =>
    intro i l hi hl hc
    refine ⟨l, loopO_done ?_, List.Perm.refl _⟩
    unfold slices_insertionSortCmpFunc_int_l1
    simp only
    rw [if_neg (by omega)]
  | succ m ih =>
    intro i l hi hl hc
    obtain ⟨l1, h1, h2⟩ := ins_in i l (by omega) hl hc
    have S1 : slices_insertionSortCmpFunc_int_l1 0 (l.length : Int) cmp ((i : Int), l) = some (.inl (((i + 1 : Nat) : Int), l1)) := by
      unfold slices_insertionSortCmpFunc_int_l1
      simp only
      rw [if_pos (by omega), h1, Option.bind_some, w64_succ (by omega)]
    rw [loopO_next S1]
    have e := h2.length_eq
    obtain ⟨l', h3, h4⟩ := ih (i + 1) l1 (by omega) (by omega) (fun x hx y hy => hc x (h2.mem_iff.1 hx) y (h2.mem_iff.1 hy))
    rw [e] at h3
    exact ⟨l', h3, h4.trans h2⟩

theorem ins_all {cmp : Int → Int → Option Int} {l : List Int} (hl : l.length ≤ 1048576) (hc : ∀ x ∈ l, ∀ y ∈ l, ∃ v, cmp x y = some v) :
    ∃ l', slices_insertionSortCmpFunc_int l 0 (l.length : Int) cmp = some l' ∧ l'.Perm l := by
  unfold slices_insertionSortCmpFunc_int
  have e : w64 (0 + 1) = 1 := rfl
  rw [e]
  cases l with
  | nil =>
    refine ⟨[], ?_, List.Perm.refl _⟩
    have : loopO (slices_insertionSortCmpFunc_int_l1 0 (([] : List Int).length : Int) cmp) (1, []) = some [] := by
      refine loopO_done ?_
      unfold slices_insertionSortCmpFunc_int_l1
      simp
    rw [this]
    rfl
  | cons x l =>
    obtain ⟨l', h1, h2⟩ := ins_out l.length 1 (x :: l) (by simp; omega) hl hc
    have h1' : loopO (slices_insertionSortCmpFunc_int_l1 0 ((x :: l).length : Int) cmp) (1, x :: l) = some l' := h1
    rw [h1']
    exact ⟨l', rfl, h2⟩

/-- A short list, sorted: its elements in some order. -/
theorem sort_perm {cmp : Int → Int → Option Int} {l : List Int} (hl : l.length ≤ 19) (hc : ∀ x ∈ l, ∀ y ∈ l, ∃ v, cmp x y = some v) :
    ∃ l', slices_SortStableFunc_int_int l cmp = some l' ∧ l'.Perm l := by
  unfold slices_SortStableFunc_int_int slices_stableCmpFunc_int
  have h1 : loopO (slices_stableCmpFunc_int_l2 cmp (l.length : Int)) (0, 20, l) = some (0, l) := by
    refine loopO_done ?_
    unfold slices_stableCmpFunc_int_l2
    simp only
    rw [if_neg (by omega)]
  obtain ⟨l', h2, h3⟩ := ins_all (by omega) hc
  have h4 : loopO (slices_stableCmpFunc_int_l7 cmp (l.length : Int)) (20, l') = some l' := by
    refine loopO_done ?_
    unfold slices_stableCmpFunc_int_l7
    simp only
    rw [if_neg (by omega)]
  refine ⟨l', ?_, h3⟩
  rw [h1]
  simp only [Option.bind_some, h2, h4]


theorem bladeok_ev {c : List Int} (hc : ∀ x ∈ c, 0 ≤ x ∧ x ≤ 255) {n : Int} {s : S_l00Src} (h : Sr c n s) (hn : n ≤ 990000000) : Ev (spec_l16DrawOk s) (fun r => Sr c (n + 8) r.2) := by
  unfold spec_l16DrawOk
  refine Ev.bind (text_ev hc h (by omega) _ (by decide)) fun r1 h1 => ?_
  refine Ev.bind (pick_ev hc h1 (by omega) _) fun r2 h2 => ?_
  refine Ev.bind (pick_ev hc h2.2.2 (by omega) _) fun r3 h3 => ?_
  refine Ev.bind (among_ev hc h3.2.2 (by omega) _ (by decide)) fun r4 h4 => ?_
  exact Ev.ret (h4.2.mono (by omega))

theorem blade_ev {c : List Int} (hc : ∀ x ∈ c, 0 ≤ x ∧ x ≤ 255) {n : Int} {s : S_l00Src} (h : Sr c n s) (hn : n ≤ 990000000) : Ev (spec_l16Draw s) (fun r => Sr c (n + 20) r.2) := by
  unfold spec_l16Draw
  refine Ev.bind (bladeok_ev hc h (by omega)) fun r1 h1 => ?_
  refine Ev.bind (pick_ev hc h1 (by omega) _) fun r2 h2 => ?_
  have k : ∀ (t : S_l00Src) a b d e, Sr c (n + 20) t → Ev (spec_l16Draw_k11 t.code t.at_ t.seed a b d e) (fun r => Sr c (n + 20) r.2) := fun t a b d e ht => Ev.ret ht
  refine Ev.ite (fun _ => Ev.bind (among_ev hc h2.2.2 (by omega) _ (by decide)) fun r h => k _ _ _ _ _ (h.2.mono (by omega))) fun _ => ?_
  refine Ev.ite (fun _ => Ev.bind (among_ev hc h2.2.2 (by omega) _ (by decide)) fun r h => k _ _ _ _ _ (h.2.mono (by omega))) fun _ => ?_
  refine Ev.ite (fun _ => Ev.bind (among_ev hc h2.2.2 (by omega) _ (by decide)) fun r h => k _ _ _ _ _ (h.2.mono (by omega))) fun _ => ?_
  refine Ev.ite (fun _ => Ev.bind (text_ev hc h2.2.2 (by omega) _ (by decide)) fun r h => k _ _ _ _ _ (h.mono (by omega))) fun _ => ?_
  exact k _ _ _ _ _ (h2.2.2.mono (by omega))

theorem cut_ev {c : List Int} (hc : ∀ x ∈ c, 0 ≤ x ∧ x ≤ 255) {n : Int} {s : S_l00Src} (h : Sr c n s) (hn : n ≤ 990000000) (id : ByteArray) : Ev (spec_l16DrawCutting s id) (fun r => Sr c (n + 4) r.2) := by
  unfold spec_l16DrawCutting
  refine Ev.bind (pick_ev hc h (by omega) _) fun r2 h2 => ?_
  refine Ev.bind (among_ev hc h2.2.2 (by omega) _ (by decide)) fun r4 h4 => ?_
  exact Ev.ret (h4.2.mono (by omega))

theorem cuts_ev {c : List Int} (hc : ∀ x ∈ c, 0 ≤ x ∧ x ≤ 255) {n : Int} {s : S_l00Src} (h : Sr c n s) (hn : n ≤ 980000000) : Ev (spec_l16DrawList s) (fun r => r.1.length ≤ 20 ∧ Sr c (n + 200) r.2) := by
  unfold spec_l16DrawList
  refine Ev.bind (P := fun r => r.2.2.2.length ≤ 7 ∧ Sr c (n + 100) ⟨r.1, r.2.1, r.2.2.1⟩) (Ev.loop (fun s => 0 ≤ s.1 ∧ s.1 ≤ 7 ∧ (s.2.2.2.2.length : Int) ≤ s.1 ∧ Sr c (n + 10 * s.1) ⟨s.2.1, s.2.2.1, s.2.2.2.1⟩) (fun s => (7 - s.1).toNat) ?_ ⟨by simp, by simp, by simp, h.mono (by simp)⟩) ?_
  · rintro ⟨k, t1, t2, t3, l⟩ ⟨k0, k1, k2, ht⟩
    unfold spec_l16DrawList_l4 spec_l16DrawList_k5
    simp only [List.length_cons, List.length_nil] at k0 k1 k2 ht ⊢
    refine Ev.ite (fun hk => ?_) fun hk => Ev.ret ⟨by simp only; omega, ht.mono (by omega)⟩
    refine Ev.bind (one_ev hc ht (by omega) _) fun r1 h1 => ?_
    rw [w64_id (by omega) (by omega)]
    refine Ev.ite (fun _ => ?_) fun _ => Ev.ret ⟨⟨by simp only; omega, by simp only; omega, by simp only; omega, h1.mono (by simp only; omega)⟩, by simp only; omega⟩
    refine Ev.bind (Ev.rd k0 (by simp only [List.length_cons, List.length_nil]; omega)) fun x hx => ?_
    refine Ev.bind (cut_ev hc h1 (by omega) _) fun r2 h2 => ?_
    refine Ev.bind (Ev.apd (by simp only [List.length_singleton]; omega)) fun y hy => ?_
    subst hy
    exact Ev.ret ⟨⟨by simp only; omega, by simp only; omega, by simp only [List.length_append, List.length_singleton]; omega, h2.mono (by simp only; omega)⟩, by simp only; omega⟩
  · rintro ⟨a1, a2, a3, l⟩ ⟨hl, ht⟩
    simp only at hl ht ⊢
    refine Ev.bind (pick_ev hc ht (by omega) _) fun r1 h1 => ?_
    have k : ∀ (t : S_l00Src) l, Sr c (n + 200) t → l.length ≤ 20 → Ev (spec_l16DrawList_k20 t.code t.at_ t.seed l) (fun r => r.1.length ≤ 20 ∧ Sr c (n + 200) r.2) := fun t l ht hl => Ev.ret ⟨hl, ht⟩
    refine Ev.ite (fun _ => ?_) fun _ => Ev.ite (fun _ => ?_) fun _ => Ev.ite (fun _ => ?_) fun _ => k _ _ (h1.2.2.mono (by omega)) (by omega)
    · refine Ev.bind (among_ev hc h1.2.2 (by omega) _ (by decide)) fun r2 h2 => ?_
      refine Ev.bind (Ev.apd (by simp only [List.length_singleton]; omega)) fun y hy => ?_
      subst hy
      exact k _ _ (h2.2.mono (by omega)) (by simp; omega)
    · refine Ev.bind (among_ev hc h1.2.2 (by omega) _ (by decide)) fun r2 h2 => ?_
      have h3 : r2.1 = 16 ∨ r2.1 = 17 := by simpa using h2.1
      refine Ev.bind (P := fun r => r.length ≤ 20) (Ev.loop (fun s => 0 ≤ s.1 ∧ s.1 ≤ 17 ∧ (s.2.length : Int) ≤ s.1) (fun s => (17 - s.1).toNat) ?_ ⟨by simp, by simp, by simp⟩) fun l hl => k _ _ (h2.2.mono (by omega)) hl
      rintro ⟨k, l⟩ ⟨k0, k1, k2⟩
      unfold spec_l16DrawList_l15
      simp only at k0 k1 k2 ⊢
      refine Ev.ite (fun hk => ?_) fun hk => Ev.ret (by simp only; omega)
      refine Ev.bind (Ev.cat (by show 1 + 1 ≤ _; omega)) fun x hx => ?_
      refine Ev.bind (Ev.apd (by simp only [List.length_singleton]; omega)) fun y hy => ?_
      subst hy
      rw [w64_id (by omega) (by omega)]
      exact Ev.ret ⟨⟨by simp only; omega, by simp only; omega, by simp only [List.length_append, List.length_singleton]; omega⟩, by simp only; omega⟩
    · refine Ev.bind (Ev.apd (by simp only [List.length_singleton]; omega)) fun y hy => ?_
      subst hy
      exact k _ _ (h1.2.2.mono (by omega)) (by simp; omega)

theorem drawn_ev {c : List Int} (hc : ∀ x ∈ c, 0 ≤ x ∧ x ≤ 255) : Ev (spec_DrawFewestBlades c) (fun r => r.2.1.length ≤ 20) := by
  unfold spec_DrawFewestBlades
  refine Ev.bind (from_ev c) fun s h => ?_
  refine Ev.bind (blade_ev hc h (by omega)) fun r1 h1 => ?_
  refine Ev.bind (cuts_ev hc h1 (by omega)) fun r2 h2 => ?_
  obtain ⟨b, s3, e3, h3⟩ := budget_ok hc (by omega) h2.2
  refine Ev.bind (Ev.eq e3) fun r3 _ => ?_
  exact Ev.ret h2.1

/-- What a valid cutting is, in numbers. -/
def Cn (c : S_Cutting) : Prop := (1 ≤ c.Length ∧ c.Length ≤ 1000000) ∧ (1 ≤ c.Hardness ∧ c.Hardness ≤ 100)

theorem one_eq (c : S_Cutting) : impl_validCutting c = spec_l16One c := by
  unfold impl_validCutting spec_l16One
  rw [nm]
  rfl

theorem one_some (c : S_Cutting) : ∃ v : Bool, spec_l16One c = some v ∧ (v = true → Cn c) := by
  obtain ⟨n, n1, _⟩ := name_eq c.Name
  unfold spec_l16One Cn
  simp only [n1, in_eq, Option.bind_some]
  cases n with
  | false => exact ⟨false, rfl, fun h => by cases h⟩
  | true =>
    simp only [if_true, decide_eq_true_eq]
    by_cases c1 : 1 ≤ c.Length ∧ c.Length ≤ 1000000
    · simp only [if_pos c1, Option.bind_some]
      exact ⟨_, rfl, fun h => ⟨c1, of_decide_eq_true h⟩⟩
    · simp only [if_neg c1, Option.bind_some]
      exact ⟨_, rfl, fun h => by cases h⟩

/-- The wear of a cutting. -/
def W (c : S_Cutting) : Int := (c.Length * c.Hardness + 39) / 40

theorem W_num {c : S_Cutting} (h : Cn c) : 1 ≤ W c ∧ W c ≤ 2500001 ∧ spec_l16Wear c = some (W c) ∧ impl_wear c = some (W c) := by
  obtain ⟨⟨l1, l2⟩, ⟨h1, h2⟩⟩ := h
  have p1 : 1 * 1 ≤ c.Length * c.Hardness := Int.mul_le_mul l1 h1 (by omega) (by omega)
  have p2 : c.Length * c.Hardness ≤ 1000000 * 100 := Int.mul_le_mul l2 h2 (by omega) (by omega)
  have e1 : w64 (c.Length * c.Hardness) = c.Length * c.Hardness := w64_id (by omega) (by omega)
  unfold spec_l16Wear impl_wear impl_upDiv W
  rw [e1]
  generalize c.Length * c.Hardness = p at p1 p2
  have e2 : w64 (p + 39) = p + 39 := w64_id (by omega) (by omega)
  have e3 : w64 (p + 40) = p + 40 := w64_id (by omega) (by omega)
  have e4 : w64 (p + 40 - 1) = p + 39 := by rw [w64_id (by omega) (by omega)]; omega
  have e5 : (p + 39).tdiv 40 = (p + 39) / 40 := Int.tdiv_eq_ediv_of_nonneg (by omega)
  have e6 : IntKind.wrap .i64 ((p + 39).tdiv 40) = (p + 39) / 40 := by rw [e5]; exact w64_id (by omega) (by omega)
  unfold dv
  rw [if_neg (by decide), e2, e3, e4]
  simp only [e6, Option.bind_some]
  exact ⟨by omega, by omega, trivial, rfl⟩


theorem cuts_some (l : List S_Cutting) (hl : l.length ≤ 1048576) : ∃ v : Bool, impl_ValidCuttings l = some v ∧ (v = true → l.length ≤ 16 ∧ ∀ f ∈ l, Cn f ∧ spec_l16One f = some true) := by
  unfold impl_ValidCuttings
  rcases validL (f := impl_ValidCuttings_l2 l) l (fun f => Cn f ∧ spec_l16One f = some true) (by omega) (fun i hi => by
    obtain ⟨v, v1, v2⟩ := one_some l[i]
    unfold impl_ValidCuttings_l2
    rw [if_pos (by omega), rd_lt hi, Option.bind_some, one_eq, v1, Option.bind_some]
    cases v with
    | false => exact .inr rfl
    | true =>
      rw [if_pos rfl]
      by_cases c0 : (i : Int) > 0
      · rw [if_pos c0, w64_pred (by omega) (by omega), rd_lt (show i - 1 < l.length by omega)]
        simp only [Option.bind_some]
        cases Op.bytesLess (l[i - 1]'(by omega)).Name.toList l[i].Name.toList with
        | true => exact .inl ⟨rfl, v2 rfl, by simp⟩
        | false => exact .inr rfl
      · rw [if_neg c0]
        exact .inl ⟨rfl, v2 rfl, by simp⟩) (by
    unfold impl_ValidCuttings_l2
    rw [if_neg (by omega)]) with ⟨q1, q2⟩ | q
  · rw [q1]
    refine ⟨_, rfl, fun h => ⟨?_, q2⟩⟩
    have := of_decide_eq_true h
    omega
  · rw [q]
    exact ⟨false, rfl, fun h => by cases h⟩

theorem blade_some (b : S_Blade) : ∃ v : Bool, impl_ValidBlade b = some v ∧ (v = true → 1 ≤ b.Life ∧ b.Life ≤ 1000000) := by
  obtain ⟨n, _, n1⟩ := name_eq b.Name
  unfold impl_ValidBlade
  simp only [n1, within_eq, Option.bind_some]
  cases n with
  | false => exact ⟨false, rfl, fun h => by cases h⟩
  | true =>
    simp only [if_true, decide_eq_true_eq]
    by_cases c1 : 1 ≤ b.Life ∧ b.Life ≤ 1000000
    · rw [if_pos c1]
      by_cases c2 : 0 ≤ b.Price ∧ b.Price ≤ 1000000
      · rw [if_pos c2]
        exact ⟨_, rfl, fun _ => c1⟩
      · rw [if_neg c2]
        exact ⟨_, rfl, fun _ => c1⟩
    · rw [if_neg c1]
      exact ⟨_, rfl, fun h => by cases h⟩

/-- Wears that are right for a blade and cuttings. -/
def Gd (b : S_Blade) (l : List S_Cutting) (ws : List Int) : Prop :=
  ws.length = l.length ∧ l.length ≤ 16 ∧ (1 ≤ b.Life ∧ b.Life ≤ 1000000) ∧ ∀ (i : Nat), i < ws.length → (1 ≤ ws.getD i 0 ∧ ws.getD i 0 ≤ b.Life) ∧ ∃ x, l[i]? = some x ∧ spec_WearOf x = some (ws.getD i 0, 0)

theorem wears_ev (b : S_Blade) (l : List S_Cutting) (hl : l.length ≤ 1048576) : Ev (impl_wears b l) (fun r => (r.2 = 0 ∧ Gd b l r.1) ∨ ((r.2 = 1 ∨ r.2 = 6) ∧ r.1 = [])) := by
  unfold impl_wears
  obtain ⟨vb, b1, b2⟩ := blade_some b
  obtain ⟨vl, l1, l2⟩ := cuts_some l hl
  rw [b1, l1]
  cases vb with
  | false => exact ⟨_, rfl, .inr ⟨.inl rfl, rfl⟩⟩
  | true =>
    cases vl with
    | false => exact ⟨_, rfl, .inr ⟨.inl rfl, rfl⟩⟩
    | true =>
      obtain ⟨h16, hcn⟩ := l2 rfl
      have hL := b2 rfl
      simp only [Option.bind_some, if_true, Bool.not_true, Bool.false_eq_true, if_false]
      refine Ev.bind (P := fun r => (∃ ws, r = .inl ws ∧ Gd b l ws) ∨ r = .inr ([], 6)) (Ev.loop (fun s => ∃ i : Nat, s.1 = (i : Int) ∧ i ≤ l.length ∧ s.2 = (l.take i).map W ∧ ∀ x ∈ l.take i, W x ≤ b.Life) (fun s => ((l.length : Int) - s.1).toNat) ?_ ⟨0, rfl, by omega, by simp, by simp⟩) ?_
      · rintro ⟨_, out⟩ ⟨i, rfl, h1, h2, h3⟩
        simp only at h2
        subst h2
        unfold impl_wears_l5
        simp only
        refine Ev.ite (fun hi => ?_) fun hi => ?_
        · have hi' : i < l.length := by omega
          obtain ⟨w1, w2, w3, w4⟩ := W_num (hcn _ (List.getElem_mem hi')).1
          rw [rd_lt hi', Option.bind_some, w4, Option.bind_some]
          refine Ev.ite (fun _ => Ev.ret (.inr rfl)) fun hw => ?_
          rw [Option.bind_some, apd1 (by rw [List.length_map, List.length_take]; omega), Option.bind_some, w64_succ (by omega)]
          refine Ev.ret ⟨⟨i + 1, rfl, by omega, ?_, ?_⟩, by simp only; omega⟩
          · rw [List.take_succ_eq_append_getElem hi', List.map_append]
            rfl
          · rw [List.take_succ_eq_append_getElem hi']
            intro x hx
            rcases List.mem_append.1 hx with hx | hx
            · exact h3 x hx
            · rw [List.mem_singleton] at hx; subst hx; omega
        · have : i = l.length := by omega
          subst this
          rw [List.take_length] at h3 ⊢
          refine Ev.ret (.inl ⟨_, rfl, by rw [List.length_map], h16, hL, fun i hi => ?_⟩)
          rw [List.length_map] at hi
          have e : (l.map W).getD i 0 = W l[i] := by
            rw [List.getD_eq_getElem?_getD, List.getElem?_eq_getElem (by rw [List.length_map]; exact hi), List.getElem_map]
            rfl
          obtain ⟨w1, w2, w3, w4⟩ := W_num (hcn _ (List.getElem_mem hi)).1
          rw [e]
          refine ⟨⟨w1, h3 _ (List.getElem_mem hi)⟩, l[i], List.getElem?_eq_getElem hi, ?_⟩
          unfold spec_WearOf
          rw [(hcn _ (List.getElem_mem hi)).2, w3]
          rfl
      · rintro r (⟨ws, rfl, h⟩ | rfl)
        · exact Ev.ret (.inl ⟨rfl, h⟩)
        · exact Ev.ret (.inr ⟨.inr rfl, rfl⟩)

/-! Loads. -/
def ld (ws F : List Int) (k : Int) : Nat → Int
  | 0 => 0
  | n + 1 => ld ws F k n + if F.getD n 0 = k then ws.getD n 0 else 0

theorem ld_congr {ws F A : List Int} {k a : Int} : ∀ {n : Nat}, (∀ i, i < n → (F.getD i 0 = k ↔ A.getD i 0 = a)) → ld ws F k n = ld ws A a n
  | 0, _ => rfl
  | n + 1, h => by
    unfold ld
    rw [ld_congr (n := n) (fun i hi => h i (by omega))]
    by_cases c : F.getD n 0 = k
    · rw [if_pos c, if_pos ((h n (by omega)).1 c)]
    · rw [if_neg c, if_neg (fun e => c ((h n (by omega)).2 e))]

theorem ld_mono {ws A : List Int} {a : Int} (hw : ∀ i, 0 ≤ ws.getD i 0) : ∀ {m n : Nat}, m ≤ n → ld ws A a m ≤ ld ws A a n := by
  intro m n h
  induction h with
  | refl => exact Int.le_refl _
  | step _ ih =>
    rename_i n _
    have e : ld ws A a (n + 1) = ld ws A a n + if A.getD n 0 = a then ws.getD n 0 else 0 := rfl
    have := hw n
    rw [e]
    split <;> omega

theorem getD_app {F : List Int} {x : Int} {i : Nat} (h : i < F.length) : (F ++ [x]).getD i 0 = F.getD i 0 := by
  rw [List.getD_eq_getElem?_getD, List.getElem?_append_left h, ← List.getD_eq_getElem?_getD]
theorem getD_last {F : List Int} {x : Int} : (F ++ [x]).getD F.length 0 = x := by
  rw [List.getD_eq_getElem?_getD, List.getElem?_append_right (Nat.le_refl _)]
  simp
theorem getD_mem {F : List Int} {i : Nat} (h : i < F.length) : F.getD i 0 ∈ F := by
  rw [List.getD_eq_getElem?_getD, List.getElem?_eq_getElem h]
  exact List.getElem_mem h
theorem mem_getD {F : List Int} {x : Int} (h : x ∈ F) : ∃ i, i < F.length ∧ F.getD i 0 = x := by
  obtain ⟨i, hi, e⟩ := List.getElem_of_mem h
  refine ⟨i, hi, ?_⟩
  rw [List.getD_eq_getElem?_getD, List.getElem?_eq_getElem hi]
  exact e

theorem ld_app {ws F : List Int} {x k : Int} : ld ws (F ++ [x]) k (F.length + 1) = ld ws F k F.length + if x = k then ws.getD F.length 0 else 0 := by
  have e : ld ws (F ++ [x]) k (F.length + 1) = ld ws (F ++ [x]) k F.length + if (F ++ [x]).getD F.length 0 = k then ws.getD F.length 0 else 0 := rfl
  rw [e, getD_last, ld_congr (A := F) (a := k) (fun i hi => by rw [getD_app hi])]

section
variable {ws : List Int} {life : Int}

/-- A choice of a blade for the first ones, with what is used of each. -/
def Gs (ws : List Int) (life : Int) (F U : List Int) : Prop :=
  (∀ a ∈ F, 0 ≤ a ∧ a < U.length) ∧ ∀ k, k < U.length → (k : Int) ∈ F ∧ U.getD k 0 = ld ws F (k : Int) F.length ∧ U.getD k 0 ≤ life
/-- An assignment to so many blades. -/
def Good (ws : List Int) (life : Int) (A : List Int) (M : Int) : Prop :=
  (A.length = ws.length ∧ 0 ≤ M) ∧ (∀ a ∈ A, 0 ≤ a ∧ a < M) ∧ ∀ k, ld ws A k ws.length ≤ life
/-- The same ones are together. -/
def Cons (F A : List Int) : Prop := ∀ i j, i < F.length → j < F.length → (F.getD i 0 = F.getD j 0 ↔ A.getD i 0 = A.getD j 0)

abbrev FI := (S_bladeSearch × List Int × List Int × Int) → Option (List Int × Int × S_bladeSearch)
theorem fs_impl (x : S_bladeSearch) (F U : List Int) (a : Int) : Fs (fun self : FI => impl_bladeSearch_run_F self x F U a) := by
  unfold impl_bladeSearch_run_F
  refine Fs.ite (Fs.const _) (Fs.bind (Fs.const _) fun c => Fs.bind (Fs.loop (fun s => ?_) _) fun o => Fs.const _)
  obtain ⟨a1, a2, a3, a4⟩ := s
  unfold impl_bladeSearch_run_l5
  have k6 : ∀ b1 b2 b3 b4, Fs (fun self : FI => impl_bladeSearch_run_k6 self b1 b2 b3 b4) := by
    intros
    unfold impl_bladeSearch_run_k6
    exact Fs.const _
  have k10 : ∀ b1 b2 b3 b4 b5 b6 b7 b8, Fs (fun self : FI => impl_bladeSearch_run_k10 self b1 b2 b3 b4 b5 b6 b7 b8) := by
    intros
    unfold impl_bladeSearch_run_k10
    exact Fs.bind (Fs.const _) fun _ => Fs.ite (k6 _ _ _ _) (Fs.ite (Fs.const _) (Fs.bind (Fs.const _) fun _ => Fs.bind (Fs.const _) fun _ => Fs.bind (Fs.const _) fun _ => Fs.bind (Fs.const _) fun _ => Fs.bind (Fs.app _) fun _ => Fs.ite (Fs.const _) (k6 _ _ _ _)))
  exact Fs.ite (Fs.bind (Fs.const _) fun _ => Fs.ite (Fs.bind (Fs.const _) fun _ => k10 _ _ _ _ _ _ _ _) (k10 _ _ _ _ _ _ _ _)) (Fs.const _)
noncomputable abbrev SI : FI := fun s => impl_bladeSearch_run s.1 s.2.1 s.2.2.1 s.2.2.2
theorem bn_implE (x : S_bladeSearch) (F U : List Int) (a : Int) : impl_bladeSearch_run x F U a = impl_bladeSearch_run_F SI x F U a := by
  show fixO _ _ = _
  rw [fixO_eq]
  · rfl
  · rintro ⟨x, F, U, a⟩
    exact fs_impl x F U a

/-- The list of the blades' use, with a new one where it is needed. -/
def nx (U : List Int) (k : Nat) : List Int := if k = U.length then U ++ [0] else U

theorem nx_get {U : List Int} {k j : Nat} : (nx U k).getD j 0 = U.getD j 0 := by
  unfold nx
  split
  · by_cases c : j < U.length
    · exact getD_app c
    · rw [List.getD_eq_getElem?_getD, List.getD_eq_getElem?_getD, List.getElem?_append_right (by omega), List.getElem?_eq_none (l := U) (by omega)]
      by_cases c2 : j = U.length
      · subst c2; simp
      · rw [List.getElem?_eq_none (by simp; omega)]
  · rfl
theorem nx_len {U : List Int} {k : Nat} (h : k ≤ U.length) : k < (nx U k).length ∧ (nx U k).length ≤ U.length + 1 ∧ U.length ≤ (nx U k).length ∧ (k < U.length → (nx U k).length = U.length) := by
  unfold nx
  split
  · simp; omega
  · omega

/-- The used blades' labels are different ones. -/
theorem labels {F U A : List Int} (hg : Gs ws life F U) (hc : Cons F A) : ∀ n, n ≤ U.length → ∃ L : List Int, L.length = n ∧ L.Nodup ∧ ∀ x ∈ L, ∃ j, j < F.length ∧ x = A.getD j 0 ∧ F.getD j 0 < (n : Int) := by
  intro n
  induction n with
  | zero => intro _; exact ⟨[], rfl, List.nodup_nil, fun x hx => by cases hx⟩
  | succ n ih =>
    intro hn
    obtain ⟨L, l1, l2, l3⟩ := ih (by omega)
    obtain ⟨j, j1, j2⟩ := mem_getD (hg.2 n (by omega)).1
    refine ⟨A.getD j 0 :: L, by simp [l1], List.nodup_cons.2 ⟨fun hm => ?_, l2⟩, fun x hx => ?_⟩
    · obtain ⟨i, i1, i2, i3⟩ := l3 _ hm
      have := (hc j i j1 i1).2 i2
      omega
    · rcases List.mem_cons.1 hx with rfl | hx
      · exact ⟨j, j1, rfl, by omega⟩
      · obtain ⟨i, i1, i2, i3⟩ := l3 x hx
        exact ⟨i, i1, i2, by omega⟩

/-- Where the next one may go. -/
theorem choice {F U A : List Int} {M : Int} (hw : ∀ i, 0 ≤ ws.getD i 0) (hg : Gs ws life F U) (hF : F.length < ws.length) (hA : Good ws life A M) (hc : Cons F A) :
    ∃ k : Nat, k ≤ U.length ∧ (k : Int) < M ∧ Cons (F ++ [(k : Int)]) A ∧ U.getD k 0 + ws.getD F.length 0 ≤ life := by
  obtain ⟨a1, a2, a3⟩ := hA
  have hla : F.length < A.length := by omega
  -- what holds of a place that has just the ones with the same label
  have fin : ∀ k : Nat, k ≤ U.length → (∀ i, i < F.length → (F.getD i 0 = (k : Int) ↔ A.getD i 0 = A.getD F.length 0)) → Cons (F ++ [(k : Int)]) A ∧ U.getD k 0 + ws.getD F.length 0 ≤ life := by
    intro k hk h
    refine ⟨fun i j hi hj => ?_, ?_⟩
    · rw [List.length_append, List.length_singleton] at hi hj
      by_cases ei : i = F.length
      · by_cases ej : j = F.length
        · rw [ei, ej]; exact ⟨fun _ => rfl, fun _ => rfl⟩
        · rw [ei, getD_last, getD_app (by omega)]
          have := h j (by omega)
          exact ⟨fun e => ((this.1 e.symm).symm), fun e => (this.2 e.symm).symm⟩
      · rw [getD_app (show i < F.length by omega)]
        by_cases ej : j = F.length
        · rw [ej, getD_last]
          exact h i (by omega)
        · rw [getD_app (show j < F.length by omega)]
          exact hc i j (by omega) (by omega)
    · have e1 : ld ws (F ++ [(k : Int)]) (k : Int) (F.length + 1) = ld ws A (A.getD F.length 0) (F.length + 1) := ld_congr (fun i hi => by
        by_cases ei : i = F.length
        · rw [ei, getD_last]; exact ⟨fun _ => rfl, fun _ => rfl⟩
        · rw [getD_app (by omega)]
          exact h i (by omega))
      have e2 := ld_mono (A := A) (a := A.getD F.length 0) hw (show F.length + 1 ≤ ws.length by omega)
      have e3 := a3 (A.getD F.length 0)
      rw [ld_app, if_pos rfl] at e1
      have e4 : U.getD k 0 = ld ws F (k : Int) F.length := by
        by_cases c : k < U.length
        · exact (hg.2 k c).2.1
        · have z : ∀ n, n ≤ F.length → ld ws F (k : Int) n = 0 := by
            intro n
            induction n with
            | zero => intro _; rfl
            | succ n ih =>
              intro hn
              unfold ld
              rw [ih (by omega), if_neg (fun e => by
                have := hg.1 _ (getD_mem (F := F) (i := n) (by omega))
                omega)]
              omega
          rw [z _ (Nat.le_refl _), List.getD_eq_getElem?_getD, List.getElem?_eq_none (by omega)]
          rfl
      omega
  by_cases c : ∃ j, j < F.length ∧ A.getD j 0 = A.getD F.length 0
  · obtain ⟨j, j1, j2⟩ := c
    obtain ⟨f0, f1⟩ := hg.1 _ (getD_mem j1)
    obtain ⟨k, hk⟩ : ∃ k : Nat, F.getD j 0 = (k : Int) := ⟨(F.getD j 0).toNat, by omega⟩
    have h := fin k (by omega) (fun i hi => by rw [← hk, ← j2]; exact hc i j hi j1)
    refine ⟨k, by omega, ?_, h⟩
    obtain ⟨L, l1, l2, l3⟩ := labels hg hc U.length (Nat.le_refl _)
    have := nodup_len L (upto M.toNat) l2 (fun x hx => by
      obtain ⟨i, i1, i2, _⟩ := l3 x hx
      have := a2 _ (getD_mem (F := A) (i := i) (by omega))
      rw [i2]
      exact upto_mem.2 ⟨by omega, by omega⟩)
    rw [upto_len] at this
    omega
  · have h := fin U.length (Nat.le_refl _) (fun i hi => ⟨fun e => by
      have := hg.1 _ (getD_mem (F := F) hi)
      omega, fun e => absurd ⟨i, hi, e⟩ c⟩)
    refine ⟨U.length, Nat.le_refl _, ?_, h⟩
    obtain ⟨L, l1, l2, l3⟩ := labels hg hc U.length (Nat.le_refl _)
    have := nodup_len (A.getD F.length 0 :: L) (upto M.toNat) (List.nodup_cons.2 ⟨fun hm => by
      obtain ⟨i, i1, i2, _⟩ := l3 _ hm
      exact c ⟨i, i1, i2.symm⟩, l2⟩) (fun x hx => by
      rcases List.mem_cons.1 hx with rfl | hx
      · have := a2 _ (getD_mem (F := A) (i := F.length) hla)
        exact upto_mem.2 ⟨by omega, by omega⟩
      · obtain ⟨i, i1, i2, _⟩ := l3 x hx
        have := a2 _ (getD_mem (F := A) (i := i) (by omega))
        rw [i2]
        exact upto_mem.2 ⟨by omega, by omega⟩)
    rw [upto_len, List.length_cons] at this
    omega

/-- One more, put in. -/
theorem Gs_add {F U : List Int} {k : Nat} (hg : Gs ws life F U) (hk : k ≤ U.length) (hl : U.getD k 0 + ws.getD F.length 0 ≤ life) : Gs ws life (F ++ [(k : Int)]) ((nx U k).set k (U.getD k 0 + ws.getD F.length 0)) := by
  obtain ⟨n1, n2, n3, n4⟩ := nx_len hk
  have zero : U.length ≤ k → ld ws F (k : Int) F.length = 0 := by
    intro hku
    have z : ∀ n, n ≤ F.length → ld ws F (k : Int) n = 0 := by
      intro n
      induction n with
      | zero => intro _; rfl
      | succ n ih =>
        intro hn
        unfold ld
        rw [ih (by omega), if_neg (fun e => by
          have := hg.1 _ (getD_mem (F := F) (i := n) (by omega))
          omega)]
        omega
    exact z _ (Nat.le_refl _)
  refine ⟨fun a ha => ?_, fun j hj => ?_⟩
  · rw [List.length_set]
    rcases List.mem_append.1 ha with ha | ha
    · have := hg.1 a ha
      omega
    · rw [List.mem_singleton] at ha
      omega
  · rw [List.length_set] at hj
    rw [List.length_append, List.length_singleton, ld_app]
    by_cases e : j = k
    · subst e
      have e1 : ((nx U j).set j (U.getD j 0 + ws.getD F.length 0)).getD j 0 = U.getD j 0 + ws.getD F.length 0 := by
        rw [List.getD_eq_getElem?_getD, List.getElem?_set_self n1]
        rfl
      rw [e1, if_pos rfl]
      refine ⟨List.mem_append_right _ (List.mem_singleton.2 rfl), ?_, hl⟩
      by_cases c : j < U.length
      · rw [(hg.2 j c).2.1]
      · rw [zero (by omega), List.getD_eq_getElem?_getD, List.getElem?_eq_none (by omega)]
        rfl
    · have hju : j < U.length := by
        by_cases c : k < U.length
        · rw [n4 c] at hj; exact hj
        · omega
      have e1 : ((nx U k).set k (U.getD k 0 + ws.getD F.length 0)).getD j 0 = U.getD j 0 := by
        rw [List.getD_eq_getElem?_getD, List.getElem?_set_ne (by omega), ← List.getD_eq_getElem?_getD, nx_get]
      rw [e1, if_neg (by omega), Int.add_zero]
      exact ⟨List.mem_append_left _ (hg.2 j hju).1, (hg.2 j hju).2⟩

theorem run_ev {most : Int} (hN : ws.length ≤ 16) (hw : ∀ i, i < ws.length → 1 ≤ ws.getD i 0 ∧ ws.getD i 0 ≤ life) (hlf : 1 ≤ life ∧ life ≤ 1000000) :
    ∀ (d : Nat) (F U : List Int) (left : Int), F.length + d = ws.length → Gs ws life F U → (U.length : Int) ≤ most → 0 ≤ left → left ≤ 20000 →
      Ev (impl_bladeSearch_run ⟨ws, life, left⟩ F U most) (fun r => (r.2.1 = 0 ∧ ∃ V, Gs ws life r.1 V ∧ r.1.length = ws.length ∧ (V.length : Int) ≤ most) ∨ (r.2.1 = 5 ∧ r.1 = []) ∨
        (r.2.1 = 3 ∧ (∃ left', r.2.2 = ⟨ws, life, left'⟩ ∧ 0 ≤ left' ∧ left' ≤ 20000) ∧ ∀ A, Good ws life A most → ¬ Cons F A)) := by
  have hw0 : ∀ i, 0 ≤ ws.getD i 0 := by
    intro i
    by_cases c : i < ws.length
    · have := hw i c; omega
    · rw [List.getD_eq_getElem?_getD, List.getElem?_eq_none (by omega)]
      exact Int.le_refl 0
  intro d
  induction d with
  | zero =>
    intro F U left hF hg hU h0 h1
    rw [bn_implE]
    unfold impl_bladeSearch_run_F
    rw [if_pos (show (F.length : Int) = (ws.length : Int) by omega)]
    exact Ev.ret (.inl ⟨rfl, U, hg, by simp only; omega, hU⟩)
  | succ d ih =>
    intro F U left hF hg hU h0 h1
    have hFl : F.length < ws.length := by omega
    have hUF : U.length ≤ F.length := pig U.length F (fun i hi => (hg.2 i hi).1)
    obtain ⟨w1, w2⟩ := hw _ hFl
    rw [bn_implE]
    unfold impl_bladeSearch_run_F
    rw [if_neg (show ¬ (F.length : Int) = (ws.length : Int) by omega)]
    simp only
    rw [rd_getD 0 hFl, Option.bind_some]
    refine Ev.bind (P := fun r => (∃ left', r = .inl (ws, life, left') ∧ 0 ≤ left' ∧ left' ≤ 20000 ∧ ∀ A, Good ws life A most → ¬ Cons F A) ∨ (∃ x, r = .inr x ∧ ((x.2.1 = 0 ∧ ∃ V, Gs ws life x.1 V ∧ x.1.length = ws.length ∧ (V.length : Int) ≤ most) ∨ (x.2.1 = 5 ∧ x.1 = []))))
      (Ev.loop (fun s => ∃ (k : Nat) (left' : Int), s = ((k : Int), ws, life, left') ∧ k ≤ U.length + 1 ∧ 0 ≤ left' ∧ left' ≤ 20000 ∧ ∀ j : Nat, j < k → (j : Int) < most → U.getD j 0 + ws.getD F.length 0 ≤ life → ∀ A, Good ws life A most → ¬ Cons (F ++ [(j : Int)]) A) (fun s => (20 - s.1).toNat) ?_ ⟨0, left, rfl, by omega, h0, h1, fun j hj => absurd hj (by omega)⟩) ?_
    · rintro _ ⟨k, left', rfl, hk, hl0, hl1, hbad⟩
      unfold impl_bladeSearch_run_l5
      simp only
      refine Ev.ite (fun hc => ?_) fun hc => ?_
      · have hkU : k ≤ U.length := by omega
        obtain ⟨n1, n2, n3, n4⟩ := nx_len hkU
        have body : Ev (impl_bladeSearch_run_k10 SI F (k : Int) most ws life left' (ws.getD F.length 0) (nx U k)) (fun o => match o with
            | .inl s' => (∃ (k : Nat) (left' : Int), s' = ((k : Int), ws, life, left') ∧ k ≤ U.length + 1 ∧ 0 ≤ left' ∧ left' ≤ 20000 ∧ ∀ j : Nat, j < k → (j : Int) < most → U.getD j 0 + ws.getD F.length 0 ≤ life → ∀ A, Good ws life A most → ¬ Cons (F ++ [(j : Int)]) A) ∧ (20 - s'.1).toNat < (20 - (k : Int)).toNat
            | .inr r => (∃ left', r = .inl (ws, life, left') ∧ 0 ≤ left' ∧ left' ≤ 20000 ∧ ∀ A, Good ws life A most → ¬ Cons F A) ∨ (∃ x, r = .inr x ∧ ((x.2.1 = 0 ∧ ∃ V, Gs ws life x.1 V ∧ x.1.length = ws.length ∧ (V.length : Int) ≤ most) ∨ (x.2.1 = 5 ∧ x.1 = [])))) := by
          have hUk : 0 ≤ U.getD k 0 ∧ U.getD k 0 ≤ life := by
            by_cases c : k < U.length
            · obtain ⟨_, q1, q2⟩ := hg.2 k c
              refine ⟨?_, q2⟩
              rw [q1]
              exact ld_mono (m := 0) hw0 (Nat.zero_le _)
            · rw [List.getD_eq_getElem?_getD, List.getElem?_eq_none (by omega)]
              exact ⟨Int.le_refl 0, by show (0 : Int) ≤ life; omega⟩
          have r0 : rd (nx U k) (k : Int) = some (U.getD k 0) := by rw [rd_getD 0 n1, nx_get]
          have eu : w64 (U.getD k 0 + ws.getD F.length 0) = U.getD k 0 + ws.getD F.length 0 := w64_id (by omega) (by omega)
          unfold impl_bladeSearch_run_k10 impl_bladeSearch_run_k6
          rw [r0]
          simp only [Option.bind_some, eu]
          rw [w64_succ (by omega)]
          refine Ev.ite (fun hov => Ev.ret ⟨⟨k + 1, left', rfl, by omega, hl0, hl1, fun j hj hm hle A hA => ?_⟩, by simp only; omega⟩) fun hov => ?_
          · by_cases e : j = k
            · subst e; omega
            · exact hbad j (by omega) hm hle A hA
          refine Ev.ite (fun hz => Ev.ret (.inr ⟨_, rfl, .inr ⟨rfl, rfl⟩⟩)) fun hz => ?_
          rw [apd0 (by omega), Option.bind_some, apd1 (by omega), Option.bind_some, w64_id (n := left' - 1) (by omega) (by omega), Int.toNat_natCast]
          have hgs := Gs_add hg hkU (show U.getD k 0 + ws.getD F.length 0 ≤ life by omega)
          have hVl : (((nx U k).set k (U.getD k 0 + ws.getD F.length 0)).length : Int) ≤ most := by
            rw [List.length_set]
            by_cases c : k < U.length
            · rw [n4 c]; exact hU
            · omega
          refine Ev.bind (ih (F ++ [(k : Int)]) _ (left' - 1) (by simp; omega) hgs hVl (by omega) (by omega)) fun x hx => ?_
          refine Ev.ite (fun hne => Ev.ret (.inr ⟨_, rfl, ?_⟩)) fun hne => ?_
          · rcases hx with hx | hx | hx
            · exact .inl hx
            · exact .inr hx
            · exact absurd hx.1 hne
          · rcases hx with hx | hx | ⟨_, ⟨l2, e2, q1, q2⟩, q3⟩
            · exact absurd hx.1 (by omega)
            · exact absurd hx.1 (by omega)
            · rw [e2]
              refine Ev.ret ⟨⟨k + 1, l2, rfl, by omega, q1, q2, fun j hj hm hle A hA => ?_⟩, by simp only; omega⟩
              by_cases e : j = k
              · subst e; exact q3 A hA
              · exact hbad j (by omega) hm hle A hA
        rw [apd0 (by omega), Option.bind_some]
        refine Ev.ite (fun he => ?_) fun he => ?_
        · rw [apd1 (by omega), Option.bind_some]
          have : nx U k = U ++ [0] := by unfold nx; rw [if_pos (by omega)]
          rw [this] at body
          exact body.mono fun o h => by cases o <;> exact h
        · have : nx U k = U := by unfold nx; rw [if_neg (by omega)]
          rw [this] at body
          exact body.mono fun o h => by cases o <;> exact h
      · refine Ev.ret (.inl ⟨left', rfl, hl0, hl1, fun A hA hcs => ?_⟩)
        obtain ⟨j, j1, j2, j3, j4⟩ := choice hw0 hg hFl hA hcs
        exact hbad j (by omega) j2 j4 A hA j3
    · rintro r (⟨left', rfl, q1, q2, q3⟩ | ⟨x, rfl, q⟩)
      · exact Ev.ret (.inr (.inr ⟨rfl, ⟨left', rfl, q1, q2⟩, q3⟩))
      · refine Ev.ret ?_
        rcases q with q | q
        · exact .inl q
        · exact .inr (.inl q)

theorem ld_upto {ws : List Int} {k : Int} {N : Nat} : ∀ n, n ≤ N → ld ws (upto N) k n = if 0 ≤ k ∧ k < n then ws.getD k.toNat 0 else 0 := by
  intro n
  induction n with
  | zero =>
    intro _
    rw [if_neg (by omega)]
    rfl
  | succ n ih =>
    intro hn
    have e0 : ld ws (upto N) k (n + 1) = ld ws (upto N) k n + if (upto N).getD n 0 = k then ws.getD n 0 else 0 := rfl
    have e1 : ∀ N, n < N → (upto N).getD n 0 = (n : Int) := by
      intro N
      induction N with
      | zero => intro h; omega
      | succ N ihN =>
        intro h
        unfold upto
        by_cases c : n < N
        · rw [getD_app (by rw [upto_len]; exact c)]
          exact ihN c
        · have : n = N := by omega
          subst this
          have := getD_last (F := upto n) (x := (n : Int))
          rw [upto_len] at this
          exact this
    rw [e0, ih (by omega), e1 N (by omega)]
    by_cases c : (n : Int) = k
    · subst c
      rw [if_pos rfl, if_neg (by omega), if_pos (by omega), Int.toNat_natCast]
      omega
    · rw [if_neg c]
      by_cases c2 : 0 ≤ k ∧ k < (n : Int)
      · rw [if_pos c2, if_pos (by omega)]
        omega
      · rw [if_neg c2, if_neg (by omega)]
        omega

/-- Each on a blade of its own. -/
theorem good_upto (hw : ∀ i, i < ws.length → 1 ≤ ws.getD i 0 ∧ ws.getD i 0 ≤ life) (hlf : 1 ≤ life) : Good ws life (upto ws.length) ws.length := by
  refine ⟨⟨upto_len _, by omega⟩, fun a ha => upto_mem.1 ha, fun k => ?_⟩
  rw [ld_upto _ (Nat.le_refl _)]
  split
  · rename_i h
    have := hw k.toNat (by omega)
    omega
  · omega

theorem good_mono {A : List Int} {M M' : Int} (h : Good ws life A M) (hm : M ≤ M') : Good ws life A M' :=
  ⟨⟨h.1.1, by have := h.1.2; omega⟩, fun a ha => ⟨(h.2.1 a ha).1, by have := (h.2.1 a ha).2; omega⟩, h.2.2⟩

theorem gs_good {F U : List Int} (hlf : 1 ≤ life) (h : Gs ws life F U) (hF : F.length = ws.length) : Good ws life F U.length := by
  refine ⟨⟨hF, by omega⟩, h.1, fun k => ?_⟩
  by_cases c : 0 ≤ k ∧ k < U.length
  · obtain ⟨_, h1, h2⟩ := h.2 k.toNat (by omega)
    rw [show ((k.toNat : Nat) : Int) = k by omega, hF] at h1
    omega
  · have z : ∀ n, n ≤ F.length → ld ws F k n = 0 := by
      intro n
      induction n with
      | zero => intro _; rfl
      | succ n ih =>
        intro hn
        unfold ld
        rw [ih (by omega), if_neg (fun e => by
          have := h.1 _ (getD_mem (F := F) (i := n) (by omega))
          omega)]
        omega
    rw [z _ (by omega)]
    omega

theorem fewest_ev (hN : ws.length ≤ 16) (hw : ∀ i, i < ws.length → 1 ≤ ws.getD i 0 ∧ ws.getD i 0 ≤ life) (hlf : 1 ≤ life ∧ life ≤ 1000000) {left : Int} (h0 : 0 ≤ left) (h1 : left ≤ 20000) :
    Ev (loopO impl_FewestBlades_l9 (0, ws, life, left)) (fun r => (r.2.2 = 0 ∧ ∃ V, Gs ws life r.1 V ∧ r.1.length = ws.length ∧ (V.length : Int) = r.2.1 ∧ ∀ A M, Good ws life A M → r.2.1 ≤ M) ∨ (r.2.2 = 5 ∧ r.1 = [] ∧ r.2.1 = 0)) := by
  refine Ev.loop (fun s => ∃ (m : Nat) (left : Int), s = ((m : Int), ws, life, left) ∧ m ≤ ws.length ∧ 0 ≤ left ∧ left ≤ 20000 ∧ ∀ A M, Good ws life A M → (m : Int) ≤ M) (fun s => (20 - s.1).toNat) ?_ ⟨0, left, rfl, by omega, h0, h1, fun A M hA => ?_⟩
  · rintro _ ⟨m, left, rfl, hm, q0, q1, hmin⟩
    unfold impl_FewestBlades_l9
    simp only
    refine Ev.bind (run_ev (most := (m : Int)) hN hw hlf ws.length [] [] left (by simp) ⟨fun a ha => (by cases ha), fun k hk => (by simp at hk)⟩ (by simp) q0 q1) fun x hx => ?_
    refine Ev.ite (fun hz => ?_) fun hz => Ev.ite (fun hn => ?_) fun hn => ?_
    · rcases hx with ⟨_, V, v1, v2, v3⟩ | hx | hx
      · refine Ev.ret (.inl ⟨rfl, V, v1, v2, ?_, hmin⟩)
        have := hmin _ _ (gs_good hlf.1 v1 v2)
        simp only
        omega
      · exact absurd hx.1 (by omega)
      · exact absurd hx.1 (by omega)
    · rcases hx with hx | hx | hx
      · exact absurd hx.1 hz
      · exact Ev.ret (.inr ⟨hx.1, rfl, rfl⟩)
      · exact absurd hx.1 hn
    · rcases hx with hx | hx | ⟨_, ⟨l2, e2, p1, p2⟩, p3⟩
      · exact absurd hx.1 hz
      · exact absurd hx.1 (by omega)
      · rw [e2, w64_succ (by omega)]
        have nog : ∀ A M, Good ws life A M → ((m + 1 : Nat) : Int) ≤ M := by
          intro A M hA
          by_cases c : ((m + 1 : Nat) : Int) ≤ M
          · exact c
          · exact absurd (fun i j hi hj => absurd hi (by simp)) (p3 A (good_mono hA (by omega)))
        have := nog _ _ (good_upto hw hlf.1)
        exact Ev.ret ⟨⟨m + 1, l2, rfl, by omega, p1, p2, nog⟩, by simp only; omega⟩
  · exact hA.1.2

/-! The decreasing one. -/
/-- The load of those that have been put. -/
def lp (ws A P : List Int) (k : Int) : Nat → Int
  | 0 => 0
  | n + 1 => lp ws A P k n + if (n : Int) ∈ P ∧ A.getD n 0 = k then ws.getD n 0 else 0

theorem lp_step {ws A P : List Int} {q : Nat} {k j : Int} (hq : (q : Int) ∉ P) (hA : q < A.length) : ∀ n, lp ws (A.set q k) (P ++ [(q : Int)]) j n = lp ws A P j n + if q < n ∧ j = k then ws.getD q 0 else 0
  | 0 => by simp [lp]
  | n + 1 => by
    unfold lp
    rw [lp_step hq hA n]
    by_cases e : n = q
    · subst e
      have e1 : (A.set n k).getD n 0 = k := by rw [List.getD_eq_getElem?_getD, List.getElem?_set_self hA]; rfl
      rw [e1, if_neg (show ¬ (n < n ∧ j = k) by omega), if_neg (show ¬ ((n : Int) ∈ P ∧ A.getD n 0 = j) from fun h => hq h.1)]
      have hm : (n : Int) ∈ P ++ [(n : Int)] := List.mem_append_right _ (List.mem_singleton.2 rfl)
      by_cases c : j = k
      · rw [if_pos (show (n : Int) ∈ P ++ [(n : Int)] ∧ k = j from ⟨hm, c.symm⟩), if_pos (show n < n + 1 ∧ j = k from ⟨by omega, c⟩)]
      · rw [if_neg (show ¬ ((n : Int) ∈ P ++ [(n : Int)] ∧ k = j) from fun h => c h.2.symm), if_neg (show ¬ (n < n + 1 ∧ j = k) from fun h => c h.2)]
    · have e1 : (A.set q k).getD n 0 = A.getD n 0 := by rw [List.getD_eq_getElem?_getD, List.getElem?_set_ne (by omega), ← List.getD_eq_getElem?_getD]
      have e2 : (n : Int) ∈ P ++ [(q : Int)] ↔ (n : Int) ∈ P := by
        simp
        omega
      rw [e1]
      simp only [e2]
      generalize (if (n : Int) ∈ P ∧ A.getD n 0 = j then ws.getD n 0 else 0) = t
      by_cases c : q < n ∧ j = k
      · rw [if_pos c, if_pos (show q < n + 1 ∧ j = k from ⟨by omega, c.2⟩)]
        omega
      · rw [if_neg c, if_neg (show ¬ (q < n + 1 ∧ j = k) from fun h => c ⟨by omega, h.2⟩)]
        omega

theorem lp_all {ws A P : List Int} {k : Int} : ∀ {n : Nat}, (∀ i : Nat, i < n → (i : Int) ∈ P) → lp ws A P k n = ld ws A k n
  | 0, _ => rfl
  | n + 1, h => by
    unfold lp ld
    rw [lp_all (fun i hi => h i (by omega))]
    by_cases c : A.getD n 0 = k
    · rw [if_pos ⟨h n (by omega), c⟩, if_pos c]
    · rw [if_neg (fun h => c h.2), if_neg c]

/-- A first fit, so far. -/
def Ff (ws : List Int) (life : Int) (P A U : List Int) : Prop :=
  A.length = ws.length ∧ U.length ≤ P.length ∧ (∀ i : Nat, (i : Int) ∈ P → 0 ≤ A.getD i 0 ∧ A.getD i 0 < U.length) ∧
    ∀ k, k < U.length → (∃ i : Nat, i < ws.length ∧ (i : Int) ∈ P ∧ A.getD i 0 = (k : Int)) ∧ U.getD k 0 = lp ws A P (k : Int) ws.length ∧ 0 ≤ U.getD k 0 ∧ U.getD k 0 ≤ life

theorem lp_zero {ws A P : List Int} {k : Int} (h : ∀ i : Nat, (i : Int) ∈ P → A.getD i 0 ≠ k) : ∀ n, lp ws A P k n = 0
  | 0 => rfl
  | n + 1 => by
    unfold lp
    rw [lp_zero h n, if_neg (fun hh => h n hh.1 hh.2)]
    omega

theorem ff_add {P A U : List Int} {q k : Nat} (h : Ff ws life P A U) (hq : (q : Int) ∉ P) (hqn : q < ws.length) (hk : k ≤ U.length) (hl : U.getD k 0 + ws.getD q 0 ≤ life) (hw : 0 ≤ ws.getD q 0) :
    Ff ws life (P ++ [(q : Int)]) (A.set q k) ((nx U k).set k (U.getD k 0 + ws.getD q 0)) := by
  obtain ⟨f1, f2, f3, f4⟩ := h
  obtain ⟨n1, n2, n3, n4⟩ := nx_len hk
  have eq1 : (A.set q (k : Int)).getD q 0 = (k : Int) := by rw [List.getD_eq_getElem?_getD, List.getElem?_set_self (by omega)]; rfl
  have eq2 : ∀ i, i ≠ q → (A.set q (k : Int)).getD i 0 = A.getD i 0 := fun i hi => by rw [List.getD_eq_getElem?_getD, List.getElem?_set_ne (by omega), ← List.getD_eq_getElem?_getD]
  have uk : U.getD k 0 = lp ws A P (k : Int) ws.length ∧ 0 ≤ U.getD k 0 := by
    by_cases c : k < U.length
    · exact ⟨(f4 k c).2.1, (f4 k c).2.2.1⟩
    · rw [lp_zero (fun i hi e => by have := f3 i hi; omega), List.getD_eq_getElem?_getD, List.getElem?_eq_none (by omega)]
      exact ⟨rfl, Int.le_refl 0⟩
  refine ⟨by rw [List.length_set]; exact f1, by rw [List.length_set, List.length_append, List.length_singleton]; omega, fun i hi => ?_, fun j hj => ?_⟩
  · rw [List.length_set]
    by_cases e : i = q
    · subst e
      rw [eq1]
      omega
    · rw [eq2 i e]
      have hi' : (i : Int) ∈ P := by
        rcases List.mem_append.1 hi with hi | hi
        · exact hi
        · rw [List.mem_singleton] at hi
          omega
      have := f3 i hi'
      omega
  · rw [List.length_set] at hj
    rw [lp_step hq (by omega)]
    by_cases e : j = k
    · subst e
      have e1 : ((nx U j).set j (U.getD j 0 + ws.getD q 0)).getD j 0 = U.getD j 0 + ws.getD q 0 := by
        rw [List.getD_eq_getElem?_getD, List.getElem?_set_self n1]
        rfl
      rw [e1, if_pos ⟨hqn, rfl⟩, ← uk.1]
      exact ⟨⟨q, hqn, List.mem_append_right _ (List.mem_singleton.2 rfl), eq1⟩, rfl, by omega, hl⟩
    · have hju : j < U.length := by
        by_cases c : k < U.length
        · rw [n4 c] at hj; exact hj
        · omega
      have e1 : ((nx U k).set k (U.getD k 0 + ws.getD q 0)).getD j 0 = U.getD j 0 := by
        rw [List.getD_eq_getElem?_getD, List.getElem?_set_ne (by omega), ← List.getD_eq_getElem?_getD, nx_get]
      obtain ⟨⟨i, i1, i2, i3⟩, g2, g3, g4⟩ := f4 j hju
      rw [e1, if_neg (fun h => e (by omega)), Int.add_zero]
      refine ⟨⟨i, i1, List.mem_append_left _ i2, ?_⟩, g2, g3, g4⟩
      rw [eq2 i (fun e => hq (e ▸ i2))]
      exact i3

theorem dec_ev {b : S_Blade} {c : Int} (hN : ws.length ≤ 16) (hw : ∀ i, i < ws.length → 1 ≤ ws.getD i 0 ∧ ws.getD i 0 ≤ b.Life) (hlf : 1 ≤ b.Life ∧ b.Life ≤ 1000000) {o : List Int} (ho : o.Perm (upto ws.length)) :
    Ev (loopO (impl_DecreasingBlades_l13 b (ws, c) o) (0, List.replicate ws.length 0, [])) (fun r => Ff ws b.Life o r.1 r.2) := by
  have hol : o.length = ws.length := by rw [ho.length_eq, upto_len]
  refine Ev.loop (fun s => ∃ (i : Nat) (A U : List Int), s = ((i : Int), A, U) ∧ i ≤ o.length ∧ Ff ws b.Life (o.take i) A U) (fun s => (20 - s.1).toNat) ?_ ⟨0, _, _, rfl, by omega, by simp, by simp, fun i hi => (by simp at hi), fun k hk => (by simp at hk)⟩
  rintro _ ⟨i, A, U, rfl, hi, hf⟩
  unfold impl_DecreasingBlades_l13
  simp only
  refine Ev.ite (fun hc => ?_) fun hc => ?_
  · have hi' : i < o.length := by omega
    obtain ⟨q0, q1⟩ := upto_mem.1 (ho.mem_iff.1 (List.getElem_mem hi'))
    obtain ⟨q, hq⟩ : ∃ q : Nat, o[i] = (q : Int) := ⟨o[i].toNat, by omega⟩
    have hqn : q < ws.length := by omega
    obtain ⟨w1, w2⟩ := hw q hqn
    have hU16 : U.length ≤ 16 := by
      have := hf.2.1
      rw [List.length_take] at this
      omega
    have hnew : (q : Int) ∉ o.take i := by
      intro hm
      obtain ⟨j, hj, ej⟩ := List.getElem_of_mem hm
      rw [List.length_take] at hj
      rw [List.getElem_take, ← hq] at ej
      exact absurd ej (List.pairwise_iff_getElem.1 (ho.nodup_iff.2 (upto_nodup _)) j i (by omega) hi' (by omega))
    rw [rd_lt hi', Option.bind_some, hq]
    have k19 : ∀ k : Nat, k ≤ U.length → U.getD k 0 + ws.getD q 0 ≤ b.Life → Ev (impl_DecreasingBlades_k19 A (i : Int) (ws, c) (q : Int) (k : Int) (nx U k)) (fun o' => match o' with
        | .inl s' => (∃ (i : Nat) (A U : List Int), s' = ((i : Int), A, U) ∧ i ≤ o.length ∧ Ff ws b.Life (o.take i) A U) ∧ (20 - s'.1).toNat < (20 - (i : Int)).toNat
        | .inr r => Ff ws b.Life o r.1 r.2) := by
      intro k hk hl
      have hF := ff_add hf hnew hqn hk hl (by omega)
      have uk0 : 0 ≤ U.getD k 0 := by
        by_cases c : k < U.length
        · exact (hf.2.2.2 k c).2.2.1
        · rw [List.getD_eq_getElem?_getD, List.getElem?_eq_none (by omega)]
          exact Int.le_refl 0
      unfold impl_DecreasingBlades_k19
      rw [rd_getD 0 (nx_len hk).1, nx_get, Option.bind_some]
      simp only
      rw [rd_getD 0 hqn]
      simp only [Option.bind_some]
      rw [rd_getD 0 (show q < A.length by rw [hf.1]; exact hqn), Option.bind_some, w64_succ (by omega), w64_id (by omega) (by omega), Int.toNat_natCast, Int.toNat_natCast]
      refine Ev.ret ⟨⟨i + 1, _, _, rfl, by omega, ?_⟩, by simp only; omega⟩
      rw [List.take_succ_eq_append_getElem hi', hq]
      exact hF
    unfold slices_IndexFunc_int64_int64
    rcases scanFind (f := slices_IndexFunc_int64_int64_l2 (fun a0 => impl_DecreasingBlades_c2 a0 (ws, c).1 (q : Int) b.Name b.Life b.Price b.Speed) U) U (fun u => decide (u + ws.getD q 0 ≤ b.Life)) (fun i => (i : Int)) (by omega) (fun j hj => by
      unfold slices_IndexFunc_int64_int64_l2 impl_DecreasingBlades_c2
      have hu := hf.2.2.2 j hj
      have eu : U.getD j 0 = U[j] := by rw [List.getD_eq_getElem?_getD, List.getElem?_eq_getElem hj]; rfl
      rw [eu] at hu
      rw [if_pos (by omega), rd_lt hj, Option.bind_some]
      simp only
      rw [rd_getD 0 hqn]
      simp only [Option.bind_some]
      rw [w64_id (n := U[j] + ws.getD q 0) (by omega) (by omega)]) (by
      unfold slices_IndexFunc_int64_int64_l2
      rw [if_neg (by omega)]) with ⟨p1, p2⟩ | ⟨j, hj, p1, _, p2⟩
    · rw [p2]
      simp only [Option.bind_some]
      rw [if_pos (by omega), apd1 (by omega), Option.bind_some]
      have := k19 U.length (Nat.le_refl _) (by
        rw [List.getD_eq_getElem?_getD, List.getElem?_eq_none (Nat.le_refl _)]
        show 0 + _ ≤ _
        omega)
      have e : nx U U.length = U ++ [0] := by unfold nx; rw [if_pos rfl]
      rw [e] at this
      exact this.mono fun o h => by cases o <;> exact h
    · rw [p2]
      simp only [Option.bind_some]
      rw [if_neg (by omega)]
      have eu : U.getD j 0 = U[j] := by rw [List.getD_eq_getElem?_getD, List.getElem?_eq_getElem hj]; rfl
      have := k19 j (by omega) (by rw [eu]; exact of_decide_eq_true p1)
      have e : nx U j = U := by unfold nx; rw [if_neg (by omega)]
      rw [e] at this
      exact this.mono fun o h => by cases o <;> exact h
  · have e : i = o.length := by omega
    subst e
    rw [List.take_length] at hf
    exact Ev.ret hf

theorem ff_good {o A U : List Int} (hlf : 1 ≤ life) (ho : o.Perm (upto ws.length)) (h : Ff ws life o A U) : Good ws life A U.length ∧ (∀ k : Nat, k < U.length → (k : Int) ∈ A) ∧ U.length ≤ ws.length := by
  obtain ⟨f1, f2, f3, f4⟩ := h
  have hin : ∀ i : Nat, i < ws.length → (i : Int) ∈ o := fun i hi => ho.mem_iff.2 (upto_mem.2 ⟨by omega, by omega⟩)
  refine ⟨⟨⟨f1, by omega⟩, fun a ha => ?_, fun k => ?_⟩, fun k hk => ?_, by rw [ho.length_eq, upto_len] at f2; exact f2⟩
  · obtain ⟨i, hi, e⟩ := mem_getD ha
    rw [← e]
    exact f3 i (hin i (by omega))
  · rw [← lp_all (P := o) hin]
    by_cases c : 0 ≤ k ∧ k < U.length
    · obtain ⟨_, h1, _, h2⟩ := f4 k.toNat (by omega)
      rw [show ((k.toNat : Nat) : Int) = k by omega] at h1
      omega
    · rw [lp_zero (fun i hi e => by have := f3 i hi; omega)]
      omega
  · obtain ⟨⟨i, i1, _, i3⟩, _⟩ := f4 k hk
    rw [← i3]
    exact getD_mem (by omega)

/-! The law's own test. -/
def cnt (A : List Int) (k : Int) : Nat → Nat
  | 0 => 0
  | n + 1 => cnt A k n + if A.getD n 0 = k then 1 else 0
theorem cnt_le (A : List Int) (k : Int) : ∀ n, cnt A k n ≤ n
  | 0 => Nat.le_refl _
  | n + 1 => by
    have := cnt_le A k n
    unfold cnt
    split <;> omega
theorem cnt_pos {A : List Int} {k : Int} {i : Nat} (h : A.getD i 0 = k) : ∀ n, i < n → 1 ≤ cnt A k n
  | 0, hi => by omega
  | n + 1, hi => by
    unfold cnt
    by_cases e : i = n
    · subst e
      rw [if_pos h]
      omega
    · have := cnt_pos h n (by omega)
      omega

theorem bins_ok {b : S_Blade} {l : List S_Cutting} {A : List Int} {M : Nat} (hg : Gd b l ws) (hA : Good ws b.Life A M) (hk : ∀ k : Nat, k < M → (k : Int) ∈ A) (hM : M ≤ ws.length) : laws_b10Bins b l A (M : Int) = some true := by
  obtain ⟨g1, g2, g3, g4⟩ := hg
  obtain ⟨⟨a1, _⟩, a2, a3⟩ := hA
  have hw0 : ∀ i, 0 ≤ ws.getD i 0 := by
    intro i
    by_cases c : i < ws.length
    · have := (g4 i c).1; omega
    · rw [List.getD_eq_getElem?_getD, List.getElem?_eq_none (by omega)]
      exact Int.le_refl 0
  unfold laws_b10Bins
  rw [if_neg (by omega)]
  have inner : ∀ k : Nat, loopO (laws_b10Bins_l9 A (k : Int) l (M : Int)) (0, 0, 0) = some (.inl (ld ws A (k : Int) ws.length, (cnt A (k : Int) ws.length : Int))) := by
    intro k
    have := loopO_for (fun i : Nat => (ld ws A (k : Int) i, (cnt A (k : Int) i : Int), (i : Int))) A.length (f := laws_b10Bins_l9 A (k : Int) l (M : Int)) (r := .inl (ld ws A (k : Int) ws.length, (cnt A (k : Int) ws.length : Int))) (fun i hi => by
      obtain ⟨⟨w1, w2⟩, x, x1, x2⟩ := g4 i (by omega)
      obtain ⟨b0, b1⟩ := a2 _ (getD_mem hi)
      have m1 := ld_mono (A := A) (a := (k : Int)) hw0 (show i + 1 ≤ ws.length by omega)
      have m2 := a3 (k : Int)
      have m3 := ld_mono (A := A) (a := (k : Int)) hw0 (show 0 ≤ i by omega)
      have m4 := cnt_le A (k : Int) i
      have e3 : ld ws A (k : Int) 0 = 0 := rfl
      unfold laws_b10Bins_l9 laws_b10Bins_k10
      simp only
      rw [if_pos (by omega), rd_getD 0 hi, Option.bind_some, if_neg (by omega), Option.bind_some, Option.bind_some, if_neg (by rw [decide_eq_true_eq]; omega), Option.bind_some]
      have e1 : ld ws A (k : Int) (i + 1) = ld ws A (k : Int) i + if A.getD i 0 = (k : Int) then ws.getD i 0 else 0 := rfl
      have e2 : cnt A (k : Int) (i + 1) = cnt A (k : Int) i + if A.getD i 0 = (k : Int) then 1 else 0 := rfl
      have wi : w64 ((i : Int) + 1) = ((i + 1 : Nat) : Int) := w64_succ (by omega)
      rw [wi]
      by_cases c : A.getD i 0 = (k : Int)
      · rw [if_pos c] at e1 e2 ⊢
        have hx : rd l (i : Int) = some x := by rw [rd_nat]; exact x1
        rw [hx, Option.bind_some, x2, Option.bind_some, if_neg (by simp)]
        rw [e1, e2, w64_id (by omega) (by omega), w64_id (by omega) (by omega)]
        simp only
        rw [show ((cnt A (k : Int) i + 1 : Nat) : Int) = (cnt A (k : Int) i : Int) + 1 by omega]
      · rw [if_neg c] at e1 e2 ⊢
        rw [e1, e2, Int.add_zero]
        rfl) (by
      unfold laws_b10Bins_l9
      simp only
      rw [if_neg (by omega), a1])
    exact this
  have := loopO_for (fun k : Nat => (k : Int)) M (f := laws_b10Bins_l4 b A l (M : Int)) (r := .inl ()) (fun k hkM => by
    obtain ⟨i, i1, i2⟩ := mem_getD (hk k hkM)
    have c1 := cnt_pos i2 ws.length (by omega)
    have m2 := a3 (k : Int)
    unfold laws_b10Bins_l4
    rw [if_pos (by omega), inner k]
    simp only [Option.bind_some]
    rw [if_neg (by omega), w64_succ (by omega)]) (by
    unfold laws_b10Bins_l4
    rw [if_neg (by omega)])
  have h0 : loopO (laws_b10Bins_l4 b A l (M : Int)) 0 = some (.inl ()) := this
  rw [h0]
  rfl

/-! The bound. -/
def tot (ws : List Int) : Nat → Int
  | 0 => 0
  | n + 1 => tot ws n + ws.getD n 0
def sk (ws A : List Int) (n : Nat) : Nat → Int
  | 0 => 0
  | M + 1 => sk ws A n M + ld ws A (M : Int) n

theorem sk_step {ws A : List Int} {n : Nat} : ∀ M : Nat, sk ws A (n + 1) M = sk ws A n M + if 0 ≤ A.getD n 0 ∧ A.getD n 0 < M then ws.getD n 0 else 0
  | 0 => by
    rw [if_neg (by omega)]
    rfl
  | M + 1 => by
    unfold sk
    rw [sk_step M]
    have e : ld ws A (M : Int) (n + 1) = ld ws A (M : Int) n + if A.getD n 0 = (M : Int) then ws.getD n 0 else 0 := rfl
    rw [e]
    by_cases c : A.getD n 0 = (M : Int)
    · rw [if_pos c, if_neg (by omega), if_pos (by omega)]
      omega
    · rw [if_neg c]
      by_cases c2 : 0 ≤ A.getD n 0 ∧ A.getD n 0 < (M : Int)
      · rw [if_pos c2, if_pos (by omega)]
        omega
      · rw [if_neg c2, if_neg (by omega)]
        omega

theorem sk_tot {ws A : List Int} {M : Nat} (hA : ∀ a ∈ A, 0 ≤ a ∧ a < (M : Int)) : ∀ n, n ≤ A.length → sk ws A n M = tot ws n
  | 0, _ => by
    have : ∀ M, sk ws A 0 M = 0 := by
      intro M
      induction M with
      | zero => rfl
      | succ M ih =>
        unfold sk
        rw [ih]
        rfl
    exact this M
  | n + 1, h => by
    rw [sk_step, sk_tot hA n (by omega), if_pos (hA _ (getD_mem (by omega)))]
    rfl

theorem sk_le {ws A : List Int} {n : Nat} {life : Int} (h : ∀ k, ld ws A k n ≤ life) : ∀ M : Nat, sk ws A n M ≤ M * life
  | 0 => by simp [sk]
  | M + 1 => by
    unfold sk
    have := sk_le h M
    have := h (M : Int)
    have e : ((M + 1 : Nat) : Int) * life = M * life + life := by
      rw [show ((M + 1 : Nat) : Int) = (M : Int) + 1 by omega, Int.add_mul, Int.one_mul]
    omega

theorem tot_num {ws : List Int} {life : Int} (hw : ∀ i, i < ws.length → 1 ≤ ws.getD i 0 ∧ ws.getD i 0 ≤ life) : ∀ n, n ≤ ws.length → 0 ≤ tot ws n ∧ tot ws n ≤ n * life
  | 0, _ => by simp [tot]
  | n + 1, h => by
    have := tot_num hw n (by omega)
    have := hw n (by omega)
    have e : ((n + 1 : Nat) : Int) * life = n * life + life := by
      rw [show ((n + 1 : Nat) : Int) = (n : Int) + 1 by omega, Int.add_mul, Int.one_mul]
    unfold tot
    omega

theorem bound_ok {b : S_Blade} (hN : ws.length ≤ 16) (hw : ∀ i, i < ws.length → 1 ≤ ws.getD i 0 ∧ ws.getD i 0 ≤ b.Life) (hlf : 1 ≤ b.Life ∧ b.Life ≤ 1000000) :
    ∃ low, impl_sumOf ws = some (tot ws ws.length) ∧ impl_upDiv (tot ws ws.length) b.Life = some low ∧ ∀ A (M : Nat), Good ws b.Life A M → low ≤ M := by
  have t16 : ∀ n, n ≤ ws.length → 0 ≤ tot ws n ∧ tot ws n ≤ 16000000 := by
    intro n hn
    have := tot_num hw n hn
    have : (n : Int) * b.Life ≤ 16 * 1000000 := Int.mul_le_mul (by omega) hlf.2 (by omega) (by omega)
    omega
  have hT := t16 ws.length (Nat.le_refl _)
  refine ⟨(tot ws ws.length + b.Life - 1) / b.Life, ?_, ?_, fun A M hA => ?_⟩
  · unfold impl_sumOf
    have := loopO_for (fun i : Nat => (tot ws i, (i : Int))) ws.length (f := impl_sumOf_l3 ws) (r := tot ws ws.length) (fun i hi => by
      have h1 := t16 (i + 1) (by omega)
      have e : tot ws (i + 1) = tot ws i + ws.getD i 0 := rfl
      unfold impl_sumOf_l3
      simp only
      rw [if_pos (by omega), rd_getD 0 hi, Option.bind_some, w64_succ (by omega), ← e, w64_id (by omega) (by omega)]) (by
      unfold impl_sumOf_l3
      simp only
      rw [if_neg (by omega)])
    have h0 : loopO (impl_sumOf_l3 ws) (0, 0) = some (tot ws ws.length) := this
    rw [h0]
    rfl
  · unfold impl_upDiv dv
    have e1 : w64 (tot ws ws.length + b.Life) = tot ws ws.length + b.Life := w64_id (by omega) (by omega)
    have e2 : w64 (tot ws ws.length + b.Life - 1) = tot ws ws.length + b.Life - 1 := w64_id (by omega) (by omega)
    have e3 : (tot ws ws.length + b.Life - 1).tdiv b.Life = (tot ws ws.length + b.Life - 1) / b.Life := Int.tdiv_eq_ediv_of_nonneg (by omega)
    have h0 : 0 ≤ (tot ws ws.length + b.Life - 1) / b.Life := Int.ediv_nonneg (by omega) (by omega)
    have h1 : (tot ws ws.length + b.Life - 1) / b.Life ≤ tot ws ws.length + b.Life - 1 := Int.ediv_le_self _ (by omega)
    rw [if_neg (by omega), e1, e2, e3]
    simp only [Option.bind_some]
    exact congrArg some (w64_id (by omega) (by omega))
  · have h1 := sk_le hA.2.2 M
    rw [sk_tot hA.2.1 ws.length (by have := hA.1.1; omega)] at h1
    have : (tot ws ws.length + b.Life - 1) / b.Life < (M : Int) + 1 := by
      apply Int.ediv_lt_of_lt_mul (by omega)
      rw [Int.add_mul, Int.one_mul]
      omega
    omega
end

theorem law_Bins (c : List Int) (hc : ∀ x ∈ c, 0 ≤ x ∧ x ≤ 255) : laws_FnBins c = some true := by
  unfold laws_FnBins laws_b10Long
  simp only [Option.bind_some]
  by_cases c1 : decide ((c.length : Int) > 1048576) = true
  · rw [if_pos c1]
  rw [if_neg c1]
  obtain ⟨⟨b, l, bud⟩, hd, hl0⟩ := drawn_ev hc
  simp only at hl0
  rw [hd]
  simp only [Option.bind_some]
  obtain ⟨⟨ws, code⟩, hws, hcase⟩ := wears_ev b l (by omega)
  simp only at hcase
  unfold impl_FewestBlades impl_DecreasingBlades impl_BladesBound
  rw [hws]
  simp only [Option.bind_some, within_eq]
  rcases hcase with ⟨rfl, hg⟩ | ⟨hcode, rfl⟩
  · obtain ⟨g1, g2, g3, g4⟩ := id hg
    have hw : ∀ i, i < ws.length → 1 ≤ ws.getD i 0 ∧ ws.getD i 0 ≤ b.Life := fun i hi => (g4 i hi).1
    -- the decreasing one
    have lp := loopO_for (fun i : Nat => ((i : Int), upto i)) ws.length (f := impl_DecreasingBlades_l6 (ws, 0)) (r := upto ws.length) (fun i hi => by
      unfold impl_DecreasingBlades_l6
      simp only
      rw [if_pos (by omega), apd1 (by rw [upto_len]; omega), Option.bind_some, w64_succ (by omega)]
      rfl) (by
      unfold impl_DecreasingBlades_l6
      simp only
      rw [if_neg (by omega)])
    have lp' : loopO (impl_DecreasingBlades_l6 (ws, 0)) (0, []) = some (upto ws.length) := lp
    obtain ⟨o, o1, o2⟩ := sort_perm (cmp := fun a0 a1 => impl_DecreasingBlades_c1 a0 a1 ws) (l := upto ws.length) (by rw [upto_len]; omega) (fun x hx y hy => by
      obtain ⟨x0, x1⟩ := upto_mem.1 hx
      obtain ⟨y0, y1⟩ := upto_mem.1 hy
      obtain ⟨a, ea, ha⟩ := rd_some x0 x1
      obtain ⟨d, ed, hd⟩ := rd_some y0 y1
      unfold impl_DecreasingBlades_c1
      rw [ea, ed]
      exact ⟨_, rfl⟩)
    obtain ⟨⟨A, U⟩, d1, d2⟩ := dec_ev (b := b) (c := 0) (by omega) hw g3 o2
    simp only at d2
    obtain ⟨p1, p2, p3⟩ := ff_good g3.1 o2 d2
    have hmk : mkl 8 (ws.length : Int) (0 : Int) = some (List.replicate ws.length 0) := by
      unfold mkl
      rw [if_pos (by omega), Int.toNat_natCast]
    obtain ⟨low, q1, q2, q3⟩ := bound_ok (b := b) (by omega) hw g3
    have hlow := q3 A U.length p1
    have hb1 := bins_ok hg p1 p2 p3
    simp only [if_true, ne_eq, not_true, if_false, lp', Option.bind_some, o1, hmk, d1, q1, q2, hb1]
    by_cases c2 : 1 ≤ bud ∧ bud ≤ 20000
    · simp only [c2, and_self, decide_true, Bool.not_true, Bool.false_eq_true, if_false, impl_FewestBlades_k4, ne_eq, not_true]
      obtain ⟨⟨F, n, code⟩, f1, f2⟩ := fewest_ev (life := b.Life) (left := bud) (by omega) hw g3 (by omega) (by omega)
      simp only at f2
      rw [f1]
      simp only [Option.bind_some]
      rcases f2 with ⟨rfl, V, v1, v2, v3, v4⟩ | ⟨rfl, rfl, rfl⟩
      · subst v3
        have hG := gs_good g3.1 v1 v2
        have h1 := v4 A _ p1
        have h2 := q3 F V.length hG
        have h3 := v4 _ _ (good_upto hw g3.1)
        have hb2 := bins_ok hg hG (fun k hk => (v1.2 k hk).1) (by omega)
        rw [if_neg (by omega)]
        simp only [if_neg (show ¬ ((U.length : Int) < low) by omega), Option.bind_some, Bool.not_true, Bool.false_eq_true, if_false, not_true, if_pos h1, if_pos (show (V.length : Int) ≥ low from h2), hb2]
      · rw [if_neg (by omega)]
        simp only [if_neg (show ¬ ((U.length : Int) < low) by omega), Option.bind_some, Bool.not_true, Bool.false_eq_true, if_false]
        rfl
    · simp only [c2, decide_false, Bool.not_false, if_true, impl_FewestBlades_k4, ne_eq]
      rw [if_pos (by omega)]
      simp only [Option.bind_some]
      rw [if_neg (by omega)]
      simp only [if_neg (show ¬ ((U.length : Int) < low) by omega), Option.bind_some, Bool.not_true, Bool.false_eq_true, if_false]
      rfl
  · unfold impl_FewestBlades_k4
    rcases hcode with rfl | rfl
    · rfl
    · rfl

end Go.Pw
