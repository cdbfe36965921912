/- The plain law of FnMatches. Conditions: none. -/
import Derived.Test.YtigjhjlkdamncaaTmaT
import Derived.Test.YtigjhjlkdamncaaSimPn
namespace Go.Pw
open Go.Sim (min2 max2)
set_option linter.unusedVariables false
set_option linter.unusedSimpArgs false

theorem within_eq (n a b : Int) : impl_within n a b = some (decide (a ≤ n ∧ n ≤ b)) := by
  unfold impl_within
  rw [Bool.decide_and]

def Sr (c : List Int) (n : Int) (s : S_l00Src) : Prop := s.code = c ∧ 0 ≤ s.at_ ∧ s.at_ ≤ n

theorem Sr.mono {c : List Int} {n m : Int} {s : S_l00Src} (h : Sr c n s) (hm : n ≤ m) : Sr c m s := ⟨h.1, h.2.1, by have := h.2.2; omega⟩

theorem and255 (x : Int) : 0 ≤ bit_and .u64 x 255 ∧ bit_and .u64 x 255 ≤ 255 := by
  unfold bit_and
  have h1 : (BitVec.ofInt IntKind.u64.bits x &&& BitVec.ofInt IntKind.u64.bits 255).toNat ≤ 255 := by
    rw [BitVec.toNat_and]
    exact Nat.le_trans Nat.and_le_right (by decide)
  generalize (BitVec.ofInt IntKind.u64.bits x &&& BitVec.ofInt IntKind.u64.bits 255).toNat = k at h1
  have e : IntKind.wrap .u64 (k : Int) = (k : Int) := by
    simp only [IntKind.wrap, IntKind.signed, IntKind.bits]
    simp
    omega
  rw [e]
  omega

theorem next_ok {c : List Int} (hc : ∀ x ∈ c, 0 ≤ x ∧ x ≤ 255) {n : Int} (hn : n ≤ 1000000000) {s : S_l00Src} (h : Sr c n s) : ∃ v s', spec_l00Src_next s = some (v, s') ∧ 0 ≤ v ∧ v ≤ 255 ∧ Sr c (n + 1) s' := by
  obtain ⟨h1, h2, h3⟩ := h
  have e1 : w64 (s.at_ + 1) = s.at_ + 1 := w64_id (by omega) (by omega)
  have k4 : ∀ b, 0 ≤ b → b ≤ 255 → ∃ v s', spec_l00Src_next_k4 s b = some (v, s') ∧ 0 ≤ v ∧ v ≤ 255 ∧ Sr c (n + 1) s' := by
    intro b b1 b2
    unfold spec_l00Src_next_k4 shr
    rw [e1]
    by_cases q : s.at_ + 1 ≤ (s.code.length : Int)
    · rw [if_pos q]
      exact ⟨_, _, rfl, b1, b2, h1, by show 0 ≤ s.at_ + 1; omega, by show s.at_ + 1 ≤ n + 1; omega⟩
    · rw [if_neg q, if_neg (by decide)]
      simp only [Option.bind_some]
      have a := and255 (Int.fdiv (IntKind.wrap .u64 ((IntKind.wrap .u64 ((IntKind.wrap .u64 (s.seed * 6364136223846793005)) + (IntKind.wrap .u64 b))) + 1442695040888963407)) (2 ^ min (Int.toNat 40) IntKind.u64.bits))
      refine ⟨_, _, rfl, ?_, ?_, h1, by show 0 ≤ s.at_ + 1; omega, by show s.at_ + 1 ≤ n + 1; omega⟩
      · rw [w64_id (by omega) (by omega)]; exact a.1
      · rw [w64_id (by omega) (by omega)]; exact a.2
  unfold spec_l00Src_next
  by_cases q : s.at_ < (s.code.length : Int)
  · rw [if_pos q]
    obtain ⟨i, hi⟩ : ∃ i : Nat, s.at_ = (i : Int) := ⟨s.at_.toNat, by omega⟩
    have hlt : i < s.code.length := by omega
    rw [hi, rd_lt hlt, Option.bind_some]
    have hb := hc s.code[i] (by rw [← h1]; exact List.getElem_mem hlt)
    rw [w64_id (by omega) (by omega)]
    exact k4 _ hb.1 hb.2
  · rw [if_neg q]
    exact k4 0 (by omega) (by omega)

theorem pick_ok {c : List Int} (hc : ∀ x ∈ c, 0 ≤ x ∧ x ≤ 255) {n : Int} (hn : n ≤ 999999999) {s : S_l00Src} (h : Sr c n s) (m : Int) : ∃ v s', spec_l00Src_pick s m = some (v, s') ∧ 0 ≤ v ∧ (1 ≤ m → v < m) ∧ Sr c (n + 2) s' := by
  unfold spec_l00Src_pick
  by_cases q : m ≤ 1
  · rw [if_pos q]
    exact ⟨_, _, rfl, by omega, by omega, h.mono (by omega)⟩
  · rw [if_neg q]
    obtain ⟨v, s1, e1, v1, v2, h1⟩ := next_ok hc (by omega) h
    have k6 : ∀ (x : Int) (t : S_l00Src), 0 ≤ x → Sr c (n + 2) t → ∃ v s', spec_l00Src_pick_k6 m x t.code t.at_ t.seed = some (v, s') ∧ 0 ≤ v ∧ (1 ≤ m → v < m) ∧ Sr c (n + 2) s' := by
      intro x t hx ht
      unfold spec_l00Src_pick_k6 md
      rw [if_neg (by omega), Option.bind_some]
      have e : x.tmod m = x % m := Int.tmod_eq_emod_of_nonneg hx
      refine ⟨_, _, rfl, ?_, fun _ => ?_, ht⟩
      · rw [e]; exact Int.emod_nonneg _ (by omega)
      · rw [e]; exact Int.emod_lt_of_pos _ (by omega)
    simp only [e1, Option.bind_some]
    by_cases q2 : m > 200
    · rw [if_pos q2]
      obtain ⟨w, s2, e2, w1, w2, h2⟩ := next_ok hc (n := n + 1) (by omega) h1
      simp only [e2, Option.bind_some]
      have a1 : w64 (v * 256) = v * 256 := w64_id (by omega) (by omega)
      have a2 : w64 (v * 256 + w) = v * 256 + w := w64_id (by omega) (by omega)
      rw [a1, a2]
      exact k6 _ s2 (by omega) (h2.mono (by omega))
    · rw [if_neg q2]
      exact k6 v s1 v1 (h1.mono (by omega))

theorem one_ok {c : List Int} (hc : ∀ x ∈ c, 0 ≤ x ∧ x ≤ 255) {n : Int} (hn : n ≤ 999999999) {s : S_l00Src} (h : Sr c n s) (m : Int) : ∃ v s', spec_l00Src_one s m = some (v, s') ∧ Sr c (n + 2) s' := by
  obtain ⟨v, s', e, _, _, h'⟩ := pick_ok hc hn h m
  unfold spec_l00Src_one
  rw [e]
  exact ⟨_, _, rfl, h'⟩

theorem among_ok {c : List Int} (hc : ∀ x ∈ c, 0 ≤ x ∧ x ≤ 255) {n : Int} (hn : n ≤ 999999999) {s : S_l00Src} (h : Sr c n s) (l : List Int) (hl : 1 ≤ l.length) : ∃ v s', spec_l00Src_among s l = some (v, s') ∧ v ∈ l ∧ Sr c (n + 2) s' := by
  obtain ⟨v, s', e, v1, v2, h'⟩ := pick_ok hc hn h (l.length : Int)
  have v3 := v2 (by omega)
  obtain ⟨i, hi⟩ : ∃ i : Nat, v = (i : Int) := ⟨v.toNat, by omega⟩
  subst hi
  have hlt : i < l.length := by omega
  unfold spec_l00Src_among
  rw [e]
  simp only [Option.bind_some, rd_lt hlt]
  exact ⟨_, _, rfl, List.getElem_mem hlt, h'⟩

theorem text_ok {c : List Int} (hc : ∀ x ∈ c, 0 ≤ x ∧ x ≤ 255) {n : Int} (hn : n ≤ 999999999) {s : S_l00Src} (h : Sr c n s) (l : List ByteArray) (hl : 1 ≤ l.length) : ∃ v s', spec_l00Src_text s l = some (v, s') ∧ Sr c (n + 2) s' := by
  obtain ⟨v, s', e, v1, v2, h'⟩ := pick_ok hc hn h (l.length : Int)
  have v3 := v2 (by omega)
  obtain ⟨i, hi⟩ : ∃ i : Nat, v = (i : Int) := ⟨v.toNat, by omega⟩
  subst hi
  have hlt : i < l.length := by omega
  unfold spec_l00Src_text
  rw [e]
  simp only [Option.bind_some, rd_lt hlt]
  exact ⟨_, _, rfl, h'⟩

theorem from_ok (c : List Int) : ∃ s, spec_l00From c = some s ∧ Sr c 0 s := ⟨_, rfl, rfl, by show (0 : Int) ≤ 0; omega, by show (0 : Int) ≤ 0; omega⟩

theorem budget_ok {c : List Int} (hc : ∀ x ∈ c, 0 ≤ x ∧ x ≤ 255) {n : Int} (hn : n ≤ 990000000) {s : S_l00Src} (h : Sr c n s) : ∃ v s', spec_l08DrawBudget s = some (v, s') ∧ Sr c (n + 4) s' := by
  unfold spec_l08DrawBudget
  obtain ⟨v1, s1, e1, h1⟩ := one_ok hc (by omega) h 6
  simp only [e1, Option.bind_some]
  by_cases c1 : v1 = true
  · rw [if_pos c1]
    obtain ⟨v2, s2, e2, _, h2⟩ := among_ok hc (by omega) h1 [0, 1, 5, 20000, 20001] (by decide)
    simp only [e2, Option.bind_some]
    exact ⟨_, _, rfl, h2.mono (by omega)⟩
  · rw [if_neg c1]
    obtain ⟨v2, s2, e2, _, _, h2⟩ := pick_ok hc (by omega) h1 400
    simp only [e2, Option.bind_some]
    exact ⟨_, _, rfl, h2.mono (by omega)⟩

theorem name_some (s : ByteArray) : ∃ v, impl_IsName s = some v := by
  unfold impl_IsName
  by_cases c0 : (s.size : Int) < 1
  · rw [if_pos c0]; exact ⟨_, rfl⟩
  · rw [if_neg c0]
    by_cases c1 : (s.size : Int) > 10
    · rw [if_pos c1]; exact ⟨_, rfl⟩
    · rw [if_neg c1]
      obtain ⟨b, hb, hb1, hb2⟩ := bt_some (s := s) (i := 0) (by omega)
      have hb' : bt s 0 = some b := hb
      rw [hb']
      have hloop : ∃ o, loopO (impl_IsName_l4 s) 0 = some o := by
        refine scanEnds s.size (by omega) (fun i hi => ?_) ⟨.inl (), ?_⟩
        · obtain ⟨x, hx, _⟩ := bt_some (s := s) hi
          unfold impl_IsName_l4
          rw [if_pos (by omega), hx]
          simp only [Option.bind_some]
          have : ∃ v : Bool, (if x < 97 then (if x < 48 then some true else some (decide (x > 57))) else (if x > 122 then (if x < 48 then some true else some (decide (x > 57))) else some false)) = some v := by
            split
            · split <;> exact ⟨_, rfl⟩
            · split
              · split <;> exact ⟨_, rfl⟩
              · exact ⟨_, rfl⟩
          obtain ⟨v, hv⟩ := this
          rw [hv]
          cases v with
          | true => exact .inr ⟨_, rfl⟩
          | false => exact .inl rfl
        · unfold impl_IsName_l4
          rw [if_neg (by omega)]
      obtain ⟨o, ho⟩ := hloop
      rw [ho]
      have : ∃ v : Bool, ((some b).bind fun x14 => if x14 < 97 then some true else (some b).bind fun x19 => some (decide (x19 > 122))) = some v := by
        simp only [Option.bind_some]
        split <;> exact ⟨_, rfl⟩
      obtain ⟨v, hv⟩ := this
      rw [hv]
      cases v with
      | true => exact ⟨_, rfl⟩
      | false => cases o <;> exact ⟨_, rfl⟩

theorem has_impl (l : List Int) (n : Int) (hl : l.length ≤ 1048576) : slices_Contains_int64_int64 l n = some (decide (n ∈ l)) := by
  unfold slices_Contains_int64_int64 slices_Index_int64_int64
  rcases scanAll (f := slices_Index_int64_int64_l2 l n) l (fun x => !decide (n = x)) (fun i => (i : Int)) (by omega) (fun i hi => by
    unfold slices_Index_int64_int64_l2
    rw [if_pos (by omega), rd_lt hi, Option.bind_some]
    by_cases c : n = l[i] <;> simp [c]) (by unfold slices_Index_int64_int64_l2; rw [if_neg (by omega)]) with ⟨h1, h2⟩ | ⟨h1, i, hi, h2⟩
  · rw [h2]
    have : ¬ n ∈ l := fun h => by
      have := List.all_eq_true.1 h1 n h
      simp at this
    simp [this]
  · rw [h2]
    have : n ∈ l := by
      rw [List.all_eq_false] at h1
      obtain ⟨x, hx, h⟩ := h1
      simp at h
      exact h ▸ hx
    simp [this]

theorem apd1 {l : List Int} {x : Int} (h : l.length ≤ 1000000) : apd 8 l [x] = some (l ++ [x]) := by
  unfold apd
  rw [if_pos (by simp; omega)]
theorem apd0 {l : List Int} (h : l.length ≤ 1000000) : apd 8 ([] : List Int) l = some l := by
  unfold apd
  rw [if_pos (by simp; omega)]
  rfl

/-- One element is brought to its place: the others are kept. -/
theorem ins_in {cmp : Int → Int → Option Int} : ∀ (j : Nat) (l : List Int), j < l.length → l.length ≤ 1048576 → (∀ x ∈ l, ∀ y ∈ l, ∃ v, cmp x y = some v) →
    ∃ l', loopO (slices_insertionSortCmpFunc_int64_l4 0 cmp) ((j : Int), l) = some l' ∧ l'.Perm l := by
  intro j
  induction j with
  | zero =>
    intro l hj hl hc
    refine ⟨l, loopO_done ?_, List.Perm.refl _⟩
    unfold slices_insertionSortCmpFunc_int64_l4
    simp only
    rw [if_neg (by omega)]
    simp
  | succ j ih =>
    intro l hj hl hc
    have hp : w64 (((j + 1 : Nat) : Int) - 1) = ((j : Nat) : Int) := by rw [w64_id (by omega) (by omega)]; omega
    have hj' : j < l.length := by omega
    obtain ⟨v, hv⟩ := hc l[j + 1] (List.getElem_mem hj) l[j] (List.getElem_mem hj')
    by_cases c : v < 0
    · have S1 : slices_insertionSortCmpFunc_int64_l4 0 cmp (((j + 1 : Nat) : Int), l) = some (.inl ((j : Int), (l.set (j + 1) l[j]).set j l[j + 1])) := by
        unfold slices_insertionSortCmpFunc_int64_l4
        simp only
        rw [if_pos (by omega), rd_lt hj, Option.bind_some, hp, rd_lt hj', Option.bind_some, hv]
        simp only [Option.bind_some, decide_eq_true_eq]
        rw [if_pos c, rd_lt (show j < (l.set ((j + 1 : Nat) : Int).toNat l[j]).length by rw [List.length_set]; exact hj')]
        rfl
      rw [loopO_next S1]
      have pm : ((l.set (j + 1) l[j]).set j l[j + 1]).Perm l := List.set_set_perm hj hj'
      obtain ⟨l', h1, h2⟩ := ih _ (by simp; omega) (by simp; omega) (fun x hx y hy => hc x (pm.mem_iff.1 hx) y (pm.mem_iff.1 hy))
      exact ⟨l', h1, h2.trans pm⟩
    · refine ⟨l, loopO_done ?_, List.Perm.refl _⟩
      unfold slices_insertionSortCmpFunc_int64_l4
      simp only
      rw [if_pos (by omega), rd_lt hj, Option.bind_some, hp, rd_lt hj', Option.bind_some, hv]
      simp only [Option.bind_some, decide_eq_true_eq]
      rw [if_neg c]

/-- The elements one after the other. -/
theorem ins_out {cmp : Int → Int → Option Int} : ∀ (m i : Nat) (l : List Int), i + m = l.length → l.length ≤ 1048576 → (∀ x ∈ l, ∀ y ∈ l, ∃ v, cmp x y = some v) →
    ∃ l', loopO (slices_insertionSortCmpFunc_int64_l1 0 (l.length : Int) cmp) ((i : Int), l) = some l' ∧ l'.Perm l := by
  intro m
  induction m with
  | zero =>
    intro i l hi hl hc
    refine ⟨l, loopO_done ?_, List.Perm.refl _⟩
    unfold slices_insertionSortCmpFunc_int64_l1
    simp only
    rw [if_neg (by omega)]
  | succ m ih =>
    intro i l hi hl hc
    obtain ⟨l1, h1, h2⟩ := ins_in i l (by omega) hl hc
    have S1 : slices_insertionSortCmpFunc_int64_l1 0 (l.length : Int) cmp ((i : Int), l) = some (.inl (((i + 1 : Nat) : Int), l1)) := by
      unfold slices_insertionSortCmpFunc_int64_l1
      simp only
      rw [if_pos (by omega), h1, Option.bind_some, w64_succ (by omega)]
    rw [loopO_next S1]
    have e := h2.length_eq
    obtain ⟨l', h3, h4⟩ := ih (i + 1) l1 (by omega) (by omega) (fun x hx y hy => hc x (h2.mem_iff.1 hx) y (h2.mem_iff.1 hy))
    rw [e] at h3
    exact ⟨l', h3, h4.trans h2⟩

theorem ins_all {cmp : Int → Int → Option Int} {l : List Int} (hl : l.length ≤ 1048576) (hc : ∀ x ∈ l, ∀ y ∈ l, ∃ v, cmp x y = some v) :
    ∃ l', slices_insertionSortCmpFunc_int64 l 0 (l.length : Int) cmp = some l' ∧ l'.Perm l := by
  unfold slices_insertionSortCmpFunc_int64
  have e : w64 (0 + 1) = 1 := rfl
  rw [e]
  cases l with
  | nil =>
    refine ⟨[], ?_, List.Perm.refl _⟩
    have : loopO (slices_insertionSortCmpFunc_int64_l1 0 (([] : List Int).length : Int) cmp) (1, []) = some [] := by
      refine loopO_done ?_
      unfold slices_insertionSortCmpFunc_int64_l1
      simp
    rw [this]
    rfl
  | cons x l =>
    obtain ⟨l', h1, h2⟩ := ins_out l.length 1 (x :: l) (by simp; omega) hl hc
    have h1' : loopO (slices_insertionSortCmpFunc_int64_l1 0 ((x :: l).length : Int) cmp) (1, x :: l) = some l' := h1
    rw [h1']
    exact ⟨l', rfl, h2⟩

/-- A short list, sorted: its elements in some order. -/
theorem sort_perm {cmp : Int → Int → Option Int} {l : List Int} (hl : l.length ≤ 19) (hc : ∀ x ∈ l, ∀ y ∈ l, ∃ v, cmp x y = some v) :
    ∃ l', slices_SortStableFunc_int64_int64 l cmp = some l' ∧ l'.Perm l := by
  unfold slices_SortStableFunc_int64_int64 slices_stableCmpFunc_int64
  have h1 : loopO (slices_stableCmpFunc_int64_l2 cmp (l.length : Int)) (0, 20, l) = some (0, l) := by
    refine loopO_done ?_
    unfold slices_stableCmpFunc_int64_l2
    simp only
    rw [if_neg (by omega)]
  obtain ⟨l', h2, h3⟩ := ins_all (by omega) hc
  have h4 : loopO (slices_stableCmpFunc_int64_l7 cmp (l.length : Int)) (20, l') = some l' := by
    refine loopO_done ?_
    unfold slices_stableCmpFunc_int64_l7
    simp only
    rw [if_neg (by omega)]
  refine ⟨l', ?_, h3⟩
  rw [h1]
  simp only [Option.bind_some, h2, h4]


/-! What is drawn. -/
theorem ok_ok {c : List Int} (hc : ∀ x ∈ c, 0 ≤ x ∧ x ≤ 255) {n : Int} (hn : n ≤ 990000000) {s : S_l00Src} (h : Sr c n s) (id : ByteArray) : ∃ v s', spec_l26DrawOk s id = some (v, s') ∧ v.Values.length = 6 ∧ Sr c (n + 12) s' := by
  unfold spec_l26DrawOk
  have key : ∀ (m k : Nat) (t : S_l00Src) (l : List Int), k + m = 6 → l.length = k → Sr c (n + 2 * k) t → ∃ r, loopO spec_l26DrawOk_l3 ((k : Int), t.code, t.at_, t.seed, l) = some r ∧ r.2.2.2.length = 6 ∧ Sr c (n + 12) ⟨r.1, r.2.1, r.2.2.1⟩ := by
    intro m
    induction m with
    | zero =>
      intro k t l hk hl ht
      refine ⟨(t.code, t.at_, t.seed, l), loopO_done ?_, by show l.length = 6; omega, ht.mono (by omega)⟩
      unfold spec_l26DrawOk_l3
      simp only
      rw [if_neg (by omega)]
    | succ m ih =>
      intro k t l hk hl ht
      obtain ⟨v, t', e, _, ht'⟩ := among_ok hc (by omega) ht [0, 10, 50, 100, 255, 20, 30, 12] (by decide)
      have S1 : spec_l26DrawOk_l3 ((k : Int), t.code, t.at_, t.seed, l) = some (.inl (((k + 1 : Nat) : Int), t'.code, t'.at_, t'.seed, l ++ [v])) := by
        unfold spec_l26DrawOk_l3
        simp only
        have e' : spec_l00Src_among ⟨t.code, t.at_, t.seed⟩ [0, 10, 50, 100, 255, 20, 30, 12] = some (v, t') := e
        rw [if_pos (by omega), e', Option.bind_some, apd1 (by omega), Option.bind_some, w64_succ (by omega)]
      rw [loopO_next S1]
      exact ih (k + 1) t' (l ++ [v]) (by omega) (by simp; omega) (ht'.mono (by omega))
  obtain ⟨r, r1, r2, r3⟩ := key 6 0 s [] (by omega) rfl (h.mono (by omega))
  have r1' : loopO spec_l26DrawOk_l3 (0, s.code, s.at_, s.seed, []) = some r := r1
  rw [r1']
  exact ⟨_, _, rfl, r2, r3⟩

theorem feat_ok {c : List Int} (hc : ∀ x ∈ c, 0 ≤ x ∧ x ≤ 255) {n : Int} (hn : n ≤ 980000000) {s : S_l00Src} (h : Sr c n s) : ∃ v s', spec_l26DrawOne s = some (v, s') ∧ Sr c (n + 18) s' := by
  unfold spec_l26DrawOne
  obtain ⟨v1, s1, e1, h1⟩ := text_ok hc (by omega) h ([(⟨#[97]⟩ : ByteArray), (⟨#[98]⟩ : ByteArray), (⟨#[111, 97, 107, 49]⟩ : ByteArray)] : List ByteArray) (by decide)
  simp only [e1, Option.bind_some]
  obtain ⟨v2, s2, e2, l2, h2⟩ := ok_ok hc (by omega) h1 v1
  simp only [e2, Option.bind_some]
  obtain ⟨v3, s3, e3, _, _, h3⟩ := pick_ok hc (by omega) h2 18
  simp only [e3, Option.bind_some]
  have k : ∀ (t : S_l00Src) a b, Sr c (n + 18) t → ∃ v s', spec_l26DrawOne_k9 t.code t.at_ t.seed a b = some (v, s') ∧ Sr c (n + 18) s' := fun t a b ht => ⟨_, _, rfl, ht⟩
  by_cases c0 : v3 = 0
  · rw [if_pos c0]
    obtain ⟨v4, s4, e4, _, h4⟩ := among_ok hc (by omega) h3 [(-1), 255, 256] (by decide)
    obtain ⟨y, hy, _⟩ := rd_some (L := v2.Values) (i := 3) (by omega) (by omega)
    simp only [e4, Option.bind_some, hy]
    exact k _ _ _ (h4.mono (by omega))
  rw [if_neg c0]
  by_cases c1 : v3 = 1
  · rw [if_pos c1]
    have : slc v2.Values 1 (v2.Values.length : Int) = some ((v2.Values.take ((v2.Values.length : Int).toNat)).drop ((1 : Int).toNat)) := by
      unfold slc
      rw [if_pos ⟨by omega, by omega, by omega⟩]
    rw [this, Option.bind_some]
    exact k _ _ _ (h3.mono (by omega))
  rw [if_neg c1]
  by_cases c2 : v3 = 2
  · rw [if_pos c2]
    obtain ⟨v4, s4, e4, h4⟩ := text_ok hc (by omega) h3 ([(⟨#[]⟩ : ByteArray), (⟨#[65]⟩ : ByteArray)] : List ByteArray) (by decide)
    simp only [e4, Option.bind_some]
    exact k _ _ _ (h4.mono (by omega))
  rw [if_neg c2]
  exact k _ _ _ (h3.mono (by omega))

theorem apf {l : List S_Feature} {x : S_Feature} (h : l.length ≤ 1000) : apd 40 l [x] = some (l ++ [x]) := by
  apply apdn
  simp
  omega

theorem feats_ok {c : List Int} (hc : ∀ x ∈ c, 0 ≤ x ∧ x ≤ 255) {n : Int} (hn : n ≤ 970000000) {s : S_l00Src} (h : Sr c n s) : ∃ v s', spec_l26DrawList s = some (v, s') ∧ v.length ≤ 20 ∧ Sr c (n + 200) s' := by
  unfold spec_l26DrawList
  have key : ∀ (m k : Nat) (t : S_l00Src) (l : List S_Feature), k + m = 7 → l.length ≤ k → Sr c (n + 14 * k) t → ∃ r, loopO spec_l26DrawList_l4 ((k : Int), t.code, t.at_, t.seed, l) = some r ∧ r.2.2.2.length ≤ 7 ∧ Sr c (n + 98) ⟨r.1, r.2.1, r.2.2.1⟩ := by
    intro m
    induction m with
    | zero =>
      intro k t l hk hl ht
      refine ⟨(t.code, t.at_, t.seed, l), loopO_done ?_, by show l.length ≤ 7; omega, ht.mono (by omega)⟩
      unfold spec_l26DrawList_l4
      simp only [List.length_cons, List.length_nil]
      rw [if_neg (by omega)]
    | succ m ih =>
      intro k t l hk hl ht
      obtain ⟨v, t', e, ht'⟩ := one_ok hc (by omega) ht 2
      have e' : spec_l00Src_one ⟨t.code, t.at_, t.seed⟩ 2 = some (v, t') := e
      have hkl : k < ([(⟨#[97]⟩ : ByteArray), (⟨#[98]⟩ : ByteArray), (⟨#[99]⟩ : ByteArray), (⟨#[100]⟩ : ByteArray), (⟨#[101]⟩ : ByteArray), (⟨#[102]⟩ : ByteArray), (⟨#[103]⟩ : ByteArray)] : List ByteArray).length := by
        simp only [List.length_cons, List.length_nil]
        omega
      cases v with
      | true =>
        obtain ⟨f, t2, e2, _, h2⟩ := ok_ok hc (by omega) ht' (([(⟨#[97]⟩ : ByteArray), (⟨#[98]⟩ : ByteArray), (⟨#[99]⟩ : ByteArray), (⟨#[100]⟩ : ByteArray), (⟨#[101]⟩ : ByteArray), (⟨#[102]⟩ : ByteArray), (⟨#[103]⟩ : ByteArray)] : List ByteArray)[k]'hkl)
        have S1 : spec_l26DrawList_l4 ((k : Int), t.code, t.at_, t.seed, l) = some (.inl (((k + 1 : Nat) : Int), t2.code, t2.at_, t2.seed, l ++ [f])) := by
          unfold spec_l26DrawList_l4 spec_l26DrawList_k5
          simp only
          rw [if_pos (by omega), e', Option.bind_some, if_pos rfl, rd_lt hkl, Option.bind_some, e2, Option.bind_some, apf (by omega), Option.bind_some, w64_succ (by omega)]
        rw [loopO_next S1]
        exact ih (k + 1) t2 _ (by omega) (by simp; omega) (h2.mono (by omega))
      | false =>
        have S1 : spec_l26DrawList_l4 ((k : Int), t.code, t.at_, t.seed, l) = some (.inl (((k + 1 : Nat) : Int), t'.code, t'.at_, t'.seed, l)) := by
          unfold spec_l26DrawList_l4 spec_l26DrawList_k5
          simp only
          rw [if_pos (by omega), e', Option.bind_some, if_neg (by simp), w64_succ (by omega)]
        rw [loopO_next S1]
        exact ih (k + 1) t' _ (by omega) (by omega) (ht'.mono (by omega))
  obtain ⟨r, r1, r2, r3⟩ := key 7 0 s [] (by omega) (by simp) (h.mono (by omega))
  have r1' : loopO spec_l26DrawList_l4 (0, s.code, s.at_, s.seed, []) = some r := r1
  rw [r1', Option.bind_some]
  obtain ⟨a1, a2, a3, l⟩ := r
  simp only
  obtain ⟨v4, s4, e4, _, _, h4⟩ := pick_ok hc (by omega) r3 24
  simp only at e4 r2
  simp only [e4, Option.bind_some]
  have k18 : ∀ (t : S_l00Src) (l : List S_Feature), Sr c (n + 200) t → l.length ≤ 20 → ∃ v s', spec_l26DrawList_k18 t.code t.at_ t.seed l = some (v, s') ∧ v.length ≤ 20 ∧ Sr c (n + 200) s' := fun t l ht hl => ⟨_, _, rfl, hl, ht⟩
  by_cases c0 : v4 = 0
  · rw [if_pos c0]
    obtain ⟨f, s5, e5, h5⟩ := feat_ok hc (by omega) h4
    simp only [e5, Option.bind_some]
    rw [apf (by omega), Option.bind_some]
    exact k18 _ _ (h5.mono (by omega)) (by simp; omega)
  rw [if_neg c0]
  by_cases c1 : v4 = 1
  · rw [if_pos c1]
    obtain ⟨v5, s5, e5, a5, h5⟩ := among_ok hc (by omega) h4 [16, 17] (by decide)
    simp only [e5, Option.bind_some]
    have a6 : v5 = 16 ∨ v5 = 17 := by simpa using a5
    have key2 : ∀ (m k : Nat) (l : List S_Feature), (k : Int) + m = v5 → l.length ≤ k → ∃ r, loopO (spec_l26DrawList_l15 (v5, s5)) ((k : Int), l) = some r ∧ r.length ≤ 20 := by
      intro m
      induction m with
      | zero =>
        intro k l hk hl
        refine ⟨l, loopO_done ?_, by omega⟩
        unfold spec_l26DrawList_l15
        simp only
        rw [if_neg (by omega)]
      | succ m ih =>
        intro k l hk hl
        have e0 : ∀ z : Int, cat (⟨#[110]⟩ : ByteArray) (strOf [z]) = some ((⟨#[110]⟩ : ByteArray) ++ strOf [z]) := fun z => cat_some (by
          have h1 : (⟨#[110]⟩ : ByteArray).size = 1 := rfl
          have h2 : (strOf [z]).size = 1 := rfl
          rw [h1, h2]
          omega)
        obtain ⟨x, S1⟩ : ∃ x, spec_l26DrawList_l15 (v5, s5) ((k : Int), l) = some (.inl (((k + 1 : Nat) : Int), l ++ [x])) := by
          unfold spec_l26DrawList_l15
          simp only
          rw [if_pos (by omega), e0, Option.bind_some, apf (by omega), Option.bind_some, w64_succ (by omega)]
          exact ⟨_, rfl⟩
        rw [loopO_next S1]
        exact ih (k + 1) _ (by omega) (by simp; omega)
    obtain ⟨r, r1, r2⟩ := key2 v5.toNat 0 [] (by omega) (by simp)
    have r1' : loopO (spec_l26DrawList_l15 (v5, s5)) (0, []) = some r := r1
    rw [r1', Option.bind_some]
    exact k18 _ _ (h5.mono (by omega)) r2
  rw [if_neg c1]
  exact k18 _ _ (h4.mono (by omega)) (by omega)

theorem drawn_ok {c : List Int} (hc : ∀ x ∈ c, 0 ≤ x ∧ x ≤ 255) : ∃ t s b, spec_DrawBestMatches c = some (t, s, b) ∧ t.length ≤ 20 ∧ s.length ≤ 20 := by
  unfold spec_DrawBestMatches
  obtain ⟨s0, e0, h0⟩ := from_ok c
  simp only [e0, Option.bind_some]
  obtain ⟨v1, s1, e1, a1, h1⟩ := feats_ok hc (by omega) h0
  simp only [e1, Option.bind_some]
  obtain ⟨v2, s2, e2, a2, h2⟩ := feats_ok hc (by omega) h1
  simp only [e2, Option.bind_some]
  obtain ⟨v4, s4, e4, h4⟩ := budget_ok hc (by omega) h2
  simp only [e4, Option.bind_some]
  exact ⟨_, _, _, rfl, a1, a2⟩

/-! Features. -/
def Fe (f : S_Feature) : Prop := f.Values.length = 6 ∧ ∀ x ∈ f.Values, 0 ≤ x ∧ x ≤ 255

theorem feat_some (f : S_Feature) : ∃ v : Bool, impl_ValidFeature f = some v ∧ (v = true → Fe f) := by
  obtain ⟨n, n1⟩ := name_some f.Id
  unfold impl_ValidFeature Fe
  rw [n1]
  cases n with
  | false => exact ⟨false, rfl, fun h => by cases h⟩
  | true =>
    simp only [Option.bind_some, if_true]
    by_cases c : (f.Values.length : Int) = 6
    · rw [if_pos c]
      unfold slices_ContainsFunc_int64_int64 slices_IndexFunc_int64_int64
      rcases scanFind (f := slices_IndexFunc_int64_int64_l2 (fun a0 => impl_ValidFeature_c1 a0) f.Values) f.Values (fun x => !decide (0 ≤ x ∧ x ≤ 255)) (fun i => (i : Int)) (by omega) (fun i hi => by
        unfold slices_IndexFunc_int64_int64_l2 impl_ValidFeature_c1
        rw [if_pos (by omega), rd_lt hi]
        simp only [Option.bind_some, within_eq]) (by
        unfold slices_IndexFunc_int64_int64_l2
        rw [if_neg (by omega)]) with ⟨q1, q2⟩ | ⟨i, hi, q1, _, q2⟩
      · rw [q2]
        refine ⟨true, rfl, fun _ => ⟨by omega, fun x hx => ?_⟩⟩
        have := q1 x hx
        simpa using this
      · rw [q2]
        refine ⟨false, ?_, fun h => by cases h⟩
        simp
    · rw [if_neg c]
      exact ⟨false, rfl, fun h => by cases h⟩

theorem feats_some (l : List S_Feature) (hl : l.length ≤ 1048576) : ∃ v : Bool, impl_ValidFeatures l = some v ∧ (v = true → l.length ≤ 16 ∧ ∀ f ∈ l, Fe f) := by
  unfold impl_ValidFeatures
  rcases validL (f := impl_ValidFeatures_l2 l) l Fe (by omega) (fun i hi => by
    obtain ⟨v, v1, v2⟩ := feat_some l[i]
    unfold impl_ValidFeatures_l2
    rw [if_pos (by omega), rd_lt hi, Option.bind_some, v1, Option.bind_some]
    cases v with
    | false => exact .inr rfl
    | true =>
      rw [if_pos rfl]
      by_cases c0 : (i : Int) > 0
      · rw [if_pos c0, w64_pred (by omega) (by omega), rd_lt (show i - 1 < l.length by omega)]
        simp only [Option.bind_some]
        cases Op.bytesLess (l[i - 1]'(by omega)).Id.toList l[i].Id.toList with
        | true => exact .inl ⟨rfl, v2 rfl⟩
        | false => exact .inr rfl
      · rw [if_neg c0]
        exact .inl ⟨rfl, v2 rfl⟩) (by
    unfold impl_ValidFeatures_l2
    rw [if_neg (by omega)]) with ⟨q1, q2⟩ | q
  · rw [q1]
    refine ⟨_, rfl, fun h => ⟨?_, q2⟩⟩
    have := of_decide_eq_true h
    omega
  · rw [q]
    exact ⟨false, rfl, fun h => by cases h⟩

/-! Distances. -/
noncomputable def D (a b : S_Feature) : Int := (impl_featureDistance a b).getD 0

theorem dist_eq {a b : S_Feature} (ha : Fe a) (hb : Fe b) : impl_featureDistance a b = some (D a b) ∧ 0 ≤ D a b ∧ D a b ≤ 1530 := by
  obtain ⟨a1, a2⟩ := ha
  obtain ⟨b1, b2⟩ := hb
  have lz : (a.Values.zip b.Values).length = 6 := by rw [List.length_zip]; omega
  obtain ⟨q1, q2, q3⟩ := loop_sum (f := impl_featureDistance_l3 a b) (a.Values.zip b.Values) (fun p => max2 (p.1 - p.2) (0 - (p.1 - p.2))) 255 (by omega) (by omega) (fun p hp => by
    have h1 := a2 _ (List.of_mem_zip hp).1
    have h2 := b2 _ (List.of_mem_zip hp).2
    have := max2_cases (p.1 - p.2) (0 - (p.1 - p.2))
    constructor <;> omega) (fun s i hi => by
    have hia : i < a.Values.length := by omega
    have hib : i < b.Values.length := by omega
    have h1 := a2 _ (List.getElem_mem hia)
    have h2 := b2 _ (List.getElem_mem hib)
    unfold impl_featureDistance_l3 impl_absolute
    simp only
    have w1 : w64 (a.Values[i] - b.Values[i]) = a.Values[i] - b.Values[i] := w64_id (by omega) (by omega)
    have w2 : w64 (0 - (a.Values[i] - b.Values[i])) = 0 - (a.Values[i] - b.Values[i]) := w64_id (by omega) (by omega)
    rw [if_pos (by omega), rd_lt hia, Option.bind_some, rd_lt hib, Option.bind_some, w1, Option.bind_some, w2, List.getElem_zip]) (fun s => by
    unfold impl_featureDistance_l3
    simp only
    rw [if_neg (by omega)])
  have e : impl_featureDistance a b = some (((a.Values.zip b.Values).map fun p => max2 (p.1 - p.2) (0 - (p.1 - p.2))).sum) := by
    unfold impl_featureDistance
    rw [q1]
    rfl
  unfold D
  rw [e]
  exact ⟨rfl, q2, by show _ ≤ _; simp only [Option.getD_some]; omega⟩

section
variable {T S : List S_Feature}

def d0 : S_Feature := ⟨⟨#[]⟩, []⟩
noncomputable def dk (T S : List S_Feature) (i : Nat) (k : Int) : Int := D (T.getD i d0) (S.getD k.toNat d0)
/-- The score of matches. -/
noncomputable def sc (T S : List S_Feature) : List Int → Nat → Int
  | [], _ => 0
  | k :: F, i => dk T S i k + sc T S F (i + 1)

theorem sc_app (F R : List Int) : ∀ i, sc T S (F ++ R) i = sc T S F i + sc T S R (i + F.length) := by
  induction F with
  | nil => intro i; simp [sc]
  | cons k F ih =>
    intro i
    simp only [List.cons_append, sc, ih, List.length_cons]
    rw [show i + 1 + F.length = i + (F.length + 1) by omega]
    omega

def Va (S : List S_Feature) (F : List Int) : Prop := (∀ k ∈ F, 0 ≤ k ∧ k < S.length) ∧ F.Nodup
def Full (T S : List S_Feature) (M : List Int) : Prop := Va S M ∧ M.length = T.length

theorem dk_num (hT : ∀ f ∈ T, Fe f) (hS : ∀ f ∈ S, Fe f) {i : Nat} {k : Int} (hi : i < T.length) (h0 : 0 ≤ k) (h1 : k < S.length) :
    rd T (i : Int) = some (T.getD i d0) ∧ rd S k = some (S.getD k.toNat d0) ∧ impl_featureDistance (T.getD i d0) (S.getD k.toNat d0) = some (dk T S i k) ∧ 0 ≤ dk T S i k ∧ dk T S i k ≤ 1530 := by
  have hk : k.toNat < S.length := by omega
  have e1 : T.getD i d0 = T[i] := by rw [List.getD_eq_getElem?_getD, List.getElem?_eq_getElem hi]; rfl
  have e2 : S.getD k.toNat d0 = S[k.toNat] := by rw [List.getD_eq_getElem?_getD, List.getElem?_eq_getElem hk]; rfl
  obtain ⟨q1, q2, q3⟩ := dist_eq (hT _ (List.getElem_mem hi)) (hS _ (List.getElem_mem hk))
  refine ⟨rd_getD d0 hi, ?_, ?_, ?_, ?_⟩
  · have := rd_getD (L := S) d0 hk
    rwa [Int.toNat_of_nonneg h0] at this
  · unfold dk; rw [e1, e2]; exact q1
  · unfold dk; rw [e1, e2]; exact q2
  · unfold dk; rw [e1, e2]; exact q3

theorem sc_num (hT : ∀ f ∈ T, Fe f) (hS : ∀ f ∈ S, Fe f) : ∀ (F : List Int) (i : Nat), i + F.length ≤ T.length → (∀ k ∈ F, 0 ≤ k ∧ k < S.length) → 0 ≤ sc T S F i ∧ sc T S F i ≤ 1530 * F.length := by
  intro F
  induction F with
  | nil => intro i _ _; simp [sc]
  | cons k F ih =>
    intro i hi hv
    simp only [List.length_cons] at hi ⊢
    obtain ⟨h0, h1⟩ := hv k List.mem_cons_self
    obtain ⟨_, _, _, d1, d2⟩ := dk_num hT hS (i := i) (by omega) h0 h1
    have := ih (i + 1) (by omega) (fun k hk => hv k (List.mem_cons_of_mem _ hk))
    simp only [sc]
    omega

abbrev FI := (S_matchSearch × List Int × Int) → Option (Bool × S_matchSearch)
theorem fs_impl (x : S_matchSearch) (F : List Int) (a : Int) : Fs (fun self : FI => impl_matchSearch_run_F self x F a) := by
  unfold impl_matchSearch_run_F
  refine Fs.ite (Fs.const _) (Fs.bind (Fs.loop (fun s => ?_) _) fun o => Fs.const _)
  obtain ⟨a1, a2, a3, a4, a5, a6, a7⟩ := s
  unfold impl_matchSearch_run_l5 impl_matchSearch_run_k15
  exact Fs.ite (Fs.bind (Fs.const _) fun _ => Fs.bind (Fs.const _) fun _ => Fs.ite (Fs.const _) (Fs.bind (Fs.const _) fun _ => Fs.bind (Fs.const _) fun _ => Fs.ite (Fs.const _) (Fs.ite (Fs.const _) (Fs.bind (Fs.const _) fun _ => Fs.bind (Fs.const _) fun _ => Fs.bind (Fs.app _) fun z => Fs.ite (Fs.const _) (Fs.const _))))) (Fs.const _)

noncomputable abbrev SI : FI := fun s => impl_matchSearch_run s.1 s.2.1 s.2.2

theorem ma_implE (x : S_matchSearch) (F : List Int) (a : Int) : impl_matchSearch_run x F a = impl_matchSearch_run_F SI x F a := by
  show fixO _ _ = _
  rw [fixO_eq]
  · rfl
  · rintro ⟨x, F, a⟩
    exact fs_impl x F a

/-- What is known of the best so far. -/
def Bs (T S : List S_Feature) (found : Bool) (best : List Int) (least : Int) : Prop := found = true → Full T S best ∧ sc T S best 0 = least

theorem ma_run (hT : ∀ f ∈ T, Fe f) (hS : ∀ f ∈ S, Fe f) (hTl : T.length ≤ 16) (hSl : S.length ≤ 16) (hTS : T.length ≤ S.length) :
    ∀ (d : Nat) (F : List Int) (left : Int) (found : Bool) (best : List Int) (least : Int), F.length + d = T.length → Va S F → 0 ≤ left → left ≤ 20000 → Bs T S found best least → (found = true → sc T S F 0 ≤ least) →
      ∃ spent s', impl_matchSearch_run ⟨T, S, left, found, best, least⟩ F (sc T S F 0) = some (spent, s') ∧
        (spent = false → ∃ left' best' least', s' = ⟨T, S, left', true, best', least'⟩ ∧ 0 ≤ left' ∧ left' ≤ 20000 ∧ Bs T S true best' least' ∧ (found = true → least' ≤ least) ∧ ∀ R, Full T S (F ++ R) → least' ≤ sc T S (F ++ R) 0) := by
  intro d
  induction d with
  | zero =>
    intro F left found best least hF hV h0 h1 hB hlt
    refine ⟨false, ⟨T, S, left, true, F, sc T S F 0⟩, ?_, fun _ => ?_⟩
    · rw [ma_implE]
      unfold impl_matchSearch_run_F
      rw [if_pos (show (F.length : Int) = (T.length : Int) by omega)]
    · refine ⟨left, F, sc T S F 0, rfl, h0, h1, fun _ => ⟨⟨hV, by omega⟩, rfl⟩, hlt, fun R hR => ?_⟩
      · have : R = [] := by
          have := hR.2
          rw [List.length_append] at this
          exact List.length_eq_zero_iff.1 (by omega)
        rw [this, List.append_nil]
        exact Int.le_refl _
  | succ d ih =>
    intro F left found best least hF hV h0 h1 hB hlt
    have hFT : F.length < T.length := by omega
    have key : ∀ (m k : Nat) (left : Int) (found : Bool) (best : List Int) (least : Int), k + m = S.length → (found = true ∨ ∀ i : Nat, i < k → (i : Int) ∈ F) → 0 ≤ left → left ≤ 20000 → Bs T S found best least →
        (∀ (j : Nat) R, j < k → Full T S (F ++ (j : Int) :: R) → found = true ∧ least ≤ sc T S (F ++ (j : Int) :: R) 0) → ∀ (s0 : S_matchSearch), s0.stock = S →
        (∃ left' best' least', loopO (impl_matchSearch_run_l5 SI F s0 (sc T S F 0)) ((k : Int), T, S, left, found, best, least) = some (.inl (T, S, left', true, best', least')) ∧ 0 ≤ left' ∧ left' ≤ 20000 ∧ Bs T S true best' least' ∧ (found = true → least' ≤ least) ∧
          ∀ R, Full T S (F ++ R) → least' ≤ sc T S (F ++ R) 0) ∨
        (∃ t', loopO (impl_matchSearch_run_l5 SI F s0 (sc T S F 0)) ((k : Int), T, S, left, found, best, least) = some (.inr (true, t'))) := by
      intro m
      induction m with
      | zero =>
        intro k left found best least hk hq h0 h1 hB hC s0 hs0
        have hq' : found = true := by
          rcases hq with hq | hq
          · exact hq
          · have := pig k F hq
            omega
        subst hq'
        refine .inl ⟨left, best, least, loopO_done ?_, h0, h1, hB, fun _ => Int.le_refl _, fun R hR => ?_⟩
        · unfold impl_matchSearch_run_l5
          simp only
          rw [if_neg (by rw [hs0]; omega)]
        · cases R with
          | nil =>
            have := hR.2
            rw [List.append_nil] at this
            omega
          | cons r R =>
            obtain ⟨r0, r1⟩ := hR.1.1 r (by simp)
            have e : r = ((r.toNat : Nat) : Int) := by omega
            rw [e] at hR ⊢
            exact (hC r.toNat R (by omega) hR).2
      | succ m ihm =>
        intro k left found best least hk hq h0 h1 hB hC s0 hs0
        have hk' : k < S.length := by omega
        have wk : w64 ((k : Int) + 1) = ((k + 1 : Nat) : Int) := w64_succ (by omega)
        obtain ⟨rT, rS, dd, n0, n1⟩ := dk_num hT hS (i := F.length) (k := (k : Int)) hFT (by omega) (by omega)
        obtain ⟨s1, s2⟩ := sc_num hT hS F 0 (by omega) hV.1
        have esum : sc T S (F ++ [(k : Int)]) 0 = sc T S F 0 + dk T S F.length (k : Int) := by
          rw [sc_app]
          simp [sc]
        have ew : w64 (sc T S F 0 + dk T S F.length (k : Int)) = sc T S (F ++ [(k : Int)]) 0 := by
          rw [esum]
          exact w64_id (by omega) (by omega)
        have I0 : impl_matchSearch_run_l5 SI F s0 (sc T S F 0) ((k : Int), T, S, left, found, best, least) = if decide ((k : Int) ∈ F) = true then some (.inl (((k + 1 : Nat) : Int), T, S, left, found, best, least)) else
            (if (found = true ∧ sc T S (F ++ [(k : Int)]) 0 ≥ least) then some (.inl (((k + 1 : Nat) : Int), T, S, left, found, best, least)) else
             (if left = 0 then some (.inr (.inr (true, ⟨T, S, left, found, best, least⟩))) else
              ((SI (⟨T, S, w64 (left - 1), found, best, least⟩, F ++ [(k : Int)], sc T S (F ++ [(k : Int)]) 0)).bind fun x85 => if x85.1 = true then some (.inr (.inr (true, x85.2))) else
                some (.inl (((k + 1 : Nat) : Int), x85.2.targets, x85.2.stock, x85.2.left, x85.2.found, x85.2.best, x85.2.least))))) := by
          unfold impl_matchSearch_run_l5 impl_matchSearch_run_k15
          simp only
          rw [hs0, if_pos (by omega), rS, Option.bind_some, has_impl _ _ (by omega), Option.bind_some, rT, Option.bind_some, dd, Option.bind_some, ew, apd0 (by omega), Option.bind_some, apd1 (by omega), Option.bind_some, wk]
        have later : ∀ (found' : Bool) (least' : Int), (∀ R, Full T S (F ++ (k : Int) :: R) → found' = true ∧ least' ≤ sc T S (F ++ (k : Int) :: R) 0) → (found = true → found' = true ∧ least' ≤ least) →
            ∀ (j : Nat) R, j < k + 1 → Full T S (F ++ (j : Int) :: R) → found' = true ∧ least' ≤ sc T S (F ++ (j : Int) :: R) 0 := by
          intro found' least' hk1 hle j R hj hR
          by_cases e : j = k
          · subst e; exact hk1 R hR
          · obtain ⟨q1, q2⟩ := hC j R (by omega) hR
            obtain ⟨q3, q4⟩ := hle q1
            exact ⟨q3, by omega⟩
        by_cases c0 : (k : Int) ∈ F
        · rw [if_pos (decide_eq_true c0)] at I0
          rw [loopO_next I0]
          refine ihm (k + 1) left found best least (by omega) (hq.imp_right fun hq i hi => ?_) h0 h1 hB (later found least (fun R hR => ?_) (fun h => ⟨h, Int.le_refl _⟩)) s0 hs0
          · by_cases e : i = k
            · rw [e]; exact c0
            · exact hq i (by omega)
          · have := hR.1.2
            rw [List.nodup_append] at this
            exact absurd rfl (this.2.2 _ c0 _ List.mem_cons_self)
        · rw [if_neg (by simpa using c0)] at I0
          have hV' : Va S (F ++ [(k : Int)]) := by
            refine ⟨fun j hj => ?_, ?_⟩
            · rcases List.mem_append.1 hj with hj | hj
              · exact hV.1 j hj
              · rw [List.mem_singleton] at hj; subst hj; omega
            · rw [List.nodup_append]
              refine ⟨hV.2, by simp, fun a ha b hb e => ?_⟩
              rw [List.mem_singleton] at hb
              subst hb
              exact c0 (e ▸ ha)
          have ext : ∀ R, F ++ (k : Int) :: R = (F ++ [(k : Int)]) ++ R := fun R => by simp
          have mono : ∀ R, Full T S (F ++ (k : Int) :: R) → sc T S (F ++ [(k : Int)]) 0 ≤ sc T S (F ++ (k : Int) :: R) 0 := by
            intro R hR
            rw [ext R] at hR ⊢
            have := sc_app (T := T) (S := S) (F ++ [(k : Int)]) R 0
            have := (sc_num hT hS R (0 + (F ++ [(k : Int)]).length) (by have := hR.2; rw [List.length_append] at this; omega) (fun j hj => hR.1.1 j (List.mem_append_right _ hj))).1
            omega
          by_cases c1 : found = true ∧ sc T S (F ++ [(k : Int)]) 0 ≥ least
          · rw [if_pos c1] at I0
            rw [loopO_next I0]
            refine ihm (k + 1) left found best least (by omega) (.inl c1.1) h0 h1 hB (later found least (fun R hR => ?_) (fun h => ⟨h, Int.le_refl _⟩)) s0 hs0
            have := mono R hR
            exact ⟨c1.1, by omega⟩
          · rw [if_neg c1] at I0
            by_cases c2 : left = 0
            · rw [if_pos c2] at I0
              exact .inr ⟨_, loopO_done I0⟩
            · rw [if_neg c2, w64_id (n := left - 1) (by omega) (by omega)] at I0
              obtain ⟨spent, s', r1, r2⟩ := ih (F ++ [(k : Int)]) (left - 1) found best least (by simp; omega) hV' (by omega) (by omega) hB (fun h => by have := c1; simp only [h, true_and] at this; omega)
              have r1' : SI (⟨T, S, left - 1, found, best, least⟩, F ++ [(k : Int)], sc T S (F ++ [(k : Int)]) 0) = some (spent, s') := r1
              rw [r1', Option.bind_some] at I0
              cases spent with
              | true =>
                rw [if_pos rfl] at I0
                exact .inr ⟨_, loopO_done I0⟩
              | false =>
                obtain ⟨left', best', least', rfl, g0, g1, g2, g3, g4⟩ := r2 rfl
                rw [if_neg (by simp)] at I0
                rw [loopO_next I0]
                rcases ihm (k + 1) left' true best' least' (by omega) (.inl rfl) g0 g1 g2 (later true least' (fun R hR => ⟨rfl, by rw [ext R] at hR ⊢; exact g4 R hR⟩) (fun h => ⟨rfl, g3 h⟩)) s0 hs0 with ⟨l2, b2, t2, q1, q2, q3, q4, q5, q6⟩ | q
                · exact .inl ⟨l2, b2, t2, q1, q2, q3, q4, fun h => by have := q5 rfl; have := g3 h; omega, q6⟩
                · exact .inr q
    have hne : ¬ (F.length : Int) = (T.length : Int) := by omega
    rcases key S.length 0 left found best least (by omega) (.inr fun i hi => by omega) h0 h1 hB (fun j R hj => by omega) ⟨T, S, left, found, best, least⟩ rfl with ⟨l2, b2, t2, q1, q2, q3, q4, q5, q6⟩ | ⟨t', q⟩
    · have q1' : loopO (impl_matchSearch_run_l5 SI F ⟨T, S, left, found, best, least⟩ (sc T S F 0)) (0, T, S, left, found, best, least) = some (.inl (T, S, l2, true, b2, t2)) := q1
      refine ⟨false, ⟨T, S, l2, true, b2, t2⟩, ?_, fun _ => ⟨l2, b2, t2, rfl, q2, q3, q4, q5, q6⟩⟩
      rw [ma_implE]
      unfold impl_matchSearch_run_F
      rw [if_neg hne]
      simp only [q1', Option.bind_some]
    · have q1' : loopO (impl_matchSearch_run_l5 SI F ⟨T, S, left, found, best, least⟩ (sc T S F 0)) (0, T, S, left, found, best, least) = some (.inr (true, t')) := q
      refine ⟨true, t', ?_, fun h => by cases h⟩
      rw [ma_implE]
      unfold impl_matchSearch_run_F
      rw [if_neg hne]
      simp only [q1', Option.bind_some]

/-- The greedy ones. -/
theorem rank_ok (hS : ∀ f ∈ S, Fe f) (hSl : S.length ≤ 16) (hvS : impl_ValidFeatures S = some true) {f : S_Feature} (hf : Fe f) (hvf : impl_ValidFeature f = some true) :
    ∃ r, impl_RankedFeatures S f = some (r, 0) ∧ r.Perm (upto S.length) := by
  unfold impl_RankedFeatures
  rw [hvS]
  simp only [Option.bind_some, if_true, hvf, Bool.not_true, Bool.false_eq_true, if_false]
  have := loopO_for (fun i : Nat => ((i : Int), upto i)) S.length (f := impl_RankedFeatures_l5 S) (r := upto S.length) (fun i hi => by
    unfold impl_RankedFeatures_l5
    simp only
    rw [if_pos (by omega), apd1 (by rw [upto_len]; omega), Option.bind_some, w64_succ (by omega)]
    rfl) (by
    unfold impl_RankedFeatures_l5
    simp only
    rw [if_neg (by omega)])
  have h0 : loopO (impl_RankedFeatures_l5 S) (0, []) = some (upto S.length) := this
  rw [h0, Option.bind_some]
  obtain ⟨r, r1, r2⟩ := sort_perm (cmp := fun a0 a1 => impl_RankedFeatures_c1 a0 a1 S f.Id f.Values) (l := upto S.length) (by rw [upto_len]; omega) (fun x hx y hy => by
    obtain ⟨x0, x1⟩ := upto_mem.1 hx
    obtain ⟨y0, y1⟩ := upto_mem.1 hy
    obtain ⟨a, ea, ha⟩ := rd_some x0 x1
    obtain ⟨b, eb, hb⟩ := rd_some y0 y1
    unfold impl_RankedFeatures_c1
    have ef : (⟨f.Id, f.Values⟩ : S_Feature) = f := rfl
    rw [ef, ea, eb]
    simp only [Option.bind_some, (dist_eq (hS _ ha) hf).1, (dist_eq (hS _ hb) hf).1]
    exact ⟨_, rfl⟩)
  rw [r1, Option.bind_some]
  exact ⟨r, rfl, r2⟩

theorem greedy_ok (hT : ∀ f ∈ T, Fe f) (hS : ∀ f ∈ S, Fe f) (hTl : T.length ≤ 16) (hSl : S.length ≤ 16) (hTS : T.length ≤ S.length) (hvS : impl_ValidFeatures S = some true) (hvT : ∀ f ∈ T, impl_ValidFeature f = some true) :
    ∃ M, loopO (impl_GreedyMatches_l6 S T) (0, []) = some M ∧ Full T S M := by
  have key : ∀ (m i : Nat) (F : List Int), i + m = T.length → F.length = i → Va S F → ∃ M, loopO (impl_GreedyMatches_l6 S T) ((i : Int), F) = some M ∧ Full T S M := by
    intro m
    induction m with
    | zero =>
      intro i F hi hF hV
      refine ⟨F, loopO_done ?_, hV, by omega⟩
      unfold impl_GreedyMatches_l6
      simp only
      rw [if_neg (by omega)]
    | succ m ih =>
      intro i F hi hF hV
      have hi' : i < T.length := by omega
      obtain ⟨r, r1, r2⟩ := rank_ok hS hSl hvS (hT _ (List.getElem_mem hi')) (hvT _ (List.getElem_mem hi'))
      have hrl : r.length = S.length := by rw [r2.length_eq, upto_len]
      have ix : ∃ j, ∃ h : j < r.length, r[j] ∉ F ∧ slices_IndexFunc_int64_int64 r (fun a0 => impl_GreedyMatches_c1 a0 F) = some (j : Int) := by
        unfold slices_IndexFunc_int64_int64
        rcases scanFind (f := slices_IndexFunc_int64_int64_l2 (fun a0 => impl_GreedyMatches_c1 a0 F) r) r (fun x => !decide (x ∈ F)) (fun i => (i : Int)) (by omega) (fun i hi => by
          unfold slices_IndexFunc_int64_int64_l2 impl_GreedyMatches_c1
          rw [if_pos (by omega), rd_lt hi]
          simp only [Option.bind_some, has_impl F _ (show F.length ≤ 1048576 by omega)]) (by
          unfold slices_IndexFunc_int64_int64_l2
          rw [if_neg (by omega)]) with ⟨q1, q2⟩ | ⟨j, hj, q1, _, q2⟩
        · exfalso
          have := pig S.length F (fun i hi => by
            have := q1 (i : Int) (r2.mem_iff.2 (upto_mem.2 ⟨by omega, by omega⟩))
            simpa using this)
          omega
        · refine ⟨j, hj, by simpa using q1, ?_⟩
          rw [q2]
          rfl
      obtain ⟨j, hj, nj, ej⟩ := ix
      have hrj := upto_mem.1 (r2.mem_iff.1 (List.getElem_mem hj))
      have S1 : impl_GreedyMatches_l6 S T ((i : Int), F) = some (.inl (((i + 1 : Nat) : Int), F ++ [r[j]])) := by
        unfold impl_GreedyMatches_l6
        simp only
        rw [if_pos (by omega), rd_lt hi', Option.bind_some, r1]
        simp only [Option.bind_some, ej, rd_lt hj]
        rw [apd1 (by omega), Option.bind_some, w64_succ (by omega)]
      rw [loopO_next S1]
      refine ih (i + 1) _ (by omega) (by simp; omega) ⟨fun k hk => ?_, ?_⟩
      · rcases List.mem_append.1 hk with hk | hk
        · exact hV.1 k hk
        · rw [List.mem_singleton] at hk; subst hk; exact hrj
      · rw [List.nodup_append]
        refine ⟨hV.2, by simp, fun a ha b hb e => ?_⟩
        rw [List.mem_singleton] at hb
        subst hb
        exact nj (e ▸ ha)
  exact key T.length 0 [] (by omega) rfl ⟨fun k hk => (by cases hk), List.nodup_nil⟩

/-- The score of full matches. -/
theorem order_ok {M : List Int} (hM : Va S M) (hl : M.length ≤ 16) (hSl : S.length ≤ 16) : impl_isFaceOrder M (S.length : Int) = some true := by
  unfold impl_isFaceOrder
  have e1 : w64 ((S.length : Int) - 1) = (S.length : Int) - 1 := w64_id (by omega) (by omega)
  have := loopO_for (fun i : Nat => (i : Int)) M.length (f := impl_isFaceOrder_l2 M (S.length : Int)) (r := .inl ()) (fun i hi => by
    obtain ⟨k0, k1⟩ := hM.1 _ (List.getElem_mem hi)
    unfold impl_isFaceOrder_l2
    rw [if_pos (by omega), rd_lt hi, Option.bind_some, e1, within_eq, Option.bind_some, if_pos (decide_eq_true ⟨k0, by omega⟩)]
    have es : slc M 0 (i : Int) = some (M.take i) := by
      unfold slc
      rw [if_pos ⟨by omega, by omega, by omega⟩, Int.toNat_natCast]
      rfl
    have hn : ¬ M[i] ∈ M.take i := by
      intro hm
      obtain ⟨j, hj, ej⟩ := List.getElem_of_mem hm
      rw [List.length_take] at hj
      rw [List.getElem_take] at ej
      exact absurd ej (List.pairwise_iff_getElem.1 hM.2 j i (by omega) hi (by omega))
    rw [es, Option.bind_some, has_impl _ _ (by rw [List.length_take]; omega)]
    simp only [Option.bind_some, decide_eq_true_eq]
    rw [if_neg hn, w64_succ (by omega)]) (by
    unfold impl_isFaceOrder_l2
    rw [if_neg (by omega)])
  have h0 : loopO (impl_isFaceOrder_l2 M (S.length : Int)) 0 = some (.inl ()) := this
  rw [h0]
  rfl

theorem sc_take (M : List Int) {i : Nat} (hi : i < M.length) : sc T S (M.take (i + 1)) 0 = sc T S (M.take i) 0 + dk T S i M[i] := by
  rw [List.take_succ_eq_append_getElem hi, sc_app]
  simp only [sc, List.length_take]
  rw [show 0 + min i M.length = i by omega]
  omega

theorem score_ok (hT : ∀ f ∈ T, Fe f) (hS : ∀ f ∈ S, Fe f) (hTl : T.length ≤ 16) (hSl : S.length ≤ 16) (hvS : impl_ValidFeatures S = some true) (hvT : impl_ValidFeatures T = some true) {M : List Int} (hM : Full T S M) :
    impl_MatchesScore T S M = some (sc T S M 0, 0) := by
  unfold impl_MatchesScore
  obtain ⟨hV, hL⟩ := hM
  rw [hvT, hvS]
  simp only [Option.bind_some, if_true, Bool.not_true, Bool.false_eq_true, if_false]
  rw [if_neg (show ¬ ((M.length : Int) ≠ (T.length : Int)) by omega), order_ok hV (by omega) hSl]
  simp only [Option.bind_some, Bool.not_true, Bool.false_eq_true, if_false]
  have := loopO_for (fun i : Nat => (sc T S (M.take i) 0, (i : Int))) M.length (f := impl_MatchesScore_l7 M S T) (r := sc T S M 0) (fun i hi => by
    obtain ⟨k0, k1⟩ := hV.1 _ (List.getElem_mem hi)
    obtain ⟨rT, rS, dd, n0, n1⟩ := dk_num hT hS (i := i) (by omega) k0 k1
    have b := sc_num hT hS (M.take (i + 1)) 0 (by rw [List.length_take]; omega) (fun k hk => hV.1 k (List.mem_of_mem_take hk))
    rw [List.length_take] at b
    have e := sc_take (T := T) (S := S) M hi
    unfold impl_MatchesScore_l7
    simp only
    rw [if_pos (by omega), rd_lt hi, Option.bind_some, rT, Option.bind_some, rS, Option.bind_some, dd, Option.bind_some, w64_succ (by omega), w64_id (by omega) (by omega), e]) (by
    unfold impl_MatchesScore_l7
    simp only
    rw [if_neg (by omega), List.take_length])
  have h0 : loopO (impl_MatchesScore_l7 M S T) (0, 0) = some (sc T S M 0) := this
  rw [h0]
  rfl
end

theorem valid_all {l : List S_Feature} (hl : l.length ≤ 1048576) (h : impl_ValidFeatures l = some true) : ∀ f ∈ l, impl_ValidFeature f = some true := by
  unfold impl_ValidFeatures at h
  rcases validL (f := impl_ValidFeatures_l2 l) l (fun f => impl_ValidFeature f = some true) (by omega) (fun i hi => by
    obtain ⟨v, v1, v2⟩ := feat_some l[i]
    unfold impl_ValidFeatures_l2
    rw [if_pos (by omega), rd_lt hi, Option.bind_some, v1, Option.bind_some]
    cases v with
    | false => exact .inr rfl
    | true =>
      rw [if_pos rfl]
      by_cases c0 : (i : Int) > 0
      · rw [if_pos c0, w64_pred (by omega) (by omega), rd_lt (show i - 1 < l.length by omega)]
        simp only [Option.bind_some]
        cases Op.bytesLess (l[i - 1]'(by omega)).Id.toList l[i].Id.toList with
        | true => exact .inl ⟨rfl, by simp⟩
        | false => exact .inr rfl
      · rw [if_neg c0]
        exact .inl ⟨rfl, by simp⟩) (by
    unfold impl_ValidFeatures_l2
    rw [if_neg (by omega)]) with ⟨q1, q2⟩ | q
  · exact q2
  · rw [q] at h
    cases h

theorem law_Matches (c : List Int) (hc : ∀ x ∈ c, 0 ≤ x ∧ x ≤ 255) : laws_FnMatches c = some true := by
  unfold laws_FnMatches laws_b10Long
  simp only [Option.bind_some]
  by_cases c1 : decide ((c.length : Int) > 1048576) = true
  · rw [if_pos c1]
  rw [if_neg c1]
  obtain ⟨T, S, b, hd, hT0, hS0⟩ := drawn_ok hc
  rw [hd]
  simp only [Option.bind_some]
  obtain ⟨vT, vT1, vT2⟩ := feats_some T (by omega)
  obtain ⟨vS, vS1, vS2⟩ := feats_some S (by omega)
  unfold impl_BestMatches impl_GreedyMatches impl_matchesCode
  simp only [vT1, vS1, within_eq, Option.bind_some]
  cases vT with
  | false => simp
  | true =>
    cases vS with
    | false => simp
    | true =>
      obtain ⟨hTl, hT⟩ := vT2 rfl
      obtain ⟨hSl, hS⟩ := vS2 rfl
      simp only [if_true, Option.bind_some, Bool.not_true, Bool.false_eq_true, if_false, decide_eq_true_eq]
      rw [if_pos (show (1 : Int) ≤ 1 ∧ (1 : Int) ≤ 20000 by omega)]
      by_cases c3 : (T.length : Int) > (S.length : Int)
      · rw [if_pos c3]
        by_cases c2 : 1 ≤ b ∧ b ≤ 20000
        · rw [if_pos c2]; simp
        · rw [if_neg c2]; simp
      · rw [if_neg c3]
        obtain ⟨M, m1, m2⟩ := greedy_ok hT hS hTl hSl (by omega) vS1 (valid_all (by omega) vT1)
        by_cases c2 : 1 ≤ b ∧ b ≤ 20000
        · rw [if_pos c2]
          simp only [Option.bind_some, ne_eq, not_true, if_false, m1]
          obtain ⟨spent, s', r1, r2⟩ := ma_run hT hS hTl hSl (by omega) T.length [] b false [] 0 (by simp) ⟨fun k hk => (by cases hk), List.nodup_nil⟩ (by omega) (by omega) (fun h => by cases h) (fun h => by cases h)
          have r1' : impl_matchSearch_run ⟨T, S, b, false, [], 0⟩ [] 0 = some (spent, s') := r1
          rw [r1']
          simp only [Option.bind_some]
          cases spent with
          | true => simp
          | false =>
            obtain ⟨left', best', least', rfl, g0, g1, g2, g3, g4⟩ := r2 rfl
            obtain ⟨f1, f2⟩ := g2 rfl
            have := g4 M m2
            simp only [List.nil_append] at this
            simp only [Bool.false_eq_true, if_false, Option.bind_some, not_true, score_ok hT hS hTl hSl vS1 vT1 f1, score_ok hT hS hTl hSl vS1 vT1 m2, f2]
            simp
            exact this
        · rw [if_neg c2]
          simp only [Option.bind_some, ne_eq, not_true, if_false, m1]
          simp

end Go.Pw
