/- The plain law of FnGlueOrder. Conditions: none. -/
import Derived.Test.YtigjhjlkdamncaaTgoT
import Derived.Test.YtigjhjlkdamncaaSimPn
namespace Go.Pw
open Go.Sim (min2 max2)
set_option linter.unusedVariables false
set_option linter.unusedSimpArgs false

theorem within_eq (n a b : Int) : impl_within n a b = some (decide (a ≤ n ∧ n ≤ b)) := by
  unfold impl_within
  rw [Bool.decide_and]

def Sr (c : List Int) (n : Int) (s : S_l00Src) : Prop := s.code = c ∧ 0 ≤ s.at_ ∧ s.at_ ≤ n

theorem Sr.mono {c : List Int} {n m : Int} {s : S_l00Src} (h : Sr c n s) (hm : n ≤ m) : Sr c m s := ⟨h.1, h.2.1, by have := h.2.2; omega⟩

theorem and255 (x : Int) : 0 ≤ bit_and .u64 x 255 ∧ bit_and .u64 x 255 ≤ 255 := by
  unfold bit_and
  have h1 : (BitVec.ofInt IntKind.u64.bits x &&& BitVec.ofInt IntKind.u64.bits 255).toNat ≤ 255 := by
    rw [BitVec.toNat_and]
    exact Nat.le_trans Nat.and_le_right (by decide)
  generalize (BitVec.ofInt IntKind.u64.bits x &&& BitVec.ofInt IntKind.u64.bits 255).toNat = k at h1
  have e : IntKind.wrap .u64 (k : Int) = (k : Int) := by
    simp only [IntKind.wrap, IntKind.signed, IntKind.bits]
    simp
    omega
  rw [e]
  omega

theorem next_ok {c : List Int} (hc : ∀ x ∈ c, 0 ≤ x ∧ x ≤ 255) {n : Int} (hn : n ≤ 1000000000) {s : S_l00Src} (h : Sr c n s) : ∃ v s', spec_l00Src_next s = some (v, s') ∧ 0 ≤ v ∧ v ≤ 255 ∧ Sr c (n + 1) s' := by
  obtain ⟨h1, h2, h3⟩ := h
  have e1 : w64 (s.at_ + 1) = s.at_ + 1 := w64_id (by omega) (by omega)
  have k4 : ∀ b, 0 ≤ b → b ≤ 255 → ∃ v s', spec_l00Src_next_k4 s b = some (v, s') ∧ 0 ≤ v ∧ v ≤ 255 ∧ Sr c (n + 1) s' := by
    intro b b1 b2
    unfold spec_l00Src_next_k4 shr
    rw [e1]
    by_cases q : s.at_ + 1 ≤ (s.code.length : Int)
    · rw [if_pos q]
      exact ⟨_, _, rfl, b1, b2, h1, by show 0 ≤ s.at_ + 1; omega, by show s.at_ + 1 ≤ n + 1; omega⟩
    · rw [if_neg q, if_neg (by decide)]
      simp only [Option.bind_some]
      have a := and255 (Int.fdiv (IntKind.wrap .u64 ((IntKind.wrap .u64 ((IntKind.wrap .u64 (s.seed * 6364136223846793005)) + (IntKind.wrap .u64 b))) + 1442695040888963407)) (2 ^ min (Int.toNat 40) IntKind.u64.bits))
      refine ⟨_, _, rfl, ?_, ?_, h1, by show 0 ≤ s.at_ + 1; omega, by show s.at_ + 1 ≤ n + 1; omega⟩
      · rw [w64_id (by omega) (by omega)]; exact a.1
      · rw [w64_id (by omega) (by omega)]; exact a.2
  unfold spec_l00Src_next
  by_cases q : s.at_ < (s.code.length : Int)
  · rw [if_pos q]
    obtain ⟨i, hi⟩ : ∃ i : Nat, s.at_ = (i : Int) := ⟨s.at_.toNat, by omega⟩
    have hlt : i < s.code.length := by omega
    rw [hi, rd_lt hlt, Option.bind_some]
    have hb := hc s.code[i] (by rw [← h1]; exact List.getElem_mem hlt)
    rw [w64_id (by omega) (by omega)]
    exact k4 _ hb.1 hb.2
  · rw [if_neg q]
    exact k4 0 (by omega) (by omega)

theorem pick_ok {c : List Int} (hc : ∀ x ∈ c, 0 ≤ x ∧ x ≤ 255) {n : Int} (hn : n ≤ 999999999) {s : S_l00Src} (h : Sr c n s) (m : Int) : ∃ v s', spec_l00Src_pick s m = some (v, s') ∧ 0 ≤ v ∧ (1 ≤ m → v < m) ∧ Sr c (n + 2) s' := by
  unfold spec_l00Src_pick
  by_cases q : m ≤ 1
  · rw [if_pos q]
    exact ⟨_, _, rfl, by omega, by omega, h.mono (by omega)⟩
  · rw [if_neg q]
    obtain ⟨v, s1, e1, v1, v2, h1⟩ := next_ok hc (by omega) h
    have k6 : ∀ (x : Int) (t : S_l00Src), 0 ≤ x → Sr c (n + 2) t → ∃ v s', spec_l00Src_pick_k6 m x t.code t.at_ t.seed = some (v, s') ∧ 0 ≤ v ∧ (1 ≤ m → v < m) ∧ Sr c (n + 2) s' := by
      intro x t hx ht
      unfold spec_l00Src_pick_k6 md
      rw [if_neg (by omega), Option.bind_some]
      have e : x.tmod m = x % m := Int.tmod_eq_emod_of_nonneg hx
      refine ⟨_, _, rfl, ?_, fun _ => ?_, ht⟩
      · rw [e]; exact Int.emod_nonneg _ (by omega)
      · rw [e]; exact Int.emod_lt_of_pos _ (by omega)
    simp only [e1, Option.bind_some]
    by_cases q2 : m > 200
    · rw [if_pos q2]
      obtain ⟨w, s2, e2, w1, w2, h2⟩ := next_ok hc (n := n + 1) (by omega) h1
      simp only [e2, Option.bind_some]
      have a1 : w64 (v * 256) = v * 256 := w64_id (by omega) (by omega)
      have a2 : w64 (v * 256 + w) = v * 256 + w := w64_id (by omega) (by omega)
      rw [a1, a2]
      exact k6 _ s2 (by omega) (h2.mono (by omega))
    · rw [if_neg q2]
      exact k6 v s1 v1 (h1.mono (by omega))

theorem one_ok {c : List Int} (hc : ∀ x ∈ c, 0 ≤ x ∧ x ≤ 255) {n : Int} (hn : n ≤ 999999999) {s : S_l00Src} (h : Sr c n s) (m : Int) : ∃ v s', spec_l00Src_one s m = some (v, s') ∧ Sr c (n + 2) s' := by
  obtain ⟨v, s', e, _, _, h'⟩ := pick_ok hc hn h m
  unfold spec_l00Src_one
  rw [e]
  exact ⟨_, _, rfl, h'⟩

theorem among_ok {c : List Int} (hc : ∀ x ∈ c, 0 ≤ x ∧ x ≤ 255) {n : Int} (hn : n ≤ 999999999) {s : S_l00Src} (h : Sr c n s) (l : List Int) (hl : 1 ≤ l.length) : ∃ v s', spec_l00Src_among s l = some (v, s') ∧ v ∈ l ∧ Sr c (n + 2) s' := by
  obtain ⟨v, s', e, v1, v2, h'⟩ := pick_ok hc hn h (l.length : Int)
  have v3 := v2 (by omega)
  obtain ⟨i, hi⟩ : ∃ i : Nat, v = (i : Int) := ⟨v.toNat, by omega⟩
  subst hi
  have hlt : i < l.length := by omega
  unfold spec_l00Src_among
  rw [e]
  simp only [Option.bind_some, rd_lt hlt]
  exact ⟨_, _, rfl, List.getElem_mem hlt, h'⟩

theorem text_ok {c : List Int} (hc : ∀ x ∈ c, 0 ≤ x ∧ x ≤ 255) {n : Int} (hn : n ≤ 999999999) {s : S_l00Src} (h : Sr c n s) (l : List ByteArray) (hl : 1 ≤ l.length) : ∃ v s', spec_l00Src_text s l = some (v, s') ∧ Sr c (n + 2) s' := by
  obtain ⟨v, s', e, v1, v2, h'⟩ := pick_ok hc hn h (l.length : Int)
  have v3 := v2 (by omega)
  obtain ⟨i, hi⟩ : ∃ i : Nat, v = (i : Int) := ⟨v.toNat, by omega⟩
  subst hi
  have hlt : i < l.length := by omega
  unfold spec_l00Src_text
  rw [e]
  simp only [Option.bind_some, rd_lt hlt]
  exact ⟨_, _, rfl, h'⟩

theorem from_ok (c : List Int) : ∃ s, spec_l00From c = some s ∧ Sr c 0 s := ⟨_, rfl, rfl, by show (0 : Int) ≤ 0; omega, by show (0 : Int) ≤ 0; omega⟩

theorem budget_ok {c : List Int} (hc : ∀ x ∈ c, 0 ≤ x ∧ x ≤ 255) {n : Int} (hn : n ≤ 990000000) {s : S_l00Src} (h : Sr c n s) : ∃ v s', spec_l08DrawBudget s = some (v, s') ∧ Sr c (n + 4) s' := by
  unfold spec_l08DrawBudget
  obtain ⟨v1, s1, e1, h1⟩ := one_ok hc (by omega) h 6
  simp only [e1, Option.bind_some]
  by_cases c1 : v1 = true
  · rw [if_pos c1]
    obtain ⟨v2, s2, e2, _, h2⟩ := among_ok hc (by omega) h1 [0, 1, 5, 20000, 20001] (by decide)
    simp only [e2, Option.bind_some]
    exact ⟨_, _, rfl, h2.mono (by omega)⟩
  · rw [if_neg c1]
    obtain ⟨v2, s2, e2, _, _, h2⟩ := pick_ok hc (by omega) h1 400
    simp only [e2, Option.bind_some]
    exact ⟨_, _, rfl, h2.mono (by omega)⟩

theorem name_some (s : ByteArray) : ∃ v, impl_IsName s = some v := by
  unfold impl_IsName
  by_cases c0 : (s.size : Int) < 1
  · rw [if_pos c0]; exact ⟨_, rfl⟩
  · rw [if_neg c0]
    by_cases c1 : (s.size : Int) > 10
    · rw [if_pos c1]; exact ⟨_, rfl⟩
    · rw [if_neg c1]
      obtain ⟨b, hb, hb1, hb2⟩ := bt_some (s := s) (i := 0) (by omega)
      have hb' : bt s 0 = some b := hb
      rw [hb']
      have hloop : ∃ o, loopO (impl_IsName_l4 s) 0 = some o := by
        refine scanEnds s.size (by omega) (fun i hi => ?_) ⟨.inl (), ?_⟩
        · obtain ⟨x, hx, _⟩ := bt_some (s := s) hi
          unfold impl_IsName_l4
          rw [if_pos (by omega), hx]
          simp only [Option.bind_some]
          have : ∃ v : Bool, (if x < 97 then (if x < 48 then some true else some (decide (x > 57))) else (if x > 122 then (if x < 48 then some true else some (decide (x > 57))) else some false)) = some v := by
            split
            · split <;> exact ⟨_, rfl⟩
            · split
              · split <;> exact ⟨_, rfl⟩
              · exact ⟨_, rfl⟩
          obtain ⟨v, hv⟩ := this
          rw [hv]
          cases v with
          | true => exact .inr ⟨_, rfl⟩
          | false => exact .inl rfl
        · unfold impl_IsName_l4
          rw [if_neg (by omega)]
      obtain ⟨o, ho⟩ := hloop
      rw [ho]
      have : ∃ v : Bool, ((some b).bind fun x14 => if x14 < 97 then some true else (some b).bind fun x19 => some (decide (x19 > 122))) = some v := by
        simp only [Option.bind_some]
        split <;> exact ⟨_, rfl⟩
      obtain ⟨v, hv⟩ := this
      rw [hv]
      cases v with
      | true => exact ⟨_, rfl⟩
      | false => cases o <;> exact ⟨_, rfl⟩

theorem has_impl (l : List Int) (n : Int) (hl : l.length ≤ 1048576) : slices_Contains_int64_int64 l n = some (decide (n ∈ l)) := by
  unfold slices_Contains_int64_int64 slices_Index_int64_int64
  rcases scanAll (f := slices_Index_int64_int64_l2 l n) l (fun x => !decide (n = x)) (fun i => (i : Int)) (by omega) (fun i hi => by
    unfold slices_Index_int64_int64_l2
    rw [if_pos (by omega), rd_lt hi, Option.bind_some]
    by_cases c : n = l[i] <;> simp [c]) (by unfold slices_Index_int64_int64_l2; rw [if_neg (by omega)]) with ⟨h1, h2⟩ | ⟨h1, i, hi, h2⟩
  · rw [h2]
    have : ¬ n ∈ l := fun h => by
      have := List.all_eq_true.1 h1 n h
      simp at this
    simp [this]
  · rw [h2]
    have : n ∈ l := by
      rw [List.all_eq_false] at h1
      obtain ⟨x, hx, h⟩ := h1
      simp at h
      exact h ▸ hx
    simp [this]

theorem apd1 {l : List Int} {x : Int} (h : l.length ≤ 1000000) : apd 8 l [x] = some (l ++ [x]) := by
  unfold apd
  rw [if_pos (by simp; omega)]
theorem apd0 {l : List Int} (h : l.length ≤ 1000000) : apd 8 ([] : List Int) l = some l := by
  unfold apd
  rw [if_pos (by simp; omega)]
  rfl

/-- One element is brought to its place: the others are kept. -/
theorem ins_in {cmp : Int → Int → Option Int} : ∀ (j : Nat) (l : List Int), j < l.length → l.length ≤ 1048576 → (∀ x ∈ l, ∀ y ∈ l, ∃ v, cmp x y = some v) →
    ∃ l', loopO (slices_insertionSortCmpFunc_int64_l4 0 cmp) ((j : Int), l) = some l' ∧ l'.Perm l := by
  intro j
  induction j with
  | zero =>
    intro l hj hl hc
    refine ⟨l, loopO_done ?_, List.Perm.refl _⟩
    unfold slices_insertionSortCmpFunc_int64_l4
    simp only
    rw [if_neg (by omega)]
    simp
  | succ j ih =>
    intro l hj hl hc
    have hp : w64 (((j + 1 : Nat) : Int) - 1) = ((j : Nat) : Int) := by rw [w64_id (by omega) (by omega)]; omega
    have hj' : j < l.length := by omega
    obtain ⟨v, hv⟩ := hc l[j + 1] (List.getElem_mem hj) l[j] (List.getElem_mem hj')
    by_cases c : v < 0
    · have S1 : slices_insertionSortCmpFunc_int64_l4 0 cmp (((j + 1 : Nat) : Int), l) = some (.inl ((j : Int), (l.set (j + 1) l[j]).set j l[j + 1])) := by
        unfold slices_insertionSortCmpFunc_int64_l4
        simp only
        rw [if_pos (by omega), rd_lt hj, Option.bind_some, hp, rd_lt hj', Option.bind_some, hv]
        simp only [Option.bind_some, decide_eq_true_eq]
        rw [if_pos c, rd_lt (show j < (l.set ((j + 1 : Nat) : Int).toNat l[j]).length by rw [List.length_set]; exact hj')]
        rfl
      rw [loopO_next S1]
      have pm : ((l.set (j + 1) l[j]).set j l[j + 1]).Perm l := List.set_set_perm hj hj'
      obtain ⟨l', h1, h2⟩ := ih _ (by simp; omega) (by simp; omega) (fun x hx y hy => hc x (pm.mem_iff.1 hx) y (pm.mem_iff.1 hy))
      exact ⟨l', h1, h2.trans pm⟩
    · refine ⟨l, loopO_done ?_, List.Perm.refl _⟩
      unfold slices_insertionSortCmpFunc_int64_l4
      simp only
      rw [if_pos (by omega), rd_lt hj, Option.bind_some, hp, rd_lt hj', Option.bind_some, hv]
      simp only [Option.bind_some, decide_eq_true_eq]
      rw [if_neg c]

/-- The elements one after the other. -/
theorem ins_out {cmp : Int → Int → Option Int} : ∀ (m i : Nat) (l : List Int), i + m = l.length → l.length ≤ 1048576 → (∀ x ∈ l, ∀ y ∈ l, ∃ v, cmp x y = some v) →
    ∃ l', loopO (slices_insertionSortCmpFunc_int64_l1 0 (l.length : Int) cmp) ((i : Int), l) = some l' ∧ l'.Perm l := by
  intro m
  induction m with
  | zero =>
    intro i l hi hl hc
    refine ⟨l, loopO_done ?_, List.Perm.refl _⟩
    unfold slices_insertionSortCmpFunc_int64_l1
    simp only
    rw [if_neg (by omega)]
  | succ m ih =>
    intro i l hi hl hc
    obtain ⟨l1, h1, h2⟩ := ins_in i l (by omega) hl hc
    have S1 : slices_insertionSortCmpFunc_int64_l1 0 (l.length : Int) cmp ((i : Int), l) = some (.inl (((i + 1 : Nat) : Int), l1)) := by
      unfold slices_insertionSortCmpFunc_int64_l1
      simp only
      rw [if_pos (by omega), h1, Option.bind_some, w64_succ (by omega)]
    rw [loopO_next S1]
    have e := h2.length_eq
    obtain ⟨l', h3, h4⟩ := ih (i + 1) l1 (by omega) (by omega) (fun x hx y hy => hc x (h2.mem_iff.1 hx) y (h2.mem_iff.1 hy))
    rw [e] at h3
    exact ⟨l', h3, h4.trans h2⟩

theorem ins_all {cmp : Int → Int → Option Int} {l : List Int} (hl : l.length ≤ 1048576) (hc : ∀ x ∈ l, ∀ y ∈ l, ∃ v, cmp x y = some v) :
    ∃ l', slices_insertionSortCmpFunc_int64 l 0 (l.length : Int) cmp = some l' ∧ l'.Perm l := by
  unfold slices_insertionSortCmpFunc_int64
  have e : w64 (0 + 1) = 1 := rfl
  rw [e]
  cases l with
  | nil =>
    refine ⟨[], ?_, List.Perm.refl _⟩
    have : loopO (slices_insertionSortCmpFunc_int64_l1 0 (([] : List Int).length : Int) cmp) (1, []) = some [] := by
      refine loopO_done ?_
      unfold slices_insertionSortCmpFunc_int64_l1
      simp
    rw [this]
    rfl
  | cons x l =>
    obtain ⟨l', h1, h2⟩ := ins_out l.length 1 (x :: l) (by simp; omega) hl hc
    have h1' : loopO (slices_insertionSortCmpFunc_int64_l1 0 ((x :: l).length : Int) cmp) (1, x :: l) = some l' := h1
    rw [h1']
    exact ⟨l', rfl, h2⟩

/-- A short list, sorted: its elements in some order. -/
theorem sort_perm {cmp : Int → Int → Option Int} {l : List Int} (hl : l.length ≤ 19) (hc : ∀ x ∈ l, ∀ y ∈ l, ∃ v, cmp x y = some v) :
    ∃ l', slices_SortStableFunc_int64_int64 l cmp = some l' ∧ l'.Perm l := by
  unfold slices_SortStableFunc_int64_int64 slices_stableCmpFunc_int64
  have h1 : loopO (slices_stableCmpFunc_int64_l2 cmp (l.length : Int)) (0, 20, l) = some (0, l) := by
    refine loopO_done ?_
    unfold slices_stableCmpFunc_int64_l2
    simp only
    rw [if_neg (by omega)]
  obtain ⟨l', h2, h3⟩ := ins_all (by omega) hc
  have h4 : loopO (slices_stableCmpFunc_int64_l7 cmp (l.length : Int)) (20, l') = some l' := by
    refine loopO_done ?_
    unfold slices_stableCmpFunc_int64_l7
    simp only
    rw [if_neg (by omega)]
  refine ⟨l', ?_, h3⟩
  rw [h1]
  simp only [Option.bind_some, h2, h4]

/-- What a valid bond is, in numbers. -/
def Bn (c : S_Bond) : Prop := (1 ≤ c.Spread ∧ c.Spread ≤ 120) ∧ (c.Spread ≤ c.Open ∧ c.Open ≤ 240) ∧ (1 ≤ c.Press ∧ c.Press ≤ 1440)

/-- The press that is free first. -/
def bi (L : List Int) : Nat → Nat
  | 0 => 0
  | k + 1 => if L.getD k 0 < L.getD (bi L k) 0 then k else bi L k

theorem bi_lt (L : List Int) : ∀ k, 1 ≤ k → bi L k < k
  | 0, h => by omega
  | 1, _ => by unfold bi bi; split <;> omega
  | k + 2, _ => by
    have := bi_lt L (k + 1) (by omega)
    unfold bi
    split <;> omega

theorem bi_take (L : List Int) (p : Nat) : ∀ k, k ≤ p → bi (L.take p) k = bi L k
  | 0, _ => rfl
  | k + 1, h => by
    have ih := bi_take L p k (by omega)
    unfold bi
    rw [ih]
    by_cases c : k = 0
    · subst c
      have : bi L 0 = 0 := rfl
      rw [this]
      simp
    · have hb := bi_lt L k (by omega)
      have g : ∀ j, j < p → (L.take p).getD j 0 = L.getD j 0 := by
        intro j hj
        rw [List.getD_eq_getElem?_getD, List.getD_eq_getElem?_getD, List.getElem?_take_of_lt hj]
      rw [g k (by omega), g _ (by omega)]

def Al (A : Ar4_Int) : List Int := [A.e0, A.e1, A.e2, A.e3]
def As (A : Ar4_Int) (j : Nat) (e : Int) : Ar4_Int := if j = 0 then ⟨e, A.e1, A.e2, A.e3⟩ else if j = 1 then ⟨A.e0, e, A.e2, A.e3⟩ else if j = 2 then ⟨A.e0, A.e1, e, A.e3⟩ else ⟨A.e0, A.e1, A.e2, e⟩

theorem Al_set (A : Ar4_Int) (j : Nat) (e : Int) (h : j < 4) : Al (As A j e) = (Al A).set j e := by
  unfold As Al
  match j, h with
  | 0, _ => rfl
  | 1, _ => rfl
  | 2, _ => rfl
  | 3, _ => rfl

theorem Al_len (A : Ar4_Int) : (Al A).length = 4 := rfl

theorem ix4 {j : Nat} (h : j < 4) : ix 4 (j : Int) = some (j : Int) := by
  unfold ix
  rw [if_pos (by omega)]

theorem bi_impl (g : S_gluing) (p : Nat) (hp : 1 ≤ p) (hp4 : p ≤ 4) : loopO (impl_gluing_add_l3 g (p : Int)) (0, 0) = some ((bi (Al g.free) p : Nat) : Int) := by
  have key : ∀ (m k : Nat), k + m = p → loopO (impl_gluing_add_l3 g (p : Int)) (((bi (Al g.free) k : Nat) : Int), (k : Int)) = some ((bi (Al g.free) p : Nat) : Int) := by
    intro m
    induction m with
    | zero =>
      intro k hk
      obtain rfl : k = p := by omega
      refine loopO_done ?_
      unfold impl_gluing_add_l3
      simp only
      rw [if_neg (by omega)]
    | succ m ih =>
      intro k hk
      have hb : bi (Al g.free) k < 4 := by
        by_cases c : k = 0
        · subst c; show (0 : Nat) < 4; omega
        · have := bi_lt (Al g.free) k (by omega); omega
      have : impl_gluing_add_l3 g (p : Int) (((bi (Al g.free) k : Nat) : Int), (k : Int)) = some (.inl (((bi (Al g.free) (k + 1) : Nat) : Int), ((k + 1 : Nat) : Int))) := by
        unfold impl_gluing_add_l3 impl_gluing_add_k7
        simp only
        have e : ([g.free.e0, g.free.e1, g.free.e2, g.free.e3] : List Int) = Al g.free := rfl
        rw [if_pos (by omega), ix4 (by omega), Option.bind_some, e, rd_getD 0 (by rw [Al_len]; omega), Option.bind_some, ix4 hb, Option.bind_some, rd_getD 0 (by rw [Al_len]; omega), Option.bind_some, w64_succ (by omega)]
        conv => rhs; unfold bi
        split <;> rfl
      rw [loopO_next this]
      exact ih (k + 1) (by omega)
  exact key p 0 (by omega)

/-- One bond more. -/
def stp (p : Nat) (b : S_Bond) (g : S_gluing) : S_gluing :=
  let j := bi (Al g.free) p
  let f := (Al g.free).getD j 0
  let s := max2 g.ready (f - b.Open)
  let en := max2 (s + b.Spread) f + b.Press
  ⟨s + b.Spread, As g.free j en, max2 g.end_ en⟩

/-- What a state of gluing is after n bonds, in numbers. -/
def Gn (n : Nat) (g : S_gluing) : Prop := (0 ≤ g.ready ∧ g.ready ≤ 1560 * n) ∧ (∀ j, 0 ≤ (Al g.free).getD j 0 ∧ (Al g.free).getD j 0 ≤ 1560 * n) ∧ (0 ≤ g.end_ ∧ g.end_ ≤ 1560 * n)

/-- The numbers of a step. -/
theorem stp_num {b : S_Bond} {g : S_gluing} {n p : Nat} (hb : Bn b) (hg : Gn n g) (hn : n ≤ 100) :
    ∃ f s bg en : Int, (Al g.free).getD (bi (Al g.free) p) 0 = f ∧ max2 g.ready (f - b.Open) = s ∧ max2 (s + b.Spread) f = bg ∧ bg + b.Press = en ∧ stp p b g = ⟨s + b.Spread, As g.free (bi (Al g.free) p) en, max2 g.end_ en⟩ ∧
      0 ≤ f ∧ f ≤ 1560 * n ∧ 0 ≤ s ∧ s ≤ 1560 * n ∧ 0 ≤ bg ∧ bg ≤ 1560 * n + 120 ∧ 0 ≤ en ∧ en ≤ 1560 * (n + 1) := by
  obtain ⟨⟨r1, r2⟩, hL, ⟨e1, e2⟩⟩ := hg
  obtain ⟨⟨b1, b2⟩, ⟨b3, b4⟩, ⟨b5, b6⟩⟩ := hb
  obtain ⟨f1, f2⟩ := hL (bi (Al g.free) p)
  refine ⟨_, _, _, _, rfl, rfl, rfl, rfl, rfl, ?_⟩
  have m1 := max2_cases g.ready ((Al g.free).getD (bi (Al g.free) p) 0 - b.Open)
  generalize max2 g.ready ((Al g.free).getD (bi (Al g.free) p) 0 - b.Open) = s at m1
  have m2 := max2_cases (s + b.Spread) ((Al g.free).getD (bi (Al g.free) p) 0)
  generalize max2 (s + b.Spread) ((Al g.free).getD (bi (Al g.free) p) 0) = bg at m2
  omega

theorem stp_ok {b : S_Bond} {g : S_gluing} {n p : Nat} (hb : Bn b) (hg : Gn n g) (hn : n ≤ 100) (hp : 1 ≤ p) (hp4 : p ≤ 4) : Gn (n + 1) (stp p b g) := by
  obtain ⟨f, s, bg, en, _, _, _, _, h, h1, h2, h3, h4, h5, h6, h7, h8⟩ := stp_num (p := p) hb hg hn
  rw [h]
  obtain ⟨⟨r1, r2⟩, hL, ⟨e1, e2⟩⟩ := hg
  obtain ⟨⟨b1, b2⟩, ⟨b3, b4⟩, ⟨b5, b6⟩⟩ := hb
  have m := max2_cases g.end_ en
  have hj := bi_lt (Al g.free) p hp
  refine ⟨by constructor <;> simp only <;> omega, fun i => ?_, by constructor <;> simp only <;> omega⟩
  simp only
  rw [Al_set _ _ _ (by omega), List.getD_eq_getElem?_getD, List.getElem?_set]
  split
  · split
    · simp only [Option.getD_some]; omega
    · simp only [Option.getD_none]; omega
  · have := hL i
    rw [List.getD_eq_getElem?_getD] at this
    omega

theorem add_impl {b : S_Bond} {g : S_gluing} {n p : Nat} (hb : Bn b) (hg : Gn n g) (hn : n ≤ 100) (hp : 1 ≤ p) (hp4 : p ≤ 4) : ∃ x, impl_gluing_add g b (p : Int) = some (x, stp p b g) ∧ 0 ≤ x.begin - x.start - b.Spread ∧ x.begin - x.start - b.Spread ≤ 1000000 ∧ 0 ≤ x.start ∧ x.start ≤ x.begin ∧ x.begin ≤ 1000000 := by
  obtain ⟨f, s, bg, en, q1, q2, q3, q4, h, h1, h2, h3, h4, h5, h6, h7, h8⟩ := stp_num (p := p) hb hg hn
  obtain ⟨⟨b1, b2⟩, ⟨b3, b4⟩, ⟨b5, b6⟩⟩ := hb
  have hj := bi_lt (Al g.free) p hp
  rw [h]
  unfold impl_gluing_add
  rw [bi_impl g p hp hp4, Option.bind_some, ix4 (by omega), Option.bind_some]
  have e : ([g.free.e0, g.free.e1, g.free.e2, g.free.e3] : List Int) = Al g.free := rfl
  rw [e, rd_getD 0 (by rw [Al_len]; omega), q1]
  have w1 : w64 (f - b.Open) = f - b.Open := w64_id (by omega) (by omega)
  have w2 : w64 (s + b.Spread) = s + b.Spread := w64_id (by omega) (by omega)
  have w3 : w64 (bg + b.Press) = en := by rw [q4]; exact w64_id (by omega) (by omega)
  simp only [Option.bind_some, w1, q2, w2, q3, w3]
  generalize bi (Al g.free) p = j at hj
  have m2 := max2_cases (s + b.Spread) f
  have num : ∀ (k : Int), (⟨s, k, bg, en⟩ : S_glued).begin - (⟨s, k, bg, en⟩ : S_glued).start - b.Spread ≥ 0 ∧ (⟨s, k, bg, en⟩ : S_glued).begin - (⟨s, k, bg, en⟩ : S_glued).start - b.Spread ≤ 1000000 ∧ 0 ≤ (⟨s, k, bg, en⟩ : S_glued).start ∧ (⟨s, k, bg, en⟩ : S_glued).start ≤ (⟨s, k, bg, en⟩ : S_glued).begin ∧ (⟨s, k, bg, en⟩ : S_glued).begin ≤ 1000000 := by
    intro k
    simp only
    omega
  match j, hj with
  | 0, _ => exact ⟨_, rfl, num _⟩
  | 1, _ => exact ⟨_, rfl, num _⟩
  | 2, _ => exact ⟨_, rfl, num _⟩
  | 3, _ => exact ⟨_, rfl, num _⟩
  | j + 4, h => omega

/-- The state after an order. -/
def bd (list : List S_Bond) (k : Int) : S_Bond := (list[k.toNat]?).getD ⟨⟨#[]⟩, 0, 0, 0⟩
def g0 : S_gluing := ⟨0, ⟨0, 0, 0, 0⟩, 0⟩
def Gl (p : Nat) (list : List S_Bond) (F : List Int) : S_gluing := F.foldl (fun g k => stp p (bd list k) g) g0

theorem Gl_add (p : Nat) (list : List S_Bond) (F : List Int) (k : Int) : Gl p list (F ++ [k]) = stp p (bd list k) (Gl p list F) := by
  unfold Gl
  rw [List.foldl_append]
  rfl

theorem g0_ok : Gn 0 g0 := by
  refine ⟨by constructor <;> show (0 : Int) ≤ _ <;> decide, fun j => ?_, by constructor <;> show (0 : Int) ≤ _ <;> decide⟩
  match j with
  | 0 => constructor <;> decide
  | 1 => constructor <;> decide
  | 2 => constructor <;> decide
  | 3 => constructor <;> decide
  | j + 4 => constructor <;> exact Int.le_refl 0

def Va (list : List S_Bond) (F : List Int) : Prop := ∀ k ∈ F, 0 ≤ k ∧ k < list.length

theorem bd_rd {list : List S_Bond} {k : Int} (h : 0 ≤ k ∧ k < list.length) : rd list k = some (bd list k) ∧ bd list k ∈ list := by
  have hk : k.toNat < list.length := by omega
  unfold bd rd
  rw [if_pos h.1, List.getElem?_eq_getElem hk]
  exact ⟨rfl, List.getElem_mem hk⟩

theorem Gl_ok {p : Nat} {list : List S_Bond} (hb : ∀ c ∈ list, Bn c) (hp : 1 ≤ p) (hp4 : p ≤ 4) : ∀ (n : Nat) (F : List Int), F.length = n → Va list F → n ≤ 100 → Gn n (Gl p list F) := by
  intro n
  induction n with
  | zero =>
    intro F h _ _
    rw [List.length_eq_zero_iff.1 h]
    exact g0_ok
  | succ n ih =>
    intro F h hv hn
    have hne : F ≠ [] := by intro e; rw [e] at h; simp at h
    have e := (List.dropLast_concat_getLast hne).symm
    rw [e, Gl_add]
    exact stp_ok (hb _ (bd_rd (hv _ (List.getLast_mem hne))).2) (ih _ (by rw [List.length_dropLast]; omega) (fun k hk => hv k (List.dropLast_subset _ hk)) (by omega)) (by omega) hp hp4


/-! What is drawn. -/
theorem bond_ok {c : List Int} (hc : ∀ x ∈ c, 0 ≤ x ∧ x ≤ 255) {n : Int} (hn : n ≤ 990000000) {s : S_l00Src} (h : Sr c n s) (id : ByteArray) : ∃ v s', spec_l24DrawOne s id = some (v, s') ∧ Sr c (n + 12) s' := by
  unfold spec_l24DrawOne
  obtain ⟨v1, s1, e1, _, _, h1⟩ := pick_ok hc (by omega) h 20
  simp only [e1, Option.bind_some]
  obtain ⟨v2, s2, e2, _, h2⟩ := among_ok hc (by omega) h1 [0, 5, 20, 100] (by decide)
  simp only [e2, Option.bind_some]
  obtain ⟨v3, s3, e3, _, h3⟩ := among_ok hc (by omega) h2 [10, 30, 60, 45, 1, 90] (by decide)
  simp only [e3, Option.bind_some]
  exact ⟨_, _, rfl, h3.mono (by omega)⟩

theorem bend_ok {c : List Int} (hc : ∀ x ∈ c, 0 ≤ x ∧ x ≤ 255) {n : Int} (hn : n ≤ 980000000) {s : S_l00Src} (h : Sr c n s) (b : S_Bond) : ∃ v s', spec_l24Bend s b = some (v, s') ∧ Sr c (n + 12) s' := by
  unfold spec_l24Bend
  obtain ⟨v3, s3, e3, _, _, h3⟩ := pick_ok hc (by omega) h 20
  simp only [e3, Option.bind_some]
  have k : ∀ (t : S_l00Src) a b d e, Sr c (n + 12) t → ∃ v s', spec_l24Bend_k10 t.code t.at_ t.seed a b d e = some (v, s') ∧ Sr c (n + 12) s' := fun t a b d e ht => ⟨_, _, rfl, ht⟩
  by_cases c0 : v3 = 0
  · rw [if_pos c0]
    obtain ⟨v4, s4, e4, _, h4⟩ := among_ok hc (by omega) h3 [0, 120, 121] (by decide)
    simp only [e4, Option.bind_some]
    exact k _ _ _ _ _ (h4.mono (by omega))
  rw [if_neg c0]
  by_cases c1 : v3 = 1
  · rw [if_pos c1]
    obtain ⟨v4, s4, e4, _, h4⟩ := among_ok hc (by omega) h3 [(w64 (b.Spread - 1)), 240, 241] (by simp)
    simp only [e4, Option.bind_some]
    exact k _ _ _ _ _ (h4.mono (by omega))
  rw [if_neg c1]
  by_cases c2 : v3 = 2
  · rw [if_pos c2]
    obtain ⟨v4, s4, e4, _, h4⟩ := among_ok hc (by omega) h3 [0, 1440, 1441] (by decide)
    simp only [e4, Option.bind_some]
    exact k _ _ _ _ _ (h4.mono (by omega))
  rw [if_neg c2]
  by_cases c4 : v3 = 3
  · rw [if_pos c4]
    obtain ⟨v4, s4, e4, h4⟩ := text_ok hc (by omega) h3 ([(⟨#[]⟩ : ByteArray), (⟨#[66]⟩ : ByteArray)] : List ByteArray) (by decide)
    simp only [e4, Option.bind_some]
    exact k _ _ _ _ _ (h4.mono (by omega))
  rw [if_neg c4]
  exact k _ _ _ _ _ (h3.mono (by omega))

theorem apf {l : List S_Bond} {x : S_Bond} (h : l.length ≤ 1000) : apd 40 l [x] = some (l ++ [x]) := by
  apply apdn
  simp
  omega

theorem bonds_ok {c : List Int} (hc : ∀ x ∈ c, 0 ≤ x ∧ x ≤ 255) {n : Int} (hn : n ≤ 970000000) {s : S_l00Src} (h : Sr c n s) : ∃ v s', spec_l24DrawList s = some (v, s') ∧ v.length ≤ 20 ∧ Sr c (n + 200) s' := by
  unfold spec_l24DrawList
  have key : ∀ (m k : Nat) (t : S_l00Src) (l : List S_Bond), k + m = 6 → l.length ≤ k → Sr c (n + 14 * k) t → ∃ r, loopO spec_l24DrawList_l4 ((k : Int), t.code, t.at_, t.seed, l) = some r ∧ r.2.2.2.length ≤ 7 ∧ Sr c (n + 98) ⟨r.1, r.2.1, r.2.2.1⟩ := by
    intro m
    induction m with
    | zero =>
      intro k t l hk hl ht
      refine ⟨(t.code, t.at_, t.seed, l), loopO_done ?_, by show l.length ≤ 7; omega, ht.mono (by omega)⟩
      unfold spec_l24DrawList_l4
      simp only [List.length_cons, List.length_nil]
      rw [if_neg (by omega)]
    | succ m ih =>
      intro k t l hk hl ht
      obtain ⟨v, t', e, ht'⟩ := one_ok hc (by omega) ht 2
      have e' : spec_l00Src_one ⟨t.code, t.at_, t.seed⟩ 2 = some (v, t') := e
      have hkl : k < ([(⟨#[97]⟩ : ByteArray), (⟨#[98]⟩ : ByteArray), (⟨#[99]⟩ : ByteArray), (⟨#[100]⟩ : ByteArray), (⟨#[101]⟩ : ByteArray), (⟨#[102]⟩ : ByteArray)] : List ByteArray).length := by
        simp only [List.length_cons, List.length_nil]
        omega
      cases v with
      | true =>
        obtain ⟨f, t2, e2, h2⟩ := bond_ok hc (by omega) ht' (([(⟨#[97]⟩ : ByteArray), (⟨#[98]⟩ : ByteArray), (⟨#[99]⟩ : ByteArray), (⟨#[100]⟩ : ByteArray), (⟨#[101]⟩ : ByteArray), (⟨#[102]⟩ : ByteArray)] : List ByteArray)[k]'hkl)
        have S1 : spec_l24DrawList_l4 ((k : Int), t.code, t.at_, t.seed, l) = some (.inl (((k + 1 : Nat) : Int), t2.code, t2.at_, t2.seed, l ++ [f])) := by
          unfold spec_l24DrawList_l4 spec_l24DrawList_k5
          simp only
          rw [if_pos (by omega), e', Option.bind_some, if_pos rfl, rd_lt hkl, Option.bind_some, e2, Option.bind_some, apf (by omega), Option.bind_some, w64_succ (by omega)]
        rw [loopO_next S1]
        exact ih (k + 1) t2 _ (by omega) (by simp; omega) (h2.mono (by omega))
      | false =>
        have S1 : spec_l24DrawList_l4 ((k : Int), t.code, t.at_, t.seed, l) = some (.inl (((k + 1 : Nat) : Int), t'.code, t'.at_, t'.seed, l)) := by
          unfold spec_l24DrawList_l4 spec_l24DrawList_k5
          simp only
          rw [if_pos (by omega), e', Option.bind_some, if_neg (by simp), w64_succ (by omega)]
        rw [loopO_next S1]
        exact ih (k + 1) t' _ (by omega) (by omega) (ht'.mono (by omega))
  obtain ⟨r, r1, r2, r3⟩ := key 6 0 s [] (by omega) (by simp) (h.mono (by omega))
  have r1' : loopO spec_l24DrawList_l4 (0, s.code, s.at_, s.seed, []) = some r := r1
  rw [r1', Option.bind_some]
  obtain ⟨a1, a2, a3, l⟩ := r
  simp only
  obtain ⟨v4, s4, e4, _, _, h4⟩ := pick_ok hc (by omega) r3 20
  simp only at e4 r2
  simp only [e4, Option.bind_some]
  have k18 : ∀ (t : S_l00Src) (l : List S_Bond), Sr c (n + 200) t → l.length ≤ 20 → ∃ v s', spec_l24DrawList_k18 t.code t.at_ t.seed l = some (v, s') ∧ v.length ≤ 20 ∧ Sr c (n + 200) s' := fun t l ht hl => ⟨_, _, rfl, hl, ht⟩
  by_cases c0 : v4 = 0
  · rw [if_pos c0]
    obtain ⟨f, s5, e5, h5⟩ := bond_ok hc (by omega) h4 (⟨#[97]⟩ : ByteArray)
    simp only [e5, Option.bind_some]
    obtain ⟨g, s6, e6, h6⟩ := bend_ok hc (by omega) h5 f
    simp only [e6, Option.bind_some]
    rw [apf (by omega), Option.bind_some]
    exact k18 _ _ (h6.mono (by omega)) (by simp; omega)
  rw [if_neg c0]
  by_cases c1 : v4 = 1
  · rw [if_pos c1]
    obtain ⟨v5, s5, e5, a5, h5⟩ := among_ok hc (by omega) h4 [12, 13] (by decide)
    simp only [e5, Option.bind_some]
    have a6 : v5 = 12 ∨ v5 = 13 := by simpa using a5
    have key2 : ∀ (m k : Nat) (l : List S_Bond), (k : Int) + m = v5 → l.length ≤ k → ∃ r, loopO (spec_l24DrawList_l15 (v5, s5)) ((k : Int), l) = some r ∧ r.length ≤ 20 := by
      intro m
      induction m with
      | zero =>
        intro k l hk hl
        refine ⟨l, loopO_done ?_, by omega⟩
        unfold spec_l24DrawList_l15
        simp only
        rw [if_neg (by omega)]
      | succ m ih =>
        intro k l hk hl
        have e0 : ∀ z : Int, cat (⟨#[110]⟩ : ByteArray) (strOf [z]) = some ((⟨#[110]⟩ : ByteArray) ++ strOf [z]) := fun z => cat_some (by
          have h1 : (⟨#[110]⟩ : ByteArray).size = 1 := rfl
          have h2 : (strOf [z]).size = 1 := rfl
          rw [h1, h2]
          omega)
        obtain ⟨x, S1⟩ : ∃ x, spec_l24DrawList_l15 (v5, s5) ((k : Int), l) = some (.inl (((k + 1 : Nat) : Int), l ++ [x])) := by
          unfold spec_l24DrawList_l15
          simp only
          rw [if_pos (by omega), e0, Option.bind_some, apf (by omega), Option.bind_some, w64_succ (by omega)]
          exact ⟨_, rfl⟩
        rw [loopO_next S1]
        exact ih (k + 1) _ (by omega) (by simp; omega)
    obtain ⟨r, r1, r2⟩ := key2 v5.toNat 0 [] (by omega) (by simp)
    have r1' : loopO (spec_l24DrawList_l15 (v5, s5)) (0, []) = some r := r1
    rw [r1', Option.bind_some]
    exact k18 _ _ (h5.mono (by omega)) r2
  rw [if_neg c1]
  exact k18 _ _ (h4.mono (by omega)) (by omega)

theorem presses_ok {c : List Int} (hc : ∀ x ∈ c, 0 ≤ x ∧ x ≤ 255) {n : Int} (hn : n ≤ 990000000) {s : S_l00Src} (h : Sr c n s) : ∃ v s', spec_l24DrawPresses s = some (v, s') ∧ Sr c (n + 4) s' := by
  unfold spec_l24DrawPresses
  obtain ⟨v1, s1, e1, h1⟩ := one_ok hc (by omega) h 9
  simp only [e1, Option.bind_some]
  by_cases c1 : v1 = true
  · rw [if_pos c1]
    obtain ⟨v2, s2, e2, _, h2⟩ := among_ok hc (by omega) h1 [0, 4, 5] (by decide)
    simp only [e2, Option.bind_some]
    exact ⟨_, _, rfl, h2.mono (by omega)⟩
  · rw [if_neg c1]
    obtain ⟨v2, s2, e2, _, _, h2⟩ := pick_ok hc (by omega) h1 3
    simp only [e2, Option.bind_some]
    exact ⟨_, _, rfl, h2.mono (by omega)⟩

theorem drawn_ok {c : List Int} (hc : ∀ x ∈ c, 0 ≤ x ∧ x ≤ 255) : ∃ l p b, spec_DrawBestGlueOrder c = some (l, p, b) ∧ l.length ≤ 20 := by
  unfold spec_DrawBestGlueOrder
  obtain ⟨s0, e0, h0⟩ := from_ok c
  simp only [e0, Option.bind_some]
  obtain ⟨v1, s1, e1, a1, h1⟩ := bonds_ok hc (by omega) h0
  simp only [e1, Option.bind_some]
  obtain ⟨v2, s2, e2, h2⟩ := presses_ok hc (by omega) h1
  simp only [e2, Option.bind_some]
  obtain ⟨v4, s4, e4, h4⟩ := budget_ok hc (by omega) h2
  simp only [e4, Option.bind_some]
  exact ⟨_, _, _, rfl, a1⟩

theorem drawn2_ok {c : List Int} (hc : ∀ x ∈ c, 0 ≤ x ∧ x ≤ 255) : ∃ l o b, spec_DrawPressesFor c = some (l, o, b) ∧ l.length ≤ 20 ∧ o.length ≤ 30 := by
  unfold spec_DrawPressesFor spec_l24Draw
  obtain ⟨s0, e0, h0⟩ := from_ok c
  simp only [e0, Option.bind_some]
  obtain ⟨l, s1, e1, a1, h1⟩ := bonds_ok hc (by omega) h0
  simp only [e1, Option.bind_some]
  have lp := loopO_for (fun i : Nat => ((i : Int), upto i)) l.length (f := spec_l24Draw_l5 (l, s1)) (r := upto l.length) (fun i hi => by
    unfold spec_l24Draw_l5
    simp only
    rw [if_pos (by omega), apd1 (by rw [upto_len]; omega), Option.bind_some, w64_succ (by omega)]
    rfl) (by
    unfold spec_l24Draw_l5
    simp only
    rw [if_neg (by omega)])
  have lp' : loopO (spec_l24Draw_l5 (l, s1)) (0, []) = some (upto l.length) := lp
  simp only [lp', Option.bind_some]
  obtain ⟨v2, s2, e2, b1, b2, h2⟩ := pick_ok hc (by omega) h1 4
  have b3 := b2 (by omega)
  simp only [e2, Option.bind_some]
  have key : ∀ (m : Nat) (k : Int) (t : S_l00Src) (o : List Int), k.toNat ≤ m → k ≤ 4 → m ≤ 4 → o.length = l.length → Sr c (202 + 2 * (4 - m)) t → ∃ r, loopO (spec_l24Draw_l9 (l, s1)) (k, t.code, t.at_, t.seed, o) = some r ∧ r.2.2.2.length = l.length ∧ Sr c 300 ⟨r.1, r.2.1, r.2.2.1⟩ := by
    intro m
    induction m with
    | zero =>
      intro k t o hk hk4 hm ho ht
      refine ⟨(t.code, t.at_, t.seed, o), loopO_done ?_, ho, ht.mono (by omega)⟩
      unfold spec_l24Draw_l9
      simp only
      rw [if_neg (by omega)]
    | succ m ih =>
      intro k t o hk hk4 hm ho ht
      by_cases c0 : k > 0 ∧ (l.length : Int) > 1
      · have w : w64 ((l.length : Int) - 1) = (l.length : Int) - 1 := w64_id (by omega) (by omega)
        obtain ⟨v, t', e, v0, v1, ht'⟩ := pick_ok hc (by omega) ht ((l.length : Int) - 1)
        have v2 := v1 (by omega)
        have e' : spec_l00Src_pick ⟨t.code, t.at_, t.seed⟩ ((l.length : Int) - 1) = some (v, t') := e
        obtain ⟨x, hx, _⟩ := rd_some (L := o) (i := v) v0 (by omega)
        have w2 : w64 (v + 1) = v + 1 := w64_id (by omega) (by omega)
        obtain ⟨y, hy, _⟩ := rd_some (L := o) (i := v + 1) (by omega) (by omega)
        obtain ⟨z, hz, _⟩ := rd_some (L := o.set v.toNat y) (i := v + 1) (by omega) (by rw [List.length_set]; omega)
        have S1 : spec_l24Draw_l9 (l, s1) (k, t.code, t.at_, t.seed, o) = some (.inl (k - 1, t'.code, t'.at_, t'.seed, (o.set v.toNat y).set (v + 1).toNat x)) := by
          unfold spec_l24Draw_l9
          simp only
          rw [if_pos c0, w, e', Option.bind_some, hx, Option.bind_some, w2, hy]
          simp only [Option.bind_some, hz]
          rw [w64_id (by omega) (by omega)]
        rw [loopO_next S1]
        exact ih (k - 1) t' _ (by omega) (by omega) (by omega) (by simp; omega) (ht'.mono (by omega))
      · refine ⟨(t.code, t.at_, t.seed, o), loopO_done ?_, ho, ht.mono (by omega)⟩
        unfold spec_l24Draw_l9
        simp only
        rw [if_neg c0]
  obtain ⟨r, r1, r2, r3⟩ := key 4 v2 s2 (upto l.length) (by omega) (by omega) (by omega) (upto_len _) (h2.mono (by omega))
  obtain ⟨a, a', a'', o⟩ := r
  simp only [r1, Option.bind_some]
  obtain ⟨v5, s5, e5, h5⟩ := one_ok hc (by omega) r3 10
  simp only at e5 r2
  simp only [e5, Option.bind_some]
  have k17 : ∀ (x : List S_Bond × S_l00Src) (o : List Int), ∃ p s', spec_l24Draw_k17 x (v5, s5) o = some (x.1, o, p, s') ∧ Sr c 310 s' := by
    intro x o
    obtain ⟨p, s6, e6, h6⟩ := presses_ok hc (by omega) h5
    unfold spec_l24Draw_k17
    simp only [e6, Option.bind_some]
    exact ⟨_, _, rfl, h6.mono (by omega)⟩
  have fin : ∀ o2 : List Int, o2.length ≤ 30 → ∃ o3 b, ((spec_l24Draw_k17 (l, s1) (v5, s5) o2).bind fun x13 => (spec_l00Src_among x13.2.2.2 ([(-1), 0, 40, 90, 150, 400] : List Int)).bind fun x21 => some (x13.1, x13.2.1, x21.1)) = some (l, o3, b) ∧ o3.length ≤ 30 := by
    intro o2 ho2
    obtain ⟨p, s6, e6, h6⟩ := k17 (l, s1) o2
    obtain ⟨v7, s7, e7, _, h7⟩ := among_ok hc (by omega) h6 [(-1), 0, 40, 90, 150, 400] (by decide)
    simp only [e6, Option.bind_some, e7]
    exact ⟨_, _, rfl, ho2⟩
  by_cases c1 : v5 = true
  · rw [if_pos c1, apd1 (by omega), Option.bind_some]
    obtain ⟨o3, b, q, q2⟩ := fin (o ++ [0]) (by simp; omega)
    exact ⟨_, _, _, q, a1, q2⟩
  · rw [if_neg c1]
    obtain ⟨o3, b, q, q2⟩ := fin o (by omega)
    exact ⟨_, _, _, q, a1, q2⟩

/-! Bonds. -/
theorem one_some (c : S_Bond) : ∃ v : Bool, impl_ValidBond c = some v ∧ (v = true → Bn c) := by
  obtain ⟨n, n1⟩ := name_some c.Name
  unfold impl_ValidBond Bn
  simp only [n1, within_eq, Option.bind_some]
  cases n with
  | false => exact ⟨false, rfl, fun h => by cases h⟩
  | true =>
    simp only [if_true, decide_eq_true_eq]
    by_cases c1 : 1 ≤ c.Spread ∧ c.Spread ≤ 120
    · simp only [if_pos c1, Option.bind_some]
      by_cases c2 : c.Spread ≤ c.Open ∧ c.Open ≤ 240
      · simp only [if_pos c2, Option.bind_some]
        exact ⟨_, rfl, fun h => ⟨c1, c2, of_decide_eq_true h⟩⟩
      · simp only [if_neg c2, Option.bind_some]
        exact ⟨_, rfl, fun h => by cases h⟩
    · simp only [if_neg c1, Option.bind_some]
      exact ⟨_, rfl, fun h => by cases h⟩

theorem list_some (l : List S_Bond) (hl : l.length ≤ 1048576) : ∃ v : Bool, impl_ValidBonds l = some v ∧ (v = true → l.length ≤ 12 ∧ ∀ f ∈ l, Bn f) := by
  unfold impl_ValidBonds
  rcases validL (f := impl_ValidBonds_l2 l) l Bn (by omega) (fun i hi => by
    obtain ⟨v, v1, v2⟩ := one_some l[i]
    unfold impl_ValidBonds_l2
    rw [if_pos (by omega), rd_lt hi, Option.bind_some, v1, Option.bind_some]
    cases v with
    | false => exact .inr rfl
    | true =>
      rw [if_pos rfl]
      by_cases c0 : (i : Int) > 0
      · rw [if_pos c0, w64_pred (by omega) (by omega), rd_lt (show i - 1 < l.length by omega)]
        simp only [Option.bind_some]
        cases Op.bytesLess (l[i - 1]'(by omega)).Name.toList l[i].Name.toList with
        | true => exact .inl ⟨rfl, v2 rfl⟩
        | false => exact .inr rfl
      · rw [if_neg c0]
        exact .inl ⟨rfl, v2 rfl⟩) (by
    unfold impl_ValidBonds_l2
    rw [if_neg (by omega)]) with ⟨q1, q2⟩ | q
  · rw [q1]
    refine ⟨_, rfl, fun h => ⟨?_, q2⟩⟩
    have := of_decide_eq_true h
    omega
  · rw [q]
    exact ⟨false, rfl, fun h => by cases h⟩

/-! Orders. -/
def Full (list : List S_Bond) (M : List Int) : Prop := Va list M ∧ M.Nodup ∧ M.length = list.length

theorem is_some (o : List Int) (n : Nat) (hn : n ≤ 1000) (ho : o.length ≤ 1000) : ∃ b : Bool, impl_isOrder o (n : Int) = some b ∧ (b = true → o.length = n ∧ ∀ x ∈ o, 0 ≤ x ∧ x < n) ∧ (o.length = n → (∀ x ∈ o, 0 ≤ x ∧ x < n) → o.Nodup → b = true) := by
  unfold impl_isOrder
  by_cases c : (o.length : Int) ≠ (n : Int)
  · rw [if_pos c]
    exact ⟨false, rfl, fun h => (by cases h), fun h => absurd h (by omega)⟩
  · rw [if_neg c]
    unfold mkl
    rw [if_pos (by omega), Option.bind_some, Int.toNat_natCast]
    have w : w64 ((n : Int) - 1) = (n : Int) - 1 := w64_id (by omega) (by omega)
    have key : ∀ (m i : Nat) (met : List Bool), i + m = o.length → met.length = n → (∀ (j : Nat) (hj : j < met.length), met[j] = true → (j : Int) ∈ o.take i) →
        ∃ r, loopO (impl_isOrder_l5 (n : Int) o) ((i : Int), met) = some r ∧ ((r = .inl () ∧ ∀ x ∈ o.drop i, 0 ≤ x ∧ x < n) ∨ (r = .inr false ∧ ¬ ((∀ x ∈ o, 0 ≤ x ∧ x < n) ∧ o.Nodup))) := by
      intro m
      induction m with
      | zero =>
        intro i met hi hm hmet
        refine ⟨.inl (), loopO_done ?_, .inl ⟨rfl, fun x hx => ?_⟩⟩
        · unfold impl_isOrder_l5
          simp only
          rw [if_neg (by omega)]
        · rw [show i = o.length by omega, List.drop_length] at hx
          cases hx
      | succ m ih =>
        intro i met hi hm hmet
        have hi' : i < o.length := by omega
        by_cases c1 : 0 ≤ o[i] ∧ o[i] ≤ (n : Int) - 1
        · obtain ⟨j, hj⟩ : ∃ j : Nat, o[i] = (j : Int) := ⟨o[i].toNat, by omega⟩
          have hjl : j < met.length := by omega
          have hrd : rd met o[i] = some met[j] := by rw [hj]; exact rd_lt hjl
          cases hmj : met[j] with
          | true =>
            have : impl_isOrder_l5 (n : Int) o ((i : Int), met) = some (.inr (.inr false)) := by
              unfold impl_isOrder_l5
              simp only
              rw [if_pos (by omega), rd_lt hi', Option.bind_some, w, within_eq, Option.bind_some, if_pos (decide_eq_true c1), hrd, hmj]
              simp
            refine ⟨_, loopO_done this, .inr ⟨rfl, fun hh => ?_⟩⟩
            have hm1 := hmet j hjl hmj
            obtain ⟨q, hq, eq⟩ := List.getElem_of_mem hm1
            rw [List.length_take] at hq
            rw [List.getElem_take, ← hj] at eq
            exact absurd eq (List.pairwise_iff_getElem.1 hh.2 q i (by omega) hi' (by omega))
          | false =>
            have : impl_isOrder_l5 (n : Int) o ((i : Int), met) = some (.inl (((i + 1 : Nat) : Int), met.set j true)) := by
              unfold impl_isOrder_l5
              simp only
              rw [if_pos (by omega), rd_lt hi', Option.bind_some, w, within_eq, Option.bind_some, if_pos (decide_eq_true c1), hrd, hmj]
              simp only [Option.bind_some, Bool.false_eq_true, if_false, w64_succ (show i < 9223372036854775807 by omega), hj, Int.toNat_natCast]
            rw [loopO_next this]
            obtain ⟨r, r1, r2⟩ := ih (i + 1) (met.set j true) (by omega) (by simp; omega) (fun q hq hqt => by
              rw [List.take_succ_eq_append_getElem hi']
              rw [List.getElem_set] at hqt
              split at hqt
              · rename_i e
                subst e
                exact List.mem_append_right _ (by rw [hj]; exact List.mem_singleton.2 rfl)
              · exact List.mem_append_left _ (hmet q (by simpa using hq) hqt))
            refine ⟨r, r1, r2.imp_left fun ⟨e1, e2⟩ => ⟨e1, fun x hx => ?_⟩⟩
            rw [List.drop_eq_getElem_cons hi'] at hx
            rcases List.mem_cons.1 hx with rfl | hx
            · omega
            · exact e2 x hx
        · have : impl_isOrder_l5 (n : Int) o ((i : Int), met) = some (.inr (.inr false)) := by
            unfold impl_isOrder_l5
            simp only
            rw [if_pos (by omega), rd_lt hi', Option.bind_some, w, within_eq, Option.bind_some, if_neg (by simpa using c1)]
            simp
          refine ⟨_, loopO_done this, .inr ⟨rfl, fun hh => c1 ?_⟩⟩
          have := hh.1 _ (List.getElem_mem hi')
          omega
    obtain ⟨r, r1, r2⟩ := key o.length 0 (List.replicate n false) (by omega) (by simp) (fun j hj hjt => by simp at hjt)
    have r1' : loopO (impl_isOrder_l5 (n : Int) o) (0, List.replicate n false) = some r := r1
    rw [r1', Option.bind_some]
    rcases r2 with ⟨rfl, r2⟩ | ⟨rfl, r2⟩
    · exact ⟨true, rfl, fun _ => ⟨by omega, fun x hx => r2 x hx⟩, fun _ _ _ => rfl⟩
    · exact ⟨false, rfl, fun h => (by cases h), fun _ h1 h2 => absurd ⟨h1, h2⟩ r2⟩

section
variable {list : List S_Bond} {p : Nat}

theorem all_ok (hl : list.length ≤ 12) (hb : ∀ c ∈ list, Bn c) (hp : 1 ≤ p) (hp4 : p ≤ 4) {F : List Int} (hv : Va list F) (hF : F.length ≤ 100) :
    ∃ out, impl_glueAll list F (p : Int) = some (out, (Gl p list F).end_) ∧ out.length = list.length ∧ ∀ (j : Nat) (hj : j < out.length) (hj' : j < list.length), (j : Int) ∈ F → 0 ≤ out[j].start ∧ out[j].start ≤ out[j].begin ∧ out[j].begin ≤ 1000000 ∧ 0 ≤ out[j].begin - out[j].start - list[j].Spread ∧ out[j].begin - out[j].start - list[j].Spread ≤ 1000000 := by
  have key : ∀ (m i : Nat) (out : List S_glued), i + m = F.length → out.length = list.length → (∀ (j : Nat) (hj : j < out.length) (hj' : j < list.length), (j : Int) ∈ F.take i → 0 ≤ out[j].start ∧ out[j].start ≤ out[j].begin ∧ out[j].begin ≤ 1000000 ∧ 0 ≤ out[j].begin - out[j].start - list[j].Spread ∧ out[j].begin - out[j].start - list[j].Spread ≤ 1000000) →
      ∃ r, loopO (impl_glueAll_l3 list F (p : Int)) ((i : Int), (Gl p list (F.take i)).ready, (Gl p list (F.take i)).free.e0, (Gl p list (F.take i)).free.e1, (Gl p list (F.take i)).free.e2, (Gl p list (F.take i)).free.e3, (Gl p list (F.take i)).end_, out) = some r ∧
        r.2.2.2.2.2.1 = (Gl p list F).end_ ∧ r.2.2.2.2.2.2.length = list.length ∧ ∀ (j : Nat) (hj : j < r.2.2.2.2.2.2.length) (hj' : j < list.length), (j : Int) ∈ F → 0 ≤ r.2.2.2.2.2.2[j].start ∧ r.2.2.2.2.2.2[j].start ≤ r.2.2.2.2.2.2[j].begin ∧ r.2.2.2.2.2.2[j].begin ≤ 1000000 ∧ 0 ≤ r.2.2.2.2.2.2[j].begin - r.2.2.2.2.2.2[j].start - list[j].Spread ∧ r.2.2.2.2.2.2[j].begin - r.2.2.2.2.2.2[j].start - list[j].Spread ≤ 1000000 := by
    intro m
    induction m with
    | zero =>
      intro i out hi ho hq
      obtain rfl : i = F.length := by omega
      rw [List.take_length] at hq ⊢
      refine ⟨((Gl p list F).ready, (Gl p list F).free.e0, (Gl p list F).free.e1, (Gl p list F).free.e2, (Gl p list F).free.e3, (Gl p list F).end_, out), loopO_done ?_, rfl, ho, hq⟩
      unfold impl_glueAll_l3
      simp only
      rw [if_neg (by omega)]
    | succ m ih =>
      intro i out hi ho hq
      have hi' : i < F.length := by omega
      obtain ⟨k0, k1⟩ := hv _ (List.getElem_mem hi')
      obtain ⟨r1, r2⟩ := bd_rd ⟨k0, k1⟩
      have hg := Gl_ok hb hp hp4 i (F.take i) (by rw [List.length_take]; omega) (fun k hk => hv k (List.mem_of_mem_take hk)) (by omega)
      have e0 : F.take (i + 1) = F.take i ++ [F[i]] := List.take_succ_eq_append_getElem hi'
      have e1 : Gl p list (F.take (i + 1)) = stp p (bd list F[i]) (Gl p list (F.take i)) := by rw [e0, Gl_add]
      obtain ⟨x, x1, x2, x3, x4, x5, x6⟩ := add_impl (hb _ r2) hg (by omega) hp hp4
      obtain ⟨j, hj⟩ : ∃ j : Nat, F[i] = (j : Int) := ⟨F[i].toNat, by omega⟩
      have hjl : j < out.length := by omega
      have S1 : impl_glueAll_l3 list F (p : Int) ((i : Int), (Gl p list (F.take i)).ready, (Gl p list (F.take i)).free.e0, (Gl p list (F.take i)).free.e1, (Gl p list (F.take i)).free.e2, (Gl p list (F.take i)).free.e3, (Gl p list (F.take i)).end_, out) =
          some (.inl (((i + 1 : Nat) : Int), (Gl p list (F.take (i + 1))).ready, (Gl p list (F.take (i + 1))).free.e0, (Gl p list (F.take (i + 1))).free.e1, (Gl p list (F.take (i + 1))).free.e2, (Gl p list (F.take (i + 1))).free.e3, (Gl p list (F.take (i + 1))).end_, out.set j x)) := by
        unfold impl_glueAll_l3
        simp only
        have x1' : impl_gluing_add ⟨(Gl p list (F.take i)).ready, ⟨(Gl p list (F.take i)).free.e0, (Gl p list (F.take i)).free.e1, (Gl p list (F.take i)).free.e2, (Gl p list (F.take i)).free.e3⟩, (Gl p list (F.take i)).end_⟩ (bd list F[i]) (p : Int) = some (x, stp p (bd list F[i]) (Gl p list (F.take i))) := x1
        rw [if_pos (by omega), rd_lt hi', Option.bind_some, r1, Option.bind_some, x1', Option.bind_some, w64_succ (by omega), e1, hj, rd_lt hjl, Option.bind_some, Int.toNat_natCast]
      rw [loopO_next S1]
      refine ih (i + 1) _ (by omega) (by simp; omega) (fun q hq1 hq2 hqm => ?_)
      rw [List.getElem_set]
      split
      · rename_i e
        subst e
        have eb : bd list F[i] = list[j] := by
          unfold bd
          rw [hj, Int.toNat_natCast, List.getElem?_eq_getElem hq2]
          rfl
        rw [eb] at x2 x3
        exact ⟨x4, x5, x6, x2, x3⟩
      · rename_i e
        refine hq q (by simpa using hq1) hq2 ?_
        rw [e0] at hqm
        rcases List.mem_append.1 hqm with hm | hm
        · exact hm
        · rw [List.mem_singleton, hj] at hm
          omega
  obtain ⟨r, r1, r2, r3, r4⟩ := key F.length 0 (List.replicate list.length ⟨0, 0, 0, 0⟩) (by omega) (by simp) (fun j hj hj' hm => by simp at hm)
  have r1' : loopO (impl_glueAll_l3 list F (p : Int)) (0, 0, 0, 0, 0, 0, 0, List.replicate list.length ⟨0, 0, 0, 0⟩) = some r := r1
  unfold impl_glueAll mkl
  rw [if_pos (by omega), Option.bind_some, Int.toNat_natCast, r1', Option.bind_some]
  obtain ⟨a1, a2, a3, a4, a5, a6, out⟩ := r
  simp only at r2
  subst r2
  exact ⟨out, rfl, r3, r4⟩

theorem stp_mono (b : S_Bond) (g : S_gluing) : g.end_ ≤ (stp p b g).end_ := by
  unfold stp
  simp only
  have := max2_cases g.end_ (max2 (max2 g.ready ((Al g.free).getD (bi (Al g.free) p) 0 - b.Open) + b.Spread) ((Al g.free).getD (bi (Al g.free) p) 0) + b.Press)
  omega

theorem Gl_mono (F R : List Int) : (Gl p list F).end_ ≤ (Gl p list (F ++ R)).end_ := by
  unfold Gl
  rw [List.foldl_append]
  generalize F.foldl (fun g k => stp p (bd list k) g) g0 = g
  induction R generalizing g with
  | nil => exact Int.le_refl _
  | cons k R ih =>
    have := ih (stp p (bd list k) g)
    have := stp_mono (p := p) (bd list k) g
    simp only [List.foldl_cons]
    omega

abbrev FI := (S_glueSearch × List Int × S_gluing) → Option (Bool × S_glueSearch)
theorem fs_impl (x : S_glueSearch) (F : List Int) (g : S_gluing) : Fs (fun self : FI => impl_glueSearch_run_F self x F g) := by
  unfold impl_glueSearch_run_F
  refine Fs.ite (Fs.const _) (Fs.bind (Fs.loop (fun s => ?_) _) fun o => Fs.const _)
  obtain ⟨a1, a2, a3, a4, a5, a6, a7⟩ := s
  unfold impl_glueSearch_run_l5 impl_glueSearch_run_k16
  exact Fs.ite (Fs.bind (Fs.const _) fun _ => Fs.ite (Fs.const _) (Fs.bind (Fs.const _) fun _ => Fs.bind (Fs.const _) fun _ => Fs.ite (Fs.const _) (Fs.ite (Fs.const _) (Fs.bind (Fs.const _) fun _ => Fs.bind (Fs.const _) fun _ => Fs.bind (Fs.app _) fun z => Fs.ite (Fs.const _) (Fs.const _))))) (Fs.const _)
noncomputable abbrev SI : FI := fun s => impl_glueSearch_run s.1 s.2.1 s.2.2
theorem go_implE (x : S_glueSearch) (F : List Int) (g : S_gluing) : impl_glueSearch_run x F g = impl_glueSearch_run_F SI x F g := by
  show fixO _ _ = _
  rw [fixO_eq]
  · rfl
  · rintro ⟨x, F, g⟩
    exact fs_impl x F g

/-- What is known of the best so far. -/
def Bs (list : List S_Bond) (p : Nat) (found : Bool) (best : List Int) (least : Int) : Prop := found = true → Full list best ∧ (Gl p list best).end_ = least

theorem go_run (hl : list.length ≤ 12) (hb : ∀ c ∈ list, Bn c) (hp : 1 ≤ p) (hp4 : p ≤ 4) :
    ∀ (d : Nat) (F : List Int) (left : Int) (found : Bool) (best : List Int) (least : Int), F.length + d = list.length → Va list F → F.Nodup → 0 ≤ left → left ≤ 20000 → Bs list p found best least → (found = true → (Gl p list F).end_ ≤ least) →
      ∃ spent s', impl_glueSearch_run ⟨list, p, left, found, best, least⟩ F (Gl p list F) = some (spent, s') ∧
        (spent = false → ∃ left' best' least', s' = ⟨list, p, left', true, best', least'⟩ ∧ 0 ≤ left' ∧ left' ≤ 20000 ∧ Bs list p true best' least' ∧ (found = true → least' ≤ least) ∧ ∀ R, Full list (F ++ R) → least' ≤ (Gl p list (F ++ R)).end_) := by
  intro d
  induction d with
  | zero =>
    intro F left found best least hF hV hN h0 h1 hB hlt
    refine ⟨false, ⟨list, p, left, true, F, (Gl p list F).end_⟩, ?_, fun _ => ?_⟩
    · rw [go_implE]
      unfold impl_glueSearch_run_F
      rw [if_pos (show (F.length : Int) = (list.length : Int) by omega)]
    · refine ⟨left, F, _, rfl, h0, h1, fun _ => ⟨⟨hV, hN, by omega⟩, rfl⟩, hlt, fun R hR => Gl_mono F R⟩
  | succ d ih =>
    intro F left found best least hF hV hN h0 h1 hB hlt
    have hFT : F.length < list.length := by omega
    have key : ∀ (m k : Nat) (left : Int) (found : Bool) (best : List Int) (least : Int), k + m = list.length → (found = true ∨ ∀ i : Nat, i < k → (i : Int) ∈ F) → 0 ≤ left → left ≤ 20000 → Bs list p found best least →
        (∀ (j : Nat) R, j < k → Full list (F ++ (j : Int) :: R) → found = true ∧ least ≤ (Gl p list (F ++ (j : Int) :: R)).end_) → ∀ (s0 : S_glueSearch), s0.list = list →
        (∃ left' best' least', loopO (impl_glueSearch_run_l5 SI (Gl p list F) F s0) ((k : Int), list, (p : Int), left, found, best, least) = some (.inl (list, (p : Int), left', true, best', least')) ∧ 0 ≤ left' ∧ left' ≤ 20000 ∧ Bs list p true best' least' ∧ (found = true → least' ≤ least) ∧
          ∀ R, Full list (F ++ R) → least' ≤ (Gl p list (F ++ R)).end_) ∨
        (∃ t', loopO (impl_glueSearch_run_l5 SI (Gl p list F) F s0) ((k : Int), list, (p : Int), left, found, best, least) = some (.inr (true, t'))) := by
      intro m
      induction m with
      | zero =>
        intro k left found best least hk hq h0 h1 hB hC s0 hs0
        have hq' : found = true := by
          rcases hq with hq | hq
          · exact hq
          · have := pig k F hq
            omega
        subst hq'
        refine .inl ⟨left, best, least, loopO_done ?_, h0, h1, hB, fun _ => Int.le_refl _, fun R hR => ?_⟩
        · unfold impl_glueSearch_run_l5
          simp only
          rw [if_neg (by rw [hs0]; omega)]
        · cases R with
          | nil =>
            have := hR.2.2
            rw [List.append_nil] at this
            omega
          | cons r R =>
            obtain ⟨r0, r1⟩ := hR.1 r (by simp)
            have e : r = ((r.toNat : Nat) : Int) := by omega
            rw [e] at hR ⊢
            exact (hC r.toNat R (by omega) hR).2
      | succ m ihm =>
        intro k left found best least hk hq h0 h1 hB hC s0 hs0
        have hk' : k < list.length := by omega
        have wk : w64 ((k : Int) + 1) = ((k + 1 : Nat) : Int) := w64_succ (by omega)
        obtain ⟨r1, r2⟩ := bd_rd (list := list) (k := (k : Int)) ⟨by omega, by omega⟩
        obtain ⟨x, hx, _⟩ := add_impl (hb _ r2) (Gl_ok hb hp hp4 F.length F rfl hV (by omega)) (by omega) hp hp4
        have I0 : impl_glueSearch_run_l5 SI (Gl p list F) F s0 ((k : Int), list, (p : Int), left, found, best, least) = if decide ((k : Int) ∈ F) = true then some (.inl (((k + 1 : Nat) : Int), list, (p : Int), left, found, best, least)) else
            (if (found = true ∧ (Gl p list (F ++ [(k : Int)])).end_ ≥ least) then some (.inl (((k + 1 : Nat) : Int), list, (p : Int), left, found, best, least)) else
             (if left = 0 then some (.inr (.inr (true, ⟨list, p, left, found, best, least⟩))) else
              ((SI (⟨list, p, w64 (left - 1), found, best, least⟩, F ++ [(k : Int)], Gl p list (F ++ [(k : Int)]))).bind fun x85 => if x85.1 = true then some (.inr (.inr (true, x85.2))) else
                some (.inl (((k + 1 : Nat) : Int), x85.2.list, x85.2.presses, x85.2.left, x85.2.found, x85.2.best, x85.2.least))))) := by
          unfold impl_glueSearch_run_l5 impl_glueSearch_run_k16
          simp only
          rw [hs0, if_pos (by omega), has_impl _ _ (by omega), Option.bind_some, r1, Option.bind_some, hx, Option.bind_some, apd0 (by omega), Option.bind_some, apd1 (by omega), Option.bind_some, wk, Gl_add]
        have later : ∀ (found' : Bool) (least' : Int), (∀ R, Full list (F ++ (k : Int) :: R) → found' = true ∧ least' ≤ (Gl p list (F ++ (k : Int) :: R)).end_) → (found = true → found' = true ∧ least' ≤ least) →
            ∀ (j : Nat) R, j < k + 1 → Full list (F ++ (j : Int) :: R) → found' = true ∧ least' ≤ (Gl p list (F ++ (j : Int) :: R)).end_ := by
          intro found' least' hk1 hle j R hj hR
          by_cases e : j = k
          · subst e; exact hk1 R hR
          · obtain ⟨q1, q2⟩ := hC j R (by omega) hR
            obtain ⟨q3, q4⟩ := hle q1
            exact ⟨q3, by omega⟩
        by_cases c0 : (k : Int) ∈ F
        · rw [if_pos (decide_eq_true c0)] at I0
          rw [loopO_next I0]
          refine ihm (k + 1) left found best least (by omega) (hq.imp_right fun hq i hi => ?_) h0 h1 hB (later found least (fun R hR => ?_) (fun h => ⟨h, Int.le_refl _⟩)) s0 hs0
          · by_cases e : i = k
            · rw [e]; exact c0
            · exact hq i (by omega)
          · have := hR.2.1
            rw [List.nodup_append] at this
            exact absurd rfl (this.2.2 _ c0 _ List.mem_cons_self)
        · rw [if_neg (by simpa using c0)] at I0
          have hV' : Va list (F ++ [(k : Int)]) := by
            intro j hj
            rcases List.mem_append.1 hj with hj | hj
            · exact hV j hj
            · rw [List.mem_singleton] at hj; subst hj; omega
          have hN' : (F ++ [(k : Int)]).Nodup := by
            rw [List.nodup_append]
            refine ⟨hN, by simp, fun a ha b hb e => ?_⟩
            rw [List.mem_singleton] at hb
            subst hb
            exact c0 (e ▸ ha)
          have ext : ∀ R, F ++ (k : Int) :: R = (F ++ [(k : Int)]) ++ R := fun R => by simp
          by_cases c1 : found = true ∧ (Gl p list (F ++ [(k : Int)])).end_ ≥ least
          · rw [if_pos c1] at I0
            rw [loopO_next I0]
            refine ihm (k + 1) left found best least (by omega) (.inl c1.1) h0 h1 hB (later found least (fun R hR => ?_) (fun h => ⟨h, Int.le_refl _⟩)) s0 hs0
            rw [ext R]
            have := Gl_mono (p := p) (list := list) (F ++ [(k : Int)]) R
            exact ⟨c1.1, by omega⟩
          · rw [if_neg c1] at I0
            by_cases c2 : left = 0
            · rw [if_pos c2] at I0
              exact .inr ⟨_, loopO_done I0⟩
            · rw [if_neg c2, w64_id (n := left - 1) (by omega) (by omega)] at I0
              obtain ⟨spent, s', r1, r2⟩ := ih (F ++ [(k : Int)]) (left - 1) found best least (by simp; omega) hV' hN' (by omega) (by omega) hB (fun h => by have := c1; simp only [h, true_and] at this; omega)
              have r1' : SI (⟨list, p, left - 1, found, best, least⟩, F ++ [(k : Int)], Gl p list (F ++ [(k : Int)])) = some (spent, s') := r1
              rw [r1', Option.bind_some] at I0
              cases spent with
              | true =>
                rw [if_pos rfl] at I0
                exact .inr ⟨_, loopO_done I0⟩
              | false =>
                obtain ⟨left', best', least', rfl, g0, g1, g2, g3, g4⟩ := r2 rfl
                rw [if_neg (by simp)] at I0
                rw [loopO_next I0]
                rcases ihm (k + 1) left' true best' least' (by omega) (.inl rfl) g0 g1 g2 (later true least' (fun R hR => ⟨rfl, by rw [ext R] at hR ⊢; exact g4 R hR⟩) (fun h => ⟨rfl, g3 h⟩)) s0 hs0 with ⟨l2, b2, t2, q1, q2, q3, q4, q5, q6⟩ | q
                · exact .inl ⟨l2, b2, t2, q1, q2, q3, q4, fun h => by have := q5 rfl; have := g3 h; omega, q6⟩
                · exact .inr q
    have hne : ¬ (F.length : Int) = (list.length : Int) := by omega
    rcases key list.length 0 left found best least (by omega) (.inr fun i hi => by omega) h0 h1 hB (fun j R hj => by omega) ⟨list, p, left, found, best, least⟩ rfl with ⟨l2, b2, t2, q1, q2, q3, q4, q5, q6⟩ | ⟨t', q⟩
    · have q1' : loopO (impl_glueSearch_run_l5 SI (Gl p list F) F ⟨list, p, left, found, best, least⟩) (0, list, (p : Int), left, found, best, least) = some (.inl (list, (p : Int), l2, true, b2, t2)) := q1
      refine ⟨false, ⟨list, p, l2, true, b2, t2⟩, ?_, fun _ => ⟨l2, b2, t2, rfl, q2, q3, q4, q5, q6⟩⟩
      rw [go_implE]
      unfold impl_glueSearch_run_F
      rw [if_neg hne]
      simp only [q1', Option.bind_some]
    · have q1' : loopO (impl_glueSearch_run_l5 SI (Gl p list F) F ⟨list, p, left, found, best, least⟩) (0, list, (p : Int), left, found, best, least) = some (.inr (true, t')) := q
      refine ⟨true, t', ?_, fun h => by cases h⟩
      rw [go_implE]
      unfold impl_glueSearch_run_F
      rw [if_neg hne]
      simp only [q1', Option.bind_some]

theorem long_ok (hl : list.length ≤ 12) (hb : ∀ c ∈ list, Bn c) (hp : 1 ≤ p) (hp4 : p ≤ 4) (hv : impl_ValidBonds list = some true) :
    ∃ M, impl_LongestFirst list (p : Int) = some (M, (Gl p list M).end_, 0) ∧ Full list M := by
  unfold impl_LongestFirst impl_pressCode
  rw [hv]
  simp only [Option.bind_some, if_true, within_eq, decide_eq_true_eq]
  rw [if_pos (show (1 : Int) ≤ (p : Int) ∧ (p : Int) ≤ 4 by omega)]
  simp only [Option.bind_some, ne_eq, not_true, if_false]
  have := loopO_for (fun i : Nat => ((i : Int), upto i)) list.length (f := impl_LongestFirst_l6 list) (r := upto list.length) (fun i hi => by
    unfold impl_LongestFirst_l6
    simp only
    rw [if_pos (by omega), apd1 (by rw [upto_len]; omega), Option.bind_some, w64_succ (by omega)]
    rfl) (by
    unfold impl_LongestFirst_l6
    simp only
    rw [if_neg (by omega)])
  have h0 : loopO (impl_LongestFirst_l6 list) (0, []) = some (upto list.length) := this
  rw [h0, Option.bind_some]
  obtain ⟨r, r1, r2⟩ := sort_perm (cmp := fun a0 a1 => impl_LongestFirst_c1 a0 a1 list) (l := upto list.length) (by rw [upto_len]; omega) (fun x hx y hy => by
    obtain ⟨x0, x1⟩ := upto_mem.1 hx
    obtain ⟨y0, y1⟩ := upto_mem.1 hy
    obtain ⟨a, ea, ha⟩ := rd_some x0 x1
    obtain ⟨b, eb, hb⟩ := rd_some y0 y1
    unfold impl_LongestFirst_c1
    rw [ea, eb]
    exact ⟨_, rfl⟩)
  have hf : Full list r := ⟨fun k hk => upto_mem.1 (r2.mem_iff.1 hk), r2.nodup_iff.2 (upto_nodup _), by rw [r2.length_eq, upto_len]⟩
  obtain ⟨out, o1, _⟩ := all_ok hl hb hp hp4 hf.1 (by have := hf.2.2; omega)
  rw [r1, Option.bind_some, o1]
  exact ⟨r, rfl, hf⟩

theorem code_full (hv : impl_ValidBonds list = some true) (hl : list.length ≤ 12) (hp : 1 ≤ p) (hp4 : p ≤ 4) {M : List Int} (hM : Full list M) : impl_glueCode list M (p : Int) = some 0 := by
  unfold impl_glueCode
  obtain ⟨b, b1, _, b3⟩ := is_some M list.length (by omega) (by have := hM.2.2; omega)
  rw [hv]
  simp only [Option.bind_some, if_true, within_eq, decide_eq_true_eq, b1, b3 hM.2.2 hM.1 hM.2.1]
  rw [if_pos (show (1 : Int) ≤ (p : Int) ∧ (p : Int) ≤ 4 by omega)]
  rfl

theorem end_full (hv : impl_ValidBonds list = some true) (hl : list.length ≤ 12) (hb : ∀ c ∈ list, Bn c) (hp : 1 ≤ p) (hp4 : p ≤ 4) {M : List Int} (hM : Full list M) : impl_GlueEnd list M (p : Int) = some ((Gl p list M).end_, 0) := by
  unfold impl_GlueEnd
  rw [code_full hv hl hp hp4 hM]
  obtain ⟨out, o1, _⟩ := all_ok hl hb hp hp4 hM.1 (by have := hM.2.2; omega)
  simp only [Option.bind_some, ne_eq, not_true, if_false, o1]

theorem waste_full (hv : impl_ValidBonds list = some true) (hl : list.length ≤ 12) (hb : ∀ c ∈ list, Bn c) (hp : 1 ≤ p) (hp4 : p ≤ 4) {M : List Int} (hM : Full list M) : ∃ w, impl_OpenWaste list M (p : Int) = some (w, 0) ∧ 0 ≤ w := by
  unfold impl_OpenWaste
  rw [code_full hv hl hp hp4 hM]
  obtain ⟨out, o1, o2, o3⟩ := all_ok hl hb hp hp4 hM.1 (by have := hM.2.2; omega)
  simp only [Option.bind_some, ne_eq, not_true, if_false, o1]
  have lz : (out.zip list).length = list.length := by rw [List.length_zip]; omega
  have num : ∀ (i : Nat) (h1 : i < out.length) (h2 : i < list.length), 0 ≤ out[i].start ∧ out[i].start ≤ out[i].begin ∧ out[i].begin ≤ 1000000 ∧ 0 ≤ out[i].begin - out[i].start - list[i].Spread ∧ out[i].begin - out[i].start - list[i].Spread ≤ 1000000 := fun i h1 h2 => o3 i h1 h2 (surj hM.2.1 hM.1 hM.2.2 h2)
  obtain ⟨q1, q2, q3⟩ := loop_sum (f := impl_OpenWaste_l7 list (out, (Gl p list M).end_)) (out.zip list) (fun x => x.1.begin - x.1.start - x.2.Spread) 1000000 (by omega) (by omega) (fun x hx => by
    obtain ⟨i, hi, e⟩ := List.getElem_of_mem hx
    rw [List.getElem_zip] at e
    subst e
    have := num i (by omega) (by omega)
    exact ⟨this.2.2.2.1, this.2.2.2.2⟩) (fun s i hi => by
    have h1 : i < out.length := by omega
    have h2 : i < list.length := by omega
    have nn := num i h1 h2
    have hs := (hb _ (List.getElem_mem h2)).1
    unfold impl_OpenWaste_l7
    simp only
    have w1 : w64 (out[i].begin - out[i].start) = out[i].begin - out[i].start := w64_id (by omega) (by omega)
    have w2 : w64 (out[i].begin - out[i].start - list[i].Spread) = out[i].begin - out[i].start - list[i].Spread := w64_id (by omega) (by omega)
    rw [if_pos (by omega), rd_lt h1, Option.bind_some, rd_lt h2, Option.bind_some, w1, w2, List.getElem_zip]) (fun s => by
    unfold impl_OpenWaste_l7
    simp only
    rw [if_neg (by omega)])
  rw [q1]
  exact ⟨_, rfl, q2⟩
end

/-- The number of presses. -/
theorem presses_law {l : List S_Bond} {o : List Int} {latest : Int} (hl : l.length ≤ 20) (ho : o.length ≤ 30) :
    ∃ x c, impl_PressesFor l o latest = some (x, c) ∧ (c ≠ 0 → x = 0) ∧ (c = 0 → ∃ e, impl_GlueEnd l o x = some (e, 0) ∧ e ≤ latest ∧ (x ≠ 1 → ∃ e', impl_GlueEnd l o (w64 (x - 1)) = some (e', 0) ∧ e' > latest)) := by
  obtain ⟨v, v1, v2⟩ := list_some l (by omega)
  obtain ⟨b, b1, b2, _⟩ := is_some o l.length (by omega) (by omega)
  have code : ∀ p : Nat, 1 ≤ p → p ≤ 4 → impl_glueCode l o (p : Int) = some (if v = true then (if b = true then 0 else 2) else 1) := by
    intro p hp hp4
    unfold impl_glueCode
    rw [v1]
    simp only [Option.bind_some, within_eq, decide_eq_true_eq, b1]
    rw [if_pos (show (1 : Int) ≤ (p : Int) ∧ (p : Int) ≤ 4 by omega)]
    cases v <;> cases b <;> rfl
  unfold impl_PressesFor
  have c1 := code 1 (by omega) (by omega)
  have c1' : impl_glueCode l o 1 = some (if v = true then (if b = true then 0 else 2) else 1) := c1
  rw [c1', Option.bind_some]
  cases v with
  | false =>
    simp only [Bool.false_eq_true, if_false]
    rw [if_neg (by omega)]
    exact ⟨0, 1, rfl, fun _ => rfl, fun h => by omega⟩
  | true =>
    cases b with
    | false =>
      simp only [Bool.false_eq_true, if_false, if_true]
      rw [if_neg (by omega)]
      exact ⟨0, 2, rfl, fun _ => rfl, fun h => by omega⟩
    | true =>
      simp only [if_true]
      obtain ⟨h12, hb⟩ := v2 rfl
      obtain ⟨o1, o2⟩ := b2 rfl
      have ge : ∀ p : Nat, 1 ≤ p → p ≤ 4 → impl_GlueEnd l o (p : Int) = some ((Gl p l o).end_, 0) ∧ ∃ out, impl_glueAll l o (p : Int) = some (out, (Gl p l o).end_) := by
        intro p hp hp4
        obtain ⟨out, q1, _⟩ := all_ok h12 hb hp hp4 (F := o) o2 (by omega)
        refine ⟨?_, out, q1⟩
        unfold impl_GlueEnd
        rw [code p hp hp4]
        simp only [Option.bind_some, if_true, ne_eq, not_true, if_false, q1]
      by_cases cl : latest < 0
      · rw [if_pos ⟨trivial, cl⟩]
        exact ⟨0, 2, rfl, fun _ => rfl, fun h => by omega⟩
      · rw [if_neg (fun h => cl h.2)]
        unfold impl_PressesFor_k4
        simp only [ne_eq, not_true, if_false]
        have key : ∀ (m p : Nat), p + m = 5 → 1 ≤ p → (p ≠ 1 → (Gl (p - 1) l o).end_ > latest) → ∃ r, loopO (impl_PressesFor_l7 latest l o) (p : Int) = some r ∧ (r = .inl () ∨ ∃ q : Nat, r = .inr ((q : Int), 0) ∧ 1 ≤ q ∧ q ≤ 4 ∧ (Gl q l o).end_ ≤ latest ∧ (q ≠ 1 → (Gl (q - 1) l o).end_ > latest)) := by
          intro m
          induction m with
          | zero =>
            intro p hp h1 hlt
            refine ⟨.inl (), loopO_done ?_, .inl rfl⟩
            unfold impl_PressesFor_l7
            rw [if_neg (by omega)]
          | succ m ih =>
            intro p hp h1 hlt
            obtain ⟨_, out, q1⟩ := ge p h1 (by omega)
            by_cases c : (Gl p l o).end_ ≤ latest
            · refine ⟨_, loopO_done (r := .inr ((p : Int), 0)) ?_, .inr ⟨p, rfl, h1, by omega, c, hlt⟩⟩
              unfold impl_PressesFor_l7
              rw [if_pos (by omega), q1, Option.bind_some, if_pos c]
            · have : impl_PressesFor_l7 latest l o (p : Int) = some (.inl ((p + 1 : Nat) : Int)) := by
                unfold impl_PressesFor_l7
                rw [if_pos (by omega), q1, Option.bind_some, if_neg c, w64_succ (by omega)]
              rw [loopO_next this]
              exact ih (p + 1) (by omega) (by omega) (fun _ => by rw [Nat.add_sub_cancel]; omega)
        obtain ⟨r, r1, r2⟩ := key 4 1 (by omega) (by omega) (fun h => absurd rfl h)
        have r1' : loopO (impl_PressesFor_l7 latest l o) 1 = some r := r1
        rw [r1', Option.bind_some]
        rcases r2 with rfl | ⟨q, rfl, q1, q2, q3, q4⟩
        · exact ⟨0, 3, rfl, fun _ => rfl, fun h => by omega⟩
        · refine ⟨q, 0, rfl, fun h => absurd rfl h, fun _ => ⟨_, (ge q q1 q2).1, q3, fun hne => ?_⟩⟩
          have hq : q ≠ 1 := fun e => hne (by rw [e]; rfl)
          rw [w64_pred (by omega) (by omega)]
          exact ⟨_, (ge (q - 1) (by omega) (by omega)).1, q4 hq⟩

theorem law_GlueOrder (c m : List Int) (hc : ∀ x ∈ c, 0 ≤ x ∧ x ≤ 255) (hm : ∀ x ∈ m, 0 ≤ x ∧ x ≤ 255) : laws_FnGlueOrder c m = some true := by
  unfold laws_FnGlueOrder laws_b10Long
  simp only [Option.bind_some]
  by_cases c1 : decide ((c.length : Int) > 1048576) = true
  · rw [if_pos c1]; rfl
  rw [if_neg c1]
  simp only [Option.bind_some]
  by_cases c2 : decide ((m.length : Int) > 1048576) = true
  · rw [if_pos c2]
  rw [if_neg c2]
  obtain ⟨list, pr, b, hd, hl0⟩ := drawn_ok hc
  rw [hd]
  simp only [Option.bind_some]
  obtain ⟨v, v1, v2⟩ := list_some list (by omega)
  unfold impl_BestGlueOrder
  have pc : impl_pressCode list pr = some (if v = true then (if 1 ≤ pr ∧ pr ≤ 4 then 0 else 2) else 1) := by
    unfold impl_pressCode
    rw [v1]
    simp only [Option.bind_some, within_eq, decide_eq_true_eq]
    cases v
    · rfl
    · simp only [if_true]
      split <;> rfl
  rw [pc]
  simp only [Option.bind_some, within_eq]
  cases v with
  | false =>
    unfold impl_LongestFirst impl_BestGlueOrder_k4
    rw [pc]
    simp
  | true =>
    obtain ⟨h12, hb⟩ := v2 rfl
    simp only [if_true]
    by_cases c3 : 1 ≤ pr ∧ pr ≤ 4
    · simp only [if_pos c3, if_true, Option.bind_some]
      obtain ⟨p, rfl⟩ : ∃ p : Nat, pr = (p : Int) := ⟨pr.toNat, by omega⟩
      obtain ⟨M, m1, m2⟩ := long_ok (p := p) h12 hb (by omega) (by omega) v1
      rw [m1]
      by_cases c4 : 1 ≤ b ∧ b ≤ 20000
      · simp only [c4, and_self, decide_true, Bool.not_true, Bool.false_eq_true, if_false, impl_BestGlueOrder_k4, ne_eq, not_true]
        obtain ⟨spent, s', r1, r2⟩ := go_run (p := p) h12 hb (by omega) (by omega) list.length [] b false [] 0 (by simp) (fun k hk => by cases hk) List.nodup_nil (by omega) (by omega) (fun h => by cases h) (fun h => by cases h)
        have r1' : impl_glueSearch_run ⟨list, (p : Int), b, false, [], 0⟩ [] ⟨0, ⟨0, 0, 0, 0⟩, 0⟩ = some (spent, s') := r1
        rw [r1']
        simp only [Option.bind_some]
        cases spent with
        | true => simp
        | false =>
          obtain ⟨left', best', least', rfl, g0, g1, g2, g3, g4⟩ := r2 rfl
          obtain ⟨f1, f2⟩ := g2 rfl
          have g5 := g4 M m2
          rw [List.nil_append] at g5
          obtain ⟨w, w1, w2⟩ := waste_full (p := p) v1 h12 hb (by omega) (by omega) f1
          simp only [Bool.false_eq_true, if_false, Option.bind_some, end_full v1 h12 hb (p := p) (by omega) (by omega) f1, end_full v1 h12 hb (p := p) (by omega) (by omega) m2, w1, not_true, f2]
          rw [if_neg (by
            simp only [not_true, false_or, not_or]
            omega)]
          obtain ⟨l2, o2, t2, hd2, hl2, ho2⟩ := drawn2_ok hm
          obtain ⟨x, cc, x1, x2, x3⟩ := presses_law (latest := t2) hl2 ho2
          rw [hd2]
          simp only [Option.bind_some, x1]
          by_cases c5 : cc = 0
          · obtain ⟨e, e1, e2, e3⟩ := x3 c5
            rw [if_neg (fun h => h c5), e1]
            simp only [Option.bind_some]
            rw [if_neg (by simp; exact e2)]
            by_cases c6 : x = 1
            · rw [if_pos c6]
            · rw [if_neg c6]
              obtain ⟨e', e4, e5⟩ := e3 c6
              rw [e4]
              simp
              exact e5
          · rw [if_pos c5, x2 c5]
            rfl
      · simp only [c4, decide_false, Bool.not_false, if_true, impl_BestGlueOrder_k4]
        simp
    · unfold impl_LongestFirst
      rw [pc]
      simp only [if_neg c3, if_true, impl_BestGlueOrder_k4]
      simp

end Go.Pw
