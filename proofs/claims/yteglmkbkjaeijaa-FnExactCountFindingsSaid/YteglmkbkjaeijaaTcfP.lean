/- The plain law of FnExactCountFindings. Conditions: none. -/
import Derived.Test.YteglmkbkjaeijaaTcfT
import Derived.Test.YteglmkbkjaeijaaSimPx
namespace Go.Pw
set_option linter.unusedVariables false
set_option linter.unusedSimpArgs false

theorem cf_to (l : List S_Finding) (h : l.length ≤ 1048576) : laws_toFindingS l = some l := by
  unfold laws_toFindingS mkl
  rw [if_pos (by constructor <;> omega), Option.bind_some]
  rw [copyS (f := laws_toFindingS_l3 l) l _ (by simp) (by omega) ?_ ?_]
  · rfl
  · intro i hi out ho
    unfold laws_toFindingS_l3 laws_toFinding
    simp only
    rw [if_pos (by omega), rd_lt hi, Option.bind_some, Option.bind_some, rd_lt (by omega : i < out.length), Option.bind_some]
    simp
  · intro out
    unfold laws_toFindingS_l3
    simp

theorem cf_eqI (l : List Int) (h : l.length ≤ 1048576) : laws_eqInt64S l l = some true := by
  unfold laws_eqInt64S
  rw [if_neg (by simp), eqS_refl (n := l.length) (by omega) ?_ ?_]
  · rfl
  · intro i hi
    unfold laws_eqInt64S_l4
    rw [if_pos (by omega), rd_lt hi]
    simp
  · unfold laws_eqInt64S_l4
    simp

theorem cf_eqF (l : List S_Finding) (h : l.length ≤ 1048576) : laws_eqFindingS l l = some true := by
  unfold laws_eqFindingS
  rw [if_neg (by simp), eqS_refl (n := l.length) (by omega) ?_ ?_]
  · rfl
  · intro i hi
    unfold laws_eqFindingS_l4
    rw [if_pos (by omega), rd_lt hi]
    simp [laws_eqFinding]
  · unfold laws_eqFindingS_l4
    simp

theorem cf_szOne (x : S_Finding) (left : Int) (h1 : x.Who.size ≤ 9223372036854775807) (h2 : x.What.size ≤ 9223372036854775807) (h3 : 0 ≤ left) (h4 : left ≤ 1048576) : ∃ v, laws_szFinding x left = some v ∧ v ≤ 1048576 := by
  unfold laws_szFinding
  have e1 : w64 (left - (x.Who.size : Int)) = left - (x.Who.size : Int) := w64_id (by omega) (by omega)
  rw [e1]
  by_cases c1 : left - (x.Who.size : Int) < 0
  · rw [if_pos c1]; exact ⟨_, rfl, by omega⟩
  · rw [if_neg c1]
    have e2 : w64 (left - (x.Who.size : Int) - (x.What.size : Int)) = left - (x.Who.size : Int) - (x.What.size : Int) := w64_id (by omega) (by omega)
    rw [e2]
    split
    · exact ⟨_, rfl, by omega⟩
    · exact ⟨_, rfl, by omega⟩

theorem cf_sz (l : List S_Finding) (hl : l.length ≤ 9223372036854775807) (h : ∀ x ∈ l, x.Who.size ≤ 9223372036854775807 ∧ x.What.size ≤ 9223372036854775807) :
    ∃ v, laws_szFindingS l 1048576 = some v ∧ (v < 0 ∨ l.length ≤ 1048576) := by
  unfold laws_szFindingS
  have e1 : w64 (1048576 - (l.length : Int)) = 1048576 - (l.length : Int) := w64_id (by omega) (by omega)
  rw [e1]
  by_cases c1 : 1048576 - (l.length : Int) < 0
  · rw [if_pos c1]; exact ⟨_, rfl, .inl (by omega)⟩
  rw [if_neg c1]
  have key : ∀ (m i : Nat) (left : Int), i + m = l.length → 0 ≤ left → left ≤ 1048576 → ∃ r, loopO (laws_szFindingS_l5 l) (left, (i : Int)) = some r := by
    intro m
    induction m with
    | zero =>
      intro i left hi h0 h1
      refine ⟨_, loopO_done (r := .inl left) ?_⟩
      unfold laws_szFindingS_l5
      simp only
      rw [if_neg (by omega)]
    | succ m ih =>
      intro i left hi h0 h1
      have hi' : i < l.length := by omega
      obtain ⟨hx1, hx2⟩ := h _ (List.getElem_mem hi')
      obtain ⟨v, hv, hv1⟩ := cf_szOne l[i] left hx1 hx2 h0 h1
      by_cases cv : v < 0
      · refine ⟨_, loopO_done (r := .inr (-1)) ?_⟩
        unfold laws_szFindingS_l5
        simp only
        rw [if_pos (by omega), rd_lt hi', Option.bind_some, hv, Option.bind_some, if_pos cv]
      · obtain ⟨r, hr⟩ := ih (i + 1) v (by omega) (by omega) hv1
        refine ⟨r, ?_⟩
        rw [loopO_next (s' := (v, ((i + 1 : Nat) : Int))) ?_]
        · exact hr
        · unfold laws_szFindingS_l5
          simp only
          rw [if_pos (by omega), rd_lt hi', Option.bind_some, hv, Option.bind_some, if_neg cv, w64_succ (by omega)]
  obtain ⟨r, hr⟩ := key l.length 0 (1048576 - (l.length : Int)) (by omega) (by omega) (by omega)
  have hr' : loopO (laws_szFindingS_l5 l) (1048576 - (l.length : Int), 0) = some r := hr
  rw [hr']
  cases r with
  | inl v => exact ⟨v, rfl, .inr (by omega)⟩
  | inr v => exact ⟨v, rfl, .inr (by omega)⟩

theorem cf_markTextL : ∀ (n : Nat) (k : Int) (out : ByteArray), k.toNat ≤ n → out.size + k.toNat ≤ 4611686018427387904 → ∃ r, loopO laws_markText_l4 (k, out) = some r ∧ r.size ≤ out.size + k.toNat := by
  intro n
  induction n with
  | zero =>
    intro k out h1 h2
    refine ⟨out, loopO_done ?_, by omega⟩
    unfold laws_markText_l4
    simp only
    rw [if_neg (by omega)]
  | succ n ih =>
    intro k out h1 h2
    by_cases c : k > 0
    · have e1 : w64 (k.tdiv 10) = k.tdiv 10 := by
        rw [Int.tdiv_eq_ediv_of_nonneg (by omega)]
        exact w64_id (by omega) (by omega)
      have e2 : k.tdiv 10 = k / 10 := Int.tdiv_eq_ediv_of_nonneg (by omega)
      have hs : ∀ x : Int, (strOf [x]).size = 1 := fun x => rfl
      obtain ⟨r, hr, hr2⟩ := ih (k / 10) (strOf [IntKind.wrap .u8 (w64 (48 + k.tmod 10))] ++ out) (by omega) (by rw [ByteArray.size_append, hs]; omega)
      refine ⟨r, ?_, ?_⟩
      · rw [loopO_next (s' := (k / 10, strOf [IntKind.wrap .u8 (w64 (48 + k.tmod 10))] ++ out)) ?_]
        · exact hr
        · unfold laws_markText_l4 md dv
          simp only
          rw [if_pos c, if_neg (by decide), Option.bind_some, cat_some (by rw [hs]; omega), Option.bind_some, if_neg (by decide), Option.bind_some]
          have e3 : IntKind.wrap .i64 (k.tdiv 10) = k / 10 := by rw [← e2]; exact e1
          rw [e3]
      · rw [ByteArray.size_append, hs] at hr2
        omega
    · refine ⟨out, loopO_done ?_, by omega⟩
      unfold laws_markText_l4
      simp only
      rw [if_neg c]

theorem cf_markText (k : Int) (h : k ≤ 1073741824) : ∃ r, laws_markText k = some r := by
  unfold laws_markText
  split
  · exact ⟨_, rfl⟩
  · obtain ⟨r, hr, hr2⟩ := cf_markTextL k.toNat k ⟨#[]⟩ (Nat.le_refl _) (by show 0 + _ ≤ _; omega)
    have h0 : (⟨#[]⟩ : ByteArray).size = 0 := rfl
    have h1 : (⟨#[109]⟩ : ByteArray).size = 1 := rfl
    rw [hr, Option.bind_some, cat_some (by rw [h1]; omega), Option.bind_some]
    exact ⟨_, rfl⟩

theorem cf_markF (l : List S_Finding) (h : l.length ≤ 1048576) : ∃ r, laws_markFindingS l 1 = some r ∧ 0 ≤ r.1 := by
  unfold laws_markFindingS
  have key : ∀ (m i : Nat) (out : List S_Finding), i + m = l.length → out.length = l.length → ∃ out', loopO laws_markFindingS_l2 (1 + 3 * (i : Int), (i : Int), out) = some (1 + 3 * (l.length : Int), out') := by
    intro m
    induction m with
    | zero =>
      intro i out hi ho
      obtain rfl : i = l.length := by omega
      refine ⟨out, loopO_done ?_⟩
      unfold laws_markFindingS_l2
      simp only
      rw [if_neg (by omega)]
    | succ m ih =>
      intro i out hi ho
      have hi' : i < out.length := by omega
      have k1 : w64 (1 + 3 * (i : Int) + 1) = 1 + 3 * (i : Int) + 1 := w64_id (by omega) (by omega)
      have k2 : w64 (1 + 3 * (i : Int) + 1 + 1) = 1 + 3 * (i : Int) + 1 + 1 := w64_id (by omega) (by omega)
      have k3 : w64 (1 + 3 * (i : Int) + 1 + 1 + 1) = 1 + 3 * ((i + 1 : Nat) : Int) := by rw [w64_id (by omega) (by omega)]; omega
      obtain ⟨r1, hr1⟩ := cf_markText (1 + 3 * (i : Int) + 1) (by omega)
      obtain ⟨r2, hr2⟩ := cf_markText (1 + 3 * (i : Int) + 1 + 1) (by omega)
      have hget : ∃ o2, laws_markFindingS_l2 (1 + 3 * (i : Int), (i : Int), out) = some (.inl (1 + 3 * ((i + 1 : Nat) : Int), ((i + 1 : Nat) : Int), o2)) ∧ o2.length = l.length := by
        unfold laws_markFindingS_l2
        simp only
        rw [if_pos (by omega), rd_lt hi', Option.bind_some, k1, hr1, Option.bind_some, rd_lt (by simpa using hi'), Option.bind_some, k2, hr2, Option.bind_some, rd_lt (by simpa using hi'), Option.bind_some, k3, w64_succ (by omega)]
        exact ⟨_, rfl, by simpa using ho⟩
      obtain ⟨o2, q1, q2⟩ := hget
      obtain ⟨out', hout⟩ := ih (i + 1) o2 (by omega) q2
      exact ⟨out', by rw [loopO_next q1]; exact hout⟩
  obtain ⟨out', hout⟩ := key l.length 0 l (by omega) rfl
  have hout' : loopO laws_markFindingS_l2 (1, 0, l) = some (1 + 3 * (l.length : Int), out') := hout
  rw [hout', Option.bind_some]
  exact ⟨_, rfl, by show (0 : Int) ≤ 1 + 3 * (l.length : Int); omega⟩

theorem cf_step (l : List S_Finding) (i : Nat) (out : List Int) (hi : i < l.length) (hn : l.length ≤ 1048576) (ho : out.length = 6) :
    ∃ out' : List Int, out'.length = 6 ∧ spec_CountFindings_l3 l ((i : Int), out) = some (.inl (((i + 1 : Nat) : Int), out')) ∧ impl_CountFindings_l3 l ((i : Int), out) = some (.inl (((i + 1 : Nat) : Int), out')) := by
  unfold spec_CountFindings_l3 impl_CountFindings_l3 spec_CountFindings_k4 impl_CountFindings_k8 spec_l31Kind spec_l00In impl_within
  simp only [Option.bind_some]
  rw [if_pos (by omega), if_pos (by omega), rd_lt hi, w64_succ (by omega)]
  simp only [Option.bind_some]
  by_cases c : (decide (l[i].Kind ≥ 1) && decide (l[i].Kind ≤ 5)) = true
  · rw [if_pos c, if_pos c]
    simp only [Bool.and_eq_true, decide_eq_true_eq] at c
    obtain ⟨j, hj⟩ : ∃ j : Nat, l[i].Kind = (j : Int) := ⟨l[i].Kind.toNat, by omega⟩
    have hj1 : 1 ≤ j := by omega
    have hj5 : j ≤ 5 := by omega
    rw [hj]
    have z : ∀ L : List Int, rd L 0 = L[0]? := fun L => rd_nat L 0
    simp only [z, Int.toNat_natCast, Int.toNat_zero, rd_nat]
    have g1 : out[j]? = some (out[j]'(by omega)) := List.getElem?_eq_getElem _
    have g0 : out[0]? = some (out[0]'(by omega)) := List.getElem?_eq_getElem _
    have s1 : ∀ v, (out.set j v)[0]? = some (out[0]'(by omega)) := fun v => by rw [List.getElem?_set_ne (by omega), g0]
    have s2 : ∀ v, (out.set 0 v)[j]? = some (out[j]'(by omega)) := fun v => by rw [List.getElem?_set_ne (by omega), g1]
    simp only [g1, g0, s1, s2, Option.bind_some]
    exact ⟨_, by simpa using ho, rfl, by rw [List.set_comm _ _ (by omega)]⟩
  · rw [if_neg c, if_neg c]
    exact ⟨out, ho, rfl, rfl⟩

theorem cf_same (l : List S_Finding) (hn : l.length ≤ 1048576) : ∃ r : List Int, r.length = 6 ∧ spec_CountFindings l = some r ∧ impl_CountFindings l = some r := by
  have key : ∀ (m i : Nat) (out : List Int), i + m = l.length → out.length = 6 → ∃ r : List Int, r.length = 6 ∧ loopO (spec_CountFindings_l3 l) ((i : Int), out) = some r ∧ loopO (impl_CountFindings_l3 l) ((i : Int), out) = some r := by
    intro m
    induction m with
    | zero =>
      intro i out hi ho
      refine ⟨out, ho, loopO_done ?_, loopO_done ?_⟩
      · unfold spec_CountFindings_l3
        simp only
        rw [if_neg (by omega)]
      · unfold impl_CountFindings_l3
        simp only
        rw [if_neg (by omega)]
    | succ m ih =>
      intro i out hi ho
      obtain ⟨out', h1, h2, h3⟩ := cf_step l i out (by omega) hn ho
      obtain ⟨r, q1, q2, q3⟩ := ih (i + 1) out' (by omega) h1
      exact ⟨r, q1, by rw [loopO_next h2]; exact q2, by rw [loopO_next h3]; exact q3⟩
  obtain ⟨r, q1, q2, q3⟩ := key l.length 0 (List.replicate 6 0) (by omega) (by simp)
  refine ⟨r, q1, ?_, ?_⟩
  · unfold spec_CountFindings mkl
    rw [if_pos (by decide), Option.bind_some]
    have : loopO (spec_CountFindings_l3 l) (0, List.replicate (Int.toNat 6) 0) = some r := q2
    rw [this]; rfl
  · unfold impl_CountFindings mkl
    rw [if_pos (by decide), Option.bind_some]
    have : loopO (impl_CountFindings_l3 l) (0, List.replicate (Int.toNat 6) 0) = some r := q3
    rw [this]; rfl

theorem cf_markI (l : List Int) (h : l.length ≤ 1048576) : laws_markInt64S l 1 = some (1 + (l.length : Int), iota 1 l.length) := by
  unfold laws_markInt64S
  rw [markInt (f := laws_markInt64S_l2) l (k := 1) (by omega) (by omega) ?_ ?_]
  · rfl
  · intro k i out hi
    unfold laws_markInt64S_l2
    simp only
    rw [if_pos (by omega), rd_lt hi]
    simp
  · intro k out
    unfold laws_markInt64S_l2
    simp

theorem cf_held (n : Nat) (h : n ≤ 1048576) : laws_heldInt64S (iota 1 n) 1 = some (1 + (n : Int)) := by
  unfold laws_heldInt64S
  rw [heldInt (f := laws_heldInt64S_l2 (iota 1 n)) (n := n) (k := 1) (by omega) (by omega) ?_ ?_]
  · rfl
  · intro i hi
    unfold laws_heldInt64S_l2
    simp only
    rw [if_pos (by rw [iota_length]; omega), rd_nat, iota_get _ _ _ hi]
    simp
  · unfold laws_heldInt64S_l2
    simp [iota_length]

theorem law_CountFindings (l : List S_Finding) (hl : l.length ≤ 9223372036854775807) (h : ∀ x ∈ l, x.Who.size ≤ 9223372036854775807 ∧ x.What.size ≤ 9223372036854775807) : laws_FnExactCountFindings l = some true := by
  unfold laws_FnExactCountFindings
  obtain ⟨v, hv, hc⟩ := cf_sz l hl h
  rw [hv, Option.bind_some]
  by_cases cv : v < 0
  · rw [if_pos cv]
  · rw [if_neg cv]
    have hn : l.length ≤ 1048576 := by omega
    obtain ⟨r, r6, hs, hi⟩ := cf_same l hn
    obtain ⟨m, hm, hm0⟩ := cf_markF l hn
    have e1 := cf_eqI r (by omega)
    have e2 := cf_markI r (by omega)
    have e3 := cf_held r.length (by omega)
    simp only [cf_to l hn, hs, hi, e1, cf_eqF l hn, hm, e2, e3, Option.bind_some, if_true]
    rw [if_neg (by omega)]
    simp only [Option.bind_some, Bool.not_true]
    rw [if_neg (by decide), if_neg (by omega), if_neg (by simp), if_neg (by omega), if_neg (by simp)]

end Go.Pw
