/- The plain law of FnPolish. Conditions: none. -/
import Derived.Test.YtigjhjlkdamncaaTpoT
import Derived.Test.YtigjhjlkdamncaaSimPy
namespace Go.Pw
set_option linter.unusedVariables false
set_option linter.unusedSimpArgs false

theorem within_eq (n a b : Int) : impl_within n a b = some (decide (a ≤ n ∧ n ≤ b)) := by
  unfold impl_within
  rw [Bool.decide_and]

/-! The source of choices. -/
def Sr (c : List Int) (n : Int) (s : S_l00Src) : Prop := s.code = c ∧ 0 ≤ s.at_ ∧ s.at_ ≤ n

theorem Sr.mono {c : List Int} {n m : Int} {s : S_l00Src} (h : Sr c n s) (hm : n ≤ m) : Sr c m s := ⟨h.1, h.2.1, by have := h.2.2; omega⟩

theorem and255 (x : Int) : 0 ≤ bit_and .u64 x 255 ∧ bit_and .u64 x 255 ≤ 255 := by
  unfold bit_and
  have h1 : (BitVec.ofInt IntKind.u64.bits x &&& BitVec.ofInt IntKind.u64.bits 255).toNat ≤ 255 := by
    rw [BitVec.toNat_and]
    exact Nat.le_trans Nat.and_le_right (by decide)
  generalize (BitVec.ofInt IntKind.u64.bits x &&& BitVec.ofInt IntKind.u64.bits 255).toNat = k at h1
  have e : IntKind.wrap .u64 (k : Int) = (k : Int) := by
    simp only [IntKind.wrap, IntKind.signed, IntKind.bits]
    simp
    omega
  rw [e]
  omega

theorem next_ok {c : List Int} (hc : ∀ x ∈ c, 0 ≤ x ∧ x ≤ 255) {n : Int} (hn : n ≤ 1000000000) {s : S_l00Src} (h : Sr c n s) : ∃ v s', spec_l00Src_next s = some (v, s') ∧ 0 ≤ v ∧ v ≤ 255 ∧ Sr c (n + 1) s' := by
  obtain ⟨h1, h2, h3⟩ := h
  have e1 : w64 (s.at_ + 1) = s.at_ + 1 := w64_id (by omega) (by omega)
  have k4 : ∀ b, 0 ≤ b → b ≤ 255 → ∃ v s', spec_l00Src_next_k4 s b = some (v, s') ∧ 0 ≤ v ∧ v ≤ 255 ∧ Sr c (n + 1) s' := by
    intro b b1 b2
    unfold spec_l00Src_next_k4 shr
    rw [e1]
    by_cases q : s.at_ + 1 ≤ (s.code.length : Int)
    · rw [if_pos q]
      exact ⟨_, _, rfl, b1, b2, h1, by show 0 ≤ s.at_ + 1; omega, by show s.at_ + 1 ≤ n + 1; omega⟩
    · rw [if_neg q, if_neg (by decide)]
      simp only [Option.bind_some]
      have a := and255 (Int.fdiv (IntKind.wrap .u64 ((IntKind.wrap .u64 ((IntKind.wrap .u64 (s.seed * 6364136223846793005)) + (IntKind.wrap .u64 b))) + 1442695040888963407)) (2 ^ min (Int.toNat 40) IntKind.u64.bits))
      refine ⟨_, _, rfl, ?_, ?_, h1, by show 0 ≤ s.at_ + 1; omega, by show s.at_ + 1 ≤ n + 1; omega⟩
      · rw [w64_id (by omega) (by omega)]; exact a.1
      · rw [w64_id (by omega) (by omega)]; exact a.2
  unfold spec_l00Src_next
  by_cases q : s.at_ < (s.code.length : Int)
  · rw [if_pos q]
    obtain ⟨i, hi⟩ : ∃ i : Nat, s.at_ = (i : Int) := ⟨s.at_.toNat, by omega⟩
    have hlt : i < s.code.length := by omega
    rw [hi, rd_lt hlt, Option.bind_some]
    have hb := hc s.code[i] (by rw [← h1]; exact List.getElem_mem hlt)
    rw [w64_id (by omega) (by omega)]
    exact k4 _ hb.1 hb.2
  · rw [if_neg q]
    exact k4 0 (by omega) (by omega)

theorem pick_ok {c : List Int} (hc : ∀ x ∈ c, 0 ≤ x ∧ x ≤ 255) {n : Int} (hn : n ≤ 999999999) {s : S_l00Src} (h : Sr c n s) (m : Int) : ∃ v s', spec_l00Src_pick s m = some (v, s') ∧ 0 ≤ v ∧ (1 ≤ m → v < m) ∧ Sr c (n + 2) s' := by
  unfold spec_l00Src_pick
  by_cases q : m ≤ 1
  · rw [if_pos q]
    exact ⟨_, _, rfl, by omega, by omega, h.mono (by omega)⟩
  · rw [if_neg q]
    obtain ⟨v, s1, e1, v1, v2, h1⟩ := next_ok hc (by omega) h
    have k6 : ∀ (x : Int) (t : S_l00Src), 0 ≤ x → Sr c (n + 2) t → ∃ v s', spec_l00Src_pick_k6 m x t.code t.at_ t.seed = some (v, s') ∧ 0 ≤ v ∧ (1 ≤ m → v < m) ∧ Sr c (n + 2) s' := by
      intro x t hx ht
      unfold spec_l00Src_pick_k6 md
      rw [if_neg (by omega), Option.bind_some]
      have e : x.tmod m = x % m := Int.tmod_eq_emod_of_nonneg hx
      refine ⟨_, _, rfl, ?_, fun _ => ?_, ht⟩
      · rw [e]; exact Int.emod_nonneg _ (by omega)
      · rw [e]; exact Int.emod_lt_of_pos _ (by omega)
    simp only [e1, Option.bind_some]
    by_cases q2 : m > 200
    · rw [if_pos q2]
      obtain ⟨w, s2, e2, w1, w2, h2⟩ := next_ok hc (n := n + 1) (by omega) h1
      simp only [e2, Option.bind_some]
      have a1 : w64 (v * 256) = v * 256 := w64_id (by omega) (by omega)
      have a2 : w64 (v * 256 + w) = v * 256 + w := w64_id (by omega) (by omega)
      rw [a1, a2]
      exact k6 _ s2 (by omega) (h2.mono (by omega))
    · rw [if_neg q2]
      exact k6 v s1 v1 (h1.mono (by omega))

theorem one_ok {c : List Int} (hc : ∀ x ∈ c, 0 ≤ x ∧ x ≤ 255) {n : Int} (hn : n ≤ 999999999) {s : S_l00Src} (h : Sr c n s) (m : Int) : ∃ v s', spec_l00Src_one s m = some (v, s') ∧ Sr c (n + 2) s' := by
  obtain ⟨v, s', e, _, _, h'⟩ := pick_ok hc hn h m
  unfold spec_l00Src_one
  rw [e]
  exact ⟨_, _, rfl, h'⟩

theorem among_ok {c : List Int} (hc : ∀ x ∈ c, 0 ≤ x ∧ x ≤ 255) {n : Int} (hn : n ≤ 999999999) {s : S_l00Src} (h : Sr c n s) (l : List Int) (hl : 1 ≤ l.length) : ∃ v s', spec_l00Src_among s l = some (v, s') ∧ v ∈ l ∧ Sr c (n + 2) s' := by
  obtain ⟨v, s', e, v1, v2, h'⟩ := pick_ok hc hn h (l.length : Int)
  have v3 := v2 (by omega)
  obtain ⟨i, hi⟩ : ∃ i : Nat, v = (i : Int) := ⟨v.toNat, by omega⟩
  subst hi
  have hlt : i < l.length := by omega
  unfold spec_l00Src_among
  rw [e]
  simp only [Option.bind_some, rd_lt hlt]
  exact ⟨_, _, rfl, List.getElem_mem hlt, h'⟩

theorem text_ok {c : List Int} (hc : ∀ x ∈ c, 0 ≤ x ∧ x ≤ 255) {n : Int} (hn : n ≤ 999999999) {s : S_l00Src} (h : Sr c n s) (l : List ByteArray) (hl : 1 ≤ l.length) : ∃ v s', spec_l00Src_text s l = some (v, s') ∧ Sr c (n + 2) s' := by
  obtain ⟨v, s', e, v1, v2, h'⟩ := pick_ok hc hn h (l.length : Int)
  have v3 := v2 (by omega)
  obtain ⟨i, hi⟩ : ∃ i : Nat, v = (i : Int) := ⟨v.toNat, by omega⟩
  subst hi
  have hlt : i < l.length := by omega
  unfold spec_l00Src_text
  rw [e]
  simp only [Option.bind_some, rd_lt hlt]
  exact ⟨_, _, rfl, h'⟩

theorem from_ok (c : List Int) : ∃ s, spec_l00From c = some s ∧ Sr c 0 s := ⟨_, rfl, rfl, by show (0 : Int) ≤ 0; omega, by show (0 : Int) ≤ 0; omega⟩

/-! What is drawn. -/
theorem coat_ok {c : List Int} (hc : ∀ x ∈ c, 0 ≤ x ∧ x ≤ 255) {n : Int} (hn : n ≤ 999000000) {s : S_l00Src} (h : Sr c n s) : ∃ v s', spec_l22DrawOne s = some (v, s') ∧ Sr c (n + 12) s' := by
  unfold spec_l22DrawOne
  obtain ⟨v1, s1, e1, h1⟩ := text_ok hc (by omega) h ([(⟨#[111, 105, 108]⟩ : ByteArray), (⟨#[119, 97, 120]⟩ : ByteArray), (⟨#[115, 104, 101, 108, 108, 97, 99]⟩ : ByteArray)] : List ByteArray) (by decide)
  simp only [e1, Option.bind_some]
  obtain ⟨v2, s2, e2, _, _, h2⟩ := pick_ok hc (by omega) h1 9
  simp only [e2, Option.bind_some]
  obtain ⟨v3, s3, e3, _, h3⟩ := among_ok hc (by omega) h2 [0, 4, 16, 48, 80, 20] (by decide)
  simp only [e3, Option.bind_some]
  obtain ⟨v4, s4, e4, _, h4⟩ := among_ok hc (by omega) h3 [0, 8, 40, 96, 60] (by decide)
  simp only [e4, Option.bind_some]
  obtain ⟨v5, s5, e5, _, _, h5⟩ := pick_ok hc (by omega) h4 50
  simp only [e5, Option.bind_some]
  have k : ∀ (t : S_l00Src) a b d e, Sr c (n + 12) t → ∃ v s', spec_l22DrawOne_k13 t.code t.at_ t.seed a b d e = some (v, s') ∧ Sr c (n + 12) s' := fun t a b d e ht => ⟨_, _, rfl, ht⟩
  by_cases c0 : v5 = 0
  · rw [if_pos c0]
    obtain ⟨v6, s6, e6, _, h6⟩ := among_ok hc (by omega) h5 [0, 32, 33] (by decide)
    simp only [e6, Option.bind_some]
    exact k _ _ _ _ _ (h6.mono (by omega))
  rw [if_neg c0]
  by_cases c1 : v5 = 1
  · rw [if_pos c1]
    obtain ⟨v6, s6, e6, _, h6⟩ := among_ok hc (by omega) h5 [(-1), 400, 401] (by decide)
    simp only [e6, Option.bind_some]
    exact k _ _ _ _ _ (h6.mono (by omega))
  rw [if_neg c1]
  by_cases c2 : v5 = 2
  · rw [if_pos c2]
    obtain ⟨v6, s6, e6, _, h6⟩ := among_ok hc (by omega) h5 [(w64 (v3 - 1)), 800, 801] (by simp)
    simp only [e6, Option.bind_some]
    exact k _ _ _ _ _ (h6.mono (by omega))
  rw [if_neg c2]
  by_cases c3 : v5 = 3
  · rw [if_pos c3]
    obtain ⟨v6, s6, e6, h6⟩ := text_ok hc (by omega) h5 ([(⟨#[]⟩ : ByteArray), (⟨#[87]⟩ : ByteArray)] : List ByteArray) (by decide)
    simp only [e6, Option.bind_some]
    exact k _ _ _ _ _ (h6.mono (by omega))
  rw [if_neg c3]
  exact k _ _ _ _ _ (h5.mono (by omega))

theorem apc {l : List S_Coat} {x : S_Coat} (h : l.length ≤ 1000) : apd 40 l [x] = some (l ++ [x]) := by
  apply apdn
  simp
  omega

theorem coats_ok {c : List Int} (hc : ∀ x ∈ c, 0 ≤ x ∧ x ≤ 255) {n : Int} (hn : n ≤ 990000000) {s : S_l00Src} (h : Sr c n s) : ∃ v s', spec_l22DrawList s = some (v, s') ∧ v.length ≤ 9 ∧ Sr c (n + 100) s' := by
  unfold spec_l22DrawList
  obtain ⟨v1, s1, e1, a1, a2, h1⟩ := pick_ok hc (by omega) h 5
  simp only [e1, Option.bind_some]
  have key : ∀ (m : Nat) (k : Int) (t : S_l00Src) (out : List S_Coat) (n0 : Int), k.toNat ≤ m → k ≤ 5 → out.length + m ≤ 9 → n0 + 12 * (m : Int) ≤ n + 70 → n0 ≤ n + 70 → Sr c n0 t →
      ∃ r, loopO spec_l22DrawList_l3 (k, t.code, t.at_, t.seed, out) = some r ∧ r.2.2.2.length ≤ 9 ∧ Sr c (n + 70) ⟨r.1, r.2.1, r.2.2.1⟩ := by
    intro m
    induction m with
    | zero =>
      intro k t out n0 hk _ ho hn0 hn1 ht
      refine ⟨(t.code, t.at_, t.seed, out), loopO_done ?_, by show out.length ≤ 9; omega, ht.mono hn1⟩
      unfold spec_l22DrawList_l3
      simp only
      rw [if_neg (by omega)]
    | succ m ih =>
      intro k t out n0 hk hk5 ho hn0 hn1 ht
      by_cases c0 : k > 0
      · obtain ⟨v, t', e, ht'⟩ := coat_ok hc (by omega) ht
        have S1 : spec_l22DrawList_l3 (k, t.code, t.at_, t.seed, out) = some (.inl (k - 1, t'.code, t'.at_, t'.seed, out ++ [v])) := by
          unfold spec_l22DrawList_l3
          simp only
          have e' : spec_l22DrawOne ⟨t.code, t.at_, t.seed⟩ = some (v, t') := e
          rw [if_pos c0]
          simp only [e', Option.bind_some]
          rw [apc (by omega), Option.bind_some, w64_id (by omega) (by omega)]
        rw [loopO_next S1]
        exact ih (k - 1) t' (out ++ [v]) (n0 + 12) (by omega) (by omega) (by simp; omega) (by omega) (by omega) ht'
      · refine ⟨(t.code, t.at_, t.seed, out), loopO_done ?_, by show out.length ≤ 9; omega, ht.mono hn1⟩
        unfold spec_l22DrawList_l3
        simp only
        rw [if_neg c0]
  have a3 := a2 (by omega)
  obtain ⟨r, r1, r2, r3⟩ := key 5 v1 s1 [] (n + 2) (by omega) (by omega) (by simp) (by omega) (by omega) h1
  simp only [r1, Option.bind_some]
  obtain ⟨v4, s4, e4, h4⟩ := one_ok hc (by omega) r3 20
  simp only [e4, Option.bind_some]
  by_cases c1 : v4 = true
  · rw [if_pos c1]
    obtain ⟨v5, s5, e5, a5, h5⟩ := among_ok hc (by omega) h4 [8, 9] (by decide)
    simp only [e5, Option.bind_some]
    have a6 : v5 = 8 ∨ v5 = 9 := by simpa using a5
    obtain ⟨m, hm, hm9⟩ : ∃ m : Nat, v5 = (m : Int) ∧ m ≤ 9 := ⟨v5.toNat, by omega, by omega⟩
    have lp := loopO_for (fun i : Nat => ((i : Int), List.replicate i (⟨(⟨#[111, 105, 108]⟩ : ByteArray), 1, 2, 99⟩ : S_Coat))) m (f := spec_l22DrawList_l10 (v5, s5)) (r := List.replicate m (⟨(⟨#[111, 105, 108]⟩ : ByteArray), 1, 2, 99⟩ : S_Coat)) (fun i hi => by
      unfold spec_l22DrawList_l10
      simp only
      rw [if_pos (by omega), apc (by rw [List.length_replicate]; omega), Option.bind_some, w64_succ (by omega), ← List.replicate_succ']) (by
      unfold spec_l22DrawList_l10
      simp only
      rw [if_neg (by omega)])
    have lp' : loopO (spec_l22DrawList_l10 (v5, s5)) (0, []) = some (List.replicate m (⟨(⟨#[111, 105, 108]⟩ : ByteArray), 1, 2, 99⟩ : S_Coat)) := lp
    simp only [lp', Option.bind_some]
    exact ⟨_, _, rfl, by rw [List.length_replicate]; exact hm9, h5.mono (by omega)⟩
  · rw [if_neg c1]
    exact ⟨_, _, rfl, r2, h4.mono (by omega)⟩

theorem time_ok {c : List Int} (hc : ∀ x ∈ c, 0 ≤ x ∧ x ≤ 255) {n : Int} (hn : n ≤ 990000000) {s : S_l00Src} (h : Sr c n s) : ∃ v s', spec_l22DrawTime s = some (v, s') ∧ Sr c (n + 4) s' := by
  unfold spec_l22DrawTime
  obtain ⟨v1, s1, e1, h1⟩ := one_ok hc (by omega) h 9
  simp only [e1, Option.bind_some]
  by_cases c1 : v1 = true
  · rw [if_pos c1]
    obtain ⟨v2, s2, e2, _, h2⟩ := among_ok hc (by omega) h1 [(-1), 0, 100000, 100001] (by decide)
    simp only [e2, Option.bind_some]
    exact ⟨_, _, rfl, h2.mono (by omega)⟩
  · rw [if_neg c1]
    obtain ⟨v2, s2, e2, _, _, h2⟩ := pick_ok hc (by omega) h1 300
    simp only [e2, Option.bind_some]
    exact ⟨_, _, rfl, h2.mono (by omega)⟩

theorem hours_ok {c : List Int} (hc : ∀ x ∈ c, 0 ≤ x ∧ x ≤ 255) {n : Int} (hn : n ≤ 990000000) {s : S_l00Src} (h : Sr c n s) : ∃ v w s', spec_l22DrawHours s = some (v, w, s') ∧ Sr c (n + 6) s' := by
  unfold spec_l22DrawHours
  obtain ⟨v1, s1, e1, h1⟩ := one_ok hc (by omega) h 9
  simp only [e1, Option.bind_some]
  by_cases c1 : v1 = true
  · rw [if_pos c1]
    obtain ⟨v2, s2, e2, _, h2⟩ := among_ok hc (by omega) h1 [(-1), 0, 40, 95, 96] (by decide)
    simp only [e2, Option.bind_some]
    obtain ⟨v3, s3, e3, _, h3⟩ := among_ok hc (by omega) h2 [40, 96, 97, 0] (by decide)
    simp only [e3, Option.bind_some]
    exact ⟨_, _, _, rfl, h3.mono (by omega)⟩
  · rw [if_neg c1]
    obtain ⟨v2, s2, e2, _, _, h2⟩ := pick_ok hc (by omega) h1 8
    simp only [e2, Option.bind_some]
    obtain ⟨v3, s3, e3, _, _, h3⟩ := pick_ok hc (by omega) h2 36
    simp only [e3, Option.bind_some]
    exact ⟨_, _, _, rfl, h3.mono (by omega)⟩

theorem budget_ok {c : List Int} (hc : ∀ x ∈ c, 0 ≤ x ∧ x ≤ 255) {n : Int} (hn : n ≤ 990000000) {s : S_l00Src} (h : Sr c n s) : ∃ v s', spec_l08DrawBudget s = some (v, s') ∧ Sr c (n + 4) s' := by
  unfold spec_l08DrawBudget
  obtain ⟨v1, s1, e1, h1⟩ := one_ok hc (by omega) h 6
  simp only [e1, Option.bind_some]
  by_cases c1 : v1 = true
  · rw [if_pos c1]
    obtain ⟨v2, s2, e2, _, h2⟩ := among_ok hc (by omega) h1 [0, 1, 5, 20000, 20001] (by decide)
    simp only [e2, Option.bind_some]
    exact ⟨_, _, rfl, h2.mono (by omega)⟩
  · rw [if_neg c1]
    obtain ⟨v2, s2, e2, _, _, h2⟩ := pick_ok hc (by omega) h1 400
    simp only [e2, Option.bind_some]
    exact ⟨_, _, rfl, h2.mono (by omega)⟩

theorem drawn_ok {c : List Int} (hc : ∀ x ∈ c, 0 ≤ x ∧ x ≤ 255) : ∃ l start o e b, spec_DrawFirstCoatPlan c = some (l, start, o, e, b) ∧ l.length ≤ 9 := by
  unfold spec_DrawFirstCoatPlan spec_l22Draw
  obtain ⟨s0, e0, h0⟩ := from_ok c
  simp only [e0, Option.bind_some]
  obtain ⟨v1, s1, e1, a1, h1⟩ := coats_ok hc (by omega) h0
  simp only [e1, Option.bind_some]
  obtain ⟨v2, s2, e2, h2⟩ := time_ok hc (by omega) h1
  simp only [e2, Option.bind_some]
  obtain ⟨v3, w3, s3, e3, h3⟩ := hours_ok hc (by omega) h2
  simp only [e3, Option.bind_some]
  obtain ⟨v4, s4, e4, h4⟩ := budget_ok hc (by omega) h3
  simp only [e4, Option.bind_some]
  exact ⟨_, _, _, _, _, rfl, a1⟩

theorem drawn2_ok {c : List Int} (hc : ∀ x ∈ c, 0 ≤ x ∧ x ≤ 255) : ∃ t o e w, spec_DrawNextOpen c = some (t, o, e, w) := by
  unfold spec_DrawNextOpen
  obtain ⟨s0, e0, h0⟩ := from_ok c
  simp only [e0, Option.bind_some]
  obtain ⟨v2, s2, e2, h2⟩ := time_ok hc (by omega) h0
  simp only [e2, Option.bind_some]
  obtain ⟨v3, w3, s3, e3, h3⟩ := hours_ok hc (by omega) h2
  simp only [e3, Option.bind_some]
  obtain ⟨v4, s4, e4, _, h4⟩ := among_ok hc (by omega) h3 [1, 4, 9, 32, 33, 0] (by decide)
  simp only [e4, Option.bind_some]
  exact ⟨_, _, _, _, rfl⟩

/-! Names and coats. -/
theorem name_some (s : ByteArray) : ∃ v, impl_IsName s = some v := by
  unfold impl_IsName
  by_cases c0 : (s.size : Int) < 1
  · rw [if_pos c0]; exact ⟨_, rfl⟩
  · rw [if_neg c0]
    by_cases c1 : (s.size : Int) > 10
    · rw [if_pos c1]; exact ⟨_, rfl⟩
    · rw [if_neg c1]
      obtain ⟨b, hb, hb1, hb2⟩ := bt_some (s := s) (i := 0) (by omega)
      have hb' : bt s 0 = some b := hb
      rw [hb']
      have hloop : ∃ o, loopO (impl_IsName_l4 s) 0 = some o := by
        refine scanEnds s.size (by omega) (fun i hi => ?_) ⟨.inl (), ?_⟩
        · obtain ⟨x, hx, _⟩ := bt_some (s := s) hi
          unfold impl_IsName_l4
          rw [if_pos (by omega), hx]
          simp only [Option.bind_some]
          have : ∃ v : Bool, (if x < 97 then (if x < 48 then some true else some (decide (x > 57))) else (if x > 122 then (if x < 48 then some true else some (decide (x > 57))) else some false)) = some v := by
            split
            · split <;> exact ⟨_, rfl⟩
            · split
              · split <;> exact ⟨_, rfl⟩
              · exact ⟨_, rfl⟩
          obtain ⟨v, hv⟩ := this
          rw [hv]
          cases v with
          | true => exact .inr ⟨_, rfl⟩
          | false => exact .inl rfl
        · unfold impl_IsName_l4
          rw [if_neg (by omega)]
      obtain ⟨o, ho⟩ := hloop
      rw [ho]
      have : ∃ v : Bool, ((some b).bind fun x14 => if x14 < 97 then some true else (some b).bind fun x19 => some (decide (x19 > 122))) = some v := by
        simp only [Option.bind_some]
        split <;> exact ⟨_, rfl⟩
      obtain ⟨v, hv⟩ := this
      rw [hv]
      cases v with
      | true => exact ⟨_, rfl⟩
      | false => cases o <;> exact ⟨_, rfl⟩

def Cn (c : S_Coat) : Prop := (1 ≤ c.Work ∧ c.Work ≤ 32) ∧ (0 ≤ c.Dry ∧ c.Dry ≤ 400) ∧ (c.Dry ≤ c.Wait ∧ c.Wait ≤ 800)

theorem coat_eq (c : S_Coat) : ∃ v : Bool, impl_ValidCoat c = some v ∧ (v = true → Cn c) := by
  obtain ⟨n, n2⟩ := name_some c.Name
  unfold impl_ValidCoat Cn
  simp only [n2, within_eq, Option.bind_some]
  cases n with
  | false => exact ⟨false, rfl, fun h => by cases h⟩
  | true =>
    simp only [if_true, decide_eq_true_eq]
    by_cases c1 : 1 ≤ c.Work ∧ c.Work ≤ 32
    · by_cases c2 : 0 ≤ c.Dry ∧ c.Dry ≤ 400
      · simp only [if_pos c1, if_pos c2, Option.bind_some]
        exact ⟨_, rfl, fun h => ⟨c1, c2, of_decide_eq_true h⟩⟩
      · exact ⟨false, by simp only [if_pos c1, if_neg c2, Option.bind_some], fun h => by cases h⟩
    · exact ⟨false, by simp only [if_neg c1, Option.bind_some], fun h => by cases h⟩

noncomputable def Vc (c : S_Coat) : Bool := Classical.choose (coat_eq c)
theorem Vc_impl (c : S_Coat) : impl_ValidCoat c = some (Vc c) := (Classical.choose_spec (coat_eq c)).1
theorem Vc_num (c : S_Coat) (h : Vc c = true) : Cn c := (Classical.choose_spec (coat_eq c)).2 h

/-- Whether some element is so. -/
theorem has_eq (l : List S_Coat) (hl : l.length ≤ 1048576) {f : S_Coat → Option Bool} {p : S_Coat → Bool} (hp : ∀ c ∈ l, f c = some (p c)) : slices_ContainsFunc_impl_Coat_impl_Coat l f = some (!(l.all fun c => !p c)) := by
  unfold slices_ContainsFunc_impl_Coat_impl_Coat slices_IndexFunc_impl_Coat_impl_Coat
  have k1 : ∀ (i : Nat) (hi : i < l.length), slices_IndexFunc_impl_Coat_impl_Coat_l2 f l (i : Int) = if (!p l[i]) = true then some (.inl (w64 ((i : Int) + 1))) else some (.inr (.inr (i : Int))) := by
    intro i hi
    unfold slices_IndexFunc_impl_Coat_impl_Coat_l2
    rw [if_pos (by omega), rd_lt hi, Option.bind_some, hp _ (List.getElem_mem hi), Option.bind_some]
    cases p l[i] <;> rfl
  have k2 : slices_IndexFunc_impl_Coat_impl_Coat_l2 f l (l.length : Int) = some (.inr (.inl ())) := by
    unfold slices_IndexFunc_impl_Coat_impl_Coat_l2
    rw [if_neg (by omega)]
  rcases scanAll l (fun c => !p c) (fun i => (i : Int)) (by omega) k1 k2 with ⟨h1, h2⟩ | ⟨h1, i, hi, h2⟩
  · rw [h2, h1]
    rfl
  · rw [h2, h1]
    simp

theorem ok_impl (l : List S_Coat) (hl : l.length ≤ 1048576) : impl_ValidCoats l = some (l.all Vc && decide (l.length ≤ 8)) := by
  unfold impl_ValidCoats
  rw [has_eq l hl (f := fun a0 => impl_ValidCoats_c1 a0) (p := fun c => !Vc c) (fun c _ => by unfold impl_ValidCoats_c1; rw [Vc_impl]; rfl)]
  simp only [Bool.not_not, Option.bind_some]
  have e : decide ((l.length : Int) ≤ 8) = decide (l.length ≤ 8) := decide_eq_decide.2 (by omega)
  by_cases c : (l.length : Int) ≤ 8
  · rw [if_pos c, ← e, decide_eq_true c, Bool.and_true]
    rfl
  · rw [if_neg c, ← e, decide_eq_false c, Bool.and_false]
    rfl

theorem apd1 {l : List Int} {x : Int} (h : l.length ≤ 1000000) : apd 8 l [x] = some (l ++ [x]) := by
  unfold apd
  rw [if_pos (by simp; omega)]
theorem apd0 {l : List Int} (h : l.length ≤ 1000000) : apd 8 ([] : List Int) l = some l := by
  unfold apd
  rw [if_pos (by simp; omega)]
  rfl


/-- The code of a task. -/
def Ar (o e : Int) : Bool := decide (0 ≤ o) && (decide (o < e) && decide (e ≤ 96))
noncomputable def cc (l : List S_Coat) (start o e b : Int) : Int :=
  if (l.all Vc && decide (l.length ≤ 8)) = true then
    (if (decide (1 ≤ b ∧ b ≤ 20000) && (decide (0 ≤ start ∧ start ≤ 100000) && Ar o e)) = true then
      (if (!(l.all fun c => !decide (c.Work > w64 (e - o)))) = true then 3 else 0) else 2) else 1

theorem code_eq (l : List S_Coat) (hl : l.length ≤ 1048576) (start o e b : Int) : impl_coatsCode l start o e b = some (cc l start o e b) := by
  unfold impl_coatsCode impl_areHours cc
  rw [ok_impl l hl, has_eq l hl (f := fun a0 => impl_coatsCode_c1 a0 e o) (p := fun c => decide (c.Work > w64 (e - o))) (fun c _ => rfl)]
  simp only [within_eq, Option.bind_some]
  by_cases cA : (l.all Vc && decide (l.length ≤ 8)) = true
  · rw [if_pos cA, if_pos cA]
    by_cases c1 : decide (1 ≤ b ∧ b ≤ 20000) = true
    · by_cases c2 : decide (0 ≤ start ∧ start ≤ 100000) = true
      · rw [if_pos c1, if_pos c2, c1, c2]
        show (some (!(Ar o e))).bind _ = _
        simp only [Option.bind_some, Bool.true_and]
        cases Ar o e with
        | true =>
          simp only [Bool.not_true, Bool.false_eq_true, if_false, if_true]
          split <;> rfl
        | false => rfl
      · rw [if_pos c1, if_neg c2]
        rw [if_neg (show ¬ ((decide (1 ≤ b ∧ b ≤ 20000) && (decide (0 ≤ start ∧ start ≤ 100000) && Ar o e)) = true) by simp only [Bool.and_eq_true]; exact fun h => c2 h.2.1)]
        rfl
    · rw [if_neg c1]
      rw [if_neg (show ¬ ((decide (1 ≤ b ∧ b ≤ 20000) && (decide (0 ≤ start ∧ start ≤ 100000) && Ar o e)) = true) by simp only [Bool.and_eq_true]; exact fun h => c1 h.1)]
      rfl
  · rw [if_neg cA, if_neg cA]

/-- What a task is that can be done. -/
structure Tk (l : List S_Coat) (start o e : Int) : Prop where
  cn : ∀ c ∈ l, Cn c
  len : l.length ≤ 8
  s0 : 0 ≤ start
  s1 : start ≤ 100000
  o0 : 0 ≤ o
  oe : o < e
  e1 : e ≤ 96
  wk : ∀ c ∈ l, c.Work ≤ e - o
  all : (l.all Vc && decide (l.length ≤ 8)) = true
  ar : Ar o e = true

theorem cc_zero {l : List S_Coat} {start o e b : Int} (h : cc l start o e b = 0) : Tk l start o e ∧ 1 ≤ b ∧ b ≤ 20000 := by
  unfold cc at h
  split at h
  · rename_i cA
    split at h
    · rename_i cB
      split at h
      · cases h
      · rename_i cL
        have cA' := cA
        simp only [Bool.and_eq_true, decide_eq_true_eq] at cA' cB
        obtain ⟨b1, b2, b3⟩ := cB
        have b3' := b3
        unfold Ar at b3'
        simp only [Bool.and_eq_true, decide_eq_true_eq] at b3'
        have hw : w64 (e - o) = e - o := w64_id (by omega) (by omega)
        refine ⟨⟨fun c hc => Vc_num c (List.all_eq_true.1 cA'.1 c hc), cA'.2, b2.1, b2.2, b3'.1, b3'.2.1, b3'.2.2, fun c hc => ?_, cA, b3⟩, b1.1, b1.2⟩
        have cL' : (l.all fun c => !decide (c.Work > w64 (e - o))) = true := by
          cases hq : l.all fun c => !decide (c.Work > w64 (e - o)) with
          | true => rfl
          | false => rw [hq] at cL; exact absurd rfl cL
        have := List.all_eq_true.1 cL' c hc
        rw [hw] at this
        simp only [Bool.not_eq_true', decide_eq_false_iff_not] at this
        omega
    · cases h
  · cases h

theorem cc_other {l : List S_Coat} {start o e b b' : Int} (h : cc l start o e b = 0) : cc l start o e b' = 0 ∨ cc l start o e b' = 2 := by
  unfold cc at h ⊢
  split at h
  · rename_i cA
    rw [if_pos cA]
    split at h
    · rename_i cB
      split at h
      · cases h
      · rename_i cL
        split
        · exact .inl rfl
        · exact .inr rfl
    · cases h
  · cases h

/-- When work can begin. -/
def H (t o e w : Int) : Prop := t % 96 ≥ o ∧ t % 96 + w ≤ e
instance (t o e w : Int) : Decidable (H t o e w) := by unfold H; infer_instance
def N (t o e w : Int) : Int := if t % 96 ≤ o then t / 96 * 96 + o else if t % 96 + w ≤ e then t else t / 96 * 96 + 96 + o

theorem next_eq {t o e w : Int} (t0 : 0 ≤ t) (t1 : t ≤ 1000000) (o0 : 0 ≤ o) (oe : o < e) (e1 : e ≤ 96) (w1 : 1 ≤ w) (w2 : w ≤ 96) : impl_nextOpen t o e w = some (N t o e w) := by
  unfold impl_nextOpen dv md N
  have e2 : t.tdiv 96 = t / 96 := Int.tdiv_eq_ediv_of_nonneg t0
  have e3 : t.tmod 96 = t % 96 := Int.tmod_eq_emod_of_nonneg t0
  rw [if_neg (by decide), if_neg (by decide), e2, e3]
  have e4 : IntKind.wrap .i64 (t / 96) = t / 96 := w64_id (by omega) (by omega)
  have e5 : w64 (t / 96 * 96) = t / 96 * 96 := w64_id (by omega) (by omega)
  have e6 : w64 (t % 96 + w) = t % 96 + w := w64_id (by omega) (by omega)
  have e7 : w64 (t / 96 * 96 + o) = t / 96 * 96 + o := w64_id (by omega) (by omega)
  have e8 : w64 (t / 96 * 96 + 96) = t / 96 * 96 + 96 := w64_id (by omega) (by omega)
  have e9 : w64 (t / 96 * 96 + 96 + o) = t / 96 * 96 + 96 + o := w64_id (by omega) (by omega)
  simp only [Option.bind_some, e4, e5, e6, e7, e8, e9]
  split
  · rfl
  · split <;> rfl

theorem N_ok {t o e w : Int} (t0 : 0 ≤ t) (o0 : 0 ≤ o) (oe : o < e) (e1 : e ≤ 96) (w1 : 1 ≤ w) (w2 : w ≤ e - o) : t ≤ N t o e w ∧ N t o e w ≤ t + 191 ∧ H (N t o e w) o e w ∧ ∀ u, t ≤ u → u < N t o e w → ¬ H u o e w := by
  unfold N H
  split
  · refine ⟨by omega, by omega, by omega, fun u h1 h2 h3 => by omega⟩
  · split
    · refine ⟨by omega, by omega, by omega, fun u h1 h2 h3 => by omega⟩
    · refine ⟨by omega, by omega, by omega, fun u h1 h2 h3 => by omega⟩

theorem in_eq {t o e w : Int} (t0 : 0 ≤ t) (w1 : 1 ≤ w) (w2 : w ≤ 96) : impl_inHours t o e w = some (decide (H t o e w)) := by
  unfold impl_inHours md
  have e3 : t.tmod 96 = t % 96 := Int.tmod_eq_emod_of_nonneg t0
  rw [if_neg (by decide), e3]
  have e6 : w64 (t % 96 + w) = t % 96 + w := w64_id (by omega) (by omega)
  simp only [Option.bind_some, e6]
  by_cases c : t % 96 ≥ o
  · rw [if_pos c]
    simp only [Option.bind_some]
    congr 1
    exact decide_eq_decide.2 ⟨fun h => ⟨c, h⟩, fun h => h.2⟩
  · rw [if_neg c]
    simp only [Option.bind_some]
    congr 1
    exact (decide_eq_false (fun h => c h.1)).symm

/-- A plan's beginning. -/
def Pl (l : List S_Coat) (start o e : Int) (F : List Int) : Prop :=
  F.length ≤ l.length ∧ ∀ (i : Nat) (t : Int) (c : S_Coat), F[i]? = some t → l[i]? = some c →
    start ≤ t ∧ t ≤ 100191 + 832 * (i : Int) ∧ H t o e c.Work ∧ ∀ (j : Nat) (u : Int) (p : S_Coat), i = j + 1 → F[j]? = some u → l[j]? = some p → u + p.Work + p.Dry ≤ t ∧ t ≤ u + p.Work + p.Wait

/-- From when to when the next coat can begin. -/
def Lw (l : List S_Coat) (start : Int) (F : List Int) (least latest : Int) : Prop :=
  (F = [] ∧ least = start ∧ latest ≤ start + 191) ∨ ∃ G t c, F = G ++ [t] ∧ l[G.length]? = some c ∧ least = t + c.Work + c.Dry ∧ latest = t + c.Work + c.Wait ∧ 0 ≤ t ∧ t ≤ 100191 + 832 * (G.length : Int)

theorem Pl_snoc {l : List S_Coat} {start o e : Int} {F : List Int} {least latest t : Int} {c : S_Coat} (tk : Tk l start o e) (hP : Pl l start o e F) (hL : Lw l start F least latest) (hc : l[F.length]? = some c) (h1 : least ≤ t) (h2 : t ≤ latest) (h3 : H t o e c.Work) :
    Pl l start o e (F ++ [t]) ∧ t ≤ 100191 + 832 * (F.length : Int) ∧ 0 ≤ t := by
  have hlt : F.length < l.length := by
    rcases Nat.lt_or_ge F.length l.length with h | h
    · exact h
    · rw [List.getElem?_eq_none h] at hc; cases hc
  have hb : start ≤ t ∧ t ≤ 100191 + 832 * (F.length : Int) := by
    have := tk.s0
    have := tk.s1
    rcases hL with ⟨rfl, rfl, hh⟩ | ⟨G, u, p, rfl, hp, rfl, rfl, u0, u1⟩
    · simp; omega
    · have hpm : p ∈ l := List.mem_of_getElem? hp
      obtain ⟨⟨x1, x2⟩, ⟨x3, x4⟩, ⟨x5, x6⟩⟩ := tk.cn _ hpm
      have hu : (G ++ [u])[G.length]? = some u := by simp
      have := (hP.2 G.length u p hu hp).1
      rw [List.length_append, List.length_singleton]
      omega
  have := tk.s0
  refine ⟨⟨by rw [List.length_append, List.length_singleton]; omega, fun i u p hu hp => ?_⟩, hb.2, by omega⟩
  by_cases ci : i < F.length
  · rw [List.getElem?_append_left ci] at hu
    obtain ⟨q1, q2, q3, q4⟩ := hP.2 i u p hu hp
    refine ⟨q1, q2, q3, fun j v r hj hv hr => ?_⟩
    rw [List.getElem?_append_left (by omega)] at hv
    exact q4 j v r hj hv hr
  · have hi : i = F.length := by
      have := (List.getElem?_eq_some_iff.1 hu).1
      rw [List.length_append, List.length_singleton] at this
      omega
    subst hi
    rw [List.getElem?_append_right (Nat.le_refl _)] at hu
    simp at hu
    subst hu
    rw [hc] at hp
    cases hp
    refine ⟨hb.1, hb.2, h3, fun j v r hj hv hr => ?_⟩
    rcases hL with ⟨rfl, _, _⟩ | ⟨G, u, p, rfl, hp, rfl, rfl, u0, u1⟩
    · cases hj
    · rw [List.length_append, List.length_singleton] at hj
      have hjG : j = G.length := by omega
      subst hjG
      have : (G ++ [u] ++ [t])[G.length]? = some u := by simp
      rw [this] at hv
      cases hv
      rw [hp] at hr
      cases hr
      exact ⟨h1, h2⟩

theorem Lw_snoc {l : List S_Coat} {start : Int} {F : List Int} {t : Int} {c : S_Coat} (hc : l[F.length]? = some c) (t0 : 0 ≤ t) (t1 : t ≤ 100191 + 832 * (F.length : Int)) : Lw l start (F ++ [t]) (t + c.Work + c.Dry) (t + c.Work + c.Wait) :=
  .inr ⟨F, t, c, rfl, hc, rfl, rfl, t0, t1⟩

theorem Lw_num {l : List S_Coat} {start o e : Int} {F : List Int} {least latest : Int} (tk : Tk l start o e) (hF : F.length ≤ 8) (hL : Lw l start F least latest) : 0 ≤ least ∧ least ≤ 110000 ∧ latest ≤ 110000 := by
  have := tk.s0
  have := tk.s1
  rcases hL with ⟨rfl, rfl, hh⟩ | ⟨G, u, p, rfl, hp, rfl, rfl, u0, u1⟩
  · omega
  · have hpm : p ∈ l := List.mem_of_getElem? hp
    obtain ⟨⟨x1, x2⟩, ⟨x3, x4⟩, ⟨x5, x6⟩⟩ := tk.cn _ hpm
    rw [List.length_append, List.length_singleton] at hF
    omega

abbrev FI := (S_coatSearch × List Int × Int × Int) → Option (List Int × Int × S_coatSearch)

theorem fs_impl (x : S_coatSearch) (F : List Int) (a b : Int) : Fs (fun self : FI => impl_coatSearch_run_F self x F a b) := by
  unfold impl_coatSearch_run_F
  refine Fs.ite (Fs.const _) (Fs.bind (Fs.const _) fun c => Fs.bind (Fs.loop (fun s => ?_) _) fun o => Fs.const _)
  obtain ⟨a1, a2, a3, a4, a5⟩ := s
  unfold impl_coatSearch_run_l5 impl_coatSearch_run_k6
  exact Fs.ite (Fs.bind (Fs.const _) fun _ => Fs.ite (Fs.ite (Fs.const _) (Fs.bind (Fs.const _) fun _ => Fs.bind (Fs.const _) fun _ => Fs.bind (Fs.app _) fun _ => Fs.const _)) (Fs.const _)) (Fs.const _)

noncomputable abbrev SI : FI := fun s => impl_coatSearch_run s.1 s.2.1 s.2.2.1 s.2.2.2

theorem cp_implE (x : S_coatSearch) (F : List Int) (a b : Int) : impl_coatSearch_run x F a b = impl_coatSearch_run_F SI x F a b := by
  show fixO _ _ = _
  rw [fixO_eq]
  · rfl
  · rintro ⟨x, F, a, b⟩
    exact fs_impl x F a b


/-- One step of the search. -/
theorem step_no {l : List S_Coat} {start o e : Int} (tk : Tk l start o e) {F : List Int} {latest : Int} {c : S_Coat} (hcm : c ∈ l) {t left : Int} (t0 : 0 ≤ t) (t1 : t ≤ 1000000) (h1 : t ≤ latest) (h2 : ¬ H t o e c.Work) :
    impl_coatSearch_run_l5 SI F latest c (t, l, o, e, left) = some (.inl (t + 1, l, o, e, left)) := by
  obtain ⟨⟨w1, w2⟩, _⟩ := tk.cn _ hcm
  unfold impl_coatSearch_run_l5 impl_coatSearch_run_k6
  simp only
  rw [if_pos h1, in_eq t0 w1 (by omega), decide_eq_false h2, Option.bind_some, if_neg (by decide), w64_id (by omega) (by omega)]

theorem step_yes {l : List S_Coat} {start o e : Int} (tk : Tk l start o e) {F : List Int} (hF : F.length ≤ 8) {latest : Int} {c : S_Coat} (hcm : c ∈ l) {t left : Int} (t0 : 0 ≤ t) (t1 : t ≤ 1000000) (l0 : 0 < left) (l1 : left ≤ 20000) (h1 : t ≤ latest) (h2 : H t o e c.Work) {out : List Int} {code : Int} {t' : S_coatSearch}
    (hr : impl_coatSearch_run ⟨l, o, e, left - 1⟩ (F ++ [t]) (t + c.Work + c.Dry) (t + c.Work + c.Wait) = some (out, code, t')) :
    impl_coatSearch_run_l5 SI F latest c (t, l, o, e, left) = if code ≠ 3 then some (.inr (.inr (out, code, t'))) else some (.inl (t + 1, t'.list, t'.open_, t'.end_, t'.left)) := by
  obtain ⟨⟨w1, w2⟩, ⟨d1, d2⟩, ⟨g1, g2⟩⟩ := tk.cn _ hcm
  have e3 : w64 (left - 1) = left - 1 := w64_id (by omega) (by omega)
  have e4 : w64 (t + c.Work) = t + c.Work := w64_id (by omega) (by omega)
  have e5 : w64 (t + c.Work + c.Dry) = t + c.Work + c.Dry := w64_id (by omega) (by omega)
  have e6 : w64 (t + c.Work + c.Wait) = t + c.Work + c.Wait := w64_id (by omega) (by omega)
  have r2' : SI (⟨l, o, e, left - 1⟩, F ++ [t], t + c.Work + c.Dry, t + c.Work + c.Wait) = some (out, code, t') := hr
  unfold impl_coatSearch_run_l5 impl_coatSearch_run_k6
  simp only
  rw [if_pos h1, in_eq t0 w1 (by omega), decide_eq_true h2, Option.bind_some, if_pos rfl, if_neg (by omega), apd0 (by omega), Option.bind_some, apd1 (by omega), Option.bind_some, e3, e4, e5, e6, r2', Option.bind_some, w64_id (by omega) (by omega)]

theorem step_full {l : List S_Coat} {start o e : Int} (tk : Tk l start o e) {F : List Int} {latest : Int} {c : S_Coat} (hcm : c ∈ l) {t : Int} (t0 : 0 ≤ t) (t1 : t ≤ 1000000) (h1 : t ≤ latest) (h2 : H t o e c.Work) :
    impl_coatSearch_run_l5 SI F latest c (t, l, o, e, 0) = some (.inr (.inr ([], 5, ⟨l, o, e, 0⟩))) := by
  obtain ⟨⟨w1, w2⟩, _⟩ := tk.cn _ hcm
  unfold impl_coatSearch_run_l5
  simp only
  rw [if_pos h1, in_eq t0 w1 (by omega), decide_eq_true h2, Option.bind_some, if_pos rfl, if_pos trivial]

/-- A search at a coat is its loop. -/
theorem run_loop {l : List S_Coat} {o e left : Int} {F : List Int} {least latest : Int} {c : S_Coat} (hc : l[F.length]? = some c) {x : (List S_Coat × Int × Int × Int) ⊕ (List Int × Int × S_coatSearch)} (h : loopO (impl_coatSearch_run_l5 SI F latest c) (least, l, o, e, left) = some x) :
    impl_coatSearch_run ⟨l, o, e, left⟩ F least latest = some (match x with | .inl (a1, a2, a3, a4) => ([], 3, (⟨a1, a2, a3, a4⟩ : S_coatSearch)) | .inr r => r) := by
  have hlt : F.length < l.length := (List.getElem?_eq_some_iff.1 hc).1
  rw [cp_implE]
  unfold impl_coatSearch_run_F
  rw [if_neg (by simp; omega)]
  have hr : rd l (F.length : Int) = some c := by rw [rd_nat]; exact hc
  simp only [hr, Option.bind_some, h]
  cases x with
  | inl t => obtain ⟨a1, a2, a3, a4⟩ := t; rfl
  | inr r => rfl

theorem run_end {l : List S_Coat} {o e left : Int} {F : List Int} {least latest : Int} (h : F.length = l.length) : impl_coatSearch_run ⟨l, o, e, left⟩ F least latest = some (F, 0, ⟨l, o, e, left⟩) := by
  rw [cp_implE]
  unfold impl_coatSearch_run_F
  rw [if_pos (by simp; omega)]

theorem search_ok {l : List S_Coat} {start o e : Int} (tk : Tk l start o e) :
    ∀ (d : Nat) (F : List Int) (least latest left : Int), F.length + d = l.length → Pl l start o e F → Lw l start F least latest → 0 ≤ left → left ≤ 20000 →
      ∃ out code t', impl_coatSearch_run ⟨l, o, e, left⟩ F least latest = some (out, code, t') ∧ (code = 0 → Pl l start o e out ∧ out.length = l.length) ∧ (code = 3 → ∃ left', t' = ⟨l, o, e, left'⟩ ∧ 0 ≤ left' ∧ left' ≤ 20000) := by
  intro d
  induction d with
  | zero =>
    intro F least latest left hF hP hL l0 l1
    exact ⟨F, 0, _, run_end (by omega), fun _ => ⟨hP, by omega⟩, fun h => by cases h⟩
  | succ d ih =>
    intro F least latest left hF hP hL l0 l1
    have hlt : F.length < l.length := by omega
    have hl8 := tk.len
    have hcm := List.getElem_mem hlt
    have hc : l[F.length]? = some l[F.length] := List.getElem?_eq_getElem hlt
    generalize l[F.length] = c at hc hcm
    obtain ⟨n0, n1, n2⟩ := Lw_num tk (by omega) hL
    have key : ∀ (m : Nat) (t left : Int), (latest - t + 1).toNat ≤ m → least ≤ t → t ≤ 200000 → 0 ≤ left → left ≤ 20000 →
        ∃ x, loopO (impl_coatSearch_run_l5 SI F latest c) (t, l, o, e, left) = some x ∧ (∀ a1 a2 a3 a4, x = .inl (a1, a2, a3, a4) → a1 = l ∧ a2 = o ∧ a3 = e ∧ 0 ≤ a4 ∧ a4 ≤ 20000) ∧
          (∀ out code t', x = .inr (out, code, t') → code ≠ 3 ∧ (code = 0 → Pl l start o e out ∧ out.length = l.length)) := by
      intro m
      induction m with
      | zero =>
        intro t left hm h1 h2 l0 l1
        refine ⟨.inl (l, o, e, left), loopO_done ?_, fun a1 a2 a3 a4 hh => ?_, fun _ _ _ hh => by cases hh⟩
        · unfold impl_coatSearch_run_l5
          simp only
          rw [if_neg (by omega)]
        · cases hh; exact ⟨rfl, rfl, rfl, l0, l1⟩
      | succ m ihm =>
        intro t left hm h1 h2 l0 l1
        by_cases c0 : t ≤ latest
        · by_cases c1 : H t o e c.Work
          · by_cases c2 : left = 0
            · subst c2
              refine ⟨_, loopO_done (step_full tk hcm (by omega) (by omega) c0 c1), fun _ _ _ _ hh => (by cases hh), fun _ _ _ hh => ?_⟩
              cases hh
              exact ⟨by decide, fun h => by cases h⟩
            · obtain ⟨p1, p2, p3⟩ := Pl_snoc tk hP hL hc h1 c0 c1
              obtain ⟨out, code, t', r1, r2, r3⟩ := ih (F ++ [t]) _ _ (left - 1) (by simp; omega) p1 (Lw_snoc hc p3 p2) (by omega) (by omega)
              have S := step_yes tk (by omega) hcm p3 (by omega) (by omega) l1 c0 c1 r1
              by_cases c3 : code = 3
              · obtain ⟨left', rfl, q1, q2⟩ := r3 c3
                rw [if_neg (by simpa using c3)] at S
                rw [loopO_next S]
                exact ihm (t + 1) left' (by omega) (by omega) (by omega) q1 q2
              · rw [if_pos c3] at S
                refine ⟨_, loopO_done S, fun _ _ _ _ hh => (by cases hh), fun _ _ _ hh => ?_⟩
                cases hh
                exact ⟨c3, r2⟩
          · rw [loopO_next (step_no tk hcm (by omega) (by omega) c0 c1)]
            exact ihm (t + 1) left (by omega) (by omega) (by omega) l0 l1
        · refine ⟨.inl (l, o, e, left), loopO_done ?_, fun a1 a2 a3 a4 hh => ?_, fun _ _ _ hh => by cases hh⟩
          · unfold impl_coatSearch_run_l5
            simp only
            rw [if_neg c0]
          · cases hh; exact ⟨rfl, rfl, rfl, l0, l1⟩
    obtain ⟨x, x1, x2, x3⟩ := key _ least left (Nat.le_refl _) (by omega) (by omega) l0 l1
    have hr := run_loop (least := least) hc x1
    rcases x with ⟨a1, a2, a3, a4⟩ | ⟨out, code, t'⟩
    · obtain ⟨rfl, rfl, rfl, q1, q2⟩ := x2 _ _ _ _ rfl
      exact ⟨_, _, _, hr, fun h => (by cases h), fun _ => ⟨a4, rfl, q1, q2⟩⟩
    · obtain ⟨q1, q2⟩ := x3 _ _ _ rfl
      exact ⟨_, _, _, hr, q2, fun h => absurd h q1⟩

/-- The early plan is found first. -/
theorem early_ok {l : List S_Coat} {start o e : Int} (tk : Tk l start o e) :
    ∀ (d : Nat) (F : List Int) (least latest last : Int), F.length + d = l.length → Pl l start o e F → Lw l start F least latest → ((last = latest ∧ 0 ≤ latest) ∨ (last = -1 ∧ latest = least + 191)) →
      (∃ out, loopO (impl_EarlyPlan_l6 e l o) (least, last, (F.length : Int), F) = some (.inl out) ∧ Pl l start o e out ∧ out.length = l.length ∧
        ∀ left, 0 ≤ left → left ≤ 20000 → ∃ out' code t', impl_coatSearch_run ⟨l, o, e, left⟩ F least latest = some (out', code, t') ∧ ((code = 0 ∧ out' = out) ∨ code = 5)) ∨
      loopO (impl_EarlyPlan_l6 e l o) (least, last, (F.length : Int), F) = some (.inr ([], 6)) := by
  intro d
  induction d with
  | zero =>
    intro F least latest last hF hP hL hla
    refine .inl ⟨F, loopO_done ?_, hP, by omega, fun left _ _ => ⟨F, 0, _, run_end (by omega), .inl ⟨rfl, rfl⟩⟩⟩
    unfold impl_EarlyPlan_l6
    simp only
    rw [if_neg (by omega)]
  | succ d ih =>
    intro F least latest last hF hP hL hla
    have hlt : F.length < l.length := by omega
    have hl8 := tk.len
    have hcm := List.getElem_mem hlt
    have hc : l[F.length]? = some l[F.length] := List.getElem?_eq_getElem hlt
    generalize l[F.length] = c at hc hcm
    obtain ⟨n0, n1, n2⟩ := Lw_num tk (by omega) hL
    obtain ⟨⟨w1, w2⟩, ⟨d1, d2⟩, ⟨g1, g2⟩⟩ := tk.cn _ hcm
    have wk := tk.wk _ hcm
    have o0 := tk.o0
    have oe := tk.oe
    have e1 := tk.e1
    obtain ⟨N1, N2, N3, N4⟩ := N_ok (t := least) n0 o0 oe e1 w1 wk
    have hr : rd l (F.length : Int) = some c := by rw [rd_nat]; exact hc
    have hnx := next_eq (t := least) (w := c.Work) n0 (by omega) o0 oe e1 w1 (by omega)
    generalize N least o e c.Work = t at N1 N2 N3 N4 hnx
    have S0 : impl_EarlyPlan_l6 e l o (least, last, (F.length : Int), F) = if (last ≥ 0 ∧ t > last) then some (.inr (.inr ([], 6))) else some (.inl (t + c.Work + c.Dry, t + c.Work + c.Wait, ((F ++ [t]).length : Int), F ++ [t])) := by
      unfold impl_EarlyPlan_l6
      simp only
      have e4 : w64 (t + c.Work) = t + c.Work := w64_id (by omega) (by omega)
      have e5 : w64 (t + c.Work + c.Dry) = t + c.Work + c.Dry := w64_id (by omega) (by omega)
      have e6 : w64 (t + c.Work + c.Wait) = t + c.Work + c.Wait := w64_id (by omega) (by omega)
      have e7 : w64 ((F.length : Int) + 1) = ((F ++ [t]).length : Int) := by rw [w64_succ (by omega)]; simp
      rw [if_pos (by omega), hr]
      simp only [Option.bind_some, hnx]
      rw [apd1 (by omega), Option.bind_some, e4, e5, e6, e7]
    by_cases cl : last ≥ 0 ∧ t > last
    · rw [if_pos cl] at S0
      exact .inr (loopO_done S0)
    · rw [if_neg cl] at S0
      have htl : t ≤ latest := by
        rcases hla with ⟨rfl, h0⟩ | ⟨rfl, rfl⟩
        · omega
        · omega
      obtain ⟨p1, p2, p3⟩ := Pl_snoc tk hP hL hc N1 htl N3
      rw [loopO_next S0]
      rcases ih (F ++ [t]) (t + c.Work + c.Dry) (t + c.Work + c.Wait) (t + c.Work + c.Wait) (by simp; omega) p1 (Lw_snoc hc p3 p2) (.inl ⟨rfl, by omega⟩) with ⟨out, q1, q2, q3, q4⟩ | q
      · refine .inl ⟨out, q1, q2, q3, fun left l0 l1 => ?_⟩
        have skip : ∀ (m : Nat) (u : Int), u + m = t → least ≤ u → loopO (impl_coatSearch_run_l5 SI F latest c) (u, l, o, e, left) = loopO (impl_coatSearch_run_l5 SI F latest c) (t, l, o, e, left) := by
          intro m
          induction m with
          | zero => intro u hu _; rw [show u = t by omega]
          | succ m ihm =>
            intro u hu hul
            rw [loopO_next (step_no tk hcm (by omega) (by omega) (by omega) (N4 u hul (by omega)))]
            exact ihm (u + 1) (by omega) (by omega)
        have hs := skip (t - least).toNat least (by omega) (Int.le_refl _)
        by_cases c2 : left = 0
        · subst c2
          have := loopO_done (step_full tk (F := F) hcm p3 (by omega) htl N3)
          rw [← hs] at this
          exact ⟨_, _, _, run_loop hc this, .inr rfl⟩
        · obtain ⟨out', code, t', r1, r2⟩ := q4 (left - 1) (by omega) (by omega)
          have S := step_yes tk (by omega) hcm p3 (by omega) (by omega) l1 htl N3 r1
          rw [if_pos (by rcases r2 with ⟨rfl, _⟩ | rfl <;> decide)] at S
          have := loopO_done S
          rw [← hs] at this
          exact ⟨_, _, _, run_loop hc this, r2⟩
      · exact .inr q

theorem is_plan {l : List S_Coat} {start o e : Int} (tk : Tk l start o e) {F : List Int} (hP : Pl l start o e F) (hF : F.length = l.length) : impl_IsCoatPlan l F start o e = some true := by
  unfold impl_IsCoatPlan impl_areHours
  have hl8 := tk.len
  have s0 := tk.s0
  have s1 := tk.s1
  rw [ok_impl l (by omega), tk.all]
  have ha : (decide (0 ≤ o) && (decide (o < e) && decide (e ≤ 96))) = true := tk.ar
  have hn : ((F.length : Int) != (l.length : Int)) = false := by rw [hF]; simp
  simp only [Option.bind_some, if_true, within_eq, decide_eq_true (show 0 ≤ start ∧ start ≤ 100000 from ⟨s0, s1⟩), ha, hn]
  rw [if_neg (by decide)]
  have lp := loopO_for (fun i : Nat => (i : Int)) F.length (f := impl_IsCoatPlan_l4 F e l o start) (r := .inl ()) (fun i hi => by
    have hi2 : i < l.length := by omega
    have hcm := List.getElem_mem hi2
    obtain ⟨q1, q2, q3, q4⟩ := hP.2 i F[i] l[i] (List.getElem?_eq_getElem hi) (List.getElem?_eq_getElem hi2)
    obtain ⟨⟨w1, w2⟩, _⟩ := tk.cn _ hcm
    unfold impl_IsCoatPlan_l4 impl_IsCoatPlan_k12
    rw [if_pos (by omega), rd_lt hi, rd_lt hi2]
    simp only [Option.bind_some]
    rw [if_neg (by omega), in_eq (by omega) w1 (by omega), decide_eq_true q3]
    simp only [Option.bind_some, Bool.not_true, Bool.false_eq_true, if_false]
    by_cases c0 : (i : Int) > 0
    · rw [if_pos c0]
      have e0 : w64 ((i : Int) - 1) = ((i - 1 : Nat) : Int) := by rw [w64_id (by omega) (by omega)]; omega
      have hj1 : i - 1 < F.length := by omega
      have hj2 : i - 1 < l.length := by omega
      obtain ⟨y1, y2⟩ := q4 (i - 1) F[i - 1] l[i - 1] (by omega) (List.getElem?_eq_getElem hj1) (List.getElem?_eq_getElem hj2)
      obtain ⟨z1, z2, _⟩ := hP.2 (i - 1) F[i - 1] l[i - 1] (List.getElem?_eq_getElem hj1) (List.getElem?_eq_getElem hj2)
      obtain ⟨⟨x1, x2⟩, ⟨x3, x4⟩, ⟨x5, x6⟩⟩ := tk.cn _ (List.getElem_mem hj2)
      rw [e0, rd_lt hj1, rd_lt hj2]
      have e2 : w64 (F[i] - F[i - 1]) = F[i] - F[i - 1] := w64_id (by omega) (by omega)
      have e3 : w64 (l[i - 1].Work + l[i - 1].Dry) = l[i - 1].Work + l[i - 1].Dry := w64_id (by omega) (by omega)
      have e4 : w64 (l[i - 1].Work + l[i - 1].Wait) = l[i - 1].Work + l[i - 1].Wait := w64_id (by omega) (by omega)
      simp only [Option.bind_some, e2, e3, e4, within_eq]
      rw [decide_eq_true (show l[i - 1].Work + l[i - 1].Dry ≤ F[i] - F[i - 1] ∧ F[i] - F[i - 1] ≤ l[i - 1].Work + l[i - 1].Wait from ⟨by omega, by omega⟩), if_pos rfl, w64_succ (by omega)]
    · rw [if_neg c0, w64_succ (by omega)]) (by
    unfold impl_IsCoatPlan_l4
    rw [if_neg (by omega)])
  have lp' : loopO (impl_IsCoatPlan_l4 F e l o start) 0 = some (.inl ()) := lp
  rw [lp']
  rfl

/-- The work of the first coats. -/
def Sw (l : List S_Coat) (i : Nat) : Int := ((l.take i).map fun c => c.Work).sum
theorem Sw_succ {l : List S_Coat} {i : Nat} (h : i < l.length) : Sw l (i + 1) = Sw l i + l[i].Work := by
  unfold Sw
  rw [List.take_succ_eq_append_getElem h, List.map_append, List.sum_append]
  simp

theorem Sw_num {l : List S_Coat} (h : ∀ c ∈ l, Cn c) : ∀ i, i ≤ l.length → 0 ≤ Sw l i ∧ Sw l i ≤ 32 * (i : Int)
  | 0, _ => by simp [Sw]
  | i + 1, hi => by
    have := Sw_num h i (by omega)
    obtain ⟨⟨w1, w2⟩, _⟩ := h _ (List.getElem_mem (show i < l.length by omega))
    rw [Sw_succ (by omega)]
    omega

theorem work_eq {l : List S_Coat} {start o e : Int} (tk : Tk l start o e) : impl_WorkingTime l = some (Sw l l.length, 0) := by
  unfold impl_WorkingTime
  have hl8 := tk.len
  rw [ok_impl l (by omega), tk.all]
  simp only [Option.bind_some, if_true]
  have lp := loopO_for (fun i : Nat => (Sw l i, (i : Int))) l.length (f := impl_WorkingTime_l5 l) (r := Sw l l.length) (fun i hi => by
    have n1 := Sw_num tk.cn i (by omega)
    obtain ⟨⟨w1, w2⟩, _⟩ := tk.cn _ (List.getElem_mem hi)
    unfold impl_WorkingTime_l5
    simp only
    rw [if_pos (by omega), rd_lt hi, Option.bind_some, w64_succ (by omega), w64_id (by omega) (by omega), Sw_succ hi]) (by
    unfold impl_WorkingTime_l5
    simp only
    rw [if_neg (by omega)])
  have lp' : loopO (impl_WorkingTime_l5 l) (0, 0) = some (Sw l l.length) := lp
  rw [lp']
  rfl

theorem has_int (l : List Int) (hl : l.length ≤ 1048576) {f : Int → Option Bool} {p : Int → Bool} (hp : ∀ c ∈ l, f c = some (p c)) : ∃ v, slices_ContainsFunc_int64_int64 l f = some v := by
  unfold slices_ContainsFunc_int64_int64 slices_IndexFunc_int64_int64
  have k1 : ∀ (i : Nat) (hi : i < l.length), slices_IndexFunc_int64_int64_l2 f l (i : Int) = if (!p l[i]) = true then some (.inl (w64 ((i : Int) + 1))) else some (.inr (.inr (i : Int))) := by
    intro i hi
    unfold slices_IndexFunc_int64_int64_l2
    rw [if_pos (by omega), rd_lt hi, Option.bind_some, hp _ (List.getElem_mem hi), Option.bind_some]
    cases p l[i] <;> rfl
  have k2 : slices_IndexFunc_int64_int64_l2 f l (l.length : Int) = some (.inr (.inl ())) := by
    unfold slices_IndexFunc_int64_int64_l2
    rw [if_neg (by omega)]
  rcases scanAll l (fun c => !p c) (fun i => (i : Int)) (by omega) k1 k2 with ⟨h1, h2⟩ | ⟨h1, i, hi, h2⟩
  · rw [h2]; exact ⟨_, rfl⟩
  · rw [h2]; exact ⟨_, rfl⟩

theorem end_ok {l : List S_Coat} {start o e : Int} (tk : Tk l start o e) {F : List Int} (hP : Pl l start o e F) (hF : F.length = l.length) : ∃ x c, impl_PlanEnd l F = some (x, c) ∧ (c = 0 → 0 < l.length → start + Sw l l.length ≤ x) := by
  unfold impl_PlanEnd
  have hl8 := tk.len
  rw [ok_impl l (by omega), tk.all]
  obtain ⟨v, hv⟩ := has_int F (by omega) (f := fun a0 => impl_PlanEnd_c1 a0) (p := fun n => !(decide (0 ≤ n ∧ n ≤ 100000))) (fun n _ => by unfold impl_PlanEnd_c1; rw [within_eq]; rfl)
  simp only [Option.bind_some, if_true, hv]
  rw [if_neg (by omega), Option.bind_some]
  by_cases cv : v = true
  · rw [if_pos cv]
    exact ⟨0, 2, rfl, fun h => by cases h⟩
  · rw [if_neg cv]
    by_cases c0 : (l.length : Int) = 0
    · rw [if_pos c0]
      exact ⟨0, 0, rfl, fun _ h => by omega⟩
    · rw [if_neg c0]
      have key : ∀ i (hi : i < F.length), start + Sw l i ≤ F[i] := by
        intro i
        induction i with
        | zero =>
          intro hi
          have := (hP.2 0 F[0] l[0] (List.getElem?_eq_getElem hi) (List.getElem?_eq_getElem (by omega))).1
          have e : Sw l 0 = 0 := by simp [Sw]
          omega
        | succ i ih =>
          intro hi
          have hi2 : i + 1 < l.length := by omega
          have q := (hP.2 (i + 1) F[i + 1] l[i + 1] (List.getElem?_eq_getElem hi) (List.getElem?_eq_getElem hi2)).2.2.2 i F[i] l[i] rfl (List.getElem?_eq_getElem (by omega)) (List.getElem?_eq_getElem (by omega))
          have := ih (by omega)
          obtain ⟨_, ⟨x3, x4⟩, _⟩ := tk.cn _ (List.getElem_mem (show i < l.length by omega))
          rw [Sw_succ (by omega)]
          omega
      have hn : l.length - 1 < F.length := by omega
      have hn2 : l.length - 1 < l.length := by omega
      have e0 : w64 ((l.length : Int) - 1) = ((l.length - 1 : Nat) : Int) := by rw [w64_id (by omega) (by omega)]; omega
      rw [e0, rd_lt hn, rd_lt hn2]
      simp only [Option.bind_some]
      have k := key (l.length - 1) hn
      obtain ⟨z1, z2, _⟩ := hP.2 (l.length - 1) F[l.length - 1] l[l.length - 1] (List.getElem?_eq_getElem hn) (List.getElem?_eq_getElem hn2)
      obtain ⟨⟨x1, x2⟩, _⟩ := tk.cn _ (List.getElem_mem hn2)
      have s0 := tk.s0
      refine ⟨_, _, rfl, fun _ _ => ?_⟩
      rw [w64_id (by omega) (by omega)]
      have e2 : Sw l l.length = Sw l (l.length - 1) + l[l.length - 1].Work := by
        have := Sw_succ hn2
        rw [show l.length - 1 + 1 = l.length by omega] at this
        exact this
      omega

theorem nums_eq (l : List Int) (h : l.length ≤ 1048576) : laws_b10Nums l l = some true := by
  unfold laws_b10Nums
  rw [if_neg (by simp), eqS_refl (n := l.length) (by omega) ?_ ?_]
  · rfl
  · intro i hi
    unfold laws_b10Nums_l4
    rw [if_pos (by omega), rd_lt hi]
    simp
  · unfold laws_b10Nums_l4
    simp

theorem next_law {c : List Int} (hc : ∀ x ∈ c, 0 ≤ x ∧ x ≤ 255) : laws_FnPolish_k15 c = some true := by
  unfold laws_FnPolish_k15 impl_NextOpen impl_areHours
  obtain ⟨t, o, e, w, hd⟩ := drawn2_ok hc
  rw [hd]
  simp only [Option.bind_some, within_eq]
  by_cases c1 : 0 ≤ t ∧ t ≤ 100000
  · rw [decide_eq_true c1, if_pos rfl]
    by_cases c2 : (decide (0 ≤ o) && (decide (o < e) && decide (e ≤ 96))) = true
    · rw [if_pos c2]
      by_cases c3 : 1 ≤ w ∧ w ≤ 32
      · rw [decide_eq_true c3]
        simp only [Bool.and_eq_true, decide_eq_true_eq] at c2
        have e0 : w64 (e - o) = e - o := w64_id (by omega) (by omega)
        simp only [Option.bind_some, Bool.not_true, Bool.false_eq_true, if_false, e0]
        by_cases c4 : e - o < w
        · rw [if_pos c4]; rfl
        · rw [if_neg c4, next_eq c1.1 (by omega) c2.1 c2.2.1 c2.2.2 c3.1 (by omega)]
          obtain ⟨N1, N2, N3, N4⟩ := N_ok (t := t) c1.1 c2.1 c2.2.1 c2.2.2 c3.1 (by omega)
          generalize N t o e w = u at N1 N2 N3
          obtain ⟨h1, h2⟩ := N3
          simp only [Option.bind_some, ne_eq, not_true, if_false]
          have e1 : w64 (t + 192) = t + 192 := w64_id (by omega) (by omega)
          have e3 : u.tmod 96 = u % 96 := Int.tmod_eq_emod_of_nonneg (by omega)
          have e4 : md u 96 = some (u % 96) := by unfold md; rw [if_neg (by decide), e3]
          have e5 : w64 (u % 96 + w) = u % 96 + w := w64_id (by omega) (by omega)
          rw [if_pos (by omega), e1, if_pos (by omega), e4]
          simp only [Option.bind_some]
          rw [if_pos h1, e5, decide_eq_true h2]
          rfl
      · rw [decide_eq_false c3]; rfl
    · rw [if_neg c2]; rfl
  · rw [decide_eq_false c1]; rfl

theorem law_Polish (c m : List Int) (hc : ∀ x ∈ c, 0 ≤ x ∧ x ≤ 255) (hm : ∀ x ∈ m, 0 ≤ x ∧ x ≤ 255) : laws_FnPolish c m = some true := by
  unfold laws_FnPolish laws_b10Long
  simp only [Option.bind_some]
  by_cases c1 : decide ((c.length : Int) > 1048576) = true
  · rw [if_pos c1]; rfl
  rw [if_neg c1]
  simp only [Option.bind_some]
  by_cases c2 : decide ((m.length : Int) > 1048576) = true
  · rw [if_pos c2]
  rw [if_neg c2]
  obtain ⟨l, start, o, e, b, hd, hl⟩ := drawn_ok hc
  rw [hd]
  simp only [Option.bind_some]
  unfold impl_EarlyPlan impl_FirstCoatPlan
  rw [code_eq l (by omega), code_eq l (by omega)]
  simp only [Option.bind_some]
  have nl := next_law hm
  by_cases z1 : cc l start o e 1 = 0
  · obtain ⟨tk, _, _⟩ := cc_zero z1
    have s0 := tk.s0
    have s1 := tk.s1
    have e1 : w64 (w64 (start + 192) - 1) = start + 191 := by rw [w64_id (n := start + 192) (by omega) (by omega), w64_id (by omega) (by omega)]; omega
    have hP0 : Pl l start o e [] := ⟨by simp, fun i t c h _ => by simp at h⟩
    have hL0 : Lw l start [] start (start + 191) := .inl ⟨rfl, rfl, by omega⟩
    rw [if_neg (show ¬ (cc l start o e 1 ≠ 0) from fun h => h z1)]
    rcases early_ok tk l.length [] start (start + 191) (-1) (by simp) hP0 hL0 (.inr ⟨rfl, rfl⟩) with ⟨out, q1, q2, q3, q4⟩ | q1
    · have q1' : loopO (impl_EarlyPlan_l6 e l o) (start, -1, 0, []) = some (.inl out) := q1
      rw [q1']
      simp only [Option.bind_some, is_plan tk q2 q3, if_true]
      rcases cc_other (b' := b) z1 with z2 | z2
      · obtain ⟨_, b1, b2⟩ := cc_zero z2
        rw [if_neg (show ¬ (cc l start o e b ≠ 0) from fun h => h z2), e1]
        obtain ⟨out', code, t', r1, r2⟩ := q4 b (by omega) b2
        rw [r1]
        simp only [Option.bind_some]
        rcases r2 with ⟨rfl, rfl⟩ | rfl
        · obtain ⟨x, k, y1, y2⟩ := end_ok tk q2 q3
          rw [if_pos rfl, is_plan tk q2 q3]
          simp only [Option.bind_some, Bool.not_true, Bool.false_eq_true, if_false, if_true, nums_eq out' (by omega), y1, work_eq tk, show ¬ ((0 : Int) = 3) by decide]
          have n1 := Sw_num tk.cn l.length (Nat.le_refl _)
          have l8 := tk.len
          have e2 : w64 (start + Sw l l.length) = start + Sw l l.length := w64_id (by omega) (by omega)
          rw [if_neg, nl]
          rintro (h | ⟨h1, h2, h3⟩)
          · exact h rfl
          · have := y2 h1 (by omega)
            rw [e2] at h3
            omega
        · rw [if_neg (by decide), if_neg (by decide)]
          exact nl
      · rw [if_pos (show cc l start o e b ≠ 0 by rw [z2]; decide), z2]
        exact nl
    · have q1' : loopO (impl_EarlyPlan_l6 e l o) (start, -1, 0, []) = some (.inr ([], 6)) := q1
      rw [q1']
      simp only [Option.bind_some, show ¬ ((6 : Int) = 0) by decide, if_false]
      rcases cc_other (b' := b) z1 with z2 | z2
      · obtain ⟨_, b1, b2⟩ := cc_zero z2
        rw [if_neg (show ¬ (cc l start o e b ≠ 0) from fun h => h z2), e1]
        obtain ⟨out, code, t', r1, r2, r3⟩ := search_ok tk l.length [] start (start + 191) b (by simp) hP0 hL0 (by omega) b2
        rw [r1]
        simp only [Option.bind_some]
        by_cases c0 : code = 0
        · obtain ⟨p1, p2⟩ := r2 c0
          obtain ⟨x, k, y1, y2⟩ := end_ok tk p1 p2
          rw [if_pos c0, if_pos c0, is_plan tk p1 p2]
          simp only [Option.bind_some, Bool.not_true, Bool.false_eq_true, if_false]
          rw [y1, work_eq tk]
          simp only [Option.bind_some]
          have n1 := Sw_num tk.cn l.length (Nat.le_refl _)
          have l8 := tk.len
          have e2 : w64 (start + Sw l l.length) = start + Sw l l.length := w64_id (by omega) (by omega)
          rw [if_neg, nl]
          rintro (h | ⟨h1, h2, h3⟩)
          · exact h rfl
          · have := y2 h1 (by omega)
            rw [e2] at h3
            omega
        · rw [if_neg c0, if_neg c0]
          exact nl
      · rw [if_pos (show cc l start o e b ≠ 0 by rw [z2]; decide), z2]
        exact nl
  · rw [if_pos z1]
    simp only [Option.bind_some]
    simp only [if_neg z1]
    by_cases z2 : cc l start o e b = 0
    · exfalso
      apply z1
      unfold cc at z2 ⊢
      split at z2
      · rename_i cA
        rw [if_pos cA]
        split at z2
        · rename_i cB
          split at z2
          · cases z2
          · rename_i cL
            simp only [Bool.and_eq_true, decide_eq_true_eq] at cB
            rw [if_pos (by simp only [Bool.and_eq_true, decide_eq_true_eq]; exact ⟨⟨by omega, by omega⟩, cB.2⟩), if_neg cL]
        · cases z2
      · cases z2
    · rw [if_pos z2]
      simp only [Option.bind_some, if_neg z2, Bool.false_eq_true, if_false]
      exact nl

end Go.Pw
