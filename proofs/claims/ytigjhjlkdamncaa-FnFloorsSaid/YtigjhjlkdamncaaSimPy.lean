/- Further laws of the plain words: sizes, marks. Conditions: none. -/
import Derived.Test.YtigjhjlkdamncaaSimPx
namespace Go.Pw
set_option linter.unusedVariables false

/-- The size of a list is told. -/
theorem szL {α : Type} {f : Int × Int → Option ((Int × Int) ⊕ (Int ⊕ Int))} (l : List α) (hl : l.length < 4611686018427387904) (C : Int)
    (h1 : ∀ (i : Nat) (hi : i < l.length) (left : Int), 0 ≤ left → left ≤ C → ∃ v, v ≤ left ∧ f (left, (i : Int)) = if v < 0 then some (.inr (.inr (-1))) else some (.inl (v, w64 ((i : Int) + 1))))
    (h2 : ∀ left, f (left, (l.length : Int)) = some (.inr (.inl left))) {left : Int} (h3 : 0 ≤ left) (h4 : left ≤ C) :
    ∃ r, loopO f (left, 0) = some r ∧ (r = .inr (-1) ∨ ∃ v, r = .inl v ∧ 0 ≤ v ∧ v ≤ left) := by
  have key : ∀ (m i : Nat) (u : Int), i + m = l.length → 0 ≤ u → u ≤ left → ∃ r, loopO f (u, (i : Int)) = some r ∧ (r = .inr (-1) ∨ ∃ v, r = .inl v ∧ 0 ≤ v ∧ v ≤ left) := by
    intro m
    induction m with
    | zero =>
      intro i u hi h0 hu
      obtain rfl : i = l.length := by omega
      exact ⟨.inl u, loopO_done (h2 u), .inr ⟨u, rfl, h0, hu⟩⟩
    | succ m ih =>
      intro i u hi h0 hu
      obtain ⟨v, v1, v2⟩ := h1 i (by omega) u h0 (by omega)
      by_cases c : v < 0
      · rw [if_pos c] at v2
        exact ⟨.inr (-1), loopO_done v2, .inl rfl⟩
      · rw [if_neg c, w64_succ (by omega)] at v2
        obtain ⟨r, r1, r2⟩ := ih (i + 1) v (by omega) (by omega) (by omega)
        exact ⟨r, by rw [loopO_next v2]; exact r1, r2⟩
  exact key l.length 0 left (by omega) h3 (by omega)

/-- The elements of a list are marked. -/
theorem markL {α : Type} {f : Int × Int × List α → Option ((Int × Int × List α) ⊕ (Int × List α))} {c : Nat} (K : Int)
    (h1 : ∀ (k : Int) (i : Nat) (out : List α), i < out.length → 0 ≤ k → k ≤ K → ∃ k' out', out'.length = out.length ∧ k ≤ k' ∧ k' ≤ k + c ∧ f (k, (i : Int), out) = some (.inl (k', w64 ((i : Int) + 1), out')))
    (h2 : ∀ k out, f (k, (out.length : Int), out) = some (.inr (k, out))) (l : List α) {k0 : Int} (hk : 0 ≤ k0) (hK : k0 + ((c * l.length : Nat) : Int) ≤ K) (hl : l.length < 4611686018427387904) :
    ∃ k' out', loopO f (k0, 0, l) = some (k', out') ∧ k0 ≤ k' ∧ out'.length = l.length := by
  have key : ∀ (m i : Nat) (k : Int) (out : List α), i + m = l.length → out.length = l.length → k0 ≤ k → k ≤ k0 + ((c * i : Nat) : Int) → ∃ k' out', loopO f (k, (i : Int), out) = some (k', out') ∧ k0 ≤ k' ∧ out'.length = l.length := by
    intro m
    induction m with
    | zero =>
      intro i k out hi ho hk1 hk2
      have e : (i : Int) = (out.length : Int) := by omega
      exact ⟨k, out, loopO_done (by rw [e]; exact h2 k out), hk1, ho⟩
    | succ m ih =>
      intro i k out hi ho hk1 hk2
      have m1 : c * i ≤ c * l.length := Nat.mul_le_mul_left c (by omega)
      obtain ⟨k', out', q1, q2, q3, q4⟩ := h1 k i out (by omega) (by omega) (by omega)
      rw [w64_succ (by omega)] at q4
      have m2 : c * (i + 1) = c * i + c := Nat.mul_succ c i
      obtain ⟨k2, o2, r1, r2, r3⟩ := ih (i + 1) k' out' (by omega) (by omega) (by omega) (by omega)
      exact ⟨k2, o2, by rw [loopO_next q4]; exact r1, r2, r3⟩
  exact key l.length 0 k0 l (by omega) rfl (by omega) (by simp)

theorem fixO_iff {α β : Type} {F : (α → Option β) → α → Option β} (hF : ∀ x, Fs (fun f => F f x)) {x : α} {r : β} : fixO F x = some r ↔ ∃ n, iterO F n x = some r :=
  ⟨fixO_iter, fun ⟨_, h⟩ => fixO_of hF h⟩

/-- Two loops step by step alike. -/
theorem loopO_sim {σ τ ρ ρ' : Type} {f : σ → Option (σ ⊕ ρ)} {g : τ → Option (τ ⊕ ρ')} (φ : σ → τ) (ψ : ρ → ρ') (h : ∀ s, g (φ s) = (f s).map (Sum.map φ ψ)) (s : σ) : loopO g (φ s) = (loopO f s).map ψ := by
  have key : ∀ n s, iterO (loopF g) n (φ s) = (iterO (loopF f) n s).map ψ := by
    intro n
    induction n with
    | zero => intro s; rfl
    | succ n ih =>
      intro s
      simp only [iterO, loopF, h]
      cases hf : f s with
      | none => rfl
      | some o =>
        cases o with
        | inl s' => simpa using ih s'
        | inr r => rfl
  cases hx : loopO f s with
  | some r =>
    obtain ⟨n, hn⟩ := loopO_iter hx
    exact fixO_of (loopF_fs g) (n := n) (by rw [key, hn]; rfl)
  | none =>
    cases hy : loopO g (φ s) with
    | none => rfl
    | some r =>
      obtain ⟨n, hn⟩ := loopO_iter hy
      rw [key] at hn
      obtain ⟨r', h1, _⟩ := Option.map_eq_some_iff.1 hn
      have : loopO f s = some r' := fixO_of (loopF_fs f) h1
      rw [hx] at this
      cases this

theorem loopO_congr {σ ρ : Type} {f g : σ → Option (σ ⊕ ρ)} (h : ∀ s, g s = f s) (s : σ) : loopO g s = loopO f s := by
  rw [funext h]

/-- A list is looked through for what does not hold. -/
theorem scanAll {α ρ : Type} {f : Int → Option (Int ⊕ (Unit ⊕ ρ))} (l : List α) (p : α → Bool) (R : Nat → ρ) (hl : l.length < 4611686018427387904)
    (h1 : ∀ (i : Nat) (hi : i < l.length), f (i : Int) = if p l[i] = true then some (.inl (w64 ((i : Int) + 1))) else some (.inr (.inr (R i)))) (h2 : f (l.length : Int) = some (.inr (.inl ()))) :
    (l.all p = true ∧ loopO f 0 = some (.inl ())) ∨ (l.all p = false ∧ ∃ i, i < l.length ∧ loopO f 0 = some (.inr (R i))) := by
  have key : ∀ (m i : Nat), i + m = l.length → ((l.drop i).all p = true ∧ loopO f (i : Int) = some (.inl ())) ∨ ((l.drop i).all p = false ∧ ∃ j, j < l.length ∧ loopO f (i : Int) = some (.inr (R j))) := by
    intro m
    induction m with
    | zero =>
      intro i hi
      obtain rfl : i = l.length := by omega
      exact .inl ⟨by rw [List.drop_length]; rfl, loopO_done h2⟩
    | succ m ih =>
      intro i hi
      have hi' : i < l.length := by omega
      have hd : l.drop i = l[i] :: l.drop (i + 1) := List.drop_eq_getElem_cons hi'
      have h := h1 i hi'
      rw [w64_succ (by omega)] at h
      cases hp : p l[i] with
      | false =>
        rw [hp, if_neg (by decide)] at h
        exact .inr ⟨by rw [hd, List.all_cons, hp]; rfl, i, hi', loopO_done h⟩
      | true =>
        rw [hp, if_pos rfl] at h
        rw [hd, List.all_cons, hp, Bool.true_and, loopO_next h]
        exact ih (i + 1) (by omega)
  have := key l.length 0 (by omega)
  simpa using this

/-- A search that ends. -/
theorem scanEnds {ρ : Type} {f : Int → Option (Int ⊕ ρ)} (n : Nat) (hn : n < 4611686018427387904) (h1 : ∀ i : Nat, i < n → f (i : Int) = some (.inl (w64 ((i : Int) + 1))) ∨ ∃ r, f (i : Int) = some (.inr r)) (h2 : ∃ r, f (n : Int) = some (.inr r)) : ∃ r, loopO f 0 = some r := by
  have key : ∀ (m i : Nat), i + m = n → ∃ r, loopO f (i : Int) = some r := by
    intro m
    induction m with
    | zero =>
      intro i hi
      obtain rfl : i = n := by omega
      obtain ⟨r, hr⟩ := h2
      exact ⟨r, loopO_done hr⟩
    | succ m ih =>
      intro i hi
      rcases h1 i (by omega) with h | ⟨r, h⟩
      · rw [w64_succ (by omega)] at h
        obtain ⟨r, hr⟩ := ih (i + 1) (by omega)
        exact ⟨r, by rw [loopO_next h]; exact hr⟩
      · exact ⟨r, loopO_done h⟩
  exact key n 0 (by omega)

theorem bt_some {s : ByteArray} {i : Nat} (h : i < s.size) : ∃ b : Int, bt s (i : Int) = some b ∧ 0 ≤ b ∧ b ≤ 255 := by
  unfold bt
  rw [if_pos (by omega)]
  have hl : i < s.data.toList.length := by simpa using h
  refine ⟨(s.data.toList[i].toNat : Int), ?_, by omega, ?_⟩
  · rw [Int.toNat_natCast, List.getElem?_eq_getElem hl]
    rfl
  · have := s.data.toList[i].toNat_lt
    omega

theorem size_zero {s : ByteArray} (h : s.size = 0) : s = ⟨#[]⟩ := by
  cases s with
  | mk d =>
    have : d.size = 0 := h
    rw [Array.size_eq_zero_iff.1 this]

theorem apdn {α : Type} {b : Nat} {l m : List α} (h : (l.length + m.length) * b ≤ 140737488355328) : apd b l m = some (l ++ m) := by
  unfold apd
  rw [if_pos h]

end Go.Pw
