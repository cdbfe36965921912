/- The plain law of FnExactFirstCoatPlan. Conditions: none. -/
import Derived.Test.YtigjhjlkdamncaaTcpT
import Derived.Test.YtigjhjlkdamncaaSimPy
namespace Go.Pw
set_option linter.unusedVariables false
set_option linter.unusedSimpArgs false

theorem within_eq (n a b : Int) : impl_within n a b = some (decide (a ≤ n ∧ n ≤ b)) := by
  unfold impl_within
  rw [Bool.decide_and]
theorem in_eq (n a b : Int) : spec_l00In n a b = some (decide (a ≤ n ∧ n ≤ b)) := by
  unfold spec_l00In
  rw [Bool.decide_and]

/-- Names: both sides say the same. -/
theorem name_step (s : ByteArray) (i : Int) : impl_IsName_l4 s i = spec_l01Name_l4 s i := by
  unfold impl_IsName_l4 spec_l01Name_l4
  by_cases c : i < (s.size : Int)
  · rw [if_pos c, if_pos c]
    cases bt s i with
    | none => rfl
    | some x =>
      have d1 : decide (x ≥ 97) = !decide (x < 97) := by rw [← decide_not]; exact decide_eq_decide.2 (by omega)
      have d2 : decide (x ≤ 122) = !decide (x > 122) := by rw [← decide_not]; exact decide_eq_decide.2 (by omega)
      have d3 : decide (x ≥ 48) = !decide (x < 48) := by rw [← decide_not]; exact decide_eq_decide.2 (by omega)
      have d4 : decide (x ≤ 57) = !decide (x > 57) := by rw [← decide_not]; exact decide_eq_decide.2 (by omega)
      simp only [Option.bind_some, spec_l01Small, spec_l01Digit, d1, d2, d3, d4]
      by_cases c1 : x < 97 <;> by_cases c2 : x > 122 <;> by_cases c3 : x < 48 <;> by_cases c4 : x > 57 <;> simp [c1, c2, c3, c4]
  · rw [if_neg c, if_neg c]

theorem name_eq (s : ByteArray) : ∃ v, spec_l01Name s = some v ∧ impl_IsName s = some v := by
  unfold spec_l01Name impl_IsName
  by_cases c0 : s.size = 0
  · have hs := size_zero c0
    refine ⟨false, ?_, ?_⟩
    · rw [if_pos hs]; rfl
    · rw [if_pos (by omega)]; rfl
  · have hs : ¬ s = ⟨#[]⟩ := fun h => c0 (by rw [h]; rfl)
    rw [if_neg hs, if_neg (show ¬ ((s.size : Int) < 1) by omega)]
    by_cases c1 : (s.size : Int) > 10
    · rw [if_pos c1, if_pos c1]
      exact ⟨false, rfl, rfl⟩
    · rw [if_neg c1, if_neg c1]
      obtain ⟨b, hb, hb1, hb2⟩ := bt_some (s := s) (i := 0) (by omega)
      have hb' : bt s 0 = some b := hb
      rw [hb']
      have hloop : ∃ o, loopO (spec_l01Name_l4 s) 0 = some o := by
        refine scanEnds s.size (by omega) (fun i hi => ?_) ⟨.inl (), ?_⟩
        · obtain ⟨x, hx, _⟩ := bt_some (s := s) hi
          unfold spec_l01Name_l4
          rw [if_pos (by omega), hx]
          simp only [Option.bind_some, spec_l01Small, spec_l01Digit]
          split
          · simp
          · simp only [Option.bind_some]
            split
            · exact .inr ⟨_, rfl⟩
            · exact .inl rfl
        · unfold spec_l01Name_l4
          rw [if_neg (by omega)]
      obtain ⟨o, ho⟩ := hloop
      have ho2 : loopO (impl_IsName_l4 s) 0 = some o := by rw [loopO_congr (name_step s)]; exact ho
      rw [ho, ho2]
      have e : (if b < 97 then some true else some (decide (b > 122))) = some (!(decide (b ≥ 97) && decide (b ≤ 122))) := by
        have d1 : decide (b ≥ 97) = !decide (b < 97) := by rw [← decide_not]; exact decide_eq_decide.2 (by omega)
        have d2 : decide (b ≤ 122) = !decide (b > 122) := by rw [← decide_not]; exact decide_eq_decide.2 (by omega)
        rw [d1, d2]
        by_cases c2 : b < 97 <;> by_cases c3 : b > 122 <;> simp [c2, c3]
      simp only [Option.bind_some, spec_l01Small]
      rw [e]
      simp only [Option.bind_some]
      split
      · exact ⟨false, rfl, rfl⟩
      · cases o with
        | inl u => exact ⟨true, rfl, rfl⟩
        | inr r => exact ⟨r, rfl, rfl⟩

/-- What a valid coat is, in numbers. -/
def Cn (c : S_Coat) : Prop := (1 ≤ c.Work ∧ c.Work ≤ 32) ∧ (0 ≤ c.Dry ∧ c.Dry ≤ 400) ∧ (c.Dry ≤ c.Wait ∧ c.Wait ≤ 800)

theorem coat_eq (c : S_Coat) : ∃ v : Bool, spec_l22One c = some v ∧ impl_ValidCoat c = some v ∧ (v = true → Cn c) := by
  obtain ⟨n, n1, n2⟩ := name_eq c.Name
  unfold spec_l22One impl_ValidCoat Cn
  simp only [n1, n2, in_eq, within_eq, Option.bind_some]
  cases n with
  | false => exact ⟨false, rfl, rfl, fun h => by cases h⟩
  | true =>
    simp only [if_true, decide_eq_true_eq]
    by_cases c1 : 1 ≤ c.Work ∧ c.Work ≤ 32
    · by_cases c2 : 0 ≤ c.Dry ∧ c.Dry ≤ 400
      · by_cases c3 : c.Dry ≤ c.Wait ∧ c.Wait ≤ 800
        · exact ⟨true, by simp [c1, c2, c3], by simp [c1, c2, c3], fun _ => ⟨c1, c2, c3⟩⟩
        · exact ⟨false, by simp only [if_pos c1, if_pos c2, Option.bind_some, decide_eq_false c3], by simp only [if_pos c1, if_pos c2, Option.bind_some, decide_eq_false c3], fun h => by cases h⟩
      · exact ⟨false, by simp only [if_pos c1, if_neg c2, Option.bind_some], by simp only [if_pos c1, if_neg c2, Option.bind_some], fun h => by cases h⟩
    · exact ⟨false, by simp only [if_neg c1, Option.bind_some], by simp only [if_neg c1, Option.bind_some], fun h => by cases h⟩

noncomputable def Vc (c : S_Coat) : Bool := Classical.choose (coat_eq c)
theorem Vc_spec (c : S_Coat) : spec_l22One c = some (Vc c) := (Classical.choose_spec (coat_eq c)).1
theorem Vc_impl (c : S_Coat) : impl_ValidCoat c = some (Vc c) := (Classical.choose_spec (coat_eq c)).2.1
theorem Vc_num (c : S_Coat) (h : Vc c = true) : Cn c := (Classical.choose_spec (coat_eq c)).2.2 h

theorem ok_spec (l : List S_Coat) (hl : l.length ≤ 1048576) : spec_l22Ok l = some (l.all Vc && decide (l.length ≤ 8)) := by
  unfold spec_l22Ok
  have k1 : ∀ (i : Nat) (hi : i < l.length), spec_l22Ok_l2 l (i : Int) = if Vc l[i] = true then some (.inl (w64 ((i : Int) + 1))) else some (.inr (.inr false)) := by
    intro i hi
    unfold spec_l22Ok_l2
    rw [if_pos (by omega), rd_lt hi, Option.bind_some, Vc_spec, Option.bind_some]
  have k2 : spec_l22Ok_l2 l (l.length : Int) = some (.inr (.inl ())) := by
    unfold spec_l22Ok_l2
    rw [if_neg (by omega)]
  rcases scanAll l Vc (fun _ => false) (by omega) k1 k2 with ⟨h1, h2⟩ | ⟨h1, i, hi, h2⟩
  · rw [h2, h1]
    have e : decide ((l.length : Int) ≤ 8) = decide (l.length ≤ 8) := decide_eq_decide.2 (by omega)
    simp only [Option.bind_some, e, Bool.true_and]
  · rw [h2, h1]
    rfl

/-- Whether some element is so. -/
theorem has_eq (l : List S_Coat) (hl : l.length ≤ 1048576) {f : S_Coat → Option Bool} {p : S_Coat → Bool} (hp : ∀ c ∈ l, f c = some (p c)) : slices_ContainsFunc_impl_Coat_impl_Coat l f = some (!(l.all fun c => !p c)) := by
  unfold slices_ContainsFunc_impl_Coat_impl_Coat slices_IndexFunc_impl_Coat_impl_Coat
  have k1 : ∀ (i : Nat) (hi : i < l.length), slices_IndexFunc_impl_Coat_impl_Coat_l2 f l (i : Int) = if (!p l[i]) = true then some (.inl (w64 ((i : Int) + 1))) else some (.inr (.inr (i : Int))) := by
    intro i hi
    unfold slices_IndexFunc_impl_Coat_impl_Coat_l2
    rw [if_pos (by omega), rd_lt hi, Option.bind_some, hp _ (List.getElem_mem hi), Option.bind_some]
    cases p l[i] <;> rfl
  have k2 : slices_IndexFunc_impl_Coat_impl_Coat_l2 f l (l.length : Int) = some (.inr (.inl ())) := by
    unfold slices_IndexFunc_impl_Coat_impl_Coat_l2
    rw [if_neg (by omega)]
  rcases scanAll l (fun c => !p c) (fun i => (i : Int)) (by omega) k1 k2 with ⟨h1, h2⟩ | ⟨h1, i, hi, h2⟩
  · rw [h2, h1]
    rfl
  · rw [h2, h1]
    simp

theorem ok_impl (l : List S_Coat) (hl : l.length ≤ 1048576) : impl_ValidCoats l = some (l.all Vc && decide (l.length ≤ 8)) := by
  unfold impl_ValidCoats
  rw [has_eq l hl (f := fun a0 => impl_ValidCoats_c1 a0) (p := fun c => !Vc c) (fun c _ => by unfold impl_ValidCoats_c1; rw [Vc_impl]; rfl)]
  simp only [Bool.not_not, Option.bind_some]
  have e : decide ((l.length : Int) ≤ 8) = decide (l.length ≤ 8) := decide_eq_decide.2 (by omega)
  by_cases c : (l.length : Int) ≤ 8
  · rw [if_pos c, ← e, decide_eq_true c, Bool.and_true]
    rfl
  · rw [if_neg c, ← e, decide_eq_false c, Bool.and_false]
    rfl

/-- The search. -/
theorem can_eq (t o e w : Int) : ∃ v : Bool, spec_l22Can t o e w = some v ∧ impl_inHours t o e w = some v := by
  unfold spec_l22Can impl_inHours
  have hm : md t 96 = some (t.tmod 96) := by unfold md; rw [if_neg (by decide)]
  rw [hm]
  simp only [Option.bind_some]
  refine ⟨_, rfl, ?_⟩
  by_cases c : t.tmod 96 ≥ o
  · rw [if_pos c, decide_eq_true c]
    rfl
  · rw [if_neg c, decide_eq_false c]
    rfl

theorem apd1 {l : List Int} {x : Int} (h : l.length ≤ 1000000) : apd 8 l [x] = some (l ++ [x]) := by
  unfold apd
  rw [if_pos (by simp; omega)]
theorem apd0 {l : List Int} (h : l.length ≤ 1000000) : apd 8 ([] : List Int) l = some l := by
  unfold apd
  rw [if_pos (by simp; omega)]
  rfl

abbrev FS := S_l22Search → Option (Bool × S_l22Search)
abbrev FI := (S_coatSearch × List Int × Int × Int) → Option (List Int × Int × S_coatSearch)

theorem fs_spec (x : S_l22Search) : Fs (fun self : FS => spec_l22Search_run_F self x) := by
  have hk : ∀ a b, Fs (fun self : FS => spec_l22Search_run_k10 self x a b) := by
    intro a b
    unfold spec_l22Search_run_k10
    refine Fs.bind (Fs.loop (fun s => ?_) _) fun o => Fs.const _
    obtain ⟨a1, a2, a3, a4, a5, a6, a7, a8, a9⟩ := s
    unfold spec_l22Search_run_l11
    have h16 : ∀ f, Fs (fun self : FS => spec_l22Search_run_k16 self a1 x a2 a3 a4 a5 a6 a7 a8 f) := by
      intro f
      unfold spec_l22Search_run_k16
      refine Fs.ite (Fs.const _) (Fs.bind (Fs.const _) fun _ => Fs.bind (Fs.app _) fun z => Fs.ite (Fs.const _) (Fs.bind (Fs.const _) fun _ => ?_))
      unfold spec_l22Search_run_k12
      exact Fs.const _
    exact Fs.ite (Fs.bind (Fs.const _) fun _ => Fs.bind (Fs.const _) fun _ => Fs.ite (Fs.ite (h16 _) (h16 _)) (by unfold spec_l22Search_run_k12; exact Fs.const _)) (Fs.const _)
  unfold spec_l22Search_run_F
  exact Fs.ite (Fs.const _) (Fs.ite (Fs.bind (Fs.const _) fun _ => Fs.bind (Fs.const _) fun _ => Fs.bind (Fs.const _) fun _ => Fs.bind (Fs.const _) fun _ => hk _ _) (hk _ _))

theorem fs_impl (x : S_coatSearch) (F : List Int) (a b : Int) : Fs (fun self : FI => impl_coatSearch_run_F self x F a b) := by
  unfold impl_coatSearch_run_F
  refine Fs.ite (Fs.const _) (Fs.bind (Fs.const _) fun c => Fs.bind (Fs.loop (fun s => ?_) _) fun o => Fs.const _)
  obtain ⟨a1, a2, a3, a4, a5⟩ := s
  unfold impl_coatSearch_run_l5 impl_coatSearch_run_k6
  exact Fs.ite (Fs.bind (Fs.const _) fun _ => Fs.ite (Fs.ite (Fs.const _) (Fs.bind (Fs.const _) fun _ => Fs.bind (Fs.const _) fun _ => Fs.bind (Fs.app _) fun _ => Fs.const _)) (Fs.const _)) (Fs.const _)

noncomputable abbrev SS : FS := fun s => spec_l22Search_run s
noncomputable abbrev SI : FI := fun s => impl_coatSearch_run s.1 s.2.1 s.2.2.1 s.2.2.2

theorem cp_specE (x : S_l22Search) : spec_l22Search_run x = spec_l22Search_run_F SS x := by
  show fixO _ _ = _
  rw [fixO_eq]
  · rfl
  · exact fs_spec

theorem cp_implE (x : S_coatSearch) (F : List Int) (a b : Int) : impl_coatSearch_run x F a b = impl_coatSearch_run_F SI x F a b := by
  show fixO _ _ = _
  rw [fixO_eq]
  · rfl
  · rintro ⟨x, F, a, b⟩
    exact fs_impl x F a b

section
variable {l : List S_Coat} {start o e b : Int}

abbrev ss (l : List S_Coat) (start o e b : Int) (F : List Int) (nodes : Int) (full : Bool) : S_l22Search := ⟨l, start, o, e, F, nodes, b, full⟩
abbrev ts (l : List S_Coat) (start o e b t : Int) (F : List Int) (nodes : Int) (full : Bool) := (t, l, start, o, e, F, nodes, b, full)
abbrev tr (l : List S_Coat) (start o e b : Int) (F : List Int) (nodes : Int) (full : Bool) := (l, start, o, e, F, nodes, b, full)

/-- Once the budget is spent. -/
theorem cp_full {F : List Int} {high : Int} {x0 : S_l22Search} (hx0 : x0.begins = F) {c : S_Coat} (hc : l[F.length]? = some c) (hh : high ≤ 1000000) (nodes : Int) :
    ∀ (m : Nat) (t : Int), (high - t + 1).toNat ≤ m → 0 ≤ t → t ≤ 1000001 →
      loopO (spec_l22Search_run_l11 SS high x0) (ts l start o e b t F nodes true) = some (.inl (tr l start o e b F nodes true)) ∨ loopO (spec_l22Search_run_l11 SS high x0) (ts l start o e b t F nodes true) = some (.inr (false, ss l start o e b F nodes true)) := by
  intro m
  induction m with
  | zero =>
    intro t hm h0 h1
    refine .inl (loopO_done ?_)
    unfold spec_l22Search_run_l11
    simp only
    rw [if_neg (by omega)]
  | succ m ih =>
    intro t hm h0 h1
    by_cases c0 : t ≤ high
    · obtain ⟨v, v1, v2⟩ := can_eq t o e c.Work
      have hr : rd l (x0.begins.length : Int) = some c := by rw [hx0, rd_nat]; exact hc
      have S1 : spec_l22Search_run_l11 SS high x0 (ts l start o e b t F nodes true) = if v = true then some (.inr (.inr (false, ss l start o e b F nodes true))) else some (.inl (ts l start o e b (w64 (t + 1)) F nodes true)) := by
        unfold spec_l22Search_run_l11 spec_l22Search_run_k16 spec_l22Search_run_k12
        simp only
        rw [if_pos c0, hr, Option.bind_some, v1, Option.bind_some]
        simp only [if_true, ite_self]
      cases v with
      | true =>
        rw [if_pos rfl] at S1
        exact .inr (loopO_done S1)
      | false =>
        rw [if_neg (by decide), w64_id (by omega) (by omega)] at S1
        rw [loopO_next S1]
        exact ih (t + 1) (by omega) (by omega) (by omega)
    · refine .inl (loopO_done ?_)
      unfold spec_l22Search_run_l11
      simp only
      rw [if_neg c0]

/-- What comes of a search on both sides. -/
def Ot (l : List S_Coat) (start o e b : Int) (F : List Int) (res : Bool) (s' : S_l22Search) (out : List Int) (code : Int) (t' : S_coatSearch) : Prop :=
  (res = true ∧ code = 0 ∧ s'.begins = out ∧ out.length ≤ 8) ∨
  (res = false ∧ code = 3 ∧ out = [] ∧ ∃ nodes, s' = ss l start o e b F nodes false ∧ t' = ⟨l, o, e, b - nodes⟩ ∧ 0 ≤ nodes ∧ nodes ≤ b) ∨
  (res = false ∧ code = 5 ∧ out = [] ∧ ∃ nodes, s' = ss l start o e b F nodes true)

theorem cp_loop {F : List Int} {least latest : Int} {x0 : S_l22Search} (hx0 : x0.begins = F) {c : S_Coat} (hc : l[F.length]? = some c) (hn : Cn c) (hb1 : 1 ≤ b) (hb2 : b ≤ 20000) (hF : F.length ≤ 8) (hh : latest ≤ 110000) (h0 : 0 ≤ least)
    (IH : ∀ (t nodes : Int), 0 ≤ t → t ≤ latest → 0 ≤ nodes → nodes ≤ b →
      ∃ res s' out code t', spec_l22Search_run (ss l start o e b (F ++ [t]) nodes false) = some (res, s') ∧ impl_coatSearch_run ⟨l, o, e, b - nodes⟩ (F ++ [t]) (t + c.Work + c.Dry) (t + c.Work + c.Wait) = some (out, code, t') ∧ Ot l start o e b (F ++ [t]) res s' out code t') :
    ∀ (m : Nat) (t nodes : Int), (latest - t + 1).toNat ≤ m → 0 ≤ t → t ≤ 1000000 → 0 ≤ nodes → nodes ≤ b →
      (∃ s' out t', loopO (spec_l22Search_run_l11 SS latest x0) (ts l start o e b t F nodes false) = some (.inr (true, s')) ∧ loopO (impl_coatSearch_run_l5 SI F latest c) (t, l, o, e, b - nodes) = some (.inr (out, 0, t')) ∧ s'.begins = out ∧ out.length ≤ 8) ∨
      (∃ nodes', loopO (spec_l22Search_run_l11 SS latest x0) (ts l start o e b t F nodes false) = some (.inl (tr l start o e b F nodes' false)) ∧ loopO (impl_coatSearch_run_l5 SI F latest c) (t, l, o, e, b - nodes) = some (.inl (l, o, e, b - nodes')) ∧ 0 ≤ nodes' ∧ nodes' ≤ b) ∨
      (∃ nodes' t', (loopO (spec_l22Search_run_l11 SS latest x0) (ts l start o e b t F nodes false) = some (.inl (tr l start o e b F nodes' true)) ∨ loopO (spec_l22Search_run_l11 SS latest x0) (ts l start o e b t F nodes false) = some (.inr (false, ss l start o e b F nodes' true))) ∧
        loopO (impl_coatSearch_run_l5 SI F latest c) (t, l, o, e, b - nodes) = some (.inr ([], 5, t'))) := by
  obtain ⟨⟨w1, w2⟩, ⟨d1, d2⟩, ⟨g1, g2⟩⟩ := hn
  have hr : rd l (x0.begins.length : Int) = some c := by rw [hx0, rd_nat]; exact hc
  intro m
  induction m with
  | zero =>
    intro t nodes hm ht0 ht1 hn0 hn1
    refine .inr (.inl ⟨nodes, loopO_done ?_, loopO_done ?_, hn0, hn1⟩)
    · unfold spec_l22Search_run_l11
      simp only
      rw [if_neg (by omega)]
    · unfold impl_coatSearch_run_l5
      simp only
      rw [if_neg (by omega)]
  | succ m ih =>
    intro t nodes hm ht0 ht1 hn0 hn1
    by_cases c0 : t ≤ latest
    · obtain ⟨v, v1, v2⟩ := can_eq t o e c.Work
      have e1 : w64 (t + 1) = t + 1 := w64_id (by omega) (by omega)
      cases v with
      | false =>
        have S1 : spec_l22Search_run_l11 SS latest x0 (ts l start o e b t F nodes false) = some (.inl (ts l start o e b (t + 1) F nodes false)) := by
          unfold spec_l22Search_run_l11 spec_l22Search_run_k12
          simp only
          rw [if_pos c0, hr, Option.bind_some, v1, Option.bind_some, if_neg (by decide), e1]
        have I1 : impl_coatSearch_run_l5 SI F latest c (t, l, o, e, b - nodes) = some (.inl (t + 1, l, o, e, b - nodes)) := by
          unfold impl_coatSearch_run_l5 impl_coatSearch_run_k6
          simp only
          rw [if_pos c0, v2, Option.bind_some, if_neg (by decide), e1]
        rw [loopO_next S1, loopO_next I1]
        exact ih _ _ (by omega) (by omega) (by omega) hn0 hn1
      | true =>
        by_cases c2 : nodes = b
        · have S1 : spec_l22Search_run_l11 SS latest x0 (ts l start o e b t F nodes false) = some (.inr (.inr (false, ss l start o e b F nodes true))) := by
            unfold spec_l22Search_run_l11 spec_l22Search_run_k16
            simp only
            rw [if_pos c0, hr, Option.bind_some, v1, Option.bind_some, if_pos rfl, if_pos c2, if_pos trivial]
          have I1 : impl_coatSearch_run_l5 SI F latest c (t, l, o, e, b - nodes) = some (.inr (.inr ([], 5, ⟨l, o, e, b - nodes⟩))) := by
            unfold impl_coatSearch_run_l5
            simp only
            rw [if_pos c0, v2, Option.bind_some, if_pos rfl, if_pos (by omega)]
          exact .inr (.inr ⟨nodes, _, .inr (loopO_done S1), loopO_done I1⟩)
        · obtain ⟨res, s', out, code, t', r1, r2, r3⟩ := IH t (nodes + 1) ht0 c0 (by omega) (by omega)
          have e2 : w64 (nodes + 1) = nodes + 1 := w64_id (by omega) (by omega)
          have e3 : w64 (b - nodes - 1) = b - (nodes + 1) := by rw [w64_id (by omega) (by omega)]; omega
          have e4 : w64 (t + c.Work) = t + c.Work := w64_id (by omega) (by omega)
          have e5 : w64 (t + c.Work + c.Dry) = t + c.Work + c.Dry := w64_id (by omega) (by omega)
          have e6 : w64 (t + c.Work + c.Wait) = t + c.Work + c.Wait := w64_id (by omega) (by omega)
          have r1' : SS ⟨l, start, o, e, F ++ [t], nodes + 1, b, false⟩ = some (res, s') := r1
          have r2' : SI (⟨l, o, e, b - (nodes + 1)⟩, F ++ [t], t + c.Work + c.Dry, t + c.Work + c.Wait) = some (out, code, t') := r2
          have S1 : spec_l22Search_run_l11 SS latest x0 (ts l start o e b t F nodes false) = if res = true then some (.inr (.inr (true, s'))) else ((slc s'.begins 0 (x0.begins.length : Int)).bind fun _ =>
              some (.inl (w64 (t + 1), s'.list, s'.start, s'.open_, s'.end_, ((s'.begins.take ((x0.begins.length : Int).toNat)).drop 0), s'.nodes, s'.budget, s'.full))) := by
            unfold spec_l22Search_run_l11 spec_l22Search_run_k16 spec_l22Search_run_k12
            simp only
            rw [if_pos c0, hr, Option.bind_some, v1, Option.bind_some, if_pos rfl, if_neg c2, if_neg (by decide), apd1 (by omega), Option.bind_some, e2, r1', Option.bind_some]
          have I1 : impl_coatSearch_run_l5 SI F latest c (t, l, o, e, b - nodes) = if code ≠ 3 then some (.inr (.inr (out, code, t'))) else some (.inl (w64 (t + 1), t'.list, t'.open_, t'.end_, t'.left)) := by
            unfold impl_coatSearch_run_l5 impl_coatSearch_run_k6
            simp only
            rw [if_pos c0, v2, Option.bind_some, if_pos rfl, if_neg (by omega), apd0 (by omega), Option.bind_some, apd1 (by omega), Option.bind_some, e3, e4, e5, e6, r2', Option.bind_some]
          have sl : ∀ nd fl, ((slc (ss l start o e b (F ++ [t]) nd fl).begins 0 (x0.begins.length : Int)).bind fun _ =>
              some (Sum.inl (w64 (t + 1), (ss l start o e b (F ++ [t]) nd fl).list, (ss l start o e b (F ++ [t]) nd fl).start, (ss l start o e b (F ++ [t]) nd fl).open_, (ss l start o e b (F ++ [t]) nd fl).end_, (((ss l start o e b (F ++ [t]) nd fl).begins.take ((x0.begins.length : Int).toNat)).drop 0), (ss l start o e b (F ++ [t]) nd fl).nodes, (ss l start o e b (F ++ [t]) nd fl).budget, (ss l start o e b (F ++ [t]) nd fl).full))) =
              (some (.inl (ts l start o e b (t + 1) F nd fl)) : Option ((Int × (List S_Coat) × Int × Int × Int × (List Int) × Int × Int × Bool) ⊕ (((List S_Coat) × Int × Int × Int × (List Int) × Int × Int × Bool) ⊕ (Bool × S_l22Search)))) := by
            intro nd fl
            have q1 : slc (F ++ [t]) 0 (x0.begins.length : Int) = some (((F ++ [t]).take ((x0.begins.length : Int).toNat)).drop 0) := by
              unfold slc
              rw [if_pos ⟨by omega, by omega, by rw [hx0, List.length_append, List.length_singleton]; omega⟩]
              rfl
            have q2 : ((F ++ [t]).take ((x0.begins.length : Int).toNat)).drop 0 = F := by
              rw [hx0, List.drop_zero, Int.toNat_natCast, List.take_left']
              rfl
            simp only [q1, q2, Option.bind_some, e1]
          rcases r3 with ⟨rfl, rfl, r4, r5⟩ | ⟨rfl, rfl, rfl, nodes', rfl, rfl, r6, r7⟩ | ⟨rfl, rfl, rfl, nodes', rfl⟩
          · rw [if_pos rfl] at S1
            rw [if_pos (by decide)] at I1
            exact .inl ⟨s', out, t', loopO_done S1, loopO_done I1, r4, r5⟩
          · rw [if_neg (by decide), sl] at S1
            rw [if_neg (by decide), e1] at I1
            rw [loopO_next S1, loopO_next I1]
            exact ih _ _ (by omega) (by omega) (by omega) r6 r7
          · rw [if_neg (by decide), sl] at S1
            rw [if_pos (by decide)] at I1
            rw [loopO_next S1]
            refine .inr (.inr ⟨nodes', t', ?_, loopO_done I1⟩)
            exact cp_full hx0 hc (by omega) nodes' _ (t + 1) (Nat.le_refl _) (by omega) (by omega)
    · refine .inr (.inl ⟨nodes, loopO_done ?_, loopO_done ?_, hn0, hn1⟩)
      · unfold spec_l22Search_run_l11
        simp only
        rw [if_neg c0]
      · unfold impl_coatSearch_run_l5
        simp only
        rw [if_neg c0]
end

def Lw (l : List S_Coat) (start : Int) (F : List Int) (least latest : Int) : Prop :=
  (F = [] ∧ least = start ∧ latest = start + 191) ∨ ∃ G t c, F = G ++ [t] ∧ l[G.length]? = some c ∧ least = t + c.Work + c.Dry ∧ latest = t + c.Work + c.Wait ∧ 0 ≤ t ∧ t ≤ 100191 + 832 * (G.length : Int)

theorem cp_run {l : List S_Coat} {start o e b : Int} (hv : ∀ c ∈ l, Cn c) (hl : l.length ≤ 8) (hb1 : 1 ≤ b) (hb2 : b ≤ 20000) (hs1 : 0 ≤ start) (hs2 : start ≤ 100000) :
    ∀ (d : Nat) (F : List Int) (least latest nodes : Int), F.length + d = l.length → Lw l start F least latest → 0 ≤ nodes → nodes ≤ b →
      ∃ res s' out code t', spec_l22Search_run (ss l start o e b F nodes false) = some (res, s') ∧ impl_coatSearch_run ⟨l, o, e, b - nodes⟩ F least latest = some (out, code, t') ∧ Ot l start o e b F res s' out code t' := by
  intro d
  induction d with
  | zero =>
    intro F least latest nodes hF hL hn0 hn1
    refine ⟨true, ss l start o e b F nodes false, F, 0, ⟨l, o, e, b - nodes⟩, ?_, ?_, .inl ⟨rfl, rfl, rfl, by omega⟩⟩
    · rw [cp_specE]
      unfold spec_l22Search_run_F
      rw [if_pos (by simp; omega)]
    · rw [cp_implE]
      unfold impl_coatSearch_run_F
      rw [if_pos (by simp; omega)]
  | succ d ih =>
    intro F least latest nodes hF hL hn0 hn1
    have hlt : F.length < l.length := by omega
    have hc : l[F.length]? = some l[F.length] := List.getElem?_eq_getElem hlt
    have hn := hv _ (List.getElem_mem hlt)
    generalize l[F.length] = c at hc hn
    obtain ⟨⟨w1, w2⟩, ⟨d1, d2⟩, ⟨g1, g2⟩⟩ := id hn
    -- bounds, and where the reference begins
    have hb : 0 ≤ least ∧ latest ≤ 110000 ∧ least ≤ 110000 ∧ latest ≤ 100191 + 832 * (F.length : Int) ∧
        ∀ o', loopO (spec_l22Search_run_l11 SS latest (ss l start o e b F nodes false)) (ts l start o e b least F nodes false) = some o' →
          spec_l22Search_run (ss l start o e b F nodes false) = some (match o' with | .inl (a1, a2, a3, a4, a5, a6, a7, a8) => (false, (⟨a1, a2, a3, a4, a5, a6, a7, a8⟩ : S_l22Search)) | .inr r => r) := by
      have k10 : ∀ o', loopO (spec_l22Search_run_l11 SS latest (ss l start o e b F nodes false)) (ts l start o e b least F nodes false) = some o' →
          spec_l22Search_run_k10 SS (ss l start o e b F nodes false) least latest = some (match o' with | .inl (a1, a2, a3, a4, a5, a6, a7, a8) => (false, (⟨a1, a2, a3, a4, a5, a6, a7, a8⟩ : S_l22Search)) | .inr r => r) := by
        intro o' ho
        unfold spec_l22Search_run_k10
        have ho' : loopO (spec_l22Search_run_l11 SS latest (ss l start o e b F nodes false)) (least, l, start, o, e, F, nodes, b, false) = some o' := ho
        simp only [ho', Option.bind_some]
        cases o' with
        | inl t => obtain ⟨a1, a2, a3, a4, a5, a6, a7, a8⟩ := t; rfl
        | inr r => rfl
      rcases hL with ⟨rfl, rfl, rfl⟩ | ⟨G, t, c', rfl, hc', rfl, rfl, ht0, ht1⟩
      · refine ⟨hs1, by omega, by omega, by simp; omega, fun o' ho => ?_⟩
        rw [cp_specE]
        unfold spec_l22Search_run_F
        rw [if_neg (by simp; omega), if_neg (by simp)]
        have e1 : w64 (w64 (least + 192) - 1) = least + 191 := by rw [w64_id (n := least + 192) (by omega) (by omega), w64_id (by omega) (by omega)]; omega
        simp only [e1]
        exact k10 o' ho
      · have hcm : c' ∈ l := List.mem_of_getElem? hc'
        obtain ⟨⟨x1, x2⟩, ⟨x3, x4⟩, ⟨x5, x6⟩⟩ := hv _ hcm
        have hgl : (G ++ [t]).length = G.length + 1 := by simp
        have hgs : G.length ≤ 7 := by omega
        refine ⟨by omega, by omega, by omega, by rw [hgl]; omega, fun o' ho => ?_⟩
        rw [cp_specE]
        unfold spec_l22Search_run_F
        have e1 : w64 (((G ++ [t]).length : Int) - 1) = (G.length : Int) := by rw [w64_id (by omega) (by omega)]; omega
        have e2 : rd (G ++ [t]) (G.length : Int) = some t := by rw [rd_nat]; simp
        have e3 : rd l (G.length : Int) = some c' := by rw [rd_nat]; exact hc'
        have e4 : w64 (t + c'.Work) = t + c'.Work := w64_id (by omega) (by omega)
        have e5 : w64 (t + c'.Work + c'.Dry) = t + c'.Work + c'.Dry := w64_id (by omega) (by omega)
        have e6 : w64 (t + c'.Work + c'.Wait) = t + c'.Work + c'.Wait := w64_id (by omega) (by omega)
        rw [if_neg (show ¬ (((G ++ [t]).length : Int) = (l.length : Int)) by omega), if_pos (show ((G ++ [t]).length : Int) > 0 by omega)]
        simp only [e1, e2, e3, Option.bind_some, e4, e5, e6]
        exact k10 o' ho
    obtain ⟨hb0, hb3, hb5, hb4, hspec⟩ := hb
    have himpl : ∀ o', loopO (impl_coatSearch_run_l5 SI F latest c) (least, l, o, e, b - nodes) = some o' →
        impl_coatSearch_run ⟨l, o, e, b - nodes⟩ F least latest = some (match o' with | .inl (a1, a2, a3, a4) => ([], 3, (⟨a1, a2, a3, a4⟩ : S_coatSearch)) | .inr r => r) := by
      intro o' ho
      rw [cp_implE]
      unfold impl_coatSearch_run_F
      rw [if_neg (by simp; omega)]
      have hr : rd l (F.length : Int) = some c := by rw [rd_nat]; exact hc
      simp only [hr, Option.bind_some, ho]
      cases o' with
      | inl t => obtain ⟨a1, a2, a3, a4⟩ := t; rfl
      | inr r => rfl
    have h8 : F.length ≤ 8 := by omega
    have hlp := cp_loop (l := l) (start := start) (o := o) (e := e) (b := b) (x0 := ss l start o e b F nodes false) rfl hc hn hb1 hb2 h8 hb3 hb0 (fun t nodes ht0 ht1 hn0 hn1 =>
      ih (F ++ [t]) (t + c.Work + c.Dry) (t + c.Work + c.Wait) nodes (by simp; omega) (.inr ⟨F, t, c, rfl, hc, rfl, rfl, ht0, by omega⟩) hn0 hn1) _ least nodes (Nat.le_refl _) hb0 (by omega) hn0 hn1
    rcases hlp with ⟨s', out, t', q1, q2, q3, q4⟩ | ⟨nodes', q1, q2, q3, q4⟩ | ⟨nodes', t', q1, q2⟩
    · exact ⟨_, _, _, _, _, hspec _ q1, himpl _ q2, .inl ⟨rfl, rfl, q3, q4⟩⟩
    · exact ⟨_, _, _, _, _, hspec _ q1, himpl _ q2, .inr (.inl ⟨rfl, rfl, rfl, nodes', rfl, rfl, q3, q4⟩)⟩
    · rcases q1 with q1 | q1
      · exact ⟨_, _, _, _, _, hspec _ q1, himpl _ q2, .inr (.inr ⟨rfl, rfl, rfl, nodes', rfl⟩)⟩
      · exact ⟨_, _, _, _, _, hspec _ q1, himpl _ q2, .inr (.inr ⟨rfl, rfl, rfl, nodes', rfl⟩)⟩

theorem long_spec (l : List S_Coat) (hl : l.length ≤ 1048576) (o e : Int) : spec_l22Long l o e = some (!(l.all fun c => !decide (c.Work > w64 (e - o)))) := by
  unfold spec_l22Long
  have k1 : ∀ (i : Nat) (hi : i < l.length), spec_l22Long_l2 e l o (i : Int) = if (!decide (l[i].Work > w64 (e - o))) = true then some (.inl (w64 ((i : Int) + 1))) else some (.inr (.inr true)) := by
    intro i hi
    unfold spec_l22Long_l2
    rw [if_pos (by omega), rd_lt hi, Option.bind_some]
    by_cases c : l[i].Work > w64 (e - o)
    · rw [if_pos c, decide_eq_true c]; rfl
    · rw [if_neg c, decide_eq_false c]; rfl
  have k2 : spec_l22Long_l2 e l o (l.length : Int) = some (.inr (.inl ())) := by
    unfold spec_l22Long_l2
    rw [if_neg (by omega)]
  rcases scanAll l (fun c => !decide (c.Work > w64 (e - o))) (fun _ => true) (by omega) k1 k2 with ⟨h1, h2⟩ | ⟨h1, i, hi, h2⟩
  · rw [h2, h1]; rfl
  · rw [h2, h1]; rfl

theorem cp_same (l : List S_Coat) (hl : l.length ≤ 1048576) (start o e b : Int) : ∃ (out : List Int) (c : Int), out.length ≤ 100 ∧ spec_FirstCoatPlan l start o e b = some (out, c) ∧ impl_FirstCoatPlan l start o e b = some (out, c) := by
  unfold spec_FirstCoatPlan impl_FirstCoatPlan spec_l22Ask impl_coatsCode spec_l22Time spec_l22Hours impl_areHours spec_FirstCoatPlan_k4
  rw [ok_spec l hl, ok_impl l hl, long_spec l hl, has_eq l hl (f := fun a0 => impl_coatsCode_c1 a0 e o) (p := fun c => decide (c.Work > w64 (e - o))) (fun c _ => rfl)]
  simp only [in_eq, within_eq, Option.bind_some, decide_eq_true_eq]
  by_cases cA : (l.all Vc && decide (l.length ≤ 8)) = true
  · rw [if_pos cA, if_pos cA]
    by_cases cT : 0 ≤ start ∧ start ≤ 100000
    · by_cases cH : (0 ≤ o ∧ o ≤ 96) ∧ w64 (o + 1) ≤ e ∧ e ≤ 96
      · obtain ⟨cH1, cH2⟩ := id cH
        have eo : w64 (o + 1) = o + 1 := w64_id (by omega) (by omega)
        have hx : o < e := by rw [eo] at cH2; omega
        have hy : e ≤ 96 := cH2.2
        have hz : 0 ≤ o := cH1.1
        have hh : (decide (0 ≤ o) && (decide (o < e) && decide (e ≤ 96))) = true := by
          rw [decide_eq_true hx, decide_eq_true hy, decide_eq_true hz]; rfl
        by_cases cB : 1 ≤ b ∧ b ≤ 20000
        · simp only [cT, cH1, cH2, cB, hh, hx, hy, hz, and_self, decide_true, Bool.and_true, Bool.true_and, if_true, Option.bind_some, Bool.not_true, Bool.false_eq_true, if_false, ne_eq, not_true]
          by_cases cL : (!(l.all fun c => !decide (c.Work > w64 (e - o)))) = true
          · rw [if_pos cL, if_pos cL]
            exact ⟨[], 3, by simp, rfl, rfl⟩
          · rw [if_neg cL, if_neg cL]
            simp only [Bool.and_eq_true, decide_eq_true_eq] at cA
            obtain ⟨cA1, cA2⟩ := cA
            have hv : ∀ c ∈ l, Cn c := fun c hc => Vc_num c (List.all_eq_true.1 cA1 c hc)
            have e1 : w64 (w64 (start + 192) - 1) = start + 191 := by rw [w64_id (n := start + 192) (by omega) (by omega), w64_id (by omega) (by omega)]; omega
            obtain ⟨res, s', out, code, t', r1, r2, r3⟩ := cp_run (o := o) (e := e) hv cA2 cB.1 cB.2 cT.1 cT.2 l.length [] start (start + 191) 0 (by simp) (.inl ⟨rfl, rfl, rfl⟩) (by omega) (by omega)
            have r2' : impl_coatSearch_run (⟨l, o, e, b⟩ : S_coatSearch) [] start (start + 191) = some (out, code, t') := by
              have : b - 0 = b := by omega
              rw [this] at r2
              exact r2
            simp only [e1, Option.bind_some, not_true, if_false]
            rw [r1, r2']
            simp only [Option.bind_some]
            rcases r3 with ⟨rfl, rfl, r4, r5⟩ | ⟨rfl, rfl, rfl, nodes', rfl, rfl, _⟩ | ⟨rfl, rfl, rfl, nodes', rfl⟩
            · refine ⟨out, 0, by omega, ?_, rfl⟩
              unfold spec_l00Own
              rw [if_pos rfl, r4, apd0 (by omega)]
              rfl
            · exact ⟨[], 3, by simp, rfl, rfl⟩
            · exact ⟨[], 5, by simp, rfl, rfl⟩
        · simp only [cT, cH1, cH2, cB, hh, hx, hy, hz, Bool.and_true, Bool.true_and, and_self, decide_true, decide_false, if_true, if_false, Option.bind_some, Bool.not_true, Bool.not_false, Bool.false_eq_true]
          exact ⟨[], 2, by simp, rfl, rfl⟩
      · have hh : (decide (0 ≤ o) && (decide (o < e) && decide (e ≤ 96))) = false := by
          rw [Bool.eq_false_iff]
          intro h
          simp only [Bool.and_eq_true, decide_eq_true_eq] at h
          have eo : w64 (o + 1) = o + 1 := w64_id (by omega) (by omega)
          exact cH ⟨by omega, by rw [eo]; omega⟩
        have hs : (if 0 ≤ o ∧ o ≤ 96 then some (decide (w64 (o + 1) ≤ e ∧ e ≤ 96)) else some false) = some false := by
          by_cases c1 : 0 ≤ o ∧ o ≤ 96
          · rw [if_pos c1, decide_eq_false (fun h => cH ⟨c1, h⟩)]
          · rw [if_neg c1]
        simp only [cT, hs, hh, and_self, if_true, Option.bind_some, Bool.not_false]
        refine ⟨[], 2, by simp, rfl, ?_⟩
        by_cases cB : 1 ≤ b ∧ b ≤ 20000
        · simp only [cB, and_self, if_true, Option.bind_some]; rfl
        · simp only [cB, if_false, Option.bind_some]; rfl
    · simp only [cT, if_false, Option.bind_some, if_true]
      refine ⟨[], 2, by simp, rfl, ?_⟩
      by_cases cB : 1 ≤ b ∧ b ≤ 20000
      · simp only [cB, and_self, if_true, Option.bind_some]; rfl
      · simp only [cB, if_false, Option.bind_some]; rfl
  · rw [if_neg cA, if_neg cA]
    exact ⟨[], 1, by simp, rfl, rfl⟩

theorem cp_eqI (l : List Int) (h : l.length ≤ 1048576) : laws_eqInt64S l l = some true := by
  unfold laws_eqInt64S
  rw [if_neg (by simp), eqS_refl (n := l.length) (by omega) ?_ ?_]
  · rfl
  · intro i hi
    unfold laws_eqInt64S_l4
    rw [if_pos (by omega), rd_lt hi]
    simp
  · unfold laws_eqInt64S_l4
    simp

theorem cp_markI (l : List Int) (k : Int) (hk : 0 ≤ k) (h : k + l.length ≤ 1073741824) : laws_markInt64S l k = some (k + (l.length : Int), iota k l.length) := by
  unfold laws_markInt64S
  rw [markInt (f := laws_markInt64S_l2) l (k := k) (by omega) (by omega) ?_ ?_]
  · rfl
  · intro k i out hi
    unfold laws_markInt64S_l2
    simp only
    rw [if_pos (by omega), rd_lt hi]
    simp
  · intro k out
    unfold laws_markInt64S_l2
    simp

theorem cp_held (n : Nat) (k : Int) (hk : 0 ≤ k) (h : k + n ≤ 1073741824) : laws_heldInt64S (iota k n) k = some (k + (n : Int)) := by
  unfold laws_heldInt64S
  rw [heldInt (f := laws_heldInt64S_l2 (iota k n)) (n := n) (k := k) (by omega) (by omega) ?_ ?_]
  · rfl
  · intro i hi
    unfold laws_heldInt64S_l2
    simp only
    rw [if_pos (by rw [iota_length]; omega), rd_nat, iota_get _ _ _ hi]
    simp
  · unfold laws_heldInt64S_l2
    simp [iota_length]

theorem cp_markTextL : ∀ (n : Nat) (k : Int) (out : ByteArray), k.toNat ≤ n → out.size + k.toNat ≤ 4611686018427387904 → ∃ r, loopO laws_markText_l4 (k, out) = some r ∧ r.size ≤ out.size + k.toNat := by
  intro n
  induction n with
  | zero =>
    intro k out h1 h2
    refine ⟨out, loopO_done ?_, by omega⟩
    unfold laws_markText_l4
    simp only
    rw [if_neg (by omega)]
  | succ n ih =>
    intro k out h1 h2
    by_cases c : k > 0
    · have e1 : w64 (k.tdiv 10) = k.tdiv 10 := by
        rw [Int.tdiv_eq_ediv_of_nonneg (by omega)]
        exact w64_id (by omega) (by omega)
      have e2 : k.tdiv 10 = k / 10 := Int.tdiv_eq_ediv_of_nonneg (by omega)
      have hs : ∀ x : Int, (strOf [x]).size = 1 := fun x => rfl
      obtain ⟨r, hr, hr2⟩ := ih (k / 10) (strOf [IntKind.wrap .u8 (w64 (48 + k.tmod 10))] ++ out) (by omega) (by rw [ByteArray.size_append, hs]; omega)
      refine ⟨r, ?_, ?_⟩
      · rw [loopO_next (s' := (k / 10, strOf [IntKind.wrap .u8 (w64 (48 + k.tmod 10))] ++ out)) ?_]
        · exact hr
        · unfold laws_markText_l4 md dv
          simp only
          rw [if_pos c, if_neg (by decide), Option.bind_some, cat_some (by rw [hs]; omega), Option.bind_some, if_neg (by decide), Option.bind_some]
          have e3 : IntKind.wrap .i64 (k.tdiv 10) = k / 10 := by rw [← e2]; exact e1
          rw [e3]
      · rw [ByteArray.size_append, hs] at hr2
        omega
    · refine ⟨out, loopO_done ?_, by omega⟩
      unfold laws_markText_l4
      simp only
      rw [if_neg c]

theorem cp_markText (k : Int) (h : k ≤ 1073741824) : ∃ r, laws_markText k = some r := by
  unfold laws_markText
  split
  · exact ⟨_, rfl⟩
  · obtain ⟨r, hr, hr2⟩ := cp_markTextL k.toNat k ⟨#[]⟩ (Nat.le_refl _) (by show 0 + _ ≤ _; omega)
    have h0 : (⟨#[]⟩ : ByteArray).size = 0 := rfl
    have h1 : (⟨#[109]⟩ : ByteArray).size = 1 := rfl
    rw [hr, Option.bind_some, cat_some (by rw [h1]; omega), Option.bind_some]
    exact ⟨_, rfl⟩

theorem cp_szCoat (x : S_Coat) (left : Int) (h0 : x.Name.size ≤ 9223372036854775807) (h3 : 0 ≤ left) (h4 : left ≤ 1048576) : ∃ v, v ≤ left ∧ laws_szCoat x left = some v := by
  unfold laws_szCoat
  have e0 : w64 (left - (x.Name.size : Int)) = left - (x.Name.size : Int) := w64_id (by omega) (by omega)
  rw [e0]
  by_cases c0 : left - (x.Name.size : Int) < 0
  · rw [if_pos c0]; exact ⟨_, by omega, rfl⟩
  rw [if_neg c0]
  exact ⟨_, by omega, rfl⟩

theorem cp_szCoatS (l : List S_Coat) (hl : l.length ≤ 9223372036854775807) (h : ∀ x ∈ l, x.Name.size ≤ 9223372036854775807) {left : Int} (h0 : 0 ≤ left) (h1 : left ≤ 1048576) :
    ∃ v, v ≤ left ∧ laws_szCoatS l left = some v ∧ (v < 0 ∨ l.length ≤ 1048576) := by
  unfold laws_szCoatS
  have e1 : w64 (left - (l.length : Int)) = left - (l.length : Int) := w64_id (by omega) (by omega)
  rw [e1]
  by_cases c1 : left - (l.length : Int) < 0
  · rw [if_pos c1]; exact ⟨_, by omega, rfl, .inl (by omega)⟩
  rw [if_neg c1]
  obtain ⟨r, r1, r2⟩ := szL (f := laws_szCoatS_l5 l) l (by omega) 1048576 (fun i hi u hu1 hu2 => by
    have hx := h _ (List.getElem_mem hi)
    obtain ⟨v, v1, v2⟩ := cp_szCoat l[i] u hx hu1 hu2
    refine ⟨v, v1, ?_⟩
    unfold laws_szCoatS_l5
    simp only
    rw [if_pos (by omega), rd_lt hi, Option.bind_some, v2, Option.bind_some]) (fun u => by
    unfold laws_szCoatS_l5
    simp only
    rw [if_neg (by omega)]) (left := left - (l.length : Int)) (by omega) (by omega)
  rw [r1]
  rcases r2 with rfl | ⟨v, rfl, r3, r4⟩
  · exact ⟨_, by omega, rfl, .inl (by omega)⟩
  · exact ⟨_, by omega, rfl, .inr (by omega)⟩

theorem cp_toCoatS (l : List S_Coat) (h : l.length ≤ 1048576) : laws_toCoatS l = some l := by
  unfold laws_toCoatS mkl
  rw [if_pos (by constructor <;> omega), Option.bind_some]
  rw [copyS (f := laws_toCoatS_l3 l) l _ (by simp) (by omega) ?_ ?_]
  · rfl
  · intro i hi out ho
    unfold laws_toCoatS_l3 laws_toCoat
    simp only
    rw [if_pos (by omega), rd_lt hi, Option.bind_some, Option.bind_some, rd_lt (by omega : i < out.length), Option.bind_some]
    simp
  · intro out
    unfold laws_toCoatS_l3
    simp

theorem cp_eqCoatS (l : List S_Coat) (h : l.length ≤ 1048576) : laws_eqCoatS l l = some true := by
  unfold laws_eqCoatS
  rw [if_neg (by simp), eqS_refl (n := l.length) (by omega) ?_ ?_]
  · rfl
  · intro i hi
    unfold laws_eqCoatS_l4
    rw [if_pos (by omega), rd_lt hi]
    simp [laws_eqCoat]
  · unfold laws_eqCoatS_l4
    simp

theorem cp_markCoatS (l : List S_Coat) (h : l.length ≤ 1048576) {k0 : Int} (h0 : 0 ≤ k0) (h1 : k0 ≤ 1073741824 - 4 * 1048577) : ∃ k' out', laws_markCoatS l k0 = some (k', out') ∧ k0 ≤ k' ∧ out'.length = l.length := by
  unfold laws_markCoatS
  obtain ⟨k', out', q1, q2, q3⟩ := markL (f := laws_markCoatS_l2) (c := 4) (1073741824 - 4) (fun k i out hi hk1 hk2 => by
      have k0 : w64 (k + 1) = k + 1 := by rw [w64_id (by omega) (by omega)]
      have k1 : w64 (k + 1 + 1) = k + 2 := by rw [w64_id (by omega) (by omega)]; omega
      have k2 : w64 (k + 2 + 1) = k + 3 := by rw [w64_id (by omega) (by omega)]; omega
      have k3 : w64 (k + 3 + 1) = k + 4 := by rw [w64_id (by omega) (by omega)]; omega
      obtain ⟨r0, hr0⟩ := cp_markText (k) (by omega)
      have hget : ∃ o2, laws_markCoatS_l2 (k, (i : Int), out) = some (.inl (k + 4, w64 ((i : Int) + 1), o2)) ∧ o2.length = out.length := by
        unfold laws_markCoatS_l2
        simp only
        rw [if_pos (by omega)]
        simp only [rd_nat, Int.toNat_natCast, List.length_set, List.getElem?_set_self, List.getElem?_eq_getElem hi, hi, Option.bind_some, k0, k1, k2, k3, hr0]
        exact ⟨_, rfl, by simp⟩
      obtain ⟨o2, g1, g2⟩ := hget
      exact ⟨k + 4, o2, g2, by omega, by omega, g1⟩) (fun k out => by
      unfold laws_markCoatS_l2
      simp only
      rw [if_neg (by omega)]) l h0 (by omega) (by omega)
  rw [q1]
  exact ⟨k', out', rfl, q2, q3⟩


theorem law_FirstCoatPlan (l : List S_Coat) (start o e b : Int) (hl : l.length ≤ 9223372036854775807) (h : ∀ x ∈ l, x.Name.size ≤ 9223372036854775807) : laws_FnExactFirstCoatPlan l start o e b = some true := by
  unfold laws_FnExactFirstCoatPlan
  obtain ⟨v, _, hv, hc⟩ := cp_szCoatS l hl h (left := 1048576) (by omega) (by omega)
  rw [hv, Option.bind_some]
  by_cases cv : v < 0
  · rw [if_pos cv]
  · rw [if_neg cv]
    have hn : l.length ≤ 1048576 := by omega
    obtain ⟨r, c, r6, hs, hi⟩ := cp_same l hn start o e b
    obtain ⟨m, mo, hm, hm0, _⟩ := cp_markCoatS l hn (k0 := 1) (by omega) (by omega)
    have e1 := cp_eqI r (by omega)
    have e2 := cp_markI r 1 (by omega) (by omega)
    have e3 := cp_held r.length 1 (by omega) (by omega)
    have hm' : ¬ m < 0 := by omega
    have h3 : ¬ (1 + (r.length : Int) < 0) := by omega
    simp only [cp_toCoatS l hn, hs, hi, e1, cp_eqCoatS l hn, hm, e2, e3, Option.bind_some, if_true, hm', h3, if_false]
    simp

end Go.Pw
