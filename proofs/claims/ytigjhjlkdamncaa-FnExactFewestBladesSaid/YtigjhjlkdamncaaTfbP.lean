/- The plain law of FnExactFewestBlades. Conditions: none. -/
import Derived.Test.YtigjhjlkdamncaaTfbT
import Derived.Test.YtigjhjlkdamncaaSimPy
namespace Go.Pw
set_option linter.unusedVariables false
set_option linter.unusedSimpArgs false

theorem within_eq (n a b : Int) : impl_within n a b = some (decide (a ≤ n ∧ n ≤ b)) := by
  unfold impl_within
  rw [Bool.decide_and]
theorem in_eq (n a b : Int) : spec_l00In n a b = some (decide (a ≤ n ∧ n ≤ b)) := by
  unfold spec_l00In
  rw [Bool.decide_and]

/-- Names: both sides say the same. -/
theorem name_step (s : ByteArray) (i : Int) : impl_IsName_l4 s i = spec_l01Name_l4 s i := by
  unfold impl_IsName_l4 spec_l01Name_l4
  by_cases c : i < (s.size : Int)
  · rw [if_pos c, if_pos c]
    cases bt s i with
    | none => rfl
    | some x =>
      have d1 : decide (x ≥ 97) = !decide (x < 97) := by rw [← decide_not]; exact decide_eq_decide.2 (by omega)
      have d2 : decide (x ≤ 122) = !decide (x > 122) := by rw [← decide_not]; exact decide_eq_decide.2 (by omega)
      have d3 : decide (x ≥ 48) = !decide (x < 48) := by rw [← decide_not]; exact decide_eq_decide.2 (by omega)
      have d4 : decide (x ≤ 57) = !decide (x > 57) := by rw [← decide_not]; exact decide_eq_decide.2 (by omega)
      simp only [Option.bind_some, spec_l01Small, spec_l01Digit, d1, d2, d3, d4]
      by_cases c1 : x < 97 <;> by_cases c2 : x > 122 <;> by_cases c3 : x < 48 <;> by_cases c4 : x > 57 <;> simp [c1, c2, c3, c4]
  · rw [if_neg c, if_neg c]

theorem name_eq (s : ByteArray) : ∃ v, spec_l01Name s = some v ∧ impl_IsName s = some v := by
  unfold spec_l01Name impl_IsName
  by_cases c0 : s.size = 0
  · have hs := size_zero c0
    refine ⟨false, ?_, ?_⟩
    · rw [if_pos hs]; rfl
    · rw [if_pos (by omega)]; rfl
  · have hs : ¬ s = ⟨#[]⟩ := fun h => c0 (by rw [h]; rfl)
    rw [if_neg hs, if_neg (show ¬ ((s.size : Int) < 1) by omega)]
    by_cases c1 : (s.size : Int) > 10
    · rw [if_pos c1, if_pos c1]
      exact ⟨false, rfl, rfl⟩
    · rw [if_neg c1, if_neg c1]
      obtain ⟨b, hb, hb1, hb2⟩ := bt_some (s := s) (i := 0) (by omega)
      have hb' : bt s 0 = some b := hb
      rw [hb']
      have hloop : ∃ o, loopO (spec_l01Name_l4 s) 0 = some o := by
        refine scanEnds s.size (by omega) (fun i hi => ?_) ⟨.inl (), ?_⟩
        · obtain ⟨x, hx, _⟩ := bt_some (s := s) hi
          unfold spec_l01Name_l4
          rw [if_pos (by omega), hx]
          simp only [Option.bind_some, spec_l01Small, spec_l01Digit]
          split
          · simp
          · simp only [Option.bind_some]
            split
            · exact .inr ⟨_, rfl⟩
            · exact .inl rfl
        · unfold spec_l01Name_l4
          rw [if_neg (by omega)]
      obtain ⟨o, ho⟩ := hloop
      have ho2 : loopO (impl_IsName_l4 s) 0 = some o := by rw [loopO_congr (name_step s)]; exact ho
      rw [ho, ho2]
      have e : (if b < 97 then some true else some (decide (b > 122))) = some (!(decide (b ≥ 97) && decide (b ≤ 122))) := by
        have d1 : decide (b ≥ 97) = !decide (b < 97) := by rw [← decide_not]; exact decide_eq_decide.2 (by omega)
        have d2 : decide (b ≤ 122) = !decide (b > 122) := by rw [← decide_not]; exact decide_eq_decide.2 (by omega)
        rw [d1, d2]
        by_cases c2 : b < 97 <;> by_cases c3 : b > 122 <;> simp [c2, c3]
      simp only [Option.bind_some, spec_l01Small]
      rw [e]
      simp only [Option.bind_some]
      split
      · exact ⟨false, rfl, rfl⟩
      · cases o with
        | inl u => exact ⟨true, rfl, rfl⟩
        | inr r => exact ⟨r, rfl, rfl⟩


theorem nm (s : ByteArray) : impl_IsName s = spec_l01Name s := by
  obtain ⟨v, h1, h2⟩ := name_eq s
  rw [h1, h2]

/-- What a valid cutting is, in numbers. -/
def Cn (c : S_Cutting) : Prop := (1 ≤ c.Length ∧ c.Length ≤ 1000000) ∧ (1 ≤ c.Hardness ∧ c.Hardness ≤ 100)

theorem one_eq (c : S_Cutting) : impl_validCutting c = spec_l16One c := by
  unfold impl_validCutting spec_l16One
  rw [nm]
  rfl

theorem one_some (c : S_Cutting) : ∃ v : Bool, spec_l16One c = some v ∧ (v = true → Cn c) := by
  obtain ⟨n, n1, _⟩ := name_eq c.Name
  unfold spec_l16One Cn
  simp only [n1, in_eq, Option.bind_some]
  cases n with
  | false => exact ⟨false, rfl, fun h => by cases h⟩
  | true =>
    simp only [if_true, decide_eq_true_eq]
    by_cases c1 : 1 ≤ c.Length ∧ c.Length ≤ 1000000
    · simp only [if_pos c1, Option.bind_some]
      exact ⟨_, rfl, fun h => ⟨c1, of_decide_eq_true h⟩⟩
    · simp only [if_neg c1, Option.bind_some]
      exact ⟨_, rfl, fun h => by cases h⟩

theorem list_eq (l : List S_Cutting) : impl_ValidCuttings l = spec_l16List l := by
  unfold impl_ValidCuttings spec_l16List
  have : ∀ i, impl_ValidCuttings_l2 l i = spec_l16List_l2 l i := by
    intro i
    unfold impl_ValidCuttings_l2 spec_l16List_l2
    split
    · cases h : rd l i with
      | none => rfl
      | some x =>
        simp only [Option.bind_some, one_eq]
    · rfl
  rw [loopO_congr this]

theorem list_some (l : List S_Cutting) (hl : l.length ≤ 1048576) : ∃ v : Bool, spec_l16List l = some v ∧ (v = true → l.length ≤ 16 ∧ ∀ c ∈ l, Cn c) := by
  unfold spec_l16List
  have key : ∀ (m i : Nat), i + m = l.length → ∃ o, loopO (spec_l16List_l2 l) (i : Int) = some o ∧ ((∃ u, o = .inl u) → ∀ c ∈ l.drop i, Cn c) ∧ (∀ r, o = .inr r → r = false) := by
    intro m
    induction m with
    | zero =>
      intro i hi
      refine ⟨.inl (), loopO_done ?_, fun _ c hc => ?_, fun r h => by cases h⟩
      · unfold spec_l16List_l2
        rw [if_neg (by omega)]
      · rw [show i = l.length by omega, List.drop_length] at hc
        cases hc
    | succ m ih =>
      intro i hi
      have hi' : i < l.length := by omega
      obtain ⟨v, v1, v2⟩ := one_some l[i]
      obtain ⟨o, o1, o2, o3⟩ := ih (i + 1) (by omega)
      have hstep : spec_l16List_l2 l (i : Int) = some (.inl ((i + 1 : Nat) : Int)) ∧ v = true ∨ spec_l16List_l2 l (i : Int) = some (.inr (.inr false)) := by
        unfold spec_l16List_l2
        rw [if_pos (by omega), rd_lt hi']
        simp only [Option.bind_some, v1]
        cases v with
        | false => exact .inr rfl
        | true =>
          simp only [if_true]
          by_cases c0 : (i : Int) > 0
          · rw [if_pos c0]
            have e : w64 ((i : Int) - 1) = ((i - 1 : Nat) : Int) := by rw [w64_id (by omega) (by omega)]; omega
            rw [e, rd_lt (show i - 1 < l.length by omega)]
            simp only [Option.bind_some, w64_succ (show i < 9223372036854775807 by omega)]
            cases Op.bytesLess (l[i - 1]'(by omega)).Name.toList l[i].Name.toList with
            | true => exact .inl ⟨rfl, trivial⟩
            | false => exact .inr rfl
          · rw [if_neg c0]
            simp only [Option.bind_some, w64_succ (show i < 9223372036854775807 by omega)]
            exact .inl ⟨rfl, trivial⟩
      rcases hstep with ⟨h, hv⟩ | h
      · refine ⟨o, by rw [loopO_next h]; exact o1, fun hu c hc => ?_, o3⟩
        rw [List.drop_eq_getElem_cons hi'] at hc
        rcases List.mem_cons.1 hc with rfl | hc
        · exact v2 hv
        · exact o2 hu c hc
      · exact ⟨_, loopO_done h, fun ⟨u, hu⟩ => (by cases hu), fun r hr => by cases hr; rfl⟩
  obtain ⟨o, o1, o2, o3⟩ := key l.length 0 (by omega)
  have o1' : loopO (spec_l16List_l2 l) 0 = some o := o1
  rw [o1']
  cases o with
  | inl u =>
    refine ⟨_, rfl, fun h => ⟨?_, fun c hc => o2 ⟨u, rfl⟩ c hc⟩⟩
    have := of_decide_eq_true h
    omega
  | inr r =>
    obtain rfl := o3 r rfl
    exact ⟨false, rfl, fun h => by cases h⟩

/-- The wear of a cutting. -/
def W (c : S_Cutting) : Int := (c.Length * c.Hardness + 39) / 40

theorem W_num {c : S_Cutting} (h : Cn c) : 1 ≤ W c ∧ W c ≤ 2500001 ∧ spec_l16Wear c = some (W c) ∧ impl_wear c = some (W c) := by
  obtain ⟨⟨l1, l2⟩, ⟨h1, h2⟩⟩ := h
  have p1 : 1 * 1 ≤ c.Length * c.Hardness := Int.mul_le_mul l1 h1 (by omega) (by omega)
  have p2 : c.Length * c.Hardness ≤ 1000000 * 100 := Int.mul_le_mul l2 h2 (by omega) (by omega)
  have e1 : w64 (c.Length * c.Hardness) = c.Length * c.Hardness := w64_id (by omega) (by omega)
  unfold spec_l16Wear impl_wear impl_upDiv W
  rw [e1]
  generalize c.Length * c.Hardness = p at p1 p2
  have e2 : w64 (p + 39) = p + 39 := w64_id (by omega) (by omega)
  have e3 : w64 (p + 40) = p + 40 := w64_id (by omega) (by omega)
  have e4 : w64 (p + 40 - 1) = p + 39 := by rw [w64_id (by omega) (by omega)]; omega
  have e5 : (p + 39).tdiv 40 = (p + 39) / 40 := Int.tdiv_eq_ediv_of_nonneg (by omega)
  have e6 : IntKind.wrap .i64 ((p + 39).tdiv 40) = (p + 39) / 40 := by rw [e5]; exact w64_id (by omega) (by omega)
  unfold dv
  rw [if_neg (by decide), e2, e3, e4]
  simp only [e6, Option.bind_some]
  exact ⟨by omega, by omega, trivial, rfl⟩

theorem apd1 {l : List Int} {x : Int} (h : l.length ≤ 1000000) : apd 8 l [x] = some (l ++ [x]) := by
  unfold apd
  rw [if_pos (by simp; omega)]
theorem apd0 {l : List Int} (h : l.length ≤ 1000000) : apd 8 ([] : List Int) l = some l := by
  unfold apd
  rw [if_pos (by simp; omega)]
  rfl

theorem wears_spec (l : List S_Cutting) (hl : l.length ≤ 16) (h : ∀ c ∈ l, Cn c) : spec_l16Wears l = some (l.map W) := by
  unfold spec_l16Wears
  have := loopO_for (fun i : Nat => ((i : Int), (l.take i).map W)) l.length (f := spec_l16Wears_l3 l) (r := l.map W) (fun i hi => by
    unfold spec_l16Wears_l3
    simp only
    rw [if_pos (by omega), rd_lt hi]
    have e : (l.take (i + 1)).map W = (l.take i).map W ++ [W l[i]] := by rw [List.take_succ_eq_append_getElem hi, List.map_append]; rfl
    simp only [Option.bind_some, (W_num (h _ (List.getElem_mem hi))).2.2.1]
    rw [apd1 (by rw [List.length_map, List.length_take]; omega), w64_succ (by omega), e]
    rfl) (by
    unfold spec_l16Wears_l3
    simp only
    rw [if_neg (by omega), List.take_length])
  have h0 : loopO (spec_l16Wears_l3 l) (0, []) = some (l.map W) := this
  rw [h0]
  rfl

/-- The wear of all. -/
theorem asks (bl : S_Blade) (l : List S_Cutting) (hl : l.length ≤ 16) (h : ∀ c ∈ l, Cn c) :
    ((∀ c ∈ l, W c ≤ bl.Life) ∧ loopO (spec_l16Ask_l4 bl l) 0 = some (.inl ()) ∧ loopO (impl_wears_l5 bl l) (0, []) = some (.inl (l.map W))) ∨
    (loopO (spec_l16Ask_l4 bl l) 0 = some (.inr 6) ∧ loopO (impl_wears_l5 bl l) (0, []) = some (.inr ([], 6))) := by
  have key : ∀ (m i : Nat), i + m = l.length → ((∀ c ∈ l.drop i, W c ≤ bl.Life) ∧ loopO (spec_l16Ask_l4 bl l) (i : Int) = some (.inl ()) ∧ loopO (impl_wears_l5 bl l) ((i : Int), (l.take i).map W) = some (.inl (l.map W))) ∨
    (loopO (spec_l16Ask_l4 bl l) (i : Int) = some (.inr 6) ∧ loopO (impl_wears_l5 bl l) ((i : Int), (l.take i).map W) = some (.inr ([], 6))) := by
    intro m
    induction m with
    | zero =>
      intro i hi
      obtain rfl : i = l.length := by omega
      refine .inl ⟨fun c hc => ?_, loopO_done ?_, loopO_done ?_⟩
      · rw [List.drop_length] at hc; cases hc
      · unfold spec_l16Ask_l4
        rw [if_neg (by omega)]
      · unfold impl_wears_l5
        simp only
        rw [if_neg (by omega), List.take_length]
    | succ m ih =>
      intro i hi
      have hi' : i < l.length := by omega
      obtain ⟨_, _, w1, w2⟩ := W_num (h _ (List.getElem_mem hi'))
      have e : (l.take (i + 1)).map W = (l.take i).map W ++ [W l[i]] := by rw [List.take_succ_eq_append_getElem hi', List.map_append]; rfl
      by_cases c : W l[i] > bl.Life
      · refine .inr ⟨loopO_done ?_, loopO_done ?_⟩
        · unfold spec_l16Ask_l4
          rw [if_pos (by omega), rd_lt hi']
          simp only [Option.bind_some, w1]
          rw [if_pos c]
        · unfold impl_wears_l5
          simp only
          rw [if_pos (by omega), rd_lt hi']
          simp only [Option.bind_some, w2]
          rw [if_pos c]
      · have S1 : spec_l16Ask_l4 bl l (i : Int) = some (.inl ((i + 1 : Nat) : Int)) := by
          unfold spec_l16Ask_l4
          rw [if_pos (by omega), rd_lt hi']
          simp only [Option.bind_some, w1]
          rw [if_neg c, w64_succ (by omega)]
        have I1 : impl_wears_l5 bl l ((i : Int), (l.take i).map W) = some (.inl (((i + 1 : Nat) : Int), (l.take (i + 1)).map W)) := by
          unfold impl_wears_l5
          simp only
          rw [if_pos (by omega), rd_lt hi']
          simp only [Option.bind_some, w2]
          rw [if_neg c, apd1 (by rw [List.length_map, List.length_take]; omega), w64_succ (by omega), e]
          rfl
        rw [loopO_next S1, loopO_next I1]
        rcases ih (i + 1) (by omega) with ⟨q1, q2, q3⟩ | q
        · refine .inl ⟨fun x hx => ?_, q2, q3⟩
          rw [List.drop_eq_getElem_cons hi'] at hx
          rcases List.mem_cons.1 hx with rfl | hx
          · omega
          · exact q1 x hx
        · exact .inr q
  have := key l.length 0 (by omega)
  simpa using this

abbrev FS := S_l16Search → Option (Bool × S_l16Search)
abbrev FI := (S_bladeSearch × List Int × List Int × Int) → Option (List Int × Int × S_bladeSearch)

theorem fs_spec (x : S_l16Search) : Fs (fun self : FS => spec_l16Search_run_F self x) := by
  unfold spec_l16Search_run_F
  refine Fs.ite (Fs.const _) (Fs.bind (Fs.loop (fun s => ?_) _) fun o => Fs.const _)
  obtain ⟨a1, a2, a3, a4, a5, a6, a7, a8, a9⟩ := s
  unfold spec_l16Search_run_l5
  have k6 : ∀ b1 b2 b3 b4 b5 b6 b7 b8 b9, Fs (fun self : FS => spec_l16Search_run_k6 self b1 b2 b3 b4 b5 b6 b7 b8 b9) := by
    intros
    unfold spec_l16Search_run_k6
    exact Fs.const _
  have k16 : ∀ b1 b2 b3 b4 b5 b6 b7 b8 b9 b10 b11, Fs (fun self : FS => spec_l16Search_run_k16 self b1 b2 b3 b4 b5 b6 b7 b8 b9 b10 b11) := by
    intros
    unfold spec_l16Search_run_k16
    exact Fs.bind (Fs.const _) fun _ => Fs.bind (Fs.const _) fun _ => Fs.bind (Fs.const _) fun _ => Fs.bind (Fs.const _) fun _ => Fs.bind (Fs.app _) fun z => Fs.ite (Fs.const _) (Fs.bind (Fs.const _) fun _ => Fs.bind (Fs.const _) fun _ => Fs.bind (Fs.const _) fun _ => Fs.bind (Fs.const _) fun _ => Fs.ite (Fs.bind (Fs.const _) fun _ => k6 _ _ _ _ _ _ _ _ _) (k6 _ _ _ _ _ _ _ _ _))
  have k11 : ∀ b1 b2 b3 b4 b5 b6 b7 b8 b9 b10, Fs (fun self : FS => spec_l16Search_run_k11 self b1 b2 b3 b4 b5 b6 b7 b8 b9 b10) := by
    intros
    unfold spec_l16Search_run_k11
    exact Fs.ite (Fs.const _) (Fs.ite (Fs.bind (Fs.const _) fun _ => k16 _ _ _ _ _ _ _ _ _ _ _) (k16 _ _ _ _ _ _ _ _ _ _ _))
  exact Fs.ite (Fs.bind (Fs.const _) fun _ => Fs.ite (k6 _ _ _ _ _ _ _ _ _) (Fs.ite (k11 _ _ _ _ _ _ _ _ _ _) (k11 _ _ _ _ _ _ _ _ _ _))) (Fs.const _)

theorem fs_impl (x : S_bladeSearch) (F U : List Int) (a : Int) : Fs (fun self : FI => impl_bladeSearch_run_F self x F U a) := by
  unfold impl_bladeSearch_run_F
  refine Fs.ite (Fs.const _) (Fs.bind (Fs.const _) fun c => Fs.bind (Fs.loop (fun s => ?_) _) fun o => Fs.const _)
  obtain ⟨a1, a2, a3, a4⟩ := s
  unfold impl_bladeSearch_run_l5
  have k6 : ∀ b1 b2 b3 b4, Fs (fun self : FI => impl_bladeSearch_run_k6 self b1 b2 b3 b4) := by
    intros
    unfold impl_bladeSearch_run_k6
    exact Fs.const _
  have k10 : ∀ b1 b2 b3 b4 b5 b6 b7 b8, Fs (fun self : FI => impl_bladeSearch_run_k10 self b1 b2 b3 b4 b5 b6 b7 b8) := by
    intros
    unfold impl_bladeSearch_run_k10
    exact Fs.bind (Fs.const _) fun _ => Fs.ite (k6 _ _ _ _) (Fs.ite (Fs.const _) (Fs.bind (Fs.const _) fun _ => Fs.bind (Fs.const _) fun _ => Fs.bind (Fs.const _) fun _ => Fs.bind (Fs.const _) fun _ => Fs.bind (Fs.app _) fun _ => Fs.ite (Fs.const _) (k6 _ _ _ _)))
  exact Fs.ite (Fs.bind (Fs.const _) fun _ => Fs.ite (Fs.bind (Fs.const _) fun _ => k10 _ _ _ _ _ _ _ _) (k10 _ _ _ _ _ _ _ _)) (Fs.const _)

noncomputable abbrev SS : FS := fun s => spec_l16Search_run s
noncomputable abbrev SI : FI := fun s => impl_bladeSearch_run s.1 s.2.1 s.2.2.1 s.2.2.2

theorem fb_specE (x : S_l16Search) : spec_l16Search_run x = spec_l16Search_run_F SS x := by
  show fixO _ _ = _
  rw [fixO_eq]
  · rfl
  · exact fs_spec

theorem fb_implE (x : S_bladeSearch) (F U : List Int) (a : Int) : impl_bladeSearch_run x F U a = impl_bladeSearch_run_F SI x F U a := by
  show fixO _ _ = _
  rw [fixO_eq]
  · rfl
  · rintro ⟨x, F, U, a⟩
    exact fs_impl x F U a

section
variable {ws : List Int} {life m b : Int}

abbrev gl (life : Int) (U : List Int) : List Int := U.map fun u => life - u
abbrev ss (ws : List Int) (life m b : Int) (F U : List Int) (nodes : Int) (full : Bool) : S_l16Search := ⟨ws, life, m, F, gl life U, nodes, b, full⟩
abbrev ts (ws : List Int) (life m b k : Int) (F U : List Int) (nodes : Int) (full : Bool) := (k, ws, life, m, F, gl life U, nodes, b, full)
abbrev tr (ws : List Int) (life m b : Int) (F U : List Int) (nodes : Int) (full : Bool) := (ws, life, m, F, gl life U, nodes, b, full)

/-- What comes of a search on both sides. -/
def Ot (ws : List Int) (life m b : Int) (F U : List Int) (res : Bool) (s' : S_l16Search) (out : List Int) (code : Int) (t' : S_bladeSearch) : Prop :=
  (res = true ∧ code = 0 ∧ s'.blades = out ∧ out.length ≤ 16) ∨
  (res = false ∧ code = 3 ∧ out = [] ∧ m < (ws.length : Int) ∧ ∃ nodes, s' = ss ws life m b F U nodes false ∧ t' = ⟨ws, life, b - nodes⟩ ∧ 0 ≤ nodes ∧ nodes ≤ b) ∨
  (res = false ∧ code = 5 ∧ out = [] ∧ ∃ nodes, s' = ss ws life m b F U nodes true)

/-- Once the budget is spent. -/
theorem fb_full {F U : List Int} {x0 : S_l16Search} {w : Int} (hw : rd ws (x0.blades.length : Int) = some w) (hU : U.length ≤ 16) (nodes : Int) :
    ∀ (n k : Nat), k + n = U.length + 1 →
      loopO (spec_l16Search_run_l5 SS x0) (ts ws life m b (k : Int) F U nodes true) = some (.inl (tr ws life m b F U nodes true)) ∨ loopO (spec_l16Search_run_l5 SS x0) (ts ws life m b (k : Int) F U nodes true) = some (.inr (false, ss ws life m b F U nodes true)) := by
  intro n
  induction n with
  | zero =>
    intro k hk
    refine .inl (loopO_done ?_)
    unfold spec_l16Search_run_l5
    simp only
    rw [if_neg (by rw [List.length_map]; omega)]
  | succ n ih =>
    intro k hk
    by_cases c0 : (k : Int) < m
    · have c1 : (k : Int) < m ∧ (k : Int) ≤ ((gl life U).length : Int) := ⟨c0, by rw [List.length_map]; omega⟩
      have S1 : spec_l16Search_run_l5 SS x0 (ts ws life m b (k : Int) F U nodes true) = some (.inl (ts ws life m b ((k + 1 : Nat) : Int) F U nodes true)) ∨ spec_l16Search_run_l5 SS x0 (ts ws life m b (k : Int) F U nodes true) = some (.inr (.inr (false, ss ws life m b F U nodes true))) := by
        unfold spec_l16Search_run_l5 spec_l16Search_run_k11 spec_l16Search_run_k6
        simp only
        rw [if_pos c1]
        by_cases c2 : (k : Int) = ((gl life U).length : Int)
        · rw [if_pos c2]
          refine .inr ?_
          simp only [Option.bind_some, Bool.false_eq_true, if_false, if_true, ite_self]
        · rw [if_neg c2]
          have hk' : k < (gl life U).length := by omega
          rw [rd_lt hk', hw]
          simp only [Option.bind_some, decide_eq_true_eq, if_true, ite_self, w64_succ (show k < 9223372036854775807 by omega)]
          by_cases c3 : (gl life U)[k] < w
          · rw [if_pos c3]; exact .inl rfl
          · rw [if_neg c3]; exact .inr rfl
      rcases S1 with S1 | S1
      · rw [loopO_next S1]
        exact ih (k + 1) (by omega)
      · exact .inr (loopO_done S1)
    · refine .inl (loopO_done ?_)
      unfold spec_l16Search_run_l5
      simp only
      rw [if_neg (fun h => c0 h.1)]

/-- The list of the blades' use, with a new one where it is needed. -/
def nx (U : List Int) (k : Nat) : List Int := if k = U.length then U ++ [0] else U

theorem nx_len {U : List Int} {k : Nat} (h : k ≤ U.length) : k < (nx U k).length := by
  unfold nx
  split
  · simp; omega
  · omega

theorem nx_back (life : Int) {U : List Int} {k : Nat} (h : k ≤ U.length) (w : Int) (h' : k < (nx U k).length) :
    (if k = U.length then (((gl life ((nx U k).set k ((nx U k)[k] + w))).set k (life - (nx U k)[k])).take k) else ((gl life ((nx U k).set k ((nx U k)[k] + w))).set k (life - (nx U k)[k]))) = gl life U := by
  have e : (gl life ((nx U k).set k ((nx U k)[k] + w))).set k (life - (nx U k)[k]) = gl life (nx U k) := by
    unfold gl
    rw [List.map_set, List.set_set]
    have : life - (nx U k)[k] = ((nx U k).map fun u => life - u)[k]'(by rw [List.length_map]; exact h') := by rw [List.getElem_map]
    rw [this, List.set_getElem_self]
  rw [e]
  unfold nx gl
  split
  · rename_i c
    rw [List.map_append, c, List.take_left' (by rw [List.length_map])]
  · rfl

theorem fb_loop {F U : List Int} {w : Int} {x0 : S_l16Search} (hx0 : x0.blades = F) (hw : rd ws (F.length : Int) = some w) (w1 : 1 ≤ w) (w2 : w ≤ life) (hl : life ≤ 1000000) (hb1 : 1 ≤ b) (hb2 : b ≤ 20000)
    (hF : F.length < ws.length) (hws : ws.length ≤ 16) (hUF : U.length ≤ F.length) (hU : ∀ u ∈ U, 0 ≤ u ∧ u ≤ life)
    (IH : ∀ (k : Nat) (V : List Int) (nodes : Int), V.length ≤ F.length + 1 → (∀ u ∈ V, 0 ≤ u ∧ u ≤ life) → 0 ≤ nodes → nodes ≤ b →
      ∃ res s' out code t', spec_l16Search_run (ss ws life m b (F ++ [(k : Int)]) V nodes false) = some (res, s') ∧ impl_bladeSearch_run ⟨ws, life, b - nodes⟩ (F ++ [(k : Int)]) V m = some (out, code, t') ∧ Ot ws life m b (F ++ [(k : Int)]) V res s' out code t') :
    ∀ (n k : Nat) (nodes : Int), k + n = U.length + 1 → (k > U.length → m < (ws.length : Int)) → 0 ≤ nodes → nodes ≤ b →
      ∃ (r : ((List Int × Int × Int × List Int × List Int × Int × Int × Bool) ⊕ (Bool × S_l16Search))) (q : ((List Int × Int × Int) ⊕ (List Int × Int × S_bladeSearch))),
        loopO (spec_l16Search_run_l5 SS x0) (ts ws life m b (k : Int) F U nodes false) = some r ∧ loopO (impl_bladeSearch_run_l5 SI F m U w) ((k : Int), ws, life, b - nodes) = some q ∧
        ((∃ s' out t', r = .inr (true, s') ∧ q = .inr (out, 0, t') ∧ s'.blades = out ∧ out.length ≤ 16) ∨
         (∃ nodes', r = .inl (tr ws life m b F U nodes' false) ∧ q = .inl (ws, life, b - nodes') ∧ m < (ws.length : Int) ∧ 0 ≤ nodes' ∧ nodes' ≤ b) ∨
         (∃ nodes' t', (r = .inl (tr ws life m b F U nodes' true) ∨ r = .inr (false, ss ws life m b F U nodes' true)) ∧ q = .inr ([], 5, t'))) := by
  have hw' : rd ws (x0.blades.length : Int) = some w := by rw [hx0]; exact hw
  intro n
  induction n with
  | zero =>
    intro k nodes hk hm hn0 hn1
    refine ⟨.inl (tr ws life m b F U nodes false), .inl (ws, life, b - nodes), loopO_done ?_, loopO_done ?_, .inr (.inl ⟨nodes, rfl, rfl, hm (by omega), hn0, hn1⟩)⟩
    · unfold spec_l16Search_run_l5
      simp only
      rw [if_neg (by rw [List.length_map]; omega)]
    · unfold impl_bladeSearch_run_l5
      simp only
      rw [if_neg (by omega)]
  | succ n ih =>
    intro k nodes hk hm hn0 hn1
    have hkU : k ≤ U.length := by omega
    by_cases c0 : (k : Int) < m
    · have c1 : (k : Int) < m ∧ (k : Int) ≤ ((gl life U).length : Int) := ⟨c0, by rw [List.length_map]; omega⟩
      have c1' : (k : Int) ≤ (U.length : Int) ∧ (k : Int) < m := ⟨by omega, c0⟩
      have hN := nx_len hkU
      have hNmem : ∀ u ∈ nx U k, 0 ≤ u ∧ u ≤ life := by
        unfold nx
        split
        · intro u hu
          rcases List.mem_append.1 hu with hu | hu
          · exact hU u hu
          · rw [List.mem_singleton] at hu; subst hu; omega
        · exact hU
      obtain ⟨u1, u2⟩ := hNmem _ (List.getElem_mem hN)
      have hNlen : (nx U k).length ≤ U.length + 1 := by unfold nx; split <;> simp
      have eu : w64 ((nx U k)[k] + w) = (nx U k)[k] + w := w64_id (by omega) (by omega)
      have r0 : rd (nx U k) (k : Int) = some (nx U k)[k] := rd_lt hN
      -- the own side up to the choice
      have I0 : impl_bladeSearch_run_l5 SI F m U w ((k : Int), ws, life, b - nodes) = impl_bladeSearch_run_k10 SI F (k : Int) m ws life (b - nodes) w (nx U k) := by
        unfold impl_bladeSearch_run_l5
        simp only
        rw [if_pos c1', apd0 (by omega)]
        simp only [Option.bind_some]
        unfold nx
        by_cases c : k = U.length
        · rw [if_pos (show (k : Int) = (U.length : Int) by omega), apd1 (by omega), if_pos c]
          rfl
        · rw [if_neg (show ¬ (k : Int) = (U.length : Int) by omega), if_neg c]
      -- is it barred
      have S0 : spec_l16Search_run_l5 SS x0 (ts ws life m b (k : Int) F U nodes false) =
          if (nx U k)[k] + w > life then some (.inl (ts ws life m b ((k + 1 : Nat) : Int) F U nodes false)) else
          (if nodes = b then spec_l16Search_run_k11 SS (k : Int) x0 ws life m F (gl life U) nodes b true else spec_l16Search_run_k11 SS (k : Int) x0 ws life m F (gl life U) nodes b false) := by
        unfold spec_l16Search_run_l5 spec_l16Search_run_k6
        simp only
        rw [if_pos c1]
        by_cases c : k = U.length
        · rw [if_pos (show (k : Int) = ((gl life U).length : Int) by rw [List.length_map]; omega)]
          have e : (nx U k)[k] = 0 := by
            unfold nx
            simp [c]
          rw [e, if_neg (show ¬ (0 + w > life) by omega)]
          simp only [Option.bind_some, Bool.false_eq_true, if_false]
        · rw [if_neg (show ¬ (k : Int) = ((gl life U).length : Int) by rw [List.length_map]; omega)]
          have hk' : k < U.length := by omega
          have e : (nx U k)[k] = U[k] := by
            unfold nx
            simp [c]
          rw [rd_lt (show k < (gl life U).length by rw [List.length_map]; exact hk'), hw']
          simp only [Option.bind_some, decide_eq_true_eq, List.getElem_map, e, w64_succ (show k < 9223372036854775807 by omega)]
          by_cases c3 : life - U[k] < w
          · rw [if_pos c3, if_pos (by omega)]
          · rw [if_neg c3, if_neg (show ¬ (U[k] + w > life) by omega)]
      by_cases cb : (nx U k)[k] + w > life
      · rw [if_pos cb] at S0
        have I1 : impl_bladeSearch_run_l5 SI F m U w ((k : Int), ws, life, b - nodes) = some (.inl (((k + 1 : Nat) : Int), ws, life, b - nodes)) := by
          rw [I0]
          unfold impl_bladeSearch_run_k10 impl_bladeSearch_run_k6
          rw [r0]
          simp only [Option.bind_some, eu]
          rw [if_pos cb, w64_succ (by omega)]
        rw [loopO_next S0, loopO_next I1]
        refine ih (k + 1) nodes (by omega) (fun hh => ?_) hn0 hn1
        exfalso
        have c : k = U.length := by omega
        have e : (nx U k)[k] = 0 := by
          unfold nx
          simp [c]
        omega
      · rw [if_neg cb] at S0
        by_cases c2 : nodes = b
        · rw [if_pos c2] at S0
          have S1 : spec_l16Search_run_l5 SS x0 (ts ws life m b (k : Int) F U nodes false) = some (.inr (.inr (false, ss ws life m b F U nodes true))) := by
            rw [S0]
            unfold spec_l16Search_run_k11
            rw [if_pos rfl]
          have I1 : impl_bladeSearch_run_l5 SI F m U w ((k : Int), ws, life, b - nodes) = some (.inr (.inr ([], 5, ⟨ws, life, b - nodes⟩))) := by
            rw [I0]
            unfold impl_bladeSearch_run_k10
            rw [r0]
            simp only [Option.bind_some, eu]
            rw [if_neg cb, if_pos (by omega)]
          exact ⟨_, _, loopO_done S1, loopO_done I1, .inr (.inr ⟨nodes, _, .inr rfl, rfl⟩)⟩
        · rw [if_neg c2] at S0
          have hV : ∀ u ∈ (nx U k).set k ((nx U k)[k] + w), 0 ≤ u ∧ u ≤ life := by
            intro u hu
            rcases List.mem_or_eq_of_mem_set hu with hu | rfl
            · exact hNmem u hu
            · omega
          obtain ⟨res, s', out, code, t', r1, r2, r3⟩ := IH k ((nx U k).set k ((nx U k)[k] + w)) (nodes + 1) (by rw [List.length_set]; omega) hV (by omega) (by omega)
          have e2 : w64 (nodes + 1) = nodes + 1 := w64_id (by omega) (by omega)
          have e3 : w64 (b - nodes - 1) = b - (nodes + 1) := by rw [w64_id (by omega) (by omega)]; omega
          have r1' : SS ⟨ws, life, m, F ++ [(k : Int)], gl life ((nx U k).set k ((nx U k)[k] + w)), nodes + 1, b, false⟩ = some (res, s') := r1
          have r2' : SI (⟨ws, life, b - (nodes + 1)⟩, F ++ [(k : Int)], (nx U k).set k ((nx U k)[k] + w), m) = some (out, code, t') := r2
          have I1 : impl_bladeSearch_run_l5 SI F m U w ((k : Int), ws, life, b - nodes) = if code ≠ 3 then some (.inr (.inr (out, code, t'))) else some (.inl (((k + 1 : Nat) : Int), t'.wears, t'.life, t'.left)) := by
            rw [I0]
            unfold impl_bladeSearch_run_k10 impl_bladeSearch_run_k6
            rw [r0]
            simp only [Option.bind_some, eu]
            rw [if_neg cb, if_neg (by omega), apd0 (by omega), Option.bind_some, apd1 (by omega), Option.bind_some, e3, Int.toNat_natCast, r2', Option.bind_some, w64_succ (by omega)]
          -- the other side with the blade put in
          have g0 : (gl life (nx U k))[k]'(by rw [List.length_map]; exact hN) = life - (nx U k)[k] := List.getElem_map _
          have rg : rd (gl life (nx U k)) (k : Int) = some (life - (nx U k)[k]) := by rw [rd_lt (by rw [List.length_map]; exact hN), g0]
          have ew : w64 (life - (nx U k)[k] - w) = life - ((nx U k)[k] + w) := by rw [w64_id (by omega) (by omega)]; omega
          have eset : (gl life (nx U k)).set k (life - ((nx U k)[k] + w)) = gl life ((nx U k).set k ((nx U k)[k] + w)) := by unfold gl; rw [List.map_set]
          have S1 : spec_l16Search_run_l5 SS x0 (ts ws life m b (k : Int) F U nodes false) = spec_l16Search_run_k16 SS (k : Int) x0 ws life m F (gl life U) nodes b false (gl life (nx U k)) := by
            rw [S0]
            unfold spec_l16Search_run_k11
            rw [if_neg (by decide)]
            unfold nx
            by_cases c : k = U.length
            · rw [if_pos (show (k : Int) = ((gl life U).length : Int) by rw [List.length_map]; omega), if_pos c]
              have : gl life (U ++ [0]) = gl life U ++ [life] := by unfold gl; rw [List.map_append]; simp
              rw [this, apd1 (by rw [List.length_map]; omega)]
              rfl
            · rw [if_neg (show ¬ (k : Int) = ((gl life U).length : Int) by rw [List.length_map]; omega), if_neg c]
          have S2 : spec_l16Search_run_l5 SS x0 (ts ws life m b (k : Int) F U nodes false) = if res = true then some (.inr (.inr (true, s'))) else ((slc s'.blades 0 (x0.blades.length : Int)).bind fun x132 =>
              (rd s'.left (k : Int)).bind fun x140 => (rd s'.wears (x0.blades.length : Int)).bind fun x147 => (rd s'.left (k : Int)).bind fun x150 =>
              if (k : Int) = ((gl life U).length : Int) then ((slc (s'.left.set k (w64 (x140 + x147))) 0 (k : Int)).bind fun x158 =>
                some (.inl (w64 ((k : Int) + 1), s'.wears, s'.life, s'.most, ((s'.blades.take ((x0.blades.length : Int).toNat)).drop 0), (((s'.left.set k (w64 (x140 + x147))).take k).drop 0), s'.nodes, s'.budget, s'.full)))
              else some (.inl (w64 ((k : Int) + 1), s'.wears, s'.life, s'.most, ((s'.blades.take ((x0.blades.length : Int).toNat)).drop 0), (s'.left.set k (w64 (x140 + x147))), s'.nodes, s'.budget, s'.full))) := by
            rw [S1]
            unfold spec_l16Search_run_k16 spec_l16Search_run_k6
            rw [rg, hw']
            simp only [Option.bind_some, ew, e2, Int.toNat_natCast]
            rw [apd1 (by omega), Option.bind_some, eset, r1', Option.bind_some]
          have back : ∀ nd fl, ((slc (ss ws life m b (F ++ [(k : Int)]) ((nx U k).set k ((nx U k)[k] + w)) nd fl).blades 0 (x0.blades.length : Int)).bind fun x132 =>
              (rd (gl life ((nx U k).set k ((nx U k)[k] + w))) (k : Int)).bind fun x140 => (rd ws (x0.blades.length : Int)).bind fun x147 => (rd (gl life ((nx U k).set k ((nx U k)[k] + w))) (k : Int)).bind fun x150 =>
              if (k : Int) = ((gl life U).length : Int) then ((slc ((gl life ((nx U k).set k ((nx U k)[k] + w))).set k (w64 (x140 + x147))) 0 (k : Int)).bind fun x158 =>
                some (.inl (w64 ((k : Int) + 1), ws, life, m, (((F ++ [(k : Int)]).take ((x0.blades.length : Int).toNat)).drop 0), ((((gl life ((nx U k).set k ((nx U k)[k] + w))).set k (w64 (x140 + x147))).take k).drop 0), nd, b, fl)))
              else some (.inl (w64 ((k : Int) + 1), ws, life, m, (((F ++ [(k : Int)]).take ((x0.blades.length : Int).toNat)).drop 0), ((gl life ((nx U k).set k ((nx U k)[k] + w))).set k (w64 (x140 + x147))), nd, b, fl)))
              = (some (.inl (ts ws life m b ((k + 1 : Nat) : Int) F U nd fl)) : Option ((Int × List Int × Int × Int × List Int × List Int × Int × Int × Bool) ⊕ ((List Int × Int × Int × List Int × List Int × Int × Int × Bool) ⊕ (Bool × S_l16Search)))) := by
            intro nd fl
            have q1 : slc (F ++ [(k : Int)]) 0 (x0.blades.length : Int) = some (((F ++ [(k : Int)]).take ((x0.blades.length : Int).toNat)).drop 0) := by
              unfold slc
              rw [if_pos ⟨by omega, by omega, by rw [hx0, List.length_append, List.length_singleton]; omega⟩]
              rfl
            have q2 : ((F ++ [(k : Int)]).take ((x0.blades.length : Int).toNat)).drop 0 = F := by
              rw [hx0, List.drop_zero, Int.toNat_natCast, List.take_left']
              rfl
            have q3 : rd (gl life ((nx U k).set k ((nx U k)[k] + w))) (k : Int) = some (life - ((nx U k)[k] + w)) := by
              rw [rd_lt (by rw [List.length_map, List.length_set]; exact hN), List.getElem_map, List.getElem_set_self]
            have q4 : w64 (life - ((nx U k)[k] + w) + w) = life - (nx U k)[k] := by rw [w64_id (by omega) (by omega)]; omega
            have nb := nx_back life hkU w hN
            simp only [q1, q2, q3, hw', Option.bind_some, q4, w64_succ (show k < 9223372036854775807 by omega)]
            by_cases c : k = U.length
            · rw [if_pos (show (k : Int) = ((gl life U).length : Int) by rw [List.length_map]; omega)]
              rw [if_pos c] at nb
              have q5 : slc ((gl life ((nx U k).set k ((nx U k)[k] + w))).set k (life - (nx U k)[k])) 0 (k : Int) = some ((((gl life ((nx U k).set k ((nx U k)[k] + w))).set k (life - (nx U k)[k])).take k).drop 0) := by
                unfold slc
                rw [if_pos ⟨by omega, by omega, by rw [List.length_set, List.length_map, List.length_set]; omega⟩]
                rfl
              rw [q5, Option.bind_some, List.drop_zero, nb]
            · rw [if_neg (show ¬ (k : Int) = ((gl life U).length : Int) by rw [List.length_map]; omega)]
              rw [if_neg c] at nb
              rw [nb]
          rcases r3 with ⟨rfl, rfl, r4, r5⟩ | ⟨rfl, rfl, rfl, r8, nodes', rfl, rfl, r6, r7⟩ | ⟨rfl, rfl, rfl, nodes', rfl⟩
          · rw [if_pos rfl] at S2
            rw [if_pos (by decide)] at I1
            exact ⟨_, _, loopO_done S2, loopO_done I1, .inl ⟨s', out, t', rfl, rfl, r4, r5⟩⟩
          · rw [if_neg (by decide), back] at S2
            rw [if_neg (by decide)] at I1
            rw [loopO_next S2, loopO_next I1]
            exact ih (k + 1) nodes' (by omega) (fun _ => r8) r6 r7
          · rw [if_neg (by decide), back] at S2
            rw [if_pos (by decide)] at I1
            rw [loopO_next S2, loopO_done I1]
            rcases fb_full (life := life) (m := m) (b := b) (F := F) (U := U) hw' (by omega) nodes' n (k + 1) (by omega) with h | h
            · exact ⟨_, _, h, rfl, .inr (.inr ⟨nodes', _, .inl rfl, rfl⟩)⟩
            · exact ⟨_, _, h, rfl, .inr (.inr ⟨nodes', _, .inr rfl, rfl⟩)⟩
    · refine ⟨.inl (tr ws life m b F U nodes false), .inl (ws, life, b - nodes), loopO_done ?_, loopO_done ?_, .inr (.inl ⟨nodes, rfl, rfl, by omega, hn0, hn1⟩)⟩
      · unfold spec_l16Search_run_l5
        simp only
        rw [if_neg (fun h => c0 h.1)]
      · unfold impl_bladeSearch_run_l5
        simp only
        rw [if_neg (fun h => c0 h.2)]

theorem fb_run (hws : ws.length ≤ 16) (hw : ∀ w ∈ ws, 1 ≤ w ∧ w ≤ life) (hl1 : 1 ≤ life) (hl : life ≤ 1000000) (hb1 : 1 ≤ b) (hb2 : b ≤ 20000) :
    ∀ (d : Nat) (F U : List Int) (nodes : Int), F.length + d = ws.length → U.length ≤ F.length → (∀ u ∈ U, 0 ≤ u ∧ u ≤ life) → 0 ≤ nodes → nodes ≤ b →
      ∃ res s' out code t', spec_l16Search_run (ss ws life m b F U nodes false) = some (res, s') ∧ impl_bladeSearch_run ⟨ws, life, b - nodes⟩ F U m = some (out, code, t') ∧ Ot ws life m b F U res s' out code t' := by
  intro d
  induction d with
  | zero =>
    intro F U nodes hF hUF hU hn0 hn1
    refine ⟨true, ss ws life m b F U nodes false, F, 0, ⟨ws, life, b - nodes⟩, ?_, ?_, .inl ⟨rfl, rfl, rfl, by omega⟩⟩
    · rw [fb_specE]
      unfold spec_l16Search_run_F
      rw [if_pos (show (F.length : Int) = (ws.length : Int) by omega)]
    · rw [fb_implE]
      unfold impl_bladeSearch_run_F
      rw [if_pos (show (F.length : Int) = (ws.length : Int) by omega)]
  | succ d ih =>
    intro F U nodes hF hUF hU hn0 hn1
    have hlt : F.length < ws.length := by omega
    obtain ⟨w1, w2⟩ := hw _ (List.getElem_mem hlt)
    have hr : rd ws (F.length : Int) = some ws[F.length] := rd_lt hlt
    generalize ws[F.length] = w at w1 w2 hr
    obtain ⟨r, q, l1, l2, l3⟩ := fb_loop (m := m) (b := b) (F := F) (U := U) (x0 := ss ws life m b F U nodes false) rfl hr w1 w2 hl hb1 hb2 hlt hws hUF hU (fun k V nd hV1 hV2 hd0 hd1 =>
      ih (F ++ [(k : Int)]) V nd (by simp; omega) (by rw [List.length_append, List.length_singleton]; exact hV1) hV2 hd0 hd1) (U.length + 1) 0 nodes (by omega) (fun hh => by omega) hn0 hn1
    have l1' : loopO (spec_l16Search_run_l5 SS (ss ws life m b F U nodes false)) (0, ws, life, m, F, gl life U, nodes, b, false) = some r := l1
    have l2' : loopO (impl_bladeSearch_run_l5 SI F m U w) (0, ws, life, b - nodes) = some q := l2
    rw [fb_specE, fb_implE]
    unfold spec_l16Search_run_F impl_bladeSearch_run_F
    rw [if_neg (show ¬ (F.length : Int) = (ws.length : Int) by omega), if_neg (show ¬ (F.length : Int) = (ws.length : Int) by omega)]
    simp only [hr, Option.bind_some, l1', l2']
    rcases l3 with ⟨s', out, t', rfl, rfl, r4, r5⟩ | ⟨nodes', rfl, rfl, r4, r5, r6⟩ | ⟨nodes', t', hrr, rfl⟩
    · exact ⟨_, _, _, _, _, rfl, rfl, .inl ⟨rfl, rfl, r4, r5⟩⟩
    · exact ⟨_, _, _, _, _, rfl, rfl, .inr (.inl ⟨rfl, rfl, rfl, r4, nodes', rfl, rfl, r5, r6⟩)⟩
    · rcases hrr with rfl | rfl
      · exact ⟨_, _, _, _, _, rfl, rfl, .inr (.inr ⟨rfl, rfl, rfl, nodes', rfl⟩)⟩
      · exact ⟨_, _, _, _, _, rfl, rfl, .inr (.inr ⟨rfl, rfl, rfl, nodes', rfl⟩)⟩

/-- One number of blades after the other. -/
theorem fb_most {l : List S_Cutting} (hll : l.length = ws.length) (hws : ws.length ≤ 16) (hw : ∀ w ∈ ws, 1 ≤ w ∧ w ≤ life) (hl1 : 1 ≤ life) (hl : life ≤ 1000000) (hb1 : 1 ≤ b) (hb2 : b ≤ 20000) :
    ∀ (n k : Nat) (m0 : Int) (nodes : Int), k + n = ws.length + 1 → k ≤ ws.length → 0 ≤ nodes → nodes ≤ b →
      ∃ (r : Unit ⊕ (List Int × Int × Int)) (q : List Int × Int × Int), loopO (spec_FewestBlades_l8 l) ((k : Int), ws, life, m0, [], [], nodes, b, false) = some r ∧ loopO impl_FewestBlades_l9 ((k : Int), ws, life, b - nodes) = some q ∧
        q.1.length ≤ 16 ∧ ((r = .inl () ∧ q = ([], 0, 5)) ∨ r = .inr q) := by
  intro n
  induction n with
  | zero => intro k m0 nodes hk hk' _ _; omega
  | succ n ih =>
    intro k m0 nodes hk hk' hn0 hn1
    obtain ⟨res, s', out, code, t', r1, r2, r3⟩ := fb_run (m := (k : Int)) hws hw hl1 hl hb1 hb2 ws.length [] [] nodes (by simp) (by simp) (fun u hu => by cases hu) hn0 hn1
    have r1' : spec_l16Search_run ⟨ws, life, (k : Int), [], [], nodes, b, false⟩ = some (res, s') := r1
    have S1 : spec_FewestBlades_l8 l ((k : Int), ws, life, m0, [], [], nodes, b, false) = if res = true then ((spec_l00Own s'.blades).bind fun x47 => some (.inr (.inr (x47, (k : Int), 0)))) else (if s'.full = true then some (.inr (.inl ())) else
        some (.inl ((w64 ((k : Int) + 1)), s'.wears, s'.life, s'.most, s'.blades, s'.left, s'.nodes, s'.budget, s'.full))) := by
      unfold spec_FewestBlades_l8
      simp only
      rw [if_pos (by omega), r1', Option.bind_some]
    have I1 : impl_FewestBlades_l9 ((k : Int), ws, life, b - nodes) = if code = 0 then some (.inr (out, (k : Int), 0)) else (if code ≠ 3 then some (.inr ([], 0, code)) else some (.inl ((w64 ((k : Int) + 1)), t'.wears, t'.life, t'.left))) := by
      unfold impl_FewestBlades_l9
      simp only
      rw [r2, Option.bind_some]
    rcases r3 with ⟨rfl, rfl, r4, r5⟩ | ⟨rfl, rfl, rfl, r8, nodes', rfl, rfl, r6, r7⟩ | ⟨rfl, rfl, rfl, nodes', rfl⟩
    · unfold spec_l00Own at S1
      rw [if_pos rfl, r4, apd0 (by omega)] at S1
      rw [if_pos rfl] at I1
      exact ⟨_, _, loopO_done S1, loopO_done I1, r5, .inr rfl⟩
    · rw [if_neg (by decide), if_neg (show ¬ ((ss ws life (k : Int) b [] [] nodes' false).full = true) from Bool.false_ne_true), w64_succ (by omega)] at S1
      rw [if_neg (by decide), if_neg (by decide), w64_succ (by omega)] at I1
      rw [loopO_next S1, loopO_next I1]
      exact ih (k + 1) (k : Int) nodes' (by omega) (by omega) r6 r7
    · rw [if_neg (by decide), if_pos rfl] at S1
      rw [if_neg (by decide), if_pos (by decide)] at I1
      exact ⟨_, _, loopO_done S1, loopO_done I1, by simp, .inl ⟨rfl, rfl⟩⟩
end

theorem blade_eq (x : S_Blade) : impl_ValidBlade x = spec_l16Ok x := by
  unfold impl_ValidBlade spec_l16Ok
  rw [nm]
  rfl

theorem blade_some (x : S_Blade) : ∃ v : Bool, spec_l16Ok x = some v ∧ (v = true → 1 ≤ x.Life ∧ x.Life ≤ 1000000) := by
  obtain ⟨n, n1, _⟩ := name_eq x.Name
  unfold spec_l16Ok
  simp only [n1, in_eq, Option.bind_some]
  cases n with
  | false => exact ⟨false, rfl, fun h => by cases h⟩
  | true =>
    simp only [if_true, decide_eq_true_eq]
    by_cases c1 : 1 ≤ x.Life ∧ x.Life ≤ 1000000
    · by_cases c2 : 0 ≤ x.Price ∧ x.Price ≤ 1000000
      · simp only [if_pos c1, if_pos c2, Option.bind_some]
        exact ⟨_, rfl, fun _ => c1⟩
      · simp only [if_pos c1, if_neg c2, Option.bind_some]
        exact ⟨_, rfl, fun _ => c1⟩
    · simp only [if_neg c1, Option.bind_some]
      exact ⟨_, rfl, fun h => by cases h⟩

theorem fb_same (x : S_Blade) (l : List S_Cutting) (b : Int) (hl : l.length ≤ 1048576) : ∃ q : List Int × Int × Int, q.1.length ≤ 16 ∧ spec_FewestBlades x l b = some q ∧ impl_FewestBlades x l b = some q := by
  unfold spec_FewestBlades impl_FewestBlades spec_l16Ask impl_wears
  obtain ⟨v, v1, v2⟩ := blade_some x
  obtain ⟨u, u1, u2⟩ := list_some l hl
  rw [blade_eq, list_eq, v1]
  simp only [Option.bind_some, u1]
  by_cases hv : v = true
  · by_cases hu : u = true
    · subst hv hu
      obtain ⟨l16, hc⟩ := u2 rfl
      obtain ⟨v3, v4⟩ := v2 rfl
      simp only [if_true, Option.bind_some, Bool.not_true, Bool.false_eq_true, if_false]
      rcases asks x l l16 hc with ⟨q1, q2, q3⟩ | ⟨q2, q3⟩
      · rw [q2, q3]
        simp only [Option.bind_some, in_eq, within_eq, if_true]
        by_cases cB : 1 ≤ b ∧ b ≤ 20000
        · rw [decide_eq_true cB]
          simp only [Bool.not_true, Bool.false_eq_true, if_false]
          unfold spec_FewestBlades_k4 impl_FewestBlades_k4
          rw [if_neg (by decide), if_neg (by decide), wears_spec l l16 hc, Option.bind_some]
          have hws : ∀ w ∈ l.map W, 1 ≤ w ∧ w ≤ x.Life := by
            intro w hw
            obtain ⟨c, hcl, rfl⟩ := List.mem_map.1 hw
            exact ⟨(W_num (hc c hcl)).1, q1 c hcl⟩
          obtain ⟨r, q, r1, r2, r3, r4⟩ := fb_most (l := l) (ws := l.map W) (life := x.Life) (b := b) (by simp) (by simpa using l16) hws v3 v4 cB.1 cB.2 ((l.map W).length + 1) 0 0 0 (by omega) (by omega) (by omega) (by omega)
          have r1' : loopO (spec_FewestBlades_l8 l) (0, l.map W, x.Life, 0, [], [], 0, b, false) = some r := r1
          have r2' : loopO impl_FewestBlades_l9 (0, l.map W, x.Life, b) = some q := by
            have e : b - 0 = b := by omega
            rw [e] at r2
            exact r2
          rw [r1', r2']
          rcases r4 with ⟨rfl, rfl⟩ | rfl
          · exact ⟨_, r3, rfl, rfl⟩
          · exact ⟨_, r3, rfl, rfl⟩
        · rw [decide_eq_false cB]
          exact ⟨([], 0, 2), by simp, rfl, rfl⟩
      · rw [q2, q3]
        exact ⟨([], 0, 6), by simp, rfl, rfl⟩
    · have hu : u = false := by cases u <;> simp_all
      subst hv hu
      exact ⟨([], 0, 1), by simp, rfl, rfl⟩
  · have hv : v = false := by cases v <;> simp_all
    subst hv
    exact ⟨([], 0, 1), by simp, rfl, rfl⟩

theorem fb_eqI (l : List Int) (h : l.length ≤ 1048576) : laws_eqInt64S l l = some true := by
  unfold laws_eqInt64S
  rw [if_neg (by simp), eqS_refl (n := l.length) (by omega) ?_ ?_]
  · rfl
  · intro i hi
    unfold laws_eqInt64S_l4
    rw [if_pos (by omega), rd_lt hi]
    simp
  · unfold laws_eqInt64S_l4
    simp

theorem fb_markI (l : List Int) (k : Int) (hk : 0 ≤ k) (h : k + l.length ≤ 1073741824) : laws_markInt64S l k = some (k + (l.length : Int), iota k l.length) := by
  unfold laws_markInt64S
  rw [markInt (f := laws_markInt64S_l2) l (k := k) (by omega) (by omega) ?_ ?_]
  · rfl
  · intro k i out hi
    unfold laws_markInt64S_l2
    simp only
    rw [if_pos (by omega), rd_lt hi]
    simp
  · intro k out
    unfold laws_markInt64S_l2
    simp

theorem fb_held (n : Nat) (k : Int) (hk : 0 ≤ k) (h : k + n ≤ 1073741824) : laws_heldInt64S (iota k n) k = some (k + (n : Int)) := by
  unfold laws_heldInt64S
  rw [heldInt (f := laws_heldInt64S_l2 (iota k n)) (n := n) (k := k) (by omega) (by omega) ?_ ?_]
  · rfl
  · intro i hi
    unfold laws_heldInt64S_l2
    simp only
    rw [if_pos (by rw [iota_length]; omega), rd_nat, iota_get _ _ _ hi]
    simp
  · unfold laws_heldInt64S_l2
    simp [iota_length]

theorem fb_markTextL : ∀ (n : Nat) (k : Int) (out : ByteArray), k.toNat ≤ n → out.size + k.toNat ≤ 4611686018427387904 → ∃ r, loopO laws_markText_l4 (k, out) = some r ∧ r.size ≤ out.size + k.toNat := by
  intro n
  induction n with
  | zero =>
    intro k out h1 h2
    refine ⟨out, loopO_done ?_, by omega⟩
    unfold laws_markText_l4
    simp only
    rw [if_neg (by omega)]
  | succ n ih =>
    intro k out h1 h2
    by_cases c : k > 0
    · have e1 : w64 (k.tdiv 10) = k.tdiv 10 := by
        rw [Int.tdiv_eq_ediv_of_nonneg (by omega)]
        exact w64_id (by omega) (by omega)
      have e2 : k.tdiv 10 = k / 10 := Int.tdiv_eq_ediv_of_nonneg (by omega)
      have hs : ∀ x : Int, (strOf [x]).size = 1 := fun x => rfl
      obtain ⟨r, hr, hr2⟩ := ih (k / 10) (strOf [IntKind.wrap .u8 (w64 (48 + k.tmod 10))] ++ out) (by omega) (by rw [ByteArray.size_append, hs]; omega)
      refine ⟨r, ?_, ?_⟩
      · rw [loopO_next (s' := (k / 10, strOf [IntKind.wrap .u8 (w64 (48 + k.tmod 10))] ++ out)) ?_]
        · exact hr
        · unfold laws_markText_l4 md dv
          simp only
          rw [if_pos c, if_neg (by decide), Option.bind_some, cat_some (by rw [hs]; omega), Option.bind_some, if_neg (by decide), Option.bind_some]
          have e3 : IntKind.wrap .i64 (k.tdiv 10) = k / 10 := by rw [← e2]; exact e1
          rw [e3]
      · rw [ByteArray.size_append, hs] at hr2
        omega
    · refine ⟨out, loopO_done ?_, by omega⟩
      unfold laws_markText_l4
      simp only
      rw [if_neg c]

theorem fb_markText (k : Int) (h : k ≤ 1073741824) : ∃ r, laws_markText k = some r := by
  unfold laws_markText
  split
  · exact ⟨_, rfl⟩
  · obtain ⟨r, hr, hr2⟩ := fb_markTextL k.toNat k ⟨#[]⟩ (Nat.le_refl _) (by show 0 + _ ≤ _; omega)
    have h0 : (⟨#[]⟩ : ByteArray).size = 0 := rfl
    have h1 : (⟨#[109]⟩ : ByteArray).size = 1 := rfl
    rw [hr, Option.bind_some, cat_some (by rw [h1]; omega), Option.bind_some]
    exact ⟨_, rfl⟩

theorem fb_szBlade (x : S_Blade) (left : Int) (h0 : x.Name.size ≤ 9223372036854775807) (h3 : 0 ≤ left) (h4 : left ≤ 1048576) : ∃ v, v ≤ left ∧ laws_szBlade x left = some v := by
  unfold laws_szBlade
  have e0 : w64 (left - (x.Name.size : Int)) = left - (x.Name.size : Int) := w64_id (by omega) (by omega)
  rw [e0]
  by_cases c0 : left - (x.Name.size : Int) < 0
  · rw [if_pos c0]; exact ⟨_, by omega, rfl⟩
  rw [if_neg c0]
  exact ⟨_, by omega, rfl⟩

theorem fb_szCutting (x : S_Cutting) (left : Int) (h0 : x.Name.size ≤ 9223372036854775807) (h3 : 0 ≤ left) (h4 : left ≤ 1048576) : ∃ v, v ≤ left ∧ laws_szCutting x left = some v := by
  unfold laws_szCutting
  have e0 : w64 (left - (x.Name.size : Int)) = left - (x.Name.size : Int) := w64_id (by omega) (by omega)
  rw [e0]
  by_cases c0 : left - (x.Name.size : Int) < 0
  · rw [if_pos c0]; exact ⟨_, by omega, rfl⟩
  rw [if_neg c0]
  exact ⟨_, by omega, rfl⟩

theorem fb_szCuttingS (l : List S_Cutting) (hl : l.length ≤ 9223372036854775807) (h : ∀ x ∈ l, x.Name.size ≤ 9223372036854775807) {left : Int} (h0 : 0 ≤ left) (h1 : left ≤ 1048576) :
    ∃ v, v ≤ left ∧ laws_szCuttingS l left = some v ∧ (v < 0 ∨ l.length ≤ 1048576) := by
  unfold laws_szCuttingS
  have e1 : w64 (left - (l.length : Int)) = left - (l.length : Int) := w64_id (by omega) (by omega)
  rw [e1]
  by_cases c1 : left - (l.length : Int) < 0
  · rw [if_pos c1]; exact ⟨_, by omega, rfl, .inl (by omega)⟩
  rw [if_neg c1]
  obtain ⟨r, r1, r2⟩ := szL (f := laws_szCuttingS_l5 l) l (by omega) 1048576 (fun i hi u hu1 hu2 => by
    have hx := h _ (List.getElem_mem hi)
    obtain ⟨v, v1, v2⟩ := fb_szCutting l[i] u hx hu1 hu2
    refine ⟨v, v1, ?_⟩
    unfold laws_szCuttingS_l5
    simp only
    rw [if_pos (by omega), rd_lt hi, Option.bind_some, v2, Option.bind_some]) (fun u => by
    unfold laws_szCuttingS_l5
    simp only
    rw [if_neg (by omega)]) (left := left - (l.length : Int)) (by omega) (by omega)
  rw [r1]
  rcases r2 with rfl | ⟨v, rfl, r3, r4⟩
  · exact ⟨_, by omega, rfl, .inl (by omega)⟩
  · exact ⟨_, by omega, rfl, .inr (by omega)⟩

theorem fb_toCuttingS (l : List S_Cutting) (h : l.length ≤ 1048576) : laws_toCuttingS l = some l := by
  unfold laws_toCuttingS mkl
  rw [if_pos (by constructor <;> omega), Option.bind_some]
  rw [copyS (f := laws_toCuttingS_l3 l) l _ (by simp) (by omega) ?_ ?_]
  · rfl
  · intro i hi out ho
    unfold laws_toCuttingS_l3 laws_toCutting
    simp only
    rw [if_pos (by omega), rd_lt hi, Option.bind_some, Option.bind_some, rd_lt (by omega : i < out.length), Option.bind_some]
    simp
  · intro out
    unfold laws_toCuttingS_l3
    simp

theorem fb_eqCuttingS (l : List S_Cutting) (h : l.length ≤ 1048576) : laws_eqCuttingS l l = some true := by
  unfold laws_eqCuttingS
  rw [if_neg (by simp), eqS_refl (n := l.length) (by omega) ?_ ?_]
  · rfl
  · intro i hi
    unfold laws_eqCuttingS_l4
    rw [if_pos (by omega), rd_lt hi]
    simp [laws_eqCutting]
  · unfold laws_eqCuttingS_l4
    simp

theorem fb_markCuttingS (l : List S_Cutting) (h : l.length ≤ 1048576) {k0 : Int} (h0 : 0 ≤ k0) (h1 : k0 ≤ 1073741824 - 3 * 1048577) : ∃ k' out', laws_markCuttingS l k0 = some (k', out') ∧ k0 ≤ k' ∧ out'.length = l.length := by
  unfold laws_markCuttingS
  obtain ⟨k', out', q1, q2, q3⟩ := markL (f := laws_markCuttingS_l2) (c := 3) (1073741824 - 3) (fun k i out hi hk1 hk2 => by
      have w0 : w64 (k + 1) = k + 1 := by rw [w64_id (by omega) (by omega)]
      have w1 : w64 (k + 1 + 1) = k + 2 := by rw [w64_id (by omega) (by omega)]; omega
      have w2 : w64 (k + 2 + 1) = k + 3 := by rw [w64_id (by omega) (by omega)]; omega
      obtain ⟨r0, hr0⟩ := fb_markText (k) (by omega)
      have hget : ∃ o2, laws_markCuttingS_l2 (k, (i : Int), out) = some (.inl (k + 3, w64 ((i : Int) + 1), o2)) ∧ o2.length = out.length := by
        unfold laws_markCuttingS_l2
        simp only
        rw [if_pos (by omega)]
        simp only [rd_nat, Int.toNat_natCast, List.length_set, List.getElem?_set_self, List.getElem?_eq_getElem hi, hi, Option.bind_some, w0, w1, w2, hr0]
        exact ⟨_, rfl, by simp⟩
      obtain ⟨o2, g1, g2⟩ := hget
      exact ⟨k + 3, o2, g2, by omega, by omega, g1⟩) (fun k out => by
      unfold laws_markCuttingS_l2
      simp only
      rw [if_neg (by omega)]) l h0 (by omega) (by omega)
  rw [q1]
  exact ⟨k', out', rfl, q2, q3⟩


theorem law_FewestBlades (x : S_Blade) (l : List S_Cutting) (b : Int) (h0 : x.Name.size ≤ 9223372036854775807) (hl : l.length ≤ 9223372036854775807) (h : ∀ x ∈ l, x.Name.size ≤ 9223372036854775807) : laws_FnExactFewestBlades x l b = some true := by
  unfold laws_FnExactFewestBlades
  obtain ⟨v0, g1, hv0⟩ := fb_szBlade x 1048576 h0 (by omega) (by omega)
  rw [hv0, Option.bind_some]
  by_cases cv0 : v0 < 0
  · rw [if_pos cv0]
  rw [if_neg cv0]
  obtain ⟨v, _, hv, hc⟩ := fb_szCuttingS l hl h (left := v0) (by omega) (by omega)
  rw [hv, Option.bind_some]
  by_cases cv : v < 0
  · rw [if_pos cv]
  · rw [if_neg cv]
    have hn : l.length ≤ 1048576 := by omega
    obtain ⟨⟨r, n, c⟩, r6, hs, hi⟩ := fb_same x l b hn
    obtain ⟨m, mo, hm, hm0, _⟩ := fb_markCuttingS l hn (k0 := 1) (by omega) (by omega)
    have r6' : r.length ≤ 16 := r6
    have e1 := fb_eqI r (by omega)
    have e2 := fb_markI r 1 (by omega) (by omega)
    have e3 := fb_held r.length 1 (by omega) (by omega)
    have hm' : ¬ m < 0 := by omega
    have h3 : ¬ (1 + (r.length : Int) < 0) := by omega
    unfold laws_toBlade
    simp only [fb_toCuttingS l hn, hs, hi, e1, fb_eqCuttingS l hn, hm, e2, e3, Option.bind_some, if_true, hm', h3, if_false]
    simp

end Go.Pw
