/- The plain law of FnExactFindingText. Conditions: none. -/
import Derived.Test.YteglmkbkjaeijaaTftT
import Derived.Test.YteglmkbkjaeijaaSimPx
namespace Go.Pw
set_option linter.unusedVariables false
set_option linter.unusedSimpArgs false

theorem ft_impl {f : S_Finding} {k : ByteArray} (hk : k.size ≤ 10) (hne : k ≠ ⟨#[]⟩) (hi : impl_FindingName f.Kind = some k) (h1 : f.Who.size ≤ 1048576) (h2 : f.What.size ≤ 1048576) :
    ∃ r, ((cat k (⟨#[32]⟩ : ByteArray)).bind fun x10 => (cat x10 f.Who).bind fun x13 => (cat x13 (⟨#[32]⟩ : ByteArray)).bind fun x14 => (cat x14 f.What).bind fun x17 => some x17) = some r ∧ impl_FindingText f = some r := by
  have hs : (⟨#[32]⟩ : ByteArray).size = 1 := rfl
  have e : ((cat k (⟨#[32]⟩ : ByteArray)).bind fun x10 => (cat x10 f.Who).bind fun x13 => (cat x13 (⟨#[32]⟩ : ByteArray)).bind fun x14 => (cat x14 f.What).bind fun x17 => some x17) = some (k ++ ⟨#[32]⟩ ++ f.Who ++ ⟨#[32]⟩ ++ f.What) := by
    rw [cat_some (by omega), Option.bind_some, cat_some (by rw [ByteArray.size_append]; omega), Option.bind_some, cat_some (by rw [ByteArray.size_append, ByteArray.size_append]; omega), Option.bind_some,
      cat_some (by rw [ByteArray.size_append, ByteArray.size_append, ByteArray.size_append]; omega)]
    rfl
  refine ⟨_, e, ?_⟩
  unfold impl_FindingText
  rw [hi, Option.bind_some, if_neg hne]
  exact e

theorem ft_same {f : S_Finding} (h1 : f.Who.size ≤ 1048576) (h2 : f.What.size ≤ 1048576) : ∃ r, spec_FindingText f = some r ∧ impl_FindingText f = some r := by
  by_cases hk : 1 ≤ f.Kind ∧ f.Kind ≤ 5
  · have key : ∃ k : ByteArray, k.size ≤ 10 ∧ k ≠ ⟨#[]⟩ ∧ impl_FindingName f.Kind = some k ∧ (spec_l31Names.bind fun x7 => rd x7 f.Kind) = some k := by
      obtain ⟨h3, h4⟩ := hk
      have : f.Kind = 1 ∨ f.Kind = 2 ∨ f.Kind = 3 ∨ f.Kind = 4 ∨ f.Kind = 5 := by omega
      rcases this with e | e | e | e | e <;> rw [e] <;> refine ⟨_, ?_, ?_, rfl, rfl⟩ <;> first | decide | (intro h; injection h with h; exact absurd (congrArg Array.size h) (by decide))
    obtain ⟨k, k1, k2, k3, k4⟩ := key
    obtain ⟨r, e1, e2⟩ := ft_impl k1 k2 k3 h1 h2
    refine ⟨r, ?_, e2⟩
    unfold spec_FindingText spec_l31Kind spec_l00In
    simp only [Option.bind_some, ge_iff_le, hk.1, hk.2, decide_true, Bool.and_self, if_true]
    obtain ⟨x7, h7, h8⟩ := Option.bind_eq_some_iff.1 k4
    rw [h7, Option.bind_some, h8, Option.bind_some]
    exact e1
  · refine ⟨⟨#[]⟩, ?_, ?_⟩
    · unfold spec_FindingText spec_l31Kind spec_l00In
      have : (decide (f.Kind ≥ 1) && decide (f.Kind ≤ 5)) = false := by
        rw [Bool.and_eq_false_iff, decide_eq_false_iff_not, decide_eq_false_iff_not]; omega
      simp only [Option.bind_some, this]
      rfl
    · have : impl_FindingName f.Kind = some ⟨#[]⟩ := by
        unfold impl_FindingName
        rw [if_neg (by omega), if_neg (by omega), if_neg (by omega), if_neg (by omega), if_neg (by omega)]
      unfold impl_FindingText
      rw [this, Option.bind_some, if_pos rfl]

theorem law_FindingText (f : S_Finding) (h1 : f.Who.size ≤ 9223372036854775807) (h2 : f.What.size ≤ 9223372036854775807) : laws_FnExactFindingText f = some true := by
  unfold laws_FnExactFindingText laws_szFinding laws_toFinding
  have e1 : w64 (1048576 - (f.Who.size : Int)) = 1048576 - (f.Who.size : Int) := w64_id (by omega) (by omega)
  rw [e1]
  by_cases c1 : 1048576 - (f.Who.size : Int) < 0
  · rw [if_pos c1, Option.bind_some, if_pos (by decide)]
  · rw [if_neg c1]
    have e2 : w64 (1048576 - (f.Who.size : Int) - (f.What.size : Int)) = 1048576 - (f.Who.size : Int) - (f.What.size : Int) := w64_id (by omega) (by omega)
    rw [e2]
    by_cases c2 : 1048576 - (f.Who.size : Int) - (f.What.size : Int) < 0
    · rw [if_pos c2, Option.bind_some, if_pos (by decide)]
    · rw [if_neg c2, Option.bind_some, if_neg c2]
      obtain ⟨r, q1, q2⟩ := ft_same (f := f) (by omega) (by omega)
      simp only [Option.bind_some, q1, q2]
      simp

end Go.Pw
