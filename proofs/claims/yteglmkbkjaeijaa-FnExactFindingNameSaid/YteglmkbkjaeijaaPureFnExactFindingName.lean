/- The law FnExactFindingName answers true for every kind: the names of the kinds of findings are those of the reference. Conditions: none. -/
import Derived.Test.YteglmkbkjaeijaaPFnExactFindingNamex1
namespace Go.Proofs.Yteglmkbkjaeijaa.Pure
open Go.RowKit Go.Proofs.Yteglmkbkjaeijaa.PFnExactFindingName Go.Proofs.YteglmkbkjaeijaaW.PrintWords Go.Proofs.YteglmkbkjaeijaaW.PrintLast

/-- YOURS: ∀ (a0 : Int), (Lit.int .i64 a0).wf = true → laws_FnExactFindingName.f a0 = some true
What it reaches (each with k first where it has rounds; `.mono`: more rounds tell the same; `.l0`, ..: its loops, with `.mono_l`): spec_l00In.f, spec_l31Kind.f, spec_l31Names.f, spec_FindingName.f, impl_FindingName.f, laws_FnExactFindingName.f -/
theorem FnExactFindingName : laws_FnExactFindingName.Pure := by
  intro a _
  by_cases h : 1 ≤ a ∧ a ≤ 5
  · have h' : a = 1 ∨ a = 2 ∨ a = 3 ∨ a = 4 ∨ a = 5 := by omega
    rcases h' with rfl | rfl | rfl | rfl | rfl <;> decide +kernel
  · have hs : spec_FindingName.f a = some ⟨#[]⟩ := by
      unfold spec_FindingName.f spec_l31Kind.f spec_l00In.f
      by_cases h1 : a ≥ 1
      · have h2 : ¬ a ≤ 5 := by omega
        simp [h1, h2]
      · simp [h1]
    have hi : impl_FindingName.f a = some ⟨#[]⟩ := by
      unfold impl_FindingName.f
      rw [if_neg (by omega), if_neg (by omega), if_neg (by omega), if_neg (by omega), if_neg (by omega)]
    unfold laws_FnExactFindingName.f
    rw [hs, hi]
    decide +kernel

end Go.Proofs.Yteglmkbkjaeijaa.Pure
