/- The law FnExactNestName answers true for every kind: the names of the faults of a nesting are those of the reference. Conditions: none. -/
import Derived.Test.YteglmkbkjaeijaaPFnExactNestNamex1
namespace Go.Proofs.Yteglmkbkjaeijaa.Pure
open Go.RowKit Go.Proofs.Yteglmkbkjaeijaa.PFnExactNestName Go.Proofs.YteglmkbkjaeijaaW.PrintWords Go.Proofs.YteglmkbkjaeijaaW.PrintLast

/-- YOURS: ∀ (a0 : Int), (Lit.int .i64 a0).wf = true → laws_FnExactNestName.f a0 = some true
What it reaches (each with k first where it has rounds; `.mono`: more rounds tell the same; `.l0`, ..: its loops, with `.mono_l`): spec_l00In.f, spec_l31Nests.f, spec_NestName.f, impl_NestName.f, laws_FnExactNestName.f -/
theorem FnExactNestName : laws_FnExactNestName.Pure := by
  intro a _
  by_cases h : 1 ≤ a ∧ a ≤ 8
  · have h' : a = 1 ∨ a = 2 ∨ a = 3 ∨ a = 4 ∨ a = 5 ∨ a = 6 ∨ a = 7 ∨ a = 8 := by omega
    rcases h' with rfl | rfl | rfl | rfl | rfl | rfl | rfl | rfl <;> decide +kernel
  · have hs : spec_NestName.f a = some ⟨#[]⟩ := by
      unfold spec_NestName.f spec_l00In.f
      by_cases h1 : a ≥ 1
      · have h2 : ¬ a ≤ 8 := by omega
        simp [h1, h2]
      · simp [h1]
    have hi : impl_NestName.f a = some ⟨#[]⟩ := by
      unfold impl_NestName.f
      rw [if_neg (by omega), if_neg (by omega), if_neg (by omega), if_neg (by omega), if_neg (by omega), if_neg (by omega), if_neg (by omega), if_neg (by omega)]
    unfold laws_FnExactNestName.f
    rw [hs, hi]
    decide +kernel

end Go.Proofs.Yteglmkbkjaeijaa.Pure
