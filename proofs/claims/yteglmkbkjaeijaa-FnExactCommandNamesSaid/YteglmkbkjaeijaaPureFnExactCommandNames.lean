/- The law FnExactCommandNames answers true: the names of the commands are those of the reference, in memory that no two calls share. Conditions: none. -/
import Derived.Test.YteglmkbkjaeijaaPFnExactCommandNamesx1
namespace Go.Proofs.Yteglmkbkjaeijaa.Pure
open Go.RowKit Go.Proofs.Yteglmkbkjaeijaa.PFnExactCommandNames Go.Proofs.YteglmkbkjaeijaaW.PrintWords Go.Proofs.YteglmkbkjaeijaaW.PrintLast

/-- YOURS: ∃ k, laws_FnExactCommandNames.f k  = some true
What it reaches (each with k first where it has rounds; `.mono`: more rounds tell the same; `.l0`, ..: its loops, with `.mono_l`): spec_CommandNames.f, impl_CommandNames.f, laws_eqStringS.f, laws_markText.f, laws_markStringS.f, laws_heldStringS.f, laws_FnExactCommandNames.f -/
theorem FnExactCommandNames : laws_FnExactCommandNames.Pure :=
  ⟨40, by kernel_rfl⟩

end Go.Proofs.Yteglmkbkjaeijaa.Pure
