/- FnExactFindingText: whatever the finding, the law answers true, and the finding reads as it did. Conditions: none beyond those of the row. -/
import Derived.Test.YteglmkbkjaeijaaRows
import Derived.Test.YteglmkbkjaeijaaTftL
import Derived.Test.YteglmkbkjaeijaaTftP
import Derived.Test.YteglmkbkjaeijaaSimRj
import Derived.WalkKit
import Derived.ProofKit
import Derived.OpenShut
import Derived.ShutString
import Derived.ChangeOld
import Derived.Below
import Derived.SizedLaws
namespace Go.Proofs.Yteglmkbkjaeijaa
open Go Go.Sim Go.Pw Go.Proofs
set_option linter.unusedVariables false
set_option maxRecDepth 100000
theorem g6 : okF fc6 Try.f6 = true := by kernel_rfl
theorem g10 : okF fc10 Try.f10 = true := by kernel_rfl
theorem g18 : okF fc18 Try.f18 = true := by kernel_rfl
theorem g19 : okF fc19 Try.f19 = true := by kernel_rfl
theorem g20 : okF fc20 Try.f20 = true := by kernel_rfl
theorem g21 : okF fc21 Try.f21 = true := by kernel_rfl
theorem g36 : okF fc36 Try.f36 = true := by kernel_rfl
theorem g37 : okF fc37 Try.f37 = true := by kernel_rfl
theorem g38 : okF fc38 Try.f38 = true := by kernel_rfl
theorem mixed : Try.prog.follows .mixedOrders = true := by kernel_rfl
theorem cfgOK : CfgOK Try.prog cfg := by
  refine cfgOK_of mixed ?_
  unfold ons
  simp only [List.forall_mem_cons]
  exact ⟨⟨_, Try.func6, g6⟩, ⟨_, Try.func10, g10⟩, ⟨_, Try.func18, g18⟩, ⟨_, Try.func19, g19⟩, ⟨_, Try.func20, g20⟩, ⟨_, Try.func21, g21⟩, ⟨_, Try.func36, g36⟩, ⟨_, Try.func37, g37⟩, ⟨_, Try.func38, g38⟩, fun _ h => by cases h⟩
theorem laid : laidOutB Try.prog = true := by kernel_rfl
theorem rowed : mapsRowed Try.prog = true := by kernel_rfl
theorem sized : slicesSized Try.prog = true := by kernel_rfl
theorem opens_S_Finding : Opens Try.prog 30 (fun x : S_Finding => [.sc (.int .i64 x.Kind), .sc (.string x.Who), .sc (.string x.What)]) (fun x => (Lit.int .i64 x.Kind).wf = true ∧ x.Who.size ≤ maxLen ∧ x.What.size ≤ maxLen) :=
  opens_map (fun p : Int × ByteArray × ByteArray × Unit => ⟨p.1, p.2.1, p.2.2.1⟩)
    (opens_struct Try.underlying30 (by kernel_rfl) (opensF_cons (s := 1) (by kernel_rfl) rfl (opens_int Try.underlying2) (opensF_cons (s := 1) (by kernel_rfl) rfl (opens_string Try.underlying9) (opensF_cons (s := 1) (by kernel_rfl) rfl (opens_string Try.underlying9) opensF_nil))))
    (fun _ => rfl) (fun _ h => ⟨h.1, h.2.1, h.2.2.1⟩)
namespace fnExactFindingText
theorem own : ownKnob Try.prog.godebug = none := by kernel_rfl
theorem lifted (os : Os) (started : os.Started) (H : Type) (enc : TypeId × Value → H) :
    ReturnsInHanded {} Try.checked os 6 .any (Rows.fnExactFindingTextSpec.pre6 enc Try.prog Try.f6 Rows.fnExactFindingTextRow.domain false) (Rows.fnExactFindingTextSpec.post enc Try.prog Try.f6 false true false false) := by
  refine returnsInHanded_of_change_sized (C := Try.checked) own started (by kernel_rfl) Try.func6
    (ChangeSpec.witness6 (enc := enc) (C := Try.checked) false ⟨#[], #[.agg #[.int .i64 0, .string ⟨#[]⟩, .string ⟨#[]⟩]], []⟩ 8 (by kernel_rfl) (by kernel_rfl) (by kernel_rfl) (by kernel_rfl)) ?_
  intro W base args ds gs before hval0 hW hcnd hsz0 _
  have hval : ∀ (j : Nat) t v, Try.f6.params[j]? = some t → args[j]? = some v → Value.okWide Try.prog W .any base t v := hval0
  have hW' := hW
  obtain ⟨p, q, hA0, hV, rfl, hfz, hnd⟩ := hW
  have hA : DataW.TrodAll enc Try.prog W 0 (fun _ => true) true Try.f6.params.toList args.toList ds p := hA0
  rw [Try.params6] at hA hval
  obtain ⟨v0, vs0, d0, ds0, p0, q0, hargs, rfl, rfl, h0, r0⟩ := ChangeShapes.trodAll_cons hA
  obtain ⟨rfl, rfl, rfl⟩ := ChangeShapes.trodAll_nil r0
  obtain rfl : args = #[v0] := by cases args; simp_all
  obtain ⟨rfl, rfl⟩ := ChangeShapes.trodVars_none hV
  obtain ⟨a0, k0, w0⟩ := arg_agg (tt := 2) opens_S_Finding Try.underlying30 (hval 0 30 v0 rfl rfl) h0
  refine (rowCalls cfgOK (L_laws_FnExactFindingText (law_FindingText a0 w0.2.1 w0.2.2)) (ArgVs.cons k0 .nil)).mono fun e W' ⟨he, hio, _, hb⟩ => ?_
  exact ⟨_, he, row_post Try.underlying4 rfl rfl hW' rfl (kids_rows laid rowed) sized (by decide) hio hb⟩
theorem over : Rows.fnExactFindingTextRow.holds Try.pinned (OpenSpec.ofChange Rows.fnExactFindingTextSpec) :=
  OpenClaim.holds_of_wide 6 Try.f6 rfl rfl rfl rfl rfl rfl rfl ⟨rfl, rfl, rfl, rfl, rfl⟩ rfl rfl rfl rfl rfl (by kernel_rfl) Try.func6 (by kernel_rfl)
    (of_decide_eq_true (by kernel_rfl)) (by unfold Func.isWrapper; first | (rw [if_pos (by decide +kernel)]; kernel_rfl) | (rw [if_neg (by decide +kernel)]; exact ⟨rfl, rfl⟩))
    (fun os started H enc _ => lifted os started H enc)
theorem proved : Rows.FnExactFindingTextSaid := over
#print axioms proved
end fnExactFindingText
/-- The row, under a short name, for the claim. -/
theorem fnExactFindingText_holds : Rows.FnExactFindingTextSaid := fnExactFindingText.proved
end Go.Proofs.Yteglmkbkjaeijaa
