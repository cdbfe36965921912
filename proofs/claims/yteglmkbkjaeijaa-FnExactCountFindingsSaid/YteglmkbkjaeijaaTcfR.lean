/- FnExactCountFindings: whatever the arguments, the law answers true, and the arguments read as they did. Conditions: none beyond those of the row. -/
import Derived.Test.YteglmkbkjaeijaaRows
import Derived.Test.YteglmkbkjaeijaaTcfL
import Derived.Test.YteglmkbkjaeijaaTcfP
import Derived.Test.YteglmkbkjaeijaaSimRj
import Derived.WalkKit
import Derived.ProofKit
import Derived.OpenShut
import Derived.ShutString
import Derived.ChangeOld
import Derived.Below
import Derived.SizedLaws
namespace Go.Proofs.Yteglmkbkjaeijaa
open Go Go.Sim Go.Pw Go.Proofs
set_option linter.unusedVariables false
set_option maxRecDepth 100000
theorem g7 : okF fc7 Try.f7 = true := by kernel_rfl
theorem g18 : okF fc18 Try.f18 = true := by kernel_rfl
theorem g20 : okF fc20 Try.f20 = true := by kernel_rfl
theorem g22 : okF fc22 Try.f22 = true := by kernel_rfl
theorem g23 : okF fc23 Try.f23 = true := by kernel_rfl
theorem g24 : okF fc24 Try.f24 = true := by kernel_rfl
theorem g25 : okF fc25 Try.f25 = true := by kernel_rfl
theorem g26 : okF fc26 Try.f26 = true := by kernel_rfl
theorem g27 : okF fc27 Try.f27 = true := by kernel_rfl
theorem g28 : okF fc28 Try.f28 = true := by kernel_rfl
theorem g29 : okF fc29 Try.f29 = true := by kernel_rfl
theorem g30 : okF fc30 Try.f30 = true := by kernel_rfl
theorem g36 : okF fc36 Try.f36 = true := by kernel_rfl
theorem g38 : okF fc38 Try.f38 = true := by kernel_rfl
theorem g40 : okF fc40 Try.f40 = true := by kernel_rfl
theorem g41 : okF fc41 Try.f41 = true := by kernel_rfl
theorem g42 : okF fc42 Try.f42 = true := by kernel_rfl
theorem mixed : Try.prog.follows .mixedOrders = true := by kernel_rfl
theorem cfgOK : CfgOK Try.prog cfg := by
  refine cfgOK_of mixed ?_
  unfold ons
  simp only [List.forall_mem_cons]
  exact ⟨⟨_, Try.func7, g7⟩, ⟨_, Try.func18, g18⟩, ⟨_, Try.func20, g20⟩, ⟨_, Try.func22, g22⟩, ⟨_, Try.func23, g23⟩, ⟨_, Try.func24, g24⟩, ⟨_, Try.func25, g25⟩, ⟨_, Try.func26, g26⟩, ⟨_, Try.func27, g27⟩, ⟨_, Try.func28, g28⟩, ⟨_, Try.func29, g29⟩, ⟨_, Try.func30, g30⟩, ⟨_, Try.func36, g36⟩, ⟨_, Try.func38, g38⟩, ⟨_, Try.func40, g40⟩, ⟨_, Try.func41, g41⟩, ⟨_, Try.func42, g42⟩, fun _ h => by cases h⟩
theorem laid : laidOutB Try.prog = true := by kernel_rfl
theorem rowed : mapsRowed Try.prog = true := by kernel_rfl
theorem sized : slicesSized Try.prog = true := by kernel_rfl
def ok_S_Finding (x : S_Finding) : Prop := (Lit.int .i64 x.Kind).wf = true ∧ x.Who.size ≤ maxLen ∧ x.What.size ≤ maxLen
theorem o30 : Opens Try.prog 30 (fun x : S_Finding => (e_S_Finding x).cells) ok_S_Finding :=
  opens_map (fun p : Int × ByteArray × ByteArray × Unit => ⟨p.1, p.2.1, p.2.2.1⟩)
    (opens_struct Try.underlying30 (by kernel_rfl) (opensF_cons (s := 1) (by kernel_rfl) rfl (opens_int Try.underlying2) (opensF_cons (s := 1) (by kernel_rfl) rfl (opens_string Try.underlying9) (opensF_cons (s := 1) (by kernel_rfl) rfl (opens_string Try.underlying9) opensF_nil))))
    (fun _ => rfl) (fun _ h => ⟨h.1, h.2.1, h.2.2.1⟩)
namespace fnExactCountFindings
theorem own : ownKnob Try.prog.godebug = none := by kernel_rfl
theorem lifted (os : Os) (started : os.Started) (H : Type) (enc : TypeId × Value → H) :
    ReturnsInHanded {} Try.checked os 7 .any (Rows.fnExactCountFindingsSpec.pre6 enc Try.prog Try.f7 Rows.fnExactCountFindingsRow.domain false) (Rows.fnExactCountFindingsSpec.post enc Try.prog Try.f7 false true false false) := by
  refine returnsInHanded_of_change_sized (C := Try.checked) own started (by kernel_rfl) Try.func7
    (ChangeSpec.witness6 (enc := enc) (C := Try.checked) false ⟨#[], #[.slice none 0 0], []⟩ 8 (by kernel_rfl) (by kernel_rfl) (by kernel_rfl) (by kernel_rfl)) ?_
  intro W base args ds gs before hval0 hW hcnd hsz0 _
  have hval : ∀ (j : Nat) t v, Try.f7.params[j]? = some t → args[j]? = some v → Value.okWide Try.prog W .any base t v := hval0
  have hW' := hW
  obtain ⟨p, q, hA0, hV, rfl, hfz, hnd⟩ := hW
  have hA : DataW.TrodAll enc Try.prog W 0 (fun _ => true) true Try.f7.params.toList args.toList ds p := hA0
  rw [Try.params7] at hA hval
  obtain ⟨v0, vs0, d0, ds0, p0, q0, hargs0, rfl, rfl, h0, r0⟩ := ChangeShapes.trodAll_cons hA
  obtain ⟨rfl, rfl, rfl⟩ := ChangeShapes.trodAll_nil r0
  obtain rfl : args = #[v0] := by cases args; simp_all
  obtain ⟨rfl, rfl⟩ := ChangeShapes.trodVars_none hV
  obtain ⟨a0, k0, w0⟩ := arg_one (tt := 2) (opens_slice (e := 30) (sz := 3) (ee := e_S_Finding) Try.underlying36 (by kernel_rfl) (by decide) (fun _ => rfl) (fun _ => rfl) o30) (by rw [Try.underlying36]) (hval 0 36 v0 rfl rfl) h0
  refine (rowCalls cfgOK (L_laws_FnExactCountFindings (law_CountFindings a0 w0.2 (fun x hx => ⟨(w0.1 x hx).2.1, (w0.1 x hx).2.2⟩))) (show ArgVs _ _ _ [v0] from (.cons k0 .nil))).mono fun e W' ⟨he, hio, _, hb⟩ => ?_
  exact ⟨_, he, row_post Try.underlying4 rfl rfl hW' rfl (kids_rows laid rowed) sized (by decide) hio hb⟩
theorem over : Rows.fnExactCountFindingsRow.holds Try.pinned (OpenSpec.ofChange Rows.fnExactCountFindingsSpec) :=
  OpenClaim.holds_of_wide 7 Try.f7 rfl rfl rfl rfl rfl rfl rfl ⟨rfl, rfl, rfl, rfl, rfl⟩ rfl rfl rfl rfl rfl (by kernel_rfl) Try.func7 (by kernel_rfl)
    (of_decide_eq_true (by kernel_rfl)) (by unfold Func.isWrapper; first | (rw [if_pos (by decide +kernel)]; kernel_rfl) | (rw [if_neg (by decide +kernel)]; exact ⟨rfl, rfl⟩))
    (fun os started H enc _ => lifted os started H enc)
theorem proved : Rows.FnExactCountFindingsSaid := over
#print axioms proved
end fnExactCountFindings
/-- The row, under a short name, for the claim. -/
theorem fnExactCountFindings_holds : Rows.FnExactCountFindingsSaid := fnExactCountFindings.proved
end Go.Proofs.Yteglmkbkjaeijaa
