/- FnExactBestGlueOrder: whatever the arguments, the law answers true, and the arguments read as they did. Conditions: none beyond those of the row. -/
import Derived.Test.YtigjhjlkdamncaaRows
import Derived.Test.YtigjhjlkdamncaaTbgL
import Derived.Test.YtigjhjlkdamncaaTbgP
import Derived.Test.YtigjhjlkdamncaaSimRk
import Derived.WalkKit
import Derived.ProofKit
import Derived.OpenShut
import Derived.ShutString
import Derived.ChangeOld
import Derived.Below
import Derived.SizedLaws
namespace Go.Proofs.Ytigjhjlkdamncaa
open Go Go.Sim Go.Pw Go.Proofs
set_option linter.unusedVariables false
set_option maxRecDepth 100000
theorem g8 : okF fc8 Try.f8 = true := by kernel_rfl
theorem g27 : okF fc27 Try.f27 = true := by kernel_rfl
theorem g30 : okF fc30 Try.f30 = true := by kernel_rfl
theorem g31 : okF fc31 Try.f31 = true := by kernel_rfl
theorem g53 : okF fc53 Try.f53 = true := by kernel_rfl
theorem g54 : okF fc54 Try.f54 = true := by kernel_rfl
theorem g55 : okF fc55 Try.f55 = true := by kernel_rfl
theorem g56 : okF fc56 Try.f56 = true := by kernel_rfl
theorem g57 : okF fc57 Try.f57 = true := by kernel_rfl
theorem g58 : okF fc58 Try.f58 = true := by kernel_rfl
theorem g92 : okF fc92 Try.f92 = true := by kernel_rfl
theorem g102 : okF fc102 Try.f102 = true := by kernel_rfl
theorem g105 : okF fc105 Try.f105 = true := by kernel_rfl
theorem g108 : okF fc108 Try.f108 = true := by kernel_rfl
theorem g133 : okF fc133 Try.f133 = true := by kernel_rfl
theorem g134 : okF fc134 Try.f134 = true := by kernel_rfl
theorem g135 : okF fc135 Try.f135 = true := by kernel_rfl
theorem g136 : okF fc136 Try.f136 = true := by kernel_rfl
theorem g137 : okF fc137 Try.f137 = true := by kernel_rfl
theorem g138 : okF fc138 Try.f138 = true := by kernel_rfl
theorem g139 : okF fc139 Try.f139 = true := by kernel_rfl
theorem g152 : okF fc152 Try.f152 = true := by kernel_rfl
theorem g214 : okF fc214 Try.f214 = true := by kernel_rfl
theorem g216 : okF fc216 Try.f216 = true := by kernel_rfl
theorem g217 : okF fc217 Try.f217 = true := by kernel_rfl
theorem g218 : okF fc218 Try.f218 = true := by kernel_rfl
theorem g219 : okF fc219 Try.f219 = true := by kernel_rfl
theorem g220 : okF fc220 Try.f220 = true := by kernel_rfl
theorem g230 : okF fc230 Try.f230 = true := by kernel_rfl
theorem g250 : okF fc250 Try.f250 = true := by kernel_rfl
theorem g252 : okF fc252 Try.f252 = true := by kernel_rfl
theorem g258 : okF fc258 Try.f258 = true := by kernel_rfl
theorem g263 : okF fc263 Try.f263 = true := by kernel_rfl
theorem g276 : okF fc276 Try.f276 = true := by kernel_rfl
theorem g277 : okF fc277 Try.f277 = true := by kernel_rfl
theorem mixed : Try.prog.follows .mixedOrders = true := by kernel_rfl
theorem cfgOK : CfgOK Try.prog cfg := by
  refine cfgOK_ext mixed ?_ fun f g hg => ?_
  · unfold ons
    simp only [List.forall_mem_cons]
    exact ⟨⟨_, Try.func8, g8⟩, ⟨_, Try.func27, g27⟩, ⟨_, Try.func30, g30⟩, ⟨_, Try.func31, g31⟩, ⟨_, Try.func53, g53⟩, ⟨_, Try.func54, g54⟩, ⟨_, Try.func55, g55⟩, ⟨_, Try.func56, g56⟩, ⟨_, Try.func57, g57⟩, ⟨_, Try.func58, g58⟩, ⟨_, Try.func92, g92⟩, ⟨_, Try.func102, g102⟩, ⟨_, Try.func105, g105⟩, ⟨_, Try.func108, g108⟩, ⟨_, Try.func133, g133⟩, ⟨_, Try.func134, g134⟩, ⟨_, Try.func135, g135⟩, ⟨_, Try.func136, g136⟩, ⟨_, Try.func137, g137⟩, ⟨_, Try.func138, g138⟩, ⟨_, Try.func139, g139⟩, ⟨_, Try.func152, g152⟩, ⟨_, Try.func214, g214⟩, ⟨_, Try.func216, g216⟩, ⟨_, Try.func217, g217⟩, ⟨_, Try.func218, g218⟩, ⟨_, Try.func219, g219⟩, ⟨_, Try.func220, g220⟩, ⟨_, Try.func230, g230⟩, ⟨_, Try.func250, g250⟩, ⟨_, Try.func252, g252⟩, ⟨_, Try.func258, g258⟩, ⟨_, Try.func263, g263⟩, ⟨_, Try.func276, g276⟩, ⟨_, Try.func277, g277⟩, fun _ h => by cases h⟩
  rcases look_cons hg with ⟨rfl, h⟩ | hg
  · cases h
    exact clone_ext (cfg := cfg) (fn := Try.f187) mixed Try.func187 rfl rfl rfl rfl eF27 sF27 rfl uF27 rfl rfl rF187 rfl
  cases hg
theorem laid : laidOutB Try.prog = true := by kernel_rfl
theorem rowed : mapsRowed Try.prog = true := by kernel_rfl
theorem sized : slicesSized Try.prog = true := by kernel_rfl
def ok_S_Bond (x : S_Bond) : Prop := x.Name.size ≤ maxLen ∧ (Lit.int .i64 x.Spread).wf = true ∧ (Lit.int .i64 x.Open).wf = true ∧ (Lit.int .i64 x.Press).wf = true
theorem o204 : Opens Try.prog 204 (fun x : S_Bond => (e_S_Bond x).cells) ok_S_Bond :=
  opens_map (fun p : ByteArray × Int × Int × Int × Unit => ⟨p.1, p.2.1, p.2.2.1, p.2.2.2.1⟩)
    (opens_struct Try.underlying204 (by kernel_rfl) (opensF_cons (s := 1) (by kernel_rfl) rfl (opens_string Try.underlying9) (opensF_cons (s := 1) (by kernel_rfl) rfl (opens_int Try.underlying2) (opensF_cons (s := 1) (by kernel_rfl) rfl (opens_int Try.underlying2) (opensF_cons (s := 1) (by kernel_rfl) rfl (opens_int Try.underlying2) opensF_nil)))))
    (fun _ => rfl) (fun _ h => ⟨h.1, h.2.1, h.2.2.1, h.2.2.2.1⟩)
namespace fnExactBestGlueOrder
theorem own : ownKnob Try.prog.godebug = none := by kernel_rfl
theorem lifted (os : Os) (started : os.Started) (H : Type) (enc : TypeId × Value → H) :
    ReturnsInHanded {} Try.checked os 8 .any (Rows.fnExactBestGlueOrderSpec.pre6 enc Try.prog Try.f8 Rows.fnExactBestGlueOrderRow.domain false) (Rows.fnExactBestGlueOrderSpec.post enc Try.prog Try.f8 false true false false) := by
  refine returnsInHanded_of_change_sized (C := Try.checked) own started (by kernel_rfl) Try.func8
    (ChangeSpec.witness6 (enc := enc) (C := Try.checked) false ⟨#[], #[.slice none 0 0, .int .i64 0, .int .i64 0], []⟩ 8 (by kernel_rfl) (by kernel_rfl) (by kernel_rfl) (by kernel_rfl)) ?_
  intro W base args ds gs before hval0 hW hcnd hsz0 _
  have hval : ∀ (j : Nat) t v, Try.f8.params[j]? = some t → args[j]? = some v → Value.okWide Try.prog W .any base t v := hval0
  have hW' := hW
  obtain ⟨p, q, hA0, hV, rfl, hfz, hnd⟩ := hW
  have hA : DataW.TrodAll enc Try.prog W 0 (fun _ => true) true Try.f8.params.toList args.toList ds p := hA0
  rw [Try.params8] at hA hval
  obtain ⟨v0, vs0, d0, ds0, p0, q0, hargs0, rfl, rfl, h0, r0⟩ := ChangeShapes.trodAll_cons hA
  clear hA0
  obtain ⟨v1, vs1, d1, ds1, p1, q1, hargs1, rfl, rfl, h1, r1⟩ := ChangeShapes.trodAll_cons r0
  subst hargs1
  obtain ⟨v2, vs2, d2, ds2, p2, q2, hargs2, rfl, rfl, h2, r2⟩ := ChangeShapes.trodAll_cons r1
  obtain ⟨rfl, rfl, rfl⟩ := ChangeShapes.trodAll_nil r2
  subst hargs2
  obtain rfl : args = #[v0, v1, v2] := by cases args; simp_all
  obtain ⟨rfl, rfl⟩ := ChangeShapes.trodVars_none hV
  obtain ⟨a0, k0, w0⟩ := arg_one (tt := 2) (opens_slice (e := 204) (sz := 4) (ee := e_S_Bond) Try.underlying78 (by kernel_rfl) (by decide) (fun _ => rfl) (fun _ => rfl) o204) (by rw [Try.underlying78]) (hval 0 78 v0 rfl rfl) h0
  obtain ⟨a1, k1, w1⟩ := arg_one (tt := 2) (opens_int Try.underlying2) (by rw [Try.underlying2]) (hval 1 2 v1 rfl rfl) h1
  obtain ⟨a2, k2, w2⟩ := arg_one (tt := 2) (opens_int Try.underlying2) (by rw [Try.underlying2]) (hval 2 2 v2 rfl rfl) h2
  refine (rowCalls cfgOK (L_laws_FnExactBestGlueOrder (law_BestGlueOrder a0 a1 a2 w0.2 (fun x hx => (w0.1 x hx).1))) (show ArgVs _ _ _ [v0, v1, v2] from (.cons k0 (.cons k1 (.cons k2 .nil))))).mono fun e W' ⟨he, hio, _, hb⟩ => ?_
  exact ⟨_, he, row_post Try.underlying4 rfl rfl hW' rfl (kids_rows laid rowed) sized (by decide) hio hb⟩
theorem and2 {a b : Bool} (h1 : a = true) (h2 : b = true) : (a && b) = true := by rw [h1, h2]; rfl
set_option maxHeartbeats 4000000 in
theorem closed : joinedFacts Try.prog 8 Try.f8 Rows.fnExactBestGlueOrderSpec Rows.fnExactBestGlueOrderRow = true := by
  unfold joinedFacts
  repeat' with_reducible refine and2 ?_ ?_
  all_goals (as_aux_lemma => kernel_rfl)
theorem over : Rows.fnExactBestGlueOrderRow.holds Try.pinned (OpenSpec.ofChange Rows.fnExactBestGlueOrderSpec) :=
  OpenClaim.holds_of_wide 8 Try.f8 rfl rfl rfl rfl rfl rfl rfl ⟨rfl, rfl, rfl, rfl, rfl⟩ rfl rfl rfl rfl rfl (by kernel_rfl) Try.func8 closed
    (of_decide_eq_true (by kernel_rfl)) (by unfold Func.isWrapper; first | (rw [if_pos (by decide +kernel)]; kernel_rfl) | (rw [if_neg (by decide +kernel)]; exact ⟨rfl, rfl⟩))
    (fun os started H enc _ => lifted os started H enc)
theorem proved : Rows.FnExactBestGlueOrderSaid := over
#print axioms proved
end fnExactBestGlueOrder
/-- The row, under a short name, for the claim. -/
theorem fnExactBestGlueOrder_holds : Rows.FnExactBestGlueOrderSaid := fnExactBestGlueOrder.proved
end Go.Proofs.Ytigjhjlkdamncaa
