/- FnExactFewestSteps: whatever the arguments, the law answers true, and the arguments read as they did. Conditions: none beyond those of the row. -/
import Derived.Test.YtigjhjlkdamncaaRows
import Derived.Test.YtigjhjlkdamncaaTfsL
import Derived.Test.YtigjhjlkdamncaaTfsP
import Derived.Test.YtigjhjlkdamncaaSimRk
import Derived.WalkKit
import Derived.ProofKit
import Derived.OpenShut
import Derived.ShutString
import Derived.ChangeOld
import Derived.Below
import Derived.SizedLaws
namespace Go.Proofs.Ytigjhjlkdamncaa
open Go Go.Sim Go.Pw Go.Proofs
set_option linter.unusedVariables false
set_option maxRecDepth 100000
theorem g6 : okF fc6 Try.f6 = true := by kernel_rfl
theorem g40 : okF fc40 Try.f40 = true := by kernel_rfl
theorem g41 : okF fc41 Try.f41 = true := by kernel_rfl
theorem g42 : okF fc42 Try.f42 = true := by kernel_rfl
theorem g43 : okF fc43 Try.f43 = true := by kernel_rfl
theorem g44 : okF fc44 Try.f44 = true := by kernel_rfl
theorem g45 : okF fc45 Try.f45 = true := by kernel_rfl
theorem g46 : okF fc46 Try.f46 = true := by kernel_rfl
theorem g92 : okF fc92 Try.f92 = true := by kernel_rfl
theorem g102 : okF fc102 Try.f102 = true := by kernel_rfl
theorem g117 : okF fc117 Try.f117 = true := by kernel_rfl
theorem g118 : okF fc118 Try.f118 = true := by kernel_rfl
theorem g119 : okF fc119 Try.f119 = true := by kernel_rfl
theorem g120 : okF fc120 Try.f120 = true := by kernel_rfl
theorem g121 : okF fc121 Try.f121 = true := by kernel_rfl
theorem g122 : okF fc122 Try.f122 = true := by kernel_rfl
theorem g123 : okF fc123 Try.f123 = true := by kernel_rfl
theorem g124 : okF fc124 Try.f124 = true := by kernel_rfl
theorem g125 : okF fc125 Try.f125 = true := by kernel_rfl
theorem g200 : okF fc200 Try.f200 = true := by kernel_rfl
theorem g201 : okF fc201 Try.f201 = true := by kernel_rfl
theorem g202 : okF fc202 Try.f202 = true := by kernel_rfl
theorem g203 : okF fc203 Try.f203 = true := by kernel_rfl
theorem g204 : okF fc204 Try.f204 = true := by kernel_rfl
theorem g205 : okF fc205 Try.f205 = true := by kernel_rfl
theorem g206 : okF fc206 Try.f206 = true := by kernel_rfl
theorem g207 : okF fc207 Try.f207 = true := by kernel_rfl
theorem g208 : okF fc208 Try.f208 = true := by kernel_rfl
theorem g210 : okF fc210 Try.f210 = true := by kernel_rfl
theorem g254 : okF fc254 Try.f254 = true := by kernel_rfl
theorem g255 : okF fc255 Try.f255 = true := by kernel_rfl
theorem g256 : okF fc256 Try.f256 = true := by kernel_rfl
theorem g257 : okF fc257 Try.f257 = true := by kernel_rfl
theorem g258 : okF fc258 Try.f258 = true := by kernel_rfl
theorem g259 : okF fc259 Try.f259 = true := by kernel_rfl
theorem g260 : okF fc260 Try.f260 = true := by kernel_rfl
theorem g261 : okF fc261 Try.f261 = true := by kernel_rfl
theorem g262 : okF fc262 Try.f262 = true := by kernel_rfl
theorem mixed : Try.prog.follows .mixedOrders = true := by kernel_rfl
theorem cfgOK : CfgOK Try.prog cfg := by
  refine cfgOK_ext mixed ?_ fun f g hg => ?_
  · unfold ons
    simp only [List.forall_mem_cons]
    exact ⟨⟨_, Try.func6, g6⟩, ⟨_, Try.func40, g40⟩, ⟨_, Try.func41, g41⟩, ⟨_, Try.func42, g42⟩, ⟨_, Try.func43, g43⟩, ⟨_, Try.func44, g44⟩, ⟨_, Try.func45, g45⟩, ⟨_, Try.func46, g46⟩, ⟨_, Try.func92, g92⟩, ⟨_, Try.func102, g102⟩, ⟨_, Try.func117, g117⟩, ⟨_, Try.func118, g118⟩, ⟨_, Try.func119, g119⟩, ⟨_, Try.func120, g120⟩, ⟨_, Try.func121, g121⟩, ⟨_, Try.func122, g122⟩, ⟨_, Try.func123, g123⟩, ⟨_, Try.func124, g124⟩, ⟨_, Try.func125, g125⟩, ⟨_, Try.func200, g200⟩, ⟨_, Try.func201, g201⟩, ⟨_, Try.func202, g202⟩, ⟨_, Try.func203, g203⟩, ⟨_, Try.func204, g204⟩, ⟨_, Try.func205, g205⟩, ⟨_, Try.func206, g206⟩, ⟨_, Try.func207, g207⟩, ⟨_, Try.func208, g208⟩, ⟨_, Try.func210, g210⟩, ⟨_, Try.func254, g254⟩, ⟨_, Try.func255, g255⟩, ⟨_, Try.func256, g256⟩, ⟨_, Try.func257, g257⟩, ⟨_, Try.func258, g258⟩, ⟨_, Try.func259, g259⟩, ⟨_, Try.func260, g260⟩, ⟨_, Try.func261, g261⟩, ⟨_, Try.func262, g262⟩, fun _ h => by cases h⟩
  rcases look_cons hg with ⟨rfl, h⟩ | hg
  · cases h
    exact clone_ext (cfg := cfg) (fn := Try.f209) mixed Try.func209 rfl rfl rfl rfl eF63 sF63 rfl uF63 rfl rfl rF209 rfl
  cases hg
theorem laid : laidOutB Try.prog = true := by kernel_rfl
theorem rowed : mapsRowed Try.prog = true := by kernel_rfl
theorem sized : slicesSized Try.prog = true := by kernel_rfl
def ok_S_Step (x : S_Step) : Prop := (Lit.int .i64 x.Kind).wf = true ∧ (Lit.int .i64 x.A).wf = true ∧ (Lit.int .i64 x.B).wf = true
theorem o180 : Opens Try.prog 180 (fun x : S_Step => (e_S_Step x).cells) ok_S_Step :=
  opens_map (fun p : Int × Int × Int × Unit => ⟨p.1, p.2.1, p.2.2.1⟩)
    (opens_struct Try.underlying180 (by kernel_rfl) (opensF_cons (s := 1) (by kernel_rfl) rfl (opens_int Try.underlying2) (opensF_cons (s := 1) (by kernel_rfl) rfl (opens_int Try.underlying2) (opensF_cons (s := 1) (by kernel_rfl) rfl (opens_int Try.underlying2) opensF_nil))))
    (fun _ => rfl) (fun _ h => ⟨h.1, h.2.1, h.2.2.1⟩)
namespace fnExactFewestSteps
theorem own : ownKnob Try.prog.godebug = none := by kernel_rfl
theorem lifted (os : Os) (started : os.Started) (H : Type) (enc : TypeId × Value → H) :
    ReturnsInHanded {} Try.checked os 6 .any (Rows.fnExactFewestStepsSpec.pre6 enc Try.prog Try.f6 Rows.fnExactFewestStepsRow.domain false) (Rows.fnExactFewestStepsSpec.post enc Try.prog Try.f6 false true false false) := by
  refine returnsInHanded_of_change_sized (C := Try.checked) own started (by kernel_rfl) Try.func6
    (ChangeSpec.witness6 (enc := enc) (C := Try.checked) false ⟨#[], #[.string ⟨#[]⟩, .int .i64 0, .int .i64 0, .int .i64 0, .slice none 0 0, .int .i64 0], []⟩ 8 (by kernel_rfl) (by kernel_rfl) (by kernel_rfl) (by kernel_rfl)) ?_
  intro W base args ds gs before hval0 hW hcnd hsz0 _
  have hval : ∀ (j : Nat) t v, Try.f6.params[j]? = some t → args[j]? = some v → Value.okWide Try.prog W .any base t v := hval0
  have hW' := hW
  obtain ⟨p, q, hA0, hV, rfl, hfz, hnd⟩ := hW
  have hA : DataW.TrodAll enc Try.prog W 0 (fun _ => true) true Try.f6.params.toList args.toList ds p := hA0
  rw [Try.params6] at hA hval
  obtain ⟨v0, vs0, d0, ds0, p0, q0, hargs0, rfl, rfl, h0, r0⟩ := ChangeShapes.trodAll_cons hA
  clear hA0
  obtain ⟨v1, vs1, d1, ds1, p1, q1, hargs1, rfl, rfl, h1, r1⟩ := ChangeShapes.trodAll_cons r0
  subst hargs1
  obtain ⟨v2, vs2, d2, ds2, p2, q2, hargs2, rfl, rfl, h2, r2⟩ := ChangeShapes.trodAll_cons r1
  subst hargs2
  obtain ⟨v3, vs3, d3, ds3, p3, q3, hargs3, rfl, rfl, h3, r3⟩ := ChangeShapes.trodAll_cons r2
  subst hargs3
  obtain ⟨v4, vs4, d4, ds4, p4, q4, hargs4, rfl, rfl, h4, r4⟩ := ChangeShapes.trodAll_cons r3
  subst hargs4
  obtain ⟨v5, vs5, d5, ds5, p5, q5, hargs5, rfl, rfl, h5, r5⟩ := ChangeShapes.trodAll_cons r4
  obtain ⟨rfl, rfl, rfl⟩ := ChangeShapes.trodAll_nil r5
  subst hargs5
  obtain rfl : args = #[v0, v1, v2, v3, v4, v5] := by cases args; simp_all
  obtain ⟨rfl, rfl⟩ := ChangeShapes.trodVars_none hV
  obtain ⟨a0, k0, w0⟩ := arg_one (tt := 2) (opens_string Try.underlying9) (by rw [Try.underlying9]) (hval 0 9 v0 rfl rfl) h0
  obtain ⟨a1, k1, w1⟩ := arg_one (tt := 2) (opens_int Try.underlying2) (by rw [Try.underlying2]) (hval 1 2 v1 rfl rfl) h1
  obtain ⟨a2, k2, w2⟩ := arg_one (tt := 2) (opens_int Try.underlying2) (by rw [Try.underlying2]) (hval 2 2 v2 rfl rfl) h2
  obtain ⟨a3, k3, w3⟩ := arg_one (tt := 2) (opens_int Try.underlying2) (by rw [Try.underlying2]) (hval 3 2 v3 rfl rfl) h3
  obtain ⟨a4, k4, w4⟩ := arg_one (tt := 2) (opens_slice (e := 180) (sz := 3) (ee := e_S_Step) Try.underlying61 (by kernel_rfl) (by decide) (fun _ => rfl) (fun _ => rfl) o180) (by rw [Try.underlying61]) (hval 4 61 v4 rfl rfl) h4
  obtain ⟨a5, k5, w5⟩ := arg_one (tt := 2) (opens_int Try.underlying2) (by rw [Try.underlying2]) (hval 5 2 v5 rfl rfl) h5
  refine (rowCalls cfgOK (L_laws_FnExactFewestSteps (law_FewestSteps a0 a1 a2 a3 a4 a5 w4.2)) (show ArgVs _ _ _ [v0, v1, v2, v3, v4, v5] from (.cons k0 (.cons k1 (.cons k2 (.cons k3 (.cons k4 (.cons k5 .nil)))))))).mono fun e W' ⟨he, hio, _, hb⟩ => ?_
  exact ⟨_, he, row_post Try.underlying4 rfl rfl hW' rfl (kids_rows laid rowed) sized (by decide) hio hb⟩
theorem and2 {a b : Bool} (h1 : a = true) (h2 : b = true) : (a && b) = true := by rw [h1, h2]; rfl
set_option maxHeartbeats 4000000 in
theorem closed : joinedFacts Try.prog 6 Try.f6 Rows.fnExactFewestStepsSpec Rows.fnExactFewestStepsRow = true := by
  unfold joinedFacts
  repeat' with_reducible refine and2 ?_ ?_
  all_goals (as_aux_lemma => kernel_rfl)
theorem over : Rows.fnExactFewestStepsRow.holds Try.pinned (OpenSpec.ofChange Rows.fnExactFewestStepsSpec) :=
  OpenClaim.holds_of_wide 6 Try.f6 rfl rfl rfl rfl rfl rfl rfl ⟨rfl, rfl, rfl, rfl, rfl⟩ rfl rfl rfl rfl rfl (by kernel_rfl) Try.func6 closed
    (of_decide_eq_true (by kernel_rfl)) (by unfold Func.isWrapper; first | (rw [if_pos (by decide +kernel)]; kernel_rfl) | (rw [if_neg (by decide +kernel)]; exact ⟨rfl, rfl⟩))
    (fun os started H enc _ => lifted os started H enc)
theorem proved : Rows.FnExactFewestStepsSaid := over
#print axioms proved
end fnExactFewestSteps
/-- The row, under a short name, for the claim. -/
theorem fnExactFewestSteps_holds : Rows.FnExactFewestStepsSaid := fnExactFewestSteps.proved
end Go.Proofs.Ytigjhjlkdamncaa
