/- FnGlueOrder: whatever the arguments, the law answers true, and the arguments read as they did. Conditions: none beyond those of the row. -/
import Derived.Test.YtigjhjlkdamncaaRows
import Derived.Test.YtigjhjlkdamncaaTgoL
import Derived.Test.YtigjhjlkdamncaaTgoP
import Derived.Test.YtigjhjlkdamncaaSimRk
import Derived.WalkKit
import Derived.ProofKit
import Derived.OpenShut
import Derived.ShutString
import Derived.ChangeOld
import Derived.Below
import Derived.SizedLaws
namespace Go.Proofs.Ytigjhjlkdamncaa
open Go Go.Sim Go.Pw Go.Proofs
set_option linter.unusedVariables false
set_option maxRecDepth 100000
theorem g13 : okF fc13 Try.f13 = true := by kernel_rfl
theorem g14 : okF fc14 Try.f14 = true := by kernel_rfl
theorem g56 : okF fc56 Try.f56 = true := by kernel_rfl
theorem g79 : okF fc79 Try.f79 = true := by kernel_rfl
theorem g80 : okF fc80 Try.f80 = true := by kernel_rfl
theorem g81 : okF fc81 Try.f81 = true := by kernel_rfl
theorem g82 : okF fc82 Try.f82 = true := by kernel_rfl
theorem g83 : okF fc83 Try.f83 = true := by kernel_rfl
theorem g84 : okF fc84 Try.f84 = true := by kernel_rfl
theorem g85 : okF fc85 Try.f85 = true := by kernel_rfl
theorem g87 : okF fc87 Try.f87 = true := by kernel_rfl
theorem g92 : okF fc92 Try.f92 = true := by kernel_rfl
theorem g99 : okF fc99 Try.f99 = true := by kernel_rfl
theorem g137 : okF fc137 Try.f137 = true := by kernel_rfl
theorem g138 : okF fc138 Try.f138 = true := by kernel_rfl
theorem g152 : okF fc152 Try.f152 = true := by kernel_rfl
theorem g175 : okF fc175 Try.f175 = true := by kernel_rfl
theorem g176 : okF fc176 Try.f176 = true := by kernel_rfl
theorem g177 : okF fc177 Try.f177 = true := by kernel_rfl
theorem g178 : okF fc178 Try.f178 = true := by kernel_rfl
theorem g179 : okF fc179 Try.f179 = true := by kernel_rfl
theorem g180 : okF fc180 Try.f180 = true := by kernel_rfl
theorem g181 : okF fc181 Try.f181 = true := by kernel_rfl
theorem g183 : okF fc183 Try.f183 = true := by kernel_rfl
theorem g184 : okF fc184 Try.f184 = true := by kernel_rfl
theorem g219 : okF fc219 Try.f219 = true := by kernel_rfl
theorem g220 : okF fc220 Try.f220 = true := by kernel_rfl
theorem g230 : okF fc230 Try.f230 = true := by kernel_rfl
theorem g239 : okF fc239 Try.f239 = true := by kernel_rfl
theorem g243 : okF fc243 Try.f243 = true := by kernel_rfl
theorem g244 : okF fc244 Try.f244 = true := by kernel_rfl
theorem g245 : okF fc245 Try.f245 = true := by kernel_rfl
theorem g246 : okF fc246 Try.f246 = true := by kernel_rfl
theorem g248 : okF fc248 Try.f248 = true := by kernel_rfl
theorem g250 : okF fc250 Try.f250 = true := by kernel_rfl
theorem g263 : okF fc263 Try.f263 = true := by kernel_rfl
theorem g274 : okF fc274 Try.f274 = true := by kernel_rfl
theorem g275 : okF fc275 Try.f275 = true := by kernel_rfl
theorem g285 : okF fc285 Try.f285 = true := by kernel_rfl
theorem g287 : okF fc287 Try.f287 = true := by kernel_rfl
theorem wfu8 {n : Int} (h : (Lit.int .u8 n).wf = true) : 0 ≤ n ∧ n ≤ 255 := by
  have e1 : IntKind.u8.max = 255 := by decide
  have e2 : IntKind.u8.min = 0 := by decide
  simp [Lit.wf] at h
  omega
theorem mixed : Try.prog.follows .mixedOrders = true := by kernel_rfl
theorem cfgOK : CfgOK Try.prog cfg := by
  refine cfgOK_ext mixed ?_ fun f g hg => ?_
  · unfold ons
    simp only [List.forall_mem_cons]
    exact ⟨⟨_, Try.func13, g13⟩, ⟨_, Try.func14, g14⟩, ⟨_, Try.func56, g56⟩, ⟨_, Try.func79, g79⟩, ⟨_, Try.func80, g80⟩, ⟨_, Try.func81, g81⟩, ⟨_, Try.func82, g82⟩, ⟨_, Try.func83, g83⟩, ⟨_, Try.func84, g84⟩, ⟨_, Try.func85, g85⟩, ⟨_, Try.func87, g87⟩, ⟨_, Try.func92, g92⟩, ⟨_, Try.func99, g99⟩, ⟨_, Try.func137, g137⟩, ⟨_, Try.func138, g138⟩, ⟨_, Try.func152, g152⟩, ⟨_, Try.func175, g175⟩, ⟨_, Try.func176, g176⟩, ⟨_, Try.func177, g177⟩, ⟨_, Try.func178, g178⟩, ⟨_, Try.func179, g179⟩, ⟨_, Try.func180, g180⟩, ⟨_, Try.func181, g181⟩, ⟨_, Try.func183, g183⟩, ⟨_, Try.func184, g184⟩, ⟨_, Try.func219, g219⟩, ⟨_, Try.func220, g220⟩, ⟨_, Try.func230, g230⟩, ⟨_, Try.func239, g239⟩, ⟨_, Try.func243, g243⟩, ⟨_, Try.func244, g244⟩, ⟨_, Try.func245, g245⟩, ⟨_, Try.func246, g246⟩, ⟨_, Try.func248, g248⟩, ⟨_, Try.func250, g250⟩, ⟨_, Try.func263, g263⟩, ⟨_, Try.func274, g274⟩, ⟨_, Try.func275, g275⟩, ⟨_, Try.func285, g285⟩, ⟨_, Try.func287, g287⟩, fun _ h => by cases h⟩
  rcases look_cons hg with ⟨rfl, h⟩ | hg
  · cases h
    exact clone_ext (cfg := cfg) (fn := Try.f187) mixed Try.func187 rfl rfl rfl rfl eF27 sF27 rfl uF27 rfl rfl rF187 rfl
  cases hg
theorem laid : laidOutB Try.prog = true := by kernel_rfl
theorem rowed : mapsRowed Try.prog = true := by kernel_rfl
theorem sized : slicesSized Try.prog = true := by kernel_rfl
namespace fnGlueOrder
theorem own : ownKnob Try.prog.godebug = none := by kernel_rfl
theorem lifted (os : Os) (started : os.Started) (H : Type) (enc : TypeId × Value → H) :
    ReturnsInHanded {} Try.checked os 13 .any (Rows.fnGlueOrderSpec.pre6 enc Try.prog Try.f13 Rows.fnGlueOrderRow.domain false) (Rows.fnGlueOrderSpec.post enc Try.prog Try.f13 false true false false) := by
  refine returnsInHanded_of_change_sized (C := Try.checked) own started (by kernel_rfl) Try.func13
    (ChangeSpec.witness6 (enc := enc) (C := Try.checked) false ⟨#[], #[.slice none 0 0, .slice none 0 0], []⟩ 8 (by kernel_rfl) (by kernel_rfl) (by kernel_rfl) (by kernel_rfl)) ?_
  intro W base args ds gs before hval0 hW hcnd hsz0 _
  have hval : ∀ (j : Nat) t v, Try.f13.params[j]? = some t → args[j]? = some v → Value.okWide Try.prog W .any base t v := hval0
  have hW' := hW
  obtain ⟨p, q, hA0, hV, rfl, hfz, hnd⟩ := hW
  have hA : DataW.TrodAll enc Try.prog W 0 (fun _ => true) true Try.f13.params.toList args.toList ds p := hA0
  rw [Try.params13] at hA hval
  obtain ⟨v0, vs0, d0, ds0, p0, q0, hargs0, rfl, rfl, h0, r0⟩ := ChangeShapes.trodAll_cons hA
  clear hA0
  obtain ⟨v1, vs1, d1, ds1, p1, q1, hargs1, rfl, rfl, h1, r1⟩ := ChangeShapes.trodAll_cons r0
  obtain ⟨rfl, rfl, rfl⟩ := ChangeShapes.trodAll_nil r1
  subst hargs1
  obtain rfl : args = #[v0, v1] := by cases args; simp_all
  obtain ⟨rfl, rfl⟩ := ChangeShapes.trodVars_none hV
  obtain ⟨a0, k0, w0⟩ := arg_one (tt := 2) (opens_slice (e := 5) (sz := 1) (ee := (eK .u8)) Try.underlying22 (by kernel_rfl) (by decide) (fun _ => rfl) (fun _ => rfl) (opens_int Try.underlying5)) (by rw [Try.underlying22]) (hval 0 22 v0 rfl rfl) h0
  obtain ⟨a1, k1, w1⟩ := arg_one (tt := 2) (opens_slice (e := 5) (sz := 1) (ee := (eK .u8)) Try.underlying22 (by kernel_rfl) (by decide) (fun _ => rfl) (fun _ => rfl) (opens_int Try.underlying5)) (by rw [Try.underlying22]) (hval 1 22 v1 rfl rfl) h1
  refine (rowCalls cfgOK (L_laws_FnGlueOrder (law_GlueOrder a0 a1 (fun x hx => wfu8 (w0.1 x hx)) (fun x hx => wfu8 (w1.1 x hx)))) (show ArgVs _ _ _ [v0, v1] from (.cons k0 (.cons k1 .nil)))).mono fun e W' ⟨he, hio, _, hb⟩ => ?_
  exact ⟨_, he, row_post Try.underlying4 rfl rfl hW' rfl (kids_rows laid rowed) sized (by decide) hio hb⟩
theorem and2 {a b : Bool} (h1 : a = true) (h2 : b = true) : (a && b) = true := by rw [h1, h2]; rfl
set_option maxHeartbeats 4000000 in
theorem closed : joinedFacts Try.prog 13 Try.f13 Rows.fnGlueOrderSpec Rows.fnGlueOrderRow = true := by
  unfold joinedFacts
  repeat' with_reducible refine and2 ?_ ?_
  all_goals (as_aux_lemma => kernel_rfl)
theorem over : Rows.fnGlueOrderRow.holds Try.pinned (OpenSpec.ofChange Rows.fnGlueOrderSpec) :=
  OpenClaim.holds_of_wide 13 Try.f13 rfl rfl rfl rfl rfl rfl rfl ⟨rfl, rfl, rfl, rfl, rfl⟩ rfl rfl rfl rfl rfl (by kernel_rfl) Try.func13 closed
    (of_decide_eq_true (by kernel_rfl)) (by unfold Func.isWrapper; first | (rw [if_pos (by decide +kernel)]; kernel_rfl) | (rw [if_neg (by decide +kernel)]; exact ⟨rfl, rfl⟩))
    (fun os started H enc _ => lifted os started H enc)
theorem proved : Rows.FnGlueOrderSaid := over
#print axioms proved
end fnGlueOrder
/-- The row, under a short name, for the claim. -/
theorem fnGlueOrder_holds : Rows.FnGlueOrderSaid := fnGlueOrder.proved
end Go.Proofs.Ytigjhjlkdamncaa
