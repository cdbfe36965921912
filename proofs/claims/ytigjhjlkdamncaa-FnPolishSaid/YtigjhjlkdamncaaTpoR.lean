/- FnPolish: whatever the arguments, the law answers true, and the arguments read as they did. Conditions: none beyond those of the row. -/
import Derived.Test.YtigjhjlkdamncaaRows
import Derived.Test.YtigjhjlkdamncaaTpoL
import Derived.Test.YtigjhjlkdamncaaTpoP
import Derived.Test.YtigjhjlkdamncaaSimRk
import Derived.WalkKit
import Derived.ProofKit
import Derived.OpenShut
import Derived.ShutString
import Derived.ChangeOld
import Derived.Below
import Derived.SizedLaws
namespace Go.Proofs.Ytigjhjlkdamncaa
open Go Go.Sim Go.Pw Go.Proofs
set_option linter.unusedVariables false
set_option maxRecDepth 100000
theorem g3 : okF fc3 Try.f3 = true := by kernel_rfl
theorem g14 : okF fc14 Try.f14 = true := by kernel_rfl
theorem g15 : okF fc15 Try.f15 = true := by kernel_rfl
theorem g16 : okF fc16 Try.f16 = true := by kernel_rfl
theorem g17 : okF fc17 Try.f17 = true := by kernel_rfl
theorem g18 : okF fc18 Try.f18 = true := by kernel_rfl
theorem g19 : okF fc19 Try.f19 = true := by kernel_rfl
theorem g20 : okF fc20 Try.f20 = true := by kernel_rfl
theorem g21 : okF fc21 Try.f21 = true := by kernel_rfl
theorem g22 : okF fc22 Try.f22 = true := by kernel_rfl
theorem g23 : okF fc23 Try.f23 = true := by kernel_rfl
theorem g85 : okF fc85 Try.f85 = true := by kernel_rfl
theorem g86 : okF fc86 Try.f86 = true := by kernel_rfl
theorem g87 : okF fc87 Try.f87 = true := by kernel_rfl
theorem g88 : okF fc88 Try.f88 = true := by kernel_rfl
theorem g89 : okF fc89 Try.f89 = true := by kernel_rfl
theorem g90 : okF fc90 Try.f90 = true := by kernel_rfl
theorem g91 : okF fc91 Try.f91 = true := by kernel_rfl
theorem g92 : okF fc92 Try.f92 = true := by kernel_rfl
theorem g93 : okF fc93 Try.f93 = true := by kernel_rfl
theorem g94 : okF fc94 Try.f94 = true := by kernel_rfl
theorem g95 : okF fc95 Try.f95 = true := by kernel_rfl
theorem g96 : okF fc96 Try.f96 = true := by kernel_rfl
theorem g97 : okF fc97 Try.f97 = true := by kernel_rfl
theorem g98 : okF fc98 Try.f98 = true := by kernel_rfl
theorem g99 : okF fc99 Try.f99 = true := by kernel_rfl
theorem g150 : okF fc150 Try.f150 = true := by kernel_rfl
theorem g182 : okF fc182 Try.f182 = true := by kernel_rfl
theorem g183 : okF fc183 Try.f183 = true := by kernel_rfl
theorem g184 : okF fc184 Try.f184 = true := by kernel_rfl
theorem g185 : okF fc185 Try.f185 = true := by kernel_rfl
theorem g186 : okF fc186 Try.f186 = true := by kernel_rfl
theorem g188 : okF fc188 Try.f188 = true := by kernel_rfl
theorem g189 : okF fc189 Try.f189 = true := by kernel_rfl
theorem g239 : okF fc239 Try.f239 = true := by kernel_rfl
theorem g247 : okF fc247 Try.f247 = true := by kernel_rfl
theorem g248 : okF fc248 Try.f248 = true := by kernel_rfl
theorem g249 : okF fc249 Try.f249 = true := by kernel_rfl
theorem g250 : okF fc250 Try.f250 = true := by kernel_rfl
theorem wfu8 {n : Int} (h : (Lit.int .u8 n).wf = true) : 0 ≤ n ∧ n ≤ 255 := by
  have e1 : IntKind.u8.max = 255 := by decide
  have e2 : IntKind.u8.min = 0 := by decide
  simp [Lit.wf] at h
  omega
theorem mixed : Try.prog.follows .mixedOrders = true := by kernel_rfl
theorem cfgOK : CfgOK Try.prog cfg := by
  refine cfgOK_ext mixed ?_ fun f g hg => ?_
  · unfold ons
    simp only [List.forall_mem_cons]
    exact ⟨⟨_, Try.func3, g3⟩, ⟨_, Try.func14, g14⟩, ⟨_, Try.func15, g15⟩, ⟨_, Try.func16, g16⟩, ⟨_, Try.func17, g17⟩, ⟨_, Try.func18, g18⟩, ⟨_, Try.func19, g19⟩, ⟨_, Try.func20, g20⟩, ⟨_, Try.func21, g21⟩, ⟨_, Try.func22, g22⟩, ⟨_, Try.func23, g23⟩, ⟨_, Try.func85, g85⟩, ⟨_, Try.func86, g86⟩, ⟨_, Try.func87, g87⟩, ⟨_, Try.func88, g88⟩, ⟨_, Try.func89, g89⟩, ⟨_, Try.func90, g90⟩, ⟨_, Try.func91, g91⟩, ⟨_, Try.func92, g92⟩, ⟨_, Try.func93, g93⟩, ⟨_, Try.func94, g94⟩, ⟨_, Try.func95, g95⟩, ⟨_, Try.func96, g96⟩, ⟨_, Try.func97, g97⟩, ⟨_, Try.func98, g98⟩, ⟨_, Try.func99, g99⟩, ⟨_, Try.func150, g150⟩, ⟨_, Try.func182, g182⟩, ⟨_, Try.func183, g183⟩, ⟨_, Try.func184, g184⟩, ⟨_, Try.func185, g185⟩, ⟨_, Try.func186, g186⟩, ⟨_, Try.func188, g188⟩, ⟨_, Try.func189, g189⟩, ⟨_, Try.func239, g239⟩, ⟨_, Try.func247, g247⟩, ⟨_, Try.func248, g248⟩, ⟨_, Try.func249, g249⟩, ⟨_, Try.func250, g250⟩, fun _ h => by cases h⟩
  rcases look_cons hg with ⟨rfl, h⟩ | hg
  · cases h
    exact clone_ext (cfg := cfg) (fn := Try.f187) mixed Try.func187 rfl rfl rfl rfl eF27 sF27 rfl uF27 rfl rfl rF187 rfl
  cases hg
theorem laid : laidOutB Try.prog = true := by kernel_rfl
theorem rowed : mapsRowed Try.prog = true := by kernel_rfl
theorem sized : slicesSized Try.prog = true := by kernel_rfl
namespace fnPolish
theorem own : ownKnob Try.prog.godebug = none := by kernel_rfl
theorem lifted (os : Os) (started : os.Started) (H : Type) (enc : TypeId × Value → H) :
    ReturnsInHanded {} Try.checked os 3 .any (Rows.fnPolishSpec.pre6 enc Try.prog Try.f3 Rows.fnPolishRow.domain false) (Rows.fnPolishSpec.post enc Try.prog Try.f3 false true false false) := by
  refine returnsInHanded_of_change_sized (C := Try.checked) own started (by kernel_rfl) Try.func3
    (ChangeSpec.witness6 (enc := enc) (C := Try.checked) false ⟨#[], #[.slice none 0 0, .slice none 0 0], []⟩ 8 (by kernel_rfl) (by kernel_rfl) (by kernel_rfl) (by kernel_rfl)) ?_
  intro W base args ds gs before hval0 hW hcnd hsz0 _
  have hval : ∀ (j : Nat) t v, Try.f3.params[j]? = some t → args[j]? = some v → Value.okWide Try.prog W .any base t v := hval0
  have hW' := hW
  obtain ⟨p, q, hA0, hV, rfl, hfz, hnd⟩ := hW
  have hA : DataW.TrodAll enc Try.prog W 0 (fun _ => true) true Try.f3.params.toList args.toList ds p := hA0
  rw [Try.params3] at hA hval
  obtain ⟨v0, vs0, d0, ds0, p0, q0, hargs0, rfl, rfl, h0, r0⟩ := ChangeShapes.trodAll_cons hA
  clear hA0
  obtain ⟨v1, vs1, d1, ds1, p1, q1, hargs1, rfl, rfl, h1, r1⟩ := ChangeShapes.trodAll_cons r0
  obtain ⟨rfl, rfl, rfl⟩ := ChangeShapes.trodAll_nil r1
  subst hargs1
  obtain rfl : args = #[v0, v1] := by cases args; simp_all
  obtain ⟨rfl, rfl⟩ := ChangeShapes.trodVars_none hV
  obtain ⟨a0, k0, w0⟩ := arg_one (tt := 2) (opens_slice (e := 5) (sz := 1) (ee := (eK .u8)) Try.underlying22 (by kernel_rfl) (by decide) (fun _ => rfl) (fun _ => rfl) (opens_int Try.underlying5)) (by rw [Try.underlying22]) (hval 0 22 v0 rfl rfl) h0
  obtain ⟨a1, k1, w1⟩ := arg_one (tt := 2) (opens_slice (e := 5) (sz := 1) (ee := (eK .u8)) Try.underlying22 (by kernel_rfl) (by decide) (fun _ => rfl) (fun _ => rfl) (opens_int Try.underlying5)) (by rw [Try.underlying22]) (hval 1 22 v1 rfl rfl) h1
  refine (rowCalls cfgOK (L_laws_FnPolish (law_Polish a0 a1 (fun x hx => wfu8 (w0.1 x hx)) (fun x hx => wfu8 (w1.1 x hx)))) (show ArgVs _ _ _ [v0, v1] from (.cons k0 (.cons k1 .nil)))).mono fun e W' ⟨he, hio, _, hb⟩ => ?_
  exact ⟨_, he, row_post Try.underlying4 rfl rfl hW' rfl (kids_rows laid rowed) sized (by decide) hio hb⟩
theorem and2 {a b : Bool} (h1 : a = true) (h2 : b = true) : (a && b) = true := by rw [h1, h2]; rfl
set_option maxHeartbeats 4000000 in
theorem closed : joinedFacts Try.prog 3 Try.f3 Rows.fnPolishSpec Rows.fnPolishRow = true := by
  unfold joinedFacts
  repeat' with_reducible refine and2 ?_ ?_
  all_goals (as_aux_lemma => kernel_rfl)
theorem over : Rows.fnPolishRow.holds Try.pinned (OpenSpec.ofChange Rows.fnPolishSpec) :=
  OpenClaim.holds_of_wide 3 Try.f3 rfl rfl rfl rfl rfl rfl rfl ⟨rfl, rfl, rfl, rfl, rfl⟩ rfl rfl rfl rfl rfl (by kernel_rfl) Try.func3 closed
    (of_decide_eq_true (by kernel_rfl)) (by unfold Func.isWrapper; first | (rw [if_pos (by decide +kernel)]; kernel_rfl) | (rw [if_neg (by decide +kernel)]; exact ⟨rfl, rfl⟩))
    (fun os started H enc _ => lifted os started H enc)
theorem proved : Rows.FnPolishSaid := over
#print axioms proved
end fnPolish
/-- The row, under a short name, for the claim. -/
theorem fnPolish_holds : Rows.FnPolishSaid := fnPolish.proved
end Go.Proofs.Ytigjhjlkdamncaa
