/- FnFloors: whatever the arguments, the law answers true, and the arguments read as they did. Conditions: none beyond those of the row. -/
import Derived.Test.YtigjhjlkdamncaaRows
import Derived.Test.YtigjhjlkdamncaaTflL
import Derived.Test.YtigjhjlkdamncaaTflP
import Derived.Test.YtigjhjlkdamncaaSimRk
import Derived.WalkKit
import Derived.ProofKit
import Derived.OpenShut
import Derived.ShutString
import Derived.ChangeOld
import Derived.Below
import Derived.SizedLaws
namespace Go.Proofs.Ytigjhjlkdamncaa
open Go Go.Sim Go.Pw Go.Proofs
set_option linter.unusedVariables false
set_option maxRecDepth 100000
theorem g11 : okF fc11 Try.f11 = true := by kernel_rfl
theorem g14 : okF fc14 Try.f14 = true := by kernel_rfl
theorem g68 : okF fc68 Try.f68 = true := by kernel_rfl
theorem g69 : okF fc69 Try.f69 = true := by kernel_rfl
theorem g70 : okF fc70 Try.f70 = true := by kernel_rfl
theorem g71 : okF fc71 Try.f71 = true := by kernel_rfl
theorem g72 : okF fc72 Try.f72 = true := by kernel_rfl
theorem g73 : okF fc73 Try.f73 = true := by kernel_rfl
theorem g74 : okF fc74 Try.f74 = true := by kernel_rfl
theorem g85 : okF fc85 Try.f85 = true := by kernel_rfl
theorem g87 : okF fc87 Try.f87 = true := by kernel_rfl
theorem g92 : okF fc92 Try.f92 = true := by kernel_rfl
theorem g99 : okF fc99 Try.f99 = true := by kernel_rfl
theorem g102 : okF fc102 Try.f102 = true := by kernel_rfl
theorem g156 : okF fc156 Try.f156 = true := by kernel_rfl
theorem g157 : okF fc157 Try.f157 = true := by kernel_rfl
theorem g158 : okF fc158 Try.f158 = true := by kernel_rfl
theorem g159 : okF fc159 Try.f159 = true := by kernel_rfl
theorem g160 : okF fc160 Try.f160 = true := by kernel_rfl
theorem g161 : okF fc161 Try.f161 = true := by kernel_rfl
theorem g162 : okF fc162 Try.f162 = true := by kernel_rfl
theorem g163 : okF fc163 Try.f163 = true := by kernel_rfl
theorem g164 : okF fc164 Try.f164 = true := by kernel_rfl
theorem g165 : okF fc165 Try.f165 = true := by kernel_rfl
theorem g166 : okF fc166 Try.f166 = true := by kernel_rfl
theorem g172 : okF fc172 Try.f172 = true := by kernel_rfl
theorem g183 : okF fc183 Try.f183 = true := by kernel_rfl
theorem g184 : okF fc184 Try.f184 = true := by kernel_rfl
theorem g208 : okF fc208 Try.f208 = true := by kernel_rfl
theorem g231 : okF fc231 Try.f231 = true := by kernel_rfl
theorem g232 : okF fc232 Try.f232 = true := by kernel_rfl
theorem g233 : okF fc233 Try.f233 = true := by kernel_rfl
theorem g234 : okF fc234 Try.f234 = true := by kernel_rfl
theorem g235 : okF fc235 Try.f235 = true := by kernel_rfl
theorem g236 : okF fc236 Try.f236 = true := by kernel_rfl
theorem g237 : okF fc237 Try.f237 = true := by kernel_rfl
theorem g248 : okF fc248 Try.f248 = true := by kernel_rfl
theorem g258 : okF fc258 Try.f258 = true := by kernel_rfl
theorem g267 : okF fc267 Try.f267 = true := by kernel_rfl
theorem g268 : okF fc268 Try.f268 = true := by kernel_rfl
theorem g269 : okF fc269 Try.f269 = true := by kernel_rfl
theorem g270 : okF fc270 Try.f270 = true := by kernel_rfl
theorem g271 : okF fc271 Try.f271 = true := by kernel_rfl
theorem g280 : okF fc280 Try.f280 = true := by kernel_rfl
theorem g281 : okF fc281 Try.f281 = true := by kernel_rfl
theorem g282 : okF fc282 Try.f282 = true := by kernel_rfl
theorem g283 : okF fc283 Try.f283 = true := by kernel_rfl
theorem wfu8 {n : Int} (h : (Lit.int .u8 n).wf = true) : 0 ≤ n ∧ n ≤ 255 := by
  have e1 : IntKind.u8.max = 255 := by decide
  have e2 : IntKind.u8.min = 0 := by decide
  simp [Lit.wf] at h
  omega
theorem mixed : Try.prog.follows .mixedOrders = true := by kernel_rfl
theorem cfgOK : CfgOK Try.prog cfg := by
  refine cfgOK_ext mixed ?_ fun f g hg => ?_
  · unfold ons
    simp only [List.forall_mem_cons]
    exact ⟨⟨_, Try.func11, g11⟩, ⟨_, Try.func14, g14⟩, ⟨_, Try.func68, g68⟩, ⟨_, Try.func69, g69⟩, ⟨_, Try.func70, g70⟩, ⟨_, Try.func71, g71⟩, ⟨_, Try.func72, g72⟩, ⟨_, Try.func73, g73⟩, ⟨_, Try.func74, g74⟩, ⟨_, Try.func85, g85⟩, ⟨_, Try.func87, g87⟩, ⟨_, Try.func92, g92⟩, ⟨_, Try.func99, g99⟩, ⟨_, Try.func102, g102⟩, ⟨_, Try.func156, g156⟩, ⟨_, Try.func157, g157⟩, ⟨_, Try.func158, g158⟩, ⟨_, Try.func159, g159⟩, ⟨_, Try.func160, g160⟩, ⟨_, Try.func161, g161⟩, ⟨_, Try.func162, g162⟩, ⟨_, Try.func163, g163⟩, ⟨_, Try.func164, g164⟩, ⟨_, Try.func165, g165⟩, ⟨_, Try.func166, g166⟩, ⟨_, Try.func172, g172⟩, ⟨_, Try.func183, g183⟩, ⟨_, Try.func184, g184⟩, ⟨_, Try.func208, g208⟩, ⟨_, Try.func231, g231⟩, ⟨_, Try.func232, g232⟩, ⟨_, Try.func233, g233⟩, ⟨_, Try.func234, g234⟩, ⟨_, Try.func235, g235⟩, ⟨_, Try.func236, g236⟩, ⟨_, Try.func237, g237⟩, ⟨_, Try.func248, g248⟩, ⟨_, Try.func258, g258⟩, ⟨_, Try.func267, g267⟩, ⟨_, Try.func268, g268⟩, ⟨_, Try.func269, g269⟩, ⟨_, Try.func270, g270⟩, ⟨_, Try.func271, g271⟩, ⟨_, Try.func280, g280⟩, ⟨_, Try.func281, g281⟩, ⟨_, Try.func282, g282⟩, ⟨_, Try.func283, g283⟩, fun _ h => by cases h⟩
  rcases look_cons hg with ⟨rfl, h⟩ | hg
  · cases h
    exact clone_ext (cfg := cfg) (fn := Try.f187) mixed Try.func187 rfl rfl rfl rfl eF27 sF27 rfl uF27 rfl rfl rF187 rfl
  cases hg
theorem laid : laidOutB Try.prog = true := by kernel_rfl
theorem rowed : mapsRowed Try.prog = true := by kernel_rfl
theorem sized : slicesSized Try.prog = true := by kernel_rfl
namespace fnFloors
theorem own : ownKnob Try.prog.godebug = none := by kernel_rfl
theorem lifted (os : Os) (started : os.Started) (H : Type) (enc : TypeId × Value → H) :
    ReturnsInHanded {} Try.checked os 11 .any (Rows.fnFloorsSpec.pre6 enc Try.prog Try.f11 Rows.fnFloorsRow.domain false) (Rows.fnFloorsSpec.post enc Try.prog Try.f11 false true false false) := by
  refine returnsInHanded_of_change_sized (C := Try.checked) own started (by kernel_rfl) Try.func11
    (ChangeSpec.witness6 (enc := enc) (C := Try.checked) false ⟨#[], #[.slice none 0 0, .slice none 0 0], []⟩ 8 (by kernel_rfl) (by kernel_rfl) (by kernel_rfl) (by kernel_rfl)) ?_
  intro W base args ds gs before hval0 hW hcnd hsz0 _
  have hval : ∀ (j : Nat) t v, Try.f11.params[j]? = some t → args[j]? = some v → Value.okWide Try.prog W .any base t v := hval0
  have hW' := hW
  obtain ⟨p, q, hA0, hV, rfl, hfz, hnd⟩ := hW
  have hA : DataW.TrodAll enc Try.prog W 0 (fun _ => true) true Try.f11.params.toList args.toList ds p := hA0
  rw [Try.params11] at hA hval
  obtain ⟨v0, vs0, d0, ds0, p0, q0, hargs0, rfl, rfl, h0, r0⟩ := ChangeShapes.trodAll_cons hA
  clear hA0
  obtain ⟨v1, vs1, d1, ds1, p1, q1, hargs1, rfl, rfl, h1, r1⟩ := ChangeShapes.trodAll_cons r0
  obtain ⟨rfl, rfl, rfl⟩ := ChangeShapes.trodAll_nil r1
  subst hargs1
  obtain rfl : args = #[v0, v1] := by cases args; simp_all
  obtain ⟨rfl, rfl⟩ := ChangeShapes.trodVars_none hV
  obtain ⟨a0, k0, w0⟩ := arg_one (tt := 2) (opens_slice (e := 5) (sz := 1) (ee := (eK .u8)) Try.underlying22 (by kernel_rfl) (by decide) (fun _ => rfl) (fun _ => rfl) (opens_int Try.underlying5)) (by rw [Try.underlying22]) (hval 0 22 v0 rfl rfl) h0
  obtain ⟨a1, k1, w1⟩ := arg_one (tt := 2) (opens_slice (e := 5) (sz := 1) (ee := (eK .u8)) Try.underlying22 (by kernel_rfl) (by decide) (fun _ => rfl) (fun _ => rfl) (opens_int Try.underlying5)) (by rw [Try.underlying22]) (hval 1 22 v1 rfl rfl) h1
  refine (rowCalls cfgOK (L_laws_FnFloors (law_Floors a0 a1 (fun x hx => wfu8 (w0.1 x hx)) (fun x hx => wfu8 (w1.1 x hx)))) (show ArgVs _ _ _ [v0, v1] from (.cons k0 (.cons k1 .nil)))).mono fun e W' ⟨he, hio, _, hb⟩ => ?_
  exact ⟨_, he, row_post Try.underlying4 rfl rfl hW' rfl (kids_rows laid rowed) sized (by decide) hio hb⟩
theorem and2 {a b : Bool} (h1 : a = true) (h2 : b = true) : (a && b) = true := by rw [h1, h2]; rfl
set_option maxHeartbeats 4000000 in
theorem closed : joinedFacts Try.prog 11 Try.f11 Rows.fnFloorsSpec Rows.fnFloorsRow = true := by
  unfold joinedFacts
  repeat' with_reducible refine and2 ?_ ?_
  all_goals (as_aux_lemma => kernel_rfl)
theorem over : Rows.fnFloorsRow.holds Try.pinned (OpenSpec.ofChange Rows.fnFloorsSpec) :=
  OpenClaim.holds_of_wide 11 Try.f11 rfl rfl rfl rfl rfl rfl rfl ⟨rfl, rfl, rfl, rfl, rfl⟩ rfl rfl rfl rfl rfl (by kernel_rfl) Try.func11 closed
    (of_decide_eq_true (by kernel_rfl)) (by unfold Func.isWrapper; first | (rw [if_pos (by decide +kernel)]; kernel_rfl) | (rw [if_neg (by decide +kernel)]; exact ⟨rfl, rfl⟩))
    (fun os started H enc _ => lifted os started H enc)
theorem proved : Rows.FnFloorsSaid := over
#print axioms proved
end fnFloors
/-- The row, under a short name, for the claim. -/
theorem fnFloors_holds : Rows.FnFloorsSaid := fnFloors.proved
end Go.Proofs.Ytigjhjlkdamncaa
