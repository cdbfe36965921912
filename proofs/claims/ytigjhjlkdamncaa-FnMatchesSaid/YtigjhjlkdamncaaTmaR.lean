/- FnMatches: whatever the arguments, the law answers true, and the arguments read as they did. Conditions: none beyond those of the row. -/
import Derived.Test.YtigjhjlkdamncaaRows
import Derived.Test.YtigjhjlkdamncaaTmaL
import Derived.Test.YtigjhjlkdamncaaTmaP
import Derived.Test.YtigjhjlkdamncaaSimRk
import Derived.WalkKit
import Derived.ProofKit
import Derived.OpenShut
import Derived.ShutString
import Derived.ChangeOld
import Derived.Below
import Derived.SizedLaws
namespace Go.Proofs.Ytigjhjlkdamncaa
open Go Go.Sim Go.Pw Go.Proofs
set_option linter.unusedVariables false
set_option maxRecDepth 100000
theorem g10 : okF fc10 Try.f10 = true := by kernel_rfl
theorem g14 : okF fc14 Try.f14 = true := by kernel_rfl
theorem g50 : okF fc50 Try.f50 = true := by kernel_rfl
theorem g65 : okF fc65 Try.f65 = true := by kernel_rfl
theorem g66 : okF fc66 Try.f66 = true := by kernel_rfl
theorem g67 : okF fc67 Try.f67 = true := by kernel_rfl
theorem g85 : okF fc85 Try.f85 = true := by kernel_rfl
theorem g87 : okF fc87 Try.f87 = true := by kernel_rfl
theorem g92 : okF fc92 Try.f92 = true := by kernel_rfl
theorem g95 : okF fc95 Try.f95 = true := by kernel_rfl
theorem g99 : okF fc99 Try.f99 = true := by kernel_rfl
theorem g130 : okF fc130 Try.f130 = true := by kernel_rfl
theorem g131 : okF fc131 Try.f131 = true := by kernel_rfl
theorem g148 : okF fc148 Try.f148 = true := by kernel_rfl
theorem g149 : okF fc149 Try.f149 = true := by kernel_rfl
theorem g150 : okF fc150 Try.f150 = true := by kernel_rfl
theorem g151 : okF fc151 Try.f151 = true := by kernel_rfl
theorem g152 : okF fc152 Try.f152 = true := by kernel_rfl
theorem g153 : okF fc153 Try.f153 = true := by kernel_rfl
theorem g154 : okF fc154 Try.f154 = true := by kernel_rfl
theorem g155 : okF fc155 Try.f155 = true := by kernel_rfl
theorem g177 : okF fc177 Try.f177 = true := by kernel_rfl
theorem g183 : okF fc183 Try.f183 = true := by kernel_rfl
theorem g184 : okF fc184 Try.f184 = true := by kernel_rfl
theorem g208 : okF fc208 Try.f208 = true := by kernel_rfl
theorem g226 : okF fc226 Try.f226 = true := by kernel_rfl
theorem g227 : okF fc227 Try.f227 = true := by kernel_rfl
theorem g228 : okF fc228 Try.f228 = true := by kernel_rfl
theorem g229 : okF fc229 Try.f229 = true := by kernel_rfl
theorem g230 : okF fc230 Try.f230 = true := by kernel_rfl
theorem g239 : okF fc239 Try.f239 = true := by kernel_rfl
theorem g245 : okF fc245 Try.f245 = true := by kernel_rfl
theorem g248 : okF fc248 Try.f248 = true := by kernel_rfl
theorem g250 : okF fc250 Try.f250 = true := by kernel_rfl
theorem g266 : okF fc266 Try.f266 = true := by kernel_rfl
theorem g274 : okF fc274 Try.f274 = true := by kernel_rfl
theorem g275 : okF fc275 Try.f275 = true := by kernel_rfl
theorem g285 : okF fc285 Try.f285 = true := by kernel_rfl
theorem g287 : okF fc287 Try.f287 = true := by kernel_rfl
theorem wfu8 {n : Int} (h : (Lit.int .u8 n).wf = true) : 0 ≤ n ∧ n ≤ 255 := by
  have e1 : IntKind.u8.max = 255 := by decide
  have e2 : IntKind.u8.min = 0 := by decide
  simp [Lit.wf] at h
  omega
theorem mixed : Try.prog.follows .mixedOrders = true := by kernel_rfl
theorem cfgOK : CfgOK Try.prog cfg := by
  refine cfgOK_ext mixed ?_ fun f g hg => ?_
  · unfold ons
    simp only [List.forall_mem_cons]
    exact ⟨⟨_, Try.func10, g10⟩, ⟨_, Try.func14, g14⟩, ⟨_, Try.func50, g50⟩, ⟨_, Try.func65, g65⟩, ⟨_, Try.func66, g66⟩, ⟨_, Try.func67, g67⟩, ⟨_, Try.func85, g85⟩, ⟨_, Try.func87, g87⟩, ⟨_, Try.func92, g92⟩, ⟨_, Try.func95, g95⟩, ⟨_, Try.func99, g99⟩, ⟨_, Try.func130, g130⟩, ⟨_, Try.func131, g131⟩, ⟨_, Try.func148, g148⟩, ⟨_, Try.func149, g149⟩, ⟨_, Try.func150, g150⟩, ⟨_, Try.func151, g151⟩, ⟨_, Try.func152, g152⟩, ⟨_, Try.func153, g153⟩, ⟨_, Try.func154, g154⟩, ⟨_, Try.func155, g155⟩, ⟨_, Try.func177, g177⟩, ⟨_, Try.func183, g183⟩, ⟨_, Try.func184, g184⟩, ⟨_, Try.func208, g208⟩, ⟨_, Try.func226, g226⟩, ⟨_, Try.func227, g227⟩, ⟨_, Try.func228, g228⟩, ⟨_, Try.func229, g229⟩, ⟨_, Try.func230, g230⟩, ⟨_, Try.func239, g239⟩, ⟨_, Try.func245, g245⟩, ⟨_, Try.func248, g248⟩, ⟨_, Try.func250, g250⟩, ⟨_, Try.func266, g266⟩, ⟨_, Try.func274, g274⟩, ⟨_, Try.func275, g275⟩, ⟨_, Try.func285, g285⟩, ⟨_, Try.func287, g287⟩, fun _ h => by cases h⟩
  rcases look_cons hg with ⟨rfl, h⟩ | hg
  · cases h
    exact clone_ext (cfg := cfg) (fn := Try.f187) mixed Try.func187 rfl rfl rfl rfl eF27 sF27 rfl uF27 rfl rfl rF187 rfl
  cases hg
theorem laid : laidOutB Try.prog = true := by kernel_rfl
theorem rowed : mapsRowed Try.prog = true := by kernel_rfl
theorem sized : slicesSized Try.prog = true := by kernel_rfl
namespace fnMatches
theorem own : ownKnob Try.prog.godebug = none := by kernel_rfl
theorem lifted (os : Os) (started : os.Started) (H : Type) (enc : TypeId × Value → H) :
    ReturnsInHanded {} Try.checked os 10 .any (Rows.fnMatchesSpec.pre6 enc Try.prog Try.f10 Rows.fnMatchesRow.domain false) (Rows.fnMatchesSpec.post enc Try.prog Try.f10 false true false false) := by
  refine returnsInHanded_of_change_sized (C := Try.checked) own started (by kernel_rfl) Try.func10
    (ChangeSpec.witness6 (enc := enc) (C := Try.checked) false ⟨#[], #[.slice none 0 0], []⟩ 8 (by kernel_rfl) (by kernel_rfl) (by kernel_rfl) (by kernel_rfl)) ?_
  intro W base args ds gs before hval0 hW hcnd hsz0 _
  have hval : ∀ (j : Nat) t v, Try.f10.params[j]? = some t → args[j]? = some v → Value.okWide Try.prog W .any base t v := hval0
  have hW' := hW
  obtain ⟨p, q, hA0, hV, rfl, hfz, hnd⟩ := hW
  have hA : DataW.TrodAll enc Try.prog W 0 (fun _ => true) true Try.f10.params.toList args.toList ds p := hA0
  rw [Try.params10] at hA hval
  obtain ⟨v0, vs0, d0, ds0, p0, q0, hargs0, rfl, rfl, h0, r0⟩ := ChangeShapes.trodAll_cons hA
  obtain ⟨rfl, rfl, rfl⟩ := ChangeShapes.trodAll_nil r0
  obtain rfl : args = #[v0] := by cases args; simp_all
  obtain ⟨rfl, rfl⟩ := ChangeShapes.trodVars_none hV
  obtain ⟨a0, k0, w0⟩ := arg_one (tt := 2) (opens_slice (e := 5) (sz := 1) (ee := (eK .u8)) Try.underlying22 (by kernel_rfl) (by decide) (fun _ => rfl) (fun _ => rfl) (opens_int Try.underlying5)) (by rw [Try.underlying22]) (hval 0 22 v0 rfl rfl) h0
  refine (rowCalls cfgOK (L_laws_FnMatches (law_Matches a0 (fun x hx => wfu8 (w0.1 x hx)))) (show ArgVs _ _ _ [v0] from (.cons k0 .nil))).mono fun e W' ⟨he, hio, _, hb⟩ => ?_
  exact ⟨_, he, row_post Try.underlying4 rfl rfl hW' rfl (kids_rows laid rowed) sized (by decide) hio hb⟩
theorem and2 {a b : Bool} (h1 : a = true) (h2 : b = true) : (a && b) = true := by rw [h1, h2]; rfl
set_option maxHeartbeats 4000000 in
theorem closed : joinedFacts Try.prog 10 Try.f10 Rows.fnMatchesSpec Rows.fnMatchesRow = true := by
  unfold joinedFacts
  repeat' with_reducible refine and2 ?_ ?_
  all_goals (as_aux_lemma => kernel_rfl)
theorem over : Rows.fnMatchesRow.holds Try.pinned (OpenSpec.ofChange Rows.fnMatchesSpec) :=
  OpenClaim.holds_of_wide 10 Try.f10 rfl rfl rfl rfl rfl rfl rfl ⟨rfl, rfl, rfl, rfl, rfl⟩ rfl rfl rfl rfl rfl (by kernel_rfl) Try.func10 closed
    (of_decide_eq_true (by kernel_rfl)) (by unfold Func.isWrapper; first | (rw [if_pos (by decide +kernel)]; kernel_rfl) | (rw [if_neg (by decide +kernel)]; exact ⟨rfl, rfl⟩))
    (fun os started H enc _ => lifted os started H enc)
theorem proved : Rows.FnMatchesSaid := over
#print axioms proved
end fnMatches
/-- The row, under a short name, for the claim. -/
theorem fnMatches_holds : Rows.FnMatchesSaid := fnMatches.proved
end Go.Proofs.Ytigjhjlkdamncaa
