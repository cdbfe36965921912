/- FnBins: whatever the arguments, the law answers true, and the arguments read as they did. Conditions: none beyond those of the row. -/
import Derived.Test.YtigjhjlkdamncaaRows
import Derived.Test.YtigjhjlkdamncaaTbnL
import Derived.Test.YtigjhjlkdamncaaTbnP
import Derived.Test.YtigjhjlkdamncaaSimRk
import Derived.WalkKit
import Derived.ProofKit
import Derived.OpenShut
import Derived.ShutString
import Derived.ChangeOld
import Derived.Below
import Derived.SizedLaws
namespace Go.Proofs.Ytigjhjlkdamncaa
open Go Go.Sim Go.Pw Go.Proofs
set_option linter.unusedVariables false
set_option maxRecDepth 100000
theorem g12 : okF fc12 Try.f12 = true := by kernel_rfl
theorem g14 : okF fc14 Try.f14 = true := by kernel_rfl
theorem g37 : okF fc37 Try.f37 = true := by kernel_rfl
theorem g75 : okF fc75 Try.f75 = true := by kernel_rfl
theorem g76 : okF fc76 Try.f76 = true := by kernel_rfl
theorem g77 : okF fc77 Try.f77 = true := by kernel_rfl
theorem g78 : okF fc78 Try.f78 = true := by kernel_rfl
theorem g85 : okF fc85 Try.f85 = true := by kernel_rfl
theorem g87 : okF fc87 Try.f87 = true := by kernel_rfl
theorem g92 : okF fc92 Try.f92 = true := by kernel_rfl
theorem g99 : okF fc99 Try.f99 = true := by kernel_rfl
theorem g102 : okF fc102 Try.f102 = true := by kernel_rfl
theorem g114 : okF fc114 Try.f114 = true := by kernel_rfl
theorem g115 : okF fc115 Try.f115 = true := by kernel_rfl
theorem g150 : okF fc150 Try.f150 = true := by kernel_rfl
theorem g167 : okF fc167 Try.f167 = true := by kernel_rfl
theorem g168 : okF fc168 Try.f168 = true := by kernel_rfl
theorem g169 : okF fc169 Try.f169 = true := by kernel_rfl
theorem g170 : okF fc170 Try.f170 = true := by kernel_rfl
theorem g171 : okF fc171 Try.f171 = true := by kernel_rfl
theorem g172 : okF fc172 Try.f172 = true := by kernel_rfl
theorem g173 : okF fc173 Try.f173 = true := by kernel_rfl
theorem g174 : okF fc174 Try.f174 = true := by kernel_rfl
theorem g183 : okF fc183 Try.f183 = true := by kernel_rfl
theorem g184 : okF fc184 Try.f184 = true := by kernel_rfl
theorem g196 : okF fc196 Try.f196 = true := by kernel_rfl
theorem g197 : okF fc197 Try.f197 = true := by kernel_rfl
theorem g198 : okF fc198 Try.f198 = true := by kernel_rfl
theorem g199 : okF fc199 Try.f199 = true := by kernel_rfl
theorem g238 : okF fc238 Try.f238 = true := by kernel_rfl
theorem g239 : okF fc239 Try.f239 = true := by kernel_rfl
theorem g240 : okF fc240 Try.f240 = true := by kernel_rfl
theorem g241 : okF fc241 Try.f241 = true := by kernel_rfl
theorem g242 : okF fc242 Try.f242 = true := by kernel_rfl
theorem g248 : okF fc248 Try.f248 = true := by kernel_rfl
theorem g250 : okF fc250 Try.f250 = true := by kernel_rfl
theorem g252 : okF fc252 Try.f252 = true := by kernel_rfl
theorem g253 : okF fc253 Try.f253 = true := by kernel_rfl
theorem g272 : okF fc272 Try.f272 = true := by kernel_rfl
theorem g273 : okF fc273 Try.f273 = true := by kernel_rfl
theorem g276 : okF fc276 Try.f276 = true := by kernel_rfl
theorem g277 : okF fc277 Try.f277 = true := by kernel_rfl
theorem g284 : okF fc284 Try.f284 = true := by kernel_rfl
theorem g286 : okF fc286 Try.f286 = true := by kernel_rfl
theorem wfu8 {n : Int} (h : (Lit.int .u8 n).wf = true) : 0 ≤ n ∧ n ≤ 255 := by
  have e1 : IntKind.u8.max = 255 := by decide
  have e2 : IntKind.u8.min = 0 := by decide
  simp [Lit.wf] at h
  omega
theorem mixed : Try.prog.follows .mixedOrders = true := by kernel_rfl
theorem cfgOK : CfgOK Try.prog cfg := by
  refine cfgOK_ext mixed ?_ fun f g hg => ?_
  · unfold ons
    simp only [List.forall_mem_cons]
    exact ⟨⟨_, Try.func12, g12⟩, ⟨_, Try.func14, g14⟩, ⟨_, Try.func37, g37⟩, ⟨_, Try.func75, g75⟩, ⟨_, Try.func76, g76⟩, ⟨_, Try.func77, g77⟩, ⟨_, Try.func78, g78⟩, ⟨_, Try.func85, g85⟩, ⟨_, Try.func87, g87⟩, ⟨_, Try.func92, g92⟩, ⟨_, Try.func99, g99⟩, ⟨_, Try.func102, g102⟩, ⟨_, Try.func114, g114⟩, ⟨_, Try.func115, g115⟩, ⟨_, Try.func150, g150⟩, ⟨_, Try.func167, g167⟩, ⟨_, Try.func168, g168⟩, ⟨_, Try.func169, g169⟩, ⟨_, Try.func170, g170⟩, ⟨_, Try.func171, g171⟩, ⟨_, Try.func172, g172⟩, ⟨_, Try.func173, g173⟩, ⟨_, Try.func174, g174⟩, ⟨_, Try.func183, g183⟩, ⟨_, Try.func184, g184⟩, ⟨_, Try.func196, g196⟩, ⟨_, Try.func197, g197⟩, ⟨_, Try.func198, g198⟩, ⟨_, Try.func199, g199⟩, ⟨_, Try.func238, g238⟩, ⟨_, Try.func239, g239⟩, ⟨_, Try.func240, g240⟩, ⟨_, Try.func241, g241⟩, ⟨_, Try.func242, g242⟩, ⟨_, Try.func248, g248⟩, ⟨_, Try.func250, g250⟩, ⟨_, Try.func252, g252⟩, ⟨_, Try.func253, g253⟩, ⟨_, Try.func272, g272⟩, ⟨_, Try.func273, g273⟩, ⟨_, Try.func276, g276⟩, ⟨_, Try.func277, g277⟩, ⟨_, Try.func284, g284⟩, ⟨_, Try.func286, g286⟩, fun _ h => by cases h⟩
  rcases look_cons hg with ⟨rfl, h⟩ | hg
  · cases h
    exact clone_ext (cfg := cfg) (fn := Try.f187) mixed Try.func187 rfl rfl rfl rfl eF27 sF27 rfl uF27 rfl rfl rF187 rfl
  cases hg
theorem laid : laidOutB Try.prog = true := by kernel_rfl
theorem rowed : mapsRowed Try.prog = true := by kernel_rfl
theorem sized : slicesSized Try.prog = true := by kernel_rfl
namespace fnBins
theorem own : ownKnob Try.prog.godebug = none := by kernel_rfl
theorem lifted (os : Os) (started : os.Started) (H : Type) (enc : TypeId × Value → H) :
    ReturnsInHanded {} Try.checked os 12 .any (Rows.fnBinsSpec.pre6 enc Try.prog Try.f12 Rows.fnBinsRow.domain false) (Rows.fnBinsSpec.post enc Try.prog Try.f12 false true false false) := by
  refine returnsInHanded_of_change_sized (C := Try.checked) own started (by kernel_rfl) Try.func12
    (ChangeSpec.witness6 (enc := enc) (C := Try.checked) false ⟨#[], #[.slice none 0 0], []⟩ 8 (by kernel_rfl) (by kernel_rfl) (by kernel_rfl) (by kernel_rfl)) ?_
  intro W base args ds gs before hval0 hW hcnd hsz0 _
  have hval : ∀ (j : Nat) t v, Try.f12.params[j]? = some t → args[j]? = some v → Value.okWide Try.prog W .any base t v := hval0
  have hW' := hW
  obtain ⟨p, q, hA0, hV, rfl, hfz, hnd⟩ := hW
  have hA : DataW.TrodAll enc Try.prog W 0 (fun _ => true) true Try.f12.params.toList args.toList ds p := hA0
  rw [Try.params12] at hA hval
  obtain ⟨v0, vs0, d0, ds0, p0, q0, hargs0, rfl, rfl, h0, r0⟩ := ChangeShapes.trodAll_cons hA
  obtain ⟨rfl, rfl, rfl⟩ := ChangeShapes.trodAll_nil r0
  obtain rfl : args = #[v0] := by cases args; simp_all
  obtain ⟨rfl, rfl⟩ := ChangeShapes.trodVars_none hV
  obtain ⟨a0, k0, w0⟩ := arg_one (tt := 2) (opens_slice (e := 5) (sz := 1) (ee := (eK .u8)) Try.underlying22 (by kernel_rfl) (by decide) (fun _ => rfl) (fun _ => rfl) (opens_int Try.underlying5)) (by rw [Try.underlying22]) (hval 0 22 v0 rfl rfl) h0
  refine (rowCalls cfgOK (L_laws_FnBins (law_Bins a0 (fun x hx => wfu8 (w0.1 x hx)))) (show ArgVs _ _ _ [v0] from (.cons k0 .nil))).mono fun e W' ⟨he, hio, _, hb⟩ => ?_
  exact ⟨_, he, row_post Try.underlying4 rfl rfl hW' rfl (kids_rows laid rowed) sized (by decide) hio hb⟩
theorem and2 {a b : Bool} (h1 : a = true) (h2 : b = true) : (a && b) = true := by rw [h1, h2]; rfl
set_option maxHeartbeats 4000000 in
theorem closed : joinedFacts Try.prog 12 Try.f12 Rows.fnBinsSpec Rows.fnBinsRow = true := by
  unfold joinedFacts
  repeat' with_reducible refine and2 ?_ ?_
  all_goals (as_aux_lemma => kernel_rfl)
theorem over : Rows.fnBinsRow.holds Try.pinned (OpenSpec.ofChange Rows.fnBinsSpec) :=
  OpenClaim.holds_of_wide 12 Try.f12 rfl rfl rfl rfl rfl rfl rfl ⟨rfl, rfl, rfl, rfl, rfl⟩ rfl rfl rfl rfl rfl (by kernel_rfl) Try.func12 closed
    (of_decide_eq_true (by kernel_rfl)) (by unfold Func.isWrapper; first | (rw [if_pos (by decide +kernel)]; kernel_rfl) | (rw [if_neg (by decide +kernel)]; exact ⟨rfl, rfl⟩))
    (fun os started H enc _ => lifted os started H enc)
theorem proved : Rows.FnBinsSaid := over
#print axioms proved
end fnBins
/-- The row, under a short name, for the claim. -/
theorem fnBins_holds : Rows.FnBinsSaid := fnBins.proved
end Go.Proofs.Ytigjhjlkdamncaa
