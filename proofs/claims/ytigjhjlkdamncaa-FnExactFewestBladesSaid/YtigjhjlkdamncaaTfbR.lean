/- FnExactFewestBlades: whatever the arguments, the law answers true, and the arguments read as they did. Conditions: none beyond those of the row. -/
import Derived.Test.YtigjhjlkdamncaaRows
import Derived.Test.YtigjhjlkdamncaaTfbL
import Derived.Test.YtigjhjlkdamncaaTfbP
import Derived.Test.YtigjhjlkdamncaaSimRk
import Derived.WalkKit
import Derived.ProofKit
import Derived.OpenShut
import Derived.ShutString
import Derived.ChangeOld
import Derived.Below
import Derived.SizedLaws
namespace Go.Proofs.Ytigjhjlkdamncaa
open Go Go.Sim Go.Pw Go.Proofs
set_option linter.unusedVariables false
set_option maxRecDepth 100000
theorem g5 : okF fc5 Try.f5 = true := by kernel_rfl
theorem g27 : okF fc27 Try.f27 = true := by kernel_rfl
theorem g30 : okF fc30 Try.f30 = true := by kernel_rfl
theorem g31 : okF fc31 Try.f31 = true := by kernel_rfl
theorem g32 : okF fc32 Try.f32 = true := by kernel_rfl
theorem g33 : okF fc33 Try.f33 = true := by kernel_rfl
theorem g34 : okF fc34 Try.f34 = true := by kernel_rfl
theorem g35 : okF fc35 Try.f35 = true := by kernel_rfl
theorem g36 : okF fc36 Try.f36 = true := by kernel_rfl
theorem g37 : okF fc37 Try.f37 = true := by kernel_rfl
theorem g38 : okF fc38 Try.f38 = true := by kernel_rfl
theorem g39 : okF fc39 Try.f39 = true := by kernel_rfl
theorem g92 : okF fc92 Try.f92 = true := by kernel_rfl
theorem g102 : okF fc102 Try.f102 = true := by kernel_rfl
theorem g105 : okF fc105 Try.f105 = true := by kernel_rfl
theorem g108 : okF fc108 Try.f108 = true := by kernel_rfl
theorem g109 : okF fc109 Try.f109 = true := by kernel_rfl
theorem g110 : okF fc110 Try.f110 = true := by kernel_rfl
theorem g111 : okF fc111 Try.f111 = true := by kernel_rfl
theorem g112 : okF fc112 Try.f112 = true := by kernel_rfl
theorem g113 : okF fc113 Try.f113 = true := by kernel_rfl
theorem g114 : okF fc114 Try.f114 = true := by kernel_rfl
theorem g115 : okF fc115 Try.f115 = true := by kernel_rfl
theorem g116 : okF fc116 Try.f116 = true := by kernel_rfl
theorem g172 : okF fc172 Try.f172 = true := by kernel_rfl
theorem g194 : okF fc194 Try.f194 = true := by kernel_rfl
theorem g195 : okF fc195 Try.f195 = true := by kernel_rfl
theorem g196 : okF fc196 Try.f196 = true := by kernel_rfl
theorem g197 : okF fc197 Try.f197 = true := by kernel_rfl
theorem g198 : okF fc198 Try.f198 = true := by kernel_rfl
theorem g199 : okF fc199 Try.f199 = true := by kernel_rfl
theorem g242 : okF fc242 Try.f242 = true := by kernel_rfl
theorem g250 : okF fc250 Try.f250 = true := by kernel_rfl
theorem g252 : okF fc252 Try.f252 = true := by kernel_rfl
theorem g253 : okF fc253 Try.f253 = true := by kernel_rfl
theorem g276 : okF fc276 Try.f276 = true := by kernel_rfl
theorem g277 : okF fc277 Try.f277 = true := by kernel_rfl
theorem mixed : Try.prog.follows .mixedOrders = true := by kernel_rfl
theorem cfgOK : CfgOK Try.prog cfg := by
  refine cfgOK_ext mixed ?_ fun f g hg => ?_
  · unfold ons
    simp only [List.forall_mem_cons]
    exact ⟨⟨_, Try.func5, g5⟩, ⟨_, Try.func27, g27⟩, ⟨_, Try.func30, g30⟩, ⟨_, Try.func31, g31⟩, ⟨_, Try.func32, g32⟩, ⟨_, Try.func33, g33⟩, ⟨_, Try.func34, g34⟩, ⟨_, Try.func35, g35⟩, ⟨_, Try.func36, g36⟩, ⟨_, Try.func37, g37⟩, ⟨_, Try.func38, g38⟩, ⟨_, Try.func39, g39⟩, ⟨_, Try.func92, g92⟩, ⟨_, Try.func102, g102⟩, ⟨_, Try.func105, g105⟩, ⟨_, Try.func108, g108⟩, ⟨_, Try.func109, g109⟩, ⟨_, Try.func110, g110⟩, ⟨_, Try.func111, g111⟩, ⟨_, Try.func112, g112⟩, ⟨_, Try.func113, g113⟩, ⟨_, Try.func114, g114⟩, ⟨_, Try.func115, g115⟩, ⟨_, Try.func116, g116⟩, ⟨_, Try.func172, g172⟩, ⟨_, Try.func194, g194⟩, ⟨_, Try.func195, g195⟩, ⟨_, Try.func196, g196⟩, ⟨_, Try.func197, g197⟩, ⟨_, Try.func198, g198⟩, ⟨_, Try.func199, g199⟩, ⟨_, Try.func242, g242⟩, ⟨_, Try.func250, g250⟩, ⟨_, Try.func252, g252⟩, ⟨_, Try.func253, g253⟩, ⟨_, Try.func276, g276⟩, ⟨_, Try.func277, g277⟩, fun _ h => by cases h⟩
  rcases look_cons hg with ⟨rfl, h⟩ | hg
  · cases h
    exact clone_ext (cfg := cfg) (fn := Try.f187) mixed Try.func187 rfl rfl rfl rfl eF27 sF27 rfl uF27 rfl rfl rF187 rfl
  cases hg
theorem laid : laidOutB Try.prog = true := by kernel_rfl
theorem rowed : mapsRowed Try.prog = true := by kernel_rfl
theorem sized : slicesSized Try.prog = true := by kernel_rfl
def ok_S_Blade (x : S_Blade) : Prop := x.Name.size ≤ maxLen ∧ (Lit.int .i64 x.Life).wf = true ∧ (Lit.int .i64 x.Price).wf = true ∧ (Lit.int .i64 x.Speed).wf = true
theorem o48 : Opens Try.prog 48 (fun x : S_Blade => (e_S_Blade x).cells) ok_S_Blade :=
  opens_map (fun p : ByteArray × Int × Int × Int × Unit => ⟨p.1, p.2.1, p.2.2.1, p.2.2.2.1⟩)
    (opens_struct Try.underlying48 (by kernel_rfl) (opensF_cons (s := 1) (by kernel_rfl) rfl (opens_string Try.underlying9) (opensF_cons (s := 1) (by kernel_rfl) rfl (opens_int Try.underlying2) (opensF_cons (s := 1) (by kernel_rfl) rfl (opens_int Try.underlying2) (opensF_cons (s := 1) (by kernel_rfl) rfl (opens_int Try.underlying2) opensF_nil)))))
    (fun _ => rfl) (fun _ h => ⟨h.1, h.2.1, h.2.2.1, h.2.2.2.1⟩)
def ok_S_Cutting (x : S_Cutting) : Prop := x.Name.size ≤ maxLen ∧ (Lit.int .i64 x.Length).wf = true ∧ (Lit.int .i64 x.Hardness).wf = true
theorem o156 : Opens Try.prog 156 (fun x : S_Cutting => (e_S_Cutting x).cells) ok_S_Cutting :=
  opens_map (fun p : ByteArray × Int × Int × Unit => ⟨p.1, p.2.1, p.2.2.1⟩)
    (opens_struct Try.underlying156 (by kernel_rfl) (opensF_cons (s := 1) (by kernel_rfl) rfl (opens_string Try.underlying9) (opensF_cons (s := 1) (by kernel_rfl) rfl (opens_int Try.underlying2) (opensF_cons (s := 1) (by kernel_rfl) rfl (opens_int Try.underlying2) opensF_nil))))
    (fun _ => rfl) (fun _ h => ⟨h.1, h.2.1, h.2.2.1⟩)
namespace fnExactFewestBlades
theorem own : ownKnob Try.prog.godebug = none := by kernel_rfl
theorem lifted (os : Os) (started : os.Started) (H : Type) (enc : TypeId × Value → H) :
    ReturnsInHanded {} Try.checked os 5 .any (Rows.fnExactFewestBladesSpec.pre6 enc Try.prog Try.f5 Rows.fnExactFewestBladesRow.domain false) (Rows.fnExactFewestBladesSpec.post enc Try.prog Try.f5 false true false false) := by
  refine returnsInHanded_of_change_sized (C := Try.checked) own started (by kernel_rfl) Try.func5
    (ChangeSpec.witness6 (enc := enc) (C := Try.checked) false ⟨#[], #[.agg #[.string ⟨#[]⟩, .int .i64 0, .int .i64 0, .int .i64 0], .slice none 0 0, .int .i64 0], []⟩ 8 (by kernel_rfl) (by kernel_rfl) (by kernel_rfl) (by kernel_rfl)) ?_
  intro W base args ds gs before hval0 hW hcnd hsz0 _
  have hval : ∀ (j : Nat) t v, Try.f5.params[j]? = some t → args[j]? = some v → Value.okWide Try.prog W .any base t v := hval0
  have hW' := hW
  obtain ⟨p, q, hA0, hV, rfl, hfz, hnd⟩ := hW
  have hA : DataW.TrodAll enc Try.prog W 0 (fun _ => true) true Try.f5.params.toList args.toList ds p := hA0
  rw [Try.params5] at hA hval
  obtain ⟨v0, vs0, d0, ds0, p0, q0, hargs0, rfl, rfl, h0, r0⟩ := ChangeShapes.trodAll_cons hA
  clear hA0
  obtain ⟨v1, vs1, d1, ds1, p1, q1, hargs1, rfl, rfl, h1, r1⟩ := ChangeShapes.trodAll_cons r0
  subst hargs1
  obtain ⟨v2, vs2, d2, ds2, p2, q2, hargs2, rfl, rfl, h2, r2⟩ := ChangeShapes.trodAll_cons r1
  obtain ⟨rfl, rfl, rfl⟩ := ChangeShapes.trodAll_nil r2
  subst hargs2
  obtain rfl : args = #[v0, v1, v2] := by cases args; simp_all
  obtain ⟨rfl, rfl⟩ := ChangeShapes.trodVars_none hV
  obtain ⟨a0, k0, w0⟩ := arg_agg (tt := 2) o48 Try.underlying48 (hval 0 48 v0 rfl rfl) h0
  obtain ⟨a1, k1, w1⟩ := arg_one (tt := 2) (opens_slice (e := 156) (sz := 3) (ee := e_S_Cutting) Try.underlying49 (by kernel_rfl) (by decide) (fun _ => rfl) (fun _ => rfl) o156) (by rw [Try.underlying49]) (hval 1 49 v1 rfl rfl) h1
  obtain ⟨a2, k2, w2⟩ := arg_one (tt := 2) (opens_int Try.underlying2) (by rw [Try.underlying2]) (hval 2 2 v2 rfl rfl) h2
  refine (rowCalls cfgOK (L_laws_FnExactFewestBlades (law_FewestBlades a0 a1 a2 w0.1 w1.2 (fun x hx => (w1.1 x hx).1))) (show ArgVs _ _ _ [v0, v1, v2] from (.cons k0 (.cons k1 (.cons k2 .nil))))).mono fun e W' ⟨he, hio, _, hb⟩ => ?_
  exact ⟨_, he, row_post Try.underlying4 rfl rfl hW' rfl (kids_rows laid rowed) sized (by decide) hio hb⟩
theorem and2 {a b : Bool} (h1 : a = true) (h2 : b = true) : (a && b) = true := by rw [h1, h2]; rfl
set_option maxHeartbeats 4000000 in
theorem closed : joinedFacts Try.prog 5 Try.f5 Rows.fnExactFewestBladesSpec Rows.fnExactFewestBladesRow = true := by
  unfold joinedFacts
  repeat' with_reducible refine and2 ?_ ?_
  all_goals (as_aux_lemma => kernel_rfl)
theorem over : Rows.fnExactFewestBladesRow.holds Try.pinned (OpenSpec.ofChange Rows.fnExactFewestBladesSpec) :=
  OpenClaim.holds_of_wide 5 Try.f5 rfl rfl rfl rfl rfl rfl rfl ⟨rfl, rfl, rfl, rfl, rfl⟩ rfl rfl rfl rfl rfl (by kernel_rfl) Try.func5 closed
    (of_decide_eq_true (by kernel_rfl)) (by unfold Func.isWrapper; first | (rw [if_pos (by decide +kernel)]; kernel_rfl) | (rw [if_neg (by decide +kernel)]; exact ⟨rfl, rfl⟩))
    (fun os started H enc _ => lifted os started H enc)
theorem proved : Rows.FnExactFewestBladesSaid := over
#print axioms proved
end fnExactFewestBlades
/-- The row, under a short name, for the claim. -/
theorem fnExactFewestBlades_holds : Rows.FnExactFewestBladesSaid := fnExactFewestBlades.proved
end Go.Proofs.Ytigjhjlkdamncaa
