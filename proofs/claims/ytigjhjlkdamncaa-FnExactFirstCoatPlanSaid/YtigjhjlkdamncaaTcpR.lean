/- FnExactFirstCoatPlan: whatever the arguments, the law answers true, and the arguments read as they did. Conditions: none beyond those of the row. -/
import Derived.Test.YtigjhjlkdamncaaRows
import Derived.Test.YtigjhjlkdamncaaTcpL
import Derived.Test.YtigjhjlkdamncaaTcpP
import Derived.Test.YtigjhjlkdamncaaSimRk
import Derived.WalkKit
import Derived.ProofKit
import Derived.OpenShut
import Derived.ShutString
import Derived.ChangeOld
import Derived.Below
import Derived.SizedLaws
namespace Go.Proofs.Ytigjhjlkdamncaa
open Go Go.Sim Go.Pw Go.Proofs
set_option linter.unusedVariables false
set_option maxRecDepth 100000
theorem g4 : okF fc4 Try.f4 = true := by kernel_rfl
theorem g17 : okF fc17 Try.f17 = true := by kernel_rfl
theorem g24 : okF fc24 Try.f24 = true := by kernel_rfl
theorem g25 : okF fc25 Try.f25 = true := by kernel_rfl
theorem g26 : okF fc26 Try.f26 = true := by kernel_rfl
theorem g27 : okF fc27 Try.f27 = true := by kernel_rfl
theorem g28 : okF fc28 Try.f28 = true := by kernel_rfl
theorem g29 : okF fc29 Try.f29 = true := by kernel_rfl
theorem g30 : okF fc30 Try.f30 = true := by kernel_rfl
theorem g31 : okF fc31 Try.f31 = true := by kernel_rfl
theorem g88 : okF fc88 Try.f88 = true := by kernel_rfl
theorem g90 : okF fc90 Try.f90 = true := by kernel_rfl
theorem g91 : okF fc91 Try.f91 = true := by kernel_rfl
theorem g92 : okF fc92 Try.f92 = true := by kernel_rfl
theorem g93 : okF fc93 Try.f93 = true := by kernel_rfl
theorem g94 : okF fc94 Try.f94 = true := by kernel_rfl
theorem g100 : okF fc100 Try.f100 = true := by kernel_rfl
theorem g101 : okF fc101 Try.f101 = true := by kernel_rfl
theorem g102 : okF fc102 Try.f102 = true := by kernel_rfl
theorem g103 : okF fc103 Try.f103 = true := by kernel_rfl
theorem g104 : okF fc104 Try.f104 = true := by kernel_rfl
theorem g105 : okF fc105 Try.f105 = true := by kernel_rfl
theorem g106 : okF fc106 Try.f106 = true := by kernel_rfl
theorem g107 : okF fc107 Try.f107 = true := by kernel_rfl
theorem g108 : okF fc108 Try.f108 = true := by kernel_rfl
theorem g185 : okF fc185 Try.f185 = true := by kernel_rfl
theorem g186 : okF fc186 Try.f186 = true := by kernel_rfl
theorem g188 : okF fc188 Try.f188 = true := by kernel_rfl
theorem g189 : okF fc189 Try.f189 = true := by kernel_rfl
theorem g190 : okF fc190 Try.f190 = true := by kernel_rfl
theorem g191 : okF fc191 Try.f191 = true := by kernel_rfl
theorem g192 : okF fc192 Try.f192 = true := by kernel_rfl
theorem g193 : okF fc193 Try.f193 = true := by kernel_rfl
theorem g249 : okF fc249 Try.f249 = true := by kernel_rfl
theorem g250 : okF fc250 Try.f250 = true := by kernel_rfl
theorem g251 : okF fc251 Try.f251 = true := by kernel_rfl
theorem g252 : okF fc252 Try.f252 = true := by kernel_rfl
theorem g276 : okF fc276 Try.f276 = true := by kernel_rfl
theorem g277 : okF fc277 Try.f277 = true := by kernel_rfl
theorem mixed : Try.prog.follows .mixedOrders = true := by kernel_rfl
theorem cfgOK : CfgOK Try.prog cfg := by
  refine cfgOK_ext mixed ?_ fun f g hg => ?_
  · unfold ons
    simp only [List.forall_mem_cons]
    exact ⟨⟨_, Try.func4, g4⟩, ⟨_, Try.func17, g17⟩, ⟨_, Try.func24, g24⟩, ⟨_, Try.func25, g25⟩, ⟨_, Try.func26, g26⟩, ⟨_, Try.func27, g27⟩, ⟨_, Try.func28, g28⟩, ⟨_, Try.func29, g29⟩, ⟨_, Try.func30, g30⟩, ⟨_, Try.func31, g31⟩, ⟨_, Try.func88, g88⟩, ⟨_, Try.func90, g90⟩, ⟨_, Try.func91, g91⟩, ⟨_, Try.func92, g92⟩, ⟨_, Try.func93, g93⟩, ⟨_, Try.func94, g94⟩, ⟨_, Try.func100, g100⟩, ⟨_, Try.func101, g101⟩, ⟨_, Try.func102, g102⟩, ⟨_, Try.func103, g103⟩, ⟨_, Try.func104, g104⟩, ⟨_, Try.func105, g105⟩, ⟨_, Try.func106, g106⟩, ⟨_, Try.func107, g107⟩, ⟨_, Try.func108, g108⟩, ⟨_, Try.func185, g185⟩, ⟨_, Try.func186, g186⟩, ⟨_, Try.func188, g188⟩, ⟨_, Try.func189, g189⟩, ⟨_, Try.func190, g190⟩, ⟨_, Try.func191, g191⟩, ⟨_, Try.func192, g192⟩, ⟨_, Try.func193, g193⟩, ⟨_, Try.func249, g249⟩, ⟨_, Try.func250, g250⟩, ⟨_, Try.func251, g251⟩, ⟨_, Try.func252, g252⟩, ⟨_, Try.func276, g276⟩, ⟨_, Try.func277, g277⟩, fun _ h => by cases h⟩
  rcases look_cons hg with ⟨rfl, h⟩ | hg
  · cases h
    exact clone_ext (cfg := cfg) (fn := Try.f187) mixed Try.func187 rfl rfl rfl rfl eF27 sF27 rfl uF27 rfl rfl rF187 rfl
  cases hg
theorem laid : laidOutB Try.prog = true := by kernel_rfl
theorem rowed : mapsRowed Try.prog = true := by kernel_rfl
theorem sized : slicesSized Try.prog = true := by kernel_rfl
def ok_S_Coat (x : S_Coat) : Prop := x.Name.size ≤ maxLen ∧ (Lit.int .i64 x.Work).wf = true ∧ (Lit.int .i64 x.Dry).wf = true ∧ (Lit.int .i64 x.Wait).wf = true
theorem o143 : Opens Try.prog 143 (fun x : S_Coat => (e_S_Coat x).cells) ok_S_Coat :=
  opens_map (fun p : ByteArray × Int × Int × Int × Unit => ⟨p.1, p.2.1, p.2.2.1, p.2.2.2.1⟩)
    (opens_struct Try.underlying143 (by kernel_rfl) (opensF_cons (s := 1) (by kernel_rfl) rfl (opens_string Try.underlying9) (opensF_cons (s := 1) (by kernel_rfl) rfl (opens_int Try.underlying2) (opensF_cons (s := 1) (by kernel_rfl) rfl (opens_int Try.underlying2) (opensF_cons (s := 1) (by kernel_rfl) rfl (opens_int Try.underlying2) opensF_nil)))))
    (fun _ => rfl) (fun _ h => ⟨h.1, h.2.1, h.2.2.1, h.2.2.2.1⟩)
namespace fnExactFirstCoatPlan
theorem own : ownKnob Try.prog.godebug = none := by kernel_rfl
theorem lifted (os : Os) (started : os.Started) (H : Type) (enc : TypeId × Value → H) :
    ReturnsInHanded {} Try.checked os 4 .any (Rows.fnExactFirstCoatPlanSpec.pre6 enc Try.prog Try.f4 Rows.fnExactFirstCoatPlanRow.domain false) (Rows.fnExactFirstCoatPlanSpec.post enc Try.prog Try.f4 false true false false) := by
  refine returnsInHanded_of_change_sized (C := Try.checked) own started (by kernel_rfl) Try.func4
    (ChangeSpec.witness6 (enc := enc) (C := Try.checked) false ⟨#[], #[.slice none 0 0, .int .i64 0, .int .i64 0, .int .i64 0, .int .i64 0], []⟩ 8 (by kernel_rfl) (by kernel_rfl) (by kernel_rfl) (by kernel_rfl)) ?_
  intro W base args ds gs before hval0 hW hcnd hsz0 _
  have hval : ∀ (j : Nat) t v, Try.f4.params[j]? = some t → args[j]? = some v → Value.okWide Try.prog W .any base t v := hval0
  have hW' := hW
  obtain ⟨p, q, hA0, hV, rfl, hfz, hnd⟩ := hW
  have hA : DataW.TrodAll enc Try.prog W 0 (fun _ => true) true Try.f4.params.toList args.toList ds p := hA0
  rw [Try.params4] at hA hval
  obtain ⟨v0, vs0, d0, ds0, p0, q0, hargs0, rfl, rfl, h0, r0⟩ := ChangeShapes.trodAll_cons hA
  clear hA0
  obtain ⟨v1, vs1, d1, ds1, p1, q1, hargs1, rfl, rfl, h1, r1⟩ := ChangeShapes.trodAll_cons r0
  subst hargs1
  obtain ⟨v2, vs2, d2, ds2, p2, q2, hargs2, rfl, rfl, h2, r2⟩ := ChangeShapes.trodAll_cons r1
  subst hargs2
  obtain ⟨v3, vs3, d3, ds3, p3, q3, hargs3, rfl, rfl, h3, r3⟩ := ChangeShapes.trodAll_cons r2
  subst hargs3
  obtain ⟨v4, vs4, d4, ds4, p4, q4, hargs4, rfl, rfl, h4, r4⟩ := ChangeShapes.trodAll_cons r3
  obtain ⟨rfl, rfl, rfl⟩ := ChangeShapes.trodAll_nil r4
  subst hargs4
  obtain rfl : args = #[v0, v1, v2, v3, v4] := by cases args; simp_all
  obtain ⟨rfl, rfl⟩ := ChangeShapes.trodVars_none hV
  obtain ⟨a0, k0, w0⟩ := arg_one (tt := 2) (opens_slice (e := 143) (sz := 4) (ee := e_S_Coat) Try.underlying40 (by kernel_rfl) (by decide) (fun _ => rfl) (fun _ => rfl) o143) (by rw [Try.underlying40]) (hval 0 40 v0 rfl rfl) h0
  obtain ⟨a1, k1, w1⟩ := arg_one (tt := 2) (opens_int Try.underlying2) (by rw [Try.underlying2]) (hval 1 2 v1 rfl rfl) h1
  obtain ⟨a2, k2, w2⟩ := arg_one (tt := 2) (opens_int Try.underlying2) (by rw [Try.underlying2]) (hval 2 2 v2 rfl rfl) h2
  obtain ⟨a3, k3, w3⟩ := arg_one (tt := 2) (opens_int Try.underlying2) (by rw [Try.underlying2]) (hval 3 2 v3 rfl rfl) h3
  obtain ⟨a4, k4, w4⟩ := arg_one (tt := 2) (opens_int Try.underlying2) (by rw [Try.underlying2]) (hval 4 2 v4 rfl rfl) h4
  refine (rowCalls cfgOK (L_laws_FnExactFirstCoatPlan (law_FirstCoatPlan a0 a1 a2 a3 a4 w0.2 (fun x hx => (w0.1 x hx).1))) (show ArgVs _ _ _ [v0, v1, v2, v3, v4] from (.cons k0 (.cons k1 (.cons k2 (.cons k3 (.cons k4 .nil))))))).mono fun e W' ⟨he, hio, _, hb⟩ => ?_
  exact ⟨_, he, row_post Try.underlying4 rfl rfl hW' rfl (kids_rows laid rowed) sized (by decide) hio hb⟩
theorem and2 {a b : Bool} (h1 : a = true) (h2 : b = true) : (a && b) = true := by rw [h1, h2]; rfl
set_option maxHeartbeats 4000000 in
theorem closed : joinedFacts Try.prog 4 Try.f4 Rows.fnExactFirstCoatPlanSpec Rows.fnExactFirstCoatPlanRow = true := by
  unfold joinedFacts
  repeat' with_reducible refine and2 ?_ ?_
  all_goals (as_aux_lemma => kernel_rfl)
theorem over : Rows.fnExactFirstCoatPlanRow.holds Try.pinned (OpenSpec.ofChange Rows.fnExactFirstCoatPlanSpec) :=
  OpenClaim.holds_of_wide 4 Try.f4 rfl rfl rfl rfl rfl rfl rfl ⟨rfl, rfl, rfl, rfl, rfl⟩ rfl rfl rfl rfl rfl (by kernel_rfl) Try.func4 closed
    (of_decide_eq_true (by kernel_rfl)) (by unfold Func.isWrapper; first | (rw [if_pos (by decide +kernel)]; kernel_rfl) | (rw [if_neg (by decide +kernel)]; exact ⟨rfl, rfl⟩))
    (fun os started H enc _ => lifted os started H enc)
theorem proved : Rows.FnExactFirstCoatPlanSaid := over
#print axioms proved
end fnExactFirstCoatPlan
/-- The row, under a short name, for the claim. -/
theorem fnExactFirstCoatPlan_holds : Rows.FnExactFirstCoatPlanSaid := fnExactFirstCoatPlan.proved
end Go.Proofs.Ytigjhjlkdamncaa
