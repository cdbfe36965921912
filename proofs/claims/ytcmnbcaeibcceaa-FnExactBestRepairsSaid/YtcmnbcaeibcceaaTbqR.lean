/- FnExactBestRepairs: whatever the arguments, the law answers true, and the arguments read as they did. Conditions: none beyond those of the row. -/
import Derived.Test.YtcmnbcaeibcceaaRows
import Derived.Test.YtcmnbcaeibcceaaTbqL
import Derived.Test.YtcmnbcaeibcceaaTbqP
import Derived.Test.YtcmnbcaeibcceaaSimRk
import Derived.WalkKit
import Derived.ProofKit
import Derived.OpenShut
import Derived.ShutString
import Derived.ChangeOld
import Derived.Below
import Derived.SizedLaws
namespace Go.Proofs.Ytcmnbcaeibcceaa
open Go Go.Sim Go.Pw Go.Proofs
set_option linter.unusedVariables false
set_option maxRecDepth 100000
theorem g3:okF fc3 Try.f3=true:=by kernel_rfl
theorem g4:okF fc4 Try.f4=true:=by kernel_rfl
theorem g5:okF fc5 Try.f5=true:=by kernel_rfl
theorem g6:okF fc6 Try.f6=true:=by kernel_rfl
theorem g7:okF fc7 Try.f7=true:=by kernel_rfl
theorem g8:okF fc8 Try.f8=true:=by kernel_rfl
theorem g9:okF fc9 Try.f9=true:=by kernel_rfl
theorem g10:okF fc10 Try.f10=true:=by kernel_rfl
theorem g11:okF fc11 Try.f11=true:=by kernel_rfl
theorem g12:okF fc12 Try.f12=true:=by kernel_rfl
theorem g13:okF fc13 Try.f13=true:=by kernel_rfl
theorem g14:okF fc14 Try.f14=true:=by kernel_rfl
theorem g15:okF fc15 Try.f15=true:=by kernel_rfl
theorem g16:okF fc16 Try.f16=true:=by kernel_rfl
theorem g17:okF fc17 Try.f17=true:=by kernel_rfl
theorem g18:okF fc18 Try.f18=true:=by kernel_rfl
theorem g19:okF fc19 Try.f19=true:=by kernel_rfl
theorem g20:okF fc20 Try.f20=true:=by kernel_rfl
theorem g21:okF fc21 Try.f21=true:=by kernel_rfl
theorem g22:okF fc22 Try.f22=true:=by kernel_rfl
theorem g23:okF fc23 Try.f23=true:=by kernel_rfl
theorem g24:okF fc24 Try.f24=true:=by kernel_rfl
theorem g25:okF fc25 Try.f25=true:=by kernel_rfl
theorem g26:okF fc26 Try.f26=true:=by kernel_rfl
theorem g27:okF fc27 Try.f27=true:=by kernel_rfl
theorem g28:okF fc28 Try.f28=true:=by kernel_rfl
theorem g30:okF fc30 Try.f30=true:=by kernel_rfl
theorem g31:okF fc31 Try.f31=true:=by kernel_rfl
theorem g32:okF fc32 Try.f32=true:=by kernel_rfl
theorem g33:okF fc33 Try.f33=true:=by kernel_rfl
theorem g34:okF fc34 Try.f34=true:=by kernel_rfl
theorem g35:okF fc35 Try.f35=true:=by kernel_rfl
theorem g36:okF fc36 Try.f36=true:=by kernel_rfl
theorem g37:okF fc37 Try.f37=true:=by kernel_rfl
theorem g38:okF fc38 Try.f38=true:=by kernel_rfl
theorem g39:okF fc39 Try.f39=true:=by kernel_rfl
theorem g40:okF fc40 Try.f40=true:=by kernel_rfl
theorem g41:okF fc41 Try.f41=true:=by kernel_rfl
theorem g42:okF fc42 Try.f42=true:=by kernel_rfl
theorem g43:okF fc43 Try.f43=true:=by kernel_rfl
theorem mixed:Try.prog.follows .mixedOrders=true:=by kernel_rfl
theorem cfgOK [Lim]:CfgOK Try.prog cfg:=by
 refine cfgOK_ext mixed ?_ fun f g hg=>?_
 ·unfold ons
  simp only [List.forall_mem_cons]
  exact ⟨⟨_,Try.func3,g3⟩,⟨_,Try.func4,g4⟩,⟨_,Try.func5,g5⟩,⟨_,Try.func6,g6⟩,⟨_,Try.func7,g7⟩,⟨_,Try.func8,g8⟩,⟨_,Try.func9,g9⟩,⟨_,Try.func10,g10⟩,⟨_,Try.func11,g11⟩,⟨_,Try.func12,g12⟩,⟨_,Try.func13,g13⟩,⟨_,Try.func14,g14⟩,⟨_,Try.func15,g15⟩,⟨_,Try.func16,g16⟩,⟨_,Try.func17,g17⟩,⟨_,Try.func18,g18⟩,⟨_,Try.func19,g19⟩,⟨_,Try.func20,g20⟩,⟨_,Try.func21,g21⟩,⟨_,Try.func22,g22⟩,⟨_,Try.func23,g23⟩,⟨_,Try.func24,g24⟩,⟨_,Try.func25,g25⟩,⟨_,Try.func26,g26⟩,⟨_,Try.func27,g27⟩,⟨_,Try.func28,g28⟩,⟨_,Try.func30,g30⟩,⟨_,Try.func31,g31⟩,⟨_,Try.func32,g32⟩,⟨_,Try.func33,g33⟩,⟨_,Try.func34,g34⟩,⟨_,Try.func35,g35⟩,⟨_,Try.func36,g36⟩,⟨_,Try.func37,g37⟩,⟨_,Try.func38,g38⟩,⟨_,Try.func39,g39⟩,⟨_,Try.func40,g40⟩,⟨_,Try.func41,g41⟩,⟨_,Try.func42,g42⟩,⟨_,Try.func43,g43⟩,fun _ h=>by cases h⟩
 rcases look_cons hg with ⟨rfl,h⟩ | hg
 ·cases h
  exact clone_ext (cfg:=cfg) (fn:=Try.f29) mixed Try.func29 rfl rfl rfl rfl eF24 sF24 rfl uF24 rfl rfl rF29 rfl
 cases hg
theorem laid:laidOutB Try.prog=true:=by kernel_rfl
theorem rowed:mapsRowed Try.prog=true:=by kernel_rfl
theorem sized:slicesSized Try.prog=true:=by kernel_rfl
def ok_S_Veneer (x:S_Veneer):Prop:=x.Species.size≤maxLen∧(Lit.int .i64 x.Shade).wf=true∧(Lit.int .i64 x.Grain).wf=true
theorem o36:Opens Try.prog 36 (fun x:S_Veneer=>(e_S_Veneer x).cells) ok_S_Veneer:=
 opens_map (fun p:ByteArray×Int×Int×Unit=>⟨p.1,p.2.1,p.2.2.1⟩)
  (opens_struct Try.underlying36 (by kernel_rfl) (opensF_cons (s:=1) (by kernel_rfl) rfl (opens_string Try.underlying9) (opensF_cons (s:=1) (by kernel_rfl) rfl (opens_int Try.underlying2) (opensF_cons (s:=1) (by kernel_rfl) rfl (opens_int Try.underlying2) opensF_nil))))
  (fun _=>rfl) (fun _ h=>⟨h.1,h.2.1,h.2.2.1⟩)
def ok_S_Loss (x:S_Loss):Prop:=x.Name.size≤maxLen∧ok_S_Veneer x.Veneer∧(Lit.int .i64 x.Area).wf=true∧(Lit.int .i64 x.Priority).wf=true∧(Lit.int .i64 x.Cost).wf=true∧(Lit.int .i64 x.Minutes).wf=true
theorem o38:Opens Try.prog 38 (fun x:S_Loss=>(e_S_Loss x).cells) ok_S_Loss:=
 opens_map (fun p:ByteArray×S_Veneer×Int×Int×Int×Int×Unit=>⟨p.1,p.2.1,p.2.2.1,p.2.2.2.1,p.2.2.2.2.1,p.2.2.2.2.2.1⟩)
  (opens_struct Try.underlying38 (by kernel_rfl) (opensF_cons (s:=1) (by kernel_rfl) rfl (opens_string Try.underlying9) (opensF_cons (s:=3) (by kernel_rfl) rfl o36 (opensF_cons (s:=1) (by kernel_rfl) rfl (opens_int Try.underlying2) (opensF_cons (s:=1) (by kernel_rfl) rfl (opens_int Try.underlying2) (opensF_cons (s:=1) (by kernel_rfl) rfl (opens_int Try.underlying2) (opensF_cons (s:=1) (by kernel_rfl) rfl (opens_int Try.underlying2) opensF_nil)))))))
  (fun _=>rfl) (fun _ h=>⟨h.1,h.2.1,h.2.2.1,h.2.2.2.1,h.2.2.2.2.1,h.2.2.2.2.2.1⟩)
namespace fnExactBestRepairs
theorem own:ownKnob Try.prog.godebug=none:=by kernel_rfl
theorem lifted (os:Os) (started:os.Started) (H:Type) (enc:TypeId×Value→H):
 ReturnsInHanded {} Try.checked os 3 .any (Rows.fnExactBestRepairsSpec.pre6 enc Try.prog Try.f3 Rows.fnExactBestRepairsRow.domain false) (Rows.fnExactBestRepairsSpec.post enc Try.prog Try.f3 false true false false):=by
 refine returnsInHanded_of_change_sized (C:=Try.checked) own started (by kernel_rfl) Try.func3
  (ChangeSpec.witness6 (enc:=enc) (C:=Try.checked) false ⟨#[],#[.slice none 0 0,.int .i64 0,.int .i64 0,.int .i64 0],[]⟩ 8 (by kernel_rfl) (by kernel_rfl) (by kernel_rfl) (by kernel_rfl)) ?_
 intro W base args ds gs before hval0 hW hcnd hsz0 _
 have hval:∀(j:Nat) t v,Try.f3.params[j]?=some t→args[j]?=some v→Value.okWide Try.prog W .any base t v:=hval0
 have hW':=hW
 obtain ⟨p,q,hA0,hV,rfl,hfz,hnd⟩:=hW
 have hA:DataW.TrodAll enc Try.prog W 0 (fun _=>true) true Try.f3.params.toList args.toList ds p:=hA0
 rw [Try.params3] at hA hval
 obtain ⟨v0,vs0,d0,ds0,p0,q0,hargs0,rfl,rfl,h0,r0⟩:=ChangeShapes.trodAll_cons hA
 clear hA0
 obtain ⟨v1,vs1,d1,ds1,p1,q1,hargs1,rfl,rfl,h1,r1⟩:=ChangeShapes.trodAll_cons r0
 subst hargs1
 obtain ⟨v2,vs2,d2,ds2,p2,q2,hargs2,rfl,rfl,h2,r2⟩:=ChangeShapes.trodAll_cons r1
 subst hargs2
 obtain ⟨v3,vs3,d3,ds3,p3,q3,hargs3,rfl,rfl,h3,r3⟩:=ChangeShapes.trodAll_cons r2
 obtain ⟨rfl,rfl,rfl⟩:=ChangeShapes.trodAll_nil r3
 subst hargs3
 obtain rfl:args=#[v0,v1,v2,v3]:=by cases args;simp_all
 obtain ⟨rfl,rfl⟩:=ChangeShapes.trodVars_none hV
 obtain ⟨a0,k0,w0⟩:=arg_one (tt:=2) (opens_slice (e:=38) (sz:=8) (ee:=e_S_Loss) Try.underlying22 (by kernel_rfl) (by decide) (fun _=>rfl) (fun _=>rfl) o38) (by rw [Try.underlying22]) (hval 0 22 v0 rfl rfl) h0
 obtain ⟨a1,k1,w1⟩:=arg_one (tt:=2) (opens_int Try.underlying2) (by rw [Try.underlying2]) (hval 1 2 v1 rfl rfl) h1
 obtain ⟨a2,k2,w2⟩:=arg_one (tt:=2) (opens_int Try.underlying2) (by rw [Try.underlying2]) (hval 2 2 v2 rfl rfl) h2
 obtain ⟨a3,k3,w3⟩:=arg_one (tt:=2) (opens_int Try.underlying2) (by rw [Try.underlying2]) (hval 3 2 v3 rfl rfl) h3
 refine (rowCalls cfgOK (L_laws_FnExactBestRepairs (law_BestRepairs a0 a1 a2 a3 w0)) (show ArgVs _ _ _ [v0,v1,v2,v3] from (.cons k0 (.cons k1 (.cons k2 (.cons k3 .nil)))))).mono fun e W' ⟨he,hio,_,hb⟩=>?_
 exact ⟨_,he,row_post Try.underlying4 rfl rfl hW' rfl (kids_rows laid rowed) sized (by decide) hio hb⟩
theorem and2 {a b:Bool} (h1:a=true) (h2:b=true):(a&&b)=true:=by rw [h1,h2];rfl
set_option maxHeartbeats 4000000 in
theorem closed:joinedFacts Try.prog 3 Try.f3 Rows.fnExactBestRepairsSpec Rows.fnExactBestRepairsRow=true:=by
 unfold joinedFacts
 repeat' with_reducible refine and2 ?_ ?_
 all_goals (as_aux_lemma=>kernel_rfl)
theorem over:Rows.fnExactBestRepairsRow.holds Try.pinned (OpenSpec.ofChange Rows.fnExactBestRepairsSpec):=
 OpenClaim.holds_of_wide 3 Try.f3 rfl rfl rfl rfl rfl rfl rfl ⟨rfl,rfl,rfl,rfl,rfl⟩ rfl rfl rfl rfl rfl (by kernel_rfl) Try.func3 closed
  (of_decide_eq_true (by kernel_rfl)) (by unfold Func.isWrapper;first | (rw [if_pos (by decide+kernel)];kernel_rfl) | (rw [if_neg (by decide+kernel)];exact ⟨rfl,rfl⟩))
  (fun os started H enc _=>lifted os started H enc)
theorem proved:Rows.FnExactBestRepairsSaid:=over
#print axioms proved
end fnExactBestRepairs
theorem fnExactBestRepairs_holds:Rows.FnExactBestRepairsSaid:=fnExactBestRepairs.proved
end Go.Proofs.Ytcmnbcaeibcceaa
