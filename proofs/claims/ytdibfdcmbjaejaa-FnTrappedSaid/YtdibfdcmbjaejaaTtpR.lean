/- FnTrapped: whatever the arguments, the law answers true, and the arguments read as they did. Conditions: none beyond those of the row. -/
import Derived.Test.YtdibfdcmbjaejaaRows
import Derived.Test.YtdibfdcmbjaejaaTtpL
import Derived.Test.YtdibfdcmbjaejaaTtpP
import Derived.Test.YtdibfdcmbjaejaaSimRk
import Derived.WalkKit
import Derived.ProofKit
import Derived.OpenShut
import Derived.ShutString
import Derived.ChangeOld
import Derived.Below
import Derived.SizedLaws
namespace Go.Proofs.Ytdibfdcmbjaejaa
open Go Go.Sim Go.Pw Go.Proofs
set_option linter.unusedVariables false
set_option maxRecDepth 100000
theorem g3:okF fc3 Try.f3=true:=by kernel_rfl
theorem g7:okF fc7 Try.f7=true:=by kernel_rfl
theorem g8:okF fc8 Try.f8=true:=by kernel_rfl
theorem g9:okF fc9 Try.f9=true:=by kernel_rfl
theorem g10:okF fc10 Try.f10=true:=by kernel_rfl
theorem g11:okF fc11 Try.f11=true:=by kernel_rfl
theorem g12:okF fc12 Try.f12=true:=by kernel_rfl
theorem g13:okF fc13 Try.f13=true:=by kernel_rfl
theorem g39:okF fc39 Try.f39=true:=by kernel_rfl
theorem g40:okF fc40 Try.f40=true:=by kernel_rfl
theorem g41:okF fc41 Try.f41=true:=by kernel_rfl
theorem g42:okF fc42 Try.f42=true:=by kernel_rfl
theorem g43:okF fc43 Try.f43=true:=by kernel_rfl
theorem g44:okF fc44 Try.f44=true:=by kernel_rfl
theorem g45:okF fc45 Try.f45=true:=by kernel_rfl
theorem g46:okF fc46 Try.f46=true:=by kernel_rfl
theorem g47:okF fc47 Try.f47=true:=by kernel_rfl
theorem g48:okF fc48 Try.f48=true:=by kernel_rfl
theorem g49:okF fc49 Try.f49=true:=by kernel_rfl
theorem g50:okF fc50 Try.f50=true:=by kernel_rfl
theorem g51:okF fc51 Try.f51=true:=by kernel_rfl
theorem g52:okF fc52 Try.f52=true:=by kernel_rfl
theorem g60:okF fc60 Try.f60=true:=by kernel_rfl
theorem g66:okF fc66 Try.f66=true:=by kernel_rfl
theorem g83:okF fc83 Try.f83=true:=by kernel_rfl
theorem g84:okF fc84 Try.f84=true:=by kernel_rfl
theorem g85:okF fc85 Try.f85=true:=by kernel_rfl
theorem g86:okF fc86 Try.f86=true:=by kernel_rfl
theorem g87:okF fc87 Try.f87=true:=by kernel_rfl
theorem g88:okF fc88 Try.f88=true:=by kernel_rfl
theorem g89:okF fc89 Try.f89=true:=by kernel_rfl
theorem g90:okF fc90 Try.f90=true:=by kernel_rfl
theorem g91:okF fc91 Try.f91=true:=by kernel_rfl
theorem g92:okF fc92 Try.f92=true:=by kernel_rfl
theorem g93:okF fc93 Try.f93=true:=by kernel_rfl
theorem g94:okF fc94 Try.f94=true:=by kernel_rfl
theorem g95:okF fc95 Try.f95=true:=by kernel_rfl
theorem g96:okF fc96 Try.f96=true:=by kernel_rfl
theorem g97:okF fc97 Try.f97=true:=by kernel_rfl
theorem g98:okF fc98 Try.f98=true:=by kernel_rfl
theorem g99:okF fc99 Try.f99=true:=by kernel_rfl
theorem g100:okF fc100 Try.f100=true:=by kernel_rfl
theorem g101:okF fc101 Try.f101=true:=by kernel_rfl
theorem g102:okF fc102 Try.f102=true:=by kernel_rfl
theorem g103:okF fc103 Try.f103=true:=by kernel_rfl
theorem g104:okF fc104 Try.f104=true:=by kernel_rfl
theorem g105:okF fc105 Try.f105=true:=by kernel_rfl
theorem g106:okF fc106 Try.f106=true:=by kernel_rfl
theorem g115:okF fc115 Try.f115=true:=by kernel_rfl
theorem g116:okF fc116 Try.f116=true:=by kernel_rfl
theorem g137:okF fc137 Try.f137=true:=by kernel_rfl
theorem g143:okF fc143 Try.f143=true:=by kernel_rfl
theorem g144:okF fc144 Try.f144=true:=by kernel_rfl
theorem g145:okF fc145 Try.f145=true:=by kernel_rfl
theorem g146:okF fc146 Try.f146=true:=by kernel_rfl
theorem g147:okF fc147 Try.f147=true:=by kernel_rfl
theorem g148:okF fc148 Try.f148=true:=by kernel_rfl
theorem g149:okF fc149 Try.f149=true:=by kernel_rfl
theorem g150:okF fc150 Try.f150=true:=by kernel_rfl
theorem g151:okF fc151 Try.f151=true:=by kernel_rfl
theorem g152:okF fc152 Try.f152=true:=by kernel_rfl
theorem g153:okF fc153 Try.f153=true:=by kernel_rfl
theorem g154:okF fc154 Try.f154=true:=by kernel_rfl
theorem g155:okF fc155 Try.f155=true:=by kernel_rfl
theorem g156:okF fc156 Try.f156=true:=by kernel_rfl
theorem g157:okF fc157 Try.f157=true:=by kernel_rfl
theorem g158:okF fc158 Try.f158=true:=by kernel_rfl
theorem g160:okF fc160 Try.f160=true:=by kernel_rfl
theorem g163:okF fc163 Try.f163=true:=by kernel_rfl
theorem g189:okF fc189 Try.f189=true:=by kernel_rfl
theorem g190:okF fc190 Try.f190=true:=by kernel_rfl
theorem g191:okF fc191 Try.f191=true:=by kernel_rfl
theorem g192:okF fc192 Try.f192=true:=by kernel_rfl
theorem g193:okF fc193 Try.f193=true:=by kernel_rfl
theorem g194:okF fc194 Try.f194=true:=by kernel_rfl
theorem g207:okF fc207 Try.f207=true:=by kernel_rfl
theorem g208:okF fc208 Try.f208=true:=by kernel_rfl
theorem g211:okF fc211 Try.f211=true:=by kernel_rfl
theorem wfu8 {n:Int} (h:(Lit.int .u8 n).wf=true):0≤n∧n≤255:=by
 have e1:IntKind.u8.max=255:=by decide
 have e2:IntKind.u8.min=0:=by decide
 simp [Lit.wf] at h
 omega
theorem mixed:Try.prog.follows .mixedOrders=true:=by kernel_rfl
theorem cfgOK [Lim]:CfgOK Try.prog cfg:=by
 refine cfgOK_ext mixed ?_ fun f g hg=>?_
 ·unfold ons
  simp only [List.forall_mem_cons]
  exact ⟨⟨_,Try.func3,g3⟩,⟨_,Try.func7,g7⟩,⟨_,Try.func8,g8⟩,⟨_,Try.func9,g9⟩,⟨_,Try.func10,g10⟩,⟨_,Try.func11,g11⟩,⟨_,Try.func12,g12⟩,⟨_,Try.func13,g13⟩,⟨_,Try.func39,g39⟩,⟨_,Try.func40,g40⟩,⟨_,Try.func41,g41⟩,⟨_,Try.func42,g42⟩,⟨_,Try.func43,g43⟩,⟨_,Try.func44,g44⟩,⟨_,Try.func45,g45⟩,⟨_,Try.func46,g46⟩,⟨_,Try.func47,g47⟩,⟨_,Try.func48,g48⟩,⟨_,Try.func49,g49⟩,⟨_,Try.func50,g50⟩,⟨_,Try.func51,g51⟩,⟨_,Try.func52,g52⟩,⟨_,Try.func60,g60⟩,⟨_,Try.func66,g66⟩,⟨_,Try.func83,g83⟩,⟨_,Try.func84,g84⟩,⟨_,Try.func85,g85⟩,⟨_,Try.func86,g86⟩,⟨_,Try.func87,g87⟩,⟨_,Try.func88,g88⟩,⟨_,Try.func89,g89⟩,⟨_,Try.func90,g90⟩,⟨_,Try.func91,g91⟩,⟨_,Try.func92,g92⟩,⟨_,Try.func93,g93⟩,⟨_,Try.func94,g94⟩,⟨_,Try.func95,g95⟩,⟨_,Try.func96,g96⟩,⟨_,Try.func97,g97⟩,⟨_,Try.func98,g98⟩,⟨_,Try.func99,g99⟩,⟨_,Try.func100,g100⟩,⟨_,Try.func101,g101⟩,⟨_,Try.func102,g102⟩,⟨_,Try.func103,g103⟩,⟨_,Try.func104,g104⟩,⟨_,Try.func105,g105⟩,⟨_,Try.func106,g106⟩,⟨_,Try.func115,g115⟩,⟨_,Try.func116,g116⟩,⟨_,Try.func137,g137⟩,⟨_,Try.func143,g143⟩,⟨_,Try.func144,g144⟩,⟨_,Try.func145,g145⟩,⟨_,Try.func146,g146⟩,⟨_,Try.func147,g147⟩,⟨_,Try.func148,g148⟩,⟨_,Try.func149,g149⟩,⟨_,Try.func150,g150⟩,⟨_,Try.func151,g151⟩,⟨_,Try.func152,g152⟩,⟨_,Try.func153,g153⟩,⟨_,Try.func154,g154⟩,⟨_,Try.func155,g155⟩,⟨_,Try.func156,g156⟩,⟨_,Try.func157,g157⟩,⟨_,Try.func158,g158⟩,⟨_,Try.func160,g160⟩,⟨_,Try.func163,g163⟩,⟨_,Try.func189,g189⟩,⟨_,Try.func190,g190⟩,⟨_,Try.func191,g191⟩,⟨_,Try.func192,g192⟩,⟨_,Try.func193,g193⟩,⟨_,Try.func194,g194⟩,⟨_,Try.func207,g207⟩,⟨_,Try.func208,g208⟩,⟨_,Try.func211,g211⟩,fun _ h=>by cases h⟩
 rcases look_cons hg with ⟨rfl,h⟩ | hg
 ·cases h
  exact clone_ext (cfg:=cfg) (fn:=Try.f119) mixed Try.func119 rfl rfl rfl rfl eF28 sF28 rfl uF28 rfl rfl rF119 rfl
 cases hg
theorem laid:laidOutB Try.prog=true:=by kernel_rfl
theorem rowed:mapsRowed Try.prog=true:=by kernel_rfl
theorem sized:slicesSized Try.prog=true:=by kernel_rfl
namespace fnTrapped
theorem own:ownKnob Try.prog.godebug=none:=by kernel_rfl
theorem lifted (os:Os) (started:os.Started) (H:Type) (enc:TypeId×Value→H):
 ReturnsInHanded {} Try.checked os 3 .any (Rows.fnTrappedSpec.pre6 enc Try.prog Try.f3 Rows.fnTrappedRow.domain false) (Rows.fnTrappedSpec.post enc Try.prog Try.f3 false true false false):=by
 refine returnsInHanded_of_change_sized (C:=Try.checked) own started (by kernel_rfl) Try.func3
  (ChangeSpec.witness6 (enc:=enc) (C:=Try.checked) false ⟨#[],#[.slice none 0 0],[]⟩ 8 (by kernel_rfl) (by kernel_rfl) (by kernel_rfl) (by kernel_rfl)) ?_
 intro W base args ds gs before hval0 hW hcnd hsz0 _
 have hval:∀(j:Nat) t v,Try.f3.params[j]?=some t→args[j]?=some v→Value.okWide Try.prog W .any base t v:=hval0
 have hW':=hW
 obtain ⟨p,q,hA0,hV,rfl,hfz,hnd⟩:=hW
 have hA:DataW.TrodAll enc Try.prog W 0 (fun _=>true) true Try.f3.params.toList args.toList ds p:=hA0
 rw [Try.params3] at hA hval
 obtain ⟨v0,vs0,d0,ds0,p0,q0,hargs0,rfl,rfl,h0,r0⟩:=ChangeShapes.trodAll_cons hA
 obtain ⟨rfl,rfl,rfl⟩:=ChangeShapes.trodAll_nil r0
 obtain rfl:args=#[v0]:=by cases args;simp_all
 obtain ⟨rfl,rfl⟩:=ChangeShapes.trodVars_none hV
 obtain ⟨a0,k0,w0⟩:=arg_one (tt:=2) (opens_slice (e:=5) (sz:=1) (ee:=(eK .u8)) Try.underlying22 (by kernel_rfl) (by decide) (fun _=>rfl) (fun _=>rfl) (opens_int Try.underlying5)) (by rw [Try.underlying22]) (hval 0 22 v0 rfl rfl) h0
 refine (rowCalls cfgOK (L_laws_FnTrapped (law_Trapped a0 (fun x hx=>wfu8 (w0.1 x hx)))) (show ArgVs _ _ _ [v0] from (.cons k0 .nil))).mono fun e W' ⟨he,hio,_,hb⟩=>?_
 exact ⟨_,he,row_post Try.underlying4 rfl rfl hW' rfl (kids_rows laid rowed) sized (by decide) hio hb⟩
theorem and2 {a b:Bool} (h1:a=true) (h2:b=true):(a&&b)=true:=by rw [h1,h2];rfl
set_option maxHeartbeats 4000000 in
theorem closed:joinedFacts Try.prog 3 Try.f3 Rows.fnTrappedSpec Rows.fnTrappedRow=true:=by
 unfold joinedFacts
 repeat' with_reducible refine and2 ?_ ?_
 all_goals (as_aux_lemma=>kernel_rfl)
theorem over:Rows.fnTrappedRow.holds Try.pinned (OpenSpec.ofChange Rows.fnTrappedSpec):=
 OpenClaim.holds_of_wide 3 Try.f3 rfl rfl rfl rfl rfl rfl rfl ⟨rfl,rfl,rfl,rfl,rfl⟩ rfl rfl rfl rfl rfl (by kernel_rfl) Try.func3 closed
  (of_decide_eq_true (by kernel_rfl)) (by unfold Func.isWrapper;first | (rw [if_pos (by decide+kernel)];kernel_rfl) | (rw [if_neg (by decide+kernel)];exact ⟨rfl,rfl⟩))
  (fun os started H enc _=>lifted os started H enc)
theorem proved:Rows.FnTrappedSaid:=over
#print axioms proved
end fnTrapped
theorem fnTrapped_holds:Rows.FnTrappedSaid:=fnTrapped.proved
end Go.Proofs.Ytdibfdcmbjaejaa
