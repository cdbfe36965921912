/- FnAssembly: whatever the arguments, the law answers true, and the arguments read as they did. Conditions: none beyond those of the row. -/
import Derived.Test.YtfjmlccolihpmaaRows
import Derived.Test.YtfjmlccolihpmaaTaqL
import Derived.Test.YtfjmlccolihpmaaTaqP
import Derived.Test.YtfjmlccolihpmaaSimRk
import Derived.WalkKit
import Derived.ProofKit
import Derived.OpenShut
import Derived.ShutString
import Derived.ChangeOld
import Derived.Below
import Derived.SizedLaws
namespace Go.Proofs.Ytfjmlccolihpmaa
open Go Go.Sim Go.Pw Go.Proofs
set_option linter.unusedVariables false
set_option maxRecDepth 100000
theorem g3:okF fc3 Try.f3=true:=by kernel_rfl
theorem g9:okF fc9 Try.f9=true:=by kernel_rfl
theorem g10:okF fc10 Try.f10=true:=by kernel_rfl
theorem g11:okF fc11 Try.f11=true:=by kernel_rfl
theorem g12:okF fc12 Try.f12=true:=by kernel_rfl
theorem g13:okF fc13 Try.f13=true:=by kernel_rfl
theorem g14:okF fc14 Try.f14=true:=by kernel_rfl
theorem g15:okF fc15 Try.f15=true:=by kernel_rfl
theorem g49:okF fc49 Try.f49=true:=by kernel_rfl
theorem g50:okF fc50 Try.f50=true:=by kernel_rfl
theorem g51:okF fc51 Try.f51=true:=by kernel_rfl
theorem g52:okF fc52 Try.f52=true:=by kernel_rfl
theorem g53:okF fc53 Try.f53=true:=by kernel_rfl
theorem g54:okF fc54 Try.f54=true:=by kernel_rfl
theorem g55:okF fc55 Try.f55=true:=by kernel_rfl
theorem g56:okF fc56 Try.f56=true:=by kernel_rfl
theorem g57:okF fc57 Try.f57=true:=by kernel_rfl
theorem g58:okF fc58 Try.f58=true:=by kernel_rfl
theorem g59:okF fc59 Try.f59=true:=by kernel_rfl
theorem g60:okF fc60 Try.f60=true:=by kernel_rfl
theorem g63:okF fc63 Try.f63=true:=by kernel_rfl
theorem g65:okF fc65 Try.f65=true:=by kernel_rfl
theorem g73:okF fc73 Try.f73=true:=by kernel_rfl
theorem g79:okF fc79 Try.f79=true:=by kernel_rfl
theorem g95:okF fc95 Try.f95=true:=by kernel_rfl
theorem g96:okF fc96 Try.f96=true:=by kernel_rfl
theorem g97:okF fc97 Try.f97=true:=by kernel_rfl
theorem g98:okF fc98 Try.f98=true:=by kernel_rfl
theorem g99:okF fc99 Try.f99=true:=by kernel_rfl
theorem g100:okF fc100 Try.f100=true:=by kernel_rfl
theorem g101:okF fc101 Try.f101=true:=by kernel_rfl
theorem g102:okF fc102 Try.f102=true:=by kernel_rfl
theorem g103:okF fc103 Try.f103=true:=by kernel_rfl
theorem g104:okF fc104 Try.f104=true:=by kernel_rfl
theorem g105:okF fc105 Try.f105=true:=by kernel_rfl
theorem g106:okF fc106 Try.f106=true:=by kernel_rfl
theorem g107:okF fc107 Try.f107=true:=by kernel_rfl
theorem g108:okF fc108 Try.f108=true:=by kernel_rfl
theorem g109:okF fc109 Try.f109=true:=by kernel_rfl
theorem g110:okF fc110 Try.f110=true:=by kernel_rfl
theorem g111:okF fc111 Try.f111=true:=by kernel_rfl
theorem g112:okF fc112 Try.f112=true:=by kernel_rfl
theorem g113:okF fc113 Try.f113=true:=by kernel_rfl
theorem g114:okF fc114 Try.f114=true:=by kernel_rfl
theorem g115:okF fc115 Try.f115=true:=by kernel_rfl
theorem g116:okF fc116 Try.f116=true:=by kernel_rfl
theorem g117:okF fc117 Try.f117=true:=by kernel_rfl
theorem g118:okF fc118 Try.f118=true:=by kernel_rfl
theorem g127:okF fc127 Try.f127=true:=by kernel_rfl
theorem g128:okF fc128 Try.f128=true:=by kernel_rfl
theorem g142:okF fc142 Try.f142=true:=by kernel_rfl
theorem g143:okF fc143 Try.f143=true:=by kernel_rfl
theorem g144:okF fc144 Try.f144=true:=by kernel_rfl
theorem g145:okF fc145 Try.f145=true:=by kernel_rfl
theorem g146:okF fc146 Try.f146=true:=by kernel_rfl
theorem g147:okF fc147 Try.f147=true:=by kernel_rfl
theorem g148:okF fc148 Try.f148=true:=by kernel_rfl
theorem g149:okF fc149 Try.f149=true:=by kernel_rfl
theorem g150:okF fc150 Try.f150=true:=by kernel_rfl
theorem g151:okF fc151 Try.f151=true:=by kernel_rfl
theorem g152:okF fc152 Try.f152=true:=by kernel_rfl
theorem g153:okF fc153 Try.f153=true:=by kernel_rfl
theorem g154:okF fc154 Try.f154=true:=by kernel_rfl
theorem g155:okF fc155 Try.f155=true:=by kernel_rfl
theorem g156:okF fc156 Try.f156=true:=by kernel_rfl
theorem g157:okF fc157 Try.f157=true:=by kernel_rfl
theorem g160:okF fc160 Try.f160=true:=by kernel_rfl
theorem g161:okF fc161 Try.f161=true:=by kernel_rfl
theorem g165:okF fc165 Try.f165=true:=by kernel_rfl
theorem g175:okF fc175 Try.f175=true:=by kernel_rfl
theorem g176:okF fc176 Try.f176=true:=by kernel_rfl
theorem g177:okF fc177 Try.f177=true:=by kernel_rfl
theorem g178:okF fc178 Try.f178=true:=by kernel_rfl
theorem g179:okF fc179 Try.f179=true:=by kernel_rfl
theorem g201:okF fc201 Try.f201=true:=by kernel_rfl
theorem mixed:Try.prog.follows .mixedOrders=true:=by kernel_rfl
theorem wfu8 {n:Int} (h:(Lit.int .u8 n).wf=true):0≤n∧n≤255:=by
 have e1:IntKind.u8.max=255:=by decide
 have e2:IntKind.u8.min=0:=by decide
 simp [Lit.wf] at h
 omega
theorem cfgOK [Lim]:CfgOK Try.prog cfg:=by
 refine cfgOK_ext mixed ?_ fun f g hg=>?_
 ·unfold ons
  simp only [List.forall_mem_cons]
  exact ⟨⟨_,Try.func3,g3⟩,⟨_,Try.func9,g9⟩,⟨_,Try.func10,g10⟩,⟨_,Try.func11,g11⟩,⟨_,Try.func12,g12⟩,⟨_,Try.func13,g13⟩,⟨_,Try.func14,g14⟩,⟨_,Try.func15,g15⟩,⟨_,Try.func49,g49⟩,⟨_,Try.func50,g50⟩,⟨_,Try.func51,g51⟩,⟨_,Try.func52,g52⟩,⟨_,Try.func53,g53⟩,⟨_,Try.func54,g54⟩,⟨_,Try.func55,g55⟩,⟨_,Try.func56,g56⟩,⟨_,Try.func57,g57⟩,⟨_,Try.func58,g58⟩,⟨_,Try.func59,g59⟩,⟨_,Try.func60,g60⟩,⟨_,Try.func63,g63⟩,⟨_,Try.func65,g65⟩,⟨_,Try.func73,g73⟩,⟨_,Try.func79,g79⟩,⟨_,Try.func95,g95⟩,⟨_,Try.func96,g96⟩,⟨_,Try.func97,g97⟩,⟨_,Try.func98,g98⟩,⟨_,Try.func99,g99⟩,⟨_,Try.func100,g100⟩,⟨_,Try.func101,g101⟩,⟨_,Try.func102,g102⟩,⟨_,Try.func103,g103⟩,⟨_,Try.func104,g104⟩,⟨_,Try.func105,g105⟩,⟨_,Try.func106,g106⟩,⟨_,Try.func107,g107⟩,⟨_,Try.func108,g108⟩,⟨_,Try.func109,g109⟩,⟨_,Try.func110,g110⟩,⟨_,Try.func111,g111⟩,⟨_,Try.func112,g112⟩,⟨_,Try.func113,g113⟩,⟨_,Try.func114,g114⟩,⟨_,Try.func115,g115⟩,⟨_,Try.func116,g116⟩,⟨_,Try.func117,g117⟩,⟨_,Try.func118,g118⟩,⟨_,Try.func127,g127⟩,⟨_,Try.func128,g128⟩,⟨_,Try.func142,g142⟩,⟨_,Try.func143,g143⟩,⟨_,Try.func144,g144⟩,⟨_,Try.func145,g145⟩,⟨_,Try.func146,g146⟩,⟨_,Try.func147,g147⟩,⟨_,Try.func148,g148⟩,⟨_,Try.func149,g149⟩,⟨_,Try.func150,g150⟩,⟨_,Try.func151,g151⟩,⟨_,Try.func152,g152⟩,⟨_,Try.func153,g153⟩,⟨_,Try.func154,g154⟩,⟨_,Try.func155,g155⟩,⟨_,Try.func156,g156⟩,⟨_,Try.func157,g157⟩,⟨_,Try.func160,g160⟩,⟨_,Try.func161,g161⟩,⟨_,Try.func165,g165⟩,⟨_,Try.func175,g175⟩,⟨_,Try.func176,g176⟩,⟨_,Try.func177,g177⟩,⟨_,Try.func178,g178⟩,⟨_,Try.func179,g179⟩,⟨_,Try.func201,g201⟩,fun _ h=>by cases h⟩
 rcases look_cons hg with ⟨rfl,h⟩ | hg
 ·cases h
  exact clone_ext (cfg:=cfg) (fn:=Try.f131) mixed Try.func131 rfl rfl rfl rfl eF28 sF28 rfl uF28 rfl rfl rF131 rfl
 cases hg
theorem laid:laidOutB Try.prog=true:=by kernel_rfl
theorem rowed:mapsRowed Try.prog=true:=by kernel_rfl
theorem sized:slicesSized Try.prog=true:=by kernel_rfl
namespace fnAssembly
theorem own:ownKnob Try.prog.godebug=none:=by kernel_rfl
theorem lifted (os:Os) (started:os.Started) (H:Type) (enc:TypeId×Value→H):
 ReturnsInHanded {} Try.checked os 3 .any (Rows.fnAssemblySpec.pre6 enc Try.prog Try.f3 Rows.fnAssemblyRow.domain false) (Rows.fnAssemblySpec.post enc Try.prog Try.f3 false true false false):=by
 refine returnsInHanded_of_change_sized (C:=Try.checked) own started (by kernel_rfl) Try.func3
  (ChangeSpec.witness6 (enc:=enc) (C:=Try.checked) false ⟨#[],#[.slice none 0 0],[]⟩ 8 (by kernel_rfl) (by kernel_rfl) (by kernel_rfl) (by kernel_rfl)) ?_
 intro W base args ds gs before hval0 hW hcnd hsz0 _
 have hval:∀(j:Nat) t v,Try.f3.params[j]?=some t→args[j]?=some v→Value.okWide Try.prog W .any base t v:=hval0
 have hW':=hW
 obtain ⟨p,q,hA0,hV,rfl,hfz,hnd⟩:=hW
 have hA:DataW.TrodAll enc Try.prog W 0 (fun _=>true) true Try.f3.params.toList args.toList ds p:=hA0
 rw [Try.params3] at hA hval
 obtain ⟨v0,vs0,d0,ds0,p0,q0,hargs0,rfl,rfl,h0,r0⟩:=ChangeShapes.trodAll_cons hA
 obtain ⟨rfl,rfl,rfl⟩:=ChangeShapes.trodAll_nil r0
 obtain rfl:args=#[v0]:=by cases args;simp_all
 obtain ⟨rfl,rfl⟩:=ChangeShapes.trodVars_none hV
 obtain ⟨a0,k0,w0⟩:=arg_one (tt:=2) (opens_slice (e:=5) (sz:=1) (ee:=(eK .u8)) Try.underlying22 (by kernel_rfl) (by decide) (fun _=>rfl) (fun _=>rfl) (opens_int Try.underlying5)) (by rw [Try.underlying22]) (hval 0 22 v0 rfl rfl) h0
 refine (rowCalls cfgOK (L_laws_FnAssembly (law_Assembly a0 (fun x hx=>wfu8 (w0.1 x hx)))) (show ArgVs _ _ _ [v0] from (.cons k0 .nil))).mono fun e W' ⟨he,hio,_,hb⟩=>?_
 exact ⟨_,he,row_post Try.underlying4 rfl rfl hW' rfl (kids_rows laid rowed) sized (by decide) hio hb⟩
theorem and2 {a b:Bool} (h1:a=true) (h2:b=true):(a&&b)=true:=by rw [h1,h2];rfl
set_option maxHeartbeats 4000000 in
theorem closed:joinedFacts Try.prog 3 Try.f3 Rows.fnAssemblySpec Rows.fnAssemblyRow=true:=by
 unfold joinedFacts
 repeat' with_reducible refine and2 ?_ ?_
 all_goals (as_aux_lemma=>kernel_rfl)
theorem over:Rows.fnAssemblyRow.holds Try.pinned (OpenSpec.ofChange Rows.fnAssemblySpec):=
 OpenClaim.holds_of_wide 3 Try.f3 rfl rfl rfl rfl rfl rfl rfl ⟨rfl,rfl,rfl,rfl,rfl⟩ rfl rfl rfl rfl rfl (by kernel_rfl) Try.func3 closed
  (of_decide_eq_true (by kernel_rfl)) (by unfold Func.isWrapper;first | (rw [if_pos (by decide+kernel)];kernel_rfl) | (rw [if_neg (by decide+kernel)];exact ⟨rfl,rfl⟩))
  (fun os started H enc _=>lifted os started H enc)
theorem proved:Rows.FnAssemblySaid:=over
#print axioms proved
end fnAssembly
theorem fnAssembly_holds:Rows.FnAssemblySaid:=fnAssembly.proved
end Go.Proofs.Ytfjmlccolihpmaa
