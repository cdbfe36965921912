/- FnExactFirstAssembly: whatever the arguments, the law answers true, and the arguments read as they did. Conditions: none beyond those of the row. -/
import Derived.Test.YtfjmlccolihpmaaRows
import Derived.Test.YtfjmlccolihpmaaTfaL
import Derived.Test.YtfjmlccolihpmaaTfaP
import Derived.Test.YtfjmlccolihpmaaSimRk
import Derived.WalkKit
import Derived.ProofKit
import Derived.OpenShut
import Derived.ShutString
import Derived.ChangeOld
import Derived.Below
import Derived.SizedLaws
namespace Go.Proofs.Ytfjmlccolihpmaa
open Go Go.Sim Go.Pw Go.Proofs
set_option linter.unusedVariables false
set_option maxRecDepth 100000
theorem g7:okF fc7 Try.f7=true:=by kernel_rfl
theorem g10:okF fc10 Try.f10=true:=by kernel_rfl
theorem g37:okF fc37 Try.f37=true:=by kernel_rfl
theorem g38:okF fc38 Try.f38=true:=by kernel_rfl
theorem g39:okF fc39 Try.f39=true:=by kernel_rfl
theorem g40:okF fc40 Try.f40=true:=by kernel_rfl
theorem g41:okF fc41 Try.f41=true:=by kernel_rfl
theorem g42:okF fc42 Try.f42=true:=by kernel_rfl
theorem g43:okF fc43 Try.f43=true:=by kernel_rfl
theorem g44:okF fc44 Try.f44=true:=by kernel_rfl
theorem g51:okF fc51 Try.f51=true:=by kernel_rfl
theorem g53:okF fc53 Try.f53=true:=by kernel_rfl
theorem g54:okF fc54 Try.f54=true:=by kernel_rfl
theorem g55:okF fc55 Try.f55=true:=by kernel_rfl
theorem g56:okF fc56 Try.f56=true:=by kernel_rfl
theorem g58:okF fc58 Try.f58=true:=by kernel_rfl
theorem g59:okF fc59 Try.f59=true:=by kernel_rfl
theorem g60:okF fc60 Try.f60=true:=by kernel_rfl
theorem g63:okF fc63 Try.f63=true:=by kernel_rfl
theorem g65:okF fc65 Try.f65=true:=by kernel_rfl
theorem g69:okF fc69 Try.f69=true:=by kernel_rfl
theorem g79:okF fc79 Try.f79=true:=by kernel_rfl
theorem g82:okF fc82 Try.f82=true:=by kernel_rfl
theorem g83:okF fc83 Try.f83=true:=by kernel_rfl
theorem g84:okF fc84 Try.f84=true:=by kernel_rfl
theorem g85:okF fc85 Try.f85=true:=by kernel_rfl
theorem g86:okF fc86 Try.f86=true:=by kernel_rfl
theorem g87:okF fc87 Try.f87=true:=by kernel_rfl
theorem g88:okF fc88 Try.f88=true:=by kernel_rfl
theorem g89:okF fc89 Try.f89=true:=by kernel_rfl
theorem g90:okF fc90 Try.f90=true:=by kernel_rfl
theorem g94:okF fc94 Try.f94=true:=by kernel_rfl
theorem g97:okF fc97 Try.f97=true:=by kernel_rfl
theorem g98:okF fc98 Try.f98=true:=by kernel_rfl
theorem g99:okF fc99 Try.f99=true:=by kernel_rfl
theorem g100:okF fc100 Try.f100=true:=by kernel_rfl
theorem g101:okF fc101 Try.f101=true:=by kernel_rfl
theorem g104:okF fc104 Try.f104=true:=by kernel_rfl
theorem g105:okF fc105 Try.f105=true:=by kernel_rfl
theorem g106:okF fc106 Try.f106=true:=by kernel_rfl
theorem g107:okF fc107 Try.f107=true:=by kernel_rfl
theorem g108:okF fc108 Try.f108=true:=by kernel_rfl
theorem g109:okF fc109 Try.f109=true:=by kernel_rfl
theorem g110:okF fc110 Try.f110=true:=by kernel_rfl
theorem g111:okF fc111 Try.f111=true:=by kernel_rfl
theorem g112:okF fc112 Try.f112=true:=by kernel_rfl
theorem g113:okF fc113 Try.f113=true:=by kernel_rfl
theorem g114:okF fc114 Try.f114=true:=by kernel_rfl
theorem g115:okF fc115 Try.f115=true:=by kernel_rfl
theorem g116:okF fc116 Try.f116=true:=by kernel_rfl
theorem g117:okF fc117 Try.f117=true:=by kernel_rfl
theorem g135:okF fc135 Try.f135=true:=by kernel_rfl
theorem g136:okF fc136 Try.f136=true:=by kernel_rfl
theorem g137:okF fc137 Try.f137=true:=by kernel_rfl
theorem g138:okF fc138 Try.f138=true:=by kernel_rfl
theorem g139:okF fc139 Try.f139=true:=by kernel_rfl
theorem g140:okF fc140 Try.f140=true:=by kernel_rfl
theorem g141:okF fc141 Try.f141=true:=by kernel_rfl
theorem g142:okF fc142 Try.f142=true:=by kernel_rfl
theorem g143:okF fc143 Try.f143=true:=by kernel_rfl
theorem g144:okF fc144 Try.f144=true:=by kernel_rfl
theorem g145:okF fc145 Try.f145=true:=by kernel_rfl
theorem g146:okF fc146 Try.f146=true:=by kernel_rfl
theorem g147:okF fc147 Try.f147=true:=by kernel_rfl
theorem g149:okF fc149 Try.f149=true:=by kernel_rfl
theorem g150:okF fc150 Try.f150=true:=by kernel_rfl
theorem g151:okF fc151 Try.f151=true:=by kernel_rfl
theorem g152:okF fc152 Try.f152=true:=by kernel_rfl
theorem g153:okF fc153 Try.f153=true:=by kernel_rfl
theorem g154:okF fc154 Try.f154=true:=by kernel_rfl
theorem g155:okF fc155 Try.f155=true:=by kernel_rfl
theorem g156:okF fc156 Try.f156=true:=by kernel_rfl
theorem g160:okF fc160 Try.f160=true:=by kernel_rfl
theorem g161:okF fc161 Try.f161=true:=by kernel_rfl
theorem g163:okF fc163 Try.f163=true:=by kernel_rfl
theorem g171:okF fc171 Try.f171=true:=by kernel_rfl
theorem g172:okF fc172 Try.f172=true:=by kernel_rfl
theorem g173:okF fc173 Try.f173=true:=by kernel_rfl
theorem g174:okF fc174 Try.f174=true:=by kernel_rfl
theorem g175:okF fc175 Try.f175=true:=by kernel_rfl
theorem g176:okF fc176 Try.f176=true:=by kernel_rfl
theorem g177:okF fc177 Try.f177=true:=by kernel_rfl
theorem g178:okF fc178 Try.f178=true:=by kernel_rfl
theorem g179:okF fc179 Try.f179=true:=by kernel_rfl
theorem g182:okF fc182 Try.f182=true:=by kernel_rfl
theorem g197:okF fc197 Try.f197=true:=by kernel_rfl
theorem g198:okF fc198 Try.f198=true:=by kernel_rfl
theorem g199:okF fc199 Try.f199=true:=by kernel_rfl
theorem g200:okF fc200 Try.f200=true:=by kernel_rfl
theorem g201:okF fc201 Try.f201=true:=by kernel_rfl
theorem g210:okF fc210 Try.f210=true:=by kernel_rfl
theorem g211:okF fc211 Try.f211=true:=by kernel_rfl
theorem mixed:Try.prog.follows .mixedOrders=true:=by kernel_rfl
theorem cfgOK [Lim]:CfgOK Try.prog cfg:=by
 refine cfgOK_ext mixed ?_ fun f g hg=>?_
 ·unfold ons
  simp only [List.forall_mem_cons]
  exact ⟨⟨_,Try.func7,g7⟩,⟨_,Try.func10,g10⟩,⟨_,Try.func37,g37⟩,⟨_,Try.func38,g38⟩,⟨_,Try.func39,g39⟩,⟨_,Try.func40,g40⟩,⟨_,Try.func41,g41⟩,⟨_,Try.func42,g42⟩,⟨_,Try.func43,g43⟩,⟨_,Try.func44,g44⟩,⟨_,Try.func51,g51⟩,⟨_,Try.func53,g53⟩,⟨_,Try.func54,g54⟩,⟨_,Try.func55,g55⟩,⟨_,Try.func56,g56⟩,⟨_,Try.func58,g58⟩,⟨_,Try.func59,g59⟩,⟨_,Try.func60,g60⟩,⟨_,Try.func63,g63⟩,⟨_,Try.func65,g65⟩,⟨_,Try.func69,g69⟩,⟨_,Try.func79,g79⟩,⟨_,Try.func82,g82⟩,⟨_,Try.func83,g83⟩,⟨_,Try.func84,g84⟩,⟨_,Try.func85,g85⟩,⟨_,Try.func86,g86⟩,⟨_,Try.func87,g87⟩,⟨_,Try.func88,g88⟩,⟨_,Try.func89,g89⟩,⟨_,Try.func90,g90⟩,⟨_,Try.func94,g94⟩,⟨_,Try.func97,g97⟩,⟨_,Try.func98,g98⟩,⟨_,Try.func99,g99⟩,⟨_,Try.func100,g100⟩,⟨_,Try.func101,g101⟩,⟨_,Try.func104,g104⟩,⟨_,Try.func105,g105⟩,⟨_,Try.func106,g106⟩,⟨_,Try.func107,g107⟩,⟨_,Try.func108,g108⟩,⟨_,Try.func109,g109⟩,⟨_,Try.func110,g110⟩,⟨_,Try.func111,g111⟩,⟨_,Try.func112,g112⟩,⟨_,Try.func113,g113⟩,⟨_,Try.func114,g114⟩,⟨_,Try.func115,g115⟩,⟨_,Try.func116,g116⟩,⟨_,Try.func117,g117⟩,⟨_,Try.func135,g135⟩,⟨_,Try.func136,g136⟩,⟨_,Try.func137,g137⟩,⟨_,Try.func138,g138⟩,⟨_,Try.func139,g139⟩,⟨_,Try.func140,g140⟩,⟨_,Try.func141,g141⟩,⟨_,Try.func142,g142⟩,⟨_,Try.func143,g143⟩,⟨_,Try.func144,g144⟩,⟨_,Try.func145,g145⟩,⟨_,Try.func146,g146⟩,⟨_,Try.func147,g147⟩,⟨_,Try.func149,g149⟩,⟨_,Try.func150,g150⟩,⟨_,Try.func151,g151⟩,⟨_,Try.func152,g152⟩,⟨_,Try.func153,g153⟩,⟨_,Try.func154,g154⟩,⟨_,Try.func155,g155⟩,⟨_,Try.func156,g156⟩,⟨_,Try.func160,g160⟩,⟨_,Try.func161,g161⟩,⟨_,Try.func163,g163⟩,⟨_,Try.func171,g171⟩,⟨_,Try.func172,g172⟩,⟨_,Try.func173,g173⟩,⟨_,Try.func174,g174⟩,⟨_,Try.func175,g175⟩,⟨_,Try.func176,g176⟩,⟨_,Try.func177,g177⟩,⟨_,Try.func178,g178⟩,⟨_,Try.func179,g179⟩,⟨_,Try.func182,g182⟩,⟨_,Try.func197,g197⟩,⟨_,Try.func198,g198⟩,⟨_,Try.func199,g199⟩,⟨_,Try.func200,g200⟩,⟨_,Try.func201,g201⟩,⟨_,Try.func210,g210⟩,⟨_,Try.func211,g211⟩,fun _ h=>by cases h⟩
 rcases look_cons hg with ⟨rfl,h⟩ | hg
 ·cases h
  exact clone_ext (cfg:=cfg) (fn:=Try.f131) mixed Try.func131 rfl rfl rfl rfl eF28 sF28 rfl uF28 rfl rfl rF131 rfl
 cases hg
theorem laid:laidOutB Try.prog=true:=by kernel_rfl
theorem rowed:mapsRowed Try.prog=true:=by kernel_rfl
theorem sized:slicesSized Try.prog=true:=by kernel_rfl
def ok_S_Point (x:S_Point):Prop:=(Lit.int .i64 x.X).wf=true∧(Lit.int .i64 x.Y).wf=true
theorem o179:Opens Try.prog 179 (fun x:S_Point=>(e_S_Point x).cells) ok_S_Point:=
 opens_map (fun p:Int×Int×Unit=>⟨p.1,p.2.1⟩)
  (opens_struct Try.underlying179 (by kernel_rfl) (opensF_cons (s:=1) (by kernel_rfl) rfl (opens_int Try.underlying2) (opensF_cons (s:=1) (by kernel_rfl) rfl (opens_int Try.underlying2) opensF_nil)))
  (fun _=>rfl) (fun _ h=>⟨h.1,h.2.1⟩)
def ok_S_Face (x:S_Face):Prop:=x.Name.size≤maxLen∧((∀a∈x.Ring,(Lit.int .i64 a).wf=true)∧x.Ring.length≤maxLen)
theorem o176:Opens Try.prog 176 (fun x:S_Face=>(e_S_Face x).cells) ok_S_Face:=
 opens_map (fun p:ByteArray×(List Int)×Unit=>⟨p.1,p.2.1⟩)
  (opens_struct Try.underlying176 (by kernel_rfl) (opensF_cons (s:=1) (by kernel_rfl) rfl (opens_string Try.underlying9) (opensF_cons (s:=1) (by kernel_rfl) rfl (opens_slice (e:=2) (sz:=1) (ee:=eI) Try.underlying28 (by kernel_rfl) (by decide) (fun _=>rfl) (fun _=>rfl) (opens_int Try.underlying2)) opensF_nil)))
  (fun _=>rfl) (fun _ h=>⟨h.1,h.2.1⟩)
def ok_S_Drawing (x:S_Drawing):Prop:=(Lit.int .i64 x.Width).wf=true∧(Lit.int .i64 x.Height).wf=true∧((∀a∈x.Points,ok_S_Point a)∧x.Points.length≤maxLen)∧((∀a∈x.Faces,ok_S_Face a)∧x.Faces.length≤maxLen)
theorem o63:Opens Try.prog 63 (fun x:S_Drawing=>(e_S_Drawing x).cells) ok_S_Drawing:=
 opens_map (fun p:Int×Int×(List S_Point)×(List S_Face)×Unit=>⟨p.1,p.2.1,p.2.2.1,p.2.2.2.1⟩)
  (opens_struct Try.underlying63 (by kernel_rfl) (opensF_cons (s:=1) (by kernel_rfl) rfl (opens_int Try.underlying2) (opensF_cons (s:=1) (by kernel_rfl) rfl (opens_int Try.underlying2) (opensF_cons (s:=1) (by kernel_rfl) rfl (opens_slice (e:=179) (sz:=2) (ee:=e_S_Point) Try.underlying60 (by kernel_rfl) (by decide) (fun _=>rfl) (fun _=>rfl) o179) (opensF_cons (s:=1) (by kernel_rfl) rfl (opens_slice (e:=176) (sz:=2) (ee:=e_S_Face) Try.underlying61 (by kernel_rfl) (by decide) (fun _=>rfl) (fun _=>rfl) o176) opensF_nil)))))
  (fun _=>rfl) (fun _ h=>⟨h.1,h.2.1,h.2.2.1,h.2.2.2.1⟩)
namespace fnExactFirstAssembly
theorem own:ownKnob Try.prog.godebug=none:=by kernel_rfl
theorem lifted (os:Os) (started:os.Started) (H:Type) (enc:TypeId×Value→H):
 ReturnsInHanded {} Try.checked os 7 .any (Rows.fnExactFirstAssemblySpec.pre6 enc Try.prog Try.f7 Rows.fnExactFirstAssemblyRow.domain false) (Rows.fnExactFirstAssemblySpec.post enc Try.prog Try.f7 false true false false):=by
 refine returnsInHanded_of_change_sized (C:=Try.checked) own started (by kernel_rfl) Try.func7
  (ChangeSpec.witness6 (enc:=enc) (C:=Try.checked) false ⟨#[],#[.agg #[.int .i64 0,.int .i64 0,.slice none 0 0,.slice none 0 0],.int .i64 0],[]⟩ 8 (by kernel_rfl) (by kernel_rfl) (by kernel_rfl) (by kernel_rfl)) ?_
 intro W base args ds gs before hval0 hW hcnd hsz0 _
 have hval:∀(j:Nat) t v,Try.f7.params[j]?=some t→args[j]?=some v→Value.okWide Try.prog W .any base t v:=hval0
 have hW':=hW
 obtain ⟨p,q,hA0,hV,rfl,hfz,hnd⟩:=hW
 have hA:DataW.TrodAll enc Try.prog W 0 (fun _=>true) true Try.f7.params.toList args.toList ds p:=hA0
 rw [Try.params7] at hA hval
 obtain ⟨v0,vs0,d0,ds0,p0,q0,hargs0,rfl,rfl,h0,r0⟩:=ChangeShapes.trodAll_cons hA
 clear hA0
 obtain ⟨v1,vs1,d1,ds1,p1,q1,hargs1,rfl,rfl,h1,r1⟩:=ChangeShapes.trodAll_cons r0
 obtain ⟨rfl,rfl,rfl⟩:=ChangeShapes.trodAll_nil r1
 subst hargs1
 obtain rfl:args=#[v0,v1]:=by cases args;simp_all
 obtain ⟨rfl,rfl⟩:=ChangeShapes.trodVars_none hV
 obtain ⟨a0,k0,w0⟩:=arg_agg (tt:=2) o63 Try.underlying63 (hval 0 63 v0 rfl rfl) h0
 obtain ⟨a1,k1,w1⟩:=arg_one (tt:=2) (opens_int Try.underlying2) (by rw [Try.underlying2]) (hval 1 2 v1 rfl rfl) h1
 refine (rowCalls cfgOK (L_laws_FnExactFirstAssembly (law_FirstAssembly a0 a1 w0)) (show ArgVs _ _ _ [v0,v1] from (.cons k0 (.cons k1 .nil)))).mono fun e W' ⟨he,hio,_,hb⟩=>?_
 exact ⟨_,he,row_post Try.underlying4 rfl rfl hW' rfl (kids_rows laid rowed) sized (by decide) hio hb⟩
theorem and2 {a b:Bool} (h1:a=true) (h2:b=true):(a&&b)=true:=by rw [h1,h2];rfl
set_option maxHeartbeats 4000000 in
theorem closed:joinedFacts Try.prog 7 Try.f7 Rows.fnExactFirstAssemblySpec Rows.fnExactFirstAssemblyRow=true:=by
 unfold joinedFacts
 repeat' with_reducible refine and2 ?_ ?_
 all_goals (as_aux_lemma=>kernel_rfl)
theorem over:Rows.fnExactFirstAssemblyRow.holds Try.pinned (OpenSpec.ofChange Rows.fnExactFirstAssemblySpec):=
 OpenClaim.holds_of_wide 7 Try.f7 rfl rfl rfl rfl rfl rfl rfl ⟨rfl,rfl,rfl,rfl,rfl⟩ rfl rfl rfl rfl rfl (by kernel_rfl) Try.func7 closed
  (of_decide_eq_true (by kernel_rfl)) (by unfold Func.isWrapper;first | (rw [if_pos (by decide+kernel)];kernel_rfl) | (rw [if_neg (by decide+kernel)];exact ⟨rfl,rfl⟩))
  (fun os started H enc _=>lifted os started H enc)
theorem proved:Rows.FnExactFirstAssemblySaid:=over
#print axioms proved
end fnExactFirstAssembly
theorem fnExactFirstAssembly_holds:Rows.FnExactFirstAssemblySaid:=fnExactFirstAssembly.proved
end Go.Proofs.Ytfjmlccolihpmaa
