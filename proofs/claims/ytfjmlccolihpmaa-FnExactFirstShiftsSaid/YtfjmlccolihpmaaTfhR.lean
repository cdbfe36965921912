/- FnExactFirstShifts: whatever the arguments, the law answers true, and the arguments read as they did. Conditions: none beyond those of the row. -/
import Derived.Test.YtfjmlccolihpmaaRows
import Derived.Test.YtfjmlccolihpmaaTfhL
import Derived.Test.YtfjmlccolihpmaaTfhP
import Derived.Test.YtfjmlccolihpmaaSimRk
import Derived.WalkKit
import Derived.ProofKit
import Derived.OpenShut
import Derived.ShutString
import Derived.ChangeOld
import Derived.Below
import Derived.SizedLaws
namespace Go.Proofs.Ytfjmlccolihpmaa
open Go Go.Sim Go.Pw Go.Proofs
set_option linter.unusedVariables false
set_option maxRecDepth 100000
theorem g8:okF fc8 Try.f8=true:=by kernel_rfl
theorem g24:okF fc24 Try.f24=true:=by kernel_rfl
theorem g25:okF fc25 Try.f25=true:=by kernel_rfl
theorem g37:okF fc37 Try.f37=true:=by kernel_rfl
theorem g39:okF fc39 Try.f39=true:=by kernel_rfl
theorem g40:okF fc40 Try.f40=true:=by kernel_rfl
theorem g41:okF fc41 Try.f41=true:=by kernel_rfl
theorem g42:okF fc42 Try.f42=true:=by kernel_rfl
theorem g43:okF fc43 Try.f43=true:=by kernel_rfl
theorem g44:okF fc44 Try.f44=true:=by kernel_rfl
theorem g45:okF fc45 Try.f45=true:=by kernel_rfl
theorem g46:okF fc46 Try.f46=true:=by kernel_rfl
theorem g47:okF fc47 Try.f47=true:=by kernel_rfl
theorem g48:okF fc48 Try.f48=true:=by kernel_rfl
theorem g51:okF fc51 Try.f51=true:=by kernel_rfl
theorem g54:okF fc54 Try.f54=true:=by kernel_rfl
theorem g63:okF fc63 Try.f63=true:=by kernel_rfl
theorem g67:okF fc67 Try.f67=true:=by kernel_rfl
theorem g68:okF fc68 Try.f68=true:=by kernel_rfl
theorem g69:okF fc69 Try.f69=true:=by kernel_rfl
theorem g71:okF fc71 Try.f71=true:=by kernel_rfl
theorem g79:okF fc79 Try.f79=true:=by kernel_rfl
theorem g80:okF fc80 Try.f80=true:=by kernel_rfl
theorem g82:okF fc82 Try.f82=true:=by kernel_rfl
theorem g83:okF fc83 Try.f83=true:=by kernel_rfl
theorem g85:okF fc85 Try.f85=true:=by kernel_rfl
theorem g86:okF fc86 Try.f86=true:=by kernel_rfl
theorem g87:okF fc87 Try.f87=true:=by kernel_rfl
theorem g88:okF fc88 Try.f88=true:=by kernel_rfl
theorem g89:okF fc89 Try.f89=true:=by kernel_rfl
theorem g90:okF fc90 Try.f90=true:=by kernel_rfl
theorem g91:okF fc91 Try.f91=true:=by kernel_rfl
theorem g92:okF fc92 Try.f92=true:=by kernel_rfl
theorem g93:okF fc93 Try.f93=true:=by kernel_rfl
theorem g94:okF fc94 Try.f94=true:=by kernel_rfl
theorem g97:okF fc97 Try.f97=true:=by kernel_rfl
theorem g98:okF fc98 Try.f98=true:=by kernel_rfl
theorem g99:okF fc99 Try.f99=true:=by kernel_rfl
theorem g100:okF fc100 Try.f100=true:=by kernel_rfl
theorem g101:okF fc101 Try.f101=true:=by kernel_rfl
theorem g105:okF fc105 Try.f105=true:=by kernel_rfl
theorem g106:okF fc106 Try.f106=true:=by kernel_rfl
theorem g107:okF fc107 Try.f107=true:=by kernel_rfl
theorem g108:okF fc108 Try.f108=true:=by kernel_rfl
theorem g113:okF fc113 Try.f113=true:=by kernel_rfl
theorem g114:okF fc114 Try.f114=true:=by kernel_rfl
theorem g115:okF fc115 Try.f115=true:=by kernel_rfl
theorem g116:okF fc116 Try.f116=true:=by kernel_rfl
theorem g120:okF fc120 Try.f120=true:=by kernel_rfl
theorem g121:okF fc121 Try.f121=true:=by kernel_rfl
theorem g122:okF fc122 Try.f122=true:=by kernel_rfl
theorem g123:okF fc123 Try.f123=true:=by kernel_rfl
theorem g124:okF fc124 Try.f124=true:=by kernel_rfl
theorem g130:okF fc130 Try.f130=true:=by kernel_rfl
theorem g134:okF fc134 Try.f134=true:=by kernel_rfl
theorem g135:okF fc135 Try.f135=true:=by kernel_rfl
theorem g138:okF fc138 Try.f138=true:=by kernel_rfl
theorem g139:okF fc139 Try.f139=true:=by kernel_rfl
theorem g140:okF fc140 Try.f140=true:=by kernel_rfl
theorem g141:okF fc141 Try.f141=true:=by kernel_rfl
theorem g142:okF fc142 Try.f142=true:=by kernel_rfl
theorem g143:okF fc143 Try.f143=true:=by kernel_rfl
theorem g144:okF fc144 Try.f144=true:=by kernel_rfl
theorem g145:okF fc145 Try.f145=true:=by kernel_rfl
theorem g146:okF fc146 Try.f146=true:=by kernel_rfl
theorem g147:okF fc147 Try.f147=true:=by kernel_rfl
theorem g149:okF fc149 Try.f149=true:=by kernel_rfl
theorem g150:okF fc150 Try.f150=true:=by kernel_rfl
theorem g151:okF fc151 Try.f151=true:=by kernel_rfl
theorem g152:okF fc152 Try.f152=true:=by kernel_rfl
theorem g153:okF fc153 Try.f153=true:=by kernel_rfl
theorem g155:okF fc155 Try.f155=true:=by kernel_rfl
theorem g156:okF fc156 Try.f156=true:=by kernel_rfl
theorem g158:okF fc158 Try.f158=true:=by kernel_rfl
theorem g159:okF fc159 Try.f159=true:=by kernel_rfl
theorem g160:okF fc160 Try.f160=true:=by kernel_rfl
theorem g161:okF fc161 Try.f161=true:=by kernel_rfl
theorem g162:okF fc162 Try.f162=true:=by kernel_rfl
theorem g163:okF fc163 Try.f163=true:=by kernel_rfl
theorem g164:okF fc164 Try.f164=true:=by kernel_rfl
theorem g166:okF fc166 Try.f166=true:=by kernel_rfl
theorem g167:okF fc167 Try.f167=true:=by kernel_rfl
theorem g168:okF fc168 Try.f168=true:=by kernel_rfl
theorem g171:okF fc171 Try.f171=true:=by kernel_rfl
theorem g174:okF fc174 Try.f174=true:=by kernel_rfl
theorem g175:okF fc175 Try.f175=true:=by kernel_rfl
theorem g176:okF fc176 Try.f176=true:=by kernel_rfl
theorem g177:okF fc177 Try.f177=true:=by kernel_rfl
theorem g178:okF fc178 Try.f178=true:=by kernel_rfl
theorem g179:okF fc179 Try.f179=true:=by kernel_rfl
theorem g180:okF fc180 Try.f180=true:=by kernel_rfl
theorem g181:okF fc181 Try.f181=true:=by kernel_rfl
theorem g182:okF fc182 Try.f182=true:=by kernel_rfl
theorem g183:okF fc183 Try.f183=true:=by kernel_rfl
theorem g184:okF fc184 Try.f184=true:=by kernel_rfl
theorem g185:okF fc185 Try.f185=true:=by kernel_rfl
theorem g201:okF fc201 Try.f201=true:=by kernel_rfl
theorem g202:okF fc202 Try.f202=true:=by kernel_rfl
theorem g203:okF fc203 Try.f203=true:=by kernel_rfl
theorem g212:okF fc212 Try.f212=true:=by kernel_rfl
theorem mixed:Try.prog.follows .mixedOrders=true:=by kernel_rfl
theorem cfgOK [Lim]:CfgOK Try.prog cfg:=by
 refine cfgOK_ext mixed ?_ fun f g hg=>?_
 ·unfold ons
  simp only [List.forall_mem_cons]
  exact ⟨⟨_,Try.func8,g8⟩,⟨_,Try.func24,g24⟩,⟨_,Try.func25,g25⟩,⟨_,Try.func37,g37⟩,⟨_,Try.func39,g39⟩,⟨_,Try.func40,g40⟩,⟨_,Try.func41,g41⟩,⟨_,Try.func42,g42⟩,⟨_,Try.func43,g43⟩,⟨_,Try.func44,g44⟩,⟨_,Try.func45,g45⟩,⟨_,Try.func46,g46⟩,⟨_,Try.func47,g47⟩,⟨_,Try.func48,g48⟩,⟨_,Try.func51,g51⟩,⟨_,Try.func54,g54⟩,⟨_,Try.func63,g63⟩,⟨_,Try.func67,g67⟩,⟨_,Try.func68,g68⟩,⟨_,Try.func69,g69⟩,⟨_,Try.func71,g71⟩,⟨_,Try.func79,g79⟩,⟨_,Try.func80,g80⟩,⟨_,Try.func82,g82⟩,⟨_,Try.func83,g83⟩,⟨_,Try.func85,g85⟩,⟨_,Try.func86,g86⟩,⟨_,Try.func87,g87⟩,⟨_,Try.func88,g88⟩,⟨_,Try.func89,g89⟩,⟨_,Try.func90,g90⟩,⟨_,Try.func91,g91⟩,⟨_,Try.func92,g92⟩,⟨_,Try.func93,g93⟩,⟨_,Try.func94,g94⟩,⟨_,Try.func97,g97⟩,⟨_,Try.func98,g98⟩,⟨_,Try.func99,g99⟩,⟨_,Try.func100,g100⟩,⟨_,Try.func101,g101⟩,⟨_,Try.func105,g105⟩,⟨_,Try.func106,g106⟩,⟨_,Try.func107,g107⟩,⟨_,Try.func108,g108⟩,⟨_,Try.func113,g113⟩,⟨_,Try.func114,g114⟩,⟨_,Try.func115,g115⟩,⟨_,Try.func116,g116⟩,⟨_,Try.func120,g120⟩,⟨_,Try.func121,g121⟩,⟨_,Try.func122,g122⟩,⟨_,Try.func123,g123⟩,⟨_,Try.func124,g124⟩,⟨_,Try.func130,g130⟩,⟨_,Try.func134,g134⟩,⟨_,Try.func135,g135⟩,⟨_,Try.func138,g138⟩,⟨_,Try.func139,g139⟩,⟨_,Try.func140,g140⟩,⟨_,Try.func141,g141⟩,⟨_,Try.func142,g142⟩,⟨_,Try.func143,g143⟩,⟨_,Try.func144,g144⟩,⟨_,Try.func145,g145⟩,⟨_,Try.func146,g146⟩,⟨_,Try.func147,g147⟩,⟨_,Try.func149,g149⟩,⟨_,Try.func150,g150⟩,⟨_,Try.func151,g151⟩,⟨_,Try.func152,g152⟩,⟨_,Try.func153,g153⟩,⟨_,Try.func155,g155⟩,⟨_,Try.func156,g156⟩,⟨_,Try.func158,g158⟩,⟨_,Try.func159,g159⟩,⟨_,Try.func160,g160⟩,⟨_,Try.func161,g161⟩,⟨_,Try.func162,g162⟩,⟨_,Try.func163,g163⟩,⟨_,Try.func164,g164⟩,⟨_,Try.func166,g166⟩,⟨_,Try.func167,g167⟩,⟨_,Try.func168,g168⟩,⟨_,Try.func171,g171⟩,⟨_,Try.func174,g174⟩,⟨_,Try.func175,g175⟩,⟨_,Try.func176,g176⟩,⟨_,Try.func177,g177⟩,⟨_,Try.func178,g178⟩,⟨_,Try.func179,g179⟩,⟨_,Try.func180,g180⟩,⟨_,Try.func181,g181⟩,⟨_,Try.func182,g182⟩,⟨_,Try.func183,g183⟩,⟨_,Try.func184,g184⟩,⟨_,Try.func185,g185⟩,⟨_,Try.func201,g201⟩,⟨_,Try.func202,g202⟩,⟨_,Try.func203,g203⟩,⟨_,Try.func212,g212⟩,fun _ h=>by cases h⟩
 rcases look_cons hg with ⟨rfl,h⟩ | hg
 ·cases h
  exact clone_ext (cfg:=cfg) (fn:=Try.f131) mixed Try.func131 rfl rfl rfl rfl eF28 sF28 rfl uF28 rfl rfl rF131 rfl
 cases hg
theorem laid:laidOutB Try.prog=true:=by kernel_rfl
theorem rowed:mapsRowed Try.prog=true:=by kernel_rfl
theorem sized:slicesSized Try.prog=true:=by kernel_rfl
def ok_S_Point (x:S_Point):Prop:=(Lit.int .i64 x.X).wf=true∧(Lit.int .i64 x.Y).wf=true
theorem o179:Opens Try.prog 179 (fun x:S_Point=>(e_S_Point x).cells) ok_S_Point:=
 opens_map (fun p:Int×Int×Unit=>⟨p.1,p.2.1⟩)
  (opens_struct Try.underlying179 (by kernel_rfl) (opensF_cons (s:=1) (by kernel_rfl) rfl (opens_int Try.underlying2) (opensF_cons (s:=1) (by kernel_rfl) rfl (opens_int Try.underlying2) opensF_nil)))
  (fun _=>rfl) (fun _ h=>⟨h.1,h.2.1⟩)
def ok_S_Face (x:S_Face):Prop:=x.Name.size≤maxLen∧((∀a∈x.Ring,(Lit.int .i64 a).wf=true)∧x.Ring.length≤maxLen)
theorem o176:Opens Try.prog 176 (fun x:S_Face=>(e_S_Face x).cells) ok_S_Face:=
 opens_map (fun p:ByteArray×(List Int)×Unit=>⟨p.1,p.2.1⟩)
  (opens_struct Try.underlying176 (by kernel_rfl) (opensF_cons (s:=1) (by kernel_rfl) rfl (opens_string Try.underlying9) (opensF_cons (s:=1) (by kernel_rfl) rfl (opens_slice (e:=2) (sz:=1) (ee:=eI) Try.underlying28 (by kernel_rfl) (by decide) (fun _=>rfl) (fun _=>rfl) (opens_int Try.underlying2)) opensF_nil)))
  (fun _=>rfl) (fun _ h=>⟨h.1,h.2.1⟩)
def ok_S_Drawing (x:S_Drawing):Prop:=(Lit.int .i64 x.Width).wf=true∧(Lit.int .i64 x.Height).wf=true∧((∀a∈x.Points,ok_S_Point a)∧x.Points.length≤maxLen)∧((∀a∈x.Faces,ok_S_Face a)∧x.Faces.length≤maxLen)
theorem o63:Opens Try.prog 63 (fun x:S_Drawing=>(e_S_Drawing x).cells) ok_S_Drawing:=
 opens_map (fun p:Int×Int×(List S_Point)×(List S_Face)×Unit=>⟨p.1,p.2.1,p.2.2.1,p.2.2.2.1⟩)
  (opens_struct Try.underlying63 (by kernel_rfl) (opensF_cons (s:=1) (by kernel_rfl) rfl (opens_int Try.underlying2) (opensF_cons (s:=1) (by kernel_rfl) rfl (opens_int Try.underlying2) (opensF_cons (s:=1) (by kernel_rfl) rfl (opens_slice (e:=179) (sz:=2) (ee:=e_S_Point) Try.underlying60 (by kernel_rfl) (by decide) (fun _=>rfl) (fun _=>rfl) o179) (opensF_cons (s:=1) (by kernel_rfl) rfl (opens_slice (e:=176) (sz:=2) (ee:=e_S_Face) Try.underlying61 (by kernel_rfl) (by decide) (fun _=>rfl) (fun _=>rfl) o176) opensF_nil)))))
  (fun _=>rfl) (fun _ h=>⟨h.1,h.2.1,h.2.2.1,h.2.2.2.1⟩)
def ok_S_Veneer (x:S_Veneer):Prop:=x.Species.size≤maxLen∧(Lit.int .i64 x.Shade).wf=true∧(Lit.int .i64 x.Grain).wf=true
theorem o139:Opens Try.prog 139 (fun x:S_Veneer=>(e_S_Veneer x).cells) ok_S_Veneer:=
 opens_map (fun p:ByteArray×Int×Int×Unit=>⟨p.1,p.2.1,p.2.2.1⟩)
  (opens_struct Try.underlying139 (by kernel_rfl) (opensF_cons (s:=1) (by kernel_rfl) rfl (opens_string Try.underlying9) (opensF_cons (s:=1) (by kernel_rfl) rfl (opens_int Try.underlying2) (opensF_cons (s:=1) (by kernel_rfl) rfl (opens_int Try.underlying2) opensF_nil))))
  (fun _=>rfl) (fun _ h=>⟨h.1,h.2.1,h.2.2.1⟩)
namespace fnExactFirstShifts
theorem own:ownKnob Try.prog.godebug=none:=by kernel_rfl
theorem lifted (os:Os) (started:os.Started) (H:Type) (enc:TypeId×Value→H):
 ReturnsInHanded {} Try.checked os 8 .any (Rows.fnExactFirstShiftsSpec.pre6 enc Try.prog Try.f8 Rows.fnExactFirstShiftsRow.domain false) (Rows.fnExactFirstShiftsSpec.post enc Try.prog Try.f8 false true false false):=by
 refine returnsInHanded_of_change_sized (C:=Try.checked) own started (by kernel_rfl) Try.func8
  (ChangeSpec.witness6 (enc:=enc) (C:=Try.checked) false ⟨#[],#[.agg #[.int .i64 0,.int .i64 0,.slice none 0 0,.slice none 0 0],.slice none 0 0,.int .i64 0,.int .i64 0],[]⟩ 8 (by kernel_rfl) (by kernel_rfl) (by kernel_rfl) (by kernel_rfl)) ?_
 intro W base args ds gs before hval0 hW hcnd hsz0 _
 have hval:∀(j:Nat) t v,Try.f8.params[j]?=some t→args[j]?=some v→Value.okWide Try.prog W .any base t v:=hval0
 have hW':=hW
 obtain ⟨p,q,hA0,hV,rfl,hfz,hnd⟩:=hW
 have hA:DataW.TrodAll enc Try.prog W 0 (fun _=>true) true Try.f8.params.toList args.toList ds p:=hA0
 rw [Try.params8] at hA hval
 obtain ⟨v0,vs0,d0,ds0,p0,q0,hargs0,rfl,rfl,h0,r0⟩:=ChangeShapes.trodAll_cons hA
 clear hA0
 obtain ⟨v1,vs1,d1,ds1,p1,q1,hargs1,rfl,rfl,h1,r1⟩:=ChangeShapes.trodAll_cons r0
 subst hargs1
 obtain ⟨v2,vs2,d2,ds2,p2,q2,hargs2,rfl,rfl,h2,r2⟩:=ChangeShapes.trodAll_cons r1
 subst hargs2
 obtain ⟨v3,vs3,d3,ds3,p3,q3,hargs3,rfl,rfl,h3,r3⟩:=ChangeShapes.trodAll_cons r2
 obtain ⟨rfl,rfl,rfl⟩:=ChangeShapes.trodAll_nil r3
 subst hargs3
 obtain rfl:args=#[v0,v1,v2,v3]:=by cases args;simp_all
 obtain ⟨rfl,rfl⟩:=ChangeShapes.trodVars_none hV
 obtain ⟨a0,k0,w0⟩:=arg_agg (tt:=2) o63 Try.underlying63 (hval 0 63 v0 rfl rfl) h0
 obtain ⟨a1,k1,w1⟩:=arg_one (tt:=2) (opens_slice (e:=139) (sz:=3) (ee:=e_S_Veneer) Try.underlying71 (by kernel_rfl) (by decide) (fun _=>rfl) (fun _=>rfl) o139) (by rw [Try.underlying71]) (hval 1 71 v1 rfl rfl) h1
 obtain ⟨a2,k2,w2⟩:=arg_one (tt:=2) (opens_int Try.underlying2) (by rw [Try.underlying2]) (hval 2 2 v2 rfl rfl) h2
 obtain ⟨a3,k3,w3⟩:=arg_one (tt:=2) (opens_int Try.underlying2) (by rw [Try.underlying2]) (hval 3 2 v3 rfl rfl) h3
 refine (rowCalls cfgOK (L_laws_FnExactFirstShifts (law_FirstShifts a0 a1 a2 a3 w0 w1)) (show ArgVs _ _ _ [v0,v1,v2,v3] from (.cons k0 (.cons k1 (.cons k2 (.cons k3 .nil)))))).mono fun e W' ⟨he,hio,_,hb⟩=>?_
 exact ⟨_,he,row_post Try.underlying4 rfl rfl hW' rfl (kids_rows laid rowed) sized (by decide) hio hb⟩
theorem and2 {a b:Bool} (h1:a=true) (h2:b=true):(a&&b)=true:=by rw [h1,h2];rfl
set_option maxHeartbeats 4000000 in
theorem closed:joinedFacts Try.prog 8 Try.f8 Rows.fnExactFirstShiftsSpec Rows.fnExactFirstShiftsRow=true:=by
 unfold joinedFacts
 repeat' with_reducible refine and2 ?_ ?_
 all_goals (as_aux_lemma=>kernel_rfl)
theorem over:Rows.fnExactFirstShiftsRow.holds Try.pinned (OpenSpec.ofChange Rows.fnExactFirstShiftsSpec):=
 OpenClaim.holds_of_wide 8 Try.f8 rfl rfl rfl rfl rfl rfl rfl ⟨rfl,rfl,rfl,rfl,rfl⟩ rfl rfl rfl rfl rfl (by kernel_rfl) Try.func8 closed
  (of_decide_eq_true (by kernel_rfl)) (by unfold Func.isWrapper;first | (rw [if_pos (by decide+kernel)];kernel_rfl) | (rw [if_neg (by decide+kernel)];exact ⟨rfl,rfl⟩))
  (fun os started H enc _=>lifted os started H enc)
theorem proved:Rows.FnExactFirstShiftsSaid:=over
#print axioms proved
end fnExactFirstShifts
theorem fnExactFirstShifts_holds:Rows.FnExactFirstShiftsSaid:=fnExactFirstShifts.proved
end Go.Proofs.Ytfjmlccolihpmaa
