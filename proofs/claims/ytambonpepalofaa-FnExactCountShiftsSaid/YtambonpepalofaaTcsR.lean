/- FnExactCountShifts: whatever the arguments, the law answers true, and the arguments read as they did. Conditions: none beyond those of the row. -/
import Derived.Test.YtambonpepalofaaRows
import Derived.Test.YtambonpepalofaaTcsL
import Derived.Test.YtambonpepalofaaTcsP
import Derived.Test.YtambonpepalofaaSimRk
import Derived.WalkKit
import Derived.ProofKit
import Derived.OpenShut
import Derived.ShutString
import Derived.ChangeOld
import Derived.Below
import Derived.SizedLaws
namespace Go.Proofs.Ytambonpepalofaa
open Go Go.Sim Go.Pw Go.Proofs
set_option linter.unusedVariables false
set_option maxRecDepth 100000
theorem g10:okF fc10 Try.f10=true:=by kernel_rfl
theorem g36:okF fc36 Try.f36=true:=by kernel_rfl
theorem g38:okF fc38 Try.f38=true:=by kernel_rfl
theorem g39:okF fc39 Try.f39=true:=by kernel_rfl
theorem g41:okF fc41 Try.f41=true:=by kernel_rfl
theorem g59:okF fc59 Try.f59=true:=by kernel_rfl
theorem g60:okF fc60 Try.f60=true:=by kernel_rfl
theorem g61:okF fc61 Try.f61=true:=by kernel_rfl
theorem g62:okF fc62 Try.f62=true:=by kernel_rfl
theorem g63:okF fc63 Try.f63=true:=by kernel_rfl
theorem g84:okF fc84 Try.f84=true:=by kernel_rfl
theorem g87:okF fc87 Try.f87=true:=by kernel_rfl
theorem g94:okF fc94 Try.f94=true:=by kernel_rfl
theorem g98:okF fc98 Try.f98=true:=by kernel_rfl
theorem g107:okF fc107 Try.f107=true:=by kernel_rfl
theorem g110:okF fc110 Try.f110=true:=by kernel_rfl
theorem g111:okF fc111 Try.f111=true:=by kernel_rfl
theorem g113:okF fc113 Try.f113=true:=by kernel_rfl
theorem g114:okF fc114 Try.f114=true:=by kernel_rfl
theorem g115:okF fc115 Try.f115=true:=by kernel_rfl
theorem g116:okF fc116 Try.f116=true:=by kernel_rfl
theorem g117:okF fc117 Try.f117=true:=by kernel_rfl
theorem g131:okF fc131 Try.f131=true:=by kernel_rfl
theorem g134:okF fc134 Try.f134=true:=by kernel_rfl
theorem g135:okF fc135 Try.f135=true:=by kernel_rfl
theorem g136:okF fc136 Try.f136=true:=by kernel_rfl
theorem g137:okF fc137 Try.f137=true:=by kernel_rfl
theorem g138:okF fc138 Try.f138=true:=by kernel_rfl
theorem g139:okF fc139 Try.f139=true:=by kernel_rfl
theorem g142:okF fc142 Try.f142=true:=by kernel_rfl
theorem g171:okF fc171 Try.f171=true:=by kernel_rfl
theorem g172:okF fc172 Try.f172=true:=by kernel_rfl
theorem g173:okF fc173 Try.f173=true:=by kernel_rfl
theorem g174:okF fc174 Try.f174=true:=by kernel_rfl
theorem g178:okF fc178 Try.f178=true:=by kernel_rfl
theorem g179:okF fc179 Try.f179=true:=by kernel_rfl
theorem g180:okF fc180 Try.f180=true:=by kernel_rfl
theorem g181:okF fc181 Try.f181=true:=by kernel_rfl
theorem g196:okF fc196 Try.f196=true:=by kernel_rfl
theorem g197:okF fc197 Try.f197=true:=by kernel_rfl
theorem g198:okF fc198 Try.f198=true:=by kernel_rfl
theorem g199:okF fc199 Try.f199=true:=by kernel_rfl
theorem g201:okF fc201 Try.f201=true:=by kernel_rfl
theorem g204:okF fc204 Try.f204=true:=by kernel_rfl
theorem g205:okF fc205 Try.f205=true:=by kernel_rfl
theorem g206:okF fc206 Try.f206=true:=by kernel_rfl
theorem g207:okF fc207 Try.f207=true:=by kernel_rfl
theorem g218:okF fc218 Try.f218=true:=by kernel_rfl
theorem g222:okF fc222 Try.f222=true:=by kernel_rfl
theorem g223:okF fc223 Try.f223=true:=by kernel_rfl
theorem g224:okF fc224 Try.f224=true:=by kernel_rfl
theorem g225:okF fc225 Try.f225=true:=by kernel_rfl
theorem g226:okF fc226 Try.f226=true:=by kernel_rfl
theorem g227:okF fc227 Try.f227=true:=by kernel_rfl
theorem g230:okF fc230 Try.f230=true:=by kernel_rfl
theorem g236:okF fc236 Try.f236=true:=by kernel_rfl
theorem g241:okF fc241 Try.f241=true:=by kernel_rfl
theorem g268:okF fc268 Try.f268=true:=by kernel_rfl
theorem g269:okF fc269 Try.f269=true:=by kernel_rfl
theorem g270:okF fc270 Try.f270=true:=by kernel_rfl
theorem g271:okF fc271 Try.f271=true:=by kernel_rfl
theorem g272:okF fc272 Try.f272=true:=by kernel_rfl
theorem g273:okF fc273 Try.f273=true:=by kernel_rfl
theorem g275:okF fc275 Try.f275=true:=by kernel_rfl
theorem g276:okF fc276 Try.f276=true:=by kernel_rfl
theorem g277:okF fc277 Try.f277=true:=by kernel_rfl
theorem g278:okF fc278 Try.f278=true:=by kernel_rfl
theorem g279:okF fc279 Try.f279=true:=by kernel_rfl
theorem g282:okF fc282 Try.f282=true:=by kernel_rfl
theorem g285:okF fc285 Try.f285=true:=by kernel_rfl
theorem g286:okF fc286 Try.f286=true:=by kernel_rfl
theorem g287:okF fc287 Try.f287=true:=by kernel_rfl
theorem g291:okF fc291 Try.f291=true:=by kernel_rfl
theorem g292:okF fc292 Try.f292=true:=by kernel_rfl
theorem g293:okF fc293 Try.f293=true:=by kernel_rfl
theorem g294:okF fc294 Try.f294=true:=by kernel_rfl
theorem g295:okF fc295 Try.f295=true:=by kernel_rfl
theorem g311:okF fc311 Try.f311=true:=by kernel_rfl
theorem g319:okF fc319 Try.f319=true:=by kernel_rfl
theorem g320:okF fc320 Try.f320=true:=by kernel_rfl
theorem g321:okF fc321 Try.f321=true:=by kernel_rfl
theorem g322:okF fc322 Try.f322=true:=by kernel_rfl
theorem g323:okF fc323 Try.f323=true:=by kernel_rfl
theorem g325:okF fc325 Try.f325=true:=by kernel_rfl
theorem g338:okF fc338 Try.f338=true:=by kernel_rfl
theorem g339:okF fc339 Try.f339=true:=by kernel_rfl
theorem g340:okF fc340 Try.f340=true:=by kernel_rfl
theorem g341:okF fc341 Try.f341=true:=by kernel_rfl
theorem g342:okF fc342 Try.f342=true:=by kernel_rfl
theorem g349:okF fc349 Try.f349=true:=by kernel_rfl
theorem g354:okF fc354 Try.f354=true:=by kernel_rfl
theorem g360:okF fc360 Try.f360=true:=by kernel_rfl
theorem g361:okF fc361 Try.f361=true:=by kernel_rfl
theorem mixed:Try.prog.follows .mixedOrders=true:=by kernel_rfl
theorem cfgOK:CfgOK Try.prog cfg:=by
 refine cfgOK_ext mixed ?_ fun f g hg=>?_
 ·unfold ons
  simp only [List.forall_mem_cons]
  exact ⟨⟨_,Try.func10,g10⟩,⟨_,Try.func36,g36⟩,⟨_,Try.func38,g38⟩,⟨_,Try.func39,g39⟩,⟨_,Try.func41,g41⟩,⟨_,Try.func59,g59⟩,⟨_,Try.func60,g60⟩,⟨_,Try.func61,g61⟩,⟨_,Try.func62,g62⟩,⟨_,Try.func63,g63⟩,⟨_,Try.func84,g84⟩,⟨_,Try.func87,g87⟩,⟨_,Try.func94,g94⟩,⟨_,Try.func98,g98⟩,⟨_,Try.func107,g107⟩,⟨_,Try.func110,g110⟩,⟨_,Try.func111,g111⟩,⟨_,Try.func113,g113⟩,⟨_,Try.func114,g114⟩,⟨_,Try.func115,g115⟩,⟨_,Try.func116,g116⟩,⟨_,Try.func117,g117⟩,⟨_,Try.func131,g131⟩,⟨_,Try.func134,g134⟩,⟨_,Try.func135,g135⟩,⟨_,Try.func136,g136⟩,⟨_,Try.func137,g137⟩,⟨_,Try.func138,g138⟩,⟨_,Try.func139,g139⟩,⟨_,Try.func142,g142⟩,⟨_,Try.func171,g171⟩,⟨_,Try.func172,g172⟩,⟨_,Try.func173,g173⟩,⟨_,Try.func174,g174⟩,⟨_,Try.func178,g178⟩,⟨_,Try.func179,g179⟩,⟨_,Try.func180,g180⟩,⟨_,Try.func181,g181⟩,⟨_,Try.func196,g196⟩,⟨_,Try.func197,g197⟩,⟨_,Try.func198,g198⟩,⟨_,Try.func199,g199⟩,⟨_,Try.func201,g201⟩,⟨_,Try.func204,g204⟩,⟨_,Try.func205,g205⟩,⟨_,Try.func206,g206⟩,⟨_,Try.func207,g207⟩,⟨_,Try.func218,g218⟩,⟨_,Try.func222,g222⟩,⟨_,Try.func223,g223⟩,⟨_,Try.func224,g224⟩,⟨_,Try.func225,g225⟩,⟨_,Try.func226,g226⟩,⟨_,Try.func227,g227⟩,⟨_,Try.func230,g230⟩,⟨_,Try.func236,g236⟩,⟨_,Try.func241,g241⟩,⟨_,Try.func268,g268⟩,⟨_,Try.func269,g269⟩,⟨_,Try.func270,g270⟩,⟨_,Try.func271,g271⟩,⟨_,Try.func272,g272⟩,⟨_,Try.func273,g273⟩,⟨_,Try.func275,g275⟩,⟨_,Try.func276,g276⟩,⟨_,Try.func277,g277⟩,⟨_,Try.func278,g278⟩,⟨_,Try.func279,g279⟩,⟨_,Try.func282,g282⟩,⟨_,Try.func285,g285⟩,⟨_,Try.func286,g286⟩,⟨_,Try.func287,g287⟩,⟨_,Try.func291,g291⟩,⟨_,Try.func292,g292⟩,⟨_,Try.func293,g293⟩,⟨_,Try.func294,g294⟩,⟨_,Try.func295,g295⟩,⟨_,Try.func311,g311⟩,⟨_,Try.func319,g319⟩,⟨_,Try.func320,g320⟩,⟨_,Try.func321,g321⟩,⟨_,Try.func322,g322⟩,⟨_,Try.func323,g323⟩,⟨_,Try.func325,g325⟩,⟨_,Try.func338,g338⟩,⟨_,Try.func339,g339⟩,⟨_,Try.func340,g340⟩,⟨_,Try.func341,g341⟩,⟨_,Try.func342,g342⟩,⟨_,Try.func349,g349⟩,⟨_,Try.func354,g354⟩,⟨_,Try.func360,g360⟩,⟨_,Try.func361,g361⟩,fun _ h=>by cases h⟩
 rcases look_cons hg with ⟨rfl,h⟩ | hg
 ·cases h
  exact clone_ext (cfg:=cfg) (fn:=Try.f192) mixed Try.func192 rfl rfl rfl rfl eF28 sF28 rfl uF28 rfl rfl rF192 rfl
 cases hg
theorem laid:laidOutB Try.prog=true:=by kernel_rfl
theorem rowed:mapsRowed Try.prog=true:=by kernel_rfl
theorem sized:slicesSized Try.prog=true:=by kernel_rfl
def ok_S_Point (x:S_Point):Prop:=(Lit.int .i64 x.X).wf=true∧(Lit.int .i64 x.Y).wf=true
theorem o291:Opens Try.prog 291 (fun x:S_Point=>(e_S_Point x).cells) ok_S_Point:=
 opens_map (fun p:Int×Int×Unit=>⟨p.1,p.2.1⟩)
  (opens_struct Try.underlying291 (by kernel_rfl) (opensF_cons (s:=1) (by kernel_rfl) rfl (opens_int Try.underlying2) (opensF_cons (s:=1) (by kernel_rfl) rfl (opens_int Try.underlying2) opensF_nil)))
  (fun _=>rfl) (fun _ h=>⟨h.1,h.2.1⟩)
def ok_S_Face (x:S_Face):Prop:=x.Name.size≤maxLen∧((∀a∈x.Ring,(Lit.int .i64 a).wf=true)∧x.Ring.length≤maxLen)
theorem o287:Opens Try.prog 287 (fun x:S_Face=>(e_S_Face x).cells) ok_S_Face:=
 opens_map (fun p:ByteArray×(List Int)×Unit=>⟨p.1,p.2.1⟩)
  (opens_struct Try.underlying287 (by kernel_rfl) (opensF_cons (s:=1) (by kernel_rfl) rfl (opens_string Try.underlying9) (opensF_cons (s:=1) (by kernel_rfl) rfl (opens_slice (e:=2) (sz:=1) (ee:=eI) Try.underlying28 (by kernel_rfl) (by decide) (fun _=>rfl) (fun _=>rfl) (opens_int Try.underlying2)) opensF_nil)))
  (fun _=>rfl) (fun _ h=>⟨h.1,h.2.1⟩)
def ok_S_Drawing (x:S_Drawing):Prop:=(Lit.int .i64 x.Width).wf=true∧(Lit.int .i64 x.Height).wf=true∧((∀a∈x.Points,ok_S_Point a)∧x.Points.length≤maxLen)∧((∀a∈x.Faces,ok_S_Face a)∧x.Faces.length≤maxLen)
theorem o56:Opens Try.prog 56 (fun x:S_Drawing=>(e_S_Drawing x).cells) ok_S_Drawing:=
 opens_map (fun p:Int×Int×(List S_Point)×(List S_Face)×Unit=>⟨p.1,p.2.1,p.2.2.1,p.2.2.2.1⟩)
  (opens_struct Try.underlying56 (by kernel_rfl) (opensF_cons (s:=1) (by kernel_rfl) rfl (opens_int Try.underlying2) (opensF_cons (s:=1) (by kernel_rfl) rfl (opens_int Try.underlying2) (opensF_cons (s:=1) (by kernel_rfl) rfl (opens_slice (e:=291) (sz:=2) (ee:=e_S_Point) Try.underlying53 (by kernel_rfl) (by decide) (fun _=>rfl) (fun _=>rfl) o291) (opensF_cons (s:=1) (by kernel_rfl) rfl (opens_slice (e:=287) (sz:=2) (ee:=e_S_Face) Try.underlying54 (by kernel_rfl) (by decide) (fun _=>rfl) (fun _=>rfl) o287) opensF_nil)))))
  (fun _=>rfl) (fun _ h=>⟨h.1,h.2.1,h.2.2.1,h.2.2.2.1⟩)
def ok_S_Veneer (x:S_Veneer):Prop:=x.Species.size≤maxLen∧(Lit.int .i64 x.Shade).wf=true∧(Lit.int .i64 x.Grain).wf=true
theorem o156:Opens Try.prog 156 (fun x:S_Veneer=>(e_S_Veneer x).cells) ok_S_Veneer:=
 opens_map (fun p:ByteArray×Int×Int×Unit=>⟨p.1,p.2.1,p.2.2.1⟩)
  (opens_struct Try.underlying156 (by kernel_rfl) (opensF_cons (s:=1) (by kernel_rfl) rfl (opens_string Try.underlying9) (opensF_cons (s:=1) (by kernel_rfl) rfl (opens_int Try.underlying2) (opensF_cons (s:=1) (by kernel_rfl) rfl (opens_int Try.underlying2) opensF_nil))))
  (fun _=>rfl) (fun _ h=>⟨h.1,h.2.1,h.2.2.1⟩)
namespace fnExactCountShifts
theorem own:ownKnob Try.prog.godebug=none:=by kernel_rfl
theorem lifted (os:Os) (started:os.Started) (H:Type) (enc:TypeId×Value→H):
 ReturnsInHanded {} Try.checked os 10 .any (Rows.fnExactCountShiftsSpec.pre6 enc Try.prog Try.f10 Rows.fnExactCountShiftsRow.domain false) (Rows.fnExactCountShiftsSpec.post enc Try.prog Try.f10 false true false false):=by
 refine returnsInHanded_of_change_sized (C:=Try.checked) own started (by kernel_rfl) Try.func10
  (ChangeSpec.witness6 (enc:=enc) (C:=Try.checked) false ⟨#[],#[.agg #[.int .i64 0,.int .i64 0,.slice none 0 0,.slice none 0 0],.slice none 0 0,.int .i64 0,.int .i64 0],[]⟩ 8 (by kernel_rfl) (by kernel_rfl) (by kernel_rfl) (by kernel_rfl)) ?_
 intro W base args ds gs before hval0 hW hcnd hsz0 _
 have hval:∀(j:Nat) t v,Try.f10.params[j]?=some t→args[j]?=some v→Value.okWide Try.prog W .any base t v:=hval0
 have hW':=hW
 obtain ⟨p,q,hA0,hV,rfl,hfz,hnd⟩:=hW
 have hA:DataW.TrodAll enc Try.prog W 0 (fun _=>true) true Try.f10.params.toList args.toList ds p:=hA0
 rw [Try.params10] at hA hval
 obtain ⟨v0,vs0,d0,ds0,p0,q0,hargs0,rfl,rfl,h0,r0⟩:=ChangeShapes.trodAll_cons hA
 clear hA0
 obtain ⟨v1,vs1,d1,ds1,p1,q1,hargs1,rfl,rfl,h1,r1⟩:=ChangeShapes.trodAll_cons r0
 subst hargs1
 obtain ⟨v2,vs2,d2,ds2,p2,q2,hargs2,rfl,rfl,h2,r2⟩:=ChangeShapes.trodAll_cons r1
 subst hargs2
 obtain ⟨v3,vs3,d3,ds3,p3,q3,hargs3,rfl,rfl,h3,r3⟩:=ChangeShapes.trodAll_cons r2
 obtain ⟨rfl,rfl,rfl⟩:=ChangeShapes.trodAll_nil r3
 subst hargs3
 obtain rfl:args=#[v0,v1,v2,v3]:=by cases args;simp_all
 obtain ⟨rfl,rfl⟩:=ChangeShapes.trodVars_none hV
 obtain ⟨a0,k0,w0⟩:=arg_agg (tt:=2) o56 Try.underlying56 (hval 0 56 v0 rfl rfl) h0
 obtain ⟨a1,k1,w1⟩:=arg_one (tt:=2) (opens_slice (e:=156) (sz:=3) (ee:=e_S_Veneer) Try.underlying81 (by kernel_rfl) (by decide) (fun _=>rfl) (fun _=>rfl) o156) (by rw [Try.underlying81]) (hval 1 81 v1 rfl rfl) h1
 obtain ⟨a2,k2,w2⟩:=arg_one (tt:=2) (opens_int Try.underlying2) (by rw [Try.underlying2]) (hval 2 2 v2 rfl rfl) h2
 obtain ⟨a3,k3,w3⟩:=arg_one (tt:=2) (opens_int Try.underlying2) (by rw [Try.underlying2]) (hval 3 2 v3 rfl rfl) h3
 refine (rowCalls cfgOK (L_laws_FnExactCountShifts (law_CountShifts a0 a1 a2 a3 w0 w1)) (show ArgVs _ _ _ [v0,v1,v2,v3] from (.cons k0 (.cons k1 (.cons k2 (.cons k3 .nil)))))).mono fun e W' ⟨he,hio,_,hb⟩=>?_
 exact ⟨_,he,row_post Try.underlying4 rfl rfl hW' rfl (kids_rows laid rowed) sized (by decide) hio hb⟩
theorem and2 {a b:Bool} (h1:a=true) (h2:b=true):(a&&b)=true:=by rw [h1,h2];rfl
set_option maxHeartbeats 4000000 in
theorem closed:joinedFacts Try.prog 10 Try.f10 Rows.fnExactCountShiftsSpec Rows.fnExactCountShiftsRow=true:=by
 unfold joinedFacts
 repeat' with_reducible refine and2 ?_ ?_
 all_goals (as_aux_lemma=>kernel_rfl)
theorem over:Rows.fnExactCountShiftsRow.holds Try.pinned (OpenSpec.ofChange Rows.fnExactCountShiftsSpec):=
 OpenClaim.holds_of_wide 10 Try.f10 rfl rfl rfl rfl rfl rfl rfl ⟨rfl,rfl,rfl,rfl,rfl⟩ rfl rfl rfl rfl rfl (by kernel_rfl) Try.func10 closed
  (of_decide_eq_true (by kernel_rfl)) (by unfold Func.isWrapper;first | (rw [if_pos (by decide+kernel)];kernel_rfl) | (rw [if_neg (by decide+kernel)];exact ⟨rfl,rfl⟩))
  (fun os started H enc _=>lifted os started H enc)
theorem proved:Rows.FnExactCountShiftsSaid:=over
#print axioms proved
end fnExactCountShifts
theorem fnExactCountShifts_holds:Rows.FnExactCountShiftsSaid:=fnExactCountShifts.proved
end Go.Proofs.Ytambonpepalofaa
