/- FnExactCountAssemblies: whatever the arguments, the law answers true, and the arguments read as they did. Conditions: none beyond those of the row. -/
import Derived.Test.YtambonpepalofaaRows
import Derived.Test.YtambonpepalofaaTcaL
import Derived.Test.YtambonpepalofaaTcaP
import Derived.Test.YtambonpepalofaaSimRk
import Derived.WalkKit
import Derived.ProofKit
import Derived.OpenShut
import Derived.ShutString
import Derived.ChangeOld
import Derived.Below
import Derived.SizedLaws
namespace Go.Proofs.Ytambonpepalofaa
open Go Go.Sim Go.Pw Go.Proofs
set_option linter.unusedVariables false
set_option maxRecDepth 100000
theorem g6:okF fc6 Try.f6=true:=by kernel_rfl
theorem g17:okF fc17 Try.f17=true:=by kernel_rfl
theorem g36:okF fc36 Try.f36=true:=by kernel_rfl
theorem g37:okF fc37 Try.f37=true:=by kernel_rfl
theorem g38:okF fc38 Try.f38=true:=by kernel_rfl
theorem g39:okF fc39 Try.f39=true:=by kernel_rfl
theorem g41:okF fc41 Try.f41=true:=by kernel_rfl
theorem g84:okF fc84 Try.f84=true:=by kernel_rfl
theorem g86:okF fc86 Try.f86=true:=by kernel_rfl
theorem g87:okF fc87 Try.f87=true:=by kernel_rfl
theorem g88:okF fc88 Try.f88=true:=by kernel_rfl
theorem g89:okF fc89 Try.f89=true:=by kernel_rfl
theorem g91:okF fc91 Try.f91=true:=by kernel_rfl
theorem g94:okF fc94 Try.f94=true:=by kernel_rfl
theorem g98:okF fc98 Try.f98=true:=by kernel_rfl
theorem g103:okF fc103 Try.f103=true:=by kernel_rfl
theorem g104:okF fc104 Try.f104=true:=by kernel_rfl
theorem g107:okF fc107 Try.f107=true:=by kernel_rfl
theorem g109:okF fc109 Try.f109=true:=by kernel_rfl
theorem g110:okF fc110 Try.f110=true:=by kernel_rfl
theorem g111:okF fc111 Try.f111=true:=by kernel_rfl
theorem g112:okF fc112 Try.f112=true:=by kernel_rfl
theorem g113:okF fc113 Try.f113=true:=by kernel_rfl
theorem g114:okF fc114 Try.f114=true:=by kernel_rfl
theorem g115:okF fc115 Try.f115=true:=by kernel_rfl
theorem g116:okF fc116 Try.f116=true:=by kernel_rfl
theorem g117:okF fc117 Try.f117=true:=by kernel_rfl
theorem g131:okF fc131 Try.f131=true:=by kernel_rfl
theorem g134:okF fc134 Try.f134=true:=by kernel_rfl
theorem g171:okF fc171 Try.f171=true:=by kernel_rfl
theorem g172:okF fc172 Try.f172=true:=by kernel_rfl
theorem g173:okF fc173 Try.f173=true:=by kernel_rfl
theorem g174:okF fc174 Try.f174=true:=by kernel_rfl
theorem g177:okF fc177 Try.f177=true:=by kernel_rfl
theorem g178:okF fc178 Try.f178=true:=by kernel_rfl
theorem g179:okF fc179 Try.f179=true:=by kernel_rfl
theorem g180:okF fc180 Try.f180=true:=by kernel_rfl
theorem g181:okF fc181 Try.f181=true:=by kernel_rfl
theorem g182:okF fc182 Try.f182=true:=by kernel_rfl
theorem g183:okF fc183 Try.f183=true:=by kernel_rfl
theorem g194:okF fc194 Try.f194=true:=by kernel_rfl
theorem g195:okF fc195 Try.f195=true:=by kernel_rfl
theorem g196:okF fc196 Try.f196=true:=by kernel_rfl
theorem g197:okF fc197 Try.f197=true:=by kernel_rfl
theorem g198:okF fc198 Try.f198=true:=by kernel_rfl
theorem g199:okF fc199 Try.f199=true:=by kernel_rfl
theorem g200:okF fc200 Try.f200=true:=by kernel_rfl
theorem g201:okF fc201 Try.f201=true:=by kernel_rfl
theorem g202:okF fc202 Try.f202=true:=by kernel_rfl
theorem g203:okF fc203 Try.f203=true:=by kernel_rfl
theorem g204:okF fc204 Try.f204=true:=by kernel_rfl
theorem g205:okF fc205 Try.f205=true:=by kernel_rfl
theorem g206:okF fc206 Try.f206=true:=by kernel_rfl
theorem g207:okF fc207 Try.f207=true:=by kernel_rfl
theorem g218:okF fc218 Try.f218=true:=by kernel_rfl
theorem g219:okF fc219 Try.f219=true:=by kernel_rfl
theorem g222:okF fc222 Try.f222=true:=by kernel_rfl
theorem g268:okF fc268 Try.f268=true:=by kernel_rfl
theorem g269:okF fc269 Try.f269=true:=by kernel_rfl
theorem g270:okF fc270 Try.f270=true:=by kernel_rfl
theorem g271:okF fc271 Try.f271=true:=by kernel_rfl
theorem g272:okF fc272 Try.f272=true:=by kernel_rfl
theorem g273:okF fc273 Try.f273=true:=by kernel_rfl
theorem g275:okF fc275 Try.f275=true:=by kernel_rfl
theorem g276:okF fc276 Try.f276=true:=by kernel_rfl
theorem g277:okF fc277 Try.f277=true:=by kernel_rfl
theorem g278:okF fc278 Try.f278=true:=by kernel_rfl
theorem g279:okF fc279 Try.f279=true:=by kernel_rfl
theorem g280:okF fc280 Try.f280=true:=by kernel_rfl
theorem g285:okF fc285 Try.f285=true:=by kernel_rfl
theorem g286:okF fc286 Try.f286=true:=by kernel_rfl
theorem g287:okF fc287 Try.f287=true:=by kernel_rfl
theorem g288:okF fc288 Try.f288=true:=by kernel_rfl
theorem g289:okF fc289 Try.f289=true:=by kernel_rfl
theorem g319:okF fc319 Try.f319=true:=by kernel_rfl
theorem g320:okF fc320 Try.f320=true:=by kernel_rfl
theorem g321:okF fc321 Try.f321=true:=by kernel_rfl
theorem g322:okF fc322 Try.f322=true:=by kernel_rfl
theorem g323:okF fc323 Try.f323=true:=by kernel_rfl
theorem g325:okF fc325 Try.f325=true:=by kernel_rfl
theorem g326:okF fc326 Try.f326=true:=by kernel_rfl
theorem g327:okF fc327 Try.f327=true:=by kernel_rfl
theorem g328:okF fc328 Try.f328=true:=by kernel_rfl
theorem g354:okF fc354 Try.f354=true:=by kernel_rfl
theorem g355:okF fc355 Try.f355=true:=by kernel_rfl
theorem g356:okF fc356 Try.f356=true:=by kernel_rfl
theorem mixed:Try.prog.follows .mixedOrders=true:=by kernel_rfl
theorem cfgOK:CfgOK Try.prog cfg:=by
 refine cfgOK_ext mixed ?_ fun f g hg=>?_
 ·unfold ons
  simp only [List.forall_mem_cons]
  exact ⟨⟨_,Try.func6,g6⟩,⟨_,Try.func17,g17⟩,⟨_,Try.func36,g36⟩,⟨_,Try.func37,g37⟩,⟨_,Try.func38,g38⟩,⟨_,Try.func39,g39⟩,⟨_,Try.func41,g41⟩,⟨_,Try.func84,g84⟩,⟨_,Try.func86,g86⟩,⟨_,Try.func87,g87⟩,⟨_,Try.func88,g88⟩,⟨_,Try.func89,g89⟩,⟨_,Try.func91,g91⟩,⟨_,Try.func94,g94⟩,⟨_,Try.func98,g98⟩,⟨_,Try.func103,g103⟩,⟨_,Try.func104,g104⟩,⟨_,Try.func107,g107⟩,⟨_,Try.func109,g109⟩,⟨_,Try.func110,g110⟩,⟨_,Try.func111,g111⟩,⟨_,Try.func112,g112⟩,⟨_,Try.func113,g113⟩,⟨_,Try.func114,g114⟩,⟨_,Try.func115,g115⟩,⟨_,Try.func116,g116⟩,⟨_,Try.func117,g117⟩,⟨_,Try.func131,g131⟩,⟨_,Try.func134,g134⟩,⟨_,Try.func171,g171⟩,⟨_,Try.func172,g172⟩,⟨_,Try.func173,g173⟩,⟨_,Try.func174,g174⟩,⟨_,Try.func177,g177⟩,⟨_,Try.func178,g178⟩,⟨_,Try.func179,g179⟩,⟨_,Try.func180,g180⟩,⟨_,Try.func181,g181⟩,⟨_,Try.func182,g182⟩,⟨_,Try.func183,g183⟩,⟨_,Try.func194,g194⟩,⟨_,Try.func195,g195⟩,⟨_,Try.func196,g196⟩,⟨_,Try.func197,g197⟩,⟨_,Try.func198,g198⟩,⟨_,Try.func199,g199⟩,⟨_,Try.func200,g200⟩,⟨_,Try.func201,g201⟩,⟨_,Try.func202,g202⟩,⟨_,Try.func203,g203⟩,⟨_,Try.func204,g204⟩,⟨_,Try.func205,g205⟩,⟨_,Try.func206,g206⟩,⟨_,Try.func207,g207⟩,⟨_,Try.func218,g218⟩,⟨_,Try.func219,g219⟩,⟨_,Try.func222,g222⟩,⟨_,Try.func268,g268⟩,⟨_,Try.func269,g269⟩,⟨_,Try.func270,g270⟩,⟨_,Try.func271,g271⟩,⟨_,Try.func272,g272⟩,⟨_,Try.func273,g273⟩,⟨_,Try.func275,g275⟩,⟨_,Try.func276,g276⟩,⟨_,Try.func277,g277⟩,⟨_,Try.func278,g278⟩,⟨_,Try.func279,g279⟩,⟨_,Try.func280,g280⟩,⟨_,Try.func285,g285⟩,⟨_,Try.func286,g286⟩,⟨_,Try.func287,g287⟩,⟨_,Try.func288,g288⟩,⟨_,Try.func289,g289⟩,⟨_,Try.func319,g319⟩,⟨_,Try.func320,g320⟩,⟨_,Try.func321,g321⟩,⟨_,Try.func322,g322⟩,⟨_,Try.func323,g323⟩,⟨_,Try.func325,g325⟩,⟨_,Try.func326,g326⟩,⟨_,Try.func327,g327⟩,⟨_,Try.func328,g328⟩,⟨_,Try.func354,g354⟩,⟨_,Try.func355,g355⟩,⟨_,Try.func356,g356⟩,fun _ h=>by cases h⟩
 rcases look_cons hg with ⟨rfl,h⟩ | hg
 ·cases h
  exact clone_ext (cfg:=cfg) (fn:=Try.f192) mixed Try.func192 rfl rfl rfl rfl eF28 sF28 rfl uF28 rfl rfl rF192 rfl
 cases hg
theorem laid:laidOutB Try.prog=true:=by kernel_rfl
theorem rowed:mapsRowed Try.prog=true:=by kernel_rfl
theorem sized:slicesSized Try.prog=true:=by kernel_rfl
def ok_S_Point (x:S_Point):Prop:=(Lit.int .i64 x.X).wf=true∧(Lit.int .i64 x.Y).wf=true
theorem o291:Opens Try.prog 291 (fun x:S_Point=>(e_S_Point x).cells) ok_S_Point:=
 opens_map (fun p:Int×Int×Unit=>⟨p.1,p.2.1⟩)
  (opens_struct Try.underlying291 (by kernel_rfl) (opensF_cons (s:=1) (by kernel_rfl) rfl (opens_int Try.underlying2) (opensF_cons (s:=1) (by kernel_rfl) rfl (opens_int Try.underlying2) opensF_nil)))
  (fun _=>rfl) (fun _ h=>⟨h.1,h.2.1⟩)
def ok_S_Face (x:S_Face):Prop:=x.Name.size≤maxLen∧((∀a∈x.Ring,(Lit.int .i64 a).wf=true)∧x.Ring.length≤maxLen)
theorem o287:Opens Try.prog 287 (fun x:S_Face=>(e_S_Face x).cells) ok_S_Face:=
 opens_map (fun p:ByteArray×(List Int)×Unit=>⟨p.1,p.2.1⟩)
  (opens_struct Try.underlying287 (by kernel_rfl) (opensF_cons (s:=1) (by kernel_rfl) rfl (opens_string Try.underlying9) (opensF_cons (s:=1) (by kernel_rfl) rfl (opens_slice (e:=2) (sz:=1) (ee:=eI) Try.underlying28 (by kernel_rfl) (by decide) (fun _=>rfl) (fun _=>rfl) (opens_int Try.underlying2)) opensF_nil)))
  (fun _=>rfl) (fun _ h=>⟨h.1,h.2.1⟩)
def ok_S_Drawing (x:S_Drawing):Prop:=(Lit.int .i64 x.Width).wf=true∧(Lit.int .i64 x.Height).wf=true∧((∀a∈x.Points,ok_S_Point a)∧x.Points.length≤maxLen)∧((∀a∈x.Faces,ok_S_Face a)∧x.Faces.length≤maxLen)
theorem o56:Opens Try.prog 56 (fun x:S_Drawing=>(e_S_Drawing x).cells) ok_S_Drawing:=
 opens_map (fun p:Int×Int×(List S_Point)×(List S_Face)×Unit=>⟨p.1,p.2.1,p.2.2.1,p.2.2.2.1⟩)
  (opens_struct Try.underlying56 (by kernel_rfl) (opensF_cons (s:=1) (by kernel_rfl) rfl (opens_int Try.underlying2) (opensF_cons (s:=1) (by kernel_rfl) rfl (opens_int Try.underlying2) (opensF_cons (s:=1) (by kernel_rfl) rfl (opens_slice (e:=291) (sz:=2) (ee:=e_S_Point) Try.underlying53 (by kernel_rfl) (by decide) (fun _=>rfl) (fun _=>rfl) o291) (opensF_cons (s:=1) (by kernel_rfl) rfl (opens_slice (e:=287) (sz:=2) (ee:=e_S_Face) Try.underlying54 (by kernel_rfl) (by decide) (fun _=>rfl) (fun _=>rfl) o287) opensF_nil)))))
  (fun _=>rfl) (fun _ h=>⟨h.1,h.2.1,h.2.2.1,h.2.2.2.1⟩)
namespace fnExactCountAssemblies
theorem own:ownKnob Try.prog.godebug=none:=by kernel_rfl
theorem lifted (os:Os) (started:os.Started) (H:Type) (enc:TypeId×Value→H):
 ReturnsInHanded {} Try.checked os 6 .any (Rows.fnExactCountAssembliesSpec.pre6 enc Try.prog Try.f6 Rows.fnExactCountAssembliesRow.domain false) (Rows.fnExactCountAssembliesSpec.post enc Try.prog Try.f6 false true false false):=by
 refine returnsInHanded_of_change_sized (C:=Try.checked) own started (by kernel_rfl) Try.func6
  (ChangeSpec.witness6 (enc:=enc) (C:=Try.checked) false ⟨#[],#[.agg #[.int .i64 0,.int .i64 0,.slice none 0 0,.slice none 0 0],.int .i64 0],[]⟩ 8 (by kernel_rfl) (by kernel_rfl) (by kernel_rfl) (by kernel_rfl)) ?_
 intro W base args ds gs before hval0 hW hcnd hsz0 _
 have hval:∀(j:Nat) t v,Try.f6.params[j]?=some t→args[j]?=some v→Value.okWide Try.prog W .any base t v:=hval0
 have hW':=hW
 obtain ⟨p,q,hA0,hV,rfl,hfz,hnd⟩:=hW
 have hA:DataW.TrodAll enc Try.prog W 0 (fun _=>true) true Try.f6.params.toList args.toList ds p:=hA0
 rw [Try.params6] at hA hval
 obtain ⟨v0,vs0,d0,ds0,p0,q0,hargs0,rfl,rfl,h0,r0⟩:=ChangeShapes.trodAll_cons hA
 clear hA0
 obtain ⟨v1,vs1,d1,ds1,p1,q1,hargs1,rfl,rfl,h1,r1⟩:=ChangeShapes.trodAll_cons r0
 obtain ⟨rfl,rfl,rfl⟩:=ChangeShapes.trodAll_nil r1
 subst hargs1
 obtain rfl:args=#[v0,v1]:=by cases args;simp_all
 obtain ⟨rfl,rfl⟩:=ChangeShapes.trodVars_none hV
 obtain ⟨a0,k0,w0⟩:=arg_agg (tt:=2) o56 Try.underlying56 (hval 0 56 v0 rfl rfl) h0
 obtain ⟨a1,k1,w1⟩:=arg_one (tt:=2) (opens_int Try.underlying2) (by rw [Try.underlying2]) (hval 1 2 v1 rfl rfl) h1
 refine (rowCalls cfgOK (L_laws_FnExactCountAssemblies (law_CountAssemblies a0 a1 w0)) (show ArgVs _ _ _ [v0,v1] from (.cons k0 (.cons k1 .nil)))).mono fun e W' ⟨he,hio,_,hb⟩=>?_
 exact ⟨_,he,row_post Try.underlying4 rfl rfl hW' rfl (kids_rows laid rowed) sized (by decide) hio hb⟩
theorem and2 {a b:Bool} (h1:a=true) (h2:b=true):(a&&b)=true:=by rw [h1,h2];rfl
set_option maxHeartbeats 4000000 in
theorem closed:joinedFacts Try.prog 6 Try.f6 Rows.fnExactCountAssembliesSpec Rows.fnExactCountAssembliesRow=true:=by
 unfold joinedFacts
 repeat' with_reducible refine and2 ?_ ?_
 all_goals (as_aux_lemma=>kernel_rfl)
theorem over:Rows.fnExactCountAssembliesRow.holds Try.pinned (OpenSpec.ofChange Rows.fnExactCountAssembliesSpec):=
 OpenClaim.holds_of_wide 6 Try.f6 rfl rfl rfl rfl rfl rfl rfl ⟨rfl,rfl,rfl,rfl,rfl⟩ rfl rfl rfl rfl rfl (by kernel_rfl) Try.func6 closed
  (of_decide_eq_true (by kernel_rfl)) (by unfold Func.isWrapper;first | (rw [if_pos (by decide+kernel)];kernel_rfl) | (rw [if_neg (by decide+kernel)];exact ⟨rfl,rfl⟩))
  (fun os started H enc _=>lifted os started H enc)
theorem proved:Rows.FnExactCountAssembliesSaid:=over
#print axioms proved
end fnExactCountAssemblies
theorem fnExactCountAssemblies_holds:Rows.FnExactCountAssembliesSaid:=fnExactCountAssemblies.proved
end Go.Proofs.Ytambonpepalofaa
