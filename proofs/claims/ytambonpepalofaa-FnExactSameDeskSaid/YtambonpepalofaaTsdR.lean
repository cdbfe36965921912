/- FnExactSameDesk: whatever the arguments, the law answers true, and the arguments read as they did. Conditions: none beyond those of the row. -/
import Derived.Test.YtambonpepalofaaRows
import Derived.Test.YtambonpepalofaaTsdL
import Derived.Test.YtambonpepalofaaTsdP
import Derived.Test.YtambonpepalofaaSimRk
import Derived.WalkKit
import Derived.ProofKit
import Derived.OpenShut
import Derived.ShutString
import Derived.ChangeOld
import Derived.Below
import Derived.SizedLaws
namespace Go.Proofs.Ytambonpepalofaa
open Go Go.Sim Go.Pw Go.Proofs
set_option linter.unusedVariables false
set_option maxRecDepth 100000
theorem g14:okF fc14 Try.f14=true:=by kernel_rfl
theorem g22:okF fc22 Try.f22=true:=by kernel_rfl
theorem g24:okF fc24 Try.f24=true:=by kernel_rfl
theorem g27:okF fc27 Try.f27=true:=by kernel_rfl
theorem g36:okF fc36 Try.f36=true:=by kernel_rfl
theorem g38:okF fc38 Try.f38=true:=by kernel_rfl
theorem g39:okF fc39 Try.f39=true:=by kernel_rfl
theorem g41:okF fc41 Try.f41=true:=by kernel_rfl
theorem g59:okF fc59 Try.f59=true:=by kernel_rfl
theorem g61:okF fc61 Try.f61=true:=by kernel_rfl
theorem g63:okF fc63 Try.f63=true:=by kernel_rfl
theorem g77:okF fc77 Try.f77=true:=by kernel_rfl
theorem g78:okF fc78 Try.f78=true:=by kernel_rfl
theorem g79:okF fc79 Try.f79=true:=by kernel_rfl
theorem g80:okF fc80 Try.f80=true:=by kernel_rfl
theorem g81:okF fc81 Try.f81=true:=by kernel_rfl
theorem g92:okF fc92 Try.f92=true:=by kernel_rfl
theorem g96:okF fc96 Try.f96=true:=by kernel_rfl
theorem g100:okF fc100 Try.f100=true:=by kernel_rfl
theorem g110:okF fc110 Try.f110=true:=by kernel_rfl
theorem g111:okF fc111 Try.f111=true:=by kernel_rfl
theorem g113:okF fc113 Try.f113=true:=by kernel_rfl
theorem g114:okF fc114 Try.f114=true:=by kernel_rfl
theorem g115:okF fc115 Try.f115=true:=by kernel_rfl
theorem g116:okF fc116 Try.f116=true:=by kernel_rfl
theorem g131:okF fc131 Try.f131=true:=by kernel_rfl
theorem g134:okF fc134 Try.f134=true:=by kernel_rfl
theorem g135:okF fc135 Try.f135=true:=by kernel_rfl
theorem g137:okF fc137 Try.f137=true:=by kernel_rfl
theorem g139:okF fc139 Try.f139=true:=by kernel_rfl
theorem g154:okF fc154 Try.f154=true:=by kernel_rfl
theorem g155:okF fc155 Try.f155=true:=by kernel_rfl
theorem g156:okF fc156 Try.f156=true:=by kernel_rfl
theorem g157:okF fc157 Try.f157=true:=by kernel_rfl
theorem g158:okF fc158 Try.f158=true:=by kernel_rfl
theorem g159:okF fc159 Try.f159=true:=by kernel_rfl
theorem g160:okF fc160 Try.f160=true:=by kernel_rfl
theorem g161:okF fc161 Try.f161=true:=by kernel_rfl
theorem g162:okF fc162 Try.f162=true:=by kernel_rfl
theorem g163:okF fc163 Try.f163=true:=by kernel_rfl
theorem g164:okF fc164 Try.f164=true:=by kernel_rfl
theorem g165:okF fc165 Try.f165=true:=by kernel_rfl
theorem g166:okF fc166 Try.f166=true:=by kernel_rfl
theorem g167:okF fc167 Try.f167=true:=by kernel_rfl
theorem g168:okF fc168 Try.f168=true:=by kernel_rfl
theorem g184:okF fc184 Try.f184=true:=by kernel_rfl
theorem g188:okF fc188 Try.f188=true:=by kernel_rfl
theorem g193:okF fc193 Try.f193=true:=by kernel_rfl
theorem g201:okF fc201 Try.f201=true:=by kernel_rfl
theorem g204:okF fc204 Try.f204=true:=by kernel_rfl
theorem g205:okF fc205 Try.f205=true:=by kernel_rfl
theorem g206:okF fc206 Try.f206=true:=by kernel_rfl
theorem g207:okF fc207 Try.f207=true:=by kernel_rfl
theorem g245:okF fc245 Try.f245=true:=by kernel_rfl
theorem g246:okF fc246 Try.f246=true:=by kernel_rfl
theorem g247:okF fc247 Try.f247=true:=by kernel_rfl
theorem g248:okF fc248 Try.f248=true:=by kernel_rfl
theorem g249:okF fc249 Try.f249=true:=by kernel_rfl
theorem g250:okF fc250 Try.f250=true:=by kernel_rfl
theorem g251:okF fc251 Try.f251=true:=by kernel_rfl
theorem g252:okF fc252 Try.f252=true:=by kernel_rfl
theorem g253:okF fc253 Try.f253=true:=by kernel_rfl
theorem g254:okF fc254 Try.f254=true:=by kernel_rfl
theorem g255:okF fc255 Try.f255=true:=by kernel_rfl
theorem g256:okF fc256 Try.f256=true:=by kernel_rfl
theorem g257:okF fc257 Try.f257=true:=by kernel_rfl
theorem g258:okF fc258 Try.f258=true:=by kernel_rfl
theorem g259:okF fc259 Try.f259=true:=by kernel_rfl
theorem g260:okF fc260 Try.f260=true:=by kernel_rfl
theorem g261:okF fc261 Try.f261=true:=by kernel_rfl
theorem g262:okF fc262 Try.f262=true:=by kernel_rfl
theorem g263:okF fc263 Try.f263=true:=by kernel_rfl
theorem g264:okF fc264 Try.f264=true:=by kernel_rfl
theorem g265:okF fc265 Try.f265=true:=by kernel_rfl
theorem g266:okF fc266 Try.f266=true:=by kernel_rfl
theorem g283:okF fc283 Try.f283=true:=by kernel_rfl
theorem g284:okF fc284 Try.f284=true:=by kernel_rfl
theorem g313:okF fc313 Try.f313=true:=by kernel_rfl
theorem g314:okF fc314 Try.f314=true:=by kernel_rfl
theorem g315:okF fc315 Try.f315=true:=by kernel_rfl
theorem g316:okF fc316 Try.f316=true:=by kernel_rfl
theorem g317:okF fc317 Try.f317=true:=by kernel_rfl
theorem g318:okF fc318 Try.f318=true:=by kernel_rfl
theorem g350:okF fc350 Try.f350=true:=by kernel_rfl
theorem g351:okF fc351 Try.f351=true:=by kernel_rfl
theorem g352:okF fc352 Try.f352=true:=by kernel_rfl
theorem g353:okF fc353 Try.f353=true:=by kernel_rfl
theorem mixed:Try.prog.follows .mixedOrders=true:=by kernel_rfl
theorem cfgOK:CfgOK Try.prog cfg:=by
 refine cfgOK_ext mixed ?_ fun f g hg=>?_
 ·unfold ons
  simp only [List.forall_mem_cons]
  exact ⟨⟨_,Try.func14,g14⟩,⟨_,Try.func22,g22⟩,⟨_,Try.func24,g24⟩,⟨_,Try.func27,g27⟩,⟨_,Try.func36,g36⟩,⟨_,Try.func38,g38⟩,⟨_,Try.func39,g39⟩,⟨_,Try.func41,g41⟩,⟨_,Try.func59,g59⟩,⟨_,Try.func61,g61⟩,⟨_,Try.func63,g63⟩,⟨_,Try.func77,g77⟩,⟨_,Try.func78,g78⟩,⟨_,Try.func79,g79⟩,⟨_,Try.func80,g80⟩,⟨_,Try.func81,g81⟩,⟨_,Try.func92,g92⟩,⟨_,Try.func96,g96⟩,⟨_,Try.func100,g100⟩,⟨_,Try.func110,g110⟩,⟨_,Try.func111,g111⟩,⟨_,Try.func113,g113⟩,⟨_,Try.func114,g114⟩,⟨_,Try.func115,g115⟩,⟨_,Try.func116,g116⟩,⟨_,Try.func131,g131⟩,⟨_,Try.func134,g134⟩,⟨_,Try.func135,g135⟩,⟨_,Try.func137,g137⟩,⟨_,Try.func139,g139⟩,⟨_,Try.func154,g154⟩,⟨_,Try.func155,g155⟩,⟨_,Try.func156,g156⟩,⟨_,Try.func157,g157⟩,⟨_,Try.func158,g158⟩,⟨_,Try.func159,g159⟩,⟨_,Try.func160,g160⟩,⟨_,Try.func161,g161⟩,⟨_,Try.func162,g162⟩,⟨_,Try.func163,g163⟩,⟨_,Try.func164,g164⟩,⟨_,Try.func165,g165⟩,⟨_,Try.func166,g166⟩,⟨_,Try.func167,g167⟩,⟨_,Try.func168,g168⟩,⟨_,Try.func184,g184⟩,⟨_,Try.func188,g188⟩,⟨_,Try.func193,g193⟩,⟨_,Try.func201,g201⟩,⟨_,Try.func204,g204⟩,⟨_,Try.func205,g205⟩,⟨_,Try.func206,g206⟩,⟨_,Try.func207,g207⟩,⟨_,Try.func245,g245⟩,⟨_,Try.func246,g246⟩,⟨_,Try.func247,g247⟩,⟨_,Try.func248,g248⟩,⟨_,Try.func249,g249⟩,⟨_,Try.func250,g250⟩,⟨_,Try.func251,g251⟩,⟨_,Try.func252,g252⟩,⟨_,Try.func253,g253⟩,⟨_,Try.func254,g254⟩,⟨_,Try.func255,g255⟩,⟨_,Try.func256,g256⟩,⟨_,Try.func257,g257⟩,⟨_,Try.func258,g258⟩,⟨_,Try.func259,g259⟩,⟨_,Try.func260,g260⟩,⟨_,Try.func261,g261⟩,⟨_,Try.func262,g262⟩,⟨_,Try.func263,g263⟩,⟨_,Try.func264,g264⟩,⟨_,Try.func265,g265⟩,⟨_,Try.func266,g266⟩,⟨_,Try.func283,g283⟩,⟨_,Try.func284,g284⟩,⟨_,Try.func313,g313⟩,⟨_,Try.func314,g314⟩,⟨_,Try.func315,g315⟩,⟨_,Try.func316,g316⟩,⟨_,Try.func317,g317⟩,⟨_,Try.func318,g318⟩,⟨_,Try.func350,g350⟩,⟨_,Try.func351,g351⟩,⟨_,Try.func352,g352⟩,⟨_,Try.func353,g353⟩,fun _ h=>by cases h⟩
 cases hg
theorem laid:laidOutB Try.prog=true:=by kernel_rfl
theorem rowed:mapsRowed Try.prog=true:=by kernel_rfl
theorem sized:slicesSized Try.prog=true:=by kernel_rfl
def ok_S_Point (x:S_Point):Prop:=(Lit.int .i64 x.X).wf=true∧(Lit.int .i64 x.Y).wf=true
theorem o291:Opens Try.prog 291 (fun x:S_Point=>(e_S_Point x).cells) ok_S_Point:=
 opens_map (fun p:Int×Int×Unit=>⟨p.1,p.2.1⟩)
  (opens_struct Try.underlying291 (by kernel_rfl) (opensF_cons (s:=1) (by kernel_rfl) rfl (opens_int Try.underlying2) (opensF_cons (s:=1) (by kernel_rfl) rfl (opens_int Try.underlying2) opensF_nil)))
  (fun _=>rfl) (fun _ h=>⟨h.1,h.2.1⟩)
def ok_S_Face (x:S_Face):Prop:=x.Name.size≤maxLen∧((∀a∈x.Ring,(Lit.int .i64 a).wf=true)∧x.Ring.length≤maxLen)
theorem o287:Opens Try.prog 287 (fun x:S_Face=>(e_S_Face x).cells) ok_S_Face:=
 opens_map (fun p:ByteArray×(List Int)×Unit=>⟨p.1,p.2.1⟩)
  (opens_struct Try.underlying287 (by kernel_rfl) (opensF_cons (s:=1) (by kernel_rfl) rfl (opens_string Try.underlying9) (opensF_cons (s:=1) (by kernel_rfl) rfl (opens_slice (e:=2) (sz:=1) (ee:=eI) Try.underlying28 (by kernel_rfl) (by decide) (fun _=>rfl) (fun _=>rfl) (opens_int Try.underlying2)) opensF_nil)))
  (fun _=>rfl) (fun _ h=>⟨h.1,h.2.1⟩)
def ok_S_Drawing (x:S_Drawing):Prop:=(Lit.int .i64 x.Width).wf=true∧(Lit.int .i64 x.Height).wf=true∧((∀a∈x.Points,ok_S_Point a)∧x.Points.length≤maxLen)∧((∀a∈x.Faces,ok_S_Face a)∧x.Faces.length≤maxLen)
theorem o56:Opens Try.prog 56 (fun x:S_Drawing=>(e_S_Drawing x).cells) ok_S_Drawing:=
 opens_map (fun p:Int×Int×(List S_Point)×(List S_Face)×Unit=>⟨p.1,p.2.1,p.2.2.1,p.2.2.2.1⟩)
  (opens_struct Try.underlying56 (by kernel_rfl) (opensF_cons (s:=1) (by kernel_rfl) rfl (opens_int Try.underlying2) (opensF_cons (s:=1) (by kernel_rfl) rfl (opens_int Try.underlying2) (opensF_cons (s:=1) (by kernel_rfl) rfl (opens_slice (e:=291) (sz:=2) (ee:=e_S_Point) Try.underlying53 (by kernel_rfl) (by decide) (fun _=>rfl) (fun _=>rfl) o291) (opensF_cons (s:=1) (by kernel_rfl) rfl (opens_slice (e:=287) (sz:=2) (ee:=e_S_Face) Try.underlying54 (by kernel_rfl) (by decide) (fun _=>rfl) (fun _=>rfl) o287) opensF_nil)))))
  (fun _=>rfl) (fun _ h=>⟨h.1,h.2.1,h.2.2.1,h.2.2.2.1⟩)
def ok_S_Veneer (x:S_Veneer):Prop:=x.Species.size≤maxLen∧(Lit.int .i64 x.Shade).wf=true∧(Lit.int .i64 x.Grain).wf=true
theorem o156:Opens Try.prog 156 (fun x:S_Veneer=>(e_S_Veneer x).cells) ok_S_Veneer:=
 opens_map (fun p:ByteArray×Int×Int×Unit=>⟨p.1,p.2.1,p.2.2.1⟩)
  (opens_struct Try.underlying156 (by kernel_rfl) (opensF_cons (s:=1) (by kernel_rfl) rfl (opens_string Try.underlying9) (opensF_cons (s:=1) (by kernel_rfl) rfl (opens_int Try.underlying2) (opensF_cons (s:=1) (by kernel_rfl) rfl (opens_int Try.underlying2) opensF_nil))))
  (fun _=>rfl) (fun _ h=>⟨h.1,h.2.1,h.2.2.1⟩)
def ok_S_Picture (x:S_Picture):Prop:=ok_S_Drawing x.Drawing∧((∀a∈x.Veneers,ok_S_Veneer a)∧x.Veneers.length≤maxLen)
theorem o110:Opens Try.prog 110 (fun x:S_Picture=>(e_S_Picture x).cells) ok_S_Picture:=
 opens_map (fun p:S_Drawing×(List S_Veneer)×Unit=>⟨p.1,p.2.1⟩)
  (opens_struct Try.underlying110 (by kernel_rfl) (opensF_cons (s:=4) (by kernel_rfl) rfl o56 (opensF_cons (s:=1) (by kernel_rfl) rfl (opens_slice (e:=156) (sz:=3) (ee:=e_S_Veneer) Try.underlying81 (by kernel_rfl) (by decide) (fun _=>rfl) (fun _=>rfl) o156) opensF_nil)))
  (fun _=>rfl) (fun _ h=>⟨h.1,h.2.1⟩)
def ok_S_Box (x:S_Box):Prop:=(Lit.int .i64 x.X).wf=true∧(Lit.int .i64 x.Y).wf=true∧(Lit.int .i64 x.Width).wf=true∧(Lit.int .i64 x.Length).wf=true
theorem o349:Opens Try.prog 349 (fun x:S_Box=>(e_S_Box x).cells) ok_S_Box:=
 opens_map (fun p:Int×Int×Int×Int×Unit=>⟨p.1,p.2.1,p.2.2.1,p.2.2.2.1⟩)
  (opens_struct Try.underlying349 (by kernel_rfl) (opensF_cons (s:=1) (by kernel_rfl) rfl (opens_int Try.underlying2) (opensF_cons (s:=1) (by kernel_rfl) rfl (opens_int Try.underlying2) (opensF_cons (s:=1) (by kernel_rfl) rfl (opens_int Try.underlying2) (opensF_cons (s:=1) (by kernel_rfl) rfl (opens_int Try.underlying2) opensF_nil)))))
  (fun _=>rfl) (fun _ h=>⟨h.1,h.2.1,h.2.2.1,h.2.2.2.1⟩)
def ok_S_Leaf (x:S_Leaf):Prop:=x.Id.size≤maxLen∧x.Flitch.size≤maxLen∧(Lit.int .i64 x.Number).wf=true∧ok_S_Veneer x.Veneer∧(Lit.int .i64 x.Width).wf=true∧(Lit.int .i64 x.Length).wf=true∧((∀a∈x.Defects,ok_S_Box a)∧x.Defects.length≤maxLen)
theorem o159:Opens Try.prog 159 (fun x:S_Leaf=>(e_S_Leaf x).cells) ok_S_Leaf:=
 opens_map (fun p:ByteArray×ByteArray×Int×S_Veneer×Int×Int×(List S_Box)×Unit=>⟨p.1,p.2.1,p.2.2.1,p.2.2.2.1,p.2.2.2.2.1,p.2.2.2.2.2.1,p.2.2.2.2.2.2.1⟩)
  (opens_struct Try.underlying159 (by kernel_rfl) (opensF_cons (s:=1) (by kernel_rfl) rfl (opens_string Try.underlying9) (opensF_cons (s:=1) (by kernel_rfl) rfl (opens_string Try.underlying9) (opensF_cons (s:=1) (by kernel_rfl) rfl (opens_int Try.underlying2) (opensF_cons (s:=3) (by kernel_rfl) rfl o156 (opensF_cons (s:=1) (by kernel_rfl) rfl (opens_int Try.underlying2) (opensF_cons (s:=1) (by kernel_rfl) rfl (opens_int Try.underlying2) (opensF_cons (s:=1) (by kernel_rfl) rfl (opens_slice (e:=349) (sz:=4) (ee:=e_S_Box) Try.underlying157 (by kernel_rfl) (by decide) (fun _=>rfl) (fun _=>rfl) o349) opensF_nil))))))))
  (fun _=>rfl) (fun _ h=>⟨h.1,h.2.1,h.2.2.1,h.2.2.2.1,h.2.2.2.2.1,h.2.2.2.2.2.1,h.2.2.2.2.2.2.1⟩)
def ok_S_Placement (x:S_Placement):Prop:=(Lit.int .i64 x.Face).wf=true∧(Lit.int .i64 x.Leaf).wf=true∧(Lit.int .i64 x.X).wf=true∧(Lit.int .i64 x.Y).wf=true∧(Lit.int .i64 x.Turn).wf=true
theorem o382:Opens Try.prog 382 (fun x:S_Placement=>(e_S_Placement x).cells) ok_S_Placement:=
 opens_map (fun p:Int×Int×Int×Int×Int×Unit=>⟨p.1,p.2.1,p.2.2.1,p.2.2.2.1,p.2.2.2.2.1⟩)
  (opens_struct Try.underlying382 (by kernel_rfl) (opensF_cons (s:=1) (by kernel_rfl) rfl (opens_int Try.underlying2) (opensF_cons (s:=1) (by kernel_rfl) rfl (opens_int Try.underlying2) (opensF_cons (s:=1) (by kernel_rfl) rfl (opens_int Try.underlying2) (opensF_cons (s:=1) (by kernel_rfl) rfl (opens_int Try.underlying2) (opensF_cons (s:=1) (by kernel_rfl) rfl (opens_int Try.underlying2) opensF_nil))))))
  (fun _=>rfl) (fun _ h=>⟨h.1,h.2.1,h.2.2.1,h.2.2.2.1,h.2.2.2.2.1⟩)
def ok_S_Rules (x:S_Rules):Prop:=(Lit.int .i64 x.Spacing).wf=true∧(Lit.int .i64 x.Margin).wf=true∧(Lit.int .i64 x.Angle).wf=true∧(Lit.int .i64 x.Shade).wf=true
theorem o113:Opens Try.prog 113 (fun x:S_Rules=>(e_S_Rules x).cells) ok_S_Rules:=
 opens_map (fun p:Int×Int×Int×Int×Unit=>⟨p.1,p.2.1,p.2.2.1,p.2.2.2.1⟩)
  (opens_struct Try.underlying113 (by kernel_rfl) (opensF_cons (s:=1) (by kernel_rfl) rfl (opens_int Try.underlying2) (opensF_cons (s:=1) (by kernel_rfl) rfl (opens_int Try.underlying2) (opensF_cons (s:=1) (by kernel_rfl) rfl (opens_int Try.underlying2) (opensF_cons (s:=1) (by kernel_rfl) rfl (opens_int Try.underlying2) opensF_nil)))))
  (fun _=>rfl) (fun _ h=>⟨h.1,h.2.1,h.2.2.1,h.2.2.2.1⟩)
def ok_S_Job (x:S_Job):Prop:=ok_S_Picture x.Picture∧((∀a∈x.Leaves,ok_S_Leaf a)∧x.Leaves.length≤maxLen)∧((∀a∈x.Placements,ok_S_Placement a)∧x.Placements.length≤maxLen)∧ok_S_Rules x.Rules∧(Lit.int .i64 x.Thickness).wf=true∧(Lit.int .i64 x.Kerf).wf=true∧(Lit.int .i64 x.Bevel).wf=true∧(Lit.int .i64 x.Gap).wf=true∧((∀a∈x.Order,(Lit.int .i64 a).wf=true)∧x.Order.length≤maxLen)∧((∀a∈x.Cuts,(Lit.int .i64 a).wf=true)∧x.Cuts.length≤maxLen)
theorem o115:Opens Try.prog 115 (fun x:S_Job=>(e_S_Job x).cells) ok_S_Job:=
 opens_map (fun p:S_Picture×(List S_Leaf)×(List S_Placement)×S_Rules×Int×Int×Int×Int×(List Int)×(List Int)×Unit=>⟨p.1,p.2.1,p.2.2.1,p.2.2.2.1,p.2.2.2.2.1,p.2.2.2.2.2.1,p.2.2.2.2.2.2.1,p.2.2.2.2.2.2.2.1,p.2.2.2.2.2.2.2.2.1,p.2.2.2.2.2.2.2.2.2.1⟩)
  (opens_struct Try.underlying115 (by kernel_rfl) (opensF_cons (s:=5) (by kernel_rfl) rfl o110 (opensF_cons (s:=1) (by kernel_rfl) rfl (opens_slice (e:=159) (sz:=9) (ee:=e_S_Leaf) Try.underlying39 (by kernel_rfl) (by decide) (fun _=>rfl) (fun _=>rfl) o159) (opensF_cons (s:=1) (by kernel_rfl) rfl (opens_slice (e:=382) (sz:=5) (ee:=e_S_Placement) Try.underlying111 (by kernel_rfl) (by decide) (fun _=>rfl) (fun _=>rfl) o382) (opensF_cons (s:=4) (by kernel_rfl) rfl o113 (opensF_cons (s:=1) (by kernel_rfl) rfl (opens_int Try.underlying2) (opensF_cons (s:=1) (by kernel_rfl) rfl (opens_int Try.underlying2) (opensF_cons (s:=1) (by kernel_rfl) rfl (opens_int Try.underlying2) (opensF_cons (s:=1) (by kernel_rfl) rfl (opens_int Try.underlying2) (opensF_cons (s:=1) (by kernel_rfl) rfl (opens_slice (e:=2) (sz:=1) (ee:=eI) Try.underlying28 (by kernel_rfl) (by decide) (fun _=>rfl) (fun _=>rfl) (opens_int Try.underlying2)) (opensF_cons (s:=1) (by kernel_rfl) rfl (opens_slice (e:=2) (sz:=1) (ee:=eI) Try.underlying28 (by kernel_rfl) (by decide) (fun _=>rfl) (fun _=>rfl) (opens_int Try.underlying2)) opensF_nil)))))))))))
  (fun _=>rfl) (fun _ h=>⟨h.1,h.2.1,h.2.2.1,h.2.2.2.1,h.2.2.2.2.1,h.2.2.2.2.2.1,h.2.2.2.2.2.2.1,h.2.2.2.2.2.2.2.1,h.2.2.2.2.2.2.2.2.1,h.2.2.2.2.2.2.2.2.2.1⟩)
def ok_S_Bond (x:S_Bond):Prop:=x.Name.size≤maxLen∧(Lit.int .i64 x.Spread).wf=true∧(Lit.int .i64 x.Open).wf=true∧(Lit.int .i64 x.Press).wf=true
theorem o319:Opens Try.prog 319 (fun x:S_Bond=>(e_S_Bond x).cells) ok_S_Bond:=
 opens_map (fun p:ByteArray×Int×Int×Int×Unit=>⟨p.1,p.2.1,p.2.2.1,p.2.2.2.1⟩)
  (opens_struct Try.underlying319 (by kernel_rfl) (opensF_cons (s:=1) (by kernel_rfl) rfl (opens_string Try.underlying9) (opensF_cons (s:=1) (by kernel_rfl) rfl (opens_int Try.underlying2) (opensF_cons (s:=1) (by kernel_rfl) rfl (opens_int Try.underlying2) (opensF_cons (s:=1) (by kernel_rfl) rfl (opens_int Try.underlying2) opensF_nil)))))
  (fun _=>rfl) (fun _ h=>⟨h.1,h.2.1,h.2.2.1,h.2.2.2.1⟩)
def ok_S_Coat (x:S_Coat):Prop:=x.Name.size≤maxLen∧(Lit.int .i64 x.Work).wf=true∧(Lit.int .i64 x.Dry).wf=true∧(Lit.int .i64 x.Wait).wf=true
theorem o321:Opens Try.prog 321 (fun x:S_Coat=>(e_S_Coat x).cells) ok_S_Coat:=
 opens_map (fun p:ByteArray×Int×Int×Int×Unit=>⟨p.1,p.2.1,p.2.2.1,p.2.2.2.1⟩)
  (opens_struct Try.underlying321 (by kernel_rfl) (opensF_cons (s:=1) (by kernel_rfl) rfl (opens_string Try.underlying9) (opensF_cons (s:=1) (by kernel_rfl) rfl (opens_int Try.underlying2) (opensF_cons (s:=1) (by kernel_rfl) rfl (opens_int Try.underlying2) (opensF_cons (s:=1) (by kernel_rfl) rfl (opens_int Try.underlying2) opensF_nil)))))
  (fun _=>rfl) (fun _ h=>⟨h.1,h.2.1,h.2.2.1,h.2.2.2.1⟩)
def ok_S_Rates (x:S_Rates):Prop:=(Lit.int .i64 x.Hour).wf=true∧(Lit.int .i64 x.Edge).wf=true∧(Lit.int .i64 x.Face).wf=true∧(Lit.int .i64 x.Waste).wf=true∧(Lit.int .i64 x.Margin).wf=true
theorem o119:Opens Try.prog 119 (fun x:S_Rates=>(e_S_Rates x).cells) ok_S_Rates:=
 opens_map (fun p:Int×Int×Int×Int×Int×Unit=>⟨p.1,p.2.1,p.2.2.1,p.2.2.2.1,p.2.2.2.2.1⟩)
  (opens_struct Try.underlying119 (by kernel_rfl) (opensF_cons (s:=1) (by kernel_rfl) rfl (opens_int Try.underlying2) (opensF_cons (s:=1) (by kernel_rfl) rfl (opens_int Try.underlying2) (opensF_cons (s:=1) (by kernel_rfl) rfl (opens_int Try.underlying2) (opensF_cons (s:=1) (by kernel_rfl) rfl (opens_int Try.underlying2) (opensF_cons (s:=1) (by kernel_rfl) rfl (opens_int Try.underlying2) opensF_nil))))))
  (fun _=>rfl) (fun _ h=>⟨h.1,h.2.1,h.2.2.1,h.2.2.2.1,h.2.2.2.2.1⟩)
def ok_S_Desk (x:S_Desk):Prop:=ok_S_Job x.Job∧((∀a∈x.Bonds,ok_S_Bond a)∧x.Bonds.length≤maxLen)∧((∀a∈x.Coats,ok_S_Coat a)∧x.Coats.length≤maxLen)∧ok_S_Rates x.Rates
theorem o121:Opens Try.prog 121 (fun x:S_Desk=>(e_S_Desk x).cells) ok_S_Desk:=
 opens_map (fun p:S_Job×(List S_Bond)×(List S_Coat)×S_Rates×Unit=>⟨p.1,p.2.1,p.2.2.1,p.2.2.2.1⟩)
  (opens_struct Try.underlying121 (by kernel_rfl) (opensF_cons (s:=17) (by kernel_rfl) rfl o115 (opensF_cons (s:=1) (by kernel_rfl) rfl (opens_slice (e:=319) (sz:=4) (ee:=e_S_Bond) Try.underlying116 (by kernel_rfl) (by decide) (fun _=>rfl) (fun _=>rfl) o319) (opensF_cons (s:=1) (by kernel_rfl) rfl (opens_slice (e:=321) (sz:=4) (ee:=e_S_Coat) Try.underlying117 (by kernel_rfl) (by decide) (fun _=>rfl) (fun _=>rfl) o321) (opensF_cons (s:=5) (by kernel_rfl) rfl o119 opensF_nil)))))
  (fun _=>rfl) (fun _ h=>⟨h.1,h.2.1,h.2.2.1,h.2.2.2.1⟩)
namespace fnExactSameDesk
theorem own:ownKnob Try.prog.godebug=none:=by kernel_rfl
theorem lifted (os:Os) (started:os.Started) (H:Type) (enc:TypeId×Value→H):
 ReturnsInHanded {} Try.checked os 14 .any (Rows.fnExactSameDeskSpec.pre6 enc Try.prog Try.f14 Rows.fnExactSameDeskRow.domain false) (Rows.fnExactSameDeskSpec.post enc Try.prog Try.f14 false true false false):=by
 refine returnsInHanded_of_change_sized (C:=Try.checked) own started (by kernel_rfl) Try.func14
  (ChangeSpec.witness6 (enc:=enc) (C:=Try.checked) false ⟨#[],#[.agg #[.int .i64 0,.int .i64 0,.slice none 0 0,.slice none 0 0,.slice none 0 0,.slice none 0 0,.slice none 0 0,.int .i64 0,.int .i64 0,.int .i64 0,.int .i64 0,.int .i64 0,.int .i64 0,.int .i64 0,.int .i64 0,.slice none 0 0,.slice none 0 0,.slice none 0 0,.slice none 0 0,.int .i64 0,.int .i64 0,.int .i64 0,.int .i64 0,.int .i64 0],.agg #[.int .i64 0,.int .i64 0,.slice none 0 0,.slice none 0 0,.slice none 0 0,.slice none 0 0,.slice none 0 0,.int .i64 0,.int .i64 0,.int .i64 0,.int .i64 0,.int .i64 0,.int .i64 0,.int .i64 0,.int .i64 0,.slice none 0 0,.slice none 0 0,.slice none 0 0,.slice none 0 0,.int .i64 0,.int .i64 0,.int .i64 0,.int .i64 0,.int .i64 0]],[]⟩ 8 (by kernel_rfl) (by kernel_rfl) (by kernel_rfl) (by kernel_rfl)) ?_
 intro W base args ds gs before hval0 hW hcnd hsz0 _
 have hval:∀(j:Nat) t v,Try.f14.params[j]?=some t→args[j]?=some v→Value.okWide Try.prog W .any base t v:=hval0
 have hW':=hW
 obtain ⟨p,q,hA0,hV,rfl,hfz,hnd⟩:=hW
 have hA:DataW.TrodAll enc Try.prog W 0 (fun _=>true) true Try.f14.params.toList args.toList ds p:=hA0
 rw [Try.params14] at hA hval
 obtain ⟨v0,vs0,d0,ds0,p0,q0,hargs0,rfl,rfl,h0,r0⟩:=ChangeShapes.trodAll_cons hA
 clear hA0
 obtain ⟨v1,vs1,d1,ds1,p1,q1,hargs1,rfl,rfl,h1,r1⟩:=ChangeShapes.trodAll_cons r0
 obtain ⟨rfl,rfl,rfl⟩:=ChangeShapes.trodAll_nil r1
 subst hargs1
 obtain rfl:args=#[v0,v1]:=by cases args;simp_all
 obtain ⟨rfl,rfl⟩:=ChangeShapes.trodVars_none hV
 obtain ⟨a0,k0,w0⟩:=arg_agg (tt:=2) o121 Try.underlying121 (hval 0 121 v0 rfl rfl) h0
 obtain ⟨a1,k1,w1⟩:=arg_agg (tt:=2) o121 Try.underlying121 (hval 1 121 v1 rfl rfl) h1
 refine (rowCalls cfgOK (L_laws_FnExactSameDesk (law_SameDesk a0 a1 w0 w1)) (show ArgVs _ _ _ [v0,v1] from (.cons k0 (.cons k1 .nil)))).mono fun e W' ⟨he,hio,_,hb⟩=>?_
 exact ⟨_,he,row_post Try.underlying4 rfl rfl hW' rfl (kids_rows laid rowed) sized (by decide) hio hb⟩
theorem and2 {a b:Bool} (h1:a=true) (h2:b=true):(a&&b)=true:=by rw [h1,h2];rfl
set_option maxHeartbeats 4000000 in
theorem closed:joinedFacts Try.prog 14 Try.f14 Rows.fnExactSameDeskSpec Rows.fnExactSameDeskRow=true:=by
 unfold joinedFacts
 repeat' with_reducible refine and2 ?_ ?_
 all_goals (as_aux_lemma=>kernel_rfl)
theorem over:Rows.fnExactSameDeskRow.holds Try.pinned (OpenSpec.ofChange Rows.fnExactSameDeskSpec):=
 OpenClaim.holds_of_wide 14 Try.f14 rfl rfl rfl rfl rfl rfl rfl ⟨rfl,rfl,rfl,rfl,rfl⟩ rfl rfl rfl rfl rfl (by kernel_rfl) Try.func14 closed
  (of_decide_eq_true (by kernel_rfl)) (by unfold Func.isWrapper;first | (rw [if_pos (by decide+kernel)];kernel_rfl) | (rw [if_neg (by decide+kernel)];exact ⟨rfl,rfl⟩))
  (fun os started H enc _=>lifted os started H enc)
theorem proved:Rows.FnExactSameDeskSaid:=over
#print axioms proved
end fnExactSameDesk
theorem fnExactSameDesk_holds:Rows.FnExactSameDeskSaid:=fnExactSameDesk.proved
end Go.Proofs.Ytambonpepalofaa
