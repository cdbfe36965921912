/- FnExactValidDesk: whatever the arguments, the law answers true, and the arguments read as they did. Conditions: none beyond those of the row. -/
import Derived.Test.YtonnimmkimccfaaGreatRows
import Derived.Test.YtonnimmkimccfaaGreatTvdL
import Derived.Test.YtonnimmkimccfaaGreatTvdP
import Derived.Test.YtonnimmkimccfaaGreatSimRk
import Derived.WalkKit
import Derived.ProofKit
import Derived.OpenShut
import Derived.ShutString
import Derived.ChangeOld
import Derived.Below
import Derived.SizedLaws
namespace Go.Proofs.YtonnimmkimccfaaGreat
open Go Go.Sim Go.Pw Go.Proofs
set_option linter.unusedVariables false
set_option maxRecDepth 100000
theorem g7:okF fc7 Tryz.f7=true:=by kernel_rfl
theorem g8:okF fc8 Tryz.f8=true:=by kernel_rfl
theorem g10:okF fc10 Tryz.f10=true:=by kernel_rfl
theorem g11:okF fc11 Tryz.f11=true:=by kernel_rfl
theorem g12:okF fc12 Tryz.f12=true:=by kernel_rfl
theorem g13:okF fc13 Tryz.f13=true:=by kernel_rfl
theorem g14:okF fc14 Tryz.f14=true:=by kernel_rfl
theorem g16:okF fc16 Tryz.f16=true:=by kernel_rfl
theorem g17:okF fc17 Tryz.f17=true:=by kernel_rfl
theorem g19:okF fc19 Tryz.f19=true:=by kernel_rfl
theorem g20:okF fc20 Tryz.f20=true:=by kernel_rfl
theorem g21:okF fc21 Tryz.f21=true:=by kernel_rfl
theorem g30:okF fc30 Tryz.f30=true:=by kernel_rfl
theorem g31:okF fc31 Tryz.f31=true:=by kernel_rfl
theorem g32:okF fc32 Tryz.f32=true:=by kernel_rfl
theorem g33:okF fc33 Tryz.f33=true:=by kernel_rfl
theorem g34:okF fc34 Tryz.f34=true:=by kernel_rfl
theorem g35:okF fc35 Tryz.f35=true:=by kernel_rfl
theorem g36:okF fc36 Tryz.f36=true:=by kernel_rfl
theorem g37:okF fc37 Tryz.f37=true:=by kernel_rfl
theorem g38:okF fc38 Tryz.f38=true:=by kernel_rfl
theorem g39:okF fc39 Tryz.f39=true:=by kernel_rfl
theorem g40:okF fc40 Tryz.f40=true:=by kernel_rfl
theorem g41:okF fc41 Tryz.f41=true:=by kernel_rfl
theorem g42:okF fc42 Tryz.f42=true:=by kernel_rfl
theorem g43:okF fc43 Tryz.f43=true:=by kernel_rfl
theorem g44:okF fc44 Tryz.f44=true:=by kernel_rfl
theorem g45:okF fc45 Tryz.f45=true:=by kernel_rfl
theorem g46:okF fc46 Tryz.f46=true:=by kernel_rfl
theorem g47:okF fc47 Tryz.f47=true:=by kernel_rfl
theorem g48:okF fc48 Tryz.f48=true:=by kernel_rfl
theorem g49:okF fc49 Tryz.f49=true:=by kernel_rfl
theorem g50:okF fc50 Tryz.f50=true:=by kernel_rfl
theorem g51:okF fc51 Tryz.f51=true:=by kernel_rfl
theorem g52:okF fc52 Tryz.f52=true:=by kernel_rfl
theorem g53:okF fc53 Tryz.f53=true:=by kernel_rfl
theorem g54:okF fc54 Tryz.f54=true:=by kernel_rfl
theorem g55:okF fc55 Tryz.f55=true:=by kernel_rfl
theorem g56:okF fc56 Tryz.f56=true:=by kernel_rfl
theorem g57:okF fc57 Tryz.f57=true:=by kernel_rfl
theorem g62:okF fc62 Tryz.f62=true:=by kernel_rfl
theorem g63:okF fc63 Tryz.f63=true:=by kernel_rfl
theorem g64:okF fc64 Tryz.f64=true:=by kernel_rfl
theorem g68:okF fc68 Tryz.f68=true:=by kernel_rfl
theorem g69:okF fc69 Tryz.f69=true:=by kernel_rfl
theorem g70:okF fc70 Tryz.f70=true:=by kernel_rfl
theorem g74:okF fc74 Tryz.f74=true:=by kernel_rfl
theorem g75:okF fc75 Tryz.f75=true:=by kernel_rfl
theorem g76:okF fc76 Tryz.f76=true:=by kernel_rfl
theorem g77:okF fc77 Tryz.f77=true:=by kernel_rfl
theorem g78:okF fc78 Tryz.f78=true:=by kernel_rfl
theorem g79:okF fc79 Tryz.f79=true:=by kernel_rfl
theorem g80:okF fc80 Tryz.f80=true:=by kernel_rfl
theorem g81:okF fc81 Tryz.f81=true:=by kernel_rfl
theorem g82:okF fc82 Tryz.f82=true:=by kernel_rfl
theorem g83:okF fc83 Tryz.f83=true:=by kernel_rfl
theorem g84:okF fc84 Tryz.f84=true:=by kernel_rfl
theorem g85:okF fc85 Tryz.f85=true:=by kernel_rfl
theorem g86:okF fc86 Tryz.f86=true:=by kernel_rfl
theorem g87:okF fc87 Tryz.f87=true:=by kernel_rfl
theorem g88:okF fc88 Tryz.f88=true:=by kernel_rfl
theorem g89:okF fc89 Tryz.f89=true:=by kernel_rfl
theorem g90:okF fc90 Tryz.f90=true:=by kernel_rfl
theorem g91:okF fc91 Tryz.f91=true:=by kernel_rfl
theorem g92:okF fc92 Tryz.f92=true:=by kernel_rfl
theorem g93:okF fc93 Tryz.f93=true:=by kernel_rfl
theorem g94:okF fc94 Tryz.f94=true:=by kernel_rfl
theorem g95:okF fc95 Tryz.f95=true:=by kernel_rfl
theorem g96:okF fc96 Tryz.f96=true:=by kernel_rfl
theorem g97:okF fc97 Tryz.f97=true:=by kernel_rfl
theorem g98:okF fc98 Tryz.f98=true:=by kernel_rfl
theorem g99:okF fc99 Tryz.f99=true:=by kernel_rfl
theorem g100:okF fc100 Tryz.f100=true:=by kernel_rfl
theorem g101:okF fc101 Tryz.f101=true:=by kernel_rfl
theorem g102:okF fc102 Tryz.f102=true:=by kernel_rfl
theorem g103:okF fc103 Tryz.f103=true:=by kernel_rfl
theorem g104:okF fc104 Tryz.f104=true:=by kernel_rfl
theorem g105:okF fc105 Tryz.f105=true:=by kernel_rfl
theorem g106:okF fc106 Tryz.f106=true:=by kernel_rfl
theorem g107:okF fc107 Tryz.f107=true:=by kernel_rfl
theorem g108:okF fc108 Tryz.f108=true:=by kernel_rfl
theorem g112:okF fc112 Tryz.f112=true:=by kernel_rfl
theorem g113:okF fc113 Tryz.f113=true:=by kernel_rfl
theorem g114:okF fc114 Tryz.f114=true:=by kernel_rfl
theorem g123:okF fc123 Tryz.f123=true:=by kernel_rfl
theorem g124:okF fc124 Tryz.f124=true:=by kernel_rfl
theorem g125:okF fc125 Tryz.f125=true:=by kernel_rfl
theorem g126:okF fc126 Tryz.f126=true:=by kernel_rfl
theorem g127:okF fc127 Tryz.f127=true:=by kernel_rfl
theorem g128:okF fc128 Tryz.f128=true:=by kernel_rfl
theorem g129:okF fc129 Tryz.f129=true:=by kernel_rfl
theorem g130:okF fc130 Tryz.f130=true:=by kernel_rfl
theorem g131:okF fc131 Tryz.f131=true:=by kernel_rfl
theorem g132:okF fc132 Tryz.f132=true:=by kernel_rfl
theorem g133:okF fc133 Tryz.f133=true:=by kernel_rfl
theorem g134:okF fc134 Tryz.f134=true:=by kernel_rfl
theorem g135:okF fc135 Tryz.f135=true:=by kernel_rfl
theorem g136:okF fc136 Tryz.f136=true:=by kernel_rfl
theorem g137:okF fc137 Tryz.f137=true:=by kernel_rfl
theorem g138:okF fc138 Tryz.f138=true:=by kernel_rfl
theorem g139:okF fc139 Tryz.f139=true:=by kernel_rfl
theorem g140:okF fc140 Tryz.f140=true:=by kernel_rfl
theorem g141:okF fc141 Tryz.f141=true:=by kernel_rfl
theorem g142:okF fc142 Tryz.f142=true:=by kernel_rfl
theorem g143:okF fc143 Tryz.f143=true:=by kernel_rfl
theorem g144:okF fc144 Tryz.f144=true:=by kernel_rfl
theorem g145:okF fc145 Tryz.f145=true:=by kernel_rfl
theorem g146:okF fc146 Tryz.f146=true:=by kernel_rfl
theorem g147:okF fc147 Tryz.f147=true:=by kernel_rfl
theorem g148:okF fc148 Tryz.f148=true:=by kernel_rfl
theorem g149:okF fc149 Tryz.f149=true:=by kernel_rfl
theorem g150:okF fc150 Tryz.f150=true:=by kernel_rfl
theorem g151:okF fc151 Tryz.f151=true:=by kernel_rfl
theorem g152:okF fc152 Tryz.f152=true:=by kernel_rfl
theorem g153:okF fc153 Tryz.f153=true:=by kernel_rfl
theorem g154:okF fc154 Tryz.f154=true:=by kernel_rfl
theorem g155:okF fc155 Tryz.f155=true:=by kernel_rfl
theorem g156:okF fc156 Tryz.f156=true:=by kernel_rfl
theorem g157:okF fc157 Tryz.f157=true:=by kernel_rfl
theorem g158:okF fc158 Tryz.f158=true:=by kernel_rfl
theorem g159:okF fc159 Tryz.f159=true:=by kernel_rfl
theorem g161:okF fc161 Tryz.f161=true:=by kernel_rfl
theorem g168:okF fc168 Tryz.f168=true:=by kernel_rfl
theorem g169:okF fc169 Tryz.f169=true:=by kernel_rfl
theorem g170:okF fc170 Tryz.f170=true:=by kernel_rfl
theorem g171:okF fc171 Tryz.f171=true:=by kernel_rfl
theorem g172:okF fc172 Tryz.f172=true:=by kernel_rfl
theorem g173:okF fc173 Tryz.f173=true:=by kernel_rfl
theorem g174:okF fc174 Tryz.f174=true:=by kernel_rfl
theorem g175:okF fc175 Tryz.f175=true:=by kernel_rfl
theorem g176:okF fc176 Tryz.f176=true:=by kernel_rfl
theorem g177:okF fc177 Tryz.f177=true:=by kernel_rfl
theorem g178:okF fc178 Tryz.f178=true:=by kernel_rfl
theorem g179:okF fc179 Tryz.f179=true:=by kernel_rfl
theorem g180:okF fc180 Tryz.f180=true:=by kernel_rfl
theorem g181:okF fc181 Tryz.f181=true:=by kernel_rfl
theorem g182:okF fc182 Tryz.f182=true:=by kernel_rfl
theorem g183:okF fc183 Tryz.f183=true:=by kernel_rfl
theorem g184:okF fc184 Tryz.f184=true:=by kernel_rfl
theorem g185:okF fc185 Tryz.f185=true:=by kernel_rfl
theorem g186:okF fc186 Tryz.f186=true:=by kernel_rfl
theorem g187:okF fc187 Tryz.f187=true:=by kernel_rfl
theorem g188:okF fc188 Tryz.f188=true:=by kernel_rfl
theorem g189:okF fc189 Tryz.f189=true:=by kernel_rfl
theorem g190:okF fc190 Tryz.f190=true:=by kernel_rfl
theorem g191:okF fc191 Tryz.f191=true:=by kernel_rfl
theorem g193:okF fc193 Tryz.f193=true:=by kernel_rfl
theorem g205:okF fc205 Tryz.f205=true:=by kernel_rfl
theorem g206:okF fc206 Tryz.f206=true:=by kernel_rfl
theorem g207:okF fc207 Tryz.f207=true:=by kernel_rfl
theorem g208:okF fc208 Tryz.f208=true:=by kernel_rfl
theorem g209:okF fc209 Tryz.f209=true:=by kernel_rfl
theorem g210:okF fc210 Tryz.f210=true:=by kernel_rfl
theorem g211:okF fc211 Tryz.f211=true:=by kernel_rfl
theorem g218:okF fc218 Tryz.f218=true:=by kernel_rfl
theorem mixed:Tryz.prog.follows .mixedOrders=true:=by kernel_rfl
theorem cfgOK:CfgOK Tryz.prog cfg:=by
 refine cfgOK_ext mixed ?_ fun f g hg=>?_
 ·unfold ons
  simp only [List.forall_mem_cons]
  exact ⟨⟨_,Tryz.func7,g7⟩,⟨_,Tryz.func8,g8⟩,⟨_,Tryz.func10,g10⟩,⟨_,Tryz.func11,g11⟩,⟨_,Tryz.func12,g12⟩,⟨_,Tryz.func13,g13⟩,⟨_,Tryz.func14,g14⟩,⟨_,Tryz.func16,g16⟩,⟨_,Tryz.func17,g17⟩,⟨_,Tryz.func19,g19⟩,⟨_,Tryz.func20,g20⟩,⟨_,Tryz.func21,g21⟩,⟨_,Tryz.func30,g30⟩,⟨_,Tryz.func31,g31⟩,⟨_,Tryz.func32,g32⟩,⟨_,Tryz.func33,g33⟩,⟨_,Tryz.func34,g34⟩,⟨_,Tryz.func35,g35⟩,⟨_,Tryz.func36,g36⟩,⟨_,Tryz.func37,g37⟩,⟨_,Tryz.func38,g38⟩,⟨_,Tryz.func39,g39⟩,⟨_,Tryz.func40,g40⟩,⟨_,Tryz.func41,g41⟩,⟨_,Tryz.func42,g42⟩,⟨_,Tryz.func43,g43⟩,⟨_,Tryz.func44,g44⟩,⟨_,Tryz.func45,g45⟩,⟨_,Tryz.func46,g46⟩,⟨_,Tryz.func47,g47⟩,⟨_,Tryz.func48,g48⟩,⟨_,Tryz.func49,g49⟩,⟨_,Tryz.func50,g50⟩,⟨_,Tryz.func51,g51⟩,⟨_,Tryz.func52,g52⟩,⟨_,Tryz.func53,g53⟩,⟨_,Tryz.func54,g54⟩,⟨_,Tryz.func55,g55⟩,⟨_,Tryz.func56,g56⟩,⟨_,Tryz.func57,g57⟩,⟨_,Tryz.func62,g62⟩,⟨_,Tryz.func63,g63⟩,⟨_,Tryz.func64,g64⟩,⟨_,Tryz.func68,g68⟩,⟨_,Tryz.func69,g69⟩,⟨_,Tryz.func70,g70⟩,⟨_,Tryz.func74,g74⟩,⟨_,Tryz.func75,g75⟩,⟨_,Tryz.func76,g76⟩,⟨_,Tryz.func77,g77⟩,⟨_,Tryz.func78,g78⟩,⟨_,Tryz.func79,g79⟩,⟨_,Tryz.func80,g80⟩,⟨_,Tryz.func81,g81⟩,⟨_,Tryz.func82,g82⟩,⟨_,Tryz.func83,g83⟩,⟨_,Tryz.func84,g84⟩,⟨_,Tryz.func85,g85⟩,⟨_,Tryz.func86,g86⟩,⟨_,Tryz.func87,g87⟩,⟨_,Tryz.func88,g88⟩,⟨_,Tryz.func89,g89⟩,⟨_,Tryz.func90,g90⟩,⟨_,Tryz.func91,g91⟩,⟨_,Tryz.func92,g92⟩,⟨_,Tryz.func93,g93⟩,⟨_,Tryz.func94,g94⟩,⟨_,Tryz.func95,g95⟩,⟨_,Tryz.func96,g96⟩,⟨_,Tryz.func97,g97⟩,⟨_,Tryz.func98,g98⟩,⟨_,Tryz.func99,g99⟩,⟨_,Tryz.func100,g100⟩,⟨_,Tryz.func101,g101⟩,⟨_,Tryz.func102,g102⟩,⟨_,Tryz.func103,g103⟩,⟨_,Tryz.func104,g104⟩,⟨_,Tryz.func105,g105⟩,⟨_,Tryz.func106,g106⟩,⟨_,Tryz.func107,g107⟩,⟨_,Tryz.func108,g108⟩,⟨_,Tryz.func112,g112⟩,⟨_,Tryz.func113,g113⟩,⟨_,Tryz.func114,g114⟩,⟨_,Tryz.func123,g123⟩,⟨_,Tryz.func124,g124⟩,⟨_,Tryz.func125,g125⟩,⟨_,Tryz.func126,g126⟩,⟨_,Tryz.func127,g127⟩,⟨_,Tryz.func128,g128⟩,⟨_,Tryz.func129,g129⟩,⟨_,Tryz.func130,g130⟩,⟨_,Tryz.func131,g131⟩,⟨_,Tryz.func132,g132⟩,⟨_,Tryz.func133,g133⟩,⟨_,Tryz.func134,g134⟩,⟨_,Tryz.func135,g135⟩,⟨_,Tryz.func136,g136⟩,⟨_,Tryz.func137,g137⟩,⟨_,Tryz.func138,g138⟩,⟨_,Tryz.func139,g139⟩,⟨_,Tryz.func140,g140⟩,⟨_,Tryz.func141,g141⟩,⟨_,Tryz.func142,g142⟩,⟨_,Tryz.func143,g143⟩,⟨_,Tryz.func144,g144⟩,⟨_,Tryz.func145,g145⟩,⟨_,Tryz.func146,g146⟩,⟨_,Tryz.func147,g147⟩,⟨_,Tryz.func148,g148⟩,⟨_,Tryz.func149,g149⟩,⟨_,Tryz.func150,g150⟩,⟨_,Tryz.func151,g151⟩,⟨_,Tryz.func152,g152⟩,⟨_,Tryz.func153,g153⟩,⟨_,Tryz.func154,g154⟩,⟨_,Tryz.func155,g155⟩,⟨_,Tryz.func156,g156⟩,⟨_,Tryz.func157,g157⟩,⟨_,Tryz.func158,g158⟩,⟨_,Tryz.func159,g159⟩,⟨_,Tryz.func161,g161⟩,⟨_,Tryz.func168,g168⟩,⟨_,Tryz.func169,g169⟩,⟨_,Tryz.func170,g170⟩,⟨_,Tryz.func171,g171⟩,⟨_,Tryz.func172,g172⟩,⟨_,Tryz.func173,g173⟩,⟨_,Tryz.func174,g174⟩,⟨_,Tryz.func175,g175⟩,⟨_,Tryz.func176,g176⟩,⟨_,Tryz.func177,g177⟩,⟨_,Tryz.func178,g178⟩,⟨_,Tryz.func179,g179⟩,⟨_,Tryz.func180,g180⟩,⟨_,Tryz.func181,g181⟩,⟨_,Tryz.func182,g182⟩,⟨_,Tryz.func183,g183⟩,⟨_,Tryz.func184,g184⟩,⟨_,Tryz.func185,g185⟩,⟨_,Tryz.func186,g186⟩,⟨_,Tryz.func187,g187⟩,⟨_,Tryz.func188,g188⟩,⟨_,Tryz.func189,g189⟩,⟨_,Tryz.func190,g190⟩,⟨_,Tryz.func191,g191⟩,⟨_,Tryz.func193,g193⟩,⟨_,Tryz.func205,g205⟩,⟨_,Tryz.func206,g206⟩,⟨_,Tryz.func207,g207⟩,⟨_,Tryz.func208,g208⟩,⟨_,Tryz.func209,g209⟩,⟨_,Tryz.func210,g210⟩,⟨_,Tryz.func211,g211⟩,⟨_,Tryz.func218,g218⟩,fun _ h=>by cases h⟩
 cases hg
theorem laid:laidOutB Tryz.prog=true:=by kernel_rfl
theorem rowed:mapsRowed Tryz.prog=true:=by kernel_rfl
theorem sized:slicesSized Tryz.prog=true:=by kernel_rfl
def ok_S_Point (x:S_Point):Prop:=(Lit.int .i64 x.X).wf=true∧(Lit.int .i64 x.Y).wf=true
theorem o186:Opens Tryz.prog 186 (fun x:S_Point=>(e_S_Point x).cells) ok_S_Point:=
 opens_map (fun p:Int×Int×Unit=>⟨p.1,p.2.1⟩)
  (opens_struct Tryz.underlying186 (by kernel_rfl) (opensF_cons (s:=1) (by kernel_rfl) rfl (opens_int Tryz.underlying2) (opensF_cons (s:=1) (by kernel_rfl) rfl (opens_int Tryz.underlying2) opensF_nil)))
  (fun _=>rfl) (fun _ h=>⟨h.1,h.2.1⟩)
def ok_S_Face (x:S_Face):Prop:=x.Name.size≤maxLen∧((∀a∈x.Ring,(Lit.int .i64 a).wf=true)∧x.Ring.length≤maxLen)
theorem o177:Opens Tryz.prog 177 (fun x:S_Face=>(e_S_Face x).cells) ok_S_Face:=
 opens_map (fun p:ByteArray×(List Int)×Unit=>⟨p.1,p.2.1⟩)
  (opens_struct Tryz.underlying177 (by kernel_rfl) (opensF_cons (s:=1) (by kernel_rfl) rfl (opens_string Tryz.underlying9) (opensF_cons (s:=1) (by kernel_rfl) rfl (opens_slice (e:=2) (sz:=1) (ee:=eI) Tryz.underlying33 (by kernel_rfl) (by decide) (fun _=>rfl) (fun _=>rfl) (opens_int Tryz.underlying2)) opensF_nil)))
  (fun _=>rfl) (fun _ h=>⟨h.1,h.2.1⟩)
def ok_S_Drawing (x:S_Drawing):Prop:=(Lit.int .i64 x.Width).wf=true∧(Lit.int .i64 x.Height).wf=true∧((∀a∈x.Points,ok_S_Point a)∧x.Points.length≤maxLen)∧((∀a∈x.Faces,ok_S_Face a)∧x.Faces.length≤maxLen)
theorem o25:Opens Tryz.prog 25 (fun x:S_Drawing=>(e_S_Drawing x).cells) ok_S_Drawing:=
 opens_map (fun p:Int×Int×(List S_Point)×(List S_Face)×Unit=>⟨p.1,p.2.1,p.2.2.1,p.2.2.2.1⟩)
  (opens_struct Tryz.underlying25 (by kernel_rfl) (opensF_cons (s:=1) (by kernel_rfl) rfl (opens_int Tryz.underlying2) (opensF_cons (s:=1) (by kernel_rfl) rfl (opens_int Tryz.underlying2) (opensF_cons (s:=1) (by kernel_rfl) rfl (opens_slice (e:=186) (sz:=2) (ee:=e_S_Point) Tryz.underlying22 (by kernel_rfl) (by decide) (fun _=>rfl) (fun _=>rfl) o186) (opensF_cons (s:=1) (by kernel_rfl) rfl (opens_slice (e:=177) (sz:=2) (ee:=e_S_Face) Tryz.underlying23 (by kernel_rfl) (by decide) (fun _=>rfl) (fun _=>rfl) o177) opensF_nil)))))
  (fun _=>rfl) (fun _ h=>⟨h.1,h.2.1,h.2.2.1,h.2.2.2.1⟩)
def ok_S_Veneer (x:S_Veneer):Prop:=x.Species.size≤maxLen∧(Lit.int .i64 x.Shade).wf=true∧(Lit.int .i64 x.Grain).wf=true
theorem o112:Opens Tryz.prog 112 (fun x:S_Veneer=>(e_S_Veneer x).cells) ok_S_Veneer:=
 opens_map (fun p:ByteArray×Int×Int×Unit=>⟨p.1,p.2.1,p.2.2.1⟩)
  (opens_struct Tryz.underlying112 (by kernel_rfl) (opensF_cons (s:=1) (by kernel_rfl) rfl (opens_string Tryz.underlying9) (opensF_cons (s:=1) (by kernel_rfl) rfl (opens_int Tryz.underlying2) (opensF_cons (s:=1) (by kernel_rfl) rfl (opens_int Tryz.underlying2) opensF_nil))))
  (fun _=>rfl) (fun _ h=>⟨h.1,h.2.1,h.2.2.1⟩)
def ok_S_Picture (x:S_Picture):Prop:=ok_S_Drawing x.Drawing∧((∀a∈x.Veneers,ok_S_Veneer a)∧x.Veneers.length≤maxLen)
theorem o28:Opens Tryz.prog 28 (fun x:S_Picture=>(e_S_Picture x).cells) ok_S_Picture:=
 opens_map (fun p:S_Drawing×(List S_Veneer)×Unit=>⟨p.1,p.2.1⟩)
  (opens_struct Tryz.underlying28 (by kernel_rfl) (opensF_cons (s:=4) (by kernel_rfl) rfl o25 (opensF_cons (s:=1) (by kernel_rfl) rfl (opens_slice (e:=112) (sz:=3) (ee:=e_S_Veneer) Tryz.underlying26 (by kernel_rfl) (by decide) (fun _=>rfl) (fun _=>rfl) o112) opensF_nil)))
  (fun _=>rfl) (fun _ h=>⟨h.1,h.2.1⟩)
def ok_S_Box (x:S_Box):Prop:=(Lit.int .i64 x.X).wf=true∧(Lit.int .i64 x.Y).wf=true∧(Lit.int .i64 x.Width).wf=true∧(Lit.int .i64 x.Length).wf=true
theorem o258:Opens Tryz.prog 258 (fun x:S_Box=>(e_S_Box x).cells) ok_S_Box:=
 opens_map (fun p:Int×Int×Int×Int×Unit=>⟨p.1,p.2.1,p.2.2.1,p.2.2.2.1⟩)
  (opens_struct Tryz.underlying258 (by kernel_rfl) (opensF_cons (s:=1) (by kernel_rfl) rfl (opens_int Tryz.underlying2) (opensF_cons (s:=1) (by kernel_rfl) rfl (opens_int Tryz.underlying2) (opensF_cons (s:=1) (by kernel_rfl) rfl (opens_int Tryz.underlying2) (opensF_cons (s:=1) (by kernel_rfl) rfl (opens_int Tryz.underlying2) opensF_nil)))))
  (fun _=>rfl) (fun _ h=>⟨h.1,h.2.1,h.2.2.1,h.2.2.2.1⟩)
def ok_S_Leaf (x:S_Leaf):Prop:=x.Id.size≤maxLen∧x.Flitch.size≤maxLen∧(Lit.int .i64 x.Number).wf=true∧ok_S_Veneer x.Veneer∧(Lit.int .i64 x.Width).wf=true∧(Lit.int .i64 x.Length).wf=true∧((∀a∈x.Defects,ok_S_Box a)∧x.Defects.length≤maxLen)
theorem o153:Opens Tryz.prog 153 (fun x:S_Leaf=>(e_S_Leaf x).cells) ok_S_Leaf:=
 opens_map (fun p:ByteArray×ByteArray×Int×S_Veneer×Int×Int×(List S_Box)×Unit=>⟨p.1,p.2.1,p.2.2.1,p.2.2.2.1,p.2.2.2.2.1,p.2.2.2.2.2.1,p.2.2.2.2.2.2.1⟩)
  (opens_struct Tryz.underlying153 (by kernel_rfl) (opensF_cons (s:=1) (by kernel_rfl) rfl (opens_string Tryz.underlying9) (opensF_cons (s:=1) (by kernel_rfl) rfl (opens_string Tryz.underlying9) (opensF_cons (s:=1) (by kernel_rfl) rfl (opens_int Tryz.underlying2) (opensF_cons (s:=3) (by kernel_rfl) rfl o112 (opensF_cons (s:=1) (by kernel_rfl) rfl (opens_int Tryz.underlying2) (opensF_cons (s:=1) (by kernel_rfl) rfl (opens_int Tryz.underlying2) (opensF_cons (s:=1) (by kernel_rfl) rfl (opens_slice (e:=258) (sz:=4) (ee:=e_S_Box) Tryz.underlying151 (by kernel_rfl) (by decide) (fun _=>rfl) (fun _=>rfl) o258) opensF_nil))))))))
  (fun _=>rfl) (fun _ h=>⟨h.1,h.2.1,h.2.2.1,h.2.2.2.1,h.2.2.2.2.1,h.2.2.2.2.2.1,h.2.2.2.2.2.2.1⟩)
def ok_S_Placement (x:S_Placement):Prop:=(Lit.int .i64 x.Face).wf=true∧(Lit.int .i64 x.Leaf).wf=true∧(Lit.int .i64 x.X).wf=true∧(Lit.int .i64 x.Y).wf=true∧(Lit.int .i64 x.Turn).wf=true
theorem o167:Opens Tryz.prog 167 (fun x:S_Placement=>(e_S_Placement x).cells) ok_S_Placement:=
 opens_map (fun p:Int×Int×Int×Int×Int×Unit=>⟨p.1,p.2.1,p.2.2.1,p.2.2.2.1,p.2.2.2.2.1⟩)
  (opens_struct Tryz.underlying167 (by kernel_rfl) (opensF_cons (s:=1) (by kernel_rfl) rfl (opens_int Tryz.underlying2) (opensF_cons (s:=1) (by kernel_rfl) rfl (opens_int Tryz.underlying2) (opensF_cons (s:=1) (by kernel_rfl) rfl (opens_int Tryz.underlying2) (opensF_cons (s:=1) (by kernel_rfl) rfl (opens_int Tryz.underlying2) (opensF_cons (s:=1) (by kernel_rfl) rfl (opens_int Tryz.underlying2) opensF_nil))))))
  (fun _=>rfl) (fun _ h=>⟨h.1,h.2.1,h.2.2.1,h.2.2.2.1,h.2.2.2.2.1⟩)
def ok_S_Rules (x:S_Rules):Prop:=(Lit.int .i64 x.Spacing).wf=true∧(Lit.int .i64 x.Margin).wf=true∧(Lit.int .i64 x.Angle).wf=true∧(Lit.int .i64 x.Shade).wf=true
theorem o32:Opens Tryz.prog 32 (fun x:S_Rules=>(e_S_Rules x).cells) ok_S_Rules:=
 opens_map (fun p:Int×Int×Int×Int×Unit=>⟨p.1,p.2.1,p.2.2.1,p.2.2.2.1⟩)
  (opens_struct Tryz.underlying32 (by kernel_rfl) (opensF_cons (s:=1) (by kernel_rfl) rfl (opens_int Tryz.underlying2) (opensF_cons (s:=1) (by kernel_rfl) rfl (opens_int Tryz.underlying2) (opensF_cons (s:=1) (by kernel_rfl) rfl (opens_int Tryz.underlying2) (opensF_cons (s:=1) (by kernel_rfl) rfl (opens_int Tryz.underlying2) opensF_nil)))))
  (fun _=>rfl) (fun _ h=>⟨h.1,h.2.1,h.2.2.1,h.2.2.2.1⟩)
def ok_S_Job (x:S_Job):Prop:=ok_S_Picture x.Picture∧((∀a∈x.Leaves,ok_S_Leaf a)∧x.Leaves.length≤maxLen)∧((∀a∈x.Placements,ok_S_Placement a)∧x.Placements.length≤maxLen)∧ok_S_Rules x.Rules∧(Lit.int .i64 x.Thickness).wf=true∧(Lit.int .i64 x.Kerf).wf=true∧(Lit.int .i64 x.Bevel).wf=true∧(Lit.int .i64 x.Gap).wf=true∧((∀a∈x.Order,(Lit.int .i64 a).wf=true)∧x.Order.length≤maxLen)∧((∀a∈x.Cuts,(Lit.int .i64 a).wf=true)∧x.Cuts.length≤maxLen)
theorem o35:Opens Tryz.prog 35 (fun x:S_Job=>(e_S_Job x).cells) ok_S_Job:=
 opens_map (fun p:S_Picture×(List S_Leaf)×(List S_Placement)×S_Rules×Int×Int×Int×Int×(List Int)×(List Int)×Unit=>⟨p.1,p.2.1,p.2.2.1,p.2.2.2.1,p.2.2.2.2.1,p.2.2.2.2.2.1,p.2.2.2.2.2.2.1,p.2.2.2.2.2.2.2.1,p.2.2.2.2.2.2.2.2.1,p.2.2.2.2.2.2.2.2.2.1⟩)
  (opens_struct Tryz.underlying35 (by kernel_rfl) (opensF_cons (s:=5) (by kernel_rfl) rfl o28 (opensF_cons (s:=1) (by kernel_rfl) rfl (opens_slice (e:=153) (sz:=9) (ee:=e_S_Leaf) Tryz.underlying29 (by kernel_rfl) (by decide) (fun _=>rfl) (fun _=>rfl) o153) (opensF_cons (s:=1) (by kernel_rfl) rfl (opens_slice (e:=167) (sz:=5) (ee:=e_S_Placement) Tryz.underlying30 (by kernel_rfl) (by decide) (fun _=>rfl) (fun _=>rfl) o167) (opensF_cons (s:=4) (by kernel_rfl) rfl o32 (opensF_cons (s:=1) (by kernel_rfl) rfl (opens_int Tryz.underlying2) (opensF_cons (s:=1) (by kernel_rfl) rfl (opens_int Tryz.underlying2) (opensF_cons (s:=1) (by kernel_rfl) rfl (opens_int Tryz.underlying2) (opensF_cons (s:=1) (by kernel_rfl) rfl (opens_int Tryz.underlying2) (opensF_cons (s:=1) (by kernel_rfl) rfl (opens_slice (e:=2) (sz:=1) (ee:=eI) Tryz.underlying33 (by kernel_rfl) (by decide) (fun _=>rfl) (fun _=>rfl) (opens_int Tryz.underlying2)) (opensF_cons (s:=1) (by kernel_rfl) rfl (opens_slice (e:=2) (sz:=1) (ee:=eI) Tryz.underlying33 (by kernel_rfl) (by decide) (fun _=>rfl) (fun _=>rfl) (opens_int Tryz.underlying2)) opensF_nil)))))))))))
  (fun _=>rfl) (fun _ h=>⟨h.1,h.2.1,h.2.2.1,h.2.2.2.1,h.2.2.2.2.1,h.2.2.2.2.2.1,h.2.2.2.2.2.2.1,h.2.2.2.2.2.2.2.1,h.2.2.2.2.2.2.2.2.1,h.2.2.2.2.2.2.2.2.2.1⟩)
def ok_S_Bond (x:S_Bond):Prop:=x.Name.size≤maxLen∧(Lit.int .i64 x.Spread).wf=true∧(Lit.int .i64 x.Open).wf=true∧(Lit.int .i64 x.Press).wf=true
theorem o203:Opens Tryz.prog 203 (fun x:S_Bond=>(e_S_Bond x).cells) ok_S_Bond:=
 opens_map (fun p:ByteArray×Int×Int×Int×Unit=>⟨p.1,p.2.1,p.2.2.1,p.2.2.2.1⟩)
  (opens_struct Tryz.underlying203 (by kernel_rfl) (opensF_cons (s:=1) (by kernel_rfl) rfl (opens_string Tryz.underlying9) (opensF_cons (s:=1) (by kernel_rfl) rfl (opens_int Tryz.underlying2) (opensF_cons (s:=1) (by kernel_rfl) rfl (opens_int Tryz.underlying2) (opensF_cons (s:=1) (by kernel_rfl) rfl (opens_int Tryz.underlying2) opensF_nil)))))
  (fun _=>rfl) (fun _ h=>⟨h.1,h.2.1,h.2.2.1,h.2.2.2.1⟩)
def ok_S_Coat (x:S_Coat):Prop:=x.Name.size≤maxLen∧(Lit.int .i64 x.Work).wf=true∧(Lit.int .i64 x.Dry).wf=true∧(Lit.int .i64 x.Wait).wf=true
theorem o206:Opens Tryz.prog 206 (fun x:S_Coat=>(e_S_Coat x).cells) ok_S_Coat:=
 opens_map (fun p:ByteArray×Int×Int×Int×Unit=>⟨p.1,p.2.1,p.2.2.1,p.2.2.2.1⟩)
  (opens_struct Tryz.underlying206 (by kernel_rfl) (opensF_cons (s:=1) (by kernel_rfl) rfl (opens_string Tryz.underlying9) (opensF_cons (s:=1) (by kernel_rfl) rfl (opens_int Tryz.underlying2) (opensF_cons (s:=1) (by kernel_rfl) rfl (opens_int Tryz.underlying2) (opensF_cons (s:=1) (by kernel_rfl) rfl (opens_int Tryz.underlying2) opensF_nil)))))
  (fun _=>rfl) (fun _ h=>⟨h.1,h.2.1,h.2.2.1,h.2.2.2.1⟩)
def ok_S_Rates (x:S_Rates):Prop:=(Lit.int .i64 x.Hour).wf=true∧(Lit.int .i64 x.Edge).wf=true∧(Lit.int .i64 x.Face).wf=true∧(Lit.int .i64 x.Waste).wf=true∧(Lit.int .i64 x.Margin).wf=true
theorem o73:Opens Tryz.prog 73 (fun x:S_Rates=>(e_S_Rates x).cells) ok_S_Rates:=
 opens_map (fun p:Int×Int×Int×Int×Int×Unit=>⟨p.1,p.2.1,p.2.2.1,p.2.2.2.1,p.2.2.2.2.1⟩)
  (opens_struct Tryz.underlying73 (by kernel_rfl) (opensF_cons (s:=1) (by kernel_rfl) rfl (opens_int Tryz.underlying2) (opensF_cons (s:=1) (by kernel_rfl) rfl (opens_int Tryz.underlying2) (opensF_cons (s:=1) (by kernel_rfl) rfl (opens_int Tryz.underlying2) (opensF_cons (s:=1) (by kernel_rfl) rfl (opens_int Tryz.underlying2) (opensF_cons (s:=1) (by kernel_rfl) rfl (opens_int Tryz.underlying2) opensF_nil))))))
  (fun _=>rfl) (fun _ h=>⟨h.1,h.2.1,h.2.2.1,h.2.2.2.1,h.2.2.2.2.1⟩)
def ok_S_Desk (x:S_Desk):Prop:=ok_S_Job x.Job∧((∀a∈x.Bonds,ok_S_Bond a)∧x.Bonds.length≤maxLen)∧((∀a∈x.Coats,ok_S_Coat a)∧x.Coats.length≤maxLen)∧ok_S_Rates x.Rates
theorem o75:Opens Tryz.prog 75 (fun x:S_Desk=>(e_S_Desk x).cells) ok_S_Desk:=
 opens_map (fun p:S_Job×(List S_Bond)×(List S_Coat)×S_Rates×Unit=>⟨p.1,p.2.1,p.2.2.1,p.2.2.2.1⟩)
  (opens_struct Tryz.underlying75 (by kernel_rfl) (opensF_cons (s:=17) (by kernel_rfl) rfl o35 (opensF_cons (s:=1) (by kernel_rfl) rfl (opens_slice (e:=203) (sz:=4) (ee:=e_S_Bond) Tryz.underlying70 (by kernel_rfl) (by decide) (fun _=>rfl) (fun _=>rfl) o203) (opensF_cons (s:=1) (by kernel_rfl) rfl (opens_slice (e:=206) (sz:=4) (ee:=e_S_Coat) Tryz.underlying71 (by kernel_rfl) (by decide) (fun _=>rfl) (fun _=>rfl) o206) (opensF_cons (s:=5) (by kernel_rfl) rfl o73 opensF_nil)))))
  (fun _=>rfl) (fun _ h=>⟨h.1,h.2.1,h.2.2.1,h.2.2.2.1⟩)
namespace fnExactValidDesk
theorem own:ownKnob Tryz.prog.godebug=none:=by kernel_rfl
theorem lifted (os:Os) (started:os.Started) (H:Type) (enc:TypeId×Value→H):
 ReturnsInHanded {} Tryz.checked os 7 .any (Rows.fnExactValidDeskSpec.pre6 enc Tryz.prog Tryz.f7 Rows.fnExactValidDeskRow.domain false) (Rows.fnExactValidDeskSpec.post enc Tryz.prog Tryz.f7 false true false false):=by
 refine returnsInHanded_of_change_sized (C:=Tryz.checked) own started (by kernel_rfl) Tryz.func7
  (ChangeSpec.witness6 (enc:=enc) (C:=Tryz.checked) false ⟨#[],#[.agg #[.int .i64 0,.int .i64 0,.slice none 0 0,.slice none 0 0,.slice none 0 0,.slice none 0 0,.slice none 0 0,.int .i64 0,.int .i64 0,.int .i64 0,.int .i64 0,.int .i64 0,.int .i64 0,.int .i64 0,.int .i64 0,.slice none 0 0,.slice none 0 0,.slice none 0 0,.slice none 0 0,.int .i64 0,.int .i64 0,.int .i64 0,.int .i64 0,.int .i64 0]],[]⟩ 8 (by kernel_rfl) (by kernel_rfl) (by kernel_rfl) (by kernel_rfl)) ?_
 intro W base args ds gs before hval0 hW hcnd hsz0 _
 have hval:∀(j:Nat) t v,Tryz.f7.params[j]?=some t→args[j]?=some v→Value.okWide Tryz.prog W .any base t v:=hval0
 have hW':=hW
 obtain ⟨p,q,hA0,hV,rfl,hfz,hnd⟩:=hW
 have hA:DataW.TrodAll enc Tryz.prog W 0 (fun _=>true) true Tryz.f7.params.toList args.toList ds p:=hA0
 rw [Tryz.params7] at hA hval
 obtain ⟨v0,vs0,d0,ds0,p0,q0,hargs0,rfl,rfl,h0,r0⟩:=ChangeShapes.trodAll_cons hA
 obtain ⟨rfl,rfl,rfl⟩:=ChangeShapes.trodAll_nil r0
 obtain rfl:args=#[v0]:=by cases args;simp_all
 obtain ⟨rfl,rfl⟩:=ChangeShapes.trodVars_none hV
 obtain ⟨a0,k0,w0⟩:=arg_agg (tt:=2) o75 Tryz.underlying75 (hval 0 75 v0 rfl rfl) h0
 refine (rowCalls cfgOK (L_laws_FnExactValidDesk (law_ValidDesk a0 w0)) (show ArgVs _ _ _ [v0] from (.cons k0 .nil))).mono fun e W' ⟨he,hio,_,hb⟩=>?_
 exact ⟨_,he,row_post Tryz.underlying4 rfl rfl hW' rfl (kids_rows laid rowed) sized (by decide) hio hb⟩
theorem and2 {a b:Bool} (h1:a=true) (h2:b=true):(a&&b)=true:=by rw [h1,h2];rfl
set_option maxHeartbeats 4000000 in
theorem closed:joinedFacts Tryz.prog 7 Tryz.f7 Rows.fnExactValidDeskSpec Rows.fnExactValidDeskRow=true:=by
 unfold joinedFacts
 repeat' with_reducible refine and2 ?_ ?_
 all_goals (as_aux_lemma=>kernel_rfl)
theorem over:Rows.fnExactValidDeskRow.holds Tryz.pinned (OpenSpec.ofChange Rows.fnExactValidDeskSpec):=
 OpenClaim.holds_of_wide 7 Tryz.f7 rfl rfl rfl rfl rfl rfl rfl ⟨rfl,rfl,rfl,rfl,rfl⟩ rfl rfl rfl rfl rfl (by kernel_rfl) Tryz.func7 closed
  (of_decide_eq_true (by kernel_rfl)) (by unfold Func.isWrapper;first | (rw [if_pos (by decide+kernel)];kernel_rfl) | (rw [if_neg (by decide+kernel)];exact ⟨rfl,rfl⟩))
  (fun os started H enc _=>lifted os started H enc)
theorem proved:Rows.FnExactValidDeskSaid:=over
#print axioms proved
end fnExactValidDesk
theorem fnExactValidDesk_holds:Rows.FnExactValidDeskSaid:=fnExactValidDesk.proved
end Go.Proofs.YtonnimmkimccfaaGreat
