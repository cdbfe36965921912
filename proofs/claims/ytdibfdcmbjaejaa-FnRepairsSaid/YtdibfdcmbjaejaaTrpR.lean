/- FnRepairs: whatever the arguments, the law answers true, and the arguments read as they did. Conditions: none beyond those of the row. -/
import Derived.Test.YtdibfdcmbjaejaaRows
import Derived.Test.YtdibfdcmbjaejaaTrpL
import Derived.Test.YtdibfdcmbjaejaaTrpP
import Derived.Test.YtdibfdcmbjaejaaSimRk
import Derived.WalkKit
import Derived.ProofKit
import Derived.OpenShut
import Derived.ShutString
import Derived.ChangeOld
import Derived.Below
import Derived.SizedLaws
namespace Go.Proofs.Ytdibfdcmbjaejaa
open Go Go.Sim Go.Pw Go.Proofs
set_option linter.unusedVariables false
set_option maxRecDepth 100000
theorem g6:okF fc6 Try.f6=true:=by kernel_rfl
theorem g14:okF aby Try.f14=true:=by kernel_rfl
theorem g16:okF abz Try.f16=true:=by kernel_rfl
theorem g30:okF abA Try.f30=true:=by kernel_rfl
theorem g31:okF abB Try.f31=true:=by kernel_rfl
theorem g32:okF abC Try.f32=true:=by kernel_rfl
theorem g33:okF abD Try.f33=true:=by kernel_rfl
theorem g34:okF abE Try.f34=true:=by kernel_rfl
theorem g35:okF abG Try.f35=true:=by kernel_rfl
theorem g36:okF abH Try.f36=true:=by kernel_rfl
theorem g37:okF abI Try.f37=true:=by kernel_rfl
theorem g38:okF abJ Try.f38=true:=by kernel_rfl
theorem g39:okF abK Try.f39=true:=by kernel_rfl
theorem g66:okF abL Try.f66=true:=by kernel_rfl
theorem g67:okF abM Try.f67=true:=by kernel_rfl
theorem g69:okF abN Try.f69=true:=by kernel_rfl
theorem g70:okF abO Try.f70=true:=by kernel_rfl
theorem g71:okF abP Try.f71=true:=by kernel_rfl
theorem g72:okF abQ Try.f72=true:=by kernel_rfl
theorem g73:okF abR Try.f73=true:=by kernel_rfl
theorem g74:okF abS Try.f74=true:=by kernel_rfl
theorem g75:okF abT Try.f75=true:=by kernel_rfl
theorem g76:okF abU Try.f76=true:=by kernel_rfl
theorem g77:okF abV Try.f77=true:=by kernel_rfl
theorem g78:okF abW Try.f78=true:=by kernel_rfl
theorem g79:okF abX Try.f79=true:=by kernel_rfl
theorem g80:okF abY Try.f80=true:=by kernel_rfl
theorem g81:okF abZ Try.f81=true:=by kernel_rfl
theorem g82:okF ab1 Try.f82=true:=by kernel_rfl
theorem g85:okF ab2 Try.f85=true:=by kernel_rfl
theorem g87:okF ab3 Try.f87=true:=by kernel_rfl
theorem g93:okF ab4 Try.f93=true:=by kernel_rfl
theorem ais:okF V3 Try.f106=true:=by kernel_rfl
theorem ait:okF V4 Try.f107=true:=by kernel_rfl
theorem aiu:okF V5 Try.f115=true:=by kernel_rfl
theorem aiv:okF V6 Try.f121=true:=by kernel_rfl
theorem aiw:okF V7 Try.f122=true:=by kernel_rfl
theorem aix:okF V8 Try.f123=true:=by kernel_rfl
theorem aiy:okF V9 Try.f124=true:=by kernel_rfl
theorem aiz:okF We Try.f125=true:=by kernel_rfl
theorem aiA:okF Wh Try.f126=true:=by kernel_rfl
theorem aiB:okF Wi Try.f127=true:=by kernel_rfl
theorem aiC:okF Wj Try.f128=true:=by kernel_rfl
theorem aiD:okF Wl Try.f129=true:=by kernel_rfl
theorem aiE:okF Wn Try.f130=true:=by kernel_rfl
theorem aiF:okF Wp Try.f131=true:=by kernel_rfl
theorem aiG:okF Wq Try.f132=true:=by kernel_rfl
theorem aiH:okF Ws Try.f133=true:=by kernel_rfl
theorem aiI:okF Wu Try.f134=true:=by kernel_rfl
theorem aiJ:okF Wv Try.f135=true:=by kernel_rfl
theorem aiK:okF Wx Try.f136=true:=by kernel_rfl
theorem aiL:okF Wy Try.f137=true:=by kernel_rfl
theorem aiM:okF WA Try.f138=true:=by kernel_rfl
theorem aiN:okF WB Try.f139=true:=by kernel_rfl
theorem aiO:okF WC Try.f140=true:=by kernel_rfl
theorem aiP:okF WE Try.f141=true:=by kernel_rfl
theorem aiQ:okF WG Try.f142=true:=by kernel_rfl
theorem aiR:okF WH Try.f143=true:=by kernel_rfl
theorem aiS:okF WI Try.f144=true:=by kernel_rfl
theorem aiT:okF WJ Try.f158=true:=by kernel_rfl
theorem aiU:okF WL Try.f159=true:=by kernel_rfl
theorem aiV:okF WM Try.f160=true:=by kernel_rfl
theorem aiW:okF WN Try.f163=true:=by kernel_rfl
theorem aiX:okF WO Try.f166=true:=by kernel_rfl
theorem aiY:okF WQ Try.f167=true:=by kernel_rfl
theorem aiZ:okF WR Try.f168=true:=by kernel_rfl
theorem ai0:okF WS Try.f169=true:=by kernel_rfl
theorem ai1:okF WT Try.f170=true:=by kernel_rfl
theorem ai2:okF WU Try.f171=true:=by kernel_rfl
theorem ai3:okF WV Try.f172=true:=by kernel_rfl
theorem ai4:okF WW Try.f173=true:=by kernel_rfl
theorem ai5:okF WX Try.f174=true:=by kernel_rfl
theorem ai6:okF WY Try.f175=true:=by kernel_rfl
theorem ai7:okF WZ Try.f176=true:=by kernel_rfl
theorem ai8:okF W9 Try.f177=true:=by kernel_rfl
theorem ai9:okF Xa Try.f178=true:=by kernel_rfl
theorem aja:okF Xb Try.f180=true:=by kernel_rfl
theorem ajb:okF Xc Try.f181=true:=by kernel_rfl
theorem ajc:okF Xd Try.f182=true:=by kernel_rfl
theorem ajd:okF Xe Try.f183=true:=by kernel_rfl
theorem aje:okF Xf Try.f184=true:=by kernel_rfl
theorem ajf:okF Xg Try.f185=true:=by kernel_rfl
theorem ajg:okF Xh Try.f186=true:=by kernel_rfl
theorem ajh:okF Xi Try.f187=true:=by kernel_rfl
theorem aji:okF Xj Try.f188=true:=by kernel_rfl
theorem ajj:okF Xk Try.f198=true:=by kernel_rfl
theorem ajk:okF Xl Try.f199=true:=by kernel_rfl
theorem ajl:okF Xm Try.f200=true:=by kernel_rfl
theorem ajm:okF Xn Try.f201=true:=by kernel_rfl
theorem ajn:okF Xo Try.f202=true:=by kernel_rfl
theorem ajo:okF Xp Try.f203=true:=by kernel_rfl
theorem ajp:okF Xq Try.f204=true:=by kernel_rfl
theorem ajq:okF Xr Try.f205=true:=by kernel_rfl
theorem ajr:okF Xt Try.f206=true:=by kernel_rfl
theorem ajs:okF Xu Try.f209=true:=by kernel_rfl
theorem ajt:okF Xv Try.f210=true:=by kernel_rfl
theorem aju:okF Xw Try.f212=true:=by kernel_rfl
theorem agX {n:Int} (h:(Lit.int .u8 n).wf=true):0≤n∧n≤255:=by
 have e1:IntKind.u8.max=255:=by decide
 have e2:IntKind.u8.min=0:=by decide
 simp [Lit.wf] at h
 omega
theorem mixed:Try.prog.follows .mixedOrders=true:=by kernel_rfl
theorem agY [Lim]:VU Try.prog cfg:=by
 refine YU mixed ?_ fun f g hg=>?_
 ·unfold ons
  simp only [List.forall_mem_cons]
  exact ⟨⟨_,Try.func6,g6⟩,⟨_,Try.func14,g14⟩,⟨_,Try.func16,g16⟩,⟨_,Try.func30,g30⟩,⟨_,Try.func31,g31⟩,⟨_,Try.func32,g32⟩,⟨_,Try.func33,g33⟩,⟨_,Try.func34,g34⟩,⟨_,Try.func35,g35⟩,⟨_,Try.func36,g36⟩,⟨_,Try.func37,g37⟩,⟨_,Try.func38,g38⟩,⟨_,Try.func39,g39⟩,⟨_,Try.func66,g66⟩,⟨_,Try.func67,g67⟩,⟨_,Try.func69,g69⟩,⟨_,Try.func70,g70⟩,⟨_,Try.func71,g71⟩,⟨_,Try.func72,g72⟩,⟨_,Try.func73,g73⟩,⟨_,Try.func74,g74⟩,⟨_,Try.func75,g75⟩,⟨_,Try.func76,g76⟩,⟨_,Try.func77,g77⟩,⟨_,Try.func78,g78⟩,⟨_,Try.func79,g79⟩,⟨_,Try.func80,g80⟩,⟨_,Try.func81,g81⟩,⟨_,Try.func82,g82⟩,⟨_,Try.func85,g85⟩,⟨_,Try.func87,g87⟩,⟨_,Try.func93,g93⟩,⟨_,Try.func106,ais⟩,⟨_,Try.func107,ait⟩,⟨_,Try.func115,aiu⟩,⟨_,Try.func121,aiv⟩,⟨_,Try.func122,aiw⟩,⟨_,Try.func123,aix⟩,⟨_,Try.func124,aiy⟩,⟨_,Try.func125,aiz⟩,⟨_,Try.func126,aiA⟩,⟨_,Try.func127,aiB⟩,⟨_,Try.func128,aiC⟩,⟨_,Try.func129,aiD⟩,⟨_,Try.func130,aiE⟩,⟨_,Try.func131,aiF⟩,⟨_,Try.func132,aiG⟩,⟨_,Try.func133,aiH⟩,⟨_,Try.func134,aiI⟩,⟨_,Try.func135,aiJ⟩,⟨_,Try.func136,aiK⟩,⟨_,Try.func137,aiL⟩,⟨_,Try.func138,aiM⟩,⟨_,Try.func139,aiN⟩,⟨_,Try.func140,aiO⟩,⟨_,Try.func141,aiP⟩,⟨_,Try.func142,aiQ⟩,⟨_,Try.func143,aiR⟩,⟨_,Try.func144,aiS⟩,⟨_,Try.func158,aiT⟩,⟨_,Try.func159,aiU⟩,⟨_,Try.func160,aiV⟩,⟨_,Try.func163,aiW⟩,⟨_,Try.func166,aiX⟩,⟨_,Try.func167,aiY⟩,⟨_,Try.func168,aiZ⟩,⟨_,Try.func169,ai0⟩,⟨_,Try.func170,ai1⟩,⟨_,Try.func171,ai2⟩,⟨_,Try.func172,ai3⟩,⟨_,Try.func173,ai4⟩,⟨_,Try.func174,ai5⟩,⟨_,Try.func175,ai6⟩,⟨_,Try.func176,ai7⟩,⟨_,Try.func177,ai8⟩,⟨_,Try.func178,ai9⟩,⟨_,Try.func180,aja⟩,⟨_,Try.func181,ajb⟩,⟨_,Try.func182,ajc⟩,⟨_,Try.func183,ajd⟩,⟨_,Try.func184,aje⟩,⟨_,Try.func185,ajf⟩,⟨_,Try.func186,ajg⟩,⟨_,Try.func187,ajh⟩,⟨_,Try.func188,aji⟩,⟨_,Try.func198,ajj⟩,⟨_,Try.func199,ajk⟩,⟨_,Try.func200,ajl⟩,⟨_,Try.func201,ajm⟩,⟨_,Try.func202,ajn⟩,⟨_,Try.func203,ajo⟩,⟨_,Try.func204,ajp⟩,⟨_,Try.func205,ajq⟩,⟨_,Try.func206,ajr⟩,⟨_,Try.func209,ajs⟩,⟨_,Try.func210,ajt⟩,⟨_,Try.func212,aju⟩,fun _ h=>by cases h⟩
 rcases YV hg with ⟨rfl,h⟩ | hg
 ·cases h
  exact YT (cfg:=cfg) (fn:=Try.f119) mixed Try.func119 rfl rfl rfl rfl Pj aU rfl EN rfl rfl afF rfl
 cases hg
theorem laid:laidOutB Try.prog=true:=by kernel_rfl
theorem rowed:mapsRowed Try.prog=true:=by kernel_rfl
theorem sized:DF Try.prog=true:=by kernel_rfl
namespace fnRepairs
theorem own:ownKnob Try.prog.godebug=none:=by kernel_rfl
theorem lifted (os:Os) (started:os.Started) (H:Type) (enc:TypeId×Value→H):
 ReturnsInHanded {} Try.checked os 6 .any (Rows.fnRepairsSpec.pre6 enc Try.prog Try.f6 Rows.fnRepairsRow.domain false) (Rows.fnRepairsSpec.post enc Try.prog Try.f6 false true false false):=by
 refine returnsInHanded_of_change_sized (C:=Try.checked) own started (by kernel_rfl) Try.func6
  (ChangeSpec.witness6 (enc:=enc) (C:=Try.checked) false ⟨#[],#[.slice none 0 0,.slice none 0 0],[]⟩ 8 (by kernel_rfl) (by kernel_rfl) (by kernel_rfl) (by kernel_rfl)) ?_
 intro W base args ds gs before hval0 hW hcnd hsz0 _
 have hval:∀(j:Nat) t v,Try.f6.params[j]?=some t→args[j]?=some v→Value.okWide Try.prog W .any base t v:=hval0
 have hW':=hW
 obtain ⟨p,q,hA0,hV,rfl,hfz,hnd⟩:=hW
 have hA:DataW.TrodAll enc Try.prog W 0 (fun _=>true) true Try.f6.params.toList args.toList ds p:=hA0
 rw [Try.params6] at hA hval
 obtain ⟨v0,vs0,d0,ds0,p0,q0,hargs0,rfl,rfl,h0,r0⟩:=ChangeShapes.trodAll_cons hA
 clear hA0
 obtain ⟨v1,vs1,d1,ds1,p1,q1,hargs1,rfl,rfl,h1,r1⟩:=ChangeShapes.trodAll_cons r0
 obtain ⟨rfl,rfl,rfl⟩:=ChangeShapes.trodAll_nil r1
 subst hargs1
 obtain rfl:args=#[v0,v1]:=by cases args;simp_all
 obtain ⟨rfl,rfl⟩:=ChangeShapes.trodVars_none hV
 obtain ⟨a0,k0,w0⟩:=XX (tt:=2) (L9 (e:=5) (sz:=1) (ee:=(eK .u8)) Try.underlying22 (by kernel_rfl) (by decide) (fun _=>rfl) (fun _=>rfl) (Qx Try.underlying5)) (by rw [Try.underlying22]) (hval 0 22 v0 rfl rfl) h0
 obtain ⟨a1,k1,w1⟩:=XX (tt:=2) (L9 (e:=5) (sz:=1) (ee:=(eK .u8)) Try.underlying22 (by kernel_rfl) (by decide) (fun _=>rfl) (fun _=>rfl) (Qx Try.underlying5)) (by rw [Try.underlying22]) (hval 1 22 v1 rfl rfl) h1
 refine (aaA agY (LG (UF a0 a1 (fun x hx=>agX (w0.1 x hx)) (fun x hx=>agX (w1.1 x hx)))) (show IU _ _ _ [v0,v1] from (.cons k0 (.cons k1 .nil)))).mono fun e W' ⟨he,hio,_,hb⟩=>?_
 exact ⟨_,he,aaU Try.underlying4 rfl rfl hW' rfl (kids_rows laid rowed) sized (by decide) hio hb⟩
theorem ajv {a b:Bool} (h1:a=true) (h2:b=true):(a&&b)=true:=by rw [h1,h2];rfl
set_option maxHeartbeats 4000000 in
theorem closed:joinedFacts Try.prog 6 Try.f6 Rows.fnRepairsSpec Rows.fnRepairsRow=true:=by
 unfold joinedFacts
 repeat' with_reducible refine ajv ?_ ?_
 all_goals (as_aux_lemma=>kernel_rfl)
theorem over:Rows.fnRepairsRow.holds Try.pinned (OpenSpec.ofChange Rows.fnRepairsSpec):=
 OpenClaim.holds_of_wide 6 Try.f6 rfl rfl rfl rfl rfl rfl rfl ⟨rfl,rfl,rfl,rfl,rfl⟩ rfl rfl rfl rfl rfl (by kernel_rfl) Try.func6 closed
  (of_decide_eq_true (by kernel_rfl)) (by unfold Func.isWrapper;first | (rw [if_pos (by decide+kernel)];kernel_rfl) | (rw [if_neg (by decide+kernel)];exact ⟨rfl,rfl⟩))
  (fun os started H enc _=>lifted os started H enc)
theorem proved:Rows.FnRepairsSaid:=over
#print axioms proved
end fnRepairs
theorem fnRepairs_holds:Rows.FnRepairsSaid:=fnRepairs.proved
end Go.Proofs.Ytdibfdcmbjaejaa
