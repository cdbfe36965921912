/- FnContrast: whatever the arguments, the law answers true, and the arguments read as they did. Conditions: none beyond those of the row. -/
import Derived.Test.YtdibfdcmbjaejaaRows
import Derived.Test.YtdibfdcmbjaejaaTctL
import Derived.Test.YtdibfdcmbjaejaaTctP
import Derived.Test.YtdibfdcmbjaejaaSimRk
import Derived.WalkKit
import Derived.ProofKit
import Derived.OpenShut
import Derived.ShutString
import Derived.ChangeOld
import Derived.Below
import Derived.SizedLaws
namespace Go.Proofs.Ytdibfdcmbjaejaa
open Go Go.Sim Go.Pw Go.Proofs
set_option linter.unusedVariables false
set_option maxRecDepth 100000
theorem g4:okF fc4 Try.f4=true:=by kernel_rfl
theorem g7:okF fc7 Try.f7=true:=by kernel_rfl
theorem g14:okF aa8 Try.f14=true:=by kernel_rfl
theorem g15:okF aa9 Try.f15=true:=by kernel_rfl
theorem g16:okF aba Try.f16=true:=by kernel_rfl
theorem g17:okF abb Try.f17=true:=by kernel_rfl
theorem g18:okF abe Try.f18=true:=by kernel_rfl
theorem g19:okF abf Try.f19=true:=by kernel_rfl
theorem g20:okF abg Try.f20=true:=by kernel_rfl
theorem g21:okF abh Try.f21=true:=by kernel_rfl
theorem g39:okF abj Try.f39=true:=by kernel_rfl
theorem g40:okF abk Try.f40=true:=by kernel_rfl
theorem g41:okF abl Try.f41=true:=by kernel_rfl
theorem g42:okF abm Try.f42=true:=by kernel_rfl
theorem g43:okF abn Try.f43=true:=by kernel_rfl
theorem g46:okF abo Try.f46=true:=by kernel_rfl
theorem g49:okF abp Try.f49=true:=by kernel_rfl
theorem g53:okF abq Try.f53=true:=by kernel_rfl
theorem g54:okF abr Try.f54=true:=by kernel_rfl
theorem g55:okF abt Try.f55=true:=by kernel_rfl
theorem g56:okF abu Try.f56=true:=by kernel_rfl
theorem g57:okF abv Try.f57=true:=by kernel_rfl
theorem g58:okF abw Try.f58=true:=by kernel_rfl
theorem g59:okF abx Try.f59=true:=by kernel_rfl
theorem g60:okF aby Try.f60=true:=by kernel_rfl
theorem g66:okF abz Try.f66=true:=by kernel_rfl
theorem g67:okF abA Try.f67=true:=by kernel_rfl
theorem g79:okF abB Try.f79=true:=by kernel_rfl
theorem g80:okF abC Try.f80=true:=by kernel_rfl
theorem g83:okF abD Try.f83=true:=by kernel_rfl
theorem g84:okF abE Try.f84=true:=by kernel_rfl
theorem g85:okF abG Try.f85=true:=by kernel_rfl
theorem g86:okF abH Try.f86=true:=by kernel_rfl
theorem g87:okF abI Try.f87=true:=by kernel_rfl
theorem g88:okF abJ Try.f88=true:=by kernel_rfl
theorem g89:okF abK Try.f89=true:=by kernel_rfl
theorem g90:okF abL Try.f90=true:=by kernel_rfl
theorem g91:okF abM Try.f91=true:=by kernel_rfl
theorem g92:okF abN Try.f92=true:=by kernel_rfl
theorem g93:okF abO Try.f93=true:=by kernel_rfl
theorem g94:okF abP Try.f94=true:=by kernel_rfl
theorem g95:okF abQ Try.f95=true:=by kernel_rfl
theorem g98:okF abR Try.f98=true:=by kernel_rfl
theorem g99:okF abS Try.f99=true:=by kernel_rfl
theorem aih:okF Vs Try.f100=true:=by kernel_rfl
theorem aii:okF Vt Try.f101=true:=by kernel_rfl
theorem aij:okF Vu Try.f102=true:=by kernel_rfl
theorem aik:okF Vw Try.f106=true:=by kernel_rfl
theorem ail:okF Vx Try.f107=true:=by kernel_rfl
theorem aim:okF Vy Try.f108=true:=by kernel_rfl
theorem ain:okF Vz Try.f109=true:=by kernel_rfl
theorem aio:okF VA Try.f110=true:=by kernel_rfl
theorem aip:okF VB Try.f111=true:=by kernel_rfl
theorem aiq:okF VC Try.f112=true:=by kernel_rfl
theorem air:okF VD Try.f113=true:=by kernel_rfl
theorem ais:okF VE Try.f114=true:=by kernel_rfl
theorem ait:okF VF Try.f115=true:=by kernel_rfl
theorem aiu:okF VG Try.f116=true:=by kernel_rfl
theorem aiv:okF VH Try.f118=true:=by kernel_rfl
theorem aiw:okF VI Try.f121=true:=by kernel_rfl
theorem aix:okF VJ Try.f129=true:=by kernel_rfl
theorem aiy:okF VK Try.f134=true:=by kernel_rfl
theorem aiz:okF VL Try.f135=true:=by kernel_rfl
theorem aiA:okF VM Try.f136=true:=by kernel_rfl
theorem aiB:okF VN Try.f137=true:=by kernel_rfl
theorem aiC:okF VO Try.f138=true:=by kernel_rfl
theorem aiD:okF VP Try.f143=true:=by kernel_rfl
theorem aiE:okF VQ Try.f144=true:=by kernel_rfl
theorem aiF:okF VR Try.f145=true:=by kernel_rfl
theorem aiG:okF VS Try.f146=true:=by kernel_rfl
theorem aiH:okF VT Try.f147=true:=by kernel_rfl
theorem aiI:okF VU Try.f148=true:=by kernel_rfl
theorem aiJ:okF VV Try.f149=true:=by kernel_rfl
theorem aiK:okF VW Try.f150=true:=by kernel_rfl
theorem aiL:okF VX Try.f151=true:=by kernel_rfl
theorem aiM:okF VY Try.f152=true:=by kernel_rfl
theorem aiN:okF VZ Try.f153=true:=by kernel_rfl
theorem aiO:okF V3 Try.f154=true:=by kernel_rfl
theorem aiP:okF V4 Try.f155=true:=by kernel_rfl
theorem aiQ:okF V5 Try.f156=true:=by kernel_rfl
theorem aiR:okF V6 Try.f158=true:=by kernel_rfl
theorem aiS:okF V7 Try.f159=true:=by kernel_rfl
theorem aiT:okF V8 Try.f160=true:=by kernel_rfl
theorem aiU:okF V9 Try.f161=true:=by kernel_rfl
theorem aiV:okF We Try.f162=true:=by kernel_rfl
theorem aiW:okF Wh Try.f163=true:=by kernel_rfl
theorem aiX:okF Wi Try.f164=true:=by kernel_rfl
theorem aiY:okF Wj Try.f165=true:=by kernel_rfl
theorem aiZ:okF Wl Try.f182=true:=by kernel_rfl
theorem ai0:okF Wn Try.f189=true:=by kernel_rfl
theorem ai1:okF Wp Try.f190=true:=by kernel_rfl
theorem ai2:okF Wq Try.f191=true:=by kernel_rfl
theorem ai3:okF Ws Try.f192=true:=by kernel_rfl
theorem ai4:okF Wu Try.f193=true:=by kernel_rfl
theorem ai5:okF Wv Try.f195=true:=by kernel_rfl
theorem ai6:okF Wx Try.f196=true:=by kernel_rfl
theorem ai7:okF Wy Try.f197=true:=by kernel_rfl
theorem ai8:okF WA Try.f206=true:=by kernel_rfl
theorem ai9:okF WB Try.f207=true:=by kernel_rfl
theorem agC {n:Int} (h:(Lit.int .u8 n).wf=true):0≤n∧n≤255:=by
 have e1:IntKind.u8.max=255:=by decide
 have e2:IntKind.u8.min=0:=by decide
 simp [Lit.wf] at h
 omega
theorem mixed:Try.prog.follows .mixedOrders=true:=by kernel_rfl
theorem agD [Lim]:Vh Try.prog cfg:=by
 refine Yi mixed ?_ fun f g hg=>?_
 ·unfold ons
  simp only [List.forall_mem_cons]
  exact ⟨⟨_,Try.func4,g4⟩,⟨_,Try.func7,g7⟩,⟨_,Try.func14,g14⟩,⟨_,Try.func15,g15⟩,⟨_,Try.func16,g16⟩,⟨_,Try.func17,g17⟩,⟨_,Try.func18,g18⟩,⟨_,Try.func19,g19⟩,⟨_,Try.func20,g20⟩,⟨_,Try.func21,g21⟩,⟨_,Try.func39,g39⟩,⟨_,Try.func40,g40⟩,⟨_,Try.func41,g41⟩,⟨_,Try.func42,g42⟩,⟨_,Try.func43,g43⟩,⟨_,Try.func46,g46⟩,⟨_,Try.func49,g49⟩,⟨_,Try.func53,g53⟩,⟨_,Try.func54,g54⟩,⟨_,Try.func55,g55⟩,⟨_,Try.func56,g56⟩,⟨_,Try.func57,g57⟩,⟨_,Try.func58,g58⟩,⟨_,Try.func59,g59⟩,⟨_,Try.func60,g60⟩,⟨_,Try.func66,g66⟩,⟨_,Try.func67,g67⟩,⟨_,Try.func79,g79⟩,⟨_,Try.func80,g80⟩,⟨_,Try.func83,g83⟩,⟨_,Try.func84,g84⟩,⟨_,Try.func85,g85⟩,⟨_,Try.func86,g86⟩,⟨_,Try.func87,g87⟩,⟨_,Try.func88,g88⟩,⟨_,Try.func89,g89⟩,⟨_,Try.func90,g90⟩,⟨_,Try.func91,g91⟩,⟨_,Try.func92,g92⟩,⟨_,Try.func93,g93⟩,⟨_,Try.func94,g94⟩,⟨_,Try.func95,g95⟩,⟨_,Try.func98,g98⟩,⟨_,Try.func99,g99⟩,⟨_,Try.func100,aih⟩,⟨_,Try.func101,aii⟩,⟨_,Try.func102,aij⟩,⟨_,Try.func106,aik⟩,⟨_,Try.func107,ail⟩,⟨_,Try.func108,aim⟩,⟨_,Try.func109,ain⟩,⟨_,Try.func110,aio⟩,⟨_,Try.func111,aip⟩,⟨_,Try.func112,aiq⟩,⟨_,Try.func113,air⟩,⟨_,Try.func114,ais⟩,⟨_,Try.func115,ait⟩,⟨_,Try.func116,aiu⟩,⟨_,Try.func118,aiv⟩,⟨_,Try.func121,aiw⟩,⟨_,Try.func129,aix⟩,⟨_,Try.func134,aiy⟩,⟨_,Try.func135,aiz⟩,⟨_,Try.func136,aiA⟩,⟨_,Try.func137,aiB⟩,⟨_,Try.func138,aiC⟩,⟨_,Try.func143,aiD⟩,⟨_,Try.func144,aiE⟩,⟨_,Try.func145,aiF⟩,⟨_,Try.func146,aiG⟩,⟨_,Try.func147,aiH⟩,⟨_,Try.func148,aiI⟩,⟨_,Try.func149,aiJ⟩,⟨_,Try.func150,aiK⟩,⟨_,Try.func151,aiL⟩,⟨_,Try.func152,aiM⟩,⟨_,Try.func153,aiN⟩,⟨_,Try.func154,aiO⟩,⟨_,Try.func155,aiP⟩,⟨_,Try.func156,aiQ⟩,⟨_,Try.func158,aiR⟩,⟨_,Try.func159,aiS⟩,⟨_,Try.func160,aiT⟩,⟨_,Try.func161,aiU⟩,⟨_,Try.func162,aiV⟩,⟨_,Try.func163,aiW⟩,⟨_,Try.func164,aiX⟩,⟨_,Try.func165,aiY⟩,⟨_,Try.func182,aiZ⟩,⟨_,Try.func189,ai0⟩,⟨_,Try.func190,ai1⟩,⟨_,Try.func191,ai2⟩,⟨_,Try.func192,ai3⟩,⟨_,Try.func193,ai4⟩,⟨_,Try.func195,ai5⟩,⟨_,Try.func196,ai6⟩,⟨_,Try.func197,ai7⟩,⟨_,Try.func206,ai8⟩,⟨_,Try.func207,ai9⟩,fun _ h=>by cases h⟩
 rcases Yj hg with ⟨rfl,h⟩ | hg
 ·cases h
  exact Yh (cfg:=cfg) (fn:=Try.f119) mixed Try.func119 rfl rfl rfl rfl QM eX rfl uG rfl rfl afH rfl
 cases hg
theorem laid:laidOutB Try.prog=true:=by kernel_rfl
theorem rowed:mapsRowed Try.prog=true:=by kernel_rfl
theorem sized:Cb Try.prog=true:=by kernel_rfl
namespace fnContrast
theorem own:ownKnob Try.prog.godebug=none:=by kernel_rfl
theorem lifted (os:Os) (started:os.Started) (H:Type) (enc:TypeId×Value→H):
 ReturnsInHanded {} Try.checked os 4 .any (Rows.fnContrastSpec.pre6 enc Try.prog Try.f4 Rows.fnContrastRow.domain false) (Rows.fnContrastSpec.post enc Try.prog Try.f4 false true false false):=by
 refine returnsInHanded_of_change_sized (C:=Try.checked) own started (by kernel_rfl) Try.func4
  (ChangeSpec.witness6 (enc:=enc) (C:=Try.checked) false ⟨#[],#[.slice none 0 0,.slice none 0 0],[]⟩ 8 (by kernel_rfl) (by kernel_rfl) (by kernel_rfl) (by kernel_rfl)) ?_
 intro W base args ds gs before hval0 hW hcnd hsz0 _
 have hval:∀(j:Nat) t v,Try.f4.params[j]?=some t→args[j]?=some v→Value.okWide Try.prog W .any base t v:=hval0
 have hW':=hW
 obtain ⟨p,q,hA0,hV,rfl,hfz,hnd⟩:=hW
 have hA:DataW.TrodAll enc Try.prog W 0 (fun _=>true) true Try.f4.params.toList args.toList ds p:=hA0
 rw [Try.params4] at hA hval
 obtain ⟨v0,vs0,d0,ds0,p0,q0,hargs0,rfl,rfl,h0,r0⟩:=ChangeShapes.trodAll_cons hA
 clear hA0
 obtain ⟨v1,vs1,d1,ds1,p1,q1,hargs1,rfl,rfl,h1,r1⟩:=ChangeShapes.trodAll_cons r0
 obtain ⟨rfl,rfl,rfl⟩:=ChangeShapes.trodAll_nil r1
 subst hargs1
 obtain rfl:args=#[v0,v1]:=by cases args;simp_all
 obtain ⟨rfl,rfl⟩:=ChangeShapes.trodVars_none hV
 obtain ⟨a0,k0,w0⟩:=Xj (tt:=2) (KI (e:=5) (sz:=1) (ee:=(eK .u8)) Try.underlying22 (by kernel_rfl) (by decide) (fun _=>rfl) (fun _=>rfl) (PG Try.underlying5)) (by rw [Try.underlying22]) (hval 0 22 v0 rfl rfl) h0
 obtain ⟨a1,k1,w1⟩:=Xj (tt:=2) (KI (e:=5) (sz:=1) (ee:=(eK .u8)) Try.underlying22 (by kernel_rfl) (by decide) (fun _=>rfl) (fun _=>rfl) (PG Try.underlying5)) (by rw [Try.underlying22]) (hval 1 22 v1 rfl rfl) h1
 refine (ZW agD (Jp (Rz a0 a1 (fun x hx=>agC (w0.1 x hx)) (fun x hx=>agC (w1.1 x hx)))) (show GU _ _ _ [v0,v1] from (.cons k0 (.cons k1 .nil)))).mono fun e W' ⟨he,hio,_,hb⟩=>?_
 exact ⟨_,he,aaA Try.underlying4 rfl rfl hW' rfl (kids_rows laid rowed) sized (by decide) hio hb⟩
theorem aja {a b:Bool} (h1:a=true) (h2:b=true):(a&&b)=true:=by rw [h1,h2];rfl
set_option maxHeartbeats 4000000 in
theorem closed:joinedFacts Try.prog 4 Try.f4 Rows.fnContrastSpec Rows.fnContrastRow=true:=by
 unfold joinedFacts
 repeat' with_reducible refine aja ?_ ?_
 all_goals (as_aux_lemma=>kernel_rfl)
theorem over:Rows.fnContrastRow.holds Try.pinned (OpenSpec.ofChange Rows.fnContrastSpec):=
 OpenClaim.holds_of_wide 4 Try.f4 rfl rfl rfl rfl rfl rfl rfl ⟨rfl,rfl,rfl,rfl,rfl⟩ rfl rfl rfl rfl rfl (by kernel_rfl) Try.func4 closed
  (of_decide_eq_true (by kernel_rfl)) (by unfold Func.isWrapper;first | (rw [if_pos (by decide+kernel)];kernel_rfl) | (rw [if_neg (by decide+kernel)];exact ⟨rfl,rfl⟩))
  (fun os started H enc _=>lifted os started H enc)
theorem proved:Rows.FnContrastSaid:=over
#print axioms proved
end fnContrast
theorem fnContrast_holds:Rows.FnContrastSaid:=fnContrast.proved
end Go.Proofs.Ytdibfdcmbjaejaa
