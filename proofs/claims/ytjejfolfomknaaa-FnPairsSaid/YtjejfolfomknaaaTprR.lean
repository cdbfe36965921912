/- FnPairs: whatever the arguments, the law answers true, and the arguments read as they did. Conditions: none beyond those of the row. -/
import Derived.Test.YtjejfolfomknaaaRows
import Derived.Test.YtjejfolfomknaaaTprL
import Derived.Test.YtjejfolfomknaaaTprP
import Derived.Test.YtjejfolfomknaaaSimRw
import Derived.Test.YtjejfolfomknaaaSimRk
import Derived.Shelf.SlGeneric
import Derived.Ground.SlgnProg
import Derived.WalkKit
import Derived.ProofKit
import Derived.OpenShut
import Derived.ShutString
import Derived.ChangeOld
import Derived.Below
import Derived.SizedLaws
namespace Go.Proofs.Ytjejfolfomknaaa
open Go Go.Sim Go.Pw Go.Proofs
set_option linter.unusedVariables false
set_option maxRecDepth 100000
theorem g4:okF fc4 Try.f4=true:=by kernel_rfl
theorem g11:okF Vk Try.f11=true:=by kernel_rfl
theorem g17:okF Vl Try.f17=true:=by kernel_rfl
theorem g18:okF Vm Try.f18=true:=by kernel_rfl
theorem g19:okF Vo Try.f19=true:=by kernel_rfl
theorem g20:okF Vp Try.f20=true:=by kernel_rfl
theorem g21:okF Vq Try.f21=true:=by kernel_rfl
theorem g22:okF Vr Try.f22=true:=by kernel_rfl
theorem g23:okF Vs Try.f23=true:=by kernel_rfl
theorem g46:okF Vt Try.f46=true:=by kernel_rfl
theorem g47:okF Vu Try.f47=true:=by kernel_rfl
theorem g48:okF Vw Try.f48=true:=by kernel_rfl
theorem g55:okF Vx Try.f55=true:=by kernel_rfl
theorem g56:okF Vy Try.f56=true:=by kernel_rfl
theorem g57:okF Vz Try.f57=true:=by kernel_rfl
theorem g58:okF VA Try.f58=true:=by kernel_rfl
theorem g59:okF VB Try.f59=true:=by kernel_rfl
theorem g60:okF VC Try.f60=true:=by kernel_rfl
theorem g61:okF VD Try.f61=true:=by kernel_rfl
theorem g62:okF VE Try.f62=true:=by kernel_rfl
theorem g63:okF VF Try.f63=true:=by kernel_rfl
theorem g64:okF VG Try.f64=true:=by kernel_rfl
theorem g65:okF VH Try.f65=true:=by kernel_rfl
theorem g92:okF VI Try.f92=true:=by kernel_rfl
theorem g97:okF VJ Try.f97=true:=by kernel_rfl
theorem g98:okF VK Try.f98=true:=by kernel_rfl
theorem g99:okF VL Try.f99=true:=by kernel_rfl
theorem aa9:okF Py Try.f100=true:=by kernel_rfl
theorem aba:okF Pz Try.f101=true:=by kernel_rfl
theorem abb:okF PD Try.f102=true:=by kernel_rfl
theorem abd:okF PE Try.f103=true:=by kernel_rfl
theorem abe:okF PI Try.f104=true:=by kernel_rfl
theorem abf:okF PK Try.f105=true:=by kernel_rfl
theorem abg:okF PL Try.f106=true:=by kernel_rfl
theorem abh:okF PN Try.f107=true:=by kernel_rfl
theorem abj:okF PO Try.f108=true:=by kernel_rfl
theorem abk:okF PR Try.f109=true:=by kernel_rfl
theorem abl:okF PS Try.f110=true:=by kernel_rfl
theorem abm:okF PT Try.f111=true:=by kernel_rfl
theorem abn:okF PU Try.f125=true:=by kernel_rfl
theorem abo:okF PV Try.f127=true:=by kernel_rfl
theorem abp:okF PW Try.f130=true:=by kernel_rfl
theorem abq:okF PX Try.f131=true:=by kernel_rfl
theorem abr:okF PY Try.f132=true:=by kernel_rfl
theorem abt:okF PZ Try.f133=true:=by kernel_rfl
theorem abu:okF P5 Try.f134=true:=by kernel_rfl
theorem abv:okF P6 Try.f135=true:=by kernel_rfl
theorem abw:okF P7 Try.f144=true:=by kernel_rfl
theorem abx:okF P8 Try.f145=true:=by kernel_rfl
theorem aby:okF P9 Try.f146=true:=by kernel_rfl
theorem abz:okF Qa Try.f147=true:=by kernel_rfl
theorem abA:okF Qb Try.f148=true:=by kernel_rfl
theorem abB:okF Qc Try.f172=true:=by kernel_rfl
theorem abC:okF Qd Try.f173=true:=by kernel_rfl
theorem abD:okF Qe Try.f174=true:=by kernel_rfl
theorem abE:okF Qg Try.f180=true:=by kernel_rfl
theorem ZG {n:Int} (h:(Lit.int .u8 n).wf=true):0≤n∧n≤255:=by
 have e1:IntKind.u8.max=255:=by decide
 have e2:IntKind.u8.min=0:=by decide
 simp [Lit.wf] at h
 omega
theorem mixed:Try.prog.follows .mixedOrders=true:=by kernel_rfl
open Go.Shelf in
shelf_lay_g SlLaysE.n45 Slgn 45 at Try 93 as Try.laysD
theorem Rt (blk off cap i j:Nat) (zs:List Int) (w:World) (h1:Go.Sort.Holds (Value.int .i64) w blk off zs.toArray) (h2:zs.length≤9223372036854775807) (h3:zs.length≤cap) (h4:i<j) (h5:j≤zs.length):
 Calls Try.prog 93 #[.slice (some ⟨blk,off,none⟩) zs.length cap,.int .i64 i,.int .i64 j] w fun e w'=>e= .returned (.slice (some ⟨blk,off,none⟩) (zs.length - (j - i)) cap)∧∃n,w'=Go.Sort.putRow (Value.int .i64) (Go.Sort.ahead w n) blk off (Ea zs i j++List.replicate (j - i) 0).toArray:=
 MV Try.laysD Try.zeroValue2 (by kernel_rfl) h1 h2 h3 h4 h5
theorem ZH [Lim]:Pn Try.prog cfg:=by
 refine QY mixed ?_ fun f g hg=>?_
 ·unfold ons
  simp only [List.forall_mem_cons]
  exact ⟨⟨_,Try.func4,g4⟩,⟨_,Try.func11,g11⟩,⟨_,Try.func17,g17⟩,⟨_,Try.func18,g18⟩,⟨_,Try.func19,g19⟩,⟨_,Try.func20,g20⟩,⟨_,Try.func21,g21⟩,⟨_,Try.func22,g22⟩,⟨_,Try.func23,g23⟩,⟨_,Try.func46,g46⟩,⟨_,Try.func47,g47⟩,⟨_,Try.func48,g48⟩,⟨_,Try.func55,g55⟩,⟨_,Try.func56,g56⟩,⟨_,Try.func57,g57⟩,⟨_,Try.func58,g58⟩,⟨_,Try.func59,g59⟩,⟨_,Try.func60,g60⟩,⟨_,Try.func61,g61⟩,⟨_,Try.func62,g62⟩,⟨_,Try.func63,g63⟩,⟨_,Try.func64,g64⟩,⟨_,Try.func65,g65⟩,⟨_,Try.func92,g92⟩,⟨_,Try.func97,g97⟩,⟨_,Try.func98,g98⟩,⟨_,Try.func99,g99⟩,⟨_,Try.func100,aa9⟩,⟨_,Try.func101,aba⟩,⟨_,Try.func102,abb⟩,⟨_,Try.func103,abd⟩,⟨_,Try.func104,abe⟩,⟨_,Try.func105,abf⟩,⟨_,Try.func106,abg⟩,⟨_,Try.func107,abh⟩,⟨_,Try.func108,abj⟩,⟨_,Try.func109,abk⟩,⟨_,Try.func110,abl⟩,⟨_,Try.func111,abm⟩,⟨_,Try.func125,abn⟩,⟨_,Try.func127,abo⟩,⟨_,Try.func130,abp⟩,⟨_,Try.func131,abq⟩,⟨_,Try.func132,abr⟩,⟨_,Try.func133,abt⟩,⟨_,Try.func134,abu⟩,⟨_,Try.func135,abv⟩,⟨_,Try.func144,abw⟩,⟨_,Try.func145,abx⟩,⟨_,Try.func146,aby⟩,⟨_,Try.func147,abz⟩,⟨_,Try.func148,abA⟩,⟨_,Try.func172,abB⟩,⟨_,Try.func173,abC⟩,⟨_,Try.func174,abD⟩,⟨_,Try.func180,abE⟩,fun _ h=>by cases h⟩
 rcases EP hg with ⟨rfl,h⟩ | hg
 ·cases h
  exact Ou (cfg:=cfg) (fn:=Try.f91) mixed Try.func91 rfl rfl rfl rfl MW kR rfl vz rfl rfl aaJ rfl
 rcases EP hg with ⟨rfl,h⟩ | hg
 ·cases h
  exact QX (cfg:=cfg) (fn:=Try.f94) mixed Try.func94 rfl rfl rfl rfl aay iG rfl Fg rfl rfl aaK rfl
 rcases EP hg with ⟨rfl,h⟩ | hg
 ·cases h
  exact Ot (cfg:=cfg) Rt ⟨_,Try.func93,rfl,rfl⟩
 cases hg
theorem laid:laidOutB Try.prog=true:=by kernel_rfl
theorem rowed:mapsRowed Try.prog=true:=by kernel_rfl
theorem sized:xJ Try.prog=true:=by kernel_rfl
namespace fnPairs
theorem own:ownKnob Try.prog.godebug=none:=by kernel_rfl
theorem lifted (os:Os) (started:os.Started) (H:Type) (enc:TypeId×Value→H):
 ReturnsInHanded {} Try.checked os 4 .any (Rows.fnPairsSpec.pre6 enc Try.prog Try.f4 Rows.fnPairsRow.domain false) (Rows.fnPairsSpec.post enc Try.prog Try.f4 false true false false):=by
 refine returnsInHanded_of_change_sized (C:=Try.checked) own started (by kernel_rfl) Try.func4
  (ChangeSpec.witness6 (enc:=enc) (C:=Try.checked) false ⟨#[],#[.slice none 0 0,.slice none 0 0],[]⟩ 8 (by kernel_rfl) (by kernel_rfl) (by kernel_rfl) (by kernel_rfl)) ?_
 intro W base args ds gs before hval0 hW hcnd hsz0 _
 have hval:∀(j:Nat) t v,Try.f4.params[j]?=some t→args[j]?=some v→Value.okWide Try.prog W .any base t v:=hval0
 have hW':=hW
 obtain ⟨p,q,hA0,hV,rfl,hfz,hnd⟩:=hW
 have hA:DataW.TrodAll enc Try.prog W 0 (fun _=>true) true Try.f4.params.toList args.toList ds p:=hA0
 rw [Try.params4] at hA hval
 obtain ⟨v0,vs0,d0,ds0,p0,q0,hargs0,rfl,rfl,h0,r0⟩:=ChangeShapes.trodAll_cons hA
 clear hA0
 obtain ⟨v1,vs1,d1,ds1,p1,q1,hargs1,rfl,rfl,h1,r1⟩:=ChangeShapes.trodAll_cons r0
 obtain ⟨rfl,rfl,rfl⟩:=ChangeShapes.trodAll_nil r1
 subst hargs1
 obtain rfl:args=#[v0,v1]:=by cases args;simp_all
 obtain ⟨rfl,rfl⟩:=ChangeShapes.trodVars_none hV
 obtain ⟨a0,k0,w0⟩:=Px (tt:=2) (FU (e:=5) (sz:=1) (ee:=(eK .u8)) Try.underlying34 (by kernel_rfl) (by decide) (fun _=>rfl) (fun _=>rfl) (JD Try.underlying5)) (by rw [Try.underlying34]) (hval 0 34 v0 rfl rfl) h0
 obtain ⟨a1,k1,w1⟩:=Px (tt:=2) (FU (e:=5) (sz:=1) (ee:=(eK .u8)) Try.underlying34 (by kernel_rfl) (by decide) (fun _=>rfl) (fun _=>rfl) (JD Try.underlying5)) (by rw [Try.underlying34]) (hval 1 34 v1 rfl rfl) h1
 refine (TL ZH (IL (Rq a0 a1 (fun x hx=>ZG (w0.1 x hx)) (fun x hx=>ZG (w1.1 x hx)))) (show BR _ _ _ [v0,v1] from (.cons k0 (.cons k1 .nil)))).mono fun e W' ⟨he,hio,_,hb⟩=>?_
 exact ⟨_,he,TM Try.underlying4 rfl rfl hW' rfl (kids_rows laid rowed) sized (by decide) hio hb⟩
theorem abG {a b:Bool} (h1:a=true) (h2:b=true):(a&&b)=true:=by rw [h1,h2];rfl
set_option maxHeartbeats 4000000 in
theorem closed:joinedFacts Try.prog 4 Try.f4 Rows.fnPairsSpec Rows.fnPairsRow=true:=by
 unfold joinedFacts
 repeat' with_reducible refine abG ?_ ?_
 all_goals (as_aux_lemma=>kernel_rfl)
theorem over:Rows.fnPairsRow.holds Try.pinned (OpenSpec.ofChange Rows.fnPairsSpec):=
 OpenClaim.holds_of_wide 4 Try.f4 rfl rfl rfl rfl rfl rfl rfl ⟨rfl,rfl,rfl,rfl,rfl⟩ rfl rfl rfl rfl rfl (by kernel_rfl) Try.func4 closed
  (of_decide_eq_true (by kernel_rfl)) (by unfold Func.isWrapper;first | (rw [if_pos (by decide+kernel)];kernel_rfl) | (rw [if_neg (by decide+kernel)];exact ⟨rfl,rfl⟩))
  (fun os started H enc _=>lifted os started H enc)
theorem proved:Rows.FnPairsSaid:=over
#print axioms proved
end fnPairs
theorem fnPairs_holds:Rows.FnPairsSaid:=fnPairs.proved
end Go.Proofs.Ytjejfolfomknaaa
