/- FnExactFirstColoring: whatever the arguments, the law answers true, and the arguments read as they did. Conditions: none beyond those of the row. -/
import Derived.Test.YtnjgcdpleghciaaGreatRows
import Derived.Test.YtnjgcdpleghciaaGreatTfcL
import Derived.Test.YtnjgcdpleghciaaGreatTfcP
import Derived.Test.YtnjgcdpleghciaaGreatSimRx
import Derived.Shelf.SlGeneric
import Derived.Ground.SlgmProg
import Derived.Ground.SlgnProg
import Derived.WalkKit
import Derived.ProofKit
import Derived.OpenShut
import Derived.ShutString
import Derived.ChangeOld
import Derived.Below
import Derived.SizedLaws
namespace Go.Proofs.YtnjgcdpleghciaaGreat
open Go Go.Sim Go.Pw Go.Proofs
set_option linter.unusedVariables false
set_option maxRecDepth 100000
theorem g3:okF fc3 Tryz.f3=true:=by kernel_rfl
theorem g6:okF fc6 Tryz.f6=true:=by kernel_rfl
theorem g7:okF fc7 Tryz.f7=true:=by kernel_rfl
theorem g8:okF fc8 Tryz.f8=true:=by kernel_rfl
theorem g9:okF fc9 Tryz.f9=true:=by kernel_rfl
theorem g10:okF YR Tryz.f10=true:=by kernel_rfl
theorem g11:okF YS Tryz.f11=true:=by kernel_rfl
theorem g12:okF YT Tryz.f12=true:=by kernel_rfl
theorem g13:okF YU Tryz.f13=true:=by kernel_rfl
theorem g14:okF YV Tryz.f14=true:=by kernel_rfl
theorem g15:okF YW Tryz.f15=true:=by kernel_rfl
theorem g16:okF YX Tryz.f16=true:=by kernel_rfl
theorem g17:okF YY Tryz.f17=true:=by kernel_rfl
theorem g18:okF YZ Tryz.f18=true:=by kernel_rfl
theorem g23:okF Y0 Tryz.f23=true:=by kernel_rfl
theorem g24:okF Y1 Tryz.f24=true:=by kernel_rfl
theorem g25:okF Y2 Tryz.f25=true:=by kernel_rfl
theorem g26:okF Y3 Tryz.f26=true:=by kernel_rfl
theorem g27:okF Y4 Tryz.f27=true:=by kernel_rfl
theorem g28:okF Y5 Tryz.f28=true:=by kernel_rfl
theorem g29:okF Y6 Tryz.f29=true:=by kernel_rfl
theorem g30:okF Y7 Tryz.f30=true:=by kernel_rfl
theorem g31:okF Y8 Tryz.f31=true:=by kernel_rfl
theorem g32:okF Y9 Tryz.f32=true:=by kernel_rfl
theorem g33:okF Za Tryz.f33=true:=by kernel_rfl
theorem g34:okF Zb Tryz.f34=true:=by kernel_rfl
theorem g35:okF Zc Tryz.f35=true:=by kernel_rfl
theorem g36:okF Zd Tryz.f36=true:=by kernel_rfl
theorem g37:okF Ze Tryz.f37=true:=by kernel_rfl
theorem g38:okF Zg Tryz.f38=true:=by kernel_rfl
theorem g39:okF Zh Tryz.f39=true:=by kernel_rfl
theorem g40:okF Zi Tryz.f40=true:=by kernel_rfl
theorem g41:okF Zj Tryz.f41=true:=by kernel_rfl
theorem g42:okF Zk Tryz.f42=true:=by kernel_rfl
theorem g43:okF Zl Tryz.f43=true:=by kernel_rfl
theorem g44:okF Zm Tryz.f44=true:=by kernel_rfl
theorem g45:okF Zn Tryz.f45=true:=by kernel_rfl
theorem g46:okF Zo Tryz.f46=true:=by kernel_rfl
theorem g47:okF Zp Tryz.f47=true:=by kernel_rfl
theorem g48:okF Zq Tryz.f48=true:=by kernel_rfl
theorem g49:okF Zr Tryz.f49=true:=by kernel_rfl
theorem g50:okF Zt Tryz.f50=true:=by kernel_rfl
theorem g51:okF Zu Tryz.f51=true:=by kernel_rfl
theorem g52:okF Zv Tryz.f52=true:=by kernel_rfl
theorem g53:okF Zw Tryz.f53=true:=by kernel_rfl
theorem g54:okF Zx Tryz.f54=true:=by kernel_rfl
theorem g55:okF Zy Tryz.f55=true:=by kernel_rfl
theorem g56:okF Zz Tryz.f56=true:=by kernel_rfl
theorem g57:okF ZA Tryz.f57=true:=by kernel_rfl
theorem g58:okF ZB Tryz.f58=true:=by kernel_rfl
theorem g62:okF ZC Tryz.f62=true:=by kernel_rfl
theorem g63:okF ZE Tryz.f63=true:=by kernel_rfl
theorem g64:okF ZF Tryz.f64=true:=by kernel_rfl
theorem g65:okF ZG Tryz.f65=true:=by kernel_rfl
theorem g66:okF ZH Tryz.f66=true:=by kernel_rfl
theorem g67:okF ZI Tryz.f67=true:=by kernel_rfl
theorem g68:okF ZJ Tryz.f68=true:=by kernel_rfl
theorem g69:okF ZK Tryz.f69=true:=by kernel_rfl
theorem g70:okF ZL Tryz.f70=true:=by kernel_rfl
theorem g71:okF ZM Tryz.f71=true:=by kernel_rfl
theorem g72:okF ZN Tryz.f72=true:=by kernel_rfl
theorem g73:okF ZO Tryz.f73=true:=by kernel_rfl
theorem g74:okF ZP Tryz.f74=true:=by kernel_rfl
theorem g75:okF ZQ Tryz.f75=true:=by kernel_rfl
theorem g76:okF ZR Tryz.f76=true:=by kernel_rfl
theorem g77:okF ZT Tryz.f77=true:=by kernel_rfl
theorem g78:okF ZU Tryz.f78=true:=by kernel_rfl
theorem g79:okF ZV Tryz.f79=true:=by kernel_rfl
theorem g80:okF ZW Tryz.f80=true:=by kernel_rfl
theorem g81:okF ZX Tryz.f81=true:=by kernel_rfl
theorem g82:okF ZY Tryz.f82=true:=by kernel_rfl
theorem g83:okF ZZ Tryz.f83=true:=by kernel_rfl
theorem g84:okF Z4 Tryz.f84=true:=by kernel_rfl
theorem g87:okF Z5 Tryz.f87=true:=by kernel_rfl
theorem g88:okF aab Tryz.f88=true:=by kernel_rfl
theorem g89:okF aac Tryz.f89=true:=by kernel_rfl
theorem g90:okF aad Tryz.f90=true:=by kernel_rfl
theorem g91:okF aae Tryz.f91=true:=by kernel_rfl
theorem g92:okF aaf Tryz.f92=true:=by kernel_rfl
theorem g93:okF aag Tryz.f93=true:=by kernel_rfl
theorem g94:okF aah Tryz.f94=true:=by kernel_rfl
theorem g95:okF aai Tryz.f95=true:=by kernel_rfl
theorem g96:okF aaj Tryz.f96=true:=by kernel_rfl
theorem g97:okF aak Tryz.f97=true:=by kernel_rfl
theorem g98:okF aal Tryz.f98=true:=by kernel_rfl
theorem g99:okF aam Tryz.f99=true:=by kernel_rfl
theorem aht:okF TR Tryz.f100=true:=by kernel_rfl
theorem ahu:okF TS Tryz.f101=true:=by kernel_rfl
theorem ahv:okF TT Tryz.f102=true:=by kernel_rfl
theorem ahw:okF TU Tryz.f103=true:=by kernel_rfl
theorem ahx:okF TV Tryz.f104=true:=by kernel_rfl
theorem ahy:okF TW Tryz.f105=true:=by kernel_rfl
theorem ahz:okF TY Tryz.f106=true:=by kernel_rfl
theorem ahA:okF TZ Tryz.f118=true:=by kernel_rfl
theorem ahB:okF Ua Tryz.f119=true:=by kernel_rfl
theorem ahC:okF Ub Tryz.f120=true:=by kernel_rfl
theorem ahD:okF Uc Tryz.f121=true:=by kernel_rfl
theorem ahE:okF Ud Tryz.f122=true:=by kernel_rfl
theorem ahF:okF Ue Tryz.f123=true:=by kernel_rfl
theorem ahG:okF Uf Tryz.f124=true:=by kernel_rfl
theorem ahH:okF Ug Tryz.f131=true:=by kernel_rfl
theorem mixed:Tryz.prog.follows .mixedOrders=true:=by kernel_rfl
open Go.Shelf in
shelf_lay_g SlLaysM.n5 Slgm 5 at Tryz 60 as Tryz.laysS
theorem abk (blk off cap:Nat) (zs:List Int) (w:World) (h1:Go.Sort.Holds (Value.int .i64) w blk off zs.toArray) (h2:blk<w.heap.size) (h3:zs.length<4611686018427387904):
 Calls Tryz.prog 60 #[.slice (some ⟨blk,off,none⟩) zs.length cap] w fun e w'=>e= .returned (.tuple #[])∧∃n os,w'=Go.Sort.grow (Go.Sort.putRow (Value.int .i64) (Go.Sort.ahead w n) blk off (sortL zs).toArray) os:=
 AnyM.slices_Sort_int Tryz.laysS blk off cap zs w h1 h2 h3
theorem VF (p:Option Addr) (cap:Nat) (w:World):Calls Tryz.prog 60 #[.slice p 0 cap] w fun e w'=>e= .returned (.tuple #[])∧w'=w:=AnyM.slices_Sort_int_none Tryz.laysS p cap w
open Go.Shelf in
shelf_lay_g SlLaysE.n43 Slgn 43 at Tryz 61 as Tryz.laysC
theorem Ti (blk off cap:Nat) (zs:List Int) (w:World) (h1:Go.Sort.Holds (Value.int .i64) w blk off zs.toArray) (h2:zs.length≤9223372036854775807) (h3:zs.length≤cap):
 Calls Tryz.prog 61 #[.slice (some ⟨blk,off,none⟩) zs.length cap] w fun e w'=>e= .returned (.slice (some ⟨blk,off,none⟩) (cmpL zs).length cap)∧∃n,w'=Go.Sort.putRow (Value.int .i64) (Go.Sort.ahead w n) blk off (cmpL zs++List.replicate (zs.length - (cmpL zs).length) 0).toArray:=by
 have h:=AnyE.slices_Compact Tryz.laysC (Value.int .i64) (fun _=>rfl) (EqlAt.intD _ _ .i64) (NeqAt.intD _ _ .i64) 0 Tryz.zeroValue2 blk off cap zs.toArray w h1 (by simpa using h2) (by simpa using h3)
 rw [Yh] at h
 simp only [List.size_toArray] at h
 exact h
theorem O7 (p:Option Addr) (w:World):Calls Tryz.prog 61 #[.slice p 0 0] w fun e w'=>e= .returned (.slice p 0 0)∧∃n,w'={w with drawn:=n}:=O6 Tryz.laysC p w
theorem afm [Lim]:TG Tryz.prog cfg:=by
 refine UZ mixed ?_ fun f g hg=>?_
 ·unfold ons
  simp only [List.forall_mem_cons]
  exact ⟨⟨_,Tryz.func3,g3⟩,⟨_,Tryz.func6,g6⟩,⟨_,Tryz.func7,g7⟩,⟨_,Tryz.func8,g8⟩,⟨_,Tryz.func9,g9⟩,⟨_,Tryz.func10,g10⟩,⟨_,Tryz.func11,g11⟩,⟨_,Tryz.func12,g12⟩,⟨_,Tryz.func13,g13⟩,⟨_,Tryz.func14,g14⟩,⟨_,Tryz.func15,g15⟩,⟨_,Tryz.func16,g16⟩,⟨_,Tryz.func17,g17⟩,⟨_,Tryz.func18,g18⟩,⟨_,Tryz.func23,g23⟩,⟨_,Tryz.func24,g24⟩,⟨_,Tryz.func25,g25⟩,⟨_,Tryz.func26,g26⟩,⟨_,Tryz.func27,g27⟩,⟨_,Tryz.func28,g28⟩,⟨_,Tryz.func29,g29⟩,⟨_,Tryz.func30,g30⟩,⟨_,Tryz.func31,g31⟩,⟨_,Tryz.func32,g32⟩,⟨_,Tryz.func33,g33⟩,⟨_,Tryz.func34,g34⟩,⟨_,Tryz.func35,g35⟩,⟨_,Tryz.func36,g36⟩,⟨_,Tryz.func37,g37⟩,⟨_,Tryz.func38,g38⟩,⟨_,Tryz.func39,g39⟩,⟨_,Tryz.func40,g40⟩,⟨_,Tryz.func41,g41⟩,⟨_,Tryz.func42,g42⟩,⟨_,Tryz.func43,g43⟩,⟨_,Tryz.func44,g44⟩,⟨_,Tryz.func45,g45⟩,⟨_,Tryz.func46,g46⟩,⟨_,Tryz.func47,g47⟩,⟨_,Tryz.func48,g48⟩,⟨_,Tryz.func49,g49⟩,⟨_,Tryz.func50,g50⟩,⟨_,Tryz.func51,g51⟩,⟨_,Tryz.func52,g52⟩,⟨_,Tryz.func53,g53⟩,⟨_,Tryz.func54,g54⟩,⟨_,Tryz.func55,g55⟩,⟨_,Tryz.func56,g56⟩,⟨_,Tryz.func57,g57⟩,⟨_,Tryz.func58,g58⟩,⟨_,Tryz.func62,g62⟩,⟨_,Tryz.func63,g63⟩,⟨_,Tryz.func64,g64⟩,⟨_,Tryz.func65,g65⟩,⟨_,Tryz.func66,g66⟩,⟨_,Tryz.func67,g67⟩,⟨_,Tryz.func68,g68⟩,⟨_,Tryz.func69,g69⟩,⟨_,Tryz.func70,g70⟩,⟨_,Tryz.func71,g71⟩,⟨_,Tryz.func72,g72⟩,⟨_,Tryz.func73,g73⟩,⟨_,Tryz.func74,g74⟩,⟨_,Tryz.func75,g75⟩,⟨_,Tryz.func76,g76⟩,⟨_,Tryz.func77,g77⟩,⟨_,Tryz.func78,g78⟩,⟨_,Tryz.func79,g79⟩,⟨_,Tryz.func80,g80⟩,⟨_,Tryz.func81,g81⟩,⟨_,Tryz.func82,g82⟩,⟨_,Tryz.func83,g83⟩,⟨_,Tryz.func84,g84⟩,⟨_,Tryz.func87,g87⟩,⟨_,Tryz.func88,g88⟩,⟨_,Tryz.func89,g89⟩,⟨_,Tryz.func90,g90⟩,⟨_,Tryz.func91,g91⟩,⟨_,Tryz.func92,g92⟩,⟨_,Tryz.func93,g93⟩,⟨_,Tryz.func94,g94⟩,⟨_,Tryz.func95,g95⟩,⟨_,Tryz.func96,g96⟩,⟨_,Tryz.func97,g97⟩,⟨_,Tryz.func98,g98⟩,⟨_,Tryz.func99,g99⟩,⟨_,Tryz.func100,aht⟩,⟨_,Tryz.func101,ahu⟩,⟨_,Tryz.func102,ahv⟩,⟨_,Tryz.func103,ahw⟩,⟨_,Tryz.func104,ahx⟩,⟨_,Tryz.func105,ahy⟩,⟨_,Tryz.func106,ahz⟩,⟨_,Tryz.func118,ahA⟩,⟨_,Tryz.func119,ahB⟩,⟨_,Tryz.func120,ahC⟩,⟨_,Tryz.func121,ahD⟩,⟨_,Tryz.func122,ahE⟩,⟨_,Tryz.func123,ahF⟩,⟨_,Tryz.func124,ahG⟩,⟨_,Tryz.func131,ahH⟩,fun _ h=>by cases h⟩
 rcases GU hg with ⟨rfl,h⟩ | hg
 ·cases h
  exact UY (cfg:=cfg) (fn:=Tryz.f59) mixed Tryz.func59 rfl rfl rfl rfl FQ fH rfl lX rfl rfl agB rfl
 rcases GU hg with ⟨rfl,h⟩ | hg
 ·cases h
  exact Xc (cfg:=cfg) abk VF ⟨_,Tryz.func60,rfl,rfl⟩
 rcases GU hg with ⟨rfl,h⟩ | hg
 ·cases h
  exact Ql (cfg:=cfg) Ti O7 ⟨_,Tryz.func61,rfl,rfl⟩
 cases hg
theorem laid:laidOutB Tryz.prog=true:=by kernel_rfl
theorem rowed:mapsRowed Tryz.prog=true:=by kernel_rfl
theorem sized:zk Tryz.prog=true:=by kernel_rfl
def KZ (x:af):Prop:=(Lit.int .i64 x.X).wf=true∧(Lit.int .i64 x.Y).wf=true
theorem o94:zh Tryz.prog 94 (fun x:af=>(az x).cells) KZ:=
 DJ (fun p:Int×Int×Unit=>⟨p.1,p.2.1⟩)
  (xX Tryz.underlying94 (by kernel_rfl) (jV (s:=1) (by kernel_rfl) rfl (qO Tryz.underlying2) (jV (s:=1) (by kernel_rfl) rfl (qO Tryz.underlying2) AZ)))
  (fun _=>rfl) (fun _ h=>⟨h.1,h.2.1⟩)
def Np (x:dh):Prop:=x.Name.size≤maxLen∧((∀a∈x.Ring,(Lit.int .i64 a).wf=true)∧x.Ring.length≤maxLen)
theorem o82:zh Tryz.prog 82 (fun x:dh=>(bM x).cells) Np:=
 DJ (fun p:ByteArray×(List Int)×Unit=>⟨p.1,p.2.1⟩)
  (xX Tryz.underlying82 (by kernel_rfl) (jV (s:=1) (by kernel_rfl) rfl (FN Tryz.underlying9) (jV (s:=1) (by kernel_rfl) rfl (zi (e:=2) (sz:=1) (ee:=eI) Tryz.underlying29 (by kernel_rfl) (by decide) (fun _=>rfl) (fun _=>rfl) (qO Tryz.underlying2)) AZ)))
  (fun _=>rfl) (fun _ h=>⟨h.1,h.2.1⟩)
def O8 (x:aA):Prop:=(Lit.int .i64 x.Width).wf=true∧(Lit.int .i64 x.Height).wf=true∧((∀a∈x.bf,KZ a)∧x.bf.length≤maxLen)∧((∀a∈x.aC,Np a)∧x.aC.length≤maxLen)
theorem o25:zh Tryz.prog 25 (fun x:aA=>(Qm x).cells) O8:=
 DJ (fun p:Int×Int×(List af)×(List dh)×Unit=>⟨p.1,p.2.1,p.2.2.1,p.2.2.2.1⟩)
  (xX Tryz.underlying25 (by kernel_rfl) (jV (s:=1) (by kernel_rfl) rfl (qO Tryz.underlying2) (jV (s:=1) (by kernel_rfl) rfl (qO Tryz.underlying2) (jV (s:=1) (by kernel_rfl) rfl (zi (e:=94) (sz:=2) (ee:=az) Tryz.underlying22 (by kernel_rfl) (by decide) (fun _=>rfl) (fun _=>rfl) o94) (jV (s:=1) (by kernel_rfl) rfl (zi (e:=82) (sz:=2) (ee:=bM) Tryz.underlying23 (by kernel_rfl) (by decide) (fun _=>rfl) (fun _=>rfl) o82) AZ)))))
  (fun _=>rfl) (fun _ h=>⟨h.1,h.2.1,h.2.2.1,h.2.2.2.1⟩)
def QM (x:ai):Prop:=x.ji.size≤maxLen∧(Lit.int .i64 x.dM).wf=true∧(Lit.int .i64 x.aX).wf=true
theorem o54:zh Tryz.prog 54 (fun x:ai=>(au x).cells) QM:=
 DJ (fun p:ByteArray×Int×Int×Unit=>⟨p.1,p.2.1,p.2.2.1⟩)
  (xX Tryz.underlying54 (by kernel_rfl) (jV (s:=1) (by kernel_rfl) rfl (FN Tryz.underlying9) (jV (s:=1) (by kernel_rfl) rfl (qO Tryz.underlying2) (jV (s:=1) (by kernel_rfl) rfl (qO Tryz.underlying2) AZ))))
  (fun _=>rfl) (fun _ h=>⟨h.1,h.2.1,h.2.2.1⟩)
namespace fnExactFirstColoring
theorem own:ownKnob Tryz.prog.godebug=none:=by kernel_rfl
theorem lifted (os:Os) (started:os.Started) (H:Type) (enc:TypeId×Value→H):
 ReturnsInHanded {} Tryz.checked os 3 .any (Rows.fnExactFirstColoringSpec.pre6 enc Tryz.prog Tryz.f3 Rows.fnExactFirstColoringRow.domain false) (Rows.fnExactFirstColoringSpec.post enc Tryz.prog Tryz.f3 false true false false):=by
 refine returnsInHanded_of_change_sized (C:=Tryz.checked) own started (by kernel_rfl) Tryz.func3
  (ChangeSpec.witness6 (enc:=enc) (C:=Tryz.checked) false ⟨#[],#[.agg #[.int .i64 0,.int .i64 0,.slice none 0 0,.slice none 0 0],.slice none 0 0,.int .i64 0,.int .i64 0],[]⟩ 8 (by kernel_rfl) (by kernel_rfl) (by kernel_rfl) (by kernel_rfl)) ?_
 intro W base args ds gs before hval0 hW hcnd hsz0 _
 have hval:∀(j:Nat) t v,Tryz.f3.params[j]?=some t→args[j]?=some v→Value.okWide Tryz.prog W .any base t v:=hval0
 have hW':=hW
 obtain ⟨p,q,hA0,hV,rfl,hfz,hnd⟩:=hW
 have hA:DataW.TrodAll enc Tryz.prog W 0 (fun _=>true) true Tryz.f3.params.toList args.toList ds p:=hA0
 rw [Tryz.params3] at hA hval
 obtain ⟨v0,vs0,d0,ds0,p0,q0,hargs0,rfl,rfl,h0,r0⟩:=ChangeShapes.trodAll_cons hA
 clear hA0
 obtain ⟨v1,vs1,d1,ds1,p1,q1,hargs1,rfl,rfl,h1,r1⟩:=ChangeShapes.trodAll_cons r0
 subst hargs1
 obtain ⟨v2,vs2,d2,ds2,p2,q2,adF,rfl,rfl,h2,r2⟩:=ChangeShapes.trodAll_cons r1
 subst adF
 obtain ⟨v3,vs3,d3,ds3,p3,q3,adG,rfl,rfl,h3,r3⟩:=ChangeShapes.trodAll_cons r2
 obtain ⟨rfl,rfl,rfl⟩:=ChangeShapes.trodAll_nil r3
 subst adG
 obtain rfl:args=#[v0,v1,v2,v3]:=by cases args;simp_all
 obtain ⟨rfl,rfl⟩:=ChangeShapes.trodVars_none hV
 obtain ⟨a0,k0,w0⟩:=YM (tt:=2) o25 Tryz.underlying25 (hval 0 25 v0 rfl rfl) h0
 obtain ⟨a1,k1,w1⟩:=NZ (tt:=2) (zi (e:=54) (sz:=3) (ee:=au) Tryz.underlying26 (by kernel_rfl) (by decide) (fun _=>rfl) (fun _=>rfl) o54) (by rw [Tryz.underlying26]) (hval 1 26 v1 rfl rfl) h1
 obtain ⟨a2,k2,w2⟩:=NZ (tt:=2) (qO Tryz.underlying2) (by rw [Tryz.underlying2]) (hval 2 2 v2 rfl rfl) h2
 obtain ⟨a3,k3,w3⟩:=NZ (tt:=2) (qO Tryz.underlying2) (by rw [Tryz.underlying2]) (hval 3 2 v3 rfl rfl) h3
 refine (WX afm (yl (Gm a0 a1 a2 a3 w0 w1)) (show Eb _ _ _ [v0,v1,v2,v3] from (.cons k0 (.cons k1 (.cons k2 (.cons k3 .nil)))))).mono fun e W' ⟨he,hio,_,hb⟩=>?_
 exact ⟨_,he,WY Tryz.underlying4 rfl rfl hW' rfl (kids_rows laid rowed) sized (by decide) hio hb⟩
theorem ahI {a b:Bool} (h1:a=true) (h2:b=true):(a&&b)=true:=by rw [h1,h2];rfl
set_option maxHeartbeats 4000000 in
theorem closed:joinedFacts Tryz.prog 3 Tryz.f3 Rows.fnExactFirstColoringSpec Rows.fnExactFirstColoringRow=true:=by
 unfold joinedFacts
 repeat' with_reducible refine ahI ?_ ?_
 all_goals (as_aux_lemma=>kernel_rfl)
theorem over:Rows.fnExactFirstColoringRow.holds Tryz.pinned (OpenSpec.ofChange Rows.fnExactFirstColoringSpec):=
 OpenClaim.holds_of_wide 3 Tryz.f3 rfl rfl rfl rfl rfl rfl rfl ⟨rfl,rfl,rfl,rfl,rfl⟩ rfl rfl rfl rfl rfl (by kernel_rfl) Tryz.func3 closed
  (of_decide_eq_true (by kernel_rfl)) (by unfold Func.isWrapper;first | (rw [if_pos (by decide+kernel)];kernel_rfl) | (rw [if_neg (by decide+kernel)];exact ⟨rfl,rfl⟩))
  (fun os started H enc _=>lifted os started H enc)
theorem proved:Rows.FnExactFirstColoringSaid:=over
#print axioms proved
end fnExactFirstColoring
theorem fnExactFirstColoring_holds:Rows.FnExactFirstColoringSaid:=fnExactFirstColoring.proved
end Go.Proofs.YtnjgcdpleghciaaGreat
