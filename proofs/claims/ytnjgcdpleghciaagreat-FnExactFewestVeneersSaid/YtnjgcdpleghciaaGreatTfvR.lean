/- FnExactFewestVeneers: whatever the arguments, the law answers true, and the arguments read as they did. Conditions: none beyond those of the row. -/
import Derived.Test.YtnjgcdpleghciaaGreatRows
import Derived.Test.YtnjgcdpleghciaaGreatTfvL
import Derived.Test.YtnjgcdpleghciaaGreatTfvP
import Derived.Test.YtnjgcdpleghciaaGreatSimRx
import Derived.Shelf.SlGeneric
import Derived.Ground.SlgmProg
import Derived.Ground.SlgnProg
import Derived.WalkKit
import Derived.ProofKit
import Derived.OpenShut
import Derived.ShutString
import Derived.ChangeOld
import Derived.Below
import Derived.SizedLaws
namespace Go.Proofs.YtnjgcdpleghciaaGreat
open Go Go.Sim Go.Pw Go.Proofs
set_option linter.unusedVariables false
set_option maxRecDepth 100000
theorem g5:okF fc5 Tryz.f5=true:=by kernel_rfl
theorem g6:okF fc6 Tryz.f6=true:=by kernel_rfl
theorem g7:okF fc7 Tryz.f7=true:=by kernel_rfl
theorem g9:okF fc9 Tryz.f9=true:=by kernel_rfl
theorem g10:okF Y5 Tryz.f10=true:=by kernel_rfl
theorem g12:okF Y6 Tryz.f12=true:=by kernel_rfl
theorem g13:okF Y7 Tryz.f13=true:=by kernel_rfl
theorem g14:okF Y8 Tryz.f14=true:=by kernel_rfl
theorem g15:okF Y9 Tryz.f15=true:=by kernel_rfl
theorem g16:okF Za Tryz.f16=true:=by kernel_rfl
theorem g17:okF Zb Tryz.f17=true:=by kernel_rfl
theorem g18:okF Zc Tryz.f18=true:=by kernel_rfl
theorem g21:okF Zd Tryz.f21=true:=by kernel_rfl
theorem g22:okF Ze Tryz.f22=true:=by kernel_rfl
theorem g23:okF Zg Tryz.f23=true:=by kernel_rfl
theorem g24:okF Zh Tryz.f24=true:=by kernel_rfl
theorem g25:okF Zi Tryz.f25=true:=by kernel_rfl
theorem g26:okF Zj Tryz.f26=true:=by kernel_rfl
theorem g27:okF Zk Tryz.f27=true:=by kernel_rfl
theorem g28:okF Zl Tryz.f28=true:=by kernel_rfl
theorem g29:okF Zm Tryz.f29=true:=by kernel_rfl
theorem g30:okF Zn Tryz.f30=true:=by kernel_rfl
theorem g31:okF Zo Tryz.f31=true:=by kernel_rfl
theorem g32:okF Zp Tryz.f32=true:=by kernel_rfl
theorem g33:okF Zq Tryz.f33=true:=by kernel_rfl
theorem g34:okF Zr Tryz.f34=true:=by kernel_rfl
theorem g35:okF Zt Tryz.f35=true:=by kernel_rfl
theorem g36:okF Zu Tryz.f36=true:=by kernel_rfl
theorem g37:okF Zv Tryz.f37=true:=by kernel_rfl
theorem g38:okF Zw Tryz.f38=true:=by kernel_rfl
theorem g39:okF Zx Tryz.f39=true:=by kernel_rfl
theorem g40:okF Zy Tryz.f40=true:=by kernel_rfl
theorem g41:okF Zz Tryz.f41=true:=by kernel_rfl
theorem g42:okF ZA Tryz.f42=true:=by kernel_rfl
theorem g43:okF ZB Tryz.f43=true:=by kernel_rfl
theorem g44:okF ZC Tryz.f44=true:=by kernel_rfl
theorem g45:okF ZE Tryz.f45=true:=by kernel_rfl
theorem g46:okF ZF Tryz.f46=true:=by kernel_rfl
theorem g47:okF ZG Tryz.f47=true:=by kernel_rfl
theorem g48:okF ZH Tryz.f48=true:=by kernel_rfl
theorem g49:okF ZI Tryz.f49=true:=by kernel_rfl
theorem g50:okF ZJ Tryz.f50=true:=by kernel_rfl
theorem g51:okF ZK Tryz.f51=true:=by kernel_rfl
theorem g52:okF ZL Tryz.f52=true:=by kernel_rfl
theorem g53:okF ZM Tryz.f53=true:=by kernel_rfl
theorem g54:okF ZN Tryz.f54=true:=by kernel_rfl
theorem g55:okF ZO Tryz.f55=true:=by kernel_rfl
theorem g56:okF ZP Tryz.f56=true:=by kernel_rfl
theorem g57:okF ZQ Tryz.f57=true:=by kernel_rfl
theorem g58:okF ZR Tryz.f58=true:=by kernel_rfl
theorem g62:okF ZT Tryz.f62=true:=by kernel_rfl
theorem g63:okF ZU Tryz.f63=true:=by kernel_rfl
theorem g64:okF ZV Tryz.f64=true:=by kernel_rfl
theorem g65:okF ZW Tryz.f65=true:=by kernel_rfl
theorem g66:okF ZX Tryz.f66=true:=by kernel_rfl
theorem g67:okF ZY Tryz.f67=true:=by kernel_rfl
theorem g68:okF ZZ Tryz.f68=true:=by kernel_rfl
theorem g69:okF Z4 Tryz.f69=true:=by kernel_rfl
theorem g70:okF Z8 Tryz.f70=true:=by kernel_rfl
theorem g71:okF aab Tryz.f71=true:=by kernel_rfl
theorem g72:okF aac Tryz.f72=true:=by kernel_rfl
theorem g73:okF aad Tryz.f73=true:=by kernel_rfl
theorem g74:okF aae Tryz.f74=true:=by kernel_rfl
theorem g75:okF aaf Tryz.f75=true:=by kernel_rfl
theorem g76:okF aag Tryz.f76=true:=by kernel_rfl
theorem g77:okF aah Tryz.f77=true:=by kernel_rfl
theorem g78:okF aai Tryz.f78=true:=by kernel_rfl
theorem g79:okF aaj Tryz.f79=true:=by kernel_rfl
theorem g80:okF aak Tryz.f80=true:=by kernel_rfl
theorem g81:okF aal Tryz.f81=true:=by kernel_rfl
theorem g82:okF aam Tryz.f82=true:=by kernel_rfl
theorem g83:okF aan Tryz.f83=true:=by kernel_rfl
theorem g84:okF aao Tryz.f84=true:=by kernel_rfl
theorem g87:okF aap Tryz.f87=true:=by kernel_rfl
theorem g88:okF aaq Tryz.f88=true:=by kernel_rfl
theorem g89:okF aar Tryz.f89=true:=by kernel_rfl
theorem g90:okF aas Tryz.f90=true:=by kernel_rfl
theorem g91:okF aat Tryz.f91=true:=by kernel_rfl
theorem g92:okF aau Tryz.f92=true:=by kernel_rfl
theorem g93:okF aav Tryz.f93=true:=by kernel_rfl
theorem g94:okF aaw Tryz.f94=true:=by kernel_rfl
theorem g95:okF aax Tryz.f95=true:=by kernel_rfl
theorem g96:okF aay Tryz.f96=true:=by kernel_rfl
theorem g97:okF aaz Tryz.f97=true:=by kernel_rfl
theorem g98:okF aaA Tryz.f98=true:=by kernel_rfl
theorem g99:okF aaB Tryz.f99=true:=by kernel_rfl
theorem ahQ:okF Uj Tryz.f100=true:=by kernel_rfl
theorem ahR:okF Uk Tryz.f101=true:=by kernel_rfl
theorem ahS:okF Ul Tryz.f102=true:=by kernel_rfl
theorem ahT:okF Um Tryz.f103=true:=by kernel_rfl
theorem ahU:okF Un Tryz.f104=true:=by kernel_rfl
theorem ahV:okF Uo Tryz.f105=true:=by kernel_rfl
theorem ahW:okF Ur Tryz.f106=true:=by kernel_rfl
theorem ahX:okF Us Tryz.f118=true:=by kernel_rfl
theorem ahY:okF Ut Tryz.f119=true:=by kernel_rfl
theorem ahZ:okF Uu Tryz.f120=true:=by kernel_rfl
theorem ah0:okF Uw Tryz.f121=true:=by kernel_rfl
theorem ah1:okF Ux Tryz.f122=true:=by kernel_rfl
theorem ah2:okF Uy Tryz.f123=true:=by kernel_rfl
theorem ah3:okF Uz Tryz.f124=true:=by kernel_rfl
theorem ah4:okF UA Tryz.f131=true:=by kernel_rfl
theorem mixed:Tryz.prog.follows .mixedOrders=true:=by kernel_rfl
open Go.Shelf in
shelf_lay_g SlLaysM.n5 Slgm 5 at Tryz 60 as Tryz.laysS
theorem abD (blk off cap:Nat) (zs:List Int) (w:World) (h1:Go.Sort.Holds (Value.int .i64) w blk off zs.toArray) (h2:blk<w.heap.size) (h3:zs.length<4611686018427387904):
 Calls Tryz.prog 60 #[.slice (some ⟨blk,off,none⟩) zs.length cap] w fun e w'=>e= .returned (.tuple #[])∧∃n os,w'=Go.Sort.grow (Go.Sort.putRow (Value.int .i64) (Go.Sort.ahead w n) blk off (sortL zs).toArray) os:=
 AnyM.slices_Sort_int Tryz.laysS blk off cap zs w h1 h2 h3
theorem VW (p:Option Addr) (cap:Nat) (w:World):Calls Tryz.prog 60 #[.slice p 0 cap] w fun e w'=>e= .returned (.tuple #[])∧w'=w:=AnyM.slices_Sort_int_none Tryz.laysS p cap w
open Go.Shelf in
shelf_lay_g SlLaysE.n43 Slgn 43 at Tryz 61 as Tryz.laysC
theorem TJ (blk off cap:Nat) (zs:List Int) (w:World) (h1:Go.Sort.Holds (Value.int .i64) w blk off zs.toArray) (h2:zs.length≤9223372036854775807) (h3:zs.length≤cap):
 Calls Tryz.prog 61 #[.slice (some ⟨blk,off,none⟩) zs.length cap] w fun e w'=>e= .returned (.slice (some ⟨blk,off,none⟩) (cmpL zs).length cap)∧∃n,w'=Go.Sort.putRow (Value.int .i64) (Go.Sort.ahead w n) blk off (cmpL zs++List.replicate (zs.length - (cmpL zs).length) 0).toArray:=by
 have h:=AnyE.slices_Compact Tryz.laysC (Value.int .i64) (fun _=>rfl) (EqlAt.intD _ _ .i64) (NeqAt.intD _ _ .i64) 0 Tryz.zeroValue2 blk off cap zs.toArray w h1 (by simpa using h2) (by simpa using h3)
 rw [Yv] at h
 simp only [List.size_toArray] at h
 exact h
theorem PR (p:Option Addr) (w:World):Calls Tryz.prog 61 #[.slice p 0 0] w fun e w'=>e= .returned (.slice p 0 0)∧∃n,w'={w with drawn:=n}:=PO Tryz.laysC p w
theorem afL [Lim]:Ua Tryz.prog cfg:=by
 refine Vh mixed ?_ fun f g hg=>?_
 ·unfold ons
  simp only [List.forall_mem_cons]
  exact ⟨⟨_,Tryz.func5,g5⟩,⟨_,Tryz.func6,g6⟩,⟨_,Tryz.func7,g7⟩,⟨_,Tryz.func9,g9⟩,⟨_,Tryz.func10,g10⟩,⟨_,Tryz.func12,g12⟩,⟨_,Tryz.func13,g13⟩,⟨_,Tryz.func14,g14⟩,⟨_,Tryz.func15,g15⟩,⟨_,Tryz.func16,g16⟩,⟨_,Tryz.func17,g17⟩,⟨_,Tryz.func18,g18⟩,⟨_,Tryz.func21,g21⟩,⟨_,Tryz.func22,g22⟩,⟨_,Tryz.func23,g23⟩,⟨_,Tryz.func24,g24⟩,⟨_,Tryz.func25,g25⟩,⟨_,Tryz.func26,g26⟩,⟨_,Tryz.func27,g27⟩,⟨_,Tryz.func28,g28⟩,⟨_,Tryz.func29,g29⟩,⟨_,Tryz.func30,g30⟩,⟨_,Tryz.func31,g31⟩,⟨_,Tryz.func32,g32⟩,⟨_,Tryz.func33,g33⟩,⟨_,Tryz.func34,g34⟩,⟨_,Tryz.func35,g35⟩,⟨_,Tryz.func36,g36⟩,⟨_,Tryz.func37,g37⟩,⟨_,Tryz.func38,g38⟩,⟨_,Tryz.func39,g39⟩,⟨_,Tryz.func40,g40⟩,⟨_,Tryz.func41,g41⟩,⟨_,Tryz.func42,g42⟩,⟨_,Tryz.func43,g43⟩,⟨_,Tryz.func44,g44⟩,⟨_,Tryz.func45,g45⟩,⟨_,Tryz.func46,g46⟩,⟨_,Tryz.func47,g47⟩,⟨_,Tryz.func48,g48⟩,⟨_,Tryz.func49,g49⟩,⟨_,Tryz.func50,g50⟩,⟨_,Tryz.func51,g51⟩,⟨_,Tryz.func52,g52⟩,⟨_,Tryz.func53,g53⟩,⟨_,Tryz.func54,g54⟩,⟨_,Tryz.func55,g55⟩,⟨_,Tryz.func56,g56⟩,⟨_,Tryz.func57,g57⟩,⟨_,Tryz.func58,g58⟩,⟨_,Tryz.func62,g62⟩,⟨_,Tryz.func63,g63⟩,⟨_,Tryz.func64,g64⟩,⟨_,Tryz.func65,g65⟩,⟨_,Tryz.func66,g66⟩,⟨_,Tryz.func67,g67⟩,⟨_,Tryz.func68,g68⟩,⟨_,Tryz.func69,g69⟩,⟨_,Tryz.func70,g70⟩,⟨_,Tryz.func71,g71⟩,⟨_,Tryz.func72,g72⟩,⟨_,Tryz.func73,g73⟩,⟨_,Tryz.func74,g74⟩,⟨_,Tryz.func75,g75⟩,⟨_,Tryz.func76,g76⟩,⟨_,Tryz.func77,g77⟩,⟨_,Tryz.func78,g78⟩,⟨_,Tryz.func79,g79⟩,⟨_,Tryz.func80,g80⟩,⟨_,Tryz.func81,g81⟩,⟨_,Tryz.func82,g82⟩,⟨_,Tryz.func83,g83⟩,⟨_,Tryz.func84,g84⟩,⟨_,Tryz.func87,g87⟩,⟨_,Tryz.func88,g88⟩,⟨_,Tryz.func89,g89⟩,⟨_,Tryz.func90,g90⟩,⟨_,Tryz.func91,g91⟩,⟨_,Tryz.func92,g92⟩,⟨_,Tryz.func93,g93⟩,⟨_,Tryz.func94,g94⟩,⟨_,Tryz.func95,g95⟩,⟨_,Tryz.func96,g96⟩,⟨_,Tryz.func97,g97⟩,⟨_,Tryz.func98,g98⟩,⟨_,Tryz.func99,g99⟩,⟨_,Tryz.func100,ahQ⟩,⟨_,Tryz.func101,ahR⟩,⟨_,Tryz.func102,ahS⟩,⟨_,Tryz.func103,ahT⟩,⟨_,Tryz.func104,ahU⟩,⟨_,Tryz.func105,ahV⟩,⟨_,Tryz.func106,ahW⟩,⟨_,Tryz.func118,ahX⟩,⟨_,Tryz.func119,ahY⟩,⟨_,Tryz.func120,ahZ⟩,⟨_,Tryz.func121,ah0⟩,⟨_,Tryz.func122,ah1⟩,⟨_,Tryz.func123,ah2⟩,⟨_,Tryz.func124,ah3⟩,⟨_,Tryz.func131,ah4⟩,fun _ h=>by cases h⟩
 rcases Ht hg with ⟨rfl,h⟩ | hg
 ·cases h
  exact Vg (cfg:=cfg) (fn:=Tryz.f59) mixed Tryz.func59 rfl rfl rfl rfl Eg fO rfl l9 rfl rfl agZ rfl
 rcases Ht hg with ⟨rfl,h⟩ | hg
 ·cases h
  exact Xu (cfg:=cfg) abD VW ⟨_,Tryz.func60,rfl,rfl⟩
 rcases Ht hg with ⟨rfl,h⟩ | hg
 ·cases h
  exact QG (cfg:=cfg) TJ PR ⟨_,Tryz.func61,rfl,rfl⟩
 cases hg
theorem laid:laidOutB Tryz.prog=true:=by kernel_rfl
theorem rowed:mapsRowed Tryz.prog=true:=by kernel_rfl
theorem sized:zC Tryz.prog=true:=by kernel_rfl
def LQ (x:af):Prop:=(Lit.int .i64 x.X).wf=true∧(Lit.int .i64 x.Y).wf=true
theorem o94:zA Tryz.prog 94 (fun x:af=>(az x).cells) LQ:=
 Ea (fun p:Int×Int×Unit=>⟨p.1,p.2.1⟩)
  (yx Tryz.underlying94 (by kernel_rfl) (ku (s:=1) (by kernel_rfl) rfl (qV Tryz.underlying2) (ku (s:=1) (by kernel_rfl) rfl (qV Tryz.underlying2) Bq)))
  (fun _=>rfl) (fun _ h=>⟨h.1,h.2.1⟩)
def NQ (x:dh):Prop:=x.Name.size≤maxLen∧((∀a∈x.Ring,(Lit.int .i64 a).wf=true)∧x.Ring.length≤maxLen)
theorem o82:zA Tryz.prog 82 (fun x:dh=>(bQ x).cells) NQ:=
 Ea (fun p:ByteArray×(List Int)×Unit=>⟨p.1,p.2.1⟩)
  (yx Tryz.underlying82 (by kernel_rfl) (ku (s:=1) (by kernel_rfl) rfl (Gm Tryz.underlying9) (ku (s:=1) (by kernel_rfl) rfl (zB (e:=2) (sz:=1) (ee:=eI) Tryz.underlying29 (by kernel_rfl) (by decide) (fun _=>rfl) (fun _=>rfl) (qV Tryz.underlying2)) Bq)))
  (fun _=>rfl) (fun _ h=>⟨h.1,h.2.1⟩)
def PS (x:aA):Prop:=(Lit.int .i64 x.Width).wf=true∧(Lit.int .i64 x.Height).wf=true∧((∀a∈x.bg,LQ a)∧x.bg.length≤maxLen)∧((∀a∈x.aC,NQ a)∧x.aC.length≤maxLen)
theorem o25:zA Tryz.prog 25 (fun x:aA=>(QI x).cells) PS:=
 Ea (fun p:Int×Int×(List af)×(List dh)×Unit=>⟨p.1,p.2.1,p.2.2.1,p.2.2.2.1⟩)
  (yx Tryz.underlying25 (by kernel_rfl) (ku (s:=1) (by kernel_rfl) rfl (qV Tryz.underlying2) (ku (s:=1) (by kernel_rfl) rfl (qV Tryz.underlying2) (ku (s:=1) (by kernel_rfl) rfl (zB (e:=94) (sz:=2) (ee:=az) Tryz.underlying22 (by kernel_rfl) (by decide) (fun _=>rfl) (fun _=>rfl) o94) (ku (s:=1) (by kernel_rfl) rfl (zB (e:=82) (sz:=2) (ee:=bQ) Tryz.underlying23 (by kernel_rfl) (by decide) (fun _=>rfl) (fun _=>rfl) o82) Bq)))))
  (fun _=>rfl) (fun _ h=>⟨h.1,h.2.1,h.2.2.1,h.2.2.2.1⟩)
def Rl (x:ai):Prop:=x.jl.size≤maxLen∧(Lit.int .i64 x.dO).wf=true∧(Lit.int .i64 x.aY).wf=true
theorem o54:zA Tryz.prog 54 (fun x:ai=>(ak x).cells) Rl:=
 Ea (fun p:ByteArray×Int×Int×Unit=>⟨p.1,p.2.1,p.2.2.1⟩)
  (yx Tryz.underlying54 (by kernel_rfl) (ku (s:=1) (by kernel_rfl) rfl (Gm Tryz.underlying9) (ku (s:=1) (by kernel_rfl) rfl (qV Tryz.underlying2) (ku (s:=1) (by kernel_rfl) rfl (qV Tryz.underlying2) Bq))))
  (fun _=>rfl) (fun _ h=>⟨h.1,h.2.1,h.2.2.1⟩)
namespace fnExactFewestVeneers
theorem own:ownKnob Tryz.prog.godebug=none:=by kernel_rfl
theorem lifted (os:Os) (started:os.Started) (H:Type) (enc:TypeId×Value→H):
 ReturnsInHanded {} Tryz.checked os 5 .any (Rows.fnExactFewestVeneersSpec.pre6 enc Tryz.prog Tryz.f5 Rows.fnExactFewestVeneersRow.domain false) (Rows.fnExactFewestVeneersSpec.post enc Tryz.prog Tryz.f5 false true false false):=by
 refine returnsInHanded_of_change_sized (C:=Tryz.checked) own started (by kernel_rfl) Tryz.func5
  (ChangeSpec.witness6 (enc:=enc) (C:=Tryz.checked) false ⟨#[],#[.agg #[.int .i64 0,.int .i64 0,.slice none 0 0,.slice none 0 0],.slice none 0 0,.int .i64 0,.int .i64 0],[]⟩ 8 (by kernel_rfl) (by kernel_rfl) (by kernel_rfl) (by kernel_rfl)) ?_
 intro W base args ds gs before hval0 hW hcnd hsz0 _
 have hval:∀(j:Nat) t v,Tryz.f5.params[j]?=some t→args[j]?=some v→Value.okWide Tryz.prog W .any base t v:=hval0
 have hW':=hW
 obtain ⟨p,q,hA0,hV,rfl,hfz,hnd⟩:=hW
 have hA:DataW.TrodAll enc Tryz.prog W 0 (fun _=>true) true Tryz.f5.params.toList args.toList ds p:=hA0
 rw [Tryz.params5] at hA hval
 obtain ⟨v0,vs0,d0,ds0,p0,q0,hargs0,rfl,rfl,h0,r0⟩:=ChangeShapes.trodAll_cons hA
 clear hA0
 obtain ⟨v1,vs1,d1,ds1,p1,q1,hargs1,rfl,rfl,h1,r1⟩:=ChangeShapes.trodAll_cons r0
 subst hargs1
 obtain ⟨v2,vs2,d2,ds2,p2,q2,ad1,rfl,rfl,h2,r2⟩:=ChangeShapes.trodAll_cons r1
 subst ad1
 obtain ⟨v3,vs3,d3,ds3,p3,q3,ad2,rfl,rfl,h3,r3⟩:=ChangeShapes.trodAll_cons r2
 obtain ⟨rfl,rfl,rfl⟩:=ChangeShapes.trodAll_nil r3
 subst ad2
 obtain rfl:args=#[v0,v1,v2,v3]:=by cases args;simp_all
 obtain ⟨rfl,rfl⟩:=ChangeShapes.trodVars_none hV
 obtain ⟨a0,k0,w0⟩:=YZ (tt:=2) o25 Tryz.underlying25 (hval 0 25 v0 rfl rfl) h0
 obtain ⟨a1,k1,w1⟩:=OB (tt:=2) (zB (e:=54) (sz:=3) (ee:=ak) Tryz.underlying26 (by kernel_rfl) (by decide) (fun _=>rfl) (fun _=>rfl) o54) (by rw [Tryz.underlying26]) (hval 1 26 v1 rfl rfl) h1
 obtain ⟨a2,k2,w2⟩:=OB (tt:=2) (qV Tryz.underlying2) (by rw [Tryz.underlying2]) (hval 2 2 v2 rfl rfl) h2
 obtain ⟨a3,k3,w3⟩:=OB (tt:=2) (qV Tryz.underlying2) (by rw [Tryz.underlying2]) (hval 3 2 v3 rfl rfl) h3
 refine (Xn afL (yE (GM a0 a1 a2 a3 w0 w1)) (show Ez _ _ _ [v0,v1,v2,v3] from (.cons k0 (.cons k1 (.cons k2 (.cons k3 .nil)))))).mono fun e W' ⟨he,hio,_,hb⟩=>?_
 exact ⟨_,he,Xo Tryz.underlying4 rfl rfl hW' rfl (kids_rows laid rowed) sized (by decide) hio hb⟩
theorem ah5 {a b:Bool} (h1:a=true) (h2:b=true):(a&&b)=true:=by rw [h1,h2];rfl
set_option maxHeartbeats 4000000 in
theorem closed:joinedFacts Tryz.prog 5 Tryz.f5 Rows.fnExactFewestVeneersSpec Rows.fnExactFewestVeneersRow=true:=by
 unfold joinedFacts
 repeat' with_reducible refine ah5 ?_ ?_
 all_goals (as_aux_lemma=>kernel_rfl)
theorem over:Rows.fnExactFewestVeneersRow.holds Tryz.pinned (OpenSpec.ofChange Rows.fnExactFewestVeneersSpec):=
 OpenClaim.holds_of_wide 5 Tryz.f5 rfl rfl rfl rfl rfl rfl rfl ⟨rfl,rfl,rfl,rfl,rfl⟩ rfl rfl rfl rfl rfl (by kernel_rfl) Tryz.func5 closed
  (of_decide_eq_true (by kernel_rfl)) (by unfold Func.isWrapper;first | (rw [if_pos (by decide+kernel)];kernel_rfl) | (rw [if_neg (by decide+kernel)];exact ⟨rfl,rfl⟩))
  (fun os started H enc _=>lifted os started H enc)
theorem proved:Rows.FnExactFewestVeneersSaid:=over
#print axioms proved
end fnExactFewestVeneers
theorem fnExactFewestVeneers_holds:Rows.FnExactFewestVeneersSaid:=fnExactFewestVeneers.proved
end Go.Proofs.YtnjgcdpleghciaaGreat
