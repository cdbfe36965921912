/- FnExactBestColoring: whatever the arguments, the law answers true, and the arguments read as they did. Conditions: none beyond those of the row. -/
import Derived.Test.YtnjgcdpleghciaaGreatRows
import Derived.Test.YtnjgcdpleghciaaGreatTbcL
import Derived.Test.YtnjgcdpleghciaaGreatTbcP
import Derived.Test.YtnjgcdpleghciaaGreatSimRx
import Derived.Shelf.SlGeneric
import Derived.Ground.SlgmProg
import Derived.Ground.SlgnProg
import Derived.WalkKit
import Derived.ProofKit
import Derived.OpenShut
import Derived.ShutString
import Derived.ChangeOld
import Derived.Below
import Derived.SizedLaws
namespace Go.Proofs.YtnjgcdpleghciaaGreat
open Go Go.Sim Go.Pw Go.Proofs
set_option linter.unusedVariables false
set_option maxRecDepth 100000
theorem g4:okF fc4 Tryz.f4=true:=by kernel_rfl
theorem g6:okF fc6 Tryz.f6=true:=by kernel_rfl
theorem g7:okF fc7 Tryz.f7=true:=by kernel_rfl
theorem g9:okF fc9 Tryz.f9=true:=by kernel_rfl
theorem g10:okF Zb Tryz.f10=true:=by kernel_rfl
theorem g12:okF Zc Tryz.f12=true:=by kernel_rfl
theorem g13:okF Zd Tryz.f13=true:=by kernel_rfl
theorem g14:okF Ze Tryz.f14=true:=by kernel_rfl
theorem g15:okF Zg Tryz.f15=true:=by kernel_rfl
theorem g16:okF Zh Tryz.f16=true:=by kernel_rfl
theorem g17:okF Zi Tryz.f17=true:=by kernel_rfl
theorem g18:okF Zj Tryz.f18=true:=by kernel_rfl
theorem g19:okF Zk Tryz.f19=true:=by kernel_rfl
theorem g20:okF Zl Tryz.f20=true:=by kernel_rfl
theorem g23:okF Zm Tryz.f23=true:=by kernel_rfl
theorem g24:okF Zn Tryz.f24=true:=by kernel_rfl
theorem g25:okF Zo Tryz.f25=true:=by kernel_rfl
theorem g26:okF Zp Tryz.f26=true:=by kernel_rfl
theorem g27:okF Zq Tryz.f27=true:=by kernel_rfl
theorem g28:okF Zr Tryz.f28=true:=by kernel_rfl
theorem g29:okF Zt Tryz.f29=true:=by kernel_rfl
theorem g30:okF Zu Tryz.f30=true:=by kernel_rfl
theorem g31:okF Zv Tryz.f31=true:=by kernel_rfl
theorem g32:okF Zw Tryz.f32=true:=by kernel_rfl
theorem g33:okF Zx Tryz.f33=true:=by kernel_rfl
theorem g34:okF Zy Tryz.f34=true:=by kernel_rfl
theorem g35:okF Zz Tryz.f35=true:=by kernel_rfl
theorem g36:okF ZA Tryz.f36=true:=by kernel_rfl
theorem g37:okF ZB Tryz.f37=true:=by kernel_rfl
theorem g38:okF ZC Tryz.f38=true:=by kernel_rfl
theorem g39:okF ZE Tryz.f39=true:=by kernel_rfl
theorem g40:okF ZF Tryz.f40=true:=by kernel_rfl
theorem g41:okF ZG Tryz.f41=true:=by kernel_rfl
theorem g42:okF ZH Tryz.f42=true:=by kernel_rfl
theorem g43:okF ZI Tryz.f43=true:=by kernel_rfl
theorem g44:okF ZJ Tryz.f44=true:=by kernel_rfl
theorem g45:okF ZK Tryz.f45=true:=by kernel_rfl
theorem g46:okF ZL Tryz.f46=true:=by kernel_rfl
theorem g47:okF ZM Tryz.f47=true:=by kernel_rfl
theorem g48:okF ZN Tryz.f48=true:=by kernel_rfl
theorem g49:okF ZO Tryz.f49=true:=by kernel_rfl
theorem g50:okF ZP Tryz.f50=true:=by kernel_rfl
theorem g51:okF ZQ Tryz.f51=true:=by kernel_rfl
theorem g52:okF ZR Tryz.f52=true:=by kernel_rfl
theorem g53:okF ZT Tryz.f53=true:=by kernel_rfl
theorem g54:okF ZU Tryz.f54=true:=by kernel_rfl
theorem g55:okF ZV Tryz.f55=true:=by kernel_rfl
theorem g56:okF ZW Tryz.f56=true:=by kernel_rfl
theorem g57:okF ZX Tryz.f57=true:=by kernel_rfl
theorem g58:okF ZY Tryz.f58=true:=by kernel_rfl
theorem g62:okF ZZ Tryz.f62=true:=by kernel_rfl
theorem g63:okF Z5 Tryz.f63=true:=by kernel_rfl
theorem g64:okF Z8 Tryz.f64=true:=by kernel_rfl
theorem g65:okF aab Tryz.f65=true:=by kernel_rfl
theorem g66:okF aac Tryz.f66=true:=by kernel_rfl
theorem g67:okF aad Tryz.f67=true:=by kernel_rfl
theorem g68:okF aae Tryz.f68=true:=by kernel_rfl
theorem g69:okF aaf Tryz.f69=true:=by kernel_rfl
theorem g70:okF aag Tryz.f70=true:=by kernel_rfl
theorem g71:okF aah Tryz.f71=true:=by kernel_rfl
theorem g72:okF aai Tryz.f72=true:=by kernel_rfl
theorem g73:okF aaj Tryz.f73=true:=by kernel_rfl
theorem g74:okF aak Tryz.f74=true:=by kernel_rfl
theorem g75:okF aal Tryz.f75=true:=by kernel_rfl
theorem g76:okF aam Tryz.f76=true:=by kernel_rfl
theorem g77:okF aan Tryz.f77=true:=by kernel_rfl
theorem g78:okF aao Tryz.f78=true:=by kernel_rfl
theorem g79:okF aap Tryz.f79=true:=by kernel_rfl
theorem g80:okF aaq Tryz.f80=true:=by kernel_rfl
theorem g81:okF aar Tryz.f81=true:=by kernel_rfl
theorem g82:okF aas Tryz.f82=true:=by kernel_rfl
theorem g83:okF aat Tryz.f83=true:=by kernel_rfl
theorem g84:okF aau Tryz.f84=true:=by kernel_rfl
theorem g87:okF aav Tryz.f87=true:=by kernel_rfl
theorem g88:okF aaw Tryz.f88=true:=by kernel_rfl
theorem g89:okF aax Tryz.f89=true:=by kernel_rfl
theorem g90:okF aay Tryz.f90=true:=by kernel_rfl
theorem g91:okF aaz Tryz.f91=true:=by kernel_rfl
theorem g92:okF aaA Tryz.f92=true:=by kernel_rfl
theorem g93:okF aaB Tryz.f93=true:=by kernel_rfl
theorem g94:okF aaC Tryz.f94=true:=by kernel_rfl
theorem g95:okF aaD Tryz.f95=true:=by kernel_rfl
theorem g96:okF aaE Tryz.f96=true:=by kernel_rfl
theorem g97:okF aaF Tryz.f97=true:=by kernel_rfl
theorem g98:okF aaG Tryz.f98=true:=by kernel_rfl
theorem g99:okF aaH Tryz.f99=true:=by kernel_rfl
theorem ahO:okF Us Tryz.f100=true:=by kernel_rfl
theorem ahP:okF Ut Tryz.f101=true:=by kernel_rfl
theorem ahQ:okF Uu Tryz.f102=true:=by kernel_rfl
theorem ahR:okF Uw Tryz.f103=true:=by kernel_rfl
theorem ahS:okF Ux Tryz.f104=true:=by kernel_rfl
theorem ahT:okF Uy Tryz.f105=true:=by kernel_rfl
theorem ahU:okF Uz Tryz.f106=true:=by kernel_rfl
theorem ahV:okF UA Tryz.f118=true:=by kernel_rfl
theorem ahW:okF UB Tryz.f119=true:=by kernel_rfl
theorem ahX:okF UC Tryz.f120=true:=by kernel_rfl
theorem ahY:okF UD Tryz.f121=true:=by kernel_rfl
theorem ahZ:okF UE Tryz.f122=true:=by kernel_rfl
theorem ah0:okF UF Tryz.f123=true:=by kernel_rfl
theorem ah1:okF UG Tryz.f124=true:=by kernel_rfl
theorem ah2:okF UH Tryz.f131=true:=by kernel_rfl
theorem mixed:Tryz.prog.follows .mixedOrders=true:=by kernel_rfl
open Go.Shelf in
shelf_lay_g SlLaysM.n5 Slgm 5 at Tryz 60 as Tryz.laysS
theorem abJ (blk off cap:Nat) (zs:List Int) (w:World) (h1:Go.Sort.Holds (Value.int .i64) w blk off zs.toArray) (h2:blk<w.heap.size) (h3:zs.length<4611686018427387904):
 Calls Tryz.prog 60 #[.slice (some ⟨blk,off,none⟩) zs.length cap] w fun e w'=>e= .returned (.tuple #[])∧∃n os,w'=Go.Sort.grow (Go.Sort.putRow (Value.int .i64) (Go.Sort.ahead w n) blk off (sortL zs).toArray) os:=
 AnyM.slices_Sort_int Tryz.laysS blk off cap zs w h1 h2 h3
theorem V6 (p:Option Addr) (cap:Nat) (w:World):Calls Tryz.prog 60 #[.slice p 0 cap] w fun e w'=>e= .returned (.tuple #[])∧w'=w:=AnyM.slices_Sort_int_none Tryz.laysS p cap w
open Go.Shelf in
shelf_lay_g SlLaysE.n43 Slgn 43 at Tryz 61 as Tryz.laysC
theorem TQ (blk off cap:Nat) (zs:List Int) (w:World) (h1:Go.Sort.Holds (Value.int .i64) w blk off zs.toArray) (h2:zs.length≤9223372036854775807) (h3:zs.length≤cap):
 Calls Tryz.prog 61 #[.slice (some ⟨blk,off,none⟩) zs.length cap] w fun e w'=>e= .returned (.slice (some ⟨blk,off,none⟩) (cmpL zs).length cap)∧∃n,w'=Go.Sort.putRow (Value.int .i64) (Go.Sort.ahead w n) blk off (cmpL zs++List.replicate (zs.length - (cmpL zs).length) 0).toArray:=by
 have h:=AnyE.slices_Compact Tryz.laysC (Value.int .i64) (fun _=>rfl) (EqlAt.intD _ _ .i64) (NeqAt.intD _ _ .i64) 0 Tryz.zeroValue2 blk off cap zs.toArray w h1 (by simpa using h2) (by simpa using h3)
 rw [YB] at h
 simp only [List.size_toArray] at h
 exact h
theorem PT (p:Option Addr) (w:World):Calls Tryz.prog 61 #[.slice p 0 0] w fun e w'=>e= .returned (.slice p 0 0)∧∃n,w'={w with drawn:=n}:=PS Tryz.laysC p w
theorem afG [Lim]:Ug Tryz.prog cfg:=by
 refine Vr mixed ?_ fun f g hg=>?_
 ·unfold ons
  simp only [List.forall_mem_cons]
  exact ⟨⟨_,Tryz.func4,g4⟩,⟨_,Tryz.func6,g6⟩,⟨_,Tryz.func7,g7⟩,⟨_,Tryz.func9,g9⟩,⟨_,Tryz.func10,g10⟩,⟨_,Tryz.func12,g12⟩,⟨_,Tryz.func13,g13⟩,⟨_,Tryz.func14,g14⟩,⟨_,Tryz.func15,g15⟩,⟨_,Tryz.func16,g16⟩,⟨_,Tryz.func17,g17⟩,⟨_,Tryz.func18,g18⟩,⟨_,Tryz.func19,g19⟩,⟨_,Tryz.func20,g20⟩,⟨_,Tryz.func23,g23⟩,⟨_,Tryz.func24,g24⟩,⟨_,Tryz.func25,g25⟩,⟨_,Tryz.func26,g26⟩,⟨_,Tryz.func27,g27⟩,⟨_,Tryz.func28,g28⟩,⟨_,Tryz.func29,g29⟩,⟨_,Tryz.func30,g30⟩,⟨_,Tryz.func31,g31⟩,⟨_,Tryz.func32,g32⟩,⟨_,Tryz.func33,g33⟩,⟨_,Tryz.func34,g34⟩,⟨_,Tryz.func35,g35⟩,⟨_,Tryz.func36,g36⟩,⟨_,Tryz.func37,g37⟩,⟨_,Tryz.func38,g38⟩,⟨_,Tryz.func39,g39⟩,⟨_,Tryz.func40,g40⟩,⟨_,Tryz.func41,g41⟩,⟨_,Tryz.func42,g42⟩,⟨_,Tryz.func43,g43⟩,⟨_,Tryz.func44,g44⟩,⟨_,Tryz.func45,g45⟩,⟨_,Tryz.func46,g46⟩,⟨_,Tryz.func47,g47⟩,⟨_,Tryz.func48,g48⟩,⟨_,Tryz.func49,g49⟩,⟨_,Tryz.func50,g50⟩,⟨_,Tryz.func51,g51⟩,⟨_,Tryz.func52,g52⟩,⟨_,Tryz.func53,g53⟩,⟨_,Tryz.func54,g54⟩,⟨_,Tryz.func55,g55⟩,⟨_,Tryz.func56,g56⟩,⟨_,Tryz.func57,g57⟩,⟨_,Tryz.func58,g58⟩,⟨_,Tryz.func62,g62⟩,⟨_,Tryz.func63,g63⟩,⟨_,Tryz.func64,g64⟩,⟨_,Tryz.func65,g65⟩,⟨_,Tryz.func66,g66⟩,⟨_,Tryz.func67,g67⟩,⟨_,Tryz.func68,g68⟩,⟨_,Tryz.func69,g69⟩,⟨_,Tryz.func70,g70⟩,⟨_,Tryz.func71,g71⟩,⟨_,Tryz.func72,g72⟩,⟨_,Tryz.func73,g73⟩,⟨_,Tryz.func74,g74⟩,⟨_,Tryz.func75,g75⟩,⟨_,Tryz.func76,g76⟩,⟨_,Tryz.func77,g77⟩,⟨_,Tryz.func78,g78⟩,⟨_,Tryz.func79,g79⟩,⟨_,Tryz.func80,g80⟩,⟨_,Tryz.func81,g81⟩,⟨_,Tryz.func82,g82⟩,⟨_,Tryz.func83,g83⟩,⟨_,Tryz.func84,g84⟩,⟨_,Tryz.func87,g87⟩,⟨_,Tryz.func88,g88⟩,⟨_,Tryz.func89,g89⟩,⟨_,Tryz.func90,g90⟩,⟨_,Tryz.func91,g91⟩,⟨_,Tryz.func92,g92⟩,⟨_,Tryz.func93,g93⟩,⟨_,Tryz.func94,g94⟩,⟨_,Tryz.func95,g95⟩,⟨_,Tryz.func96,g96⟩,⟨_,Tryz.func97,g97⟩,⟨_,Tryz.func98,g98⟩,⟨_,Tryz.func99,g99⟩,⟨_,Tryz.func100,ahO⟩,⟨_,Tryz.func101,ahP⟩,⟨_,Tryz.func102,ahQ⟩,⟨_,Tryz.func103,ahR⟩,⟨_,Tryz.func104,ahS⟩,⟨_,Tryz.func105,ahT⟩,⟨_,Tryz.func106,ahU⟩,⟨_,Tryz.func118,ahV⟩,⟨_,Tryz.func119,ahW⟩,⟨_,Tryz.func120,ahX⟩,⟨_,Tryz.func121,ahY⟩,⟨_,Tryz.func122,ahZ⟩,⟨_,Tryz.func123,ah0⟩,⟨_,Tryz.func124,ah1⟩,⟨_,Tryz.func131,ah2⟩,fun _ h=>by cases h⟩
 rcases Hw hg with ⟨rfl,h⟩ | hg
 ·cases h
  exact Vq (cfg:=cfg) (fn:=Tryz.f59) mixed Tryz.func59 rfl rfl rfl rfl E5 fP rfl lX rfl rfl agV rfl
 rcases Hw hg with ⟨rfl,h⟩ | hg
 ·cases h
  exact XA (cfg:=cfg) abJ V6 ⟨_,Tryz.func60,rfl,rfl⟩
 rcases Hw hg with ⟨rfl,h⟩ | hg
 ·cases h
  exact QH (cfg:=cfg) TQ PT ⟨_,Tryz.func61,rfl,rfl⟩
 cases hg
theorem laid:laidOutB Tryz.prog=true:=by kernel_rfl
theorem rowed:mapsRowed Tryz.prog=true:=by kernel_rfl
theorem sized:zF Tryz.prog=true:=by kernel_rfl
def LZ (x:af):Prop:=(Lit.int .i64 x.X).wf=true∧(Lit.int .i64 x.Y).wf=true
theorem o94:zC Tryz.prog 94 (fun x:af=>(az x).cells) LZ:=
 Ea (fun p:Int×Int×Unit=>⟨p.1,p.2.1⟩)
  (yg Tryz.underlying94 (by kernel_rfl) (jY (s:=1) (by kernel_rfl) rfl (uA Tryz.underlying2) (jY (s:=1) (by kernel_rfl) rfl (uA Tryz.underlying2) BB)))
  (fun _=>rfl) (fun _ h=>⟨h.1,h.2.1⟩)
def NV (x:dn):Prop:=x.Name.size≤maxLen∧((∀a∈x.Ring,(Lit.int .i64 a).wf=true)∧x.Ring.length≤maxLen)
theorem o82:zC Tryz.prog 82 (fun x:dn=>(bQ x).cells) NV:=
 Ea (fun p:ByteArray×(List Int)×Unit=>⟨p.1,p.2.1⟩)
  (yg Tryz.underlying82 (by kernel_rfl) (jY (s:=1) (by kernel_rfl) rfl (Gl Tryz.underlying9) (jY (s:=1) (by kernel_rfl) rfl (zD (e:=2) (sz:=1) (ee:=eI) Tryz.underlying29 (by kernel_rfl) (by decide) (fun _=>rfl) (fun _=>rfl) (uA Tryz.underlying2)) BB)))
  (fun _=>rfl) (fun _ h=>⟨h.1,h.2.1⟩)
def PU (x:aA):Prop:=(Lit.int .i64 x.Width).wf=true∧(Lit.int .i64 x.Height).wf=true∧((∀a∈x.bn,LZ a)∧x.bn.length≤maxLen)∧((∀a∈x.aB,NV a)∧x.aB.length≤maxLen)
theorem o25:zC Tryz.prog 25 (fun x:aA=>(QJ x).cells) PU:=
 Ea (fun p:Int×Int×(List af)×(List dn)×Unit=>⟨p.1,p.2.1,p.2.2.1,p.2.2.2.1⟩)
  (yg Tryz.underlying25 (by kernel_rfl) (jY (s:=1) (by kernel_rfl) rfl (uA Tryz.underlying2) (jY (s:=1) (by kernel_rfl) rfl (uA Tryz.underlying2) (jY (s:=1) (by kernel_rfl) rfl (zD (e:=94) (sz:=2) (ee:=az) Tryz.underlying22 (by kernel_rfl) (by decide) (fun _=>rfl) (fun _=>rfl) o94) (jY (s:=1) (by kernel_rfl) rfl (zD (e:=82) (sz:=2) (ee:=bQ) Tryz.underlying23 (by kernel_rfl) (by decide) (fun _=>rfl) (fun _=>rfl) o82) BB)))))
  (fun _=>rfl) (fun _ h=>⟨h.1,h.2.1,h.2.2.1,h.2.2.2.1⟩)
def Rq (x:ai):Prop:=x.jo.size≤maxLen∧(Lit.int .i64 x.dV).wf=true∧(Lit.int .i64 x.aZ).wf=true
theorem o54:zC Tryz.prog 54 (fun x:ai=>(au x).cells) Rq:=
 Ea (fun p:ByteArray×Int×Int×Unit=>⟨p.1,p.2.1,p.2.2.1⟩)
  (yg Tryz.underlying54 (by kernel_rfl) (jY (s:=1) (by kernel_rfl) rfl (Gl Tryz.underlying9) (jY (s:=1) (by kernel_rfl) rfl (uA Tryz.underlying2) (jY (s:=1) (by kernel_rfl) rfl (uA Tryz.underlying2) BB))))
  (fun _=>rfl) (fun _ h=>⟨h.1,h.2.1,h.2.2.1⟩)
namespace fnExactBestColoring
theorem own:ownKnob Tryz.prog.godebug=none:=by kernel_rfl
theorem lifted (os:Os) (started:os.Started) (H:Type) (enc:TypeId×Value→H):
 ReturnsInHanded {} Tryz.checked os 4 .any (Rows.fnExactBestColoringSpec.pre6 enc Tryz.prog Tryz.f4 Rows.fnExactBestColoringRow.domain false) (Rows.fnExactBestColoringSpec.post enc Tryz.prog Tryz.f4 false true false false):=by
 refine returnsInHanded_of_change_sized (C:=Tryz.checked) own started (by kernel_rfl) Tryz.func4
  (ChangeSpec.witness6 (enc:=enc) (C:=Tryz.checked) false ⟨#[],#[.agg #[.int .i64 0,.int .i64 0,.slice none 0 0,.slice none 0 0],.slice none 0 0,.int .i64 0],[]⟩ 8 (by kernel_rfl) (by kernel_rfl) (by kernel_rfl) (by kernel_rfl)) ?_
 intro W base args ds gs before hval0 hW hcnd hsz0 _
 have hval:∀(j:Nat) t v,Tryz.f4.params[j]?=some t→args[j]?=some v→Value.okWide Tryz.prog W .any base t v:=hval0
 have hW':=hW
 obtain ⟨p,q,hA0,hV,rfl,hfz,hnd⟩:=hW
 have hA:DataW.TrodAll enc Tryz.prog W 0 (fun _=>true) true Tryz.f4.params.toList args.toList ds p:=hA0
 rw [Tryz.params4] at hA hval
 obtain ⟨v0,vs0,d0,ds0,p0,q0,hargs0,rfl,rfl,h0,r0⟩:=ChangeShapes.trodAll_cons hA
 clear hA0
 obtain ⟨v1,vs1,d1,ds1,p1,q1,hargs1,rfl,rfl,h1,r1⟩:=ChangeShapes.trodAll_cons r0
 subst hargs1
 obtain ⟨v2,vs2,d2,ds2,p2,q2,ad2,rfl,rfl,h2,r2⟩:=ChangeShapes.trodAll_cons r1
 obtain ⟨rfl,rfl,rfl⟩:=ChangeShapes.trodAll_nil r2
 subst ad2
 obtain rfl:args=#[v0,v1,v2]:=by cases args;simp_all
 obtain ⟨rfl,rfl⟩:=ChangeShapes.trodVars_none hV
 obtain ⟨a0,k0,w0⟩:=Y5 (tt:=2) o25 Tryz.underlying25 (hval 0 25 v0 rfl rfl) h0
 obtain ⟨a1,k1,w1⟩:=Uo (tt:=2) (zD (e:=54) (sz:=3) (ee:=au) Tryz.underlying26 (by kernel_rfl) (by decide) (fun _=>rfl) (fun _=>rfl) o54) (by rw [Tryz.underlying26]) (hval 1 26 v1 rfl rfl) h1
 obtain ⟨a2,k2,w2⟩:=Uo (tt:=2) (uA Tryz.underlying2) (by rw [Tryz.underlying2]) (hval 2 2 v2 rfl rfl) h2
 refine (Xv afG (zi (IG a0 a1 a2 w0 w1)) (show EC _ _ _ [v0,v1,v2] from (.cons k0 (.cons k1 (.cons k2 .nil))))).mono fun e W' ⟨he,hio,_,hb⟩=>?_
 exact ⟨_,he,Xw Tryz.underlying4 rfl rfl hW' rfl (kids_rows laid rowed) sized (by decide) hio hb⟩
theorem ah3 {a b:Bool} (h1:a=true) (h2:b=true):(a&&b)=true:=by rw [h1,h2];rfl
set_option maxHeartbeats 4000000 in
theorem closed:joinedFacts Tryz.prog 4 Tryz.f4 Rows.fnExactBestColoringSpec Rows.fnExactBestColoringRow=true:=by
 unfold joinedFacts
 repeat' with_reducible refine ah3 ?_ ?_
 all_goals (as_aux_lemma=>kernel_rfl)
theorem over:Rows.fnExactBestColoringRow.holds Tryz.pinned (OpenSpec.ofChange Rows.fnExactBestColoringSpec):=
 OpenClaim.holds_of_wide 4 Tryz.f4 rfl rfl rfl rfl rfl rfl rfl ⟨rfl,rfl,rfl,rfl,rfl⟩ rfl rfl rfl rfl rfl (by kernel_rfl) Tryz.func4 closed
  (of_decide_eq_true (by kernel_rfl)) (by unfold Func.isWrapper;first | (rw [if_pos (by decide+kernel)];kernel_rfl) | (rw [if_neg (by decide+kernel)];exact ⟨rfl,rfl⟩))
  (fun os started H enc _=>lifted os started H enc)
theorem proved:Rows.FnExactBestColoringSaid:=over
#print axioms proved
end fnExactBestColoring
theorem fnExactBestColoring_holds:Rows.FnExactBestColoringSaid:=fnExactBestColoring.proved
end Go.Proofs.YtnjgcdpleghciaaGreat
