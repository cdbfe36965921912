/- FnSpecies: whatever the arguments, the law answers true, and the arguments read as they did. Conditions: none beyond those of the row. -/
import Derived.Test.YtdibfdcmbjaejaaRows
import Derived.Test.YtdibfdcmbjaejaaTspL
import Derived.Test.YtdibfdcmbjaejaaTspP
import Derived.Test.YtdibfdcmbjaejaaSimRx
import Derived.Shelf.SlGeneric
import Derived.Ground.SlgmProg
import Derived.Ground.SlgnProg
import Derived.WalkKit
import Derived.ProofKit
import Derived.OpenShut
import Derived.ShutString
import Derived.ChangeOld
import Derived.Below
import Derived.SizedLaws
namespace Go.Proofs.Ytdibfdcmbjaejaa
open Go Go.Sim Go.Pw Go.Proofs
set_option linter.unusedVariables false
set_option maxRecDepth 100000
theorem g5:okF fc5 Try.f5=true:=by kernel_rfl
theorem g22:okF WB Try.f22=true:=by kernel_rfl
theorem g23:okF WC Try.f23=true:=by kernel_rfl
theorem g24:okF WE Try.f24=true:=by kernel_rfl
theorem g25:okF WG Try.f25=true:=by kernel_rfl
theorem g26:okF WH Try.f26=true:=by kernel_rfl
theorem g27:okF WI Try.f27=true:=by kernel_rfl
theorem g28:okF WJ Try.f28=true:=by kernel_rfl
theorem g29:okF WL Try.f29=true:=by kernel_rfl
theorem g39:okF WM Try.f39=true:=by kernel_rfl
theorem g42:okF WN Try.f42=true:=by kernel_rfl
theorem g43:okF WO Try.f43=true:=by kernel_rfl
theorem g45:okF WQ Try.f45=true:=by kernel_rfl
theorem g49:okF WR Try.f49=true:=by kernel_rfl
theorem g60:okF WS Try.f60=true:=by kernel_rfl
theorem g61:okF WT Try.f61=true:=by kernel_rfl
theorem g62:okF WU Try.f62=true:=by kernel_rfl
theorem g63:okF WV Try.f63=true:=by kernel_rfl
theorem g64:okF WW Try.f64=true:=by kernel_rfl
theorem g65:okF WX Try.f65=true:=by kernel_rfl
theorem g66:okF WY Try.f66=true:=by kernel_rfl
theorem g67:okF WZ Try.f67=true:=by kernel_rfl
theorem g68:okF W9 Try.f68=true:=by kernel_rfl
theorem g83:okF Xa Try.f83=true:=by kernel_rfl
theorem g90:okF Xb Try.f90=true:=by kernel_rfl
theorem g91:okF Xc Try.f91=true:=by kernel_rfl
theorem g92:okF Xd Try.f92=true:=by kernel_rfl
theorem g93:okF Xe Try.f93=true:=by kernel_rfl
theorem g94:okF Xf Try.f94=true:=by kernel_rfl
theorem g95:okF Xg Try.f95=true:=by kernel_rfl
theorem g97:okF Xh Try.f97=true:=by kernel_rfl
theorem g99:okF Xi Try.f99=true:=by kernel_rfl
theorem acS:okF P8 Try.f100=true:=by kernel_rfl
theorem acT:okF P9 Try.f101=true:=by kernel_rfl
theorem acU:okF Qa Try.f102=true:=by kernel_rfl
theorem acV:okF Qb Try.f106=true:=by kernel_rfl
theorem acW:okF Qc Try.f107=true:=by kernel_rfl
theorem acX:okF Qd Try.f115=true:=by kernel_rfl
theorem acY:okF Qe Try.f116=true:=by kernel_rfl
theorem acZ:okF Qg Try.f117=true:=by kernel_rfl
theorem ac0:okF Qh Try.f118=true:=by kernel_rfl
theorem ac1:okF Qi Try.f121=true:=by kernel_rfl
theorem ac2:okF Qj Try.f129=true:=by kernel_rfl
theorem ac3:okF Qk Try.f135=true:=by kernel_rfl
theorem ac4:okF Ql Try.f137=true:=by kernel_rfl
theorem ac5:okF Qm Try.f149=true:=by kernel_rfl
theorem ac6:okF Qn Try.f150=true:=by kernel_rfl
theorem ac7:okF Qo Try.f151=true:=by kernel_rfl
theorem ac8:okF Qp Try.f152=true:=by kernel_rfl
theorem ac9:okF Qq Try.f153=true:=by kernel_rfl
theorem ada:okF Qr Try.f154=true:=by kernel_rfl
theorem adb:okF Qs Try.f155=true:=by kernel_rfl
theorem ade:okF Qu Try.f156=true:=by kernel_rfl
theorem adf:okF Qv Try.f158=true:=by kernel_rfl
theorem adg:okF Qw Try.f159=true:=by kernel_rfl
theorem adh:okF Qx Try.f160=true:=by kernel_rfl
theorem adi:okF Qy Try.f163=true:=by kernel_rfl
theorem adk:okF Qz Try.f164=true:=by kernel_rfl
theorem adl:okF QA Try.f165=true:=by kernel_rfl
theorem adm:okF QB Try.f182=true:=by kernel_rfl
theorem adn:okF QC Try.f191=true:=by kernel_rfl
theorem ado:okF QD Try.f192=true:=by kernel_rfl
theorem adp:okF QE Try.f193=true:=by kernel_rfl
theorem adq:okF QF Try.f197=true:=by kernel_rfl
theorem adr:okF QG Try.f206=true:=by kernel_rfl
theorem abk {n:Int} (h:(Lit.int .u8 n).wf=true):0≤n∧n≤255:=by
 have e1:IntKind.u8.max=255:=by decide
 have e2:IntKind.u8.min=0:=by decide
 simp [Lit.wf] at h
 omega
theorem mixed:Try.prog.follows .mixedOrders=true:=by kernel_rfl
open Go.Shelf in
shelf_lay_g SlLaysM.n5 Slgm 5 at Try 72 as Try.laysS
theorem XW (blk off cap:Nat) (zs:List Int) (w:World) (h1:Go.Sort.Holds (Value.int .i64) w blk off zs.toArray) (h2:blk<w.heap.size) (h3:zs.length<4611686018427387904):
 Calls Try.prog 72 #[.slice (some ⟨blk,off,none⟩) zs.length cap] w fun e w'=>e= .returned (.tuple #[])∧∃n os,w'=Go.Sort.grow (Go.Sort.putRow (Value.int .i64) (Go.Sort.ahead w n) blk off (sortL zs).toArray) os:=
 AnyM.slices_Sort_int Try.laysS blk off cap zs w h1 h2 h3
theorem Ti (p:Option Addr) (cap:Nat) (w:World):Calls Try.prog 72 #[.slice p 0 cap] w fun e w'=>e= .returned (.tuple #[])∧w'=w:=AnyM.slices_Sort_int_none Try.laysS p cap w
open Go.Shelf in
shelf_lay_g SlLaysE.n43 Slgn 43 at Try 120 as Try.laysC
theorem Pm (blk off cap:Nat) (zs:List Int) (w:World) (h1:Go.Sort.Holds (Value.int .i64) w blk off zs.toArray) (h2:zs.length≤9223372036854775807) (h3:zs.length≤cap):
 Calls Try.prog 120 #[.slice (some ⟨blk,off,none⟩) zs.length cap] w fun e w'=>e= .returned (.slice (some ⟨blk,off,none⟩) (cmpL zs).length cap)∧∃n,w'=Go.Sort.putRow (Value.int .i64) (Go.Sort.ahead w n) blk off (cmpL zs++List.replicate (zs.length - (cmpL zs).length) 0).toArray:=by
 have h:=AnyE.slices_Compact Try.laysC (Value.int .i64) (fun _=>rfl) (EqlAt.intD _ _ .i64) (NeqAt.intD _ _ .i64) 0 Try.zeroValue2 blk off cap zs.toArray w h1 (by simpa using h2) (by simpa using h3)
 rw [VP] at h
 simp only [List.size_toArray] at h
 exact h
theorem Mc (p:Option Addr) (w:World):Calls Try.prog 120 #[.slice p 0 0] w fun e w'=>e= .returned (.slice p 0 0)∧∃n,w'={w with drawn:=n}:=L9 Try.laysC p w
theorem abl [Lim]:PO Try.prog cfg:=by
 refine RZ mixed ?_ fun f g hg=>?_
 ·unfold ons
  simp only [List.forall_mem_cons]
  exact ⟨⟨_,Try.func5,g5⟩,⟨_,Try.func22,g22⟩,⟨_,Try.func23,g23⟩,⟨_,Try.func24,g24⟩,⟨_,Try.func25,g25⟩,⟨_,Try.func26,g26⟩,⟨_,Try.func27,g27⟩,⟨_,Try.func28,g28⟩,⟨_,Try.func29,g29⟩,⟨_,Try.func39,g39⟩,⟨_,Try.func42,g42⟩,⟨_,Try.func43,g43⟩,⟨_,Try.func45,g45⟩,⟨_,Try.func49,g49⟩,⟨_,Try.func60,g60⟩,⟨_,Try.func61,g61⟩,⟨_,Try.func62,g62⟩,⟨_,Try.func63,g63⟩,⟨_,Try.func64,g64⟩,⟨_,Try.func65,g65⟩,⟨_,Try.func66,g66⟩,⟨_,Try.func67,g67⟩,⟨_,Try.func68,g68⟩,⟨_,Try.func83,g83⟩,⟨_,Try.func90,g90⟩,⟨_,Try.func91,g91⟩,⟨_,Try.func92,g92⟩,⟨_,Try.func93,g93⟩,⟨_,Try.func94,g94⟩,⟨_,Try.func95,g95⟩,⟨_,Try.func97,g97⟩,⟨_,Try.func99,g99⟩,⟨_,Try.func100,acS⟩,⟨_,Try.func101,acT⟩,⟨_,Try.func102,acU⟩,⟨_,Try.func106,acV⟩,⟨_,Try.func107,acW⟩,⟨_,Try.func115,acX⟩,⟨_,Try.func116,acY⟩,⟨_,Try.func117,acZ⟩,⟨_,Try.func118,ac0⟩,⟨_,Try.func121,ac1⟩,⟨_,Try.func129,ac2⟩,⟨_,Try.func135,ac3⟩,⟨_,Try.func137,ac4⟩,⟨_,Try.func149,ac5⟩,⟨_,Try.func150,ac6⟩,⟨_,Try.func151,ac7⟩,⟨_,Try.func152,ac8⟩,⟨_,Try.func153,ac9⟩,⟨_,Try.func154,ada⟩,⟨_,Try.func155,adb⟩,⟨_,Try.func156,ade⟩,⟨_,Try.func158,adf⟩,⟨_,Try.func159,adg⟩,⟨_,Try.func160,adh⟩,⟨_,Try.func163,adi⟩,⟨_,Try.func164,adk⟩,⟨_,Try.func165,adl⟩,⟨_,Try.func182,adm⟩,⟨_,Try.func191,adn⟩,⟨_,Try.func192,ado⟩,⟨_,Try.func193,adp⟩,⟨_,Try.func197,adq⟩,⟨_,Try.func206,adr⟩,fun _ h=>by cases h⟩
 rcases EW hg with ⟨rfl,h⟩ | hg
 ·cases h
  exact RY (cfg:=cfg) (fn:=Try.f119) mixed Try.func119 rfl rfl rfl rfl Em iq rfl xI rfl rfl aaC rfl
 rcases EW hg with ⟨rfl,h⟩ | hg
 ·cases h
  exact UL (cfg:=cfg) XW Ti ⟨_,Try.func72,rfl,rfl⟩
 rcases EW hg with ⟨rfl,h⟩ | hg
 ·cases h
  exact NF (cfg:=cfg) Pm Mc ⟨_,Try.func120,rfl,rfl⟩
 cases hg
theorem laid:laidOutB Try.prog=true:=by kernel_rfl
theorem rowed:mapsRowed Try.prog=true:=by kernel_rfl
theorem sized:xO Try.prog=true:=by kernel_rfl
namespace fnSpecies
theorem own:ownKnob Try.prog.godebug=none:=by kernel_rfl
theorem lifted (os:Os) (started:os.Started) (H:Type) (enc:TypeId×Value→H):
 ReturnsInHanded {} Try.checked os 5 .any (Rows.fnSpeciesSpec.pre6 enc Try.prog Try.f5 Rows.fnSpeciesRow.domain false) (Rows.fnSpeciesSpec.post enc Try.prog Try.f5 false true false false):=by
 refine returnsInHanded_of_change_sized (C:=Try.checked) own started (by kernel_rfl) Try.func5
  (ChangeSpec.witness6 (enc:=enc) (C:=Try.checked) false ⟨#[],#[.slice none 0 0,.slice none 0 0],[]⟩ 8 (by kernel_rfl) (by kernel_rfl) (by kernel_rfl) (by kernel_rfl)) ?_
 intro W base args ds gs before hval0 hW hcnd hsz0 _
 have hval:∀(j:Nat) t v,Try.f5.params[j]?=some t→args[j]?=some v→Value.okWide Try.prog W .any base t v:=hval0
 have hW':=hW
 obtain ⟨p,q,hA0,hV,rfl,hfz,hnd⟩:=hW
 have hA:DataW.TrodAll enc Try.prog W 0 (fun _=>true) true Try.f5.params.toList args.toList ds p:=hA0
 rw [Try.params5] at hA hval
 obtain ⟨v0,vs0,d0,ds0,p0,q0,hargs0,rfl,rfl,h0,r0⟩:=ChangeShapes.trodAll_cons hA
 clear hA0
 obtain ⟨v1,vs1,d1,ds1,p1,q1,hargs1,rfl,rfl,h1,r1⟩:=ChangeShapes.trodAll_cons r0
 obtain ⟨rfl,rfl,rfl⟩:=ChangeShapes.trodAll_nil r1
 subst hargs1
 obtain rfl:args=#[v0,v1]:=by cases args;simp_all
 obtain ⟨rfl,rfl⟩:=ChangeShapes.trodVars_none hV
 obtain ⟨a0,k0,w0⟩:=P6 (tt:=2) (FU (e:=5) (sz:=1) (ee:=(eK .u8)) Try.underlying22 (by kernel_rfl) (by decide) (fun _=>rfl) (fun _=>rfl) (JV Try.underlying5)) (by rw [Try.underlying22]) (hval 0 22 v0 rfl rfl) h0
 obtain ⟨a1,k1,w1⟩:=P6 (tt:=2) (FU (e:=5) (sz:=1) (ee:=(eK .u8)) Try.underlying22 (by kernel_rfl) (by decide) (fun _=>rfl) (fun _=>rfl) (JV Try.underlying5)) (by rw [Try.underlying22]) (hval 1 22 v1 rfl rfl) h1
 refine (UF abl (Fv (NZ a0 a1 (fun x hx=>abk (w0.1 x hx)) (fun x hx=>abk (w1.1 x hx)))) (show CB _ _ _ [v0,v1] from (.cons k0 (.cons k1 .nil)))).mono fun e W' ⟨he,hio,_,hb⟩=>?_
 exact ⟨_,he,UG Try.underlying4 rfl rfl hW' rfl (kids_rows laid rowed) sized (by decide) hio hb⟩
theorem ads {a b:Bool} (h1:a=true) (h2:b=true):(a&&b)=true:=by rw [h1,h2];rfl
set_option maxHeartbeats 4000000 in
theorem closed:joinedFacts Try.prog 5 Try.f5 Rows.fnSpeciesSpec Rows.fnSpeciesRow=true:=by
 unfold joinedFacts
 repeat' with_reducible refine ads ?_ ?_
 all_goals (as_aux_lemma=>kernel_rfl)
theorem over:Rows.fnSpeciesRow.holds Try.pinned (OpenSpec.ofChange Rows.fnSpeciesSpec):=
 OpenClaim.holds_of_wide 5 Try.f5 rfl rfl rfl rfl rfl rfl rfl ⟨rfl,rfl,rfl,rfl,rfl⟩ rfl rfl rfl rfl rfl (by kernel_rfl) Try.func5 closed
  (of_decide_eq_true (by kernel_rfl)) (by unfold Func.isWrapper;first | (rw [if_pos (by decide+kernel)];kernel_rfl) | (rw [if_neg (by decide+kernel)];exact ⟨rfl,rfl⟩))
  (fun os started H enc _=>lifted os started H enc)
theorem proved:Rows.FnSpeciesSaid:=over
#print axioms proved
end fnSpecies
theorem fnSpecies_holds:Rows.FnSpeciesSaid:=fnSpecies.proved
end Go.Proofs.Ytdibfdcmbjaejaa
