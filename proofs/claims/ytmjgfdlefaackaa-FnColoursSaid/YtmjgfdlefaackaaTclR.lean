/- FnColours: whatever the arguments, the law answers true, and the arguments read as they did. Conditions: none beyond those of the row. -/
import Derived.Test.YtmjgfdlefaackaaRows
import Derived.Test.YtmjgfdlefaackaaTclL
import Derived.Test.YtmjgfdlefaackaaTclP
import Derived.Test.YtmjgfdlefaackaaSimRx
import Derived.Shelf.SlGeneric
import Derived.Ground.SlgmProg
import Derived.Ground.SlgnProg
import Derived.WalkKit
import Derived.ProofKit
import Derived.OpenShut
import Derived.ShutString
import Derived.ChangeOld
import Derived.Below
import Derived.SizedLaws
namespace Go.Proofs.Ytmjgfdlefaackaa
open Go Go.Sim Go.Pw Go.Proofs
set_option linter.unusedVariables false
set_option maxRecDepth 100000
theorem g3:okF fc3 Try.f3=true:=by kernel_rfl
theorem g4:okF fc4 Try.f4=true:=by kernel_rfl
theorem g5:okF fc5 Try.f5=true:=by kernel_rfl
theorem g6:okF fc6 Try.f6=true:=by kernel_rfl
theorem g7:okF fc7 Try.f7=true:=by kernel_rfl
theorem g8:okF fc8 Try.f8=true:=by kernel_rfl
theorem g9:okF fc9 Try.f9=true:=by kernel_rfl
theorem g10:okF Qp Try.f10=true:=by kernel_rfl
theorem g11:okF Qq Try.f11=true:=by kernel_rfl
theorem g12:okF Qr Try.f12=true:=by kernel_rfl
theorem g13:okF Qs Try.f13=true:=by kernel_rfl
theorem g14:okF Qu Try.f14=true:=by kernel_rfl
theorem g15:okF Qv Try.f15=true:=by kernel_rfl
theorem g16:okF Qw Try.f16=true:=by kernel_rfl
theorem g17:okF Qx Try.f17=true:=by kernel_rfl
theorem g18:okF Qy Try.f18=true:=by kernel_rfl
theorem g19:okF Qz Try.f19=true:=by kernel_rfl
theorem g20:okF QA Try.f20=true:=by kernel_rfl
theorem g21:okF QB Try.f21=true:=by kernel_rfl
theorem g22:okF QC Try.f22=true:=by kernel_rfl
theorem g23:okF QD Try.f23=true:=by kernel_rfl
theorem g24:okF QE Try.f24=true:=by kernel_rfl
theorem g25:okF QF Try.f25=true:=by kernel_rfl
theorem g26:okF QG Try.f26=true:=by kernel_rfl
theorem g27:okF QH Try.f27=true:=by kernel_rfl
theorem g28:okF QI Try.f28=true:=by kernel_rfl
theorem g29:okF QJ Try.f29=true:=by kernel_rfl
theorem g30:okF QK Try.f30=true:=by kernel_rfl
theorem g31:okF QL Try.f31=true:=by kernel_rfl
theorem g32:okF QM Try.f32=true:=by kernel_rfl
theorem g33:okF QN Try.f33=true:=by kernel_rfl
theorem g34:okF QO Try.f34=true:=by kernel_rfl
theorem g37:okF QS Try.f37=true:=by kernel_rfl
theorem g38:okF QT Try.f38=true:=by kernel_rfl
theorem g40:okF QU Try.f40=true:=by kernel_rfl
theorem g41:okF QV Try.f41=true:=by kernel_rfl
theorem g42:okF QW Try.f42=true:=by kernel_rfl
theorem g43:okF QX Try.f43=true:=by kernel_rfl
theorem g44:okF QY Try.f44=true:=by kernel_rfl
theorem g45:okF QZ Try.f45=true:=by kernel_rfl
theorem g46:okF Q3 Try.f46=true:=by kernel_rfl
theorem g49:okF Q4 Try.f49=true:=by kernel_rfl
theorem VN {n:Int} (h:(Lit.int .u8 n).wf=true):0≤n∧n≤255:=by
 have e1:IntKind.u8.max=255:=by decide
 have e2:IntKind.u8.min=0:=by decide
 simp [Lit.wf] at h
 omega
theorem mixed:Try.prog.follows .mixedOrders=true:=by kernel_rfl
open Go.Shelf in
shelf_lay_g SlLaysM.n5 Slgm 5 at Try 35 as Try.laysS
theorem RN (blk off cap:Nat) (zs:List Int) (w:World) (h1:Go.Sort.Holds (Value.int .i64) w blk off zs.toArray) (h2:blk<w.heap.size) (h3:zs.length<4611686018427387904):
 Calls Try.prog 35 #[.slice (some ⟨blk,off,none⟩) zs.length cap] w fun e w'=>e= .returned (.tuple #[])∧∃n os,w'=Go.Sort.grow (Go.Sort.putRow (Value.int .i64) (Go.Sort.ahead w n) blk off (sortL zs).toArray) os:=
 AnyM.slices_Sort_int Try.laysS blk off cap zs w h1 h2 h3
theorem MO (p:Option Addr) (cap:Nat) (w:World):Calls Try.prog 35 #[.slice p 0 cap] w fun e w'=>e= .returned (.tuple #[])∧w'=w:=AnyM.slices_Sort_int_none Try.laysS p cap w
open Go.Shelf in
shelf_lay_g SlLaysE.n43 Slgn 43 at Try 36 as Try.laysC
theorem JX (blk off cap:Nat) (zs:List Int) (w:World) (h1:Go.Sort.Holds (Value.int .i64) w blk off zs.toArray) (h2:zs.length≤9223372036854775807) (h3:zs.length≤cap):
 Calls Try.prog 36 #[.slice (some ⟨blk,off,none⟩) zs.length cap] w fun e w'=>e= .returned (.slice (some ⟨blk,off,none⟩) (cmpL zs).length cap)∧∃n,w'=Go.Sort.putRow (Value.int .i64) (Go.Sort.ahead w n) blk off (cmpL zs++List.replicate (zs.length - (cmpL zs).length) 0).toArray:=by
 have h:=AnyE.slices_Compact Try.laysC (Value.int .i64) (fun _=>rfl) (EqlAt.intD _ _ .i64) (NeqAt.intD _ _ .i64) 0 Try.zeroValue2 blk off cap zs.toArray w h1 (by simpa using h2) (by simpa using h3)
 rw [PI] at h
 simp only [List.size_toArray] at h
 exact h
theorem GV (p:Option Addr) (w:World):Calls Try.prog 36 #[.slice p 0 0] w fun e w'=>e= .returned (.slice p 0 0)∧∃n,w'={w with drawn:=n}:=GU Try.laysC p w
theorem VO [Lim]:Kw Try.prog cfg:=by
 refine Mc mixed ?_ fun f g hg=>?_
 ·unfold ons
  simp only [List.forall_mem_cons]
  exact ⟨⟨_,Try.func3,g3⟩,⟨_,Try.func4,g4⟩,⟨_,Try.func5,g5⟩,⟨_,Try.func6,g6⟩,⟨_,Try.func7,g7⟩,⟨_,Try.func8,g8⟩,⟨_,Try.func9,g9⟩,⟨_,Try.func10,g10⟩,⟨_,Try.func11,g11⟩,⟨_,Try.func12,g12⟩,⟨_,Try.func13,g13⟩,⟨_,Try.func14,g14⟩,⟨_,Try.func15,g15⟩,⟨_,Try.func16,g16⟩,⟨_,Try.func17,g17⟩,⟨_,Try.func18,g18⟩,⟨_,Try.func19,g19⟩,⟨_,Try.func20,g20⟩,⟨_,Try.func21,g21⟩,⟨_,Try.func22,g22⟩,⟨_,Try.func23,g23⟩,⟨_,Try.func24,g24⟩,⟨_,Try.func25,g25⟩,⟨_,Try.func26,g26⟩,⟨_,Try.func27,g27⟩,⟨_,Try.func28,g28⟩,⟨_,Try.func29,g29⟩,⟨_,Try.func30,g30⟩,⟨_,Try.func31,g31⟩,⟨_,Try.func32,g32⟩,⟨_,Try.func33,g33⟩,⟨_,Try.func34,g34⟩,⟨_,Try.func37,g37⟩,⟨_,Try.func38,g38⟩,⟨_,Try.func40,g40⟩,⟨_,Try.func41,g41⟩,⟨_,Try.func42,g42⟩,⟨_,Try.func43,g43⟩,⟨_,Try.func44,g44⟩,⟨_,Try.func45,g45⟩,⟨_,Try.func46,g46⟩,⟨_,Try.func49,g49⟩,fun _ h=>by cases h⟩
 rcases Az hg with ⟨rfl,h⟩ | hg
 ·cases h
  exact L9 (cfg:=cfg) (fn:=Try.f39) mixed Try.func39 rfl rfl rfl rfl AP cu rfl jH rfl rfl Xh rfl
 rcases Az hg with ⟨rfl,h⟩ | hg
 ·cases h
  exact OC (cfg:=cfg) RN MO ⟨_,Try.func35,rfl,rfl⟩
 rcases Az hg with ⟨rfl,h⟩ | hg
 ·cases h
  exact IG (cfg:=cfg) JX GV ⟨_,Try.func36,rfl,rfl⟩
 cases hg
theorem laid:laidOutB Try.prog=true:=by kernel_rfl
theorem rowed:mapsRowed Try.prog=true:=by kernel_rfl
theorem sized:uu Try.prog=true:=by kernel_rfl
namespace fnColours
theorem own:ownKnob Try.prog.godebug=none:=by kernel_rfl
theorem lifted (os:Os) (started:os.Started) (H:Type) (enc:TypeId×Value→H):
 ReturnsInHanded {} Try.checked os 3 .any (Rows.fnColoursSpec.pre6 enc Try.prog Try.f3 Rows.fnColoursRow.domain false) (Rows.fnColoursSpec.post enc Try.prog Try.f3 false true false false):=by
 refine returnsInHanded_of_change_sized (C:=Try.checked) own started (by kernel_rfl) Try.func3
  (ChangeSpec.witness6 (enc:=enc) (C:=Try.checked) false ⟨#[],#[.slice none 0 0,.slice none 0 0],[]⟩ 8 (by kernel_rfl) (by kernel_rfl) (by kernel_rfl) (by kernel_rfl)) ?_
 intro W base args ds gs before hval0 hW hcnd hsz0 _
 have hval:∀(j:Nat) t v,Try.f3.params[j]?=some t→args[j]?=some v→Value.okWide Try.prog W .any base t v:=hval0
 have hW':=hW
 obtain ⟨p,q,hA0,hV,rfl,hfz,hnd⟩:=hW
 have hA:DataW.TrodAll enc Try.prog W 0 (fun _=>true) true Try.f3.params.toList args.toList ds p:=hA0
 rw [Try.params3] at hA hval
 obtain ⟨v0,vs0,d0,ds0,p0,q0,hargs0,rfl,rfl,h0,r0⟩:=ChangeShapes.trodAll_cons hA
 clear hA0
 obtain ⟨v1,vs1,d1,ds1,p1,q1,hargs1,rfl,rfl,h1,r1⟩:=ChangeShapes.trodAll_cons r0
 obtain ⟨rfl,rfl,rfl⟩:=ChangeShapes.trodAll_nil r1
 subst hargs1
 obtain rfl:args=#[v0,v1]:=by cases args;simp_all
 obtain ⟨rfl,rfl⟩:=ChangeShapes.trodVars_none hV
 obtain ⟨a0,k0,w0⟩:=KE (tt:=2) (BD (e:=5) (sz:=1) (ee:=(eK .u8)) Try.underlying22 (by kernel_rfl) (by decide) (fun _=>rfl) (fun _=>rfl) (Fh Try.underlying5)) (by rw [Try.underlying22]) (hval 0 22 v0 rfl rfl) h0
 obtain ⟨a1,k1,w1⟩:=KE (tt:=2) (BD (e:=5) (sz:=1) (ee:=(eK .u8)) Try.underlying22 (by kernel_rfl) (by decide) (fun _=>rfl) (fun _=>rfl) (Fh Try.underlying5)) (by rw [Try.underlying22]) (hval 1 22 v1 rfl rfl) h1
 refine (Ox VO (A7 (IY a0 a1 (fun x hx=>VN (w0.1 x hx)) (fun x hx=>VN (w1.1 x hx)))) (show yw _ _ _ [v0,v1] from (.cons k0 (.cons k1 .nil)))).mono fun e W' ⟨he,hio,_,hb⟩=>?_
 exact ⟨_,he,Oy Try.underlying4 rfl rfl hW' rfl (kids_rows laid rowed) sized (by decide) hio hb⟩
theorem XO {a b:Bool} (h1:a=true) (h2:b=true):(a&&b)=true:=by rw [h1,h2];rfl
set_option maxHeartbeats 4000000 in
theorem closed:joinedFacts Try.prog 3 Try.f3 Rows.fnColoursSpec Rows.fnColoursRow=true:=by
 unfold joinedFacts
 repeat' with_reducible refine XO ?_ ?_
 all_goals (as_aux_lemma=>kernel_rfl)
theorem over:Rows.fnColoursRow.holds Try.pinned (OpenSpec.ofChange Rows.fnColoursSpec):=
 OpenClaim.holds_of_wide 3 Try.f3 rfl rfl rfl rfl rfl rfl rfl ⟨rfl,rfl,rfl,rfl,rfl⟩ rfl rfl rfl rfl rfl (by kernel_rfl) Try.func3 closed
  (of_decide_eq_true (by kernel_rfl)) (by unfold Func.isWrapper;first | (rw [if_pos (by decide+kernel)];kernel_rfl) | (rw [if_neg (by decide+kernel)];exact ⟨rfl,rfl⟩))
  (fun os started H enc _=>lifted os started H enc)
theorem proved:Rows.FnColoursSaid:=over
#print axioms proved
end fnColours
theorem fnColours_holds:Rows.FnColoursSaid:=fnColours.proved
end Go.Proofs.Ytmjgfdlefaackaa
