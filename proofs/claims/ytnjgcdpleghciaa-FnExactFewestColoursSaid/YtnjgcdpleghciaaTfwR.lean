/- FnExactFewestColours: whatever the arguments, the law answers true, and the arguments read as they did. Conditions: none beyond those of the row. -/
import Derived.Test.YtnjgcdpleghciaaRows
import Derived.Test.YtnjgcdpleghciaaTfwL
import Derived.Test.YtnjgcdpleghciaaTfwP
import Derived.Test.YtnjgcdpleghciaaSimRx
import Derived.Shelf.SlGeneric
import Derived.Ground.SlgmProg
import Derived.Ground.SlgnProg
import Derived.WalkKit
import Derived.ProofKit
import Derived.OpenShut
import Derived.ShutString
import Derived.ChangeOld
import Derived.Below
import Derived.SizedLaws
namespace Go.Proofs.Ytnjgcdpleghciaa
open Go Go.Sim Go.Pw Go.Proofs
set_option linter.unusedVariables false
set_option maxRecDepth 100000
theorem g3:okF fc3 Try.f3=true:=by kernel_rfl
theorem g9:okF fc9 Try.f9=true:=by kernel_rfl
theorem g10:okF aBb Try.f10=true:=by kernel_rfl
theorem g11:okF aBc Try.f11=true:=by kernel_rfl
theorem g12:okF aBd Try.f12=true:=by kernel_rfl
theorem g13:okF aBe Try.f13=true:=by kernel_rfl
theorem g14:okF aBf Try.f14=true:=by kernel_rfl
theorem g15:okF aBg Try.f15=true:=by kernel_rfl
theorem g16:okF aBh Try.f16=true:=by kernel_rfl
theorem g17:okF aBi Try.f17=true:=by kernel_rfl
theorem g51:okF aBj Try.f51=true:=by kernel_rfl
theorem g52:okF aBk Try.f52=true:=by kernel_rfl
theorem g53:okF aBl Try.f53=true:=by kernel_rfl
theorem g54:okF aBm Try.f54=true:=by kernel_rfl
theorem g55:okF aBn Try.f55=true:=by kernel_rfl
theorem g56:okF aBo Try.f56=true:=by kernel_rfl
theorem g57:okF aBp Try.f57=true:=by kernel_rfl
theorem g58:okF aBq Try.f58=true:=by kernel_rfl
theorem g59:okF aBr Try.f59=true:=by kernel_rfl
theorem g60:okF aBs Try.f60=true:=by kernel_rfl
theorem g61:okF aBt Try.f61=true:=by kernel_rfl
theorem g62:okF aBu Try.f62=true:=by kernel_rfl
theorem g98:okF aBv Try.f98=true:=by kernel_rfl
theorem g99:okF aBw Try.f99=true:=by kernel_rfl
theorem aF5:okF axY Try.f100=true:=by kernel_rfl
theorem aF6:okF axZ Try.f101=true:=by kernel_rfl
theorem aF7:okF ax0 Try.f102=true:=by kernel_rfl
theorem aF8:okF ax1 Try.f103=true:=by kernel_rfl
theorem aF9:okF ax2 Try.f104=true:=by kernel_rfl
theorem aGa:okF ax3 Try.f105=true:=by kernel_rfl
theorem aGb:okF ax4 Try.f106=true:=by kernel_rfl
theorem aGc:okF ax5 Try.f107=true:=by kernel_rfl
theorem aGd:okF ax6 Try.f108=true:=by kernel_rfl
theorem aGe:okF ax7 Try.f111=true:=by kernel_rfl
theorem aGf:okF ax8 Try.f112=true:=by kernel_rfl
theorem aGg:okF ax9 Try.f153=true:=by kernel_rfl
theorem aGh:okF aya Try.f154=true:=by kernel_rfl
theorem aGi:okF ayb Try.f155=true:=by kernel_rfl
theorem aGj:okF ayc Try.f157=true:=by kernel_rfl
theorem mixed:Try.prog.follows .mixedOrders=true:=by kernel_rfl
open Go.Shelf in
shelf_lay_g SlLaysM.n5 Slgm 5 at Try 109 as Try.laysS
theorem aB0 (blk off cap:Nat) (zs:List Int) (w:World) (h1:Go.Sort.Holds (Value.int .i64) w blk off zs.toArray) (h2:blk<w.heap.size) (h3:zs.length<4611686018427387904):
 Calls Try.prog 109 #[.slice (some ⟨blk,off,none⟩) zs.length cap] w fun e w'=>e= .returned (.tuple #[])∧∃n os,w'=Go.Sort.grow (Go.Sort.putRow (Value.int .i64) (Go.Sort.ahead w n) blk off (sortL zs).toArray) os:=
 AnyM.slices_Sort_int Try.laysS blk off cap zs w h1 h2 h3
theorem ay5 (p:Option Addr) (cap:Nat) (w:World):Calls Try.prog 109 #[.slice p 0 cap] w fun e w'=>e= .returned (.tuple #[])∧w'=w:=AnyM.slices_Sort_int_none Try.laysS p cap w
open Go.Shelf in
shelf_lay_g SlLaysE.n43 Slgn 43 at Try 110 as Try.laysC
theorem axE (blk off cap:Nat) (zs:List Int) (w:World) (h1:Go.Sort.Holds (Value.int .i64) w blk off zs.toArray) (h2:zs.length≤9223372036854775807) (h3:zs.length≤cap):
 Calls Try.prog 110 #[.slice (some ⟨blk,off,none⟩) zs.length cap] w fun e w'=>e= .returned (.slice (some ⟨blk,off,none⟩) (cmpL zs).length cap)∧∃n,w'=Go.Sort.putRow (Value.int .i64) (Go.Sort.ahead w n) blk off (cmpL zs++List.replicate (zs.length - (cmpL zs).length) 0).toArray:=by
 have h:=AnyE.slices_Compact Try.laysC (Value.int .i64) (fun _=>rfl) (EqlAt.intD _ _ .i64) (NeqAt.intD _ _ .i64) 0 Try.zeroValue2 blk off cap zs.toArray w h1 (by simpa using h2) (by simpa using h3)
 rw [aAy] at h
 simp only [List.size_toArray] at h
 exact h
theorem avz (p:Option Addr) (w:World):Calls Try.prog 110 #[.slice p 0 0] w fun e w'=>e= .returned (.slice p 0 0)∧∃n,w'={w with drawn:=n}:=avy Try.laysC p w
theorem aEA [Lim]:axT Try.prog cfg:=by
 refine ayP mixed ?_ fun f g hg=>?_
 ·unfold ons
  simp only [List.forall_mem_cons]
  exact ⟨⟨_,Try.func3,g3⟩,⟨_,Try.func9,g9⟩,⟨_,Try.func10,g10⟩,⟨_,Try.func11,g11⟩,⟨_,Try.func12,g12⟩,⟨_,Try.func13,g13⟩,⟨_,Try.func14,g14⟩,⟨_,Try.func15,g15⟩,⟨_,Try.func16,g16⟩,⟨_,Try.func17,g17⟩,⟨_,Try.func51,g51⟩,⟨_,Try.func52,g52⟩,⟨_,Try.func53,g53⟩,⟨_,Try.func54,g54⟩,⟨_,Try.func55,g55⟩,⟨_,Try.func56,g56⟩,⟨_,Try.func57,g57⟩,⟨_,Try.func58,g58⟩,⟨_,Try.func59,g59⟩,⟨_,Try.func60,g60⟩,⟨_,Try.func61,g61⟩,⟨_,Try.func62,g62⟩,⟨_,Try.func98,g98⟩,⟨_,Try.func99,g99⟩,⟨_,Try.func100,aF5⟩,⟨_,Try.func101,aF6⟩,⟨_,Try.func102,aF7⟩,⟨_,Try.func103,aF8⟩,⟨_,Try.func104,aF9⟩,⟨_,Try.func105,aGa⟩,⟨_,Try.func106,aGb⟩,⟨_,Try.func107,aGc⟩,⟨_,Try.func108,aGd⟩,⟨_,Try.func111,aGe⟩,⟨_,Try.func112,aGf⟩,⟨_,Try.func153,aGg⟩,⟨_,Try.func154,aGh⟩,⟨_,Try.func155,aGi⟩,⟨_,Try.func157,aGj⟩,fun _ h=>by cases h⟩
 rcases ar7 hg with ⟨rfl,h⟩ | hg
 ·cases h
  exact ayO (cfg:=cfg) (fn:=Try.f113) mixed Try.func113 rfl rfl rfl rfl apZ ajw rfl akP rfl rfl aEa rfl
 rcases ar7 hg with ⟨rfl,h⟩ | hg
 ·cases h
  exact aAb (cfg:=cfg) aB0 ay5 ⟨_,Try.func109,rfl,rfl⟩
 rcases ar7 hg with ⟨rfl,h⟩ | hg
 ·cases h
  exact awv (cfg:=cfg) axE avz ⟨_,Try.func110,rfl,rfl⟩
 cases hg
theorem laid:laidOutB Try.prog=true:=by kernel_rfl
theorem rowed:mapsRowed Try.prog=true:=by kernel_rfl
theorem sized:aoR Try.prog=true:=by kernel_rfl
def axF (x:aiE):Prop:=(Lit.int .i64 x.aku).wf=true∧(Lit.int .i64 x.High).wf=true∧((∀a∈x.Cells,(Lit.int .i64 a).wf=true)∧x.Cells.length≤maxLen)
theorem o24:aqO Try.prog 24 (fun x:aiE=>(ayR x).cells) axF:=
 ayM (fun p:Int×Int×(List Int)×Unit=>⟨p.1,p.2.1,p.2.2.1⟩)
  (avh Try.underlying24 (by kernel_rfl) (aql (s:=1) (by kernel_rfl) rfl (aqF Try.underlying2) (aql (s:=1) (by kernel_rfl) rfl (aqF Try.underlying2) (aql (s:=1) (by kernel_rfl) rfl (awq (e:=2) (sz:=1) (ee:=eI) Try.underlying22 (by kernel_rfl) (by decide) (fun _=>rfl) (fun _=>rfl) (aqF Try.underlying2)) axn))))
  (fun _=>rfl) (fun _ h=>⟨h.1,h.2.1,h.2.2.1⟩)
namespace fnExactFewestColours
theorem own:ownKnob Try.prog.godebug=none:=by kernel_rfl
theorem lifted (os:Os) (started:os.Started) (H:Type) (enc:TypeId×Value→H):
 ReturnsInHanded {} Try.checked os 3 .any (Rows.fnExactFewestColoursSpec.pre6 enc Try.prog Try.f3 Rows.fnExactFewestColoursRow.domain false) (Rows.fnExactFewestColoursSpec.post enc Try.prog Try.f3 false true false false):=by
 refine returnsInHanded_of_change_sized (C:=Try.checked) own started (by kernel_rfl) Try.func3
  (ChangeSpec.witness6 (enc:=enc) (C:=Try.checked) false ⟨#[],#[.agg #[.int .i64 0,.int .i64 0,.slice none 0 0],.int .i64 0],[]⟩ 8 (by kernel_rfl) (by kernel_rfl) (by kernel_rfl) (by kernel_rfl)) ?_
 intro W base args ds gs before hval0 hW hcnd hsz0 _
 have hval:∀(j:Nat) t v,Try.f3.params[j]?=some t→args[j]?=some v→Value.okWide Try.prog W .any base t v:=hval0
 have hW':=hW
 obtain ⟨p,q,hA0,hV,rfl,hfz,hnd⟩:=hW
 have hA:DataW.TrodAll enc Try.prog W 0 (fun _=>true) true Try.f3.params.toList args.toList ds p:=hA0
 rw [Try.params3] at hA hval
 obtain ⟨v0,vs0,d0,ds0,p0,q0,hargs0,rfl,rfl,h0,r0⟩:=ChangeShapes.trodAll_cons hA
 clear hA0
 obtain ⟨v1,vs1,d1,ds1,p1,q1,hargs1,rfl,rfl,h1,r1⟩:=ChangeShapes.trodAll_cons r0
 obtain ⟨rfl,rfl,rfl⟩:=ChangeShapes.trodAll_nil r1
 subst hargs1
 obtain rfl:args=#[v0,v1]:=by cases args;simp_all
 obtain ⟨rfl,rfl⟩:=ChangeShapes.trodVars_none hV
 obtain ⟨a0,k0,w0⟩:=aA7 (tt:=2) o24 Try.underlying24 (hval 0 24 v0 rfl rfl) h0
 obtain ⟨a1,k1,w1⟩:=aA6 (tt:=2) (aqF Try.underlying2) (by rw [Try.underlying2]) (hval 1 2 v1 rfl rfl) h1
 refine (az5 aEA (aoq (arN a0 a1 w0)) (show aqN _ _ _ [v0,v1] from (.cons k0 (.cons k1 .nil)))).mono fun e W' ⟨he,hio,_,hb⟩=>?_
 exact ⟨_,he,az6 Try.underlying4 rfl rfl hW' rfl (kids_rows laid rowed) sized (by decide) hio hb⟩
theorem aGk {a b:Bool} (h1:a=true) (h2:b=true):(a&&b)=true:=by rw [h1,h2];rfl
set_option maxHeartbeats 4000000 in
theorem closed:joinedFacts Try.prog 3 Try.f3 Rows.fnExactFewestColoursSpec Rows.fnExactFewestColoursRow=true:=by
 unfold joinedFacts
 repeat' with_reducible refine aGk ?_ ?_
 all_goals (as_aux_lemma=>kernel_rfl)
theorem over:Rows.fnExactFewestColoursRow.holds Try.pinned (OpenSpec.ofChange Rows.fnExactFewestColoursSpec):=
 OpenClaim.holds_of_wide 3 Try.f3 rfl rfl rfl rfl rfl rfl rfl ⟨rfl,rfl,rfl,rfl,rfl⟩ rfl rfl rfl rfl rfl (by kernel_rfl) Try.func3 closed
  (of_decide_eq_true (by kernel_rfl)) (by unfold Func.isWrapper;first | (rw [if_pos (by decide+kernel)];kernel_rfl) | (rw [if_neg (by decide+kernel)];exact ⟨rfl,rfl⟩))
  (fun os started H enc _=>lifted os started H enc)
theorem proved:Rows.FnExactFewestColoursSaid:=over
#print axioms proved
end fnExactFewestColours
theorem fnExactFewestColours_holds:Rows.FnExactFewestColoursSaid:=fnExactFewestColours.proved
end Go.Proofs.Ytnjgcdpleghciaa
