/- FnExactRoomText: whatever the arguments, the law answers true, and the arguments read as they did. Conditions: none beyond those of the row. -/
import Derived.Test.YthdegfgajfgggaaDoorRows
import Derived.Test.YthdegfgajfgggaaDoorTrtL
import Derived.Test.YthdegfgajfgggaaDoorTrtP
import Derived.Test.YthdegfgajfgggaaDoorSimRt
import Derived.Test.YthdegfgajfgggaaDoorCards
import Derived.Test.YthdegfgajfgggaaDoorTie
import Derived.Deep.DeepHandedRow
import Derived.Lib.LaidTab
import Derived.Shelf.Strconv.Itoa4
import Derived.Shelf.Lay
import Derived.Ground.NamesProg
import Derived.WalkKit
import Derived.ProofKit
import Derived.OpenShut
import Derived.ShutString
import Derived.ChangeOld
import Derived.Below
import Derived.SizedLaws
namespace Go.Proofs.YthdegfgajfgggaaDoor
open Go Go.Sim Go.Pw Go.Proofs
set_option linter.unusedVariables false
set_option maxRecDepth 100000
theorem g3:okF fc3 Tryd.f3=true:=by kernel_rfl
theorem g6:okF fc6 Tryd.f6=true:=by kernel_rfl
theorem g7:okF fc7 Tryd.f7=true:=by kernel_rfl
theorem g8:okF fc8 Tryd.f8=true:=by kernel_rfl
theorem g20:okF fc20 Tryd.f20=true:=by kernel_rfl
theorem g21:okF fc21 Tryd.f21=true:=by kernel_rfl
theorem g22:okF fc22 Tryd.f22=true:=by kernel_rfl
theorem g23:okF fc23 Tryd.f23=true:=by kernel_rfl
theorem g33:okF fc33 Tryd.f33=true:=by kernel_rfl
theorem g34:okF fc34 Tryd.f34=true:=by kernel_rfl
theorem g35:okF fc35 Tryd.f35=true:=by kernel_rfl
open Go.Shelf in
shelf_lay LaysM.n173 Nm 173 at Tryd as Tryd.lays173
theorem pow_at:Tryd.prog.globalNamed powName=some gpow:=by kernel_rfl
theorem fmt_at (n:Int) (h0:-9223372036854775808≤n) (h1:n≤9223372036854775807) (w:World) (ht:Go.Lib.TabIs Tryd.prog w powName .u64 Go.Lib.pow10Tab):
 Calls Tryd.prog 36 #[.int .i64 n,.int .i64 10] w fun e w'=>e= .returned (.string ⟨(Go.Lib.itoa n).toArray⟩)∧∃k os,w'=Go.Sort.grow (w.drewN k) os:=
 Go.Proofs.Any.strconv_FormatInt_10 Tryd.lays173 n h0 h1 w ht
theorem mixed:Tryd.prog.follows .mixedOrders=true:=by kernel_rfl
theorem cfgOK:CfgOK Tryd.prog cfg:=by
 refine cfgOK_ext mixed ?_ fun f g hg=>?_
 ·unfold ons
  simp only [List.forall_mem_cons]
  exact ⟨⟨_,Tryd.func3,g3⟩,⟨_,Tryd.func6,g6⟩,⟨_,Tryd.func7,g7⟩,⟨_,Tryd.func8,g8⟩,⟨_,Tryd.func20,g20⟩,⟨_,Tryd.func21,g21⟩,⟨_,Tryd.func22,g22⟩,⟨_,Tryd.func23,g23⟩,⟨_,Tryd.func33,g33⟩,⟨_,Tryd.func34,g34⟩,⟨_,Tryd.func35,g35⟩,fun _ h=>by cases h⟩
 rcases look_cons hg with ⟨rfl,h⟩ | hg
 ·cases h
  exact fmt_ext (cfg:=cfg) (g:=gpow) fmt_at pow_at (List.mem_singleton.2 rfl) ⟨_,Tryd.func36,rfl,rfl⟩
 cases hg
theorem laid:laidOutB Tryd.prog=true:=by kernel_rfl
theorem rowed:mapsRowed Tryd.prog=true:=by kernel_rfl
theorem sized:slicesSized Tryd.prog=true:=by kernel_rfl
def ok_S_Room (x:S_Room):Prop:=(Lit.int .i64 x.Width).wf=true∧(Lit.int .i64 x.Length).wf=true
theorem o23:Opens Tryd.prog 23 (fun x:S_Room=>(e_S_Room x).cells) ok_S_Room:=
 opens_map (fun p:Int×Int×Unit=>⟨p.1,p.2.1⟩)
  (opens_struct Tryd.underlying23 (by kernel_rfl) (opensF_cons (s:=1) (by kernel_rfl) rfl (opens_int Tryd.underlying2) (opensF_cons (s:=1) (by kernel_rfl) rfl (opens_int Tryd.underlying2) opensF_nil)))
  (fun _=>rfl) (fun _ h=>⟨h.1,h.2.1⟩)
namespace fnExactRoomText
theorem own:ownKnob Tryd.prog.godebug=none:=by kernel_rfl
theorem laid_tail {P:Program} {x:String×DataW Unit} {l:List (String×DataW Unit)} {w:World} (h:laidMet P (x::l) w):laidMet P l w:=by
 obtain ⟨ps,⟨g,t,cs,fuel,p,q,h1,h2,h3,h4,h5,rfl⟩,hn,hc⟩:=h
 exact ⟨q,h5,(List.nodup_append.1 hn).2.1,fun b off hm=>hc b off (List.mem_append_right _ hm)⟩
theorem gTab:Tryd.prog.globalNamed powName=some 0:=by kernel_rfl
theorem gTy:(Tryd.prog.globals[0]?).map (·.type)=some 93:=by kernel_rfl
theorem tabEq:(Rows.laid_internal_strconv_uint64pow10:DataW Unit)=Go.Lib.tabData .u64 Go.Lib.pow10Tab:=by kernel_rfl
theorem table {W:World} (h:laidMetH Tryd.prog Rows.fnExactRoomTextRow.laid W):Go.Lib.TabIs Tryd.prog W powName .u64 Go.Lib.pow10Tab:=by
 have h:laidMet Tryd.prog [("math/bits.deBruijn32tab",Rows.laid_math_bits_deBruijn32tab),("math/bits.deBruijn64tab",Rows.laid_math_bits_deBruijn64tab),(powName,Rows.laid_internal_strconv_uint64pow10)] W:=h
 have h:=laid_tail (laid_tail h)
 rw [tabEq] at h
 exact Go.Lib.tabIs_of_head (rest:=[]) gTab gTy Tryd.underlying93 Tryd.underlying73 (by kernel_rfl) (by kernel_rfl) h
theorem hgb {W:World} (h:laidMetH Tryd.prog Rows.fnExactRoomTextRow.laid W):∀p∈cfg.gb,p.1<W.heap.size∧∃arr T fr,W.heap[p.1]?=some (.cells arr T fr)∧p.2 arr:=by
 intro p hp
 have hp:p∈[(gpow,(·=powTab))]:=hp
 obtain rfl:=List.mem_singleton.1 hp
 have ht:(Tryd.prog.globalNamed powName).bind _=_:=table h
 rw [pow_at,Option.bind_some] at ht
 show gpow<W.heap.size∧∃arr T fr,W.heap[gpow]?=some (.cells arr T fr)∧arr=powTab
 cases e:W.heap[gpow]? with
 | none=>rw [e] at ht;cases ht
 | some x=>
  rw [e] at ht
  refine ⟨(Array.getElem?_eq_some_iff.1 e).1,?_⟩
  cases x with
  | cells cs T fr=>cases ht;exact ⟨_,T,fr,rfl,rfl⟩
  | _=>cases ht
theorem contract (H:Type) (enc:TypeId×Value→H) (W:World) (base:Nat) (args:Array Value) (ds gs:List (DataW H)) (before:List MemPlace)
 (hval0:∀(j:Nat) t v,Tryd.f3.params[j]?=some t→args[j]?=some v→Value.okWide Tryd.prog W .any base t v)
 (hW:DataW.Whole enc Tryd.prog Tryd.f3.params.toList Rows.fnExactRoomTextSpec.vars false W args.toList ds gs before) (hL:laidMetH Tryd.prog Rows.fnExactRoomTextRow.laid W):
 Calls Tryd.prog 3 args W fun e W'=>∃v,e= .returned v∧Rows.fnExactRoomTextSpec.post enc Tryd.prog Tryd.f3 false true false false W args v W':=by
 have hval:∀(j:Nat) t v,Tryd.f3.params[j]?=some t→args[j]?=some v→Value.okWide Tryd.prog W .any base t v:=hval0
 have hW':=hW
 obtain ⟨p,q,hA0,hV,rfl,hfz,hnd⟩:=hW
 have hA:DataW.TrodAll enc Tryd.prog W 0 (fun _=>true) true Tryd.f3.params.toList args.toList ds p:=hA0
 rw [Tryd.params3] at hA hval
 obtain ⟨v0,vs0,d0,ds0,p0,q0,hargs0,rfl,rfl,h0,r0⟩:=ChangeShapes.trodAll_cons hA
 obtain ⟨rfl,rfl,rfl⟩:=ChangeShapes.trodAll_nil r0
 obtain rfl:args=#[v0]:=by cases args;simp_all
 obtain ⟨rfl,rfl⟩:=ChangeShapes.trodVars_none hV
 obtain ⟨a0,k0,w0⟩:=arg_agg (tt:=2) o23 Tryd.underlying23 (hval 0 23 v0 rfl rfl) h0
 refine (rowCalls cfgOK (L_laws_FnExactRoomText (law_RoomText a0)) (show ArgVs _ _ _ [v0] from (.cons k0 .nil)) (hgb hL)).mono fun e W' ⟨he,hio,_,hb⟩=>?_
 exact ⟨_,he,row_post Tryd.underlying4 rfl rfl hW' rfl (kids_rows laid rowed) sized (by decide) hio hb⟩
def cellsD:DataW Unit→Array Value
 | .agg l=>(l.map fun | .lit (.int k n)=>Value.int k n | _=>undef).toArray
 | _=>#[]
def lay (d:DataW Unit):Obj→Obj
 | .cells _ t fr=> .cells (cellsD d) t fr
 | o=>o
noncomputable def laidWorld (os:Os):World:=
 {World.holding Tryd.prog os ⟨#[],#[],[]⟩ with heap:=(((World.holding Tryd.prog os ⟨#[],#[],[]⟩).heap.modify 0 (lay Rows.laid_internal_strconv_uint64pow10)).modify 2 (lay Rows.laid_math_bits_deBruijn32tab)).modify 3 (lay Rows.laid_math_bits_deBruijn64tab)}
theorem laid_met (os:Os):laidMet Tryd.prog Rows.fnExactRoomTextRow.laid ((laidWorld os).forCall (fun _ _=>0) ⟨#[],#[.agg #[.int .i64 0,.int .i64 0]],[]⟩).memory:=
 laidMet_of_run' 8 (by kernel_rfl) (by kernel_rfl)
theorem lifted (os:Os) (started:os.Started) (H:Type) (enc:TypeId×Value→H) (F:Stop.Interp):
 ReturnsInHanded {} Tryd.checked os 3 .any ((OpenSpec.ofChange Rows.fnExactRoomTextSpec).preRow enc Tryd.prog Tryd.f3 Rows.fnExactRoomTextRow.domain false Rows.fnExactRoomTextRow.laid) (((OpenSpec.ofChange Rows.fnExactRoomTextSpec).at F).post enc Tryd.prog Tryd.f3 false true false false):=by
 refine returnsInHanded_of_row (C:=Tryd.checked) (s:=OpenSpec.ofChange Rows.fnExactRoomTextSpec) own started (by kernel_rfl) Tryd.func3
  (witness_row_at (enc:=enc) (C:=Tryd.checked) false (laidWorld os) #[.agg #[.int .i64 0,.int .i64 0]] rfl (by kernel_rfl) (by kernel_rfl) (by kernel_rfl)
    (OpenSpec.preRow_of_cond 8 (show DataW.whole enc Tryd.prog ((laidWorld os).forCall (fun _ _=>0) ⟨#[],#[.agg #[.int .i64 0,.int .i64 0]],[]⟩).memory Tryd.f3.params.toList Rows.fnExactRoomTextSpec.vars false (#[.agg #[.int .i64 0,.int .i64 0]]:Array Value).toList 8=some ([.agg [.lit (.int .i64 0),.lit (.int .i64 0)]],[],[]) by kernel_rfl) (by kernel_rfl) (fun k hk=>by cases hk) (by kernel_rfl) (laid_met os))) ?_
 intro W base args ds gs before hval hW _ _ _ hL _ _
 exact contract H enc W base args ds gs before hval hW hL
theorem and2 {a b:Bool} (h1:a=true) (h2:b=true):(a&&b)=true:=by rw [h1,h2];rfl
theorem said:Rows.FnExactRoomTextSaid:=
 OpenClaim.holds_of_cond 3 Tryd.f3 rfl rfl rfl rfl rfl rfl rfl ⟨rfl,rfl,rfl,rfl,rfl⟩ rfl rfl rfl rfl rfl (by kernel_rfl) Tryd.func3 (by kernel_rfl)
  (of_decide_eq_true (by kernel_rfl)) (by unfold Func.isWrapper;first | (rw [if_pos (by decide+kernel)];kernel_rfl) | (rw [if_neg (by decide+kernel)];exact ⟨rfl,rfl⟩))
  (fun os started H enc _ F=>by rw [OpenClaim.pre_eq_preRow];exact lifted os started H enc F)
theorem plain (f:FuncId) (fn:Func) (hf:Tryd.pinned.checked.prog.funcNamed "loop.example/g00956/laws.FnExactRoomText"=some f) (hfn:Tryd.pinned.checked.prog.funcs[f]?=some fn):
 false=Tryd.pinned.checked.prog.looks []∧∀(j:Nat) t,fn.params[j]?=some t→Tryd.pinned.checked.prog.wantsStandIn t=false:=by
 obtain rfl:f=3:=Option.some.inj ((show Tryd.prog.funcNamed "loop.example/g00956/laws.FnExactRoomText"=some 3 by kernel_rfl).symm.trans hf)|>.symm
 obtain rfl:fn=Tryd.f3:=(Option.some.inj (Tryd.func3.symm.trans hfn)).symm
 refine ⟨by kernel_rfl,fun j t ht=>?_⟩
 rw [Tryd.params3] at ht
 have ht:=Array.mem_of_getElem? ht
 simp at ht
 obtain rfl:=ht
 exact (show Tryd.prog.wantsStandIn 23=false by kernel_rfl)
theorem card:Rows.FnExactRoomTextCardSaid:=
 Claim7.holds_tied_plain_at .later [] _ _ _ _ said (fun _ h=>by cases h) (by kernel_rfl) (fun _ h=>by cases h) fnExactRoomText_row_tie rfl ⟨rfl,rfl⟩ (by kernel_rfl) rfl plain (by kernel_rfl)
#print axioms card
end fnExactRoomText
theorem fnExactRoomText_holds:Rows.FnExactRoomTextCardSaid:=fnExactRoomText.card
end Go.Proofs.YthdegfgajfgggaaDoor
