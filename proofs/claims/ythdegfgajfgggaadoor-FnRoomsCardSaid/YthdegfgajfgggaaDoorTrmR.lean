/- FnRooms: whatever the arguments, the law answers true, and the arguments read as they did. Conditions: none beyond those of the row. -/
import Derived.Test.YthdegfgajfgggaaDoorRows
import Derived.Test.YthdegfgajfgggaaDoorTrmL
import Derived.Test.YthdegfgajfgggaaDoorTrmP
import Derived.Test.YthdegfgajfgggaaDoorSimRu
import Derived.Shelf.Strings.Cut
import Derived.Test.YthdegfgajfgggaaDoorCards
import Derived.Test.YthdegfgajfgggaaDoorTie
import Derived.Deep.DeepHandedRow
import Derived.Lib.LaidTab
import Derived.Shelf.Strconv.Itoa4
import Derived.Shelf.Lay
import Derived.Ground.NamesProg
import Derived.WalkKit
import Derived.ProofKit
import Derived.OpenShut
import Derived.ShutString
import Derived.ChangeOld
import Derived.Below
import Derived.SizedLaws
namespace Go.Proofs.YthdegfgajfgggaaDoor
open Go Go.Sim Go.Pw Go.Proofs
set_option linter.unusedVariables false
set_option maxRecDepth 100000
theorem g5:okF fc5 Tryd.f5=true:=by kernel_rfl
theorem g8:okF fc8 Tryd.f8=true:=by kernel_rfl
theorem g10:okF fc10 Tryd.f10=true:=by kernel_rfl
theorem g12:okF fc12 Tryd.f12=true:=by kernel_rfl
theorem g13:okF fc13 Tryd.f13=true:=by kernel_rfl
theorem g14:okF fc14 Tryd.f14=true:=by kernel_rfl
theorem g15:okF fc15 Tryd.f15=true:=by kernel_rfl
theorem g16:okF fc16 Tryd.f16=true:=by kernel_rfl
theorem g17:okF fc17 Tryd.f17=true:=by kernel_rfl
theorem g18:okF fc18 Tryd.f18=true:=by kernel_rfl
theorem g19:okF fc19 Tryd.f19=true:=by kernel_rfl
theorem g20:okF fc20 Tryd.f20=true:=by kernel_rfl
theorem g22:okF fc22 Tryd.f22=true:=by kernel_rfl
theorem g23:okF fc23 Tryd.f23=true:=by kernel_rfl
theorem g25:okF fc25 Tryd.f25=true:=by kernel_rfl
theorem g26:okF fc26 Tryd.f26=true:=by kernel_rfl
theorem g27:okF fc27 Tryd.f27=true:=by kernel_rfl
theorem g28:okF fc28 Tryd.f28=true:=by kernel_rfl
theorem g29:okF fc29 Tryd.f29=true:=by kernel_rfl
theorem g30:okF fc30 Tryd.f30=true:=by kernel_rfl
theorem g31:okF fc31 Tryd.f31=true:=by kernel_rfl
theorem g32:okF fc32 Tryd.f32=true:=by kernel_rfl
theorem g33:okF fc33 Tryd.f33=true:=by kernel_rfl
theorem g35:okF fc35 Tryd.f35=true:=by kernel_rfl
theorem g40:okF fc40 Tryd.f40=true:=by kernel_rfl
theorem g41:okF fc41 Tryd.f41=true:=by kernel_rfl
theorem g42:okF fc42 Tryd.f42=true:=by kernel_rfl
theorem g43:okF fc43 Tryd.f43=true:=by kernel_rfl
theorem g44:okF fc44 Tryd.f44=true:=by kernel_rfl
theorem g45:okF fc45 Tryd.f45=true:=by kernel_rfl
theorem g46:okF fc46 Tryd.f46=true:=by kernel_rfl
theorem g50:okF fc50 Tryd.f50=true:=by kernel_rfl
theorem g51:okF fc51 Tryd.f51=true:=by kernel_rfl
theorem g57:okF fc57 Tryd.f57=true:=by kernel_rfl
theorem wfu8 {n:Int} (h:(Lit.int .u8 n).wf=true):0≤n∧n≤255:=by
 have e1:IntKind.u8.max=255:=by decide
 have e2:IntKind.u8.min=0:=by decide
 simp [Lit.wf] at h
 omega
open Go.Shelf in
shelf_lay LaysM.n173 Nm 173 at Tryd as Tryd.lays173
theorem pow_at:Tryd.prog.globalNamed powName=some gpow:=by kernel_rfl
theorem fmt_at (n:Int) (h0:-9223372036854775808≤n) (h1:n≤9223372036854775807) (w:World) (ht:Go.Lib.TabIs Tryd.prog w powName .u64 Go.Lib.pow10Tab):
 Calls Tryd.prog 36 #[.int .i64 n,.int .i64 10] w fun e w'=>e= .returned (.string ⟨(Go.Lib.itoa n).toArray⟩)∧∃k os,w'=Go.Sort.grow (w.drewN k) os:=
 Go.Proofs.Any.strconv_FormatInt_10 Tryd.lays173 n h0 h1 w ht
open Go.Shelf in
shelf_lay LaysM.n145 Nm 145 at Tryd as Tryd.lays145
theorem max_at:gmax=1:=by kernel_rfl
theorem cut_at (s sep:ByteArray) (m:Int) (w:World) (hs:s.size<4294967281) (hm:w.cell? ⟨gmax,0,none⟩=some (.int .i64 m)):
 Calls Tryd.prog 39 #[.string s,.string sep] w fun e w'=>e= .returned (.tuple #[.string ⟨(Go.Lib.cut s.data.toList sep.data.toList).1.toArray⟩,.string ⟨(Go.Lib.cut s.data.toList sep.data.toList).2.1.toArray⟩,.bool (Go.Lib.cut s.data.toList sep.data.toList).2.2])∧∃n,w'=w.drewN n:=by
 rw [max_at] at hm
 exact Go.Proofs.Any.strings_Cut {Tryd.lays145 with} s sep m w hs hm
theorem max_is {W:World} (h:W.ShapedOpen Tryd.prog):gmax<W.heap.size∧∃arr T fr,W.heap[gmax]?=some (.cells arr T fr)∧isNum arr:=by
 obtain ⟨m,hm⟩:=Tryd.lays145.s1_3 W h
 have hm:W.cell? ⟨1,0,none⟩=some (.int .i64 m):=hm
 rw [max_at]
 unfold World.cell? at hm
 cases e:W.heap[1]? with
 | none=>simp [e] at hm
 | some x=>
  refine ⟨(Array.getElem?_eq_some_iff.1 e).1,?_⟩
  cases x with
  | cells cs T fr=>
   simp [e] at hm
   exact ⟨cs,T,fr,rfl,m,hm⟩
  | _=>simp [e] at hm
theorem mixed:Tryd.prog.follows .mixedOrders=true:=by kernel_rfl
theorem cfgOK:CfgOK Tryd.prog cfg:=by
 refine cfgOK_ext mixed ?_ fun f g hg=>?_
 ·unfold ons
  simp only [List.forall_mem_cons]
  exact ⟨⟨_,Tryd.func5,g5⟩,⟨_,Tryd.func8,g8⟩,⟨_,Tryd.func10,g10⟩,⟨_,Tryd.func12,g12⟩,⟨_,Tryd.func13,g13⟩,⟨_,Tryd.func14,g14⟩,⟨_,Tryd.func15,g15⟩,⟨_,Tryd.func16,g16⟩,⟨_,Tryd.func17,g17⟩,⟨_,Tryd.func18,g18⟩,⟨_,Tryd.func19,g19⟩,⟨_,Tryd.func20,g20⟩,⟨_,Tryd.func22,g22⟩,⟨_,Tryd.func23,g23⟩,⟨_,Tryd.func25,g25⟩,⟨_,Tryd.func26,g26⟩,⟨_,Tryd.func27,g27⟩,⟨_,Tryd.func28,g28⟩,⟨_,Tryd.func29,g29⟩,⟨_,Tryd.func30,g30⟩,⟨_,Tryd.func31,g31⟩,⟨_,Tryd.func32,g32⟩,⟨_,Tryd.func33,g33⟩,⟨_,Tryd.func35,g35⟩,⟨_,Tryd.func40,g40⟩,⟨_,Tryd.func41,g41⟩,⟨_,Tryd.func42,g42⟩,⟨_,Tryd.func43,g43⟩,⟨_,Tryd.func44,g44⟩,⟨_,Tryd.func45,g45⟩,⟨_,Tryd.func46,g46⟩,⟨_,Tryd.func50,g50⟩,⟨_,Tryd.func51,g51⟩,⟨_,Tryd.func57,g57⟩,fun _ h=>by cases h⟩
 rcases look_cons hg with ⟨rfl,h⟩ | hg
 ·cases h
  exact fmt_ext (cfg:=cfg) (g:=gpow) fmt_at pow_at List.mem_cons_self ⟨_,Tryd.func36,rfl,rfl⟩
 rcases look_cons hg with ⟨rfl,h⟩ | hg
 ·cases h
  exact cut_ext (cfg:=cfg) (g:=gmax) cut_at (List.mem_cons_of_mem _ (List.mem_singleton.2 rfl)) ⟨_,Tryd.func39,rfl,rfl⟩
 cases hg
theorem laid:laidOutB Tryd.prog=true:=by kernel_rfl
theorem rowed:mapsRowed Tryd.prog=true:=by kernel_rfl
theorem sized:slicesSized Tryd.prog=true:=by kernel_rfl
namespace fnRooms
theorem own:ownKnob Tryd.prog.godebug=none:=by kernel_rfl
theorem laid_tail {P:Program} {x:String×DataW Unit} {l:List (String×DataW Unit)} {w:World} (h:laidMet P (x::l) w):laidMet P l w:=by
 obtain ⟨ps,⟨g,t,cs,fuel,p,q,h1,h2,h3,h4,h5,rfl⟩,hn,hc⟩:=h
 exact ⟨q,h5,(List.nodup_append.1 hn).2.1,fun b off hm=>hc b off (List.mem_append_right _ hm)⟩
theorem gTab:Tryd.prog.globalNamed powName=some 0:=by kernel_rfl
theorem gTy:(Tryd.prog.globals[0]?).map (·.type)=some 93:=by kernel_rfl
theorem tabEq:(Rows.laid_internal_strconv_uint64pow10:DataW Unit)=Go.Lib.tabData .u64 Go.Lib.pow10Tab:=by kernel_rfl
theorem table {W:World} (h:laidMetH Tryd.prog Rows.fnRoomsRow.laid W):Go.Lib.TabIs Tryd.prog W powName .u64 Go.Lib.pow10Tab:=by
 have h:laidMet Tryd.prog [("math/bits.deBruijn32tab",Rows.laid_math_bits_deBruijn32tab),("math/bits.deBruijn64tab",Rows.laid_math_bits_deBruijn64tab),(powName,Rows.laid_internal_strconv_uint64pow10)] W:=h
 have h:=laid_tail (laid_tail h)
 rw [tabEq] at h
 exact Go.Lib.tabIs_of_head (rest:=[]) gTab gTy Tryd.underlying93 Tryd.underlying73 (by kernel_rfl) (by kernel_rfl) h
theorem hgb {W:World} (h:laidMetH Tryd.prog Rows.fnRoomsRow.laid W) (hsh:W.ShapedOpen Tryd.prog):∀p∈cfg.gb,p.1<W.heap.size∧∃arr T fr,W.heap[p.1]?=some (.cells arr T fr)∧p.2 arr:=by
 intro p hp
 have hp:p∈[(gpow,(·=powTab)),(gmax,isNum)]:=hp
 rcases List.mem_cons.1 hp with rfl | hp
 case inr=>
  obtain rfl:=List.mem_singleton.1 hp
  exact max_is hsh
 have ht:(Tryd.prog.globalNamed powName).bind _=_:=table h
 rw [pow_at,Option.bind_some] at ht
 show gpow<W.heap.size∧∃arr T fr,W.heap[gpow]?=some (.cells arr T fr)∧arr=powTab
 cases e:W.heap[gpow]? with
 | none=>rw [e] at ht;cases ht
 | some x=>
  rw [e] at ht
  refine ⟨(Array.getElem?_eq_some_iff.1 e).1,?_⟩
  cases x with
  | cells cs T fr=>cases ht;exact ⟨_,T,fr,rfl,rfl⟩
  | _=>cases ht
theorem contract (H:Type) (enc:TypeId×Value→H) (W:World) (base:Nat) (args:Array Value) (ds gs:List (DataW H)) (before:List MemPlace)
 (hval0:∀(j:Nat) t v,Tryd.f5.params[j]?=some t→args[j]?=some v→Value.okWide Tryd.prog W .any base t v)
 (hW:DataW.Whole enc Tryd.prog Tryd.f5.params.toList Rows.fnRoomsSpec.vars false W args.toList ds gs before) (hL:laidMetH Tryd.prog Rows.fnRoomsRow.laid W) (hsh:W.ShapedOpen Tryd.prog):
 Calls Tryd.prog 5 args W fun e W'=>∃v,e= .returned v∧Rows.fnRoomsSpec.post enc Tryd.prog Tryd.f5 false true false false W args v W':=by
 have hval:∀(j:Nat) t v,Tryd.f5.params[j]?=some t→args[j]?=some v→Value.okWide Tryd.prog W .any base t v:=hval0
 have hW':=hW
 obtain ⟨p,q,hA0,hV,rfl,hfz,hnd⟩:=hW
 have hA:DataW.TrodAll enc Tryd.prog W 0 (fun _=>true) true Tryd.f5.params.toList args.toList ds p:=hA0
 rw [Tryd.params5] at hA hval
 obtain ⟨v0,vs0,d0,ds0,p0,q0,hargs0,rfl,rfl,h0,r0⟩:=ChangeShapes.trodAll_cons hA
 clear hA0
 obtain ⟨v1,vs1,d1,ds1,p1,q1,hargs1,rfl,rfl,h1,r1⟩:=ChangeShapes.trodAll_cons r0
 obtain ⟨rfl,rfl,rfl⟩:=ChangeShapes.trodAll_nil r1
 subst hargs1
 obtain rfl:args=#[v0,v1]:=by cases args;simp_all
 obtain ⟨rfl,rfl⟩:=ChangeShapes.trodVars_none hV
 obtain ⟨a0,k0,w0⟩:=arg_one (tt:=2) (opens_slice (e:=5) (sz:=1) (ee:=(eK .u8)) Tryd.underlying32 (by kernel_rfl) (by decide) (fun _=>rfl) (fun _=>rfl) (opens_int Tryd.underlying5)) (by rw [Tryd.underlying32]) (hval 0 32 v0 rfl rfl) h0
 obtain ⟨a1,k1,w1⟩:=arg_one (tt:=2) (opens_slice (e:=5) (sz:=1) (ee:=(eK .u8)) Tryd.underlying32 (by kernel_rfl) (by decide) (fun _=>rfl) (fun _=>rfl) (opens_int Tryd.underlying5)) (by rw [Tryd.underlying32]) (hval 1 32 v1 rfl rfl) h1
 refine (rowCalls cfgOK (L_laws_FnRooms (law_Rooms a0 a1 (fun x hx=>wfu8 (w0.1 x hx)) (fun x hx=>wfu8 (w1.1 x hx)))) (show ArgVs _ _ _ [v0,v1] from (.cons k0 (.cons k1 .nil))) (hgb hL hsh)).mono fun e W' ⟨he,hio,_,hb⟩=>?_
 exact ⟨_,he,row_post Tryd.underlying4 rfl rfl hW' rfl (kids_rows laid rowed) sized (by decide) hio hb⟩
def cellsD:DataW Unit→Array Value
 | .agg l=>(l.map fun | .lit (.int k n)=>Value.int k n | _=>undef).toArray
 | _=>#[]
def lay (d:DataW Unit):Obj→Obj
 | .cells _ t fr=> .cells (cellsD d) t fr
 | o=>o
noncomputable def laidWorld (os:Os):World:=
 {World.holding Tryd.prog os ⟨#[],#[],[]⟩ with heap:=(((World.holding Tryd.prog os ⟨#[],#[],[]⟩).heap.modify 0 (lay Rows.laid_internal_strconv_uint64pow10)).modify 2 (lay Rows.laid_math_bits_deBruijn32tab)).modify 3 (lay Rows.laid_math_bits_deBruijn64tab)}
theorem laid_met (os:Os):laidMet Tryd.prog Rows.fnRoomsRow.laid ((laidWorld os).forCall (fun _ _=>0) ⟨#[],#[.slice none 0 0,.slice none 0 0],[]⟩).memory:=
 laidMet_of_run' 8 (by kernel_rfl) (by kernel_rfl)
theorem lifted (os:Os) (started:os.Started) (H:Type) (enc:TypeId×Value→H) (F:Stop.Interp):
 ReturnsInHanded {} Tryd.checked os 5 .any ((OpenSpec.ofChange Rows.fnRoomsSpec).preRow enc Tryd.prog Tryd.f5 Rows.fnRoomsRow.domain false Rows.fnRoomsRow.laid) (((OpenSpec.ofChange Rows.fnRoomsSpec).at F).post enc Tryd.prog Tryd.f5 false true false false):=by
 refine returnsInHanded_of_row (C:=Tryd.checked) (s:=OpenSpec.ofChange Rows.fnRoomsSpec) own started (by kernel_rfl) Tryd.func5
  (witness_row_at (enc:=enc) (C:=Tryd.checked) false (laidWorld os) #[.slice none 0 0,.slice none 0 0] rfl (by kernel_rfl) (by kernel_rfl) (by kernel_rfl)
    (OpenSpec.preRow_of_cond 8 (show DataW.whole enc Tryd.prog ((laidWorld os).forCall (fun _ _=>0) ⟨#[],#[.slice none 0 0,.slice none 0 0],[]⟩).memory Tryd.f5.params.toList Rows.fnRoomsSpec.vars false (#[.slice none 0 0,.slice none 0 0]:Array Value).toList 8=some ([.nil,.nil],[],[]) by kernel_rfl) (by kernel_rfl) (fun k hk=>by cases hk) (by kernel_rfl) (laid_met os))) ?_
 intro W base args ds gs before hval hW _ _ _ hL hsh _
 exact contract H enc W base args ds gs before hval hW hL hsh
theorem and2 {a b:Bool} (h1:a=true) (h2:b=true):(a&&b)=true:=by rw [h1,h2];rfl
theorem said:Rows.FnRoomsSaid:=
 OpenClaim.holds_of_cond 5 Tryd.f5 rfl rfl rfl rfl rfl rfl rfl ⟨rfl,rfl,rfl,rfl,rfl⟩ rfl rfl rfl rfl rfl (by kernel_rfl) Tryd.func5 (by kernel_rfl)
  (of_decide_eq_true (by kernel_rfl)) (by unfold Func.isWrapper;first | (rw [if_pos (by decide+kernel)];kernel_rfl) | (rw [if_neg (by decide+kernel)];exact ⟨rfl,rfl⟩))
  (fun os started H enc _ F=>by rw [OpenClaim.pre_eq_preRow];exact lifted os started H enc F)
theorem plain (f:FuncId) (fn:Func) (hf:Tryd.pinned.checked.prog.funcNamed "loop.example/g00956/laws.FnRooms"=some f) (hfn:Tryd.pinned.checked.prog.funcs[f]?=some fn):
 false=Tryd.pinned.checked.prog.looks []∧∀(j:Nat) t,fn.params[j]?=some t→Tryd.pinned.checked.prog.wantsStandIn t=false:=by
 obtain rfl:f=5:=Option.some.inj ((show Tryd.prog.funcNamed "loop.example/g00956/laws.FnRooms"=some 5 by kernel_rfl).symm.trans hf)|>.symm
 obtain rfl:fn=Tryd.f5:=(Option.some.inj (Tryd.func5.symm.trans hfn)).symm
 refine ⟨by kernel_rfl,fun j t ht=>?_⟩
 rw [Tryd.params5] at ht
 have ht:=Array.mem_of_getElem? ht
 simp at ht
 obtain rfl:=ht
 exact (show Tryd.prog.wantsStandIn 32=false by kernel_rfl)
theorem card:Rows.FnRoomsCardSaid:=
 Claim7.holds_tied_plain_at .later [] _ _ _ _ said (fun _ h=>by cases h) (by kernel_rfl) (fun _ h=>by cases h) fnRooms_row_tie rfl ⟨rfl,rfl⟩ (by kernel_rfl) rfl plain (by kernel_rfl)
#print axioms card
end fnRooms
theorem fnRooms_holds:Rows.FnRoomsCardSaid:=fnRooms.card
end Go.Proofs.YthdegfgajfgggaaDoor
