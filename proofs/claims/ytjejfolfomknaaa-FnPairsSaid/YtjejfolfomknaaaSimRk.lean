/- slices.Clone of scalars by a contract of its own: a nil row is asked for, and what is answered hangs on no address. Conditions: none. -/
import Derived.Test.YtjejfolfomknaaaSimRi
import Derived.Test.YtjejfolfomknaaaSimPx
namespace Go.Sim
variable [Lim]
open Go.Pw
set_option linter.unusedSimpArgs false
set_option linter.unusedVariables false
def okF (F:fB) (fn:Func):Bool:=!(fn.name=="runtime.NumGoroutine")&&(match fn.body with | some c=>jq F c | none=>true)
omit [Lim] in
theorem Ig {j:Nat}:∀{l:List (Nat×Bool)},look false l j=true→(j,true)∈l
 | [],h=>by cases h
 | (k,v)::l,h=>by
  simp only [look] at h
  cases hb:j.beq k with
  | true=>
   rw [hb] at h
   have:j=k:=Nat.eq_of_beq_eq_true hb
   simp only [cond_true] at h
   subst this h
   exact List.mem_cons_self ..
  | false=>
   rw [hb] at h
   exact List.mem_cons_of_mem _ (Ig h)
end Go.Sim
namespace Go.Sim
variable [Lim]
open Go.Pw
set_option linter.unusedSimpArgs false
set_option linter.unusedVariables false
section
variable {P:Program} {cfg:Cfg} {w:World} {f:FuncId} {aH:FuncId→List Arg→Option (Res×List Out)}
theorem MR {fn:Func} {args:List Arg} {res:Res} {outs:List Out} {W W1:Wit} {st1:St} {a':Act} {w':World} (hr1:Rel (bW w W fn.ntmps) st1 a' w' W1) (e:fin P cfg f fn args st1=some (res,outs)):
 a'.defers=[]∧∃v,(results fn a'.tmps).run P w'= .ok v w'∧∃v' n,Ending.returned v= .returned v'∧mM cfg f (bW w W n) args res outs w' v':=by
 unfold fin at e
 refine ⟨hr1.defers,?_⟩
 obtain ⟨⟨r,st2⟩,h2,e⟩:=Option.bind_eq_some_iff.1 e
 obtain ⟨outs',h3,e⟩:=Option.map_eq_some_iff.1 e
 cases e
 split at h2
 ·rename_i hsz
  have hsz:=beq_eq hsz
  obtain ⟨W2,us,k1,k2,k3,k4⟩:=Td hr1 h2
  obtain ⟨W3,l1,l2⟩:=uZ (cfg:=cfg) (f:=f) args (j:=0) k1.1
  have hlen:us.length=fn.results.size:=by
   rw [k3,List.length_zip];simp;omega
  refine ⟨zl us,FP hlen fun i x v hx hv=>?_,zl us,fn.ntmps,rfl,_,a',W3,us,l1.1,?_,rfl,h3⟩
  ·have hilt:i<fn.resultTypes.toList.length:=by
    rcases Nat.lt_or_ge i fn.results.toList.length with h' | h'
    ·simp at h' ⊢;omega
    ·rw [List.getElem?_eq_none h'] at hx;cases hx
   have hz:(fn.results.toList.zip fn.resultTypes.toList)[i]?=some (x,fn.resultTypes.toList[i]):=by
    rw [List.getElem?_zip_eq_some]
    exact ⟨hx,List.getElem?_eq_getElem hilt⟩
   exact k4 i _ v hz hv
  ·rcases k2 with ⟨o,ob,cs,v,q1,q2,q3,q4,q5,q6,q7,q8⟩ | k2
   ·refine .inl ⟨o,ob,cs,v,q1,q2,l2 o ob q6 q3,q4,q5,q6,q7,?_⟩
    rw [q8]
    obtain ⟨ob',m1,_,_,_,m5⟩:=l1.2.2.1 o ob q3
    rw [l2 o ob q6 q3] at m1;cases m1
    rw [(m5 rfl).2]
   ·exact .inr (k2.quiet l1)
 ·cases h2
omit [Lim] in
theorem JE {t el:TypeId} (hu:P.underlying t=some (.slice el)) (x:Option Addr) (l c:Nat):
 (Op.equal t (.slice x l c) (.slice none 0 0)).run P w= .ok x.isNone w:=by
 have:∀d,(Op.equalIn (d+1) t (.slice x l c) (.slice none 0 0)).run P w= .ok x.isNone w:=fun d=>by
  cases x with
  | none=>simp only [Op.equalIn,Sem.run_bind,aT hu,Result.andThen_ok,Sem.run_pure,Option.isNone_none]
  | some x=>simp only [Op.equalIn,Sem.run_bind,aT hu,Result.andThen_ok,Sem.run_pure,Option.isNone_some]
 exact this 9999
omit [Lim] in
theorem ng {nt n id:Nat} {ops:Array Oper} {st st':St} (hfc:cfg.fc f=⟨[],[],[],[],[],[],[]⟩) (he:evL P cfg f nt aH ops ops.toList st=some st'):
 aS P cfg aH f nt n (.region id ops false) st=some (.normal,st'):=by
 have hn:look none (cfg.fc f).inn id=none:=by rw [hfc];rfl
 have hn':look none (cfg.fc f).out id=none:=by rw [hfc];rfl
 have hsh:(cfg.fc f).shut=[]:=by rw [hfc]
 simp only [aS,hn,hn',St.qw,hsh,List.any_nil,St.shut]
 have:=EM (P:=P) (cfg:=cfg) (f:=f) (nt:=nt) aH ops ops.toList 0 st (fun i=>by simp)
 rw [←List.range_eq_range'] at this
 simp only [Array.length_toList] at this
 rw [this,he]
 rfl
def kG:FuncId→List Arg→Option (Res×List Out):=fun _ _=>none
theorem BF:FQ P cfg kG∧Enters P kG:=⟨(fun f args res outs e=>by cases e),(fun f args r e=>by cases e)⟩
theorem QX {fn:Func} {ty ty1 ty2 ty3 ty4 ty5 ty6 e sz b r0 r1 r2 r3:Nat} {q0 q1 q2 q3 q4 q5 q6 q7:String} {a0 a1 a2 a3 a4 a5 a6 a7:Array Edge} {ks:List (Option Nat)} {ag:Bool} {zs:List RV}
 (Au:P.follows .mixedOrders=true) (hf:P.funcs[f]?=some fn) (hnm:(fn.name=="runtime.NumGoroutine")=false) (hfc:cfg.fc f=⟨[],[],[],[],[],[],[]⟩)
 (hbody:fn.body=some (.seq (.region r0 #[⟨some 2,.assign (.const (.slice none 0 0)),ty,q0,a0,none⟩] false)
   (.seq (.seq (.region r1 #[⟨some 3,.move (.tmp 0),ty1,q1,a1,none⟩,⟨some 4,.binOp .eql ty (.tmp 3) (.const (.slice none 0 0)) ty2,ty3,q2,a2,none⟩] false)
     (.cond (.tmp 4) (.seq (.region r2 #[⟨some 2,.assign (.const (.slice none 0 0)),ty,q3,a3,none⟩] false) .ret) .skip))
   (.seq (.region r3 #[⟨some 5,.buildSlice ty 0 #[],ty4,q4,a4,none⟩,⟨some 6,.move (.tmp 0),ty5,q5,a5,none⟩,⟨some 7,.call ⟨.builtin .append,#[.tmp 5,.tmp 6],#[ty,ty]⟩,ty6,q6,a6,none⟩,⟨some 2,.assign (.tmp 7),ty,q7,a7,none⟩] false) .ret))))
 (hnt:fn.ntmps=8) (hE:pq P ty=some (e,sz)) (hS:jr P ty=some (e,sz,ks,ag,b,zs)) (hks:ks.any (·.isSome)=false) (hu:P.underlying ty=some (.slice e)) (hb:Nat.blt 0 b=true) (hz:Nat.blt 0 sz=true)
 (hR:fG P (fn.results.toList.zip fn.resultTypes.toList)=[(.tmp 2,[some sz],none)]) (hsz:fn.results.size.beq fn.resultTypes.size=true):
 Plain P f∧∀args res outs,yw sz b args=some (res,outs)→∀(w:World) (vs:List Value) (W:Wit),vs.length=args.length→BOK cfg.gb (bW w W 0)→(∀n,vs.length≤n→Rel (bW w W n) (entry args) (iq vs n) w W)→
  Calls P f vs.toArray w fun e w'=>∃v n,e= .returned v∧mM cfg f (bW w W n) args res outs w' v:=by
 refine ⟨⟨fn,hf,by rw [hbody];rfl,hnm⟩,fun args res outs hg w vs W hl hB hr=>?_⟩
 unfold yw at hg
 split at hg
 ·rename_i t sz' es
  split at hg
  ·rename_i hcond
   cases hg
   simp only [Bool.and_eq_true] at hcond
   obtain ⟨⟨hc1,hc2⟩,hc3⟩:=hcond
   obtain rfl:sz'=sz:=Nat.eq_of_beq_eq_true hc1
   have hroom:es.length*b≤140737488355328:=Nat.le_of_ble_eq_true hc3
   have hr0:=hr 8 (by rw [hl];simp)
   have hz':(cfg.fc f).frz=[]:=by rw [hfc]
   have ft:bP ks 0 []=0:=by unfold bP;rw [hks];rfl
   have ft2:∀t,bP ks t (es.map id)=0:=by
    intro t
    unfold bP
    rw [hks,List.map_id]
    simp only [cond_false,hc2,cond_true]
   have hap:apd b ([]:List AV) es=some es:=by
    unfold apd
    rw [if_pos (by simpa using hroom)]
    rfl
   let A0:List (Nat×SV):=[(0,.v false [.im t (.row sz' es)])]
   let B0:List (Nat×Option Obj):=[(0,none)]
   let A1:List (Nat×SV):=(2,.v false [.own 2 0 0])::A0
   let B1:List (Nat×Option Obj):=(2,some (qQ (0,0) false false [⟨.sh,0,.row sz' []⟩]))::B0
   let A2:List (Nat×SV):=(3,.v false [.im t (.row sz' es)])::A1
   let A3:Bool→List (Nat×SV):=fun v=>(4,.v false [.im 0 (.sc (.bool v))])::A2
   have ops:=Tv (cfg:=cfg) (BF (P:=P) (cfg:=cfg)).1 (BF (P:=P) (cfg:=cfg)).2 (bW w W 8) hB
   have e0:aS P cfg kG f 8 0 (.region r0 #[⟨some 2,.assign (.const (.slice none 0 0)),ty,q0,a0,none⟩] false) (mk A0 B0)=some (.normal,mk A1 B1):=
    ng hfc (sq hz' (Az rfl rfl hE) nl)
   have e2:∀v,∃st1,aS P cfg kG f 8 0 (.seq (.region r2 #[⟨some 2,.assign (.const (.slice none 0 0)),ty,q3,a3,none⟩] false) .ret) (mk (A3 v) B1)=some (.ret,st1)∧(es=[]→fin P cfg f fn [.im t false [.row sz' es]] st1=some ([(false,[.ow 0 sz' es])],[])):=by
    intro v
    have h1:aS P cfg kG f 8 0 (.region r2 #[⟨some 2,.assign (.const (.slice none 0 0)),ty,q3,a3,none⟩] false) (mk (A3 v) B1)=some (.normal,mk ((2,.v false [.own 2 (iI B1 2).2 0])::A3 v) ((2,some (qQ (iI B1 2) false false [⟨.sh,0,.row sz' []⟩]))::B1)):=ng hfc (sq hz' (Az rfl rfl hE) nl)
    refine ⟨mk ((2,.v false [.own 2 (iI B1 2).2 0])::A3 v) ((2,some (qQ (iI B1 2) false false [⟨.sh,0,.row sz' []⟩]))::B1),?_,fun hes=>?_⟩
    ·rw [aS,h1]
     rfl
    ·subst hes
     exact CW hsz hR rfl rfl
   have e3:∀v,∃st1,aS P cfg kG f 8 0 (.seq (.region r3 #[⟨some 5,.buildSlice ty 0 #[],ty4,q4,a4,none⟩,⟨some 6,.move (.tmp 0),ty5,q5,a5,none⟩,⟨some 7,.call ⟨.builtin .append,#[.tmp 5,.tmp 6],#[ty,ty]⟩,ty6,q6,a6,none⟩,⟨some 2,.assign (.tmp 7),ty,q7,a7,none⟩] false) .ret) (mk (A3 v) B1)=some (.ret,st1)∧fin P cfg f fn [.im t false [.row sz' es]] st1=some ([(false,[.ow 0 sz' es])],[]):=by
    intro v
    have h1:∃st1,evL P cfg f 8 kG #[⟨some 5,.buildSlice ty 0 #[],ty4,q4,a4,none⟩,⟨some 6,.move (.tmp 0),ty5,q5,a5,none⟩,⟨some 7,.call ⟨.builtin .append,#[.tmp 5,.tmp 6],#[ty,ty]⟩,ty6,q6,a6,none⟩,⟨some 2,.assign (.tmp 7),ty,q7,a7,none⟩]
     [⟨some 5,.buildSlice ty 0 #[],ty4,q4,a4,none⟩,⟨some 6,.move (.tmp 0),ty5,q5,a5,none⟩,⟨some 7,.call ⟨.builtin .append,#[.tmp 5,.tmp 6],#[ty,ty]⟩,ty6,q6,a6,none⟩,⟨some 2,.assign (.tmp 7),ty,q7,a7,none⟩] (mk (A3 v) B1)=some st1∧fin P cfg f fn [.im t false [.row sz' es]] st1=some ([(false,[.ow 0 sz' (es.map id)])],[]):=
     ⟨_,sq hz' (oBS rfl (es:=List.map id []) hS (by simp [hz]) pt0 ft)<|sq hz' (oMv rfl rfl)<|sq hz' (sO rfl (en:=id) (L:=[]) (M:=es) hap hb hS rfl rfl hu (.inl ⟨_,rfl⟩) rfl rfl rfl rfl (by rw [List.map_id es];exact TF) (ft2 t))<|sq hz' (kX rfl rfl rfl rfl rfl) nl,CW hsz hR rfl rfl⟩
    rw [List.map_id] at h1
    obtain ⟨st1,h2,h3⟩:=h1
    refine ⟨st1,?_,h3⟩
    rw [aS,ng hfc h2]
    rfl
   let Q:Exit→Act→World→Prop:=fun x a' w'=>x= .ret∧∃st1 W1,Rel (bW w W 8) st1 a' w' W1∧fin P cfg f fn [.im t false [.row sz' es]] st1=some ([(false,[.ow 0 sz' es])],[])
   have step:∀{c:Code} {st st':St} {a:Act} {w1:World} {W1:Wit} {R:Act→World→Prop},jq (cfg.fc f) c=true→Rel (bW w W 8) st a w1 W1→aS P cfg kG f 8 0 c st=some (.normal,st')→
    (∀a' w' W',Rel (bW w W 8) st' a' w' W'→R a' w')→c.wp P (Exit.then R Q) a w1:=by
    intro c st st' a w1 W1 R hg hrel he hR
    refine wp_mono (lu Au ops rfl c hg hrel he) fun x a' w' hx=>?_
    cases x with
    | normal=>obtain ⟨_,W2,h2⟩:=hx;exact hR _ _ _ h2
    | exit id=>obtain ⟨h1,_⟩:=hx;cases h1
    | ret=>obtain ⟨h1,_⟩:=hx;cases h1
    | _=>exact hx.elim
   have done:∀{c:Code} {st st':St} {a:Act} {w1:World} {W1:Wit},jq (cfg.fc f) c=true→Rel (bW w W 8) st a w1 W1→aS P cfg kG f 8 0 c st=some (.ret,st')→
    fin P cfg f fn [.im t false [.row sz' es]] st'=some ([(false,[.ow 0 sz' es])],[])→c.wp P Q a w1:=by
    intro c st st' a w1 W1 hg hrel he hfin
    refine wp_mono (lu Au ops rfl c hg hrel he) fun x a' w' hx=>?_
    cases x with
    | normal=>obtain ⟨h1,_⟩:=hx;cases h1
    | exit id=>obtain ⟨h1,_⟩:=hx;cases h1
    | ret=>obtain ⟨_,W2,h2⟩:=hx;exact ⟨rfl,st',W2,h2,hfin⟩
    | _=>exact hx.elim
   have hw:=wp_seq (step rfl hr0 e0 fun b1 w1 W1 h1=>by
    refine wp_seq (y:=(.seq (.region r3 #[⟨some 5,.buildSlice ty 0 #[],ty4,q4,a4,none⟩,⟨some 6,.move (.tmp 0),ty5,q5,a5,none⟩,⟨some 7,.call ⟨.builtin .append,#[.tmp 5,.tmp 6],#[ty,ty]⟩,ty6,q6,a6,none⟩,⟨some 2,.assign (.tmp 7),ty,q7,a7,none⟩] false) .ret)) (wp_seq (x:= .region r1 #[⟨some 3,.move (.tmp 0),ty1,q1,a1,none⟩,⟨some 4,.binOp .eql ty (.tmp 3) (.const (.slice none 0 0)) ty2,ty3,q2,a2,none⟩] false)
     (y:= .cond (.tmp 4) (.seq (.region r2 #[⟨some 2,.assign (.const (.slice none 0 0)),ty,q3,a3,none⟩] false) .ret) .skip) (wp_region ?_))
    show wpOps P _ _ [0,1] b1 w1
    rw [wpOps_cons]
    refine Gm (f:=f) (cfg:=cfg) (aH:=kG) (st':=mk A2 B1) ops rfl h1 ?_ _ _ fun b2 w2 W2 h2=>?_
    ·have e:aF P cfg kG 8 ⟨some 3,.move (.tmp 0),ty1,q1,a1,none⟩ (mk A1 B1)=some (mk A2 B1):=oMv rfl rfl
     have e':(#[⟨some 3,.move (.tmp 0),ty1,q1,a1,none⟩,⟨some 4,.binOp .eql ty (.tmp 3) (.const (.slice none 0 0)) ty2,ty3,q2,a2,none⟩]:Array Oper)[0]?=some ⟨some 3,.move (.tmp 0),ty1,q1,a1,none⟩:=rfl
     show kU P cfg kG f 8 _ 0 (mk A1 B1)=_
     unfold kU
     rw [e']
     simp only [e,Option.map_some,hz',List.any_nil,cond_false]
    ·rw [wpOps_cons]
     have hv:RR w2 W2 (mk A2 B1).L (.im t (.row sz' es)) (b2.eval (.tmp 3)):=bQ (h2.get (.tmp 3))
     obtain ⟨x,l,c,hval,hnil⟩:∃x l c,b2.eval (.tmp 3)= .slice x l c∧(x.isNone=true→es=[]):=by
      generalize b2.eval (.tmp 3)=v at hv
      cases hv with
      | dO _=>exact ⟨_,_,_,rfl,fun _=>rfl⟩
      | row _ _ _ _ _ _ _=>exact ⟨_,_,_,rfl,fun h=>by cases h⟩
     have hgood:Good P (bW w W 8) ⟨some 4,.binOp .eql ty (.tmp 3) (.const (.slice none 0 0)) ty2,ty3,q2,a2,none⟩ (mk (A3 x.isNone) B1) b2 w2:=by
      refine dW h2 rfl (u:= .bool x.isNone) ?_ (zS rfl) rfl
      have hg:(eqGuard .eql ty (.tmp 3) (.const (.slice none 0 0)) (.slice x l c) (.slice none 0 0)).run P w2= .ok () w2:=rfl
      have XC:(binOp .eql ty (.slice x l c) (.slice none 0 0)).run P w2= .ok (.bool x.isNone) w2:=DN rfl (JE hu x l c)
      have XD:b2.eval (.const (.slice none 0 0))= .slice none 0 0:=rfl
      simp [execOp,hval,XD,hg,XC]
     have e':(#[⟨some 3,.move (.tmp 0),ty1,q1,a1,none⟩,⟨some 4,.binOp .eql ty (.tmp 3) (.const (.slice none 0 0)) ty2,ty3,q2,a2,none⟩]:Array Oper)[1]?=some ⟨some 4,.binOp .eql ty (.tmp 3) (.const (.slice none 0 0)) ty2,ty3,q2,a2,none⟩:=rfl
     unfold wpOp
     rw [e']
     simp only
     rw [if_pos (by unfold Region.wanted;rfl)]
     refine .inl (hgood _ _ fun b3 w3 W3 h3=>?_)
     show (Code.cond (.tmp 4) (.seq (.region r2 #[⟨some 2,.assign (.const (.slice none 0 0)),ty,q3,a3,none⟩] false) .ret) .skip).wp P _ b3 w3
     have hb4:b3.eval (.tmp 4)= .bool x.isNone:=Ai (sv:=(mk (A3 x.isNone) B1).get (.tmp 4)) rfl (h3.get (.tmp 4))
     refine wp_cond hb4 ?_
     cases hxn:x.isNone with
     | true=>
      obtain ⟨st1,q1,q2⟩:=e2 true
      rw [hxn] at h3
      simp only [if_true]
      refine wp_mono (done rfl h3 q1 (q2 (hnil hxn))) fun y b4 w4 hq=>?_
      obtain ⟨rfl,h4⟩:=hq
      exact ⟨rfl,h4⟩
     | false=>
      obtain ⟨st1,q1,q2⟩:=e3 false
      rw [hxn] at h3
      simp only [Bool.false_eq_true,if_false]
      refine wp_skip ?_
      exact done rfl h3 q1 q2)
   have hw':∀{c:Code},c.wp P Q (iq vs 8) w→c.wp P Q {tmps:=vs.toArray++Array.replicate (fn.ntmps - vs.toArray.size) undef,defers:=[]} w:=by
    intro c h
    have hstart:iq vs 8={tmps:=vs.toArray++Array.replicate (8 - vs.toArray.size) undef,defers:=[]}:=by simp [iq]
    rw [hnt,←hstart]
    exact h
   refine calls_of_wp hf hbody (wp_mono (hw' hw) fun x a' w' hx=>?_)
   obtain ⟨rfl,st1,W1,h1,h2⟩:=hx
   exact MR (by rw [hnt];exact h1) h2
  ·cases hg
 ·cases hg
theorem QY {ons:List (Nat×Bool)} {fcs:List (Nat×fB)} {exts:List (Nat×Option (List Arg→Option (Res×List Out)))} {dps:List (Nat×Nat)} {gb:List (Nat×(Array Value→Prop))} {frs ufs:List (Nat×Nat)} (Au:P.follows .mixedOrders=true)
 (h:∀p∈ons,∃fn,P.funcs[p.1]?=some fn∧okF (look ⟨[],[],[],[],[],[],[]⟩ fcs p.1) fn=true)
 (he:∀f g,look none exts f=some g→Plain P f∧∀args res outs,g args=some (res,outs)→∀(w:World) (vs:List Value) (W:Wit),vs.length=args.length→BOK gb (bW w W 0)→(∀n,vs.length≤n→Rel (bW w W n) (entry args) (iq vs n) w W)→
   Calls P f vs.toArray w fun e w'=>∃v n,e= .returned v∧mM (TI ons fcs exts dps gb frs ufs) f (bW w W n) args res outs w' v):Pn P (TI ons fcs exts dps gb frs ufs) where
 mix:=Au
 code:=by
  intro f fn c hon hf hb
  obtain ⟨fn',h1,h2⟩:=h _ (Ig hon)
  have h1:P.funcs[f]?=some fn':=h1
  rw [hf] at h1;cases h1
  simp only [okF,hb,Bool.and_eq_true] at h2
  exact h2.2
 name:=by
  intro f fn hon hf
  obtain ⟨fn',h1,h2⟩:=h _ (Ig hon)
  have h1:P.funcs[f]?=some fn':=h1
  rw [hf] at h1;cases h1
  simp only [okF,Bool.and_eq_true] at h2
  simpa using h2.1
 ext:=he
omit [Lim] in
theorem EP {α:Type} {d:α} {k:Nat} {v x:α} {l:List (Nat×α)} {j:Nat} (h:look d ((k,v)::l) j=x):(j=k∧v=x)∨look d l j=x:=by
 simp only [look] at h
 cases hb:j.beq k with
 | true=>
  rw [hb] at h
  exact .inl ⟨Nat.eq_of_beq_eq_true hb,by simpa using h⟩
 | false=>
  rw [hb] at h
  exact .inr (by simpa using h)
end
end Go.Sim
